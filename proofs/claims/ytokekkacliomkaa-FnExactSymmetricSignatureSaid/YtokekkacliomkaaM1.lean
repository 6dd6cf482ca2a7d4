import Derived.Test.YtokekkacliomkaaP1
import Derived.Test.YtokekkacliomkaaE2
set_option linter.unusedVariables false
set_option linter.unusedSimpArgs false
section
set_option linter.unusedVariables false
set_option maxRecDepth 4000
namespace Go.Proofs.Ytokekkacliomkaa.AE
open Go Go.AE Go.Proofs
def gE.pl29 (F:Nat) :Nat->Int->Int->List Int->Int->Int->Option (Int×Int×List Int)
 | 0,_,_,_,_,_=>none
 | k+1,tH,qS,mT,Mw,yp=>(bif (decide (yp<Mw)) then ((ix mT (IntKind.i64.wrap ((IntKind.i64.wrap (yp * qS))+yp))).bind λn2=>(some (mT.set n2 1)).bind λl3=>gE.pl29 F k tH qS l3 Mw (IntKind.i64.wrap (yp+1))) else (some (tH,qS,mT)))
def gE.p (F:Nat) (aa:Int):Option (Int×Int×List Int):=(bD.p F aa aa).bind λr2=>gE.pl29 F F r2.1 r2.2.1 r2.2.2 aa 0
def EZ.p (F:Nat) (aV:List Int):Option (List Int):=apn ([]:List Int) aV
def yq.p (F:Nat) (aa:Int) (ac:Int) (ak:List Int):Option (Int×Int×List Int):=(EZ.p F ak).bind λr3=>some (aa,ac,r3)
def cu.pj9 (F:Nat) (E_:Int->Int->Int->Bool->Int->Int->List Int->Int->Int->Option (Int×Int×Bool)) (Wh:Int) (Wj:Int) (Wk:Int) (Wl:Bool) (Wm:Int) (Wn:Int) (cT:List Int) (Wo:Int) (Wp:Int):Option (Int×Int×Bool):=E_ Wh Wj Wk Wl Wm Wn cT Wo (IntKind.i64.wrap (Wp+1))
def cu.pj7 (F:Nat) (au:Int->Int->Int->Bool->Int->Int->List Int->Int->Option (Int×Int×Bool)) (Wq:Int) (Wr:Int) (Ws:Int) (Wt:Bool) (Wu:Int) (Wv:Int) (cT:List Int) (Ww:Int):Option (Int×Int×Bool):=au Wq Wr Ws Wt Wu Wv cT (IntKind.i64.wrap (Ww+1))
def cu.pj8 (F:Nat) (au:Int->Int->Int->Bool->Int->Int->List Int->Int->Option (Int×Int×Bool)) (Wx:Int) (Wy:Int) (Wz:Int) (WA:Bool) (WB:Int) (WC:Int) (cT:List Int) (WD:Int):Option (Int×Int×Bool):=cu.pj7 F au Wx Wy Wz WA WB WC cT WD
def cu.pl469 (F:Nat) (au:Int->Int->Int->Bool->Int->Int->List Int->Int->Option (Int×Int×Bool)):Nat->Int->Int->Int->Bool->Int->Int->List Int->Int->Int->Option (Int×Int×Bool)
 | 0,_,_,_,_,_,_,_,_,_=>none
 | k+1,tI,yr,ys,yt,tJ,lp,cT,lq,lr=>(bif (decide (lr<lp)) then ((ix cT (IntKind.i64.wrap ((IntKind.i64.wrap (lq * lp))+lr))).bind λn2=>(cn.p F (gt cT n2)).bind λr3=>(bif (r3 != 0) then ((bif (!yt) then (cu.pl469 F au k tI lq lr true tJ lp cT lq (IntKind.i64.wrap (lr+1))) else ((ix cT (IntKind.i64.wrap ((IntKind.i64.wrap (yr * lp))+ys))).bind λn7=>(cn.p F (gt cT n7)).bind λr8=>(bif (decide (r3<r8)) then (cu.pj9 F (cu.pl469 F au k) tI lq lr true tJ lp cT lq lr) else (cu.pj9 F (cu.pl469 F au k) tI yr ys yt tJ lp cT lq lr))))) else (cu.pl469 F au k tI yr ys yt tJ lp cT lq (IntKind.i64.wrap (lr+1))))) else (cu.pj8 F au tI yr ys yt tJ lp cT lq))
def cu.pj5 (F:Nat)  (WE:Int) (WG:Int) (WH:Bool):Option (Int×Int×Bool):=some (WE,WG,WH)
def cu.pl29 (F:Nat) :Nat->Int->Int->Int->Bool->Int->Int->List Int->Int->Option (Int×Int×Bool)
 | 0,_,_,_,_,_,_,_,_=>none
 | k+1,fk,da,Mx,My,Mz,WI,cT,MA=>(bif (decide (MA<Mz)) then (cu.pl469 F (cu.pl29 F k) F fk da Mx My Mz WI cT MA fk) else (cu.pj5 F da Mx My))
def cu.p (F:Nat) (dx:Int) (cN:Int) (dk:List Int) (bg:Int):Option (Int×Int×Bool):=cu.pl29 F F bg 0 0 false dx cN dk bg
def iR.pl7 (F:Nat) :Nat->Int->Int->Int->List Int->Int->Int->Option (List Int)
 | 0,_,_,_,_,_,_=>none
 | k+1,cV,eK,mU,gi,tK,jW=>(bif (decide (jW<tK)) then ((ix gi (IntKind.i64.wrap ((IntKind.i64.wrap (cV * mU))+jW))).bind λn2=>(ix gi (IntKind.i64.wrap ((IntKind.i64.wrap (eK * mU))+jW))).bind λn5=>(some (gi.set n2 (gt gi n5))).bind λl7=>(some (l7.set n5 (gt gi n2))).bind λl9=>iR.pl7 F k cV eK mU l9 tK (IntKind.i64.wrap (jW+1))) else (some gi))
def iR.p (F:Nat) (ac:Int) (ak:List Int) (aC:Int) (cp:Int):Option (List Int):=iR.pl7 F F aC cp ac ak ac 0
def iS.pl7 (F:Nat) :Nat->Int->Int->Int->List Int->Int->Int->Option (List Int)
 | 0,_,_,_,_,_,_=>none
 | k+1,cV,eK,mU,gi,tK,jW=>(bif (decide (jW<tK)) then ((ix gi (IntKind.i64.wrap ((IntKind.i64.wrap (jW * mU))+cV))).bind λn2=>(ix gi (IntKind.i64.wrap ((IntKind.i64.wrap (jW * mU))+eK))).bind λn5=>(some (gi.set n2 (gt gi n5))).bind λl7=>(some (l7.set n5 (gt gi n2))).bind λl9=>iS.pl7 F k cV eK mU l9 tK (IntKind.i64.wrap (jW+1))) else (some gi))
def iS.p (F:Nat) (aa:Int) (ac:Int) (ak:List Int) (aC:Int) (cp:Int):Option (List Int):=iS.pl7 F F aC cp ac ak aa 0
def gj.pl32747 (F:Nat) :Nat->List Int->Int->List Int->List Int->List Int->List Int->Int->Int->Int->Option (Bool×List Int×List Int×List Int×List Int×List Int)
 | 0,_,_,_,_,_,_,_,_,_=>none
 | k+1,aN,bc,aR,aO,aW,aX,Fa,MB,yu=>(bif (decide (yu<MB)) then ((ix aR (IntKind.i64.wrap ((IntKind.i64.wrap (yu * bc))+Fa))).bind λn2=>(ix aR (IntKind.i64.wrap ((IntKind.i64.wrap (yu * bc))+Fa))).bind λn5=>(some (aR.set n2 (IntKind.i64.wrap (0 - (gt aR n5))))).bind λl6=>gj.pl32747 F k aN bc l6 aO aW aX Fa MB (IntKind.i64.wrap (yu+1))) else (some (true,aN,aR,aO,aW,aX)))
def gj.pj3 (F:Nat)  (aN:List Int) (dG:Int) (bc:Int) (aR:List Int) (aO:List Int) (aW:List Int) (aX:List Int) (WJ:Int):Option (Bool×List Int×List Int×List Int×List Int×List Int):=gj.pl32747 F F aN bc aR aO aW aX WJ dG 0
def gj.p (F:Nat) (dr:Int) (dy:List Int) (lu:Int) (fl:Int) (fm:List Int) (dx:Int) (cN:Int) (dk:List Int) (fA:Int) (fB:Int) (fo:List Int) (fC:Int) (fp:List Int) (bg:Int):Option (Bool×List Int×List Int×List Int×List Int×List Int):=(cu.p F dx cN dk bg).bind λr3=>(bif (!r3.2.2) then (some (false,dy,fm,dk,fo,fp)) else ((iR.p F cN dk r3.1 bg).bind λr7=>(iR.p F dr dy r3.1 bg).bind λr10=>(iS.p F lu fl fm r3.1 bg).bind λr13=>(iS.p F dx cN r7 r3.2.1 bg).bind λr16=>(iS.p F fA fB fo r3.2.1 bg).bind λr19=>(iR.p F fC fp r3.2.1 bg).bind λr22=>(ix r16 (IntKind.i64.wrap ((IntKind.i64.wrap (bg * cN))+bg))).bind λn25=>(bif (decide ((gt r16 n25)<0)) then ((gv r16 (IntKind.i64.wrap (bg * cN)) (IntKind.i64.wrap ((IntKind.i64.wrap (bg+1)) * cN))).bind λx27=>(gv r10 (IntKind.i64.wrap (bg * dr)) (IntKind.i64.wrap ((IntKind.i64.wrap (bg+1)) * dr))).bind λx29=>(if r16.length+3<F/\r10.length+3<F/\r16.length+r10.length<=4294967296 then ((some (ki r16 ((IntKind.i64.wrap (bg * cN)):Int).toNat x27.length)).bind λl32=>(some (ki r10 ((IntKind.i64.wrap (bg * dr)):Int).toNat x29.length)).bind λl34=>gj.pj3 F l34 lu fl r13 l32 r19 r22 bg) else none)) else (some (true,r10,r13,r16,r19,r22)))))
def yw.p (F:Nat) (aa:Int) (aI:Int):Option (Int):=(if aI=0 then none else ((if aI=0 then none else ((bif (decide ((Int.tmod aa aI)<0)) then (some (IntKind.i64.wrap ((IntKind.i64.wrap (Int.tdiv aa aI)) - 1))) else (some (IntKind.i64.wrap (Int.tdiv aa aI))))))))
def yx.p (F:Nat) (aa:Int) (aI:Int) (di:Int):Option (Int×Bool):=(bif (aa != 0) then ((cn.p F aI).bind λr1=>(cn.p F aa).bind λr3=>(if r3=0 then none else ((bif (decide (r1>(IntKind.i64.wrap (Int.tdiv di r3)))) then (some (0,false)) else (some ((IntKind.i64.wrap (aa * aI)),true)))))) else (some ((IntKind.i64.wrap (aa * aI)),true)))
def fD.pl7 (F:Nat) :Nat->Bool->Int->Int->Int->Int->List Int->Int->Int->Option (Bool×List Int)
 | 0,_,_,_,_,_,_,_,_=>none
 | k+1,aJ,jX,jY,jZ,iT,gk,cX,gl=>(bif (decide (gl<cX)) then ((ix gk (IntKind.i64.wrap ((IntKind.i64.wrap (jX * iT))+gl))).bind λn2=>(ix gk (IntKind.i64.wrap ((IntKind.i64.wrap (jY * iT))+gl))).bind λn5=>(yx.p F (gt gk n5) jZ 2000000000000).bind λr6=>(some (gk.set n2 (IntKind.i64.wrap ((gt gk n2)+r6.1)))).bind λl9=>(bif (!r6.2) then ((some (l9.set n2 0)).bind λl12=>fD.pl7 F k true jX jY jZ iT l12 cX (IntKind.i64.wrap (gl+1))) else ((cn.p F (gt l9 n2)).bind λr16=>(bif (decide (r16>1000000000000)) then ((some (l9.set n2 0)).bind λl19=>fD.pl7 F k true jX jY jZ iT l19 cX (IntKind.i64.wrap (gl+1))) else (fD.pl7 F k aJ jX jY jZ iT l9 cX (IntKind.i64.wrap (gl+1))))))) else (some (aJ,gk)))
def fD.p (F:Nat) (aJ:Bool) (aC:Int) (iU:List Int) (j_:Int) (ka:Int) (jn:Int):Option (Bool×List Int):=fD.pl7 F F aJ j_ ka jn aC iU aC 0
def fE.pl7 (F:Nat) :Nat->Bool->Int->Int->Int->Int->List Int->Int->Int->Option (Bool×List Int)
 | 0,_,_,_,_,_,_,_,_=>none
 | k+1,aJ,jX,jY,jZ,iT,gk,cX,gl=>(bif (decide (gl<cX)) then ((ix gk (IntKind.i64.wrap ((IntKind.i64.wrap (gl * iT))+jX))).bind λn2=>(ix gk (IntKind.i64.wrap ((IntKind.i64.wrap (gl * iT))+jY))).bind λn5=>(yx.p F (gt gk n5) jZ 2000000000000).bind λr6=>(some (gk.set n2 (IntKind.i64.wrap ((gt gk n2)+r6.1)))).bind λl9=>(bif (!r6.2) then ((some (l9.set n2 0)).bind λl12=>fE.pl7 F k true jX jY jZ iT l12 cX (IntKind.i64.wrap (gl+1))) else ((cn.p F (gt l9 n2)).bind λr16=>(bif (decide (r16>1000000000000)) then ((some (l9.set n2 0)).bind λl19=>fE.pl7 F k true jX jY jZ iT l19 cX (IntKind.i64.wrap (gl+1))) else (fE.pl7 F k aJ jX jY jZ iT l9 cX (IntKind.i64.wrap (gl+1))))))) else (some (aJ,gk)))
def fE.p (F:Nat) (aJ:Bool) (bg:Int) (aC:Int) (iU:List Int) (j_:Int) (ka:Int) (jn:Int):Option (Bool×List Int):=fE.pl7 F F aJ j_ ka jn aC iU bg 0
def tL.p (F:Nat) (dr:Int) (dy:List Int) (lu:Int) (fl:Int) (fm:List Int) (cN:Int) (dk:List Int) (aJ:Bool) (bg:Int) (fq:Int) (eD:Int):Option (List Int×List Int×List Int×Bool):=(fD.p F aJ cN dk bg fq eD).bind λr2=>(fD.p F r2.1 dr dy bg fq eD).bind λr5=>(fE.p F r5.1 lu fl fm fq bg (IntKind.i64.wrap (0 - eD))).bind λr8=>some (r5.2,r8.2,r2.2,r8.1)
def Fb.p (F:Nat) (dx:Int) (cN:Int) (dk:List Int) (fA:Int) (fB:Int) (fo:List Int) (fC:Int) (fp:List Int) (aJ:Bool) (bg:Int) (fq:Int) (eD:Int):Option (List Int×List Int×List Int×Bool):=(fE.p F aJ dx cN dk bg fq eD).bind λr2=>(fE.p F r2.1 fA fB fo bg fq eD).bind λr5=>(fD.p F r5.1 fC fp fq bg (IntKind.i64.wrap (0 - eD))).bind λr8=>some (r2.2,r5.2,r8.2,r8.1)
def bQ.pj5 (F:Nat) (lw:Int->List Int->Int->Int->List Int->Int->Int->List Int->Int->Int->List Int->Int->List Int->Bool->Int->Int->Int->Int->Option (Bool×List Int×List Int×List Int×List Int×List Int)) (aK:Int) (aN:List Int) (dG:Int) (bc:Int) (aR:List Int) (bh:Int) (aU:Int) (aO:List Int) (bv:Int) (bw:Int) (aW:List Int) (bz:Int) (aX:List Int) (aJ:Bool) (WK:Int) (WL:Int) (WM:Int) (WN:Int):Option (Bool×List Int×List Int×List Int×List Int×List Int):=lw aK aN dG bc aR bh aU aO bv bw aW bz aX aJ WK WL WM (IntKind.i64.wrap (WN+1))
def bQ.pj3 (F:Nat) (WO:List Int->List Int->Int->Int->List Int->Int->Int->List Int->Int->List Int->Bool->Int->Int->Int->Option (Bool×List Int×List Int×List Int×List Int×List Int)) (aN:List Int) (aR:List Int) (bh:Int) (aU:Int) (aO:List Int) (bv:Int) (bw:Int) (aW:List Int) (bz:Int) (aX:List Int) (aJ:Bool) (WP:Int) (WQ:Int) (WR:Int):Option (Bool×List Int×List Int×List Int×List Int×List Int):=WO aN aR bh aU aO bv bw aW bz aX aJ WP WQ (IntKind.i64.wrap (WR+1))
def bQ.pl15 (F:Nat) :Nat->List Int->List Int->Int->Int->List Int->Int->Int->List Int->Int->List Int->Bool->Int->Int->Int->Option (Bool×List Int×List Int×List Int×List Int×List Int)
 | 0,_,_,_,_,_,_,_,_,_,_,_,_,_,_=>none
 | k+1,aN,aR,bh,aU,aO,bv,bw,aW,bz,aX,aJ,qT,tM,tN=>(bif (decide (tN<tM)) then ((bif (!aJ) then ((ix aO (IntKind.i64.wrap ((IntKind.i64.wrap (qT * tM))+tN))).bind λn2=>(ix aO (IntKind.i64.wrap ((IntKind.i64.wrap (qT * tM))+qT))).bind λn5=>(yw.p F (gt aO n2) (gt aO n5)).bind λr7=>(bif (r7 != 0) then ((Fb.p F bh aU aO bv bw aW bz aX aJ tN qT (IntKind.i64.wrap (0 - r7))).bind λr10=>bQ.pj3 F (bQ.pl15 F k) aN aR bh aU r10.1 bv bw r10.2.1 bz r10.2.2.1 r10.2.2.2 qT tM tN) else (bQ.pj3 F (bQ.pl15 F k) aN aR bh aU aO bv bw aW bz aX aJ qT tM tN))) else (some (aJ,aN,aR,aO,aW,aX)))) else (some (aJ,aN,aR,aO,aW,aX)))
def bQ.pj4 (F:Nat)  (aN:List Int) (aR:List Int) (bh:Int) (aU:Int) (aO:List Int) (bv:Int) (bw:Int) (aW:List Int) (bz:Int) (aX:List Int) (aJ:Bool) (MC:Int) (WS:Int):Option (Bool×List Int×List Int×List Int×List Int×List Int):=bQ.pl15 F F aN aR bh aU aO bv bw aW bz aX aJ MC WS (IntKind.i64.wrap (MC+1))
def bQ.pl13 (F:Nat) :Nat->Int->List Int->Int->Int->List Int->Int->Int->List Int->Int->Int->List Int->Int->List Int->Bool->Int->Int->Int->Int->Option (Bool×List Int×List Int×List Int×List Int×List Int)
 | 0,_,_,_,_,_,_,_,_,_,_,_,_,_,_,_,_,_,_=>none
 | k+1,aK,aN,dG,bc,aR,bh,aU,aO,bv,bw,aW,bz,aX,aJ,fk,qm,jM,tO=>(bif (decide (tO<qm)) then ((bif (!aJ) then ((ix aO (IntKind.i64.wrap ((IntKind.i64.wrap (tO * jM))+fk))).bind λn2=>(ix aO (IntKind.i64.wrap ((IntKind.i64.wrap (fk * jM))+fk))).bind λn5=>(yw.p F (gt aO n2) (gt aO n5)).bind λr7=>(bif (r7 != 0) then ((tL.p F aK aN dG bc aR aU aO aJ tO fk (IntKind.i64.wrap (0 - r7))).bind λr10=>bQ.pj5 F (bQ.pl13 F k) aK r10.1 dG bc r10.2.1 bh aU r10.2.2.1 bv bw aW bz aX r10.2.2.2 fk qm jM tO) else (bQ.pj5 F (bQ.pl13 F k) aK aN dG bc aR bh aU aO bv bw aW bz aX aJ fk qm jM tO))) else (bQ.pj4 F aN aR bh aU aO bv bw aW bz aX aJ fk jM))) else (bQ.pj4 F aN aR bh aU aO bv bw aW bz aX aJ fk jM))
def bQ.p (F:Nat) (dr:Int) (dy:List Int) (lu:Int) (fl:Int) (fm:List Int) (dx:Int) (cN:Int) (dk:List Int) (fA:Int) (fB:Int) (fo:List Int) (fC:Int) (fp:List Int) (aJ:Bool) (bg:Int):Option (Bool×List Int×List Int×List Int×List Int×List Int):=bQ.pl13 F F dr dy lu fl fm dx cN dk fA fB fo fC fp aJ bg dx cN (IntKind.i64.wrap (bg+1))
def MD.p (F:Nat) (aa:Int):Option (Bool):=some (aa != 0)
def lx.pl13 (F:Nat) :Nat->List Int->Int->Int->Option (Int)
 | 0,_,_,_=>none
 | k+1,ct,fy,dJ=>(bif (decide (dJ<fy)) then ((ix ct dJ).bind λn1=>(MD.p F (gt ct n1)).bind λr2=>(bif r2 then (some dJ) else (lx.pl13 F k ct fy (IntKind.i64.wrap (dJ+1))))) else (some (-1)))
def lx.p (F:Nat) (aV:List Int):Option (Int):=lx.pl13 F F aV (aV.length:Int) 0
def ME.p (F:Nat) (aV:List Int):Option (Bool):=(lx.p F aV).bind λr1=>some (decide (r1>=0))
def gm.pj1 (F:Nat)  (MF:Int) (WT:Int) (cT:List Int):Option (Bool):=(cW.p F WT cT MF).bind λr1=>(cutf r1 (IntKind.i64.wrap (MF+1)) (r1.length:Int)).bind λl3=>(ME.p F l3).bind λr4=>some (!r4)
def gm.pl29 (F:Nat) :Nat->Int->Int->Int->List Int->Int->Option (Bool)
 | 0,_,_,_,_,_=>none
 | k+1,fk,MG,Fc,cT,jG=>(bif (decide (jG<MG)) then ((ix cT (IntKind.i64.wrap ((IntKind.i64.wrap (jG * Fc))+fk))).bind λn2=>(bif ((gt cT n2) != 0) then (some false) else (gm.pl29 F k fk MG Fc cT (IntKind.i64.wrap (jG+1))))) else (gm.pj1 F fk Fc cT))
def gm.p (F:Nat) (dx:Int) (cN:Int) (dk:List Int) (bg:Int):Option (Bool):=gm.pl29 F F bg dx cN dk (IntKind.i64.wrap (bg+1))
def MH.p (F:Nat) (aa:Int) (tP:Int) (mV:List Int) (MI:Int):Option (Bool):=(ix mV (IntKind.i64.wrap ((IntKind.i64.wrap (MI * tP))+MI))).bind λn2=>(if (gt mV n2)=0 then none else (some ((Int.tmod aa (gt mV n2)) != 0)))
def ly.pl13 (F:Nat) :Nat->List Int->Int->List Int->Int->Int->Int->Option (Int)
 | 0,_,_,_,_,_,_=>none
 | k+1,Fe,MJ,MK,MM,MN,yy=>(bif (decide (yy<MN)) then ((ix Fe yy).bind λn1=>(MH.p F (gt Fe n1) MJ MK MM).bind λr2=>(bif r2 then (some yy) else (ly.pl13 F k Fe MJ MK MM MN (IntKind.i64.wrap (yy+1))))) else (some (-1)))
def ly.p (F:Nat) (aV:List Int) (tP:Int) (mV:List Int) (Ff:Int):Option (Int):=ly.pl13 F F aV tP mV Ff (aV.length:Int) 0
def MO.p (F:Nat) (aV:List Int) (tP:Int) (mV:List Int) (Ff:Int):Option (Bool):=(ly.p F aV tP mV Ff).bind λr1=>some (decide (r1>=0))
def jo.pl29 (F:Nat) :Nat->Int->Int->Int->List Int->Int->Option (Int)
 | 0,_,_,_,_,_=>none
 | k+1,Fg,MP,Fh,cT,yz=>(bif (decide (yz<MP)) then ((cW.p F Fh cT yz).bind λr1=>(cutf r1 (IntKind.i64.wrap (Fg+1)) (r1.length:Int)).bind λl4=>(MO.p F l4 Fh cT Fg).bind λr6=>(bif r6 then (some yz) else (jo.pl29 F k Fg MP Fh cT (IntKind.i64.wrap (yz+1))))) else (some (-1)))
def jo.p (F:Nat) (dx:Int) (cN:Int) (dk:List Int) (bg:Int):Option (Int):=jo.pl29 F F bg dx cN dk (IntKind.i64.wrap (bg+1))
def ce.pj4 (F:Nat) (tQ:Int->List Int->Int->Int->List Int->Int->Int->List Int->Int->Int->List Int->Int->List Int->Bool->Int->Option (List Int×List Int×List Int×List Int×List Int×Bool)) (aK:Int) (aN:List Int) (dG:Int) (bc:Int) (aR:List Int) (bh:Int) (aU:Int) (aO:List Int) (bv:Int) (bw:Int) (aW:List Int) (bz:Int) (aX:List Int) (aJ:Bool) (WU:Int):Option (List Int×List Int×List Int×List Int×List Int×Bool):=tQ aK aN dG bc aR bh aU aO bv bw aW bz aX aJ WU
def ce.pj5 (F:Nat) (tQ:Int->List Int->Int->Int->List Int->Int->Int->List Int->Int->Int->List Int->Int->List Int->Bool->Int->Option (List Int×List Int×List Int×List Int×List Int×Bool)) (aK:Int) (aN:List Int) (dG:Int) (bc:Int) (aR:List Int) (bh:Int) (aU:Int) (aO:List Int) (bv:Int) (bw:Int) (aW:List Int) (bz:Int) (aX:List Int) (aJ:Bool) (WV:Int):Option (List Int×List Int×List Int×List Int×List Int×Bool):=tQ aK aN dG bc aR bh aU aO bv bw aW bz aX aJ WV
def ce.pj6 (F:Nat) (tQ:Int->List Int->Int->Int->List Int->Int->Int->List Int->Int->Int->List Int->Int->List Int->Bool->Int->Option (List Int×List Int×List Int×List Int×List Int×Bool)) (aK:Int) (aN:List Int) (dG:Int) (bc:Int) (aR:List Int) (bh:Int) (aU:Int) (aO:List Int) (bv:Int) (bw:Int) (aW:List Int) (bz:Int) (aX:List Int) (aJ:Bool) (WW:Int):Option (List Int×List Int×List Int×List Int×List Int×Bool):=ce.pj5 F tQ aK aN dG bc aR bh aU aO bv bw aW bz aX aJ WW
def ce.pl3 (F:Nat) :Nat->Int->List Int->Int->Int->List Int->Int->Int->List Int->Int->Int->List Int->Int->List Int->Bool->Int->Option (List Int×List Int×List Int×List Int×List Int×Bool)
 | 0,_,_,_,_,_,_,_,_,_,_,_,_,_,_,_=>none
 | k+1,aK,aN,dG,bc,aR,bh,aU,aO,bv,bw,aW,bz,aX,aJ,jp=>(bif (!aJ) then ((bif (decide (jp<(if aU<bh then aU else bh))) then ((gj.p F aK aN dG bc aR bh aU aO bv bw aW bz aX jp).bind λr1=>(bif (!r1.1) then (some (r1.2.1,r1.2.2.1,r1.2.2.2.1,r1.2.2.2.2.1,r1.2.2.2.2.2,aJ)) else ((bQ.p F aK r1.2.1 dG bc r1.2.2.1 bh aU r1.2.2.2.1 bv bw r1.2.2.2.2.1 bz r1.2.2.2.2.2 aJ jp).bind λr3=>(bif r3.1 then (ce.pj4 F (ce.pl3 F k) aK r3.2.1 dG bc r3.2.2.1 bh aU r3.2.2.2.1 bv bw r3.2.2.2.2.1 bz r3.2.2.2.2.2 r3.1 jp) else ((gm.p F bh aU r3.2.2.2.1 jp).bind λr7=>(bif (!r7) then (ce.pj4 F (ce.pl3 F k) aK r3.2.1 dG bc r3.2.2.1 bh aU r3.2.2.2.1 bv bw r3.2.2.2.2.1 bz r3.2.2.2.2.2 r3.1 jp) else ((jo.p F bh aU r3.2.2.2.1 jp).bind λr12=>(bif (decide (r12>=0)) then ((tL.p F aK r3.2.1 dG bc r3.2.2.1 aU r3.2.2.2.1 r3.1 jp r12 1).bind λr16=>ce.pj6 F (ce.pl3 F k) aK r16.1 dG bc r16.2.1 bh aU r16.2.2.1 bv bw r3.2.2.2.2.1 bz r3.2.2.2.2.2 r16.2.2.2 jp) else (ce.pj6 F (ce.pl3 F k) aK r3.2.1 dG bc r3.2.2.1 bh aU r3.2.2.2.1 bv bw r3.2.2.2.2.1 bz r3.2.2.2.2.2 r3.1 (IntKind.i64.wrap (jp+1))))))))))) else (some (aN,aR,aO,aW,aX,aJ)))) else (some (aN,aR,aO,aW,aX,aJ)))
def ce.p (F:Nat) (dr:Int) (dy:List Int) (lu:Int) (fl:Int) (fm:List Int) (dx:Int) (cN:Int) (dk:List Int) (fA:Int) (fB:Int) (fo:List Int) (fC:Int) (fp:List Int) (aJ:Bool):Option (List Int×List Int×List Int×List Int×List Int×Bool):=ce.pl3 F F dr dy lu fl fm dx cN dk fA fB fo fC fp aJ 0
def Fi.p (F:Nat) (aa:Int) (ac:Int) (ak:List Int):Option (Int×Int×List Int×Int×Int×List Int×Int×Int×List Int×Int×Int×List Int×Int×Int×List Int×Int):=(gE.p F aa).bind λr4=>(gE.p F aa).bind λr7=>(yq.p F aa ac ak).bind λr10=>(gE.p F ac).bind λr13=>(gE.p F ac).bind λr16=>(ce.p F r4.2.1 r4.2.2 r7.1 r7.2.1 r7.2.2 r10.1 r10.2.1 r10.2.2 r13.1 r13.2.1 r13.2.2 r16.2.1 r16.2.2 false).bind λr20=>(bif r20.2.2.2.2.2 then (some (0,0,([]:List Int),0,0,([]:List Int),0,0,([]:List Int),0,0,([]:List Int),0,0,([]:List Int),3)) else (some (r4.1,r4.2.1,r20.1,r7.1,r7.2.1,r20.2.1,r10.1,r10.2.1,r20.2.2.1,r13.1,r13.2.1,r20.2.2.2.1,r16.1,r16.2.1,r20.2.2.2.2.1,0)))
def Fj.p (F:Nat) (aa:Int) (aI:Int) (di:Int):Option (Int×Bool):=(bif (aa != 0) then ((cq.p F aI).bind λr1=>(cq.p F aa).bind λr3=>(if r3=0 then none else ((bif (decide (r1>(IntKind.i64.wrap (Int.tdiv di r3)))) then (some (0,false)) else (some ((IntKind.i64.wrap (aa * aI)),true)))))) else (some ((IntKind.i64.wrap (aa * aI)),true)))
def gF.pl29 (F:Nat) :Nat->Int->Int->Int->List Int->Int->Option (Int×Int×List Int)
 | 0,_,_,_,_,_=>none
 | k+1,Fk,tH,qS,mT,yA=>(bif (decide (yA<Fk)) then ((ix mT (IntKind.i64.wrap ((IntKind.i64.wrap (yA * Fk))+yA))).bind λn1=>(some (mT.set n1 1)).bind λl2=>gF.pl29 F k Fk tH qS l2 (IntKind.i64.wrap (yA+1))) else (some (tH,qS,mT)))
def gF.p (F:Nat) (aa:Int):Option (Int×Int×List Int):=(bS.p F aa aa).bind λr2=>gF.pl29 F F aa r2.1 r2.2.1 r2.2.2 0
def iV.pl7 (F:Nat) :Nat->Int->Int->Int->Int->List Int->Int->Option (List Int)
 | 0,_,_,_,_,_,_=>none
 | k+1,cb,d_,sf,eL,eM,db=>(bif (decide (db<sf)) then ((aE.p F eL eM db cb).bind λr2=>(aE.p F eL eM db d_).bind λr6=>(ix eM (IntKind.i64.wrap ((IntKind.i64.wrap (db * eL))+cb))).bind λn10=>(some (eM.set n10 r6)).bind λl11=>(ix l11 (IntKind.i64.wrap ((IntKind.i64.wrap (db * eL))+d_))).bind λn13=>(some (l11.set n13 r2)).bind λl14=>iV.pl7 F k cb d_ sf eL l14 (IntKind.i64.wrap (db+1))) else (some eM))
def iV.p (F:Nat) (aa:Int) (ac:Int) (ak:List Int) (aC:Int) (cp:Int):Option (List Int):=iV.pl7 F F aC cp aa ac ak 0
def bA.pj10 (F:Nat) (E_:Int->Int->List Int->Int->List Int->Int->Int->List Int->Int->Int->List Int->Int->List Int->Int->Int->Int->Int->Int->Option (Bool×List Int×List Int×List Int×List Int×List Int)) (bL:Int) (aK:Int) (aN:List Int) (bc:Int) (aR:List Int) (bh:Int) (aU:Int) (aO:List Int) (bv:Int) (bw:Int) (aW:List Int) (bz:Int) (aX:List Int) (WX:Int) (WY:Int) (WZ:Int) (W_:Int) (Xa:Int):Option (Bool×List Int×List Int×List Int×List Int×List Int):=E_ bL aK aN bc aR bh aU aO bv bw aW bz aX WX WY WZ W_ (IntKind.i64.wrap (Xa+1))
def bA.pj8 (F:Nat) (au:Int->Int->List Int->Int->List Int->Int->Int->List Int->Int->Int->List Int->Int->List Int->Int->Int->Int->Int->Option (Bool×List Int×List Int×List Int×List Int×List Int)) (bL:Int) (aK:Int) (aN:List Int) (bc:Int) (aR:List Int) (bh:Int) (aU:Int) (aO:List Int) (bv:Int) (bw:Int) (aW:List Int) (bz:Int) (aX:List Int) (Xb:Int) (Xc:Int) (Xd:Int) (Xe:Int):Option (Bool×List Int×List Int×List Int×List Int×List Int):=au bL aK aN bc aR bh aU aO bv bw aW bz aX Xb Xc Xd (IntKind.i64.wrap (Xe+1))
def bA.pj9 (F:Nat) (au:Int->Int->List Int->Int->List Int->Int->Int->List Int->Int->Int->List Int->Int->List Int->Int->Int->Int->Int->Option (Bool×List Int×List Int×List Int×List Int×List Int)) (bL:Int) (aK:Int) (aN:List Int) (bc:Int) (aR:List Int) (bh:Int) (aU:Int) (aO:List Int) (bv:Int) (bw:Int) (aW:List Int) (bz:Int) (aX:List Int) (Xf:Int) (Xg:Int) (Xh:Int) (Xi:Int):Option (Bool×List Int×List Int×List Int×List Int×List Int):=bA.pj8 F au bL aK aN bc aR bh aU aO bv bw aW bz aX Xf Xg Xh Xi
def bA.pl469 (F:Nat) (au:Int->Int->List Int->Int->List Int->Int->Int->List Int->Int->Int->List Int->Int->List Int->Int->Int->Int->Int->Option (Bool×List Int×List Int×List Int×List Int×List Int)):Nat->Int->Int->List Int->Int->List Int->Int->Int->List Int->Int->Int->List Int->Int->List Int->Int->Int->Int->Int->Int->Option (Bool×List Int×List Int×List Int×List Int×List Int)
 | 0,_,_,_,_,_,_,_,_,_,_,_,_,_,_,_,_,_,_=>none
 | k+1,bL,aK,aN,bc,aR,bh,aU,aO,bv,bw,aW,bz,aX,tR,tS,yB,lz,lA=>(bif (decide (lA<aK)) then ((aE.p F aK aN lz lA).bind λr2=>(cq.p F r2).bind λr5=>(bif (decide (r5>0)) then ((bif (decide (tS<0)) then (bA.pl469 F au k bL aK aN bc aR bh aU aO bv bw aW bz aX tR lz lA lz (IntKind.i64.wrap (lA+1))) else ((aE.p F aK aN tS yB).bind λr8=>(cq.p F r8).bind λr11=>(bif (decide (r5<r11)) then (bA.pj10 F (bA.pl469 F au k) bL aK aN bc aR bh aU aO bv bw aW bz aX tR lz lA lz lA) else (bA.pj10 F (bA.pl469 F au k) bL aK aN bc aR bh aU aO bv bw aW bz aX tR tS yB lz lA))))) else (bA.pl469 F au k bL aK aN bc aR bh aU aO bv bw aW bz aX tR tS yB lz (IntKind.i64.wrap (lA+1))))) else (bA.pj9 F au bL aK aN bc aR bh aU aO bv bw aW bz aX tR tS yB lz))
def bA.pl65515 (F:Nat) :Nat->List Int->Int->List Int->Int->List Int->List Int->List Int->Int->Int->Option (Bool×List Int×List Int×List Int×List Int×List Int)
 | 0,_,_,_,_,_,_,_,_,_=>none
 | k+1,aN,bc,aR,aU,aO,aW,aX,tT,qU=>(bif (decide (qU<bc)) then ((aE.p F bc aR tT qU).bind λr3=>(ix aR (IntKind.i64.wrap ((IntKind.i64.wrap (tT * bc))+qU))).bind λn7=>(some (aR.set n7 (IntKind.i64.wrap (0 - r3)))).bind λl8=>(aE.p F aU aO qU tT).bind λr12=>(ix aO (IntKind.i64.wrap ((IntKind.i64.wrap (qU * aU))+tT))).bind λn16=>(some (aO.set n16 (IntKind.i64.wrap (0 - r12)))).bind λl17=>bA.pl65515 F k aN bc l8 aU l17 aW aX tT (IntKind.i64.wrap (qU+1))) else (some (true,aN,aR,aO,aW,aX)))
def bA.pj5 (F:Nat)  (aN:List Int) (bc:Int) (aR:List Int) (aU:Int) (aO:List Int) (aW:List Int) (aX:List Int) (Xj:Int):Option (Bool×List Int×List Int×List Int×List Int×List Int):=bA.pl65515 F F aN bc aR aU aO aW aX Xj 0
def bA.pl65513 (F:Nat) :Nat->Int->List Int->Int->List Int->Int->List Int->List Int->List Int->Int->Int->Option (Bool×List Int×List Int×List Int×List Int×List Int)
 | 0,_,_,_,_,_,_,_,_,_,_=>none
 | k+1,aK,aN,bc,aR,aU,aO,aW,aX,yC,yD=>(bif (decide (yD<aK)) then ((aE.p F aK aN yC yD).bind λr2=>(ix aN (IntKind.i64.wrap ((IntKind.i64.wrap (yC * aK))+yD))).bind λn6=>(some (aN.set n6 (IntKind.i64.wrap (0 - r2)))).bind λl7=>bA.pl65513 F k aK l7 bc aR aU aO aW aX yC (IntKind.i64.wrap (yD+1))) else (bA.pj5 F aN bc aR aU aO aW aX yC))
def bA.pj6 (F:Nat)  (bL:Int) (aK:Int) (aN:List Int) (bc:Int) (aR:List Int) (bh:Int) (aU:Int) (aO:List Int) (bv:Int) (bw:Int) (aW:List Int) (bz:Int) (aX:List Int) (kb:Int) (yE:Int) (Fl:Int):Option (Bool×List Int×List Int×List Int×List Int×List Int):=(bif (decide (yE<0)) then (some (false,aN,aR,aO,aW,aX)) else ((aS.p F aK aN yE kb).bind λr1=>(aS.p F bc aR yE kb).bind λr4=>(iV.p F bh aU aO yE kb).bind λr7=>(iV.p F bL aK r1 Fl kb).bind λr10=>(iV.p F bv bw aW Fl kb).bind λr13=>(aS.p F bz aX Fl kb).bind λr16=>(aE.p F aK r10 kb kb).bind λr20=>(bif (decide (r20<0)) then (bA.pl65513 F F aK r10 bc r4 aU r7 r13 r16 kb 0) else (some (true,r10,r4,r7,r13,r16)))))
def bA.pl29 (F:Nat) :Nat->Int->Int->List Int->Int->List Int->Int->Int->List Int->Int->Int->List Int->Int->List Int->Int->Int->Int->Int->Option (Bool×List Int×List Int×List Int×List Int×List Int)
 | 0,_,_,_,_,_,_,_,_,_,_,_,_,_,_,_,_,_=>none
 | k+1,bL,aK,aN,bc,aR,bh,aU,aO,bv,bw,aW,bz,aX,jq,kc,MQ,MR=>(bif (decide (MR<bL)) then (bA.pl469 F (bA.pl29 F k) F bL aK aN bc aR bh aU aO bv bw aW bz aX jq kc MQ MR jq) else (bA.pj6 F bL aK aN bc aR bh aU aO bv bw aW bz aX jq kc MQ))
def bA.p (F:Nat) (jr:Int) (dr:Int) (dy:List Int) (fl:Int) (fm:List Int) (dx:Int) (cN:Int) (dk:List Int) (fA:Int) (fB:Int) (fo:List Int) (fC:Int) (fp:List Int) (bg:Int):Option (Bool×List Int×List Int×List Int×List Int×List Int):=bA.pl29 F F jr dr dy fl fm dx cN dk fA fB fo fC fp bg (-1) (-1) bg
def yF.p (F:Nat) (aa:Int) (aI:Int):Option (Int):=(if aI=0 then none else ((if aI=0 then none else ((bif (decide ((Int.tmod aa aI)<0)) then (some (IntKind.i64.wrap ((IntKind.i64.wrap (Int.tdiv aa aI)) - 1))) else (some (IntKind.i64.wrap (Int.tdiv aa aI))))))))
def yG.p (F:Nat) (aa:Int) (aI:Int) (di:Int):Option (Int):=(Fj.p F aI di 2000000000000).bind λr1=>(bif (!r1.2) then (some 3000000000000) else (some (IntKind.i64.wrap (aa - r1.1))))
def yH.p (F:Nat) (aJ:Bool) (aC:Int) (iU:List Int) (j_:Int) (ka:Int) (jn:Int):Option (Bool×List Int):=(cq.p F jn).bind λr2=>(bif (decide (r2>1000000000000)) then (some (true,iU)) else ((ix iU (IntKind.i64.wrap ((IntKind.i64.wrap (j_ * aC))+ka))).bind λn6=>(some (iU.set n6 jn)).bind λl7=>some (aJ,l7)))
def fF.pl7 (F:Nat) :Nat->Bool->Int->Int->Int->Int->List Int->Int->Option (Bool×List Int)
 | 0,_,_,_,_,_,_,_=>none
 | k+1,aJ,mW,tU,tV,jt,iW,iX=>(bif (decide (iX<jt)) then ((bif (!aJ) then ((aE.p F jt iW mW iX).bind λr3=>(aE.p F jt iW tU iX).bind λr8=>(yG.p F r3 tV r8).bind λr12=>(yH.p F aJ jt iW mW iX r12).bind λr16=>fF.pl7 F k r16.1 mW tU tV jt r16.2 (IntKind.i64.wrap (iX+1))) else (some (aJ,iW)))) else (some (aJ,iW)))
def fF.p (F:Nat) (aJ:Bool) (aC:Int) (iU:List Int) (j_:Int) (ka:Int) (jn:Int):Option (Bool×List Int):=fF.pl7 F F aJ j_ ka jn aC iU 0
def fG.pl7 (F:Nat) :Nat->Bool->Int->Int->Int->Int->Int->List Int->Int->Option (Bool×List Int)
 | 0,_,_,_,_,_,_,_,_=>none
 | k+1,aJ,mW,tU,tV,MS,jt,iW,iX=>(bif (decide (iX<MS)) then ((bif (!aJ) then ((aE.p F jt iW iX mW).bind λr3=>(aE.p F jt iW iX tU).bind λr8=>(yG.p F r3 tV r8).bind λr12=>(yH.p F aJ jt iW iX mW r12).bind λr16=>fG.pl7 F k r16.1 mW tU tV MS jt r16.2 (IntKind.i64.wrap (iX+1))) else (some (aJ,iW)))) else (some (aJ,iW)))
def fG.p (F:Nat) (aJ:Bool) (bg:Int) (aC:Int) (iU:List Int) (j_:Int) (ka:Int) (jn:Int):Option (Bool×List Int):=fG.pl7 F F aJ j_ ka jn bg aC iU 0
def tW.p (F:Nat) (dr:Int) (dy:List Int) (fl:Int) (fm:List Int) (dx:Int) (cN:Int) (dk:List Int) (aJ:Bool) (bg:Int) (fq:Int) (eD:Int):Option (List Int×List Int×List Int×Bool):=(bif (eD != 0) then ((fF.p F aJ dr dy bg fq eD).bind λr2=>(fF.p F r2.1 fl fm bg fq eD).bind λr5=>(fG.p F r5.1 dx cN dk fq bg (IntKind.i64.wrap (0 - eD))).bind λr8=>some (r2.2,r5.2,r8.2,r8.1)) else (some (dy,fm,dk,aJ)))
def yI.p (F:Nat) (jr:Int) (dr:Int) (dy:List Int) (fA:Int) (fB:Int) (fo:List Int) (fC:Int) (fp:List Int) (aJ:Bool) (bg:Int) (fq:Int) (eD:Int):Option (List Int×List Int×List Int×Bool):=(bif (eD != 0) then ((fG.p F aJ jr dr dy bg fq eD).bind λr2=>(fG.p F r2.1 fA fB fo bg fq eD).bind λr5=>(fF.p F r5.1 fC fp fq bg (IntKind.i64.wrap (0 - eD))).bind λr8=>some (r2.2,r5.2,r8.2,r8.1)) else (some (dy,fo,fp,aJ)))
def dV.pl29 (F:Nat) :Nat->Int->List Int->Int->Int->Option (Bool)
 | 0,_,_,_,_=>none
 | k+1,aK,dS,pF,Fm=>(bif (decide (Fm<aK)) then ((aE.p F aK dS pF Fm).bind λr1=>(bif (r1 != 0) then (some false) else (dV.pl29 F k aK dS pF (IntKind.i64.wrap (Fm+1))))) else (some true))
def dV.pj1 (F:Nat)  (aK:Int) (dS:List Int) (MT:Int):Option (Bool):=dV.pl29 F F aK dS MT (IntKind.i64.wrap (MT+1))
def dV.pl13 (F:Nat) :Nat->Int->Int->List Int->Int->Int->Option (Bool)
 | 0,_,_,_,_,_=>none
 | k+1,bL,aK,dS,jq,kc=>(bif (decide (kc<bL)) then ((aE.p F aK dS kc jq).bind λr1=>(bif (r1 != 0) then (some false) else (dV.pl13 F k bL aK dS jq (IntKind.i64.wrap (kc+1))))) else (dV.pj1 F aK dS jq))
def dV.p (F:Nat) (jr:Int) (dr:Int) (dy:List Int) (bg:Int):Option (Bool):=dV.pl13 F F jr dr dy bg (IntKind.i64.wrap (bg+1))
def du.pj3 (F:Nat) (lw:Int->Int->List Int->Int->Int->Option (Int)) (bL:Int) (aK:Int) (dS:List Int) (Xk:Int) (Xl:Int):Option (Int):=lw bL aK dS Xk (IntKind.i64.wrap (Xl+1))
def du.pj4 (F:Nat) (lw:Int->Int->List Int->Int->Int->Option (Int)) (bL:Int) (aK:Int) (dS:List Int) (Xm:Int) (Xn:Int):Option (Int):=du.pj3 F lw bL aK dS Xm Xn
def du.pl213 (F:Nat) (lw:Int->Int->List Int->Int->Int->Option (Int)):Nat->Int->Int->List Int->Int->Int->Int->Option (Int)
 | 0,_,_,_,_,_,_=>none
 | k+1,bL,aK,dS,yJ,yK,Fo=>(bif (decide (Fo<aK)) then ((aE.p F aK dS yK Fo).bind λr1=>(aE.p F aK dS yJ yJ).bind λr4=>(if r4=0 then none else ((bif ((Int.tmod r1 r4) != 0) then (some yK) else (du.pl213 F lw k bL aK dS yJ yK (IntKind.i64.wrap (Fo+1))))))) else (du.pj4 F lw bL aK dS yJ yK))
def du.pl13 (F:Nat) :Nat->Int->Int->List Int->Int->Int->Option (Int)
 | 0,_,_,_,_,_=>none
 | k+1,bL,aK,dS,jq,kc=>(bif (decide (kc<bL)) then (du.pl213 F (du.pl13 F k) F bL aK dS jq kc (IntKind.i64.wrap (jq+1))) else (some (-1)))
def du.p (F:Nat) (jr:Int) (dr:Int) (dy:List Int) (bg:Int):Option (Int):=du.pl13 F F jr dr dy bg (IntKind.i64.wrap (bg+1))
def cj.pj1 (F:Nat)  (bL:Int) (aK:Int) (aN:List Int) (bc:Int) (aR:List Int) (bh:Int) (aU:Int) (aO:List Int) (aW:List Int) (aX:List Int) (aJ:Bool) (Fp:Int):Option (Bool×Bool×List Int×List Int×List Int×List Int×List Int×Bool):=(bif aJ then (some (false,false,aN,aR,aO,aW,aX,aJ)) else ((dV.p F bL aK aN Fp).bind λr3=>(bif (!r3) then (some (false,false,aN,aR,aO,aW,aX,aJ)) else ((du.p F bL aK aN Fp).bind λr8=>(bif (decide (r8<0)) then (some (true,false,aN,aR,aO,aW,aX,aJ)) else ((tW.p F aK aN bc aR bh aU aO aJ Fp r8 (-1)).bind λr13=>some (false,false,r13.1,r13.2.1,r13.2.2.1,aW,aX,r13.2.2.2)))))))
def cj.pl61 (F:Nat) :Nat->Int->Int->List Int->Int->List Int->Int->Int->List Int->Int->Int->List Int->Int->List Int->Bool->Int->Int->Option (Bool×Bool×List Int×List Int×List Int×List Int×List Int×Bool)
 | 0,_,_,_,_,_,_,_,_,_,_,_,_,_,_,_,_=>none
 | k+1,bL,aK,aN,bc,aR,bh,aU,aO,bv,bw,aW,bz,aX,aJ,mX,yL=>(bif (decide (yL<aK)) then ((bif (!aJ) then ((aE.p F aK aN mX yL).bind λr2=>(aE.p F aK aN mX mX).bind λr7=>(yF.p F r2 r7).bind λr10=>(yI.p F bL aK aN bv bw aW bz aX aJ yL mX r10).bind λr13=>cj.pl61 F k bL aK r13.1 bc aR bh aU aO bv bw r13.2.1 bz r13.2.2.1 r13.2.2.2 mX (IntKind.i64.wrap (yL+1))) else (cj.pj1 F bL aK aN bc aR bh aU aO aW aX aJ mX))) else (cj.pj1 F bL aK aN bc aR bh aU aO aW aX aJ mX))
def cj.pj2 (F:Nat)  (bL:Int) (aK:Int) (aN:List Int) (bc:Int) (aR:List Int) (bh:Int) (aU:Int) (aO:List Int) (bv:Int) (bw:Int) (aW:List Int) (bz:Int) (aX:List Int) (aJ:Bool) (MU:Int):Option (Bool×Bool×List Int×List Int×List Int×List Int×List Int×Bool):=cj.pl61 F F bL aK aN bc aR bh aU aO bv bw aW bz aX aJ MU (IntKind.i64.wrap (MU+1))
def cj.pl29 (F:Nat) :Nat->Int->Int->List Int->Int->List Int->Int->Int->List Int->Int->Int->List Int->Int->List Int->Bool->Int->Int->Option (Bool×Bool×List Int×List Int×List Int×List Int×List Int×Bool)
 | 0,_,_,_,_,_,_,_,_,_,_,_,_,_,_,_,_=>none
 | k+1,bL,aK,aN,bc,aR,bh,aU,aO,bv,bw,aW,bz,aX,aJ,eJ,yM=>(bif (decide (yM<bL)) then ((bif (!aJ) then ((aE.p F aK aN yM eJ).bind λr2=>(aE.p F aK aN eJ eJ).bind λr7=>(yF.p F r2 r7).bind λr10=>(tW.p F aK aN bc aR bh aU aO aJ yM eJ r10).bind λr13=>cj.pl29 F k bL aK r13.1 bc r13.2.1 bh aU r13.2.2.1 bv bw aW bz aX r13.2.2.2 eJ (IntKind.i64.wrap (yM+1))) else (cj.pj2 F bL aK aN bc aR bh aU aO bv bw aW bz aX aJ eJ))) else (cj.pj2 F bL aK aN bc aR bh aU aO bv bw aW bz aX aJ eJ))
def cj.p (F:Nat) (jr:Int) (dr:Int) (dy:List Int) (fl:Int) (fm:List Int) (dx:Int) (cN:Int) (dk:List Int) (fA:Int) (fB:Int) (fo:List Int) (fC:Int) (fp:List Int) (aJ:Bool) (bg:Int):Option (Bool×Bool×List Int×List Int×List Int×List Int×List Int×Bool):=(bA.p F jr dr dy fl fm dx cN dk fA fB fo fC fp bg).bind λr1=>(bif (!r1.1) then (some (true,true,r1.2.1,r1.2.2.1,r1.2.2.2.1,r1.2.2.2.2.1,r1.2.2.2.2.2,aJ)) else (cj.pl29 F F jr dr r1.2.1 fl r1.2.2.1 dx cN r1.2.2.2.1 fA fB r1.2.2.2.2.1 fC r1.2.2.2.2.2 aJ bg (IntKind.i64.wrap (bg+1))))
def cF.pj3 (F:Nat) (au:Int->Int->Int->Int->List Int->Int->Int->List Int->Int->Int->List Int->Int->Int->List Int->Int->Int->List Int->Bool->Int->Option (Int×Int×List Int×Int×Int×List Int×Int×Int×List Int×Int×Int×List Int×Int×Int×List Int×Bool)) (Xo:Int) (Xp:Int) (Xq:Int) (Xr:Int) (Xs:List Int) (Xt:Int) (Xu:Int) (Xv:List Int) (Xw:Int) (Xx:Int) (Xy:List Int) (Xz:Int) (XA:Int) (XB:List Int) (XC:Int) (XD:Int) (XE:List Int) (XF:Bool) (XG:Int):Option (Int×Int×List Int×Int×Int×List Int×Int×Int×List Int×Int×Int×List Int×Int×Int×List Int×Bool):=au Xo Xp Xq Xr Xs Xt Xu Xv Xw Xx Xy Xz XA XB XC XD XE XF (IntKind.i64.wrap (XG+1))
def cF.pj4 (F:Nat) (au:Int->Int->Int->Int->List Int->Int->Int->List Int->Int->Int->List Int->Int->Int->List Int->Int->Int->List Int->Bool->Int->Option (Int×Int×List Int×Int×Int×List Int×Int×Int×List Int×Int×Int×List Int×Int×Int×List Int×Bool)) (XH:Int) (XI:Int) (Fq:Int) (Fs:Int) (Ft:List Int) (Fu:Int) (Fv:Int) (Fw:List Int) (Fx:Int) (Fy:Int) (Fz:List Int) (FA:Int) (FB:Int) (FC:List Int) (FD:Int) (FE:Int) (FF:List Int) (yN:Bool) (XJ:Int) (XK:Bool):Option (Int×Int×List Int×Int×Int×List Int×Int×Int×List Int×Int×Int×List Int×Int×Int×List Int×Bool):=(bif XK then (some (Fq,Fs,Ft,Fu,Fv,Fw,Fx,Fy,Fz,FA,FB,FC,FD,FE,FF,yN)) else ((bif yN then (some (Fq,Fs,Ft,Fu,Fv,Fw,Fx,Fy,Fz,FA,FB,FC,FD,FE,FF,yN)) else (cF.pj3 F au XH XI Fq Fs Ft Fu Fv Fw Fx Fy Fz FA FB FC FD FE FF yN XJ))))
def cF.pl938 (F:Nat) (au:Int->Int->Int->Int->List Int->Int->Int->List Int->Int->Int->List Int->Int->Int->List Int->Int->Int->List Int->Bool->Int->Option (Int×Int×List Int×Int×Int×List Int×Int×Int×List Int×Int×Int×List Int×Int×Int×List Int×Bool)):Nat->Int->Int->Int->Int->List Int->Int->Int->List Int->Int->Int->List Int->Int->Int->List Int->Int->Int->List Int->Bool->Int->Bool->Bool->Option (Int×Int×List Int×Int×Int×List Int×Int×Int×List Int×Int×Int×List Int×Int×Int×List Int×Bool)
 | 0,_,_,_,_,_,_,_,_,_,_,_,_,_,_,_,_,_,_,_,_,_=>none
 | k+1,FG,FH,yO,yP,FI,FJ,yQ,FK,yR,yS,FL,yT,yU,FM,FN,yV,FO,yW,yX,XL,MV=>(bif (!XL) then ((bif (!yW) then ((cj.p F yO yP FI yQ FK yR yS FL yT yU FM yV FO yW yX).bind λr2=>cF.pl938 F au k FG FH yO yP r2.2.2.1 FJ yQ r2.2.2.2.1 yR yS r2.2.2.2.2.1 yT yU r2.2.2.2.2.2.1 FN yV r2.2.2.2.2.2.2.1 r2.2.2.2.2.2.2.2 yX r2.1 r2.2.1) else (cF.pj4 F au FG FH yO yP FI FJ yQ FK yR yS FL yT yU FM FN yV FO yW yX MV))) else (cF.pj4 F au FG FH yO yP FI FJ yQ FK yR yS FL yT yU FM FN yV FO yW yX MV))
def cF.pl29 (F:Nat) :Nat->Int->Int->Int->Int->List Int->Int->Int->List Int->Int->Int->List Int->Int->Int->List Int->Int->Int->List Int->Bool->Int->Option (Int×Int×List Int×Int×Int×List Int×Int×Int×List Int×Int×Int×List Int×Int×Int×List Int×Bool)
 | 0,_,_,_,_,_,_,_,_,_,_,_,_,_,_,_,_,_,_,_=>none
 | k+1,FP,FQ,MW,MX,MY,MZ,M_,Na,Nb,Nc,Nd,Nf,Ng,Nh,Ni,Nj,Nk,Nl,Nm=>(bif (decide (Nm<(if FQ<FP then FQ else FP))) then (cF.pl938 F (cF.pl29 F k) F FP FQ MW MX MY MZ M_ Na Nb Nc Nd Nf Ng Nh Ni Nj Nk Nl Nm false false) else (some (MW,MX,MY,MZ,M_,Na,Nb,Nc,Nd,Nf,Ng,Nh,Ni,Nj,Nk,Nl)))
def cF.p (F:Nat) (aa:Int) (ac:Int) (ak:List Int):Option (Int×Int×List Int×Int×Int×List Int×Int×Int×List Int×Int×Int×List Int×Int×Int×List Int×Bool):=(apn ([]:List Int) ak).bind λl4=>(gF.p F aa).bind λr7=>(gF.p F aa).bind λr10=>(gF.p F ac).bind λr13=>(gF.p F ac).bind λr16=>cF.pl29 F F aa ac aa ac l4 r7.1 r7.2.1 r7.2.2 r10.1 r10.2.1 r10.2.2 r13.1 r13.2.1 r13.2.2 r16.1 r16.2.1 r16.2.2 false 0
def ba.pj16 (F:Nat) (qV:Int->Int->List Int->Int->Int->Int->Int->Int->Int->Option (Int×List Int)) (XM:Int) (XN:Int) (XO:List Int) (XP:Int) (XQ:Int) (XR:Int) (XS:Int) (XT:Int) (XU:Int):Option (Int×List Int):=qV XM XN XO XP XQ XT XU XR (IntKind.i64.wrap (XS+1))
def ba.pj17 (F:Nat) (qV:Int->Int->List Int->Int->Int->Int->Int->Int->Int->Option (Int×List Int)) (XV:Int) (XW:Int) (XX:List Int) (XY:Int) (XZ:Int) (X_:Int) (Ya:Int) (Yb:Int) (Yc:Int):Option (Int×List Int):=ba.pj16 F qV XV XW XX XY XZ X_ Ya Yb Yc
def ba.pl964565 (F:Nat) (au:Int->Int->List Int->Int->Int->Int->Int->Option (Int×List Int)) (qV:Int->Int->List Int->Int->Int->Int->Int->Int->Int->Option (Int×List Int)):Nat->Int->Int->List Int->Int->Int->Int->Int->Int->Int->Int->Option (Int×List Int)
 | 0,_,_,_,_,_,_,_,_,_,_=>none
 | k+1,Nn,lC,iY,No,yY,Np,Nq,qW,tX,tY=>(bif (decide (tY<lC)) then ((ix iY (IntKind.i64.wrap ((IntKind.i64.wrap (tX * lC))+tY))).bind λn2=>(ix iY (IntKind.i64.wrap ((IntKind.i64.wrap (tX * lC))+tY))).bind λn5=>(ix iY (IntKind.i64.wrap ((IntKind.i64.wrap (qW * lC))+qW))).bind λn8=>(ix iY (IntKind.i64.wrap ((IntKind.i64.wrap (tX * lC))+qW))).bind λn11=>(ix iY (IntKind.i64.wrap ((IntKind.i64.wrap (qW * lC))+tY))).bind λn14=>(if yY=0 then none else ((some (iY.set n2 (IntKind.i64.wrap (Int.tdiv (IntKind.i64.wrap ((IntKind.i64.wrap ((gt iY n5) * (gt iY n8))) - (IntKind.i64.wrap ((gt iY n11) * (gt iY n14))))) yY)))).bind λl17=>ba.pl964565 F au qV k Nn lC l17 No yY Np Nq qW tX (IntKind.i64.wrap (tY+1))))) else (ba.pj17 F qV Nn lC iY No yY qW tX Np Nq))
def ba.pj14 (F:Nat) (au:Int->Int->List Int->Int->Int->Int->Int->Option (Int×List Int)) (Yd:Int) (Ye:Int) (Yf:List Int) (Yg:Int) (Yh:Int) (Yi:Int) (Yj:Int):Option (Int×List Int):=au Yd Ye Yf Yg Yh Yi (IntKind.i64.wrap (Yj+1))
def ba.pj15 (F:Nat) (au:Int->Int->List Int->Int->Int->Int->Int->Option (Int×List Int)) (Yk:Int) (Nr:Int) (FR:List Int) (Yl:Int) (Ns:Int) (Ym:Int) (Yn:Int):Option (Int×List Int):=(ix FR (IntKind.i64.wrap ((IntKind.i64.wrap (Ns * Nr))+Ns))).bind λn2=>ba.pj14 F au Yk Nr FR Yl (gt FR n2) Ym Yn
def ba.pl60285 (F:Nat) (au:Int->Int->List Int->Int->Int->Int->Int->Option (Int×List Int)):Nat->Int->Int->List Int->Int->Int->Int->Int->Int->Int->Option (Int×List Int)
 | 0,_,_,_,_,_,_,_,_,_=>none
 | k+1,FS,Nt,Nu,Nv,Yo,Nw,Nx,FT,Ny=>(bif (decide (Ny<FS)) then (ba.pl964565 F au (ba.pl60285 F au k) F FS Nt Nu Nv Yo Nw Nx FT Ny (IntKind.i64.wrap (FT+1))) else (ba.pj15 F au FS Nt Nu Nv FT Nw Nx))
def ba.pj18 (F:Nat) (au:Int->Int->List Int->Int->Int->Int->Int->Option (Int×List Int)) (Yp:Int) (Yq:Int) (Yr:List Int) (Ys:Int) (Yt:Int) (Nz:Int) (Yu:Int) (Yv:Int):Option (Int×List Int):=ba.pl60285 F au F Yp Yq Yr Ys Yt Yu Yv Nz (IntKind.i64.wrap (Nz+1))
def ba.pj19 (F:Nat) (au:Int->Int->List Int->Int->Int->Int->Int->Option (Int×List Int)) (Yw:Int) (Yx:Int) (Yy:List Int) (Yz:Int) (YA:Int) (YB:Int) (YC:Int) (YD:Int):Option (Int×List Int):=ba.pj18 F au Yw Yx Yy Yz YA YB YC YD
def ba.pl241131 (F:Nat) (au:Int->Int->List Int->Int->Int->Int->Int->Option (Int×List Int)):Nat->Int->Int->List Int->Int->Int->Int->Int->Int->Int->Int->Int->Option (Int×List Int)
 | 0,_,_,_,_,_,_,_,_,_,_,_=>none
 | k+1,NA,yZ,qX,NB,NC,ND,NE,FU,NF,NG,y_=>(bif (decide (y_<NG)) then ((ix qX (IntKind.i64.wrap ((IntKind.i64.wrap (FU * yZ))+y_))).bind λn2=>(ix qX (IntKind.i64.wrap ((IntKind.i64.wrap (NF * yZ))+y_))).bind λn5=>(some (qX.set n2 (gt qX n5))).bind λl7=>(some (l7.set n5 (gt qX n2))).bind λl9=>ba.pl241131 F au k NA yZ l9 NB NC ND NE FU NF NG (IntKind.i64.wrap (y_+1))) else (ba.pj19 F au NA yZ qX NB NC FU ND NE))
def ba.pj20 (F:Nat) (au:Int->Int->List Int->Int->Int->Int->Int->Option (Int×List Int)) (YE:Int) (YF:Int) (YG:List Int) (YH:Int) (YI:Int) (NH:Int) (YJ:Int) (YK:Int):Option (Int×List Int):=ba.pl60285 F au F YE YF YG YH YI YJ YK NH (IntKind.i64.wrap (NH+1))
def ba.pj21 (F:Nat) (au:Int->Int->List Int->Int->Int->Int->Int->Option (Int×List Int)) (FV:Int) (FW:Int) (FX:List Int) (NI:Int) (NJ:Int) (FY:Int) (FZ:Int) (NK:Int) (NL:Int):Option (Int×List Int):=(bif (FZ==FV) then (some (0,FX)) else ((bif (FZ != FY) then (ba.pl241131 F au F FV FW FX (IntKind.i64.wrap (0 - NI)) NJ NK NL FY FZ FW 0) else (ba.pj20 F au FV FW FX NI NJ FY NK NL))))
def ba.pl3766 (F:Nat) (au:Int->Int->List Int->Int->Int->Int->Int->Option (Int×List Int)):Nat->Int->Int->List Int->Int->Int->Int->Int->Int->Int->Option (Int×List Int)
 | 0,_,_,_,_,_,_,_,_,_=>none
 | k+1,za,zb,tZ,F_,Ga,Gb,Gc,zd,t_=>(bif (decide (t_<za)) then ((ix tZ (IntKind.i64.wrap ((IntKind.i64.wrap (t_ * zb))+zd))).bind λn2=>(bif ((gt tZ n2)==0) then (ba.pl3766 F au k za zb tZ F_ Ga Gb Gc zd (IntKind.i64.wrap (t_+1))) else (ba.pj21 F au za zb tZ F_ Ga zd t_ Gb Gc))) else (ba.pj21 F au za zb tZ F_ Ga zd t_ Gb Gc))
def ba.pj11 (F:Nat)  (YL:Int) (YM:Int) (z0_2l:List Int):Option (Int×List Int):=some ((IntKind.i64.wrap (YL * YM)),z0_2l)
def ba.pl29 (F:Nat) :Nat->Int->Int->List Int->Int->Int->Int->Int->Option (Int×List Int)
 | 0,_,_,_,_,_,_,_=>none
 | k+1,xu,lj,jl,cl,NM,NN,ze=>(bif (decide (ze<NN)) then (ba.pl3766 F (ba.pl29 F k) F xu lj jl cl NM NN ze ze ze) else (ba.pj11 F cl NM jl))
def ba.p (F:Nat) (aa:Int) (ac:Int) (ak:List Int):Option (Int×List Int):=ba.pl29 F F aa ac ak 1 1 aa 0
def Gd.p (F:Nat) (aa:Int) (ac:Int) (ak:List Int):Option (Int×Int):=(bN.p F aa ac ak).bind λr2=>(bif (!r2) then (some (0,1)) else ((bif (aa != ac) then (some (0,2)) else ((aB.p F aa ac ak).bind λr6=>(bif (decide (r6>1000000000)) then (some (0,3)) else ((yq.p F aa ac ak).bind λr9=>(ba.p F r9.1 r9.2.1 r9.2.2).bind λr11=>some (r11.1,0)))))))
def Ge.p (F:Nat) (aa:Int) (ac:Int) (ak:List Int):Option (Int×Int):=(aY.p F aa ac ak).bind λr2=>(bif (!r2) then (some (0,1)) else ((bif (aa != ac) then (some (0,2)) else ((az.p F aa ac ak).bind λr6=>(bif (!r6) then (some (0,3)) else ((ag.p F aa ak).bind λr9=>some (r9,0)))))))
end Go.Proofs.Ytokekkacliomkaa.AE
end
section
namespace Go.AE
abbrev Mat:=Int->Int->Int
def mk (R C:Nat) (A:Mat):List Int:=(List.range (R * C)).map λn=>A ((n / C:Nat):Int) ((n % C:Nat):Int)
def upd (A:Mat) (i j x:Int):Mat:=λa b=>if a=i/\b=j then x else A a b
theorem zB (A:Mat) (i j x:Int):upd A i j x i j=x:=by simp [upd]
theorem eF (A:Mat) {i j a b:Int} (x:Int) (h:¬ (a=i/\b=j)):upd A i j x a b=A a b:=by simp only [upd,if_neg h]
variable {R C:Nat} {A B:Mat}
theorem cZ (R C:Nat) (A:Mat):(mk R C A).length=R * C:=by simp [mk]
theorem zC {i j:Int} (hi0:0<=i) (hi:i<R) (hj0:0<=j) (hj:j<C):∃ a b:Nat,i=a/\j=b/\a<R/\b<C/\(i * C+j).toNat=a * C+b/\a * C+b<R * C/\(i * C+j)=((a * C+b:Nat):Int):=by
 refine ⟨i.toNat,j.toNat,by omega,by omega,by omega,by omega,?_,?_,?_⟩
 ·obtain ⟨a,rfl⟩:=Int.eq_ofNat_of_zero_le hi0
  obtain ⟨b,rfl⟩:=Int.eq_ofNat_of_zero_le hj0
  simp only [Int.toNat_natCast]
  rw [<- Int.natCast_mul,<-Int.natCast_add,Int.toNat_natCast]
 ·have h1:i.toNat+1<=R:=by omega
  have:=Nat.mul_le_mul_right C h1
  rw [Nat.add_mul] at this
  omega
 ·obtain ⟨a,rfl⟩:=Int.eq_ofNat_of_zero_le hi0
  obtain ⟨b,rfl⟩:=Int.eq_ofNat_of_zero_le hj0
  simp
theorem zD {a b:Nat} (hb:b<C) (h:a * C+b<R * C):(mk R C A)[a * C+b]?=some (A a b):=by
 have hC:0<C:=by omega
 have e1:(a * C+b) / C=a:=by rw [Nat.add_comm,Nat.add_mul_div_right _ _ hC,Nat.div_eq_of_lt hb,Nat.zero_add]
 have e2:(a * C+b) % C=b:=by rw [Nat.add_comm,Nat.add_mul_mod_self_right,Nat.mod_eq_of_lt hb]
 unfold mk
 rw [List.getElem?_map,List.getElem?_range h]
 simp only [Option.map_some,e1,e2]
theorem cz {i j:Int} (hi0:0<=i) (hi:i<R) (hj0:0<=j) (hj:j<C):gt (mk R C A) (i * C+j).toNat=A i j:=by
 obtain ⟨a,b,rfl,rfl,ha,hb,e,hlt,_⟩:=zC hi0 hi hj0 hj
 rw [e]
 unfold gt
 rw [List.getD_eq_getElem?_getD,zD hb hlt];rfl
theorem ca {i j:Int} (hR:R<=1000) (hC:C<=1000) (hi0:0<=i) (hi:i<R) (hj0:0<=j) (hj:j<C):ix (mk R C A) (IntKind.i64.wrap (IntKind.i64.wrap (i * C)+j))=some (i * C+j).toNat:=by
 obtain ⟨a,b,e1,e2,ha,hb,e,hlt,e3⟩:=zC hi0 hi hj0 hj
 have hm:R * C<=1000 * 1000:=Nat.mul_le_mul hR hC
 have h1:0<=i * C:=Int.mul_nonneg hi0 (Int.natCast_nonneg _)
 rw [ap (x:=i * C) (by omega) (by omega),ap (x:=i * C+j) (by omega) (by omega)]
 unfold ix
 rw [cZ,if_pos (by omega)]
theorem bl (h:∀ i j:Int,0<=i->i<R->0<=j->j<C->A i j=B i j):mk R C A=mk R C B:=by
 unfold mk
 apply List.map_congr_left
 intro n hn
 have hn:=List.mem_range.1 hn
 have hC:0<C:=by
  rcases Nat.eq_zero_or_pos C with h | h
  ·subst h;simp at hn
  ·exact h
 exact h _ _ (Int.natCast_nonneg _) (Int.ofNat_lt.2 ((Nat.div_lt_iff_lt_mul hC).2 hn)) (Int.natCast_nonneg _) (Int.ofNat_lt.2 (Nat.mod_lt n hC))
theorem aao {l:List Int} (h:l.length=R * C):l=mk R C λi j=>gt l (i * C+j).toNat:=by
 apply List.ext_getElem?
 intro n
 by_cases hn:n<R * C
 ·unfold mk
  rw [List.getElem?_map,List.getElem?_range hn]
  simp only [Option.map_some]
  have e:(((n / C:Nat):Int) * C+((n % C:Nat):Int)).toNat=n:=by
   rw [<- Int.natCast_mul,<-Int.natCast_add,Int.toNat_natCast,Nat.mul_comm,Nat.div_add_mod]
  rw [e]
  exact nj (by omega)
 ·rw [List.getElem?_eq_none (by omega),List.getElem?_eq_none (by rw [cZ];omega)]
theorem dN {i j x:Int} (hi0:0<=i) (hi:i<R) (hj0:0<=j) (hj:j<C):(mk R C A).set (i * C+j).toNat x=mk R C (upd A i j x):=by
 obtain ⟨a,b,rfl,rfl,ha,hb,e,hlt,_⟩:=zC hi0 hi hj0 hj
 rw [e]
 apply List.ext_getElem?
 intro n
 by_cases hn:n<R * C
 ·have hC:0<C:=by omega
  have hd:n=n / C * C+n % C:=by rw [Nat.mul_comm,Nat.div_add_mod]
  have hr:=Nat.mod_lt n hC
  rw [hd,zD hr (by omega)]
  by_cases e:n / C=a/\n % C=b
  ·rw [e.1,e.2,List.getElem?_set_self (by rw [cZ];exact hlt),zB]
  ·have:a * C+b≠n / C * C+n % C:=by
    intro h
    rw [<- hd] at h
    apply e
    constructor
    ·rw [<- h,Nat.add_comm,Nat.add_mul_div_right _ _ hC,Nat.div_eq_of_lt hb,Nat.zero_add]
    ·rw [<- h,Nat.add_comm,Nat.add_mul_mod_self_right,Nat.mod_eq_of_lt hb]
   rw [List.getElem?_set_ne this,zD hr (by omega),eF _ _ (by omega)]
 ·rw [List.getElem?_eq_none (by rw [List.length_set,cZ];omega),List.getElem?_eq_none (by rw [cZ];omega)]
end Go.AE
end
section
namespace Go.Proofs.Ytokekkacliomkaa.AE
open Go Go.AE Go.Proofs
def Sg:Nat->(Int->Int)->Int
 | 0,_=>0
 | n+1,f=>Sg n f+f (n:Int)
theorem Sg_congr {f g:Int->Int}:∀ {n:Nat},(∀ i:Int,0<=i->i<n->f i=g i)->Sg n f=Sg n g
 | 0,_=>rfl
 | n+1,h=>by
  show Sg n f+f n=Sg n g+g n
  rw [Sg_congr (n:=n) λi h0 h1=>h i h0 (by omega),h n (by omega) (by omega)]
theorem Sg_nul:∀ n:Nat,Sg n (λ_=>0)=0
 | 0=>rfl
 | n+1=>by show Sg n _+0=0;rw [Sg_nul n];rfl
theorem Sg_zero {n:Nat} {f:Int->Int} (h:∀ i:Int,0<=i->i<n->f i=0):Sg n f=0:=by
 rw [Sg_congr (g:=λ_=>0) h];exact Sg_nul n
theorem Sg_add {f g:Int->Int}:∀ n:Nat,Sg n (λi=>f i+g i)=Sg n f+Sg n g
 | 0=>rfl
 | n+1=>by
  show Sg n (λi=>f i+g i)+(f n+g n)=Sg n f+f n+(Sg n g+g n)
  rw [Sg_add n];omega
theorem Sg_mul {c:Int} {f:Int->Int}:∀ n:Nat,Sg n (λi=>c * f i)=c * Sg n f
 | 0=>by show 0=c * 0;rw [Int.mul_zero]
 | n+1=>by
  show Sg n (λi=>c * f i)+c * f n=c * (Sg n f+f n)
  rw [Sg_mul n,Int.mul_add]
theorem Sg_mulr {c:Int} {f:Int->Int} {n:Nat}:Sg n (λi=>f i * c)=Sg n f * c:=by
 rw [Int.mul_comm,<-Sg_mul];exact Sg_congr λ_ _ _=>Int.mul_comm _ _
theorem Sg_comm {m:Nat} {f:Int->Int->Int}:∀ n:Nat,Sg n (λi=>Sg m λj=>f i j)=Sg m λj=>Sg n λi=>f i j
 | 0=>(Sg_nul m).symm
 | n+1=>by
  show Sg n (λi=>Sg m λj=>f i j)+Sg m (λj=>f n j)=Sg m λj=>Sg n (λi=>f i j)+f n j
  rw [Sg_comm n,Sg_add]
theorem Sg_one {f:Int->Int} {k:Int} (h0:0<=k):∀ {n:Nat},Sg n (λi=>if i=k then f i else 0)=if k<n then f k else 0
 | 0=>by rw [if_neg (by omega)];rfl
 | n+1=>by
  show Sg n (λi=>if i=k then f i else 0)+(if (n:Int)=k then f n else 0)=_
  rw [Sg_one h0 (n:=n)]
  by_cases e:(n:Int)=k
  ·subst e;rw [if_neg (by omega),if_pos rfl,if_pos (by omega),Int.zero_add]
  ·rw [if_neg e,Int.add_zero]
   by_cases c:k<n
   ·rw [if_pos c,if_pos (by omega)]
   ·rw [if_neg c,if_neg (by omega)]
theorem Sg_le {f g:Int->Int}:∀ {n:Nat},(∀ i:Int,0<=i->i<n->f i<=g i)->Sg n f<=Sg n g
 | 0,_=>Int.le_refl _
 | n+1,h=>Int.add_le_add (Sg_le (n:=n) λi h0 h1=>h i h0 (by omega)) (h n (by omega) (by omega))
def mm (n:Nat) (A B:Mat):Mat:=λi j=>Sg n λl=>A i l * B l j
theorem mm_assoc {n m:Nat} {A B C:Mat}:mm n (mm m A B) C=mm m A (mm n B C):=by
 funext i j
 show Sg n (λl=>Sg m (λk=>A i k * B k l) * C l j)=Sg m λk=>A i k * Sg n λl=>B k l * C l j
 rw [Sg_congr (g:=λl=>Sg m λk=>A i k * B k l * C l j) λl _ _=>(Sg_mulr).symm,Sg_comm]
 refine Sg_congr λk _ _=>?_
 rw [<- Sg_mul]
 exact Sg_congr λl _ _=>Int.mul_assoc _ _ _
theorem mm_congr {n:Nat} {A B A' B':Mat} {i j:Int} (h:∀ l:Int,0<=l->l<n->A i l=A' i l) (h':∀ l:Int,0<=l->l<n->B l j=B' l j):mm n A B i j=mm n A' B' i j:=
 Sg_congr λl h0 h1=>by rw [h l h0 h1,h' l h0 h1]
def idM:Mat:=λa b=>if a=b then 1 else 0
theorem mm_idl {n:Nat} {A:Mat} {i j:Int} (h0:0<=i) (h:i<n):mm n idM A i j=A i j:=by
 show Sg n (λl=>(if i=l then 1 else 0) * A l j)=_
 rw [Sg_congr (g:=λl=>if l=i then A l j else 0) λl _ _=>by
  by_cases e:l=i
  ·subst e;simp
  ·rw [if_neg e,if_neg (Ne.symm e),Int.zero_mul],Sg_one h0,if_pos h]
def cnt:Nat->(Int->Bool)->Nat
 | 0,_=>0
 | n+1,P=>cnt n P+(if P n then 1 else 0)
theorem cnt_pos {P:Int->Bool}:∀ {n:Nat},0<cnt n P->∃ j:Int,0<=j/\j<n/\P j=true
 | 0,h=>absurd h (Nat.lt_irrefl _)
 | n+1,h=>by
  by_cases c:P n=true
  ·exact ⟨n,by omega,by omega,c⟩
  ·have h:0<cnt n P+(if P n then 1 else 0):=h
   rw [if_neg c] at h
   obtain ⟨j,h1,h2,h3⟩:=cnt_pos (n:=n) h
   exact ⟨j,h1,by omega,h3⟩
theorem cnt_out {P Q:Int->Bool}:∀ {n:Nat},(∀ i:Int,0<=i->i<n->P i=Q i)->cnt n P=cnt n Q
 | 0,_=>rfl
 | n+1,h=>by
  show cnt n P+_=cnt n Q+_
  rw [cnt_out (n:=n) λi h0 h1=>h i h0 (by omega),h n (by omega) (by omega)]
theorem cnt_rem {P:Int->Bool} {c:Int} (h0:0<=c) (hp:P c=true):∀ {n:Nat},c<n->cnt n (λj=>P j&&decide (j≠c))+1=cnt n P
 | 0,h=>by omega
 | n+1,h=>by
  show cnt n (λj=>P j&&decide (j≠c))+(if (P n&&decide ((n:Int)≠c)) then 1 else 0)+1=cnt n P+(if P n then 1 else 0)
  by_cases e:(n:Int)=c
  ·subst e
   rw [cnt_out (n:=n) (Q:=P) λi _ h1=>by rw [decide_eq_true (by omega),Bool.and_true]]
   simp [hp]
  ·have:=cnt_rem h0 hp (n:=n) (by omega)
   rw [decide_eq_true e,Bool.and_true];omega
theorem cnt_all:∀ n:Nat,cnt n (λ_=>true)=n
 | 0=>rfl
 | n+1=>by show cnt n _+1=_;rw [cnt_all n]
def Fac (R C k:Nat) (d:Int) (A:Mat):Prop:=∃ X Y:Mat,∀ i j:Int,0<=i->i<R->0<=j->j<C->d∣A i j - mm k X Y i j
theorem up {R C s:Nat} {d:Int} {D:Mat} (hD:∀ i j:Int,0<=i->i<R->0<=j->j<C->i≠j->D i j=0) (h:∀ i:Int,s<=i->i<R->i<C->d∣D i i):Fac R C s d D:=by
 refine ⟨D,idM,λi j h1 h2 h3 h4=>?_⟩
 have e:mm s D idM i j=if j<s then D i j else 0:=by
  show Sg s (λl=>D i l * (if l=j then 1 else 0))=_
  rw [Sg_congr (g:=λl=>if l=j then D i l else 0) λl _ _=>by by_cases e:l=j <;> simp [e],Sg_one h3]
 rw [e]
 by_cases c:j<s
 ·rw [if_pos c,Int.sub_self];exact ⟨0,(Int.mul_zero _).symm⟩
 ·rw [if_neg c,Int.sub_zero]
  by_cases q:i=j
  ·subst q;exact h i (by omega) h2 h4
  ·rw [hD i j h1 h2 h3 h4 q];exact ⟨0,(Int.mul_zero _).symm⟩
structure Dia (R C:Nat) (D:Mat):Prop where
 o:∀ i j:Int,0<=i->i<R->0<=j->j<C->i≠j->D i j=0
 n:∀ i:Int,0<=i->i<R->i<C->0<=D i i
 c:∀ i j:Int,0<=i->i<=j->j<R->j<C->D i i∣D j j
end Go.Proofs.Ytokekkacliomkaa.AE
end
section
namespace Go.Proofs.Ytokekkacliomkaa.AE
open Go Go.AE Go.Proofs
variable {n:Nat}
def rm (S:Int->Bool) (c:Int):Int->Bool:=λx=>S x&&decide (x≠c)
def ad1 (S:Int->Bool) (c:Int):Int->Bool:=λx=>S x || decide (x=c)
theorem rm_self {S:Int->Bool} {c:Int}:rm S c c=false:=by simp [rm]
theorem rm_ne {S:Int->Bool} {c x:Int} (h:x≠c):rm S c x=S x:=by simp [rm,h]
theorem rm_rm {S:Int->Bool} {c d:Int}:rm (rm S c) d=rm (rm S d) c:=by
 funext x;simp only [rm];cases S x <;> simp [Bool.and_comm]
def sgn:Nat->(Int->Bool)->Int->Int
 | 0,_,_=>1
 | n+1,S,c=>sgn n S c * if S n&&decide (c<n) then -1 else 1
def sg (b:Prop) [Decidable b]:Int:=if b then -1 else 1
theorem sg_sq (b:Prop) [Decidable b]:sg b * sg b=1:=by unfold sg;split <;> rfl
theorem sgn_sq {S:Int->Bool} {c:Int}:∀ n:Nat,sgn n S c * sgn n S c=1
 | 0=>rfl
 | n+1=>by
  have:=sgn_sq (S:=S) (c:=c) n
  show (sgn n S c * if S n&&decide (c<n) then -1 else 1) * (sgn n S c * if S n&&decide (c<n) then -1 else 1)=1
  split
  ·rw [Int.mul_neg,Int.mul_one,Int.neg_mul_neg];exact this
  ·rw [Int.mul_one];exact this
theorem sgn_congr {S T:Int->Bool} {c:Int}:∀ {n:Nat},(∀ x:Int,0<=x->x<n->S x=T x)->sgn n S c=sgn n T c
 | 0,_=>rfl
 | n+1,h=>by
  show sgn n S c * _=sgn n T c * _
  rw [sgn_congr (n:=n) λx h0 h1=>h x h0 (by omega),h n (by omega) (by omega)]
theorem sgn_rm {S:Int->Bool} {c d:Int} (h0:0<=c) (hS:S c=true):∀ {n:Nat},c<n->sgn n (rm S c) d=sgn n S d * sg (d<c)
 | 0,h=>by omega
 | n+1,h=>by
  show sgn n (rm S c) d * (if rm S c n&&decide (d<n) then -1 else 1)=sgn n S d * (if S n&&decide (d<n) then -1 else 1) * sg (d<c)
  by_cases e:(n:Int)=c
  ·subst e
   rw [rm_self,sgn_congr (T:=S) λx _ hx=>rm_ne (by omega),hS]
   unfold sg
   by_cases q:d<n
   ·simp [q]
   ·simp [q]
  ·rw [sgn_rm h0 hS (n:=n) (by omega),rm_ne e,Int.mul_assoc,Int.mul_assoc,Int.mul_comm (sg _)]
theorem sgn_ad {S:Int->Bool} {c d:Int} (h0:0<=c) (hS:S c=false) {n:Nat} (h:c<n):sgn n (ad1 S c) d=sgn n S d * sg (d<c):=by
 have h1:rm (ad1 S c) c=S:=by
  funext x
  by_cases e:x=c
  ·subst e;rw [rm_self,hS]
  ·rw [rm_ne e];simp [ad1,e]
 have h2:=sgn_rm (S:=ad1 S c) (d:=d) h0 (by simp [ad1]) h
 rw [h1] at h2
 rw [h2,Int.mul_assoc,sg_sq,Int.mul_one]
def dt (n:Nat) (A:Mat):Nat->(Int->Bool)->Int
 | 0,_=>1
 | r+1,S=>Sg n λc=>if S c=true then sgn n S c * (A r c * dt n A r (rm S c)) else 0
theorem dt_congr {A B:Mat}:∀ (r:Nat) (S:Int->Bool),(∀ i j:Int,0<=i->i<r->0<=j->j<n->A i j=B i j)->dt n A r S=dt n B r S
 | 0,_,_=>rfl
 | r+1,S,h=>Sg_congr λc h0 h1=>by rw [h r c (by omega) (by omega) h0 h1,dt_congr r _ λi j a b=>h i j a (by omega)]
theorem dt_set {A:Mat}:∀ (r:Nat) {S T:Int->Bool},(∀ x:Int,0<=x->x<n->S x=T x)->dt n A r S=dt n A r T
 | 0,_,_,_=>rfl
 | r+1,S,T,h=>Sg_congr λc h0 h1=>by
  rw [h c h0 h1,sgn_congr h,dt_set r (S:=rm S c) (T:=rm T c) λx a b=>by unfold rm;rw [h x a b]]
def rset (A:Mat) (t:Int) (u:Int->Int):Mat:=λi j=>if i=t then u j else A i j
theorem dt_lin {A:Mat} {t q:Int} {u v:Int->Int} (h0:0<=t):∀ (r:Nat) (S:Int->Bool),t<r->dt n (rset A t λj=>u j+q * v j) r S=dt n (rset A t u) r S+q * dt n (rset A t v) r S
 | 0,_,h=>by omega
 | r+1,S,h=>by
  show Sg n _=Sg n _+q * Sg n _
  rw [<- Sg_mul,<-Sg_add]
  refine Sg_congr λc _ _=>?_
  by_cases hc:S c=true
  ·rw [if_pos hc,if_pos hc,if_pos hc]
   by_cases e:(r:Int)=t
   ·have hz:∀ w,dt n (rset A t w) r (rm S c)=dt n A r (rm S c):=λw=>dt_congr r _ λi j _ hi _ _=>if_neg (by omega)
    rw [hz,hz,hz]
    show sgn n S c * ((if (r:Int)=t then u c+q * v c else _) * _)=sgn n S c * ((if (r:Int)=t then u c else _) * _)+q * (sgn n S c * ((if (r:Int)=t then v c else _) * _))
    rw [if_pos e,if_pos e,if_pos e,Int.add_mul,Int.mul_add,Int.mul_assoc q]
    congr 1
    exact Int.mul_left_comm _ _ _
   ·rw [dt_lin h0 r (rm S c) (by omega)]
    show sgn n S c * ((if (r:Int)=t then _ else A r c) * _)=sgn n S c * ((if (r:Int)=t then _ else A r c) * _)+q * (sgn n S c * ((if (r:Int)=t then _ else A r c) * _))
    rw [if_neg e,if_neg e,if_neg e,Int.mul_add,Int.mul_add,Int.mul_left_comm q,Int.mul_left_comm q]
  ·rw [if_neg hc,if_neg hc,if_neg hc,Int.mul_zero];rfl
theorem anti_sum {g:Int->Int->Int} (h:∀ c d:Int,0<=c->c<n->0<=d->d<n->g c d=- g d c):Sg n (λc=>Sg n λd=>g c d)=0:=by
 have e:Sg n (λc=>Sg n λd=>g c d)=- Sg n (λc=>Sg n λd=>g c d):=by
  have e1:=Sg_comm (m:=n) (f:=g) n
  have e2:Sg n (λj=>Sg n λi=>g i j)=- Sg n (λc=>Sg n λd=>g c d):=by
   rw [show - Sg n (λc=>Sg n λd=>g c d)=-1 * Sg n (λc=>Sg n λd=>g c d) by omega,<-Sg_mul]
   refine Sg_congr λc h0 h1=>?_
   rw [<- Sg_mul]
   exact Sg_congr λd h2 h3=>by rw [h d c h2 h3 h0 h1];omega
  rw [e2] at e1;exact e1
 omega
theorem dt_adj {A:Mat}:∀ (r:Nat) (t:Nat) (S:Int->Bool),t+1<r->(∀ j:Int,0<=j->j<n->A t j=A ((t:Int)+1) j)->dt n A r S=0
 | 0,_,_,h,_=>by omega
 | r+1,t,S,h,hA=>by
  by_cases e:t+1=r
  ·subst e
   have key:dt n A (t+1+1) S=Sg n λc=>Sg n λd=>if S c=true/\S d=true/\c≠d then sgn n S c * sgn n S d * sg (d<c) * (A t c * A t d) * dt n A t (rm (rm S c) d) else 0:=by
    refine Sg_congr λc h0 h1=>?_
    by_cases hc:S c=true
    ·rw [if_pos hc]
     show sgn n S c * (A ((t+1:Nat):Int) c * Sg n λd=>if rm S c d=true then sgn n (rm S c) d * (A t d * dt n A t (rm (rm S c) d)) else 0)=_
     rw [<- Sg_mul,<-Sg_mul]
     refine Sg_congr λd h2 h3=>?_
     by_cases hcd:d=c
     ·subst hcd
      rw [rm_self,if_neg (by simp),if_neg (by simp),Int.mul_zero,Int.mul_zero]
     ·rw [rm_ne hcd]
      by_cases hd:S d=true
      ·rw [if_pos hd,if_pos ⟨hc,hd,Ne.symm hcd⟩,sgn_rm h0 hc h1,show ((t+1:Nat):Int)=(t:Int)+1 by omega,<-hA c h0 h1]
       simp only [Int.mul_assoc]
       congr 1
       rw [Int.mul_left_comm]
       congr 1
       rw [Int.mul_left_comm]
      ·rw [if_neg hd,if_neg λq=>hd q.2.1,Int.mul_zero,Int.mul_zero]
    ·rw [if_neg hc]
     exact (Sg_zero λd _ _=>if_neg λq=>hc q.1).symm
   rw [key]
   refine anti_sum λc d h0 h1 h2 h3=>?_
   by_cases hh:S c=true/\S d=true/\c≠d
   ·rw [if_pos hh,if_pos ⟨hh.2.1,hh.1,Ne.symm hh.2.2⟩,rm_rm (c:=d),Int.mul_comm (sgn n S d),Int.mul_comm (A t d)]
    have:sg (c<d)=- sg (d<c):=by
     unfold sg
     by_cases q:c<d
     ·rw [if_pos q,if_neg (by omega)]
     ·rw [if_neg q,if_pos (by omega)];rfl
    rw [this]
    simp only [Int.mul_neg,Int.neg_mul,Int.neg_neg]
   ·rw [if_neg hh,if_neg λq=>hh ⟨q.2.1,q.1,Ne.symm q.2.2⟩];rfl
  ·refine Sg_zero λc _ _=>?_
   split
   ·rw [dt_adj r t (rm S c) (by omega) hA,Int.mul_zero,Int.mul_zero]
   ·rfl
def tr (A:Mat):Mat:=λi j=>A j i
def cset (A:Mat) (t:Int) (u:Int->Int):Mat:=λi j=>if j=t then u i else A i j
theorem dt_out {A:Mat} {t:Int} {u:Int->Int}:∀ (r:Nat) (S:Int->Bool),S t=false->dt n (cset A t u) r S=dt n A r S
 | 0,_,_=>rfl
 | r+1,S,h=>Sg_congr λc _ _=>by
  by_cases hc:S c=true
  ·have e:c≠t:=λq=>by rw [q,h] at hc;cases hc
   rw [if_pos hc,if_pos hc,dt_out r (rm S c) (by unfold rm;rw [h];rfl)]
   show sgn n S c * ((if c=t then _ else A r c) * _)=_
   rw [if_neg e]
  ·rw [if_neg hc,if_neg hc]
theorem rm_cnt {S:Int->Bool} {c:Int} (h0:0<=c) (h1:c<n) (h:S c=true):cnt n (rm S c)+1=cnt n S:=cnt_rem h0 h h1
theorem cnt_zero {S:Int->Bool} {c:Int} (h0:0<=c) (h1:c<n) (h:S c=true):cnt n S≠0:=λq=>by have:=rm_cnt h0 h1 h;omega
theorem dt_clin {A:Mat} {t q:Int} {u v:Int->Int} (h0:0<=t) (h1:t<n):∀ (r:Nat) (S:Int->Bool),S t=true->cnt n S=r->dt n (cset A t λj=>u j+q * v j) r S=dt n (cset A t u) r S+q * dt n (cset A t v) r S
 | 0,S,hS,hc=>absurd hc (cnt_zero h0 h1 hS)
 | r+1,S,hS,hcn=>by
  show Sg n _=Sg n _+q * Sg n _
  rw [<- Sg_mul,<-Sg_add]
  refine Sg_congr λc c0 c1=>?_
  by_cases hc:S c=true
  ·rw [if_pos hc,if_pos hc,if_pos hc]
   have hn:=rm_cnt c0 c1 hc
   by_cases e:c=t
   ·subst e
    rw [dt_out r _ rm_self,dt_out r _ rm_self,dt_out r _ rm_self]
    show sgn n S c * ((if c=c then u r+q * v r else _) * _)=sgn n S c * ((if c=c then u r else _) * _)+q * (sgn n S c * ((if c=c then v r else _) * _))
    rw [if_pos rfl,if_pos rfl,if_pos rfl,Int.add_mul,Int.mul_add,Int.mul_assoc q]
    congr 1
    exact Int.mul_left_comm _ _ _
   ·rw [dt_clin h0 h1 r (rm S c) (by rw [rm_ne (Ne.symm e)];exact hS) (by omega)]
    show sgn n S c * ((if c=t then _ else A r c) * _)=sgn n S c * ((if c=t then _ else A r c) * _)+q * (sgn n S c * ((if c=t then _ else A r c) * _))
    rw [if_neg e,if_neg e,if_neg e,Int.mul_add,Int.mul_add,Int.mul_left_comm q,Int.mul_left_comm q]
  ·rw [if_neg hc,if_neg hc,if_neg hc,Int.mul_zero];rfl
theorem dt_move {A:Mat} {t f:Int} (t0:0<=t) (tf:t<f) (fn:f<n):∀ (r:Nat) (U:Int->Bool),U t=false->U f=false->cnt n U+1=r->(∀ i:Int,0<=i->i<r->A i t=A i f) ->
  dt n A r (ad1 U f)=sgn n U t * sgn n U f * dt n A r (ad1 U t)
 | 0,U,_,_,h,_=>by omega
 | r+1,U,ht,hf,hcn,hA=>by
  -- the sum over U and one more place
  have split:∀ x:Int,0<=x->x<n->U x=false->dt n A (r+1) (ad1 U x)=sgn n U x * (A r x * dt n A r U)+Sg n λc=>if U c=true then sgn n U c * sg (c<x) * (A r c * dt n A r (ad1 (rm U c) x)) else 0:=λx x0 x1 hx=>by
   have e1:Sg n (λc=>if c=x then sgn n U x * (A r x * dt n A r U) else 0)=sgn n U x * (A r x * dt n A r U):=by
    have:=Sg_one (f:=λ_=>sgn n U x * (A r x * dt n A r U)) x0 (n:=n)
    rw [this,if_pos x1]
   rw [<- e1,<-Sg_add]
   refine Sg_congr λc c0 c1=>?_
   by_cases e:c=x
   ·subst e
    have e2:rm (ad1 U c) c=U:=by
     funext y
     by_cases q:y=c
     ·subst q;rw [rm_self,hx]
     ·rw [rm_ne q];simp [ad1,q]
    rw [if_pos (by simp [ad1]),if_pos rfl,if_neg (by rw [hx];simp),e2,sgn_ad c0 hx c1]
    unfold sg
    rw [if_neg (Int.lt_irrefl _),Int.mul_one,Int.add_zero]
   ·have e3:ad1 U x c=U c:=by simp [ad1,e]
    have e4:rm (ad1 U x) c=ad1 (rm U c) x:=by
     funext y
     simp only [rm,ad1]
     by_cases q:y=x
     ·subst q;simp [Ne.symm e]
     ·simp [q]
    rw [e3,e4,if_neg e,Int.zero_add,sgn_ad x0 hx x1]
  rw [split f (by omega) fn hf,split t t0 (by omega) ht,Int.mul_add]
  have h1:sgn n U t * sgn n U f * (sgn n U t * (A r t * dt n A r U))=sgn n U f * (A r f * dt n A r U):=by
   rw [hA r (by omega) (by omega),Int.mul_comm (sgn n U t) (sgn n U f),Int.mul_assoc,<-Int.mul_assoc (sgn n U t),sgn_sq,Int.one_mul]
  rw [h1,<-Sg_mul]
  congr 1
  refine Sg_congr λc c0 c1=>?_
  by_cases hc:U c=true
  ·have e1:c≠t:=λq=>by rw [q,ht] at hc;cases hc
   have e2:c≠f:=λq=>by rw [q,hf] at hc;cases hc
   have hn:=rm_cnt c0 c1 hc
   rw [if_pos hc,if_pos hc,dt_move t0 tf fn r (rm U c) (by rw [rm_ne (Ne.symm e1)];exact ht) (by rw [rm_ne (Ne.symm e2)];exact hf) (by omega) (λi i0 i1=>hA i i0 (by omega)),sgn_rm c0 hc c1,sgn_rm c0 hc c1]
   have e3:sg (c<f) * (sg (t<c) * sg (f<c))=sg (c<t):=by
    unfold sg
    by_cases q:c<t
    ·rw [if_pos q,if_pos (show c<f by omega),if_neg (show ¬ t<c by omega),if_neg (show ¬ f<c by omega)];rfl
    ·by_cases q2:c<f
     ·rw [if_neg q,if_pos q2,if_pos (show t<c by omega),if_neg (show ¬ f<c by omega)];rfl
     ·rw [if_neg q,if_neg q2,if_pos (show t<c by omega),if_pos (show f<c by omega)];rfl
   rw [<- e3]
   generalize sgn n U c=a
   generalize sgn n U t=b
   generalize sgn n U f=d
   generalize sg (c<f)=p
   generalize sg (t<c)=p2
   generalize sg (f<c)=p3
   generalize A r c=x
   generalize dt n A r (ad1 (rm U c) t)=y
   simp only [Int.mul_assoc,Int.mul_left_comm,Int.mul_comm]
  ·rw [if_neg hc,if_neg hc,Int.mul_zero]
theorem dt_calt {A:Mat} {t f:Int} (t0:0<=t) (tf:t<f) (fn:f<n):∀ (r:Nat) (S:Int->Bool),S t=true->S f=true->cnt n S=r->(∀ i:Int,0<=i->i<r->A i t=A i f)->dt n A r S=0
 | 0,S,ht,_,h,_=>absurd h (cnt_zero t0 (by omega) ht)
 | r+1,S,ht,hf,hcn,hA=>by
  have U0:rm (rm S t) f t=false:=by simp [rm]
  have U1:rm (rm S t) f f=false:=by simp [rm]
  have et:rm S t=ad1 (rm (rm S t) f) f:=by
   funext y
   by_cases q:y=f
   ·subst q;simp [ad1];rw [rm_ne (by omega)];exact hf
   ·simp only [ad1,q,decide_false,Bool.or_false];rw [rm_ne q]
  have ef:rm S f=ad1 (rm (rm S t) f) t:=by
   funext y
   by_cases q:y=t
   ·subst q;simp [ad1];rw [rm_ne (by omega)];exact ht
   ·simp only [ad1,q,decide_false,Bool.or_false];rw [rm_rm,rm_ne q]
  have c1:=rm_cnt t0 (show t<n by omega) ht
  have c2:=rm_cnt (S:=rm S t) (c:=f) (by omega) fn (by rw [rm_ne (by omega)];exact hf)
  have hmv:=dt_move (A:=A) t0 tf fn r (rm (rm S t) f) U0 U1 (by omega) (λi i0 i1=>hA i i0 (by omega))
  rw [<- et,<-ef] at hmv
  have e0:dt n A (r+1) S=Sg n λc=>(if c=t then sgn n S t * (A r t * dt n A r (rm S t)) else 0)+if c=f then sgn n S f * (A r f * dt n A r (rm S f)) else 0:=by
   refine Sg_congr λc c0 c1=>?_
   by_cases q:c=t
   ·subst q;rw [if_pos ht,if_pos rfl,if_neg (by omega),Int.add_zero]
   ·by_cases q2:c=f
    ·subst q2;rw [if_pos hf,if_neg q,if_pos rfl,Int.zero_add]
    ·rw [if_neg q,if_neg q2]
     by_cases hc:S c=true
     ·have hn:=rm_cnt c0 c1 hc
      rw [if_pos hc,dt_calt t0 tf fn r (rm S c) (by rw [rm_ne (Ne.symm q)];exact ht) (by rw [rm_ne (Ne.symm q2)];exact hf) (by omega) (λi i0 i1=>hA i i0 (by omega)),Int.mul_zero,Int.mul_zero];rfl
     ·rw [if_neg hc];rfl
  have s1:=Sg_one (f:=λ_=>sgn n S t * (A r t * dt n A r (rm S t))) t0 (n:=n)
  have s2:=Sg_one (f:=λ_=>sgn n S f * (A r f * dt n A r (rm S f))) (show 0<=f by omega) (n:=n)
  rw [e0,Sg_add,s1,s2,if_pos (by omega),if_pos fn,hmv,hA r (by omega) (by omega)]
  -- signs
  have g1:sgn n (rm (rm S t) f) t=- sgn n S t:=by
   rw [sgn_rm (by omega) (by rw [rm_ne (by omega)];exact hf) fn,sgn_rm t0 ht (by omega)]
   unfold sg
   rw [if_neg (Int.lt_irrefl _),if_pos tf];omega
  have g2:sgn n (rm (rm S t) f) f=sgn n S f:=by
   rw [sgn_rm (by omega) (by rw [rm_ne (by omega)];exact hf) fn,sgn_rm t0 ht (by omega)]
   unfold sg
   rw [if_neg (by omega),if_neg (Int.lt_irrefl _)];omega
  rw [g1,g2]
  have sq:=sgn_sq (S:=S) (c:=t) n
  generalize sgn n S t=a at *
  generalize sgn n S f=b at *
  generalize A r f=x
  generalize dt n A r (rm S f)=y
  have:a * (x * (-a * b * y))=- (a * a * (b * (x * y))):=by
   simp only [Int.neg_mul,Int.mul_neg,Int.mul_assoc,Int.mul_left_comm]
  rw [this,sq]
  omega
end Go.Proofs.Ytokekkacliomkaa.AE
end
section
namespace Go.Proofs.Ytokekkacliomkaa.AE
open Go Go.AE Go.Proofs
def sw (i k a:Int):Int:=if a=i then k else if a=k then i else a
def swR (A:Mat) (i k:Int):Mat:=λa b=>A (sw i k a) b
def swC (A:Mat) (j k:Int):Mat:=λa b=>A a (sw j k b)
def ngR (A:Mat) (k:Int):Mat:=λa b=>if a=k then - A a b else A a b
def ngC (A:Mat) (k:Int):Mat:=λa b=>if b=k then - A a b else A a b
def Bd (R C:Nat) (A:Mat):Prop:=∀ i j:Int,0<=i->i<R->0<=j->j<C->-1000000000000<=A i j/\A i j<=1000000000000
variable {R C F:Nat} {A:Mat} {i j k:Int}
theorem at_mk (hR:R<=1000) (hC:C<=1000) (hi0:0<=i) (hi:i<R) (hj0:0<=j) (hj:j<C):aE.p F C (mk R C A) i j=some (A i j):=by
 unfold aE.p
 simp (disch:=omega) only [ca,cz,Option.bind_some]
theorem YN (hR:R<=1000) (hC:C<=1000) (hi0:0<=i) (hi:i<R) (hk0:0<=k) (hk:k<R):∀ (n f:Nat) (A:Mat) (j:Int),C - j=n->n<f->0<=j ->
  aS.pl7 F f i k C (mk R C A) j=some (mk R C λa b=>if j<=b then A (sw i k a) b else A a b):=by
 intro n
 induction n with
 | zero=>
  intro f A j hn hf hj
  obtain ⟨f,rfl⟩:∃ f',f=f'+1:=⟨f - 1,by omega⟩
  rw [aS.pl7,show decide (j<(C:Int))=false from decide_eq_false (by omega),cond_false]
  congr 1
  apply bl
  intro a b _ _ _ _
  rw [if_neg (by omega)]
 | succ n ih=>
  intro f A j hn hf hj
  obtain ⟨f,rfl⟩:∃ f',f=f'+1:=⟨f - 1,by omega⟩
  rw [aS.pl7,show decide (j<(C:Int))=true from decide_eq_true (by omega),cond_true]
  simp (disch:=omega) only [at_mk,ca,cz,dN,Option.bind_some,ap]
  rw [ih _ _ _ (by omega) (by omega) (by omega)]
  congr 1
  apply bl
  intro a b _ _ _ _
  unfold upd sw
  grind
theorem zf (hR:R<=1000) (hC:C<=1000) (hF:C<F) (hi0:0<=i) (hi:i<R) (hk0:0<=k) (hk:k<R):aS.p F C (mk R C A) i k=some (mk R C (swR A i k)):=by
 unfold aS.p
 rw [YN hR hC hi0 hi hk0 hk C F A 0 (by omega) hF (by omega)]
 apply congrArg some
 apply bl
 intro a b _ _ _ _
 exact if_pos (by omega)
end Go.Proofs.Ytokekkacliomkaa.AE
end
section
namespace Go.Proofs.Ytokekkacliomkaa.AE
open Go Go.AE Go.Proofs
variable {R C F:Nat} {A:Mat} {i j k:Int}
def ab (x:Int):Int:=if x<0 then -x else x
def okm (x y:Int):Prop:=ab (x * y)<=2000000000000
instance (x y:Int):Decidable (okm x y):=by unfold okm;infer_instance
theorem ab_bd {x m:Int} (h:ab x<=m):-m<=x/\x<=m:=by unfold ab at h;split at h <;> omega
def fit (x y b:Int):Prop:=okm y b/\ab (x+y * b)<=1000000000000
instance (x y b:Int):Decidable (fit x y b):=by unfold fit;infer_instance
def ad (x y b:Int):Int:=if fit x y b then x+y * b else 0
theorem ad_bd (x y b:Int):ab (ad x y b)<=1000000000000:=by
 unfold ad
 split
 ·rename_i h;exact h.2
 ·decide
theorem ad_fit {x y b:Int} (h:fit x y b):ad x y b=x+y * b:=if_pos h
def adR (A:Mat) (t f b:Int):Mat:=λi j=>if i=t then ad (A t j) (A f j) b else A i j
def adC (A:Mat) (t f b:Int):Mat:=λi j=>if j=t then ad (A i t) (A i f) b else A i j
theorem Bd.ab {i j:Int} (h:Bd R C A) (hi0:0<=i) (hi:i<R) (hj0:0<=j) (hj:j<C):ab (A i j)<=1000000000000:=by
 have:=h i j hi0 hi hj0 hj
 unfold AE.ab;split <;> omega
theorem Bd.upd {i j x:Int} (h:Bd R C A) (hx:AE.ab x<=1000000000000):Bd R C (upd A i j x):=by
 intro a b h1 h2 h3 h4
 have:=h a b h1 h2 h3 h4
 have:=ab_bd hx
 unfold Go.AE.upd
 split <;> omega
def nfR (C:Nat) (A:Mat) (t f q:Int):Prop:=∃ b:Int,0<=b/\b<C/\¬ fit (A t b) (A f b) q
def nfC (R:Nat) (A:Mat) (t f q:Int):Prop:=∃ b:Int,0<=b/\b<R/\¬ fit (A b t) (A b f) q
theorem Bd.adR {t f q:Int} (h:Bd R C A):Bd R C (adR A t f q):=by
 intro a b h1 h2 h3 h4
 have:=h a b h1 h2 h3 h4
 have:=ab_bd (ad_bd (A t b) (A f b) q)
 unfold AE.adR
 split <;> omega
theorem Bd.adC {t f q:Int} (h:Bd R C A):Bd R C (adC A t f q):=by
 intro a b h1 h2 h3 h4
 have:=h a b h1 h2 h3 h4
 have:=ab_bd (ad_bd (A a t) (A a f) q)
 unfold AE.adC
 split <;> omega
end Go.Proofs.Ytokekkacliomkaa.AE
end
section
namespace Go.Proofs.Ytokekkacliomkaa.AE
open Go Go.AE Go.Proofs
variable {R C F:Nat} {A:Mat} {i j k:Int}
end Go.Proofs.Ytokekkacliomkaa.AE
end
section
namespace Go.Proofs.Ytokekkacliomkaa.AE
open Go Go.AE Go.Proofs
variable {R C F:Nat} {A:Mat} {i j k:Int}
end Go.Proofs.Ytokekkacliomkaa.AE
end
section
namespace Go.Proofs.Ytokekkacliomkaa.AE
open Go Go.AE Go.Proofs
variable {R C F:Nat} {A:Mat} {i j k:Int}
structure St where
 d:Mat
 l:Mat
 m:Mat
 r:Mat
 s:Mat
def swS (t:St) (p q k:Int):St:=⟨swC (swR t.d p k) q k,swR t.l p k,swC t.m p k,swC t.r q k,swR t.s q k⟩
def ngS (t:St) (k:Int):St:=⟨ngR t.d k,ngR t.l k,ngC t.m k,t.r,t.s⟩
theorem sw_in {i k a:Int} (hi0:0<=i) (hi:i<R) (hk0:0<=k) (hk:k<R) (ha0:0<=a) (ha:a<R):0<=sw i k a/\sw i k a<R:=by
 unfold sw;split
 ·omega
 ·split <;> omega
theorem Bd.swR (h:Bd R C A) (hi0:0<=i) (hi:i<R) (hk0:0<=k) (hk:k<R):Bd R C (swR A i k):=by
 intro a b h1 h2 h3 h4
 obtain ⟨g1,g2⟩:=sw_in hi0 hi hk0 hk h1 h2
 exact h _ _ g1 g2 h3 h4
theorem Bd.swC (h:Bd R C A) (hi0:0<=j) (hi:j<C) (hk0:0<=k) (hk:k<C):Bd R C (swC A j k):=by
 intro a b h1 h2 h3 h4
 obtain ⟨g1,g2⟩:=sw_in hi0 hi hk0 hk h3 h4
 exact h _ _ h1 h2 g1 g2
theorem Bd.ngR (h:Bd R C A):Bd R C (ngR A k):=by
 intro a b h1 h2 h3 h4
 have:=h a b h1 h2 h3 h4
 unfold AE.ngR;split <;> omega
theorem Bd.ngC (h:Bd R C A):Bd R C (ngC A k):=by
 intro a b h1 h2 h3 h4
 have:=h a b h1 h2 h3 h4
 unfold AE.ngC;split <;> omega
def pvS (t:St) (p q k:Int):St:=if (swS t p q k).d k k<0 then ngS (swS t p q k) k else swS t p q k
end Go.Proofs.Ytokekkacliomkaa.AE
end
section
namespace Go.Proofs.Ytokekkacliomkaa.AE
open Go Go.AE Go.Proofs
variable {R C n:Nat} {A B:Mat} {u v:St} {k e:Int}
def On (R C:Nat) (A B:Mat):Prop:=∀ i j:Int,0<=i->i<R->0<=j->j<C->A i j=B i j
theorem On.refl:On R C A A:=λ_ _ _ _ _ _=>rfl
theorem On.symm (h:On R C A B):On R C B A:=λi j h1 h2 h3 h4=>(h i j h1 h2 h3 h4).symm
theorem On.trans {D:Mat} (h:On R C A B) (h':On R C B D):On R C A D:=λi j h1 h2 h3 h4=>(h i j h1 h2 h3 h4).trans (h' i j h1 h2 h3 h4)
theorem On.mm {A' B':Mat} (h:On R n A A') (h':On n C B B'):On R C (mm n A B) (mm n A' B'):=λi j h1 h2 h3 h4=>
 mm_congr (λl h5 h6=>h i l h1 h2 h5 h6) λl h5 h6=>h' l j h5 h6 h3 h4
theorem On.idl:On n C (AE.mm n idM A) A:=λ_ _ h1 h2 _ _=>mm_idl h1 h2
structure Red (R C:Nat) (A:Mat) (v:St):Prop where
 d:On R C v.d (mm C (mm R v.l A) v.r)
 lm:On R R (mm R v.l v.m) idM
 ml:On R R (mm R v.m v.l) idM
 rs:On C C (mm C v.r v.s) idM
 sr:On C C (mm C v.s v.r) idM
theorem Red.row {E E':Mat} (h:Red R C A u) (h1:On R R (mm R E E') idM) (h2:On R R (mm R E' E) idM) (d:On R C v.d (mm R E u.d)) (l:On R R v.l (mm R E u.l)) (m:On R R v.m (mm R u.m E')) (r:v.r=u.r) (s:v.s=u.s):Red R C A v where
 d:=by
  rw [r]
  refine d.trans ((On.mm On.refl h.d).trans ?_)
  rw [<- mm_assoc,<-mm_assoc]
  exact On.mm (On.mm l.symm On.refl) On.refl
 lm:=by
  refine (On.mm l m).trans ?_
  rw [mm_assoc,<-mm_assoc (A:=u.l)]
  exact (On.mm On.refl ((On.mm h.lm On.refl).trans On.idl)).trans h1
 ml:=by
  refine (On.mm m l).trans ?_
  rw [mm_assoc,<-mm_assoc (A:=E')]
  exact (On.mm On.refl ((On.mm h2 On.refl).trans On.idl)).trans h.ml
 rs:=by rw [r,s];exact h.rs
 sr:=by rw [r,s];exact h.sr
theorem Red.col {E E':Mat} (h:Red R C A u) (h1:On C C (mm C E E') idM) (h2:On C C (mm C E' E) idM) (d:On R C v.d (mm C u.d E)) (r:On C C v.r (mm C u.r E)) (s:On C C v.s (mm C E' u.s)) (l:v.l=u.l) (m:v.m=u.m):Red R C A v where
 d:=by
  rw [l]
  refine d.trans ((On.mm h.d On.refl).trans ?_)
  rw [mm_assoc]
  exact On.mm On.refl r.symm
 rs:=by
  refine (On.mm r s).trans ?_
  rw [mm_assoc,<-mm_assoc (A:=E)]
  exact (On.mm On.refl ((On.mm h1 On.refl).trans On.idl)).trans h.rs
 sr:=by
  refine (On.mm s r).trans ?_
  rw [mm_assoc,<-mm_assoc (A:=u.s)]
  exact (On.mm On.refl ((On.mm h.sr On.refl).trans On.idl)).trans h2
 lm:=by rw [l,m];exact h.lm
 ml:=by rw [l,m];exact h.ml
theorem sw_sw (p k x:Int):sw p k (sw p k x)=x:=by unfold sw;grind
def rowS (u:St) (t f b:Int):St:=⟨adR u.d t f b,adR u.l t f b,adC u.m f t (-b),u.r,u.s⟩
def colS (u:St) (t f b:Int):St:=⟨adC u.d t f b,u.l,u.m,adC u.r t f b,adR u.s f t (-b)⟩
inductive Rch (R C:Nat) (k:Int):St->St->Prop
 | refl (u:St):Rch R C k u u
 | piv (u:St) (p q x:Int) (hp:k<=p) (hpR:p<R) (hq:k<=q) (hqC:q<C) (hx:k<=x) (hxR:x<R) (hxC:x<C):Rch R C k u (pvS u p q x)
 | row (u:St) (t f b:Int) (ht:k<=t) (htR:t<R) (hf:k<=f) (hfR:f<R) (htf:t≠f) (n1:¬ nfR C u.d t f b) (n2:¬ nfR R u.l t f b) (n3:¬ nfC R u.m f t (-b)):Rch R C k u (rowS u t f b)
 | col (u:St) (t f b:Int) (ht:k<=t) (htC:t<C) (hf:k<=f) (hfC:f<C) (htf:t≠f) (n1:¬ nfC R u.d t f b) (n2:¬ nfC C u.r t f b) (n3:¬ nfR C u.s f t (-b)):Rch R C k u (colS u t f b)
 | trans {u v w:St} (h:Rch R C k u v) (h':Rch R C k v w):Rch R C k u w
theorem Rch.mono {k k':Int} (h:Rch R C k u v) (hk:k'<=k):Rch R C k' u v:=by
 induction h with
 | refl=>exact .refl _
 | trans _ _ ih ih'=>exact .trans ih ih'
 | piv u p q x a b c d e f g=>exact .piv u p q x (by omega) b (by omega) d (by omega) f g
 | row u t f b c d e g h n1 n2 n3=>exact .row u t f b (by omega) d (by omega) g h n1 n2 n3
 | col u t f b c d e g h n1 n2 n3=>exact .col u t f b (by omega) d (by omega) g h n1 n2 n3
theorem adR_on {t f b:Int} (n1:¬ nfR C A t f b):On R C (adR A t f b) (λi j=>A i j+if i=t then b * A f j else 0):=λi j _ _ h3 h4=>by
 show (if i=t then ad (A t j) (A f j) b else A i j)=A i j+if i=t then b * A f j else 0
 by_cases e:i=t
 ·subst e
  rw [if_pos rfl,if_pos rfl,ad_fit (Classical.byContradiction λhh=>n1 ⟨j,h3,h4,hh⟩),Int.mul_comm b]
 ·rw [if_neg e,if_neg e,Int.add_zero]
theorem adC_on {t f b:Int} (n1:¬ nfC R A t f b):On R C (adC A t f b) (λi j=>A i j+if j=t then A i f * b else 0):=λi j h1 h2 _ _=>by
 show (if j=t then ad (A i t) (A i f) b else A i j)=A i j+if j=t then A i f * b else 0
 by_cases e:j=t
 ·subst e
  rw [if_pos rfl,if_pos rfl,ad_fit (Classical.byContradiction λhh=>n1 ⟨i,h1,h2,hh⟩)]
 ·rw [if_neg e,if_neg e,Int.add_zero]
def Zr (R C:Nat) (k:Int) (u:St):Prop:=∀ i j:Int,0<=i->i<R->0<=j->j<C->i≠j->(i<k\/j<k)->u.d i j=0
def Dv (R C:Nat) (k e:Int) (u:St):Prop:=∀ i j:Int,k<=i->i<R->k<=j->j<C->e∣u.d i j
theorem sw_lo {p k x a:Int} (hp:k<=p) (hx:k<=x) (ha:a<k):sw p x a=a:=by unfold sw;rw [if_neg (by omega),if_neg (by omega)]
theorem sw_hi {p k x a:Int} {N:Nat} (hp:k<=p) (hpN:p<N) (hx:k<=x) (hxN:x<N) (ha:k<=a) (haN:a<N):k<=sw p x a/\sw p x a<N:=by unfold sw;split <;> (try split) <;> omega
theorem Rch.same (hk:0<=k) (h:Rch R C k u v):∀ a:Int,0<=a->a<k->v.d a a=u.d a a:=by
 induction h with
 | refl=>exact λ_ _ _=>rfl
 | trans _ _ ih ih'=>exact λa h1 h2=>(ih' a h1 h2).trans (ih a h1 h2)
 | piv u p q x hp hpR hq hqC hx hxR hxC=>
  intro a h1 h2
  have e:(swS u p q x).d a a=u.d a a:=by
   show u.d (sw p x a) (sw q x a)=_
   rw [sw_lo hp hx h2,sw_lo hq hx h2]
  unfold pvS
  split
  ·show ngR (swS u p q x).d x a a=_
   unfold ngR;rw [if_neg (by omega)];exact e
  ·exact e
 | row u t f b ht htR hf hfR htf n1 n2 n3=>intro a h1 h2;show (if a=t then _ else u.d a a)=_;rw [if_neg (by omega)]
 | col u t f b ht htR hf hfR htf n1 n2 n3=>intro a h1 h2;show (if a=t then _ else u.d a a)=_;rw [if_neg (by omega)]
structure Stg (R C:Nat) (k:Int) (u:St):Prop where
 z:Zr R C k u
 n:∀ a:Int,0<=a->a<k->a<R->a<C->0<=u.d a a
 c:∀ a b:Int,0<=a->a<=b->b<k->b<R->b<C->u.d a a∣u.d b b
 l:∀ a:Int,0<=a->a<k->a<R->a<C->Dv R C k (u.d a a) u
structure Clr (R C:Nat) (k:Int) (u:St):Prop where
 a:∀ a:Int,k<a->a<R->u.d a k=0
 b:∀ b:Int,k<b->b<C->u.d k b=0
 d:∀ a b:Int,k<a->a<R->k<b->b<C->u.d k k∣u.d a b
theorem Stg.next (hk:0<=k) (hkR:k<R) (hkC:k<C) (hs:Stg R C k u) (hc:Clr R C k u) (h0:0<=u.d k k):Stg R C (k+1) u where
 z:=λi j h1 h2 h3 h4 h5 h6=>by
  by_cases c1:i<k\/j<k
  ·exact hs.z i j h1 h2 h3 h4 h5 c1
  ·by_cases c2:i=k
   ·subst c2;exact hc.b j (by omega) h4
   ·obtain rfl:j=k:=by omega
    exact hc.a i (by omega) h2
 n:=λa h1 h2 h3 h4=>by
  by_cases e:a=k
  ·subst e;exact h0
  ·exact hs.n a h1 (by omega) h3 h4
 c:=λa b h1 h2 h3 h4 h5=>by
  by_cases e:b=k
  ·subst e
   by_cases e':a=b
   ·subst e';exact Int.dvd_refl _
   ·exact hs.l a h1 (by omega) (by omega) (by omega) b b (by omega) h4 (by omega) h5
  ·exact hs.c a b h1 h2 (by omega) h4 h5
 l:=λa h1 h2 h3 h4 i j h5 h6 h7 h8=>by
  by_cases e:a=k
  ·subst e;exact hc.d i j (by omega) h6 (by omega) h8
  ·exact hs.l a h1 (by omega) h3 h4 i j (by omega) h6 (by omega) h8
theorem Stg.zero:Stg R C 0 u:=⟨λi j h1 h2 h3 h4 _ h6=>by omega,λa h1 h2=>by omega,λa b h1 h2 h3=>by omega,λa h1 h2=>by omega⟩
end Go.Proofs.Ytokekkacliomkaa.AE
end
section
namespace Go.Proofs.Ytokekkacliomkaa.AE
open Go Go.AE Go.Proofs
variable {n:Nat} {A B:Mat}
def det (n:Nat) (A:Mat):Int:=dt n A n λ_=>true
structure ML (n:Nat) (f:Mat->Int):Prop where
 cg:∀ {A B:Mat},On n n A B->f A=f B
 lin:∀ (A:Mat) (t q:Int) (u v:Int->Int),0<=t->t<n->f (rset A t λj=>u j+q * v j)=f (rset A t u)+q * f (rset A t v)
 alt:∀ (A:Mat) (i k:Int),0<=i->i<k->k<n->(∀ j:Int,0<=j->j<n->A i j=A k j)->f A=0
theorem rset_self {A:Mat} {t:Int}:rset A t (A t)=A:=by
 funext i j;unfold rset;split
 ·rename_i h;rw [h]
 ·rfl
theorem rset_rset {A:Mat} {t:Int} {u v:Int->Int}:rset (rset A t u) t v=rset A t v:=by
 funext i j;unfold rset;split <;> rfl
theorem rset_comm {A:Mat} {s t:Int} {u v:Int->Int} (h:s≠t):rset (rset A s u) t v=rset (rset A t v) s u:=by
 funext i j;unfold rset
 by_cases e:i=t
 ·rw [if_pos e,if_neg (by omega),if_pos e]
 ·rw [if_neg e];split
  ·rfl
  ·simp [e]
section
variable {f:Mat->Int} (h:ML n f)
include h
theorem ML.add1 (A:Mat) (t:Int) (u v:Int->Int) (h0:0<=t) (h1:t<n):f (rset A t λj=>u j+v j)=f (rset A t u)+f (rset A t v):=by
 have:=h.lin A t 1 u v h0 h1
 rw [Int.one_mul] at this
 rw [<- this];congr 2;funext j;rw [Int.one_mul]
theorem ML.alt' (A:Mat) (i k:Int) (hi:0<=i/\i<n) (hk:0<=k/\k<n) (hne:i≠k) (e:∀ j:Int,0<=j->j<n->A i j=A k j):f A=0:=by
 by_cases c:i<k
 ·exact h.alt A i k hi.1 c hk.2 e
 ·exact h.alt A k i hk.1 (by omega) hi.2 λj a b=>(e j a b).symm
theorem ML.zero (A:Mat) (t:Int) (h0:0<=t) (h1:t<n):f (rset A t λ_=>0)=0:=by
 have:=h.lin A t (-1) (A t) (A t) h0 h1
 have e:(λj=>A t j+-1 * A t j)=λ_=>(0:Int):=by funext j;omega
 rw [e] at this
 omega
theorem ML.scale (A:Mat) (t q:Int) (u:Int->Int) (h0:0<=t) (h1:t<n):f (rset A t λj=>q * u j)=q * f (rset A t u):=by
 have:=h.lin A t q (λ_=>0) u h0 h1
 have e:(λj=>0+q * u j)=λj=>q * u j:=by funext j;omega
 rw [e,h.zero A t h0 h1] at this
 omega
theorem ML.addr (A:Mat) (t k q:Int) (ht:0<=t/\t<n) (hk:0<=k/\k<n) (hne:t≠k):f (rset A t λj=>A t j+q * A k j)=f A:=by
 rw [h.lin A t q (A t) (A k) ht.1 ht.2,rset_self,h.alt' (rset A t (A k)) t k ht hk hne λj _ _=>by unfold rset;rw [if_pos rfl,if_neg (Ne.symm hne)],Int.mul_zero,Int.add_zero]
theorem ML.swp (A:Mat) (i k:Int) (hi:0<=i/\i<n) (hk:0<=k/\k<n) (hne:i≠k):f (swR A i k)=- f A:=by
 have z:∀ u:Int->Int,f (rset (rset A i u) k u)=0:=λu=>h.alt' _ i k hi hk hne λj _ _=>by
  show (if i=k then u j else if i=i then u j else A i j)=if k=k then u j else _
  rw [if_neg hne,if_pos rfl,if_pos rfl]
 have e0:=z λj=>A i j+A k j
 rw [h.add1 _ k (A i) (A k) hk.1 hk.2,rset_comm hne,rset_comm hne,h.add1 _ i (A i) (A k) hi.1 hi.2,h.add1 _ i (A i) (A k) hi.1 hi.2] at e0
 have e1:f (rset (rset A k (A i)) i (A i))=0:=by rw [<- rset_comm hne];exact z _
 have e2:f (rset (rset A k (A k)) i (A k))=0:=by rw [<- rset_comm hne];exact z _
 have e3:rset (rset A k (A k)) i (A i)=A:=by rw [rset_self,rset_self]
 have e4:rset (rset A k (A i)) i (A k)=swR A i k:=by
  funext a b
  unfold rset swR sw
  by_cases q:a=i
  ·rw [if_pos q,if_pos q]
  ·rw [if_neg q,if_neg q]
   by_cases q2:a=k
   ·rw [if_pos q2,if_pos q2]
   ·rw [if_neg q2,if_neg q2]
 rw [e1,e2,e3,e4] at e0
 omega
theorem ML.neg (A:Mat) (k:Int) (hk:0<=k/\k<n):f (ngR A k)=- f A:=by
 have:=h.scale A k (-1) (A k) hk.1 hk.2
 rw [rset_self] at this
 have e:rset A k (λj=>-1 * A k j)=ngR A k:=by
  funext a b;unfold rset ngR
  by_cases q:a=k
  ·rw [if_pos q,if_pos q,q];show -1 * A k b=_;omega
  ·rw [if_neg q,if_neg q]
 rw [e] at this
 omega
end
theorem det_ml:ML n (det n) where
 cg:=λh=>dt_congr n _ λi j a b c d=>h i j a b c d
 lin:=λA t q u v h0 h1=>dt_lin h0 n _ h1
 alt:=by
  intro A i k h0 hik hkn hA
  obtain ⟨i,rfl⟩:=Int.eq_ofNat_of_zero_le h0
  obtain ⟨d,hd⟩:∃ d:Nat,k=(i:Int)+1+d:=⟨(k - i - 1).toNat,by omega⟩
  subst hd
  clear hik
  induction d generalizing A with
  | zero=>exact dt_adj n i _ (by omega) λj a b=>by rw [hA j a b];simp
  | succ d ih=>
   -- the row k and the one bX of it exchanged
   have adj:∀ (B:Mat) (t:Nat),t+1<n->(∀ j:Int,0<=j->j<n->B t j=B ((t:Int)+1) j)->det n B=0:=λB t ht hB=>dt_adj n t _ ht hB
   obtain ⟨t,ht⟩:∃ t:Nat,t=i+1+d:=⟨_,rfl⟩
   have hne:(t:Int)≠(t:Int)+1:=by omega
   have z:∀ u:Int->Int,det n (rset (rset A t u) ((t:Int)+1) u)=0:=λu=>adj _ t (by omega) λj _ _=>by
    show (if (t:Int)=(t:Int)+1 then u j else if (t:Int)=t then u j else A t j)=if (t:Int)+1=(t:Int)+1 then u j else _
    rw [if_neg hne,if_pos rfl,if_pos rfl]
   have l1:∀ (B:Mat) (s:Int) (u v:Int->Int),0<=s->s<n->det n (rset B s λj=>u j+v j)=det n (rset B s u)+det n (rset B s v):=λB s u v s0 s1=>by
    have:=dt_lin (n:=n) (A:=B) (q:=1) (u:=u) (v:=v) s0 n (λ_=>true) s1
    rw [Int.one_mul] at this
    unfold det
    rw [<- this];congr 2;funext j;rw [Int.one_mul]
   have e0:=z λj=>A t j+A ((t:Int)+1) j
   rw [l1 _ _ _ _ (by omega) (by omega),rset_comm hne,rset_comm hne,l1 _ _ _ _ (by omega) (by omega),l1 _ _ _ _ (by omega) (by omega)] at e0
   have e1:det n (rset (rset A ((t:Int)+1) (A t)) t (A t))=0:=by rw [<- rset_comm hne];exact z _
   have e2:det n (rset (rset A ((t:Int)+1) (A ((t:Int)+1))) t (A ((t:Int)+1)))=0:=by rw [<- rset_comm hne];exact z _
   have e3:rset (rset A ((t:Int)+1) (A ((t:Int)+1))) t (A t)=A:=by rw [rset_self,rset_self]
   have e4:det n (rset (rset A ((t:Int)+1) (A t)) t (A ((t:Int)+1)))=0:=by
    refine ih _ (by omega) λj a b=>?_
    show (if (i:Int)=t then _ else if (i:Int)=(t:Int)+1 then _ else A i j)=if (i:Int)+1+d=t then A ((t:Int)+1) j else _
    rw [if_neg (by omega),if_neg (by omega),if_pos (by omega),hA j a b]
    congr 1;omega
   rw [e1,e2,e3,e4] at e0
   omega
theorem tr_rset {A:Mat} {t:Int} {u:Int->Int}:tr (rset A t u)=cset (tr A) t u:=by funext i j;rfl
theorem tr_ml:ML n λA=>det n (tr A) where
 cg:=λh=>dt_congr n _ λi j a b c d=>h j i c d a b
 lin:=λA t q u v h0 h1=>by
  show det n _=det n _+q * det n _
  rw [tr_rset,tr_rset,tr_rset]
  exact dt_clin h0 h1 n _ rfl (cnt_all n)
 alt:=λA i k h0 hik hkn hA=>dt_calt h0 hik hkn n _ rfl rfl (cnt_all n) λj a b=>hA j a b
def Pi:Nat->(Int->Int)->Int
 | 0,_=>1
 | n+1,f=>Pi n f * f n
theorem dt_diag (hD:∀ i j:Int,0<=i->i<n->0<=j->j<n->i≠j->A i j=0):∀ r:Nat,r<=n->dt n A r (λx=>decide (x<r))=Pi r λi=>A i i
 | 0,_=>rfl
 | r+1,h=>by
  have e:dt n A (r+1) (λx=>decide (x<((r+1:Nat):Int)))=Sg n λc=>if c=(r:Int) then A r r * Pi r (λi=>A i i) else 0:=by
   refine Sg_congr λc c0 c1=>?_
   by_cases q:c=r
   ·subst q
    rw [if_pos rfl,if_pos (by simp;omega)]
    have e1:dt n A r (rm (λx=>decide (x<((r+1:Nat):Int))) r)=dt n A r (λx=>decide (x<r)):=dt_set r λx _ _=>by
     unfold rm
     by_cases q1:x<r
     ·simp [q1];omega
     ·simp [q1];omega
    have e2:sgn n (λx=>decide (x<((r+1:Nat):Int))) r=1:=by
     have:∀ m:Nat,sgn m (λx=>decide (x<((r+1:Nat):Int))) r=1:=λm=>by
      induction m with
      | zero=>rfl
      | succ m ih=>
       show sgn m _ _ * _=1
       rw [ih,if_neg (by simp;omega)];rfl
     exact this n
    rw [e1,e2,dt_diag hD r (by omega)];omega
   ·rw [if_neg q]
    split
    ·rw [hD r c (by omega) (by omega) c0 c1 (Ne.symm q),Int.zero_mul,Int.mul_zero]
    ·rfl
  have s:=Sg_one (f:=λ_=>A r r * Pi r (λi=>A i i)) (k:=(r:Int)) (by omega) (n:=n)
  rw [e,s,if_pos (by omega),Int.mul_comm];rfl
theorem det_diag (hD:∀ i j:Int,0<=i->i<n->0<=j->j<n->i≠j->A i j=0):det n A=Pi n λi=>A i i:=by
 rw [<- dt_diag hD n (Nat.le_refl _)]
 exact dt_set n λx _ hx=>(decide_eq_true hx).symm
def DetC (n:Nat) (A:Mat):Prop:=det n A=det n (tr A)
theorem DetC.tr (h:DetC n (tr A)):DetC n A:=h.symm
theorem diagC (hD:∀ i j:Int,0<=i->i<n->0<=j->j<n->i≠j->A i j=0):DetC n A:=det_ml.cg λi j a b c d=>by
 show A i j=A j i
 by_cases e:i=j
 ·rw [e]
 ·rw [hD i j a b c d e,hD j i c d a b (Ne.symm e)]
theorem DetC.swp (i k:Int) (hi:0<=i/\i<n) (hk:0<=k/\k<n) (hne:i≠k) (h:DetC n (swR A i k)):DetC n A:=by
 unfold DetC at *
 have a:=det_ml.swp A i k hi hk hne
 have b:=tr_ml.swp A i k hi hk hne
 have b:det n (AE.tr (swR A i k))=- det n (AE.tr A):=b
 omega
theorem DetC.rowc (t k p q:Int) (ht:0<=t/\t<n) (hk:0<=k/\k<n) (hne:t≠k) (hp:p≠0) (h:DetC n (rset A t λj=>p * A t j+q * A k j)):DetC n A:=by
 unfold DetC at *
 have key:∀ f:Mat->Int,ML n f->f (rset A t λj=>p * A t j+q * A k j)=p * f A:=λf hf=>by
  have e:=hf.addr (rset A t λj=>p * A t j) t k q ht hk hne
  have e1:rset (rset A t λj=>p * A t j) t (λj=>rset A t (λj=>p * A t j) t j+q * rset A t (λj=>p * A t j) k j)=rset A t λj=>p * A t j+q * A k j:=by
   rw [rset_rset]
   congr 1
   funext j
   unfold rset
   rw [if_pos rfl,if_neg (Ne.symm hne)]
  rw [e1,hf.scale A t p (A t) ht.1 ht.2,rset_self] at e
  exact e
 have a:=key _ det_ml
 have b:=key _ tr_ml
 have b:det n (AE.tr (rset A t λj=>p * A t j+q * A k j))=p * det n (AE.tr A):=b
 rw [a,b] at h
 exact Int.eq_of_mul_eq_mul_left hp h
theorem DetC.colc (t k p q:Int) (ht:0<=t/\t<n) (hk:0<=k/\k<n) (hne:t≠k) (hp:p≠0) (h:DetC n (cset A t λi=>p * A i t+q * A i k)):DetC n A:=by
 refine DetC.tr (DetC.rowc t k p q ht hk hne hp ?_)
 refine DetC.tr ?_
 exact h
theorem DetC.swpc (i k:Int) (hi:0<=i/\i<n) (hk:0<=k/\k<n) (hne:i≠k) (h:DetC n (swC A i k)):DetC n A:=
 DetC.tr (DetC.swp i k hi hk hne (DetC.tr h))
def ZrM (n:Nat) (k:Int) (A:Mat):Prop:=∀ i j:Int,0<=i->i<n->0<=j->j<n->i≠j->(i<k\/j<k)->A i j=0
def nzc (n:Nat) (k:Int) (A:Mat):Nat:=cnt n (λi=>decide (k<i)&&decide (A i k≠0))
theorem nzc_step {k t:Int} {A B:Mat} (h0:k<t) (k0:0<=k) (h1:t<n) (ht:A t k≠0) (hB:B t k=0) (hr:∀ i:Int,0<=i->i≠t->B i k=A i k):nzc n k B+1=nzc n k A:=by
 unfold nzc
 rw [<- cnt_rem (P:=λi=>decide (k<i)&&decide (A i k≠0)) (c:=t) (by omega) (by simp [h0,ht]) h1]
 congr 1
 refine cnt_out λi i0 i1=>?_
 by_cases e:i=t
 ·subst e;simp [hB]
 ·rw [hr i i0 e];simp [e]
theorem stageC {k:Int} (hk:0<=k/\k<n) (next:∀ B:Mat,ZrM n (k+1) B->DetC n B):∀ (c:Nat) (A:Mat),nzc n k A+nzc n k (tr A)=c->A k k≠0->ZrM n k A->DetC n A:=by
 intro c
 induction c with
 | zero=>
  intro A hc _ hz
  refine next A λi j a b c d e hlt=>?_
  have z1:∀ (B:Mat),nzc n k B=0->∀ i:Int,k<i->i<n->B i k=0:=λB hB i h1 h2=>by
   refine Classical.byContradiction λq=>?_
   exact cnt_zero (n:=n) (S:=λi=>decide (k<i)&&decide (B i k≠0)) (c:=i) (by omega) h2 (by simp [h1,q]) hB
  by_cases q:i<k\/j<k
  ·exact hz i j a b c d e q
  ·by_cases q2:i=k
   ·subst q2;exact z1 (tr A) (by omega) j (by omega) d
   ·obtain rfl:j=k:=by omega
    exact z1 A (by omega) i (by omega) b
 | succ c ih=>
  intro A hc hp hz
  by_cases h1:∃ t:Int,k<t/\t<n/\A t k≠0
  ·obtain ⟨t,t0,t1,t2⟩:=h1
   refine DetC.rowc t k (A k k) (- A t k) ⟨by omega,t1⟩ hk (by omega) hp ?_
   have hB:∀ i j:Int,i≠t->rset A t (λj=>A k k * A t j+- A t k * A k j) i j=A i j:=λi j e=>if_neg e
   have hBt:∀ j:Int,rset A t (λj=>A k k * A t j+- A t k * A k j) t j=A k k * A t j+- A t k * A k j:=λj=>if_pos rfl
   refine ih _ ?_ (by rw [hB k k (by omega)];exact hp) λi j a b c d e hlt=>?_
   ·have n1:=nzc_step (n:=n) (A:=A) (B:=rset A t (λj=>A k k * A t j+- A t k * A k j)) t0 hk.1 t1 t2 (by rw [hBt,Int.neg_mul,Int.mul_comm];omega) λi _ e=>hB i k e
    have n2:nzc n k (tr (rset A t (λj=>A k k * A t j+- A t k * A k j)))=nzc n k (tr A):=by
     unfold nzc
     refine cnt_out λi _ _=>?_
     show (decide (k<i)&&decide (rset A t (λj=>A k k * A t j+- A t k * A k j) k i≠0))=(decide (k<i)&&decide (A k i≠0))
     rw [hB k i (by omega)]
    omega
   ·by_cases q:i=t
    ·subst q
     rw [hBt,hz i j a b c d e hlt,hz k j hk.1 hk.2 c d (by omega) (.inr (by omega)),Int.mul_zero,Int.mul_zero];rfl
    ·rw [hB i j q];exact hz i j a b c d e hlt
  ·by_cases h2:∃ t:Int,k<t/\t<n/\A k t≠0
   ·obtain ⟨t,t0,t1,t2⟩:=h2
    refine DetC.colc t k (A k k) (- A k t) ⟨by omega,t1⟩ hk (by omega) hp ?_
    have hB:∀ i j:Int,j≠t->cset A t (λi=>A k k * A i t+- A k t * A i k) i j=A i j:=λi j e=>if_neg e
    have hBt:∀ i:Int,cset A t (λi=>A k k * A i t+- A k t * A i k) i t=A k k * A i t+- A k t * A i k:=λj=>if_pos rfl
    refine ih _ ?_ (by rw [hB k k (by omega)];exact hp) λi j a b c d e hlt=>?_
    ·have n1:=nzc_step (n:=n) (A:=tr A) (B:=tr (cset A t (λi=>A k k * A i t+- A k t * A i k))) t0 hk.1 t1 t2 (by show cset A t _ k t=0;rw [hBt,Int.neg_mul,Int.mul_comm];omega) λi _ e=>hB k i e
     have n2:nzc n k (cset A t (λi=>A k k * A i t+- A k t * A i k))=nzc n k A:=by
      unfold nzc
      refine cnt_out λi _ _=>?_
      rw [hB i k (by omega)]
     omega
    ·by_cases q:j=t
     ·subst q
      rw [hBt,hz i j a b c d e hlt,hz i k a b hk.1 hk.2 (by omega) (.inl (by omega)),Int.mul_zero,Int.mul_zero];rfl
     ·rw [hB i j q];exact hz i j a b c d e hlt
   ·exfalso
    have z1:nzc n k A=0:=by
     refine Nat.eq_zero_of_not_pos λq=>?_
     obtain ⟨j,j0,j1,j2⟩:=cnt_pos q
     simp at j2
     exact h1 ⟨j,j2.1,j1,j2.2⟩
    have z2:nzc n k (tr A)=0:=by
     refine Nat.eq_zero_of_not_pos λq=>?_
     obtain ⟨j,j0,j1,j2⟩:=cnt_pos q
     simp at j2
     exact h2 ⟨j,j2.1,j1,j2.2⟩
    omega
theorem allC:∀ (m k:Nat) (A:Mat),n - k=m->ZrM n k A->DetC n A:=by
 intro m
 induction m with
 | zero=>exact λk A hm hz=>diagC λi j a b c d e=>hz i j a b c d e (.inl (by omega))
 | succ m ih=>
  intro k A hm hz
  have hk:0<=(k:Int)/\(k:Int)<n:=⟨by omega,by omega⟩
  have next:∀ B:Mat,ZrM n ((k:Int)+1) B->DetC n B:=λB hB=>ih (k+1) B (by omega) (by rw [show ((k+1:Nat):Int)=(k:Int)+1 by omega];exact hB)
  by_cases h:∃ i j:Int,k<=i/\i<n/\k<=j/\j<n/\A i j≠0
  ·obtain ⟨i,j,i0,i1,j0,j1,hne⟩:=h
   have s1:∀ B:Mat,B i k≠0->ZrM n k B->DetC n B:=λB hB hz=>by
    by_cases e:i=k
    ·subst e;exact stageC hk next _ B rfl hB hz
    ·refine DetC.swp i k ⟨by omega,i1⟩ hk e ?_
     refine stageC hk next _ _ rfl (by show B (sw i k k) k≠0;unfold sw;rw [if_neg (Ne.symm e),if_pos rfl];exact hB) λa b a0 a1 b0 b1 hab hlt=>?_
     show B (sw i k a) b=0
     by_cases q:a<k
     ·rw [show sw i k a=a from by unfold sw;rw [if_neg (by omega),if_neg (by omega)]];exact hz a b a0 a1 b0 b1 hab (.inl q)
     ·have hs:(k:Int)<=sw i k a/\sw i k a<n:=by unfold sw;split <;> (try split) <;> omega
      exact hz _ b (by omega) hs.2 b0 b1 (by omega) (.inr (by omega))
   by_cases e:j=k
   ·subst e;exact s1 A hne hz
   ·refine DetC.swpc j k ⟨by omega,j1⟩ hk e ?_
    refine s1 _ (by show A i (sw j k k)≠0;unfold sw;rw [if_neg (Ne.symm e),if_pos rfl];exact hne) λa b a0 a1 b0 b1 hab hlt=>?_
    show A a (sw j k b)=0
    by_cases q:b<k
    ·rw [show sw j k b=b from by unfold sw;rw [if_neg (by omega),if_neg (by omega)]];exact hz a b a0 a1 b0 b1 hab (.inr q)
    ·have hs:(k:Int)<=sw j k b/\sw j k b<n:=by unfold sw;split <;> (try split) <;> omega
     exact hz a _ a0 a1 (by omega) hs.2 (by omega) (.inl (by omega))
  ·exact diagC λi j a b c d e=>by
    by_cases q:i<k\/j<k
    ·exact hz i j a b c d e q
    ·refine Classical.byContradiction λhn=>h ⟨i,j,by omega,b,by omega,d,hn⟩
theorem det_tr (A:Mat):det n (tr A)=det n A:=(allC n 0 A (by omega) λi j a b c d e h=>by omega).symm
theorem det_sw_r {i k:Int} (hi:0<=i/\i<n) (hk:0<=k/\k<n):det n (swR A i k)=det n A\/det n (swR A i k)=- det n A:=by
 by_cases e:i=k
 ·left
  have:swR A i k=A:=by funext a b;subst e;unfold swR sw;split <;> simp_all
  rw [this]
 ·exact .inr (det_ml.swp A i k hi hk e)
theorem det_sw_c {i k:Int} (hi:0<=i/\i<n) (hk:0<=k/\k<n):det n (swC A i k)=det n A\/det n (swC A i k)=- det n A:=by
 rw [<- det_tr (swC A i k),<-det_tr A]
 exact det_sw_r (A:=tr A) hi hk
theorem Rch.det {k:Int} {u v:St} (hk:0<=k) (h:Rch n n k u v):AE.det n v.d=AE.det n u.d\/AE.det n v.d=- AE.det n u.d:=by
 induction h with
 | refl=>exact .inl rfl
 | trans _ _ ih ih'=>omega
 | piv u p q x hp hpR hq hqC hx hxR hxC=>
  have h1:=det_sw_r (A:=u.d) (i:=p) (k:=x) (n:=n) ⟨by omega,hpR⟩ ⟨by omega,hxR⟩
  have h2:=det_sw_c (A:=swR u.d p x) (i:=q) (k:=x) (n:=n) ⟨by omega,hqC⟩ ⟨by omega,hxC⟩
  unfold pvS
  split
  ·have h3:=det_ml.neg (n:=n) (swC (swR u.d p x) q x) x ⟨by omega,hxR⟩
   show AE.det n (ngR (swC (swR u.d p x) q x) x)=_\/AE.det n (ngR (swC (swR u.d p x) q x) x)=_
   omega
  ·show AE.det n (swC (swR u.d p x) q x)=_\/AE.det n (swC (swR u.d p x) q x)=_
   omega
 | row u t f b ht htR hf hfR htf n1 n2 n3=>
  left
  show AE.det n (adR u.d t f b)=_
  rw [det_ml.cg (adR_on n1),<-det_ml.addr u.d t f b ⟨by omega,htR⟩ ⟨by omega,hfR⟩ htf]
  congr 1
  funext i j
  unfold rset
  by_cases e:i=t
  ·rw [if_pos e,if_pos e,e]
  ·rw [if_neg e,if_neg e,Int.add_zero]
 | col u t f b ht htC hf hfC htf n1 n2 n3=>
  left
  show AE.det n (adC u.d t f b)=_
  have e1:=(tr_ml (n:=n)).addr (tr u.d) t f b ⟨by omega,htC⟩ ⟨by omega,hfC⟩ htf
  rw [det_ml.cg (adC_on n1)]
  have e2:(λi j=>u.d i j+if j=t then u.d i f * b else 0)=tr (rset (tr u.d) t λj=>tr u.d t j+b * tr u.d f j):=by
   funext i j
   show _=if j=t then u.d i t+b * u.d i f else u.d i j
   by_cases e:j=t
   ·rw [if_pos e,if_pos e,e,Int.mul_comm b]
   ·rw [if_neg e,if_neg e,Int.add_zero]
  rw [e2];exact e1
end Go.Proofs.Ytokekkacliomkaa.AE
end
section
namespace Go.Proofs.Ytokekkacliomkaa.AE
open Go Go.AE Go.Proofs
variable {n k:Nat} {A B:Mat}
theorem sgn_top {S:Int->Bool} {c:Int}:∀ {n:Nat},(∀ x:Int,c<x->x<n->0<=x->S x=false)->sgn n S c=1
 | 0,_=>rfl
 | n+1,h=>by
  show sgn n S c * _=1
  rw [sgn_top (n:=n) λx a b d=>h x a (by omega) d]
  by_cases q:c<n
  ·rw [h n q (by omega) (by omega)];rfl
  ·rw [if_neg (by simp;omega)];rfl
theorem dt_shrink {S:Int->Bool} (h:S n=false):∀ r:Nat,dt (n+1) A r S=dt n A r S:=by
 intro r
 induction r generalizing S with
 | zero=>rfl
 | succ r ih=>
  show Sg n _+(if S n=true then _ else 0)=Sg n _
  rw [if_neg (by rw [h];simp),Int.add_zero]
  refine Sg_congr λc _ _=>?_
  rw [ih (S:=rm S c) (by unfold rm;rw [h];rfl)]
  have:sgn (n+1) S c=sgn n S c:=by
   show sgn n S c * _=_
   rw [h,if_neg (by simp),Int.mul_one]
  rw [this]
def bd (k:Nat) (i:Int) (a:Int):Int:=if a<k then a else i
def bm (B:Mat) (k:Nat) (i j:Int):Int:=det (k+1) λa b=>B (bd k i a) (bd k j b)
theorem bd_lo {i a:Int} (h:a<k):bd k i a=a:=if_pos h
theorem bd_hi {i a:Int} (h:(k:Int)<=a):bd k i a=i:=if_neg (by omega)
theorem bm_lo {i j:Int} (h0:0<=j) (h:j<k):bm B k i j=0:=by
 unfold bm
 rw [<- det_tr]
 refine det_ml.alt _ j k h0 h (by omega) λa _ _=>?_
 show B (bd k i a) (bd k j j)=B (bd k i a) (bd k j k)
 rw [bd_lo h,bd_hi (Int.le_refl _)]
theorem bm_kk:bm B k k k=det (k+1) B:=det_ml.cg λa b h1 h2 h3 h4=>by
 have e:∀ x:Int,x<((k+1:Nat):Int)->bd k (k:Int) x=x:=λx hx=>by unfold bd;split <;> omega
 show B (bd k k a) (bd k k b)=B a b
 rw [e a h2,e b h4]
theorem bm_lin {i:Int}:∃ β:Int->Int,∀ j:Int,bm B k i j=Sg k (λl=>β l * B l j)+det k B * B i j:=by
 refine ⟨λl=>sgn (k+1) (λ_=>true) l * dt (k+1) (tr λa b=>B (bd k i a) (bd k 0 b)) k (rm (λ_=>true) l),λj=>?_⟩
 unfold bm
 rw [<- det_tr]
 show Sg (k+1) (λc=>if true=true then sgn (k+1) (λ_=>true) c * (tr (λa b=>B (bd k i a) (bd k j b)) k c * dt (k+1) (tr λa b=>B (bd k i a) (bd k j b)) k (rm (λ_=>true) c)) else 0)=_
 have hc:∀ c:Int,dt (k+1) (tr λa b=>B (bd k i a) (bd k j b)) k (rm (λ_=>true) c)=dt (k+1) (tr λa b=>B (bd k i a) (bd k 0 b)) k (rm (λ_=>true) c):=λc=>dt_congr k _ λa b h0 h1 _ _=>by
  show B (bd k i b) (bd k j a)=B (bd k i b) (bd k 0 a)
  rw [bd_lo h1,bd_lo h1]
 show Sg k _+_=_
 congr 1
 ·refine Sg_congr λc c0 c1=>?_
  dsimp only
  rw [if_pos rfl,hc]
  show _ * (B (bd k i c) (bd k j k) * _)=_
  rw [bd_lo c1,bd_hi (Int.le_refl _),Int.mul_comm (B c j),Int.mul_assoc]
 ·dsimp only
  rw [if_pos rfl,hc,sgn_top λx h1 h2 _=>by omega,Int.one_mul,dt_shrink rm_self]
  show B (bd k i k) (bd k j k) * _=_
  rw [bd_hi (Int.le_refl _),bd_hi (Int.le_refl _),Int.mul_comm]
  congr 1
  have e:dt k (tr λa b=>B (bd k i a) (bd k 0 b)) k (rm (λ_=>true) k)=det k (tr λa b=>B (bd k i a) (bd k 0 b)):=dt_set k λx _ hx=>by rw [rm_ne (by omega)]
  rw [e,det_tr]
  exact det_ml.cg λa b _ h2 _ h4=>by rw [bd_lo h2,bd_lo h4]
theorem ML.comb {f:Mat->Int} (h:ML n f) (A:Mat) (t:Int) (u β:Int->Int) (ht:0<=t/\t<n):∀ k:Nat,(k:Int)<=t->f (rset A t λj=>Sg k (λl=>β l * A l j)+u j)=f (rset A t u)
 | 0,_=>by congr 2;funext j;show 0+u j=u j;omega
 | k+1,hk=>by
  have e:(λj=>Sg (k+1) (λl=>β l * A l j)+u j)=λj=>(Sg k (λl=>β l * A l j)+u j)+β k * A k j:=by
   funext j
   show Sg k _+β k * A k j+u j=_
   omega
  rw [e,h.lin A t (β k) _ (A k) ht.1 ht.2,ML.comb h A t u β ht k (by omega),h.alt' (rset A t (A k)) t k ht ⟨by omega,by omega⟩ (by omega) λj _ _=>by unfold rset;rw [if_pos rfl,if_neg (by omega)],Int.mul_zero,Int.add_zero]
theorem det_last2 {Z:Mat} (h0:∀ b:Int,0<=b->b<k->Z k b=0) (h1:∀ b:Int,0<=b->b<k->Z ((k:Int)+1) b=0):det (k+2) Z=det k Z * (Z ((k:Int)+1) ((k:Int)+1) * Z k k - Z ((k:Int)+1) k * Z k ((k:Int)+1)):=by
 show Sg k _+(if true=true then sgn (k+2) (λ_=>true) (k:Int) * (Z ((k+1:Nat):Int) k * dt (k+2) Z (k+1) (rm (λ_=>true) k)) else 0)+(if true=true then sgn (k+2) (λ_=>true) ((k+1:Nat):Int) * (Z ((k+1:Nat):Int) ((k+1:Nat):Int) * dt (k+2) Z (k+1) (rm (λ_=>true) ((k+1:Nat):Int))) else 0)=_
 have ec:((k+1:Nat):Int)=(k:Int)+1:=by omega
 have s0:Sg k (λc=>if true=true then sgn (k+2) (λ_=>true) c * (Z ((k+1:Nat):Int) c * dt (k+2) Z (k+1) (rm (λ_=>true) c)) else 0)=0:=Sg_zero λc c0 c1=>by
  rw [if_pos rfl,ec,h1 c c0 c1,Int.zero_mul,Int.mul_zero]
 have s1:sgn (k+2) (λ_=>true) ((k+1:Nat):Int)=1:=sgn_top λx a b _=>by omega
 have s2:sgn (k+2) (λ_=>true) (k:Int)=-1:=by
  show sgn (k+1) (λ_=>true) (k:Int) * (if true&&decide ((k:Int)<((k+1:Nat):Int)) then -1 else 1)=-1
  rw [sgn_top λx a b _=>by omega,if_pos (by simp;omega)];rfl
 -- the last row takes the last place
 have d1:dt (k+2) Z (k+1) (rm (λ_=>true) ((k+1:Nat):Int))=Z k k * det k Z:=by
  rw [dt_shrink (n:=k+1) rm_self]
  show Sg k _+(if rm (λ_=>true) ((k+1:Nat):Int) k=true then sgn (k+1) (rm (λ_=>true) ((k+1:Nat):Int)) k * (Z k k * dt (k+1) Z k (rm (rm (λ_=>true) ((k+1:Nat):Int)) k)) else 0)=_
  rw [Sg_zero λc c0 c1=>by
   split
   ·rw [h0 c c0 c1,Int.zero_mul,Int.mul_zero]
   ·rfl,Int.zero_add,if_pos (by rw [rm_ne (by omega)]),sgn_top λx a b _=>by omega,Int.one_mul,dt_shrink rm_self]
  congr 1
  exact dt_set k λx _ hx=>by rw [rm_ne (by omega),rm_ne (by omega)]
 -- the last row takes the place bX of it
 have d2:dt (k+2) Z (k+1) (rm (λ_=>true) k)=Z k ((k:Int)+1) * det k Z:=by
  show Sg k _+(if rm (λ_=>true) k k=true then _ else 0)+(if rm (λ_=>true) k ((k+1:Nat):Int)=true then sgn (k+2) (rm (λ_=>true) k) ((k+1:Nat):Int) * (Z k ((k+1:Nat):Int) * dt (k+2) Z k (rm (rm (λ_=>true) k) ((k+1:Nat):Int))) else 0)=_
  rw [Sg_zero λc c0 c1=>by
   split
   ·rw [h0 c c0 c1,Int.zero_mul,Int.mul_zero]
   ·rfl,Int.zero_add,rm_self,if_neg (by simp),Int.zero_add,if_pos (by rw [rm_ne (by omega)]),sgn_top λx a b _=>by omega,Int.one_mul,dt_shrink (n:=k+1) rm_self,rm_rm,dt_shrink rm_self,ec]
  congr 1
  exact dt_set k λx _ hx=>by rw [rm_ne (by omega),rm_ne (by omega)]
 rw [s0,s1,s2,d1,d2,if_pos rfl,if_pos rfl,ec]
 generalize det k Z=d
 generalize Z ((k:Int)+1) ((k:Int)+1)=x
 generalize Z ((k:Int)+1) k=y
 generalize Z k ((k:Int)+1)=z
 generalize Z k k=w
 rw [Int.mul_sub,Int.zero_add,Int.one_mul,<-Int.mul_assoc x,<-Int.mul_assoc y,Int.mul_comm d,Int.mul_comm d]
 omega
theorem sylv {i j:Int} (hi:(k:Int)<i) (hj:(k:Int)<j) (hd:det k B≠0):det k B * bm B (k+1) i j=bm B k i j * bm B k k k - bm B k i k * bm B k k j:=by
 obtain ⟨β,hβ⟩:=bm_lin (B:=B) (k:=k) (i:=(k:Int))
 obtain ⟨γ,hγ⟩:=bm_lin (B:=B) (k:=k) (i:=i)
 -- the matrix of the minor
 let Y:Mat:=λa b=>B (bd (k+1) i a) (bd (k+1) j b)
 have hY:bm B (k+1) i j=det (k+2) Y:=rfl
 have yl:∀ l b:Int,l<k->Y l b=B l (bd (k+1) j b):=λl b hl=>by show B (bd (k+1) i l) _=_;rw [bd_lo (by omega)]
 have y0:∀ b:Int,Y k b=B k (bd (k+1) j b):=λb=>by show B (bd (k+1) i k) _=_;rw [bd_lo (by omega)]
 have y1:∀ b:Int,Y ((k:Int)+1) b=B i (bd (k+1) j b):=λb=>by show B (bd (k+1) i ((k:Int)+1)) _=_;rw [bd_hi (by omega)]
 have r1:∀ b:Int,bm B k i (bd (k+1) j b)=Sg k (λl=>γ l * Y l b)+det k B * Y ((k:Int)+1) b:=λb=>by
  rw [hγ,y1];congr 1;exact Sg_congr λl _ hl=>by rw [yl l b hl]
 have r0:∀ b:Int,bm B k k (bd (k+1) j b)=Sg k (λl=>β l * Y l b)+det k B * Y k b:=λb=>by
  rw [hβ,y0];congr 1;exact Sg_congr λl _ hl=>by rw [yl l b hl]
 have m:=det_ml (n:=k+2)
 have e1:=m.comb Y ((k:Int)+1) (λb=>det k B * Y ((k:Int)+1) b) γ ⟨by omega,by omega⟩ k (by omega)
 rw [m.scale Y ((k:Int)+1) (det k B) (Y ((k:Int)+1)) (by omega) (by omega),rset_self] at e1
 obtain ⟨Y1,hY1⟩:∃ Y1,Y1=rset Y ((k:Int)+1) λb=>Sg k (λl=>γ l * Y l b)+det k B * Y ((k:Int)+1) b:=⟨_,rfl⟩
 rw [<- hY1] at e1
 have z1:∀ l b:Int,l≠(k:Int)+1->Y1 l b=Y l b:=λl b h=>by rw [hY1];exact if_neg h
 have e2:=m.comb Y1 k (λb=>det k B * Y1 k b) β ⟨by omega,by omega⟩ k (by omega)
 rw [m.scale Y1 k (det k B) (Y1 k) (by omega) (by omega),rset_self] at e2
 obtain ⟨Z,hZ⟩:∃ Z,Z=rset Y1 k λb=>Sg k (λl=>β l * Y1 l b)+det k B * Y1 k b:=⟨_,rfl⟩
 rw [<- hZ] at e2
 have zk:∀ b:Int,Z k b=bm B k k (bd (k+1) j b):=λb=>by
  rw [hZ,r0]
  show (if (k:Int)=k then _ else _)=_
  rw [if_pos rfl]
  show Sg k (λl=>β l * Y1 l b)+det k B * Y1 k b=_
  rw [z1 k b (by omega)]
  congr 1;exact Sg_congr λl _ hl=>by rw [z1 l b (by omega)]
 have zk1:∀ b:Int,Z ((k:Int)+1) b=bm B k i (bd (k+1) j b):=λb=>by
  rw [hZ,r1]
  show (if (k:Int)+1=k then _ else _)=_
  rw [if_neg (by omega),hY1]
  exact if_pos rfl
 have e3:=det_last2 (k:=k) (Z:=Z) (λb b0 b1=>by rw [zk,bd_lo (by omega)];exact bm_lo b0 b1) (λb b0 b1=>by rw [zk1,bd_lo (by omega)];exact bm_lo b0 b1)
 have e4:det k Z=det k B:=det_ml.cg λa b a0 a1 b0 b1=>by
  rw [hZ]
  show (if a=k then _ else Y1 a b)=_
  rw [if_neg (by omega),z1 a b (by omega),yl a b a1,bd_lo (by omega)]
 rw [zk,zk,zk1,zk1,bd_hi (by omega),bd_lo (by omega),e4,e2,e1,<-hY] at e3
 exact Int.eq_of_mul_eq_mul_left hd e3
theorem dt_few {X:Mat} (hX:∀ i j:Int,(k:Int)<=i->i<n->0<=j->j<=k->X i j=0):∀ (r:Nat) (S:Int->Bool),r<=n->(cnt n (λx=>S x&&decide ((k:Int)<x)):Int)<(r:Int) - k->dt n X r S=0
 | 0,S,_,h=>by omega
 | r+1,S,hr,h=>by
  refine Sg_zero λc c0 c1=>?_
  by_cases hc:S c=true
  ·rw [if_pos hc]
   by_cases q:c<=k
   ·rw [hX r c (by omega) (by omega) c0 q,Int.zero_mul,Int.mul_zero]
   ·have h1:=cnt_rem (n:=n) (P:=λx=>S x&&decide ((k:Int)<x)) (c:=c) c0 (by simp [hc];omega) c1
    rw [dt_few hX r (rm S c) (by omega) (by
     have:cnt n (λx=>rm S c x&&decide ((k:Int)<x))=cnt n (λj=>(S j&&decide ((k:Int)<j))&&decide (j≠c)):=cnt_out λx _ _=>by
      unfold rm;cases S x <;> simp [Bool.and_comm]
     omega),Int.mul_zero,Int.mul_zero]
  ·rw [if_neg hc]
theorem cnt_hi:∀ m:Nat,k<m->(cnt m (λx=>true&&decide ((k:Int)<x)):Int)=(m:Int) - k - 1
 | 0,h=>by omega
 | m+1,h=>by
  show ((cnt m (λx=>true&&decide ((k:Int)<x))+(if (true&&decide ((k:Int)<(m:Int)))=true then 1 else 0):Nat):Int)=_
  by_cases q:k<m
  ·rw [if_pos (by simp;omega)]
   have:=cnt_hi m q
   omega
  ·obtain rfl:k=m:=by omega
   rw [if_neg (by simp)]
   have:cnt k (λx=>true&&decide ((k:Int)<x))=0:=Nat.eq_zero_of_not_pos λq=>by
    obtain ⟨j,_,j1,j2⟩:=cnt_pos q
    simp at j2;omega
   omega
theorem ML.combs {f:Mat->Int} (h:ML n f) (A:Mat) (δ:Int) (hδ:δ≠0) (β:Int->Int->Int) (hk:k<=n):∀ (m:Nat),k+m<=n->f (λi j=>if (k:Int)<=i/\i<(k+m:Nat) then Sg k (λl=>β i l * A l j)+δ * A i j else A i j)=0->f A=0
 | 0,_,h0=>by
  have:(λi j=>if (k:Int)<=i/\i<((k+0:Nat):Int) then Sg k (λl=>β i l * A l j)+δ * A i j else A i j)=A:=by
   funext i j;rw [if_neg (by omega)]
  rw [this] at h0;exact h0
 | m+1,hm,h0=>by
  refine ML.combs h A δ hδ β hk m (by omega) ?_
  obtain ⟨D,hD⟩:∃ D:Mat,D=λi j=>if (k:Int)<=i/\i<(k+m:Nat) then Sg k (λl=>β i l * A l j)+δ * A i j else A i j:=⟨_,rfl⟩
  rw [<- hD]
  have lo:∀ l j:Int,l<k->D l j=A l j:=λl j hl=>by rw [hD];exact if_neg (by omega)
  have top:∀ j:Int,D ((k+m:Nat):Int) j=A ((k+m:Nat):Int) j:=λj=>by rw [hD];exact if_neg (by omega)
  have e1:=h.comb D ((k+m:Nat):Int) (λj=>δ * D ((k+m:Nat):Int) j) (β ((k+m:Nat):Int)) ⟨by omega,by omega⟩ k (by omega)
  rw [h.scale D ((k+m:Nat):Int) δ (D ((k+m:Nat):Int)) (by omega) (by omega),rset_self] at e1
  have e2:rset D ((k+m:Nat):Int) (λj=>Sg k (λl=>β ((k+m:Nat):Int) l * D l j)+δ * D ((k+m:Nat):Int) j)=λi j=>if (k:Int)<=i/\i<(k+(m+1):Nat) then Sg k (λl=>β i l * A l j)+δ * A i j else A i j:=by
   funext i j
   unfold rset
   by_cases e:i=((k+m:Nat):Int)
   ·subst e
    rw [if_pos rfl,if_pos (by omega)]
    show Sg k (λl=>β ((k+m:Nat):Int) l * D l j)+δ * D ((k+m:Nat):Int) j=_
    rw [top]
    congr 1;exact Sg_congr λl _ hl=>by rw [lo l j hl]
   ·rw [if_neg e,hD]
    show (if (k:Int)<=i/\i<((k+m:Nat):Int) then _ else _)=_
    by_cases q:(k:Int)<=i/\i<(k+m:Nat)
    ·rw [if_pos q,if_pos (by omega)]
    ·rw [if_neg q,if_neg (by omega)]
  rw [e2,h0] at e1
  exact (Int.mul_eq_zero.1 e1.symm).resolve_left hδ
theorem no_pivot (hk:k<n) (hd:det k B≠0) (h:∀ i:Int,(k:Int)<=i->i<n->bm B k i k=0):det n B=0:=by
 let β:Int->Int->Int:=λi=>(bm_lin (B:=B) (k:=k) (i:=i)).choose
 have hβ:∀ i j:Int,bm B k i j=Sg k (λl=>β i l * B l j)+det k B * B i j:=λi=>(bm_lin (B:=B) (k:=k) (i:=i)).choose_spec
 refine det_ml.combs (k:=k) B (det k B) hd β (by omega) (n - k) (by omega) ?_
 refine dt_few (k:=k) (λi j h1 h2 h3 h4=>?_) n _ (Nat.le_refl _) ?_
 ·show (if (k:Int)<=i/\i<(k+(n - k):Nat) then _ else _)=0
  rw [if_pos (by omega),<-hβ]
  by_cases e:j=k
  ·rw [e];exact h i h1 h2
  ·exact bm_lo h3 (by omega)
 ·have:=cnt_hi (k:=k) n hk
  omega
def ab0 (x:Int):Int:=if x<0 then -x else x
def rsum (n:Nat) (A:Mat) (i:Int):Int:=Sg n λj=>ab0 (A i j)
theorem ab0_nn (x:Int):0<=ab0 x:=by unfold ab0;split <;> omega
theorem ab0_mul (x y:Int):ab0 (x * y)=ab0 x * ab0 y:=by
 have e (z:Int):ab0 z=(z.natAbs:Int):=by unfold ab0;split <;> omega
 rw [e,e,e,Int.natAbs_mul,Int.natCast_mul]
theorem ab0_sum {f:Int->Int}:∀ n:Nat,ab0 (Sg n f)<=Sg n λi=>ab0 (f i)
 | 0=>by show ab0 0<=0;decide
 | n+1=>by
  show ab0 (Sg n f+f n)<=Sg n (λi=>ab0 (f i))+ab0 (f n)
  have:=ab0_sum (f:=f) n
  unfold ab0 at *
  split <;> split at this <;> split <;> omega
theorem dt_bound {A:Mat} {M:Int->Int}:∀ (r:Nat) (S:Int->Bool),(∀ i:Int,0<=i->i<r->rsum n A i<=M i/\0<=M i)->ab0 (dt n A r S)<=Pi r M
 | 0,_,_=>by show ab0 1<=1;decide
 | r+1,S,h=>by
  have ih:∀ c,ab0 (dt n A r (rm S c))<=Pi r M:=λc=>dt_bound r (rm S c) λi a b=>h i a (by omega)
  have p0:0<=Pi r M:=Int.le_trans (ab0_nn _) (ih 0)
  have h1:ab0 (dt n A (r+1) S)<=Sg n λc=>ab0 (A r c) * Pi r M:=by
   refine Int.le_trans (ab0_sum n) (Sg_le λc _ _=>?_)
   split
   ·have hs:ab0 (sgn n S c)=1:=by
     have:=sgn_sq (S:=S) (c:=c) n
     have e:ab0 (sgn n S c) * ab0 (sgn n S c)=1:=by rw [<- ab0_mul,this];rfl
     have:=ab0_nn (sgn n S c)
     rcases Int.lt_trichotomy (ab0 (sgn n S c)) 1 with q | q | q
     ·have:ab0 (sgn n S c)=0:=by omega
      rw [this] at e;cases e
     ·exact q
     ·exfalso
      have:ab0 (sgn n S c) * 1<ab0 (sgn n S c) * ab0 (sgn n S c):=Int.mul_lt_mul_of_pos_left q (by omega)
      omega
    rw [ab0_mul,ab0_mul,hs,Int.one_mul]
    exact Int.mul_le_mul_of_nonneg_left (ih c) (ab0_nn _)
   ·exact Int.mul_nonneg (ab0_nn _) p0
  rw [Sg_mulr] at h1
  refine Int.le_trans h1 ?_
  show rsum n A r * Pi r M<=Pi r M * M r
  rw [Int.mul_comm (Pi r M)]
  exact Int.mul_le_mul_of_nonneg_right (h r (by omega) (by omega)).1 p0
end Go.Proofs.Ytokekkacliomkaa.AE
end
section
namespace Go.Proofs.Ytokekkacliomkaa.AE
open Go Go.AE Go.Proofs
variable {n k:Nat} {A B:Mat} {f g:Int->Int}
def mx (n:Nat) (B:Mat) (i:Int):Int:=if rsum n B i<1 then 1 else rsum n B i
theorem mx_le (i:Int):rsum n B i<=mx n B i/\1<=mx n B i:=by unfold mx;split <;> omega
theorem Pi_congr:∀ {n:Nat},(∀ i:Int,0<=i->i<n->f i=g i)->Pi n f=Pi n g
 | 0,_=>rfl
 | n+1,h=>by
  show Pi n f * f n=Pi n g * g n
  rw [Pi_congr (n:=n) λi a b=>h i a (by omega),h n (by omega) (by omega)]
theorem Pi_pos (h:∀ i:Int,1<=f i):∀ n:Nat,1<=Pi n f
 | 0=>by show (1:Int)<=1;omega
 | n+1=>by
  show 1<=Pi n f * f n
  have h1:=Pi_pos h n
  have:Pi n f * 1<=Pi n f * f n:=Int.mul_le_mul_of_nonneg_left (h n) (by omega)
  omega
theorem Pi_pick (h:∀ i:Int,1<=f i) {i:Int} (hk:(k:Int)<=i):∀ {n:Nat},i<n->Pi k f * f i<=Pi n f
 | 0,hn=>by omega
 | n+1,hn=>by
  have up:∀ m:Nat,k<=m->Pi k f<=Pi m f:=λm hm=>by
   induction m with
   | zero=>
    obtain rfl:k=0:=by omega
    exact Int.le_refl _
   | succ m ih=>
    by_cases e:k=m+1
    ·rw [e];exact Int.le_refl _
    ·refine Int.le_trans (ih (by omega)) ?_
     show Pi m f<=Pi m f * f m
     have h1:=Pi_pos h m
     have:Pi m f * 1<=Pi m f * f m:=Int.mul_le_mul_of_nonneg_left (h m) (by omega)
     omega
  by_cases e:i=n
  ·subst e
   exact Int.mul_le_mul_of_nonneg_right (up n (by omega)) (by have:=h n;omega)
  ·refine Int.le_trans (Pi_pick h hk (n:=n) (by omega)) ?_
   show Pi n f<=Pi n f * f n
   have h1:=Pi_pos h n
   have:Pi n f * 1<=Pi n f * f n:=Int.mul_le_mul_of_nonneg_left (h n) (by omega)
   omega
theorem Pi_out {i:Int} (h0:0<=i):∀ {n:Nat},i<n->Pi n f=f i * Pi n λx=>if x=i then 1 else f x
 | 0,h=>by omega
 | n+1,h=>by
  show Pi n f * f n=f i * (Pi n (λx=>if x=i then 1 else f x) * (if (n:Int)=i then 1 else f n))
  by_cases e:i=n
  ·subst e
   rw [if_pos rfl,Int.mul_one,Int.mul_comm]
   congr 1
   exact Pi_congr λx _ hx=>(if_neg (by omega)).symm
  ·rw [if_neg (by omega),Pi_out h0 (n:=n) (by omega),Int.mul_assoc]
theorem sw_pp (p x:Int):sw p p x=x:=by unfold sw;split <;> simp_all
theorem Pi_sw {p q:Int} (hp:0<=p/\p<n) (hq:0<=q/\q<n):Pi n (λx=>f (sw p q x))=Pi n f:=by
 by_cases e:p=q
 ·subst e;congr 1;funext x;rw [sw_pp]
 ·rw [Pi_out (f:=f) hp.1 hp.2,Pi_out (f:=λx=>if x=p then 1 else f x) hq.1 hq.2,Pi_out (f:=λx=>f (sw p q x)) hp.1 hp.2,Pi_out (f:=λx=>if x=p then 1 else f (sw p q x)) hq.1 hq.2]
  have e1:sw p q p=q:=if_pos rfl
  have e2:sw p q q=p:=by unfold sw;rw [if_neg (by omega),if_pos rfl]
  rw [e1,e2,if_neg (Ne.symm e),if_neg (Ne.symm e),<-Int.mul_assoc,<-Int.mul_assoc,Int.mul_comm (f q)]
  congr 1
  congr 1
  funext x
  by_cases a:x=q
  ·rw [if_pos a,if_pos a]
  ·rw [if_neg a,if_neg a]
   by_cases b:x=p
   ·rw [if_pos b,if_pos b]
   ·rw [if_neg b,if_neg b]
    unfold sw
    rw [if_neg b,if_neg a]
theorem Sg_pick (h:∀ i:Int,0<=f i) {i:Int} (hk:(k:Int)<=i):∀ {n:Nat},i<n->Sg k f+f i<=Sg n f
 | 0,hn=>by omega
 | n+1,hn=>by
  have up:∀ m:Nat,k<=m->Sg k f<=Sg m f:=λm hm=>by
   induction m with
   | zero=>
    obtain rfl:k=0:=by omega
    exact Int.le_refl _
   | succ m ih=>
    by_cases e:k=m+1
    ·rw [e];exact Int.le_refl _
    ·have h1:=ih (by omega)
     have h2:=h m
     show Sg k f<=Sg m f+f m
     omega
  show Sg k f+f i<=Sg n f+f n
  by_cases e:i=n
  ·subst e
   have:=up n (by omega)
   omega
  ·have h1:=Sg_pick h hk (n:=n) (by omega)
   have h2:=h n
   omega
theorem bm_bound {i j:Int} (hi:(k:Int)<=i) (hi':i<n) (hj:(k:Int)<=j) (hj':j<n):ab0 (bm B k i j)<=Pi n (mx n B):=by
 show ab0 (dt (k+1) (λa b=>B (bd k i a) (bd k j b)) (k+1) λ_=>true)<=_
 refine Int.le_trans (dt_bound (n:=k+1) (A:=λa b=>B (bd k i a) (bd k j b)) (M:=λa=>mx n B (bd k i a)) (k+1) _ λa _ _=>⟨Int.le_trans ?_ (mx_le (bd k i a)).1,by have:=(mx_le (n:=n) (B:=B) (bd k i a)).2;omega⟩) ?_
 ·show Sg k (λb=>ab0 (B (bd k i a) (bd k j b)))+ab0 (B (bd k i a) (bd k j k))<=_
  rw [bd_hi (Int.le_refl _),Sg_congr (g:=λb=>ab0 (B (bd k i a) b)) λb _ hb=>by rw [bd_lo hb]]
  exact Sg_pick (f:=λb=>ab0 (B (bd k i a) b)) (λ_=>ab0_nn _) hj hj'
 ·show Pi k (λa=>mx n B (bd k i a)) * mx n B (bd k i k)<=_
  rw [bd_hi (Int.le_refl _),Pi_congr (g:=mx n B) λb _ hb=>by rw [bd_lo hb]]
  exact Pi_pick (λx=>(mx_le x).2) hi hi'
theorem det_bound:ab0 (det n B)<=Pi n (mx n B):=dt_bound n _ λi _ _=>⟨(mx_le i).1,by have:=(mx_le (n:=n) (B:=B) i).2;omega⟩
theorem det_one {X:Mat}:det 1 X=X 0 0:=by
 rw [det_diag λi j a b c d e=>by omega]
 show 1 * X _ _=_
 rw [Int.one_mul];rfl
theorem bm_zero {i j:Int}:bm B 0 i j=B i j:=by
 unfold bm
 rw [det_one,bd_hi (by decide),bd_hi (by decide)]
theorem bm_sw {p i j:Int} (hp:(k:Int)<=p) (hi:(k:Int)<=i):bm (swR B p k) k i j=bm B k (sw p k i) j:=det_ml.cg λa b _ _ _ _=>by
 show B (sw p k (bd k i a)) _=B (bd k (sw p k i) a) _
 by_cases h:a<k
 ·rw [bd_lo (i:=i) h,bd_lo (i:=sw p k i) h,sw_lo hp (Int.le_refl _) h]
 ·rw [bd_hi (i:=i) (a:=a) (by omega),bd_hi (i:=sw p k i) (a:=a) (by omega)]
theorem det_lo_sw {p:Int} (hp:(k:Int)<=p):det k (swR B p k)=det k B:=det_ml.cg λa b _ h _ _=>by
 show B (sw p k a) b=_
 rw [sw_lo hp (Int.le_refl _) h]
theorem vol_sw {p q:Int} (hp:0<=p/\p<n) (hq:0<=q/\q<n):Pi n (mx n (swR B p q))=Pi n (mx n B):=Pi_sw (f:=mx n B) hp hq
theorem mul_in {a b P:Int} (ha:-P<=a/\a<=P) (hb:-P<=b/\b<=P):-(P * P)<=a * b/\a * b<=P * P:=by
 have hP:0<=P:=by omega
 have h:(a * b).natAbs<=P.natAbs * P.natAbs:=by
  rw [Int.natAbs_mul];exact Nat.mul_le_mul (by omega) (by omega)
 have e:((P.natAbs * P.natAbs:Nat):Int)=P * P:=by rw [Int.natCast_mul,Int.natAbs_of_nonneg hP]
 omega
end Go.Proofs.Ytokekkacliomkaa.AE
end
section
namespace Go.Proofs.Ytokekkacliomkaa.AE
open Go Go.AE Go.Proofs
variable {n:Nat} {A:Mat}
def Ss:Nat->((Int->Bool)->Int)->Int
 | 0,f=>f λ_=>false
 | n+1,f=>Ss n f+Ss n λS=>f (ad1 S n)
abbrev Wi (n:Nat) (S:Int->Bool):Prop:=∀ x:Int,S x=true->0<=x/\x<n
theorem ad1_self {S:Int->Bool} {c:Int}:ad1 S c c=true:=by simp [ad1]
theorem ad1_ne {S:Int->Bool} {c x:Int} (h:x≠c):ad1 S c x=S x:=by simp [ad1,h]
theorem Ss_congr:∀ {n:Nat} {f g:(Int->Bool)->Int},(∀ S,Wi n S->f S=g S)->Ss n f=Ss n g
 | 0,_,_,h=>h _ λx hx=>by cases hx
 | n+1,f,g,h=>by
  show Ss n f+Ss n _=Ss n g+Ss n _
  rw [Ss_congr (n:=n) λS hS=>h S λx hx=>⟨(hS x hx).1,by have:=(hS x hx).2;omega⟩,Ss_congr (n:=n) (g:=λS=>g (ad1 S n)) λS hS=>h (ad1 S n) λx hx=>by
   by_cases e:x=n
   ·omega
   ·rw [ad1_ne e] at hx;have:=hS x hx;omega]
theorem Ss_add {f g:(Int->Bool)->Int}:∀ n:Nat,Ss n (λS=>f S+g S)=Ss n f+Ss n g
 | 0=>rfl
 | n+1=>by
  show Ss n _+Ss n (λS=>f (ad1 S n)+g (ad1 S n))=(Ss n f+Ss n _)+(Ss n g+Ss n _)
  rw [Ss_add n (f:=f) (g:=g),Ss_add n (f:=λS=>f (ad1 S n)) (g:=λS=>g (ad1 S n))]
  omega
theorem Ss_nul:∀ n:Nat,Ss n (λ_=>0)=0
 | 0=>rfl
 | n+1=>by show Ss n (λ_=>0)+Ss n (λ_=>0)=0;rw [Ss_nul n];rfl
theorem Ss_mul {c:Int} {f:(Int->Bool)->Int}:∀ n:Nat,Ss n (λS=>c * f S)=c * Ss n f
 | 0=>rfl
 | n+1=>by
  show Ss n _+Ss n (λS=>c * f (ad1 S n))=c * (Ss n f+Ss n _)
  rw [Ss_mul n (f:=f),Ss_mul n (f:=λS=>f (ad1 S n)),Int.mul_add]
theorem Ss_sg {f:(Int->Bool)->Int->Int}:∀ m:Nat,Ss n (λS=>Sg m (f S))=Sg m λi=>Ss n λS=>f S i
 | 0=>Ss_nul n
 | m+1=>by
  show Ss n (λS=>Sg m (f S)+f S m)=Sg m _+Ss n _
  rw [Ss_add,Ss_sg m]
theorem ad1_ad1 {S:Int->Bool} {c d:Int}:ad1 (ad1 S c) d=ad1 (ad1 S d) c:=by
 funext x;unfold ad1;cases S x <;> simp [Bool.or_comm]
theorem Ss_out {j:Int} (h0:0<=j):∀ {n:Nat} {f:(Int->Bool)->Int},j<n->Ss n f=Ss n λS=>if S j=true then 0 else f S+f (ad1 S j)
 | 0,_,h=>by omega
 | n+1,f,h=>by
  show Ss n f+Ss n (λS=>f (ad1 S n))=Ss n (λS=>if S j=true then 0 else f S+f (ad1 S j))+Ss n (λS=>if ad1 S n j=true then 0 else f (ad1 S n)+f (ad1 (ad1 S n) j))
  by_cases e:j=n
  ·subst e
   rw [<- Ss_add]
   have e2:Ss n (λS=>if ad1 S n n=true then 0 else f (ad1 S n)+f (ad1 (ad1 S n) n))=0:=by
    rw [Ss_congr (g:=λ_=>0) λS _=>if_pos ad1_self,Ss_nul]
   rw [e2,Int.add_zero]
   exact Ss_congr λS hS=>(if_neg λq=>by have:=hS _ q;omega).symm
  ·rw [Ss_out h0 (n:=n) (f:=f) (by omega),Ss_out h0 (n:=n) (f:=λS=>f (ad1 S n)) (by omega)]
   congr 1
   refine Ss_congr λS _=>?_
   rw [ad1_ne (show j≠(n:Int) by omega),ad1_ad1 (c:=j)]
theorem cnt_ad1 {S:Int->Bool} {c:Int} (h0:0<=c) (h1:c<n) (h:S c=false):cnt n (ad1 S c)=cnt n S+1:=by
 have:=rm_cnt (n:=n) (S:=ad1 S c) h0 h1 ad1_self
 have e:rm (ad1 S c) c=S:=by
  funext x
  by_cases q:x=c
  ·subst q;rw [rm_self,h]
  ·rw [rm_ne q,ad1_ne q]
 rw [e] at this;omega
def RS (A:Mat) (S:Int->Bool):Mat:=λa b=>if S a=true then A a b else if a=b then 1 else 0
def ek (n:Nat) (A:Mat) (k:Nat):Int:=Ss n λS=>if cnt n S=k then det n (RS A S) else 0
def Ek (n:Nat) (A:Mat) (k:Nat) (i j:Int):Int:=Ss n λS=>if S j=true/\cnt n S=k+1 then det n (rset (RS A S) j (A i)) else 0
theorem Sg_cnt {S:Int->Bool}:∀ n:Nat,Sg n (λi=>if S i=true then 1 else 0)=(cnt n S:Int)
 | 0=>rfl
 | n+1=>by
  show Sg n _+(if S n=true then 1 else 0)=((cnt n S+(if S n=true then 1 else 0):Nat):Int)
  rw [Sg_cnt n]
  split <;> omega
theorem Ek_tr (k:Nat):Sg n (λi=>Ek n A k i i)=((k:Int)+1) * ek n A (k+1):=by
 unfold Ek ek
 rw [<- Ss_sg n (f:=λS i=>if S i=true/\cnt n S=k+1 then det n (rset (RS A S) i (A i)) else 0),<-Ss_mul]
 refine Ss_congr λS _=>?_
 by_cases h:cnt n S=k+1
 ·rw [if_pos h,Sg_congr (g:=λi=>(if S i=true then 1 else 0) * det n (RS A S)) λi _ _=>?_,Sg_mulr,Sg_cnt,h]
  ·congr 1
  ·by_cases q:S i=true
   ·rw [if_pos ⟨q,h⟩,if_pos q,Int.one_mul]
    congr 1
    funext a b
    unfold rset RS
    by_cases e:a=i
    ·rw [if_pos e,e,if_pos q]
    ·rw [if_neg e]
   ·rw [if_neg (λh=>q h.1),if_neg q,Int.zero_mul]
 ·rw [if_neg h,Int.mul_zero]
  exact Sg_zero λi _ _=>if_neg λq=>h q.2
theorem ML.sum {f:Mat->Int} (h:ML n f) (A:Mat) {t:Int} (t0:0<=t) (t1:t<n) (u:Int->Int) (V:Int->Int->Int):∀ m:Nat,f (rset A t λj=>Sg m λs=>u s * V s j)=Sg m λs=>u s * f (rset A t (V s))
 | 0=>h.zero A t t0 t1
 | m+1=>by
  show f (rset A t λj=>Sg m (λs=>u s * V s j)+u m * V m j)=Sg m _+_
  rw [h.lin A t (u m) _ (V m) t0 t1,ML.sum h A t0 t1 u V m]
def fS (n:Nat) (A:Mat) (j:Int) (T:Int->Bool) (u:Int->Int):Int:=det n (rset (RS A T) j u)
theorem fS_ad {T:Int->Bool} {j:Int} {u:Int->Int}:fS n A j (ad1 T j) u=fS n A j T u:=by
 unfold fS;congr 1
 funext a b
 unfold rset RS
 by_cases e:a=j
 ·rw [if_pos e,if_pos e]
 ·rw [if_neg e,if_neg e,ad1_ne e]
def un (s:Int):Int->Int:=λb=>if s=b then 1 else 0
theorem fS_un {T:Int->Bool} {j s:Int} (j0:0<=j) (j1:j<n) (s0:0<=s) (s1:s<n) (hj:T j=false):fS n A j T (un s)=if s=j then det n (RS A T) else if T s=true then - fS n A j (rm T s) (A s) else 0:=by
 by_cases e:s=j
 ·subst e
  rw [if_pos rfl];unfold fS;congr 1
  funext a b
  unfold rset RS un
  by_cases q:a=s
  ·rw [if_pos q,q,if_neg (c:=T s=true) (by rw [hj];simp)]
  ·rw [if_neg q]
 ·rw [if_neg e]
  by_cases h:T s=true
  ·rw [if_pos h]
   unfold fS
   rw [<- det_ml.swp (rset (RS A (rm T s)) j (A s)) j s ⟨j0,j1⟩ ⟨s0,s1⟩ (Ne.symm e)]
   congr 1
   funext a b
   unfold swR sw rset RS un
   by_cases q:a=j
   ·subst q
    rw [if_pos rfl,if_pos rfl,if_neg e,if_neg (c:=rm T s s=true) (by rw [rm_self];simp)]
   ·rw [if_neg q,if_neg q]
    by_cases q2:a=s
    ·subst q2;rw [if_pos h,if_pos rfl,if_pos rfl]
    ·rw [if_neg q2,if_neg q,rm_ne q2]
  ·rw [if_neg h]
   refine det_ml.alt' _ j s ⟨j0,j1⟩ ⟨s0,s1⟩ (Ne.symm e) λb _ _=>?_
   unfold rset RS un
   rw [if_pos rfl,if_neg e,if_neg h]
theorem swap_sum {j s:Int} {k:Nat} (j0:0<=j) (j1:j<n) (s0:0<=s) (s1:s<n) (e:s≠j) :
  Ss n (λT=>if T j=false/\T s=true/\cnt n T=k then fS n A j (rm T s) (A s) else 0)=Ss n (λS=>if S j=true/\S s=false/\cnt n S=k then fS n A j S (A s) else 0):=by
 obtain ⟨F,hF⟩:∃ F:(Int->Bool)->Int,F=λT=>if T j=false/\T s=true/\cnt n T=k then fS n A j (rm T s) (A s) else 0:=⟨_,rfl⟩
 obtain ⟨G,hG⟩:∃ G:(Int->Bool)->Int,G=λS=>if S j=true/\S s=false/\cnt n S=k then fS n A j S (A s) else 0:=⟨_,rfl⟩
 rw [<- hF,<-hG,Ss_out s0 s1 (f:=F),Ss_out s0 s1 (f:=G),Ss_out j0 j1 (f:=λS=>if S s=true then 0 else F S+F (ad1 S s)),Ss_out j0 j1 (f:=λS=>if S s=true then 0 else G S+G (ad1 S s))]
 refine Ss_congr λU _=>?_
 cases h1:U j with
 | true=>simp
 | false=>
  rw [ad1_ne (c:=j) e]
  cases h2:U s with
  | true=>simp
  | false=>
   have er:rm (ad1 U s) s=U:=by
    funext x
    by_cases q:x=s
    ·subst q;rw [rm_self,h2]
    ·rw [rm_ne q,ad1_ne q]
   have js:j≠s:=Ne.symm e
   have a1:F U=0:=by rw [hF];simp [h2]
   have a2:F (ad1 U s)=if cnt n U+1=k then fS n A j U (A s) else 0:=by rw [hF];simp [ad1_ne js,h1,ad1_self,er,cnt_ad1 s0 s1 h2]
   have a3:F (ad1 U j)=0:=by rw [hF];simp [ad1_self]
   have a4:F (ad1 (ad1 U j) s)=0:=by rw [hF];simp [ad1_ne js,ad1_self]
   have b1:G U=0:=by rw [hG];simp [h1]
   have b2:G (ad1 U s)=0:=by rw [hG];simp [ad1_self]
   have b3:G (ad1 U j)=if cnt n U+1=k then fS n A j U (A s) else 0:=by rw [hG];simp [ad1_ne e,h2,ad1_self,cnt_ad1 j0 j1 h1,fS_ad]
   have b4:G (ad1 (ad1 U j) s)=0:=by rw [hG];simp [ad1_self]
   simp [a1,a2,a3,a4,b1,b2,b3,b4]
theorem Ek_out {i j:Int} (j0:0<=j) (j1:j<n) (k:Nat):Ek n A k i j=Ss n λT=>if T j=false/\cnt n T=k then fS n A j T (A i) else 0:=by
 obtain ⟨F,hF⟩:∃ F:(Int->Bool)->Int,F=λS=>if S j=true/\cnt n S=k+1 then det n (rset (RS A S) j (A i)) else 0:=⟨_,rfl⟩
 unfold Ek
 rw [<- hF,Ss_out j0 j1 (f:=F)]
 refine Ss_congr λU _=>?_
 cases h1:U j with
 | true=>simp
 | false=>
  have a1:F U=0:=by rw [hF];simp [h1]
  have a2:F (ad1 U j)=if cnt n U=k then fS n A j U (A i) else 0:=by
   rw [hF,<-fS_ad (T:=U)];simp [ad1_self,cnt_ad1 j0 j1 h1,fS]
  simp [a1,a2]
theorem Sg_split1 {u v:Int->Int} {j d:Int} (j0:0<=j) (j1:j<n):Sg n (λs=>u s * (if s=j then d else v s))=u j * d+Sg n λs=>u s * (if s=j then 0 else v s):=by
 have h:=Sg_one (f:=λs=>u s * d) j0 (n:=n)
 rw [if_pos j1] at h
 rw [<- h,<-Sg_add]
 refine Sg_congr λs _ _=>?_
 by_cases e:s=j
 ·rw [if_pos e,if_pos e,if_pos e];omega
 ·rw [if_neg e,if_neg e,if_neg e];omega
theorem fS_row {T:Int->Bool} {j:Int} {u:Int->Int} (j0:0<=j) (j1:j<n) (hj:T j=false) :
  fS n A j T u=u j * det n (RS A T)+Sg n λs=>u s * (if s=j then 0 else if T s=true then - fS n A j (rm T s) (A s) else 0):=by
 have h:=det_ml.sum (RS A T) j0 j1 u un n
 have e:det n (rset (RS A T) j λb=>Sg n λs=>u s * un s b)=fS n A j T u:=det_ml.cg λa b _ _ b0 b1=>by
  unfold rset
  by_cases q:a=j
  ·rw [if_pos q,if_pos q]
   have h2:=Sg_one (f:=u) b0 (n:=n)
   rw [if_pos b1] at h2
   rw [<- h2]
   refine Sg_congr λs _ _=>?_
   unfold un
   by_cases q:s=b
   ·rw [if_pos q,if_pos q,Int.mul_one]
   ·rw [if_neg q,if_neg q,Int.mul_zero]
  ·rw [if_neg q,if_neg q]
 rw [<- e,h,<-Sg_split1 j0 j1]
 refine Sg_congr λs s0 s1=>?_
 have h3:=fS_un (A:=A) (T:=T) j0 j1 s0 s1 hj
 unfold fS at h3 ⊢
 rw [h3]
theorem RS_none:det n (RS A λ_=>false)=1:=by
 rw [det_diag λi j _ _ _ _ e=>by show (if false=true then _ else if i=j then (1:Int) else 0)=0;simp [e]]
 have:∀ m:Nat,Pi m (λi=>RS A (λ_=>false) i i)=1:=λm=>by
  induction m with
  | zero=>rfl
  | succ m ih=>
   show Pi m _ * (if false=true then _ else if (m:Int)=m then (1:Int) else 0)=1
   rw [ih];simp
 exact this n
theorem Ss_empty:∀ {n:Nat} {f:(Int->Bool)->Int},(∀ S x,Wi n S->S x=true->f S=0)->Ss n f=f λ_=>false
 | 0,_,_=>rfl
 | n+1,f,h=>by
  show Ss n f+Ss n (λS=>f (ad1 S n))=_
  have up:∀ S,Wi n S->Wi (n+1) S:=λS hS x hx=>by have:=hS x hx;omega
  rw [Ss_empty (n:=n) λS x hS hx=>h S x (up S hS) hx,Ss_congr (n:=n) (g:=λ_=>0) λS hS=>h _ n (λx hx=>by
   by_cases e:x=n
   ·omega
   ·rw [ad1_ne e] at hx;exact up S hS x hx) ad1_self,Ss_nul,Int.add_zero]
theorem cnt_no:∀ n:Nat,cnt n (λ_=>false)=0
 | 0=>rfl
 | n+1=>by show cnt n (λ_=>false)+(if false=true then 1 else 0)=0;rw [cnt_no n];rfl
theorem ek_zero:ek n A 0=1:=by
 unfold ek
 rw [Ss_empty λS x hS hx=>if_neg λq=>cnt_zero (hS x hx).1 (hS x hx).2 hx q,if_pos (cnt_no n),RS_none]
theorem Ek_zero {i j:Int} (j0:0<=j) (j1:j<n):Ek n A 0 i j=A i j:=by
 rw [Ek_out j0 j1,Ss_empty λS x hS hx=>if_neg λq=>cnt_zero (hS x hx).1 (hS x hx).2 hx q.2,if_pos ⟨rfl,cnt_no n⟩,fS_row j0 j1 rfl,RS_none,Sg_zero λs _ _=>by simp]
 omega
theorem Ek_succ {i j:Int} (j0:0<=j) (j1:j<n) (k:Nat):Ek n A (k+1) i j=ek n A (k+1) * A i j - Sg n λs=>A i s * Ek n A k s j:=by
 obtain ⟨P,hP⟩:∃ P,P=Ss n λS=>if S j=false/\cnt n S=k+1 then det n (RS A S) else 0:=⟨_,rfl⟩
 obtain ⟨Q,hQ⟩:∃ Q,Q=Ss n λS=>if S j=true/\cnt n S=k+1 then det n (RS A S) else 0:=⟨_,rfl⟩
 obtain ⟨Y,hY⟩:∃ Y:Int->Int,Y=λs=>Ss n λS=>if S j=true/\S s=false/\cnt n S=k+1 then fS n A j S (A s) else 0:=⟨_,rfl⟩
 have e1:ek n A (k+1)=P+Q:=by
  rw [hP,hQ,<-Ss_add]
  refine Ss_congr λS _=>?_
  cases S j <;> simp
 have e2:Sg n (λs=>A i s * Ek n A k s j)=A i j * Q+Sg n λs=>A i s * (if s=j then 0 else Y s):=by
  rw [<- Sg_split1 j0 j1]
  refine Sg_congr λs s0 s1=>?_
  congr 1
  unfold Ek
  by_cases e:s=j
  ·subst e
   rw [if_pos rfl,hQ]
   refine Ss_congr λS _=>?_
   by_cases h:S s=true/\cnt n S=k+1
   ·rw [if_pos h,if_pos h];congr 1
    funext a b
    unfold rset RS
    by_cases q:a=s
    ·rw [if_pos q,q,if_pos h.1]
    ·rw [if_neg q]
   ·rw [if_neg h,if_neg h]
  ·rw [if_neg e,hY]
   refine Ss_congr λS _=>?_
   by_cases h:S j=true/\cnt n S=k+1
   ·rw [if_pos h]
    cases h2:S s with
    | false=>rw [if_pos ⟨h.1,rfl,h.2⟩];rfl
    | true=>
     rw [if_neg (by simp)]
     refine det_ml.alt' _ j s ⟨j0,j1⟩ ⟨s0,s1⟩ (Ne.symm e) λb _ _=>?_
     unfold rset RS
     rw [if_pos rfl,if_neg e,if_pos h2]
   ·rw [if_neg h,if_neg λq=>h ⟨q.1,q.2.2⟩]
 have e3:Ek n A (k+1) i j=A i j * P+Sg n λs=>A i s * (if s=j then 0 else - Y s):=by
  rw [Ek_out j0 j1,hP,<-Ss_mul]
  have h1:(Sg n λs=>A i s * (if s=j then 0 else - Y s))=Ss n λT=>Sg n λs=>A i s * (if s=j then 0 else if T j=false/\T s=true/\cnt n T=k+1 then - fS n A j (rm T s) (A s) else 0):=by
   rw [Ss_sg n (f:=λT s=>A i s * (if s=j then 0 else if T j=false/\T s=true/\cnt n T=k+1 then - fS n A j (rm T s) (A s) else 0))]
   refine Sg_congr λs s0 s1=>?_
   rw [Ss_mul]
   congr 1
   by_cases e:s=j
   ·simp only [if_pos e];exact (Ss_nul n).symm
   ·simp only [if_neg e]
    have h2:=swap_sum (A:=A) (k:=k+1) j0 j1 s0 s1 e
    rw [hY]
    dsimp only
    rw [<- h2]
    have h3:=Ss_mul (c:=-1) (f:=λT=>if T j=false/\T s=true/\cnt n T=k+1 then fS n A j (rm T s) (A s) else 0) n
    rw [Int.neg_mul,Int.one_mul] at h3
    rw [<- h3]
    refine Ss_congr λT _=>?_
    split <;> omega
  rw [h1,<-Ss_add]
  refine Ss_congr λT _=>?_
  by_cases h:T j=false/\cnt n T=k+1
  ·rw [if_pos h,if_pos h,fS_row j0 j1 h.1]
   congr 1
   refine Sg_congr λs _ _=>?_
   congr 1
   simp only [h.1,h.2,true_and,and_true]
  ·rw [if_neg h,if_neg h,Int.mul_zero,Int.zero_add]
   refine (Sg_zero λs _ _=>?_).symm
   rw [if_neg (c:=T j=false/\T s=true/\cnt n T=k+1) λq=>h ⟨q.1,q.2.2⟩]
   split <;> exact Int.mul_zero _
 have e4:(Sg n λs=>A i s * (if s=j then 0 else - Y s))=- Sg n λs=>A i s * (if s=j then 0 else Y s):=by
  have h3:=Sg_mul (c:=-1) (f:=λs=>A i s * (if s=j then 0 else Y s)) n
  rw [Int.neg_mul,Int.one_mul] at h3
  rw [<- h3]
  refine Sg_congr λs _ _=>?_
  split
  ·rw [Int.mul_zero,Int.mul_zero]
  ·rw [Int.mul_neg,Int.neg_mul,Int.one_mul]
 rw [e3,e4,e2,e1,Int.add_mul,Int.mul_comm P,Int.mul_comm Q]
 omega
end Go.Proofs.Ytokekkacliomkaa.AE
end
section
namespace Go.Proofs.Ytokekkacliomkaa.AE
open Go Go.AE Go.Proofs
variable {n m:Nat} {A:Mat}
theorem det_unit_last {Z:Mat} (h:∀ b:Int,0<=b->b<n->Z n b=0) (h1:Z n n=1):det (n+1) Z=det n Z:=by
 show Sg n _+(if true=true then sgn (n+1) (λ_=>true) (n:Int) * (Z n n * dt (n+1) Z n (rm (λ_=>true) n)) else 0)=_
 rw [Sg_zero λc c0 c1=>by
  dsimp only
  split
  ·rw [h c c0 c1,Int.zero_mul,Int.mul_zero]
  ·rfl,if_pos rfl,sgn_top λx a b _=>by omega,h1,dt_shrink rm_self,Int.one_mul,Int.one_mul,Int.zero_add]
 exact dt_set n λx _ hx=>by rw [rm_ne (by omega)]
theorem det_unit {Z:Mat} (hm:m<=n) (h:∀ a b:Int,(m:Int)<=a->a<n->0<=b->b<n->Z a b=if a=b then 1 else 0):∀ d:Nat,m+d<=n->det (m+d) Z=det m Z
 | 0,_=>rfl
 | d+1,hd=>by
  rw [show m+(d+1)=m+d+1 by omega,det_unit_last (λb b0 b1=>by rw [h _ b (by omega) (by omega) b0 (by omega),if_neg (by omega)]) (by rw [h _ _ (by omega) (by omega) (by omega) (by omega),if_pos rfl])]
  exact det_unit hm h d (by omega)
theorem sw_rng {p q x:Int} (hp:0<=p/\p<n) (hq:0<=q/\q<n) (hx:0<=x/\x<n):0<=sw p q x/\sw p q x<n:=by unfold sw;split <;> (try split) <;> omega
theorem det_conj {X:Mat} {p q:Int} (hp:0<=p/\p<n) (hq:0<=q/\q<n):det n (λa b=>X (sw p q a) (sw p q b))=det n X:=by
 show det n (swC (swR X p q) p q)=_
 rw [<- det_tr]
 show det n (swR (tr (swR X p q)) p q)=_
 by_cases e:p=q
 ·subst e
  have:swR (tr (swR X p p)) p p=tr X:=by
   funext a b;show X (sw p p b) (sw p p a)=X b a;rw [sw_pp,sw_pp]
  rw [this,det_tr]
 ·rw [det_ml.swp _ p q hp hq e,det_tr,det_ml.swp X p q hp hq e,Int.neg_neg]
structure Lst (n m:Nat) (S:Int->Bool) (l:Int->Int):Prop where
 rng:∀ a:Int,0<=a->a<m->0<=l a/\l a<n/\S (l a)=true
 inc:∀ a b:Int,0<=a->a<b->b<m->l a<l b
 all:∀ x:Int,0<=x->x<n->S x=true->∃ a:Int,0<=a/\a<m/\l a=x
theorem Lst.ge {S:Int->Bool} {l:Int->Int} (h:Lst n m S l):∀ a:Nat,a<m->(a:Int)<=l a
 | 0,ha=>(h.rng 0 (by omega) (by omega)).1
 | a+1,ha=>by
  have h1:=h.ge a (by omega)
  have h2:=h.inc a ((a+1:Nat):Int) (by omega) (by omega) (by omega)
  omega
theorem det_perm {X:Mat} {S:Int->Bool} {l:Int->Int} (h:Lst n m S l):∀ k:Nat,k<=m->∃ p:Int->Int,det n (λa b=>X (p a) (p b))=det n X /\
  (∀ a:Int,0<=a->a<n->0<=p a/\p a<n)/\(∀ a b:Int,0<=a->a<n->0<=b->b<n->p a=p b->a=b)/\(∀ a:Int,0<=a->a<k->p a=l a)/\∀ a:Int,(k:Int)<=a->a<m->p (l a)=l a
 | 0,_=>⟨λx=>x,rfl,λa h0 h1=>⟨h0,h1⟩,λa b _ _ _ _ e=>e,λa h0 h1=>by omega,λa _ _=>rfl⟩
 | k+1,hk=>by
  obtain ⟨p,p1,p2,p3,p4,p5⟩:=det_perm (X:=X) h k (by omega)
  have hl:=h.rng k (by omega) (by omega)
  have hg:=h.ge k (by omega)
  have r1:0<=(k:Int)/\(k:Int)<n:=⟨by omega,by omega⟩
  have r2:0<=l k/\l k<n:=⟨hl.1,hl.2.1⟩
  refine ⟨λx=>p (sw k (l k) x),?_,λa h0 h1=>?_,λa b a0 a1 b0 b1 e=>?_,λa h0 h1=>?_,λa h0 h1=>?_⟩
  ·rw [<- p1]
   exact det_conj (X:=λa b=>X (p a) (p b)) r1 r2
  ·have:=sw_rng r1 r2 ⟨h0,h1⟩
   exact p2 _ this.1 this.2
  ·have ha:=sw_rng r1 r2 ⟨a0,a1⟩
   have hb:=sw_rng r1 r2 ⟨b0,b1⟩
   have e1:=p3 _ _ ha.1 ha.2 hb.1 hb.2 e
   have e2:sw k (l k) (sw k (l k) a)=sw k (l k) (sw k (l k) b):=by rw [e1]
   rw [sw_sw,sw_sw] at e2;exact e2
  ·dsimp only
   by_cases e:a=k
   ·subst e
    rw [show sw k (l k) k=l k from if_pos rfl]
    exact p5 k (by omega) (by omega)
   ·rw [show sw k (l k) a=a by unfold sw;rw [if_neg e,if_neg (by omega)]]
    exact p4 a h0 (by omega)
  ·dsimp only
   have h2:=h.inc k a (by omega) (by omega) h1
   rw [show sw k (l k) (l a)=l a by unfold sw;rw [if_neg (by omega),if_neg (by omega)]]
   exact p5 a (by omega) h1
theorem det_sub {S:Int->Bool} {l:Int->Int} (h:Lst n m S l):det n (RS A S)=det m λa b=>A (l a) (l b):=by
 obtain ⟨p,p1,p2,p3,p4,p5⟩:=det_perm (X:=RS A S) h m (Nat.le_refl m)
 have hm:m<=n:=by
  rcases Nat.eq_zero_or_pos m with q | q
  ·omega
  ·have h1:=h.ge (m - 1) (by omega)
   have h2:=(h.rng ((m - 1:Nat):Int) (by omega) (by omega)).2.1
   omega
 have h1:∀ a b:Int,(m:Int)<=a->a<n->0<=b->b<n->RS A S (p a) (p b)=if a=b then 1 else 0:=λa b a0 a1 b0 b1=>by
  have ha:=p2 a (by omega) a1
  unfold RS
  rw [if_neg λq=>by
   obtain ⟨c,c0,c1,c2⟩:=h.all (p a) ha.1 ha.2 q
   rw [<- p4 c c0 c1] at c2
   have:=p3 _ _ c0 (by omega) (by omega) a1 c2
   omega]
  by_cases e:a=b
  ·rw [e,if_pos rfl,if_pos rfl]
  ·rw [if_neg e,if_neg λq=>e (p3 a b (by omega) a1 b0 b1 q)]
 have h2:=det_unit (Z:=λa b=>RS A S (p a) (p b)) hm h1 (n - m) (by omega)
 rw [show m+(n - m)=n by omega] at h2
 rw [<- p1,h2]
 exact det_ml.cg λa b a0 a1 b0 b1=>by
  rw [p4 a a0 a1,p4 b b0 b1]
  exact if_pos (h.rng a a0 a1).2.2
def bs (w:Nat):Int->Bool:=λi=>decide (0<=i)&&w.testBit i.toNat
def Sn:Nat->(Nat->Int)->Int
 | 0,_=>0
 | n+1,f=>Sn n f+f n
theorem Sn_add (f:Nat->Int) (a:Nat):∀ b:Nat,Sn (a+b) f=Sn a f+Sn b λx=>f (a+x)
 | 0=>(Int.add_zero _).symm
 | b+1=>by
  show Sn (a+b) f+f (a+b)=Sn a f+(Sn b (λx=>f (a+x))+f (a+b))
  rw [Sn_add f a b];omega
theorem Sn_congr {f g:Nat->Int}:∀ {n:Nat},(∀ i,i<n->f i=g i)->Sn n f=Sn n g
 | 0,_=>rfl
 | n+1,h=>by
  show Sn n f+f n=Sn n g+g n
  rw [Sn_congr (n:=n) λi hi=>h i (by omega),h n (by omega)]
theorem bs_ad {n w:Nat} (h:w<2 ^ n):bs (2 ^ n+w)=ad1 (bs w) n:=by
 funext i
 show (decide (0<=i)&&(2 ^ n+w).testBit i.toNat)=((decide (0<=i)&&w.testBit i.toNat) || decide (i=(n:Int)))
 by_cases h0:0<=i
 ·rw [decide_eq_true h0,Bool.true_and,Bool.true_and]
  obtain ⟨a,rfl⟩:=Int.eq_ofNat_of_zero_le h0
  rw [Int.toNat_natCast]
  rcases Nat.lt_trichotomy a n with q | q | q
  ·rw [Nat.testBit_two_pow_add_gt q,decide_eq_false (by omega),Bool.or_false]
  ·subst q
   rw [Nat.testBit_two_pow_add_eq,Nat.testBit_lt_two_pow h,decide_eq_true rfl];rfl
  ·rw [Nat.testBit_lt_two_pow (Nat.lt_of_lt_of_le (show 2 ^ n+w<2 ^ (n+1) by rw [Nat.pow_succ];omega) (Nat.pow_le_pow_right (by omega) q)),Nat.testBit_lt_two_pow (Nat.lt_of_lt_of_le h (Nat.pow_le_pow_right (by omega) (by omega))),decide_eq_false (by omega)];rfl
 ·rw [decide_eq_false h0,decide_eq_false (by omega)];rfl
theorem Ss_Sn:∀ (n:Nat) (f:(Int->Bool)->Int),Ss n f=Sn (2 ^ n) λw=>f (bs w)
 | 0,f=>by
  show f _=0+f (bs 0)
  rw [Int.zero_add];congr 1
  funext i;unfold bs;rw [Nat.zero_testBit,Bool.and_false]
 | n+1,f=>by
  show Ss n f+Ss n (λS=>f (ad1 S n))=_
  rw [Nat.pow_succ,show 2 ^ n * 2=2 ^ n+2 ^ n by omega,Sn_add,Ss_Sn n f,Ss_Sn n λS=>f (ad1 S n)]
  congr 1
  exact Sn_congr λw hw=>by rw [bs_ad hw]
end Go.Proofs.Ytokekkacliomkaa.AE
end
section
namespace Go.Proofs.Ytokekkacliomkaa.AE
open Go Go.AE Go.Proofs
variable {R C F:Nat} {A:Mat} {i j k:Int}
end Go.Proofs.Ytokekkacliomkaa.AE
end
section
namespace Go.Proofs.Ytokekkacliomkaa.AE
open Go Go.AE Go.Proofs
variable {R C F:Nat} {A:Mat} {i j k:Int}
abbrev i13 (F g R C:Nat) (u:St) (bad:Bool) (k i:Int):=bQ.pl13 F g R (mk R R u.l) R R (mk R R u.m) R C (mk R C u.d) C C (mk C C u.r) C (mk C C u.s) bad k R C i
abbrev i4 (F R C:Nat) (u:St) (bad:Bool) (k:Int):=bQ.pj4 F (mk R R u.l) (mk R R u.m) R C (mk R C u.d) C C (mk C C u.r) C (mk C C u.s) bad k C
abbrev i15 (F g R C:Nat) (u:St) (bad:Bool) (k j:Int):=bQ.pl15 F g (mk R R u.l) (mk R R u.m) R C (mk R C u.d) C C (mk C C u.r) C (mk C C u.s) bad k C j
abbrev s29 (F g R C:Nat) (u:St) (bad:Bool) (k i:Int):=cj.pl29 F g R C (mk R C u.d) R (mk R R u.l) R R (mk R R u.m) C C (mk C C u.r) C (mk C C u.s) bad k i
abbrev s2 (F R C:Nat) (u:St) (bad:Bool) (k:Int):=cj.pj2 F R C (mk R C u.d) R (mk R R u.l) R R (mk R R u.m) C C (mk C C u.r) C (mk C C u.s) bad k
abbrev s1 (F R C:Nat) (u:St) (bad:Bool) (k:Int):=cj.pj1 F R C (mk R C u.d) R (mk R R u.l) R R (mk R R u.m) (mk C C u.r) (mk C C u.s) bad k
end Go.Proofs.Ytokekkacliomkaa.AE
end
section
namespace Go.Proofs.Ytokekkacliomkaa.AE
open Go Go.AE Go.Proofs
variable {R C F:Nat} {A:Mat} {i j k:Int}
theorem cutf_row (hR:R<=1000) (hC:C<=1000) (hk0:0<=k) (hk:k<R):∃ x,cW.p F C (mk R C A) k=some x/\x.length=C/\∀ n:Nat,n<C->gt x n=A k n:=by
 obtain ⟨k,rfl⟩:=Int.eq_ofNat_of_zero_le hk0
 have h1:(k+1) * C<=R * C:=Nat.mul_le_mul_right _ (by omega)
 have h2:R * C<=1000 * 1000:=Nat.mul_le_mul hR hC
 have h3:(k+1) * C=k * C+C:=Nat.succ_mul _ _
 unfold cW.p
 rw [ap (x:=(k:Int)+1) (by omega) (by omega),show (k:Int)+1=((k+1:Nat):Int) by omega,<-Int.natCast_mul,<-Int.natCast_mul,ap (by omega) (by omega),ap (by omega) (by omega)]
 unfold cutf
 rw [if_pos (by rw [cZ];omega),Option.bind_some]
 refine ⟨_,rfl,?_,?_⟩
 ·rw [List.length_drop,List.length_take,cZ]
  omega
 ·intro n hn
  unfold gt
  rw [List.getD_eq_getElem?_getD,List.getElem?_drop,List.getElem?_take_of_lt (by omega),Int.toNat_natCast,zD hn (by omega)]
  rfl
end Go.Proofs.Ytokekkacliomkaa.AE
end
section
namespace Go.Proofs.Ytokekkacliomkaa.AE
open Go Go.AE Go.Proofs
variable {R C F:Nat} {A:Mat} {i j k:Int}
abbrev sr (F R C:Nat) (u:St) (k:Int):=cj.p F R C (mk R C u.d) R (mk R R u.l) R R (mk R R u.m) C C (mk C C u.r) C (mk C C u.s) false k
end Go.Proofs.Ytokekkacliomkaa.AE
end
section
namespace Go.Proofs.Ytokekkacliomkaa.AE
open Go Go.AE Go.Proofs
variable {R C F:Nat} {A:Mat} {i j k:Int}
end Go.Proofs.Ytokekkacliomkaa.AE
end
section
namespace Go.Proofs.Ytokekkacliomkaa.AE
open Go Go.AE Go.Proofs
variable {R C F:Nat} {A:Mat} {i j k:Int}
theorem gt_set_eq {l:List Int} {n:Nat} {x:Int} (h:n<l.length):gt (l.set n x) n=x:=by
 unfold gt;rw [List.getD_eq_getElem?_getD,List.getElem?_set_self h];rfl
theorem gt_set_ne {l:List Int} {n m:Nat} {x:Int} (h:n≠m):gt (l.set n x) m=gt l m:=by
 unfold gt;rw [List.getD_eq_getElem?_getD,List.getD_eq_getElem?_getD,List.getElem?_set_ne h]
theorem ext_gt {l m:List Int} (h:l.length=m.length) (hh:∀ n:Nat,n<l.length->gt l n=gt m n):l=m:=by
 apply List.ext_getElem?
 intro n
 by_cases hn:n<l.length
 ·rw [nj hn,nj (by omega),hh n hn]
 ·rw [List.getElem?_eq_none (by omega),List.getElem?_eq_none (by omega)]
theorem ix_of {l:List Int} (h0:0<=i) (h:i<l.length):ix l i=some i.toNat:=by
 unfold ix;rw [if_pos ⟨h0,h⟩]
def InR (x a b:Int):Prop:=a<=x/\x<=b
instance (x a b:Int):Decidable (InR x a b):=by unfold InR;infer_instance
theorem Gp {x a b:Int}:c_.p F x a b=some (decide (InR x a b)):=by
 unfold c_.p InR
 by_cases h:x>=a
 ·rw [decide_eq_true h,cond_true];congr 1;simp only [ge_iff_le] at h;simp [h]
 ·rw [decide_eq_false h,cond_false];congr 1;simp only [ge_iff_le] at h;simp [h]
theorem Gq {x a b:Int}:cQ.p F x a b=some (decide (InR x a b)):=by
 unfold cQ.p InR
 by_cases h:a<=x
 ·rw [decide_eq_true h,cond_true];congr 1;simp [h]
 ·rw [decide_eq_false h,cond_false];congr 1;simp [h]
end Go.Proofs.Ytokekkacliomkaa.AE
end
section
namespace Go.Proofs.Ytokekkacliomkaa.AE
open Go Go.AE Go.Proofs
variable {R C F:Nat} {A:Mat} {i j k:Int}
theorem mk_zero (n m:Nat):List.replicate (n * m) (0:Int)=mk n m λ_ _=>0:=by
 apply List.ext_getElem
 ·rw [cZ,List.length_replicate]
 ·intro a h1 h2
  simp [mk]
end Go.Proofs.Ytokekkacliomkaa.AE
end
section
namespace Go.Proofs.Ytokekkacliomkaa.AE
open Go Go.AE Go.Proofs
variable {F n:Nat} {A:Mat}
theorem wr_add (a b:Int):IntKind.i64.wrap (IntKind.i64.wrap a+IntKind.i64.wrap b)=IntKind.i64.wrap (a+b):=by
 simp only [IntKind.wrap,IntKind.signed,IntKind.bits]
 simp
 omega
abbrev C7:=Int->List Int->Int->List Int->Int->List Int->Int->Option (List Int)
abbrev C12:=Int->List Int->Int->List Int->Int->List Int->Int->Int->List Int->Int->Int->Int->Option (List Int)
abbrev C15:=Int->List Int->Int->List Int->Int->List Int->Int->Int->List Int->Int->Int->Int->Int->Int->Int->Option (List Int)
def sg2:Nat->Int
 | 0=>1
 | k+1=>- sg2 k
theorem sg2_or:∀ k:Nat,sg2 k=1\/sg2 k=-1
 | 0=>.inl rfl
 | k+1=>by have:=sg2_or k;show - sg2 k=1\/- sg2 k=-1;omega
section
variable {c:List Int} {B W:Mat} {k:Int} (hn:n<=12)
include hn
theorem ch_in {C:C7} {C':C12} {C2:C15} {tr i j:Int} (i0:0<=i) (i1:i<n) (j0:0<=j) (j1:j<n) {Q:Mat}:∀ (d g l:Nat),n - l=d->d<g->l<=n ->
  af.pl531344731 F C C' C2 g n (mk n n A) n c n (mk n n B) k n (mk n n (upd Q i j (IntKind.i64.wrap (Sg l λx=>A i x * B x j)))) tr n i i n j j n l =
   C2 n (mk n n A) n c n (mk n n B) k n (mk n n (upd Q i j (IntKind.i64.wrap (Sg n λx=>A i x * B x j)))) tr n i i n (j+1):=by
 intro d
 induction d with
 | zero=>
  intro g l hd hg hl
  obtain ⟨g,rfl⟩:∃ g',g=g'+1:=⟨g - 1,by omega⟩
  obtain rfl:l=n:=by omega
  rw [af.pl531344731,decide_eq_false (by omega),cond_false]
  unfold af.pj29 af.pj28
  rw [ap (x:=j+1) (by omega) (by omega)]
 | succ d ih=>
  intro g l hd hg hl
  obtain ⟨g,rfl⟩:∃ g',g=g'+1:=⟨g - 1,by omega⟩
  rw [af.pl531344731,decide_eq_true (by omega),cond_true,ca (i:=i) (j:=j) (by omega) (by omega) i0 i1 j0 j1,Option.bind_some,ca (i:=i) (j:=(l:Int)) (by omega) (by omega) i0 i1 (by omega) (by omega),Option.bind_some,
   ca (i:=(l:Int)) (j:=j) (by omega) (by omega) (by omega) (by omega) j0 j1,Option.bind_some,Option.bind_some,cz (i:=i) (j:=j) i0 i1 j0 j1,cz (i:=i) (j:=(l:Int)) i0 i1 (by omega) (by omega),cz (i:=(l:Int)) (j:=j) (by omega) (by omega) j0 j1,
   dN i0 i1 j0 j1,zB,wr_add,ap (x:=(l:Int)+1) (by omega) (by omega)]
  have e:upd (upd Q i j (IntKind.i64.wrap (Sg l λx=>A i x * B x j))) i j (IntKind.i64.wrap ((Sg l λx=>A i x * B x j)+A i l * B l j))=upd Q i j (IntKind.i64.wrap (Sg (l+1) λx=>A i x * B x j)):=by
   funext a b;unfold upd;split <;> rfl
  rw [e]
  exact ih g (l+1) (by omega) (by omega) (by omega)
def pM (W:Mat) (i j:Int):Mat:=λa b=>if a<i\/a=i/\b<j then W a b else 0
variable (hW:∀ i j:Int,0<=i->i<n->0<=j->j<n->IntKind.i64.wrap (Sg n λx=>A i x * B x j)=W i j) (hF:1000<F)
include hW hF
theorem ch_col {C:C7} {C':C12} {tr i:Int} (i0:0<=i) (i1:i<n):∀ (d g:Nat) (j:Int),n - j=d->d<g->0<=j->j<=n ->
  af.pl8302261 F C C' g n (mk n n A) n c n (mk n n B) k n (mk n n (pM W i j)) tr n i i n j=C' n (mk n n A) n c n (mk n n B) k n (mk n n (pM W (i+1) 0)) (IntKind.i64.wrap (tr+W i i)) n (i+1):=by
 intro d
 induction d with
 | zero=>
  intro g j hd hg hj hj2
  obtain ⟨g,rfl⟩:∃ g',g=g'+1:=⟨g - 1,by omega⟩
  have e:mk n n (pM W i j)=mk n n (pM W (i+1) 0):=bl λa b a0 a1 b0 b1=>by
   unfold pM
   by_cases h:a<i\/a=i/\b<j
   ·rw [if_pos h,if_pos (by omega)]
   ·rw [if_neg h,if_neg (by omega)]
  rw [af.pl8302261,decide_eq_false (by omega),cond_false,e]
  unfold af.pj27 af.pj26
  rw [ca (i:=i) (j:=i) (by omega) (by omega) i0 i1 i0 i1,Option.bind_some,cz i0 i1 i0 i1,ap (x:=i+1) (by omega) (by omega)]
  have e2:pM W (i+1) 0 i i=W i i:=if_pos (by omega)
  rw [e2]
 | succ d ih=>
  intro g j hd hg hj hj2
  obtain ⟨g,rfl⟩:∃ g',g=g'+1:=⟨g - 1,by omega⟩
  have h:=ch_in (F:=F) (A:=A) (B:=B) (c:=c) (k:=k) hn (C:=C) (C':=C') (C2:=af.pl8302261 F C C' g) (tr:=tr) i0 i1 hj (show j<n by omega) (Q:=pM W i j) n F 0 (by omega) (by omega) (by omega)
  have e0:upd (pM W i j) i j (IntKind.i64.wrap (Sg 0 λx=>A i x * B x j))=pM W i j:=by
   funext a b
   unfold upd pM
   by_cases q:a=i/\b=j
   ·rw [if_pos q,if_neg (by omega)]
    show IntKind.i64.wrap 0=0
    decide
   ·rw [if_neg q]
  have e1:upd (pM W i j) i j (W i j)=pM W i (j+1):=by
   funext a b
   unfold upd pM
   by_cases q:a=i/\b=j
   ·rw [if_pos q,if_pos (by omega),q.1,q.2]
   ·rw [if_neg q]
    by_cases h:a<i\/a=i/\b<j
    ·rw [if_pos h,if_pos (by omega)]
    ·rw [if_neg h,if_neg (by omega)]
  rw [e0,hW i j i0 i1 hj (by omega),e1,show ((0:Nat):Int)=0 from rfl] at h
  rw [af.pl8302261,decide_eq_true (by omega),cond_true,h]
  exact ih g (j+1) (by omega) (by omega) (by omega) (by omega)
theorem ch_row {C:C7} (hT:∀ m:Nat,m<=n->IntKind.i64.wrap (Sg m λi=>W i i)=Sg m λi=>W i i):∀ (d g i:Nat),n - i=d->d<g->i<=n ->
  af.pl64861 F C g n (mk n n A) n c n (mk n n B) k n (mk n n (pM W i 0)) (Sg i λi=>W i i) n i=af.pj23 F C n (mk n n A) n c k n (mk n n W) (Sg n λi=>W i i):=by
 intro d
 induction d with
 | zero=>
  intro g i hd hg hi
  obtain ⟨g,rfl⟩:∃ g',g=g'+1:=⟨g - 1,by omega⟩
  obtain rfl:i=n:=by omega
  have e:mk i i (pM W i 0)=mk i i W:=bl λa b a0 a1 b0 b1=>if_pos (by omega)
  rw [af.pl64861,decide_eq_false (by omega),cond_false,e]
 | succ d ih=>
  intro g i hd hg hi
  obtain ⟨g,rfl⟩:∃ g',g=g'+1:=⟨g - 1,by omega⟩
  rw [af.pl64861,decide_eq_true (by omega),cond_true,ch_col hn hW hF (by omega) (by omega) n F 0 (by omega) (by omega) (by omega) (by omega)]
  have h:=hT (i+1) (by omega)
  rw [show (Sg (i+1) λi=>W i i)=(Sg i λi=>W i i)+W i i from rfl] at h
  rw [h]
  exact ih g (i+1) (by omega) (by omega) (by omega)
end
def dM (M:Mat) (d i:Int):Mat:=λa b=>if a=b/\a<i then M a b+d else M a b
theorem ch_dia {C:C7} {c:List Int} {M:Mat} {d k:Int} {Q:List Int} {tr:Int} (hn:n<=12) (hk:1<=k) (hk2:k<=n) (hc:c.length=n+1) (hd:gt c ((n:Int) - k+1).toNat=d) (hM:∀ i:Int,0<=i->i<n->IntKind.i64.wrap (M i i+d)=M i i+d):∀ (e g:Nat) (i:Int),n - i=e->e<g->0<=i->i<=n ->
  af.pl32429 F C g n (mk n n A) n c n (mk n n (dM M d i)) k n Q tr n i=af.pj30 F C n (mk n n A) n c n (mk n n (dM M d n)) k n Q tr:=by
 intro e
 induction e with
 | zero=>
  intro g i he hg hi hi2
  obtain ⟨g,rfl⟩:∃ g',g=g'+1:=⟨g - 1,by omega⟩
  obtain rfl:i=n:=by omega
  rw [af.pl32429,decide_eq_false (by omega),cond_false]
 | succ e ih=>
  intro g i he hg hi hi2
  obtain ⟨g,rfl⟩:∃ g',g=g'+1:=⟨g - 1,by omega⟩
  have hix:ix c ((n:Int) - k+1)=some ((n:Int) - k+1).toNat:=by unfold ix;rw [if_pos (by omega)]
  have e1:dM M d i i i=M i i:=if_neg (by omega)
  have e2:upd (dM M d i) i i (M i i+d)=dM M d (i+1):=by
   funext a b
   unfold upd dM
   by_cases q:a=i/\b=i
   ·rw [if_pos q,if_pos (by omega),q.1,q.2]
   ·rw [if_neg q]
    by_cases h:a=b/\a<i
    ·rw [if_pos h,if_pos (by omega)]
    ·rw [if_neg h,if_neg (by omega)]
  rw [af.pl32429,decide_eq_true (by omega),cond_true,ca (i:=i) (j:=i) (by omega) (by omega) hi (by omega) hi (by omega),Option.bind_some,ap (x:=(n:Int) - k) (by omega) (by omega),ap (x:=(n:Int) - k+1) (by omega) (by omega),hix,Option.bind_some,Option.bind_some,
   cz hi (by omega) hi (by omega),hd,e1,hM i hi (by omega),dN hi (by omega) hi (by omega),e2,ap (x:=i+1) (by omega) (by omega)]
  exact ih g (i+1) (by omega) (by omega) (by omega) (by omega)
structure Cf (n:Nat) (A:Mat) (k:Nat) (c:List Int):Prop where
 len:c.length=n+1
 val:∀ t:Nat,t<=n->t<k->gt c (n - t)=sg2 t * ek n A t
def Mk (n:Nat) (A:Mat):Nat->Mat
 | 0=>λ_ _=>0
 | k+1=>λi j=>sg2 k * Ek n A k i j
theorem Mk_step {i j:Int} (k:Nat) (i0:0<=i) (i1:i<n) (j0:0<=j) (j1:j<n):Sg n (λx=>A i x * dM (Mk n A k) (sg2 k * ek n A k) n x j)=Mk n A (k+1) i j:=by
 have e:Sg n (λx=>A i x * dM (Mk n A k) (sg2 k * ek n A k) n x j)=Sg n (λx=>A i x * Mk n A k x j)+A i j * (sg2 k * ek n A k):=by
  have h:=Sg_one (f:=λx=>A i x * (sg2 k * ek n A k)) j0 (n:=n)
  rw [if_pos j1] at h
  rw [<- h,<-Sg_add]
  refine Sg_congr λx x0 x1=>?_
  unfold dM
  by_cases q:x=j
  ·rw [if_pos ⟨q,x1⟩,if_pos q,Int.mul_add]
  ·rw [if_neg λh=>q h.1,if_neg q,Int.add_zero]
 rw [e]
 cases k with
 | zero=>
  rw [Sg_zero λx _ _=>by show A i x * 0=0;rw [Int.mul_zero],ek_zero]
  show 0+A i j * (1 * 1)=1 * Ek n A 0 i j
  rw [Ek_zero j0 j1];omega
 | succ k=>
  show Sg n (λx=>A i x * (sg2 k * Ek n A k x j))+A i j * (- sg2 k * ek n A (k+1))=- sg2 k * Ek n A (k+1) i j
  rw [Ek_succ j0 j1,Sg_congr (g:=λx=>sg2 k * (A i x * Ek n A k x j)) λx _ _=>by rw [<- Int.mul_assoc,<-Int.mul_assoc,Int.mul_comm (A i x)],Sg_mul]
  rcases sg2_or k with e | e <;> rw [e]
  ·rw [Int.mul_comm (A i j)];simp only [Int.neg_mul,Int.one_mul];omega
  ·rw [Int.mul_comm (A i j)];simp only [Int.neg_mul,Int.one_mul,Int.neg_neg];omega
structure Sml (n:Nat) (A:Mat):Prop where
 e:∀ k:Nat,-10000000000000<=ek n A k/\ek n A k<=10000000000000
 m:∀ (k:Nat) (i j:Int),0<=i->i<n->0<=j->j<n->-10000000000000<=Ek n A k i j/\Ek n A k i j<=10000000000000
theorem char_v (hn:n<=12) (hF:1000<F) (hs:Sml n A):∀ (d g k:Nat) (c:List Int),n - k=d->d+1<g->k<=n->Cf n A (k+1) c ->
  ∃ c',Cf n A (n+1) c'/\af.pl253 F g n (mk n n A) n c n (mk n n (Mk n A k)) ((k:Int)+1)=some c':=by
 intro d
 induction d with
 | zero=>
  intro g k c hd hg hk hc
  obtain ⟨g,rfl⟩:∃ g',g=g'+1:=⟨g - 1,by omega⟩
  obtain rfl:k=n:=by omega
  rw [af.pl253,decide_eq_false (by omega),cond_false]
  exact ⟨c,hc,rfl⟩
 | succ d ih=>
  intro g k c hd hg hk hc
  obtain ⟨g,rfl⟩:∃ g',g=g'+1:=⟨g - 1,by omega⟩
  have hm:n * n<=12 * 12:=Nat.mul_le_mul hn hn
  have bM:∀ i j:Int,0<=i->i<n->0<=j->j<n->∀ q:Nat,-10000000000000<=Mk n A q i j/\Mk n A q i j<=10000000000000:=λi j i0 i1 j0 j1 q=>by
   cases q with
   | zero=>show -10000000000000<=(0:Int)/\(0:Int)<=_;omega
   | succ q=>
    have:=hs.m q i j i0 i1 j0 j1
    show _<=sg2 q * Ek n A q i j/\sg2 q * Ek n A q i j<=_
    rcases sg2_or q with e | e <;> rw [e] <;> omega
  have bd:∀ q:Nat,-10000000000000<=sg2 q * ek n A q/\sg2 q * ek n A q<=10000000000000:=λq=>by
   have:=hs.e q
   rcases sg2_or q with e | e <;> rw [e] <;> omega
  have hz:bD.p F n n=some ((n:Int),(n:Int),mk n n λ_ _=>0):=by
   unfold bD.p mkn
   rw [<- Int.natCast_mul,ap (by omega) (by omega),if_pos (by omega),Option.bind_some,Int.toNat_natCast,mk_zero]
  rw [af.pl253,decide_eq_true (by omega),cond_true,hz,Option.bind_some]
  simp only []
  have hgc:gt c ((n:Int) - ((k:Int)+1)+1).toNat=sg2 k * ek n A k:=by
   rw [<- hc.val k hk (by omega)];congr 1;omega
  have e0:mk n n (Mk n A k)=mk n n (dM (Mk n A k) (sg2 k * ek n A k) 0):=bl λa b a0 a1 b0 b1=>(if_neg (by omega)).symm
  rw [e0,ch_dia (M:=Mk n A k) hn (by omega) (by omega) hc.len hgc (λi i0 i1=>by
   have h1:=bM i i i0 i1 i0 i1 k
   have h2:=bd k
   exact ap (by omega) (by omega)) n F 0 (by omega) (by omega) (by omega) (by omega)]
  unfold af.pj30
  have e1:(mk n n λ_ _=>0)=mk n n (pM (Mk n A (k+1)) ((0:Nat):Int) 0):=bl λa b a0 a1 b0 b1=>(if_neg (by omega)).symm
  have tb:∀ m:Nat,m<=n->-(10000000000000 * (m:Int))<=(Sg m λi=>Mk n A (k+1) i i)/\(Sg m λi=>Mk n A (k+1) i i)<=10000000000000 * (m:Int):=λm=>by
   induction m with
   | zero=>intro _;show _<=(0:Int)/\(0:Int)<=_;omega
   | succ m ihm=>
    intro h
    have h1:=ihm (by omega)
    have h2:=bM m m (by omega) (by omega) (by omega) (by omega) (k+1)
    show _<=(Sg m λi=>Mk n A (k+1) i i)+Mk n A (k+1) m m/\(Sg m λi=>Mk n A (k+1) i i)+Mk n A (k+1) m m<=_
    omega
  have hr:=ch_row (F:=F) (A:=A) (c:=c) (B:=dM (Mk n A k) (sg2 k * ek n A k) n) (W:=Mk n A (k+1)) (k:=(k:Int)+1) hn (λi j i0 i1 j0 j1=>by
   rw [Mk_step k i0 i1 j0 j1]
   have:=bM i j i0 i1 j0 j1 (k+1)
   exact ap (by omega) (by omega)) hF (C:=af.pl253 F g) (λm h=>by
   have:=tb m h
   exact ap (by omega) (by omega)) n F 0 (by omega) (by omega) (by omega)
  rw [e1]
  rw [show (Sg 0 λi=>Mk n A (k+1) i i)=0 from rfl,show ((0:Nat):Int)=0 from rfl] at hr
  rw [show ((0:Nat):Int)=0 from rfl,hr]
  unfold af.pj23 af.pj22
  have et:(Sg n λi=>Mk n A (k+1) i i)=((k:Int)+1) * (sg2 k * ek n A (k+1)):=by
   show (Sg n λi=>sg2 k * Ek n A k i i)=_
   rw [Sg_mul,Ek_tr,<-Int.mul_assoc,Int.mul_comm (sg2 k),Int.mul_assoc]
  have t1:=tb n (Nat.le_refl n)
  have ev:IntKind.i64.wrap (Int.tdiv (IntKind.i64.wrap (0 - Sg n λi=>Mk n A (k+1) i i)) ((k:Int)+1))=sg2 (k+1) * ek n A (k+1):=by
   rw [ap (x:=0 - _) (by omega) (by omega),et]
   have:0 - ((k:Int)+1) * (sg2 k * ek n A (k+1))=((k:Int)+1) * (sg2 (k+1) * ek n A (k+1)):=by
    show _=((k:Int)+1) * (- sg2 k * ek n A (k+1))
    rw [Int.neg_mul,Int.mul_neg,Int.zero_sub]
   rw [this,Int.mul_tdiv_cancel_left _ (by omega)]
   have:=bd (k+1)
   exact ap (by omega) (by omega)
  have hl:=hc.len
  have hix:ix c ((n:Int) - ((k:Int)+1))=some (n - (k+1)):=by
   unfold ix;rw [if_pos (by omega)];congr 1;omega
  rw [if_neg (by omega),ap (x:=(n:Int) - ((k:Int)+1)) (by omega) (by omega),hix,Option.bind_some,Option.bind_some,ev,ap (x:=(k:Int)+1+1) (by omega) (by omega)]
  exact ih g (k+1) _ (by omega) (by omega) (by omega) ⟨by rw [List.length_set];exact hl,λt h1 h2=>by
   by_cases e:t=k+1
   ·subst e;exact gt_set_eq (by omega)
   ·rw [gt_set_ne (by omega)];exact hc.val t h1 (by omega)⟩
theorem char_p (hn:n<=12) (hF:1000<F) (hs:Sml n A):∃ c,Cf n A (n+1) c/\af.p F n n (mk n n A)=some c:=by
 have hm:n * n<=12 * 12:=Nat.mul_le_mul hn hn
 have hz:bD.p F n n=some ((n:Int),(n:Int),mk n n λ_ _=>0):=by
  unfold bD.p mkn
  rw [<- Int.natCast_mul,ap (by omega) (by omega),if_pos (by omega),Option.bind_some,Int.toNat_natCast,mk_zero]
 have hk:mkn (IntKind.i64.wrap ((n:Int)+1)) (0:Int)=some (List.replicate (n+1) 0):=by
  rw [ap (by omega) (by omega)]
  unfold mkn
  rw [if_pos (by omega)];congr 1
 have hix:ix (List.replicate (n+1) (0:Int)) (n:Int)=some n:=by
  unfold ix;rw [if_pos (by rw [List.length_replicate];omega)];congr 1
 unfold af.p
 rw [hk,Option.bind_some,hix,Option.bind_some,Option.bind_some,hz,Option.bind_some]
 simp only []
 exact char_v hn hF hs n F 0 _ (by omega) (by omega) (by omega) ⟨by rw [List.length_set,List.length_replicate],λt h1 h2=>by
  obtain rfl:t=0:=by omega
  rw [ek_zero]
  exact gt_set_eq (by rw [List.length_replicate];omega)⟩
end Go.Proofs.Ytokekkacliomkaa.AE
end
section
namespace Go.Proofs.Ytokekkacliomkaa.AE
open Go Go.AE Go.Proofs
variable {R C F:Nat} {A:Mat} {i j k:Int}
def okL (l:List Int) (i:Int):Prop:=∀ a:Nat,i<=a->a<l.length->InR (gt l a) (-1000000000000) 1000000000000
theorem specM_l {l:List Int} (hl:l.length<=2000000):∀ (n g:Nat) (i:Int),l.length - i=n->n<g->0<=i->∃ b,aY.pl29 F g l i=some b/\(b=true↔okL l i):=by
 intro n
 induction n with
 | zero=>
  intro g i hn hg hi
  obtain ⟨g,rfl⟩:∃ g',g=g'+1:=⟨g - 1,by omega⟩
  rw [aY.pl29,decide_eq_false (by omega),cond_false]
  exact ⟨_,rfl,⟨λ_ a h1 h2=>by omega,λ_=>rfl⟩⟩
 | succ n ih=>
  intro g i hn hg hi
  obtain ⟨g,rfl⟩:∃ g',g=g'+1:=⟨g - 1,by omega⟩
  rw [aY.pl29,decide_eq_true (by omega),cond_true,ix_of hi (by omega),Option.bind_some,Gp,Option.bind_some]
  by_cases h:InR (gt l i.toNat) (-1000000000000) 1000000000000
  ·rw [decide_eq_true h,Bool.not_true,cond_false,ap (by omega) (by omega)]
   obtain ⟨b,e,hb⟩:=ih g (i+1) (by omega) (by omega) (by omega)
   refine ⟨b,e,hb.trans ⟨λh1 a h3 h4=>?_,λh1 a h3 h4=>h1 a (by omega) h4⟩⟩
   by_cases e:a=i.toNat
   ·subst e;exact h
   ·exact h1 a (by omega) h4
  ·rw [decide_eq_false h,Bool.not_false,cond_true]
   exact ⟨_,rfl,⟨λh=>(by cases h),λh1=>absurd (h1 i.toNat (by omega) (by omega)) h⟩⟩
theorem implM_l {l:List Int} (hl:l.length<=2000000):∀ (n g:Nat) (i:Int),l.length - i=n->n<g->0<=i->∃ r:Int,bo.pl13 F g l l.length i=some r/\(¬ r>=0↔okL l i):=by
 intro n
 induction n with
 | zero=>
  intro g i hn hg hi
  obtain ⟨g,rfl⟩:∃ g',g=g'+1:=⟨g - 1,by omega⟩
  rw [bo.pl13,decide_eq_false (by omega),cond_false]
  exact ⟨_,rfl,⟨λ_ a h1 h2=>by omega,λ_=>by decide⟩⟩
 | succ n ih=>
  intro g i hn hg hi
  obtain ⟨g,rfl⟩:∃ g',g=g'+1:=⟨g - 1,by omega⟩
  unfold bo.pl13 dc.p
  rw [decide_eq_true (by omega),cond_true,ix_of hi (by omega),Option.bind_some,Gq,Option.bind_some,Option.bind_some]
  by_cases h:InR (gt l i.toNat) (-1000000000000) 1000000000000
  ·rw [decide_eq_true h,Bool.not_true,cond_false,ap (by omega) (by omega)]
   obtain ⟨b,e,hb⟩:=ih g (i+1) (by omega) (by omega) (by omega)
   refine ⟨b,e,hb.trans ⟨λh1 a h3 h4=>?_,λh1 a h3 h4=>h1 a (by omega) h4⟩⟩
   by_cases e:a=i.toNat
   ·subst e;exact h
   ·exact h1 a (by omega) h4
  ·rw [decide_eq_false h,Bool.not_false,cond_true]
   exact ⟨_,rfl,⟨λh=>absurd hi h,λh1=>absurd (h1 i.toNat (by omega) (by omega)) h⟩⟩
theorem isMatrix_both {a b:Int} {l:List Int} (hF:5000000<F) (hl:l.length<=2000000) :
  ∃ v:Bool,aY.p F a b l=some v/\bN.p F a b l=some v/\(v=true->∃ (R C:Nat) (A:Mat),a=R/\b=C/\R<=48/\C<=48/\l=mk R C A/\Bd R C A):=by
 unfold aY.p bN.p
 rw [Gp,Gp,Gq,Gq]
 simp only [Option.bind_some]
 by_cases ha:InR a 0 48
 ·rw [decide_eq_true ha]
  simp only [Bool.not_true,cond_false,cond_true]
  by_cases hb:InR b 0 48
  ·rw [decide_eq_true hb]
   simp only [Bool.not_true,cond_false,cond_true]
   unfold dI.p
   rw [Option.bind_some]
   obtain ⟨ha0,ha1⟩:=ha
   obtain ⟨hb0,hb1⟩:=hb
   obtain ⟨R,rfl⟩:=Int.eq_ofNat_of_zero_le ha0
   obtain ⟨C,rfl⟩:=Int.eq_ofNat_of_zero_le hb0
   have hm:R * C<=48 * 48:=Nat.mul_le_mul (by omega) (by omega)
   rw [<- Int.natCast_mul,ap (by omega) (by omega)]
   by_cases h:(l.length:Int)=((R * C:Nat):Int)
   ·rw [h,bne_self_eq_false,cond_false,beq_self_eq_true,cond_true]
    unfold dg.p bo.p
    obtain ⟨v,e1,h1⟩:=specM_l (F:=F) hl l.length F 0 (by omega) (by omega) (by omega)
    obtain ⟨r,e2,h2⟩:=implM_l (F:=F) hl l.length F 0 (by omega) (by omega) (by omega)
    rw [e1,e2,Option.bind_some,Option.bind_some]
    have:(!decide (r>=0))=v:=by
     rw [Bool.eq_iff_iff,h1,<-h2];simp
    rw [this]
    refine ⟨v,rfl,rfl,λhv=>⟨R,C,_,rfl,rfl,by omega,by omega,aao (by omega),?_⟩⟩
    intro i j hi0 hi hj0 hj
    obtain ⟨x,y,rfl,rfl,g1,g2,g3,g4,g5⟩:=zC hi0 hi hj0 hj
    show InR (gt l ((x:Int) * C+y).toNat) (-1000000000000) 1000000000000
    rw [g3]
    exact h1.1 hv _ (by omega) (by omega)
   ·rw [show ((l.length:Int) != ((R * C:Nat):Int))=true from bne_iff_ne.2 h,show ((l.length:Int)==((R * C:Nat):Int))=false from beq_eq_false_iff_ne.2 h]
    exact ⟨false,rfl,rfl,λh=>(by cases h)⟩
  ·rw [decide_eq_false hb]
   exact ⟨false,rfl,rfl,λh=>(by cases h)⟩
 ·rw [decide_eq_false ha]
  exact ⟨false,rfl,rfl,λh=>(by cases h)⟩
end Go.Proofs.Ytokekkacliomkaa.AE
end
section
namespace Go.Proofs.Ytokekkacliomkaa.AE
open Go Go.AE Go.Proofs
variable {F n:Nat}
abbrev DS:=Int->Int->List Int->Int->Int->Int->Option Int
abbrev DI:=Int->Int->List Int->Int->Int->Int->Int->Option (Int×List Int)
abbrev DS2:=Int->Int->List Int->Int->Int->Int->Int->Option Int
abbrev DI2:=Int->Int->List Int->Int->Int->Int->Int->Int->Int->Option (Int×List Int)
theorem pivot_v {C:DS} {C':DI} {M:Mat} (hn:n<=48) {s l k:Int} (k0:0<=k) (hk:k<n):∀ (d g:Nat) (p:Int),n - p=d->d<g->k<=p->p<=n->(∀ i:Int,k<=i->i<p->M i k=0) ->
  ∃ p':Int,k<=p'/\p'<=n/\(∀ i:Int,k<=i->i<p'->M i k=0)/\(p'<n->M p' k≠0)/\ag.pl4010 F C g n n (mk n n M) s l k p=ag.pj17 F C n n (mk n n M) s l k p' /\
   ba.pl3766 F C' g n n (mk n n M) s l n k k p=ba.pj21 F C' n n (mk n n M) s l k p' n k:=by
 intro d
 induction d with
 | zero=>
  intro g p hd hg hp hp2 hz
  obtain ⟨g,rfl⟩:∃ g',g=g'+1:=⟨g - 1,by omega⟩
  refine ⟨p,hp,hp2,hz,λq=>by omega,?_,?_⟩
  ·rw [ag.pl4010,decide_eq_false (by omega),cond_false]
  ·rw [ba.pl3766,decide_eq_false (by omega),cond_false]
 | succ d ih=>
  intro g p hd hg hp hp2 hz
  obtain ⟨g,rfl⟩:∃ g',g=g'+1:=⟨g - 1,by omega⟩
  rw [ag.pl4010,decide_eq_true (by omega),cond_true,at_mk (by omega) (by omega) (by omega) (by omega) k0 hk,Option.bind_some,ba.pl3766,decide_eq_true (by omega),cond_true,ca (by omega) (by omega) (by omega) (by omega) k0 hk,Option.bind_some,cz (by omega) (by omega) k0 hk,ap (x:=p+1) (by omega) (by omega)]
  by_cases c:M p k=0
  ·rw [c,beq_self_eq_true,cond_true,cond_true]
   exact ih g (p+1) (by omega) (by omega) (by omega) (by omega) λi a b=>by
    by_cases e:i=p
    ·rw [e];exact c
    ·exact hz i a (by omega)
  ·rw [show (M p k==0)=false from beq_eq_false_iff_ne.mpr c,cond_false,cond_false]
   exact ⟨p,hp,hp2,hz,λ_=>c,rfl,rfl⟩
theorem swap_v {C':DI} (hn:n<=48) {s l k p:Int} (k0:0<=k) (hk:k<n) (p0:0<=p) (hp:p<n):∀ (d g:Nat) (A:Mat) (j:Int),n - j=d->d<g->0<=j ->
  ba.pl241131 F C' g n n (mk n n A) s l n k k p n j=ba.pj19 F C' n n (mk n n λa b=>if j<=b then A (sw p k a) b else A a b) s l k n k:=by
 intro d
 induction d with
 | zero=>
  intro g A j hd hg hj
  obtain ⟨g,rfl⟩:∃ g',g=g'+1:=⟨g - 1,by omega⟩
  rw [ba.pl241131,decide_eq_false (by omega),cond_false]
  congr 1
  apply bl
  intro a b _ _ _ _
  rw [if_neg (by omega)]
 | succ d ih=>
  intro g A j hd hg hj
  obtain ⟨g,rfl⟩:∃ g',g=g'+1:=⟨g - 1,by omega⟩
  rw [ba.pl241131,decide_eq_true (by omega),cond_true]
  simp (disch:=omega) only [ca,cz,dN,Option.bind_some,ap]
  rw [ih _ _ _ (by omega) (by omega) (by omega)]
  congr 1
  apply bl
  intro a b _ _ _ _
  unfold upd sw
  grind
def rowM (n:Nat) (M W:Mat) (k i j:Int):Mat:=λa b=>if k<a/\k<b/\b<n/\(a<i\/a=i/\b<j) then W a b else M a b
abbrev In9 (x:Int):Prop:=-1000000000<=x/\x<=1000000000
theorem cell_v {a b c d l w:Int} (ha:In9 a) (hb:In9 b) (hc:In9 c) (hd:In9 d) (hw:In9 w) (hl:l≠0) (e:a * b - c * d=l * w):IntKind.i64.wrap (Int.tdiv (IntKind.i64.wrap (IntKind.i64.wrap (a * b) - IntKind.i64.wrap (c * d))) l)=w:=by
 have h1:=mul_in ha hb
 have h2:=mul_in hc hd
 rw [ap (x:=a * b) (by omega) (by omega),ap (x:=c * d) (by omega) (by omega),ap (x:=a * b - c * d) (by omega) (by omega),e,Int.mul_tdiv_cancel_left _ hl,ap (by omega) (by omega)]
section
variable {M W:Mat} {s l k:Int} (hn:n<=48) (k0:0<=k) (hl:l≠0)
 (hM:∀ a b:Int,k<=a->a<n->k<=b->b<n->In9 (M a b)) (hW:∀ a b:Int,k<a->a<n->k<b->b<n->In9 (W a b))
 (hE:∀ a b:Int,k<a->a<n->k<b->b<n->M a b * M k k - M a k * M k b=l * W a b)
include hn k0 hl hM hW hE
theorem row_v {C:DS} {C':DI} {C2:DS2} {C2':DI2} {i:Int} (hi:k<i) (hi2:i<n):∀ (d g:Nat) (j:Int),n - j=d->d<g->k<j ->
  ag.pl1027029 F C C2 g n n (mk n n (rowM n M W k i j)) s l k i j=C2 n n (mk n n (rowM n M W k (i+1) (k+1))) s l k (i+1) /\
   ba.pl964565 F C' C2' g n n (mk n n (rowM n M W k i j)) s l n k k i j=C2' n n (mk n n (rowM n M W k (i+1) (k+1))) s l n k k (i+1):=by
 intro d
 induction d with
 | zero=>
  intro g j hd hg hj
  obtain ⟨g,rfl⟩:∃ g',g=g'+1:=⟨g - 1,by omega⟩
  have e:rowM n M W k i j=rowM n M W k (i+1) (k+1):=by
   funext a b
   unfold rowM
   by_cases h:k<a/\k<b/\b<n/\(a<i\/a=i/\b<j)
   ·rw [if_pos h,if_pos (by omega)]
   ·rw [if_neg h,if_neg (by omega)]
  rw [e,ag.pl1027029,decide_eq_false (by omega),cond_false,ba.pl964565,decide_eq_false (by omega),cond_false]
  unfold ag.pj15 ag.pj14 ba.pj17 ba.pj16
  rw [ap (x:=i+1) (by omega) (by omega)]
  exact ⟨rfl,rfl⟩
 | succ d ih=>
  intro g j hd hg hj
  obtain ⟨g,rfl⟩:∃ g',g=g'+1:=⟨g - 1,by omega⟩
  have r1:rowM n M W k i j i j=M i j:=if_neg (by omega)
  have r2:rowM n M W k i j k k=M k k:=if_neg (by omega)
  have r3:rowM n M W k i j i k=M i k:=if_neg (by omega)
  have r4:rowM n M W k i j k j=M k j:=if_neg (by omega)
  have c:=cell_v (hM i j (by omega) hi2 (by omega) (by omega)) (hM k k (by omega) (by omega) (by omega) (by omega)) (hM i k (by omega) hi2 (by omega) (by omega)) (hM k j (by omega) (by omega) (by omega) (by omega)) (hW i j hi hi2 hj (by omega)) hl (hE i j hi hi2 hj (by omega))
  have u:upd (rowM n M W k i j) i j (W i j)=rowM n M W k i (j+1):=by
   funext a b
   unfold upd rowM
   by_cases h:a=i/\b=j
   ·rw [if_pos h,if_pos (by omega),h.1,h.2]
   ·rw [if_neg h]
    by_cases h2:k<a/\k<b/\b<n/\(a<i\/a=i/\b<j)
    ·rw [if_pos h2,if_pos (by omega)]
    ·rw [if_neg h2,if_neg (by omega)]
  have ihh:=ih g (j+1) (by omega) (by omega) (by omega)
  rw [ag.pl1027029,decide_eq_true (by omega),cond_true,ba.pl964565,decide_eq_true (by omega),cond_true,ap (x:=j+1) (by omega) (by omega)]
  rw [at_mk (i:=i) (j:=j) (by omega) (by omega) (by omega) (by omega) (by omega) (by omega),Option.bind_some,at_mk (i:=k) (j:=k) (by omega) (by omega) (by omega) (by omega) (by omega) (by omega),Option.bind_some,
   at_mk (i:=i) (j:=k) (by omega) (by omega) (by omega) (by omega) (by omega) (by omega),Option.bind_some,at_mk (i:=k) (j:=j) (by omega) (by omega) (by omega) (by omega) (by omega) (by omega),Option.bind_some,if_neg hl,
   ca (i:=i) (j:=j) (by omega) (by omega) (by omega) (by omega) (by omega) (by omega),Option.bind_some,Option.bind_some,Option.bind_some,Option.bind_some,
   ca (i:=k) (j:=k) (by omega) (by omega) (by omega) (by omega) (by omega) (by omega),Option.bind_some,ca (i:=i) (j:=k) (by omega) (by omega) (by omega) (by omega) (by omega) (by omega),Option.bind_some,
   ca (i:=k) (j:=j) (by omega) (by omega) (by omega) (by omega) (by omega) (by omega),Option.bind_some,if_neg hl,Option.bind_some,
   cz (i:=i) (j:=j) (by omega) (by omega) (by omega) (by omega),cz (i:=k) (j:=k) (by omega) (by omega) (by omega) (by omega),cz (i:=i) (j:=k) (by omega) (by omega) (by omega) (by omega),cz (i:=k) (j:=j) (by omega) (by omega) (by omega) (by omega),
   r1,r2,r3,r4,c,dN (by omega) (by omega) (by omega) (by omega),u]
  exact ihh
theorem rows_v {C:DS} {C':DI} (hk:k<n) (hF:1000<F):∀ (d g:Nat) (i:Int),n - i=d->d<g->k<i->i<=n ->
  ag.pl64189 F C g n n (mk n n (rowM n M W k i (k+1))) s l k i=C n n (mk n n (rowM n M W k n (k+1))) s (M k k) (k+1) /\
   ba.pl60285 F C' g n n (mk n n (rowM n M W k i (k+1))) s l n k k i=C' n n (mk n n (rowM n M W k n (k+1))) s (M k k) n (k+1):=by
 intro d
 induction d with
 | zero=>
  intro g i hd hg hi hi2
  obtain ⟨g,rfl⟩:∃ g',g=g'+1:=⟨g - 1,by omega⟩
  obtain rfl:i=n:=by omega
  have r2:rowM n M W k n (k+1) k k=M k k:=if_neg (by omega)
  rw [ag.pl64189,decide_eq_false (by omega),cond_false,ba.pl60285,decide_eq_false (by omega),cond_false]
  unfold ag.pj13 ag.pj12 ba.pj15 ba.pj14
  rw [at_mk (by omega) (by omega) k0 hk k0 hk,Option.bind_some,ca (by omega) (by omega) k0 hk k0 hk,Option.bind_some,cz k0 hk k0 hk,r2,ap (x:=k+1) (by omega) (by omega)]
  exact ⟨rfl,rfl⟩
 | succ d ih=>
  intro g i hd hg hi hi2
  obtain ⟨g,rfl⟩:∃ g',g=g'+1:=⟨g - 1,by omega⟩
  obtain ⟨a1,a2⟩:=row_v (F:=F) (s:=s) hn k0 hl hM hW hE (C:=C) (C':=C') (C2:=ag.pl64189 F C g) (C2':=ba.pl60285 F C' g) hi (by omega) (n - (k+1)).toNat F (k+1) (by omega) (by omega) (by omega)
  rw [ag.pl64189,decide_eq_true (by omega),cond_true,ba.pl60285,decide_eq_true (by omega),cond_true,ap (x:=k+1) (by omega) (by omega),a1,a2]
  exact ih g (i+1) (by omega) (by omega) (by omega) (by omega)
end
theorem in9 {x:Int} (h:ab0 x<=1000000000):In9 x:=by unfold ab0 at h;split at h <;> constructor <;> omega
theorem det_v (hn:n<=48) (hF:1000<F) {A0:Mat}:∀ (d g k:Nat) (B M:Mat) (s:Int),n - k=d->d<g->k<=n->(s=1\/s=-1)->det n A0=s * det n B->Pi n (mx n B)<=1000000000->det k B≠0 ->
  (∀ i j:Int,k<=i->i<n->k<=j->j<n->M i j=bm B k i j) ->
  ag.pl125 F g n n (mk n n M) s (det k B) k=some (det n A0)/\∃ z,ba.pl29 F g n n (mk n n M) s (det k B) n k=some (det n A0,z):=by
 intro d
 induction d with
 | zero=>
  intro g k B M s hd hg hk hs h0 hV hl hM
  obtain ⟨g,rfl⟩:∃ g',g=g'+1:=⟨g - 1,by omega⟩
  obtain rfl:k=n:=by omega
  have hb:=in9 (Int.le_trans det_bound hV)
  rw [ag.pl125,decide_eq_false (by omega),cond_false,ba.pl29,decide_eq_false (by omega),cond_false]
  unfold ag.pj9 ba.pj11
  have e:IntKind.i64.wrap (s * det k B)=det k A0:=by
   rw [h0]
   rcases hs with e | e <;> subst e <;> exact ap (by omega) (by omega)
  rw [e]
  exact ⟨rfl,_,rfl⟩
 | succ d ih=>
  intro g k B M s hd hg hk hs h0 hV hl hM
  obtain ⟨g,rfl⟩:∃ g',g=g'+1:=⟨g - 1,by omega⟩
  have hk':k<n:=by omega
  -- the rows below,whatever the pivot's row was
  have go:∀ (B M:Mat) (s:Int),(s=1\/s=-1)->det n A0=s * det n B->Pi n (mx n B)<=1000000000->det k B≠0 ->
    (∀ i j:Int,k<=i->i<n->k<=j->j<n->M i j=bm B k i j)->M k k≠0 ->
    ag.pl64189 F (ag.pl125 F g) F n n (mk n n M) s (det k B) k (k+1)=some (det n A0)/\∃ z,ba.pl60285 F (ba.pl29 F g) F n n (mk n n M) s (det k B) n k k (k+1)=some (det n A0,z):=by
   intro B M s hs h0 hV hl hM hp
   have e0:rowM n M (bm B (k+1)) k ((k:Int)+1) ((k:Int)+1)=M:=by
    funext a b;exact if_neg (by omega)
   have hMk:M k k=det (k+1) B:=by rw [hM k k (by omega) (by omega) (by omega) (by omega),bm_kk]
   obtain ⟨a1,a2⟩:=rows_v (F:=F) (M:=M) (W:=bm B (k+1)) (s:=s) (l:=det k B) (k:=k) hn (by omega) hl
    (λa b h1 h2 h3 h4=>by rw [hM a b h1 h2 h3 h4];exact in9 (Int.le_trans (bm_bound h1 h2 h3 h4) hV))
    (λa b h1 h2 h3 h4=>in9 (Int.le_trans (bm_bound (by omega) h2 (by omega) h4) hV))
    (λa b h1 h2 h3 h4=>by
     rw [hM a b (by omega) h2 (by omega) h4,hM k k (by omega) (by omega) (by omega) (by omega),hM a k (by omega) h2 (by omega) (by omega),hM k b (by omega) (by omega) (by omega) h4]
     exact (sylv h1 h3 hl).symm)
    (C:=ag.pl125 F g) (C':=ba.pl29 F g) (by omega) hF (n - (k+1)) F ((k:Int)+1) (by omega) (by omega) (by omega) (by omega)
   rw [e0] at a1 a2
   rw [a1,a2,hMk]
   exact ih g (k+1) B _ s (by omega) (by omega) (by omega) hs h0 hV (by rw [<- hMk];exact hp) λi j h1 h2 h3 h4=>if_pos (by omega)
  obtain ⟨p,p1,p2,p3,p4,p5,p6⟩:=pivot_v (F:=F) (C:=ag.pl125 F g) (C':=ba.pl29 F g) (M:=M) hn (s:=s) (l:=det k B) (k:=k) (by omega) (by omega) (n - k) F k (by omega) (by omega) (by omega) (by omega) λi a b=>by omega
  rw [ag.pl125,decide_eq_true (by omega),cond_true,p5,ba.pl29,decide_eq_true (by omega),cond_true,p6]
  unfold ag.pj17 ba.pj21
  by_cases c:p=n
  ·rw [show (p==(n:Int))=true from beq_iff_eq.mpr c,cond_true,cond_true]
   have z:det n B=0:=no_pivot hk' hl λi h1 h2=>by
    rw [<- hM i k h1 h2 (by omega) (by omega)];exact p3 i h1 (by omega)
   rw [h0,z,Int.mul_zero]
   exact ⟨rfl,_,rfl⟩
  ·rw [show (p==(n:Int))=false from beq_eq_false_iff_ne.mpr c,cond_false,cond_false]
   have hp:=p4 (by omega)
   by_cases c2:p=k
   ·rw [show (p != (k:Int))=false by simp;omega,cond_false,cond_false]
    unfold ag.pj16 ba.pj20
    rw [ap (x:=(k:Int)+1) (by omega) (by omega)]
    exact go B M s hs h0 hV hl hM (by rw [<- c2] at hp ⊢;exact hp)
   ·rw [show (p != (k:Int))=true by simp;omega,cond_true,cond_true]
    rw [zf (by omega) (by omega) (by omega) (by omega) (by omega) (by omega) (by omega),Option.bind_some]
    have sv:=swap_v (F:=F) (C':=ba.pl29 F g) hn (s:=IntKind.i64.wrap (0 - s)) (l:=det k B) (k:=k) (p:=p) (by omega) (by omega) (by omega) (by omega) n F M 0 (by omega) (by omega) (by omega)
    have e1:(mk n n λa b=>if (0:Int)<=b then M (sw p k a) b else M a b)=mk n n (swR M p k):=bl λa b _ _ h _=>if_pos h
    rw [sv,e1]
    unfold ag.pj16 ba.pj19 ba.pj18
    rw [ap (x:=(k:Int)+1) (by omega) (by omega)]
    have es:IntKind.i64.wrap (0 - s)=-s:=by rcases hs with e | e <;> subst e <;> rfl
    rw [es,<-det_lo_sw (B:=B) (k:=k) p1]
    refine go (swR B p k) (swR M p k) (-s) (by omega) ?_ ?_ (by rw [det_lo_sw p1];exact hl) (λi j h1 h2 h3 h4=>?_) ?_
    ·rw [det_ml.swp B p k ⟨by omega,by omega⟩ ⟨by omega,by omega⟩ c2,Int.neg_mul_neg];exact h0
    ·rw [vol_sw ⟨by omega,by omega⟩ ⟨by omega,by omega⟩];exact hV
    ·have q:=sw_hi (N:=n) p1 (by omega) (Int.le_refl (k:Int)) (by omega) h1 h2
     rw [bm_sw p1 h1]
     exact hM _ j q.1 q.2 h3 h4
    ·show M (sw p k k) k≠0
     have:sw p k k=p:=by unfold sw;rw [if_neg (by omega),if_pos rfl]
     rw [this];exact hp
theorem det_s (hn:n<=48) (hF:1000<F) {A:Mat} (hV:Pi n (mx n A)<=1000000000):ag.p F n (mk n n A)=some (det n A)/\∃ z,ba.p F n n (mk n n A)=some (det n A,z):=by
 have hm:n * n<=48 * 48:=Nat.mul_le_mul hn hn
 obtain ⟨h1,h2⟩:=det_v (F:=F) (A0:=A) hn hF n F 0 A A 1 (by omega) (by omega) (by omega) (.inl rfl) (by rw [Int.one_mul]) hV (by show (1:Int)≠0;omega) λi j _ _ _ _=>bm_zero.symm
 refine ⟨?_,h2⟩
 unfold ag.p
 have:apn ([]:List Int) (mk n n A)=some (mk n n A):=by unfold apn;rw [if_pos (by rw [cZ];simp;omega)];rfl
 rw [this,Option.bind_some]
 exact h1
end Go.Proofs.Ytokekkacliomkaa.AE
end
section
namespace Go.Proofs.Ytokekkacliomkaa.AE
open Go Go.AE Go.Proofs
variable {F n:Nat} {A:Mat}
theorem rs_le (hb:Bd n n A) {i:Int} (i0:0<=i) (i1:i<n):∀ m:Nat,m<=n->0<=Sg m (λj=>ab0 (A i j))/\Sg m (λj=>ab0 (A i j))<=1000000000000 * m
 | 0,_=>by show (0:Int)<=0/\(0:Int)<=_;omega
 | m+1,h=>by
  have h1:=rs_le hb i0 i1 m (by omega)
  have h2:=hb i m i0 i1 (by omega) (by omega)
  have h3:0<=ab0 (A i m)/\ab0 (A i m)<=1000000000000:=by unfold ab0;split <;> omega
  show 0<=Sg m (λj=>ab0 (A i j))+ab0 (A i m)/\Sg m (λj=>ab0 (A i j))+ab0 (A i m)<=1000000000000 * ((m+1:Nat):Int)
  omega
theorem abs_i {x:Int} (h:-1000000000000<=x/\x<=1000000000000):cn.p F x=some (ab0 x):=by
 unfold cn.p ab0
 by_cases c:x<0
 ·rw [decide_eq_true c,cond_true,if_pos c,ap (by omega) (by omega),show 0 - x=-x by omega]
 ·rw [decide_eq_false c,cond_false,if_neg c]
theorem abs_s {x:Int} (h:-1000000000000<=x/\x<=1000000000000):cq.p F x=some (ab0 x):=by
 unfold cq.p ab0
 rw [ap (by omega) (by omega)]
 congr 1
 split <;> split <;> omega
theorem vrow_i (hn:n<=48) (hb:Bd n n A) {pC} {w x y i:Int} {l r:List Int} (i0:0<=i) (i1:i<n) (hr:r.length=n) (hg:∀ m:Nat,m<n->gt r m=A i m):∀ (d g m:Nat),n - m=d->d<g->m<=n ->
  aB.pl7533 F pC g w l x y i (Sg m λj=>ab0 (A i j)) r n m=aB.pj4 F pC w l x (rsum n A i) y i:=by
 intro d
 induction d with
 | zero=>
  intro g m hd hgg hm
  obtain ⟨g,rfl⟩:∃ g',g=g'+1:=⟨g - 1,by omega⟩
  obtain rfl:m=n:=by omega
  rw [aB.pl7533,decide_eq_false (by omega),cond_false];rfl
 | succ d ih=>
  intro g m hd hgg hm
  obtain ⟨g,rfl⟩:∃ g',g=g'+1:=⟨g - 1,by omega⟩
  have h1:=rs_le hb i0 i1 m hm
  have h2:=hb i m i0 i1 (by omega) (by omega)
  have h3:0<=ab0 (A i m)/\ab0 (A i m)<=1000000000000:=by unfold ab0;split <;> omega
  have hix:ix r (m:Int)=some m:=by unfold ix;rw [if_pos (by omega)];congr 1
  rw [aB.pl7533,decide_eq_true (by omega),cond_true,hix,Option.bind_some,hg m (by omega),abs_i h2,Option.bind_some,ap (x:=(m:Int)+1) (by omega) (by omega),ap (by omega) (by omega)]
  exact ih g (m+1) (by omega) (by omega) (by omega)
theorem vol_i (hn:n<=48) (hF:1000<F) (hb:Bd n n A):∀ (d g i:Nat),n - i=d->d<g->i<=n->Pi i (mx n A)<=1000000000 ->
  ∃ v,aB.pl29 F g n (mk n n A) (Pi i (mx n A)) n i=some v/\(v<=1000000000↔Pi n (mx n A)<=1000000000):=by
 intro d
 induction d with
 | zero=>
  intro g i hd hgg hi hp
  obtain ⟨g,rfl⟩:∃ g',g=g'+1:=⟨g - 1,by omega⟩
  obtain rfl:i=n:=by omega
  rw [aB.pl29,decide_eq_false (by omega),cond_false]
  exact ⟨_,rfl,Iff.rfl⟩
 | succ d ih=>
  intro g i hd hgg hi hp
  obtain ⟨g,rfl⟩:∃ g',g=g'+1:=⟨g - 1,by omega⟩
  obtain ⟨r,e1,e2,e3⟩:=cutf_row (F:=F) (A:=A) (R:=n) (C:=n) (k:=(i:Int)) (by omega) (by omega) (by omega) (by omega)
  have hv:=vrow_i (F:=F) (pC:=aB.pl29 F g) (w:=(n:Int)) (x:=Pi i (mx n A)) (y:=(n:Int)) (l:=mk n n A) hn hb (i:=(i:Int)) (by omega) (by omega) e2 e3 n F 0 (by omega) (by omega) (by omega)
  rw [aB.pl29,decide_eq_true (by omega),cond_true,e1,Option.bind_some,e2]
  have h0:(Sg 0 λj=>ab0 (A i j))=0:=rfl
  rw [h0] at hv
  rw [show ((0:Nat):Int)=0 from rfl] at hv
  rw [hv]
  have h1:=rs_le hb (i:=(i:Int)) (by omega) (by omega) n (Nat.le_refl n)
  have hp1:=Pi_pos (f:=mx n A) (λx=>(mx_le x).2) i
  have hm:=mx_le (n:=n) (B:=A) i
  unfold aB.pj4
  obtain ⟨t,ht⟩:∃ t,t=(if 1>(if 1000000001<rsum n A i then 1000000001 else rsum n A i) then 1 else (if 1000000001<rsum n A i then 1000000001 else rsum n A i)):=⟨_,rfl⟩
  rw [<- ht]
  have ht1:1<=t/\t<=1000000001:=by rw [ht];split <;> (try split) <;> omega
  have hpt:1 * 1<=Pi i (mx n A) * t/\Pi i (mx n A) * t<=1000000000 * 1000000001:=⟨Int.mul_le_mul hp1 ht1.1 (by omega) (by omega),Int.mul_le_mul hp ht1.2 (by omega) (by omega)⟩
  rw [ap (x:=Pi i (mx n A) * t) (by omega) (by omega)]
  have hnext:Pi (i+1) (mx n A)=Pi i (mx n A) * mx n A i:=rfl
  have up:Pi (i+1) (mx n A)<=Pi n (mx n A):=by
   rw [hnext];exact Pi_pick (λx=>(mx_le x).2) (Int.le_refl _) (by omega)
  by_cases c:rsum n A i<=1000000000
  ·have et:t=mx n A i:=by rw [ht];unfold mx;split <;> split <;> (try split) <;> omega
   rw [et,<-hnext]
   by_cases q:Pi (i+1) (mx n A)>1000000000
   ·rw [decide_eq_true q,cond_true]
    exact ⟨_,rfl,by omega⟩
   ·rw [decide_eq_false q,cond_false]
    unfold aB.pj3
    rw [ap (x:=(i:Int)+1) (by omega) (by omega)]
    exact ih g (i+1) (by omega) (by omega) (by omega) (by omega)
  ·have et:t=1000000001:=by rw [ht];split <;> (try split) <;> omega
   have k1:1 * 1000000001<=Pi i (mx n A) * t:=Int.mul_le_mul hp1 (by omega) (by omega) (by omega)
   have k2:1 * 1000000001<=Pi i (mx n A) * mx n A i:=Int.mul_le_mul hp1 (by omega) (by omega) (by omega)
   rw [decide_eq_true (by omega),cond_true]
   exact ⟨_,rfl,by omega⟩
theorem vrow_s (hn:n<=48) (hb:Bd n n A) {pC} {x i:Int} (i0:0<=i) (i1:i<n):∀ (d g m:Nat),n - m=d->d<g->m<=n ->
  az.pl1877 F pC g n n (mk n n A) x i (Sg m λj=>ab0 (A i j)) m=az.pj4 F pC n n (mk n n A) x i (rsum n A i):=by
 intro d
 induction d with
 | zero=>
  intro g m hd hgg hm
  obtain ⟨g,rfl⟩:∃ g',g=g'+1:=⟨g - 1,by omega⟩
  obtain rfl:m=n:=by omega
  rw [az.pl1877,decide_eq_false (by omega),cond_false];rfl
 | succ d ih=>
  intro g m hd hgg hm
  obtain ⟨g,rfl⟩:∃ g',g=g'+1:=⟨g - 1,by omega⟩
  have h1:=rs_le hb i0 i1 m hm
  have h2:=hb i m i0 i1 (by omega) (by omega)
  have h3:0<=ab0 (A i m)/\ab0 (A i m)<=1000000000000:=by unfold ab0;split <;> omega
  rw [az.pl1877,decide_eq_true (by omega),cond_true,at_mk (by omega) (by omega) i0 i1 (by omega) (by omega),Option.bind_some,abs_s h2,Option.bind_some,ap (x:=(m:Int)+1) (by omega) (by omega),ap (by omega) (by omega)]
  exact ih g (m+1) (by omega) (by omega) (by omega)
theorem vol_s (hn:n<=48) (hF:1000<F) (hb:Bd n n A):∀ (d g i:Nat),n - i=d->d<g->i<=n ->
  az.pl29 F g n n (mk n n A) (1000000000 / Pi i (mx n A)) i=some (decide (Pi n (mx n A)<=1000000000)):=by
 intro d
 induction d with
 | zero=>
  intro g i hd hgg hi
  obtain ⟨g,rfl⟩:∃ g',g=g'+1:=⟨g - 1,by omega⟩
  obtain rfl:i=n:=by omega
  rw [az.pl29,decide_eq_false (by omega),cond_false]
  have hp1:=Pi_pos (f:=mx i A) (λx=>(mx_le x).2) i
  have h:=Int.le_ediv_iff_mul_le (a:=1) (b:=1000000000) (c:=Pi i (mx i A)) (by omega)
  rw [Int.one_mul] at h
  congr 1
  rw [decide_eq_decide]
  exact ⟨λq=>h.1 q,λq=>h.2 q⟩
 | succ d ih=>
  intro g i hd hgg hi
  obtain ⟨g,rfl⟩:∃ g',g=g'+1:=⟨g - 1,by omega⟩
  have hv:=vrow_s (F:=F) (pC:=az.pl29 F g) (x:=1000000000 / Pi i (mx n A)) hn hb (i:=(i:Int)) (by omega) (by omega) n F 0 (by omega) (by omega) (by omega)
  have h0:(Sg 0 λj=>ab0 (A i j))=0:=rfl
  rw [h0,show ((0:Nat):Int)=0 from rfl] at hv
  rw [az.pl29,decide_eq_true (by omega),cond_true,hv]
  have hp1:=Pi_pos (f:=mx n A) (λx=>(mx_le x).2) i
  unfold az.pj4 az.pj3
  have em:(if rsum n A i>1 then rsum n A i else 1)=mx n A i:=by unfold mx;split <;> split <;> omega
  have hm:=mx_le (n:=n) (B:=A) i
  have q0:0<=1000000000 / Pi i (mx n A):=Int.ediv_nonneg (by omega) (by omega)
  have q1:1000000000 / Pi i (mx n A)<=1000000000:=Int.ediv_le_self _ (by omega)
  rw [em,if_neg (by omega),Int.tdiv_eq_ediv_of_nonneg q0,Int.ediv_ediv_of_nonneg (by omega)]
  have r0:0<=1000000000 / (Pi i (mx n A) * mx n A i):=Int.ediv_nonneg (by omega) (Int.mul_nonneg (by omega) (by omega))
  have r1:1000000000 / (Pi i (mx n A) * mx n A i)<=1000000000:=Int.ediv_le_self _ (by omega)
  rw [ap (by omega) (by omega),ap (x:=(i:Int)+1) (by omega) (by omega)]
  exact ih g (i+1) (by omega) (by omega) (by omega)
end Go.Proofs.Ytokekkacliomkaa.AE
end
section
namespace Go.Proofs.Ytokekkacliomkaa.AE
open Go Go.AE Go.Proofs
variable {F n:Nat} {A:Mat}
theorem ab0_add (x y:Int):ab0 (x+y)<=ab0 x+ab0 y:=by unfold ab0;split <;> split <;> split <;> omega
theorem Ss_bound {K:Int}:∀ {n:Nat} {f:(Int->Bool)->Int},(∀ S,Wi n S->ab0 (f S)<=K)->ab0 (Ss n f)<=((2 ^ n:Nat):Int) * K
 | 0,f,h=>by
  have:=h (λ_=>false) λx hx=>by cases hx
  show ab0 (f _)<=1 * K
  omega
 | n+1,f,h=>by
  have h1:=Ss_bound (n:=n) (f:=f) λS hS=>h S λx hx=>by have:=hS x hx;omega
  have h2:=Ss_bound (n:=n) (f:=λS=>f (ad1 S n)) λS hS=>h (ad1 S n) λx hx=>by
   by_cases e:x=n
   ·omega
   ·rw [ad1_ne e] at hx;have:=hS x hx;omega
  show ab0 (Ss n f+Ss n _)<=_
  have h3:=ab0_add (Ss n f) (Ss n λS=>f (ad1 S n))
  rw [Nat.pow_succ,show ((2 ^ n * 2:Nat):Int)=((2 ^ n:Nat):Int)+((2 ^ n:Nat):Int) by omega,Int.add_mul]
  omega
theorem Pi_le {f g:Int->Int}:∀ {n:Nat},(∀ i:Int,0<=i->i<n->0<=f i/\f i<=g i)->0<=Pi n f/\Pi n f<=Pi n g
 | 0,_=>by show (0:Int)<=1/\(1:Int)<=1;omega
 | n+1,h=>by
  have h1:=Pi_le (n:=n) λi a b=>h i a (by omega)
  have h2:=h n (by omega) (by omega)
  show 0<=Pi n f * f n/\Pi n f * f n<=Pi n g * g n
  exact ⟨Int.mul_nonneg h1.1 h2.1,Int.mul_le_mul h1.2 h2.2 h2.1 (by omega)⟩
theorem RS_row {S:Int->Bool} {i:Int} (i0:0<=i) (i1:i<n):rsum n (RS A S) i<=if S i=true then mx n A i else 1:=by
 by_cases h:S i=true
 ·rw [if_pos h]
  refine Int.le_trans (Int.le_of_eq (Sg_congr λb _ _=>?_)) (mx_le i).1
  unfold RS;rw [if_pos h]
 ·rw [if_neg h]
  have h2:=Sg_one (f:=λ_=>1) i0 (n:=n)
  rw [if_pos i1] at h2
  refine Int.le_of_eq (Eq.trans (Sg_congr λb _ _=>?_) h2)
  unfold RS;rw [if_neg h]
  by_cases e:b=i
  ·rw [if_pos e,if_pos e.symm];rfl
  ·rw [if_neg e,if_neg (Ne.symm e)];rfl
theorem RS_bound {S:Int->Bool}:ab0 (det n (RS A S))<=Pi n (mx n A):=dt_bound n _ λi i0 i1=>by
 have h1:=RS_row (A:=A) (S:=S) i0 i1
 have h2:=(mx_le (n:=n) (B:=A) i).2
 split at h1 <;> omega
theorem bord_bound {S:Int->Bool} {i j:Int} (i0:0<=i) (i1:i<n) (j0:0<=j) (j1:j<n) (hS:S j=true):ab0 (det n (rset (RS A S) j (A i)))<=Pi n (mx n A):=by
 have hp:=Pi_pos (f:=mx n A) (λx=>(mx_le x).2) n
 by_cases e:i=j
 ·subst e
  have:rset (RS A S) i (A i)=RS A S:=by
   funext a b
   unfold rset RS
   by_cases q:a=i
   ·rw [if_pos q,q,if_pos hS]
   ·rw [if_neg q]
  rw [this];exact RS_bound
 ·by_cases h:S i=true
  ·have:det n (rset (RS A S) j (A i))=0:=det_ml.alt' _ j i ⟨j0,j1⟩ ⟨i0,i1⟩ (Ne.symm e) λb _ _=>by
    unfold rset RS
    rw [if_pos rfl,if_neg e,if_pos h]
   rw [this]
   show ab0 0<=_
   have:ab0 0=0:=by decide
   omega
  ·have hd:=dt_bound (n:=n) (A:=rset (RS A S) j (A i)) (M:=λa=>if a=j then mx n A i else if a=i then 1 else mx n A a) n (λ_=>true) λa a0 a1=>by
    have h2:=mx_le (n:=n) (B:=A) i
    have h3:=mx_le (n:=n) (B:=A) a
    by_cases q:a=j
    ·simp only [if_pos q]
     refine ⟨Int.le_trans (Int.le_of_eq (Sg_congr λb _ _=>?_)) h2.1,by omega⟩
     unfold rset;rw [if_pos q]
    ·simp only [if_neg q]
     have h1:=RS_row (A:=A) (S:=S) a0 a1
     have h4:rsum n (rset (RS A S) j (A i)) a=rsum n (RS A S) a:=Sg_congr λb _ _=>by unfold rset;rw [if_neg q]
     rw [h4]
     by_cases q2:a=i
     ·rw [if_pos q2];rw [q2,if_neg h] at h1;rw [q2];omega
     ·rw [if_neg q2];split at h1 <;> omega
   refine Int.le_trans hd ?_
   rw [Pi_out (f:=λa=>if a=j then mx n A i else if a=i then 1 else mx n A a) j0 j1,Pi_out (f:=mx n A) i0 i1]
   simp only [if_pos]
   refine Int.mul_le_mul_of_nonneg_left (Pi_le λx _ _=>?_).2 (by have:=(mx_le (n:=n) (B:=A) i).2;omega)
   have h3:=(mx_le (n:=n) (B:=A) x).2
   by_cases q:x=j
   ·rw [if_pos q];split <;> omega
   ·rw [if_neg q,if_neg q];split <;> omega
theorem sml (hn:n<=12) (hV:Pi n (mx n A)<=1000000000):Sml n A:=by
 have h2:2 ^ n<=2 ^ 12:=Nat.pow_le_pow_right (by omega) hn
 have hp:=Pi_pos (f:=mx n A) (λx=>(mx_le x).2) n
 have hb:((2 ^ n:Nat):Int) * 1000000000<=10000000000000:=by
  have:(2:Nat) ^ 12=4096:=by decide
  omega
 have z:ab0 0=0:=by decide
 have un:∀ x:Int,ab0 x<=((2 ^ n:Nat):Int) * 1000000000->-10000000000000<=x/\x<=10000000000000:=λx h=>by
  unfold ab0 at h;split at h <;> omega
 refine ⟨λk=>un _ (Ss_bound λS _=>?_),λk i j i0 i1 j0 j1=>un _ (Ss_bound λS _=>?_)⟩
 ·split
  ·exact Int.le_trans RS_bound hV
  ·omega
 ·split
  ·rename_i h
   exact Int.le_trans (bord_bound i0 i1 j0 j1 h.1) hV
  ·omega
end Go.Proofs.Ytokekkacliomkaa.AE
end
section
namespace Go.Proofs.Ytokekkacliomkaa.AE
open Go Go.AE Go.Proofs
theorem wN {n:Nat} (h:n<=1000000000):IntKind.i64.wrap (n:Int)=(n:Int):=ap (by omega) (by omega)
theorem b_shl {j:Nat} (h:j<=20):IntKind.i64.wrap (1 * 2 ^ (min ((j:Nat):Int).toNat (IntKind.i64).bits))=((2 ^ j:Nat):Int):=by
 rw [Int.toNat_natCast,show min j (IntKind.i64).bits=j from Nat.min_eq_left (by show j<=64;omega),Int.one_mul]
 have:2 ^ j<=2 ^ 20:=Nat.pow_le_pow_right (by omega) h
 rw [show (2:Int) ^ j=((2 ^ j:Nat):Int) by rw [Int.natCast_pow];rfl]
 exact wN (Nat.le_trans this (by decide))
theorem b_u64 {j:Nat} (h:j<=1000):IntKind.u64.wrap (j:Int)=(j:Int):=by
 have:((j:Nat):Int) % 2 ^ 64=j:=Int.emod_eq_of_lt (by omega) (by omega)
 simp [IntKind.wrap,IntKind.bits,IntKind.signed]
 omega
theorem b_shr {s j:Nat} (h:j<=20):Int.fdiv (s:Int) (2 ^ (min ((j:Nat):Int).toNat (IntKind.i64).bits))=((s / 2 ^ j:Nat):Int):=by
 rw [Int.toNat_natCast,show min j (IntKind.i64).bits=j from Nat.min_eq_left (by show j<=64;omega)]
 rw [show (2:Int) ^ j=((2 ^ j:Nat):Int) by rw [Int.natCast_pow];rfl]
 rw [Int.fdiv_eq_ediv_of_nonneg _ (Int.natCast_nonneg _)]
 rfl
theorem b_ofInt {n:Nat} (h:n<2 ^ 64):(BitVec.ofInt 64 (n:Int)).toNat=n:=by
 rw [BitVec.toNat_ofInt]
 have:((n:Nat):Int) % ((2 ^ 64:Nat):Int)=n:=Int.emod_eq_of_lt (by omega) (by omega)
 rw [this,Int.toNat_natCast]
theorem b_and1 {s:Nat} (h:s<=1000000000):Go.bits .and .i64 (s:Int) 1=((s % 2:Nat):Int):=by
 show IntKind.i64.wrap ((BitVec.ofInt 64 (s:Int) &&& BitVec.ofInt 64 ((1:Nat):Int)).toNat:Int)=_
 rw [BitVec.toNat_and,b_ofInt (by omega),b_ofInt (by omega),Nat.and_one_is_mod]
 exact ap (by omega) (by omega)
theorem b_bit {s j:Nat}:(s / 2 ^ j % 2=1)↔s.testBit j=true:=by rw [Nat.testBit_eq_decide_div_mod_eq,decide_eq_true_iff]
variable {F n:Nat} {A:Mat}
def lst (w:Nat):Nat->List Int
 | 0=>[]
 | i+1=>if w.testBit i=true then lst w i++[(i:Int)] else lst w i
theorem lst_len (w:Nat):∀ i:Nat,(lst w i).length=cnt i (bs w)
 | 0=>rfl
 | i+1=>by
  have e:bs w (i:Int)=w.testBit i:=by unfold bs;rw [decide_eq_true (by omega),Bool.true_and,Int.toNat_natCast]
  show (if w.testBit i=true then _ else _:List Int).length=cnt i (bs w)+(if bs w i=true then 1 else 0)
  rw [e,<-lst_len w i]
  split
  ·rw [List.length_append];rfl
  ·rfl
theorem lst_le (w:Nat):∀ i:Nat,(lst w i).length<=i
 | 0=>Nat.le_refl _
 | i+1=>by
  have:=lst_le w i
  show (if w.testBit i=true then _ else _:List Int).length<=_
  split
  ·rw [List.length_append,List.length_singleton];omega
  ·omega
theorem gap_lo {l:List Int} {x a:Int} (h0:0<=a) (h:a<l.length):gt (l++[x]) a.toNat=gt l a.toNat:=by
 unfold gt
 rw [List.getD_eq_getElem?_getD,List.getD_eq_getElem?_getD,List.getElem?_append_left (by omega)]
theorem gap_hi {l:List Int} {x:Int}:gt (l++[x]) l.length=x:=by
 unfold gt
 rw [List.getD_eq_getElem?_getD,List.getElem?_append_right (Nat.le_refl _),Nat.sub_self];rfl
theorem lst_L (w:Nat):∀ i:Nat,Lst i (lst w i).length (bs w) λa=>gt (lst w i) a.toNat
 | 0=>⟨λa h0 h1=>by have:(lst w 0).length=0:=rfl;omega,λa b h0 h1 h2=>by have:(lst w 0).length=0:=rfl;omega,λx h0 h1=>by omega⟩
 | i+1=>by
  have e:bs w (i:Int)=w.testBit i:=by unfold bs;rw [decide_eq_true (by omega),Bool.true_and,Int.toNat_natCast]
  have ih:=lst_L w i
  by_cases h:w.testBit i=true
  ·have el:lst w (i+1)=lst w i++[(i:Int)]:=if_pos h
   have ln:(lst w (i+1)).length=(lst w i).length+1:=by rw [el,List.length_append];rfl
   have lo:∀ a:Int,0<=a->a<(lst w i).length->gt (lst w (i+1)) a.toNat=gt (lst w i) a.toNat:=λa h0 h1=>by rw [el,gap_lo h0 h1]
   have hi:∀ a:Int,a=(lst w i).length->gt (lst w (i+1)) a.toNat=i:=λa h0=>by rw [el,h0,Int.toNat_natCast,gap_hi]
   refine ⟨λa h0 h1=>?_,λa b h0 h1 h2=>?_,λx h0 h1 h2=>?_⟩
   ·by_cases q:a=(lst w i).length
    ·rw [hi a q];exact ⟨by omega,by omega,by rw [e];exact h⟩
    ·rw [lo a h0 (by omega)]
     have:=ih.rng a h0 (by omega)
     exact ⟨this.1,by have:=this.2.1;omega,this.2.2⟩
   ·rw [lo a h0 (by omega)]
    by_cases q:b=(lst w i).length
    ·rw [hi b q];exact (ih.rng a h0 (by omega)).2.1
    ·rw [lo b (by omega) (by omega)];exact ih.inc a b h0 h1 (by omega)
   ·by_cases q:x=i
    ·exact ⟨(lst w i).length,by omega,by omega,by rw [hi _ rfl,q]⟩
    ·obtain ⟨a,a0,a1,a2⟩:=ih.all x h0 (by omega) h2
     exact ⟨a,a0,by omega,by rw [lo a a0 a1];exact a2⟩
  ·have el:lst w (i+1)=lst w i:=if_neg h
   rw [el]
   refine ⟨λa h0 h1=>?_,ih.inc,λx h0 h1 h2=>?_⟩
   ·have:=ih.rng a h0 h1
    exact ⟨this.1,by have:=this.2.1;omega,this.2.2⟩
   ·by_cases q:x=i
    ·rw [q,e] at h2;exact absurd h2 h
    ·exact ih.all x h0 (by omega) h2
theorem lst_sum {f:Int->Int} (hf:∀ x,0<=f x) (w:Nat):∀ i:Nat,Sg (lst w i).length (λa=>f (gt (lst w i) a.toNat))<=Sg i f
 | 0=>Int.le_refl _
 | i+1=>by
  have ih:=lst_sum hf w i
  have hi:=hf i
  show _<=Sg i f+f i
  by_cases h:w.testBit i=true
  ·have el:lst w (i+1)=lst w i++[(i:Int)]:=if_pos h
   rw [el,List.length_append]
   show Sg (lst w i).length (λa=>f (gt (lst w i++[(i:Int)]) a.toNat))+f (gt (lst w i++[(i:Int)]) ((lst w i).length:Int).toNat)<=_
   rw [Int.toNat_natCast,gap_hi,Sg_congr (g:=λa=>f (gt (lst w i) a.toNat)) λa h0 h1=>by rw [gap_lo h0 h1]]
   omega
  ·have el:lst w (i+1)=lst w i:=if_neg h
   rw [el];omega
theorem lst_prod {f:Int->Int} (hf:∀ x,1<=f x) (w:Nat):∀ i:Nat,Pi (lst w i).length (λa=>f (gt (lst w i) a.toNat))<=Pi i f
 | 0=>Int.le_refl _
 | i+1=>by
  have ih:=lst_prod hf w i
  have hi:=hf i
  have hp:=Pi_pos hf i
  show _<=Pi i f * f i
  by_cases h:w.testBit i=true
  ·have el:lst w (i+1)=lst w i++[(i:Int)]:=if_pos h
   rw [el,List.length_append]
   show Pi (lst w i).length (λa=>f (gt (lst w i++[(i:Int)]) a.toNat)) * f (gt (lst w i++[(i:Int)]) ((lst w i).length:Int).toNat)<=_
   rw [Int.toNat_natCast,gap_hi,Pi_congr (g:=λa=>f (gt (lst w i) a.toNat)) λa h0 h1=>by rw [gap_lo h0 h1]]
   exact Int.mul_le_mul_of_nonneg_right ih (by omega)
  ·have el:lst w (i+1)=lst w i:=if_neg h
   have:Pi i f * 1<=Pi i f * f i:=Int.mul_le_mul_of_nonneg_left hi (by omega)
   rw [el];omega
def sub (A:Mat) (l:List Int):Mat:=λa b=>A (gt l a.toNat) (gt l b.toNat)
theorem sub_vol (w:Nat) (hV:Pi n (mx n A)<=1000000000):Pi (lst w n).length (mx (lst w n).length (sub A (lst w n)))<=1000000000:=by
 refine Int.le_trans (Int.le_trans (Pi_le (g:=λa=>mx n A (gt (lst w n) a.toNat)) λa h0 h1=>?_).2 (lst_prod (f:=mx n A) (λx=>(mx_le x).2) w n)) hV
 have h2:rsum (lst w n).length (sub A (lst w n)) a<=rsum n A (gt (lst w n) a.toNat):=lst_sum (f:=λx=>ab0 (A (gt (lst w n) a.toNat) x)) (λ_=>ab0_nn _) w n
 have h3:=mx_le (n:=(lst w n).length) (B:=sub A (lst w n)) a
 have h4:=mx_le (n:=n) (B:=A) (gt (lst w n) a.toNat)
 refine ⟨by omega,?_⟩
 unfold mx at *
 split <;> split <;> omega
theorem app1 {l:List Int} {x:Int} (h:l.length<=1000000):apn l [x]=some (l++[x]):=by unfold apn;rw [if_pos (by simp;omega)]
section
variable (hn:n<=12)
include hn
theorem pr_in {l:List Int} (hl:l.length<=12) (hr:∀ a:Int,0<=a->a<l.length->0<=gt l a.toNat/\gt l a.toNat<n) {C} {a:Int} (a0:0<=a) (a1:a<l.length):∀ (d g:Nat) (b:Int),l.length - b=d->d<g->0<=b->b<=l.length ->
  aj.pl4053 F C g n (mk n n A) l l.length l.length l.length (mk l.length l.length (pM (sub A l) a b)) a b=C n (mk n n A) l l.length l.length l.length (mk l.length l.length (pM (sub A l) (a+1) 0)) (a+1):=by
 intro d
 induction d with
 | zero=>
  intro g b hd hg hb hb2
  obtain ⟨g,rfl⟩:∃ g',g=g'+1:=⟨g - 1,by omega⟩
  have e:mk l.length l.length (pM (sub A l) a b)=mk l.length l.length (pM (sub A l) (a+1) 0):=bl λx y x0 x1 y0 y1=>by
   unfold pM
   by_cases h:x<a\/x=a/\y<b
   ·rw [if_pos h,if_pos (by omega)]
   ·rw [if_neg h,if_neg (by omega)]
  rw [aj.pl4053,decide_eq_false (by omega),cond_false,e]
  unfold aj.pj6 aj.pj5
  rw [ap (x:=a+1) (by omega) (by omega)]
 | succ d ih=>
  intro g b hd hg hb hb2
  obtain ⟨g,rfl⟩:∃ g',g=g'+1:=⟨g - 1,by omega⟩
  have ra:=hr a a0 a1
  have rb:=hr b hb (by omega)
  have ea:ix l a=some a.toNat:=by unfold ix;rw [if_pos (by omega)]
  have eb:ix l b=some b.toNat:=by unfold ix;rw [if_pos (by omega)]
  have e1:upd (pM (sub A l) a b) a b (A (gt l a.toNat) (gt l b.toNat))=pM (sub A l) a (b+1):=by
   funext x y
   unfold upd pM
   by_cases q:x=a/\y=b
   ·rw [if_pos q,if_pos (by omega),q.1,q.2];rfl
   ·rw [if_neg q]
    by_cases h:x<a\/x=a/\y<b
    ·rw [if_pos h,if_pos (by omega)]
    ·rw [if_neg h,if_neg (by omega)]
  rw [aj.pl4053,decide_eq_true (by omega),cond_true,ea,Option.bind_some,eb,Option.bind_some,at_mk (by omega) (by omega) ra.1 ra.2 rb.1 rb.2,Option.bind_some,ca (i:=a) (j:=b) (by omega) (by omega) a0 a1 hb (by omega),Option.bind_some,Option.bind_some,dN a0 a1 hb (by omega),e1,ap (x:=b+1) (by omega) (by omega)]
  exact ih g (b+1) (by omega) (by omega) (by omega) (by omega)
theorem pr_out {l:List Int} (hF:1000<F) (hl:l.length<=12) (hr:∀ a:Int,0<=a->a<l.length->0<=gt l a.toNat/\gt l a.toNat<n):∀ (d g:Nat) (a:Int),l.length - a=d->d<g->0<=a->a<=l.length ->
  aj.pl253 F g n (mk n n A) l l.length l.length l.length (mk l.length l.length (pM (sub A l) a 0)) a=some ((l.length:Int),(l.length:Int),mk l.length l.length (sub A l),(l.length:Int)):=by
 intro d
 induction d with
 | zero=>
  intro g a hd hg ha ha2
  obtain ⟨g,rfl⟩:∃ g',g=g'+1:=⟨g - 1,by omega⟩
  have e:mk l.length l.length (pM (sub A l) a 0)=mk l.length l.length (sub A l):=bl λx y x0 x1 y0 y1=>if_pos (by omega)
  rw [aj.pl253,decide_eq_false (by omega),cond_false,e];rfl
 | succ d ih=>
  intro g a hd hg ha ha2
  obtain ⟨g,rfl⟩:∃ g',g=g'+1:=⟨g - 1,by omega⟩
  rw [aj.pl253,decide_eq_true (by omega),cond_true,pr_in hn hl hr ha (by omega) l.length F 0 (by omega) (by omega) (by omega) (by omega)]
  exact ih g (a+1) (by omega) (by omega) (by omega) (by omega)
theorem pr_list (hF:1000<F) (w:Nat) (hw:w<=4096):∀ (d g i:Nat),n - i=d->d<g->i<=n ->
  aj.pl29 F g w n n (mk n n A) (lst w i) i=some (((lst w n).length:Int),((lst w n).length:Int),mk (lst w n).length (lst w n).length (sub A (lst w n)),((lst w n).length:Int)):=by
 intro d
 induction d with
 | zero=>
  intro g i hd hg hi
  obtain ⟨g,rfl⟩:∃ g',g=g'+1:=⟨g - 1,by omega⟩
  obtain rfl:i=n:=by omega
  have hl:=lst_le w i
  have hm:(lst w i).length * (lst w i).length<=12 * 12:=Nat.mul_le_mul (by omega) (by omega)
  have hL:=lst_L w i
  rw [aj.pl29,decide_eq_false (by omega),cond_false]
  unfold aj.pj7 bS.p mkn
  rw [<- Int.natCast_mul,ap (by omega) (by omega),if_pos (by omega),Option.bind_some,Option.bind_some,Int.toNat_natCast,mk_zero]
  simp only []
  have e:(mk (lst w i).length (lst w i).length λ_ _=>0)=mk (lst w i).length (lst w i).length (pM (sub A (lst w i)) 0 0):=bl λa b a0 a1 b0 b1=>(if_neg (by omega)).symm
  rw [e]
  exact pr_out hn hF (by omega) (λa a0 a1=>⟨(hL.rng a a0 a1).1,(hL.rng a a0 a1).2.1⟩) (lst w i).length F 0 (by omega) (by omega) (by omega) (by omega)
 | succ d ih=>
  intro g i hd hg hi
  obtain ⟨g,rfl⟩:∃ g',g=g'+1:=⟨g - 1,by omega⟩
  have hl:=lst_le w i
  have hd2:w / 2 ^ i<=w:=Nat.div_le_self _ _
  rw [aj.pl29,decide_eq_true (by omega),cond_true,b_u64 (by omega),if_neg (by omega),b_shr (by omega),b_and1 (by omega)]
  unfold aj.pj8
  rw [ap (x:=(i:Int)+1) (by omega) (by omega)]
  by_cases h:w.testBit i=true
  ·have e:=b_bit.2 h
   rw [e,show (((1:Nat):Int)==1)=true from rfl,cond_true,app1 (by omega),Option.bind_some]
   have el:lst w (i+1)=lst w i++[(i:Int)]:=if_pos h
   rw [<- el]
   exact ih g (i+1) (by omega) (by omega) (by omega)
  ·have e:w / 2 ^ i % 2=0:=by
    have h1:¬ w / 2 ^ i % 2=1:=λq=>h (b_bit.1 q)
    omega
   rw [e,show (((0:Nat):Int)==1)=false from rfl,cond_false]
   have el:lst w (i+1)=lst w i:=if_neg h
   have:=ih g (i+1) (by omega) (by omega) (by omega)
   rw [el] at this
   exact this
end
def pt (n:Nat) (A:Mat) (k w:Nat):Int:=if cnt n (bs w)=k then det n (RS A (bs w)) else 0
theorem pt_bound {k w:Nat} (hV:Pi n (mx n A)<=1000000000):-1000000000<=pt n A k w/\pt n A k w<=1000000000:=by
 unfold pt
 split
 ·exact in9 (Int.le_trans RS_bound hV)
 ·omega
theorem ps_bound {k:Nat} (hV:Pi n (mx n A)<=1000000000):∀ w:Nat,-(1000000000 * (w:Int))<=Sn w (pt n A k)/\Sn w (pt n A k)<=1000000000 * (w:Int)
 | 0=>by show _<=(0:Int)/\(0:Int)<=_;omega
 | w+1=>by
  have h1:=ps_bound (k:=k) hV w
  have h2:=pt_bound (k:=k) (w:=w) hV
  show _<=Sn w (pt n A k)+pt n A k w/\Sn w (pt n A k)+pt n A k w<=_
  omega
structure Sm0 (n:Nat) (A:Mat) (w:Nat) (s:List Int):Prop where
 len:s.length=n+1
 val:∀ k:Nat,k<=n->gt s k=Sn w (pt n A k)
theorem sums_v (hn:n<=12) (hF:1000<F) (hV:Pi n (mx n A)<=1000000000):∀ (d g w:Nat) (s:List Int),2 ^ n - w=d->d<g->w<=2 ^ n->Sm0 n A w s ->
  ∃ s',Sm0 n A (2 ^ n) s'/\aA.pl29 F g n n (mk n n A) s w=aA.pj2 F s':=by
 have h12:2 ^ n<=4096:=Nat.le_trans (Nat.pow_le_pow_right (n:=2) (by omega) hn) (by decide)
 intro d
 induction d with
 | zero=>
  intro g w s hd hg hw hs
  obtain ⟨g,rfl⟩:∃ g',g=g'+1:=⟨g - 1,by omega⟩
  obtain rfl:w=2 ^ n:=by omega
  rw [aA.pl29,b_u64 (by omega),if_neg (by omega),b_shl (by omega),decide_eq_false (by omega),cond_false]
  exact ⟨s,hs,rfl⟩
 | succ d ih=>
  intro g w s hd hg hw hs
  obtain ⟨g,rfl⟩:∃ g',g=g'+1:=⟨g - 1,by omega⟩
  have hl:=lst_le w n
  have hc:=lst_len w n
  have hlen:=hs.len
  have hp:=pr_list (F:=F) (A:=A) hn hF w (by omega) n F 0 (by omega) (by omega) (by omega)
  have hd1:=(det_s (F:=F) (A:=sub A (lst w n)) (n:=(lst w n).length) (by omega) hF (sub_vol w hV)).1
  have hsub:det (lst w n).length (sub A (lst w n))=det n (RS A (bs w)):=(det_sub (lst_L w n)).symm
  have hix:ix s ((lst w n).length:Int)=some (lst w n).length:=by unfold ix;rw [if_pos (by omega)];congr 1
  have b1:=ps_bound (k:=(lst w n).length) hV w
  have b2:=pt_bound (k:=(lst w n).length) (w:=w) hV
  have e2:pt n A (lst w n).length w=det n (RS A (bs w)):=if_pos hc.symm
  rw [aA.pl29,b_u64 (by omega),if_neg (by omega),b_shl (by omega),decide_eq_true (by omega),cond_true]
  unfold aj.p
  rw [show ((0:Nat):Int)=0 from rfl,show lst w 0=[] from rfl] at hp
  rw [hp,Option.bind_some]
  simp only []
  rw [hix,Option.bind_some,hd1,Option.bind_some,Option.bind_some,Option.bind_some,hs.val _ hl,hsub,<-e2,ap (x:=_+_) (by omega) (by omega),ap (x:=(w:Int)+1) (by omega) (by omega)]
  refine ih g (w+1) _ (by omega) (by omega) (by omega) ⟨by rw [List.length_set];exact hlen,λk hk=>?_⟩
  show _=Sn w (pt n A k)+pt n A k w
  by_cases e:k=(lst w n).length
  ·rw [e,gt_set_eq (by omega)]
  ·rw [gt_set_ne (Ne.symm e),hs.val k hk]
   have:pt n A k w=0:=if_neg (by omega)
   omega
end Go.Proofs.Ytokekkacliomkaa.AE
end
section
namespace Go.Proofs.Ytokekkacliomkaa.AE
open Go Go.AE Go.Proofs
variable {F n:Nat} {A:Mat}
def sgn1 (x:Int):Int:=if x<0 then -1 else 1
def ch:Int->List Int->Int
 | _,[]=>0
 | s,x::t=>if x=0 then ch s t else (if s≠0/\sgn1 x≠s then 1 else 0)+ch (sgn1 x) t
def adj:List Int->Int
 | []=>0
 | [_]=>0
 | a::b::t=>(if a≠b then 1 else 0)+adj (b::t)
def nz (l:List Int):List Int:=(l.filter λx=>x≠0).map sgn1
theorem nz_zero {t:List Int}:nz (0::t)=nz t:=by unfold nz;simp
theorem nz_cons {x:Int} {t:List Int} (h:x≠0):nz (x::t)=sgn1 x::nz t:=by unfold nz;simp [h]
theorem sgn1_ne (x:Int):sgn1 x≠0:=by unfold sgn1;split <;> decide
theorem ch_s {s:Int} (h:s≠0):∀ l:List Int,ch s l=adj (s::nz l)
 | []=>rfl
 | x::t=>by
  by_cases e:x=0
  ·subst e
   rw [nz_zero,<-ch_s h t]
   exact if_pos rfl
  ·rw [nz_cons e]
   show (if x=0 then _ else _)=(if s≠sgn1 x then 1 else 0)+adj (sgn1 x::nz t)
   rw [if_neg e,<-ch_s (sgn1_ne x) t]
   congr 1
   by_cases q:sgn1 x=s
   ·rw [if_neg λh=>h.2 q,if_neg λh=>h q.symm]
   ·rw [if_pos ⟨h,q⟩,if_pos (Ne.symm q)]
theorem ch_0:∀ l:List Int,ch 0 l=adj (nz l)
 | []=>rfl
 | x::t=>by
  by_cases e:x=0
  ·subst e
   rw [nz_zero,<-ch_0 t]
   exact if_pos rfl
  ·rw [nz_cons e,<-ch_s (sgn1_ne x) t]
   show (if x=0 then _ else _)=_
   rw [if_neg e,if_neg λh=>h.1 rfl,Int.zero_add]
theorem ch_1 {t:List Int}:ch 1 (1::t)=adj (nz (1::t)):=by
 rw [nz_cons (by decide),show sgn1 1=1 from rfl,<-ch_s (by decide) t]
 show (if (1:Int)=0 then _ else _)=_
 rw [if_neg (by decide),show sgn1 1=1 from rfl,if_neg λh=>h.2 rfl,Int.zero_add]
theorem adj_snoc {a b:Int}:∀ l:List Int,adj (l++[a,b])=adj (l++[a])+if a≠b then 1 else 0
 | []=>by show (if a≠b then 1 else 0)+0=0+_;omega
 | [c]=>by show (if c≠a then 1 else 0)+((if a≠b then 1 else 0)+0)=((if c≠a then 1 else 0)+0)+_;omega
 | c::d::l=>by
  have h:=adj_snoc (d::l) (a:=a) (b:=b)
  show (if c≠d then 1 else 0)+adj (d::l++[a,b])=((if c≠d then 1 else 0)+adj (d::l++[a]))+_
  omega
theorem adj_rev:∀ l:List Int,adj l.reverse=adj l
 | []=>rfl
 | [_]=>rfl
 | a::b::t=>by
  have h:=adj_rev (b::t)
  rw [List.reverse_cons] at h
  rw [List.reverse_cons,List.reverse_cons,List.append_assoc]
  show adj (t.reverse++[b,a])=(if a≠b then 1 else 0)+adj (b::t)
  rw [adj_snoc,h]
  by_cases e:a=b
  ·rw [if_neg λh=>h e.symm,if_neg λh=>h e];omega
  ·rw [if_pos (Ne.symm e),if_pos e];omega
theorem nz_rev (l:List Int):nz l.reverse=(nz l).reverse:=by unfold nz;rw [List.filter_reverse,List.map_reverse]
theorem adj_neg:∀ l:List Int,adj (l.map λx=>-x)=adj l
 | []=>rfl
 | [_]=>rfl
 | a::b::t=>by
  have h:=adj_neg (b::t)
  show (if -a≠-b then 1 else 0)+adj ((b::t).map λx=>-x)=_
  rw [h]
  show _=(if a≠b then 1 else 0)+_
  congr 1
  by_cases e:a=b
  ·rw [if_neg λh=>h (by omega),if_neg λh=>h e]
  ·rw [if_pos (by omega),if_pos e]
theorem nz_neg:∀ l:List Int,nz (l.map λx=>-x)=(nz l).map λx=>-x
 | []=>rfl
 | x::t=>by
  have h:=nz_neg t
  rw [List.map_cons]
  by_cases e:x=0
  ·subst e;rw [show -(0:Int)=0 from rfl,nz_zero,nz_zero,h]
  ·rw [nz_cons e,nz_cons (by omega),h,List.map_cons]
   congr 1
   unfold sgn1
   by_cases q:x<0
   ·rw [if_pos q,if_neg (by omega)];rfl
   ·rw [if_neg q,if_pos (by omega)]
theorem drop_gt {l:List Int} {i:Nat} (h:i<l.length):l.drop i=gt l i::l.drop (i+1):=by
 rw [List.drop_eq_getElem_cons h];congr 1
 unfold gt;simp [h]
theorem chi_l {l:List Int} (hl:l.length<=1000):∀ (d g i:Nat) (c s:Int),l.length - i=d->d<g->i<=l.length->0<=c->c<=i ->
  ay.pl29 F g c s l l.length i=some (c+ch s (l.drop i)):=by
 intro d
 induction d with
 | zero=>
  intro g i c s hd hg hi hc hc2
  obtain ⟨g,rfl⟩:∃ g',g=g'+1:=⟨g - 1,by omega⟩
  rw [ay.pl29,decide_eq_false (by omega),cond_false,List.drop_eq_nil_of_le (by omega)]
  show some c=some (c+0);rw [Int.add_zero]
 | succ d ih=>
  intro g i c s hd hg hi hc hc2
  obtain ⟨g,rfl⟩:∃ g',g=g'+1:=⟨g - 1,by omega⟩
  have hix:ix l (i:Int)=some i:=by unfold ix;rw [if_pos (by omega)];congr 1
  have es:∀ x:Int,cL.p F x=some (sgn1 x):=λx=>by
   unfold cL.p sgn1
   by_cases q:x<0
   ·rw [decide_eq_true q,cond_true,if_pos q]
   ·rw [decide_eq_false q,cond_false,if_neg q]
  have i1:=ap (x:=(i:Int)+1) (by omega) (by omega)
  rw [drop_gt (show i<l.length by omega)]
  rw [ay.pl29,decide_eq_true (by omega),cond_true,hix,Option.bind_some]
  unfold ay.pj4 ay.pj6 ay.pj5
  rw [i1]
  show _=some (c+if gt l i=0 then ch s (l.drop (i+1)) else (if s≠0/\sgn1 (gt l i)≠s then 1 else 0)+ch (sgn1 (gt l i)) (l.drop (i+1)))
  by_cases e:gt l i=0
  ·rw [e,beq_self_eq_true,cond_true,if_pos rfl]
   exact ih g (i+1) c s (by omega) (by omega) (by omega) hc (by omega)
  ·rw [show (gt l i==0)=false from beq_eq_false_iff_ne.2 e,cond_false,if_neg e,es,Option.bind_some,Option.bind_some,Option.bind_some]
   by_cases h:s=0
   ·rw [h,bne_self_eq_false,cond_false,if_neg λq=>q.1 rfl,Int.zero_add]
    exact ih g (i+1) c _ (by omega) (by omega) (by omega) hc (by omega)
   ·rw [show (s != 0)=true from bne_iff_ne.2 h,cond_true]
    by_cases q:sgn1 (gt l i)=s
    ·rw [q,bne_self_eq_false,cond_false,if_neg λh=>h.2 rfl,Int.zero_add]
     exact ih g (i+1) c s (by omega) (by omega) (by omega) hc (by omega)
    ·rw [show (sgn1 (gt l i) != s)=true from bne_iff_ne.2 q,cond_true,if_pos ⟨h,q⟩,ap (x:=c+1) (by omega) (by omega),<-Int.add_assoc]
     exact ih g (i+1) (c+1) (sgn1 (gt l i)) (by omega) (by omega) (by omega) (by omega) (by omega)
theorem chs_l {l:List Int} (hl:l.length<=1000):∀ (d g i:Nat) (c s:Int),l.length - i=d->d<g->i<=l.length->0<=c->c<=i->(s=1\/s=-1) ->
  aF.pl29 F g l c s i=some (c+ch s (l.drop i)):=by
 intro d
 induction d with
 | zero=>
  intro g i c s hd hg hi hc hc2 hs
  obtain ⟨g,rfl⟩:∃ g',g=g'+1:=⟨g - 1,by omega⟩
  rw [aF.pl29,decide_eq_false (by omega),cond_false,List.drop_eq_nil_of_le (by omega)]
  show some c=some (c+0);rw [Int.add_zero]
 | succ d ih=>
  intro g i c s hd hg hi hc hc2 hs
  obtain ⟨g,rfl⟩:∃ g',g=g'+1:=⟨g - 1,by omega⟩
  have hix:ix l (i:Int)=some i:=by unfold ix;rw [if_pos (by omega)];congr 1
  have i1:=ap (x:=(i:Int)+1) (by omega) (by omega)
  have w1:=ap (x:=c+1) (by omega) (by omega)
  have w2:IntKind.i64.wrap (0 - s)=-s:=by rcases hs with e | e <;> subst e <;> rfl
  have keep:∀ x,ch s (l.drop (i+1))=x->aF.pl29 F g l c s ((i:Int)+1)=some (c+x):=λx e=>by
   rw [<- e];exact ih g (i+1) c s (by omega) (by omega) (by omega) hc (by omega) hs
  have turn:aF.pl29 F g l (c+1) (-s) ((i:Int)+1)=some (c+(1+ch (-s) (l.drop (i+1)))):=by
   rw [<- Int.add_assoc];exact ih g (i+1) (c+1) (-s) (by omega) (by omega) (by omega) (by omega) (by omega) (by omega)
  rw [drop_gt (show i<l.length by omega)]
  rw [aF.pl29,decide_eq_true (by omega),cond_true,hix,Option.bind_some,Option.bind_some,Option.bind_some]
  unfold aF.pj3 aF.pj4
  rw [i1,w1,w2]
  show _=some (c+if gt l i=0 then ch s (l.drop (i+1)) else (if s≠0/\sgn1 (gt l i)≠s then 1 else 0)+ch (sgn1 (gt l i)) (l.drop (i+1)))
  rcases Int.lt_trichotomy (gt l i) 0 with q | q | q
  ·have e1:sgn1 (gt l i)=-1:=if_pos q
   rw [decide_eq_false (p:=gt l i>0) (by omega),cond_false,decide_eq_true (p:=gt l i<0) q,cond_true,if_neg (by omega),e1]
   rcases hs with e | e
   ·subst e
    rw [decide_eq_true (by decide),cond_true,if_pos (by decide)]
    exact turn
   ·subst e
    rw [decide_eq_false (by decide),cond_false,if_neg (by decide),Int.zero_add]
    exact keep _ rfl
  ·rw [decide_eq_false (p:=gt l i>0) (by omega),cond_false,decide_eq_false (p:=gt l i<0) (by omega),cond_false,if_pos q]
   exact keep _ rfl
  ·have e1:sgn1 (gt l i)=1:=if_neg (by omega)
   rw [decide_eq_true (p:=gt l i>0) (by omega),cond_true,decide_eq_false (p:=gt l i<0) (by omega),cond_false,if_neg (by omega),e1]
   rcases hs with e | e
   ·subst e
    rw [decide_eq_false (by decide),cond_false,if_neg (by decide),Int.zero_add]
    exact keep _ rfl
   ·subst e
    rw [decide_eq_true (by decide),cond_true,if_pos (by decide)]
    exact turn
theorem chi {l:List Int} (hl:l.length<=1000) (hF:1000<F):ay.p F l=some (adj (nz l)):=by
 unfold ay.p
 have:=chi_l (F:=F) hl l.length F 0 0 0 (by omega) (by omega) (by omega) (by omega) (by omega)
 rw [show ((0:Nat):Int)=0 from rfl,List.drop_zero,Int.zero_add,ch_0] at this
 exact this
theorem chs {t:List Int} (hl:(1::t).length<=1000) (hF:1000<F):aF.p F (1::t)=some (adj (nz (1::t))):=by
 unfold aF.p
 have:=chs_l (F:=F) hl (1::t).length F 0 0 1 (by omega) (by omega) (by omega) (by omega) (by omega) (.inl rfl)
 rw [show ((0:Nat):Int)=0 from rfl,List.drop_zero,Int.zero_add,ch_1] at this
 exact this
end Go.Proofs.Ytokekkacliomkaa.AE
end
section
namespace Go.Proofs.Ytokekkacliomkaa.AE
open Go Go.AE Go.Proofs
section
variable {R C F:Nat} {A:Mat}
theorem isM_true (hR:R<=48) (hC:C<=48) (hF:5000000<F) (hb:Bd R C A):bN.p F R C (mk R C A)=some true:=by
 have hm:R * C<=48 * 48:=Nat.mul_le_mul hR hC
 unfold bN.p cQ.p dI.p dg.p bo.p
 rw [decide_eq_true (show (0:Int)<=R by omega),decide_eq_true (show (R:Int)<=48 by omega)]
 simp only [cond_true,Option.bind_some]
 rw [decide_eq_true (show (0:Int)<=C by omega),decide_eq_true (show (C:Int)<=48 by omega)]
 simp only [cond_true,Option.bind_some]
 rw [<- Int.natCast_mul,ap (by omega) (by omega),cZ,beq_self_eq_true,cond_true]
 obtain ⟨r,e,h⟩:=implM_l (F:=F) (l:=mk R C A) (by rw [cZ];omega) (mk R C A).length F 0 (by omega) (by rw [cZ];omega) (by omega)
 rw [cZ] at e
 rw [e,Option.bind_some,Option.bind_some]
 have:¬ r>=0:=h.2 λa _ ha=>by
  rw [cZ] at ha
  have hC0:0<C:=by
   rcases Nat.eq_zero_or_pos C with q | q
   ·subst q;simp at ha
   ·exact q
  have h1:a / C<R:=(Nat.div_lt_iff_lt_mul hC0).2 ha
  have h2:=Nat.mod_lt a hC0
  have e2:gt (mk R C A) a=A ((a / C:Nat):Int) ((a % C:Nat):Int):=by
   unfold gt mk
   rw [List.getD_eq_getElem?_getD,List.getElem?_map,List.getElem?_range ha];rfl
  rw [e2]
  exact hb _ _ (Int.natCast_nonneg _) (Int.ofNat_lt.2 h1) (Int.natCast_nonneg _) (Int.ofNat_lt.2 h2)
 rw [decide_eq_false this];rfl
end
variable {F n:Nat} {A:Mat}
def trM (A:Mat) (i j:Int):Mat:=λa b=>if b<i\/b=i/\a<j then A b a else 0
theorem tr_in (hn:n<=48) {i:Int} (i0:0<=i) (i1:i<n) {pC}:∀ (d g:Nat) (j:Int),n - j=d->d<g->0<=j->j<=n ->
  aw.pl3931 F pC g n (mk n n A) n n (mk n n (trM A i j)) n i i n j=pC n (mk n n A) n n (mk n n (trM A (i+1) 0)) n (i+1):=by
 intro d
 induction d with
 | zero=>
  intro g j hd hg hj hj2
  obtain ⟨g,rfl⟩:∃ g',g=g'+1:=⟨g - 1,by omega⟩
  rw [aw.pl3931,decide_eq_false (by omega),cond_false]
  unfold aw.pj4 aw.pj3
  rw [ap (x:=i+1) (by omega) (by omega)]
  have e:mk n n (trM A i j)=mk n n (trM A (i+1) 0):=bl λa b a0 a1 b0 b1=>by
   unfold trM
   by_cases h:b<i\/b=i/\a<j
   ·rw [if_pos h,if_pos (by omega)]
   ·rw [if_neg h,if_neg (by omega)]
  rw [e]
 | succ d ih=>
  intro g j hd hg hj hj2
  obtain ⟨g,rfl⟩:∃ g',g=g'+1:=⟨g - 1,by omega⟩
  rw [aw.pl3931,decide_eq_true (by omega),cond_true,ca (i:=j) (j:=i) (by omega) (by omega) (by omega) (by omega) i0 i1,Option.bind_some,ca (i:=i) (j:=j) (by omega) (by omega) i0 i1 (by omega) (by omega),Option.bind_some,Option.bind_some,
   cz (i:=i) (j:=j) i0 i1 (by omega) (by omega),dN (i:=j) (j:=i) (by omega) (by omega) i0 i1,ap (x:=j+1) (by omega) (by omega)]
  have e:upd (trM A i j) j i (A i j)=trM A i (j+1):=by
   funext a b
   unfold upd trM
   by_cases h:a=j/\b=i
   ·rw [if_pos h,if_pos (by omega),h.1,h.2]
   ·rw [if_neg h]
    by_cases h2:b<i\/b=i/\a<j
    ·rw [if_pos h2,if_pos (by omega)]
    ·rw [if_neg h2,if_neg (by omega)]
  rw [e]
  exact ih g (j+1) (by omega) (by omega) (by omega) (by omega)
theorem tr_out (hn:n<=48) (hF:1000<F):∀ (d g:Nat) (i:Int),n - i=d->d<g->0<=i->i<=n ->
  aw.pl61 F g n (mk n n A) n n (mk n n (trM A i 0)) n i=some ((n:Int),(n:Int),mk n n (tr A)):=by
 intro d
 induction d with
 | zero=>
  intro g i hd hg hi hi2
  obtain ⟨g,rfl⟩:∃ g',g=g'+1:=⟨g - 1,by omega⟩
  rw [aw.pl61,decide_eq_false (by omega),cond_false]
  have e:mk n n (trM A i 0)=mk n n (tr A):=bl λa b a0 a1 b0 b1=>if_pos (by omega)
  rw [e]
 | succ d ih=>
  intro g i hd hg hi hi2
  obtain ⟨g,rfl⟩:∃ g',g=g'+1:=⟨g - 1,by omega⟩
  rw [aw.pl61,decide_eq_true (by omega),cond_true,tr_in hn hi (by omega) n F 0 (by omega) (by omega) (by omega) (by omega)]
  exact ih g (i+1) (by omega) (by omega) (by omega) (by omega)
theorem transp (hn:n<=48) (hF:5000000<F) (hb:Bd n n A):aw.p F n n (mk n n A)=some ((n:Int),(n:Int),mk n n (tr A)):=by
 have hm:n * n<=48 * 48:=Nat.mul_le_mul hn hn
 unfold aw.p bD.p mkn
 rw [isM_true hn hn hF hb,Option.bind_some,Bool.not_true,cond_false,<-Int.natCast_mul,ap (by omega) (by omega),if_pos (by omega),Option.bind_some,Option.bind_some,Int.toNat_natCast,mk_zero]
 simp only []
 have e:mk n n (λ_ _=>0)=mk n n (trM A 0 0):=bl λa b a0 a1 b0 b1=>(if_neg (by omega)).symm
 rw [e]
 exact tr_out hn (by omega) n F 0 (by omega) (by omega) (by omega) (by omega)
end Go.Proofs.Ytokekkacliomkaa.AE
end
section
namespace Go.Proofs.Ytokekkacliomkaa.AE
open Go Go.AE Go.Proofs
variable {R C F:Nat} {A:Mat} {i j k:Int}
theorem eqInt_l {l:List Int} (hl:l.length<=2000000):∀ (n g:Nat) (i:Int),l.length - i=n->n<g->0<=i->bB.pl29 F g l l i=some true:=by
 intro n
 induction n with
 | zero=>
  intro g i hn hg hi
  obtain ⟨g,rfl⟩:∃ g',g=g'+1:=⟨g - 1,by omega⟩
  rw [bB.pl29,decide_eq_false (by omega),cond_false]
 | succ n ih=>
  intro g i hn hg hi
  obtain ⟨g,rfl⟩:∃ g',g=g'+1:=⟨g - 1,by omega⟩
  rw [bB.pl29,decide_eq_true (by omega),cond_true,ix_of hi (by omega),Option.bind_some,Option.bind_some,bne_self_eq_false,cond_false,ap (by omega) (by omega)]
  exact ih g (i+1) (by omega) (by omega) (by omega)
theorem eqInt {l:List Int} (hF:5000000<F) (hl:l.length<=2000000):bB.p F l l=some true:=by
 unfold bB.p
 rw [bne_self_eq_false,cond_false]
 exact eqInt_l hl l.length F 0 (by omega) (by omega) (by omega)
end Go.Proofs.Ytokekkacliomkaa.AE
end
section
namespace Go.Proofs.Ytokekkacliomkaa.AE
open Go Go.AE Go.Proofs
variable {R C F:Nat} {A:Mat} {i j k:Int}
theorem toInt_l {l:List Int} (hl:l.length<=2000000):∀ (n g:Nat) (m:List Int) (i:Int),l.length - i=n->n<g->0<=i->m.length=l.length->(∀ a:Nat,(a:Int)<i->gt m a=gt l a) ->
  bG.pl29 F g l m i=some l:=by
 intro n
 induction n with
 | zero=>
  intro g m i hn hg hi hm hh
  obtain ⟨g,rfl⟩:∃ g',g=g'+1:=⟨g - 1,by omega⟩
  rw [bG.pl29,decide_eq_false (by omega),cond_false]
  rw [ext_gt hm (λa h=>hh a (by omega))]
 | succ n ih=>
  intro g m i hn hg hi hm hh
  obtain ⟨g,rfl⟩:∃ g',g=g'+1:=⟨g - 1,by omega⟩
  rw [bG.pl29,decide_eq_true (by omega),cond_true,ix_of hi (by omega),ix_of hi (by omega),Option.bind_some,Option.bind_some,Option.bind_some,ap (by omega) (by omega)]
  refine ih g _ (i+1) (by omega) (by omega) (by omega) (by rw [List.length_set];exact hm) λa ha=>?_
  by_cases e:a=i.toNat
  ·subst e;exact gt_set_eq (by omega)
  ·rw [gt_set_ne (Ne.symm e)];exact hh a (by omega)
theorem toInt {l:List Int} (hF:5000000<F) (hl:l.length<=2000000):bG.p F l=some l:=by
 unfold bG.p mkn
 rw [if_pos (by omega),Option.bind_some,toInt_l hl l.length F _ 0 (by omega) (by omega) (by omega) (by simp) (λa h=>by omega)]
end Go.Proofs.Ytokekkacliomkaa.AE
end
section
namespace Go.Proofs.Ytokekkacliomkaa.AE
open Go Go.AE Go.Proofs
variable {R C F:Nat} {A:Mat} {i j k:Int}
theorem toMatrix {a b:Int} {l:List Int} (hF:5000000<F) (hl:l.length<=2000000):cG.p F a b l=some (a,b,l):=by
 unfold cG.p
 rw [toInt hF hl,Option.bind_some]
theorem eqMatrix {a b:Int} {l:List Int} (hF:5000000<F) (hl:l.length<=2000000):dh.p F a b l a b l=some true:=by
 unfold dh.p
 rw [bne_self_eq_false,bne_self_eq_false,eqInt hF hl]
 rfl
theorem sz_l {l:List Int} (hm:l.length<=9223372036854775807):∃ r,df.p F l 1048576=some r/\(¬ r<0->l.length<=2000000):=by
 unfold df.p dO.p
 rw [ap (by omega) (by omega)]
 by_cases h:(1048576:Int) - l.length<0
 ·rw [decide_eq_true h,cond_true]
  exact ⟨-1,rfl,λh=>absurd (by decide) h⟩
 ·rw [decide_eq_false h,cond_false,Option.bind_some,decide_eq_false h,cond_false]
  exact ⟨_,rfl,λ_=>by omega⟩
end Go.Proofs.Ytokekkacliomkaa.AE
end
section
namespace Go.Proofs.Ytokekkacliomkaa.AE
open Go Go.AE Go.Proofs
variable {F n:Nat} {A:Mat}
theorem list_ext {l l':List Int} (h:l.length=l'.length) (g:∀ i:Nat,i<l.length->gt l i=gt l' i):l=l':=by
 apply List.ext_getElem h
 intro i h1 h2
 have:=g i h1
 unfold gt at this
 simpa [h1,h2] using this
theorem gt_rev {l:List Int} {i:Nat} (h:i<l.length):gt l.reverse i=gt l (l.length - 1 - i):=by
 unfold gt
 rw [List.getD_eq_getElem?_getD,List.getD_eq_getElem?_getD,List.getElem?_reverse h]
theorem sg2_v:∀ i:Nat,sg2 i=1 - 2 * ((i % 2:Nat):Int)
 | 0=>rfl
 | i+1=>by
  have:=sg2_v i
  show - sg2 i=_
  omega
theorem sg2_add (a:Nat):∀ b:Nat,sg2 (a+b)=sg2 a * sg2 b
 | 0=>(Int.mul_one _).symm
 | b+1=>by
  show - sg2 (a+b)=sg2 a * - sg2 b
  rw [sg2_add a b,Int.mul_neg]
theorem sgw (i:Nat):IntKind.i64.wrap (1 - IntKind.i64.wrap (2 * Int.tmod (i:Int) 2))=sg2 i:=by
 rw [sg2_v,show Int.tmod (i:Int) 2=((i % 2:Nat):Int) from rfl,ap (x:=2 * ((i % 2:Nat):Int)) (by omega) (by omega),ap (by omega) (by omega)]
def tl (s:List Int):Nat->List Int
 | 0=>[]
 | i+1=>tl s i++[sg2 i * gt s i]
theorem tl_len (s:List Int):∀ i:Nat,(tl s i).length=i
 | 0=>rfl
 | i+1=>by show (tl s i++_).length=_;rw [List.length_append,tl_len s i];rfl
theorem tl_gt (s:List Int) {t:Nat}:∀ m:Nat,t<m->gt (tl s m) t=sg2 t * gt s t
 | 0,h=>by omega
 | m+1,h=>by
  have hl:=tl_len s m
  show gt (tl s m++[sg2 m * gt s m]) t=_
  by_cases e:t=m
  ·have:=gap_hi (l:=tl s m) (x:=sg2 m * gt s m)
   rw [hl] at this
   rw [e,this]
  ·have:=gap_lo (l:=tl s m) (x:=sg2 m * gt s m) (a:=(t:Int)) (by omega) (by omega)
   rw [Int.toNat_natCast] at this
   rw [this,tl_gt s m (by omega)]
theorem cons1 {l:List Int} (h:0<l.length) (g:gt l 0=1):∃ t,l=1::t:=by
 cases l with
 | nil=>simp at h
 | cons a t=>exact ⟨t,by have:a=1:=g;rw [this]⟩
theorem turn_l (hn:n<=12) {s:List Int} (hl:s.length=n+1) (hs:∀ t:Nat,t<=n->-10000000000000<=gt s t/\gt s t<=10000000000000):∀ (d g i:Nat),s.length - i=d->d<g->i<=s.length ->
  aA.pl125 F g s (tl s i) i=aA.pj1 F s (tl s s.length):=by
 intro d
 induction d with
 | zero=>
  intro g i hd hg hi
  obtain ⟨g,rfl⟩:∃ g',g=g'+1:=⟨g - 1,by omega⟩
  obtain rfl:i=s.length:=by omega
  rw [aA.pl125,decide_eq_false (by omega),cond_false]
 | succ d ih=>
  intro g i hd hg hi
  obtain ⟨g,rfl⟩:∃ g',g=g'+1:=⟨g - 1,by omega⟩
  have hix:ix s (i:Int)=some i:=by unfold ix;rw [if_pos (by omega)];congr 1
  have hb:=hs i (by omega)
  have ht:=tl_len s i
  have hm:gt s i * sg2 i=sg2 i * gt s i:=Int.mul_comm _ _
  have hw:IntKind.i64.wrap (gt s i * sg2 i)=sg2 i * gt s i:=by
   rw [hm]
   rcases sg2_or i with e | e <;> rw [e] <;> exact ap (by omega) (by omega)
  rw [aA.pl125,decide_eq_true (by omega),cond_true,hix,Option.bind_some,sgw,hw,app1 (by omega),Option.bind_some,ap (x:=(i:Int)+1) (by omega) (by omega)]
  exact ih g (i+1) (by omega) (by omega) (by omega)
theorem alt_l (hn:n<=12) {c:List Int} {r:Int} (hc:c.length=n+1) (hb:∀ t:Nat,t<=n->-10000000000000<=gt c t/\gt c t<=10000000000000):∀ (d g i:Nat) (l:List Int),n+1 - i=d->d<g->i<=n+1->l.length=n+1->(∀ t:Nat,t<=n->gt l t=if t<i then gt c t * sg2 t else gt c t) ->
  ∃ l',l'.length=n+1/\(∀ t:Nat,t<=n->gt l' t=gt c t * sg2 t)/\aT.pl61 F g l r ((n+1:Nat):Int) i=aT.pj1 F l' r:=by
 intro d
 induction d with
 | zero=>
  intro g i l hd hg hi hl h
  obtain ⟨g,rfl⟩:∃ g',g=g'+1:=⟨g - 1,by omega⟩
  rw [aT.pl61,decide_eq_false (by omega),cond_false]
  exact ⟨l,hl,λt ht=>by rw [h t ht,if_pos (by omega)],rfl⟩
 | succ d ih=>
  intro g i l hd hg hi hl h
  obtain ⟨g,rfl⟩:∃ g',g=g'+1:=⟨g - 1,by omega⟩
  have hix:ix l (i:Int)=some i:=by unfold ix;rw [if_pos (by omega)];congr 1
  have hp:dq.p F (i:Int)=some (sg2 i):=by unfold dq.p;rw [sgw]
  have h0:=hb i (by omega)
  have hi2:gt l i=gt c i:=by rw [h i (by omega),if_neg (by omega)]
  have hw:IntKind.i64.wrap (gt c i * sg2 i)=gt c i * sg2 i:=by
   rcases sg2_or i with e | e <;> rw [e] <;> exact ap (by omega) (by omega)
  rw [aT.pl61,decide_eq_true (by omega),cond_true,hix,Option.bind_some,hp,Option.bind_some,Option.bind_some,Option.bind_some,hi2,hw,ap (x:=(i:Int)+1) (by omega) (by omega)]
  refine ih g (i+1) _ (by omega) (by omega) (by omega) (by rw [List.length_set];exact hl) λt ht=>?_
  by_cases e:t=i
  ·subst e;rw [gt_set_eq (by omega),if_pos (by omega)]
  ·rw [gt_set_ne (Ne.symm e),h t ht]
   by_cases q:t<i
   ·rw [if_pos q,if_pos (by omega)]
   ·rw [if_neg q,if_neg (by omega)]
theorem sig_v (hn:n<=12) (hF:5000000<F) (hV:Pi n (mx n A)<=1000000000):∃ y,aT.p F n n (mk n n A)=some y/\aA.p F n n (mk n n A)=some y:=by
 have h12:2 ^ n<=4096:=Nat.le_trans (Nat.pow_le_pow_right (n:=2) (by omega) hn) (by decide)
 have hs:=sml hn hV
 obtain ⟨c,hc,e1⟩:=char_p (F:=F) hn (by omega) hs
 have hk:mkn (IntKind.i64.wrap ((n:Int)+1)) (0:Int)=some (List.replicate (n+1) 0):=by
  rw [ap (by omega) (by omega)]
  unfold mkn
  rw [if_pos (by omega)];congr 1
 obtain ⟨s,h0,e2⟩:=sums_v (F:=F) hn (by omega) hV (2 ^ n) F 0 (List.replicate (n+1) 0) (Nat.sub_zero _) (by omega) (Nat.zero_le _) ⟨List.length_replicate,λk hk=>by
  unfold gt
  rw [List.getD_eq_getElem?_getD,List.getElem?_replicate,if_pos (by omega)];rfl⟩
 have he:∀ k:Nat,k<=n->gt s k=ek n A k:=λk hk=>by
  rw [h0.val k hk];unfold ek;rw [Ss_Sn];rfl
 have hsl:=h0.len
 have hsb:∀ t:Nat,t<=n->-10000000000000<=gt s t/\gt s t<=10000000000000:=λt ht=>by rw [he t ht];exact hs.e t
 have et:=turn_l (F:=F) hn hsl hsb s.length F 0 (by omega) (by omega) (by omega)
 have htl:=tl_len s (n+1)
 have c1:c=(tl s (n+1)).reverse:=list_ext (by rw [List.length_reverse,htl,hc.len]) λi hi=>by
  have hi:i<n+1:=by rw [<- hc.len];exact hi
  rw [gt_rev (by omega),htl,tl_gt s (n+1) (by omega),he _ (by omega)]
  have:=hc.val (n - i) (by omega) (by omega)
  rw [show n - (n - i)=i by omega] at this
  rw [this,show n+1 - 1 - i=n - i by omega]
 have hcl:=hc.len
 have hcb:∀ t:Nat,t<=n->-10000000000000<=gt c t/\gt c t<=10000000000000:=λt ht=>by
  have h1:=hc.val (n - t) (by omega) (by omega)
  have h2:=hs.e (n - t)
  rw [show n - (n - t)=t by omega] at h1
  rw [h1]
  rcases sg2_or (n - t) with e | e <;> rw [e] <;> omega
 obtain ⟨l',l1,l2,e3⟩:=alt_l (F:=F) hn (r:=adj (nz c)) hcl hcb (n+1) F 0 c (by omega) (by omega) (by omega) hcl λt ht=>by rw [if_neg (by omega)]
 have l3:∀ i:Nat,i<n+1->gt l' i=sg2 n * gt s (n - i):=λi hi=>by
  have h1:=hc.val (n - i) (by omega) (by omega)
  rw [show n - (n - i)=i by omega] at h1
  rw [l2 i (by omega),h1,he _ (by omega),Int.mul_assoc,Int.mul_comm (ek n A (n - i)),<-Int.mul_assoc,<-sg2_add,show n - i+i=n by omega]
 have a1:adj (nz c)=adj (nz (tl s (n+1))):=by rw [c1,nz_rev,adj_rev]
 have a2:adj (nz l')=adj (nz s):=by
  rcases sg2_or n with e | e
  ·have:l'=s.reverse:=list_ext (by rw [List.length_reverse];omega) λi hi=>by
    rw [gt_rev (by omega),l3 i (by omega),e,Int.one_mul];congr 1;omega
   rw [this,nz_rev,adj_rev]
  ·have:l'=(s.map λx=>-x).reverse:=list_ext (by rw [List.length_reverse,List.length_map];omega) λi hi=>by
    rw [gt_rev (by rw [List.length_map];omega),l3 i (by omega),e,List.length_map,show s.length - 1 - i=n - i by omega]
    have hlt:n - i<s.length:=by omega
    unfold gt
    simp [hlt]
   rw [this,nz_rev,adj_rev,nz_neg,adj_neg]
 obtain ⟨t1,ht1⟩:=cons1 (l:=s) (by omega) (by rw [he 0 (by omega),ek_zero])
 obtain ⟨t2,ht2⟩:=cons1 (l:=tl s (n+1)) (by omega) (by rw [tl_gt s (n+1) (by omega),he 0 (by omega),ek_zero];rfl)
 refine ⟨IntKind.i64.wrap (adj (nz (tl s (n+1))) - adj (nz s)),?_,?_⟩
 ·unfold aT.p
  rw [e1,Option.bind_some,chi (by omega) (by omega),Option.bind_some,hcl]
  rw [show ((0:Nat):Int)=0 from rfl] at e3
  rw [e3]
  unfold aT.pj1
  rw [chi (by omega) (by omega),Option.bind_some,a1,a2]
 ·unfold aA.p
  rw [hk,Option.bind_some]
  rw [show ((0:Nat):Int)=0 from rfl] at e2 et
  rw [e2]
  unfold aA.pj2
  rw [show tl s 0=[] from rfl] at et
  rw [et,hsl]
  unfold aA.pj1
  have k1:aF.p F (tl s (n+1))=some (adj (nz (tl s (n+1)))):=by
   rw [ht2] at htl ⊢
   exact chs (by omega) (by omega)
  have k2:aF.p F s=some (adj (nz s)):=by
   rw [ht1] at hsl ⊢
   exact chs (by omega) (by omega)
  rw [k1,Option.bind_some,k2,Option.bind_some]
end Go.Proofs.Ytokekkacliomkaa.AE
end
section
namespace Go.Proofs.Ytokekkacliomkaa.AE
open Go Go.AE Go.Proofs
variable {F n R C:Nat} {A:Mat}
theorem st_in (hR:R<=48) (hC:C<=48) {i:Int} (i0:0<=i) (i1:i<R) {pC}:∀ (d g:Nat) (j:Int),C - j=d->d<g->0<=j->j<=C ->
  av.pl981 F pC g R C (mk R C A) C R (mk C R (trM A i j)) i j=pC R C (mk R C A) C R (mk C R (trM A (i+1) 0)) (i+1):=by
 intro d
 induction d with
 | zero=>
  intro g j hd hg hj hj2
  obtain ⟨g,rfl⟩:∃ g',g=g'+1:=⟨g - 1,by omega⟩
  rw [av.pl981,decide_eq_false (by omega),cond_false]
  unfold av.pj4 av.pj3
  rw [ap (x:=i+1) (by omega) (by omega)]
  have e:mk C R (trM A i j)=mk C R (trM A (i+1) 0):=bl λa b a0 a1 b0 b1=>by
   unfold trM
   by_cases h:b<i\/b=i/\a<j
   ·rw [if_pos h,if_pos (by omega)]
   ·rw [if_neg h,if_neg (by omega)]
  rw [e]
 | succ d ih=>
  intro g j hd hg hj hj2
  obtain ⟨g,rfl⟩:∃ g',g=g'+1:=⟨g - 1,by omega⟩
  rw [av.pl981,decide_eq_true (by omega),cond_true,at_mk (by omega) (by omega) i0 i1 hj (by omega),Option.bind_some,ca (i:=j) (j:=i) (by omega) (by omega) hj (by omega) i0 i1,Option.bind_some,Option.bind_some,
   dN (i:=j) (j:=i) hj (by omega) i0 i1,ap (x:=j+1) (by omega) (by omega)]
  have e:upd (trM A i j) j i (A i j)=trM A i (j+1):=by
   funext a b
   unfold upd trM
   by_cases h:a=j/\b=i
   ·rw [if_pos h,if_pos (by omega),h.1,h.2]
   ·rw [if_neg h]
    by_cases h2:b<i\/b=i/\a<j
    ·rw [if_pos h2,if_pos (by omega)]
    ·rw [if_neg h2,if_neg (by omega)]
  rw [e]
  exact ih g (j+1) (by omega) (by omega) (by omega) (by omega)
theorem st_out (hR:R<=48) (hC:C<=48) (hF:1000<F):∀ (d g:Nat) (i:Int),R - i=d->d<g->0<=i->i<=R ->
  av.pl61 F g R C (mk R C A) C R (mk C R (trM A i 0)) i=some ((C:Int),(R:Int),mk C R (tr A)):=by
 intro d
 induction d with
 | zero=>
  intro g i hd hg hi hi2
  obtain ⟨g,rfl⟩:∃ g',g=g'+1:=⟨g - 1,by omega⟩
  rw [av.pl61,decide_eq_false (by omega),cond_false]
  have e:mk C R (trM A i 0)=mk C R (tr A):=bl λa b a0 a1 b0 b1=>if_pos (by omega)
  rw [e]
 | succ d ih=>
  intro g i hd hg hi hi2
  obtain ⟨g,rfl⟩:∃ g',g=g'+1:=⟨g - 1,by omega⟩
  rw [av.pl61,decide_eq_true (by omega),cond_true,st_in hR hC hi (by omega) C F 0 (by omega) (by omega) (by omega) (by omega)]
  exact ih g (i+1) (by omega) (by omega) (by omega) (by omega)
theorem stransp (hR:R<=48) (hC:C<=48) (hF:5000000<F) (h:aY.p F R C (mk R C A)=some true):av.p F R C (mk R C A)=some ((C:Int),(R:Int),mk C R (tr A)):=by
 have hm:C * R<=48 * 48:=Nat.mul_le_mul hC hR
 unfold av.p bS.p mkn
 rw [h,Option.bind_some,Bool.not_true,cond_false,<-Int.natCast_mul,ap (by omega) (by omega),if_pos (by omega),Option.bind_some,Option.bind_some,Int.toNat_natCast,mk_zero]
 simp only []
 have e:mk C R (λ_ _=>0)=mk C R (trM A 0 0):=bl λa b a0 a1 b0 b1=>(if_neg (by omega)).symm
 rw [e]
 exact st_out hR hC (by omega) R F 0 (by omega) (by omega) (by omega) (by omega)
theorem eq_both {l l':List Int} (hl:l.length<=1000000) (e:l.length=l'.length):∀ (m g:Nat) (i:Int),l.length - i=m->m<g->0<=i->∃ v,bE.pl29 F g l l' l.length i=some v/\bC.pl29 F g l l' i=some v:=by
 intro m
 induction m with
 | zero=>
  intro g i hm hg hi
  obtain ⟨g,rfl⟩:∃ g',g=g'+1:=⟨g - 1,by omega⟩
  rw [bE.pl29,decide_eq_false (by omega),cond_false,bC.pl29,decide_eq_false (by omega),cond_false]
  exact ⟨_,rfl,rfl⟩
 | succ m ih=>
  intro g i hm hg hi
  obtain ⟨g,rfl⟩:∃ g',g=g'+1:=⟨g - 1,by omega⟩
  have e1:ix l i=some i.toNat:=by unfold ix;rw [if_pos (by omega)]
  have e2:ix l' i=some i.toNat:=by unfold ix;rw [if_pos (by omega)]
  rw [bE.pl29,decide_eq_true (by omega),cond_true,e1,Option.bind_some,e2,Option.bind_some,bC.pl29,decide_eq_true (by omega),cond_true,e1,Option.bind_some,e2,Option.bind_some,ap (x:=i+1) (by omega) (by omega)]
  cases (gt l i.toNat != gt l' i.toNat) with
  | true=>exact ⟨_,rfl,rfl⟩
  | false=>exact ih g (i+1) (by omega) (by omega) (by omega)
theorem sig_both {a b:Int} {l:List Int} (hF:1000000000000000<=F) (hl:l.length<=2000000) :
  ∃ y c,cM.p F a b l=some (y,c)/\cK.p F a b l=some (y,c):=by
 unfold cM.p cK.p
 obtain ⟨v,m1,m2,hv⟩:=isMatrix_both (F:=F) (a:=a) (b:=b) (by omega) hl
 rw [m1,m2]
 cases v with
 | false=>exact ⟨_,_,rfl,rfl⟩
 | true=>
  obtain ⟨R,C,A,rfl,rfl,hR,hC,rfl,hb⟩:=hv rfl
  rw [Option.bind_some,Option.bind_some,Bool.not_true,cond_false,cond_false,stransp hR hC (by omega) m1,Option.bind_some]
  simp only []
  unfold bC.p
  by_cases hRC:R=C
  ·subst hRC
   have hm:R * R<=48 * 48:=Nat.mul_le_mul hR hR
   obtain ⟨v,s1,s2⟩:=eq_both (F:=F) (l:=mk R R A) (l':=mk R R (tr A)) (by rw [cZ];omega) (by rw [cZ,cZ]) (R * R) F 0 (by rw [cZ];omega) (by omega) (by omega)
   rw [bne_self_eq_false,cond_false,cond_false,cond_false,transp hR (by omega) hb,Option.bind_some]
   simp only []
   unfold dj.p bE.p
   have el:(((mk R R A).length:Int) != ((mk R R (tr A)).length:Int))=false:=by rw [cZ,cZ,bne_self_eq_false]
   rw [beq_self_eq_true,cond_true,cond_true,el,cond_false,cond_false,s1,s2,Option.bind_some,Option.bind_some,Option.bind_some]
   cases v with
   | false=>exact ⟨_,_,rfl,rfl⟩
   | true=>
    rw [Bool.not_true,cond_false,cond_false]
    by_cases h12:(R:Int)>12
    ·rw [decide_eq_true h12];exact ⟨_,_,rfl,rfl⟩
    ·rw [decide_eq_false h12,cond_false,cond_false]
     unfold aB.p az.p
     obtain ⟨v,e1,h1⟩:=vol_i (F:=F) hR (by omega) hb R F 0 (by omega) (by omega) (by omega) (by show (1:Int)<=_;omega)
     have e2:=vol_s (F:=F) hR (by omega) hb R F 0 (by omega) (by omega) (by omega)
     rw [show Pi 0 (mx R A)=1 from rfl,show ((0:Nat):Int)=0 from rfl] at e1 e2
     rw [show (1000000000:Int) / 1=1000000000 from by decide] at e2
     rw [e1,e2,Option.bind_some,Option.bind_some]
     by_cases c:Pi R (mx R A)<=1000000000
     ·have h2:=h1.2 c
      obtain ⟨y,g1,g2⟩:=sig_v (F:=F) (n:=R) (A:=A) (by omega) (by omega) c
      rw [decide_eq_true c,decide_eq_false (by omega),Bool.not_true,cond_false,cond_false,g1,g2]
      exact ⟨_,_,rfl,rfl⟩
     ·have h2:=λq=>c (h1.1 q)
      rw [decide_eq_false c,decide_eq_true (by omega),Bool.not_false,cond_true,cond_true]
      exact ⟨_,_,rfl,rfl⟩
  ·have hne:((R:Int) != (C:Int))=true:=by simp;omega
   rw [hne]
   exact ⟨_,_,rfl,rfl⟩
theorem FnExactSymmetricSignature_pure:∀ (aa:Int) (ac:Int) (ak:List Int),(Lit.int .i64 aa).wf=true->(Lit.int .i64 ac).wf=true->ak.length<=maxLen->(∀ x∈ak,(Lit.int .i64 x).wf=true)->∃ F,cE.p F aa ac ak=some true:=by
 intro a b l _ _ hm _
 obtain ⟨F,hF⟩:∃ F:Nat,F=1000000000000000:=⟨_,rfl⟩
 refine ⟨F,?_⟩
 unfold cE.p
 obtain ⟨r,e,hr⟩:=sz_l (F:=F) (l:=l) (by unfold maxLen at hm;omega)
 rw [e,Option.bind_some]
 by_cases h:r<0
 ·rw [decide_eq_true h,cond_true]
 ·have hl:=hr h
  obtain ⟨y,c,e1,e2⟩:=sig_both (F:=F) (a:=a) (b:=b) (by omega) hl
  rw [decide_eq_false h,cond_false,toMatrix (by omega) hl,Option.bind_some]
  simp only []
  rw [e2,Option.bind_some,Option.bind_some]
  simp only []
  rw [e1,Option.bind_some]
  simp only []
  rw [bne_self_eq_false,bne_self_eq_false,cond_false,cond_false,Option.bind_some]
  simp only []
  rw [eqMatrix (by omega) hl]
  rfl
end Go.Proofs.Ytokekkacliomkaa.AE
end
