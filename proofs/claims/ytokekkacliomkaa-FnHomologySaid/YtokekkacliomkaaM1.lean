import Derived.Test.YtokekkacliomkaaP2
import Derived.Test.YtokekkacliomkaaE2
set_option linter.unusedVariables false
set_option linter.unusedSimpArgs false
section
set_option linter.unusedVariables false
set_option maxRecDepth 4000
namespace Go.Proofs.Ytokekkacliomkaa.AE
open Go Go.AE Go.Proofs
def rb.pl29 (F:Nat) :Nat->List Int->Int->Option (Bool)
 | 0,_,_=>none
 | k+1,Du,Ld=>(bif (decide (Ld<(Du.length:Int))) then ((ix Du Ld).bind λn1=>(gO.p F (gt Du n1) (-1000000000000) 1000000000000).bind λr2=>(bif (!r2) then (some false) else (rb.pl29 F k Du (IntKind.i64.wrap (Ld+1))))) else (some true))
def rb.p (F:Nat) (aa:Int) (ac:Int) (bT:List Int):Option (Bool):=(gO.p F aa 0 48).bind λr2=>(bif (!r2) then (some false) else ((gO.p F ac 0 48).bind λr5=>(bif (!r5) then (some false) else ((bif ((bT.length:Int) != (IntKind.i64.wrap (aa * ac))) then (some false) else (rb.pl29 F F bT 0))))))
def fG.pj11 (F:Nat) (lf:Int->Int->List Int->Int->List Int->Int->Int->List Int->Int->Int->Option (Int×Int×List Int×Bool)) (aeb:Int) (aec:Int) (aed:List Int) (aee:Int) (aef:List Int) (aeg:Int) (aeh:Int) (aei:List Int) (aej:Int) (aek:Int):Option (Int×Int×List Int×Bool):=lf aeb aec aed aee aef aeg aeh aei aej (IntKind.i64.wrap (aek+1))
def fG.pj12 (F:Nat) (lf:Int->Int->List Int->Int->List Int->Int->Int->List Int->Int->Int->Option (Int×Int×List Int×Bool)) (ael:Int) (aem:Int) (aen:List Int) (Ut:Int) (aeo:List Int) (aep:Int) (aeq:Int) (Uu:List Int) (Uv:Int) (Uw:Int) (aer:Int):Option (Int×Int×List Int×Bool):=(ix Uu (IntKind.i64.wrap ((IntKind.i64.wrap (Uv * Ut))+Uw))).bind λn1=>(some (Uu.set n1 aer)).bind λl2=>fG.pj11 F lf ael aem aen Ut aeo aep aeq l2 Uv Uw
def fG.pl30037 (F:Nat) (dE:Int->Int->List Int->Int->List Int->Int->Int->List Int->Int->Option (Int×Int×List Int×Bool)) (lf:Int->Int->List Int->Int->List Int->Int->Int->List Int->Int->Int->Option (Int×Int×List Int×Bool)):Nat->Int->Int->List Int->Int->List Int->Int->Int->List Int->Int->Int->Int->Int->Int->Option (Int×Int×List Int×Bool)
 | 0,_,_,_,_,_,_,_,_,_,_,_,_,_=>none
 | k+1,Ux,Dw,Le,Lf,Lg,Uy,Uz,UA,Lh,Li,UB,UC,Dx=>(bif (decide (Dx<Dw)) then ((bm.p F Dw Le Lh Dx).bind λr1=>(bm.p F Lf Lg Dx Li).bind λr4=>(gZ.p F r1 r4 1000000000000).bind λr6=>(fa.p F r6.1).bind λr8=>(bif (!r6.2) then (some (0,0,([]:List Int),false)) else ((bif (decide ((IntKind.i64.wrap (UC+r8))>1000000000000)) then (some (0,0,([]:List Int),false)) else (fG.pl30037 F dE lf k Ux Dw Le Lf Lg Uy Uz UA Lh Li (IntKind.i64.wrap (UB+r6.1)) (IntKind.i64.wrap (UC+r8)) (IntKind.i64.wrap (Dx+1))))))) else (fG.pj12 F lf Ux Dw Le Lf Lg Uy Uz UA Lh Li UB))
def fG.pj9 (F:Nat) (dE:Int->Int->List Int->Int->List Int->Int->Int->List Int->Int->Option (Int×Int×List Int×Bool)) (aes:Int) (aet:Int) (aeu:List Int) (aev:Int) (aew:List Int) (aex:Int) (aey:Int) (aez:List Int) (aeA:Int):Option (Int×Int×List Int×Bool):=dE aes aet aeu aev aew aex aey aez (IntKind.i64.wrap (aeA+1))
def fG.pj10 (F:Nat) (dE:Int->Int->List Int->Int->List Int->Int->Int->List Int->Int->Option (Int×Int×List Int×Bool)) (aeB:Int) (aeC:Int) (aeD:List Int) (aeE:Int) (aeF:List Int) (aeG:Int) (aeH:Int) (aeI:List Int) (aeJ:Int):Option (Int×Int×List Int×Bool):=fG.pj9 F dE aeB aeC aeD aeE aeF aeG aeH aeI aeJ
def fG.pl469 (F:Nat) (dE:Int->Int->List Int->Int->List Int->Int->Int->List Int->Int->Option (Int×Int×List Int×Bool)):Nat->Int->Int->List Int->Int->List Int->Int->Int->List Int->Int->Int->Option (Int×Int×List Int×Bool)
 | 0,_,_,_,_,_,_,_,_,_,_=>none
 | k+1,UD,UE,UF,Lj,UG,UH,UI,UJ,UK,UL=>(bif (decide (UL<Lj)) then (fG.pl30037 F dE (fG.pl469 F dE k) F UD UE UF Lj UG UH UI UJ UK UL 0 0 0) else (fG.pj10 F dE UD UE UF Lj UG UH UI UJ UK))
def fG.pl29 (F:Nat) :Nat->Int->Int->List Int->Int->List Int->Int->Int->List Int->Int->Option (Int×Int×List Int×Bool)
 | 0,_,_,_,_,_,_,_,_,_=>none
 | k+1,UM,aeK,aeL,aeM,aeN,UN,UO,UP,UQ=>(bif (decide (UQ<UM)) then (fG.pl469 F (fG.pl29 F k) F UM aeK aeL aeM aeN UN UO UP UQ 0) else (some (UN,UO,UP,true)))
def fG.p (F:Nat) (aa:Int) (ac:Int) (bT:List Int) (cu:Int) (jM:List Int):Option (Int×Int×List Int×Bool):=(eH.p F aa cu).bind λr4=>fG.pl29 F F aa ac bT cu jM r4.1 r4.2.1 r4.2.2 0
end Go.Proofs.Ytokekkacliomkaa.AE
end
section
namespace Go.AE
abbrev Mat:=Int->Int->Int
def mk (R C:Nat) (A:Mat):List Int:=(List.range (R * C)).map λn=>A ((n / C:Nat):Int) ((n % C:Nat):Int)
def upd (A:Mat) (i j x:Int):Mat:=λa b=>if a=i/\b=j then x else A a b
theorem DR (A:Mat) (i j x:Int):upd A i j x i j=x:=by simp [upd]
theorem kL (A:Mat) {i j a b:Int} (x:Int) (h:¬ (a=i/\b=j)):upd A i j x a b=A a b:=by simp only [upd,if_neg h]
variable {R C:Nat} {A B:Mat}
theorem kB (R C:Nat) (A:Mat):(mk R C A).length=R * C:=by simp [mk]
theorem xk {i j:Int} (hi0:0<=i) (hi:i<R) (hj0:0<=j) (hj:j<C):∃ a b:Nat,i=a/\j=b/\a<R/\b<C/\(i * C+j).toNat=a * C+b/\a * C+b<R * C/\(i * C+j)=((a * C+b:Nat):Int):=by
 refine ⟨i.toNat,j.toNat,by omega,by omega,by omega,by omega,?_,?_,?_⟩
 ·obtain ⟨a,rfl⟩:=Int.eq_ofNat_of_zero_le hi0
  obtain ⟨b,rfl⟩:=Int.eq_ofNat_of_zero_le hj0
  simp only [Int.toNat_natCast]
  rw [<- Int.natCast_mul,<-Int.natCast_add,Int.toNat_natCast]
 ·have h1:i.toNat+1<=R:=by omega
  have:=Nat.mul_le_mul_right C h1
  rw [Nat.add_mul] at this
  omega
 ·obtain ⟨a,rfl⟩:=Int.eq_ofNat_of_zero_le hi0
  obtain ⟨b,rfl⟩:=Int.eq_ofNat_of_zero_le hj0
  simp
theorem DS {a b:Nat} (hb:b<C) (h:a * C+b<R * C):(mk R C A)[a * C+b]?=some (A a b):=by
 have hC:0<C:=by omega
 have e1:(a * C+b) / C=a:=by rw [Nat.add_comm,Nat.add_mul_div_right _ _ hC,Nat.div_eq_of_lt hb,Nat.zero_add]
 have e2:(a * C+b) % C=b:=by rw [Nat.add_comm,Nat.add_mul_mod_self_right,Nat.mod_eq_of_lt hb]
 unfold mk
 rw [List.getElem?_map,List.getElem?_range h]
 simp only [Option.map_some,e1,e2]
theorem jz {i j:Int} (hi0:0<=i) (hi:i<R) (hj0:0<=j) (hj:j<C):gt (mk R C A) (i * C+j).toNat=A i j:=by
 obtain ⟨a,b,rfl,rfl,ha,hb,e,hlt,_⟩:=xk hi0 hi hj0 hj
 rw [e]
 unfold gt
 rw [List.getD_eq_getElem?_getD,DS hb hlt];rfl
theorem iG {i j:Int} (hR:R<=1000) (hC:C<=1000) (hi0:0<=i) (hi:i<R) (hj0:0<=j) (hj:j<C):ix (mk R C A) (IntKind.i64.wrap (IntKind.i64.wrap (i * C)+j))=some (i * C+j).toNat:=by
 obtain ⟨a,b,e1,e2,ha,hb,e,hlt,e3⟩:=xk hi0 hi hj0 hj
 have hm:R * C<=1000 * 1000:=Nat.mul_le_mul hR hC
 have h1:0<=i * C:=Int.mul_nonneg hi0 (Int.natCast_nonneg _)
 rw [bv (x:=i * C) (by omega) (by omega),bv (x:=i * C+j) (by omega) (by omega)]
 unfold ix
 rw [kB,if_pos (by omega)]
theorem fk (h:∀ i j:Int,0<=i->i<R->0<=j->j<C->A i j=B i j):mk R C A=mk R C B:=by
 unfold mk
 apply List.map_congr_left
 intro n hn
 have hn:=List.mem_range.1 hn
 have hC:0<C:=by
  rcases Nat.eq_zero_or_pos C with h | h
  ·subst h;simp at hn
  ·exact h
 exact h _ _ (Int.natCast_nonneg _) (Int.ofNat_lt.2 ((Nat.div_lt_iff_lt_mul hC).2 hn)) (Int.natCast_nonneg _) (Int.ofNat_lt.2 (Nat.mod_lt n hC))
theorem DT {l:List Int} (h:l.length=R * C):l=mk R C λi j=>gt l (i * C+j).toNat:=by
 apply List.ext_getElem?
 intro n
 by_cases hn:n<R * C
 ·unfold mk
  rw [List.getElem?_map,List.getElem?_range hn]
  simp only [Option.map_some]
  have e:(((n / C:Nat):Int) * C+((n % C:Nat):Int)).toNat=n:=by
   rw [<- Int.natCast_mul,<-Int.natCast_add,Int.toNat_natCast,Nat.mul_comm,Nat.div_add_mod]
  rw [e]
  exact tA (by omega)
 ·rw [List.getElem?_eq_none (by omega),List.getElem?_eq_none (by rw [kB];omega)]
theorem mM {i j x:Int} (hi0:0<=i) (hi:i<R) (hj0:0<=j) (hj:j<C):(mk R C A).set (i * C+j).toNat x=mk R C (upd A i j x):=by
 obtain ⟨a,b,rfl,rfl,ha,hb,e,hlt,_⟩:=xk hi0 hi hj0 hj
 rw [e]
 apply List.ext_getElem?
 intro n
 by_cases hn:n<R * C
 ·have hC:0<C:=by omega
  have hd:n=n / C * C+n % C:=by rw [Nat.mul_comm,Nat.div_add_mod]
  have hr:=Nat.mod_lt n hC
  rw [hd,DS hr (by omega)]
  by_cases e:n / C=a/\n % C=b
  ·rw [e.1,e.2,List.getElem?_set_self (by rw [kB];exact hlt),DR]
  ·have:a * C+b≠n / C * C+n % C:=by
    intro h
    rw [<- hd] at h
    apply e
    constructor
    ·rw [<- h,Nat.add_comm,Nat.add_mul_div_right _ _ hC,Nat.div_eq_of_lt hb,Nat.zero_add]
    ·rw [<- h,Nat.add_comm,Nat.add_mul_mod_self_right,Nat.mod_eq_of_lt hb]
   rw [List.getElem?_set_ne this,DS hr (by omega),kL _ _ (by omega)]
 ·rw [List.getElem?_eq_none (by rw [List.length_set,kB];omega),List.getElem?_eq_none (by rw [kB];omega)]
end Go.AE
end
section
namespace Go.Proofs.Ytokekkacliomkaa.AE
open Go Go.AE Go.Proofs
def Sg:Nat->(Int->Int)->Int
 | 0,_=>0
 | n+1,f=>Sg n f+f (n:Int)
theorem Sg_congr {f g:Int->Int}:∀ {n:Nat},(∀ i:Int,0<=i->i<n->f i=g i)->Sg n f=Sg n g
 | 0,_=>rfl
 | n+1,h=>by
  show Sg n f+f n=Sg n g+g n
  rw [Sg_congr (n:=n) λi h0 h1=>h i h0 (by omega),h n (by omega) (by omega)]
theorem Sg_nul:∀ n:Nat,Sg n (λ_=>0)=0
 | 0=>rfl
 | n+1=>by show Sg n _+0=0;rw [Sg_nul n];rfl
theorem Sg_zero {n:Nat} {f:Int->Int} (h:∀ i:Int,0<=i->i<n->f i=0):Sg n f=0:=by
 rw [Sg_congr (g:=λ_=>0) h];exact Sg_nul n
theorem Sg_add {f g:Int->Int}:∀ n:Nat,Sg n (λi=>f i+g i)=Sg n f+Sg n g
 | 0=>rfl
 | n+1=>by
  show Sg n (λi=>f i+g i)+(f n+g n)=Sg n f+f n+(Sg n g+g n)
  rw [Sg_add n];omega
theorem Sg_mul {c:Int} {f:Int->Int}:∀ n:Nat,Sg n (λi=>c * f i)=c * Sg n f
 | 0=>by show 0=c * 0;rw [Int.mul_zero]
 | n+1=>by
  show Sg n (λi=>c * f i)+c * f n=c * (Sg n f+f n)
  rw [Sg_mul n,Int.mul_add]
theorem Sg_mulr {c:Int} {f:Int->Int} {n:Nat}:Sg n (λi=>f i * c)=Sg n f * c:=by
 rw [Int.mul_comm,<-Sg_mul];exact Sg_congr λ_ _ _=>Int.mul_comm _ _
theorem Sg_comm {m:Nat} {f:Int->Int->Int}:∀ n:Nat,Sg n (λi=>Sg m λj=>f i j)=Sg m λj=>Sg n λi=>f i j
 | 0=>(Sg_nul m).symm
 | n+1=>by
  show Sg n (λi=>Sg m λj=>f i j)+Sg m (λj=>f n j)=Sg m λj=>Sg n (λi=>f i j)+f n j
  rw [Sg_comm n,Sg_add]
theorem Sg_one {f:Int->Int} {k:Int} (h0:0<=k):∀ {n:Nat},Sg n (λi=>if i=k then f i else 0)=if k<n then f k else 0
 | 0=>by rw [if_neg (by omega)];rfl
 | n+1=>by
  show Sg n (λi=>if i=k then f i else 0)+(if (n:Int)=k then f n else 0)=_
  rw [Sg_one h0 (n:=n)]
  by_cases e:(n:Int)=k
  ·subst e;rw [if_neg (by omega),if_pos rfl,if_pos (by omega),Int.zero_add]
  ·rw [if_neg e,Int.add_zero]
   by_cases c:k<n
   ·rw [if_pos c,if_pos (by omega)]
   ·rw [if_neg c,if_neg (by omega)]
theorem Sg_dvd {d:Int} {f:Int->Int}:∀ {n:Nat},(∀ i:Int,0<=i->i<n->d∣f i)->d∣Sg n f
 | 0,_=>⟨0,(Int.mul_zero _).symm⟩
 | n+1,h=>Int.dvd_add (Sg_dvd (n:=n) λi h0 h1=>h i h0 (by omega)) (h n (by omega) (by omega))
theorem Sg_le {f g:Int->Int}:∀ {n:Nat},(∀ i:Int,0<=i->i<n->f i<=g i)->Sg n f<=Sg n g
 | 0,_=>Int.le_refl _
 | n+1,h=>Int.add_le_add (Sg_le (n:=n) λi h0 h1=>h i h0 (by omega)) (h n (by omega) (by omega))
theorem Sg_nn {f:Int->Int} {n:Nat} (h:∀ i:Int,0<=i->i<n->0<=f i):0<=Sg n f:=by
 have:=Sg_le (n:=n) h;rw [Sg_nul] at this;exact this
theorem Sg_ge {f:Int->Int} {k:Int} (h0:0<=k):∀ {n:Nat},(∀ i:Int,0<=i->i<n->0<=f i)->k<n->f k<=Sg n f
 | 0,_,hk=>by omega
 | n+1,h,hk=>by
  show f k<=Sg n f+f n
  by_cases e:k=n
  ·subst e;have:=Sg_nn (n:=n) λi h0 h1=>h i h0 (by omega);omega
  ·have:=Sg_ge h0 (n:=n) (λi h0 h1=>h i h0 (by omega)) (by omega)
   have:=h n (by omega) (by omega)
   omega
theorem Sg_split {f:Int->Int} {a:Nat}:∀ b:Nat,Sg (a+b) f=Sg a f+Sg b λi=>f (i+a)
 | 0=>(Int.add_zero _).symm
 | b+1=>by
  show Sg (a+b) f+f ((a+b:Nat):Int)=Sg a f+(Sg b (λi=>f (i+a))+f ((b:Int)+a))
  rw [Sg_split b,show ((a+b:Nat):Int)=(b:Int)+a by omega];omega
def mm (n:Nat) (A B:Mat):Mat:=λi j=>Sg n λl=>A i l * B l j
theorem mm_assoc {n m:Nat} {A B C:Mat}:mm n (mm m A B) C=mm m A (mm n B C):=by
 funext i j
 show Sg n (λl=>Sg m (λk=>A i k * B k l) * C l j)=Sg m λk=>A i k * Sg n λl=>B k l * C l j
 rw [Sg_congr (g:=λl=>Sg m λk=>A i k * B k l * C l j) λl _ _=>(Sg_mulr).symm,Sg_comm]
 refine Sg_congr λk _ _=>?_
 rw [<- Sg_mul]
 exact Sg_congr λl _ _=>Int.mul_assoc _ _ _
theorem mm_congr {n:Nat} {A B A' B':Mat} {i j:Int} (h:∀ l:Int,0<=l->l<n->A i l=A' i l) (h':∀ l:Int,0<=l->l<n->B l j=B' l j):mm n A B i j=mm n A' B' i j:=
 Sg_congr λl h0 h1=>by rw [h l h0 h1,h' l h0 h1]
def idM:Mat:=λa b=>if a=b then 1 else 0
theorem mm_idl {n:Nat} {A:Mat} {i j:Int} (h0:0<=i) (h:i<n):mm n idM A i j=A i j:=by
 show Sg n (λl=>(if i=l then 1 else 0) * A l j)=_
 rw [Sg_congr (g:=λl=>if l=i then A l j else 0) λl _ _=>by
  by_cases e:l=i
  ·subst e;simp
  ·rw [if_neg e,if_neg (Ne.symm e),Int.zero_mul],Sg_one h0,if_pos h]
theorem mm_idr {n:Nat} {A:Mat} {i j:Int} (h0:0<=j) (h:j<n):mm n A idM i j=A i j:=by
 show Sg n (λl=>A i l * (if l=j then 1 else 0))=_
 rw [Sg_congr (g:=λl=>if l=j then A i l else 0) λl _ _=>by by_cases e:l=j <;> simp [e],Sg_one h0,if_pos h]
def cnt:Nat->(Int->Bool)->Nat
 | 0,_=>0
 | n+1,P=>cnt n P+(if P n then 1 else 0)
theorem cnt_pos {P:Int->Bool}:∀ {n:Nat},0<cnt n P->∃ j:Int,0<=j/\j<n/\P j=true
 | 0,h=>absurd h (Nat.lt_irrefl _)
 | n+1,h=>by
  by_cases c:P n=true
  ·exact ⟨n,by omega,by omega,c⟩
  ·have h:0<cnt n P+(if P n then 1 else 0):=h
   rw [if_neg c] at h
   obtain ⟨j,h1,h2,h3⟩:=cnt_pos (n:=n) h
   exact ⟨j,h1,by omega,h3⟩
theorem cnt_out {P Q:Int->Bool}:∀ {n:Nat},(∀ i:Int,0<=i->i<n->P i=Q i)->cnt n P=cnt n Q
 | 0,_=>rfl
 | n+1,h=>by
  show cnt n P+_=cnt n Q+_
  rw [cnt_out (n:=n) λi h0 h1=>h i h0 (by omega),h n (by omega) (by omega)]
theorem cnt_rem {P:Int->Bool} {c:Int} (h0:0<=c) (hp:P c=true):∀ {n:Nat},c<n->cnt n (λj=>P j&&decide (j≠c))+1=cnt n P
 | 0,h=>by omega
 | n+1,h=>by
  show cnt n (λj=>P j&&decide (j≠c))+(if (P n&&decide ((n:Int)≠c)) then 1 else 0)+1=cnt n P+(if P n then 1 else 0)
  by_cases e:(n:Int)=c
  ·subst e
   rw [cnt_out (n:=n) (Q:=P) λi _ h1=>by rw [decide_eq_true (by omega),Bool.and_true]]
   simp [hp]
  ·have:=cnt_rem h0 hp (n:=n) (by omega)
   rw [decide_eq_true e,Bool.and_true];omega
theorem cnt_all:∀ n:Nat,cnt n (λ_=>true)=n
 | 0=>rfl
 | n+1=>by show cnt n _+1=_;rw [cnt_all n]
theorem kv {s:Nat}:∀ (k:Nat) (P:Int->Bool) (Y:Mat),k<cnt s P->∃ z:Int->Int,(∃ j:Int,0<=j/\j<s/\z j≠0)/\(∀ j,P j=false->z j=0)/\∀ r:Int,0<=r->r<k->Sg s (λj=>Y r j * z j)=0:=by
 intro k
 induction k with
 | zero=>
  intro P Y h
  obtain ⟨j,h1,h2,h3⟩:=cnt_pos h
  refine ⟨λi=>if i=j then 1 else 0,⟨j,h1,h2,by simp⟩,λi hi=>?_,λr h1 h2=>by omega⟩
  have:i≠j:=λe=>by rw [e,h3] at hi;cases hi
  exact if_neg this
 | succ k ih=>
  intro P Y h
  by_cases c0:∀ j:Int,0<=j->j<s->P j=true->Y k j=0
  ·obtain ⟨z,z1,z2,z3⟩:=ih P Y (by omega)
   refine ⟨z,z1,z2,λr h1 h2=>?_⟩
   by_cases e:r=k
   ·subst e
    refine Sg_zero λj h3 h4=>?_
    cases hp:P j with
    | false=>rw [z2 j hp,Int.mul_zero]
    | true=>rw [c0 j h3 h4 hp,Int.zero_mul]
   ·exact z3 r h1 (by omega)
  ·obtain ⟨c,c1,c2,c3,c4⟩:∃ c:Int,0<=c/\c<s/\P c=true/\Y k c≠0:=Classical.byContradiction λhn=>c0 λj h1 h2 h3=>Classical.byContradiction λh4=>hn ⟨j,h1,h2,h3,h4⟩
   have hc:=cnt_rem c1 c3 c2
   obtain ⟨z,⟨j,j1,j2,j3⟩,z2,z3⟩:=ih (λj=>P j&&decide (j≠c)) (λr j=>Y r j * Y k c - Y r c * Y k j) (by omega)
   have zc:z c=0:=z2 c (by simp)
   have key:∀ r:Int,Sg s (λj=>Y r j * (if j=c then - Sg s (λj=>Y k j * z j) else Y k c * z j))=Y k c * Sg s (λj=>Y r j * z j) - Y r c * Sg s (λj=>Y k j * z j):=λr=>by
    rw [Sg_congr (g:=λj=>Y k c * (Y r j * z j)+(if j=c then - (Y r j * Sg s (λj=>Y k j * z j)) else 0)) λj _ _=>by
     by_cases e:j=c
     ·subst e;rw [if_pos rfl,if_pos rfl,zc,Int.mul_zero,Int.mul_zero,Int.mul_neg,Int.zero_add]
     ·rw [if_neg e,if_neg e,Int.add_zero,Int.mul_left_comm],Sg_add,Sg_mul,Sg_one c1,if_pos c2]
    omega
   refine ⟨λj=>if j=c then - Sg s (λj=>Y k j * z j) else Y k c * z j,⟨j,j1,j2,?_⟩,λj hj=>?_,λr h1 h2=>?_⟩
   ·have:j≠c:=λe=>j3 (by rw [e];exact zc)
    simp only [if_neg this]
    exact Int.mul_ne_zero c4 j3
   ·have:j≠c:=λe=>by rw [e,c3] at hj;cases hj
    simp only [if_neg this]
    rw [z2 j (by rw [hj];rfl),Int.mul_zero]
   ·rw [key r]
    by_cases e:r=k
    ·subst e;omega
    ·have:=z3 r h1 (by omega)
     rw [Sg_congr (g:=λj=>Y k c * (Y r j * z j)+- Y r c * (Y k j * z j)) λj _ _=>by
      rw [Int.sub_mul,Int.neg_mul,<-Int.sub_eq_add_neg,Int.mul_assoc,Int.mul_assoc,Int.mul_left_comm],Sg_add,Sg_mul,Sg_mul,Int.neg_mul] at this
     omega
theorem no_mult {s k:Nat} {Y:Mat} {e:Int} (he:e.natAbs≠1) (H:∀ z:Int->Int,(∀ r:Int,0<=r->r<k->Sg s (λj=>Y r j * z j)=0)->∀ j:Int,0<=j->j<s->e∣z j) :
  ∀ (N:Nat) (z:Int->Int),Sg s (λj=>((z j).natAbs:Int))<N->(∀ r:Int,0<=r->r<k->Sg s (λj=>Y r j * z j)=0)->(∃ j:Int,0<=j/\j<s/\z j≠0)->False:=by
 intro N
 induction N with
 | zero=>
  intro z h _ _
  have:=Sg_nn (n:=s) (f:=λj=>((z j).natAbs:Int)) λi _ _=>by omega
  omega
 | succ N ih=>
  intro z hN hz ⟨j,j1,j2,j3⟩
  have hd:=H z hz
  have e0:e≠0:=λq=>by
   obtain ⟨c,hc⟩:=hd j j1 j2
   rw [q,Int.zero_mul] at hc;exact j3 hc
  have hq:∀ i:Int,0<=i->i<s->z i=e * (z i / e):=λi h1 h2=>by rw [Int.mul_ediv_cancel' (hd i h1 h2)]
  have e2:2<=e.natAbs:=by omega
  have hle:2 * Sg s (λj=>((z j / e).natAbs:Int))<=Sg s λj=>((z j).natAbs:Int):=by
   rw [<- Sg_mul]
   refine Sg_le λi h1 h2=>?_
   have:(z i).natAbs=e.natAbs * (z i / e).natAbs:=by rw [<- Int.natAbs_mul,<-hq i h1 h2]
   have h3:2 * (z i / e).natAbs<=e.natAbs * (z i / e).natAbs:=Nat.mul_le_mul_right _ e2
   omega
  have hj:z j / e≠0:=λq=>j3 (by rw [hq j j1 j2,q,Int.mul_zero])
  have hpos:(1:Int)<=Sg s λj=>((z j / e).natAbs:Int):=by
   have:=Sg_ge j1 (f:=λj=>((z j / e).natAbs:Int)) (n:=s) (λi _ _=>by omega) j2
   have:1<=(z j / e).natAbs:=by omega
   omega
  refine ih (λj=>z j / e) (by omega) (λr h1 h2=>?_) ⟨j,j1,j2,hj⟩
  have h3:=hz r h1 h2
  rw [Sg_congr (g:=λj=>e * (Y r j * (z j / e))) λi h4 h5=>by rw [Int.mul_left_comm,<-hq i h4 h5],Sg_mul] at h3
  exact (Int.mul_eq_zero.1 h3).resolve_left e0
def Fac (R C k:Nat) (d:Int) (A:Mat):Prop:=∃ X Y:Mat,∀ i j:Int,0<=i->i<R->0<=j->j<C->d∣A i j - mm k X Y i j
def Sim (R C:Nat) (A B:Mat):Prop:=∃ P U:Mat,∀ i j:Int,0<=i->i<R->0<=j->j<C->B i j=mm C (mm R P A) U i j
theorem Fac.sim {R C k:Nat} {d:Int} {A B:Mat} (h:Fac R C k d A) (hs:Sim R C A B):Fac R C k d B:=by
 obtain ⟨X,Y,h⟩:=h
 obtain ⟨P,U,hs⟩:=hs
 refine ⟨mm R P X,mm C Y U,λi j h1 h2 h3 h4=>?_⟩
 rw [hs i j h1 h2 h3 h4,<-mm_assoc,mm_assoc (n:=k) (m:=R)]
 have e:mm C (mm R P A) U i j - mm C (mm R P (mm k X Y)) U i j=Sg C λl=>Sg R (λa=>P i a * (A a l - mm k X Y a l)) * U l j:=by
  rw [Sg_congr (n:=C) (g:=λl=>mm R P A i l * U l j+-1 * (mm R P (mm k X Y) i l * U l j)) λl _ _=>by
   rw [Sg_congr (n:=R) (g:=λa=>P i a * A a l+-1 * (P i a * mm k X Y a l)) λa _ _=>by rw [Int.mul_sub];omega,Sg_add,Sg_mul,Int.add_mul]
   show _+-1 * mm R P (mm k X Y) i l * U l j=_
   rw [Int.mul_assoc];rfl,Sg_add,Sg_mul]
  show _ - _=mm C (mm R P A) U i j+-1 * mm C (mm R P (mm k X Y)) U i j
  omega
 rw [e]
 refine Sg_dvd λl h5 h6=>Int.dvd_trans ?_ (Int.dvd_mul_right _ _)
 exact Sg_dvd λa h7 h8=>Int.dvd_trans (h a l h7 h8 h5 h6) (Int.dvd_mul_left _ _)
theorem low {R C s k:Nat} {d m:Int} {D:Mat} (hsR:s<=R) (hsC:s<=C) (hD:∀ i j:Int,0<=i->i<s->0<=j->j<s->i≠j->D i j=0)
  (hm:∀ i:Int,0<=i->i<s->D i i∣m) (hd:¬ d∣m) (h:Fac R C k d D):s<=k:=by
 refine Nat.le_of_not_lt λhks=>?_
 obtain ⟨X,Y,h⟩:=h
 have hg:0<Nat.gcd d.natAbs m.natAbs:=Nat.pos_of_ne_zero λq=>by
  rw [Nat.gcd_eq_zero_iff] at q
  exact hd ⟨0,by omega⟩
 have hdg:=Nat.gcd_dvd_left d.natAbs m.natAbs
 have hmg:=Nat.gcd_dvd_right d.natAbs m.natAbs
 have hco:=Nat.coprime_div_gcd_div_gcd hg
 obtain ⟨a,ha⟩:=hdg
 obtain ⟨b,hb⟩:=hmg
 have ea:d.natAbs / Nat.gcd d.natAbs m.natAbs=a:=Nat.div_eq_of_eq_mul_right hg ha
 have eb:m.natAbs / Nat.gcd d.natAbs m.natAbs=b:=Nat.div_eq_of_eq_mul_right hg hb
 rw [ea,eb] at hco
 have a1:(a:Int).natAbs≠1:=λq=>by
  rw [Int.natAbs_natCast] at q
  rw [q,Nat.mul_one] at ha
  exact hd (Int.natAbs_dvd_natAbs.1 ⟨b,by rw [ha];exact hb⟩)
 obtain ⟨z,z1,_,z3⟩:=kv (s:=s) k (λ_=>true) Y (by rw [cnt_all];exact hks)
 refine no_mult (Y:=Y) a1 (λz hz i h1 h2=>?_) _ z (Int.lt_of_lt_of_le (Int.lt_succ _) (Int.self_le_toNat _)) z3 z1
 have e:Sg s (λj=>(D i j - mm k X Y i j) * z j)=D i i * z i:=by
  rw [Sg_congr (g:=λj=>(if j=i then D i j * z j else 0)+-1 * (mm k X Y i j * z j)) λj h3 h4=>by
   by_cases q:j=i
   ·rw [if_pos q,Int.sub_mul];omega
   ·rw [if_neg q,hD i j h1 h2 h3 h4 (Ne.symm q),Int.sub_mul,Int.zero_mul];omega,Sg_add,Sg_one h1,if_pos h2,Sg_mul]
  have:Sg s (λj=>mm k X Y i j * z j)=0:=by
   rw [Sg_congr (g:=λj=>Sg k λt=>X i t * (Y t j * z j)) λj _ _=>by
    show Sg k (λt=>X i t * Y t j) * z j=_
    rw [<- Sg_mulr];exact Sg_congr λt _ _=>Int.mul_assoc _ _ _,Sg_comm]
   refine Sg_zero λt h3 h4=>?_
   rw [Sg_mul,hz t h3 h4,Int.mul_zero]
  rw [this];omega
 have h3:d∣D i i * z i:=by
  rw [<- e]
  exact Sg_dvd λj h4 h5=>Int.dvd_trans (h i j h1 (by omega) h4 (by omega)) (Int.dvd_mul_right _ _)
 have h4:d∣m * z i:=Int.dvd_trans h3 (Int.mul_dvd_mul (hm i h1 h2) (Int.dvd_refl _))
 have h5:d.natAbs∣m.natAbs * (z i).natAbs:=by rw [<- Int.natAbs_mul];exact Int.natAbs_dvd_natAbs.2 h4
 generalize Nat.gcd d.natAbs m.natAbs=g at ha hb hg
 rw [ha,hb,Nat.mul_assoc] at h5
 have h6:=hco.dvd_of_dvd_mul_left (Nat.dvd_of_mul_dvd_mul_left hg h5)
 exact Int.natAbs_dvd_natAbs.1 (by rw [Int.natAbs_natCast];exact h6)
theorem up {R C s:Nat} {d:Int} {D:Mat} (hD:∀ i j:Int,0<=i->i<R->0<=j->j<C->i≠j->D i j=0) (h:∀ i:Int,s<=i->i<R->i<C->d∣D i i):Fac R C s d D:=by
 refine ⟨D,idM,λi j h1 h2 h3 h4=>?_⟩
 have e:mm s D idM i j=if j<s then D i j else 0:=by
  show Sg s (λl=>D i l * (if l=j then 1 else 0))=_
  rw [Sg_congr (g:=λl=>if l=j then D i l else 0) λl _ _=>by by_cases e:l=j <;> simp [e],Sg_one h3]
 rw [e]
 by_cases c:j<s
 ·rw [if_pos c,Int.sub_self];exact ⟨0,(Int.mul_zero _).symm⟩
 ·rw [if_neg c,Int.sub_zero]
  by_cases q:i=j
  ·subst q;exact h i (by omega) h2 h4
  ·rw [hD i j h1 h2 h3 h4 q];exact ⟨0,(Int.mul_zero _).symm⟩
structure Dia (R C:Nat) (D:Mat):Prop where
 o:∀ i j:Int,0<=i->i<R->0<=j->j<C->i≠j->D i j=0
 n:∀ i:Int,0<=i->i<R->i<C->0<=D i i
 c:∀ i j:Int,0<=i->i<=j->j<R->j<C->D i i∣D j j
end Go.Proofs.Ytokekkacliomkaa.AE
end
section
namespace Go.Proofs.Ytokekkacliomkaa.AE
open Go Go.AE Go.Proofs
def sw (i k a:Int):Int:=if a=i then k else if a=k then i else a
def swR (A:Mat) (i k:Int):Mat:=λa b=>A (sw i k a) b
def swC (A:Mat) (j k:Int):Mat:=λa b=>A a (sw j k b)
def ngR (A:Mat) (k:Int):Mat:=λa b=>if a=k then - A a b else A a b
def ngC (A:Mat) (k:Int):Mat:=λa b=>if b=k then - A a b else A a b
def Bd (R C:Nat) (A:Mat):Prop:=∀ i j:Int,0<=i->i<R->0<=j->j<C->-1000000000000<=A i j/\A i j<=1000000000000
variable {R C F:Nat} {A:Mat} {i j k:Int}
theorem at_mk (hR:R<=1000) (hC:C<=1000) (hi0:0<=i) (hi:i<R) (hj0:0<=j) (hj:j<C):bm.p F C (mk R C A) i j=some (A i j):=by
 unfold bm.p
 simp (disch:=omega) only [iG,jz,Option.bind_some]
theorem aeO (hR:R<=1000) (hC:C<=1000) (hi0:0<=i) (hi:i<R) (hk0:0<=k) (hk:k<R):∀ (n f:Nat) (A:Mat) (j:Int),C - j=n->n<f->0<=j ->
  cS.pl7 F f i k C (mk R C A) j=some (mk R C λa b=>if j<=b then A (sw i k a) b else A a b):=by
 intro n
 induction n with
 | zero=>
  intro f A j hn hf hj
  obtain ⟨f,rfl⟩:∃ f',f=f'+1:=⟨f - 1,by omega⟩
  rw [cS.pl7,show decide (j<(C:Int))=false from decide_eq_false (by omega),cond_false]
  congr 1
  apply fk
  intro a b _ _ _ _
  rw [if_neg (by omega)]
 | succ n ih=>
  intro f A j hn hf hj
  obtain ⟨f,rfl⟩:∃ f',f=f'+1:=⟨f - 1,by omega⟩
  rw [cS.pl7,show decide (j<(C:Int))=true from decide_eq_true (by omega),cond_true]
  simp (disch:=omega) only [at_mk,iG,jz,mM,Option.bind_some,bv]
  rw [ih _ _ _ (by omega) (by omega) (by omega)]
  congr 1
  apply fk
  intro a b _ _ _ _
  unfold upd sw
  grind
theorem Lk (hR:R<=1000) (hC:C<=1000) (hF:C<F) (hi0:0<=i) (hi:i<R) (hk0:0<=k) (hk:k<R):cS.p F C (mk R C A) i k=some (mk R C (swR A i k)):=by
 unfold cS.p
 rw [aeO hR hC hi0 hi hk0 hk C F A 0 (by omega) hF (by omega)]
 apply congrArg some
 apply fk
 intro a b _ _ _ _
 exact if_pos (by omega)
theorem aeP (hR:R<=1000) (hC:C<=1000) (hi0:0<=i) (hi:i<R) (hk0:0<=k) (hk:k<R):∀ (n f:Nat) (A:Mat) (j:Int),C - j=n->n<f->0<=j ->
  dn.pl7 F f i k C (mk R C A) C j=some (mk R C λa b=>if j<=b then A (sw i k a) b else A a b):=by
 intro n
 induction n with
 | zero=>
  intro f A j hn hf hj
  obtain ⟨f,rfl⟩:∃ f',f=f'+1:=⟨f - 1,by omega⟩
  rw [dn.pl7,show decide (j<(C:Int))=false from decide_eq_false (by omega),cond_false]
  congr 1
  apply fk
  intro a b _ _ _ _
  rw [if_neg (by omega)]
 | succ n ih=>
  intro f A j hn hf hj
  obtain ⟨f,rfl⟩:∃ f',f=f'+1:=⟨f - 1,by omega⟩
  rw [dn.pl7,show decide (j<(C:Int))=true from decide_eq_true (by omega),cond_true]
  simp (disch:=omega) only [at_mk,iG,jz,mM,Option.bind_some,bv]
  rw [ih _ _ _ (by omega) (by omega) (by omega)]
  congr 1
  apply fk
  intro a b _ _ _ _
  unfold upd sw
  grind
theorem Ll (hR:R<=1000) (hC:C<=1000) (hF:C<F) (hi0:0<=i) (hi:i<R) (hk0:0<=k) (hk:k<R):dn.p F C (mk R C A) i k=some (mk R C (swR A i k)):=by
 unfold dn.p
 rw [aeP hR hC hi0 hi hk0 hk C F A 0 (by omega) hF (by omega)]
 apply congrArg some
 apply fk
 intro a b _ _ _ _
 exact if_pos (by omega)
theorem aeQ (hR:R<=1000) (hC:C<=1000) (hi0:0<=j) (hi:j<C) (hk0:0<=k) (hk:k<C):∀ (n f:Nat) (A:Mat) (i:Int),R - i=n->n<f->0<=i ->
  cT.pl7 F f j k R C (mk R C A) i=some (mk R C λa b=>if i<=a then A a (sw j k b) else A a b):=by
 intro n
 induction n with
 | zero=>
  intro f A j hn hf hj
  obtain ⟨f,rfl⟩:∃ f',f=f'+1:=⟨f - 1,by omega⟩
  rw [cT.pl7,show decide (j<(R:Int))=false from decide_eq_false (by omega),cond_false]
  congr 1
  apply fk
  intro a b _ _ _ _
  rw [if_neg (by omega)]
 | succ n ih=>
  intro f A j hn hf hj
  obtain ⟨f,rfl⟩:∃ f',f=f'+1:=⟨f - 1,by omega⟩
  rw [cT.pl7,show decide (j<(R:Int))=true from decide_eq_true (by omega),cond_true]
  simp (disch:=omega) only [at_mk,iG,jz,mM,Option.bind_some,bv]
  rw [ih _ _ _ (by omega) (by omega) (by omega)]
  congr 1
  apply fk
  intro a b _ _ _ _
  unfold upd sw
  grind
theorem Lm (hR:R<=1000) (hC:C<=1000) (hF:R<F) (hi0:0<=j) (hi:j<C) (hk0:0<=k) (hk:k<C):cT.p F R C (mk R C A) j k=some (mk R C (swC A j k)):=by
 unfold cT.p
 rw [aeQ hR hC hi0 hi hk0 hk R F A 0 (by omega) hF (by omega)]
 apply congrArg some
 apply fk
 intro a b _ _ _ _
 exact if_pos (by omega)
theorem aeR (hR:R<=1000) (hC:C<=1000) (hi0:0<=j) (hi:j<C) (hk0:0<=k) (hk:k<C):∀ (n f:Nat) (A:Mat) (i:Int),R - i=n->n<f->0<=i ->
  dp.pl7 F f j k C (mk R C A) R i=some (mk R C λa b=>if i<=a then A a (sw j k b) else A a b):=by
 intro n
 induction n with
 | zero=>
  intro f A j hn hf hj
  obtain ⟨f,rfl⟩:∃ f',f=f'+1:=⟨f - 1,by omega⟩
  rw [dp.pl7,show decide (j<(R:Int))=false from decide_eq_false (by omega),cond_false]
  congr 1
  apply fk
  intro a b _ _ _ _
  rw [if_neg (by omega)]
 | succ n ih=>
  intro f A j hn hf hj
  obtain ⟨f,rfl⟩:∃ f',f=f'+1:=⟨f - 1,by omega⟩
  rw [dp.pl7,show decide (j<(R:Int))=true from decide_eq_true (by omega),cond_true]
  simp (disch:=omega) only [at_mk,iG,jz,mM,Option.bind_some,bv]
  rw [ih _ _ _ (by omega) (by omega) (by omega)]
  congr 1
  apply fk
  intro a b _ _ _ _
  unfold upd sw
  grind
theorem Ln (hR:R<=1000) (hC:C<=1000) (hF:R<F) (hi0:0<=j) (hi:j<C) (hk0:0<=k) (hk:k<C):dp.p F R C (mk R C A) j k=some (mk R C (swC A j k)):=by
 unfold dp.p
 rw [aeR hR hC hi0 hi hk0 hk R F A 0 (by omega) hF (by omega)]
 apply congrArg some
 apply fk
 intro a b _ _ _ _
 exact if_pos (by omega)
theorem negr_l (hR:R<=1000) (hC:C<=1000) (hk0:0<=k) (hk:k<R):∀ (n:Nat) (A:Mat) (j:Int),Bd R C A->C - j=n->0<=j ->
  oK (mk R C A) (k * C+j).toNat n=mk R C λa b=>if a=k/\j<=b then - A a b else A a b:=by
 intro n
 induction n with
 | zero=>
  intro A j hb hn hj
  unfold oK
  apply fk
  intro a b _ _ _ _
  rw [if_neg (by omega)]
 | succ n ih=>
  intro A j hb hn hj
  unfold oK
  have h1:0<=k * C:=Int.mul_nonneg hk0 (Int.natCast_nonneg _)
  have hbb:=hb k j hk0 hk hj (by omega)
  simp (disch:=omega) only [iG,jz,mM]
  rw [bv (by omega) (by omega),show (k * C+j).toNat+1=(k * C+(j+1)).toNat by omega,ih _ (j+1) ?_ (by omega) (by omega)]
  ·apply fk
   intro a b _ _ _ _
   unfold upd
   grind
  ·intro a b h1 h2 h3 h4
   have:=hb a b h1 h2 h3 h4
   unfold upd
   split <;> omega
theorem negr_mk (hR:R<=1000) (hC:C<=1000) (hk0:0<=k) (hk:k<R) (hb:Bd R C A):oK (mk R C A) (k * C).toNat C=mk R C (ngR A k):=by
 have:=negr_l hR hC hk0 hk C A 0 hb (by omega) (by omega)
 rw [Int.add_zero] at this
 rw [this]
 apply fk
 intro a b _ _ _ _
 unfold ngR
 grind
end Go.Proofs.Ytokekkacliomkaa.AE
end
section
namespace Go.Proofs.Ytokekkacliomkaa.AE
open Go Go.AE Go.Proofs
variable {R C F:Nat} {A:Mat} {i j k:Int}
def ab (x:Int):Int:=if x<0 then -x else x
theorem ab_nn (x:Int):0<=ab x:=by unfold ab;split <;> omega
theorem ab_mul (x y:Int):ab (x * y)=ab x * ab y:=by
 have e (z:Int):ab z=(z.natAbs:Int):=by unfold ab;split <;> omega
 rw [e,e,e,Int.natAbs_mul,Int.natCast_mul]
theorem pV {x:Int} (h0:-4000000000000000000<=x) (h1:x<=4000000000000000000):fa.p F x=some (ab x):=by
 unfold fa.p ab
 rw [bv (by omega) (by omega)]
 congr 1
 split <;> split <;> omega
theorem ph {x:Int} (h0:-4000000000000000000<=x) (h1:x<=4000000000000000000):es.p F x=some (ab x):=by
 unfold es.p ab
 by_cases h:x<0
 ·rw [decide_eq_true h,cond_true,bv (by omega) (by omega),if_pos h,Int.zero_sub]
 ·rw [decide_eq_false h,cond_false,if_neg h]
theorem gt_div {u v m:Int} (hu:0<u) (hm:0<=m):v>Int.tdiv m u↔u * v>m:=by
 rw [Int.tdiv_eq_ediv_of_nonneg hm]
 rw [gt_iff_lt,Int.ediv_lt_iff_lt_mul hu,Int.mul_comm]
def okm (x y:Int):Prop:=ab (x * y)<=2000000000000
instance (x y:Int):Decidable (okm x y):=by unfold okm;infer_instance
theorem ab_bd {x m:Int} (h:ab x<=m):-m<=x/\x<=m:=by unfold ab at h;split at h <;> omega
theorem tdiv_bd {m u:Int} (hm:0<=m) (hu:0<=u):0<=Int.tdiv m u/\Int.tdiv m u<=m:=by
 rw [Int.tdiv_eq_ediv_of_nonneg hm]
 exact ⟨Int.ediv_nonneg hm hu,Int.ediv_le_self _ hm⟩
theorem aeS {x y:Int} (hx:ab x<=4000000000000) (hy:ab y<=4000000000000):gZ.p F x y 2000000000000=some (if okm x y then (x * y,true) else (0,false)):=by
 have bx:=ab_bd hx
 have by_:=ab_bd hy
 have n1:=ab_nn x
 unfold gZ.p
 by_cases h:x=0
 ·subst h
  have:okm 0 y:=by unfold okm ab;rw [Int.zero_mul];decide
  rw [if_pos this,show ((0:Int) != 0)=false from rfl,cond_false,Int.zero_mul,bv (by omega) (by omega)]
 ·rw [show (x != 0)=true from bne_iff_ne.2 h,cond_true,pV (by omega) (by omega),Option.bind_some,pV (by omega) (by omega),Option.bind_some]
  have hp:0<ab x:=by unfold ab;split <;> omega
  have bd:=tdiv_bd (m:=2000000000000) (u:=ab x) (by omega) (by omega)
  rw [if_neg (by omega),bv (by omega) (by omega)]
  have key:ab y>Int.tdiv 2000000000000 (ab x)↔¬ okm x y:=by
   rw [gt_div hp (by omega),okm,ab_mul];omega
  by_cases ho:okm x y
  ·rw [decide_eq_false (λh=>(key.1 h) ho),cond_false,if_pos ho]
   have:=ab_bd ho
   rw [bv (by omega) (by omega)]
  ·rw [decide_eq_true (key.2 ho),cond_true,if_neg ho]
theorem UR {x y:Int} (hx:ab x<=4000000000000) (hy:ab y<=4000000000000):fE.p F x y 2000000000000=some (if okm x y then (x * y,true) else (0,false)):=by
 have bx:=ab_bd hx
 have by_:=ab_bd hy
 have n1:=ab_nn x
 unfold fE.p
 by_cases h:x=0
 ·subst h
  have:okm 0 y:=by unfold okm ab;rw [Int.zero_mul];decide
  rw [if_pos this,show ((0:Int) != 0)=false from rfl,cond_false,Int.zero_mul,bv (by omega) (by omega)]
 ·rw [show (x != 0)=true from bne_iff_ne.2 h,cond_true,ph (by omega) (by omega),Option.bind_some,ph (by omega) (by omega),Option.bind_some]
  have hp:0<ab x:=by unfold ab;split <;> omega
  have bd:=tdiv_bd (m:=2000000000000) (u:=ab x) (by omega) (by omega)
  rw [if_neg (by omega),bv (by omega) (by omega)]
  have key:ab y>Int.tdiv 2000000000000 (ab x)↔¬ okm x y:=by
   rw [gt_div hp (by omega),okm,ab_mul];omega
  by_cases ho:okm x y
  ·rw [decide_eq_false (λh=>(key.1 h) ho),cond_false,if_pos ho]
   have:=ab_bd ho
   rw [bv (by omega) (by omega)]
  ·rw [decide_eq_true (key.2 ho),cond_true,if_neg ho]
theorem floor_core {a b:Int} (hb:0<b):(Int.tmod a b<0->a / b=Int.tdiv a b - 1)/\(¬ Int.tmod a b<0->a / b=Int.tdiv a b):=by
 have e:=Int.mul_tdiv_add_tmod a b
 have hlt:Int.tmod a b<b:=Int.tmod_lt_of_pos a hb
 have hgt:-b<Int.tmod a b:=by
  have:=Int.neg_one_mul b
  have h:=Int.lt_tmod_of_pos a hb
  omega
 constructor
 ·intro h
  have:a=(Int.tmod a b+b)+b * (Int.tdiv a b - 1):=by rw [Int.mul_sub,Int.mul_one];omega
  conv=>lhs;rw [this]
  rw [Int.add_mul_ediv_left _ _ (by omega),Int.ediv_eq_zero_of_lt (by omega) (by omega),Int.zero_add]
 ·intro h
  have:a=(Int.tmod a b)+b * (Int.tdiv a b):=by omega
  conv=>lhs;rw [this]
  rw [Int.add_mul_ediv_left _ _ (by omega),Int.ediv_eq_zero_of_lt (by omega) (by omega),Int.zero_add]
theorem quo_bd {a b:Int} (hb:0<b) (ha:ab a<=1000000000000):ab (a / b)<=1000000000000/\ab (Int.tdiv a b)<=1000000000000:=by
 have h:=ab_bd ha
 have h1:a / b<=1000000000000:=by
  by_cases h0:0<=a
  ·have:=Int.ediv_le_self b h0;omega
  ·have:=Int.ediv_neg_of_neg_of_pos (by omega:a<0) hb;omega
 have h2:-1000000000000<=a / b:=by
  rw [Int.le_ediv_iff_mul_le hb]
  have:1000000000000 * 1<=1000000000000 * b:=Int.mul_le_mul_of_nonneg_left (by omega) (by omega)
  rw [Int.neg_mul];omega
 have h3:a / b<=Int.tdiv a b/\Int.tdiv a b<=a / b+1:=by
  by_cases hh:Int.tmod a b<0
  ·have:=(floor_core (a:=a) hb).1 hh;omega
  ·have:=(floor_core (a:=a) hb).2 hh;omega
 have h4:Int.tdiv a b<=1000000000000:=by
  by_cases h0:0<=a
  ·rw [Int.tdiv_eq_ediv_of_nonneg h0];exact h1
  ·have:=Int.ediv_neg_of_neg_of_pos (by omega:a<0) hb;omega
 unfold ab
 constructor <;> split <;> omega
theorem US {a b:Int} (hb:0<b) (ha:ab a<=1000000000000):hU.p F a b=some (a / b):=by
 unfold hU.p
 obtain ⟨h1,h2⟩:=quo_bd hb ha
 have h1:=ab_bd h1
 have h2:=ab_bd h2
 rw [if_neg (by omega),if_neg (by omega),bv (x:=Int.tdiv a b) (by omega) (by omega)]
 by_cases h:Int.tmod a b<0
 ·have e:=(floor_core (a:=a) hb).1 h
  rw [decide_eq_true h,cond_true,bv (x:=Int.tdiv a b - 1) (by omega) (by omega),e]
 ·rw [decide_eq_false h,cond_false,(floor_core (a:=a) hb).2 h]
theorem UT {a b:Int} (hb:0<b) (ha:ab a<=1000000000000):hG.p F a b=some (a / b):=by
 unfold hG.p
 obtain ⟨h1,h2⟩:=quo_bd hb ha
 have h1:=ab_bd h1
 have h2:=ab_bd h2
 rw [if_neg (by omega),if_neg (by omega),bv (x:=Int.tdiv a b) (by omega) (by omega)]
 by_cases h:Int.tmod a b<0
 ·have e:=(floor_core (a:=a) hb).1 h
  rw [decide_eq_true h,cond_true,bv (x:=Int.tdiv a b - 1) (by omega) (by omega),e]
 ·rw [decide_eq_false h,cond_false,(floor_core (a:=a) hb).2 h]
def fit (x y b:Int):Prop:=okm y b/\ab (x+y * b)<=1000000000000
instance (x y b:Int):Decidable (fit x y b):=by unfold fit;infer_instance
def ad (x y b:Int):Int:=if fit x y b then x+y * b else 0
theorem ad_bd (x y b:Int):ab (ad x y b)<=1000000000000:=by
 unfold ad
 split
 ·rename_i h;exact h.2
 ·decide
theorem ad_fit {x y b:Int} (h:fit x y b):ad x y b=x+y * b:=if_pos h
def adRf (A:Mat) (t f b j0:Int):Mat:=λi j=>if i=t/\j0<=j then ad (A t j) (A f j) b else A i j
def adCf (A:Mat) (t f b i0:Int):Mat:=λi j=>if j=t/\i0<=i then ad (A i t) (A i f) b else A i j
def adR (A:Mat) (t f b:Int):Mat:=λi j=>if i=t then ad (A t j) (A f j) b else A i j
def adC (A:Mat) (t f b:Int):Mat:=λi j=>if j=t then ad (A i t) (A i f) b else A i j
theorem Bd.ab {i j:Int} (h:Bd R C A) (hi0:0<=i) (hi:i<R) (hj0:0<=j) (hj:j<C):ab (A i j)<=1000000000000:=by
 have:=h i j hi0 hi hj0 hj
 unfold AE.ab;split <;> omega
theorem Bd.upd {i j x:Int} (h:Bd R C A) (hx:AE.ab x<=1000000000000):Bd R C (upd A i j x):=by
 intro a b h1 h2 h3 h4
 have:=h a b h1 h2 h3 h4
 have:=ab_bd hx
 unfold Go.AE.upd
 split <;> omega
theorem aeT {t f q:Int} (hR:R<=1000) (hC:C<=1000) (ht0:0<=t) (ht:t<R) (hf0:0<=f) (hf:f<R) (htf:t≠f) (hq:ab q<=4000000000000):∀ (n g:Nat) (A:Mat) (bad:Bool) (j:Int),Bd R C A->C - j=n->n<g->0<=j ->
  ∃ bad',dk.pl7 F g bad t f q C (mk R C A) C j=some (bad',mk R C (adRf A t f q j))/\(bad'=true↔bad=true\/∃ b,j<=b/\b<C/\¬ fit (A t b) (A f b) q):=by
 intro n
 induction n with
 | zero=>
  intro g A bad j hb hn hg hj
  obtain ⟨g,rfl⟩:∃ g',g=g'+1:=⟨g - 1,by omega⟩
  rw [dk.pl7,show decide (j<(C:Int))=false from decide_eq_false (by omega),cond_false]
  refine ⟨bad,?_,⟨λh=>.inl h,λh=>?_⟩⟩
  ·congr 2
   apply fk
   intro a b _ _ _ _
   exact (if_neg (by omega)).symm
  ·rcases h with h | ⟨b,h1,h2,_⟩
   ·exact h
   ·omega
 | succ n ih=>
  intro g A bad j hb hn hg hj
  obtain ⟨g,rfl⟩:∃ g',g=g'+1:=⟨g - 1,by omega⟩
  rw [dk.pl7,show decide (j<(C:Int))=true from decide_eq_true (by omega),cond_true]
  have b1:=hb.ab hf0 hf hj (by omega)
  have b2:=hb.ab ht0 ht hj (by omega)
  have b3:=ab_bd b2
  simp (disch:=omega) only [iG,jz,mM,Option.bind_some,bv]
  rw [UR (by omega) hq,Option.bind_some]
  have step:∀ bad1:Bool,(bad1=true↔bad=true\/¬ fit (A t j) (A f j) q)->∃ bad',dk.pl7 F g bad1 t f q C (mk R C (upd A t j (ad (A t j) (A f j) q))) C (j+1)=some (bad',mk R C (adRf A t f q j))/\(bad'=true↔bad=true\/∃ b,j<=b/\b<C/\¬ fit (A t b) (A f b) q):=by
   intro bad1 hbad
   obtain ⟨bad',e,he⟩:=ih g (upd A t j (ad (A t j) (A f j) q)) bad1 (j+1) (hb.upd (ad_bd _ _ _)) (by omega) (by omega) (by omega)
   refine ⟨bad',?_,?_⟩
   ·rw [e]
    congr 2
    apply fk
    intro a b _ _ _ _
    unfold adRf upd
    grind
   ·rw [he,hbad]
    constructor
    ·rintro ((h | h) | ⟨b,h1,h2,h3⟩)
     ·exact .inl h
     ·exact .inr ⟨j,by omega,by omega,h⟩
     ·rw [kL _ _ (by omega),kL _ _ (by omega)] at h3
      exact .inr ⟨b,by omega,h2,h3⟩
    ·rintro (h | ⟨b,h1,h2,h3⟩)
     ·exact .inl (.inl h)
     ·by_cases e:b=j
      ·subst e;exact .inl (.inr h3)
      ·exact .inr ⟨b,by omega,h2,by rw [kL _ _ (by omega),kL _ _ (by omega)];exact h3⟩
  by_cases ho:okm (A f j) q
  ·have h4:=ab_bd ho
   simp only [if_pos ho,Bool.not_true,cond_false]
   simp (disch:=omega) only [jz,DR,bv,Option.bind_some]
   rw [ph (by omega) (by omega),Option.bind_some]
   by_cases hs:ab (A t j+A f j * q)<=1000000000000
   ·rw [decide_eq_false (by omega),cond_false]
    have hfit:fit (A t j) (A f j) q:=⟨ho,hs⟩
    rw [<- ad_fit hfit]
    exact step bad ⟨λh=>.inl h,λh=>h.elim id λh=>absurd hfit h⟩
   ·rw [decide_eq_true (by omega),cond_true]
    have hfit:¬ fit (A t j) (A f j) q:=λh=>hs h.2
    have e0:upd (upd A t j (A t j+A f j * q)) t j 0=upd A t j (ad (A t j) (A f j) q):=by
     funext a b;unfold upd ad;rw [if_neg hfit];split <;> rfl
    rw [e0]
    exact step true ⟨λ_=>.inr hfit,λ_=>rfl⟩
  ·simp only [if_neg ho,Bool.not_false,cond_true,Option.bind_some]
   have hfit:¬ fit (A t j) (A f j) q:=λh=>ho h.1
   have e0:∀ z,upd (upd A t j z) t j 0=upd A t j (ad (A t j) (A f j) q):=by
    intro z;funext a b;unfold upd ad;rw [if_neg hfit];split <;> rfl
   rw [e0]
   exact step true ⟨λ_=>.inr hfit,λ_=>rfl⟩
theorem aeU {t f q:Int} (hR:R<=1000) (hC:C<=1000) (ht0:0<=t) (ht:t<C) (hf0:0<=f) (hf:f<C) (htf:t≠f) (hq:ab q<=4000000000000):∀ (n g:Nat) (A:Mat) (bad:Bool) (j:Int),Bd R C A->R - j=n->n<g->0<=j ->
  ∃ bad',dl.pl7 F g bad t f q C (mk R C A) R j=some (bad',mk R C (adCf A t f q j))/\(bad'=true↔bad=true\/∃ b,j<=b/\b<R/\¬ fit (A b t) (A b f) q):=by
 intro n
 induction n with
 | zero=>
  intro g A bad j hb hn hg hj
  obtain ⟨g,rfl⟩:∃ g',g=g'+1:=⟨g - 1,by omega⟩
  rw [dl.pl7,show decide (j<(R:Int))=false from decide_eq_false (by omega),cond_false]
  refine ⟨bad,?_,⟨λh=>.inl h,λh=>?_⟩⟩
  ·congr 2
   apply fk
   intro a b _ _ _ _
   exact (if_neg (by omega)).symm
  ·rcases h with h | ⟨b,h1,h2,_⟩
   ·exact h
   ·omega
 | succ n ih=>
  intro g A bad j hb hn hg hj
  obtain ⟨g,rfl⟩:∃ g',g=g'+1:=⟨g - 1,by omega⟩
  rw [dl.pl7,show decide (j<(R:Int))=true from decide_eq_true (by omega),cond_true]
  have b1:=hb.ab hj (by omega) hf0 hf
  have b2:=hb.ab hj (by omega) ht0 ht
  have b3:=ab_bd b2
  simp (disch:=omega) only [iG,jz,mM,Option.bind_some,bv]
  rw [UR (by omega) hq,Option.bind_some]
  have step:∀ bad1:Bool,(bad1=true↔bad=true\/¬ fit (A j t) (A j f) q)->∃ bad',dl.pl7 F g bad1 t f q C (mk R C (upd A j t (ad (A j t) (A j f) q))) R (j+1)=some (bad',mk R C (adCf A t f q j))/\(bad'=true↔bad=true\/∃ b,j<=b/\b<R/\¬ fit (A b t) (A b f) q):=by
   intro bad1 hbad
   obtain ⟨bad',e,he⟩:=ih g (upd A j t (ad (A j t) (A j f) q)) bad1 (j+1) (hb.upd (ad_bd _ _ _)) (by omega) (by omega) (by omega)
   refine ⟨bad',?_,?_⟩
   ·rw [e]
    congr 2
    apply fk
    intro a b _ _ _ _
    unfold adCf upd
    grind
   ·rw [he,hbad]
    constructor
    ·rintro ((h | h) | ⟨b,h1,h2,h3⟩)
     ·exact .inl h
     ·exact .inr ⟨j,by omega,by omega,h⟩
     ·rw [kL _ _ (by omega),kL _ _ (by omega)] at h3
      exact .inr ⟨b,by omega,h2,h3⟩
    ·rintro (h | ⟨b,h1,h2,h3⟩)
     ·exact .inl (.inl h)
     ·by_cases e:b=j
      ·subst e;exact .inl (.inr h3)
      ·exact .inr ⟨b,by omega,h2,by rw [kL _ _ (by omega),kL _ _ (by omega)];exact h3⟩
  by_cases ho:okm (A j f) q
  ·have h4:=ab_bd ho
   simp only [if_pos ho,Bool.not_true,cond_false]
   simp (disch:=omega) only [jz,DR,bv,Option.bind_some]
   rw [ph (by omega) (by omega),Option.bind_some]
   by_cases hs:ab (A j t+A j f * q)<=1000000000000
   ·rw [decide_eq_false (by omega),cond_false]
    have hfit:fit (A j t) (A j f) q:=⟨ho,hs⟩
    rw [<- ad_fit hfit]
    exact step bad ⟨λh=>.inl h,λh=>h.elim id λh=>absurd hfit h⟩
   ·rw [decide_eq_true (by omega),cond_true]
    have hfit:¬ fit (A j t) (A j f) q:=λh=>hs h.2
    have e0:upd (upd A j t (A j t+A j f * q)) j t 0=upd A j t (ad (A j t) (A j f) q):=by
     funext a b;unfold upd ad;rw [if_neg hfit];split <;> rfl
    rw [e0]
    exact step true ⟨λ_=>.inr hfit,λ_=>rfl⟩
  ·simp only [if_neg ho,Bool.not_false,cond_true,Option.bind_some]
   have hfit:¬ fit (A j t) (A j f) q:=λh=>ho h.1
   have e0:∀ z,upd (upd A j t z) j t 0=upd A j t (ad (A j t) (A j f) q):=by
    intro z;funext a b;unfold upd ad;rw [if_neg hfit];split <;> rfl
   rw [e0]
   exact step true ⟨λ_=>.inr hfit,λ_=>rfl⟩
def nfR (C:Nat) (A:Mat) (t f q:Int):Prop:=∃ b:Int,0<=b/\b<C/\¬ fit (A t b) (A f b) q
def nfC (R:Nat) (A:Mat) (t f q:Int):Prop:=∃ b:Int,0<=b/\b<R/\¬ fit (A b t) (A b f) q
theorem Lo {t f q:Int} {bad:Bool} (hR:R<=1000) (hC:C<=1000) (hF:C<F) (hb:Bd R C A) (ht0:0<=t) (ht:t<R) (hf0:0<=f) (hf:f<R) (htf:t≠f) (hq:ab q<=4000000000000) :
  ∃ bad',dk.p F bad C (mk R C A) t f q=some (bad',mk R C (adR A t f q))/\(bad'=true↔bad=true\/nfR C A t f q):=by
 obtain ⟨bad',e,h⟩:=aeT hR hC ht0 ht hf0 hf htf hq C F A bad 0 hb (by omega) hF (by omega)
 refine ⟨bad',?_,h⟩
 unfold dk.p
 rw [e]
 congr 2
 apply fk
 intro a b _ _ _ _
 unfold adRf adR
 grind
theorem Lp {t f q:Int} {bad:Bool} (hR:R<=1000) (hC:C<=1000) (hF:R<F) (hb:Bd R C A) (ht0:0<=t) (ht:t<C) (hf0:0<=f) (hf:f<C) (htf:t≠f) (hq:ab q<=4000000000000) :
  ∃ bad',dl.p F bad R C (mk R C A) t f q=some (bad',mk R C (adC A t f q))/\(bad'=true↔bad=true\/nfC R A t f q):=by
 obtain ⟨bad',e,h⟩:=aeU hR hC ht0 ht hf0 hf htf hq R F A bad 0 hb (by omega) hF (by omega)
 refine ⟨bad',?_,h⟩
 unfold dl.p
 rw [e]
 congr 2
 apply fk
 intro a b _ _ _ _
 unfold adCf adC
 grind
theorem Bd.adR {t f q:Int} (h:Bd R C A):Bd R C (adR A t f q):=by
 intro a b h1 h2 h3 h4
 have:=h a b h1 h2 h3 h4
 have:=ab_bd (ad_bd (A t b) (A f b) q)
 unfold AE.adR
 split <;> omega
theorem Bd.adC {t f q:Int} (h:Bd R C A):Bd R C (adC A t f q):=by
 intro a b h1 h2 h3 h4
 have:=h a b h1 h2 h3 h4
 have:=ab_bd (ad_bd (A a t) (A a f) q)
 unfold AE.adC
 split <;> omega
end Go.Proofs.Ytokekkacliomkaa.AE
end
section
namespace Go.Proofs.Ytokekkacliomkaa.AE
open Go Go.AE Go.Proofs
variable {R C F:Nat} {A:Mat} {i j k:Int}
theorem UU {x y q:Int} (hx:ab x<=1000000000000) (hy:ab y<=1000000000000) (hq:ab q<=4000000000000):∃ z,ga.p F x q y=some z/\ab z<=4000000000000/\(ab z<=1000000000000↔fit x y (-q))/\(fit x y (-q)->z=ad x y (-q)):=by
 unfold ga.p
 rw [aeS hq (by omega),Option.bind_some]
 have e1:y * -q=- (q * y):=by rw [Int.mul_neg,Int.mul_comm]
 have ho:okm y (-q)↔okm q y:=by
  unfold okm;rw [e1];unfold ab;split <;> split <;> omega
 have bx:=ab_bd hx
 by_cases h:okm q y
 ·have hb:=ab_bd h
  rw [if_pos h,Bool.not_true,cond_false]
  simp only []
  rw [bv (by omega) (by omega)]
  have e2:x+y * -q=x - q * y:=by omega
  refine ⟨_,rfl,?_,?_,?_⟩
  ·unfold ab;split <;> omega
  ·unfold fit;rw [e2]
   exact ⟨λh1=>⟨ho.2 h,h1⟩,λh1=>h1.2⟩
  ·intro hf
   rw [ad_fit hf,e2]
 ·rw [if_neg h,Bool.not_false,cond_true]
  refine ⟨_,rfl,by decide,⟨λh=>absurd h (by decide),λhf=>absurd (ho.1 hf.1) h⟩,λhf=>absurd (ho.1 hf.1) h⟩
theorem UV {z:Int} {bad:Bool} (hR:R<=1000) (hC:C<=1000) (hi0:0<=i) (hi:i<R) (hj0:0<=j) (hj:j<C) (hz:ab z<=4000000000000) :
  fS.p F bad C (mk R C A) i j z=some (if ab z<=1000000000000 then (bad,mk R C (upd A i j z)) else (true,mk R C A)):=by
 have hb:=ab_bd hz
 unfold fS.p
 rw [pV (by omega) (by omega),Option.bind_some]
 by_cases h:ab z<=1000000000000
 ·rw [decide_eq_false (by omega),cond_false,if_pos h]
  simp (disch:=omega) only [iG,mM,Option.bind_some]
 ·rw [decide_eq_true (by omega),cond_true,if_neg h]
theorem aeV {t f q:Int} (hR:R<=1000) (hC:C<=1000) (ht0:0<=t) (ht:t<R) (hf0:0<=f) (hf:f<R) (htf:t≠f) (hq:ab q<=4000000000000):∀ (n g:Nat) (A:Mat) (j:Int),Bd R C A->C - j=n->n<g->0<=j ->
  ∃ bad' l',dd.pl7 F g false t f q C (mk R C A) j=some (bad',l')/\(bad'=true↔∃ b,j<=b/\b<C/\¬ fit (A t b) (A f b) (-q))/\(bad'=false->l'=mk R C (adRf A t f (-q) j)):=by
 intro n
 induction n with
 | zero=>
  intro g A j hb hn hg hj
  obtain ⟨g,rfl⟩:∃ g',g=g'+1:=⟨g - 1,by omega⟩
  rw [dd.pl7,show decide (j<(C:Int))=false from decide_eq_false (by omega),cond_false]
  refine ⟨_,_,rfl,⟨λh=>(by cases h),λ⟨b,h1,h2,_⟩=>by omega⟩,λ_=>?_⟩
  apply fk
  intro a b _ _ _ _
  exact (if_neg (by omega)).symm
 | succ n ih=>
  intro g A j hb hn hg hj
  obtain ⟨g,rfl⟩:∃ g',g=g'+1:=⟨g - 1,by omega⟩
  rw [dd.pl7,show decide (j<(C:Int))=true from decide_eq_true (by omega),cond_true,Bool.not_false,cond_true]
  have b1:=hb.ab hf0 hf hj (by omega)
  have b2:=hb.ab ht0 ht hj (by omega)
  simp (disch:=omega) only [at_mk,Option.bind_some]
  obtain ⟨z,ez,hz1,hz2,hz3⟩:=UU (F:=F) b2 b1 hq
  rw [ez,Option.bind_some,UV hR hC ht0 ht hj (by omega) hz1,Option.bind_some,bv (by omega) (by omega)]
  by_cases hfit:fit (A t j) (A f j) (-q)
  ·rw [if_pos (hz2.2 hfit),hz3 hfit]
   obtain ⟨bad',l',e,he,hl⟩:=ih g (upd A t j (ad (A t j) (A f j) (-q))) (j+1) (hb.upd (ad_bd _ _ _)) (by omega) (by omega) (by omega)
   refine ⟨bad',l',e,?_,?_⟩
   ·rw [he]
    constructor
    ·rintro ⟨b,h1,h2,h3⟩
     rw [kL _ _ (by omega),kL _ _ (by omega)] at h3
     exact ⟨b,by omega,h2,h3⟩
    ·rintro ⟨b,h1,h2,h3⟩
     by_cases e:b=j
     ·subst e;exact absurd hfit h3
     ·exact ⟨b,by omega,h2,by rw [kL _ _ (by omega),kL _ _ (by omega)];exact h3⟩
   ·intro hbad
    rw [hl hbad]
    apply fk
    intro a b _ _ _ _
    unfold adRf upd
    grind
  ·rw [if_neg (λh=>hfit (hz2.1 h))]
   obtain ⟨g,rfl⟩:∃ g',g=g'+1:=⟨g - 1,by omega⟩
   refine ⟨true,mk R C A,?_,⟨λ_=>⟨j,by omega,by omega,hfit⟩,λ_=>rfl⟩,λh=>by cases h⟩
   rw [dd.pl7]
   cases decide (j+1<(C:Int)) <;> rfl
theorem aeW {t f q:Int} (hR:R<=1000) (hC:C<=1000) (ht0:0<=t) (ht:t<C) (hf0:0<=f) (hf:f<C) (htf:t≠f) (hq:ab q<=4000000000000):∀ (n g:Nat) (A:Mat) (j:Int),Bd R C A->R - j=n->n<g->0<=j ->
  ∃ bad' l',de.pl7 F g false t f q R C (mk R C A) j=some (bad',l')/\(bad'=true↔∃ b,j<=b/\b<R/\¬ fit (A b t) (A b f) (-q))/\(bad'=false->l'=mk R C (adCf A t f (-q) j)):=by
 intro n
 induction n with
 | zero=>
  intro g A j hb hn hg hj
  obtain ⟨g,rfl⟩:∃ g',g=g'+1:=⟨g - 1,by omega⟩
  rw [de.pl7,show decide (j<(R:Int))=false from decide_eq_false (by omega),cond_false]
  refine ⟨_,_,rfl,⟨λh=>(by cases h),λ⟨b,h1,h2,_⟩=>by omega⟩,λ_=>?_⟩
  apply fk
  intro a b _ _ _ _
  exact (if_neg (by omega)).symm
 | succ n ih=>
  intro g A j hb hn hg hj
  obtain ⟨g,rfl⟩:∃ g',g=g'+1:=⟨g - 1,by omega⟩
  rw [de.pl7,show decide (j<(R:Int))=true from decide_eq_true (by omega),cond_true,Bool.not_false,cond_true]
  have b1:=hb.ab hj (by omega) hf0 hf
  have b2:=hb.ab hj (by omega) ht0 ht
  simp (disch:=omega) only [at_mk,Option.bind_some]
  obtain ⟨z,ez,hz1,hz2,hz3⟩:=UU (F:=F) b2 b1 hq
  rw [ez,Option.bind_some,UV hR hC hj (by omega) ht0 ht hz1,Option.bind_some,bv (by omega) (by omega)]
  by_cases hfit:fit (A j t) (A j f) (-q)
  ·rw [if_pos (hz2.2 hfit),hz3 hfit]
   obtain ⟨bad',l',e,he,hl⟩:=ih g (upd A j t (ad (A j t) (A j f) (-q))) (j+1) (hb.upd (ad_bd _ _ _)) (by omega) (by omega) (by omega)
   refine ⟨bad',l',e,?_,?_⟩
   ·rw [he]
    constructor
    ·rintro ⟨b,h1,h2,h3⟩
     rw [kL _ _ (by omega),kL _ _ (by omega)] at h3
     exact ⟨b,by omega,h2,h3⟩
    ·rintro ⟨b,h1,h2,h3⟩
     by_cases e:b=j
     ·subst e;exact absurd hfit h3
     ·exact ⟨b,by omega,h2,by rw [kL _ _ (by omega),kL _ _ (by omega)];exact h3⟩
   ·intro hbad
    rw [hl hbad]
    apply fk
    intro a b _ _ _ _
    unfold adCf upd
    grind
  ·rw [if_neg (λh=>hfit (hz2.1 h))]
   obtain ⟨g,rfl⟩:∃ g',g=g'+1:=⟨g - 1,by omega⟩
   refine ⟨true,mk R C A,?_,⟨λ_=>⟨j,by omega,by omega,hfit⟩,λ_=>rfl⟩,λh=>by cases h⟩
   rw [de.pl7]
   cases decide (j+1<(R:Int)) <;> rfl
theorem Lq {t f q:Int} (hR:R<=1000) (hC:C<=1000) (hF:C<F) (hb:Bd R C A) (ht0:0<=t) (ht:t<R) (hf0:0<=f) (hf:f<R) (htf:t≠f) (hq:ab q<=4000000000000) :
  ∃ bad' l',dd.p F false C (mk R C A) t f q=some (bad',l')/\(bad'=true↔nfR C A t f (-q))/\(bad'=false->l'=mk R C (adR A t f (-q))):=by
 obtain ⟨bad',l',e,h,hl⟩:=aeV hR hC ht0 ht hf0 hf htf hq C F A 0 hb (by omega) hF (by omega)
 refine ⟨bad',l',e,h,λhh=>?_⟩
 rw [hl hh]
 apply fk
 intro a b _ _ _ _
 unfold adRf adR
 grind
theorem Lr {t f q:Int} (hR:R<=1000) (hC:C<=1000) (hF:R<F) (hb:Bd R C A) (ht0:0<=t) (ht:t<C) (hf0:0<=f) (hf:f<C) (htf:t≠f) (hq:ab q<=4000000000000) :
  ∃ bad' l',de.p F false R C (mk R C A) t f q=some (bad',l')/\(bad'=true↔nfC R A t f (-q))/\(bad'=false->l'=mk R C (adC A t f (-q))):=by
 obtain ⟨bad',l',e,h,hl⟩:=aeW hR hC ht0 ht hf0 hf htf hq R F A 0 hb (by omega) hF (by omega)
 refine ⟨bad',l',e,h,λhh=>?_⟩
 rw [hl hh]
 apply fk
 intro a b _ _ _ _
 unfold adCf adC
 grind
theorem Lt {t f q:Int} {c:Int} {l:List Int} (hF:0<F):dd.p F true c l t f q=some (true,l):=by
 obtain ⟨g,rfl⟩:∃ g',F=g'+1:=⟨F - 1,by omega⟩
 unfold dd.p
 rw [dd.pl7]
 cases decide (0<c) <;> rfl
theorem Lu {t f q:Int} {r c:Int} {l:List Int} (hF:0<F):de.p F true r c l t f q=some (true,l):=by
 obtain ⟨g,rfl⟩:∃ g',F=g'+1:=⟨F - 1,by omega⟩
 unfold de.p
 rw [de.pl7]
 cases decide (0<r) <;> rfl
end Go.Proofs.Ytokekkacliomkaa.AE
end
section
namespace Go.Proofs.Ytokekkacliomkaa.AE
open Go Go.AE Go.Proofs
variable {R C F:Nat} {A:Mat} {i j k:Int}
def Sc (k:Int) (C:Nat) (i j a b:Int):Prop:=k<=a/\k<=b/\b<C/\(a<i\/a=i/\b<j)
def SI (k:Int) (C:Nat) (A:Mat) (i j:Int):Option (Int×Int)->Prop
 | none=>∀ a b,Sc k C i j a b->A a b=0
 | some (p,q)=>Sc k C i j p q/\A p q≠0/\∀ a b,Sc k C i j a b->A a b≠0->ab (A p q)<=ab (A a b)/\((a<p\/a=p/\b<q)->ab (A p q)<ab (A a b))
def sP:Option (Int×Int)->Int | none=>-1 | some (p,_)=>p
def sQ:Option (Int×Int)->Int | none=>-1 | some (_,q)=>q
def iP:Option (Int×Int)->Int | none=>0 | some (p,_)=>p
def iQ:Option (Int×Int)->Int | none=>0 | some (_,q)=>q
theorem ab_pos {x:Int}:ab x>0↔x≠0:=by unfold ab;split <;> omega
theorem sel_in {k:Int} (hR:R<=1000) (hC:C<=1000) (hb:Bd R C A) (hk:0<=k) (hi:i<R) (hki:k<=i) {l1 l2 l3 l4:List Int} {c1 c2 c3 c4 c5 c6:Int} {pC} {pD}:∀ (n g h:Nat) (s:Option (Int×Int)) (j:Int),C - j=n->n<g->n<h->k<=j->SI k C A i j s ->
  ∃ s',SI k C A i C s'/\az.pl469 F pC g R C (mk R C A) c1 l1 c2 c3 l2 c4 c5 l3 c6 l4 k (sP s) (sQ s) i j=az.pj9 F pC R C (mk R C A) c1 l1 c2 c3 l2 c4 c5 l3 c6 l4 k (sP s') (sQ s') i /\
   bc.pl469 F pD h k (iP s) (iQ s) s.isSome R C (mk R C A) i j=bc.pj8 F pD k (iP s') (iQ s') s'.isSome R C (mk R C A) i:=by
 intro n
 induction n with
 | zero=>
  intro g h s j hn hg hh hj hs
  obtain ⟨g,rfl⟩:∃ g',g=g'+1:=⟨g - 1,by omega⟩
  obtain ⟨h,rfl⟩:∃ g',h=g'+1:=⟨h - 1,by omega⟩
  rw [az.pl469,bc.pl469,show decide (j<(C:Int))=false from decide_eq_false (by omega),cond_false,cond_false]
  refine ⟨s,?_,rfl,rfl⟩
  rw [show j=(C:Int) by omega] at hs
  exact hs
 | succ n ih=>
  intro g h s j hn hg hh hj hs
  obtain ⟨g,rfl⟩:∃ g',g=g'+1:=⟨g - 1,by omega⟩
  obtain ⟨h,rfl⟩:∃ g',h=g'+1:=⟨h - 1,by omega⟩
  rw [az.pl469,bc.pl469,show decide (j<(C:Int))=true from decide_eq_true (by omega),cond_true,cond_true]
  have b1:=ab_bd (hb.ab (by omega:0<=i) hi (by omega:0<=j) (by omega))
  simp (disch:=omega) only [at_mk,iG,jz,Option.bind_some,pV,ph,bv,az.pj10,bc.pj9]
  have scj:∀ a b,Sc k C i (j+1) a b↔Sc k C i j a b\/(a=i/\b=j):=by
   intro a b;unfold Sc;omega
  by_cases hx:A i j=0
  ·rw [hx,show decide (ab 0>0)=false from rfl,show (ab 0 != 0)=false from rfl,cond_false,cond_false]
   refine ih g h s (j+1) (by omega) (by omega) (by omega) (by omega) ?_
   match s,hs with
   | none,hs=>
    intro a b h1
    rcases (scj a b).1 h1 with h1 | ⟨rfl,rfl⟩
    ·exact hs a b h1
    ·exact hx
   | some (p,q),⟨h1,h2,h3⟩=>
    refine ⟨(scj p q).2 (.inl h1),h2,λa b h4 h5=>?_⟩
    rcases (scj a b).1 h4 with h4 | ⟨rfl,rfl⟩
    ·exact h3 a b h4 h5
    ·exact absurd hx h5
  ·have hpos:=ab_pos.2 hx
   rw [decide_eq_true hpos,show (ab (A i j) != 0)=true from bne_iff_ne.2 (by omega),cond_true,cond_true]
   match s,hs with
   | none,hs=>
    rw [show decide (sP none<0)=true from rfl,cond_true]
    simp only [Option.isSome_none,Bool.not_false,cond_true]
    refine ih g h (some (i,j)) (j+1) (by omega) (by omega) (by omega) (by omega) ⟨(scj i j).2 (.inr ⟨rfl,rfl⟩),hx,λa b h4 h5=>?_⟩
    rcases (scj a b).1 h4 with h4 | ⟨rfl,rfl⟩
    ·exact absurd (hs a b h4) h5
    ·exact ⟨Int.le_refl _,λh=>by omega⟩
   | some (p,q),⟨h1,h2,h3⟩=>
    have h1':=h1
    obtain ⟨e1,e2,e3,e4⟩:=h1'
    have b2:=ab_bd (hb.ab (i:=p) (j:=q) (by omega) (by omega) (by omega) (by omega))
    simp only [sP,sQ,iP,iQ,Option.isSome_some,Bool.not_true,cond_false]
    simp only [eq_false (show ¬ p<0 by omega),decide_false,cond_false]
    simp (disch:=omega) only [at_mk,iG,jz,Option.bind_some,pV,ph]
    by_cases hlt:ab (A i j)<ab (A p q)
    ·rw [decide_eq_true hlt,cond_true,cond_true]
     refine ih g h (some (i,j)) (j+1) (by omega) (by omega) (by omega) (by omega) ⟨(scj i j).2 (.inr ⟨rfl,rfl⟩),hx,λa b h4 h5=>?_⟩
     rcases (scj a b).1 h4 with h4 | ⟨rfl,rfl⟩
     ·have:=(h3 a b h4 h5).1
      exact ⟨by omega,λ_=>by omega⟩
     ·exact ⟨Int.le_refl _,λh=>by omega⟩
    ·rw [decide_eq_false hlt,cond_false,cond_false]
     refine ih g h (some (p,q)) (j+1) (by omega) (by omega) (by omega) (by omega) ⟨(scj p q).2 (.inl h1),h2,λa b h4 h5=>?_⟩
     rcases (scj a b).1 h4 with h4 | ⟨rfl,rfl⟩
     ·exact h3 a b h4 h5
     ·exact ⟨by omega,λh=>by omega⟩
theorem sel_out {k:Int} (hR:R<=1000) (hC:C<=1000) (hF:C<F) (hb:Bd R C A) (hk:0<=k) (hkC:k<=C) {l1 l2 l3 l4:List Int} {c1 c2 c3 c4 c5 c6:Int}:∀ (n g h:Nat) (s:Option (Int×Int)) (i:Int),R - i=n->n<g->n<h->k<=i->SI k C A i k s ->
  ∃ s',SI k C A R k s'/\az.pl29 F g R C (mk R C A) c1 l1 c2 c3 l2 c4 c5 l3 c6 l4 k (sP s) (sQ s) i=az.pj6 F R C (mk R C A) c1 l1 c2 c3 l2 c4 c5 l3 c6 l4 k (sP s') (sQ s') /\
   bc.pl29 F h k (iP s) (iQ s) s.isSome R C (mk R C A) i=some (iP s',iQ s',s'.isSome):=by
 intro n
 induction n with
 | zero=>
  intro g h s i hn hg hh hj hs
  obtain ⟨g,rfl⟩:∃ g',g=g'+1:=⟨g - 1,by omega⟩
  obtain ⟨h,rfl⟩:∃ g',h=g'+1:=⟨h - 1,by omega⟩
  rw [az.pl29,bc.pl29,show decide (i<(R:Int))=false from decide_eq_false (by omega),cond_false,cond_false]
  refine ⟨s,?_,rfl,rfl⟩
  rw [show i=(R:Int) by omega] at hs
  exact hs
 | succ n ih=>
  intro g h s i hn hg hh hj hs
  obtain ⟨g,rfl⟩:∃ g',g=g'+1:=⟨g - 1,by omega⟩
  obtain ⟨h,rfl⟩:∃ g',h=g'+1:=⟨h - 1,by omega⟩
  rw [az.pl29,bc.pl29,show decide (i<(R:Int))=true from decide_eq_true (by omega),cond_true,cond_true]
  obtain ⟨s1,hs1,e1,e2⟩:=sel_in (F:=F) (c1:=c1) (c2:=c2) (c3:=c3) (c4:=c4) (c5:=c5) (c6:=c6) (l1:=l1) (l2:=l2) (l3:=l3) (l4:=l4) (pC:=az.pl29 F g) (pD:=bc.pl29 F h) hR hC hb hk (by omega) hj (C - k).toNat F F s k (by omega) (by omega) (by omega) (by omega) hs
  rw [e1,e2]
  unfold az.pj9 az.pj8 bc.pj8 bc.pj7
  rw [bv (by omega) (by omega)]
  refine ih g h s1 (i+1) (by omega) (by omega) (by omega) (by omega) ?_
  have sc:∀ a b,Sc k C (i+1) k a b↔Sc k C i C a b:=by
   intro a b;unfold Sc;omega
  match s1,hs1 with
  | none,hs=>exact λa b h=>hs a b ((sc a b).1 h)
  | some (p,q),⟨h1,h2,h3⟩=>exact ⟨(sc p q).2 h1,h2,λa b h=>h3 a b ((sc a b).1 h)⟩
end Go.Proofs.Ytokekkacliomkaa.AE
end
section
namespace Go.Proofs.Ytokekkacliomkaa.AE
open Go Go.AE Go.Proofs
variable {R C F:Nat} {A:Mat} {i j k:Int}
structure St where
 d:Mat
 l:Mat
 m:Mat
 r:Mat
 s:Mat
def St.good (R C:Nat) (t:St):Prop:=Bd R C t.d/\Bd R R t.l/\Bd R R t.m/\Bd C C t.r/\Bd C C t.s
def swS (t:St) (p q k:Int):St:=⟨swC (swR t.d p k) q k,swR t.l p k,swC t.m p k,swC t.r q k,swR t.s q k⟩
def ngS (t:St) (k:Int):St:=⟨ngR t.d k,ngR t.l k,ngC t.m k,t.r,t.s⟩
def ngRf (A:Mat) (k j0:Int):Mat:=λa b=>if a=k/\j0<=b then - A a b else A a b
def ngCf (A:Mat) (k i0:Int):Mat:=λa b=>if b=k/\i0<=a then - A a b else A a b
theorem Bd.upd_ng (h:Bd R C A) (hi0:0<=i) (hi:i<R) (hj0:0<=j) (hj:j<C):Bd R C (Go.AE.upd A i j (- A i j)):=by
 apply h.upd
 have:=ab_bd (h.ab hi0 hi hj0 hj)
 unfold AE.ab
 split <;> omega
theorem sw_in {i k a:Int} (hi0:0<=i) (hi:i<R) (hk0:0<=k) (hk:k<R) (ha0:0<=a) (ha:a<R):0<=sw i k a/\sw i k a<R:=by
 unfold sw;split
 ·omega
 ·split <;> omega
theorem Bd.swR (h:Bd R C A) (hi0:0<=i) (hi:i<R) (hk0:0<=k) (hk:k<R):Bd R C (swR A i k):=by
 intro a b h1 h2 h3 h4
 obtain ⟨g1,g2⟩:=sw_in hi0 hi hk0 hk h1 h2
 exact h _ _ g1 g2 h3 h4
theorem Bd.swC (h:Bd R C A) (hi0:0<=j) (hi:j<C) (hk0:0<=k) (hk:k<C):Bd R C (swC A j k):=by
 intro a b h1 h2 h3 h4
 obtain ⟨g1,g2⟩:=sw_in hi0 hi hk0 hk h3 h4
 exact h _ _ h1 h2 g1 g2
theorem Bd.ngR (h:Bd R C A):Bd R C (ngR A k):=by
 intro a b h1 h2 h3 h4
 have:=h a b h1 h2 h3 h4
 unfold AE.ngR;split <;> omega
theorem Bd.ngC (h:Bd R C A):Bd R C (ngC A k):=by
 intro a b h1 h2 h3 h4
 have:=h a b h1 h2 h3 h4
 unfold AE.ngC;split <;> omega
theorem aeX (hR:R<=1000) (hC:C<=1000) (hk0:0<=k) (hk:k<R) {c4 c7:Int} {l5 l8 l11 l14:List Int}:∀ (n g:Nat) (A:Mat) (j:Int),Bd R C A->C - j=n->n<g->0<=j ->
  az.pl65513 F g C (mk R C A) c4 l5 c7 l8 l11 l14 k j=az.pj5 F (mk R C (ngRf A k j)) c4 l5 c7 l8 l11 l14 k:=by
 intro n
 induction n with
 | zero=>
  intro g A j hb hn hg hj
  obtain ⟨g,rfl⟩:∃ g',g=g'+1:=⟨g - 1,by omega⟩
  rw [az.pl65513,show decide (j<(C:Int))=false from decide_eq_false (by omega),cond_false]
  congr 1
  apply fk
  intro a b _ _ _ _
  exact (if_neg (by omega)).symm
 | succ n ih=>
  intro g A j hb hn hg hj
  obtain ⟨g,rfl⟩:∃ g',g=g'+1:=⟨g - 1,by omega⟩
  rw [az.pl65513,show decide (j<(C:Int))=true from decide_eq_true (by omega),cond_true]
  have b1:=ab_bd (hb.ab hk0 hk hj (by omega))
  simp (disch:=omega) only [at_mk,iG,mM,Option.bind_some,bv,Int.zero_sub]
  rw [ih _ _ (j+1) (hb.upd_ng hk0 hk hj (by omega)) (by omega) (by omega) (by omega)]
  congr 1
  apply fk
  intro a b _ _ _ _
  unfold ngRf upd
  grind
theorem aeY (hR:R<=1000) (hk0:0<=k) (hk:k<R) {l2 l11 l14:List Int}:∀ (n g:Nat) (A B:Mat) (j:Int),Bd R R A->Bd R R B->R - j=n->n<g->0<=j ->
  az.pl65515 F g l2 R (mk R R A) R (mk R R B) l11 l14 k j=some (true,l2,mk R R (ngRf A k j),mk R R (ngCf B k j),l11,l14):=by
 intro n
 induction n with
 | zero=>
  intro g A B j hb hb' hn hg hj
  obtain ⟨g,rfl⟩:∃ g',g=g'+1:=⟨g - 1,by omega⟩
  rw [az.pl65515,show decide (j<(R:Int))=false from decide_eq_false (by omega),cond_false]
  rw [fk (A:=A) (B:=ngRf A k j) (λa b _ _ _ _=>(if_neg (by omega)).symm),fk (A:=B) (B:=ngCf B k j) (λa b _ _ _ _=>(if_neg (by omega)).symm)]
 | succ n ih=>
  intro g A B j hb hb' hn hg hj
  obtain ⟨g,rfl⟩:∃ g',g=g'+1:=⟨g - 1,by omega⟩
  rw [az.pl65515,show decide (j<(R:Int))=true from decide_eq_true (by omega),cond_true]
  have b1:=ab_bd (hb.ab hk0 hk hj (by omega))
  have b2:=ab_bd (hb'.ab hj (by omega) hk0 hk)
  simp (disch:=omega) only [at_mk,iG,mM,Option.bind_some,bv,Int.zero_sub]
  rw [ih _ _ _ (j+1) (hb.upd_ng hk0 hk hj (by omega)) (hb'.upd_ng hj (by omega) hk0 hk) (by omega) (by omega) (by omega)]
  rw [fk (A:=ngRf (upd A k j (-A k j)) k (j+1)) (B:=ngRf A k j) (λa b _ _ _ _=>by unfold ngRf upd;grind),fk (A:=ngCf (upd B j k (-B j k)) k (j+1)) (B:=ngCf B k j) (λa b _ _ _ _=>by unfold ngCf upd;grind)]
theorem aeZ (hR:R<=1000) (hk0:0<=k) (hk:k<R) {l2 l8 l11 l14:List Int}:∀ (n g:Nat) (B:Mat) (j:Int),Bd R R B->R - j=n->n<g->0<=j ->
  bS.pl32747 F g l2 R (mk R R B) l8 l11 l14 k R j=some (true,l2,mk R R (ngCf B k j),l8,l11,l14):=by
 intro n
 induction n with
 | zero=>
  intro g B j hb' hn hg hj
  obtain ⟨g,rfl⟩:∃ g',g=g'+1:=⟨g - 1,by omega⟩
  rw [bS.pl32747,show decide (j<(R:Int))=false from decide_eq_false (by omega),cond_false]
  rw [fk (A:=B) (B:=ngCf B k j) (λa b _ _ _ _=>(if_neg (by omega)).symm)]
 | succ n ih=>
  intro g B j hb' hn hg hj
  obtain ⟨g,rfl⟩:∃ g',g=g'+1:=⟨g - 1,by omega⟩
  rw [bS.pl32747,show decide (j<(R:Int))=true from decide_eq_true (by omega),cond_true]
  have b2:=ab_bd (hb'.ab hj (by omega) hk0 hk)
  simp (disch:=omega) only [at_mk,iG,jz,mM,Option.bind_some,bv,Int.zero_sub]
  rw [ih _ _ (j+1) (hb'.upd_ng hj (by omega) hk0 hk) (by omega) (by omega) (by omega)]
  rw [fk (A:=ngCf (upd B j k (-B j k)) k (j+1)) (B:=ngCf B k j) (λa b _ _ _ _=>by unfold ngCf upd;grind)]
theorem cuts_row (hR:R<=1000) (hC:C<=1000) (hk0:0<=k) (hk:k<R) (hC0:0<C):∃ x,mb (mk R C A) (IntKind.i64.wrap (k * C)) (IntKind.i64.wrap (IntKind.i64.wrap (k+1) * C))=some x/\x.length=C/\IntKind.i64.wrap (k * C)=k * C:=by
 obtain ⟨k,rfl⟩:=Int.eq_ofNat_of_zero_le hk0
 have h1:(k+1) * C<=R * C:=Nat.mul_le_mul_right _ (by omega)
 have h2:R * C<=1000 * 1000:=Nat.mul_le_mul hR hC
 have h3:(k+1) * C=k * C+C:=Nat.succ_mul _ _
 rw [bv (x:=(k:Int)+1) (by omega) (by omega),show (k:Int)+1=((k+1:Nat):Int) by omega,<-Int.natCast_mul,<-Int.natCast_mul,bv (by omega) (by omega),bv (by omega) (by omega)]
 unfold mb
 rw [if_pos (by rw [kB];omega)]
 refine ⟨_,rfl,?_,rfl⟩
 rw [List.length_drop,List.length_take,kB]
 omega
def pvS (t:St) (p q k:Int):St:=if (swS t p q k).d k k<0 then ngS (swS t p q k) k else swS t p q k
theorem pivot_both (hR:R<=1000) (hC:C<=1000) (hF:5000000<F) {t:St} (hg:t.good R C) (hk:0<=k) (hkR:k<R) (hkC:k<C) :
  ((∀ a b,k<=a->a<R->k<=b->b<C->t.d a b=0)/\az.p F R C (mk R C t.d) R (mk R R t.l) R R (mk R R t.m) C C (mk C C t.r) C (mk C C t.s) k=some (false,mk R C t.d,mk R R t.l,mk R R t.m,mk C C t.r,mk C C t.s) /\
   bS.p F R (mk R R t.l) R R (mk R R t.m) R C (mk R C t.d) C C (mk C C t.r) C (mk C C t.s) k=some (false,mk R R t.l,mk R R t.m,mk R C t.d,mk C C t.r,mk C C t.s)) \/
  (∃ p q,SI k C t.d R k (some (p,q))/\∃ u,u=pvS t p q k/\u.good R C/\u.d k k=ab (t.d p q) /\
   az.p F R C (mk R C t.d) R (mk R R t.l) R R (mk R R t.m) C C (mk C C t.r) C (mk C C t.s) k=some (true,mk R C u.d,mk R R u.l,mk R R u.m,mk C C u.r,mk C C u.s) /\
   bS.p F R (mk R R t.l) R R (mk R R t.m) R C (mk R C t.d) C C (mk C C t.r) C (mk C C t.s) k=some (true,mk R R u.l,mk R R u.m,mk R C u.d,mk C C u.r,mk C C u.s)):=by
 obtain ⟨g1,g2,g3,g4,g5⟩:=hg
 obtain ⟨s',hs,e1,e2⟩:=sel_out (F:=F) (c1:=R) (c2:=R) (c3:=R) (c4:=C) (c5:=C) (c6:=C) (l1:=mk R R t.l) (l2:=mk R R t.m) (l3:=mk C C t.r) (l4:=mk C C t.s) hR hC (by omega) g1 hk (by omega) (R - k).toNat F F none k (by omega) (by omega) (by omega) (by omega) (by intro a b h;unfold Sc at h;omega)
 unfold az.p bS.p bc.p
 rw [show (-1:Int)=sP none from rfl]
 rw [show az.pl29 F F R C (mk R C t.d) R (mk R R t.l) R R (mk R R t.m) C C (mk C C t.r) C (mk C C t.s) k (sP none) (sP none) k=_ from e1]
 rw [show bc.pl29 F F k 0 0 false R C (mk R C t.d) k=_ from e2,Option.bind_some]
 match s',hs with
 | none,hs=>
  left
  refine ⟨λa b h1 h2 h3 h4=>hs a b ⟨h1,h3,h4,.inl h2⟩,?_,rfl⟩
  unfold az.pj6
  rfl
 | some (p,q),hs=>
  right
  refine ⟨p,q,hs,pvS t p q k,rfl,?_⟩
  obtain ⟨⟨h1,h2,h3,h4⟩,h5,h6⟩:=hs
  have hp:p<R:=by omega
  have q1:Bd R C (swC (swR t.d p k) q k):=(g1.swR (by omega) hp hk hkR).swC (by omega) (by omega) hk hkC
  have q2:=g2.swR (i:=p) (by omega) hp hk hkR
  have q3:=g3.swC (j:=p) (by omega) hp hk hkR
  have q4:=g4.swC (j:=q) (by omega) h3 hk hkC
  have q5:=g5.swR (i:=q) (by omega) h3 hk hkC
  have hpos:=ab_pos.2 h5
  have ekk:swC (swR t.d p k) q k k k=t.d p q:=by
   unfold swC swR sw
   grind
  have b1:=ab_bd (q1.ab hk hkR hk hkC)
  unfold az.pj6
  simp only [sP,sQ,iP,iQ,Option.isSome_some,Bool.not_true,cond_false]
  simp only [eq_false (show ¬ p<0 by omega),decide_false,cond_false]
  rw [Lk hR hC (by omega) (by omega) hp hk hkR,Option.bind_some,Lk hR hR (by omega) (by omega) hp hk hkR,Option.bind_some,Lm hR hR (by omega) (by omega) hp hk hkR,Option.bind_some,Lm hR hC (by omega) (by omega) h3 hk hkC,Option.bind_some,Lm hC hC (by omega) (by omega) h3 hk hkC,Option.bind_some,Lk hC hC (by omega) (by omega) h3 hk hkC,Option.bind_some]
  rw [Ll hR hC (by omega) (by omega) hp hk hkR,Option.bind_some,Ll hR hR (by omega) (by omega) hp hk hkR,Option.bind_some,Ln hR hR (by omega) (by omega) hp hk hkR,Option.bind_some,Ln hR hC (by omega) (by omega) h3 hk hkC,Option.bind_some,Ln hC hC (by omega) (by omega) h3 hk hkC,Option.bind_some,Ll hC hC (by omega) (by omega) h3 hk hkC,Option.bind_some]
  simp (disch:=omega) only [at_mk,iG,jz,Option.bind_some]
  rw [ekk]
  by_cases hneg:t.d p q<0
  ·have epv:pvS t p q k=ngS (swS t p q k) k:=if_pos (by show swC (swR t.d p k) q k k k<0;rw [ekk];exact hneg)
   rw [epv]
   simp only [eq_true hneg,decide_true,cond_true]
   refine ⟨⟨q1.ngR,q2.ngR,q3.ngC,q4,q5⟩,?_,?_,?_⟩
   ·show ngR (swC (swR t.d p k) q k) k k k=_
    unfold ngR ab
    rw [if_pos rfl,ekk,if_pos hneg]
   ·rw [aeX hR hC hk hkR C F _ 0 q1 (by omega) (by omega) (by omega)]
    unfold az.pj5
    rw [aeY hR hk hkR R F _ _ 0 q2 q3 (by omega) (by omega) (by omega)]
    rw [fk (A:=ngRf (swC (swR t.d p k) q k) k 0) (B:=(ngS (swS t p q k) k).d) (λa b _ _ _ _=>by unfold ngRf;show _=ngR _ _ _ _;unfold ngR swS;grind)]
    rw [fk (A:=ngRf (swR t.l p k) k 0) (B:=(ngS (swS t p q k) k).l) (λa b _ _ _ _=>by unfold ngRf;show _=ngR _ _ _ _;unfold ngR swS;grind)]
    rw [fk (A:=ngCf (swC t.m p k) k 0) (B:=(ngS (swS t p q k) k).m) (λa b _ _ _ _=>by unfold ngCf;show _=ngC _ _ _ _;unfold ngC swS;grind)]
    rfl
   ·obtain ⟨x,ex,exl,ew⟩:=cuts_row (A:=swC (swR t.d p k) q k) hR hC hk hkR (by omega)
    obtain ⟨y,ey,eyl,ew2⟩:=cuts_row (A:=swR t.l p k) hR hR hk hkR (by omega)
    have m1:R * C<=1000 * 1000:=Nat.mul_le_mul hR hC
    have m2:R * R<=1000 * 1000:=Nat.mul_le_mul hR hR
    rw [ex,Option.bind_some,ey,Option.bind_some,if_pos (by rw [kB,kB];omega),ew,ew2,exl,eyl,negr_mk hR hC hk hkR q1,negr_mk hR hR hk hkR q2]
    unfold bS.pj3
    rw [aeZ hR hk hkR R F _ 0 q3 (by omega) (by omega) (by omega)]
    rw [fk (A:=ngCf (swC t.m p k) k 0) (B:=(ngS (swS t p q k) k).m) (λa b _ _ _ _=>by unfold ngCf;show _=ngC _ _ _ _;unfold ngC swS;grind)]
    rfl
  ·have epv:pvS t p q k=swS t p q k:=if_neg (by show ¬ swC (swR t.d p k) q k k k<0;rw [ekk];exact hneg)
   rw [epv]
   simp only [eq_false hneg,decide_false,cond_false]
   refine ⟨⟨q1,q2,q3,q4,q5⟩,?_,rfl,rfl⟩
   show swC (swR t.d p k) q k k k=_
   unfold ab
   rw [ekk,if_neg hneg]
end Go.Proofs.Ytokekkacliomkaa.AE
end
section
namespace Go.Proofs.Ytokekkacliomkaa.AE
open Go Go.AE Go.Proofs
variable {R C n:Nat} {A B:Mat} {u v:St} {k e:Int}
def On (R C:Nat) (A B:Mat):Prop:=∀ i j:Int,0<=i->i<R->0<=j->j<C->A i j=B i j
theorem On.refl:On R C A A:=λ_ _ _ _ _ _=>rfl
theorem On.symm (h:On R C A B):On R C B A:=λi j h1 h2 h3 h4=>(h i j h1 h2 h3 h4).symm
theorem On.trans {D:Mat} (h:On R C A B) (h':On R C B D):On R C A D:=λi j h1 h2 h3 h4=>(h i j h1 h2 h3 h4).trans (h' i j h1 h2 h3 h4)
theorem On.mm {A' B':Mat} (h:On R n A A') (h':On n C B B'):On R C (mm n A B) (mm n A' B'):=λi j h1 h2 h3 h4=>
 mm_congr (λl h5 h6=>h i l h1 h2 h5 h6) λl h5 h6=>h' l j h5 h6 h3 h4
theorem On.idl:On n C (AE.mm n idM A) A:=λ_ _ h1 h2 _ _=>mm_idl h1 h2
theorem On.idr:On R n (AE.mm n A idM) A:=λ_ _ _ _ h3 h4=>mm_idr h3 h4
structure Red (R C:Nat) (A:Mat) (v:St):Prop where
 d:On R C v.d (mm C (mm R v.l A) v.r)
 lm:On R R (mm R v.l v.m) idM
 ml:On R R (mm R v.m v.l) idM
 rs:On C C (mm C v.r v.s) idM
 sr:On C C (mm C v.s v.r) idM
theorem Red.row {E E':Mat} (h:Red R C A u) (h1:On R R (mm R E E') idM) (h2:On R R (mm R E' E) idM) (d:On R C v.d (mm R E u.d)) (l:On R R v.l (mm R E u.l)) (m:On R R v.m (mm R u.m E')) (r:v.r=u.r) (s:v.s=u.s):Red R C A v where
 d:=by
  rw [r]
  refine d.trans ((On.mm On.refl h.d).trans ?_)
  rw [<- mm_assoc,<-mm_assoc]
  exact On.mm (On.mm l.symm On.refl) On.refl
 lm:=by
  refine (On.mm l m).trans ?_
  rw [mm_assoc,<-mm_assoc (A:=u.l)]
  exact (On.mm On.refl ((On.mm h.lm On.refl).trans On.idl)).trans h1
 ml:=by
  refine (On.mm m l).trans ?_
  rw [mm_assoc,<-mm_assoc (A:=E')]
  exact (On.mm On.refl ((On.mm h2 On.refl).trans On.idl)).trans h.ml
 rs:=by rw [r,s];exact h.rs
 sr:=by rw [r,s];exact h.sr
theorem Red.col {E E':Mat} (h:Red R C A u) (h1:On C C (mm C E E') idM) (h2:On C C (mm C E' E) idM) (d:On R C v.d (mm C u.d E)) (r:On C C v.r (mm C u.r E)) (s:On C C v.s (mm C E' u.s)) (l:v.l=u.l) (m:v.m=u.m):Red R C A v where
 d:=by
  rw [l]
  refine d.trans ((On.mm h.d On.refl).trans ?_)
  rw [mm_assoc]
  exact On.mm On.refl r.symm
 rs:=by
  refine (On.mm r s).trans ?_
  rw [mm_assoc,<-mm_assoc (A:=E)]
  exact (On.mm On.refl ((On.mm h1 On.refl).trans On.idl)).trans h.rs
 sr:=by
  refine (On.mm s r).trans ?_
  rw [mm_assoc,<-mm_assoc (A:=u.s)]
  exact (On.mm On.refl ((On.mm h.sr On.refl).trans On.idl)).trans h2
 lm:=by rw [l,m];exact h.lm
 ml:=by rw [l,m];exact h.ml
def Esw (p k:Int):Mat:=λi l=>if l=sw p k i then 1 else 0
theorem sw_sw (p k x:Int):sw p k (sw p k x)=x:=by unfold sw;grind
theorem Esw_l {p k:Int} (hp0:0<=p) (hp:p<R) (hk0:0<=k) (hk:k<R):On R C (swR A p k) (mm R (Esw p k) A):=λi j h1 h2 _ _=>by
 show A (sw p k i) j=Sg R λl=>(if l=sw p k i then 1 else 0) * A l j
 have:=sw_in hp0 hp hk0 hk h1 h2
 rw [Sg_congr (g:=λl=>if l=sw p k i then A l j else 0) λl _ _=>by by_cases e:l=sw p k i <;> simp [e],Sg_one this.1,if_pos this.2]
theorem Esw_r {p k:Int} (hp0:0<=p) (hp:p<C) (hk0:0<=k) (hk:k<C):On R C (swC A p k) (mm C A (Esw p k)):=λi j _ _ h1 h2=>by
 show A i (sw p k j)=Sg C λl=>A i l * (if j=sw p k l then 1 else 0)
 have:=sw_in hp0 hp hk0 hk h1 h2
 rw [Sg_congr (g:=λl=>if l=sw p k j then A i l else 0) λl _ _=>by
  by_cases e:l=sw p k j
  ·subst e;rw [sw_sw];simp
  ·rw [if_neg e,if_neg λq=>e (by rw [q,sw_sw]),Int.mul_zero],Sg_one this.1,if_pos this.2]
theorem Esw_e {p k:Int} (hp0:0<=p) (hp:p<R) (hk0:0<=k) (hk:k<R):On R R (mm R (Esw p k) (Esw p k)) idM:=(Esw_l hp0 hp hk0 hk).symm.trans λi j _ _ _ _=>by
 show (if j=sw p k (sw p k i) then (1:Int) else 0)=if i=j then 1 else 0
 rw [sw_sw];by_cases e:i=j <;> simp [e,eq_comm]
def Eng (k:Int):Mat:=λi l=>if l=i then (if i=k then -1 else 1) else 0
theorem Eng_l {k:Int}:On R C (ngR A k) (mm R (Eng k) A):=λi j h1 h2 _ _=>by
 show (if i=k then - A i j else A i j)=Sg R λl=>(if l=i then (if i=k then -1 else 1) else 0) * A l j
 rw [Sg_congr (g:=λl=>if l=i then (if i=k then -1 else 1) * A l j else 0) λl _ _=>by by_cases e:l=i <;> simp [e],Sg_one h1,if_pos h2]
 by_cases e:i=k <;> simp [e]
theorem Eng_r {k:Int}:On R C (ngC A k) (mm C A (Eng k)):=λi j _ _ h1 h2=>by
 show (if j=k then - A i j else A i j)=Sg C λl=>A i l * (if j=l then (if l=k then -1 else 1) else 0)
 rw [Sg_congr (g:=λl=>if l=j then A i l * (if l=k then -1 else 1) else 0) λl _ _=>by
  by_cases e:l=j
  ·subst e;simp
  ·rw [if_neg e,if_neg (Ne.symm e),Int.mul_zero],Sg_one h1,if_pos h2]
 by_cases e:j=k <;> simp [e]
theorem Eng_e {k:Int}:On R R (mm R (Eng k) (Eng k)) idM:=Eng_l.symm.trans λi j _ _ _ _=>by
 show (if i=k then - (if j=i then (if i=k then -1 else 1) else 0) else (if j=i then (if i=k then (-1:Int) else 1) else 0))=if i=j then 1 else 0
 by_cases e:i=k <;> by_cases e':j=i <;> simp [e,e',eq_comm] <;> omega
def Ead (t f q:Int):Mat:=λi l=>(if l=i then 1 else 0)+(if l=f then (if i=t then q else 0) else 0)
theorem Ead_l {t f q:Int} {i j:Int} (hf0:0<=f) (hf:f<R) (h1:0<=i) (h2:i<R):mm R (Ead t f q) A i j=A i j+if i=t then q * A f j else 0:=by
 show Sg R (λl=>((if l=i then 1 else 0)+(if l=f then (if i=t then q else 0) else 0)) * A l j)=_
 rw [Sg_congr (g:=λl=>(if l=i then A l j else 0)+(if l=f then (if i=t then q else 0) * A l j else 0)) λl _ _=>by
  rw [Int.add_mul]
  congr 1
  ·split <;> simp
  ·split <;> simp,Sg_add,Sg_one h1,if_pos h2,Sg_one hf0,if_pos hf]
 by_cases e:i=t <;> simp [e]
theorem Ead_r {t f q:Int} {i j:Int} (ht0:0<=t) (ht:t<C) (h1:0<=j) (h2:j<C):mm C A (Ead t f q) i j=A i j+if j=f then A i t * q else 0:=by
 show Sg C (λl=>A i l * ((if j=l then 1 else 0)+(if j=f then (if l=t then q else 0) else 0)))=_
 rw [Sg_congr (g:=λl=>(if l=j then A i l else 0)+(if l=t then (if j=f then A i l * q else 0) else 0)) λl _ _=>by
  rw [Int.mul_add]
  congr 1
  ·by_cases e:l=j
   ·subst e;simp
   ·rw [if_neg e,if_neg (Ne.symm e),Int.mul_zero]
  ·by_cases e:j=f
   ·rw [if_pos e,if_pos e]
    by_cases e':l=t <;> simp [e']
   ·rw [if_neg e,if_neg e,Int.mul_zero];split <;> rfl,Sg_add,Sg_one h1,if_pos h2,Sg_one ht0,if_pos ht]
theorem Ead_e {t f q:Int} (hf0:0<=f) (hf:f<R) (htf:t≠f):On R R (mm R (Ead t f q) (Ead t f (-q))) idM:=λi j h1 h2 _ _=>by
 rw [Ead_l hf0 hf h1 h2]
 show ((if j=i then 1 else 0)+(if j=f then (if i=t then -q else 0) else 0))+(if i=t then q * ((if j=f then 1 else 0)+(if j=f then (if f=t then -q else 0) else 0)) else 0)=if i=j then 1 else 0
 rw [if_neg (Ne.symm htf)]
 have e0:(if j=i then (1:Int) else 0)=if i=j then 1 else 0:=by by_cases e:i=j <;> simp [e,eq_comm]
 rw [e0]
 by_cases e:i=t
 ·rw [if_pos e,if_pos e]
  by_cases e2:j=f <;> simp [e2] <;> omega
 ·rw [if_neg e,if_neg e]
  by_cases e2:j=f <;> simp [e2]
def rowS (u:St) (t f b:Int):St:=⟨adR u.d t f b,adR u.l t f b,adC u.m f t (-b),u.r,u.s⟩
def colS (u:St) (t f b:Int):St:=⟨adC u.d t f b,u.l,u.m,adC u.r t f b,adR u.s f t (-b)⟩
inductive Rch (R C:Nat) (k:Int):St->St->Prop
 | refl (u:St):Rch R C k u u
 | piv (u:St) (p q x:Int) (hp:k<=p) (hpR:p<R) (hq:k<=q) (hqC:q<C) (hx:k<=x) (hxR:x<R) (hxC:x<C):Rch R C k u (pvS u p q x)
 | row (u:St) (t f b:Int) (ht:k<=t) (htR:t<R) (hf:k<=f) (hfR:f<R) (htf:t≠f) (n1:¬ nfR C u.d t f b) (n2:¬ nfR R u.l t f b) (n3:¬ nfC R u.m f t (-b)):Rch R C k u (rowS u t f b)
 | col (u:St) (t f b:Int) (ht:k<=t) (htC:t<C) (hf:k<=f) (hfC:f<C) (htf:t≠f) (n1:¬ nfC R u.d t f b) (n2:¬ nfC C u.r t f b) (n3:¬ nfR C u.s f t (-b)):Rch R C k u (colS u t f b)
 | trans {u v w:St} (h:Rch R C k u v) (h':Rch R C k v w):Rch R C k u w
theorem adR_on {t f b:Int} (n1:¬ nfR C A t f b):On R C (adR A t f b) (λi j=>A i j+if i=t then b * A f j else 0):=λi j _ _ h3 h4=>by
 show (if i=t then ad (A t j) (A f j) b else A i j)=A i j+if i=t then b * A f j else 0
 by_cases e:i=t
 ·subst e
  rw [if_pos rfl,if_pos rfl,ad_fit (Classical.byContradiction λhh=>n1 ⟨j,h3,h4,hh⟩),Int.mul_comm b]
 ·rw [if_neg e,if_neg e,Int.add_zero]
theorem adC_on {t f b:Int} (n1:¬ nfC R A t f b):On R C (adC A t f b) (λi j=>A i j+if j=t then A i f * b else 0):=λi j h1 h2 _ _=>by
 show (if j=t then ad (A i t) (A i f) b else A i j)=A i j+if j=t then A i f * b else 0
 by_cases e:j=t
 ·subst e
  rw [if_pos rfl,if_pos rfl,ad_fit (Classical.byContradiction λhh=>n1 ⟨i,h1,h2,hh⟩)]
 ·rw [if_neg e,if_neg e,Int.add_zero]
theorem neg_e {t f q:Int} (hf0:0<=f) (hf:f<R) (htf:t≠f):On R R (mm R (Ead t f (-q)) (Ead t f q)) idM:=by
 have:=Ead_e (q:=-q) hf0 hf htf
 rw [Int.neg_neg] at this;exact this
theorem Rch.red (hk:0<=k) (h:Rch R C k u v) (hu:Red R C A u):Red R C A v:=by
 induction h with
 | refl=>exact hu
 | trans _ _ ih ih'=>exact ih' (ih hu)
 | piv u p q x hp hpR hq hqC hx hxR hxC=>
  have h1:Red R C A ⟨swR u.d p x,swR u.l p x,swC u.m p x,u.r,u.s⟩:=hu.row (Esw_e (by omega) hpR (by omega) hxR) (Esw_e (by omega) hpR (by omega) hxR) (Esw_l (by omega) hpR (by omega) hxR) (Esw_l (by omega) hpR (by omega) hxR) (Esw_r (by omega) hpR (by omega) hxR) rfl rfl
  have h2:Red R C A (swS u p q x):=h1.col (Esw_e (by omega) hqC (by omega) hxC) (Esw_e (by omega) hqC (by omega) hxC) (Esw_r (by omega) hqC (by omega) hxC) (Esw_r (by omega) hqC (by omega) hxC) (Esw_l (by omega) hqC (by omega) hxC) rfl rfl
  unfold pvS
  split
  ·exact h2.row Eng_e Eng_e Eng_l Eng_l Eng_r rfl rfl
  ·exact h2
 | row u t f b ht htR hf hfR htf n1 n2 n3=>
  refine hu.row (E:=Ead t f b) (E':=Ead t f (-b)) (Ead_e (by omega) hfR htf) (neg_e (by omega) hfR htf) ((adR_on n1).trans λi j h1 h2 _ _=>?_) ((adR_on n2).trans λi j h1 h2 _ _=>?_) ((adC_on n3).trans λi j _ _ h1 h2=>?_) rfl rfl
  ·rw [Ead_l (by omega) hfR h1 h2]
  ·rw [Ead_l (by omega) hfR h1 h2]
  ·rw [Ead_r (by omega) htR h1 h2]
 | col u t f b ht htC hf hfC htf n1 n2 n3=>
  refine hu.col (E:=Ead f t b) (E':=Ead f t (-b)) (Ead_e (by omega) htC (Ne.symm htf)) (neg_e (by omega) htC (Ne.symm htf)) ((adC_on n1).trans λi j _ _ h1 h2=>?_) ((adC_on n2).trans λi j _ _ h1 h2=>?_) ((adR_on n3).trans λi j h1 h2 _ _=>?_) rfl rfl
  ·rw [Ead_r (by omega) hfC h1 h2]
  ·rw [Ead_r (by omega) hfC h1 h2]
  ·rw [Ead_l (by omega) htC h1 h2]
def Zr (R C:Nat) (k:Int) (u:St):Prop:=∀ i j:Int,0<=i->i<R->0<=j->j<C->i≠j->(i<k\/j<k)->u.d i j=0
def Dv (R C:Nat) (k e:Int) (u:St):Prop:=∀ i j:Int,k<=i->i<R->k<=j->j<C->e∣u.d i j
theorem sw_lo {p k x a:Int} (hp:k<=p) (hx:k<=x) (ha:a<k):sw p x a=a:=by unfold sw;rw [if_neg (by omega),if_neg (by omega)]
theorem sw_hi {p k x a:Int} {N:Nat} (hp:k<=p) (hpN:p<N) (hx:k<=x) (hxN:x<N) (ha:k<=a) (haN:a<N):k<=sw p x a/\sw p x a<N:=by unfold sw;split <;> (try split) <;> omega
theorem ng_cases {x y i:Int}:(∃ s:Int,(s=1\/s=-1)/\ngR A x i y=s * A i y):=by
 unfold ngR
 split
 ·exact ⟨-1,.inr rfl,by omega⟩
 ·exact ⟨1,.inl rfl,by omega⟩
theorem pv_val {p q x i j:Int}:∃ s:Int,(s=1\/s=-1)/\(pvS u p q x).d i j=s * u.d (sw p x i) (sw q x j):=by
 unfold pvS
 split
 ·exact ng_cases (A:=(swS u p q x).d)
 ·exact ⟨1,.inl rfl,(Int.one_mul _).symm⟩
theorem Rch.zr (hk:0<=k) (h:Rch R C k u v) (hz:Zr R C k u):Zr R C k v:=by
 induction h with
 | refl=>exact hz
 | trans _ _ ih ih'=>exact ih' (ih hz)
 | piv u p q x hp hpR hq hqC hx hxR hxC=>
  intro i j h1 h2 h3 h4 h5 h6
  obtain ⟨s,_,e⟩:=pv_val (u:=u) (p:=p) (q:=q) (x:=x) (i:=i) (j:=j)
  rw [e]
  have a1:=sw_in (i:=p) (k:=x) (a:=i) (R:=R) (by omega) hpR (by omega) hxR h1 h2
  have a2:=sw_in (i:=q) (k:=x) (a:=j) (R:=C) (by omega) hqC (by omega) hxC h3 h4
  have:u.d (sw p x i) (sw q x j)=0:=by
   by_cases c:i<k
   ·have e1:=sw_lo (p:=p) hp hx c
    rw [e1]
    refine hz _ _ h1 h2 a2.1 a2.2 ?_ (.inl c)
    by_cases c':j<k
    ·rw [sw_lo hq hx c'];exact h5
    ·have:=sw_hi (N:=C) hq hqC hx hxC (a:=j) (by omega) h4;omega
   ·have e1:=sw_lo (p:=q) (a:=j) hq hx (by omega)
    rw [e1]
    refine hz _ _ a1.1 a1.2 h3 h4 ?_ (.inr (by omega))
    have:=sw_hi (N:=R) hp hpR hx hxR (a:=i) (by omega) h2;omega
  rw [this,Int.mul_zero]
 | row u t f b ht htR hf hfR htf n1 n2 n3=>
  intro i j h1 h2 h3 h4 h5 h6
  show adR u.d t f b i j=0
  rw [adR_on n1 i j h1 h2 h3 h4]
  simp only []
  rw [hz i j h1 h2 h3 h4 h5 h6]
  by_cases c:i=t
  ·rw [if_pos c,hz f j (by omega) hfR h3 h4 (by omega) (.inr (by omega)),Int.mul_zero];rfl
  ·rw [if_neg c];rfl
 | col u t f b ht htR hf hfR htf n1 n2 n3=>
  intro i j h1 h2 h3 h4 h5 h6
  show adC u.d t f b i j=0
  rw [adC_on n1 i j h1 h2 h3 h4]
  simp only []
  rw [hz i j h1 h2 h3 h4 h5 h6]
  by_cases c:j=t
  ·rw [if_pos c,hz i f h1 h2 (by omega) hfR (by omega) (.inl (by omega)),Int.zero_mul];rfl
  ·rw [if_neg c];rfl
theorem Rch.dv (hk:0<=k) (h:Rch R C k u v) (hz:Dv R C k e u):Dv R C k e v:=by
 induction h with
 | refl=>exact hz
 | trans _ _ ih ih'=>exact ih' (ih hz)
 | piv u p q x hp hpR hq hqC hx hxR hxC=>
  intro i j h1 h2 h3 h4
  obtain ⟨s,_,e⟩:=pv_val (u:=u) (p:=p) (q:=q) (x:=x) (i:=i) (j:=j)
  rw [e]
  have a1:=sw_hi (N:=R) hp hpR hx hxR h1 h2
  have a2:=sw_hi (N:=C) hq hqC hx hxC h3 h4
  exact Int.dvd_trans (hz _ _ a1.1 a1.2 a2.1 a2.2) (Int.dvd_mul_left _ _)
 | row u t f b ht htR hf hfR htf n1 n2 n3=>
  intro i j h1 h2 h3 h4
  show _∣adR u.d t f b i j
  rw [adR_on n1 i j (by omega) h2 (by omega) h4]
  refine Int.dvd_add (hz i j h1 h2 h3 h4) ?_
  split
  ·exact Int.dvd_trans (hz f j hf hfR h3 h4) (Int.dvd_mul_left _ _)
  ·exact ⟨0,(Int.mul_zero _).symm⟩
 | col u t f b ht htR hf hfR htf n1 n2 n3=>
  intro i j h1 h2 h3 h4
  show _∣adC u.d t f b i j
  rw [adC_on n1 i j (by omega) h2 (by omega) h4]
  refine Int.dvd_add (hz i j h1 h2 h3 h4) ?_
  split
  ·exact Int.dvd_trans (hz i f h1 h2 hf hfR) (Int.dvd_mul_right _ _)
  ·exact ⟨0,(Int.mul_zero _).symm⟩
theorem Rch.same (hk:0<=k) (h:Rch R C k u v):∀ a:Int,0<=a->a<k->v.d a a=u.d a a:=by
 induction h with
 | refl=>exact λ_ _ _=>rfl
 | trans _ _ ih ih'=>exact λa h1 h2=>(ih' a h1 h2).trans (ih a h1 h2)
 | piv u p q x hp hpR hq hqC hx hxR hxC=>
  intro a h1 h2
  have e:(swS u p q x).d a a=u.d a a:=by
   show u.d (sw p x a) (sw q x a)=_
   rw [sw_lo hp hx h2,sw_lo hq hx h2]
  unfold pvS
  split
  ·show ngR (swS u p q x).d x a a=_
   unfold ngR;rw [if_neg (by omega)];exact e
  ·exact e
 | row u t f b ht htR hf hfR htf n1 n2 n3=>intro a h1 h2;show (if a=t then _ else u.d a a)=_;rw [if_neg (by omega)]
 | col u t f b ht htR hf hfR htf n1 n2 n3=>intro a h1 h2;show (if a=t then _ else u.d a a)=_;rw [if_neg (by omega)]
structure Stg (R C:Nat) (k:Int) (u:St):Prop where
 z:Zr R C k u
 n:∀ a:Int,0<=a->a<k->a<R->a<C->0<=u.d a a
 c:∀ a b:Int,0<=a->a<=b->b<k->b<R->b<C->u.d a a∣u.d b b
 l:∀ a:Int,0<=a->a<k->a<R->a<C->Dv R C k (u.d a a) u
theorem Rch.stg (hk:0<=k) (h:Rch R C k u v) (hs:Stg R C k u):Stg R C k v where
 z:=h.zr hk hs.z
 n:=λa h1 h2 h3 h4=>by rw [h.same hk a h1 h2];exact hs.n a h1 h2 h3 h4
 c:=λa b h1 h2 h3 h4 h5=>by rw [h.same hk a h1 (by omega),h.same hk b (by omega) h3];exact hs.c a b h1 h2 h3 h4 h5
 l:=λa h1 h2 h3 h4=>by rw [h.same hk a h1 h2];exact h.dv hk (hs.l a h1 h2 h3 h4)
structure Clr (R C:Nat) (k:Int) (u:St):Prop where
 a:∀ a:Int,k<a->a<R->u.d a k=0
 b:∀ b:Int,k<b->b<C->u.d k b=0
 d:∀ a b:Int,k<a->a<R->k<b->b<C->u.d k k∣u.d a b
theorem Stg.next (hk:0<=k) (hkR:k<R) (hkC:k<C) (hs:Stg R C k u) (hc:Clr R C k u) (h0:0<=u.d k k):Stg R C (k+1) u where
 z:=λi j h1 h2 h3 h4 h5 h6=>by
  by_cases c1:i<k\/j<k
  ·exact hs.z i j h1 h2 h3 h4 h5 c1
  ·by_cases c2:i=k
   ·subst c2;exact hc.b j (by omega) h4
   ·obtain rfl:j=k:=by omega
    exact hc.a i (by omega) h2
 n:=λa h1 h2 h3 h4=>by
  by_cases e:a=k
  ·subst e;exact h0
  ·exact hs.n a h1 (by omega) h3 h4
 c:=λa b h1 h2 h3 h4 h5=>by
  by_cases e:b=k
  ·subst e
   by_cases e':a=b
   ·subst e';exact Int.dvd_refl _
   ·exact hs.l a h1 (by omega) (by omega) (by omega) b b (by omega) h4 (by omega) h5
  ·exact hs.c a b h1 h2 (by omega) h4 h5
 l:=λa h1 h2 h3 h4 i j h5 h6 h7 h8=>by
  by_cases e:a=k
  ·subst e;exact hc.d i j (by omega) h6 (by omega) h8
  ·exact hs.l a h1 (by omega) h3 h4 i j (by omega) h6 (by omega) h8
theorem Stg.dia (hk:0<=k) (hs:Stg R C k u) (h:(R:Int)<=k\/(C:Int)<=k\/∀ i j:Int,k<=i->i<R->k<=j->j<C->u.d i j=0):Dia R C u.d where
 o:=λi j h1 h2 h3 h4 h5=>by
  by_cases c:i<k\/j<k
  ·exact hs.z i j h1 h2 h3 h4 h5 c
  ·rcases h with h | h | h
   ·omega
   ·omega
   ·exact h i j (by omega) h2 (by omega) h4
 n:=λi h1 h2 h3=>by
  by_cases c:i<k
  ·exact hs.n i h1 c h2 h3
  ·rcases h with h | h | h
   ·omega
   ·omega
   ·rw [h i i (by omega) h2 (by omega) h3];exact Int.le_refl _
 c:=λi j h1 h2 h3 h4=>by
  by_cases c:j<k
  ·exact hs.c i j h1 h2 c h3 h4
  ·rcases h with h | h | h
   ·omega
   ·omega
   ·rw [h j j (by omega) h3 (by omega) h4];exact ⟨0,(Int.mul_zero _).symm⟩
theorem Stg.zero:Stg R C 0 u:=⟨λi j h1 h2 h3 h4 _ h6=>by omega,λa h1 h2=>by omega,λa b h1 h2 h3=>by omega,λa h1 h2=>by omega⟩
theorem Red.sim (h:Red R C A v):Sim R C A v.d:=⟨v.l,v.r,h.d⟩
theorem Red.start:Red R C A ⟨A,idM,idM,idM,idM⟩ where
 d:=(On.idl.symm).trans On.idr.symm
 lm:=On.idl
 ml:=On.idl
 rs:=On.idl
 sr:=On.idl
theorem rank_add {n C':Nat} {A B:Mat} {v w:St} {a b:Nat} (hA:Red R n A v) (hB:Red n C' B w) (h0:On R C' (mm n A B) λ_ _=>0)
  (dA:Dia R n v.d) (dB:Dia n C' w.d) (ha:a<=R/\a<=n) (hb:b<=n/\b<=C') (pa:∀ i:Int,0<=i->i<a->v.d i i≠0) (pb:∀ i:Int,0<=i->i<b->w.d i i≠0):a+b<=n:=by
 -- X=s B has its first a rows 0
 have hX:On R C' (mm n v.d (mm n v.s B)) λ_ _=>0:=by
  refine (On.mm hA.d On.refl).trans ?_
  rw [mm_assoc,<-mm_assoc (A:=v.r)]
  refine (On.mm On.refl ((On.mm hA.rs On.refl).trans On.idl)).trans ?_
  rw [mm_assoc]
  refine (On.mm On.refl h0).trans λi j _ _ _ _=>Sg_zero λl _ _=>Int.mul_zero _
 have hr:∀ i j:Int,0<=i->i<a->0<=j->j<C'->mm n v.s B i j=0:=λi j h1 h2 h3 h4=>by
  have:=hX i j h1 (by omega) h3 h4
  have e:mm n v.d (mm n v.s B) i j=v.d i i * mm n v.s B i j:=by
   show Sg n (λl=>v.d i l * mm n v.s B l j)=_
   rw [Sg_congr (g:=λl=>if l=i then v.d i l * mm n v.s B l j else 0) λl h5 h6=>by
    by_cases q:l=i
    ·rw [if_pos q]
    ·rw [if_neg q,dA.o i l h1 (by omega) h5 h6 (Ne.symm q),Int.zero_mul],Sg_one h1,if_pos (by omega)]
  rw [e] at this
  exact (Int.mul_eq_zero.1 this).resolve_left (pa i h1 h2)
 have hf:Fac n C' (n - a) 0 B:=by
  refine ⟨λi t=>v.r i (t+a),λt j=>mm n v.s B (t+a) j,λi j h1 h2 h3 h4=>?_⟩
  have e:B i j=mm n v.r (mm n v.s B) i j:=by
   have:=((On.mm hA.rs On.refl).trans On.idl:On n C' (mm n (mm n v.r v.s) B) B) i j h1 h2 h3 h4
   rw [mm_assoc] at this;exact this.symm
  have e2:mm n v.r (mm n v.s B) i j=mm (n - a) (λi t=>v.r i (t+a)) (λt j=>mm n v.s B (t+a) j) i j:=by
   show Sg n (λl=>v.r i l * mm n v.s B l j)=Sg (n - a) λt=>v.r i (t+a) * mm n v.s B (t+a) j
   have:=Sg_split (f:=λl=>v.r i l * mm n v.s B l j) (a:=a) (n - a)
   rw [show a+(n - a)=n by omega] at this
   rw [this,Sg_zero λl h5 h6=>by rw [hr l j h5 h6 h3 h4,Int.mul_zero],Int.zero_add]
  rw [e,e2,Int.sub_self]
  exact Int.dvd_refl _
 by_cases hb0:b=0
 ·omega
 have:=low (s:=b) (m:=w.d ((b:Int) - 1) ((b:Int) - 1)) hb.1 hb.2 (λi j h1 h2 h3 h4 h5=>dB.o i j h1 (by omega) h3 (by omega) h5) (λi h1 h2=>dB.c i _ h1 (by omega) (by omega) (by omega)) (λq=>pb _ (by omega) (by omega) (Int.zero_dvd.1 q)) (hf.sim hB.sim)
 omega
end Go.Proofs.Ytokekkacliomkaa.AE
end
section
namespace Go.Proofs.Ytokekkacliomkaa.AE
open Go Go.AE Go.Proofs
variable {R C F:Nat} {A:Mat} {i j k:Int}
theorem rowS_good {u:St} (h:u.good R C) (t f b:Int):(rowS u t f b).good R C:=by
 obtain ⟨g1,g2,g3,g4,g5⟩:=h
 exact ⟨g1.adR,g2.adR,g3.adC,g4,g5⟩
theorem colS_good {u:St} (h:u.good R C) (t f b:Int):(colS u t f b).good R C:=by
 obtain ⟨g1,g2,g3,g4,g5⟩:=h
 exact ⟨g1.adC,g2,g3,g4.adC,g5.adR⟩
theorem ab_neg (x:Int):ab (-x)=ab x:=by unfold ab;split <;> split <;> omega
theorem row_both (hR:R<=1000) (hC:C<=1000) (hF:5000000<F) {u:St} (hg:u.good R C) {t f q:Int} (ht0:0<=t) (ht:t<R) (hf0:0<=f) (hf:f<R) (htf:t≠f) (hq:ab q<=4000000000000) (hq0:q≠0) :
  ∃ bad',fj.p F R (mk R R u.l) R R (mk R R u.m) C (mk R C u.d) false t f (-q)=some (mk R R (rowS u t f (-q)).l,mk R R (rowS u t f (-q)).m,mk R C (rowS u t f (-q)).d,bad') /\
   (∃ x y z,fX.p F C (mk R C u.d) R (mk R R u.l) R R (mk R R u.m) false t f q=some (x,y,z,bad')/\(bad'=false->x=mk R C (rowS u t f (-q)).d/\y=mk R R (rowS u t f (-q)).l/\z=mk R R (rowS u t f (-q)).m)) /\
   (bad'=false->¬ nfR C u.d t f (-q)/\¬ nfR R u.l t f (-q)/\¬ nfC R u.m f t (- -q)):=by
 obtain ⟨g1,g2,g3,g4,g5⟩:=hg
 have bq:=ab_bd hq
 have hq':ab (-q)<=4000000000000:=by rw [ab_neg];exact hq
 obtain ⟨b1,e1,h1⟩:=Lo (F:=F) (bad:=false) hR hC (by omega) g1 ht0 ht hf0 hf htf hq'
 obtain ⟨b2,e2,h2⟩:=Lo (F:=F) (bad:=b1) hR hR (by omega) g2 ht0 ht hf0 hf htf hq'
 obtain ⟨b3,e3,h3⟩:=Lp (F:=F) (q:=- -q) (bad:=b2) hR hR (by omega) g3 hf0 hf ht0 ht (Ne.symm htf) (by rw [ab_neg];exact hq')
 refine ⟨b3,?_,?_,?_⟩
 ·unfold fj.p
  rw [e1,Option.bind_some]
  simp only []
  rw [e2,Option.bind_some]
  simp only []
  rw [bv (by omega) (by omega),Int.zero_sub,e3,Option.bind_some]
  rfl
 ·unfold fX.p
  rw [show (q != 0)=true from bne_iff_ne.2 hq0,cond_true]
  obtain ⟨c1,x,f1,i1,j1⟩:=Lq (F:=F) hR hC (by omega) g1 ht0 ht hf0 hf htf hq
  rw [f1,Option.bind_some]
  simp only []
  cases c1 with
  | true=>
   rw [Lt (by omega),Option.bind_some]
   simp only []
   rw [Lu (by omega),Option.bind_some]
   have hb:b3=true:=h3.2 (.inl (h2.2 (.inl (h1.2 (.inr (i1.1 rfl))))))
   subst hb
   exact ⟨_,_,_,rfl,λh=>by cases h⟩
  | false=>
   have n1:¬ nfR C u.d t f (-q):=λh=>by have:=i1.2 h;cases this
   obtain ⟨c2,y,f2,i2,j2⟩:=Lq (F:=F) hR hR (by omega) g2 ht0 ht hf0 hf htf hq
   rw [f2,Option.bind_some]
   simp only []
   cases c2 with
   | true=>
    rw [Lu (by omega),Option.bind_some]
    have hb:b3=true:=h3.2 (.inl (h2.2 (.inr (i2.1 rfl))))
    subst hb
    exact ⟨_,_,_,rfl,λh=>by cases h⟩
   | false=>
    have n2:¬ nfR R u.l t f (-q):=λh=>by have:=i2.2 h;cases this
    obtain ⟨c3,z,f3,i3,j3⟩:=Lr (F:=F) (q:=-q) hR hR (by omega) g3 hf0 hf ht0 ht (Ne.symm htf) hq'
    rw [bv (by omega) (by omega),Int.zero_sub,f3,Option.bind_some]
    have hb:b3=c3:=by
     rw [Bool.eq_iff_iff,h3,i3]
     constructor
     ·rintro (h | h)
      ·rcases h2.1 h with h | h
       ·rcases h1.1 h with h | h
        ·cases h
        ·exact absurd h n1
       ·exact absurd h n2
      ·exact h
     ·exact λh=>.inr h
    subst hb
    exact ⟨_,_,_,rfl,λh=>⟨j1 rfl,j2 rfl,j3 h⟩⟩
 ·intro hb
  refine ⟨λhn=>?_,λhn=>?_,λhn=>?_⟩
  ·have:b3=true:=h3.2 (.inl (h2.2 (.inl (h1.2 (.inr hn)))))
   rw [hb] at this;cases this
  ·have:b3=true:=h3.2 (.inl (h2.2 (.inr hn)))
   rw [hb] at this;cases this
  ·have:b3=true:=h3.2 (.inr hn)
   rw [hb] at this;cases this
theorem col_both (hR:R<=1000) (hC:C<=1000) (hF:5000000<F) {u:St} (hg:u.good R C) {t f q:Int} (ht0:0<=t) (ht:t<C) (hf0:0<=f) (hf:f<C) (htf:t≠f) (hq:ab q<=4000000000000) (hq0:q≠0) :
  ∃ bad',gB.p F R C (mk R C u.d) C C (mk C C u.r) C (mk C C u.s) false t f (-q)=some (mk R C (colS u t f (-q)).d,mk C C (colS u t f (-q)).r,mk C C (colS u t f (-q)).s,bad') /\
   (∃ x y z,gi.p F R C (mk R C u.d) C C (mk C C u.r) C (mk C C u.s) false t f q=some (x,y,z,bad')/\(bad'=false->x=mk R C (colS u t f (-q)).d/\y=mk C C (colS u t f (-q)).r/\z=mk C C (colS u t f (-q)).s)) /\
   (bad'=false->¬ nfC R u.d t f (-q)/\¬ nfC C u.r t f (-q)/\¬ nfR C u.s f t (- -q)):=by
 obtain ⟨g1,g2,g3,g4,g5⟩:=hg
 have bq:=ab_bd hq
 have hq':ab (-q)<=4000000000000:=by rw [ab_neg];exact hq
 obtain ⟨b1,e1,h1⟩:=Lp (F:=F) (bad:=false) hR hC (by omega) g1 ht0 ht hf0 hf htf hq'
 obtain ⟨b2,e2,h2⟩:=Lp (F:=F) (bad:=b1) hC hC (by omega) g4 ht0 ht hf0 hf htf hq'
 obtain ⟨b3,e3,h3⟩:=Lo (F:=F) (q:=- -q) (bad:=b2) hC hC (by omega) g5 hf0 hf ht0 ht (Ne.symm htf) (by rw [ab_neg];exact hq')
 refine ⟨b3,?_,?_,?_⟩
 ·unfold gB.p
  rw [e1,Option.bind_some]
  simp only []
  rw [e2,Option.bind_some]
  simp only []
  rw [bv (by omega) (by omega),Int.zero_sub,e3,Option.bind_some]
  rfl
 ·unfold gi.p
  rw [show (q != 0)=true from bne_iff_ne.2 hq0,cond_true]
  obtain ⟨c1,x,f1,i1,j1⟩:=Lr (F:=F) hR hC (by omega) g1 ht0 ht hf0 hf htf hq
  rw [f1,Option.bind_some]
  simp only []
  cases c1 with
  | true=>
   rw [Lu (by omega),Option.bind_some]
   simp only []
   rw [Lt (by omega),Option.bind_some]
   have hb:b3=true:=h3.2 (.inl (h2.2 (.inl (h1.2 (.inr (i1.1 rfl))))))
   subst hb
   exact ⟨_,_,_,rfl,λh=>by cases h⟩
  | false=>
   have n1:¬ nfC R u.d t f (-q):=λh=>by have:=i1.2 h;cases this
   obtain ⟨c2,y,f2,i2,j2⟩:=Lr (F:=F) hC hC (by omega) g4 ht0 ht hf0 hf htf hq
   rw [f2,Option.bind_some]
   simp only []
   cases c2 with
   | true=>
    rw [Lt (by omega),Option.bind_some]
    have hb:b3=true:=h3.2 (.inl (h2.2 (.inr (i2.1 rfl))))
    subst hb
    exact ⟨_,_,_,rfl,λh=>by cases h⟩
   | false=>
    have n2:¬ nfC C u.r t f (-q):=λh=>by have:=i2.2 h;cases this
    obtain ⟨c3,z,f3,i3,j3⟩:=Lq (F:=F) (q:=-q) hC hC (by omega) g5 hf0 hf ht0 ht (Ne.symm htf) hq'
    rw [bv (by omega) (by omega),Int.zero_sub,f3,Option.bind_some]
    have hb:b3=c3:=by
     rw [Bool.eq_iff_iff,h3,i3]
     constructor
     ·rintro (h | h)
      ·rcases h2.1 h with h | h
       ·rcases h1.1 h with h | h
        ·cases h
        ·exact absurd h n1
       ·exact absurd h n2
      ·exact h
     ·exact λh=>.inr h
    subst hb
    exact ⟨_,_,_,rfl,λh=>⟨j1 rfl,j2 rfl,j3 h⟩⟩
 ·intro hb
  refine ⟨λhn=>?_,λhn=>?_,λhn=>?_⟩
  ·have:b3=true:=h3.2 (.inl (h2.2 (.inl (h1.2 (.inr hn)))))
   rw [hb] at this;cases this
  ·have:b3=true:=h3.2 (.inl (h2.2 (.inr hn)))
   rw [hb] at this;cases this
  ·have:b3=true:=h3.2 (.inr hn)
   rw [hb] at this;cases this
end Go.Proofs.Ytokekkacliomkaa.AE
end
section
namespace Go.Proofs.Ytokekkacliomkaa.AE
open Go Go.AE Go.Proofs
variable {R C F:Nat} {A:Mat} {i j k:Int}
abbrev i13 (F g R C:Nat) (u:St) (bad:Bool) (k i:Int):=aU.pl13 F g R (mk R R u.l) R R (mk R R u.m) R C (mk R C u.d) C C (mk C C u.r) C (mk C C u.s) bad k R C i
abbrev i4 (F R C:Nat) (u:St) (bad:Bool) (k:Int):=aU.pj4 F (mk R R u.l) (mk R R u.m) R C (mk R C u.d) C C (mk C C u.r) C (mk C C u.s) bad k C
abbrev i15 (F g R C:Nat) (u:St) (bad:Bool) (k j:Int):=aU.pl15 F g (mk R R u.l) (mk R R u.m) R C (mk R C u.d) C C (mk C C u.r) C (mk C C u.s) bad k C j
abbrev s29 (F g R C:Nat) (u:St) (bad:Bool) (k i:Int):=bl.pl29 F g R C (mk R C u.d) R (mk R R u.l) R R (mk R R u.m) C C (mk C C u.r) C (mk C C u.s) bad k i
abbrev s2 (F R C:Nat) (u:St) (bad:Bool) (k:Int):=bl.pj2 F R C (mk R C u.d) R (mk R R u.l) R R (mk R R u.m) C C (mk C C u.r) C (mk C C u.s) bad k
abbrev s61 (F g R C:Nat) (u:St) (bad:Bool) (k i:Int):=bl.pl61 F g R C (mk R C u.d) R (mk R R u.l) R R (mk R R u.m) C C (mk C C u.r) C (mk C C u.s) bad k i
abbrev s1 (F R C:Nat) (u:St) (bad:Bool) (k:Int):=bl.pj1 F R C (mk R C u.d) R (mk R R u.l) R R (mk R R u.m) (mk C C u.r) (mk C C u.s) bad k
theorem i15_bad {g:Nat} {l m d r s:List Int} {c6 c7 c9 c10 c13 k x j:Int}:aU.pl15 F (g+1) l m c6 c7 d c9 c10 r c13 s true k x j=some (true,l,m,d,r,s):=by
 rw [aU.pl15]
 cases decide (j<x) <;> rfl
theorem i13_bad {g:Nat} {l m d r s:List Int} {c1 c3 c4 c6 c7 c9 c10 c13 k x y i:Int} (hF:0<F):aU.pl13 F (g+1) c1 l c3 c4 m c6 c7 d c9 c10 r c13 s true k x y i=some (true,l,m,d,r,s):=by
 obtain ⟨f,rfl⟩:∃ f,F=f+1:=⟨F - 1,by omega⟩
 rw [aU.pl13]
 unfold aU.pj4
 cases decide (i<x)
 ·exact i15_bad
 ·exact i15_bad
theorem s61_bad {g:Nat} {l m d r s:List Int} {c0 c1 c4 c6 c7 c9 c10 c13 k i:Int}:bl.pl61 F (g+1) c0 c1 d c4 l c6 c7 m c9 c10 r c13 s true k i=some (false,false,d,l,m,r,s,true):=by
 rw [bl.pl61]
 cases decide (i<c1) <;> rfl
theorem s29_bad {g:Nat} {l m d r s:List Int} {c0 c1 c4 c6 c7 c9 c10 c13 k i:Int} (hF:0<F):bl.pl29 F (g+1) c0 c1 d c4 l c6 c7 m c9 c10 r c13 s true k i=some (false,false,d,l,m,r,s,true):=by
 obtain ⟨f,rfl⟩:∃ f,F=f+1:=⟨F - 1,by omega⟩
 rw [bl.pl29]
 unfold bl.pj2
 cases decide (i<c0)
 ·exact s61_bad
 ·exact s61_bad
theorem mod_eq {x p:Int}:x+p * -(x / p)=x % p:=by
 have:=Int.mul_ediv_add_emod x p
 rw [Int.mul_neg];omega
theorem quo_ne {x p:Int} (h:x / p=0):x % p=x:=by
 have:=Int.mul_ediv_add_emod x p
 rw [h] at this;omega
theorem clr_rows (hR:R<=1000) (hC:C<=1000) (hF:5000000<F) (hk:0<=k) (hkR:k<R) (hkC:k<C) {p:Int} (hp:0<p):∀ (n g h:Nat) (u:St) (i:Int),u.good R C->u.d k k=p->R - i=n->n+1<g->n+1<h->k<i ->
  (∃ v:St,v.good R C/\Rch R C k u v/\(∀ a b:Int,a<i->v.d a b=u.d a b)/\(∀ b:Int,0<=b->b<C->v.d k b=u.d k b)/\(∀ a:Int,i<=a->a<R->v.d a k=u.d a k % p)/\(∀ a:Int,0<=a->a<i->v.d a k=u.d a k) /\
   i13 F g R C u false k i=i4 F R C v false k/\s29 F h R C u false k i=s2 F R C v false k) \/
  (∃ l m d r s,i13 F g R C u false k i=some (true,l,m,d,r,s))/\(∃ l m d r s,s29 F h R C u false k i=some (false,false,d,l,m,r,s,true)):=by
 intro n
 induction n with
 | zero=>
  intro g h u i hu hkk hn hg hh hki
  obtain ⟨g,rfl⟩:∃ g',g=g'+1:=⟨g - 1,by omega⟩
  obtain ⟨h,rfl⟩:∃ g',h=g'+1:=⟨h - 1,by omega⟩
  left
  refine ⟨u,hu,.refl _,λ_ _ _=>rfl,λ_ _ _=>rfl,λa h1 h2=>by omega,λ_ _ _=>rfl,?_,?_⟩
  ·unfold i13
   rw [aU.pl13,show decide (i<(R:Int))=false from decide_eq_false (by omega),cond_false]
  ·unfold s29
   rw [bl.pl29,show decide (i<(R:Int))=false from decide_eq_false (by omega),cond_false]
 | succ n ih=>
  intro g h u i hu hkk hn hg hh hki
  obtain ⟨g,rfl⟩:∃ g',g=g'+1:=⟨g - 1,by omega⟩
  obtain ⟨h,rfl⟩:∃ g',h=g'+1:=⟨h - 1,by omega⟩
  have bik:=hu.1.ab (i:=i) (j:=k) (by omega) (by omega) hk hkC
  have bq:=(quo_bd hp bik).1
  have bq':=ab_bd bq
  unfold i13 s29
  rw [aU.pl13,show decide (i<(R:Int))=true from decide_eq_true (by omega),cond_true,Bool.not_false,cond_true]
  rw [bl.pl29,show decide (i<(R:Int))=true from decide_eq_true (by omega),cond_true,Bool.not_false,cond_true]
  simp (disch:=omega) only [at_mk,iG,jz,Option.bind_some]
  rw [hkk,US hp bik,UT hp bik,Option.bind_some,Option.bind_some]
  by_cases hq:u.d i k / p=0
  ·rw [hq,show ((0:Int) != 0)=false from rfl,cond_false]
   unfold aU.pj5 fX.p
   rw [show ((0:Int) != 0)=false from rfl,cond_false,Option.bind_some,bv (by omega) (by omega)]
   rcases ih g h u (i+1) hu hkk (by omega) (by omega) (by omega) (by omega) with ⟨v,q1,qr,q0,q2,q3,q4,q5,q6⟩ | hbad
   ·left
    refine ⟨v,q1,qr,λa b h=>q0 a b (by omega),q2,λa h1 h2=>?_,λa h1 h2=>q4 a h1 (by omega),q5,q6⟩
    by_cases e:a=i
    ·subst e
     rw [q4 a (by omega) (by omega),quo_ne hq]
    ·exact q3 a (by omega) h2
   ·exact .inr hbad
  ·rw [show (u.d i k / p != 0)=true from bne_iff_ne.2 hq,cond_true,bv (x:=0 - u.d i k / p) (by omega) (by omega),Int.zero_sub]
   obtain ⟨bad',e1,⟨x,y,z,e2,e3⟩,e4⟩:=row_both (q:=u.d i k / p) hR hC hF hu (by omega:0<=i) (by omega) hk hkR (by omega) (by omega) hq
   rw [e1,e2,Option.bind_some,Option.bind_some]
   unfold aU.pj5
   rw [bv (x:=i+1) (by omega) (by omega)]
   simp only []
   cases bad' with
   | true=>
    right
    obtain ⟨g,rfl⟩:∃ g',g=g'+1:=⟨g - 1,by omega⟩
    obtain ⟨h,rfl⟩:∃ g',h=g'+1:=⟨h - 1,by omega⟩
    exact ⟨⟨_,_,_,_,_,i13_bad (by omega)⟩,⟨_,_,_,_,_,s29_bad (by omega)⟩⟩
   | false=>
    obtain ⟨rfl,rfl,rfl⟩:=e3 rfl
    have e4:=e4 rfl
    have key:∀ b:Int,0<=b->b<C->(rowS u i k (-(u.d i k / p))).d i b=u.d i b+u.d k b * -(u.d i k / p):=by
     intro b h1 h2
     show adR u.d i k (-(u.d i k / p)) i b=_
     unfold adR
     rw [if_pos rfl]
     apply ad_fit
     exact Classical.byContradiction λhh=>e4.1 ⟨b,h1,h2,hh⟩
    have oth:∀ a b,a≠i->(rowS u i k (-(u.d i k / p))).d a b=u.d a b:=by
     intro a b h1
     show adR u.d i k (-(u.d i k / p)) a b=_
     unfold adR
     rw [if_neg h1]
    rcases ih g h (rowS u i k (-(u.d i k / p))) (i+1) (rowS_good hu _ _ _) (by rw [oth k k (by omega)];exact hkk) (by omega) (by omega) (by omega) (by omega) with ⟨v,q1,qr,q0,q2,q3,q4,q5,q6⟩ | hbad
    ·left
     refine ⟨v,q1,(Rch.row u i k _ (by omega) (by omega) (by omega) (by omega) (by omega) e4.1 e4.2.1 e4.2.2).trans qr,λa b h=>(q0 a b (by omega)).trans (oth a b (by omega)),λb h1 h2=>?_,λa h1 h2=>?_,λa h1 h2=>?_,q5,q6⟩
     ·rw [q2 b h1 h2,oth k b (by omega)]
     ·by_cases e:a=i
      ·subst e
       rw [q4 a (by omega) (by omega),key k hk hkC,hkk,mod_eq]
      ·rw [q3 a (by omega) h2,oth a k e]
     ·rw [q4 a h1 (by omega),oth a k (by omega)]
    ·exact .inr hbad
theorem clr_cols (hR:R<=1000) (hC:C<=1000) (hF:5000000<F) (hk:0<=k) (hkR:k<R) (hkC:k<C) {p:Int} (hp:0<p):∀ (n g h:Nat) (u:St) (j:Int),u.good R C->u.d k k=p->C - j=n->n+1<g->n+1<h->k<j ->
  (∃ v:St,v.good R C/\Rch R C k u v/\(∀ a b:Int,b<j->v.d a b=u.d a b)/\(∀ a:Int,0<=a->a<R->v.d a k=u.d a k)/\(∀ b:Int,j<=b->b<C->v.d k b=u.d k b % p)/\(∀ b:Int,0<=b->b<j->v.d k b=u.d k b) /\
   i15 F g R C u false k j=some (false,mk R R v.l,mk R R v.m,mk R C v.d,mk C C v.r,mk C C v.s)/\s61 F h R C u false k j=s1 F R C v false k) \/
  (∃ l m d r s,i15 F g R C u false k j=some (true,l,m,d,r,s))/\(∃ l m d r s,s61 F h R C u false k j=some (false,false,d,l,m,r,s,true)):=by
 intro n
 induction n with
 | zero=>
  intro g h u i hu hkk hn hg hh hki
  obtain ⟨g,rfl⟩:∃ g',g=g'+1:=⟨g - 1,by omega⟩
  obtain ⟨h,rfl⟩:∃ g',h=g'+1:=⟨h - 1,by omega⟩
  left
  refine ⟨u,hu,.refl _,λ_ _ _=>rfl,λ_ _ _=>rfl,λa h1 h2=>by omega,λ_ _ _=>rfl,?_,?_⟩
  ·unfold i15
   rw [aU.pl15,show decide (i<(C:Int))=false from decide_eq_false (by omega),cond_false]
  ·unfold s61
   rw [bl.pl61,show decide (i<(C:Int))=false from decide_eq_false (by omega),cond_false]
 | succ n ih=>
  intro g h u j hu hkk hn hg hh hki
  obtain ⟨g,rfl⟩:∃ g',g=g'+1:=⟨g - 1,by omega⟩
  obtain ⟨h,rfl⟩:∃ g',h=g'+1:=⟨h - 1,by omega⟩
  have bik:=hu.1.ab (i:=k) (j:=j) hk hkR (by omega) (by omega)
  have bq:=(quo_bd hp bik).1
  have bq':=ab_bd bq
  unfold i15 s61
  rw [aU.pl15,show decide (j<(C:Int))=true from decide_eq_true (by omega),cond_true,Bool.not_false,cond_true]
  rw [bl.pl61,show decide (j<(C:Int))=true from decide_eq_true (by omega),cond_true,Bool.not_false,cond_true]
  simp (disch:=omega) only [at_mk,iG,jz,Option.bind_some]
  rw [hkk,US hp bik,UT hp bik,Option.bind_some,Option.bind_some]
  by_cases hq:u.d k j / p=0
  ·rw [hq,show ((0:Int) != 0)=false from rfl,cond_false]
   unfold aU.pj3 gi.p
   rw [show ((0:Int) != 0)=false from rfl,cond_false,Option.bind_some,bv (by omega) (by omega)]
   rcases ih g h u (j+1) hu hkk (by omega) (by omega) (by omega) (by omega) with ⟨v,q1,qr,q0,q2,q3,q4,q5,q6⟩ | hbad
   ·left
    refine ⟨v,q1,qr,λa b h=>q0 a b (by omega),q2,λa h1 h2=>?_,λa h1 h2=>q4 a h1 (by omega),q5,q6⟩
    by_cases e:a=j
    ·subst e
     rw [q4 a (by omega) (by omega),quo_ne hq]
    ·exact q3 a (by omega) h2
   ·exact .inr hbad
  ·rw [show (u.d k j / p != 0)=true from bne_iff_ne.2 hq,cond_true,bv (x:=0 - u.d k j / p) (by omega) (by omega),Int.zero_sub]
   obtain ⟨bad',e1,⟨x,y,z,e2,e3⟩,e4⟩:=col_both (q:=u.d k j / p) hR hC hF hu (by omega:0<=j) (by omega) hk hkC (by omega) (by omega) hq
   rw [e1,e2,Option.bind_some,Option.bind_some]
   unfold aU.pj3
   rw [bv (x:=j+1) (by omega) (by omega)]
   simp only []
   cases bad' with
   | true=>
    right
    obtain ⟨g,rfl⟩:∃ g',g=g'+1:=⟨g - 1,by omega⟩
    obtain ⟨h,rfl⟩:∃ g',h=g'+1:=⟨h - 1,by omega⟩
    exact ⟨⟨_,_,_,_,_,i15_bad⟩,⟨_,_,_,_,_,s61_bad⟩⟩
   | false=>
    obtain ⟨rfl,rfl,rfl⟩:=e3 rfl
    have e4:=e4 rfl
    have key:∀ a:Int,0<=a->a<R->(colS u j k (-(u.d k j / p))).d a j=u.d a j+u.d a k * -(u.d k j / p):=by
     intro b h1 h2
     show adC u.d j k (-(u.d k j / p)) b j=_
     unfold adC
     rw [if_pos rfl]
     apply ad_fit
     exact Classical.byContradiction λhh=>e4.1 ⟨b,h1,h2,hh⟩
    have oth:∀ a b,b≠j->(colS u j k (-(u.d k j / p))).d a b=u.d a b:=by
     intro a b h1
     show adC u.d j k (-(u.d k j / p)) a b=_
     unfold adC
     rw [if_neg h1]
    rcases ih g h (colS u j k (-(u.d k j / p))) (j+1) (colS_good hu _ _ _) (by rw [oth k k (by omega)];exact hkk) (by omega) (by omega) (by omega) (by omega) with ⟨v,q1,qr,q0,q2,q3,q4,q5,q6⟩ | hbad
    ·left
     refine ⟨v,q1,(Rch.col u j k _ (by omega) (by omega) (by omega) (by omega) (by omega) e4.1 e4.2.1 e4.2.2).trans qr,λa b h=>(q0 a b (by omega)).trans (oth a b (by omega)),λb h1 h2=>?_,λa h1 h2=>?_,λa h1 h2=>?_,q5,q6⟩
     ·rw [q2 b h1 h2,oth b k (by omega)]
     ·by_cases e:a=j
      ·subst e
       rw [q4 a (by omega) (by omega),key k hk hkR,hkk,mod_eq]
      ·rw [q3 a (by omega) h2,oth k a e]
     ·rw [q4 a h1 (by omega),oth k a (by omega)]
    ·exact .inr hbad
theorem clr_both (hR:R<=1000) (hC:C<=1000) (hF:5000000<F) (hk:0<=k) (hkR:k<R) (hkC:k<C) {p:Int} (hp:0<p) {u:St} (hu:u.good R C) (hkk:u.d k k=p) :
  (∃ v:St,v.good R C/\Rch R C k u v/\(∀ a b:Int,a<k->b<k->v.d a b=u.d a b)/\v.d k k=p/\(∀ a:Int,k<a->a<R->v.d a k=u.d a k % p)/\(∀ b:Int,k<b->b<C->v.d k b=u.d k b % p) /\
   aU.p F R (mk R R u.l) R R (mk R R u.m) R C (mk R C u.d) C C (mk C C u.r) C (mk C C u.s) false k=some (false,mk R R v.l,mk R R v.m,mk R C v.d,mk C C v.r,mk C C v.s)/\s29 F F R C u false k (IntKind.i64.wrap (k+1))=s1 F R C v false k) \/
  (∃ l m d r s,aU.p F R (mk R R u.l) R R (mk R R u.m) R C (mk R C u.d) C C (mk C C u.r) C (mk C C u.s) false k=some (true,l,m,d,r,s))/\(∃ l m d r s,s29 F F R C u false k (IntKind.i64.wrap (k+1))=some (false,false,d,l,m,r,s,true)):=by
 unfold aU.p
 rw [bv (x:=k+1) (by omega) (by omega)]
 rcases clr_rows hR hC hF hk hkR hkC hp (R - (k+1)).toNat F F u (k+1) hu hkk (by omega) (by omega) (by omega) (by omega) with ⟨v,q1,qr,q0,q2,q3,q4,q5,q6⟩ | ⟨h1,h2⟩
 ·rcases clr_cols hR hC hF hk hkR hkC hp (C - (k+1)).toNat F F v (k+1) q1 (by rw [q4 k hk (by omega)];exact hkk) (by omega) (by omega) (by omega) (by omega) with ⟨w,p1,pr,p0,p2,p3,p4,p5,p6⟩ | ⟨h1,h2⟩
  ·left
   refine ⟨w,p1,qr.trans pr,λa b h1 h2=>(p0 a b (by omega)).trans (q0 a b (by omega)),by rw [p2 k hk hkR,q4 k hk (by omega)];exact hkk,λa h1 h2=>by rw [p2 a (by omega) h2,q3 a (by omega) h2],λb h1 h2=>by rw [p3 b (by omega) h2,q2 b (by omega) h2],?_,?_⟩
   ·rw [show aU.pl13 F F R (mk R R u.l) R R (mk R R u.m) R C (mk R C u.d) C C (mk C C u.r) C (mk C C u.s) false k R C (k+1)=_ from q5]
    unfold i4 aU.pj4
    rw [bv (x:=k+1) (by omega) (by omega)]
    exact p5
   ·rw [q6]
    unfold s2 bl.pj2
    rw [bv (x:=k+1) (by omega) (by omega)]
    exact p6
  ·right
   obtain ⟨a1,a2,a3,a4,a5,h1⟩:=h1
   obtain ⟨b1,b2,b3,b4,b5,h2⟩:=h2
   refine ⟨⟨a1,a2,a3,a4,a5,?_⟩,⟨b1,b2,b3,b4,b5,?_⟩⟩
   ·rw [show aU.pl13 F F R (mk R R u.l) R R (mk R R u.m) R C (mk R C u.d) C C (mk C C u.r) C (mk C C u.s) false k R C (k+1)=_ from q5]
    unfold i4 aU.pj4
    rw [bv (x:=k+1) (by omega) (by omega)]
    exact h1
   ·rw [q6]
    unfold s2 bl.pj2
    rw [bv (x:=k+1) (by omega) (by omega)]
    exact h2
 ·exact .inr ⟨h1,h2⟩
end Go.Proofs.Ytokekkacliomkaa.AE
end
section
namespace Go.Proofs.Ytokekkacliomkaa.AE
open Go Go.AE Go.Proofs
variable {R C F:Nat} {A:Mat} {i j k:Int}
theorem cutf_row (hR:R<=1000) (hC:C<=1000) (hk0:0<=k) (hk:k<R):∃ x,fi.p F C (mk R C A) k=some x/\x.length=C/\∀ n:Nat,n<C->gt x n=A k n:=by
 obtain ⟨k,rfl⟩:=Int.eq_ofNat_of_zero_le hk0
 have h1:(k+1) * C<=R * C:=Nat.mul_le_mul_right _ (by omega)
 have h2:R * C<=1000 * 1000:=Nat.mul_le_mul hR hC
 have h3:(k+1) * C=k * C+C:=Nat.succ_mul _ _
 unfold fi.p
 rw [bv (x:=(k:Int)+1) (by omega) (by omega),show (k:Int)+1=((k+1:Nat):Int) by omega,<-Int.natCast_mul,<-Int.natCast_mul,bv (by omega) (by omega),bv (by omega) (by omega)]
 unfold cutf
 rw [if_pos (by rw [kB];omega),Option.bind_some]
 refine ⟨_,rfl,?_,?_⟩
 ·rw [List.length_drop,List.length_take,kB]
  omega
 ·intro n hn
  unfold gt
  rw [List.getD_eq_getElem?_getD,List.getElem?_drop,List.getElem?_take_of_lt (by omega),Int.toNat_natCast,DS hn (by omega)]
  rfl
theorem cutf_end {x:List Int} (hk0:0<=k) (hk:k<=x.length):∃ y,cutf x k (x.length:Int)=some y/\(y.length:Int)=x.length - k/\∀ n:Nat,gt y n=gt x (k.toNat+n):=by
 unfold cutf
 rw [if_pos (by omega)]
 refine ⟨_,rfl,?_,?_⟩
 ·rw [List.length_drop,List.length_take];omega
 ·intro n
  unfold gt
  rw [List.getD_eq_getElem?_getD,List.getD_eq_getElem?_getD,List.getElem?_drop,Int.toNat_natCast,List.take_length]
theorem idx_155 {y:List Int} (hy:y.length<=1000):∀ (n g:Nat) (i:Int),y.length - i=n->n<g->0<=i ->
  ∃ r,el.pl13 F g y y.length i=some r/\(r>=0↔∃ a:Int,i<=a/\a<y.length/\gt y a.toNat≠0):=by
 intro n
 induction n with
 | zero=>
  intro g i hn hg hi
  obtain ⟨g,rfl⟩:∃ g',g=g'+1:=⟨g - 1,by omega⟩
  rw [el.pl13,show decide (i<(y.length:Int))=false from decide_eq_false (by omega),cond_false]
  exact ⟨_,rfl,⟨λh=>absurd h (by decide),λ⟨a,h1,h2,_⟩=>by omega⟩⟩
 | succ n ih=>
  intro g i hn hg hi
  obtain ⟨g,rfl⟩:∃ g',g=g'+1:=⟨g - 1,by omega⟩
  rw [el.pl13,show decide (i<(y.length:Int))=true from decide_eq_true (by omega),cond_true]
  unfold ix jG.p
  rw [if_pos (by omega),Option.bind_some,Option.bind_some]
  by_cases h:gt y i.toNat=0
  ·rw [h,show ((0:Int) != 0)=false from rfl,cond_false,bv (by omega) (by omega)]
   obtain ⟨r,e,hr⟩:=ih g (i+1) (by omega) (by omega) (by omega)
   refine ⟨r,e,hr.trans ⟨λ⟨a,h1,h2,h3⟩=>⟨a,by omega,h2,h3⟩,λ⟨a,h1,h2,h3⟩=>?_⟩⟩
   by_cases e:a=i
   ·subst e;exact absurd h h3
   ·exact ⟨a,by omega,h2,h3⟩
  ·rw [show (gt y i.toNat != 0)=true from bne_iff_ne.2 h,cond_true]
   exact ⟨_,rfl,⟨λ_=>⟨i,by omega,by omega,h⟩,λ_=>hi⟩⟩
theorem isClear_l (hR:R<=1000) (hC:C<=1000) (hF:5000000<F) (hk:0<=k) (hkR:k<R) (hkC:k<C):∀ (n g:Nat) (i:Int),R - i=n->n<g->k<i ->
  ∃ b:Bool,dg.pl29 F g k R C (mk R C A) i=some b/\(b=true↔(∀ a:Int,i<=a->a<R->A a k=0)/\(∀ a:Int,k<a->a<C->A k a=0)):=by
 intro n
 induction n with
 | zero=>
  intro g i hn hg hi
  obtain ⟨g,rfl⟩:∃ g',g=g'+1:=⟨g - 1,by omega⟩
  rw [dg.pl29,show decide (i<(R:Int))=false from decide_eq_false (by omega),cond_false]
  unfold dg.pj1
  obtain ⟨x,ex,xl,xg⟩:=cutf_row (F:=F) (A:=A) hR hC hk hkR
  rw [ex,Option.bind_some,bv (by omega) (by omega)]
  obtain ⟨y,ey,yl,yg⟩:=cutf_end (x:=x) (k:=k+1) (by omega) (by omega)
  rw [ey,Option.bind_some]
  unfold ic.p el.p
  obtain ⟨r,er,hr⟩:=idx_155 (F:=F) (y:=y) (by omega) y.length F 0 (by omega) (by omega) (by omega)
  rw [er,Option.bind_some,Option.bind_some]
  refine ⟨_,rfl,?_⟩
  have:(!decide (r>=0))=true↔¬ (r>=0):=by simp
  rw [this,hr]
  constructor
  ·intro h
   refine ⟨λa h1 h2=>by omega,λa h1 h2=>?_⟩
   refine Classical.byContradiction λhne=>h ⟨a - (k+1),by omega,by omega,?_⟩
   rw [yg,show (k+1).toNat+(a - (k+1)).toNat=a.toNat by omega,xg _ (by omega),Int.toNat_of_nonneg (by omega)]
   exact hne
  ·rintro ⟨_,h⟩ ⟨a,h1,h2,h3⟩
   apply h3
   rw [yg,xg _ (by omega),show (((k+1).toNat+a.toNat:Nat):Int)=k+1+a by omega]
   exact h _ (by omega) (by omega)
 | succ n ih=>
  intro g i hn hg hi
  obtain ⟨g,rfl⟩:∃ g',g=g'+1:=⟨g - 1,by omega⟩
  rw [dg.pl29,show decide (i<(R:Int))=true from decide_eq_true (by omega),cond_true]
  simp (disch:=omega) only [iG,jz,Option.bind_some]
  by_cases h:A i k=0
  ·rw [h,show ((0:Int) != 0)=false from rfl,cond_false,bv (by omega) (by omega)]
   obtain ⟨b,e,hb⟩:=ih g (i+1) (by omega) (by omega) (by omega)
   refine ⟨b,e,hb.trans ⟨λ⟨h1,h2⟩=>⟨λa h3 h4=>?_,h2⟩,λ⟨h1,h2⟩=>⟨λa h3 h4=>h1 a (by omega) h4,h2⟩⟩⟩
   by_cases e:a=i
   ·subst e;exact h
   ·exact h1 a (by omega) h4
  ·rw [show (A i k != 0)=true from bne_iff_ne.2 h,cond_true]
   exact ⟨_,rfl,⟨λh=>(by cases h),λ⟨h1,_⟩=>absurd (h1 i (by omega) (by omega)) h⟩⟩
theorem specClear_in (hR:R<=1000) (hC:C<=1000) (hk:0<=k) (hkR:k<R) (hkC:k<C):∀ (n g:Nat) (j:Int),C - j=n->n<g->k<j ->
  ∃ b:Bool,cq.pl29 F g C (mk R C A) k j=some b/\(b=true↔(∀ a:Int,j<=a->a<C->A k a=0)):=by
 intro n
 induction n with
 | zero=>
  intro g i hn hg hi
  obtain ⟨g,rfl⟩:∃ g',g=g'+1:=⟨g - 1,by omega⟩
  rw [cq.pl29,show decide (i<(C:Int))=false from decide_eq_false (by omega),cond_false]
  exact ⟨_,rfl,⟨λ_ a h1 h2=>by omega,λ_=>rfl⟩⟩
 | succ n ih=>
  intro g i hn hg hi
  obtain ⟨g,rfl⟩:∃ g',g=g'+1:=⟨g - 1,by omega⟩
  rw [cq.pl29,show decide (i<(C:Int))=true from decide_eq_true (by omega),cond_true]
  simp (disch:=omega) only [at_mk,Option.bind_some]
  by_cases h:A k i=0
  ·rw [h,show ((0:Int) != 0)=false from rfl,cond_false,bv (by omega) (by omega)]
   obtain ⟨b,e,hb⟩:=ih g (i+1) (by omega) (by omega) (by omega)
   refine ⟨b,e,hb.trans ⟨λh1 a h3 h4=>?_,λh1 a h3 h4=>h1 a (by omega) h4⟩⟩
   by_cases e:a=i
   ·subst e;exact h
   ·exact h1 a (by omega) h4
  ·rw [show (A k i != 0)=true from bne_iff_ne.2 h,cond_true]
   exact ⟨_,rfl,⟨λh=>(by cases h),λh1=>absurd (h1 i (by omega) (by omega)) h⟩⟩
theorem specClear_l (hR:R<=1000) (hC:C<=1000) (hF:5000000<F) (hk:0<=k) (hkR:k<R) (hkC:k<C):∀ (n g:Nat) (i:Int),R - i=n->n<g->k<i ->
  ∃ b:Bool,cq.pl13 F g R C (mk R C A) k i=some b/\(b=true↔(∀ a:Int,i<=a->a<R->A a k=0)/\(∀ a:Int,k<a->a<C->A k a=0)):=by
 intro n
 induction n with
 | zero=>
  intro g i hn hg hi
  obtain ⟨g,rfl⟩:∃ g',g=g'+1:=⟨g - 1,by omega⟩
  rw [cq.pl13,show decide (i<(R:Int))=false from decide_eq_false (by omega),cond_false]
  unfold cq.pj1
  rw [bv (by omega) (by omega)]
  obtain ⟨b,e,hb⟩:=specClear_in (F:=F) (A:=A) hR hC hk hkR hkC (C - (k+1)).toNat F (k+1) (by omega) (by omega) (by omega)
  exact ⟨b,e,hb.trans ⟨λh=>⟨λa h1 h2=>by omega,λa h1 h2=>h a (by omega) h2⟩,λ⟨_,h⟩ a h1 h2=>h a (by omega) h2⟩⟩
 | succ n ih=>
  intro g i hn hg hi
  obtain ⟨g,rfl⟩:∃ g',g=g'+1:=⟨g - 1,by omega⟩
  rw [cq.pl13,show decide (i<(R:Int))=true from decide_eq_true (by omega),cond_true]
  simp (disch:=omega) only [at_mk,Option.bind_some]
  by_cases h:A i k=0
  ·rw [h,show ((0:Int) != 0)=false from rfl,cond_false,bv (by omega) (by omega)]
   obtain ⟨b,e,hb⟩:=ih g (i+1) (by omega) (by omega) (by omega)
   refine ⟨b,e,hb.trans ⟨λ⟨h1,h2⟩=>⟨λa h3 h4=>?_,h2⟩,λ⟨h1,h2⟩=>⟨λa h3 h4=>h1 a (by omega) h4,h2⟩⟩⟩
   by_cases e:a=i
   ·subst e;exact h
   ·exact h1 a (by omega) h4
  ·rw [show (A i k != 0)=true from bne_iff_ne.2 h,cond_true]
   exact ⟨_,rfl,⟨λh=>(by cases h),λ⟨h1,_⟩=>absurd (h1 i (by omega) (by omega)) h⟩⟩
theorem clear_both (hR:R<=1000) (hC:C<=1000) (hF:5000000<F) (hk:0<=k) (hkR:k<R) (hkC:k<C) :
  ∃ b:Bool,dg.p F R C (mk R C A) k=some b/\cq.p F R C (mk R C A) k=some b/\(b=true↔(∀ a:Int,k<a->a<R->A a k=0)/\(∀ a:Int,k<a->a<C->A k a=0)):=by
 obtain ⟨b,e,hb⟩:=isClear_l (F:=F) (A:=A) hR hC hF hk hkR hkC (R - (k+1)).toNat F (k+1) (by omega) (by omega) (by omega)
 obtain ⟨c,e',hc⟩:=specClear_l (F:=F) (A:=A) hR hC hF hk hkR hkC (R - (k+1)).toNat F (k+1) (by omega) (by omega) (by omega)
 have:b=c:=by rw [Bool.eq_iff_iff,hb,hc]
 subst this
 unfold dg.p cq.p
 rw [bv (by omega) (by omega)]
 exact ⟨b,e,e',hb⟩
theorem idx_156 {y:List Int} (hR:R<=1000) (hC:C<=1000) (hk:0<=k) (hkR:k<R) (hkC:k<C) (hp:A k k≠0) (hy:y.length<=1000):∀ (n g:Nat) (i:Int),y.length - i=n->n<g->0<=i ->
  ∃ r,en.pl13 F g y C (mk R C A) k y.length i=some r/\(r>=0↔∃ a:Int,i<=a/\a<y.length/\Int.tmod (gt y a.toNat) (A k k)≠0):=by
 intro n
 induction n with
 | zero=>
  intro g i hn hg hi
  obtain ⟨g,rfl⟩:∃ g',g=g'+1:=⟨g - 1,by omega⟩
  rw [en.pl13,show decide (i<(y.length:Int))=false from decide_eq_false (by omega),cond_false]
  exact ⟨_,rfl,⟨λh=>absurd h (by decide),λ⟨a,h1,h2,_⟩=>by omega⟩⟩
 | succ n ih=>
  intro g i hn hg hi
  obtain ⟨g,rfl⟩:∃ g',g=g'+1:=⟨g - 1,by omega⟩
  rw [en.pl13,show decide (i<(y.length:Int))=true from decide_eq_true (by omega),cond_true]
  unfold iA.p
  rw [iG hR hC hk hkR hk hkC]
  unfold ix
  rw [if_pos (by omega),Option.bind_some,Option.bind_some,jz hk hkR hk hkC,if_neg hp,Option.bind_some]
  by_cases h:Int.tmod (gt y i.toNat) (A k k)=0
  ·rw [h,show ((0:Int) != 0)=false from rfl,cond_false,bv (by omega) (by omega)]
   obtain ⟨r,e,hr⟩:=ih g (i+1) (by omega) (by omega) (by omega)
   refine ⟨r,e,hr.trans ⟨λ⟨a,h1,h2,h3⟩=>⟨a,by omega,h2,h3⟩,λ⟨a,h1,h2,h3⟩=>?_⟩⟩
   by_cases e:a=i
   ·subst e;exact absurd h h3
   ·exact ⟨a,by omega,h2,h3⟩
  ·rw [show (Int.tmod (gt y i.toNat) (A k k) != 0)=true from bne_iff_ne.2 h,cond_true]
   exact ⟨_,rfl,⟨λ_=>⟨i,by omega,by omega,h⟩,λ_=>hi⟩⟩
theorem specOdd_in (hR:R<=1000) (hC:C<=1000) (hk:0<=k) (hkR:k<R) (hkC:k<C) (hp:A k k≠0) (hi:k<i) (hiR:i<R) {pC}:∀ (n g:Nat) (j:Int),C - j=n->n<g->k<j ->
  ((∃ b:Int,j<=b/\b<C/\Int.tmod (A i b) (A k k)≠0)/\bJ.pl213 F pC g R C (mk R C A) k i j=some i) \/
  ((∀ b:Int,j<=b->b<C->Int.tmod (A i b) (A k k)=0)/\bJ.pl213 F pC g R C (mk R C A) k i j=pC R C (mk R C A) k (i+1)):=by
 intro n
 induction n with
 | zero=>
  intro g j hn hg hj
  obtain ⟨g,rfl⟩:∃ g',g=g'+1:=⟨g - 1,by omega⟩
  rw [bJ.pl213,show decide (j<(C:Int))=false from decide_eq_false (by omega),cond_false]
  unfold bJ.pj4 bJ.pj3
  rw [bv (by omega) (by omega)]
  exact .inr ⟨λb h1 h2=>by omega,rfl⟩
 | succ n ih=>
  intro g j hn hg hj
  obtain ⟨g,rfl⟩:∃ g',g=g'+1:=⟨g - 1,by omega⟩
  rw [bJ.pl213,show decide (j<(C:Int))=true from decide_eq_true (by omega),cond_true]
  simp (disch:=omega) only [at_mk,Option.bind_some]
  rw [if_neg hp]
  by_cases h:Int.tmod (A i j) (A k k)=0
  ·rw [h,show ((0:Int) != 0)=false from rfl,cond_false,bv (by omega) (by omega)]
   rcases ih g (j+1) (by omega) (by omega) (by omega) with ⟨⟨b,h1,h2,h3⟩,e⟩ | ⟨h1,e⟩
   ·exact .inl ⟨⟨b,by omega,h2,h3⟩,e⟩
   ·refine .inr ⟨λb h3 h4=>?_,e⟩
    by_cases e:b=j
    ·subst e;exact h
    ·exact h1 b (by omega) h4
  ·rw [show (Int.tmod (A i j) (A k k) != 0)=true from bne_iff_ne.2 h,cond_true]
   exact .inl ⟨⟨j,by omega,by omega,h⟩,rfl⟩
theorem odd_l (hR:R<=1000) (hC:C<=1000) (hF:5000000<F) (hk:0<=k) (hkR:k<R) (hkC:k<C) (hp:A k k≠0):∀ (n g h:Nat) (i:Int),R - i=n->n<g->n<h->k<i ->
  ∃ r:Int,dw.pl29 F g k R C (mk R C A) i=some r/\bJ.pl13 F h R C (mk R C A) k i=some r/\((r=-1/\∀ a b:Int,i<=a->a<R->k<b->b<C->Int.tmod (A a b) (A k k)=0)\/(k<r/\r<R/\∃ b:Int,k<b/\b<C/\Int.tmod (A r b) (A k k)≠0)):=by
 intro n
 induction n with
 | zero=>
  intro g h i hn hg hh hi
  obtain ⟨g,rfl⟩:∃ g',g=g'+1:=⟨g - 1,by omega⟩
  obtain ⟨h,rfl⟩:∃ g',h=g'+1:=⟨h - 1,by omega⟩
  rw [dw.pl29,bJ.pl13,show decide (i<(R:Int))=false from decide_eq_false (by omega),cond_false,cond_false]
  exact ⟨-1,rfl,rfl,.inl ⟨rfl,λa b h1 h2=>by omega⟩⟩
 | succ n ih=>
  intro g h i hn hg hh hi
  obtain ⟨g,rfl⟩:∃ g',g=g'+1:=⟨g - 1,by omega⟩
  obtain ⟨h,rfl⟩:∃ g',h=g'+1:=⟨h - 1,by omega⟩
  rw [dw.pl29,bJ.pl13,show decide (i<(R:Int))=true from decide_eq_true (by omega),cond_true,cond_true]
  obtain ⟨x,ex,xl,xg⟩:=cutf_row (F:=F) (A:=A) (k:=i) hR hC (by omega) (by omega)
  rw [ex,Option.bind_some,bv (x:=k+1) (by omega) (by omega)]
  obtain ⟨y,ey,yl,yg⟩:=cutf_end (x:=x) (k:=k+1) (by omega) (by omega)
  rw [ey,Option.bind_some]
  unfold iB.p en.p
  obtain ⟨r,er,hr⟩:=idx_156 (F:=F) (y:=y) hR hC hk hkR hkC hp (by omega) y.length F 0 (by omega) (by omega) (by omega)
  rw [er,Option.bind_some,Option.bind_some]
  have yv:∀ a:Int,0<=a->a<y.length->gt y a.toNat=A i (k+1+a):=by
   intro a h1 h2
   rw [yg,xg _ (by omega),show (((k+1).toNat+a.toNat:Nat):Int)=k+1+a by omega]
  rcases specOdd_in (F:=F) (pC:=bJ.pl13 F h) hR hC hk hkR hkC hp hi (by omega) (C - (k+1)).toNat F (k+1) (by omega) (by omega) (by omega) with ⟨⟨b,h1,h2,h3⟩,e⟩ | ⟨h1,e⟩
  ·have:r>=0:=hr.2 ⟨b - (k+1),by omega,by omega,by rw [yv _ (by omega) (by omega),show k+1+(b - (k+1))=b by omega];exact h3⟩
   rw [decide_eq_true this,cond_true,e]
   exact ⟨i,rfl,rfl,.inr ⟨hi,by omega,b,by omega,h2,h3⟩⟩
  ·have:¬ r>=0:=by
    rw [hr]
    rintro ⟨a,h2,h3,h4⟩
    rw [yv a h2 h3] at h4
    exact h4 (h1 _ (by omega) (by omega))
   rw [decide_eq_false this,cond_false,e,bv (by omega) (by omega)]
   obtain ⟨s,f1,f2,f3⟩:=ih g h (i+1) (by omega) (by omega) (by omega) (by omega)
   refine ⟨s,f1,f2,f3.imp (λ⟨q,hq⟩=>⟨q,λa b h3 h4 h5 h6=>?_⟩) id⟩
   by_cases ea:a=i
   ·rw [ea];exact h1 b (by omega) h6
   ·exact hq a b (by omega) h4 h5 h6
theorem odd_both (hR:R<=1000) (hC:C<=1000) (hF:5000000<F) (hk:0<=k) (hkR:k<R) (hkC:k<C) (hp:A k k≠0) :
  ∃ r:Int,dw.p F R C (mk R C A) k=some r/\bJ.p F R C (mk R C A) k=some r/\((r=-1/\∀ a b:Int,k+1<=a->a<R->k<b->b<C->Int.tmod (A a b) (A k k)=0)\/(k<r/\r<R/\∃ b:Int,k<b/\b<C/\Int.tmod (A r b) (A k k)≠0)):=by
 unfold dw.p bJ.p
 rw [bv (by omega) (by omega)]
 exact odd_l hR hC hF hk hkR hkC hp (R - (k+1)).toNat F F (k+1) (by omega) (by omega) (by omega) (by omega)
end Go.Proofs.Ytokekkacliomkaa.AE
end
section
namespace Go.Proofs.Ytokekkacliomkaa.AE
open Go Go.AE Go.Proofs
variable {R C F:Nat} {A:Mat} {i j k:Int}
abbrev ir (F g R C:Nat) (u:St) (bad:Bool) (k:Int):=bw.pl3 F g R (mk R R u.l) R R (mk R R u.m) R C (mk R C u.d) C C (mk C C u.r) C (mk C C u.s) bad k
abbrev sr (F R C:Nat) (u:St) (k:Int):=bl.p F R C (mk R C u.d) R (mk R R u.l) R R (mk R R u.m) C C (mk C C u.r) C (mk C C u.s) false k
theorem ir_bad {g:Nat} {l m d r s:List Int} {c1 c3 c4 c6 c7 c9 c10 c13 k:Int}:bw.pl3 F (g+1) c1 l c3 c4 m c6 c7 d c9 c10 r c13 s true k=some (l,m,d,r,s,true):=by
 rw [bw.pl3];rfl
def Ust (R C:Nat) (k:Int) (u:St) (P:Int):Prop:=u.d k k=P/\(∀ a:Int,k<a->a<R->u.d a k=0)/\∃ b:Int,k<b/\b<C/\Int.tmod (u.d k b) P≠0
def HasLt (R C:Nat) (k:Int) (u:St) (P:Int):Prop:=∃ a b:Int,k<=a/\a<R/\k<=b/\b<C/\u.d a b≠0/\ab (u.d a b)<P
def Same (k:Int) (u v:St):Prop:=∀ a:Int,0<=a->a<k->v.d a a=u.d a a
theorem pv_same {u:St} {p q k:Int} (hp:k<=p) (hq:k<=q):Same k u (pvS u p q k):=by
 intro a _ h2
 have e:(swS u p q k).d a a=u.d a a:=by
  show swC (swR u.d p k) q k a a=_
  unfold swC swR sw
  rw [if_neg (by omega),if_neg (by omega),if_neg (by omega),if_neg (by omega)]
 unfold pvS
 split
 ·show (ngS (swS u p q k) k).d a a=_
  rw [<- e]
  unfold ngS
  simp only
  first | rw [ngR_ne (by omega)] | (unfold ngR;rw [if_neg (by omega)])
 ·exact e
theorem round_both (hR:R<=1000) (hC:C<=1000) (hF:5000000<F) (hk:0<=k) (hkR:k<R) (hkC:k<C) {u:St} (hu:u.good R C) (g:Nat) :
  ((∀ a b,k<=a->a<R->k<=b->b<C->u.d a b=0)/\ir F (g+1) R C u false k=some (mk R R u.l,mk R R u.m,mk R C u.d,mk C C u.r,mk C C u.s,false)/\sr F R C u k=some (true,true,mk R C u.d,mk R R u.l,mk R R u.m,mk C C u.r,mk C C u.s,false)) \/
  ∃ p q,SI k C u.d R k (some (p,q)) /\
   (((∃ l m d r s,ir F (g+2) R C u false k=some (l,m,d,r,s,true))/\(∃ l m d r s,sr F R C u k=some (false,false,d,l,m,r,s,true))) \/
   (∃ v:St,v.good R C/\ir F (g+1) R C u false k=ir F g R C v false k/\sr F R C u k=some (false,false,mk R C v.d,mk R R v.l,mk R R v.m,mk C C v.r,mk C C v.s,false) /\
    Same k u v/\Rch R C k u v/\(HasLt R C k v (ab (u.d p q))\/(Ust R C k v (ab (u.d p q))/\∀ b:Int,k<b->b<C->(pvS u p q k).d k b % ab (u.d p q)=0))) \/
   (∃ v:St,v.good R C/\ir F (g+1) R C u false k=ir F g R C v false (k+1)/\sr F R C u k=some (true,false,mk R C v.d,mk R R v.l,mk R R v.m,mk C C v.r,mk C C v.s,false)/\0<v.d k k/\Same k u v/\Rch R C k u v/\Clr R C k v)):=by
 unfold ir sr bl.p
 have hmin:k<(if (C:Int)<R then (C:Int) else R):=by split <;> omega
 rcases pivot_both hR hC hF hu hk hkR hkC with ⟨h0,e1,e2⟩ | ⟨p,q,hs,w,hw,hwg,hwk,e1,e2⟩
 ·left
  refine ⟨h0,?_,?_⟩
  ·rw [bw.pl3,decide_eq_true hmin]
   simp only [Bool.not_false,cond_true]
   rw [e2,Option.bind_some]
   rfl
  ·rw [e1,Option.bind_some]
   rfl
 ·right
  refine ⟨p,q,hs,?_⟩
  have hP:0<ab (u.d p q):=ab_pos.2 hs.2.1
  rw [e1,Option.bind_some]
  simp only [Bool.not_true,cond_false]
  have hI:∀ g,bw.pl3 F (g+1) R (mk R R u.l) R R (mk R R u.m) R C (mk R C u.d) C C (mk C C u.r) C (mk C C u.s) false k =
    (aU.p F R (mk R R w.l) R R (mk R R w.m) R C (mk R C w.d) C C (mk C C w.r) C (mk C C w.s) false k).bind λr3=>(bif r3.1 then (bw.pj4 F (bw.pl3 F g) R r3.2.1 R R r3.2.2.1 R C r3.2.2.2.1 C C r3.2.2.2.2.1 C r3.2.2.2.2.2 r3.1 k) else ((dg.p F R C r3.2.2.2.1 k).bind λr7=>(bif (!r7) then (bw.pj4 F (bw.pl3 F g) R r3.2.1 R R r3.2.2.1 R C r3.2.2.2.1 C C r3.2.2.2.2.1 C r3.2.2.2.2.2 r3.1 k) else ((dw.p F R C r3.2.2.2.1 k).bind λr12=>(bif (decide (r12>=0)) then ((fj.p F R r3.2.1 R R r3.2.2.1 C r3.2.2.2.1 r3.1 k r12 1).bind λr16=>bw.pj6 F (bw.pl3 F g) R r16.1 R R r16.2.1 R C r16.2.2.1 C C r3.2.2.2.2.1 C r3.2.2.2.2.2 r16.2.2.2 k) else (bw.pj6 F (bw.pl3 F g) R r3.2.1 R R r3.2.2.1 R C r3.2.2.2.1 C C r3.2.2.2.2.1 C r3.2.2.2.2.2 r3.1 (IntKind.i64.wrap (k+1)))))))):=by
   intro g
   rw [bw.pl3,decide_eq_true hmin]
   simp only [Bool.not_false,cond_true]
   rw [e2,Option.bind_some]
   rfl
  have hpv:Same k u w:=by rw [hw];exact pv_same hs.1.1 hs.1.2.1
  have hpr:Rch R C k u w:=by
   rw [hw]
   obtain ⟨s1,s2,s3,s4⟩:=hs.1
   exact .piv u p q k s1 (by omega) s2 s3 (Int.le_refl _) hkR hkC
  rcases clr_both hR hC hF hk hkR hkC hP hwg hwk with ⟨v,hv,hvr,hv0,hvk,hva,hvb,c1,c2⟩ | ⟨⟨l,m,d,r,s,c1⟩,⟨l',m',d',r',s',c2⟩⟩
  ·have c2:bl.pl29 F F R C (mk R C w.d) R (mk R R w.l) R R (mk R R w.m) C C (mk C C w.r) C (mk C C w.s) false k (IntKind.i64.wrap (k+1))=_:=c2
   rw [c2]
   simp only [c1,Option.bind_some,cond_false] at hI
   obtain ⟨b,d1,d2,hb⟩:=clear_both (F:=F) (A:=v.d) hR hC hF hk hkR hkC
   unfold s1 bl.pj1
   simp only [cond_false]
   rw [d2,Option.bind_some]
   simp only [d1,Option.bind_some] at hI
   cases b with
   | false=>
    right;left
    refine ⟨v,hv,hI g,rfl,λa h1 h2=>(hv0 a a h2 h2).trans (hpv a h1 h2),hpr.trans hvr,.inl ?_⟩
    have hn:¬ ((∀ a:Int,k<a->a<R->v.d a k=0)/\(∀ a:Int,k<a->a<C->v.d k a=0)):=λh=>by have:=hb.2 h;cases this
    rcases Classical.not_and_iff_not_or_not.1 hn with h | h
    ·obtain ⟨a,h⟩:=Classical.not_forall.1 h
     have h:=not_imp.1 h
     obtain ⟨h1,h⟩:=h
     obtain ⟨h2,h3⟩:=not_imp.1 h
     refine ⟨a,k,by omega,h2,by omega,hkC,h3,?_⟩
     have:=hva a h1 h2
     have g1:=Int.emod_nonneg (w.d a k) (Int.ne_of_gt hP)
     have g2:=Int.emod_lt_of_pos (w.d a k) hP
     unfold ab at *
     rw [if_neg (by omega)];omega
    ·obtain ⟨a,h⟩:=Classical.not_forall.1 h
     have h:=not_imp.1 h
     obtain ⟨h1,h⟩:=h
     obtain ⟨h2,h3⟩:=not_imp.1 h
     refine ⟨k,a,by omega,hkR,by omega,h2,h3,?_⟩
     have:=hvb a h1 h2
     have g1:=Int.emod_nonneg (w.d k a) (Int.ne_of_gt hP)
     have g2:=Int.emod_lt_of_pos (w.d k a) hP
     unfold ab at *
     rw [if_neg (by omega)];omega
   | true=>
    obtain ⟨z1,z2⟩:=hb.1 rfl
    obtain ⟨r,f1,f2,hr⟩:=odd_both (F:=F) (A:=v.d) hR hC hF hk hkR hkC (by rw [hvk];omega)
    simp only [Bool.not_true,cond_false]
    rw [f2,Option.bind_some]
    simp only [Bool.not_true,cond_false,f1,Option.bind_some] at hI
    rcases hr with ⟨rfl,hdv⟩ | ⟨r1,r2,b,r3,r4,r5⟩
    ·right;right
     refine ⟨v,hv,?_,rfl,by rw [hvk];exact hP,λa h1 h2=>(hv0 a a h2 h2).trans (hpv a h1 h2),hpr.trans hvr,⟨z1,z2,λa b h1 h2 h3 h4=>Int.dvd_of_tmod_eq_zero (hdv a b (by omega) h2 h3 h4)⟩⟩
     rw [hI g,show decide ((-1:Int)>=0)=false from rfl,cond_false,bv (by omega) (by omega)]
     rfl
    ·rw [decide_eq_false (show ¬ r<0 by omega),cond_false]
     simp only [decide_eq_true (show r>=0 by omega),cond_true] at hI
     obtain ⟨bad',t1,⟨x,y,z,t2,t3⟩,t4⟩:=row_both (q:=-1) hR hC hF hv hk hkR (by omega:0<=r) r2 (by omega) (by decide) (by decide)
     rw [show (- -1:Int)=1 from rfl] at *
     rw [t2,Option.bind_some]
     simp only [t1,Option.bind_some] at hI
     cases bad' with
     | true=>
      left
      refine ⟨?_,⟨_,_,_,_,_,rfl⟩⟩
      rw [hI (g+1)]
      unfold bw.pj6 bw.pj5
      exact ⟨_,_,_,_,_,ir_bad⟩
     | false=>
      obtain ⟨rfl,rfl,rfl⟩:=t3 rfl
      have t4:=t4 rfl
      right;left
      refine ⟨rowS v k r 1,rowS_good hv _ _ _,hI g,rfl,?_,(hpr.trans hvr).trans (Rch.row v k r 1 (by omega) hkR (by omega) r2 (by omega) t4.1 t4.2.1 t4.2.2),.inr ⟨⟨?_,?_,?_⟩,?_⟩⟩
      all_goals
       have key:∀ b:Int,0<=b->b<C->(rowS v k r 1).d k b=v.d k b+v.d r b * 1:=by
        intro b h1 h2
        show adR v.d k r 1 k b=_
        unfold adR
        rw [if_pos rfl]
        apply ad_fit
        exact Classical.byContradiction λhh=>t4.1 ⟨b,h1,h2,hh⟩
       have oth:∀ a b,a≠k->(rowS v k r 1).d a b=v.d a b:=by
        intro a b h1
        show adR v.d k r 1 a b=_
        unfold adR
        rw [if_neg h1]
      ·exact λa h1 h2=>(oth a a (by omega)).trans ((hv0 a a h2 h2).trans (hpv a h1 h2))
      ·rw [key k hk hkC,hvk,z1 r r1 r2];omega
      ·intro a h1 h2
       rw [oth a k (by omega)]
       exact z1 a h1 h2
      ·refine ⟨b,r3,r4,?_⟩
       rw [key b (by omega) r4,z2 b r3 r4,<-hvk]
       rw [show 0+v.d r b * 1=v.d r b by omega]
       exact r5
      ·intro b h1 h2
       rw [<- hw,<-hvb b h1 h2]
       exact z2 b h1 h2
  ·left
   have c2:bl.pl29 F F R C (mk R C w.d) R (mk R R w.l) R R (mk R R w.m) C C (mk C C w.r) C (mk C C w.s) false k (IntKind.i64.wrap (k+1))=_:=c2
   rw [c2,hI (g+1),c1,Option.bind_some]
   unfold bw.pj4
   simp only [cond_true]
   exact ⟨⟨_,_,_,_,_,ir_bad⟩,⟨_,_,_,_,_,rfl⟩⟩
end Go.Proofs.Ytokekkacliomkaa.AE
end
section
namespace Go.Proofs.Ytokekkacliomkaa.AE
open Go Go.AE Go.Proofs
variable {R C F:Nat} {A:Mat} {i j k:Int}
abbrev sd (F:Nat) pC (g R C:Nat) (u:St) (k:Int):=bf.pl938 F pC g R C R C (mk R C u.d) R R (mk R R u.l) R R (mk R R u.m) C C (mk C C u.r) C C (mk C C u.s) false k false false
abbrev sO (F g R C:Nat) (u:St) (k:Int):=bf.pl29 F g R C R C (mk R C u.d) R R (mk R R u.l) R R (mk R R u.m) C C (mk C C u.r) C C (mk C C u.s) false k
def RBad (x:Option (List Int×List Int×List Int×List Int×List Int×Bool)):Prop:=∃ l m d r s,x=some (l,m,d,r,s,true)
def SBad (x:Option (Int×Int×List Int×Int×Int×List Int×Int×Int×List Int×Int×Int×List Int×Int×Int×List Int×Bool)):Prop:=∃ a1 a2 d a3 a4 l a5 a6 m a7 a8 r a9 a10 s,x=some (a1,a2,d,a3,a4,l,a5,a6,m,a7,a8,r,a9,a10,s,true)
theorem sd_bad {pC} {g:Nat} {l m d r s:List Int} {c1 c2 a1 a2 a3 a4 a5 a6 a7 a8 a9 a10 k:Int}:SBad (bf.pl938 F pC (g+1) c1 c2 a1 a2 d a3 a4 l a5 a6 m a7 a8 r a9 a10 s true k false false):=by
 rw [bf.pl938]
 exact ⟨_,_,_,_,_,_,_,_,_,_,_,_,_,_,_,rfl⟩
theorem inner_both (hR:R<=1000) (hC:C<=1000) (hF:5000000<F) (hk:0<=k) (hkR:k<R) (hkC:k<C) {pC}:∀ (m:Nat) (u:St) (g h:Nat),u.good R C->HasLt R C k u (m+1)->2 * m+3<=g->2 * m+3<=h ->
  (RBad (ir F g R C u false k)/\SBad (sd F pC h R C u k)) \/
  (∃ v:St,v.good R C/\0<v.d k k/\Same k u v/\Rch R C k u v/\Clr R C k v/\∃ g',g<=g'+(2 * m+2)/\ir F g R C u false k=ir F g' R C v false (k+1)/\sd F pC h R C u k=pC R C R C (mk R C v.d) R R (mk R R v.l) R R (mk R R v.m) C C (mk C C v.r) C C (mk C C v.s) false (k+1)):=by
 intro m
 induction m using Nat.strongRecOn with
 | _ m ih=>
 intro u g h hu hlt hg hh
 have stepS:∀ (u:St) (h:Nat),sd F pC (h+1) R C u k=(sr F R C u k).bind λr2=>bf.pl938 F pC h R C R C r2.2.2.1 R R r2.2.2.2.1 R R r2.2.2.2.2.1 C C r2.2.2.2.2.2.1 C C r2.2.2.2.2.2.2.1 r2.2.2.2.2.2.2.2 k r2.1 r2.2.1:=by
  intro u h
  unfold sd
  rw [bf.pl938]
  rfl
 have done:∀ (v:St) (h:Nat),bf.pl938 F pC (h+1) R C R C (mk R C v.d) R R (mk R R v.l) R R (mk R R v.m) C C (mk C C v.r) C C (mk C C v.s) false k true false=pC R C R C (mk R C v.d) R R (mk R R v.l) R R (mk R R v.m) C C (mk C C v.r) C C (mk C C v.s) false (k+1):=by
  intro v h
  rw [bf.pl938]
  unfold bf.pj4 bf.pj3
  simp only [Bool.not_true,cond_false]
  rw [bv (by omega) (by omega)]
 obtain ⟨g,rfl⟩:∃ g',g=g'+3:=⟨g - 3,by omega⟩
 obtain ⟨h,rfl⟩:∃ g',h=g'+3:=⟨h - 3,by omega⟩
 rcases round_both hR hC hF hk hkR hkC hu (g+2) with ⟨h0,_,_⟩ | ⟨p,q,hs,hcase⟩
 ·obtain ⟨a,b,h1,h2,h3,h4,h5,_⟩:=hlt
  exact absurd (h0 a b h1 h2 h3 h4) h5
 ·have hP:0<ab (u.d p q):=ab_pos.2 hs.2.1
  have hPm:ab (u.d p q)<m+1:=by
   obtain ⟨a,b,h1,h2,h3,h4,h5,h6⟩:=hlt
   have:=(hs.2.2 a b ⟨h1,h3,h4,.inl h2⟩ h5).1
   omega
  generalize ab (u.d p q)=P at hP hPm hcase
  have rec_:∀ (v:St) (g h:Nat),v.good R C->HasLt R C k v P->2 * m+1<=g->2 * m+1<=h ->
    (RBad (ir F g R C v false k)/\SBad (sd F pC h R C v k)) \/
    (∃ w:St,w.good R C/\0<w.d k k/\Same k v w/\Rch R C k v w/\Clr R C k w/\∃ g',g<=g'+2 * m/\ir F g R C v false k=ir F g' R C w false (k+1)/\sd F pC h R C v k=pC R C R C (mk R C w.d) R R (mk R R w.l) R R (mk R R w.m) C C (mk C C w.r) C C (mk C C w.s) false (k+1)):=by
   intro v g h hv hl hg hh
   rcases ih (P.toNat - 1) (by omega) v g h hv (by rw [show (((P.toNat - 1:Nat):Int)+1)=P by omega];exact hl) (by omega) (by omega) with hb | ⟨w,hw,hw0,hw1,hwr,hwc,g',h1,h2,h3⟩
   ·exact .inl hb
   ·exact .inr ⟨w,hw,hw0,hw1,hwr,hwc,g',by omega,h2,h3⟩
  rcases hcase with ⟨⟨l,m',d,r,s,e1⟩,⟨l',m'',d',r',s',e2⟩⟩ | ⟨v,hv,e1,e2,hsm,hrc,hprog⟩ | ⟨v,hv,e1,e2,hpos,hsm,hrc,hcl⟩
  ·left
   refine ⟨?_,?_⟩
   ·rcases round_both hR hC hF hk hkR hkC hu (g+1) with ⟨h0,_,_⟩ | ⟨p1,q1,hs1,hcase⟩
    ·obtain ⟨a,b,h1,h2,h3,h4,h5,_⟩:=hlt
     exact absurd (h0 a b h1 h2 h3 h4) h5
    ·rcases hcase with ⟨⟨l,m',d,r,s,e1⟩,_⟩ | ⟨v,hv,_,e3,_⟩ | ⟨v,hv,_,e3,_⟩
     ·exact ⟨_,_,_,_,_,e1⟩
     ·rw [e2] at e3;simp at e3
     ·rw [e2] at e3;simp at e3
   ·rw [stepS,e2,Option.bind_some]
    exact sd_bad
  ·rw [e1,stepS,e2,Option.bind_some]
   rcases hprog with hl | ⟨⟨k1,k2,b,k3,k4,k5⟩,_⟩
   ·rcases rec_ v (g+2) (h+2) hv hl (by omega) (by omega) with hb | ⟨w,hw,hw0,hw1,hwr,hwc,g',h1,h2,h3⟩
    ·exact .inl hb
    ·exact .inr ⟨w,hw,hw0,λa h1 h2=>(hw1 a h1 h2).trans (hsm a h1 h2),hrc.trans hwr,hwc,g',by omega,h2,h3⟩
   ·by_cases hl:HasLt R C k v P
    ·rcases rec_ v (g+2) (h+2) hv hl (by omega) (by omega) with hb | ⟨w,hw,hw0,hw1,hwr,hwc,g',h1,h2,h3⟩
     ·exact .inl hb
     ·exact .inr ⟨w,hw,hw0,λa h1 h2=>(hw1 a h1 h2).trans (hsm a h1 h2),hrc.trans hwr,hwc,g',by omega,h2,h3⟩
    ·have hkk:v.d k k≠0:=by omega
     have abP:ab P=P:=by unfold ab;rw [if_neg (by omega)]
     rcases round_both hR hC hF hk hkR hkC hv (g+1) with ⟨h0,_,_⟩ | ⟨p1,q1,hs1,hcase⟩
     ·exact absurd (h0 k k (by omega) hkR (by omega) hkC) hkk
     ·obtain ⟨s1,s2,s3⟩:=hs1
      obtain ⟨t1,t2,t3,t4⟩:=s1
      have hkk3:=s3 k k ⟨by omega,by omega,hkC,.inl hkR⟩ hkk
      have hge:¬ ab (v.d p1 q1)<P:=λhh=>hl ⟨p1,q1,t1,by omega,t2,t3,s2,hh⟩
      have hpq:p1=k/\q1=k:=by
       refine Classical.byContradiction λhne=>?_
       have:=hkk3.2 (by omega)
       rw [k1,abP] at this
       exact hge this
      obtain ⟨hp1,hq1⟩:=hpq
      rw [hp1,hq1] at hcase
      have hPP:ab (v.d k k)=P:=by rw [k1,abP]
      rw [hPP] at hcase
      have hpv:pvS v k k k=swS v k k k:=by
       unfold pvS
       rw [if_neg]
       show ¬ swC (swR v.d k k) k k k k<0
       unfold swC swR sw
       simp only [if_true]
       omega
      rcases hcase with ⟨⟨l,m',d,r,s,f1⟩,⟨l',m'',d',r',s',f2⟩⟩ | ⟨w,hw,f1,f2,hsm2,hrc2,hprog⟩ | ⟨w,hw,f1,f2,hpos2,hsm2,hrc2,hcl2⟩
      ·left
       refine ⟨?_,?_⟩
       ·rcases round_both hR hC hF hk hkR hkC hv g with ⟨h0,_,_⟩ | ⟨p2,q2,hs1,hcase⟩
        ·exact absurd (h0 _ _ (by omega) hkR (by omega) hkC) hkk
        ·rcases hcase with ⟨⟨l,m',d,r,s,e1⟩,_⟩ | ⟨v,hv,_,e3,_⟩ | ⟨v,hv,_,e3,_⟩
         ·exact ⟨_,_,_,_,_,e1⟩
         ·rw [f2] at e3;simp at e3
         ·rw [f2] at e3;simp at e3
       ·show SBad (sd F pC (h+1+1) R C v k)
        rw [stepS,f2,Option.bind_some]
        exact sd_bad
      ·rcases hprog with hl2 | ⟨_,hz⟩
       ·have hx:sd F pC (h+2) R C v k=sd F pC (h+1) R C w k:=by
         show sd F pC (h+1+1) R C v k=_
         rw [stepS,f2,Option.bind_some]
        rcases rec_ w (g+1) (h+1) hw hl2 (by omega) (by omega) with hb | ⟨x,hx',hx0,hx1,hxr,hxc,g',h1,h2,h3⟩
        ·left
         refine ⟨?_,?_⟩
         ·show RBad (ir F (g+1+1) R C v false k)
          rw [f1];exact hb.1
         ·show SBad (sd F pC (h+2) R C v k)
          rw [hx];exact hb.2
        ·right
         refine ⟨x,hx',hx0,λa h1 h2=>(hx1 a h1 h2).trans ((hsm2 a h1 h2).trans (hsm a h1 h2)),(hrc.trans hrc2).trans hxr,hxc,g',by omega,?_,?_⟩
         ·exact f1.trans h2
         ·exact hx.trans h3
       ·exfalso
        have:=hz b k3 k4
        rw [hpv] at this
        have e:(swS v k k k).d k b=v.d k b:=by
         show swC (swR v.d k k) k k k b=_
         unfold swC swR sw
         grind
        rw [e] at this
        exact k5 (Int.tmod_eq_zero_of_dvd (Int.dvd_of_emod_eq_zero this))
      ·right
       refine ⟨w,hw,hpos2,λa h1 h2=>(hsm2 a h1 h2).trans (hsm a h1 h2),hrc.trans hrc2,hcl2,g+1,by omega,f1,?_⟩
       show sd F pC (h+1+1) R C v k=_
       rw [stepS,f2,Option.bind_some]
       exact done w h
  ·right
   refine ⟨v,hv,hpos,hsm,hrc,hcl,g+2,by omega,e1,?_⟩
   rw [stepS,e2,Option.bind_some]
   exact done v (h+1)
theorem run_both (hR:R<=1000) (hC:C<=1000) (hF:2000000000100<=F):∀ (n:Nat) (k:Int) (u:St) (g h:Nat),u.good R C->Stg R C k u->0<=k->(if (C:Int)<R then (C:Int) else R) - k=n->n * 2000000000100+1<=g->n+1<=h ->
  (RBad (ir F g R C u false k)/\SBad (sO F h R C u k)) \/
  (∃ v:St,v.good R C/\Same k u v/\(∀ A,Red R C A u->Red R C A v)/\Dia R C v.d/\(∀ a:Int,k<=a->a<R->a<C->0<=v.d a a)/\ir F g R C u false k=some (mk R R v.l,mk R R v.m,mk R C v.d,mk C C v.r,mk C C v.s,false) /\
   sO F h R C u k=some ((R:Int),(C:Int),mk R C v.d,(R:Int),(R:Int),mk R R v.l,(R:Int),(R:Int),mk R R v.m,(C:Int),(C:Int),mk C C v.r,(C:Int),(C:Int),mk C C v.s,false)):=by
 intro n
 induction n with
 | zero=>
  intro k u g h hu hs hk hn hg hh
  obtain ⟨g,rfl⟩:∃ g',g=g'+1:=⟨g - 1,by omega⟩
  obtain ⟨h,rfl⟩:∃ g',h=g'+1:=⟨h - 1,by omega⟩
  right
  refine ⟨u,hu,λ_ _ _=>rfl,λ_ h=>h,hs.dia hk (by by_cases c:(R:Int)<=k;exact .inl c;exact .inr (.inl (by split at hn <;> omega))),λa h1 h2 h3=>by split at hn <;> omega,?_,?_⟩
  ·unfold ir
   rw [bw.pl3,decide_eq_false (by omega)]
   rfl
  ·unfold sO
   rw [bf.pl29,decide_eq_false (by omega)]
   rfl
 | succ n ih=>
  intro k u g h hu hs hk hn hg hh
  obtain ⟨g,rfl⟩:∃ g',g=g'+1:=⟨g - 1,by omega⟩
  obtain ⟨h,rfl⟩:∃ g',h=g'+1:=⟨h - 1,by omega⟩
  have hkC:k<C:=by split at hn <;> omega
  have hkR:k<R:=by split at hn <;> omega
  have hS:sO F (h+1) R C u k=sd F (bf.pl29 F h) F R C u k:=by
   unfold sO sd
   rw [bf.pl29,decide_eq_true (by omega),cond_true]
  rw [hS]
  by_cases hz:∀ a b,k<=a->a<R->k<=b->b<C->u.d a b=0
  ·rcases round_both (F:=F) hR hC (by omega) hk hkR hkC hu g with ⟨h0,e1,e2⟩ | ⟨p1,q1,⟨⟨t1,t2,t3,t4⟩,s2,s3⟩,hcase⟩
   ·right
    refine ⟨u,hu,λ_ _ _=>rfl,λ_ h=>h,hs.dia hk (.inr (.inr hz)),λa h1 h2 h3=>by rw [hz a a h1 h2 h1 h3];omega,e1,?_⟩
    obtain ⟨f,rfl⟩:∃ g',F=g'+2:=⟨F - 2,by omega⟩
    unfold sd
    rw [bf.pl938]
    simp only [Bool.not_false,cond_true]
    have e2:bl.p (f+2) R C (mk R C u.d) R (mk R R u.l) R R (mk R R u.m) C C (mk C C u.r) C (mk C C u.s) false k=_:=e2
    rw [e2,Option.bind_some]
    rw [bf.pl938]
    rfl
   ·exact absurd (hz p1 q1 t1 (by omega) t2 t3) s2
  ·obtain ⟨M,hM⟩:∃ M:Nat,M=1000000000000:=⟨_,rfl⟩
   have hl:HasLt R C k u ((M:Int)+1):=by
    refine Classical.byContradiction λhne=>hz λa b h1 h2 h3 h4=>?_
    refine Classical.byContradiction λh5=>hne ⟨a,b,h1,h2,h3,h4,h5,?_⟩
    have:=hu.1.ab (i:=a) (j:=b) (by omega) h2 (by omega) h4
    omega
   rcases inner_both (F:=F) (pC:=bf.pl29 F h) hR hC (by omega) hk hkR hkC M u (g+1) F hu hl (by omega) (by omega) with ⟨hb1,hb2⟩ | ⟨v,hv,hv0,hv1,hvr,hvc,g',h1,h2,h3⟩
   ·exact .inl ⟨hb1,hb2⟩
   ·rw [h2,h3]
    have q1:n * 2000000000100+1<=g':=by
     rw [Nat.succ_mul] at hg
     generalize n * 2000000000100=N at *
     omega
    have q2:(if (C:Int)<R then (C:Int) else R) - (k+1)=n:=by omega
    have q3:n+1<=h:=by omega
    rcases ih (k+1) v g' h hv ((hvr.stg hk hs).next hk hkR hkC hvc (by omega)) (by omega) q2 q1 q3 with hb | ⟨w,hw,hw1,hwr,hwd,hw2,e⟩
    ·exact .inl hb
    ·refine .inr ⟨w,hw,λa h1 h2=>(hw1 a h1 (by omega)).trans (hv1 a h1 h2),λA h=>hwr A (hvr.red hk h),hwd,λa h1 h2 h3=>?_,e⟩
     by_cases ea:a=k
     ·subst ea;rw [hw1 a hk (by omega)];omega
     ·exact hw2 a (by omega) h2 h3
end Go.Proofs.Ytokekkacliomkaa.AE
end
section
namespace Go.Proofs.Ytokekkacliomkaa.AE
open Go Go.AE Go.Proofs
variable {R C F:Nat} {A:Mat} {i j k:Int}
theorem ix_of {l:List Int} (h0:0<=i) (h:i<l.length):ix l i=some i.toNat:=by
 unfold ix;rw [if_pos ⟨h0,h⟩]
def InR (x a b:Int):Prop:=a<=x/\x<=b
instance (x a b:Int):Decidable (InR x a b):=by unfold InR;infer_instance
theorem Lv {x a b:Int}:gO.p F x a b=some (decide (InR x a b)):=by
 unfold gO.p InR
 by_cases h:x>=a
 ·rw [decide_eq_true h,cond_true];congr 1;simp only [ge_iff_le] at h;simp [h]
 ·rw [decide_eq_false h,cond_false];congr 1;simp only [ge_iff_le] at h;simp [h]
theorem Lw {x a b:Int}:g_.p F x a b=some (decide (InR x a b)):=by
 unfold g_.p InR
 by_cases h:a<=x
 ·rw [decide_eq_true h,cond_true];congr 1;simp [h]
 ·rw [decide_eq_false h,cond_false];congr 1;simp [h]
end Go.Proofs.Ytokekkacliomkaa.AE
end
section
namespace Go.Proofs.Ytokekkacliomkaa.AE
open Go Go.AE Go.Proofs
variable {R C F:Nat} {A:Mat} {i j k:Int}
def okL (l:List Int) (i:Int):Prop:=∀ a:Nat,i<=a->a<l.length->InR (gt l a) (-1000000000000) 1000000000000
theorem specM_l {l:List Int} (hl:l.length<=2000000):∀ (n g:Nat) (i:Int),l.length - i=n->n<g->0<=i->∃ b,rb.pl29 F g l i=some b/\(b=true↔okL l i):=by
 intro n
 induction n with
 | zero=>
  intro g i hn hg hi
  obtain ⟨g,rfl⟩:∃ g',g=g'+1:=⟨g - 1,by omega⟩
  rw [rb.pl29,decide_eq_false (by omega),cond_false]
  exact ⟨_,rfl,⟨λ_ a h1 h2=>by omega,λ_=>rfl⟩⟩
 | succ n ih=>
  intro g i hn hg hi
  obtain ⟨g,rfl⟩:∃ g',g=g'+1:=⟨g - 1,by omega⟩
  rw [rb.pl29,decide_eq_true (by omega),cond_true,ix_of hi (by omega),Option.bind_some,Lv,Option.bind_some]
  by_cases h:InR (gt l i.toNat) (-1000000000000) 1000000000000
  ·rw [decide_eq_true h,Bool.not_true,cond_false,bv (by omega) (by omega)]
   obtain ⟨b,e,hb⟩:=ih g (i+1) (by omega) (by omega) (by omega)
   refine ⟨b,e,hb.trans ⟨λh1 a h3 h4=>?_,λh1 a h3 h4=>h1 a (by omega) h4⟩⟩
   by_cases e:a=i.toNat
   ·subst e;exact h
   ·exact h1 a (by omega) h4
  ·rw [decide_eq_false h,Bool.not_false,cond_true]
   exact ⟨_,rfl,⟨λh=>(by cases h),λh1=>absurd (h1 i.toNat (by omega) (by omega)) h⟩⟩
theorem implM_l {l:List Int} (hl:l.length<=2000000):∀ (n g:Nat) (i:Int),l.length - i=n->n<g->0<=i->∃ r:Int,dT.pl13 F g l l.length i=some r/\(¬ r>=0↔okL l i):=by
 intro n
 induction n with
 | zero=>
  intro g i hn hg hi
  obtain ⟨g,rfl⟩:∃ g',g=g'+1:=⟨g - 1,by omega⟩
  rw [dT.pl13,decide_eq_false (by omega),cond_false]
  exact ⟨_,rfl,⟨λ_ a h1 h2=>by omega,λ_=>by decide⟩⟩
 | succ n ih=>
  intro g i hn hg hi
  obtain ⟨g,rfl⟩:∃ g',g=g'+1:=⟨g - 1,by omega⟩
  unfold dT.pl13 iw.p
  rw [decide_eq_true (by omega),cond_true,ix_of hi (by omega),Option.bind_some,Lw,Option.bind_some,Option.bind_some]
  by_cases h:InR (gt l i.toNat) (-1000000000000) 1000000000000
  ·rw [decide_eq_true h,Bool.not_true,cond_false,bv (by omega) (by omega)]
   obtain ⟨b,e,hb⟩:=ih g (i+1) (by omega) (by omega) (by omega)
   refine ⟨b,e,hb.trans ⟨λh1 a h3 h4=>?_,λh1 a h3 h4=>h1 a (by omega) h4⟩⟩
   by_cases e:a=i.toNat
   ·subst e;exact h
   ·exact h1 a (by omega) h4
  ·rw [decide_eq_false h,Bool.not_false,cond_true]
   exact ⟨_,rfl,⟨λh=>absurd hi h,λh1=>absurd (h1 i.toNat (by omega) (by omega)) h⟩⟩
theorem isMatrix_both {a b:Int} {l:List Int} (hF:5000000<F) (hl:l.length<=2000000) :
  ∃ v:Bool,rb.p F a b l=some v/\eF.p F a b l=some v/\(v=true->∃ (R C:Nat) (A:Mat),a=R/\b=C/\R<=48/\C<=48/\l=mk R C A/\Bd R C A):=by
 unfold rb.p eF.p
 rw [Lv,Lv,Lw,Lw]
 simp only [Option.bind_some]
 by_cases ha:InR a 0 48
 ·rw [decide_eq_true ha]
  simp only [Bool.not_true,cond_false,cond_true]
  by_cases hb:InR b 0 48
  ·rw [decide_eq_true hb]
   simp only [Bool.not_true,cond_false,cond_true]
   unfold fY.p
   rw [Option.bind_some]
   obtain ⟨ha0,ha1⟩:=ha
   obtain ⟨hb0,hb1⟩:=hb
   obtain ⟨R,rfl⟩:=Int.eq_ofNat_of_zero_le ha0
   obtain ⟨C,rfl⟩:=Int.eq_ofNat_of_zero_le hb0
   have hm:R * C<=48 * 48:=Nat.mul_le_mul (by omega) (by omega)
   rw [<- Int.natCast_mul,bv (by omega) (by omega)]
   by_cases h:(l.length:Int)=((R * C:Nat):Int)
   ·rw [h,bne_self_eq_false,cond_false,beq_self_eq_true,cond_true]
    unfold iI.p dT.p
    obtain ⟨v,e1,h1⟩:=specM_l (F:=F) hl l.length F 0 (by omega) (by omega) (by omega)
    obtain ⟨r,e2,h2⟩:=implM_l (F:=F) hl l.length F 0 (by omega) (by omega) (by omega)
    rw [e1,e2,Option.bind_some,Option.bind_some]
    have:(!decide (r>=0))=v:=by
     rw [Bool.eq_iff_iff,h1,<-h2];simp
    rw [this]
    refine ⟨v,rfl,rfl,λhv=>⟨R,C,_,rfl,rfl,by omega,by omega,DT (by omega),?_⟩⟩
    intro i j hi0 hi hj0 hj
    obtain ⟨x,y,rfl,rfl,g1,g2,g3,g4,g5⟩:=xk hi0 hi hj0 hj
    show InR (gt l ((x:Int) * C+y).toNat) (-1000000000000) 1000000000000
    rw [g3]
    exact h1.1 hv _ (by omega) (by omega)
   ·rw [show ((l.length:Int) != ((R * C:Nat):Int))=true from bne_iff_ne.2 h,show ((l.length:Int)==((R * C:Nat):Int))=false from beq_eq_false_iff_ne.2 h]
    exact ⟨false,rfl,rfl,λh=>(by cases h)⟩
  ·rw [decide_eq_false hb]
   exact ⟨false,rfl,rfl,λh=>(by cases h)⟩
 ·rw [decide_eq_false ha]
  exact ⟨false,rfl,rfl,λh=>(by cases h)⟩
end Go.Proofs.Ytokekkacliomkaa.AE
end
section
namespace Go.Proofs.Ytokekkacliomkaa.AE
open Go Go.AE Go.Proofs
variable {R C F:Nat} {A:Mat} {i j k:Int}
theorem idM_bd {n:Nat}:Bd n n idM:=by
 intro a b _ _ _ _
 unfold idM;split <;> decide
theorem one_l {n:Nat} (hn:n<=1000):∀ (m g:Nat) (A:Mat) (i:Int),n - i=m->m<g->0<=i->(∀ a b:Int,0<=a->a<n->0<=b->b<n->A a b=if a<i then idM a b else 0) ->
  dt.pl29 F g n n n (mk n n A) i=some ((n:Int),(n:Int),mk n n idM):=by
 intro m
 induction m with
 | zero=>
  intro g A i hm hg hi hA
  obtain ⟨g,rfl⟩:∃ g',g=g'+1:=⟨g - 1,by omega⟩
  rw [dt.pl29,decide_eq_false (by omega),cond_false]
  rw [fk (A:=A) (B:=idM) (λa b h1 h2 h3 h4=>by rw [hA a b h1 h2 h3 h4,if_pos (by omega)])]
 | succ m ih=>
  intro g A i hm hg hi hA
  obtain ⟨g,rfl⟩:∃ g',g=g'+1:=⟨g - 1,by omega⟩
  rw [dt.pl29,decide_eq_true (by omega),cond_true]
  simp (disch:=omega) only [iG,mM,Option.bind_some,bv]
  refine ih g _ (i+1) (by omega) (by omega) (by omega) λa b h1 h2 h3 h4=>?_
  have:=hA a b h1 h2 h3 h4
  unfold upd idM at *
  grind
theorem mk_zero (n m:Nat):List.replicate (n * m) (0:Int)=mk n m λ_ _=>0:=by
 apply List.ext_getElem
 ·rw [kB,List.length_replicate]
 ·intro a h1 h2
  simp [mk]
theorem Dy {n:Nat} (hn:n<=1000) (hF:5000000<F):dt.p F n=some ((n:Int),(n:Int),mk n n idM):=by
 have hm:n * n<=1000 * 1000:=Nat.mul_le_mul hn hn
 unfold dt.p eH.p mkn
 rw [<- Int.natCast_mul,bv (by omega) (by omega),if_pos (by omega),Option.bind_some,Option.bind_some,Int.toNat_natCast,mk_zero]
 exact one_l hn n F _ 0 (by omega) (by omega) (by omega) λa b h1 _ _ _=>by rw [if_neg (by omega)]
theorem id_l {n:Nat} (hn:n<=1000):∀ (m g:Nat) (A:Mat) (i:Int),n - i=m->m<g->0<=i->(∀ a b:Int,0<=a->a<n->0<=b->b<n->A a b=if a<i then idM a b else 0) ->
  dC.pl29 F g n n (mk n n A) n i=some ((n:Int),(n:Int),mk n n idM):=by
 intro m
 induction m with
 | zero=>
  intro g A i hm hg hi hA
  obtain ⟨g,rfl⟩:∃ g',g=g'+1:=⟨g - 1,by omega⟩
  rw [dC.pl29,decide_eq_false (by omega),cond_false]
  rw [fk (A:=A) (B:=idM) (λa b h1 h2 h3 h4=>by rw [hA a b h1 h2 h3 h4,if_pos (by omega)])]
 | succ m ih=>
  intro g A i hm hg hi hA
  obtain ⟨g,rfl⟩:∃ g',g=g'+1:=⟨g - 1,by omega⟩
  rw [dC.pl29,decide_eq_true (by omega),cond_true]
  simp (disch:=omega) only [iG,mM,Option.bind_some,bv]
  refine ih g _ (i+1) (by omega) (by omega) (by omega) λa b h1 h2 h3 h4=>?_
  have:=hA a b h1 h2 h3 h4
  unfold upd idM at *
  grind
theorem Dz {n:Nat} (hn:n<=1000) (hF:5000000<F):dC.p F n=some ((n:Int),(n:Int),mk n n idM):=by
 have hm:n * n<=1000 * 1000:=Nat.mul_le_mul hn hn
 unfold dC.p fH.p mkn
 rw [<- Int.natCast_mul,bv (by omega) (by omega),if_pos (by omega),Option.bind_some,Option.bind_some,Int.toNat_natCast,mk_zero]
 exact id_l hn n F _ 0 (by omega) (by omega) (by omega) λa b h1 _ _ _=>by rw [if_neg (by omega)]
theorem smith_both (hR:R<=48) (hC:C<=48) (hF:1000000000000000<=F) (hb:Bd R C A) :
  (gN.p F R C (mk R C A)=some (0,0,([]:List Int),0,0,([]:List Int),0,0,([]:List Int),0,0,([]:List Int),0,0,([]:List Int),3)/\SBad (bf.p F R C (mk R C A))) \/
  (∃ v:St,v.good R C/\Red R C A v/\Dia R C v.d/\(∀ a:Int,0<=a->a<R->a<C->0<=v.d a a)/\gN.p F R C (mk R C A)=some ((R:Int),(R:Int),mk R R v.l,(R:Int),(R:Int),mk R R v.m,(R:Int),(C:Int),mk R C v.d,(C:Int),(C:Int),mk C C v.r,(C:Int),(C:Int),mk C C v.s,0) /\
   bf.p F R C (mk R C A)=some ((R:Int),(C:Int),mk R C v.d,(R:Int),(R:Int),mk R R v.l,(R:Int),(R:Int),mk R R v.m,(C:Int),(C:Int),mk C C v.r,(C:Int),(C:Int),mk C C v.s,false)):=by
 have hm:R * C<=48 * 48:=Nat.mul_le_mul hR hC
 unfold gN.p bf.p iy.p jQ.p apn bw.p
 rw [if_pos (by rw [kB];simp;omega),List.nil_append,Dy (by omega) (by omega),Dy (by omega) (by omega),Dz (by omega) (by omega),Dz (by omega) (by omega)]
 simp only [Option.bind_some]
 obtain ⟨n,hn⟩:∃ n:Nat,(if (C:Int)<R then (C:Int) else R) - 0=n:=⟨(if (C:Int)<R then (C:Int) else R).toNat,by split <;> omega⟩
 have hn48:n<=48:=by split at hn <;> omega
 have q1:n * 2000000000100+1<=F:=by omega
 rcases run_both (F:=F) (R:=R) (C:=C) (by omega) (by omega) (by omega) n 0 ⟨A,idM,idM,idM,idM⟩ F F ⟨hb,idM_bd,idM_bd,idM_bd,idM_bd⟩ Stg.zero (by omega) hn q1 (by omega) with ⟨⟨l,m,d,r,s,e1⟩,e2⟩ | ⟨v,hv,_,hre,hdi,hv2,e1,e2⟩
 ·left
  have e1:bw.pl3 F F R (mk R R idM) R R (mk R R idM) R C (mk R C A) C C (mk C C idM) C (mk C C idM) false 0=_:=e1
  rw [e1]
  exact ⟨rfl,e2⟩
 ·right
  have e1:bw.pl3 F F R (mk R R idM) R R (mk R R idM) R C (mk R C A) C C (mk C C idM) C (mk C C idM) false 0=_:=e1
  rw [e1]
  exact ⟨v,hv,hre A Red.start,hdi,λa h1 h2 h3=>hv2 a h1 h2 h3,rfl,e2⟩
end Go.Proofs.Ytokekkacliomkaa.AE
end
section
namespace Go.Proofs.Ytokekkacliomkaa.AE
open Go Go.AE Go.Proofs
variable {R C F:Nat} {A:Mat} {i j k:Int}
end Go.Proofs.Ytokekkacliomkaa.AE
end
section
namespace Go.Proofs.Ytokekkacliomkaa.AE
open Go Go.AE Go.Proofs
variable {R C F:Nat} {A:Mat} {i j k:Int}
end Go.Proofs.Ytokekkacliomkaa.AE
end
section
namespace Go.Proofs.Ytokekkacliomkaa.AE
open Go Go.AE Go.Proofs
variable {R C F:Nat} {A:Mat} {i j k:Int}
def tor (l:List Int):List Int:=l.filter λx=>x != 1
theorem gt_at {l:List Int} {n:Nat} {x:Int} (h:l[n]?=some x):gt l n=x:=by
 unfold gt
 obtain ⟨hn,e⟩:=List.getElem?_eq_some_iff.1 h
 simp [h]
theorem ix_nat {α:Type} {l:List α} {n:Nat} (h:n<l.length):ix l (n:Int)=some n:=by
 unfold ix;rw [if_pos ⟨by omega,by omega⟩];rfl
theorem find_l {l:List Int} (hl:l.length<=1000):∀ (m g:Nat) (n:Nat),l.length - n=m->m<g->n<=l.length ->
  (dQ.pl13 F g l l.length (n:Int)=some (-1)/\∀ d∈l.drop n,d≠1) \/
  ∃ r:Nat,dQ.pl13 F g l l.length (n:Int)=some (r:Int)/\n<=r/\r<l.length/\gt l r=1/\∀ d∈(l.take r).drop n,d≠1:=by
 intro m
 induction m with
 | zero=>
  intro g n hm hg hn
  obtain ⟨g,rfl⟩:∃ g',g=g'+1:=⟨g - 1,by omega⟩
  left
  rw [dQ.pl13,decide_eq_false (by omega),cond_false,List.drop_eq_nil_of_le (by omega)]
  exact ⟨rfl,by simp⟩
 | succ m ih=>
  intro g n hm hg hn
  obtain ⟨g,rfl⟩:∃ g',g=g'+1:=⟨g - 1,by omega⟩
  have hn':n<l.length:=by omega
  have hd:l.drop n=l[n]::l.drop (n+1):=List.drop_eq_getElem_cons hn'
  have hg1:gt l n=l[n]:=gt_at (List.getElem?_eq_getElem hn')
  rw [dQ.pl13,decide_eq_true (by omega),cond_true,ix_nat hn',Option.bind_some,hg1]
  unfold gC.p
  rw [Option.bind_some]
  by_cases h:l[n]=1
  ·right
   refine ⟨n,?_,Nat.le_refl _,hn',by rw [hg1,h],?_⟩
   ·rw [show (l[n]==1)=true by simpa using h,cond_true]
   ·rw [List.drop_eq_nil_of_le (by rw [List.length_take];omega)];simp
  ·rw [show (l[n]==1)=false by simpa using h,cond_false,bv (by omega) (by omega),show ((n:Int)+1)=((n+1:Nat):Int) by omega]
   rcases ih g (n+1) (by omega) (by omega) (by omega) with ⟨e,q⟩ | ⟨r,e,h1,h2,h3,q⟩
   ·left
    refine ⟨e,λd hd'=>?_⟩
    rw [hd] at hd'
    rcases List.mem_cons.1 hd' with rfl | hd'
    ·exact h
    ·exact q d hd'
   ·right
    refine ⟨r,e,by omega,h2,h3,λd hd'=>?_⟩
    have e2:(l.take r).drop n=l[n]::(l.take r).drop (n+1):=by
     rw [List.drop_eq_getElem_cons (by rw [List.length_take];omega)]
     congr 1
     rw [List.getElem_take]
    rw [e2] at hd'
    rcases List.mem_cons.1 hd' with rfl | hd'
    ·exact h
    ·exact q d hd'
theorem tor_all {l:List Int} (h:∀ d∈l,d≠1):tor l=l:=by
 unfold tor
 rw [List.filter_eq_self]
 intro d hd
 simpa using h d hd
theorem del_l:∀ (m g:Nat) (l:List Int) (i n:Nat),l.length<=1000->l.length - n=m->m<g->i<=n->n<=l.length ->
  ∃ x,cJ.pl61 F g l (i:Int) (n:Int)=some x/\x=l.take i++tor (l.drop n):=by
 intro m
 induction m with
 | zero=>
  intro g l i n hl hm hg hi hn
  obtain ⟨g,rfl⟩:∃ g',g=g'+1:=⟨g - 1,by omega⟩
  rw [cJ.pl61,decide_eq_false (by omega),cond_false,List.drop_eq_nil_of_le (by omega)]
  unfold cJ.pj2 cutf
  rw [if_pos (by constructor <;> omega),Option.bind_some]
  exact ⟨_,rfl,by simp [tor]⟩
 | succ m ih=>
  intro g l i n hl hm hg hi hn
  obtain ⟨g,rfl⟩:∃ g',g=g'+1:=⟨g - 1,by omega⟩
  have hn':n<l.length:=by omega
  have hd:l.drop n=l[n]::l.drop (n+1):=List.drop_eq_getElem_cons hn'
  have hg1:gt l n=l[n]:=gt_at (List.getElem?_eq_getElem hn')
  rw [cJ.pl61,decide_eq_true (by omega),cond_true,ix_nat hn',Option.bind_some,hg1]
  unfold gC.p cJ.pj3
  rw [Option.bind_some,bv (x:=(n:Int)+1) (by omega) (by omega),show ((n:Int)+1)=((n+1:Nat):Int) by omega]
  by_cases h:l[n]=1
  ·rw [show (l[n]==1)=true by simpa using h,Bool.not_true,cond_false]
   obtain ⟨x,e,ex⟩:=ih g l i (n+1) hl (by omega) (by omega) (by omega) (by omega)
   refine ⟨x,e,?_⟩
   rw [ex,hd]
   simp [tor,h]
  ·rw [show (l[n]==1)=false by simpa using h,Bool.not_false,cond_true,ix_nat (by omega),Option.bind_some,Option.bind_some,bv (by omega) (by omega),show ((i:Int)+1)=((i+1:Nat):Int) by omega]
   obtain ⟨x,e,ex⟩:=ih g (l.set i l[n]) (i+1) (n+1) (by rw [List.length_set];exact hl) (by rw [List.length_set];omega) (by omega) (by omega) (by rw [List.length_set];omega)
   refine ⟨x,e,?_⟩
   rw [ex,hd,List.drop_set_of_lt (by omega),List.take_add_one,List.take_set_of_le (by omega),List.getElem?_set_self (by omega)]
   simp only [tor,List.filter_cons]
   rw [if_pos (by simpa using h),Option.toList_some,List.append_assoc];rfl
theorem UW {l:List Int} (hF:5000<F) (hl:l.length<=1000):iL.p F l=some (tor l):=by
 unfold iL.p cJ.p dQ.p
 rcases find_l (F:=F) hl l.length F 0 (by omega) (by omega) (by omega) with ⟨e,q⟩ | ⟨r,e,h1,h2,h3,q⟩
 ·rw [show (0:Int)=((0:Nat):Int) from rfl,e,Option.bind_some]
  rw [List.drop_zero] at q
  rw [tor_all q];rfl
 ·rw [show (0:Int)=((0:Nat):Int) from rfl,e,Option.bind_some,show ((r:Int)==-1)=false by simp,cond_false,bv (by omega) (by omega),show ((r:Int)+1)=((r+1:Nat):Int) by omega]
  obtain ⟨x,e2,ex⟩:=del_l (F:=F) (l.length - (r+1)) F l r (r+1) hl rfl (by omega) (by omega) (by omega)
  rw [e2,Option.bind_some,ex]
  congr 1
  rw [List.drop_zero] at q
  have h4:l=l.take r++l[r]::l.drop (r+1):=by rw [<- List.drop_eq_getElem_cons h2,List.take_append_drop]
  have h5:l[r]=1:=by rw [<- h3];exact (gt_at (List.getElem?_eq_getElem h2)).symm
  conv=>rhs;rw [h4]
  unfold tor
  rw [List.filter_append,List.filter_cons,h5]
  have:=tor_all q
  unfold tor at this
  rw [this]
  simp
theorem tor_len {l:List Int}:(tor l).length<=l.length:=List.length_filter_le _ _
end Go.Proofs.Ytokekkacliomkaa.AE
end
section
namespace Go.Proofs.Ytokekkacliomkaa.AE
open Go Go.AE Go.Proofs
variable {R K C F:Nat} {A B X:Mat} {i j k:Int}
def okm1 (x y:Int):Prop:=ab (x * y)<=1000000000000
instance (x y:Int):Decidable (okm1 x y):=by unfold okm1;infer_instance
theorem ae0 {x y:Int} (hx:ab x<=4000000000000) (hy:ab y<=4000000000000):gZ.p F x y 1000000000000=some (if okm1 x y then (x * y,true) else (0,false)):=by
 have bx:=ab_bd hx
 have by_:=ab_bd hy
 have n1:=ab_nn x
 unfold gZ.p
 by_cases h:x=0
 ·subst h
  have:okm1 0 y:=by unfold okm1 ab;rw [Int.zero_mul];decide
  rw [if_pos this,show ((0:Int) != 0)=false from rfl,cond_false,Int.zero_mul,bv (by omega) (by omega)]
 ·rw [show (x != 0)=true from bne_iff_ne.2 h,cond_true,pV (by omega) (by omega),Option.bind_some,pV (by omega) (by omega),Option.bind_some]
  have hp:0<ab x:=by unfold ab;split <;> omega
  have bd:=tdiv_bd (m:=1000000000000) (u:=ab x) (by omega) (by omega)
  rw [if_neg (by omega),bv (by omega) (by omega)]
  have key:ab y>Int.tdiv 1000000000000 (ab x)↔¬ okm1 x y:=by
   rw [gt_div hp (by omega),okm1,ab_mul];omega
  by_cases ho:okm1 x y
  ·rw [decide_eq_false (λh=>(key.1 h) ho),cond_false,if_pos ho]
   have:=ab_bd ho
   rw [bv (by omega) (by omega)]
  ·rw [decide_eq_true (key.2 ho),cond_true,if_neg ho]
theorem ae1 {x y:Int} (hx:ab x<=4000000000000) (hy:ab y<=4000000000000):fE.p F x y 1000000000000=some (if okm1 x y then (x * y,true) else (0,false)):=by
 have bx:=ab_bd hx
 have by_:=ab_bd hy
 have n1:=ab_nn x
 unfold fE.p
 by_cases h:x=0
 ·subst h
  have:okm1 0 y:=by unfold okm1 ab;rw [Int.zero_mul];decide
  rw [if_pos this,show ((0:Int) != 0)=false from rfl,cond_false,Int.zero_mul,bv (by omega) (by omega)]
 ·rw [show (x != 0)=true from bne_iff_ne.2 h,cond_true,ph (by omega) (by omega),Option.bind_some,ph (by omega) (by omega),Option.bind_some]
  have hp:0<ab x:=by unfold ab;split <;> omega
  have bd:=tdiv_bd (m:=1000000000000) (u:=ab x) (by omega) (by omega)
  rw [if_neg (by omega),bv (by omega) (by omega)]
  have key:ab y>Int.tdiv 1000000000000 (ab x)↔¬ okm1 x y:=by
   rw [gt_div hp (by omega),okm1,ab_mul];omega
  by_cases ho:okm1 x y
  ·rw [decide_eq_false (λh=>(key.1 h) ho),cond_false,if_pos ho]
   have:=ab_bd ho
   rw [bv (by omega) (by omega)]
  ·rw [decide_eq_true (key.2 ho),cond_true,if_neg ho]
def dts (A B:Mat) (i j:Int):Nat->Int->Int
 | 0,_=>0
 | n+1,k=>A i k * B k j+dts A B i j n (k+1)
theorem entry_both (hR:R<=48) (hK:K<=48) (hC:C<=48) (hA:Bd R K A) (hB:Bd K C B) (hi0:0<=i) (hi:i<R) (hj0:0<=j) (hj:j<C) {p1 p2} {ol:List Int}:∀ (n g h:Nat) (s t k:Int),K - k=n->n<g->n<h->0<=k->ab s<=t->t<=1000000000000 ->
  (dz.pl29 F g i j K (mk R K A) C (mk K C B) s t K k=some (0,false)/\fG.pl30037 F p1 p2 h R K (mk R K A) C (mk K C B) R C ol i j s t k=some (0,0,[],false)) \/
  (ab (s+dts A B i j n k)<=1000000000000/\dz.pl29 F g i j K (mk R K A) C (mk K C B) s t K k=some (s+dts A B i j n k,true) /\
   fG.pl30037 F p1 p2 h R K (mk R K A) C (mk K C B) R C ol i j s t k=fG.pj12 F p2 R K (mk R K A) C (mk K C B) R C ol i j (s+dts A B i j n k)):=by
 intro n
 induction n with
 | zero=>
  intro g h s t k hn hg hh hk hs ht
  obtain ⟨g,rfl⟩:∃ g',g=g'+1:=⟨g - 1,by omega⟩
  obtain ⟨h,rfl⟩:∃ g',h=g'+1:=⟨h - 1,by omega⟩
  right
  rw [dz.pl29,fG.pl30037,decide_eq_false (by omega),cond_false,cond_false,dts,Int.add_zero]
  exact ⟨by omega,rfl,rfl⟩
 | succ n ih=>
  intro g h s t k hn hg hh hk hs ht
  obtain ⟨g,rfl⟩:∃ g',g=g'+1:=⟨g - 1,by omega⟩
  obtain ⟨h,rfl⟩:∃ g',h=g'+1:=⟨h - 1,by omega⟩
  rw [dz.pl29,fG.pl30037,decide_eq_true (by omega),cond_true,cond_true]
  have ba:=hA.ab (i:=i) (j:=k) hi0 hi hk (by omega)
  have bb:=hB.ab (i:=k) (j:=j) hk (by omega) hj0 hj
  simp (disch:=omega) only [at_mk,iG,jz,Option.bind_some]
  rw [ae1 (by omega) (by omega),ae0 (by omega) (by omega),Option.bind_some,Option.bind_some]
  by_cases ho:okm1 (A i k) (B k j)
  ·rw [if_pos ho]
   simp only [Bool.not_true,cond_false]
   have ho:ab (A i k * B k j)<=1000000000000:=ho
   have b0:=ab_bd ho
   have b1:=ab_nn (A i k * B k j)
   have bs:=ab_bd hs
   have bst:0<=t:=by have:=ab_nn s;omega
   rw [pV (by omega) (by omega),ph (by omega) (by omega),Option.bind_some,Option.bind_some,bv (x:=t+ab (A i k * B k j)) (by omega) (by omega)]
   by_cases hl:t+ab (A i k * B k j)>1000000000000
   ·rw [decide_eq_true hl,cond_true,cond_true];exact .inl ⟨rfl,rfl⟩
   ·rw [decide_eq_false hl,cond_false,cond_false,bv (x:=k+1) (by omega) (by omega),bv (x:=s+A i k * B k j) (by omega) (by omega)]
    rw [dts,<-Int.add_assoc]
    exact ih g h (s+A i k * B k j) (t+ab (A i k * B k j)) (k+1) (by omega) (by omega) (by omega) (by omega) (by unfold ab at *;split <;> split at hs <;> split <;> omega) (by omega)
  ·rw [if_neg ho]
   simp only [Bool.not_false,cond_true]
   rw [pV (by omega) (by omega),ph (by omega) (by omega)]
   exact .inl ⟨rfl,rfl⟩
theorem row_mul (hR:R<=48) (hK:K<=48) (hC:C<=48) (hF:5000<F) (hA:Bd R K A) (hB:Bd K C B) (hi0:0<=i) (hi:i<R) {p1 p2}:∀ (n g h:Nat) (X:Mat) (j:Int),C - j=n->n<g->n<h->0<=j ->
  (bI.pl3931 F p1 g K (mk R K A) C (mk K C B) R C (mk R C X) R i i C j=some (0,0,[],3)/\fG.pl469 F p2 h R K (mk R K A) C (mk K C B) R C (mk R C X) i j=some (0,0,[],false)) \/
  ∃ Y:Mat,(∀ a b:Int,Y a b=if a=i/\j<=b/\b<C then dts A B i b K 0 else X a b)/\(∀ b:Int,j<=b->b<C->ab (Y i b)<=1000000000000) /\
   bI.pl3931 F p1 g K (mk R K A) C (mk K C B) R C (mk R C X) R i i C j=p1 K (mk R K A) C (mk K C B) R C (mk R C Y) R (i+1) /\
   fG.pl469 F p2 h R K (mk R K A) C (mk K C B) R C (mk R C X) i j=p2 R K (mk R K A) C (mk K C B) R C (mk R C Y) (i+1):=by
 intro n
 induction n with
 | zero=>
  intro g h X j hn hg hh hj
  obtain ⟨g,rfl⟩:∃ g',g=g'+1:=⟨g - 1,by omega⟩
  obtain ⟨h,rfl⟩:∃ g',h=g'+1:=⟨h - 1,by omega⟩
  right
  refine ⟨X,λa b=>by rw [if_neg (by omega)],λb h1 h2=>by omega,?_,?_⟩
  ·rw [bI.pl3931,decide_eq_false (by omega),cond_false]
   unfold bI.pj4 bI.pj3
   rw [bv (by omega) (by omega)]
  ·rw [fG.pl469,decide_eq_false (by omega),cond_false]
   unfold fG.pj10 fG.pj9
   rw [bv (by omega) (by omega)]
 | succ n ih=>
  intro g h X j hn hg hh hj
  obtain ⟨g,rfl⟩:∃ g',g=g'+1:=⟨g - 1,by omega⟩
  obtain ⟨h,rfl⟩:∃ g',h=g'+1:=⟨h - 1,by omega⟩
  have hjC:j<C:=by omega
  rw [bI.pl3931,decide_eq_true (by omega),cond_true,fG.pl469,decide_eq_true (by omega),cond_true]
  unfold dz.p
  rcases entry_both (F:=F) (p1:=p2) (p2:=fG.pl469 F p2 h) (ol:=mk R C X) hR hK hC hA hB hi0 hi hj hjC K F F 0 0 0 (by omega) (by omega) (by omega) (by omega) (by decide) (by omega) with ⟨e1,e2⟩ | ⟨e0,e1,e2⟩
  ·rw [e1,e2];exact .inl ⟨rfl,rfl⟩
  ·rw [Int.zero_add] at e0 e1 e2
   rw [e1,e2]
   unfold fG.pj12 fG.pj11
   simp (disch:=omega) only [iG,mM,Option.bind_some,Bool.not_true,cond_false]
   rw [bv (x:=j+1) (by omega) (by omega)]
   rcases ih g h (upd X i j (dts A B i j K 0)) (j+1) (by omega) (by omega) (by omega) (by omega) with hb | ⟨Y,h1,h2,h3,h4⟩
   ·exact .inl hb
   ·right
    have hY:∀ a b:Int,Y a b=if a=i/\j<=b/\b<C then dts A B i b K 0 else X a b:=λa b=>by
     rw [h1]
     by_cases c1:a=i/\j+1<=b/\b<C
     ·rw [if_pos c1,if_pos ⟨c1.1,by omega,c1.2.2⟩]
     ·rw [if_neg c1]
      by_cases c2:a=i/\b=j
      ·obtain ⟨rfl,rfl⟩:=c2;rw [DR,if_pos ⟨rfl,Int.le_refl _,hjC⟩]
      ·rw [kL _ _ c2,if_neg (by omega)]
    refine ⟨Y,hY,λb h5 h6=>?_,h3,h4⟩
    by_cases e:b=j
    ·subst e;rw [hY,if_pos ⟨rfl,h5,h6⟩];exact e0
    ·exact h2 b (by omega) h6
theorem mul_l (hR:R<=48) (hK:K<=48) (hC:C<=48) (hF:5000<F) (hA:Bd R K A) (hB:Bd K C B):∀ (n g h:Nat) (X:Mat) (i:Int),R - i=n->n<g->n<h->0<=i ->
  (bI.pl61 F g K (mk R K A) C (mk K C B) R C (mk R C X) R i=some (0,0,[],3)/\fG.pl29 F h R K (mk R K A) C (mk K C B) R C (mk R C X) i=some (0,0,[],false)) \/
  ∃ Y:Mat,(∀ a b:Int,Y a b=if i<=a/\a<R/\0<=b/\b<C then dts A B a b K 0 else X a b)/\(∀ a b:Int,i<=a->a<R->0<=b->b<C->ab (Y a b)<=1000000000000) /\
   bI.pl61 F g K (mk R K A) C (mk K C B) R C (mk R C X) R i=some ((R:Int),(C:Int),mk R C Y,0) /\
   fG.pl29 F h R K (mk R K A) C (mk K C B) R C (mk R C X) i=some ((R:Int),(C:Int),mk R C Y,true):=by
 intro n
 induction n with
 | zero=>
  intro g h X i hn hg hh hi
  obtain ⟨g,rfl⟩:∃ g',g=g'+1:=⟨g - 1,by omega⟩
  obtain ⟨h,rfl⟩:∃ g',h=g'+1:=⟨h - 1,by omega⟩
  right
  refine ⟨X,λa b=>by rw [if_neg (by omega)],λa b h1 h2=>by omega,?_,?_⟩
  ·rw [bI.pl61,decide_eq_false (by omega)];rfl
  ·rw [fG.pl29,decide_eq_false (by omega)];rfl
 | succ n ih=>
  intro g h X i hn hg hh hi
  obtain ⟨g,rfl⟩:∃ g',g=g'+1:=⟨g - 1,by omega⟩
  obtain ⟨h,rfl⟩:∃ g',h=g'+1:=⟨h - 1,by omega⟩
  rw [bI.pl61,decide_eq_true (by omega),cond_true,fG.pl29,decide_eq_true (by omega),cond_true]
  rcases row_mul (F:=F) (p1:=bI.pl61 F g) (p2:=fG.pl29 F h) hR hK hC hF hA hB hi (by omega:i<R) C F F X 0 (by omega) (by omega) (by omega) (by omega) with hb | ⟨Y,h1,h2,h3,h4⟩
  ·exact .inl hb
  ·rw [h3,h4]
   rcases ih g h Y (i+1) (by omega) (by omega) (by omega) (by omega) with hb | ⟨Z,k1,k2,k3,k4⟩
   ·exact .inl hb
   ·right
    have hZ:∀ a b:Int,Z a b=if i<=a/\a<R/\0<=b/\b<C then dts A B a b K 0 else X a b:=λa b=>by
     rw [k1]
     by_cases c1:i+1<=a/\a<R/\0<=b/\b<C
     ·rw [if_pos c1,if_pos ⟨by omega,c1.2⟩]
     ·rw [if_neg c1,h1]
      by_cases c2:a=i/\0<=b/\b<C
      ·obtain ⟨rfl,c3,c4⟩:=c2;rw [if_pos ⟨rfl,c3,c4⟩,if_pos ⟨by omega,by omega,c3,c4⟩]
      ·rw [if_neg c2,if_neg (by omega)]
    refine ⟨Z,hZ,λa b h5 h6 h7 h8=>?_,k3,k4⟩
    by_cases e:a=i
    ·subst e
     rw [k1,if_neg (by omega)];exact h2 b h7 h8
    ·exact k2 a b (by omega) h6 h7 h8
theorem zero_mk (hR:R<=48) (hC:C<=48):mkn (IntKind.i64.wrap ((R:Int) * C)) (0:Int)=some (mk R C λ_ _=>0):=by
 have hm:R * C<=48 * 48:=Nat.mul_le_mul hR hC
 have e:((R:Int) * C)=((R * C:Nat):Int):=by rw [Int.natCast_mul]
 rw [e,bv (by omega) (by omega)]
 unfold mkn
 rw [if_pos (by constructor <;> omega),Int.toNat_natCast]
 congr 1
 unfold mk
 rw [List.map_const']
 simp only [List.length_range]
theorem mul_both (hR:R<=48) (hK:K<=48) (hC:C<=48) (hF:5000<F) (hA:Bd R K A) (hB:Bd K C B) :
  ((fH.p F R C).bind (λr23=>bI.pl61 F F K (mk R K A) C (mk K C B) r23.1 r23.2.1 r23.2.2 R 0)=some (0,0,[],3)/\fG.p F R K (mk R K A) C (mk K C B)=some (0,0,[],false)) \/
  ∃ Y:Mat,(∀ a b:Int,0<=a->a<R->0<=b->b<C->Y a b=dts A B a b K 0)/\Bd R C Y/\(fH.p F R C).bind (λr23=>bI.pl61 F F K (mk R K A) C (mk K C B) r23.1 r23.2.1 r23.2.2 R 0)=some ((R:Int),(C:Int),mk R C Y,0) /\
   fG.p F R K (mk R K A) C (mk K C B)=some ((R:Int),(C:Int),mk R C Y,true):=by
 unfold fH.p fG.p eH.p
 rw [zero_mk hR hC]
 simp only [Option.bind_some]
 rcases mul_l (F:=F) hR hK hC hF hA hB R F F (λ_ _=>0) 0 (by omega) (by omega) (by omega) (by omega) with hb | ⟨Y,h1,h2,h3,h4⟩
 ·exact .inl hb
 ·exact .inr ⟨Y,λa b k1 k2 k3 k4=>by rw [h1,if_pos ⟨k1,k2,k3,k4⟩],λa b k1 k2 k3 k4=>ab_bd (h2 a b k1 k2 k3 k4),h3,h4⟩
end Go.Proofs.Ytokekkacliomkaa.AE
end
section
namespace Go.Proofs.Ytokekkacliomkaa.AE
open Go Go.AE Go.Proofs
variable {R C F:Nat} {A:Mat}
structure FV (R C:Nat) (A:Mat) (y:List Int):Prop where
 r:y.length<=R
 c:y.length<=C
 v:∀ a:Nat,a<y.length->y[a]?=some (A a a)/\0<A a a/\A a a<=1000000000000
 z:∀ a:Int,(y.length:Int)<=a->a<R->a<C->A a a=0
theorem facs_0 (hR:R<=48) (hC:C<=48) {n0:Int} (hn:n0=if (C:Int)<R then (C:Int) else R) {x:List Int}:∀ (m g:Nat) (i:Int),n0 - i=m->m<g->0<=i->(∀ a:Int,i<=a->a<R->a<C->A a a=0) ->
  ct.pl125 F g C (mk R C A) x n0 i=some (x,0):=by
 intro m
 induction m with
 | zero=>
  intro g i hm hg hi hz
  obtain ⟨g,rfl⟩:∃ g',g=g'+1:=⟨g - 1,by omega⟩
  rw [ct.pl125,decide_eq_false (by omega),cond_false]
 | succ m ih=>
  intro g i hm hg hi hz
  obtain ⟨g,rfl⟩:∃ g',g=g'+1:=⟨g - 1,by omega⟩
  have h48:n0<=C/\n0<=R:=by rw [hn];split <;> omega
  rw [ct.pl125,decide_eq_true (by omega),cond_true]
  simp (disch:=omega) only [iG,jz,Option.bind_some]
  rw [hz i (by omega) (by omega) (by omega),show ((0:Int) != 0)=false from rfl,cond_false]
  unfold ct.pj2
  rw [bv (by omega) (by omega)]
  exact ih g (i+1) (by omega) (by omega) (by omega) λa h1=>hz a (by omega)
theorem facs_l (hR:R<=48) (hC:C<=48) (hD:Dia R C A) (hb:Bd R C A) {n0:Int} (hn:n0=if (C:Int)<R then (C:Int) else R):∀ (m g:Nat) (x:List Int),n0 - x.length=m->m<g ->
  (∀ a:Nat,a<x.length->x[a]?=some (A a a)/\0<A a a/\A a a<=1000000000000)->∃ y,ct.pl125 F g C (mk R C A) x n0 x.length=some (y,0)/\FV R C A y:=by
 intro m
 have h48:n0<=C/\n0<=R/\((C:Int)<=n0\/(R:Int)<=n0):=by rw [hn];split <;> omega
 induction m with
 | zero=>
  intro g x hm hg hx
  obtain ⟨g,rfl⟩:∃ g',g=g'+1:=⟨g - 1,by omega⟩
  rw [ct.pl125,decide_eq_false (by omega),cond_false]
  exact ⟨x,rfl,by omega,by omega,hx,λa h1 h2 h3=>by omega⟩
 | succ m ih=>
  intro g x hm hg hx
  by_cases h0:A x.length x.length=0
  ·refine ⟨x,?_,by omega,by omega,hx,λa h1 h2 h3=>?_⟩
   ·refine facs_0 hR hC hn (m+1) g x.length hm hg (by omega) λa h1 h2 h3=>?_
    have:=hD.c x.length a (by omega) h1 h2 h3
    rw [h0] at this;exact Int.zero_dvd.1 this
   ·have:=hD.c x.length a (by omega) h1 h2 h3
    rw [h0] at this;exact Int.zero_dvd.1 this
  ·obtain ⟨g,rfl⟩:∃ g',g=g'+1:=⟨g - 1,by omega⟩
   rw [ct.pl125,decide_eq_true (by omega),cond_true]
   simp (disch:=omega) only [iG,jz,Option.bind_some]
   rw [show (A x.length x.length != 0)=true from bne_iff_ne.2 h0,cond_true]
   unfold apn
   rw [if_pos (by simp;omega),Option.bind_some]
   unfold ct.pj2
   have hl:((x++[A x.length x.length]).length:Int)=x.length+1:=by simp
   rw [bv (by omega) (by omega),<-hl]
   refine ih g (x++[A x.length x.length]) (by omega) (by omega) λa ha=>?_
   rw [List.length_append,List.length_singleton] at ha
   by_cases e:a=x.length
   ·subst e
    have h1:=hD.n x.length (by omega) (by omega) (by omega)
    have h2:=hb x.length x.length (by omega) (by omega) (by omega) (by omega)
    exact ⟨by rw [List.getElem?_append_right (Nat.le_refl _),Nat.sub_self];rfl,by omega,h2.2⟩
   ·rw [List.getElem?_append_left (by omega)]
    exact hx a (by omega)
theorem factors_v (hR:R<=48) (hC:C<=48) (hF:1000000000000000<=F) (hb:Bd R C A) :
  ct.p F R C (mk R C A)=some ([],3)\/∃ y v,Red R C A v/\Dia R C v.d/\FV R C v.d y/\ct.p F R C (mk R C A)=some (y,0):=by
 unfold ct.p
 rcases smith_both hR hC hF hb with ⟨e1,_⟩ | ⟨v,hv,hr,hd,_,e1,_⟩
 ·left;rw [e1];rfl
 ·right
  rw [e1]
  simp only [Option.bind_some]
  rw [show ((0:Int) != 0)=false from rfl,cond_false]
  obtain ⟨y,h1,h2⟩:=facs_l (F:=F) hR hC hd hv.1 rfl (if (C:Int)<R then (C:Int) else R).toNat F [] (by simp;split <;> omega) (by split <;> omega) λa ha=>by simp at ha
  exact ⟨y,v,hr,hd,h2,h1⟩
theorem inv_v {a b:Int} {l:List Int} (hF:1000000000000000<=F) (hl:l.length<=2000000) :
  (eF.p F a b l=some false/\iC.p F a b l=some ([],1))\/(∃ (R C:Nat) (A:Mat),a=R/\b=C/\R<=48/\C<=48/\l=mk R C A/\Bd R C A/\eF.p F a b l=some true/\iC.p F a b l=ct.p F a b l):=by
 unfold iC.p
 obtain ⟨v,_,e2,hv⟩:=isMatrix_both (F:=F) (a:=a) (b:=b) (by omega) hl
 rw [e2,Option.bind_some]
 cases v with
 | false=>exact .inl ⟨rfl,rfl⟩
 | true=>
  obtain ⟨R,C,A,rfl,rfl,hR,hC,rfl,hb⟩:=hv rfl
  refine .inr ⟨R,C,A,rfl,rfl,hR,hC,rfl,hb,rfl,?_⟩
  rw [Bool.not_true,cond_false]
  cases ct.p F R C (mk R C A) <;> rfl
end Go.Proofs.Ytokekkacliomkaa.AE
end
section
namespace Go.Proofs.Ytokekkacliomkaa.AE
open Go Go.AE Go.Proofs
variable {F:Nat}
def Ok {α:Type} (x:Option α) (P:α->Prop):Prop:=∀ a,x=some a->P a
theorem Ok.bind {α β:Type} {x:Option α} {f:α->Option β} {P:α->Prop} {Q:β->Prop} (h:Ok x P) (g:∀ a,P a->Ok (f a) Q):Ok (x.bind f) Q:=λb hb=>by
 cases x with
 | none=>cases hb
 | some a=>exact g a (h a rfl) b hb
theorem Ok.any {α:Type} {x:Option α}:Ok x λ_=>True:=λ_ _=>trivial
theorem Ok.some {α:Type} {a:α} {P:α->Prop} (h:P a):Ok (some a) P:=λb hb=>by cases hb;exact h
theorem Ok.none {α:Type} {P:α->Prop}:Ok none P:=λb hb=>by cases hb
theorem Ok.cond {α:Type} {x y:Option α} {P:α->Prop} {c:Bool} (h:Ok x P) (g:Ok y P):Ok (bif c then x else y) P:=by cases c <;> assumption
theorem Ok.nx {α β:Type} {x:Option α} {f:α->Option β} {Q:β->Prop} (g:∀ a,Ok (f a) Q):Ok (x.bind f) Q:=Ok.bind Ok.any λa _=>g a
theorem Ok.st {β:Type} {l:List Int} {n m:Nat} {x:Int} {f:List Int->Option β} {Q:β->Prop} (h:l.length=m) (g:∀ l',l'.length=m->Ok (f l') Q):Ok ((Option.some (l.set n x)).bind f) Q:=
 Ok.bind (P:=λr=>r.length=m) (Ok.some (by rw [List.length_set];exact h)) g
theorem len_put {b:Bool} {c i j x:Int} {l:List Int} {n:Nat} (h:l.length=n):Ok (fS.p F b c l i j x) λr=>r.2.length=n:=by
 unfold fS.p
 exact Ok.nx λ_=>Ok.cond (Ok.some h) (Ok.nx λ_=>Ok.st h λ_ h=>Ok.some h)
theorem len_rows_l {i k q c:Int} {n:Nat}:∀ (g:Nat) (b:Bool) (l:List Int) (j:Int),l.length=n->Ok (dd.pl7 F g b i k q c l j) λr=>r.2.length=n
 | 0,_,_,_,_=>Ok.none
 | g+1,b,l,j,h=>by
  rw [dd.pl7]
  exact Ok.cond (Ok.cond (Ok.nx λ_=>Ok.nx λ_=>Ok.nx λ_=>Ok.bind (len_put h) λ_ h=>len_rows_l g _ _ _ h) (Ok.some h)) (Ok.some h)
theorem len_rows {b:Bool} {c i k q:Int} {l:List Int} {n:Nat} (h:l.length=n):Ok (dd.p F b c l i k q) λr=>r.2.length=n:=len_rows_l F b l 0 h
theorem len_cols_l {i k q c c':Int} {n:Nat}:∀ (g:Nat) (b:Bool) (l:List Int) (j:Int),l.length=n->Ok (de.pl7 F g b i k q c' c l j) λr=>r.2.length=n
 | 0,_,_,_,_=>Ok.none
 | g+1,b,l,j,h=>by
  rw [de.pl7]
  exact Ok.cond (Ok.cond (Ok.nx λ_=>Ok.nx λ_=>Ok.nx λ_=>Ok.bind (len_put h) λ_ h=>len_cols_l g _ _ _ h) (Ok.some h)) (Ok.some h)
theorem len_cols {b:Bool} {c c' i k q:Int} {l:List Int} {n:Nat} (h:l.length=n):Ok (de.p F b c' c l i k q) λr=>r.2.length=n:=len_cols_l F b l 0 h
theorem len_swap_l {i k c:Int} {n:Nat}:∀ (g:Nat) (l:List Int) (j:Int),l.length=n->Ok (cS.pl7 F g i k c l j) λr=>r.length=n
 | 0,_,_,_=>Ok.none
 | g+1,l,j,h=>by
  rw [cS.pl7]
  exact Ok.cond (Ok.nx λ_=>Ok.nx λ_=>Ok.nx λ_=>Ok.st h λ_ h=>Ok.nx λ_=>Ok.st h λ_ h=>len_swap_l g _ _ h) (Ok.some h)
theorem len_swap {c i k:Int} {l:List Int} {n:Nat} (h:l.length=n):Ok (cS.p F c l i k) λr=>r.length=n:=len_swap_l F l 0 h
theorem len_across_l {i k c c':Int} {n:Nat}:∀ (g:Nat) (l:List Int) (j:Int),l.length=n->Ok (cT.pl7 F g i k c' c l j) λr=>r.length=n
 | 0,_,_,_=>Ok.none
 | g+1,l,j,h=>by
  rw [cT.pl7]
  exact Ok.cond (Ok.nx λ_=>Ok.nx λ_=>Ok.nx λ_=>Ok.st h λ_ h=>Ok.nx λ_=>Ok.st h λ_ h=>len_across_l g _ _ h) (Ok.some h)
theorem len_across {c c' i k:Int} {l:List Int} {n:Nat} (h:l.length=n):Ok (cT.p F c' c l i k) λr=>r.length=n:=len_across_l F l 0 h
abbrev L2 (n m:Nat) (t:Bool×List Int×List Int×List Int×List Int×List Int):Prop:=t.2.1.length=n/\t.2.2.2.2.1.length=m
section
variable {n m:Nat}
theorem len_sel1 {c c' x:Int} {d r s:List Int} (hd:d.length=n) (hr:r.length=m):∀ (g:Nat) (l l':List Int) (j:Int),Ok (az.pl65515 F g d c l c' l' r s x j) (L2 n m)
 | 0,_,_,_=>Ok.none
 | g+1,l,l',j=>by
  rw [az.pl65515]
  exact Ok.cond (Ok.nx λ_=>Ok.nx λ_=>Ok.nx λ_=>Ok.nx λ_=>Ok.nx λ_=>Ok.nx λ_=>len_sel1 hd hr g _ _ _) (Ok.some ⟨hd,hr⟩)
theorem len_sel2 {c c' c2 x:Int} {l l' r s:List Int} (hr:r.length=m):∀ (g:Nat) (d:List Int) (j:Int),d.length=n->Ok (az.pl65513 F g c2 d c l c' l' r s x j) (L2 n m)
 | 0,_,_,_=>Ok.none
 | g+1,d,j,hd=>by
  rw [az.pl65513]
  exact Ok.cond (Ok.nx λ_=>Ok.nx λ_=>Ok.st hd λ_ hd=>len_sel2 hr g _ _ hd) (len_sel1 hd hr F _ _ _)
theorem len_sel6 {c0 c1 c4 c6 c7 c9 c10 c13 x y z:Int} {d l p r s:List Int} (hd:d.length=n) (hr:r.length=m):Ok (az.pj6 F c0 c1 d c4 l c6 c7 p c9 c10 r c13 s x y z) (L2 n m):=by
 unfold az.pj6
 exact Ok.cond (Ok.some ⟨hd,hr⟩) (Ok.bind (len_swap hd) λ_ h1=>Ok.nx λ_=>Ok.nx λ_=>Ok.bind (len_across h1) λ_ h2=>Ok.bind (len_across hr) λ_ h3=>Ok.nx λ_=>Ok.nx λ_=>Ok.cond (len_sel2 h3 F _ _ h2) (Ok.some ⟨h2,h3⟩))
theorem len_sel3 {c0 c1 c4 c6 c7 c9 c10 c13 x:Int} {d l p r s:List Int} {pC} (hp:∀ a b i,Ok (pC c0 c1 d c4 l c6 c7 p c9 c10 r c13 s x a b i) (L2 n m)):∀ (g:Nat) (a b i j:Int),Ok (az.pl469 F pC g c0 c1 d c4 l c6 c7 p c9 c10 r c13 s x a b i j) (L2 n m)
 | 0,_,_,_,_=>Ok.none
 | g+1,a,b,i,j=>by
  rw [az.pl469]
  have h:=len_sel3 hp g
  exact Ok.cond (Ok.nx λ_=>Ok.nx λ_=>Ok.cond (Ok.cond (h _ _ _ _) (Ok.nx λ_=>Ok.nx λ_=>Ok.cond (h _ _ _ _) (h _ _ _ _))) (h _ _ _ _)) (hp _ _ _)
theorem len_sel4 {c0 c1 c4 c6 c7 c9 c10 c13 x:Int} {d l p r s:List Int} (hd:d.length=n) (hr:r.length=m):∀ (g:Nat) (a b i:Int),Ok (az.pl29 F g c0 c1 d c4 l c6 c7 p c9 c10 r c13 s x a b i) (L2 n m)
 | 0,_,_,_=>Ok.none
 | g+1,a,b,i=>by
  rw [az.pl29]
  exact Ok.cond (len_sel3 (len_sel4 hd hr g) F _ _ _ _) (len_sel6 hd hr)
theorem len_row {c1 c4 c6 c7 i k q:Int} {b:Bool} {d l p:List Int} (hd:d.length=n):Ok (fX.p F c1 d c4 l c6 c7 p b i k q) λt=>t.1.length=n:=by
 unfold fX.p
 exact Ok.cond (Ok.bind (len_rows hd) λ_ h=>Ok.nx λ_=>Ok.nx λ_=>Ok.some h) (Ok.some hd)
theorem len_col {c0 c1 c9 c10 c13 i k q:Int} {b:Bool} {d r s:List Int} (hd:d.length=n) (hr:r.length=m):Ok (gi.p F c0 c1 d c9 c10 r c13 s b i k q) λt=>t.1.length=n/\t.2.1.length=m:=by
 unfold gi.p
 exact Ok.cond (Ok.bind (len_cols hd) λ_ h=>Ok.bind (len_cols hr) λ_ h'=>Ok.nx λ_=>Ok.some ⟨h,h'⟩) (Ok.some ⟨hd,hr⟩)
abbrev L3 (n m:Nat) (t:Bool×Bool×List Int×List Int×List Int×List Int×List Int×Bool):Prop:=t.2.2.1.length=n/\t.2.2.2.2.2.1.length=m
theorem len_r1 {c0 c1 c4 c6 c7 x:Int} {b:Bool} {d l p r s:List Int} (hd:d.length=n) (hr:r.length=m):Ok (bl.pj1 F c0 c1 d c4 l c6 c7 p r s b x) (L3 n m):=by
 unfold bl.pj1
 exact Ok.cond (Ok.some ⟨hd,hr⟩) (Ok.nx λ_=>Ok.cond (Ok.some ⟨hd,hr⟩) (Ok.nx λ_=>Ok.cond (Ok.some ⟨hd,hr⟩) (Ok.bind (len_row hd) λ_ h=>Ok.some ⟨h,hr⟩)))
theorem len_r2 {c0 c1 c4 c6 c7 c9 c10 c13 x:Int} {l p:List Int}:∀ (g:Nat) (d r s:List Int) (b:Bool) (j:Int),d.length=n->r.length=m->Ok (bl.pl61 F g c0 c1 d c4 l c6 c7 p c9 c10 r c13 s b x j) (L3 n m)
 | 0,_,_,_,_,_,_,_=>Ok.none
 | g+1,d,r,s,b,j,hd,hr=>by
  rw [bl.pl61]
  exact Ok.cond (Ok.cond (Ok.nx λ_=>Ok.nx λ_=>Ok.nx λ_=>Ok.bind (len_col hd hr) λ_ h=>len_r2 g _ _ _ _ _ h.1 h.2) (len_r1 hd hr)) (len_r1 hd hr)
theorem len_r3 {c0 c1 c4 c6 c7 c9 c10 c13 x:Int} {r s:List Int} (hr:r.length=m):∀ (g:Nat) (d l p:List Int) (b:Bool) (j:Int),d.length=n->Ok (bl.pl29 F g c0 c1 d c4 l c6 c7 p c9 c10 r c13 s b x j) (L3 n m)
 | 0,_,_,_,_,_,_=>Ok.none
 | g+1,d,l,p,b,j,hd=>by
  rw [bl.pl29]
  exact Ok.cond (Ok.cond (Ok.nx λ_=>Ok.nx λ_=>Ok.nx λ_=>Ok.bind (len_row hd) λ_ h=>len_r3 hr g _ _ _ _ _ h) (len_r2 F _ _ _ _ _ hd hr)) (len_r2 F _ _ _ _ _ hd hr)
theorem len_round {c0 c1 c4 c6 c7 c9 c10 c13 x:Int} {b:Bool} {d l p r s:List Int} (hd:d.length=n) (hr:r.length=m):Ok (bl.p F c0 c1 d c4 l c6 c7 p c9 c10 r c13 s b x) (L3 n m):=by
 unfold bl.p az.p
 exact Ok.bind (len_sel4 hd hr F _ _ _) λ_ h=>Ok.cond (Ok.some ⟨h.1,h.2⟩) (len_r3 h.2 F _ _ _ _ _ h.1)
abbrev L5 (n m:Nat) (a1 a7 a8:Int) (t:Int×Int×List Int×Int×Int×List Int×Int×Int×List Int×Int×Int×List Int×Int×Int×List Int×Bool):Prop:=t.2.1=a1/\t.2.2.1.length=n/\t.2.2.2.2.2.2.2.2.2.2.1=a8/\t.2.2.2.2.2.2.2.2.2.2.2.1.length=m
theorem len_red1 {e0 e1 c0 c1 c3 c4 c6 c7 c9 c10 c12 c13 x:Int} {pC} (hp:∀ d l p r s b x,d.length=n->r.length=m->Ok (pC e0 e1 c0 c1 d c3 c4 l c6 c7 p c9 c10 r c12 c13 s b x) (L5 n m c1 c9 c10)):∀ (g:Nat) (d l p r s:List Int) (b f f':Bool),d.length=n->r.length=m ->
  Ok (bf.pl938 F pC g e0 e1 c0 c1 d c3 c4 l c6 c7 p c9 c10 r c12 c13 s b x f f') (L5 n m c1 c9 c10)
 | 0,_,_,_,_,_,_,_,_,_,_=>Ok.none
 | g+1,d,l,p,r,s,b,f,f',hd,hr=>by
  rw [bf.pl938]
  have h4:Ok (bf.pj4 F pC e0 e1 c0 c1 d c3 c4 l c6 c7 p c9 c10 r c12 c13 s b x f') (L5 n m c1 c9 c10):=by
   unfold bf.pj4 bf.pj3
   exact Ok.cond (Ok.some ⟨rfl,hd,rfl,hr⟩) (Ok.cond (Ok.some ⟨rfl,hd,rfl,hr⟩) (hp _ _ _ _ _ _ _ hd hr))
  exact Ok.cond (Ok.cond (Ok.bind (len_round hd hr) λ_ h=>len_red1 hp g _ _ _ _ _ _ _ _ h.1 h.2) h4) h4
theorem len_red2 {e0 e1 c0 c1 c3 c4 c6 c7 c9 c10 c12 c13:Int}:∀ (g:Nat) (d l p r s:List Int) (b:Bool) (x:Int),d.length=n->r.length=m ->
  Ok (bf.pl29 F g e0 e1 c0 c1 d c3 c4 l c6 c7 p c9 c10 r c12 c13 s b x) (L5 n m c1 c9 c10)
 | 0,_,_,_,_,_,_,_,_,_=>Ok.none
 | g+1,d,l,p,r,s,b,x,hd,hr=>by
  rw [bf.pl29]
  exact Ok.cond (len_red1 (λd l p r s b x h h'=>len_red2 g d l p r s b x h h') F _ _ _ _ _ _ _ _ hd hr) (Ok.some ⟨rfl,hd,rfl,hr⟩)
end
theorem reduce_len {R C:Nat} {A:Mat} (hR:R<=48) (hC:C<=48) (hF:1000000000000000<=F) (hb:Bd R C A):∃ t,bf.p F R C (mk R C A)=some t/\L5 (R * C) (C * C) C C C t:=by
 have hex:∃ t,bf.p F R C (mk R C A)=some t:=by
  rcases smith_both hR hC hF hb with ⟨_,⟨_,_,_,_,_,_,_,_,_,_,_,_,_,_,_,e⟩⟩ | ⟨v,_,_,_,_,_,e⟩
  ·exact ⟨_,e⟩
  ·exact ⟨_,e⟩
 obtain ⟨t,e⟩:=hex
 refine ⟨t,e,?_⟩
 have hm:R * C<=48 * 48:=Nat.mul_le_mul hR hC
 unfold bf.p apn at e
 rw [if_pos (by rw [kB];simp;omega),List.nil_append,Dy (by omega) (by omega),Dy (by omega) (by omega)] at e
 simp only [Option.bind_some] at e
 exact len_red2 F _ _ _ _ _ _ _ (kB _ _ _) (kB _ _ _) _ e
end Go.Proofs.Ytokekkacliomkaa.AE
end
section
namespace Go.Proofs.Ytokekkacliomkaa.AE.SS
open Go Go.AE Go.Proofs
variable {F:Nat}
theorem ix_of {α:Type} {l:List α} {i:Int} (h0:0<=i) (h:i<l.length):ix l i=some i.toNat:=by
 unfold ix;rw [if_pos ⟨h0,h⟩]
structure Src (c:List Int) (a s:Int):Prop where
 b:∀ n:Nat,0<=gt c n/\gt c n<=255
 l:c.length<=1000000
 a0:0<=a
 a1:a<=c.length
 s0:0<=s
 s1:s<2147483647
theorem seed_ok {s:Int} (h0:0<=s) (h1:s<2147483647):∃ t,Int.tmod (IntKind.i64.wrap ((IntKind.i64.wrap (s * 48271))+11)) 2147483647=t/\0<=t/\t<2147483647:=by
 rw [bv (x:=s * 48271) (by omega) (by omega),bv (by omega) (by omega)]
 refine ⟨_,rfl,?_⟩
 rw [Int.tmod_eq_emod_of_nonneg (by omega)]
 constructor <;> omega
theorem mod_ok {x n:Int} (hx:0<=x) (hn:1<n):∃ r,Int.tmod x n=r/\0<=r/\r<n:=by
 refine ⟨_,rfl,?_⟩
 rw [Int.tmod_eq_emod_of_nonneg hx]
 exact ⟨Int.emod_nonneg _ (by omega),Int.emod_lt_of_pos _ (by omega)⟩
theorem next {c:List Int} {a s n:Int} (h:Src c a s):∃ r a' s',bO.p F c a s n=some (r,a',s')/\Src c a' s'/\0<=r/\(n<=1->r=0)/\(1<n->r<n):=by
 obtain ⟨h1,h2,h3,h4,h5,h6⟩:=h
 unfold bO.p
 by_cases hn:n<=1
 ·rw [decide_eq_true hn,cond_true]
  exact ⟨0,a,s,rfl,⟨h1,h2,h3,h4,h5,h6⟩,Int.le_refl _,λ_=>rfl,λq=>by omega⟩
 ·rw [decide_eq_false hn,cond_false]
  obtain ⟨t,e,t0,t1⟩:=seed_ok h5 h6
  simp only [e]
  have td:0<=Int.tdiv t 11/\Int.tdiv t 11<=t:=by
   rw [Int.tdiv_eq_ediv_of_nonneg t0];constructor <;> omega
  unfold bO.pj2 bO.pj1 bO.pj3
  have n0:¬ n=0:=by omega
  simp only [if_neg n0]
  by_cases ha:a<c.length
  ·rw [decide_eq_true ha,cond_true]
   have ix0:ix c a=some a.toNat:=ix_of h3 ha
   have gb:=h1 a.toNat
   rw [ix0,Option.bind_some,bv (x:=a+1) (by omega) (by omega),bv (x:=a+1 - 1) (by omega) (by omega),show a+1 - 1=a by omega,ix0,Option.bind_some,bv (x:=gt c a.toNat) (by omega) (by omega),bv (x:=Int.tdiv t 11) (by omega) (by omega),bv (x:=Int.tdiv t 11+gt c a.toNat) (by omega) (by omega)]
   have S:Src c (a+1) t:=⟨h1,h2,by omega,by omega,t0,t1⟩
   obtain ⟨r1,m1,m2,m3⟩:=mod_ok (x:=gt c a.toNat) (n:=n) gb.1 (by omega)
   obtain ⟨r2,m4,m5,m6⟩:=mod_ok (x:=Int.tdiv t 11+gt c a.toNat) (n:=n) (by omega) (by omega)
   rw [m1,m4]
   cases decide (n<=256) <;> cases (Int.tmod (a+1) 2==0) <;> simp only [cond_true,cond_false]
   ·exact ⟨r2,_,_,rfl,S,m5,λq=>absurd q hn,λ_=>m6⟩
   ·exact ⟨r2,_,_,rfl,S,m5,λq=>absurd q hn,λ_=>m6⟩
   ·exact ⟨r2,_,_,rfl,S,m5,λq=>absurd q hn,λ_=>m6⟩
   ·exact ⟨r1,_,_,rfl,S,m2,λq=>absurd q hn,λ_=>m3⟩
  ·rw [decide_eq_false ha,cond_false,bv (x:=Int.tdiv t 11) (by omega) (by omega)]
   obtain ⟨r2,m4,m5,m6⟩:=mod_ok (x:=Int.tdiv t 11) (n:=n) (by omega) (by omega)
   rw [m4]
   exact ⟨r2,_,_,rfl,⟨h1,h2,h3,h4,t0,t1⟩,m5,λq=>absurd q hn,λ_=>m6⟩
theorem from_l {c:List Int} (hc:c.length<=1000000) (hb:∀ n:Nat,0<=gt c n/\gt c n<=255):∀ (n g:Nat) (s i:Int),c.length - i=n->n<g->0<=i->0<=s->s<2147483647->∃ t,dy.pl29 F g c 0 s i=some (c,0,t)/\0<=t/\t<2147483647:=by
 intro n
 induction n with
 | zero=>
  intro g s i hn hg hi h0 h1
  obtain ⟨g,rfl⟩:∃ g',g=g'+1:=⟨g - 1,by omega⟩
  rw [dy.pl29,decide_eq_false (by omega),cond_false]
  exact ⟨s,rfl,h0,h1⟩
 | succ n ih=>
  intro g s i hn hg hi h0 h1
  obtain ⟨g,rfl⟩:∃ g',g=g'+1:=⟨g - 1,by omega⟩
  rw [dy.pl29,decide_eq_true (by omega),cond_true]
  cases decide (i<64) with
  | false=>exact ⟨s,rfl,h0,h1⟩
  | true=>
   have gb:=hb i.toNat
   rw [cond_true,ix_of hi (by omega),Option.bind_some,bv (x:=gt c i.toNat) (by omega) (by omega),bv (x:=s * 37) (by omega) (by omega),bv (x:=s * 37+gt c i.toNat) (by omega) (by omega),bv (x:=i+1) (by omega) (by omega)]
   obtain ⟨r,m1,m2,m3⟩:=mod_ok (x:=s * 37+gt c i.toNat) (n:=2147483647) (by omega) (by omega)
   rw [m1]
   exact ih g r (i+1) (by omega) (by omega) (by omega) m2 m3
theorem from_ {c:List Int} (hF:5000000<F) (hc:c.length<=1000000) (hb:∀ n:Nat,0<=gt c n/\gt c n<=255):∃ t,dy.p F c=some (c,0,t)/\Src c 0 t:=by
 unfold dy.p
 obtain ⟨t,e,h0,h1⟩:=from_l (F:=F) hc hb c.length F 97531 0 (by omega) (by omega) (by omega) (by omega) (by omega)
 exact ⟨t,e,hb,hc,Int.le_refl _,by omega,h0,h1⟩
theorem nx {c:List Int} {a s n:Int} (h:Src c a s) (hn:1<=n):∃ r a' s',bO.p F c a s n=some (r,a',s')/\Src c a' s'/\0<=r/\r<n:=by
 obtain ⟨r,a',s',e,h',r0,r1,r2⟩:=next (F:=F) (n:=n) h
 refine ⟨r,a',s',e,h',r0,?_⟩
 by_cases c:n<=1
 ·have:=r1 c;omega
 ·exact r2 (by omega)
end Go.Proofs.Ytokekkacliomkaa.AE.SS
end
section
namespace Go.Proofs.Ytokekkacliomkaa.AE
open Go Go.AE Go.Proofs
variable {F:Nat} {c:List Int}
theorem mem_set {l:List Int} {n:Nat} {x y:Int} (h:y∈l.set n x):y∈l\/y=x:=List.mem_or_eq_of_mem_set h
theorem ixk {α:Type} {l:List α} {i:Int} (h0:0<=i) (h:i<l.length):ix l i=some i.toNat:=SS.ix_of h0 h
theorem zero_l {a b:Int} (ha:0<=a) (ha':a<=1000) (hb:0<=b) (hb':b<=1000):eH.p F a b=some (a,b,List.replicate (a * b).toNat 0):=by
 have h0:0<=a * b:=Int.mul_nonneg ha hb
 have h1:a * b<=1000 * 1000:=Int.mul_le_mul ha' hb' hb (by omega)
 unfold eH.p mkn
 rw [bv (by omega) (by omega),if_pos (by omega)];rfl
theorem size_l {R C w:Int} (hw:1<=w) (hw6:w<=6):∀ (n g:Nat) (a s:Int) (l:List Int) (i:Int),l.length - i=n->n<g->0<=i->l.length<=1000000->(∀ x∈l,-6<=x/\x<=6)->SS.Src c a s ->
  ∃ l' a' s',cw.pl61 F g c a s R C l w i=some (R,C,l',a',s')/\l'.length=l.length/\(∀ x∈l',-6<=x/\x<=6)/\SS.Src c a' s':=by
 intro n
 induction n with
 | zero=>
  intro g a s l i hn hg hi hl hx hs
  obtain ⟨g,rfl⟩:∃ g',g=g'+1:=⟨g - 1,by omega⟩
  rw [cw.pl61,decide_eq_false (by omega),cond_false]
  exact ⟨l,a,s,rfl,rfl,hx,hs⟩
 | succ n ih=>
  intro g a s l i hn hg hi hl hx hs
  obtain ⟨g,rfl⟩:∃ g',g=g'+1:=⟨g - 1,by omega⟩
  rw [cw.pl61,decide_eq_true (by omega),cond_true]
  obtain ⟨r,a1,s1,e1,h1,r0,r1⟩:=SS.nx (F:=F) (n:=3) hs (by omega)
  rw [e1,Option.bind_some]
  simp only []
  unfold cw.pj2
  rw [bv (x:=i+1) (by omega) (by omega)]
  cases decide (r>0) with
  | false=>rw [cond_false];exact ih g a1 s1 l (i+1) (by omega) (by omega) (by omega) hl hx h1
  | true=>
   rw [cond_true,bv (x:=2 * w) (by omega) (by omega),bv (x:=2 * w+1) (by omega) (by omega)]
   obtain ⟨q,a2,s2,e2,h2,q0,q1⟩:=SS.nx (F:=F) (n:=2 * w+1) h1 (by omega)
   rw [e2,Option.bind_some,ixk hi (by omega),Option.bind_some,Option.bind_some]
   simp only []
   rw [bv (x:=q - w) (by omega) (by omega)]
   obtain ⟨l',a',s',e,k1,k2,k3⟩:=ih g a2 s2 (l.set i.toNat (q - w)) (i+1) (by rw [List.length_set];omega) (by omega) (by omega) (by rw [List.length_set];omega) (λx hx'=>by
    rcases mem_set hx' with h | h
    ·exact hx x h
    ·omega) h2
   exact ⟨l',a',s',e,by rw [k1,List.length_set],k2,k3⟩
theorem draw_size {R C a s:Int} (hF:5000000<F) (hR:0<=R) (hR':R<=100) (hC:0<=C) (hC':C<=100) (hs:SS.Src c a s) :
  ∃ l a' s',cw.p F c a s R C=some (R,C,l,a',s')/\l.length=(R * C).toNat/\(∀ x∈l,-6<=x/\x<=6)/\SS.Src c a' s':=by
 unfold cw.p
 have h0:0<=R * C:=Int.mul_nonneg hR hC
 have h1:R * C<=100 * 100:=Int.mul_le_mul hR' hC' hC (by omega)
 rw [zero_l hR (by omega) hC (by omega),Option.bind_some]
 obtain ⟨w,a1,s1,e1,k1,w0,w1⟩:=SS.nx (F:=F) (n:=6) hs (by omega)
 rw [e1,Option.bind_some]
 simp only []
 rw [bv (by omega) (by omega)]
 obtain ⟨l,a',s',e,q1,q2,q3⟩:=size_l (F:=F) (c:=c) (R:=R) (C:=C) (w:=1+w) (by omega) (by omega) (R * C).toNat F a1 s1 (List.replicate (R * C).toNat 0) 0 (by rw [List.length_replicate];omega) (by omega) (by omega) (by rw [List.length_replicate];omega) (λx hx=>by rw [List.eq_of_mem_replicate hx];omega) k1
 exact ⟨l,a',s',e,by rw [q1,List.length_replicate],q2,q3⟩
theorem draw_matrix {a s:Int} (hF:5000000<F) (hs:SS.Src c a s):∃ x y l a' s',fz.p F c a s=some (x,y,l,a',s')/\List.length l<=100/\SS.Src c a' s':=by
 unfold fz.p
 obtain ⟨x,a1,s1,e1,h1,x0,x1⟩:=SS.nx (F:=F) (n:=5) hs (by omega)
 obtain ⟨y,a2,s2,e2,h2,y0,y1⟩:=SS.nx (F:=F) (n:=5) h1 (by omega)
 obtain ⟨l,a3,s3,e3,l1,_,h3⟩:=draw_size (F:=F) (R:=x) (C:=y) hF x0 (by omega) y0 (by omega) h2
 obtain ⟨r,a4,s4,e4,h4,r0,r1⟩:=SS.nx (F:=F) (n:=24) h3 (by omega)
 have k0:0<=x * y:=Int.mul_nonneg x0 y0
 have k1:x * y<=5 * 5:=Int.mul_le_mul (by omega) (by omega) y0 (by omega)
 rw [e1,Option.bind_some]
 simp only []
 rw [e2,Option.bind_some]
 simp only []
 rw [e3,Option.bind_some]
 simp only []
 rw [e4,Option.bind_some]
 simp only []
 cases (r==0) with
 | true=>rw [cond_true];exact ⟨_,_,_,_,_,rfl,by omega,h4⟩
 | false=>
  cases (r==1) with
  | true=>
   have hap:apn l [(0:Int)]=some (l++[0]):=by unfold apn;rw [if_pos (by simp;omega)]
   rw [cond_false,cond_true,hap];exact ⟨_,_,_,_,_,rfl,by simp;omega,h4⟩
  | false=>
   cases (r==2) with
   | true=>
    simp only [cond_false,cond_true]
    by_cases hl:(l.length:Int)>0
    ·obtain ⟨k,a5,s5,e5,h5,p0,p1⟩:=SS.nx (F:=F) (n:=(l.length:Int)) h4 (by omega)
     obtain ⟨q,a6,s6,e6,h6,q0,q1⟩:=SS.nx (F:=F) (n:=5) h5 (by omega)
     rw [decide_eq_true hl,cond_true,e5,Option.bind_some]
     simp only []
     rw [e6,Option.bind_some]
     simp only []
     rw [ixk q0 (by simpa using q1),Option.bind_some,ixk p0 p1,Option.bind_some,Option.bind_some]
     exact ⟨_,_,_,_,_,rfl,by rw [List.length_set];omega,h6⟩
    ·rw [decide_eq_false hl,cond_false]
     exact ⟨_,_,_,_,_,rfl,by omega,h4⟩
   | false=>
    simp only [cond_false]
    cases (r==3) with
    | true=>
     obtain ⟨k,a5,s5,e5,h5,p0,p1⟩:=SS.nx (F:=F) (n:=3) h4 (by omega)
     rw [cond_true,e5,Option.bind_some]
     simp only []
     rw [ixk p0 (by simpa using p1),Option.bind_some]
     exact ⟨_,_,_,_,_,rfl,by simp,h5⟩
    | false=>rw [cond_false];exact ⟨_,_,_,_,_,rfl,by omega,h4⟩
end Go.Proofs.Ytokekkacliomkaa.AE
end
section
namespace Go.Proofs.Ytokekkacliomkaa.AE
open Go Go.AE Go.Proofs
variable {R K C F:Nat} {A B:Mat}
theorem dts_sg {i j:Int}:∀ (n:Nat) (k:Int),dts A B i j n k=Sg n λl=>A i (k+l) * B (k+l) j
 | 0,_=>rfl
 | n+1,k=>by
  have h:=Sg_split (f:=λl=>A i (k+l) * B (k+l) j) (a:=1) n
  rw [show 1+n=n+1 by omega] at h
  rw [h,dts,dts_sg n (k+1)]
  have e1:Sg 1 (λl=>A i (k+l) * B (k+l) j)=A i k * B k j:=by
   show 0+A i (k+((0:Nat):Int)) * B (k+((0:Nat):Int)) j=_
   rw [show k+((0:Nat):Int)=k by omega,Int.zero_add]
  rw [e1]
  congr 1
  exact Sg_congr λl _ _=>by rw [show k+1+l=k+(l+((1:Nat):Int)) by omega]
theorem dts_mm {i j:Int}:dts A B i j K 0=mm K A B i j:=by
 rw [dts_sg]
 exact Sg_congr λl _ _=>by rw [Int.zero_add]
theorem mul_v (hR:R<=48) (hK:K<=48) (hC:C<=48) (hF:5000<F) (hA:Bd R K A) (hB:Bd K C B) :
  (fH.p F R C).bind (λr23=>bI.pl61 F F K (mk R K A) C (mk K C B) r23.1 r23.2.1 r23.2.2 R 0)=some (0,0,[],3) \/
  (Bd R C (mm K A B)/\(fH.p F R C).bind (λr23=>bI.pl61 F F K (mk R K A) C (mk K C B) r23.1 r23.2.1 r23.2.2 R 0)=some ((R:Int),(C:Int),mk R C (mm K A B),0)):=by
 rcases mul_both hR hK hC hF hA hB with ⟨h,_⟩ | ⟨Y,h1,h2,h3,_⟩
 ·exact .inl h
 ·have e:∀ i j:Int,0<=i->i<R->0<=j->j<C->Y i j=mm K A B i j:=λi j a b c d=>by rw [h1 i j a b c d,dts_mm]
  refine .inr ⟨λi j a b c d=>?_,?_⟩
  ·rw [<- e i j a b c d];exact h2 i j a b c d
  ·rw [h3,fk e]
theorem scan_l {l:List Int} (hl:l.length<=2000000):∀ (n g:Nat) (i:Int),l.length - i=n->n<g->0<=i->∃ r:Int,dU.pl13 F g l l.length i=some r/\(¬ r>=0->∀ j:Nat,i<=j->j<l.length->gt l j=0)/\(r>=0->∃ j:Nat,j<l.length/\gt l j≠0):=by
 intro n
 induction n with
 | zero=>
  intro g i hn hg hi
  obtain ⟨g,rfl⟩:∃ g',g=g'+1:=⟨g - 1,by omega⟩
  rw [dU.pl13,decide_eq_false (by omega),cond_false]
  exact ⟨-1,rfl,λ_ j h1 h2=>by omega,λh=>by omega⟩
 | succ n ih=>
  intro g i hn hg hi
  obtain ⟨g,rfl⟩:∃ g',g=g'+1:=⟨g - 1,by omega⟩
  have hix:ix l i=some i.toNat:=by unfold ix;rw [if_pos ⟨hi,by omega⟩]
  rw [dU.pl13,decide_eq_true (by omega),cond_true,hix,Option.bind_some]
  unfold jF.p
  rw [Option.bind_some,bv (by omega) (by omega)]
  by_cases h:gt l i.toNat=0
  ·rw [h,show ((0:Int) != 0)=false from rfl,cond_false]
   obtain ⟨r,e,h1,h2⟩:=ih g (i+1) (by omega) (by omega) (by omega)
   refine ⟨r,e,λhr j h3 h4=>?_,h2⟩
   by_cases ej:(j:Int)=i
   ·rw [show j=i.toNat by omega];exact h
   ·exact h1 hr j (by omega) h4
  ·rw [show (gt l i.toNat != 0)=true from bne_iff_ne.2 h,cond_true]
   exact ⟨i,rfl,λhr=>absurd hi hr,λ_=>⟨i.toNat,by omega,h⟩⟩
theorem factors_nil (hR:R<=48) (hF:1000000000000000<=F):ct.p F R (0:Nat) (mk R 0 A)=some ([],0):=by
 unfold ct.p gN.p iy.p jQ.p apn bw.p
 rw [if_pos (by rw [kB];simp),List.nil_append,Dz (by omega) (by omega),Dz (n:=0) (by omega) (by omega)]
 obtain ⟨f,hf⟩:∃ f,F=f+1:=⟨F - 1,by omega⟩
 have e:(if ((0:Nat):Int)<R then ((0:Nat):Int) else R)=0:=by split <;> omega
 have hrun:∀ (G g:Nat) (l:List Int) (m d r s:List Int),bw.pl3 G (g+1) R l R R m R (0:Nat) d (0:Nat) (0:Nat) r (0:Nat) s false 0=some (l,m,d,r,s,false):=λG g l m d r s=>by
  rw [bw.pl3,e];rfl
 have hfac:∀ (G g:Nat) (c:Int) (l:List Int),ct.pl125 G (g+1) c l [] 0 0=some ([],0):=λG g c l=>by
  rw [ct.pl125];rfl
 simp only [Option.bind_some]
 have h1:=hrun F f (mk R R idM) (mk R R idM) (mk R 0 A) (mk 0 0 idM) (mk 0 0 idM)
 rw [<- hf] at h1
 rw [h1]
 simp only [Option.bind_some,cond_false]
 have h2:=hfac F f ((0:Nat):Int) (mk R 0 A)
 rw [<- hf] at h2
 rw [show ((0:Int) != 0)=false from rfl,cond_false,e]
 exact h2
theorem mul_nil {n:Int} {m:List Int} {X:List Int} (hR:R<=48) (hF:0<F):∀ (k g:Nat) (i:Int),R - i=k->k<g->0<=i->bI.pl61 F g n m (0:Nat) [] R (0:Nat) X R i=some ((R:Int),((0:Nat):Int),X,0):=by
 obtain ⟨f,hf⟩:∃ f,F=f+1:=⟨F - 1,by omega⟩
 intro k
 induction k with
 | zero=>
  intro g i hk hg hi
  obtain ⟨g,rfl⟩:∃ g',g=g'+1:=⟨g - 1,by omega⟩
  rw [bI.pl61,decide_eq_false (by omega),cond_false]
 | succ k ih=>
  intro g i hk hg hi
  obtain ⟨g,rfl⟩:∃ g',g=g'+1:=⟨g - 1,by omega⟩
  rw [bI.pl61,decide_eq_true (by omega),cond_true]
  have h:∀ (pC:Int->List Int->Int->List Int->Int->Int->List Int->Int->Int->Option (Int×Int×List Int×Int)) (G:Nat),bI.pl3931 F pC (G+1) n m (0:Nat) [] R (0:Nat) X R i i (0:Nat) 0=pC n m (0:Nat) [] R (0:Nat) X R (IntKind.i64.wrap (i+1)):=λpC G=>by
   rw [bI.pl3931,decide_eq_false (by omega),cond_false];rfl
  have h':=h (bI.pl61 F g) f
  rw [<- hf] at h'
  rw [h',bv (by omega) (by omega)]
  exact ih g (i+1) (by omega) (by omega) (by omega)
inductive HV (F:Nat) (a b:Int) (l:List Int) (c d:Int) (m:List Int):Int->List Int->Int->Prop
 | bad (e:Int) (he:e≠0):HV F a b l c d m 0 [] e
 | good (R n C':Nat) (A B:Mat) (v w:St) (y y':List Int) (ha:a=n) (hb:b=C') (hc:c=R) (hd:d=n) (hR:R<=48) (hn:n<=48) (hC:C'<=48) (hl:l=mk n C' B) (hm:m=mk R n A) (bA:Bd R n A) (bB:Bd n C' B)
   (h0:On R C' (mm n A B) λ_ _=>0) (rA:Red R n A v) (rB:Red n C' B w) (dA:Dia R n v.d) (dB:Dia n C' w.d) (fA:FV R n v.d y') (fB:FV n C' w.d y)
   (mB:eF.p F a b l=some true) (mA:eF.p F c d m=some true) (eA:ct.p F c d m=some (y',0)) (eB:ct.p F a b l=some (y,0)):HV F a b l c d m (IntKind.i64.wrap (IntKind.i64.wrap (a - y.length) - y'.length)) (tor y) 0
theorem hom_v {a b c d:Int} {l m:List Int} (hF:1000000000000000<=F) (hl:l.length<=2000000) (hm:m.length<=2000000):∃ g t e,gk.p F a b l c d m=some (g,t,e)/\HV F a b l c d m g t e:=by
 unfold gk.p bI.p
 obtain ⟨v,_,e2,hv⟩:=isMatrix_both (F:=F) (a:=a) (b:=b) (l:=l) (by omega) hl
 obtain ⟨u,_,e4,hu⟩:=isMatrix_both (F:=F) (a:=c) (b:=d) (l:=m) (by omega) hm
 rw [e2,e4]
 simp only [Option.bind_some]
 cases u with
 | false=>exact ⟨_,_,_,rfl,.bad 1 (by decide)⟩
 | true=>
  cases v with
  | false=>exact ⟨_,_,_,rfl,.bad 1 (by decide)⟩
  | true=>
   obtain ⟨K,C,B,rfl,rfl,hK,hC,rfl,hB⟩:=hv rfl
   obtain ⟨R,K',A,rfl,rfl,hR,hK',rfl,hA⟩:=hu rfl
   simp only [Bool.not_true,cond_false]
   by_cases hkk:(K':Int)=K
   ·obtain rfl:K'=K:=by omega
    rw [bne_self_eq_false,cond_false]
    have hz:R * C<=48 * 48:=Nat.mul_le_mul hR hC
    rcases mul_v (F:=F) hR hK hC (by omega) hA hB with f1 | ⟨y2,f1⟩
    ·rw [f1];exact ⟨_,_,_,rfl,.bad 3 (by decide)⟩
    ·rw [f1]
     simp only [Option.bind_some,bne_self_eq_false,cond_false]
     have hlen:(mk R C (mm K' A B)).length=R * C:=kB _ _ _
     obtain ⟨r,i2,i3,_⟩:=scan_l (F:=F) (l:=mk R C (mm K' A B)) (by omega) (mk R C (mm K' A B)).length F 0 (by omega) (by omega) (by omega)
     unfold iK.p dU.p
     rw [i2,Option.bind_some,Option.bind_some]
     by_cases hr:r>=0
     ·rw [decide_eq_true hr,cond_true];exact ⟨_,_,_,rfl,.bad 5 (by decide)⟩
     ·rw [decide_eq_false hr,cond_false]
      have h0:On R C (mm K' A B) λ_ _=>0:=λi j h1 h2 h3 h4=>by
       obtain ⟨x,y,rfl,rfl,g1,g2,g3,g4,g5⟩:=xk h1 h2 h3 h4
       have:=i3 hr (x * C+y) (by omega) (by omega)
       rw [<- g3,jz h1 h2 h3 h4] at this;exact this
      rcases factors_v (F:=F) hK hC hF hB with g1 | ⟨y,w,wr,wd,wf,g1⟩
      ·rcases factors_v (F:=F) hR hK hF hA with g3 | ⟨y',v,vr,vd,vf,g3⟩
       ·rw [g1,g3];exact ⟨_,_,_,rfl,.bad 3 (by decide)⟩
       ·rw [g1,g3];exact ⟨_,_,_,rfl,.bad 3 (by decide)⟩
      ·rcases factors_v (F:=F) hR hK hF hA with g3 | ⟨y',v,vr,vd,vf,g3⟩
       ·rw [g1,g3];exact ⟨_,_,_,rfl,.bad 3 (by decide)⟩
       ·have hy:=wf.r
        have hg:=HV.good (F:=F) R K' C A B v w y y' rfl rfl rfl rfl hR hK hC rfl rfl hA hB h0 vr wr vd wd vf wf e2 e4 g3 g1
        rw [g1,g3]
        unfold fY.p
        simp only [Option.bind_some,bne_self_eq_false,cond_false]
        rw [UW (by omega) (by omega),Option.bind_some]
        exact ⟨_,_,_,rfl,hg⟩
   ·rw [show ((K':Int) != K)=true from bne_iff_ne.2 hkk]
    exact ⟨_,_,_,rfl,.bad 2 (by decide)⟩
theorem hom_none {c d:Int} {m:List Int} {R n:Nat} (hF:1000000000000000<=F) (hR:R<=48) (hn:n<=48) (hm:m=mk R n A) (mA:eF.p F c d m=some true) (hc:c=R) (hd:d=n) {y':List Int} (eA:ct.p F c d m=some (y',0)) :
  gk.p F n 0 [] c d m=some (IntKind.i64.wrap (IntKind.i64.wrap ((n:Int) - 0) - y'.length),[],0):=by
 subst hc hd
 have hml:m.length=R * n:=by rw [hm,kB]
 unfold gk.p bI.p
 have e2:eF.p F n 0 []=some true:=by
  obtain ⟨v,_,e2,_⟩:=isMatrix_both (F:=F) (a:=n) (b:=0) (l:=[]) (by omega) (by simp)
  have e3:eF.p F n 0 []=some true:=by
   unfold eF.p g_.p fY.p iI.p dT.p
   obtain ⟨f,hf⟩:∃ f,F=f+1:=⟨F - 1,by omega⟩
   rw [decide_eq_true (show (0:Int)<=n by omega),decide_eq_true (show (n:Int)<=48 by omega)]
   simp only [cond_true,Option.bind_some]
   rw [decide_eq_true (show (0:Int)<=0 by omega),decide_eq_true (show (0:Int)<=48 by omega)]
   simp only [cond_true,Option.bind_some,Int.mul_zero]
   have:∀ G,dT.pl13 F (G+1) ([]:List Int) (([]:List Int).length:Int) 0=some (-1):=λG=>by
    rw [dT.pl13];rfl
   have:=this f
   rw [<- hf] at this
   rw [this];rfl
  exact e3
 rw [e2,mA]
 simp only [Option.bind_some,Bool.not_true,cond_false,bne_self_eq_false]
 have hz:fH.p F R 0=some ((R:Int),((0:Nat):Int),[]):=by
  unfold fH.p mkn
  rw [Int.mul_zero,bv (by omega) (by omega)];rfl
 have hmul:=mul_nil (F:=F) (n:=(n:Int)) (m:=m) (X:=[]) hR (by omega) R F 0 (by omega) (by omega) (by omega)
 have hmul:bI.pl61 F F n m 0 [] R 0 [] R 0=some ((R:Int),(0:Int),[],0):=hmul
 rw [hz]
 simp only [Option.bind_some]
 have hz2:(((0:Nat):Int))=0:=rfl
 rw [hz2,hmul]
 simp only [Option.bind_some,bne_self_eq_false,cond_false]
 unfold iK.p dU.p
 obtain ⟨f,hf⟩:∃ f,F=f+1:=⟨F - 1,by omega⟩
 have:∀ G,dU.pl13 F (G+1) ([]:List Int) (([]:List Int).length:Int) 0=some (-1):=λG=>by
  rw [dU.pl13];rfl
 have:=this f
 rw [<- hf] at this
 rw [this,Option.bind_some,Option.bind_some,show decide ((-1:Int)>=0)=false from rfl,cond_false]
 have e5:=factors_nil (A:=λ_ _=>0) (R:=n) hn hF
 have e5:ct.p F n 0 []=some ([],0):=e5
 rw [e5,eA]
 unfold fY.p
 simp only [Option.bind_some,bne_self_eq_false,cond_false]
 rw [UW (by omega) (by simp)]
 rfl
end Go.Proofs.Ytokekkacliomkaa.AE
end
section
namespace Go.Proofs.Ytokekkacliomkaa.AE
open Go Go.AE Go.Proofs
variable {F:Nat} {c:List Int}
theorem at_l {R C:Nat} {l:List Int} {i j:Int} (hR:R<=1000) (hC:C<=1000) (hl:l.length=R * C) (hi0:0<=i) (hi:i<R) (hj0:0<=j) (hj:j<C):∃ x,bm.p F C l i j=some x:=by
 rw [DT hl,at_mk hR hC hi0 hi hj0 hj];exact ⟨_,rfl⟩
theorem ix_l {R C:Nat} {l:List Int} {i j:Int} (hR:R<=1000) (hC:C<=1000) (hl:l.length=R * C) (hi0:0<=i) (hi:i<R) (hj0:0<=j) (hj:j<C):∃ x,ix l (IntKind.i64.wrap (IntKind.i64.wrap (i * C)+j))=some x:=by
 rw [DT hl,iG hR hC hi0 hi hj0 hj];exact ⟨_,rfl⟩
section
variable {n k:Nat} {o0 o1 rk:Int} {ol r:List Int}
theorem dh1 (hn:n<=48) (hk:k<=48) (hr:r.length=n * n) {pC pD} {a s i0 i1 j cc x:Int} (hj0:0<=j) (hj:j<k) (hc0:0<=cc) (hc:cc<n):∀ (m g:Nat) (l:List Int) (i:Int),n - i=m->m<g->0<=i->l.length=n * k ->
  ∃ l',l'.length=n * k/\aB.pl4192939 F pC pD g c a s n o0 o1 ol n r rk k i0 i1 l j cc x i=pD c a s n o0 o1 ol n r rk k i0 i1 l' j (cc+1):=by
 intro m
 induction m with
 | zero=>
  intro g l i hm hg hi hl
  obtain ⟨g,rfl⟩:∃ g',g=g'+1:=⟨g - 1,by omega⟩
  rw [aB.pl4192939,decide_eq_false (by omega),cond_false]
  unfold aB.pj13 aB.pj12
  rw [bv (by omega) (by omega)]
  exact ⟨l,hl,rfl⟩
 | succ m ih=>
  intro g l i hm hg hi hl
  obtain ⟨g,rfl⟩:∃ g',g=g'+1:=⟨g - 1,by omega⟩
  obtain ⟨n1,e1⟩:=ix_l (R:=n) (C:=k) (l:=l) (i:=i) (j:=j) (by omega) (by omega) hl hi (by omega) hj0 hj
  obtain ⟨y,e2⟩:=at_l (F:=F) (R:=n) (C:=n) (l:=r) (i:=i) (j:=cc) (by omega) (by omega) hr hi (by omega) hc0 hc
  rw [aB.pl4192939,decide_eq_true (by omega),cond_true,e1,Option.bind_some,e2,Option.bind_some,Option.bind_some,Option.bind_some,bv (x:=i+1) (by omega) (by omega)]
  exact ih g _ (i+1) (by omega) (by omega) (by omega) (by rw [List.length_set];exact hl)
theorem dh2 (hn:n<=48) (hk:k<=48) (hF:5000000<F) (hr:r.length=n * n) {pC} {i0 i1 j:Int} (hj0:0<=j) (hj:j<k):∀ (m g:Nat) (a s:Int) (l:List Int) (cc:Int),n - cc=m->m<g->0<=cc->cc<=n->l.length=n * k->SS.Src c a s ->
  ∃ l' a' s',l'.length=n * k/\SS.Src c a' s'/\aB.pl131029 F pC g c a s n o0 o1 ol n r rk k i0 i1 l j cc=pC c a' s' n o0 o1 ol n r rk k i0 i1 l' (j+1):=by
 intro m
 induction m with
 | zero=>
  intro g a s l cc hm hg hc hc2 hl hs
  obtain ⟨g,rfl⟩:∃ g',g=g'+1:=⟨g - 1,by omega⟩
  rw [aB.pl131029,decide_eq_false (by omega),cond_false]
  unfold aB.pj11 aB.pj10
  rw [bv (by omega) (by omega)]
  exact ⟨l,a,s,hl,hs,rfl⟩
 | succ m ih=>
  intro g a s l cc hm hg hc hc2 hl hs
  obtain ⟨g,rfl⟩:∃ g',g=g'+1:=⟨g - 1,by omega⟩
  obtain ⟨x,a1,s1,e1,h1,x0,x1⟩:=SS.nx (F:=F) (n:=7) hs (by omega)
  rw [aB.pl131029,decide_eq_true (by omega),cond_true,e1,Option.bind_some]
  simp only []
  rw [bv (x:=x - 3) (by omega) (by omega)]
  obtain ⟨l',hl',e⟩:=dh1 (F:=F) (c:=c) (o0:=o0) (o1:=o1) (rk:=rk) (ol:=ol) (pC:=pC) (pD:=aB.pl131029 F pC g) (a:=a1) (s:=s1) (i0:=i0) (i1:=i1) (x:=x - 3) hn hk hr hj0 hj hc (by omega) n F l 0 (by omega) (by omega) (by omega) hl
  rw [e]
  exact ih g a1 s1 l' (cc+1) (by omega) (by omega) (by omega) (by omega) hl' h1
theorem dh3 (hn:n<=48) (hk:k<=48) (hF:5000000<F) (hr:r.length=n * n) (h0:0<=rk) (h1:rk<=n) {i0 i1:Int}:∀ (m g:Nat) (a s:Int) (l:List Int) (j:Int),k - j=m->m<g->0<=j->l.length=n * k->SS.Src c a s ->
  ∃ l',List.length l'=n * k/\aB.pl8189 F g c a s n o0 o1 ol n r rk k i0 i1 l j=some (i0,i1,l',o0,o1,ol):=by
 intro m
 induction m with
 | zero=>
  intro g a s l j hm hg hj hl hs
  obtain ⟨g,rfl⟩:∃ g',g=g'+1:=⟨g - 1,by omega⟩
  rw [aB.pl8189,decide_eq_false (by omega),cond_false]
  exact ⟨l,hl,rfl⟩
 | succ m ih=>
  intro g a s l j hm hg hj hl hs
  obtain ⟨g,rfl⟩:∃ g',g=g'+1:=⟨g - 1,by omega⟩
  rw [aB.pl8189,decide_eq_true (by omega),cond_true]
  obtain ⟨l',a',s',q1,q2,q3⟩:=dh2 (F:=F) (c:=c) (o0:=o0) (o1:=o1) (rk:=rk) (ol:=ol) (pC:=aB.pl8189 F g) (i0:=i0) (i1:=i1) hn hk hF hr hj (by omega) (n - rk).toNat F a s l rk (by omega) (by omega) h0 h1 hl hs
  rw [q3]
  exact ih g a' s' l' (j+1) (by omega) (by omega) (by omega) q1 q2
theorem dh4 (hn:n<=48) (hF:5000000<F) (hr:r.length=n * n) (h0:0<=rk) (h1:rk<=n) {a s:Int} (hs:SS.Src c a s):∃ x y l,aB.pj14 F c a s n o0 o1 ol n r rk=some (x,y,l,o0,o1,ol)/\List.length l<=2000000:=by
 unfold aB.pj14
 obtain ⟨q,a1,s1,e1,k1,q0,q1⟩:=SS.nx (F:=F) (n:=4) hs (by omega)
 rw [e1,Option.bind_some]
 simp only []
 obtain ⟨k,rfl⟩:=Int.eq_ofNat_of_zero_le q0
 have hk:k<=48:=by omega
 have hm:n * k<=48 * 48:=Nat.mul_le_mul hn hk
 rw [zero_l (by omega) (by omega) (by omega) (by omega),Option.bind_some]
 simp only []
 obtain ⟨l',h2,e⟩:=dh3 (F:=F) (c:=c) (o0:=o0) (o1:=o1) (ol:=ol) (i0:=(n:Int)) (i1:=(k:Int)) hn hk hF hr h0 h1 k F a1 s1 (List.replicate ((n:Int) * k).toNat 0) 0 (by omega) (by omega) (by omega) (by rw [List.length_replicate,<-Int.natCast_mul,Int.toNat_natCast]) k1
 rw [e]
 exact ⟨_,_,_,rfl,by omega⟩
theorem dh5 {R:Nat} {d:List Int} (hR:R<=48) (hn:n<=48) (hF:5000000<F) (hd:d.length=R * n) (hr:r.length=n * n) {a s:Int} (hs:SS.Src c a s):∀ (m g:Nat) (i:Int),n - i=m->m<g->0<=i->i<=n ->
  ∃ x y l,aB.pl510 F g c a s n R o1 ol n d n r i=some (x,y,l,(R:Int),o1,ol)/\List.length l<=2000000:=by
 intro m
 induction m with
 | zero=>
  intro g i hm hg hi hi2
  obtain ⟨g,rfl⟩:∃ g',g=g'+1:=⟨g - 1,by omega⟩
  rw [aB.pl510,decide_eq_false (by split <;> omega),cond_false]
  exact dh4 hn hF hr hi hi2 hs
 | succ m ih=>
  intro g i hm hg hi hi2
  obtain ⟨g,rfl⟩:∃ g',g=g'+1:=⟨g - 1,by omega⟩
  rw [aB.pl510]
  by_cases h:i<(if (n:Int)<R then (n:Int) else R)
  ·obtain ⟨x,e⟩:=at_l (F:=F) (R:=R) (C:=n) (l:=d) (i:=i) (j:=i) (by omega) (by omega) hd hi (by split at h <;> omega) hi (by omega)
   rw [decide_eq_true h,cond_true,e,Option.bind_some,bv (x:=i+1) (by omega) (by omega)]
   cases (x != 0) with
   | true=>rw [cond_true];exact ih g (i+1) (by omega) (by omega) (by omega) (by omega)
   | false=>rw [cond_false];exact dh4 hn hF hr hi hi2 hs
  ·rw [decide_eq_false h,cond_false]
   exact dh4 hn hF hr hi hi2 hs
end
theorem draw_hom (hF:1000000000000000<=F) (hc:c.length<=1000000) (hb:∀ m:Nat,0<=gt c m/\gt c m<=255):∃ a b l d e m,aB.p F c=some (a,b,l,d,e,m)/\List.length l<=2000000/\List.length m<=2000000:=by
 unfold aB.p
 obtain ⟨t,e0,h0⟩:=SS.from_ (F:=F) (by omega) hc hb
 rw [e0,Option.bind_some]
 simp only []
 obtain ⟨q,a1,s1,e1,h1,q0,q1⟩:=SS.nx (F:=F) (n:=4) h0 (by omega)
 obtain ⟨p,a2,s2,e2,h2,p0,p1⟩:=SS.nx (F:=F) (n:=4) h1 (by omega)
 rw [e1,Option.bind_some]
 simp only []
 rw [e2,Option.bind_some]
 simp only []
 rw [bv (x:=1+q) (by omega) (by omega)]
 obtain ⟨R,rfl⟩:=Int.eq_ofNat_of_zero_le p0
 obtain ⟨n,hn⟩:∃ n:Nat,1+q=n:=⟨(1+q).toNat,by omega⟩
 rw [hn]
 obtain ⟨l,a3,s3,e3,l1,l2,h3⟩:=draw_size (F:=F) (R:=(R:Int)) (C:=(n:Int)) (by omega) (by omega) (by omega) (by omega) (by omega) h2
 have hl:l.length=R * n:=by rw [l1,<-Int.natCast_mul,Int.toNat_natCast]
 have hRn:R * n<=48 * 48:=Nat.mul_le_mul (by omega) (by omega)
 have hl48:l.length<=48 * 48:=by rw [hl];exact hRn
 obtain ⟨x,a4,s4,e4,h4,x0,x1⟩:=SS.nx (F:=F) (n:=10) h3 (by omega)
 rw [e3,Option.bind_some]
 simp only []
 rw [e4,Option.bind_some]
 simp only []
 cases (x==0) with
 | true=>
  obtain ⟨u,v,w,a5,s5,e5,w1,_⟩:=draw_matrix (F:=F) (by omega) h4
  rw [cond_true,e5,Option.bind_some]
  exact ⟨u,v,w,R,n,l,rfl,by omega,by omega⟩
 | false=>
  rw [cond_false]
  have hbd:Bd R n λi j=>gt l (i * n+j).toNat:=λi j i0 i1 j0 j1=>by
   obtain ⟨u,v,rfl,rfl,g1,g2,g3,g4,g5⟩:=xk i0 i1 j0 j1
   show _<=gt l ((u:Int) * n+v).toNat/\gt l ((u:Int) * n+v).toNat<=_
   rw [g3]
   have h5:gt l (u * n+v)=l[u * n+v]'(by omega):=by unfold gt;simp [show u * n+v<l.length by omega]
   have:=l2 _ (List.getElem_mem (show u * n+v<l.length by omega))
   rw [h5];omega
  obtain ⟨t,et,t1,t2,t3,t4⟩:=reduce_len (F:=F) (R:=R) (C:=n) (by omega) (by omega) hF hbd
  rw [<- DT hl] at et
  rw [et,Option.bind_some,t1,t3]
  obtain ⟨u,v,w,e6,w1⟩:=dh5 (F:=F) (c:=c) (R:=R) (n:=n) (o1:=(n:Int)) (ol:=l) (r:=t.2.2.2.2.2.2.2.2.2.2.2.1) (by omega) (by omega) (by omega) t2 t4 h4 n F 0 (by omega) (by omega) (by omega) (by omega)
  rw [e6]
  exact ⟨_,_,_,_,_,_,rfl,w1,by omega⟩
theorem isab_l {rk:Int} {t:List Int} (h0:0<=rk) (h48:rk<=48) (ht:t.length<=48) (hb:∀ x∈t,2<=x/\x<=1000000000000) (hp:t.Pairwise (·∣·)):∀ (m g i:Nat),t.length - i=m->m<g->dc.pl13 F g rk t i=some true:=by
 intro m
 induction m with
 | zero=>
  intro g i hm hg
  obtain ⟨g,rfl⟩:∃ g',g=g'+1:=⟨g - 1,by omega⟩
  rw [dc.pl13,decide_eq_false (by omega),cond_false]
  unfold dc.pj1 gO.p
  rw [decide_eq_true (show rk>=0 by omega),cond_true,Option.bind_some,decide_eq_true h48,cond_true,decide_eq_true (by omega)]
 | succ m ih=>
  intro g i hm hg
  obtain ⟨g,rfl⟩:∃ g',g=g'+1:=⟨g - 1,by omega⟩
  have hi:i<t.length:=by omega
  have hgt:∀ j (hj:j<t.length),gt t j=t[j]:=λj hj=>by unfold gt;simp [hj]
  have hbi:=hb _ (List.getElem_mem hi)
  rw [dc.pl13,decide_eq_true (by omega),cond_true,ixk (by omega) (by omega),Option.bind_some,Int.toNat_natCast,hgt i hi]
  unfold gO.p
  rw [decide_eq_true (show t[i]>=2 by omega),cond_true,Option.bind_some,decide_eq_true (show t[i]<=1000000000000 by omega)]
  simp only [Bool.not_true,cond_false]
  have hw:IntKind.i64.wrap ((i:Int)+1)=((i+1:Nat):Int):=by rw [bv (by omega) (by omega)];omega
  rw [hw]
  have hn:=ih g (i+1) (by omega) (by omega)
  by_cases h:(i:Int)>0
  ·have hj:i - 1<t.length:=by omega
   have hbj:=hb _ (List.getElem_mem hj)
   have hdv:t[i - 1]∣t[i]:=List.pairwise_iff_getElem.1 hp (i - 1) i hj hi (by omega)
   rw [decide_eq_true h,cond_true,bv (x:=(i:Int) - 1) (by omega) (by omega),show (i:Int) - 1=((i - 1:Nat):Int) by omega,ixk (by omega) (by omega),Option.bind_some,Option.bind_some]
   simp only [Int.toNat_natCast]
   rw [hgt i hi,hgt _ hj,if_neg (by omega),Int.tmod_eq_zero_of_dvd hdv]
   rw [show ((0:Int) != 0)=false from rfl,cond_false];exact hn
  ·rw [decide_eq_false h,cond_false];exact hn
theorem FV.pair {R C:Nat} {A:Mat} {y:List Int} (h:FV R C A y) (hD:Dia R C A):y.Pairwise (·∣·):=by
 rw [List.pairwise_iff_getElem]
 intro i j hi hj hij
 have h1:=(h.v i hi).1
 have h2:=(h.v j hj).1
 rw [List.getElem?_eq_getElem hi] at h1
 rw [List.getElem?_eq_getElem hj] at h2
 rw [Option.some.inj h1,Option.some.inj h2]
 have:=h.r
 have:=h.c
 exact hD.c i j (by omega) (by omega) (by omega) (by omega)
theorem FV.tor {R C:Nat} {A:Mat} {y:List Int} (h:FV R C A y):∀ x∈tor y,2<=x/\x<=1000000000000:=λx hx=>by
 obtain ⟨h1,h2⟩:=List.mem_filter.1 hx
 obtain ⟨i,hi,rfl⟩:=List.mem_iff_getElem.1 h1
 obtain ⟨k1,k2,k3⟩:=h.v i hi
 rw [List.getElem?_eq_getElem hi] at k1
 rw [Option.some.inj k1] at h2 ⊢
 have:A i i≠1:=by simpa using h2
 omega
theorem FnHomology_pure:∀ (bN:List Int),bN.length<=maxLen->(∀ x∈bN,(Lit.int .u8 x).wf=true)->∃ F,iD.p F bN=some true:=by
 intro c _ hx
 obtain ⟨F,hF⟩:∃ F:Nat,F=1000000000000000:=⟨_,rfl⟩
 refine ⟨F,?_⟩
 unfold iD.p ka.p
 rw [Option.bind_some]
 by_cases hb:(c.length:Int)>4096
 ·rw [decide_eq_true hb,cond_true]
 rw [decide_eq_false hb,cond_false]
 have hby:∀ m:Nat,0<=gt c m/\gt c m<=255:=λm=>by
  by_cases hm:m<c.length
  ·have h1:gt c m=c[m]:=by unfold gt;simp [hm]
   have:=hx _ (List.getElem_mem hm)
   rw [h1]
   have h2:IntKind.u8.min<=c[m]/\c[m]<=IntKind.u8.max:=by simpa [Lit.wf] using this
   have h3:IntKind.u8.min=0:=by decide
   have h4:IntKind.u8.max=255:=by decide
   omega
  ·have h1:gt c m=0:=by unfold gt;rw [List.getD_eq_getElem?_getD,List.getElem?_eq_none (by omega)];rfl
   rw [h1];omega
 obtain ⟨a,b,l,d,e,m,e1,hl,hm⟩:=draw_hom (F:=F) (by omega) (by omega) hby
 rw [e1,Option.bind_some]
 simp only []
 obtain ⟨g,t,k,e2,hv⟩:=hom_v (F:=F) (a:=a) (b:=b) (c:=d) (d:=e) (by omega) hl hm
 rw [e2,Option.bind_some]
 simp only []
 cases hv with
 | bad _ hk=>rw [show (k != 0)=true from bne_iff_ne.2 hk];rfl
 | good R n C' A B v w y y' ha hb hc hd hR hn hC hl' hm' bA bB h0 rA rB dA dB fA fB mB mA eA eB=>
  have y1:=fB.r
  have y2:=fA.c
  have hadd:=rank_add (a:=y'.length) (b:=y.length) rA rB h0 dA dB ⟨fA.r,fA.c⟩ ⟨fB.r,fB.c⟩ (λi i0 i1=>by
   have:=(fA.v i.toNat (by omega)).2.1
   rw [Int.toNat_of_nonneg i0] at this;omega) (λi i0 i1=>by
   have:=(fB.v i.toNat (by omega)).2.1
   rw [Int.toNat_of_nonneg i0] at this;omega)
  have hrk:∀ {a b:Int} {l y:List Int},l.length<=2000000->eF.p F a b l=some true->ct.p F a b l=some (y,0)->ii.p F a b l=some ((y.length:Int),0):=λ{a b l y} hl h1 h2=>by
   unfold ii.p fY.p
   rcases inv_v (F:=F) (a:=a) (b:=b) (l:=l) (by omega) hl with ⟨q,_⟩ | ⟨_,_,_,_,_,_,_,_,_,_,q⟩
   ·rw [h1] at q;cases q
   ·rw [q,h2];rfl
  have hnone:=hom_none (F:=F) (by omega) hR hn hm' mA hc hd eA
  rw [ha] at eB mB ⊢
  have r1:=hrk hl mB eB
  have r2:=hrk hm mA eA
  simp only [r1,r2,hnone,Option.bind_some,bne_self_eq_false,cond_false,beq_self_eq_true,cond_true]
  have w1:IntKind.i64.wrap (IntKind.i64.wrap ((n:Int) - y.length) - y'.length)=(n:Int) - y.length - y'.length:=by rw [bv (x:=(n:Int) - y.length) (by omega) (by omega),bv (by omega) (by omega)]
  have w2:IntKind.i64.wrap (IntKind.i64.wrap ((n:Int) - 0) - y'.length)=(n:Int) - y'.length:=by rw [bv (x:=(n:Int) - 0) (by omega) (by omega),bv (by omega) (by omega)];omega
  rw [w1,w2,bv (x:=(n:Int) - y.length - y'.length+y.length) (by omega) (by omega),bv (x:=(n:Int) - y.length - y'.length+y.length+y'.length) (by omega) (by omega),bv (x:=(n:Int) - y'.length+y'.length) (by omega) (by omega)]
  rw [show ((n:Int) - y.length - y'.length+y.length+y'.length==(n:Int))=true from beq_iff_eq.2 (by omega),show ((n:Int) - y'.length+y'.length==(n:Int))=true from beq_iff_eq.2 (by omega)]
  simp only [cond_true,List.length_nil]
  have htl:(tor y).length<=y.length:=tor_len
  have hab:=isab_l (F:=F) (rk:=(n:Int) - y.length - y'.length) (t:=tor y) (by omega) (by omega) (by omega) fB.tor ((fB.pair dB).filter _) (tor y).length F 0 (by omega) (by omega)
  unfold dc.p
  have hab:dc.pl13 F F ((n:Int) - y.length - y'.length) (tor y) 0=some true:=hab
  rw [hab];rfl
end Go.Proofs.Ytokekkacliomkaa.AE
end
