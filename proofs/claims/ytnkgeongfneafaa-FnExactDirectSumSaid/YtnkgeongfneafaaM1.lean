import Derived.Test.YtnkgeongfneafaaE2
import Derived.Test.YtnkgeongfneafaaP2
set_option linter.unusedVariables false
set_option linter.unusedSimpArgs false
section
namespace Go.AE
abbrev Mat:=Int->Int->Int
def mk (R C:Nat) (A:Mat):List Int:=(List.range (R * C)).map λn=>A ((n / C:Nat):Int) ((n % C:Nat):Int)
def upd (A:Mat) (i j x:Int):Mat:=λa b=>if a=i/\b=j then x else A a b
theorem Cv (A:Mat) (i j x:Int):upd A i j x i j=x:=by simp [upd]
theorem lJ (A:Mat) {i j a b:Int} (x:Int) (h:¬ (a=i/\b=j)):upd A i j x a b=A a b:=by simp only [upd,if_neg h]
variable {R C:Nat} {A B:Mat}
theorem nj (R C:Nat) (A:Mat):(mk R C A).length=R * C:=by simp [mk]
theorem Cw {i j:Int} (hi0:0<=i) (hi:i<R) (hj0:0<=j) (hj:j<C):∃ a b:Nat,i=a/\j=b/\a<R/\b<C/\(i * C+j).toNat=a * C+b/\a * C+b<R * C/\(i * C+j)=((a * C+b:Nat):Int):=by
 refine ⟨i.toNat,j.toNat,by omega,by omega,by omega,by omega,?_,?_,?_⟩
 ·obtain ⟨a,rfl⟩:=Int.eq_ofNat_of_zero_le hi0
  obtain ⟨b,rfl⟩:=Int.eq_ofNat_of_zero_le hj0
  simp only [Int.toNat_natCast]
  rw [<- Int.natCast_mul,<-Int.natCast_add,Int.toNat_natCast]
 ·have h1:i.toNat+1<=R:=by omega
  have:=Nat.mul_le_mul_right C h1
  rw [Nat.add_mul] at this
  omega
 ·obtain ⟨a,rfl⟩:=Int.eq_ofNat_of_zero_le hi0
  obtain ⟨b,rfl⟩:=Int.eq_ofNat_of_zero_le hj0
  simp
theorem x_ {a b:Nat} (hb:b<C) (h:a * C+b<R * C):(mk R C A)[a * C+b]?=some (A a b):=by
 have hC:0<C:=by omega
 have e1:(a * C+b) / C=a:=by rw [Nat.add_comm,Nat.add_mul_div_right _ _ hC,Nat.div_eq_of_lt hb,Nat.zero_add]
 have e2:(a * C+b) % C=b:=by rw [Nat.add_comm,Nat.add_mul_mod_self_right,Nat.mod_eq_of_lt hb]
 unfold mk
 rw [List.getElem?_map,List.getElem?_range h]
 simp only [Option.map_some,e1,e2]
theorem li {i j:Int} (hi0:0<=i) (hi:i<R) (hj0:0<=j) (hj:j<C):gt (mk R C A) (i * C+j).toNat=A i j:=by
 obtain ⟨a,b,rfl,rfl,ha,hb,e,hlt,_⟩:=Cw hi0 hi hj0 hj
 rw [e]
 unfold gt
 rw [List.getD_eq_getElem?_getD,x_ hb hlt];rfl
theorem jI {i j:Int} (hR:R<=1000) (hC:C<=1000) (hi0:0<=i) (hi:i<R) (hj0:0<=j) (hj:j<C):ix (mk R C A) (IntKind.i64.wrap (IntKind.i64.wrap (i * C)+j))=some (i * C+j).toNat:=by
 obtain ⟨a,b,e1,e2,ha,hb,e,hlt,e3⟩:=Cw hi0 hi hj0 hj
 have hm:R * C<=1000 * 1000:=Nat.mul_le_mul hR hC
 have h1:0<=i * C:=Int.mul_nonneg hi0 (Int.natCast_nonneg _)
 rw [cj (x:=i * C) (by omega) (by omega),cj (x:=i * C+j) (by omega) (by omega)]
 unfold ix
 rw [nj,if_pos (by omega)]
theorem fN (h:∀ i j:Int,0<=i->i<R->0<=j->j<C->A i j=B i j):mk R C A=mk R C B:=by
 unfold mk
 apply List.map_congr_left
 intro n hn
 have hn:=List.mem_range.1 hn
 have hC:0<C:=by
  rcases Nat.eq_zero_or_pos C with h | h
  ·subst h;simp at hn
  ·exact h
 exact h _ _ (Int.natCast_nonneg _) (Int.ofNat_lt.2 ((Nat.div_lt_iff_lt_mul hC).2 hn)) (Int.natCast_nonneg _) (Int.ofNat_lt.2 (Nat.mod_lt n hC))
theorem mP {i j x:Int} (hi0:0<=i) (hi:i<R) (hj0:0<=j) (hj:j<C):(mk R C A).set (i * C+j).toNat x=mk R C (upd A i j x):=by
 obtain ⟨a,b,rfl,rfl,ha,hb,e,hlt,_⟩:=Cw hi0 hi hj0 hj
 rw [e]
 apply List.ext_getElem?
 intro n
 by_cases hn:n<R * C
 ·have hC:0<C:=by omega
  have hd:n=n / C * C+n % C:=by rw [Nat.mul_comm,Nat.div_add_mod]
  have hr:=Nat.mod_lt n hC
  rw [hd,x_ hr (by omega)]
  by_cases e:n / C=a/\n % C=b
  ·rw [e.1,e.2,List.getElem?_set_self (by rw [nj];exact hlt),Cv]
  ·have:a * C+b≠n / C * C+n % C:=by
    intro h
    rw [<- hd] at h
    apply e
    constructor
    ·rw [<- h,Nat.add_comm,Nat.add_mul_div_right _ _ hC,Nat.div_eq_of_lt hb,Nat.zero_add]
    ·rw [<- h,Nat.add_comm,Nat.add_mul_mod_self_right,Nat.mod_eq_of_lt hb]
   rw [List.getElem?_set_ne this,x_ hr (by omega),lJ _ _ (by omega)]
 ·rw [List.getElem?_eq_none (by rw [List.length_set,nj];omega),List.getElem?_eq_none (by rw [nj];omega)]
end Go.AE
end
section
namespace Go.Proofs.Ytnkgeongfneafaa.AE
open Go Go.AE Go.Proofs
def sw (i k a:Int):Int:=if a=i then k else if a=k then i else a
def swR (A:Mat) (i k:Int):Mat:=λa b=>A (sw i k a) b
def swC (A:Mat) (j k:Int):Mat:=λa b=>A a (sw j k b)
def ngR (A:Mat) (k:Int):Mat:=λa b=>if a=k then - A a b else A a b
def ngC (A:Mat) (k:Int):Mat:=λa b=>if b=k then - A a b else A a b
def Bd (R C:Nat) (A:Mat):Prop:=∀ i j:Int,0<=i->i<R->0<=j->j<C->-1000000000000<=A i j/\A i j<=1000000000000
variable {R C F:Nat} {A:Mat} {i j k:Int}
theorem at_mk (hR:R<=1000) (hC:C<=1000) (hi0:0<=i) (hi:i<R) (hj0:0<=j) (hj:j<C):bo.p F C (mk R C A) i j=some (A i j):=by
 unfold bo.p
 simp (disch:=omega) only [jI,li,Option.bind_some]
theorem L_ (hR:R<=1000) (hC:C<=1000) (hi0:0<=i) (hi:i<R) (hk0:0<=k) (hk:k<R):∀ (n f:Nat) (A:Mat) (j:Int),C - j=n->n<f->0<=j ->
  cD.pl7 F f i k C (mk R C A) j=some (mk R C λa b=>if j<=b then A (sw i k a) b else A a b):=by
 intro n
 induction n with
 | zero=>
  intro f A j hn hf hj
  obtain ⟨f,rfl⟩:∃ f',f=f'+1:=⟨f - 1,by omega⟩
  rw [cD.pl7,show decide (j<(C:Int))=false from decide_eq_false (by omega),cond_false]
  congr 1
  apply fN
  intro a b _ _ _ _
  rw [if_neg (by omega)]
 | succ n ih=>
  intro f A j hn hf hj
  obtain ⟨f,rfl⟩:∃ f',f=f'+1:=⟨f - 1,by omega⟩
  rw [cD.pl7,show decide (j<(C:Int))=true from decide_eq_true (by omega),cond_true]
  simp (disch:=omega) only [at_mk,jI,li,mP,Option.bind_some,cj]
  rw [ih _ _ _ (by omega) (by omega) (by omega)]
  congr 1
  apply fN
  intro a b _ _ _ _
  unfold upd sw
  grind
theorem BI (hR:R<=1000) (hC:C<=1000) (hF:C<F) (hi0:0<=i) (hi:i<R) (hk0:0<=k) (hk:k<R):cD.p F C (mk R C A) i k=some (mk R C (swR A i k)):=by
 unfold cD.p
 rw [L_ hR hC hi0 hi hk0 hk C F A 0 (by omega) hF (by omega)]
 apply congrArg some
 apply fN
 intro a b _ _ _ _
 exact if_pos (by omega)
theorem Ma (hR:R<=1000) (hC:C<=1000) (hi0:0<=i) (hi:i<R) (hk0:0<=k) (hk:k<R):∀ (n f:Nat) (A:Mat) (j:Int),C - j=n->n<f->0<=j ->
  cU.pl7 F f i k C (mk R C A) C j=some (mk R C λa b=>if j<=b then A (sw i k a) b else A a b):=by
 intro n
 induction n with
 | zero=>
  intro f A j hn hf hj
  obtain ⟨f,rfl⟩:∃ f',f=f'+1:=⟨f - 1,by omega⟩
  rw [cU.pl7,show decide (j<(C:Int))=false from decide_eq_false (by omega),cond_false]
  congr 1
  apply fN
  intro a b _ _ _ _
  rw [if_neg (by omega)]
 | succ n ih=>
  intro f A j hn hf hj
  obtain ⟨f,rfl⟩:∃ f',f=f'+1:=⟨f - 1,by omega⟩
  rw [cU.pl7,show decide (j<(C:Int))=true from decide_eq_true (by omega),cond_true]
  simp (disch:=omega) only [at_mk,jI,li,mP,Option.bind_some,cj]
  rw [ih _ _ _ (by omega) (by omega) (by omega)]
  congr 1
  apply fN
  intro a b _ _ _ _
  unfold upd sw
  grind
theorem BJ (hR:R<=1000) (hC:C<=1000) (hF:C<F) (hi0:0<=i) (hi:i<R) (hk0:0<=k) (hk:k<R):cU.p F C (mk R C A) i k=some (mk R C (swR A i k)):=by
 unfold cU.p
 rw [Ma hR hC hi0 hi hk0 hk C F A 0 (by omega) hF (by omega)]
 apply congrArg some
 apply fN
 intro a b _ _ _ _
 exact if_pos (by omega)
theorem Mb (hR:R<=1000) (hC:C<=1000) (hi0:0<=j) (hi:j<C) (hk0:0<=k) (hk:k<C):∀ (n f:Nat) (A:Mat) (i:Int),R - i=n->n<f->0<=i ->
  cE.pl7 F f j k R C (mk R C A) i=some (mk R C λa b=>if i<=a then A a (sw j k b) else A a b):=by
 intro n
 induction n with
 | zero=>
  intro f A j hn hf hj
  obtain ⟨f,rfl⟩:∃ f',f=f'+1:=⟨f - 1,by omega⟩
  rw [cE.pl7,show decide (j<(R:Int))=false from decide_eq_false (by omega),cond_false]
  congr 1
  apply fN
  intro a b _ _ _ _
  rw [if_neg (by omega)]
 | succ n ih=>
  intro f A j hn hf hj
  obtain ⟨f,rfl⟩:∃ f',f=f'+1:=⟨f - 1,by omega⟩
  rw [cE.pl7,show decide (j<(R:Int))=true from decide_eq_true (by omega),cond_true]
  simp (disch:=omega) only [at_mk,jI,li,mP,Option.bind_some,cj]
  rw [ih _ _ _ (by omega) (by omega) (by omega)]
  congr 1
  apply fN
  intro a b _ _ _ _
  unfold upd sw
  grind
theorem BK (hR:R<=1000) (hC:C<=1000) (hF:R<F) (hi0:0<=j) (hi:j<C) (hk0:0<=k) (hk:k<C):cE.p F R C (mk R C A) j k=some (mk R C (swC A j k)):=by
 unfold cE.p
 rw [Mb hR hC hi0 hi hk0 hk R F A 0 (by omega) hF (by omega)]
 apply congrArg some
 apply fN
 intro a b _ _ _ _
 exact if_pos (by omega)
theorem Mc (hR:R<=1000) (hC:C<=1000) (hi0:0<=j) (hi:j<C) (hk0:0<=k) (hk:k<C):∀ (n f:Nat) (A:Mat) (i:Int),R - i=n->n<f->0<=i ->
  cV.pl7 F f j k C (mk R C A) R i=some (mk R C λa b=>if i<=a then A a (sw j k b) else A a b):=by
 intro n
 induction n with
 | zero=>
  intro f A j hn hf hj
  obtain ⟨f,rfl⟩:∃ f',f=f'+1:=⟨f - 1,by omega⟩
  rw [cV.pl7,show decide (j<(R:Int))=false from decide_eq_false (by omega),cond_false]
  congr 1
  apply fN
  intro a b _ _ _ _
  rw [if_neg (by omega)]
 | succ n ih=>
  intro f A j hn hf hj
  obtain ⟨f,rfl⟩:∃ f',f=f'+1:=⟨f - 1,by omega⟩
  rw [cV.pl7,show decide (j<(R:Int))=true from decide_eq_true (by omega),cond_true]
  simp (disch:=omega) only [at_mk,jI,li,mP,Option.bind_some,cj]
  rw [ih _ _ _ (by omega) (by omega) (by omega)]
  congr 1
  apply fN
  intro a b _ _ _ _
  unfold upd sw
  grind
theorem BL (hR:R<=1000) (hC:C<=1000) (hF:R<F) (hi0:0<=j) (hi:j<C) (hk0:0<=k) (hk:k<C):cV.p F R C (mk R C A) j k=some (mk R C (swC A j k)):=by
 unfold cV.p
 rw [Mc hR hC hi0 hi hk0 hk R F A 0 (by omega) hF (by omega)]
 apply congrArg some
 apply fN
 intro a b _ _ _ _
 exact if_pos (by omega)
theorem negr_l (hR:R<=1000) (hC:C<=1000) (hk0:0<=k) (hk:k<R):∀ (n:Nat) (A:Mat) (j:Int),Bd R C A->C - j=n->0<=j ->
  nN (mk R C A) (k * C+j).toNat n=mk R C λa b=>if a=k/\j<=b then - A a b else A a b:=by
 intro n
 induction n with
 | zero=>
  intro A j hb hn hj
  unfold nN
  apply fN
  intro a b _ _ _ _
  rw [if_neg (by omega)]
 | succ n ih=>
  intro A j hb hn hj
  unfold nN
  have h1:0<=k * C:=Int.mul_nonneg hk0 (Int.natCast_nonneg _)
  have hbb:=hb k j hk0 hk hj (by omega)
  simp (disch:=omega) only [jI,li,mP]
  rw [cj (by omega) (by omega),show (k * C+j).toNat+1=(k * C+(j+1)).toNat by omega,ih _ (j+1) ?_ (by omega) (by omega)]
  ·apply fN
   intro a b _ _ _ _
   unfold upd
   grind
  ·intro a b h1 h2 h3 h4
   have:=hb a b h1 h2 h3 h4
   unfold upd
   split <;> omega
theorem negr_mk (hR:R<=1000) (hC:C<=1000) (hk0:0<=k) (hk:k<R) (hb:Bd R C A):nN (mk R C A) (k * C).toNat C=mk R C (ngR A k):=by
 have:=negr_l hR hC hk0 hk C A 0 hb (by omega) (by omega)
 rw [Int.add_zero] at this
 rw [this]
 apply fN
 intro a b _ _ _ _
 unfold ngR
 grind
end Go.Proofs.Ytnkgeongfneafaa.AE
end
section
namespace Go.Proofs.Ytnkgeongfneafaa.AE
open Go Go.AE Go.Proofs
variable {R C F:Nat} {A:Mat} {i j k:Int}
def ab (x:Int):Int:=if x<0 then -x else x
theorem ab_nn (x:Int):0<=ab x:=by unfold ab;split <;> omega
theorem ab_mul (x y:Int):ab (x * y)=ab x * ab y:=by
 have e (z:Int):ab z=(z.natAbs:Int):=by unfold ab;split <;> omega
 rw [e,e,e,Int.natAbs_mul,Int.natCast_mul]
theorem vu {x:Int} (h0:-4000000000000000000<=x) (h1:x<=4000000000000000000):en.p F x=some (ab x):=by
 unfold en.p ab
 rw [cj (by omega) (by omega)]
 congr 1
 split <;> split <;> omega
theorem uj {x:Int} (h0:-4000000000000000000<=x) (h1:x<=4000000000000000000):ee.p F x=some (ab x):=by
 unfold ee.p ab
 by_cases h:x<0
 ·rw [decide_eq_true h,cond_true,cj (by omega) (by omega),if_pos h,Int.zero_sub]
 ·rw [decide_eq_false h,cond_false,if_neg h]
theorem gt_div {u v m:Int} (hu:0<u) (hm:0<=m):v>Int.tdiv m u↔u * v>m:=by
 rw [Int.tdiv_eq_ediv_of_nonneg hm]
 rw [gt_iff_lt,Int.ediv_lt_iff_lt_mul hu,Int.mul_comm]
def okm (x y:Int):Prop:=ab (x * y)<=2000000000000
instance (x y:Int):Decidable (okm x y):=by unfold okm;infer_instance
theorem ab_bd {x m:Int} (h:ab x<=m):-m<=x/\x<=m:=by unfold ab at h;split at h <;> omega
theorem tdiv_bd {m u:Int} (hm:0<=m) (hu:0<=u):0<=Int.tdiv m u/\Int.tdiv m u<=m:=by
 rw [Int.tdiv_eq_ediv_of_nonneg hm]
 exact ⟨Int.ediv_nonneg hm hu,Int.ediv_le_self _ hm⟩
theorem Md {x y:Int} (hx:ab x<=4000000000000) (hy:ab y<=4000000000000):ii.p F x y 2000000000000=some (if okm x y then (x * y,true) else (0,false)):=by
 have bx:=ab_bd hx
 have by_:=ab_bd hy
 have n1:=ab_nn x
 unfold ii.p
 by_cases h:x=0
 ·subst h
  have:okm 0 y:=by unfold okm ab;rw [Int.zero_mul];decide
  rw [if_pos this,show ((0:Int) != 0)=false from rfl,cond_false,Int.zero_mul,cj (by omega) (by omega)]
 ·rw [show (x != 0)=true from bne_iff_ne.2 h,cond_true,vu (by omega) (by omega),Option.bind_some,vu (by omega) (by omega),Option.bind_some]
  have hp:0<ab x:=by unfold ab;split <;> omega
  have bd:=tdiv_bd (m:=2000000000000) (u:=ab x) (by omega) (by omega)
  rw [if_neg (by omega),cj (by omega) (by omega)]
  have key:ab y>Int.tdiv 2000000000000 (ab x)↔¬ okm x y:=by
   rw [gt_div hp (by omega),okm,ab_mul];omega
  by_cases ho:okm x y
  ·rw [decide_eq_false (λh=>(key.1 h) ho),cond_false,if_pos ho]
   have:=ab_bd ho
   rw [cj (by omega) (by omega)]
  ·rw [decide_eq_true (key.2 ho),cond_true,if_neg ho]
theorem Gk {x y:Int} (hx:ab x<=4000000000000) (hy:ab y<=4000000000000):gD.p F x y 2000000000000=some (if okm x y then (x * y,true) else (0,false)):=by
 have bx:=ab_bd hx
 have by_:=ab_bd hy
 have n1:=ab_nn x
 unfold gD.p
 by_cases h:x=0
 ·subst h
  have:okm 0 y:=by unfold okm ab;rw [Int.zero_mul];decide
  rw [if_pos this,show ((0:Int) != 0)=false from rfl,cond_false,Int.zero_mul,cj (by omega) (by omega)]
 ·rw [show (x != 0)=true from bne_iff_ne.2 h,cond_true,uj (by omega) (by omega),Option.bind_some,uj (by omega) (by omega),Option.bind_some]
  have hp:0<ab x:=by unfold ab;split <;> omega
  have bd:=tdiv_bd (m:=2000000000000) (u:=ab x) (by omega) (by omega)
  rw [if_neg (by omega),cj (by omega) (by omega)]
  have key:ab y>Int.tdiv 2000000000000 (ab x)↔¬ okm x y:=by
   rw [gt_div hp (by omega),okm,ab_mul];omega
  by_cases ho:okm x y
  ·rw [decide_eq_false (λh=>(key.1 h) ho),cond_false,if_pos ho]
   have:=ab_bd ho
   rw [cj (by omega) (by omega)]
  ·rw [decide_eq_true (key.2 ho),cond_true,if_neg ho]
theorem floor_core {a b:Int} (hb:0<b):(Int.tmod a b<0->a / b=Int.tdiv a b - 1)/\(¬ Int.tmod a b<0->a / b=Int.tdiv a b):=by
 have e:=Int.mul_tdiv_add_tmod a b
 have hlt:Int.tmod a b<b:=Int.tmod_lt_of_pos a hb
 have hgt:-b<Int.tmod a b:=by
  have:=Int.neg_one_mul b
  have h:=Int.lt_tmod_of_pos a hb
  omega
 constructor
 ·intro h
  have:a=(Int.tmod a b+b)+b * (Int.tdiv a b - 1):=by rw [Int.mul_sub,Int.mul_one];omega
  conv=>lhs;rw [this]
  rw [Int.add_mul_ediv_left _ _ (by omega),Int.ediv_eq_zero_of_lt (by omega) (by omega),Int.zero_add]
 ·intro h
  have:a=(Int.tmod a b)+b * (Int.tdiv a b):=by omega
  conv=>lhs;rw [this]
  rw [Int.add_mul_ediv_left _ _ (by omega),Int.ediv_eq_zero_of_lt (by omega) (by omega),Int.zero_add]
theorem quo_bd {a b:Int} (hb:0<b) (ha:ab a<=1000000000000):ab (a / b)<=1000000000000/\ab (Int.tdiv a b)<=1000000000000:=by
 have h:=ab_bd ha
 have h1:a / b<=1000000000000:=by
  by_cases h0:0<=a
  ·have:=Int.ediv_le_self b h0;omega
  ·have:=Int.ediv_neg_of_neg_of_pos (by omega:a<0) hb;omega
 have h2:-1000000000000<=a / b:=by
  rw [Int.le_ediv_iff_mul_le hb]
  have:1000000000000 * 1<=1000000000000 * b:=Int.mul_le_mul_of_nonneg_left (by omega) (by omega)
  rw [Int.neg_mul];omega
 have h3:a / b<=Int.tdiv a b/\Int.tdiv a b<=a / b+1:=by
  by_cases hh:Int.tmod a b<0
  ·have:=(floor_core (a:=a) hb).1 hh;omega
  ·have:=(floor_core (a:=a) hb).2 hh;omega
 have h4:Int.tdiv a b<=1000000000000:=by
  by_cases h0:0<=a
  ·rw [Int.tdiv_eq_ediv_of_nonneg h0];exact h1
  ·have:=Int.ediv_neg_of_neg_of_pos (by omega:a<0) hb;omega
 unfold ab
 constructor <;> split <;> omega
theorem Gl {a b:Int} (hb:0<b) (ha:ab a<=1000000000000):gA.p F a b=some (a / b):=by
 unfold gA.p
 obtain ⟨h1,h2⟩:=quo_bd hb ha
 have h1:=ab_bd h1
 have h2:=ab_bd h2
 rw [if_neg (by omega),if_neg (by omega),cj (x:=Int.tdiv a b) (by omega) (by omega)]
 by_cases h:Int.tmod a b<0
 ·have e:=(floor_core (a:=a) hb).1 h
  rw [decide_eq_true h,cond_true,cj (x:=Int.tdiv a b - 1) (by omega) (by omega),e]
 ·rw [decide_eq_false h,cond_false,(floor_core (a:=a) hb).2 h]
theorem Gm {a b:Int} (hb:0<b) (ha:ab a<=1000000000000):gu.p F a b=some (a / b):=by
 unfold gu.p
 obtain ⟨h1,h2⟩:=quo_bd hb ha
 have h1:=ab_bd h1
 have h2:=ab_bd h2
 rw [if_neg (by omega),if_neg (by omega),cj (x:=Int.tdiv a b) (by omega) (by omega)]
 by_cases h:Int.tmod a b<0
 ·have e:=(floor_core (a:=a) hb).1 h
  rw [decide_eq_true h,cond_true,cj (x:=Int.tdiv a b - 1) (by omega) (by omega),e]
 ·rw [decide_eq_false h,cond_false,(floor_core (a:=a) hb).2 h]
def fit (x y b:Int):Prop:=okm y b/\ab (x+y * b)<=1000000000000
instance (x y b:Int):Decidable (fit x y b):=by unfold fit;infer_instance
def ad (x y b:Int):Int:=if fit x y b then x+y * b else 0
theorem ad_bd (x y b:Int):ab (ad x y b)<=1000000000000:=by
 unfold ad
 split
 ·rename_i h;exact h.2
 ·decide
theorem ad_fit {x y b:Int} (h:fit x y b):ad x y b=x+y * b:=if_pos h
def adRf (A:Mat) (t f b j0:Int):Mat:=λi j=>if i=t/\j0<=j then ad (A t j) (A f j) b else A i j
def adCf (A:Mat) (t f b i0:Int):Mat:=λi j=>if j=t/\i0<=i then ad (A i t) (A i f) b else A i j
def adR (A:Mat) (t f b:Int):Mat:=λi j=>if i=t then ad (A t j) (A f j) b else A i j
def adC (A:Mat) (t f b:Int):Mat:=λi j=>if j=t then ad (A i t) (A i f) b else A i j
theorem Bd.ab {i j:Int} (h:Bd R C A) (hi0:0<=i) (hi:i<R) (hj0:0<=j) (hj:j<C):ab (A i j)<=1000000000000:=by
 have:=h i j hi0 hi hj0 hj
 unfold AE.ab;split <;> omega
theorem Bd.upd {i j x:Int} (h:Bd R C A) (hx:AE.ab x<=1000000000000):Bd R C (upd A i j x):=by
 intro a b h1 h2 h3 h4
 have:=h a b h1 h2 h3 h4
 have:=ab_bd hx
 unfold Go.AE.upd
 split <;> omega
theorem Me {t f q:Int} (hR:R<=1000) (hC:C<=1000) (ht0:0<=t) (ht:t<R) (hf0:0<=f) (hf:f<R) (htf:t≠f) (hq:ab q<=4000000000000):∀ (n g:Nat) (A:Mat) (bad:Bool) (j:Int),Bd R C A->C - j=n->n<g->0<=j ->
  ∃ bad',cM.pl7 F g bad t f q C (mk R C A) C j=some (bad',mk R C (adRf A t f q j))/\(bad'=true↔bad=true\/∃ b,j<=b/\b<C/\¬ fit (A t b) (A f b) q):=by
 intro n
 induction n with
 | zero=>
  intro g A bad j hb hn hg hj
  obtain ⟨g,rfl⟩:∃ g',g=g'+1:=⟨g - 1,by omega⟩
  rw [cM.pl7,show decide (j<(C:Int))=false from decide_eq_false (by omega),cond_false]
  refine ⟨bad,?_,⟨λh=>.inl h,λh=>?_⟩⟩
  ·congr 2
   apply fN
   intro a b _ _ _ _
   exact (if_neg (by omega)).symm
  ·rcases h with h | ⟨b,h1,h2,_⟩
   ·exact h
   ·omega
 | succ n ih=>
  intro g A bad j hb hn hg hj
  obtain ⟨g,rfl⟩:∃ g',g=g'+1:=⟨g - 1,by omega⟩
  rw [cM.pl7,show decide (j<(C:Int))=true from decide_eq_true (by omega),cond_true]
  have b1:=hb.ab hf0 hf hj (by omega)
  have b2:=hb.ab ht0 ht hj (by omega)
  have b3:=ab_bd b2
  simp (disch:=omega) only [jI,li,mP,Option.bind_some,cj]
  rw [Gk (by omega) hq,Option.bind_some]
  have step:∀ bad1:Bool,(bad1=true↔bad=true\/¬ fit (A t j) (A f j) q)->∃ bad',cM.pl7 F g bad1 t f q C (mk R C (upd A t j (ad (A t j) (A f j) q))) C (j+1)=some (bad',mk R C (adRf A t f q j))/\(bad'=true↔bad=true\/∃ b,j<=b/\b<C/\¬ fit (A t b) (A f b) q):=by
   intro bad1 hbad
   obtain ⟨bad',e,he⟩:=ih g (upd A t j (ad (A t j) (A f j) q)) bad1 (j+1) (hb.upd (ad_bd _ _ _)) (by omega) (by omega) (by omega)
   refine ⟨bad',?_,?_⟩
   ·rw [e]
    congr 2
    apply fN
    intro a b _ _ _ _
    unfold adRf upd
    grind
   ·rw [he,hbad]
    constructor
    ·rintro ((h | h) | ⟨b,h1,h2,h3⟩)
     ·exact .inl h
     ·exact .inr ⟨j,by omega,by omega,h⟩
     ·rw [lJ _ _ (by omega),lJ _ _ (by omega)] at h3
      exact .inr ⟨b,by omega,h2,h3⟩
    ·rintro (h | ⟨b,h1,h2,h3⟩)
     ·exact .inl (.inl h)
     ·by_cases e:b=j
      ·subst e;exact .inl (.inr h3)
      ·exact .inr ⟨b,by omega,h2,by rw [lJ _ _ (by omega),lJ _ _ (by omega)];exact h3⟩
  by_cases ho:okm (A f j) q
  ·have h4:=ab_bd ho
   simp only [if_pos ho,Bool.not_true,cond_false]
   simp (disch:=omega) only [li,Cv,cj,Option.bind_some]
   rw [uj (by omega) (by omega),Option.bind_some]
   by_cases hs:ab (A t j+A f j * q)<=1000000000000
   ·rw [decide_eq_false (by omega),cond_false]
    have hfit:fit (A t j) (A f j) q:=⟨ho,hs⟩
    rw [<- ad_fit hfit]
    exact step bad ⟨λh=>.inl h,λh=>h.elim id λh=>absurd hfit h⟩
   ·rw [decide_eq_true (by omega),cond_true]
    have hfit:¬ fit (A t j) (A f j) q:=λh=>hs h.2
    have e0:upd (upd A t j (A t j+A f j * q)) t j 0=upd A t j (ad (A t j) (A f j) q):=by
     funext a b;unfold upd ad;rw [if_neg hfit];split <;> rfl
    rw [e0]
    exact step true ⟨λ_=>.inr hfit,λ_=>rfl⟩
  ·simp only [if_neg ho,Bool.not_false,cond_true,Option.bind_some]
   have hfit:¬ fit (A t j) (A f j) q:=λh=>ho h.1
   have e0:∀ z,upd (upd A t j z) t j 0=upd A t j (ad (A t j) (A f j) q):=by
    intro z;funext a b;unfold upd ad;rw [if_neg hfit];split <;> rfl
   rw [e0]
   exact step true ⟨λ_=>.inr hfit,λ_=>rfl⟩
theorem Mf {t f q:Int} (hR:R<=1000) (hC:C<=1000) (ht0:0<=t) (ht:t<C) (hf0:0<=f) (hf:f<C) (htf:t≠f) (hq:ab q<=4000000000000):∀ (n g:Nat) (A:Mat) (bad:Bool) (j:Int),Bd R C A->R - j=n->n<g->0<=j ->
  ∃ bad',cN.pl7 F g bad t f q C (mk R C A) R j=some (bad',mk R C (adCf A t f q j))/\(bad'=true↔bad=true\/∃ b,j<=b/\b<R/\¬ fit (A b t) (A b f) q):=by
 intro n
 induction n with
 | zero=>
  intro g A bad j hb hn hg hj
  obtain ⟨g,rfl⟩:∃ g',g=g'+1:=⟨g - 1,by omega⟩
  rw [cN.pl7,show decide (j<(R:Int))=false from decide_eq_false (by omega),cond_false]
  refine ⟨bad,?_,⟨λh=>.inl h,λh=>?_⟩⟩
  ·congr 2
   apply fN
   intro a b _ _ _ _
   exact (if_neg (by omega)).symm
  ·rcases h with h | ⟨b,h1,h2,_⟩
   ·exact h
   ·omega
 | succ n ih=>
  intro g A bad j hb hn hg hj
  obtain ⟨g,rfl⟩:∃ g',g=g'+1:=⟨g - 1,by omega⟩
  rw [cN.pl7,show decide (j<(R:Int))=true from decide_eq_true (by omega),cond_true]
  have b1:=hb.ab hj (by omega) hf0 hf
  have b2:=hb.ab hj (by omega) ht0 ht
  have b3:=ab_bd b2
  simp (disch:=omega) only [jI,li,mP,Option.bind_some,cj]
  rw [Gk (by omega) hq,Option.bind_some]
  have step:∀ bad1:Bool,(bad1=true↔bad=true\/¬ fit (A j t) (A j f) q)->∃ bad',cN.pl7 F g bad1 t f q C (mk R C (upd A j t (ad (A j t) (A j f) q))) R (j+1)=some (bad',mk R C (adCf A t f q j))/\(bad'=true↔bad=true\/∃ b,j<=b/\b<R/\¬ fit (A b t) (A b f) q):=by
   intro bad1 hbad
   obtain ⟨bad',e,he⟩:=ih g (upd A j t (ad (A j t) (A j f) q)) bad1 (j+1) (hb.upd (ad_bd _ _ _)) (by omega) (by omega) (by omega)
   refine ⟨bad',?_,?_⟩
   ·rw [e]
    congr 2
    apply fN
    intro a b _ _ _ _
    unfold adCf upd
    grind
   ·rw [he,hbad]
    constructor
    ·rintro ((h | h) | ⟨b,h1,h2,h3⟩)
     ·exact .inl h
     ·exact .inr ⟨j,by omega,by omega,h⟩
     ·rw [lJ _ _ (by omega),lJ _ _ (by omega)] at h3
      exact .inr ⟨b,by omega,h2,h3⟩
    ·rintro (h | ⟨b,h1,h2,h3⟩)
     ·exact .inl (.inl h)
     ·by_cases e:b=j
      ·subst e;exact .inl (.inr h3)
      ·exact .inr ⟨b,by omega,h2,by rw [lJ _ _ (by omega),lJ _ _ (by omega)];exact h3⟩
  by_cases ho:okm (A j f) q
  ·have h4:=ab_bd ho
   simp only [if_pos ho,Bool.not_true,cond_false]
   simp (disch:=omega) only [li,Cv,cj,Option.bind_some]
   rw [uj (by omega) (by omega),Option.bind_some]
   by_cases hs:ab (A j t+A j f * q)<=1000000000000
   ·rw [decide_eq_false (by omega),cond_false]
    have hfit:fit (A j t) (A j f) q:=⟨ho,hs⟩
    rw [<- ad_fit hfit]
    exact step bad ⟨λh=>.inl h,λh=>h.elim id λh=>absurd hfit h⟩
   ·rw [decide_eq_true (by omega),cond_true]
    have hfit:¬ fit (A j t) (A j f) q:=λh=>hs h.2
    have e0:upd (upd A j t (A j t+A j f * q)) j t 0=upd A j t (ad (A j t) (A j f) q):=by
     funext a b;unfold upd ad;rw [if_neg hfit];split <;> rfl
    rw [e0]
    exact step true ⟨λ_=>.inr hfit,λ_=>rfl⟩
  ·simp only [if_neg ho,Bool.not_false,cond_true,Option.bind_some]
   have hfit:¬ fit (A j t) (A j f) q:=λh=>ho h.1
   have e0:∀ z,upd (upd A j t z) j t 0=upd A j t (ad (A j t) (A j f) q):=by
    intro z;funext a b;unfold upd ad;rw [if_neg hfit];split <;> rfl
   rw [e0]
   exact step true ⟨λ_=>.inr hfit,λ_=>rfl⟩
def nfR (C:Nat) (A:Mat) (t f q:Int):Prop:=∃ b:Int,0<=b/\b<C/\¬ fit (A t b) (A f b) q
def nfC (R:Nat) (A:Mat) (t f q:Int):Prop:=∃ b:Int,0<=b/\b<R/\¬ fit (A b t) (A b f) q
theorem BM {t f q:Int} {bad:Bool} (hR:R<=1000) (hC:C<=1000) (hF:C<F) (hb:Bd R C A) (ht0:0<=t) (ht:t<R) (hf0:0<=f) (hf:f<R) (htf:t≠f) (hq:ab q<=4000000000000) :
  ∃ bad',cM.p F bad C (mk R C A) t f q=some (bad',mk R C (adR A t f q))/\(bad'=true↔bad=true\/nfR C A t f q):=by
 obtain ⟨bad',e,h⟩:=Me hR hC ht0 ht hf0 hf htf hq C F A bad 0 hb (by omega) hF (by omega)
 refine ⟨bad',?_,h⟩
 unfold cM.p
 rw [e]
 congr 2
 apply fN
 intro a b _ _ _ _
 unfold adRf adR
 grind
theorem BN {t f q:Int} {bad:Bool} (hR:R<=1000) (hC:C<=1000) (hF:R<F) (hb:Bd R C A) (ht0:0<=t) (ht:t<C) (hf0:0<=f) (hf:f<C) (htf:t≠f) (hq:ab q<=4000000000000) :
  ∃ bad',cN.p F bad R C (mk R C A) t f q=some (bad',mk R C (adC A t f q))/\(bad'=true↔bad=true\/nfC R A t f q):=by
 obtain ⟨bad',e,h⟩:=Mf hR hC ht0 ht hf0 hf htf hq R F A bad 0 hb (by omega) hF (by omega)
 refine ⟨bad',?_,h⟩
 unfold cN.p
 rw [e]
 congr 2
 apply fN
 intro a b _ _ _ _
 unfold adCf adC
 grind
theorem Bd.adR {t f q:Int} (h:Bd R C A):Bd R C (adR A t f q):=by
 intro a b h1 h2 h3 h4
 have:=h a b h1 h2 h3 h4
 have:=ab_bd (ad_bd (A t b) (A f b) q)
 unfold AE.adR
 split <;> omega
theorem Bd.adC {t f q:Int} (h:Bd R C A):Bd R C (adC A t f q):=by
 intro a b h1 h2 h3 h4
 have:=h a b h1 h2 h3 h4
 have:=ab_bd (ad_bd (A a t) (A a f) q)
 unfold AE.adC
 split <;> omega
end Go.Proofs.Ytnkgeongfneafaa.AE
end
section
namespace Go.Proofs.Ytnkgeongfneafaa.AE
open Go Go.AE Go.Proofs
variable {R C F:Nat} {A:Mat} {i j k:Int}
theorem Gn {x y q:Int} (hx:ab x<=1000000000000) (hy:ab y<=1000000000000) (hq:ab q<=4000000000000):∃ z,fR.p F x q y=some z/\ab z<=4000000000000/\(ab z<=1000000000000↔fit x y (-q))/\(fit x y (-q)->z=ad x y (-q)):=by
 unfold fR.p
 rw [Md hq (by omega),Option.bind_some]
 have e1:y * -q=- (q * y):=by rw [Int.mul_neg,Int.mul_comm]
 have ho:okm y (-q)↔okm q y:=by
  unfold okm;rw [e1];unfold ab;split <;> split <;> omega
 have bx:=ab_bd hx
 by_cases h:okm q y
 ·have hb:=ab_bd h
  rw [if_pos h,Bool.not_true,cond_false]
  simp only []
  rw [cj (by omega) (by omega)]
  have e2:x+y * -q=x - q * y:=by omega
  refine ⟨_,rfl,?_,?_,?_⟩
  ·unfold ab;split <;> omega
  ·unfold fit;rw [e2]
   exact ⟨λh1=>⟨ho.2 h,h1⟩,λh1=>h1.2⟩
  ·intro hf
   rw [ad_fit hf,e2]
 ·rw [if_neg h,Bool.not_false,cond_true]
  refine ⟨_,rfl,by decide,⟨λh=>absurd h (by decide),λhf=>absurd (ho.1 hf.1) h⟩,λhf=>absurd (ho.1 hf.1) h⟩
theorem Gp {z:Int} {bad:Bool} (hR:R<=1000) (hC:C<=1000) (hi0:0<=i) (hi:i<R) (hj0:0<=j) (hj:j<C) (hz:ab z<=4000000000000) :
  fS.p F bad C (mk R C A) i j z=some (if ab z<=1000000000000 then (bad,mk R C (upd A i j z)) else (true,mk R C A)):=by
 have hb:=ab_bd hz
 unfold fS.p
 rw [vu (by omega) (by omega),Option.bind_some]
 by_cases h:ab z<=1000000000000
 ·rw [decide_eq_false (by omega),cond_false,if_pos h]
  simp (disch:=omega) only [jI,mP,Option.bind_some]
 ·rw [decide_eq_true (by omega),cond_true,if_neg h]
theorem Mg {t f q:Int} (hR:R<=1000) (hC:C<=1000) (ht0:0<=t) (ht:t<R) (hf0:0<=f) (hf:f<R) (htf:t≠f) (hq:ab q<=4000000000000):∀ (n g:Nat) (A:Mat) (j:Int),Bd R C A->C - j=n->n<g->0<=j ->
  ∃ bad' l',cK.pl7 F g false t f q C (mk R C A) j=some (bad',l')/\(bad'=true↔∃ b,j<=b/\b<C/\¬ fit (A t b) (A f b) (-q))/\(bad'=false->l'=mk R C (adRf A t f (-q) j)):=by
 intro n
 induction n with
 | zero=>
  intro g A j hb hn hg hj
  obtain ⟨g,rfl⟩:∃ g',g=g'+1:=⟨g - 1,by omega⟩
  rw [cK.pl7,show decide (j<(C:Int))=false from decide_eq_false (by omega),cond_false]
  refine ⟨_,_,rfl,⟨λh=>(by cases h),λ⟨b,h1,h2,_⟩=>by omega⟩,λ_=>?_⟩
  apply fN
  intro a b _ _ _ _
  exact (if_neg (by omega)).symm
 | succ n ih=>
  intro g A j hb hn hg hj
  obtain ⟨g,rfl⟩:∃ g',g=g'+1:=⟨g - 1,by omega⟩
  rw [cK.pl7,show decide (j<(C:Int))=true from decide_eq_true (by omega),cond_true,Bool.not_false,cond_true]
  have b1:=hb.ab hf0 hf hj (by omega)
  have b2:=hb.ab ht0 ht hj (by omega)
  simp (disch:=omega) only [at_mk,Option.bind_some]
  obtain ⟨z,ez,hz1,hz2,hz3⟩:=Gn (F:=F) b2 b1 hq
  rw [ez,Option.bind_some,Gp hR hC ht0 ht hj (by omega) hz1,Option.bind_some,cj (by omega) (by omega)]
  by_cases hfit:fit (A t j) (A f j) (-q)
  ·rw [if_pos (hz2.2 hfit),hz3 hfit]
   obtain ⟨bad',l',e,he,hl⟩:=ih g (upd A t j (ad (A t j) (A f j) (-q))) (j+1) (hb.upd (ad_bd _ _ _)) (by omega) (by omega) (by omega)
   refine ⟨bad',l',e,?_,?_⟩
   ·rw [he]
    constructor
    ·rintro ⟨b,h1,h2,h3⟩
     rw [lJ _ _ (by omega),lJ _ _ (by omega)] at h3
     exact ⟨b,by omega,h2,h3⟩
    ·rintro ⟨b,h1,h2,h3⟩
     by_cases e:b=j
     ·subst e;exact absurd hfit h3
     ·exact ⟨b,by omega,h2,by rw [lJ _ _ (by omega),lJ _ _ (by omega)];exact h3⟩
   ·intro hbad
    rw [hl hbad]
    apply fN
    intro a b _ _ _ _
    unfold adRf upd
    grind
  ·rw [if_neg (λh=>hfit (hz2.1 h))]
   obtain ⟨g,rfl⟩:∃ g',g=g'+1:=⟨g - 1,by omega⟩
   refine ⟨true,mk R C A,?_,⟨λ_=>⟨j,by omega,by omega,hfit⟩,λ_=>rfl⟩,λh=>by cases h⟩
   rw [cK.pl7]
   cases decide (j+1<(C:Int)) <;> rfl
theorem Mh {t f q:Int} (hR:R<=1000) (hC:C<=1000) (ht0:0<=t) (ht:t<C) (hf0:0<=f) (hf:f<C) (htf:t≠f) (hq:ab q<=4000000000000):∀ (n g:Nat) (A:Mat) (j:Int),Bd R C A->R - j=n->n<g->0<=j ->
  ∃ bad' l',cL.pl7 F g false t f q R C (mk R C A) j=some (bad',l')/\(bad'=true↔∃ b,j<=b/\b<R/\¬ fit (A b t) (A b f) (-q))/\(bad'=false->l'=mk R C (adCf A t f (-q) j)):=by
 intro n
 induction n with
 | zero=>
  intro g A j hb hn hg hj
  obtain ⟨g,rfl⟩:∃ g',g=g'+1:=⟨g - 1,by omega⟩
  rw [cL.pl7,show decide (j<(R:Int))=false from decide_eq_false (by omega),cond_false]
  refine ⟨_,_,rfl,⟨λh=>(by cases h),λ⟨b,h1,h2,_⟩=>by omega⟩,λ_=>?_⟩
  apply fN
  intro a b _ _ _ _
  exact (if_neg (by omega)).symm
 | succ n ih=>
  intro g A j hb hn hg hj
  obtain ⟨g,rfl⟩:∃ g',g=g'+1:=⟨g - 1,by omega⟩
  rw [cL.pl7,show decide (j<(R:Int))=true from decide_eq_true (by omega),cond_true,Bool.not_false,cond_true]
  have b1:=hb.ab hj (by omega) hf0 hf
  have b2:=hb.ab hj (by omega) ht0 ht
  simp (disch:=omega) only [at_mk,Option.bind_some]
  obtain ⟨z,ez,hz1,hz2,hz3⟩:=Gn (F:=F) b2 b1 hq
  rw [ez,Option.bind_some,Gp hR hC hj (by omega) ht0 ht hz1,Option.bind_some,cj (by omega) (by omega)]
  by_cases hfit:fit (A j t) (A j f) (-q)
  ·rw [if_pos (hz2.2 hfit),hz3 hfit]
   obtain ⟨bad',l',e,he,hl⟩:=ih g (upd A j t (ad (A j t) (A j f) (-q))) (j+1) (hb.upd (ad_bd _ _ _)) (by omega) (by omega) (by omega)
   refine ⟨bad',l',e,?_,?_⟩
   ·rw [he]
    constructor
    ·rintro ⟨b,h1,h2,h3⟩
     rw [lJ _ _ (by omega),lJ _ _ (by omega)] at h3
     exact ⟨b,by omega,h2,h3⟩
    ·rintro ⟨b,h1,h2,h3⟩
     by_cases e:b=j
     ·subst e;exact absurd hfit h3
     ·exact ⟨b,by omega,h2,by rw [lJ _ _ (by omega),lJ _ _ (by omega)];exact h3⟩
   ·intro hbad
    rw [hl hbad]
    apply fN
    intro a b _ _ _ _
    unfold adCf upd
    grind
  ·rw [if_neg (λh=>hfit (hz2.1 h))]
   obtain ⟨g,rfl⟩:∃ g',g=g'+1:=⟨g - 1,by omega⟩
   refine ⟨true,mk R C A,?_,⟨λ_=>⟨j,by omega,by omega,hfit⟩,λ_=>rfl⟩,λh=>by cases h⟩
   rw [cL.pl7]
   cases decide (j+1<(R:Int)) <;> rfl
theorem BO {t f q:Int} (hR:R<=1000) (hC:C<=1000) (hF:C<F) (hb:Bd R C A) (ht0:0<=t) (ht:t<R) (hf0:0<=f) (hf:f<R) (htf:t≠f) (hq:ab q<=4000000000000) :
  ∃ bad' l',cK.p F false C (mk R C A) t f q=some (bad',l')/\(bad'=true↔nfR C A t f (-q))/\(bad'=false->l'=mk R C (adR A t f (-q))):=by
 obtain ⟨bad',l',e,h,hl⟩:=Mg hR hC ht0 ht hf0 hf htf hq C F A 0 hb (by omega) hF (by omega)
 refine ⟨bad',l',e,h,λhh=>?_⟩
 rw [hl hh]
 apply fN
 intro a b _ _ _ _
 unfold adRf adR
 grind
theorem BP {t f q:Int} (hR:R<=1000) (hC:C<=1000) (hF:R<F) (hb:Bd R C A) (ht0:0<=t) (ht:t<C) (hf0:0<=f) (hf:f<C) (htf:t≠f) (hq:ab q<=4000000000000) :
  ∃ bad' l',cL.p F false R C (mk R C A) t f q=some (bad',l')/\(bad'=true↔nfC R A t f (-q))/\(bad'=false->l'=mk R C (adC A t f (-q))):=by
 obtain ⟨bad',l',e,h,hl⟩:=Mh hR hC ht0 ht hf0 hf htf hq R F A 0 hb (by omega) hF (by omega)
 refine ⟨bad',l',e,h,λhh=>?_⟩
 rw [hl hh]
 apply fN
 intro a b _ _ _ _
 unfold adCf adC
 grind
theorem BQ {t f q:Int} {c:Int} {l:List Int} (hF:0<F):cK.p F true c l t f q=some (true,l):=by
 obtain ⟨g,rfl⟩:∃ g',F=g'+1:=⟨F - 1,by omega⟩
 unfold cK.p
 rw [cK.pl7]
 cases decide (0<c) <;> rfl
theorem BR {t f q:Int} {r c:Int} {l:List Int} (hF:0<F):cL.p F true r c l t f q=some (true,l):=by
 obtain ⟨g,rfl⟩:∃ g',F=g'+1:=⟨F - 1,by omega⟩
 unfold cL.p
 rw [cL.pl7]
 cases decide (0<r) <;> rfl
end Go.Proofs.Ytnkgeongfneafaa.AE
end
section
namespace Go.Proofs.Ytnkgeongfneafaa.AE
open Go Go.AE Go.Proofs
variable {R C F:Nat} {A:Mat} {i j k:Int}
def Sc (k:Int) (C:Nat) (i j a b:Int):Prop:=k<=a/\k<=b/\b<C/\(a<i\/a=i/\b<j)
def SI (k:Int) (C:Nat) (A:Mat) (i j:Int):Option (Int×Int)->Prop
 | none=>∀ a b,Sc k C i j a b->A a b=0
 | some (p,q)=>Sc k C i j p q/\A p q≠0/\∀ a b,Sc k C i j a b->A a b≠0->ab (A p q)<=ab (A a b)/\((a<p\/a=p/\b<q)->ab (A p q)<ab (A a b))
def sP:Option (Int×Int)->Int | none=>-1 | some (p,_)=>p
def sQ:Option (Int×Int)->Int | none=>-1 | some (_,q)=>q
def iP:Option (Int×Int)->Int | none=>0 | some (p,_)=>p
def iQ:Option (Int×Int)->Int | none=>0 | some (_,q)=>q
theorem ab_pos {x:Int}:ab x>0↔x≠0:=by unfold ab;split <;> omega
theorem sel_in {k:Int} (hR:R<=1000) (hC:C<=1000) (hb:Bd R C A) (hk:0<=k) (hi:i<R) (hki:k<=i) {l1 l2 l3 l4:List Int} {c1 c2 c3 c4 c5 c6:Int} {pC} {pD}:∀ (n g h:Nat) (s:Option (Int×Int)) (j:Int),C - j=n->n<g->n<h->k<=j->SI k C A i j s ->
  ∃ s',SI k C A i C s'/\aC.pl469 F pC g R C (mk R C A) c1 l1 c2 c3 l2 c4 c5 l3 c6 l4 k (sP s) (sQ s) i j=aC.pj9 F pC R C (mk R C A) c1 l1 c2 c3 l2 c4 c5 l3 c6 l4 k (sP s') (sQ s') i /\
   aS.pl469 F pD h k (iP s) (iQ s) s.isSome R C (mk R C A) i j=aS.pj8 F pD k (iP s') (iQ s') s'.isSome R C (mk R C A) i:=by
 intro n
 induction n with
 | zero=>
  intro g h s j hn hg hh hj hs
  obtain ⟨g,rfl⟩:∃ g',g=g'+1:=⟨g - 1,by omega⟩
  obtain ⟨h,rfl⟩:∃ g',h=g'+1:=⟨h - 1,by omega⟩
  rw [aC.pl469,aS.pl469,show decide (j<(C:Int))=false from decide_eq_false (by omega),cond_false,cond_false]
  refine ⟨s,?_,rfl,rfl⟩
  rw [show j=(C:Int) by omega] at hs
  exact hs
 | succ n ih=>
  intro g h s j hn hg hh hj hs
  obtain ⟨g,rfl⟩:∃ g',g=g'+1:=⟨g - 1,by omega⟩
  obtain ⟨h,rfl⟩:∃ g',h=g'+1:=⟨h - 1,by omega⟩
  rw [aC.pl469,aS.pl469,show decide (j<(C:Int))=true from decide_eq_true (by omega),cond_true,cond_true]
  have b1:=ab_bd (hb.ab (by omega:0<=i) hi (by omega:0<=j) (by omega))
  simp (disch:=omega) only [at_mk,jI,li,Option.bind_some,vu,uj,cj,aC.pj10,aS.pj9]
  have scj:∀ a b,Sc k C i (j+1) a b↔Sc k C i j a b\/(a=i/\b=j):=by
   intro a b;unfold Sc;omega
  by_cases hx:A i j=0
  ·rw [hx,show decide (ab 0>0)=false from rfl,show (ab 0 != 0)=false from rfl,cond_false,cond_false]
   refine ih g h s (j+1) (by omega) (by omega) (by omega) (by omega) ?_
   match s,hs with
   | none,hs=>
    intro a b h1
    rcases (scj a b).1 h1 with h1 | ⟨rfl,rfl⟩
    ·exact hs a b h1
    ·exact hx
   | some (p,q),⟨h1,h2,h3⟩=>
    refine ⟨(scj p q).2 (.inl h1),h2,λa b h4 h5=>?_⟩
    rcases (scj a b).1 h4 with h4 | ⟨rfl,rfl⟩
    ·exact h3 a b h4 h5
    ·exact absurd hx h5
  ·have hpos:=ab_pos.2 hx
   rw [decide_eq_true hpos,show (ab (A i j) != 0)=true from bne_iff_ne.2 (by omega),cond_true,cond_true]
   match s,hs with
   | none,hs=>
    rw [show decide (sP none<0)=true from rfl,cond_true]
    simp only [Option.isSome_none,Bool.not_false,cond_true]
    refine ih g h (some (i,j)) (j+1) (by omega) (by omega) (by omega) (by omega) ⟨(scj i j).2 (.inr ⟨rfl,rfl⟩),hx,λa b h4 h5=>?_⟩
    rcases (scj a b).1 h4 with h4 | ⟨rfl,rfl⟩
    ·exact absurd (hs a b h4) h5
    ·exact ⟨Int.le_refl _,λh=>by omega⟩
   | some (p,q),⟨h1,h2,h3⟩=>
    have h1':=h1
    obtain ⟨e1,e2,e3,e4⟩:=h1'
    have b2:=ab_bd (hb.ab (i:=p) (j:=q) (by omega) (by omega) (by omega) (by omega))
    simp only [sP,sQ,iP,iQ,Option.isSome_some,Bool.not_true,cond_false]
    simp only [eq_false (show ¬ p<0 by omega),decide_false,cond_false]
    simp (disch:=omega) only [at_mk,jI,li,Option.bind_some,vu,uj]
    by_cases hlt:ab (A i j)<ab (A p q)
    ·rw [decide_eq_true hlt,cond_true,cond_true]
     refine ih g h (some (i,j)) (j+1) (by omega) (by omega) (by omega) (by omega) ⟨(scj i j).2 (.inr ⟨rfl,rfl⟩),hx,λa b h4 h5=>?_⟩
     rcases (scj a b).1 h4 with h4 | ⟨rfl,rfl⟩
     ·have:=(h3 a b h4 h5).1
      exact ⟨by omega,λ_=>by omega⟩
     ·exact ⟨Int.le_refl _,λh=>by omega⟩
    ·rw [decide_eq_false hlt,cond_false,cond_false]
     refine ih g h (some (p,q)) (j+1) (by omega) (by omega) (by omega) (by omega) ⟨(scj p q).2 (.inl h1),h2,λa b h4 h5=>?_⟩
     rcases (scj a b).1 h4 with h4 | ⟨rfl,rfl⟩
     ·exact h3 a b h4 h5
     ·exact ⟨by omega,λh=>by omega⟩
theorem sel_out {k:Int} (hR:R<=1000) (hC:C<=1000) (hF:C<F) (hb:Bd R C A) (hk:0<=k) (hkC:k<=C) {l1 l2 l3 l4:List Int} {c1 c2 c3 c4 c5 c6:Int}:∀ (n g h:Nat) (s:Option (Int×Int)) (i:Int),R - i=n->n<g->n<h->k<=i->SI k C A i k s ->
  ∃ s',SI k C A R k s'/\aC.pl29 F g R C (mk R C A) c1 l1 c2 c3 l2 c4 c5 l3 c6 l4 k (sP s) (sQ s) i=aC.pj6 F R C (mk R C A) c1 l1 c2 c3 l2 c4 c5 l3 c6 l4 k (sP s') (sQ s') /\
   aS.pl29 F h k (iP s) (iQ s) s.isSome R C (mk R C A) i=some (iP s',iQ s',s'.isSome):=by
 intro n
 induction n with
 | zero=>
  intro g h s i hn hg hh hj hs
  obtain ⟨g,rfl⟩:∃ g',g=g'+1:=⟨g - 1,by omega⟩
  obtain ⟨h,rfl⟩:∃ g',h=g'+1:=⟨h - 1,by omega⟩
  rw [aC.pl29,aS.pl29,show decide (i<(R:Int))=false from decide_eq_false (by omega),cond_false,cond_false]
  refine ⟨s,?_,rfl,rfl⟩
  rw [show i=(R:Int) by omega] at hs
  exact hs
 | succ n ih=>
  intro g h s i hn hg hh hj hs
  obtain ⟨g,rfl⟩:∃ g',g=g'+1:=⟨g - 1,by omega⟩
  obtain ⟨h,rfl⟩:∃ g',h=g'+1:=⟨h - 1,by omega⟩
  rw [aC.pl29,aS.pl29,show decide (i<(R:Int))=true from decide_eq_true (by omega),cond_true,cond_true]
  obtain ⟨s1,hs1,e1,e2⟩:=sel_in (F:=F) (c1:=c1) (c2:=c2) (c3:=c3) (c4:=c4) (c5:=c5) (c6:=c6) (l1:=l1) (l2:=l2) (l3:=l3) (l4:=l4) (pC:=aC.pl29 F g) (pD:=aS.pl29 F h) hR hC hb hk (by omega) hj (C - k).toNat F F s k (by omega) (by omega) (by omega) (by omega) hs
  rw [e1,e2]
  unfold aC.pj9 aC.pj8 aS.pj8 aS.pj7
  rw [cj (by omega) (by omega)]
  refine ih g h s1 (i+1) (by omega) (by omega) (by omega) (by omega) ?_
  have sc:∀ a b,Sc k C (i+1) k a b↔Sc k C i C a b:=by
   intro a b;unfold Sc;omega
  match s1,hs1 with
  | none,hs=>exact λa b h=>hs a b ((sc a b).1 h)
  | some (p,q),⟨h1,h2,h3⟩=>exact ⟨(sc p q).2 h1,h2,λa b h=>h3 a b ((sc a b).1 h)⟩
end Go.Proofs.Ytnkgeongfneafaa.AE
end
section
namespace Go.Proofs.Ytnkgeongfneafaa.AE
open Go Go.AE Go.Proofs
variable {R C F:Nat} {A:Mat} {i j k:Int}
structure St where
 d:Mat
 l:Mat
 m:Mat
 r:Mat
 s:Mat
def St.good (R C:Nat) (t:St):Prop:=Bd R C t.d/\Bd R R t.l/\Bd R R t.m/\Bd C C t.r/\Bd C C t.s
def swS (t:St) (p q k:Int):St:=⟨swC (swR t.d p k) q k,swR t.l p k,swC t.m p k,swC t.r q k,swR t.s q k⟩
def ngS (t:St) (k:Int):St:=⟨ngR t.d k,ngR t.l k,ngC t.m k,t.r,t.s⟩
def ngRf (A:Mat) (k j0:Int):Mat:=λa b=>if a=k/\j0<=b then - A a b else A a b
def ngCf (A:Mat) (k i0:Int):Mat:=λa b=>if b=k/\i0<=a then - A a b else A a b
theorem Bd.upd_ng (h:Bd R C A) (hi0:0<=i) (hi:i<R) (hj0:0<=j) (hj:j<C):Bd R C (Go.AE.upd A i j (- A i j)):=by
 apply h.upd
 have:=ab_bd (h.ab hi0 hi hj0 hj)
 unfold AE.ab
 split <;> omega
theorem sw_in {i k a:Int} (hi0:0<=i) (hi:i<R) (hk0:0<=k) (hk:k<R) (ha0:0<=a) (ha:a<R):0<=sw i k a/\sw i k a<R:=by
 unfold sw;split
 ·omega
 ·split <;> omega
theorem Bd.swR (h:Bd R C A) (hi0:0<=i) (hi:i<R) (hk0:0<=k) (hk:k<R):Bd R C (swR A i k):=by
 intro a b h1 h2 h3 h4
 obtain ⟨g1,g2⟩:=sw_in hi0 hi hk0 hk h1 h2
 exact h _ _ g1 g2 h3 h4
theorem Bd.swC (h:Bd R C A) (hi0:0<=j) (hi:j<C) (hk0:0<=k) (hk:k<C):Bd R C (swC A j k):=by
 intro a b h1 h2 h3 h4
 obtain ⟨g1,g2⟩:=sw_in hi0 hi hk0 hk h3 h4
 exact h _ _ h1 h2 g1 g2
theorem Bd.ngR (h:Bd R C A):Bd R C (ngR A k):=by
 intro a b h1 h2 h3 h4
 have:=h a b h1 h2 h3 h4
 unfold AE.ngR;split <;> omega
theorem Bd.ngC (h:Bd R C A):Bd R C (ngC A k):=by
 intro a b h1 h2 h3 h4
 have:=h a b h1 h2 h3 h4
 unfold AE.ngC;split <;> omega
theorem Mi (hR:R<=1000) (hC:C<=1000) (hk0:0<=k) (hk:k<R) {c4 c7:Int} {l5 l8 l11 l14:List Int}:∀ (n g:Nat) (A:Mat) (j:Int),Bd R C A->C - j=n->n<g->0<=j ->
  aC.pl65513 F g C (mk R C A) c4 l5 c7 l8 l11 l14 k j=aC.pj5 F (mk R C (ngRf A k j)) c4 l5 c7 l8 l11 l14 k:=by
 intro n
 induction n with
 | zero=>
  intro g A j hb hn hg hj
  obtain ⟨g,rfl⟩:∃ g',g=g'+1:=⟨g - 1,by omega⟩
  rw [aC.pl65513,show decide (j<(C:Int))=false from decide_eq_false (by omega),cond_false]
  congr 1
  apply fN
  intro a b _ _ _ _
  exact (if_neg (by omega)).symm
 | succ n ih=>
  intro g A j hb hn hg hj
  obtain ⟨g,rfl⟩:∃ g',g=g'+1:=⟨g - 1,by omega⟩
  rw [aC.pl65513,show decide (j<(C:Int))=true from decide_eq_true (by omega),cond_true]
  have b1:=ab_bd (hb.ab hk0 hk hj (by omega))
  simp (disch:=omega) only [at_mk,jI,mP,Option.bind_some,cj,Int.zero_sub]
  rw [ih _ _ (j+1) (hb.upd_ng hk0 hk hj (by omega)) (by omega) (by omega) (by omega)]
  congr 1
  apply fN
  intro a b _ _ _ _
  unfold ngRf upd
  grind
theorem Mj (hR:R<=1000) (hk0:0<=k) (hk:k<R) {l2 l11 l14:List Int}:∀ (n g:Nat) (A B:Mat) (j:Int),Bd R R A->Bd R R B->R - j=n->n<g->0<=j ->
  aC.pl65515 F g l2 R (mk R R A) R (mk R R B) l11 l14 k j=some (true,l2,mk R R (ngRf A k j),mk R R (ngCf B k j),l11,l14):=by
 intro n
 induction n with
 | zero=>
  intro g A B j hb hb' hn hg hj
  obtain ⟨g,rfl⟩:∃ g',g=g'+1:=⟨g - 1,by omega⟩
  rw [aC.pl65515,show decide (j<(R:Int))=false from decide_eq_false (by omega),cond_false]
  rw [fN (A:=A) (B:=ngRf A k j) (λa b _ _ _ _=>(if_neg (by omega)).symm),fN (A:=B) (B:=ngCf B k j) (λa b _ _ _ _=>(if_neg (by omega)).symm)]
 | succ n ih=>
  intro g A B j hb hb' hn hg hj
  obtain ⟨g,rfl⟩:∃ g',g=g'+1:=⟨g - 1,by omega⟩
  rw [aC.pl65515,show decide (j<(R:Int))=true from decide_eq_true (by omega),cond_true]
  have b1:=ab_bd (hb.ab hk0 hk hj (by omega))
  have b2:=ab_bd (hb'.ab hj (by omega) hk0 hk)
  simp (disch:=omega) only [at_mk,jI,mP,Option.bind_some,cj,Int.zero_sub]
  rw [ih _ _ _ (j+1) (hb.upd_ng hk0 hk hj (by omega)) (hb'.upd_ng hj (by omega) hk0 hk) (by omega) (by omega) (by omega)]
  rw [fN (A:=ngRf (upd A k j (-A k j)) k (j+1)) (B:=ngRf A k j) (λa b _ _ _ _=>by unfold ngRf upd;grind),fN (A:=ngCf (upd B j k (-B j k)) k (j+1)) (B:=ngCf B k j) (λa b _ _ _ _=>by unfold ngCf upd;grind)]
theorem Mk (hR:R<=1000) (hk0:0<=k) (hk:k<R) {l2 l8 l11 l14:List Int}:∀ (n g:Nat) (B:Mat) (j:Int),Bd R R B->R - j=n->n<g->0<=j ->
  bs.pl32747 F g l2 R (mk R R B) l8 l11 l14 k R j=some (true,l2,mk R R (ngCf B k j),l8,l11,l14):=by
 intro n
 induction n with
 | zero=>
  intro g B j hb' hn hg hj
  obtain ⟨g,rfl⟩:∃ g',g=g'+1:=⟨g - 1,by omega⟩
  rw [bs.pl32747,show decide (j<(R:Int))=false from decide_eq_false (by omega),cond_false]
  rw [fN (A:=B) (B:=ngCf B k j) (λa b _ _ _ _=>(if_neg (by omega)).symm)]
 | succ n ih=>
  intro g B j hb' hn hg hj
  obtain ⟨g,rfl⟩:∃ g',g=g'+1:=⟨g - 1,by omega⟩
  rw [bs.pl32747,show decide (j<(R:Int))=true from decide_eq_true (by omega),cond_true]
  have b2:=ab_bd (hb'.ab hj (by omega) hk0 hk)
  simp (disch:=omega) only [at_mk,jI,li,mP,Option.bind_some,cj,Int.zero_sub]
  rw [ih _ _ (j+1) (hb'.upd_ng hj (by omega) hk0 hk) (by omega) (by omega) (by omega)]
  rw [fN (A:=ngCf (upd B j k (-B j k)) k (j+1)) (B:=ngCf B k j) (λa b _ _ _ _=>by unfold ngCf upd;grind)]
theorem cuts_row (hR:R<=1000) (hC:C<=1000) (hk0:0<=k) (hk:k<R) (hC0:0<C):∃ x,ms (mk R C A) (IntKind.i64.wrap (k * C)) (IntKind.i64.wrap (IntKind.i64.wrap (k+1) * C))=some x/\x.length=C/\IntKind.i64.wrap (k * C)=k * C:=by
 obtain ⟨k,rfl⟩:=Int.eq_ofNat_of_zero_le hk0
 have h1:(k+1) * C<=R * C:=Nat.mul_le_mul_right _ (by omega)
 have h2:R * C<=1000 * 1000:=Nat.mul_le_mul hR hC
 have h3:(k+1) * C=k * C+C:=Nat.succ_mul _ _
 rw [cj (x:=(k:Int)+1) (by omega) (by omega),show (k:Int)+1=((k+1:Nat):Int) by omega,<-Int.natCast_mul,<-Int.natCast_mul,cj (by omega) (by omega),cj (by omega) (by omega)]
 unfold ms
 rw [if_pos (by rw [nj];omega)]
 refine ⟨_,rfl,?_,rfl⟩
 rw [List.length_drop,List.length_take,nj]
 omega
def pvS (t:St) (p q k:Int):St:=if (swS t p q k).d k k<0 then ngS (swS t p q k) k else swS t p q k
theorem pivot_both (hR:R<=1000) (hC:C<=1000) (hF:5000000<F) {t:St} (hg:t.good R C) (hk:0<=k) (hkR:k<R) (hkC:k<C) :
  ((∀ a b,k<=a->a<R->k<=b->b<C->t.d a b=0)/\aC.p F R C (mk R C t.d) R (mk R R t.l) R R (mk R R t.m) C C (mk C C t.r) C (mk C C t.s) k=some (false,mk R C t.d,mk R R t.l,mk R R t.m,mk C C t.r,mk C C t.s) /\
   bs.p F R (mk R R t.l) R R (mk R R t.m) R C (mk R C t.d) C C (mk C C t.r) C (mk C C t.s) k=some (false,mk R R t.l,mk R R t.m,mk R C t.d,mk C C t.r,mk C C t.s)) \/
  (∃ p q,SI k C t.d R k (some (p,q))/\∃ u,u=pvS t p q k/\u.good R C/\u.d k k=ab (t.d p q) /\
   aC.p F R C (mk R C t.d) R (mk R R t.l) R R (mk R R t.m) C C (mk C C t.r) C (mk C C t.s) k=some (true,mk R C u.d,mk R R u.l,mk R R u.m,mk C C u.r,mk C C u.s) /\
   bs.p F R (mk R R t.l) R R (mk R R t.m) R C (mk R C t.d) C C (mk C C t.r) C (mk C C t.s) k=some (true,mk R R u.l,mk R R u.m,mk R C u.d,mk C C u.r,mk C C u.s)):=by
 obtain ⟨g1,g2,g3,g4,g5⟩:=hg
 obtain ⟨s',hs,e1,e2⟩:=sel_out (F:=F) (c1:=R) (c2:=R) (c3:=R) (c4:=C) (c5:=C) (c6:=C) (l1:=mk R R t.l) (l2:=mk R R t.m) (l3:=mk C C t.r) (l4:=mk C C t.s) hR hC (by omega) g1 hk (by omega) (R - k).toNat F F none k (by omega) (by omega) (by omega) (by omega) (by intro a b h;unfold Sc at h;omega)
 unfold aC.p bs.p aS.p
 rw [show (-1:Int)=sP none from rfl]
 rw [show aC.pl29 F F R C (mk R C t.d) R (mk R R t.l) R R (mk R R t.m) C C (mk C C t.r) C (mk C C t.s) k (sP none) (sP none) k=_ from e1]
 rw [show aS.pl29 F F k 0 0 false R C (mk R C t.d) k=_ from e2,Option.bind_some]
 match s',hs with
 | none,hs=>
  left
  refine ⟨λa b h1 h2 h3 h4=>hs a b ⟨h1,h3,h4,.inl h2⟩,?_,rfl⟩
  unfold aC.pj6
  rfl
 | some (p,q),hs=>
  right
  refine ⟨p,q,hs,pvS t p q k,rfl,?_⟩
  obtain ⟨⟨h1,h2,h3,h4⟩,h5,h6⟩:=hs
  have hp:p<R:=by omega
  have q1:Bd R C (swC (swR t.d p k) q k):=(g1.swR (by omega) hp hk hkR).swC (by omega) (by omega) hk hkC
  have q2:=g2.swR (i:=p) (by omega) hp hk hkR
  have q3:=g3.swC (j:=p) (by omega) hp hk hkR
  have q4:=g4.swC (j:=q) (by omega) h3 hk hkC
  have q5:=g5.swR (i:=q) (by omega) h3 hk hkC
  have hpos:=ab_pos.2 h5
  have ekk:swC (swR t.d p k) q k k k=t.d p q:=by
   unfold swC swR sw
   grind
  have b1:=ab_bd (q1.ab hk hkR hk hkC)
  unfold aC.pj6
  simp only [sP,sQ,iP,iQ,Option.isSome_some,Bool.not_true,cond_false]
  simp only [eq_false (show ¬ p<0 by omega),decide_false,cond_false]
  rw [BI hR hC (by omega) (by omega) hp hk hkR,Option.bind_some,BI hR hR (by omega) (by omega) hp hk hkR,Option.bind_some,BK hR hR (by omega) (by omega) hp hk hkR,Option.bind_some,BK hR hC (by omega) (by omega) h3 hk hkC,Option.bind_some,BK hC hC (by omega) (by omega) h3 hk hkC,Option.bind_some,BI hC hC (by omega) (by omega) h3 hk hkC,Option.bind_some]
  rw [BJ hR hC (by omega) (by omega) hp hk hkR,Option.bind_some,BJ hR hR (by omega) (by omega) hp hk hkR,Option.bind_some,BL hR hR (by omega) (by omega) hp hk hkR,Option.bind_some,BL hR hC (by omega) (by omega) h3 hk hkC,Option.bind_some,BL hC hC (by omega) (by omega) h3 hk hkC,Option.bind_some,BJ hC hC (by omega) (by omega) h3 hk hkC,Option.bind_some]
  simp (disch:=omega) only [at_mk,jI,li,Option.bind_some]
  rw [ekk]
  by_cases hneg:t.d p q<0
  ·have epv:pvS t p q k=ngS (swS t p q k) k:=if_pos (by show swC (swR t.d p k) q k k k<0;rw [ekk];exact hneg)
   rw [epv]
   simp only [eq_true hneg,decide_true,cond_true]
   refine ⟨⟨q1.ngR,q2.ngR,q3.ngC,q4,q5⟩,?_,?_,?_⟩
   ·show ngR (swC (swR t.d p k) q k) k k k=_
    unfold ngR ab
    rw [if_pos rfl,ekk,if_pos hneg]
   ·rw [Mi hR hC hk hkR C F _ 0 q1 (by omega) (by omega) (by omega)]
    unfold aC.pj5
    rw [Mj hR hk hkR R F _ _ 0 q2 q3 (by omega) (by omega) (by omega)]
    rw [fN (A:=ngRf (swC (swR t.d p k) q k) k 0) (B:=(ngS (swS t p q k) k).d) (λa b _ _ _ _=>by unfold ngRf;show _=ngR _ _ _ _;unfold ngR swS;grind)]
    rw [fN (A:=ngRf (swR t.l p k) k 0) (B:=(ngS (swS t p q k) k).l) (λa b _ _ _ _=>by unfold ngRf;show _=ngR _ _ _ _;unfold ngR swS;grind)]
    rw [fN (A:=ngCf (swC t.m p k) k 0) (B:=(ngS (swS t p q k) k).m) (λa b _ _ _ _=>by unfold ngCf;show _=ngC _ _ _ _;unfold ngC swS;grind)]
    rfl
   ·obtain ⟨x,ex,exl,ew⟩:=cuts_row (A:=swC (swR t.d p k) q k) hR hC hk hkR (by omega)
    obtain ⟨y,ey,eyl,ew2⟩:=cuts_row (A:=swR t.l p k) hR hR hk hkR (by omega)
    have m1:R * C<=1000 * 1000:=Nat.mul_le_mul hR hC
    have m2:R * R<=1000 * 1000:=Nat.mul_le_mul hR hR
    rw [ex,Option.bind_some,ey,Option.bind_some,if_pos (by rw [nj,nj];omega),ew,ew2,exl,eyl,negr_mk hR hC hk hkR q1,negr_mk hR hR hk hkR q2]
    unfold bs.pj3
    rw [Mk hR hk hkR R F _ 0 q3 (by omega) (by omega) (by omega)]
    rw [fN (A:=ngCf (swC t.m p k) k 0) (B:=(ngS (swS t p q k) k).m) (λa b _ _ _ _=>by unfold ngCf;show _=ngC _ _ _ _;unfold ngC swS;grind)]
    rfl
  ·have epv:pvS t p q k=swS t p q k:=if_neg (by show ¬ swC (swR t.d p k) q k k k<0;rw [ekk];exact hneg)
   rw [epv]
   simp only [eq_false hneg,decide_false,cond_false]
   refine ⟨⟨q1,q2,q3,q4,q5⟩,?_,rfl,rfl⟩
   show swC (swR t.d p k) q k k k=_
   unfold ab
   rw [ekk,if_neg hneg]
end Go.Proofs.Ytnkgeongfneafaa.AE
end
section
namespace Go.Proofs.Ytnkgeongfneafaa.AE
open Go Go.AE Go.Proofs
variable {R C F:Nat} {A:Mat} {i j k:Int}
def rowS (u:St) (t f b:Int):St:=⟨adR u.d t f b,adR u.l t f b,adC u.m f t (-b),u.r,u.s⟩
def colS (u:St) (t f b:Int):St:=⟨adC u.d t f b,u.l,u.m,adC u.r t f b,adR u.s f t (-b)⟩
theorem rowS_good {u:St} (h:u.good R C) (t f b:Int):(rowS u t f b).good R C:=by
 obtain ⟨g1,g2,g3,g4,g5⟩:=h
 exact ⟨g1.adR,g2.adR,g3.adC,g4,g5⟩
theorem colS_good {u:St} (h:u.good R C) (t f b:Int):(colS u t f b).good R C:=by
 obtain ⟨g1,g2,g3,g4,g5⟩:=h
 exact ⟨g1.adC,g2,g3,g4.adC,g5.adR⟩
theorem ab_neg (x:Int):ab (-x)=ab x:=by unfold ab;split <;> split <;> omega
theorem row_both (hR:R<=1000) (hC:C<=1000) (hF:5000000<F) {u:St} (hg:u.good R C) {t f q:Int} (ht0:0<=t) (ht:t<R) (hf0:0<=f) (hf:f<R) (htf:t≠f) (hq:ab q<=4000000000000) (hq0:q≠0) :
  ∃ bad',eQ.p F R (mk R R u.l) R R (mk R R u.m) C (mk R C u.d) false t f (-q)=some (mk R R (rowS u t f (-q)).l,mk R R (rowS u t f (-q)).m,mk R C (rowS u t f (-q)).d,bad') /\
   (∃ x y z,gg.p F C (mk R C u.d) R (mk R R u.l) R R (mk R R u.m) false t f q=some (x,y,z,bad')/\(bad'=false->x=mk R C (rowS u t f (-q)).d/\y=mk R R (rowS u t f (-q)).l/\z=mk R R (rowS u t f (-q)).m)) /\
   (bad'=false->¬ nfR C u.d t f (-q)):=by
 obtain ⟨g1,g2,g3,g4,g5⟩:=hg
 have bq:=ab_bd hq
 have hq':ab (-q)<=4000000000000:=by rw [ab_neg];exact hq
 obtain ⟨b1,e1,h1⟩:=BM (F:=F) (bad:=false) hR hC (by omega) g1 ht0 ht hf0 hf htf hq'
 obtain ⟨b2,e2,h2⟩:=BM (F:=F) (bad:=b1) hR hR (by omega) g2 ht0 ht hf0 hf htf hq'
 obtain ⟨b3,e3,h3⟩:=BN (F:=F) (q:=- -q) (bad:=b2) hR hR (by omega) g3 hf0 hf ht0 ht (Ne.symm htf) (by rw [ab_neg];exact hq')
 refine ⟨b3,?_,?_,?_⟩
 ·unfold eQ.p
  rw [e1,Option.bind_some]
  simp only []
  rw [e2,Option.bind_some]
  simp only []
  rw [cj (by omega) (by omega),Int.zero_sub,e3,Option.bind_some]
  rfl
 ·unfold gg.p
  rw [show (q != 0)=true from bne_iff_ne.2 hq0,cond_true]
  obtain ⟨c1,x,f1,i1,j1⟩:=BO (F:=F) hR hC (by omega) g1 ht0 ht hf0 hf htf hq
  rw [f1,Option.bind_some]
  simp only []
  cases c1 with
  | true=>
   rw [BQ (by omega),Option.bind_some]
   simp only []
   rw [BR (by omega),Option.bind_some]
   have hb:b3=true:=h3.2 (.inl (h2.2 (.inl (h1.2 (.inr (i1.1 rfl))))))
   subst hb
   exact ⟨_,_,_,rfl,λh=>by cases h⟩
  | false=>
   have n1:¬ nfR C u.d t f (-q):=λh=>by have:=i1.2 h;cases this
   obtain ⟨c2,y,f2,i2,j2⟩:=BO (F:=F) hR hR (by omega) g2 ht0 ht hf0 hf htf hq
   rw [f2,Option.bind_some]
   simp only []
   cases c2 with
   | true=>
    rw [BR (by omega),Option.bind_some]
    have hb:b3=true:=h3.2 (.inl (h2.2 (.inr (i2.1 rfl))))
    subst hb
    exact ⟨_,_,_,rfl,λh=>by cases h⟩
   | false=>
    have n2:¬ nfR R u.l t f (-q):=λh=>by have:=i2.2 h;cases this
    obtain ⟨c3,z,f3,i3,j3⟩:=BP (F:=F) (q:=-q) hR hR (by omega) g3 hf0 hf ht0 ht (Ne.symm htf) hq'
    rw [cj (by omega) (by omega),Int.zero_sub,f3,Option.bind_some]
    have hb:b3=c3:=by
     rw [Bool.eq_iff_iff,h3,i3]
     constructor
     ·rintro (h | h)
      ·rcases h2.1 h with h | h
       ·rcases h1.1 h with h | h
        ·cases h
        ·exact absurd h n1
       ·exact absurd h n2
      ·exact h
     ·exact λh=>.inr h
    subst hb
    exact ⟨_,_,_,rfl,λh=>⟨j1 rfl,j2 rfl,j3 h⟩⟩
 ·intro hb hn
  have:b3=true:=h3.2 (.inl (h2.2 (.inl (h1.2 (.inr hn)))))
  rw [hb] at this;cases this
theorem col_both (hR:R<=1000) (hC:C<=1000) (hF:5000000<F) {u:St} (hg:u.good R C) {t f q:Int} (ht0:0<=t) (ht:t<C) (hf0:0<=f) (hf:f<C) (htf:t≠f) (hq:ab q<=4000000000000) (hq0:q≠0) :
  ∃ bad',gv.p F R C (mk R C u.d) C C (mk C C u.r) C (mk C C u.s) false t f (-q)=some (mk R C (colS u t f (-q)).d,mk C C (colS u t f (-q)).r,mk C C (colS u t f (-q)).s,bad') /\
   (∃ x y z,gr.p F R C (mk R C u.d) C C (mk C C u.r) C (mk C C u.s) false t f q=some (x,y,z,bad')/\(bad'=false->x=mk R C (colS u t f (-q)).d/\y=mk C C (colS u t f (-q)).r/\z=mk C C (colS u t f (-q)).s)) /\
   (bad'=false->¬ nfC R u.d t f (-q)):=by
 obtain ⟨g1,g2,g3,g4,g5⟩:=hg
 have bq:=ab_bd hq
 have hq':ab (-q)<=4000000000000:=by rw [ab_neg];exact hq
 obtain ⟨b1,e1,h1⟩:=BN (F:=F) (bad:=false) hR hC (by omega) g1 ht0 ht hf0 hf htf hq'
 obtain ⟨b2,e2,h2⟩:=BN (F:=F) (bad:=b1) hC hC (by omega) g4 ht0 ht hf0 hf htf hq'
 obtain ⟨b3,e3,h3⟩:=BM (F:=F) (q:=- -q) (bad:=b2) hC hC (by omega) g5 hf0 hf ht0 ht (Ne.symm htf) (by rw [ab_neg];exact hq')
 refine ⟨b3,?_,?_,?_⟩
 ·unfold gv.p
  rw [e1,Option.bind_some]
  simp only []
  rw [e2,Option.bind_some]
  simp only []
  rw [cj (by omega) (by omega),Int.zero_sub,e3,Option.bind_some]
  rfl
 ·unfold gr.p
  rw [show (q != 0)=true from bne_iff_ne.2 hq0,cond_true]
  obtain ⟨c1,x,f1,i1,j1⟩:=BP (F:=F) hR hC (by omega) g1 ht0 ht hf0 hf htf hq
  rw [f1,Option.bind_some]
  simp only []
  cases c1 with
  | true=>
   rw [BR (by omega),Option.bind_some]
   simp only []
   rw [BQ (by omega),Option.bind_some]
   have hb:b3=true:=h3.2 (.inl (h2.2 (.inl (h1.2 (.inr (i1.1 rfl))))))
   subst hb
   exact ⟨_,_,_,rfl,λh=>by cases h⟩
  | false=>
   have n1:¬ nfC R u.d t f (-q):=λh=>by have:=i1.2 h;cases this
   obtain ⟨c2,y,f2,i2,j2⟩:=BP (F:=F) hC hC (by omega) g4 ht0 ht hf0 hf htf hq
   rw [f2,Option.bind_some]
   simp only []
   cases c2 with
   | true=>
    rw [BQ (by omega),Option.bind_some]
    have hb:b3=true:=h3.2 (.inl (h2.2 (.inr (i2.1 rfl))))
    subst hb
    exact ⟨_,_,_,rfl,λh=>by cases h⟩
   | false=>
    have n2:¬ nfC C u.r t f (-q):=λh=>by have:=i2.2 h;cases this
    obtain ⟨c3,z,f3,i3,j3⟩:=BO (F:=F) (q:=-q) hC hC (by omega) g5 hf0 hf ht0 ht (Ne.symm htf) hq'
    rw [cj (by omega) (by omega),Int.zero_sub,f3,Option.bind_some]
    have hb:b3=c3:=by
     rw [Bool.eq_iff_iff,h3,i3]
     constructor
     ·rintro (h | h)
      ·rcases h2.1 h with h | h
       ·rcases h1.1 h with h | h
        ·cases h
        ·exact absurd h n1
       ·exact absurd h n2
      ·exact h
     ·exact λh=>.inr h
    subst hb
    exact ⟨_,_,_,rfl,λh=>⟨j1 rfl,j2 rfl,j3 h⟩⟩
 ·intro hb hn
  have:b3=true:=h3.2 (.inl (h2.2 (.inl (h1.2 (.inr hn)))))
  rw [hb] at this;cases this
end Go.Proofs.Ytnkgeongfneafaa.AE
end
section
namespace Go.Proofs.Ytnkgeongfneafaa.AE
open Go Go.AE Go.Proofs
variable {R C F:Nat} {A:Mat} {i j k:Int}
abbrev i13 (F g R C:Nat) (u:St) (bad:Bool) (k i:Int):=aR.pl13 F g R (mk R R u.l) R R (mk R R u.m) R C (mk R C u.d) C C (mk C C u.r) C (mk C C u.s) bad k R C i
abbrev i4 (F R C:Nat) (u:St) (bad:Bool) (k:Int):=aR.pj4 F (mk R R u.l) (mk R R u.m) R C (mk R C u.d) C C (mk C C u.r) C (mk C C u.s) bad k C
abbrev i15 (F g R C:Nat) (u:St) (bad:Bool) (k j:Int):=aR.pl15 F g (mk R R u.l) (mk R R u.m) R C (mk R C u.d) C C (mk C C u.r) C (mk C C u.s) bad k C j
abbrev s29 (F g R C:Nat) (u:St) (bad:Bool) (k i:Int):=bg.pl29 F g R C (mk R C u.d) R (mk R R u.l) R R (mk R R u.m) C C (mk C C u.r) C (mk C C u.s) bad k i
abbrev s2 (F R C:Nat) (u:St) (bad:Bool) (k:Int):=bg.pj2 F R C (mk R C u.d) R (mk R R u.l) R R (mk R R u.m) C C (mk C C u.r) C (mk C C u.s) bad k
abbrev s61 (F g R C:Nat) (u:St) (bad:Bool) (k i:Int):=bg.pl61 F g R C (mk R C u.d) R (mk R R u.l) R R (mk R R u.m) C C (mk C C u.r) C (mk C C u.s) bad k i
abbrev s1 (F R C:Nat) (u:St) (bad:Bool) (k:Int):=bg.pj1 F R C (mk R C u.d) R (mk R R u.l) R R (mk R R u.m) (mk C C u.r) (mk C C u.s) bad k
theorem i15_bad {g:Nat} {l m d r s:List Int} {c6 c7 c9 c10 c13 k x j:Int}:aR.pl15 F (g+1) l m c6 c7 d c9 c10 r c13 s true k x j=some (true,l,m,d,r,s):=by
 rw [aR.pl15]
 cases decide (j<x) <;> rfl
theorem i13_bad {g:Nat} {l m d r s:List Int} {c1 c3 c4 c6 c7 c9 c10 c13 k x y i:Int} (hF:0<F):aR.pl13 F (g+1) c1 l c3 c4 m c6 c7 d c9 c10 r c13 s true k x y i=some (true,l,m,d,r,s):=by
 obtain ⟨f,rfl⟩:∃ f,F=f+1:=⟨F - 1,by omega⟩
 rw [aR.pl13]
 unfold aR.pj4
 cases decide (i<x)
 ·exact i15_bad
 ·exact i15_bad
theorem s61_bad {g:Nat} {l m d r s:List Int} {c0 c1 c4 c6 c7 c9 c10 c13 k i:Int}:bg.pl61 F (g+1) c0 c1 d c4 l c6 c7 m c9 c10 r c13 s true k i=some (false,false,d,l,m,r,s,true):=by
 rw [bg.pl61]
 cases decide (i<c1) <;> rfl
theorem s29_bad {g:Nat} {l m d r s:List Int} {c0 c1 c4 c6 c7 c9 c10 c13 k i:Int} (hF:0<F):bg.pl29 F (g+1) c0 c1 d c4 l c6 c7 m c9 c10 r c13 s true k i=some (false,false,d,l,m,r,s,true):=by
 obtain ⟨f,rfl⟩:∃ f,F=f+1:=⟨F - 1,by omega⟩
 rw [bg.pl29]
 unfold bg.pj2
 cases decide (i<c0)
 ·exact s61_bad
 ·exact s61_bad
theorem mod_eq {x p:Int}:x+p * -(x / p)=x % p:=by
 have:=Int.mul_ediv_add_emod x p
 rw [Int.mul_neg];omega
theorem quo_ne {x p:Int} (h:x / p=0):x % p=x:=by
 have:=Int.mul_ediv_add_emod x p
 rw [h] at this;omega
theorem clr_rows (hR:R<=1000) (hC:C<=1000) (hF:5000000<F) (hk:0<=k) (hkR:k<R) (hkC:k<C) {p:Int} (hp:0<p):∀ (n g h:Nat) (u:St) (i:Int),u.good R C->u.d k k=p->R - i=n->n+1<g->n+1<h->k<i ->
  (∃ v:St,v.good R C/\(∀ a b:Int,a<i->v.d a b=u.d a b)/\(∀ b:Int,0<=b->b<C->v.d k b=u.d k b)/\(∀ a:Int,i<=a->a<R->v.d a k=u.d a k % p)/\(∀ a:Int,0<=a->a<i->v.d a k=u.d a k) /\
   i13 F g R C u false k i=i4 F R C v false k/\s29 F h R C u false k i=s2 F R C v false k) \/
  (∃ l m d r s,i13 F g R C u false k i=some (true,l,m,d,r,s))/\(∃ l m d r s,s29 F h R C u false k i=some (false,false,d,l,m,r,s,true)):=by
 intro n
 induction n with
 | zero=>
  intro g h u i hu hkk hn hg hh hki
  obtain ⟨g,rfl⟩:∃ g',g=g'+1:=⟨g - 1,by omega⟩
  obtain ⟨h,rfl⟩:∃ g',h=g'+1:=⟨h - 1,by omega⟩
  left
  refine ⟨u,hu,λ_ _ _=>rfl,λ_ _ _=>rfl,λa h1 h2=>by omega,λ_ _ _=>rfl,?_,?_⟩
  ·unfold i13
   rw [aR.pl13,show decide (i<(R:Int))=false from decide_eq_false (by omega),cond_false]
  ·unfold s29
   rw [bg.pl29,show decide (i<(R:Int))=false from decide_eq_false (by omega),cond_false]
 | succ n ih=>
  intro g h u i hu hkk hn hg hh hki
  obtain ⟨g,rfl⟩:∃ g',g=g'+1:=⟨g - 1,by omega⟩
  obtain ⟨h,rfl⟩:∃ g',h=g'+1:=⟨h - 1,by omega⟩
  have bik:=hu.1.ab (i:=i) (j:=k) (by omega) (by omega) hk hkC
  have bq:=(quo_bd hp bik).1
  have bq':=ab_bd bq
  unfold i13 s29
  rw [aR.pl13,show decide (i<(R:Int))=true from decide_eq_true (by omega),cond_true,Bool.not_false,cond_true]
  rw [bg.pl29,show decide (i<(R:Int))=true from decide_eq_true (by omega),cond_true,Bool.not_false,cond_true]
  simp (disch:=omega) only [at_mk,jI,li,Option.bind_some]
  rw [hkk,Gl hp bik,Gm hp bik,Option.bind_some,Option.bind_some]
  by_cases hq:u.d i k / p=0
  ·rw [hq,show ((0:Int) != 0)=false from rfl,cond_false]
   unfold aR.pj5 gg.p
   rw [show ((0:Int) != 0)=false from rfl,cond_false,Option.bind_some,cj (by omega) (by omega)]
   rcases ih g h u (i+1) hu hkk (by omega) (by omega) (by omega) (by omega) with ⟨v,q1,q0,q2,q3,q4,q5,q6⟩ | hbad
   ·left
    refine ⟨v,q1,λa b h=>q0 a b (by omega),q2,λa h1 h2=>?_,λa h1 h2=>q4 a h1 (by omega),q5,q6⟩
    by_cases e:a=i
    ·subst e
     rw [q4 a (by omega) (by omega),quo_ne hq]
    ·exact q3 a (by omega) h2
   ·exact .inr hbad
  ·rw [show (u.d i k / p != 0)=true from bne_iff_ne.2 hq,cond_true,cj (x:=0 - u.d i k / p) (by omega) (by omega),Int.zero_sub]
   obtain ⟨bad',e1,⟨x,y,z,e2,e3⟩,e4⟩:=row_both (q:=u.d i k / p) hR hC hF hu (by omega:0<=i) (by omega) hk hkR (by omega) (by omega) hq
   rw [e1,e2,Option.bind_some,Option.bind_some]
   unfold aR.pj5
   rw [cj (x:=i+1) (by omega) (by omega)]
   simp only []
   cases bad' with
   | true=>
    right
    obtain ⟨g,rfl⟩:∃ g',g=g'+1:=⟨g - 1,by omega⟩
    obtain ⟨h,rfl⟩:∃ g',h=g'+1:=⟨h - 1,by omega⟩
    exact ⟨⟨_,_,_,_,_,i13_bad (by omega)⟩,⟨_,_,_,_,_,s29_bad (by omega)⟩⟩
   | false=>
    obtain ⟨rfl,rfl,rfl⟩:=e3 rfl
    have e4:=e4 rfl
    have key:∀ b:Int,0<=b->b<C->(rowS u i k (-(u.d i k / p))).d i b=u.d i b+u.d k b * -(u.d i k / p):=by
     intro b h1 h2
     show adR u.d i k (-(u.d i k / p)) i b=_
     unfold adR
     rw [if_pos rfl]
     apply ad_fit
     exact Classical.byContradiction λhh=>e4 ⟨b,h1,h2,hh⟩
    have oth:∀ a b,a≠i->(rowS u i k (-(u.d i k / p))).d a b=u.d a b:=by
     intro a b h1
     show adR u.d i k (-(u.d i k / p)) a b=_
     unfold adR
     rw [if_neg h1]
    rcases ih g h (rowS u i k (-(u.d i k / p))) (i+1) (rowS_good hu _ _ _) (by rw [oth k k (by omega)];exact hkk) (by omega) (by omega) (by omega) (by omega) with ⟨v,q1,q0,q2,q3,q4,q5,q6⟩ | hbad
    ·left
     refine ⟨v,q1,λa b h=>(q0 a b (by omega)).trans (oth a b (by omega)),λb h1 h2=>?_,λa h1 h2=>?_,λa h1 h2=>?_,q5,q6⟩
     ·rw [q2 b h1 h2,oth k b (by omega)]
     ·by_cases e:a=i
      ·subst e
       rw [q4 a (by omega) (by omega),key k hk hkC,hkk,mod_eq]
      ·rw [q3 a (by omega) h2,oth a k e]
     ·rw [q4 a h1 (by omega),oth a k (by omega)]
    ·exact .inr hbad
theorem clr_cols (hR:R<=1000) (hC:C<=1000) (hF:5000000<F) (hk:0<=k) (hkR:k<R) (hkC:k<C) {p:Int} (hp:0<p):∀ (n g h:Nat) (u:St) (j:Int),u.good R C->u.d k k=p->C - j=n->n+1<g->n+1<h->k<j ->
  (∃ v:St,v.good R C/\(∀ a b:Int,b<j->v.d a b=u.d a b)/\(∀ a:Int,0<=a->a<R->v.d a k=u.d a k)/\(∀ b:Int,j<=b->b<C->v.d k b=u.d k b % p)/\(∀ b:Int,0<=b->b<j->v.d k b=u.d k b) /\
   i15 F g R C u false k j=some (false,mk R R v.l,mk R R v.m,mk R C v.d,mk C C v.r,mk C C v.s)/\s61 F h R C u false k j=s1 F R C v false k) \/
  (∃ l m d r s,i15 F g R C u false k j=some (true,l,m,d,r,s))/\(∃ l m d r s,s61 F h R C u false k j=some (false,false,d,l,m,r,s,true)):=by
 intro n
 induction n with
 | zero=>
  intro g h u i hu hkk hn hg hh hki
  obtain ⟨g,rfl⟩:∃ g',g=g'+1:=⟨g - 1,by omega⟩
  obtain ⟨h,rfl⟩:∃ g',h=g'+1:=⟨h - 1,by omega⟩
  left
  refine ⟨u,hu,λ_ _ _=>rfl,λ_ _ _=>rfl,λa h1 h2=>by omega,λ_ _ _=>rfl,?_,?_⟩
  ·unfold i15
   rw [aR.pl15,show decide (i<(C:Int))=false from decide_eq_false (by omega),cond_false]
  ·unfold s61
   rw [bg.pl61,show decide (i<(C:Int))=false from decide_eq_false (by omega),cond_false]
 | succ n ih=>
  intro g h u j hu hkk hn hg hh hki
  obtain ⟨g,rfl⟩:∃ g',g=g'+1:=⟨g - 1,by omega⟩
  obtain ⟨h,rfl⟩:∃ g',h=g'+1:=⟨h - 1,by omega⟩
  have bik:=hu.1.ab (i:=k) (j:=j) hk hkR (by omega) (by omega)
  have bq:=(quo_bd hp bik).1
  have bq':=ab_bd bq
  unfold i15 s61
  rw [aR.pl15,show decide (j<(C:Int))=true from decide_eq_true (by omega),cond_true,Bool.not_false,cond_true]
  rw [bg.pl61,show decide (j<(C:Int))=true from decide_eq_true (by omega),cond_true,Bool.not_false,cond_true]
  simp (disch:=omega) only [at_mk,jI,li,Option.bind_some]
  rw [hkk,Gl hp bik,Gm hp bik,Option.bind_some,Option.bind_some]
  by_cases hq:u.d k j / p=0
  ·rw [hq,show ((0:Int) != 0)=false from rfl,cond_false]
   unfold aR.pj3 gr.p
   rw [show ((0:Int) != 0)=false from rfl,cond_false,Option.bind_some,cj (by omega) (by omega)]
   rcases ih g h u (j+1) hu hkk (by omega) (by omega) (by omega) (by omega) with ⟨v,q1,q0,q2,q3,q4,q5,q6⟩ | hbad
   ·left
    refine ⟨v,q1,λa b h=>q0 a b (by omega),q2,λa h1 h2=>?_,λa h1 h2=>q4 a h1 (by omega),q5,q6⟩
    by_cases e:a=j
    ·subst e
     rw [q4 a (by omega) (by omega),quo_ne hq]
    ·exact q3 a (by omega) h2
   ·exact .inr hbad
  ·rw [show (u.d k j / p != 0)=true from bne_iff_ne.2 hq,cond_true,cj (x:=0 - u.d k j / p) (by omega) (by omega),Int.zero_sub]
   obtain ⟨bad',e1,⟨x,y,z,e2,e3⟩,e4⟩:=col_both (q:=u.d k j / p) hR hC hF hu (by omega:0<=j) (by omega) hk hkC (by omega) (by omega) hq
   rw [e1,e2,Option.bind_some,Option.bind_some]
   unfold aR.pj3
   rw [cj (x:=j+1) (by omega) (by omega)]
   simp only []
   cases bad' with
   | true=>
    right
    obtain ⟨g,rfl⟩:∃ g',g=g'+1:=⟨g - 1,by omega⟩
    obtain ⟨h,rfl⟩:∃ g',h=g'+1:=⟨h - 1,by omega⟩
    exact ⟨⟨_,_,_,_,_,i15_bad⟩,⟨_,_,_,_,_,s61_bad⟩⟩
   | false=>
    obtain ⟨rfl,rfl,rfl⟩:=e3 rfl
    have e4:=e4 rfl
    have key:∀ a:Int,0<=a->a<R->(colS u j k (-(u.d k j / p))).d a j=u.d a j+u.d a k * -(u.d k j / p):=by
     intro b h1 h2
     show adC u.d j k (-(u.d k j / p)) b j=_
     unfold adC
     rw [if_pos rfl]
     apply ad_fit
     exact Classical.byContradiction λhh=>e4 ⟨b,h1,h2,hh⟩
    have oth:∀ a b,b≠j->(colS u j k (-(u.d k j / p))).d a b=u.d a b:=by
     intro a b h1
     show adC u.d j k (-(u.d k j / p)) a b=_
     unfold adC
     rw [if_neg h1]
    rcases ih g h (colS u j k (-(u.d k j / p))) (j+1) (colS_good hu _ _ _) (by rw [oth k k (by omega)];exact hkk) (by omega) (by omega) (by omega) (by omega) with ⟨v,q1,q0,q2,q3,q4,q5,q6⟩ | hbad
    ·left
     refine ⟨v,q1,λa b h=>(q0 a b (by omega)).trans (oth a b (by omega)),λb h1 h2=>?_,λa h1 h2=>?_,λa h1 h2=>?_,q5,q6⟩
     ·rw [q2 b h1 h2,oth b k (by omega)]
     ·by_cases e:a=j
      ·subst e
       rw [q4 a (by omega) (by omega),key k hk hkR,hkk,mod_eq]
      ·rw [q3 a (by omega) h2,oth k a e]
     ·rw [q4 a h1 (by omega),oth k a (by omega)]
    ·exact .inr hbad
theorem clr_both (hR:R<=1000) (hC:C<=1000) (hF:5000000<F) (hk:0<=k) (hkR:k<R) (hkC:k<C) {p:Int} (hp:0<p) {u:St} (hu:u.good R C) (hkk:u.d k k=p) :
  (∃ v:St,v.good R C/\(∀ a b:Int,a<k->b<k->v.d a b=u.d a b)/\v.d k k=p/\(∀ a:Int,k<a->a<R->v.d a k=u.d a k % p)/\(∀ b:Int,k<b->b<C->v.d k b=u.d k b % p) /\
   aR.p F R (mk R R u.l) R R (mk R R u.m) R C (mk R C u.d) C C (mk C C u.r) C (mk C C u.s) false k=some (false,mk R R v.l,mk R R v.m,mk R C v.d,mk C C v.r,mk C C v.s)/\s29 F F R C u false k (IntKind.i64.wrap (k+1))=s1 F R C v false k) \/
  (∃ l m d r s,aR.p F R (mk R R u.l) R R (mk R R u.m) R C (mk R C u.d) C C (mk C C u.r) C (mk C C u.s) false k=some (true,l,m,d,r,s))/\(∃ l m d r s,s29 F F R C u false k (IntKind.i64.wrap (k+1))=some (false,false,d,l,m,r,s,true)):=by
 unfold aR.p
 rw [cj (x:=k+1) (by omega) (by omega)]
 rcases clr_rows hR hC hF hk hkR hkC hp (R - (k+1)).toNat F F u (k+1) hu hkk (by omega) (by omega) (by omega) (by omega) with ⟨v,q1,q0,q2,q3,q4,q5,q6⟩ | ⟨h1,h2⟩
 ·rcases clr_cols hR hC hF hk hkR hkC hp (C - (k+1)).toNat F F v (k+1) q1 (by rw [q4 k hk (by omega)];exact hkk) (by omega) (by omega) (by omega) (by omega) with ⟨w,p1,p0,p2,p3,p4,p5,p6⟩ | ⟨h1,h2⟩
  ·left
   refine ⟨w,p1,λa b h1 h2=>(p0 a b (by omega)).trans (q0 a b (by omega)),by rw [p2 k hk hkR,q4 k hk (by omega)];exact hkk,λa h1 h2=>by rw [p2 a (by omega) h2,q3 a (by omega) h2],λb h1 h2=>by rw [p3 b (by omega) h2,q2 b (by omega) h2],?_,?_⟩
   ·rw [show aR.pl13 F F R (mk R R u.l) R R (mk R R u.m) R C (mk R C u.d) C C (mk C C u.r) C (mk C C u.s) false k R C (k+1)=_ from q5]
    unfold i4 aR.pj4
    rw [cj (x:=k+1) (by omega) (by omega)]
    exact p5
   ·rw [q6]
    unfold s2 bg.pj2
    rw [cj (x:=k+1) (by omega) (by omega)]
    exact p6
  ·right
   obtain ⟨a1,a2,a3,a4,a5,h1⟩:=h1
   obtain ⟨b1,b2,b3,b4,b5,h2⟩:=h2
   refine ⟨⟨a1,a2,a3,a4,a5,?_⟩,⟨b1,b2,b3,b4,b5,?_⟩⟩
   ·rw [show aR.pl13 F F R (mk R R u.l) R R (mk R R u.m) R C (mk R C u.d) C C (mk C C u.r) C (mk C C u.s) false k R C (k+1)=_ from q5]
    unfold i4 aR.pj4
    rw [cj (x:=k+1) (by omega) (by omega)]
    exact h1
   ·rw [q6]
    unfold s2 bg.pj2
    rw [cj (x:=k+1) (by omega) (by omega)]
    exact h2
 ·exact .inr ⟨h1,h2⟩
end Go.Proofs.Ytnkgeongfneafaa.AE
end
section
namespace Go.Proofs.Ytnkgeongfneafaa.AE
open Go Go.AE Go.Proofs
variable {R C F:Nat} {A:Mat} {i j k:Int}
theorem cutf_row (hR:R<=1000) (hC:C<=1000) (hk0:0<=k) (hk:k<R):∃ x,eA.p F C (mk R C A) k=some x/\x.length=C/\∀ n:Nat,n<C->gt x n=A k n:=by
 obtain ⟨k,rfl⟩:=Int.eq_ofNat_of_zero_le hk0
 have h1:(k+1) * C<=R * C:=Nat.mul_le_mul_right _ (by omega)
 have h2:R * C<=1000 * 1000:=Nat.mul_le_mul hR hC
 have h3:(k+1) * C=k * C+C:=Nat.succ_mul _ _
 unfold eA.p
 rw [cj (x:=(k:Int)+1) (by omega) (by omega),show (k:Int)+1=((k+1:Nat):Int) by omega,<-Int.natCast_mul,<-Int.natCast_mul,cj (by omega) (by omega),cj (by omega) (by omega)]
 unfold cutf
 rw [if_pos (by rw [nj];omega),Option.bind_some]
 refine ⟨_,rfl,?_,?_⟩
 ·rw [List.length_drop,List.length_take,nj]
  omega
 ·intro n hn
  unfold gt
  rw [List.getD_eq_getElem?_getD,List.getElem?_drop,List.getElem?_take_of_lt (by omega),Int.toNat_natCast,x_ hn (by omega)]
  rfl
theorem cutf_end {x:List Int} (hk0:0<=k) (hk:k<=x.length):∃ y,cutf x k (x.length:Int)=some y/\(y.length:Int)=x.length - k/\∀ n:Nat,gt y n=gt x (k.toNat+n):=by
 unfold cutf
 rw [if_pos (by omega)]
 refine ⟨_,rfl,?_,?_⟩
 ·rw [List.length_drop,List.length_take];omega
 ·intro n
  unfold gt
  rw [List.getD_eq_getElem?_getD,List.getD_eq_getElem?_getD,List.getElem?_drop,Int.toNat_natCast,List.take_length]
theorem idx_155 {y:List Int} (hy:y.length<=1000):∀ (n g:Nat) (i:Int),y.length - i=n->n<g->0<=i ->
  ∃ r,dI.pl13 F g y y.length i=some r/\(r>=0↔∃ a:Int,i<=a/\a<y.length/\gt y a.toNat≠0):=by
 intro n
 induction n with
 | zero=>
  intro g i hn hg hi
  obtain ⟨g,rfl⟩:∃ g',g=g'+1:=⟨g - 1,by omega⟩
  rw [dI.pl13,show decide (i<(y.length:Int))=false from decide_eq_false (by omega),cond_false]
  exact ⟨_,rfl,⟨λh=>absurd h (by decide),λ⟨a,h1,h2,_⟩=>by omega⟩⟩
 | succ n ih=>
  intro g i hn hg hi
  obtain ⟨g,rfl⟩:∃ g',g=g'+1:=⟨g - 1,by omega⟩
  rw [dI.pl13,show decide (i<(y.length:Int))=true from decide_eq_true (by omega),cond_true]
  unfold ix iD.p
  rw [if_pos (by omega),Option.bind_some,Option.bind_some]
  by_cases h:gt y i.toNat=0
  ·rw [h,show ((0:Int) != 0)=false from rfl,cond_false,cj (by omega) (by omega)]
   obtain ⟨r,e,hr⟩:=ih g (i+1) (by omega) (by omega) (by omega)
   refine ⟨r,e,hr.trans ⟨λ⟨a,h1,h2,h3⟩=>⟨a,by omega,h2,h3⟩,λ⟨a,h1,h2,h3⟩=>?_⟩⟩
   by_cases e:a=i
   ·subst e;exact absurd h h3
   ·exact ⟨a,by omega,h2,h3⟩
  ·rw [show (gt y i.toNat != 0)=true from bne_iff_ne.2 h,cond_true]
   exact ⟨_,rfl,⟨λ_=>⟨i,by omega,by omega,h⟩,λ_=>hi⟩⟩
theorem isClear_l (hR:R<=1000) (hC:C<=1000) (hF:5000000<F) (hk:0<=k) (hkR:k<R) (hkC:k<C):∀ (n g:Nat) (i:Int),R - i=n->n<g->k<i ->
  ∃ b:Bool,cI.pl29 F g k R C (mk R C A) i=some b/\(b=true↔(∀ a:Int,i<=a->a<R->A a k=0)/\(∀ a:Int,k<a->a<C->A k a=0)):=by
 intro n
 induction n with
 | zero=>
  intro g i hn hg hi
  obtain ⟨g,rfl⟩:∃ g',g=g'+1:=⟨g - 1,by omega⟩
  rw [cI.pl29,show decide (i<(R:Int))=false from decide_eq_false (by omega),cond_false]
  unfold cI.pj1
  obtain ⟨x,ex,xl,xg⟩:=cutf_row (F:=F) (A:=A) hR hC hk hkR
  rw [ex,Option.bind_some,cj (by omega) (by omega)]
  obtain ⟨y,ey,yl,yg⟩:=cutf_end (x:=x) (k:=k+1) (by omega) (by omega)
  rw [ey,Option.bind_some]
  unfold hG.p dI.p
  obtain ⟨r,er,hr⟩:=idx_155 (F:=F) (y:=y) (by omega) y.length F 0 (by omega) (by omega) (by omega)
  rw [er,Option.bind_some,Option.bind_some]
  refine ⟨_,rfl,?_⟩
  have:(!decide (r>=0))=true↔¬ (r>=0):=by simp
  rw [this,hr]
  constructor
  ·intro h
   refine ⟨λa h1 h2=>by omega,λa h1 h2=>?_⟩
   refine Classical.byContradiction λhne=>h ⟨a - (k+1),by omega,by omega,?_⟩
   rw [yg,show (k+1).toNat+(a - (k+1)).toNat=a.toNat by omega,xg _ (by omega),Int.toNat_of_nonneg (by omega)]
   exact hne
  ·rintro ⟨_,h⟩ ⟨a,h1,h2,h3⟩
   apply h3
   rw [yg,xg _ (by omega),show (((k+1).toNat+a.toNat:Nat):Int)=k+1+a by omega]
   exact h _ (by omega) (by omega)
 | succ n ih=>
  intro g i hn hg hi
  obtain ⟨g,rfl⟩:∃ g',g=g'+1:=⟨g - 1,by omega⟩
  rw [cI.pl29,show decide (i<(R:Int))=true from decide_eq_true (by omega),cond_true]
  simp (disch:=omega) only [jI,li,Option.bind_some]
  by_cases h:A i k=0
  ·rw [h,show ((0:Int) != 0)=false from rfl,cond_false,cj (by omega) (by omega)]
   obtain ⟨b,e,hb⟩:=ih g (i+1) (by omega) (by omega) (by omega)
   refine ⟨b,e,hb.trans ⟨λ⟨h1,h2⟩=>⟨λa h3 h4=>?_,h2⟩,λ⟨h1,h2⟩=>⟨λa h3 h4=>h1 a (by omega) h4,h2⟩⟩⟩
   by_cases e:a=i
   ·subst e;exact h
   ·exact h1 a (by omega) h4
  ·rw [show (A i k != 0)=true from bne_iff_ne.2 h,cond_true]
   exact ⟨_,rfl,⟨λh=>(by cases h),λ⟨h1,_⟩=>absurd (h1 i (by omega) (by omega)) h⟩⟩
theorem specClear_in (hR:R<=1000) (hC:C<=1000) (hk:0<=k) (hkR:k<R) (hkC:k<C):∀ (n g:Nat) (j:Int),C - j=n->n<g->k<j ->
  ∃ b:Bool,bK.pl29 F g C (mk R C A) k j=some b/\(b=true↔(∀ a:Int,j<=a->a<C->A k a=0)):=by
 intro n
 induction n with
 | zero=>
  intro g i hn hg hi
  obtain ⟨g,rfl⟩:∃ g',g=g'+1:=⟨g - 1,by omega⟩
  rw [bK.pl29,show decide (i<(C:Int))=false from decide_eq_false (by omega),cond_false]
  exact ⟨_,rfl,⟨λ_ a h1 h2=>by omega,λ_=>rfl⟩⟩
 | succ n ih=>
  intro g i hn hg hi
  obtain ⟨g,rfl⟩:∃ g',g=g'+1:=⟨g - 1,by omega⟩
  rw [bK.pl29,show decide (i<(C:Int))=true from decide_eq_true (by omega),cond_true]
  simp (disch:=omega) only [at_mk,Option.bind_some]
  by_cases h:A k i=0
  ·rw [h,show ((0:Int) != 0)=false from rfl,cond_false,cj (by omega) (by omega)]
   obtain ⟨b,e,hb⟩:=ih g (i+1) (by omega) (by omega) (by omega)
   refine ⟨b,e,hb.trans ⟨λh1 a h3 h4=>?_,λh1 a h3 h4=>h1 a (by omega) h4⟩⟩
   by_cases e:a=i
   ·subst e;exact h
   ·exact h1 a (by omega) h4
  ·rw [show (A k i != 0)=true from bne_iff_ne.2 h,cond_true]
   exact ⟨_,rfl,⟨λh=>(by cases h),λh1=>absurd (h1 i (by omega) (by omega)) h⟩⟩
theorem specClear_l (hR:R<=1000) (hC:C<=1000) (hF:5000000<F) (hk:0<=k) (hkR:k<R) (hkC:k<C):∀ (n g:Nat) (i:Int),R - i=n->n<g->k<i ->
  ∃ b:Bool,bK.pl13 F g R C (mk R C A) k i=some b/\(b=true↔(∀ a:Int,i<=a->a<R->A a k=0)/\(∀ a:Int,k<a->a<C->A k a=0)):=by
 intro n
 induction n with
 | zero=>
  intro g i hn hg hi
  obtain ⟨g,rfl⟩:∃ g',g=g'+1:=⟨g - 1,by omega⟩
  rw [bK.pl13,show decide (i<(R:Int))=false from decide_eq_false (by omega),cond_false]
  unfold bK.pj1
  rw [cj (by omega) (by omega)]
  obtain ⟨b,e,hb⟩:=specClear_in (F:=F) (A:=A) hR hC hk hkR hkC (C - (k+1)).toNat F (k+1) (by omega) (by omega) (by omega)
  exact ⟨b,e,hb.trans ⟨λh=>⟨λa h1 h2=>by omega,λa h1 h2=>h a (by omega) h2⟩,λ⟨_,h⟩ a h1 h2=>h a (by omega) h2⟩⟩
 | succ n ih=>
  intro g i hn hg hi
  obtain ⟨g,rfl⟩:∃ g',g=g'+1:=⟨g - 1,by omega⟩
  rw [bK.pl13,show decide (i<(R:Int))=true from decide_eq_true (by omega),cond_true]
  simp (disch:=omega) only [at_mk,Option.bind_some]
  by_cases h:A i k=0
  ·rw [h,show ((0:Int) != 0)=false from rfl,cond_false,cj (by omega) (by omega)]
   obtain ⟨b,e,hb⟩:=ih g (i+1) (by omega) (by omega) (by omega)
   refine ⟨b,e,hb.trans ⟨λ⟨h1,h2⟩=>⟨λa h3 h4=>?_,h2⟩,λ⟨h1,h2⟩=>⟨λa h3 h4=>h1 a (by omega) h4,h2⟩⟩⟩
   by_cases e:a=i
   ·subst e;exact h
   ·exact h1 a (by omega) h4
  ·rw [show (A i k != 0)=true from bne_iff_ne.2 h,cond_true]
   exact ⟨_,rfl,⟨λh=>(by cases h),λ⟨h1,_⟩=>absurd (h1 i (by omega) (by omega)) h⟩⟩
theorem clear_both (hR:R<=1000) (hC:C<=1000) (hF:5000000<F) (hk:0<=k) (hkR:k<R) (hkC:k<C) :
  ∃ b:Bool,cI.p F R C (mk R C A) k=some b/\bK.p F R C (mk R C A) k=some b/\(b=true↔(∀ a:Int,k<a->a<R->A a k=0)/\(∀ a:Int,k<a->a<C->A k a=0)):=by
 obtain ⟨b,e,hb⟩:=isClear_l (F:=F) (A:=A) hR hC hF hk hkR hkC (R - (k+1)).toNat F (k+1) (by omega) (by omega) (by omega)
 obtain ⟨c,e',hc⟩:=specClear_l (F:=F) (A:=A) hR hC hF hk hkR hkC (R - (k+1)).toNat F (k+1) (by omega) (by omega) (by omega)
 have:b=c:=by rw [Bool.eq_iff_iff,hb,hc]
 subst this
 unfold cI.p bK.p
 rw [cj (by omega) (by omega)]
 exact ⟨b,e,e',hb⟩
theorem idx_156 {y:List Int} (hR:R<=1000) (hC:C<=1000) (hk:0<=k) (hkR:k<R) (hkC:k<C) (hp:A k k≠0) (hy:y.length<=1000):∀ (n g:Nat) (i:Int),y.length - i=n->n<g->0<=i ->
  ∃ r,dJ.pl13 F g y C (mk R C A) k y.length i=some r/\(r>=0↔∃ a:Int,i<=a/\a<y.length/\Int.tmod (gt y a.toNat) (A k k)≠0):=by
 intro n
 induction n with
 | zero=>
  intro g i hn hg hi
  obtain ⟨g,rfl⟩:∃ g',g=g'+1:=⟨g - 1,by omega⟩
  rw [dJ.pl13,show decide (i<(y.length:Int))=false from decide_eq_false (by omega),cond_false]
  exact ⟨_,rfl,⟨λh=>absurd h (by decide),λ⟨a,h1,h2,_⟩=>by omega⟩⟩
 | succ n ih=>
  intro g i hn hg hi
  obtain ⟨g,rfl⟩:∃ g',g=g'+1:=⟨g - 1,by omega⟩
  rw [dJ.pl13,show decide (i<(y.length:Int))=true from decide_eq_true (by omega),cond_true]
  unfold h_.p
  rw [jI hR hC hk hkR hk hkC]
  unfold ix
  rw [if_pos (by omega),Option.bind_some,Option.bind_some,li hk hkR hk hkC,if_neg hp,Option.bind_some]
  by_cases h:Int.tmod (gt y i.toNat) (A k k)=0
  ·rw [h,show ((0:Int) != 0)=false from rfl,cond_false,cj (by omega) (by omega)]
   obtain ⟨r,e,hr⟩:=ih g (i+1) (by omega) (by omega) (by omega)
   refine ⟨r,e,hr.trans ⟨λ⟨a,h1,h2,h3⟩=>⟨a,by omega,h2,h3⟩,λ⟨a,h1,h2,h3⟩=>?_⟩⟩
   by_cases e:a=i
   ·subst e;exact absurd h h3
   ·exact ⟨a,by omega,h2,h3⟩
  ·rw [show (Int.tmod (gt y i.toNat) (A k k) != 0)=true from bne_iff_ne.2 h,cond_true]
   exact ⟨_,rfl,⟨λ_=>⟨i,by omega,by omega,h⟩,λ_=>hi⟩⟩
theorem specOdd_in (hR:R<=1000) (hC:C<=1000) (hk:0<=k) (hkR:k<R) (hkC:k<C) (hp:A k k≠0) (hi:k<i) (hiR:i<R) {pC}:∀ (n g:Nat) (j:Int),C - j=n->n<g->k<j ->
  ((∃ b:Int,j<=b/\b<C/\Int.tmod (A i b) (A k k)≠0)/\bp.pl213 F pC g R C (mk R C A) k i j=some i) \/
  ((∀ b:Int,j<=b->b<C->Int.tmod (A i b) (A k k)=0)/\bp.pl213 F pC g R C (mk R C A) k i j=pC R C (mk R C A) k (i+1)):=by
 intro n
 induction n with
 | zero=>
  intro g j hn hg hj
  obtain ⟨g,rfl⟩:∃ g',g=g'+1:=⟨g - 1,by omega⟩
  rw [bp.pl213,show decide (j<(C:Int))=false from decide_eq_false (by omega),cond_false]
  unfold bp.pj4 bp.pj3
  rw [cj (by omega) (by omega)]
  exact .inr ⟨λb h1 h2=>by omega,rfl⟩
 | succ n ih=>
  intro g j hn hg hj
  obtain ⟨g,rfl⟩:∃ g',g=g'+1:=⟨g - 1,by omega⟩
  rw [bp.pl213,show decide (j<(C:Int))=true from decide_eq_true (by omega),cond_true]
  simp (disch:=omega) only [at_mk,Option.bind_some]
  rw [if_neg hp]
  by_cases h:Int.tmod (A i j) (A k k)=0
  ·rw [h,show ((0:Int) != 0)=false from rfl,cond_false,cj (by omega) (by omega)]
   rcases ih g (j+1) (by omega) (by omega) (by omega) with ⟨⟨b,h1,h2,h3⟩,e⟩ | ⟨h1,e⟩
   ·exact .inl ⟨⟨b,by omega,h2,h3⟩,e⟩
   ·refine .inr ⟨λb h3 h4=>?_,e⟩
    by_cases e:b=j
    ·subst e;exact h
    ·exact h1 b (by omega) h4
  ·rw [show (Int.tmod (A i j) (A k k) != 0)=true from bne_iff_ne.2 h,cond_true]
   exact .inl ⟨⟨j,by omega,by omega,h⟩,rfl⟩
theorem odd_l (hR:R<=1000) (hC:C<=1000) (hF:5000000<F) (hk:0<=k) (hkR:k<R) (hkC:k<C) (hp:A k k≠0):∀ (n g h:Nat) (i:Int),R - i=n->n<g->n<h->k<i ->
  ∃ r:Int,dd.pl29 F g k R C (mk R C A) i=some r/\bp.pl13 F h R C (mk R C A) k i=some r/\(r=-1\/(k<r/\r<R/\∃ b:Int,k<b/\b<C/\Int.tmod (A r b) (A k k)≠0)):=by
 intro n
 induction n with
 | zero=>
  intro g h i hn hg hh hi
  obtain ⟨g,rfl⟩:∃ g',g=g'+1:=⟨g - 1,by omega⟩
  obtain ⟨h,rfl⟩:∃ g',h=g'+1:=⟨h - 1,by omega⟩
  rw [dd.pl29,bp.pl13,show decide (i<(R:Int))=false from decide_eq_false (by omega),cond_false,cond_false]
  exact ⟨-1,rfl,rfl,.inl rfl⟩
 | succ n ih=>
  intro g h i hn hg hh hi
  obtain ⟨g,rfl⟩:∃ g',g=g'+1:=⟨g - 1,by omega⟩
  obtain ⟨h,rfl⟩:∃ g',h=g'+1:=⟨h - 1,by omega⟩
  rw [dd.pl29,bp.pl13,show decide (i<(R:Int))=true from decide_eq_true (by omega),cond_true,cond_true]
  obtain ⟨x,ex,xl,xg⟩:=cutf_row (F:=F) (A:=A) (k:=i) hR hC (by omega) (by omega)
  rw [ex,Option.bind_some,cj (x:=k+1) (by omega) (by omega)]
  obtain ⟨y,ey,yl,yg⟩:=cutf_end (x:=x) (k:=k+1) (by omega) (by omega)
  rw [ey,Option.bind_some]
  unfold ia.p dJ.p
  obtain ⟨r,er,hr⟩:=idx_156 (F:=F) (y:=y) hR hC hk hkR hkC hp (by omega) y.length F 0 (by omega) (by omega) (by omega)
  rw [er,Option.bind_some,Option.bind_some]
  have yv:∀ a:Int,0<=a->a<y.length->gt y a.toNat=A i (k+1+a):=by
   intro a h1 h2
   rw [yg,xg _ (by omega),show (((k+1).toNat+a.toNat:Nat):Int)=k+1+a by omega]
  rcases specOdd_in (F:=F) (pC:=bp.pl13 F h) hR hC hk hkR hkC hp hi (by omega) (C - (k+1)).toNat F (k+1) (by omega) (by omega) (by omega) with ⟨⟨b,h1,h2,h3⟩,e⟩ | ⟨h1,e⟩
  ·have:r>=0:=hr.2 ⟨b - (k+1),by omega,by omega,by rw [yv _ (by omega) (by omega),show k+1+(b - (k+1))=b by omega];exact h3⟩
   rw [decide_eq_true this,cond_true,e]
   exact ⟨i,rfl,rfl,.inr ⟨hi,by omega,b,by omega,h2,h3⟩⟩
  ·have:¬ r>=0:=by
    rw [hr]
    rintro ⟨a,h2,h3,h4⟩
    rw [yv a h2 h3] at h4
    exact h4 (h1 _ (by omega) (by omega))
   rw [decide_eq_false this,cond_false,e,cj (by omega) (by omega)]
   exact ih g h (i+1) (by omega) (by omega) (by omega) (by omega)
theorem odd_both (hR:R<=1000) (hC:C<=1000) (hF:5000000<F) (hk:0<=k) (hkR:k<R) (hkC:k<C) (hp:A k k≠0) :
  ∃ r:Int,dd.p F R C (mk R C A) k=some r/\bp.p F R C (mk R C A) k=some r/\(r=-1\/(k<r/\r<R/\∃ b:Int,k<b/\b<C/\Int.tmod (A r b) (A k k)≠0)):=by
 unfold dd.p bp.p
 rw [cj (by omega) (by omega)]
 exact odd_l hR hC hF hk hkR hkC hp (R - (k+1)).toNat F F (k+1) (by omega) (by omega) (by omega) (by omega)
end Go.Proofs.Ytnkgeongfneafaa.AE
end
section
namespace Go.Proofs.Ytnkgeongfneafaa.AE
open Go Go.AE Go.Proofs
variable {R C F:Nat} {A:Mat} {i j k:Int}
abbrev ir (F g R C:Nat) (u:St) (bad:Bool) (k:Int):=bv.pl3 F g R (mk R R u.l) R R (mk R R u.m) R C (mk R C u.d) C C (mk C C u.r) C (mk C C u.s) bad k
abbrev sr (F R C:Nat) (u:St) (k:Int):=bg.p F R C (mk R C u.d) R (mk R R u.l) R R (mk R R u.m) C C (mk C C u.r) C (mk C C u.s) false k
theorem ir_bad {g:Nat} {l m d r s:List Int} {c1 c3 c4 c6 c7 c9 c10 c13 k:Int}:bv.pl3 F (g+1) c1 l c3 c4 m c6 c7 d c9 c10 r c13 s true k=some (l,m,d,r,s,true):=by
 rw [bv.pl3];rfl
def Ust (R C:Nat) (k:Int) (u:St) (P:Int):Prop:=u.d k k=P/\(∀ a:Int,k<a->a<R->u.d a k=0)/\∃ b:Int,k<b/\b<C/\Int.tmod (u.d k b) P≠0
def HasLt (R C:Nat) (k:Int) (u:St) (P:Int):Prop:=∃ a b:Int,k<=a/\a<R/\k<=b/\b<C/\u.d a b≠0/\ab (u.d a b)<P
def Same (k:Int) (u v:St):Prop:=∀ a:Int,0<=a->a<k->v.d a a=u.d a a
theorem pv_same {u:St} {p q k:Int} (hp:k<=p) (hq:k<=q):Same k u (pvS u p q k):=by
 intro a _ h2
 have e:(swS u p q k).d a a=u.d a a:=by
  show swC (swR u.d p k) q k a a=_
  unfold swC swR sw
  rw [if_neg (by omega),if_neg (by omega),if_neg (by omega),if_neg (by omega)]
 unfold pvS
 split
 ·show (ngS (swS u p q k) k).d a a=_
  rw [<- e]
  unfold ngS
  simp only
  first | rw [ngR_ne (by omega)] | (unfold ngR;rw [if_neg (by omega)])
 ·exact e
theorem round_both (hR:R<=1000) (hC:C<=1000) (hF:5000000<F) (hk:0<=k) (hkR:k<R) (hkC:k<C) {u:St} (hu:u.good R C) (g:Nat) :
  ((∀ a b,k<=a->a<R->k<=b->b<C->u.d a b=0)/\ir F (g+1) R C u false k=some (mk R R u.l,mk R R u.m,mk R C u.d,mk C C u.r,mk C C u.s,false)/\sr F R C u k=some (true,true,mk R C u.d,mk R R u.l,mk R R u.m,mk C C u.r,mk C C u.s,false)) \/
  ∃ p q,SI k C u.d R k (some (p,q)) /\
   (((∃ l m d r s,ir F (g+2) R C u false k=some (l,m,d,r,s,true))/\(∃ l m d r s,sr F R C u k=some (false,false,d,l,m,r,s,true))) \/
   (∃ v:St,v.good R C/\ir F (g+1) R C u false k=ir F g R C v false k/\sr F R C u k=some (false,false,mk R C v.d,mk R R v.l,mk R R v.m,mk C C v.r,mk C C v.s,false) /\
    Same k u v/\(HasLt R C k v (ab (u.d p q))\/(Ust R C k v (ab (u.d p q))/\∀ b:Int,k<b->b<C->(pvS u p q k).d k b % ab (u.d p q)=0))) \/
   (∃ v:St,v.good R C/\ir F (g+1) R C u false k=ir F g R C v false (k+1)/\sr F R C u k=some (true,false,mk R C v.d,mk R R v.l,mk R R v.m,mk C C v.r,mk C C v.s,false)/\0<v.d k k/\Same k u v)):=by
 unfold ir sr bg.p
 have hmin:k<(if (C:Int)<R then (C:Int) else R):=by split <;> omega
 rcases pivot_both hR hC hF hu hk hkR hkC with ⟨h0,e1,e2⟩ | ⟨p,q,hs,w,hw,hwg,hwk,e1,e2⟩
 ·left
  refine ⟨h0,?_,?_⟩
  ·rw [bv.pl3,decide_eq_true hmin]
   simp only [Bool.not_false,cond_true]
   rw [e2,Option.bind_some]
   rfl
  ·rw [e1,Option.bind_some]
   rfl
 ·right
  refine ⟨p,q,hs,?_⟩
  have hP:0<ab (u.d p q):=ab_pos.2 hs.2.1
  rw [e1,Option.bind_some]
  simp only [Bool.not_true,cond_false]
  have hI:∀ g,bv.pl3 F (g+1) R (mk R R u.l) R R (mk R R u.m) R C (mk R C u.d) C C (mk C C u.r) C (mk C C u.s) false k =
    (aR.p F R (mk R R w.l) R R (mk R R w.m) R C (mk R C w.d) C C (mk C C w.r) C (mk C C w.s) false k).bind λr3=>(bif r3.1 then (bv.pj4 F (bv.pl3 F g) R r3.2.1 R R r3.2.2.1 R C r3.2.2.2.1 C C r3.2.2.2.2.1 C r3.2.2.2.2.2 r3.1 k) else ((cI.p F R C r3.2.2.2.1 k).bind λr7=>(bif (!r7) then (bv.pj4 F (bv.pl3 F g) R r3.2.1 R R r3.2.2.1 R C r3.2.2.2.1 C C r3.2.2.2.2.1 C r3.2.2.2.2.2 r3.1 k) else ((dd.p F R C r3.2.2.2.1 k).bind λr12=>(bif (decide (r12>=0)) then ((eQ.p F R r3.2.1 R R r3.2.2.1 C r3.2.2.2.1 r3.1 k r12 1).bind λr16=>bv.pj6 F (bv.pl3 F g) R r16.1 R R r16.2.1 R C r16.2.2.1 C C r3.2.2.2.2.1 C r3.2.2.2.2.2 r16.2.2.2 k) else (bv.pj6 F (bv.pl3 F g) R r3.2.1 R R r3.2.2.1 R C r3.2.2.2.1 C C r3.2.2.2.2.1 C r3.2.2.2.2.2 r3.1 (IntKind.i64.wrap (k+1)))))))):=by
   intro g
   rw [bv.pl3,decide_eq_true hmin]
   simp only [Bool.not_false,cond_true]
   rw [e2,Option.bind_some]
   rfl
  have hpv:Same k u w:=by rw [hw];exact pv_same hs.1.1 hs.1.2.1
  rcases clr_both hR hC hF hk hkR hkC hP hwg hwk with ⟨v,hv,hv0,hvk,hva,hvb,c1,c2⟩ | ⟨⟨l,m,d,r,s,c1⟩,⟨l',m',d',r',s',c2⟩⟩
  ·have c2:bg.pl29 F F R C (mk R C w.d) R (mk R R w.l) R R (mk R R w.m) C C (mk C C w.r) C (mk C C w.s) false k (IntKind.i64.wrap (k+1))=_:=c2
   rw [c2]
   simp only [c1,Option.bind_some,cond_false] at hI
   obtain ⟨b,d1,d2,hb⟩:=clear_both (F:=F) (A:=v.d) hR hC hF hk hkR hkC
   unfold s1 bg.pj1
   simp only [cond_false]
   rw [d2,Option.bind_some]
   simp only [d1,Option.bind_some] at hI
   cases b with
   | false=>
    right;left
    refine ⟨v,hv,hI g,rfl,λa h1 h2=>(hv0 a a h2 h2).trans (hpv a h1 h2),.inl ?_⟩
    have hn:¬ ((∀ a:Int,k<a->a<R->v.d a k=0)/\(∀ a:Int,k<a->a<C->v.d k a=0)):=λh=>by have:=hb.2 h;cases this
    rcases Classical.not_and_iff_not_or_not.1 hn with h | h
    ·obtain ⟨a,h⟩:=Classical.not_forall.1 h
     have h:=not_imp.1 h
     obtain ⟨h1,h⟩:=h
     obtain ⟨h2,h3⟩:=not_imp.1 h
     refine ⟨a,k,by omega,h2,by omega,hkC,h3,?_⟩
     have:=hva a h1 h2
     have g1:=Int.emod_nonneg (w.d a k) (Int.ne_of_gt hP)
     have g2:=Int.emod_lt_of_pos (w.d a k) hP
     unfold ab at *
     rw [if_neg (by omega)];omega
    ·obtain ⟨a,h⟩:=Classical.not_forall.1 h
     have h:=not_imp.1 h
     obtain ⟨h1,h⟩:=h
     obtain ⟨h2,h3⟩:=not_imp.1 h
     refine ⟨k,a,by omega,hkR,by omega,h2,h3,?_⟩
     have:=hvb a h1 h2
     have g1:=Int.emod_nonneg (w.d k a) (Int.ne_of_gt hP)
     have g2:=Int.emod_lt_of_pos (w.d k a) hP
     unfold ab at *
     rw [if_neg (by omega)];omega
   | true=>
    obtain ⟨z1,z2⟩:=hb.1 rfl
    obtain ⟨r,f1,f2,hr⟩:=odd_both (F:=F) (A:=v.d) hR hC hF hk hkR hkC (by rw [hvk];omega)
    simp only [Bool.not_true,cond_false]
    rw [f2,Option.bind_some]
    simp only [Bool.not_true,cond_false,f1,Option.bind_some] at hI
    rcases hr with rfl | ⟨r1,r2,b,r3,r4,r5⟩
    ·right;right
     refine ⟨v,hv,?_,rfl,by rw [hvk];exact hP,λa h1 h2=>(hv0 a a h2 h2).trans (hpv a h1 h2)⟩
     rw [hI g,show decide ((-1:Int)>=0)=false from rfl,cond_false,cj (by omega) (by omega)]
     rfl
    ·rw [decide_eq_false (show ¬ r<0 by omega),cond_false]
     simp only [decide_eq_true (show r>=0 by omega),cond_true] at hI
     obtain ⟨bad',t1,⟨x,y,z,t2,t3⟩,t4⟩:=row_both (q:=-1) hR hC hF hv hk hkR (by omega:0<=r) r2 (by omega) (by decide) (by decide)
     rw [show (- -1:Int)=1 from rfl] at *
     rw [t2,Option.bind_some]
     simp only [t1,Option.bind_some] at hI
     cases bad' with
     | true=>
      left
      refine ⟨?_,⟨_,_,_,_,_,rfl⟩⟩
      rw [hI (g+1)]
      unfold bv.pj6 bv.pj5
      exact ⟨_,_,_,_,_,ir_bad⟩
     | false=>
      obtain ⟨rfl,rfl,rfl⟩:=t3 rfl
      have t4:=t4 rfl
      right;left
      refine ⟨rowS v k r 1,rowS_good hv _ _ _,hI g,rfl,?_,.inr ⟨⟨?_,?_,?_⟩,?_⟩⟩
      all_goals
       have key:∀ b:Int,0<=b->b<C->(rowS v k r 1).d k b=v.d k b+v.d r b * 1:=by
        intro b h1 h2
        show adR v.d k r 1 k b=_
        unfold adR
        rw [if_pos rfl]
        apply ad_fit
        exact Classical.byContradiction λhh=>t4 ⟨b,h1,h2,hh⟩
       have oth:∀ a b,a≠k->(rowS v k r 1).d a b=v.d a b:=by
        intro a b h1
        show adR v.d k r 1 a b=_
        unfold adR
        rw [if_neg h1]
      ·exact λa h1 h2=>(oth a a (by omega)).trans ((hv0 a a h2 h2).trans (hpv a h1 h2))
      ·rw [key k hk hkC,hvk,z1 r r1 r2];omega
      ·intro a h1 h2
       rw [oth a k (by omega)]
       exact z1 a h1 h2
      ·refine ⟨b,r3,r4,?_⟩
       rw [key b (by omega) r4,z2 b r3 r4,<-hvk]
       rw [show 0+v.d r b * 1=v.d r b by omega]
       exact r5
      ·intro b h1 h2
       rw [<- hw,<-hvb b h1 h2]
       exact z2 b h1 h2
  ·left
   have c2:bg.pl29 F F R C (mk R C w.d) R (mk R R w.l) R R (mk R R w.m) C C (mk C C w.r) C (mk C C w.s) false k (IntKind.i64.wrap (k+1))=_:=c2
   rw [c2,hI (g+1),c1,Option.bind_some]
   unfold bv.pj4
   simp only [cond_true]
   exact ⟨⟨_,_,_,_,_,ir_bad⟩,⟨_,_,_,_,_,rfl⟩⟩
end Go.Proofs.Ytnkgeongfneafaa.AE
end
section
namespace Go.Proofs.Ytnkgeongfneafaa.AE
open Go Go.AE Go.Proofs
variable {R C F:Nat} {A:Mat} {i j k:Int}
abbrev sd (F:Nat) pC (g R C:Nat) (u:St) (k:Int):=bi.pl938 F pC g R C R C (mk R C u.d) R R (mk R R u.l) R R (mk R R u.m) C C (mk C C u.r) C C (mk C C u.s) false k false false
abbrev sO (F g R C:Nat) (u:St) (k:Int):=bi.pl29 F g R C R C (mk R C u.d) R R (mk R R u.l) R R (mk R R u.m) C C (mk C C u.r) C C (mk C C u.s) false k
def RBad (x:Option (List Int×List Int×List Int×List Int×List Int×Bool)):Prop:=∃ l m d r s,x=some (l,m,d,r,s,true)
def SBad (x:Option (Int×Int×List Int×Int×Int×List Int×Int×Int×List Int×Int×Int×List Int×Int×Int×List Int×Bool)):Prop:=∃ a1 a2 d a3 a4 l a5 a6 m a7 a8 r a9 a10 s,x=some (a1,a2,d,a3,a4,l,a5,a6,m,a7,a8,r,a9,a10,s,true)
theorem sd_bad {pC} {g:Nat} {l m d r s:List Int} {c1 c2 a1 a2 a3 a4 a5 a6 a7 a8 a9 a10 k:Int}:SBad (bi.pl938 F pC (g+1) c1 c2 a1 a2 d a3 a4 l a5 a6 m a7 a8 r a9 a10 s true k false false):=by
 rw [bi.pl938]
 exact ⟨_,_,_,_,_,_,_,_,_,_,_,_,_,_,_,rfl⟩
theorem inner_both (hR:R<=1000) (hC:C<=1000) (hF:5000000<F) (hk:0<=k) (hkR:k<R) (hkC:k<C) {pC}:∀ (m:Nat) (u:St) (g h:Nat),u.good R C->HasLt R C k u (m+1)->2 * m+3<=g->2 * m+3<=h ->
  (RBad (ir F g R C u false k)/\SBad (sd F pC h R C u k)) \/
  (∃ v:St,v.good R C/\0<v.d k k/\Same k u v/\∃ g',g<=g'+(2 * m+2)/\ir F g R C u false k=ir F g' R C v false (k+1)/\sd F pC h R C u k=pC R C R C (mk R C v.d) R R (mk R R v.l) R R (mk R R v.m) C C (mk C C v.r) C C (mk C C v.s) false (k+1)):=by
 intro m
 induction m using Nat.strongRecOn with
 | _ m ih=>
 intro u g h hu hlt hg hh
 have stepS:∀ (u:St) (h:Nat),sd F pC (h+1) R C u k=(sr F R C u k).bind λr2=>bi.pl938 F pC h R C R C r2.2.2.1 R R r2.2.2.2.1 R R r2.2.2.2.2.1 C C r2.2.2.2.2.2.1 C C r2.2.2.2.2.2.2.1 r2.2.2.2.2.2.2.2 k r2.1 r2.2.1:=by
  intro u h
  unfold sd
  rw [bi.pl938]
  rfl
 have done:∀ (v:St) (h:Nat),bi.pl938 F pC (h+1) R C R C (mk R C v.d) R R (mk R R v.l) R R (mk R R v.m) C C (mk C C v.r) C C (mk C C v.s) false k true false=pC R C R C (mk R C v.d) R R (mk R R v.l) R R (mk R R v.m) C C (mk C C v.r) C C (mk C C v.s) false (k+1):=by
  intro v h
  rw [bi.pl938]
  unfold bi.pj4 bi.pj3
  simp only [Bool.not_true,cond_false]
  rw [cj (by omega) (by omega)]
 obtain ⟨g,rfl⟩:∃ g',g=g'+3:=⟨g - 3,by omega⟩
 obtain ⟨h,rfl⟩:∃ g',h=g'+3:=⟨h - 3,by omega⟩
 rcases round_both hR hC hF hk hkR hkC hu (g+2) with ⟨h0,_,_⟩ | ⟨p,q,hs,hcase⟩
 ·obtain ⟨a,b,h1,h2,h3,h4,h5,_⟩:=hlt
  exact absurd (h0 a b h1 h2 h3 h4) h5
 ·have hP:0<ab (u.d p q):=ab_pos.2 hs.2.1
  have hPm:ab (u.d p q)<m+1:=by
   obtain ⟨a,b,h1,h2,h3,h4,h5,h6⟩:=hlt
   have:=(hs.2.2 a b ⟨h1,h3,h4,.inl h2⟩ h5).1
   omega
  generalize ab (u.d p q)=P at hP hPm hcase
  have rec_:∀ (v:St) (g h:Nat),v.good R C->HasLt R C k v P->2 * m+1<=g->2 * m+1<=h ->
    (RBad (ir F g R C v false k)/\SBad (sd F pC h R C v k)) \/
    (∃ w:St,w.good R C/\0<w.d k k/\Same k v w/\∃ g',g<=g'+2 * m/\ir F g R C v false k=ir F g' R C w false (k+1)/\sd F pC h R C v k=pC R C R C (mk R C w.d) R R (mk R R w.l) R R (mk R R w.m) C C (mk C C w.r) C C (mk C C w.s) false (k+1)):=by
   intro v g h hv hl hg hh
   rcases ih (P.toNat - 1) (by omega) v g h hv (by rw [show (((P.toNat - 1:Nat):Int)+1)=P by omega];exact hl) (by omega) (by omega) with hb | ⟨w,hw,hw0,hw1,g',h1,h2,h3⟩
   ·exact .inl hb
   ·exact .inr ⟨w,hw,hw0,hw1,g',by omega,h2,h3⟩
  rcases hcase with ⟨⟨l,m',d,r,s,e1⟩,⟨l',m'',d',r',s',e2⟩⟩ | ⟨v,hv,e1,e2,hsm,hprog⟩ | ⟨v,hv,e1,e2,hpos,hsm⟩
  ·left
   refine ⟨?_,?_⟩
   ·rcases round_both hR hC hF hk hkR hkC hu (g+1) with ⟨h0,_,_⟩ | ⟨p1,q1,hs1,hcase⟩
    ·obtain ⟨a,b,h1,h2,h3,h4,h5,_⟩:=hlt
     exact absurd (h0 a b h1 h2 h3 h4) h5
    ·rcases hcase with ⟨⟨l,m',d,r,s,e1⟩,_⟩ | ⟨v,hv,_,e3,_⟩ | ⟨v,hv,_,e3,_⟩
     ·exact ⟨_,_,_,_,_,e1⟩
     ·rw [e2] at e3;simp at e3
     ·rw [e2] at e3;simp at e3
   ·rw [stepS,e2,Option.bind_some]
    exact sd_bad
  ·rw [e1,stepS,e2,Option.bind_some]
   rcases hprog with hl | ⟨⟨k1,k2,b,k3,k4,k5⟩,_⟩
   ·rcases rec_ v (g+2) (h+2) hv hl (by omega) (by omega) with hb | ⟨w,hw,hw0,hw1,g',h1,h2,h3⟩
    ·exact .inl hb
    ·exact .inr ⟨w,hw,hw0,λa h1 h2=>(hw1 a h1 h2).trans (hsm a h1 h2),g',by omega,h2,h3⟩
   ·by_cases hl:HasLt R C k v P
    ·rcases rec_ v (g+2) (h+2) hv hl (by omega) (by omega) with hb | ⟨w,hw,hw0,hw1,g',h1,h2,h3⟩
     ·exact .inl hb
     ·exact .inr ⟨w,hw,hw0,λa h1 h2=>(hw1 a h1 h2).trans (hsm a h1 h2),g',by omega,h2,h3⟩
    ·have hkk:v.d k k≠0:=by omega
     have abP:ab P=P:=by unfold ab;rw [if_neg (by omega)]
     rcases round_both hR hC hF hk hkR hkC hv (g+1) with ⟨h0,_,_⟩ | ⟨p1,q1,hs1,hcase⟩
     ·exact absurd (h0 k k (by omega) hkR (by omega) hkC) hkk
     ·obtain ⟨s1,s2,s3⟩:=hs1
      obtain ⟨t1,t2,t3,t4⟩:=s1
      have hkk3:=s3 k k ⟨by omega,by omega,hkC,.inl hkR⟩ hkk
      have hge:¬ ab (v.d p1 q1)<P:=λhh=>hl ⟨p1,q1,t1,by omega,t2,t3,s2,hh⟩
      have hpq:p1=k/\q1=k:=by
       refine Classical.byContradiction λhne=>?_
       have:=hkk3.2 (by omega)
       rw [k1,abP] at this
       exact hge this
      obtain ⟨hp1,hq1⟩:=hpq
      rw [hp1,hq1] at hcase
      have hPP:ab (v.d k k)=P:=by rw [k1,abP]
      rw [hPP] at hcase
      have hpv:pvS v k k k=swS v k k k:=by
       unfold pvS
       rw [if_neg]
       show ¬ swC (swR v.d k k) k k k k<0
       unfold swC swR sw
       simp only [if_true]
       omega
      rcases hcase with ⟨⟨l,m',d,r,s,f1⟩,⟨l',m'',d',r',s',f2⟩⟩ | ⟨w,hw,f1,f2,hsm2,hprog⟩ | ⟨w,hw,f1,f2,hpos2,hsm2⟩
      ·left
       refine ⟨?_,?_⟩
       ·rcases round_both hR hC hF hk hkR hkC hv g with ⟨h0,_,_⟩ | ⟨p2,q2,hs1,hcase⟩
        ·exact absurd (h0 _ _ (by omega) hkR (by omega) hkC) hkk
        ·rcases hcase with ⟨⟨l,m',d,r,s,e1⟩,_⟩ | ⟨v,hv,_,e3,_⟩ | ⟨v,hv,_,e3,_⟩
         ·exact ⟨_,_,_,_,_,e1⟩
         ·rw [f2] at e3;simp at e3
         ·rw [f2] at e3;simp at e3
       ·show SBad (sd F pC (h+1+1) R C v k)
        rw [stepS,f2,Option.bind_some]
        exact sd_bad
      ·rcases hprog with hl2 | ⟨_,hz⟩
       ·have hx:sd F pC (h+2) R C v k=sd F pC (h+1) R C w k:=by
         show sd F pC (h+1+1) R C v k=_
         rw [stepS,f2,Option.bind_some]
        rcases rec_ w (g+1) (h+1) hw hl2 (by omega) (by omega) with hb | ⟨x,hx',hx0,hx1,g',h1,h2,h3⟩
        ·left
         refine ⟨?_,?_⟩
         ·show RBad (ir F (g+1+1) R C v false k)
          rw [f1];exact hb.1
         ·show SBad (sd F pC (h+2) R C v k)
          rw [hx];exact hb.2
        ·right
         refine ⟨x,hx',hx0,λa h1 h2=>(hx1 a h1 h2).trans ((hsm2 a h1 h2).trans (hsm a h1 h2)),g',by omega,?_,?_⟩
         ·exact f1.trans h2
         ·exact hx.trans h3
       ·exfalso
        have:=hz b k3 k4
        rw [hpv] at this
        have e:(swS v k k k).d k b=v.d k b:=by
         show swC (swR v.d k k) k k k b=_
         unfold swC swR sw
         grind
        rw [e] at this
        exact k5 (Int.tmod_eq_zero_of_dvd (Int.dvd_of_emod_eq_zero this))
      ·right
       refine ⟨w,hw,hpos2,λa h1 h2=>(hsm2 a h1 h2).trans (hsm a h1 h2),g+1,by omega,f1,?_⟩
       show sd F pC (h+1+1) R C v k=_
       rw [stepS,f2,Option.bind_some]
       exact done w h
  ·right
   refine ⟨v,hv,hpos,hsm,g+2,by omega,e1,?_⟩
   rw [stepS,e2,Option.bind_some]
   exact done v (h+1)
theorem run_both (hR:R<=1000) (hC:C<=1000) (hF:2000000000100<=F):∀ (n:Nat) (k:Int) (u:St) (g h:Nat),u.good R C->0<=k->(if (C:Int)<R then (C:Int) else R) - k=n->n * 2000000000100+1<=g->n+1<=h ->
  (RBad (ir F g R C u false k)/\SBad (sO F h R C u k)) \/
  (∃ v:St,v.good R C/\Same k u v/\(∀ a:Int,k<=a->a<R->a<C->0<=v.d a a)/\ir F g R C u false k=some (mk R R v.l,mk R R v.m,mk R C v.d,mk C C v.r,mk C C v.s,false) /\
   sO F h R C u k=some ((R:Int),(C:Int),mk R C v.d,(R:Int),(R:Int),mk R R v.l,(R:Int),(R:Int),mk R R v.m,(C:Int),(C:Int),mk C C v.r,(C:Int),(C:Int),mk C C v.s,false)):=by
 intro n
 induction n with
 | zero=>
  intro k u g h hu hk hn hg hh
  obtain ⟨g,rfl⟩:∃ g',g=g'+1:=⟨g - 1,by omega⟩
  obtain ⟨h,rfl⟩:∃ g',h=g'+1:=⟨h - 1,by omega⟩
  right
  refine ⟨u,hu,λ_ _ _=>rfl,λa h1 h2 h3=>by split at hn <;> omega,?_,?_⟩
  ·unfold ir
   rw [bv.pl3,decide_eq_false (by omega)]
   rfl
  ·unfold sO
   rw [bi.pl29,decide_eq_false (by omega)]
   rfl
 | succ n ih=>
  intro k u g h hu hk hn hg hh
  obtain ⟨g,rfl⟩:∃ g',g=g'+1:=⟨g - 1,by omega⟩
  obtain ⟨h,rfl⟩:∃ g',h=g'+1:=⟨h - 1,by omega⟩
  have hkC:k<C:=by split at hn <;> omega
  have hkR:k<R:=by split at hn <;> omega
  have hS:sO F (h+1) R C u k=sd F (bi.pl29 F h) F R C u k:=by
   unfold sO sd
   rw [bi.pl29,decide_eq_true (by omega),cond_true]
  rw [hS]
  by_cases hz:∀ a b,k<=a->a<R->k<=b->b<C->u.d a b=0
  ·rcases round_both (F:=F) hR hC (by omega) hk hkR hkC hu g with ⟨h0,e1,e2⟩ | ⟨p1,q1,⟨⟨t1,t2,t3,t4⟩,s2,s3⟩,hcase⟩
   ·right
    refine ⟨u,hu,λ_ _ _=>rfl,λa h1 h2 h3=>by rw [hz a a h1 h2 h1 h3];omega,e1,?_⟩
    obtain ⟨f,rfl⟩:∃ g',F=g'+2:=⟨F - 2,by omega⟩
    unfold sd
    rw [bi.pl938]
    simp only [Bool.not_false,cond_true]
    have e2:bg.p (f+2) R C (mk R C u.d) R (mk R R u.l) R R (mk R R u.m) C C (mk C C u.r) C (mk C C u.s) false k=_:=e2
    rw [e2,Option.bind_some]
    rw [bi.pl938]
    rfl
   ·exact absurd (hz p1 q1 t1 (by omega) t2 t3) s2
  ·obtain ⟨M,hM⟩:∃ M:Nat,M=1000000000000:=⟨_,rfl⟩
   have hl:HasLt R C k u ((M:Int)+1):=by
    refine Classical.byContradiction λhne=>hz λa b h1 h2 h3 h4=>?_
    refine Classical.byContradiction λh5=>hne ⟨a,b,h1,h2,h3,h4,h5,?_⟩
    have:=hu.1.ab (i:=a) (j:=b) (by omega) h2 (by omega) h4
    omega
   rcases inner_both (F:=F) (pC:=bi.pl29 F h) hR hC (by omega) hk hkR hkC M u (g+1) F hu hl (by omega) (by omega) with ⟨hb1,hb2⟩ | ⟨v,hv,hv0,hv1,g',h1,h2,h3⟩
   ·exact .inl ⟨hb1,hb2⟩
   ·rw [h2,h3]
    have q1:n * 2000000000100+1<=g':=by
     rw [Nat.succ_mul] at hg
     generalize n * 2000000000100=N at *
     omega
    have q2:(if (C:Int)<R then (C:Int) else R) - (k+1)=n:=by omega
    have q3:n+1<=h:=by omega
    rcases ih (k+1) v g' h hv (by omega) q2 q1 q3 with hb | ⟨w,hw,hw1,hw2,e⟩
    ·exact .inl hb
    ·refine .inr ⟨w,hw,λa h1 h2=>(hw1 a h1 (by omega)).trans (hv1 a h1 h2),λa h1 h2 h3=>?_,e⟩
     by_cases ea:a=k
     ·subst ea;rw [hw1 a hk (by omega)];omega
     ·exact hw2 a (by omega) h2 h3
end Go.Proofs.Ytnkgeongfneafaa.AE
end
section
namespace Go.Proofs.Ytnkgeongfneafaa.AE
open Go Go.AE Go.Proofs
variable {R C F:Nat} {A:Mat} {i j k:Int}
theorem gt_set_eq {l:List Int} {n:Nat} {x:Int} (h:n<l.length):gt (l.set n x) n=x:=by
 unfold gt;rw [List.getD_eq_getElem?_getD,List.getElem?_set_self h];rfl
theorem gt_set_ne {l:List Int} {n m:Nat} {x:Int} (h:n≠m):gt (l.set n x) m=gt l m:=by
 unfold gt;rw [List.getD_eq_getElem?_getD,List.getD_eq_getElem?_getD,List.getElem?_set_ne h]
theorem ext_gt {l m:List Int} (h:l.length=m.length) (hh:∀ n:Nat,n<l.length->gt l n=gt m n):l=m:=by
 apply List.ext_getElem?
 intro n
 by_cases hn:n<l.length
 ·rw [rQ hn,rQ (by omega),hh n hn]
 ·rw [List.getElem?_eq_none (by omega),List.getElem?_eq_none (by omega)]
theorem ix_of {l:List Int} (h0:0<=i) (h:i<l.length):ix l i=some i.toNat:=by
 unfold ix;rw [if_pos ⟨h0,h⟩]
theorem toInt_l {l:List Int} (hl:l.length<=2000000):∀ (n g:Nat) (m:List Int) (i:Int),l.length - i=n->n<g->0<=i->m.length=l.length->(∀ a:Nat,(a:Int)<i->gt m a=gt l a) ->
  dN.pl29 F g l m i=some l:=by
 intro n
 induction n with
 | zero=>
  intro g m i hn hg hi hm hh
  obtain ⟨g,rfl⟩:∃ g',g=g'+1:=⟨g - 1,by omega⟩
  rw [dN.pl29,decide_eq_false (by omega),cond_false]
  rw [ext_gt hm (λa h=>hh a (by omega))]
 | succ n ih=>
  intro g m i hn hg hi hm hh
  obtain ⟨g,rfl⟩:∃ g',g=g'+1:=⟨g - 1,by omega⟩
  rw [dN.pl29,decide_eq_true (by omega),cond_true,ix_of hi (by omega),ix_of hi (by omega),Option.bind_some,Option.bind_some,Option.bind_some,cj (by omega) (by omega)]
  refine ih g _ (i+1) (by omega) (by omega) (by omega) (by rw [List.length_set];exact hm) λa ha=>?_
  by_cases e:a=i.toNat
  ·subst e;exact gt_set_eq (by omega)
  ·rw [gt_set_ne (Ne.symm e)];exact hh a (by omega)
theorem toInt {l:List Int} (hF:5000000<F) (hl:l.length<=2000000):dN.p F l=some l:=by
 unfold dN.p mkn
 rw [if_pos (by omega),Option.bind_some,toInt_l hl l.length F _ 0 (by omega) (by omega) (by omega) (by simp) (λa h=>by omega)]
theorem eqInt_l {l:List Int} (hl:l.length<=2000000):∀ (n g:Nat) (i:Int),l.length - i=n->n<g->0<=i->dK.pl29 F g l l i=some true:=by
 intro n
 induction n with
 | zero=>
  intro g i hn hg hi
  obtain ⟨g,rfl⟩:∃ g',g=g'+1:=⟨g - 1,by omega⟩
  rw [dK.pl29,decide_eq_false (by omega),cond_false]
 | succ n ih=>
  intro g i hn hg hi
  obtain ⟨g,rfl⟩:∃ g',g=g'+1:=⟨g - 1,by omega⟩
  rw [dK.pl29,decide_eq_true (by omega),cond_true,ix_of hi (by omega),Option.bind_some,Option.bind_some,bne_self_eq_false,cond_false,cj (by omega) (by omega)]
  exact ih g (i+1) (by omega) (by omega) (by omega)
theorem eqInt {l:List Int} (hF:5000000<F) (hl:l.length<=2000000):dK.p F l l=some true:=by
 unfold dK.p
 rw [bne_self_eq_false,cond_false]
 exact eqInt_l hl l.length F 0 (by omega) (by omega) (by omega)
def InR (x a b:Int):Prop:=a<=x/\x<=b
instance (x a b:Int):Decidable (InR x a b):=by unfold InR;infer_instance
theorem Gq {x a b:Int}:gU.p F x a b=some (decide (InR x a b)):=by
 unfold gU.p InR
 by_cases h:x>=a
 ·rw [decide_eq_true h,cond_true];congr 1;simp only [ge_iff_le] at h;simp [h]
 ·rw [decide_eq_false h,cond_false];congr 1;simp only [ge_iff_le] at h;simp [h]
theorem Gr {x a b:Int}:gV.p F x a b=some (decide (InR x a b)):=by
 unfold gV.p InR
 by_cases h:a<=x
 ·rw [decide_eq_true h,cond_true];congr 1;simp [h]
 ·rw [decide_eq_false h,cond_false];congr 1;simp [h]
end Go.Proofs.Ytnkgeongfneafaa.AE
end
section
namespace Go.Proofs.Ytnkgeongfneafaa.AE
open Go Go.AE Go.Proofs
variable {R C F:Nat} {A:Mat} {i j k:Int}
def idM:Mat:=λa b=>if a=b then 1 else 0
theorem idM_bd {n:Nat}:Bd n n idM:=by
 intro a b _ _ _ _
 unfold idM;split <;> decide
theorem one_l {n:Nat} (hn:n<=1000):∀ (m g:Nat) (A:Mat) (i:Int),n - i=m->m<g->0<=i->(∀ a b:Int,0<=a->a<n->0<=b->b<n->A a b=if a<i then idM a b else 0) ->
  dc.pl29 F g n n n (mk n n A) i=some ((n:Int),(n:Int),mk n n idM):=by
 intro m
 induction m with
 | zero=>
  intro g A i hm hg hi hA
  obtain ⟨g,rfl⟩:∃ g',g=g'+1:=⟨g - 1,by omega⟩
  rw [dc.pl29,decide_eq_false (by omega),cond_false]
  rw [fN (A:=A) (B:=idM) (λa b h1 h2 h3 h4=>by rw [hA a b h1 h2 h3 h4,if_pos (by omega)])]
 | succ m ih=>
  intro g A i hm hg hi hA
  obtain ⟨g,rfl⟩:∃ g',g=g'+1:=⟨g - 1,by omega⟩
  rw [dc.pl29,decide_eq_true (by omega),cond_true]
  simp (disch:=omega) only [jI,mP,Option.bind_some,cj]
  refine ih g _ (i+1) (by omega) (by omega) (by omega) λa b h1 h2 h3 h4=>?_
  have:=hA a b h1 h2 h3 h4
  unfold upd idM at *
  grind
theorem mk_zero (n m:Nat):List.replicate (n * m) (0:Int)=mk n m λ_ _=>0:=by
 apply List.ext_getElem
 ·rw [nj,List.length_replicate]
 ·intro a h1 h2
  simp [mk]
theorem Gs {n:Nat} (hn:n<=1000) (hF:5000000<F):dc.p F n=some ((n:Int),(n:Int),mk n n idM):=by
 have hm:n * n<=1000 * 1000:=Nat.mul_le_mul hn hn
 unfold dc.p fZ.p mkn
 rw [<- Int.natCast_mul,cj (by omega) (by omega),if_pos (by omega),Option.bind_some,Option.bind_some,Int.toNat_natCast,mk_zero]
 exact one_l hn n F _ 0 (by omega) (by omega) (by omega) λa b h1 _ _ _=>by rw [if_neg (by omega)]
theorem id_l {n:Nat} (hn:n<=1000):∀ (m g:Nat) (A:Mat) (i:Int),n - i=m->m<g->0<=i->(∀ a b:Int,0<=a->a<n->0<=b->b<n->A a b=if a<i then idM a b else 0) ->
  dn.pl29 F g n n (mk n n A) n i=some ((n:Int),(n:Int),mk n n idM):=by
 intro m
 induction m with
 | zero=>
  intro g A i hm hg hi hA
  obtain ⟨g,rfl⟩:∃ g',g=g'+1:=⟨g - 1,by omega⟩
  rw [dn.pl29,decide_eq_false (by omega),cond_false]
  rw [fN (A:=A) (B:=idM) (λa b h1 h2 h3 h4=>by rw [hA a b h1 h2 h3 h4,if_pos (by omega)])]
 | succ m ih=>
  intro g A i hm hg hi hA
  obtain ⟨g,rfl⟩:∃ g',g=g'+1:=⟨g - 1,by omega⟩
  rw [dn.pl29,decide_eq_true (by omega),cond_true]
  simp (disch:=omega) only [jI,mP,Option.bind_some,cj]
  refine ih g _ (i+1) (by omega) (by omega) (by omega) λa b h1 h2 h3 h4=>?_
  have:=hA a b h1 h2 h3 h4
  unfold upd idM at *
  grind
theorem Gt {n:Nat} (hn:n<=1000) (hF:5000000<F):dn.p F n=some ((n:Int),(n:Int),mk n n idM):=by
 have hm:n * n<=1000 * 1000:=Nat.mul_le_mul hn hn
 unfold dn.p ga.p mkn
 rw [<- Int.natCast_mul,cj (by omega) (by omega),if_pos (by omega),Option.bind_some,Option.bind_some,Int.toNat_natCast,mk_zero]
 exact id_l hn n F _ 0 (by omega) (by omega) (by omega) λa b h1 _ _ _=>by rw [if_neg (by omega)]
theorem smith_both (hR:R<=48) (hC:C<=48) (hF:1000000000000000<=F) (hb:Bd R C A) :
  (gQ.p F R C (mk R C A)=some (0,0,([]:List Int),0,0,([]:List Int),0,0,([]:List Int),0,0,([]:List Int),0,0,([]:List Int),3)/\SBad (bi.p F R C (mk R C A))) \/
  (∃ v:St,v.good R C/\(∀ a:Int,0<=a->a<R->a<C->0<=v.d a a)/\gQ.p F R C (mk R C A)=some ((R:Int),(R:Int),mk R R v.l,(R:Int),(R:Int),mk R R v.m,(R:Int),(C:Int),mk R C v.d,(C:Int),(C:Int),mk C C v.r,(C:Int),(C:Int),mk C C v.s,0) /\
   bi.p F R C (mk R C A)=some ((R:Int),(C:Int),mk R C v.d,(R:Int),(R:Int),mk R R v.l,(R:Int),(R:Int),mk R R v.m,(C:Int),(C:Int),mk C C v.r,(C:Int),(C:Int),mk C C v.s,false)):=by
 have hm:R * C<=48 * 48:=Nat.mul_le_mul hR hC
 unfold gQ.p bi.p io.p iZ.p apn bv.p
 rw [if_pos (by rw [nj];simp;omega),List.nil_append,Gs (by omega) (by omega),Gs (by omega) (by omega),Gt (by omega) (by omega),Gt (by omega) (by omega)]
 simp only [Option.bind_some]
 obtain ⟨n,hn⟩:∃ n:Nat,(if (C:Int)<R then (C:Int) else R) - 0=n:=⟨(if (C:Int)<R then (C:Int) else R).toNat,by split <;> omega⟩
 have hn48:n<=48:=by split at hn <;> omega
 have q1:n * 2000000000100+1<=F:=by omega
 rcases run_both (F:=F) (R:=R) (C:=C) (by omega) (by omega) (by omega) n 0 ⟨A,idM,idM,idM,idM⟩ F F ⟨hb,idM_bd,idM_bd,idM_bd,idM_bd⟩ (by omega) hn q1 (by omega) with ⟨⟨l,m,d,r,s,e1⟩,e2⟩ | ⟨v,hv,_,hv2,e1,e2⟩
 ·left
  have e1:bv.pl3 F F R (mk R R idM) R R (mk R R idM) R C (mk R C A) C C (mk C C idM) C (mk C C idM) false 0=_:=e1
  rw [e1]
  exact ⟨rfl,e2⟩
 ·right
  have e1:bv.pl3 F F R (mk R R idM) R R (mk R R idM) R C (mk R C A) C C (mk C C idM) C (mk C C idM) false 0=_:=e1
  rw [e1]
  exact ⟨v,hv,λa h1 h2 h3=>hv2 a h1 h2 h3,rfl,e2⟩
end Go.Proofs.Ytnkgeongfneafaa.AE
end
section
namespace Go.Proofs.Ytnkgeongfneafaa.AE
open Go Go.AE Go.Proofs
variable {R C F:Nat} {A:Mat} {i j k:Int}
theorem fac_l (hR:R<=48) (hC:C<=48) (hpos:∀ a:Int,0<=a->a<R->a<C->0<=A a a) {n0:Int} (hn:n0=if (C:Int)<R then (C:Int) else R):∀ (m g h:Nat) (x:List Int) (i:Int),n0 - i=m->m<g->m<h->0<=i->x.length<=i->(∀ d∈x,0<d) ->
  ∃ y,y.length<=48/\(∀ d∈y,0<d)/\cz.pl125 F g C (mk R C A) x n0 i=some (y,0)/\bP.pl61 F h R C C (mk R C A) false x i=some (y,true):=by
 intro m
 induction m with
 | zero=>
  intro g h x i hm hg hh hi hx hd
  obtain ⟨g,rfl⟩:∃ g',g=g'+1:=⟨g - 1,by omega⟩
  obtain ⟨h,rfl⟩:∃ g',h=g'+1:=⟨h - 1,by omega⟩
  have h48:n0<=48:=by rw [hn];split <;> omega
  rw [cz.pl125,bP.pl61,<-hn,decide_eq_false (by omega),cond_false,cond_false]
  exact ⟨x,by omega,hd,rfl,rfl⟩
 | succ m ih=>
  intro g h x i hm hg hh hi hx hd
  obtain ⟨g,rfl⟩:∃ g',g=g'+1:=⟨g - 1,by omega⟩
  obtain ⟨h,rfl⟩:∃ g',h=g'+1:=⟨h - 1,by omega⟩
  have h48:n0<=C/\n0<=R:=by rw [hn];split <;> omega
  rw [cz.pl125,bP.pl61,<-hn,decide_eq_true (by omega),cond_true,cond_true,Bool.not_false,cond_true]
  simp (disch:=omega) only [at_mk,jI,li,Option.bind_some]
  unfold cz.pj2 bP.pj3
  rw [cj (by omega) (by omega)]
  by_cases h0:A i i=0
  ·rw [h0,show ((0:Int) != 0)=false from rfl,cond_false,cond_false]
   exact ih g h x (i+1) (by omega) (by omega) (by omega) (by omega) (by omega) hd
  ·rw [show (A i i != 0)=true from bne_iff_ne.2 h0,cond_true,cond_true]
   unfold apn
   rw [if_pos (by simp;omega),Option.bind_some]
   refine ih g h (x++[A i i]) (i+1) (by omega) (by omega) (by omega) (by omega) (by simp;omega) λd hd'=>?_
   rcases List.mem_append.1 hd' with q | q
   ·exact hd d q
   ·obtain rfl:=List.mem_singleton.1 q
    have:=hpos i hi (by omega) (by omega);omega
theorem factors_both (hR:R<=48) (hC:C<=48) (hF:1000000000000000<=F) (hb:Bd R C A) :
  (cz.p F R C (mk R C A)=some ([],3)/\bP.p F R C (mk R C A)=some ([],false)) \/
  (∃ y,y.length<=48/\(∀ d∈y,0<d)/\cz.p F R C (mk R C A)=some (y,0)/\bP.p F R C (mk R C A)=some (y,true)):=by
 unfold cz.p bP.p
 rcases smith_both hR hC hF hb with ⟨e1,⟨a1,a2,d,a3,a4,l,a5,a6,m,a7,a8,r,a9,a10,s,e2⟩⟩ | ⟨v,hv,hv2,e1,e2⟩
 ·left
  rw [e1,e2]
  refine ⟨rfl,?_⟩
  rw [Option.bind_some]
  obtain ⟨f,rfl⟩:∃ f,F=f+1:=⟨F - 1,by omega⟩
  rw [bP.pl61]
  generalize decide ((0:Int)<(if (C:Int)<R then (C:Int) else R))=b
  cases b <;> rfl
 ·right
  rw [e1,e2]
  simp only [Option.bind_some]
  rw [show ((0:Int) != 0)=false from rfl,cond_false]
  exact fac_l hR hC hv2 rfl (if (C:Int)<R then (C:Int) else R).toNat F F [] 0 (by split <;> omega) (by split <;> omega) (by split <;> omega) (by omega) (by simp) (by simp)
end Go.Proofs.Ytnkgeongfneafaa.AE
end
section
namespace Go.Proofs.Ytnkgeongfneafaa.AE
open Go Go.AE Go.Proofs
variable {R C F:Nat} {A:Mat} {i j k:Int}
def Cnt (l:List Int) (k:Int):Prop:=∀ n:Nat,n<l.length->gt l n=k+n
theorem mark_l:∀ (n g:Nat) (l:List Int) (i k:Int),l.length<=2000000->l.length - i=n->n<g->0<=i->0<=k->k<=100000000 ->
  ∃ l',dO.pl13 F g l (k+i) i=some (k+l.length,l')/\l'.length=l.length/\(∀ a:Nat,(a:Int)<i->gt l' a=gt l a)/\(∀ a:Nat,i<=a->a<l.length->gt l' a=k+a):=by
 intro n
 induction n with
 | zero=>
  intro g l i k hl hn hg hi hk hk2
  obtain ⟨g,rfl⟩:∃ g',g=g'+1:=⟨g - 1,by omega⟩
  rw [dO.pl13,decide_eq_false (by omega),cond_false]
  refine ⟨l,?_,rfl,λ_ _=>rfl,λa h1 h2=>by omega⟩
  rw [show (l.length:Int)=i by omega]
 | succ n ih=>
  intro g l i k hl hn hg hi hk hk2
  obtain ⟨g,rfl⟩:∃ g',g=g'+1:=⟨g - 1,by omega⟩
  rw [dO.pl13,decide_eq_true (by omega),cond_true,ix_of hi (by omega),Option.bind_some,Option.bind_some,cj (x:=k+i+1) (by omega) (by omega),cj (by omega) (by omega),Int.add_assoc]
  obtain ⟨l',e1,e2,e3,e4⟩:=ih g (l.set i.toNat (k+i)) (i+1) k (by rw [List.length_set];exact hl) (by rw [List.length_set];omega) (by omega) (by omega) hk hk2
  rw [List.length_set] at e1 e2 e4
  refine ⟨l',e1,e2,λa h=>?_,λa h1 h2=>?_⟩
  ·rw [e3 a (by omega),gt_set_ne (by omega)]
  ·by_cases e:a=i.toNat
   ·rw [e3 a (by omega),e,gt_set_eq (by omega)];omega
   ·exact e4 a (by omega) h2
theorem mark {l:List Int} (hF:5000000<F) (hl:l.length<=2000000) (hk:0<=k) (hk2:k<=100000000) :
  ∃ l',dO.p F l k=some (k+l.length,l')/\l'.length=l.length/\Cnt l' k:=by
 obtain ⟨l',e1,e2,e3,e4⟩:=mark_l (F:=F) l.length F l 0 k hl (by omega) (by omega) (by omega) hk hk2
 unfold dO.p
 rw [Int.add_zero] at e1
 exact ⟨l',e1,e2,λn hn=>e4 n (by omega) (by omega)⟩
theorem held_l {l:List Int} (hl:l.length<=2000000) (hk:0<=k) (hk2:k<=100000000) (hc:Cnt l k):∀ (n g:Nat) (i:Int),l.length - i=n->n<g->0<=i ->
  dP.pl13 F g l (k+i) i=some (k+l.length):=by
 intro n
 induction n with
 | zero=>
  intro g i hn hg hi
  obtain ⟨g,rfl⟩:∃ g',g=g'+1:=⟨g - 1,by omega⟩
  rw [dP.pl13,decide_eq_false (by omega),cond_false,show (l.length:Int)=i by omega]
 | succ n ih=>
  intro g i hn hg hi
  obtain ⟨g,rfl⟩:∃ g',g=g'+1:=⟨g - 1,by omega⟩
  rw [dP.pl13,decide_eq_true (by omega),cond_true,ix_of hi (by omega),Option.bind_some,hc i.toNat (by omega),Int.toNat_of_nonneg hi,bne_self_eq_false,cond_false,cj (x:=k+i+1) (by omega) (by omega),cj (by omega) (by omega),Int.add_assoc]
  exact ih g (i+1) (by omega) (by omega) (by omega)
theorem held {l:List Int} (hF:5000000<F) (hl:l.length<=2000000) (hk:0<=k) (hk2:k<=100000000) (hc:Cnt l k):dP.p F l k=some (k+l.length):=by
 unfold dP.p
 have:=held_l (F:=F) hl hk hk2 hc l.length F 0 (by omega) (by omega) (by omega)
 rw [Int.add_zero] at this
 exact this
end Go.Proofs.Ytnkgeongfneafaa.AE
end
section
namespace Go.Proofs.Ytnkgeongfneafaa.AE
open Go Go.AE Go.Proofs
variable {R C F:Nat} {A:Mat} {i j k:Int}
def tor (l:List Int):List Int:=l.filter λx=>x != 1
theorem gt_at {l:List Int} {n:Nat} {x:Int} (h:l[n]?=some x):gt l n=x:=by
 unfold gt
 obtain ⟨hn,e⟩:=List.getElem?_eq_some_iff.1 h
 simp [h]
theorem ix_nat {α:Type} {l:List α} {n:Nat} (h:n<l.length):ix l (n:Int)=some n:=by
 unfold ix;rw [if_pos ⟨by omega,by omega⟩];rfl
theorem Ml {l:List Int} (hl:l.length<=1000) (hp:∀ d∈l,0<d):∀ (m g:Nat) (x:List Int) (n:Nat),l.length - n=m->m<g->x.length<=n->n<=l.length ->
  cG.pl29 F g l x (n:Int)=some (x++tor (l.drop n)):=by
 intro m
 induction m with
 | zero=>
  intro g x n hm hg hx hn
  obtain ⟨g,rfl⟩:∃ g',g=g'+1:=⟨g - 1,by omega⟩
  rw [cG.pl29,decide_eq_false (by omega),cond_false,List.drop_eq_nil_of_le (by omega)]
  simp [tor]
 | succ m ih=>
  intro g x n hm hg hx hn
  obtain ⟨g,rfl⟩:∃ g',g=g'+1:=⟨g - 1,by omega⟩
  have hn':n<l.length:=by omega
  have hd:l.drop n=l[n] :: l.drop (n+1):=List.drop_eq_getElem_cons hn'
  have hg1:gt l n=l[n]:=gt_at (List.getElem?_eq_getElem hn')
  have hpos:=hp l[n] (List.getElem_mem hn')
  rw [cG.pl29,decide_eq_true (by omega),cond_true,ix_nat hn',Option.bind_some,Option.bind_some,hg1]
  unfold cG.pj2
  rw [cj (by omega) (by omega),hd]
  by_cases h:l[n]>1
  ·rw [decide_eq_true h,cond_true]
   unfold apn
   rw [if_pos (by simp;omega),Option.bind_some]
   have:=ih g (x++[l[n]]) (n+1) (by omega) (by omega) (by simp;omega) (by omega)
   rw [show ((n:Int)+1)=((n+1:Nat):Int) by omega,this]
   simp only [tor,List.filter_cons]
   rw [if_pos (by simp;omega),List.append_assoc];rfl
  ·rw [decide_eq_false h,cond_false]
   have:=ih g x (n+1) (by omega) (by omega) (by omega) (by omega)
   rw [show ((n:Int)+1)=((n+1:Nat):Int) by omega,this]
   simp only [tor,List.filter_cons]
   rw [if_neg (by simp;omega)]
theorem Mm {l:List Int} (hF:5000<F) (hl:l.length<=1000) (hp:∀ d∈l,0<d):cG.p F l=some (tor l):=by
 unfold cG.p
 rw [show (0:Int)=((0:Nat):Int) from rfl,Ml hl hp l.length F [] 0 (by omega) (by omega) (by simp) (by omega)]
 simp
theorem find_l {l:List Int} (hl:l.length<=1000):∀ (m g:Nat) (n:Nat),l.length - n=m->m<g->n<=l.length ->
  (dE.pl13 F g l l.length (n:Int)=some (-1)/\∀ d∈l.drop n,d≠1) \/
  ∃ r:Nat,dE.pl13 F g l l.length (n:Int)=some (r:Int)/\n<=r/\r<l.length/\gt l r=1/\∀ d∈(l.take r).drop n,d≠1:=by
 intro m
 induction m with
 | zero=>
  intro g n hm hg hn
  obtain ⟨g,rfl⟩:∃ g',g=g'+1:=⟨g - 1,by omega⟩
  left
  rw [dE.pl13,decide_eq_false (by omega),cond_false,List.drop_eq_nil_of_le (by omega)]
  exact ⟨rfl,by simp⟩
 | succ m ih=>
  intro g n hm hg hn
  obtain ⟨g,rfl⟩:∃ g',g=g'+1:=⟨g - 1,by omega⟩
  have hn':n<l.length:=by omega
  have hd:l.drop n=l[n] :: l.drop (n+1):=List.drop_eq_getElem_cons hn'
  have hg1:gt l n=l[n]:=gt_at (List.getElem?_eq_getElem hn')
  rw [dE.pl13,decide_eq_true (by omega),cond_true,ix_nat hn',Option.bind_some,hg1]
  unfold fY.p
  rw [Option.bind_some]
  by_cases h:l[n]=1
  ·right
   refine ⟨n,?_,Nat.le_refl _,hn',by rw [hg1,h],?_⟩
   ·rw [show (l[n] == 1)=true by simpa using h,cond_true]
   ·rw [List.drop_eq_nil_of_le (by rw [List.length_take];omega)];simp
  ·rw [show (l[n] == 1)=false by simpa using h,cond_false,cj (by omega) (by omega),show ((n:Int)+1)=((n+1:Nat):Int) by omega]
   rcases ih g (n+1) (by omega) (by omega) (by omega) with ⟨e,q⟩ | ⟨r,e,h1,h2,h3,q⟩
   ·left
    refine ⟨e,λd hd'=>?_⟩
    rw [hd] at hd'
    rcases List.mem_cons.1 hd' with rfl | hd'
    ·exact h
    ·exact q d hd'
   ·right
    refine ⟨r,e,by omega,h2,h3,λd hd'=>?_⟩
    have e2:(l.take r).drop n=l[n] :: (l.take r).drop (n+1):=by
     rw [List.drop_eq_getElem_cons (by rw [List.length_take];omega)]
     congr 1
     rw [List.getElem_take]
    rw [e2] at hd'
    rcases List.mem_cons.1 hd' with rfl | hd'
    ·exact h
    ·exact q d hd'
theorem tor_all {l:List Int} (h:∀ d∈l,d≠1):tor l=l:=by
 unfold tor
 rw [List.filter_eq_self]
 intro d hd
 simpa using h d hd
theorem del_l:∀ (m g:Nat) (l:List Int) (i n:Nat),l.length<=1000->l.length - n=m->m<g->i<=n->n<=l.length ->
  ∃ x,cl.pl61 F g l (i:Int) (n:Int)=some x/\x=l.take i++tor (l.drop n):=by
 intro m
 induction m with
 | zero=>
  intro g l i n hl hm hg hi hn
  obtain ⟨g,rfl⟩:∃ g',g=g'+1:=⟨g - 1,by omega⟩
  rw [cl.pl61,decide_eq_false (by omega),cond_false,List.drop_eq_nil_of_le (by omega)]
  unfold cl.pj2 cutf
  rw [if_pos (by constructor <;> omega),Option.bind_some]
  exact ⟨_,rfl,by simp [tor]⟩
 | succ m ih=>
  intro g l i n hl hm hg hi hn
  obtain ⟨g,rfl⟩:∃ g',g=g'+1:=⟨g - 1,by omega⟩
  have hn':n<l.length:=by omega
  have hd:l.drop n=l[n] :: l.drop (n+1):=List.drop_eq_getElem_cons hn'
  have hg1:gt l n=l[n]:=gt_at (List.getElem?_eq_getElem hn')
  rw [cl.pl61,decide_eq_true (by omega),cond_true,ix_nat hn',Option.bind_some,hg1]
  unfold fY.p cl.pj3
  rw [Option.bind_some,cj (x:=(n:Int)+1) (by omega) (by omega),show ((n:Int)+1)=((n+1:Nat):Int) by omega]
  by_cases h:l[n]=1
  ·rw [show (l[n] == 1)=true by simpa using h,Bool.not_true,cond_false]
   obtain ⟨x,e,ex⟩:=ih g l i (n+1) hl (by omega) (by omega) (by omega) (by omega)
   refine ⟨x,e,?_⟩
   rw [ex,hd]
   simp [tor,h]
  ·rw [show (l[n] == 1)=false by simpa using h,Bool.not_false,cond_true,ix_nat (by omega),Option.bind_some,Option.bind_some,cj (by omega) (by omega),show ((i:Int)+1)=((i+1:Nat):Int) by omega]
   obtain ⟨x,e,ex⟩:=ih g (l.set i l[n]) (i+1) (n+1) (by rw [List.length_set];exact hl) (by rw [List.length_set];omega) (by omega) (by omega) (by rw [List.length_set];omega)
   refine ⟨x,e,?_⟩
   rw [ex,hd,List.drop_set_of_lt (by omega),List.take_add_one,List.take_set_of_le (by omega),List.getElem?_set_self (by omega)]
   simp only [tor,List.filter_cons]
   rw [if_pos (by simpa using h),Option.toList_some,List.append_assoc];rfl
theorem Mn {l:List Int} (hF:5000<F) (hl:l.length<=1000):gX.p F l=some (tor l):=by
 unfold gX.p cl.p dE.p
 rcases find_l (F:=F) hl l.length F 0 (by omega) (by omega) (by omega) with ⟨e,q⟩ | ⟨r,e,h1,h2,h3,q⟩
 ·rw [show (0:Int)=((0:Nat):Int) from rfl,e,Option.bind_some]
  rw [List.drop_zero] at q
  rw [tor_all q];rfl
 ·rw [show (0:Int)=((0:Nat):Int) from rfl,e,Option.bind_some,show ((r:Int) == -1)=false by simp,cond_false,cj (by omega) (by omega),show ((r:Int)+1)=((r+1:Nat):Int) by omega]
  obtain ⟨x,e2,ex⟩:=del_l (F:=F) (l.length - (r+1)) F l r (r+1) hl rfl (by omega) (by omega) (by omega)
  rw [e2,Option.bind_some,ex]
  congr 1
  rw [List.drop_zero] at q
  have h4:l=l.take r++l[r] :: l.drop (r+1):=by rw [<- List.drop_eq_getElem_cons h2,List.take_append_drop]
  have h5:l[r]=1:=by rw [<- h3];exact (gt_at (List.getElem?_eq_getElem h2)).symm
  conv=>rhs;rw [h4]
  unfold tor
  rw [List.filter_append,List.filter_cons,h5]
  have:=tor_all q
  unfold tor at this
  rw [this]
  simp
theorem tor_len {l:List Int}:(tor l).length<=l.length:=List.length_filter_le _ _
end Go.Proofs.Ytnkgeongfneafaa.AE
end
section
namespace Go.Proofs.Ytnkgeongfneafaa.AE
open Go Go.AE Go.Proofs
variable {R C F:Nat} {A:Mat} {i j k:Int}
theorem zero_mk' (hR:R<=48) (hC:C<=48):mkn (IntKind.i64.wrap ((R:Int) * C)) (0:Int)=some (mk R C λ_ _=>0):=by
 have hm:R * C<=48 * 48:=Nat.mul_le_mul hR hC
 have e:((R:Int) * C)=((R * C:Nat):Int):=by rw [Int.natCast_mul]
 rw [e,cj (by omega) (by omega)]
 unfold mkn
 rw [if_pos (by constructor <;> omega),Int.toNat_natCast]
 congr 1
 unfold mk
 rw [List.map_const']
 simp only [List.length_range]
theorem apn_of {α:Type} {l m:List α} (h:l.length+m.length<=4294967296):apn l m=some (l++m):=by unfold apn;rw [if_pos h]
theorem group_l {a:Int} {l:List Int} (hl:l.length<=2000000):∀ (n g h:Nat) (i:Int),l.length - i=n->n<g->n<h->0<=i->(0<i->2<=gt l (i - 1).toNat)->(∀ m:Nat,(m:Int)<i->2<=gt l m/\gt l m<=1000000000000) ->
  ∃ b,cF.pl13 F g a l l.length i=some b/\cu.pl13 F h a l i=some b/\(b=true->InR a 0 48/\l.length<=48/\∀ m:Nat,m<l.length->2<=gt l m/\gt l m<=1000000000000):=by
 intro n
 induction n with
 | zero=>
  intro g h i hn hg hh hi hp hb
  obtain ⟨g,rfl⟩:∃ g',g=g'+1:=⟨g - 1,by omega⟩
  obtain ⟨h,rfl⟩:∃ g',h=g'+1:=⟨h - 1,by omega⟩
  rw [cF.pl13,cu.pl13,decide_eq_false (by omega),cond_false,cond_false]
  unfold cF.pj1 cu.pj1
  rw [Gr,Gq]
  simp only [Option.bind_some]
  by_cases ha:InR a 0 48
  ·simp only [decide_eq_true ha,cond_true]
   exact ⟨_,rfl,rfl,λq=>⟨ha,by have:=of_decide_eq_true q;omega,λm hm=>hb m (by omega)⟩⟩
  ·rw [decide_eq_false ha]
   exact ⟨_,rfl,rfl,λq=>by cases q⟩
 | succ n ih=>
  intro g h i hn hg hh hi hp hb
  obtain ⟨g,rfl⟩:∃ g',g=g'+1:=⟨g - 1,by omega⟩
  obtain ⟨h,rfl⟩:∃ g',h=g'+1:=⟨h - 1,by omega⟩
  rw [cF.pl13,cu.pl13,decide_eq_true (by omega),cond_true,cond_true,ix_of hi (by omega),Option.bind_some,Option.bind_some,Option.bind_some,Gr,Gq,Option.bind_some,Option.bind_some]
  by_cases hr:InR (gt l i.toNat) 2 1000000000000
  ·rw [decide_eq_true hr,Bool.not_true,cond_false,cond_false]
   have hr':2<=gt l i.toNat/\gt l i.toNat<=1000000000000:=hr
   have nx:∃ b,cF.pl13 F g a l l.length (i+1)=some b/\cu.pl13 F h a l (i+1)=some b/\(b=true->InR a 0 48/\l.length<=48/\∀ m:Nat,m<l.length->2<=gt l m/\gt l m<=1000000000000):=
    ih g h (i+1) (by omega) (by omega) (by omega) (by omega) (λ_=>by rw [show i+1 - 1=i by omega];exact hr'.1) (λm hm=>by
     by_cases e:(m:Int)<i
     ·exact hb m e
     ·rw [show m=i.toNat by omega];exact hr')
   rw [cj (x:=i+1) (by omega) (by omega),cj (x:=i - 1) (by omega) (by omega)]
   by_cases h0:i>0
   ·have hp:=hp h0
    rw [decide_eq_true h0,cond_true,cond_true,ix_of (by omega) (by omega),Option.bind_some,Option.bind_some,if_neg (by omega),if_neg (by omega)]
    cases (Int.tmod (gt l i.toNat) (gt l (i - 1).toNat) != 0) with
    | true=>exact ⟨false,rfl,rfl,λq=>by cases q⟩
    | false=>exact nx
   ·rw [decide_eq_false h0,cond_false,cond_false]
    exact nx
  ·rw [decide_eq_false hr]
   exact ⟨false,rfl,rfl,λq=>by cases q⟩
theorem group_both {a:Int} {l:List Int} (hF:5000000<F) (hl:l.length<=2000000):∃ b,cF.p F a l=some b/\cu.p F a l=some b/\(b=true->InR a 0 48/\l.length<=48/\∀ m:Nat,m<l.length->2<=gt l m/\gt l m<=1000000000000):=
 group_l hl l.length F F 0 (by omega) (by omega) (by omega) (by omega) (λh=>by omega) (λm h=>by omega)
theorem diag_l {a b:Int} {x:List Int} (hx:x.length<=48) (hb:∀ m:Nat,m<x.length->2<=gt x m/\gt x m<=1000000000000):∀ (n g h:Nat) (X:Mat) (i:Int),x.length - i=n->n<g->n<h->0<=i->Bd x.length x.length X ->
  ∃ Y:Mat,Bd x.length x.length Y/\cA.pl509 F g a b x.length x.length (mk x.length x.length X) x x.length i=cA.pj1 F a b x.length x.length (mk x.length x.length Y) /\
   cH.pl509 F h a b x x.length x.length x.length (mk x.length x.length X) i=cH.pj1 F a b x.length x.length (mk x.length x.length Y):=by
 intro n
 induction n with
 | zero=>
  intro g h X i hn hg hh hi hX
  obtain ⟨g,rfl⟩:∃ g',g=g'+1:=⟨g - 1,by omega⟩
  obtain ⟨h,rfl⟩:∃ g',h=g'+1:=⟨h - 1,by omega⟩
  rw [cA.pl509,cH.pl509,decide_eq_false (by omega),cond_false,cond_false]
  exact ⟨X,hX,rfl,rfl⟩
 | succ n ih=>
  intro g h X i hn hg hh hi hX
  obtain ⟨g,rfl⟩:∃ g',g=g'+1:=⟨g - 1,by omega⟩
  obtain ⟨h,rfl⟩:∃ g',h=g'+1:=⟨h - 1,by omega⟩
  have hi':i<x.length:=by omega
  have hbi:=hb i.toNat (by omega)
  rw [cA.pl509,cH.pl509,decide_eq_true (by omega),cond_true,cond_true,ix_of hi (by omega),Option.bind_some,Option.bind_some]
  simp (disch:=omega) only [jI,mP,Option.bind_some]
  rw [cj (x:=i+1) (by omega) (by omega)]
  exact ih g h (upd X i i (gt x i.toNat)) (i+1) (by omega) (by omega) (by omega) (by omega) (hX.upd (by unfold ab;split <;> omega))
theorem sum_both {a b:Int} {l m:List Int} (hF:1000000000000000<=F) (hl:l.length<=2000000) (hm:m.length<=2000000) :
  ∃ n y e,y.length<=48/\cA.p F a l b m=some (n,y,e)/\cH.p F a l b m=some (n,y,e):=by
 unfold cA.p cH.p
 obtain ⟨v,e1,e2,hv⟩:=group_both (F:=F) (a:=a) (l:=l) (by omega) hl
 obtain ⟨u,e3,e4,hu⟩:=group_both (F:=F) (a:=b) (l:=m) (by omega) hm
 rw [e1,e2,e3,e4,Option.bind_some,Option.bind_some]
 cases v with
 | false=>exact ⟨0,[],1,by simp,rfl,rfl⟩
 | true=>
  simp only [Bool.not_true,cond_false,Option.bind_some]
  cases u with
  | false=>exact ⟨0,[],1,by simp,rfl,rfl⟩
  | true=>
   obtain ⟨a1,a2,a3⟩:=hv rfl
   obtain ⟨b1,b2,b3⟩:=hu rfl
   have a1:0<=a/\a<=48:=a1
   have b1:0<=b/\b<=48:=b1
   simp only [Bool.not_true,cond_false]
   unfold cw.p
   rw [if_pos ⟨by simp;omega,by simp,by simp;omega⟩,Option.bind_some,apn_of (by simp;omega),Option.bind_some,apn_of (by simp;omega),Option.bind_some,List.nil_append]
   rw [show [l,m].flatten=l++m by simp]
   unfold im.p
   rw [Option.bind_some]
   cases decide (IntKind.i64.wrap (a+b)>48) with
   | true=>exact ⟨0,[],3,by simp,rfl,rfl⟩
   | false=>
    rw [cond_false,cond_false]
    by_cases hn:((l++m).length:Int)>48
    ·rw [decide_eq_true hn];exact ⟨0,[],3,by simp,rfl,rfl⟩
    ·rw [decide_eq_false hn,cond_false,cond_false]
     have hn:(l++m).length<=48:=by omega
     have hb:∀ k:Nat,k<(l++m).length->2<=gt (l++m) k/\gt (l++m) k<=1000000000000:=λk hk=>by
      by_cases c:k<l.length
      ·rw [show gt (l++m) k=gt l k by unfold gt;rw [List.getD_eq_getElem?_getD,List.getD_eq_getElem?_getD,List.getElem?_append_left c]];exact a3 k c
      ·rw [show gt (l++m) k=gt m (k - l.length) by unfold gt;rw [List.getD_eq_getElem?_getD,List.getD_eq_getElem?_getD,List.getElem?_append_right (Nat.not_lt.1 c)]]
       exact b3 _ (by rw [List.length_append] at hk;omega)
     generalize l++m=x at hn hb
     unfold ga.p fZ.p
     rw [zero_mk' hn hn]
     simp only [Option.bind_some]
     obtain ⟨Y,hY,f1,f2⟩:=diag_l (F:=F) (a:=a) (b:=b) hn hb x.length F F (λ_ _=>0) 0 (by omega) (by omega) (by omega) (by omega) (λ_ _ _ _ _ _=>⟨show (-1000000000000:Int)<=0 by decide,show (0:Int)<=1000000000000 by decide⟩)
     rw [f1,f2]
     unfold cA.pj1 cH.pj1
     rcases factors_both (F:=F) hn hn hF hY with ⟨g1,g2⟩ | ⟨y,hy,hp,g1,g2⟩
     ·rw [g1,g2];exact ⟨0,[],3,by simp,rfl,rfl⟩
     ·rw [g1,g2]
      simp only [Option.bind_some,bne_self_eq_false,cond_false,Bool.not_true]
      rw [Mn (by omega) (by omega),Mm (by omega) (by omega) hp]
      exact ⟨_,tor y,0,Nat.le_trans tor_len hy,rfl,rfl⟩
theorem szg' {l:List Int} {k:Int} (hk0:0<=k) (hk:k<=1048576) (hm:l.length<=9223372036854775807):∃ r,gZ.p F l k=some r/\(¬ r<0->l.length<=2000000/\0<=r/\r<=1048576):=by
 unfold gZ.p iU.p
 rw [cj (by omega) (by omega)]
 by_cases h:k - l.length<0
 ·rw [decide_eq_true h,cond_true]
  exact ⟨-1,rfl,λh=>absurd (by decide) h⟩
 ·rw [decide_eq_false h,cond_false,Option.bind_some,decide_eq_false h,cond_false]
  exact ⟨_,rfl,λ_=>by omega⟩
theorem FnExactDirectSum_pure:∀ (aa:Int) (dv:List Int) (ag:Int) (gw:List Int),(Lit.int .i64 aa).wf=true->dv.length<=maxLen->(∀ x∈dv,(Lit.int .i64 x).wf=true)->(Lit.int .i64 ag).wf=true->gw.length<=maxLen->(∀ x∈gw,(Lit.int .i64 x).wf=true)->∃ F,gn.p F aa dv ag gw=some true:=by
 intro a l b m _ hm _ _ hm' _
 obtain ⟨F,hF⟩:∃ F:Nat,F=1000000000000000:=⟨_,rfl⟩
 refine ⟨F,?_⟩
 unfold gn.p
 obtain ⟨r,e,hr⟩:=szg' (F:=F) (l:=l) (k:=1048576) (by omega) (by omega) (by unfold maxLen at hm;omega)
 rw [e,Option.bind_some]
 by_cases h:r<0
 ·rw [decide_eq_true h,cond_true]
 obtain ⟨hl,hr0,hr1⟩:=hr h
 rw [decide_eq_false h,cond_false]
 obtain ⟨s,e',hs⟩:=szg' (F:=F) (l:=m) (k:=r) (by omega) (by omega) (by unfold maxLen at hm';omega)
 rw [e',Option.bind_some]
 by_cases h':s<0
 ·rw [decide_eq_true h',cond_true]
 obtain ⟨hl',_,_⟩:=hs h'
 rw [decide_eq_false h',cond_false]
 obtain ⟨n,y,ec,hy,e1,e2⟩:=sum_both (F:=F) (a:=a) (b:=b) (by omega) hl hl'
 obtain ⟨l',m1,m2,m3⟩:=mark (F:=F) (l:=l) (k:=1) (by omega) hl (by omega) (by omega)
 obtain ⟨l'',q1,q2,q3⟩:=mark (F:=F) (l:=m) (k:=1+l.length) (by omega) hl' (by omega) (by omega)
 obtain ⟨y',n1,n2,n3⟩:=mark (F:=F) (l:=y) (k:=1) (by omega) (by omega) (by omega) (by omega)
 have h1:=held (F:=F) (l:=y') (k:=1) (by omega) (by omega) (by omega) (by omega) n3
 have hF5:5000000<F:=by omega
 have hy2:y.length<=2000000:=by omega
 simp only [fz.p,toInt hF5 hl,toInt hF5 hl',Option.bind_some,e1,e2,gm.p,gY.p,ib.p,eqInt hF5 hy2,eqInt hF5 hl,eqInt hF5 hl',m1,q1,n1,h1,bne_self_eq_false,cond_false,Bool.not_true]
 rw [decide_eq_false (by omega),decide_eq_false (by omega),n2]
 simp only [Option.bind_some,bne_self_eq_false,cond_false]
 first | rfl | (rw [decide_eq_false (by omega)];rfl)
end Go.Proofs.Ytnkgeongfneafaa.AE
end
