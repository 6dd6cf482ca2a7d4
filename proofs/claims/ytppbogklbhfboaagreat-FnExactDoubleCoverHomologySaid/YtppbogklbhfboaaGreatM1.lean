import Derived.Test.YtppbogklbhfboaaGreatE2
import Derived.Test.YtppbogklbhfboaaGreatP2
set_option linter.unusedVariables false
set_option linter.unusedSimpArgs false
section
namespace Go.AE
abbrev Mat:=Int->Int->Int
def mk (R C:Nat) (A:Mat):List Int:=(List.range (R * C)).map λn=>A ((n / C:Nat):Int) ((n % C:Nat):Int)
def upd (A:Mat) (i j x:Int):Mat:=λa b=>if a=i/\b=j then x else A a b
theorem EM (A:Mat) (i j x:Int):upd A i j x i j=x:=by simp [upd]
theorem mD (A:Mat) {i j a b:Int} (x:Int) (h:¬ (a=i/\b=j)):upd A i j x a b=A a b:=by simp only [upd,if_neg h]
variable {R C:Nat} {A B:Mat}
theorem oL (R C:Nat) (A:Mat):(mk R C A).length=R * C:=by simp [mk]
theorem JU {i j:Int} (hi0:0<=i) (hi:i<R) (hj0:0<=j) (hj:j<C):∃ a b:Nat,i=a/\j=b/\a<R/\b<C/\(i * C+j).toNat=a * C+b/\a * C+b<R * C/\(i * C+j)=((a * C+b:Nat):Int):=by
 refine ⟨i.toNat,j.toNat,by omega,by omega,by omega,by omega,?_,?_,?_⟩
 ·obtain ⟨a,rfl⟩:=Int.eq_ofNat_of_zero_le hi0
  obtain ⟨b,rfl⟩:=Int.eq_ofNat_of_zero_le hj0
  simp only [Int.toNat_natCast]
  rw [<- Int.natCast_mul,<-Int.natCast_add,Int.toNat_natCast]
 ·have h1:i.toNat+1<=R:=by omega
  have:=Nat.mul_le_mul_right C h1
  rw [Nat.add_mul] at this
  omega
 ·obtain ⟨a,rfl⟩:=Int.eq_ofNat_of_zero_le hi0
  obtain ⟨b,rfl⟩:=Int.eq_ofNat_of_zero_le hj0
  simp
theorem JV {a b:Nat} (hb:b<C) (h:a * C+b<R * C):(mk R C A)[a * C+b]?=some (A a b):=by
 have hC:0<C:=by omega
 have e1:(a * C+b) / C=a:=by rw [Nat.add_comm,Nat.add_mul_div_right _ _ hC,Nat.div_eq_of_lt hb,Nat.zero_add]
 have e2:(a * C+b) % C=b:=by rw [Nat.add_comm,Nat.add_mul_mod_self_right,Nat.mod_eq_of_lt hb]
 unfold mk
 rw [List.getElem?_map,List.getElem?_range h]
 simp only [Option.map_some,e1,e2]
theorem lK {i j:Int} (hi0:0<=i) (hi:i<R) (hj0:0<=j) (hj:j<C):gt (mk R C A) (i * C+j).toNat=A i j:=by
 obtain ⟨a,b,rfl,rfl,ha,hb,e,hlt,_⟩:=JU hi0 hi hj0 hj
 rw [e]
 unfold gt
 rw [List.getD_eq_getElem?_getD,JV hb hlt];rfl
theorem kn {i j:Int} (hR:R<=1000) (hC:C<=1000) (hi0:0<=i) (hi:i<R) (hj0:0<=j) (hj:j<C):ix (mk R C A) (IntKind.i64.wrap (IntKind.i64.wrap (i * C)+j))=some (i * C+j).toNat:=by
 obtain ⟨a,b,e1,e2,ha,hb,e,hlt,e3⟩:=JU hi0 hi hj0 hj
 have hm:R * C<=1000 * 1000:=Nat.mul_le_mul hR hC
 have h1:0<=i * C:=Int.mul_nonneg hi0 (Int.natCast_nonneg _)
 rw [bX (x:=i * C) (by omega) (by omega),bX (x:=i * C+j) (by omega) (by omega)]
 unfold ix
 rw [oL,if_pos (by omega)]
theorem fW (h:∀ i j:Int,0<=i->i<R->0<=j->j<C->A i j=B i j):mk R C A=mk R C B:=by
 unfold mk
 apply List.map_congr_left
 intro n hn
 have hn:=List.mem_range.1 hn
 have hC:0<C:=by
  rcases Nat.eq_zero_or_pos C with h | h
  ·subst h;simp at hn
  ·exact h
 exact h _ _ (Int.natCast_nonneg _) (Int.ofNat_lt.2 ((Nat.div_lt_iff_lt_mul hC).2 hn)) (Int.natCast_nonneg _) (Int.ofNat_lt.2 (Nat.mod_lt n hC))
theorem acQ {l:List Int} (h:l.length=R * C):l=mk R C λi j=>gt l (i * C+j).toNat:=by
 apply List.ext_getElem?
 intro n
 by_cases hn:n<R * C
 ·unfold mk
  rw [List.getElem?_map,List.getElem?_range hn]
  simp only [Option.map_some]
  have e:(((n / C:Nat):Int) * C+((n % C:Nat):Int)).toNat=n:=by
   rw [<- Int.natCast_mul,<-Int.natCast_add,Int.toNat_natCast,Nat.mul_comm,Nat.div_add_mod]
  rw [e]
  exact lJ (by omega)
 ·rw [List.getElem?_eq_none (by omega),List.getElem?_eq_none (by rw [oL];omega)]
theorem oM {i j x:Int} (hi0:0<=i) (hi:i<R) (hj0:0<=j) (hj:j<C):(mk R C A).set (i * C+j).toNat x=mk R C (upd A i j x):=by
 obtain ⟨a,b,rfl,rfl,ha,hb,e,hlt,_⟩:=JU hi0 hi hj0 hj
 rw [e]
 apply List.ext_getElem?
 intro n
 by_cases hn:n<R * C
 ·have hC:0<C:=by omega
  have hd:n=n / C * C+n % C:=by rw [Nat.mul_comm,Nat.div_add_mod]
  have hr:=Nat.mod_lt n hC
  rw [hd,JV hr (by omega)]
  by_cases e:n / C=a/\n % C=b
  ·rw [e.1,e.2,List.getElem?_set_self (by rw [oL];exact hlt),EM]
  ·have:a * C+b≠n / C * C+n % C:=by
    intro h
    rw [<- hd] at h
    apply e
    constructor
    ·rw [<- h,Nat.add_comm,Nat.add_mul_div_right _ _ hC,Nat.div_eq_of_lt hb,Nat.zero_add]
    ·rw [<- h,Nat.add_comm,Nat.add_mul_mod_self_right,Nat.mod_eq_of_lt hb]
   rw [List.getElem?_set_ne this,JV hr (by omega),mD _ _ (by omega)]
 ·rw [List.getElem?_eq_none (by rw [List.length_set,oL];omega),List.getElem?_eq_none (by rw [oL];omega)]
end Go.AE
end
section
namespace Go.Proofs.YtppbogklbhfboaaGreat.AE.DD
open Go Go.AE Go.Proofs
variable {F:Nat}
section
variable {α:Type} [Inhabited α]
theorem gset_eq {l:List α} {n:Nat} {x:α} (h:n<l.length):gt (l.set n x) n=x:=by
 unfold gt;rw [List.getD_eq_getElem?_getD,List.getElem?_set_self h];rfl
theorem gset_ne {l:List α} {n m:Nat} {x:α} (h:n≠m):gt (l.set n x) m=gt l m:=by
 unfold gt;rw [List.getD_eq_getElem?_getD,List.getD_eq_getElem?_getD,List.getElem?_set_ne h]
theorem gt_out {l:List α} {n:Nat} (h:l.length<=n):gt l n=default:=by
 unfold gt;rw [List.getD_eq_getElem?_getD,List.getElem?_eq_none h];rfl
theorem gext {l m:List α} (h:l.length=m.length) (hh:∀ n:Nat,n<l.length->gt l n=gt m n):l=m:=by
 apply List.ext_getElem?
 intro n
 by_cases hn:n<l.length
 ·rw [lJ hn,lJ (by omega),hh n hn]
 ·rw [List.getElem?_eq_none (by omega),List.getElem?_eq_none (by omega)]
theorem gmem {l:List α} {n:Nat} (h:n<l.length):gt l n∈l:=List.mem_of_getElem? (lJ h)
theorem gapp_lt {l m:List α} {n:Nat} (h:n<l.length):gt (l++m) n=gt l n:=by
 unfold gt;rw [List.getD_eq_getElem?_getD,List.getD_eq_getElem?_getD,List.getElem?_append_left h]
theorem gapp_eq {l:List α} {x:α}:gt (l++[x]) l.length=x:=by
 unfold gt;rw [List.getD_eq_getElem?_getD,List.getElem?_append_right (Nat.le_refl _),Nat.sub_self];rfl
theorem grep {n m:Nat} {x:α} (h:m<n):gt (List.replicate n x) m=x:=by
 unfold gt;rw [List.getD_eq_getElem?_getD,List.getElem?_replicate,if_pos h];rfl
theorem mem_gt {l:List α} {x:α} (h:x∈l):∃ n,n<l.length/\gt l n=x:=by
 obtain ⟨n,hn⟩:=List.getElem?_of_mem h
 have hl:=(List.getElem?_eq_some_iff.1 hn).1
 refine ⟨n,hl,?_⟩
 rw [lJ hl] at hn;exact Option.some.inj hn
end
section
variable {α:Type}
theorem ix_of {l:List α} {i:Int} (h0:0<=i) (h:i<l.length):ix l i=some i.toNat:=by
 unfold ix;rw [if_pos ⟨h0,h⟩]
theorem ixn {l:List α} {n:Nat} (h:n<l.length):ix l (n:Int)=some n:=by
 rw [ix_of (by omega) (by omega)];simp
theorem apn_of {l m:List α} (h:l.length+m.length<=4294967296):apn l m=some (l++m):=by unfold apn;rw [if_pos h]
theorem mkn_of {n:Nat} {x:α} (h:n<=4294967296):mkn (n:Int) x=some (List.replicate n x):=by
 unfold mkn;rw [if_pos (by omega)];simp
end
theorem wn {i:Nat} (h:i<=4294967296):IntKind.i64.wrap (i:Int)=(i:Int):=bX (by omega) (by omega)
theorem ws {i:Nat} (h:i<=4294967296):IntKind.i64.wrap ((i:Int)+1)=((i+1:Nat):Int):=by rw [bX (by omega) (by omega)];omega
theorem dT {i n:Nat} (h:i<n):decide ((i:Int)<(n:Int))=true:=decide_eq_true (by omega)
theorem dF {i n:Nat} (h:n<=i):decide ((i:Int)<(n:Int))=false:=decide_eq_false (by omega)
abbrev Cr:=Int×Int×Int×Int×Int
theorem toCr_l {l:List Cr} (hl:l.length<=2000000):∀ (n g:Nat) (m:List Cr) (i:Nat),l.length - i=n->n<g->i<=l.length->m.length=l.length->(∀ a:Nat,a<i->gt m a=gt l a) ->
  eW.pl29 F g l m (i:Int)=some l:=by
 intro n
 induction n with
 | zero=>
  intro g m i hn hg hi hm hh
  obtain ⟨g,rfl⟩:∃ g',g=g'+1:=⟨g - 1,by omega⟩
  rw [eW.pl29,dF (by omega),cond_false]
  rw [gext hm (λa h=>hh a (by omega))]
 | succ n ih=>
  intro g m i hn hg hi hm hh
  obtain ⟨g,rfl⟩:∃ g',g=g'+1:=⟨g - 1,by omega⟩
  rw [eW.pl29,dT (by omega),cond_true,ixn (by omega),ixn (by omega),ws (by omega)]
  simp only [Option.bind_some,kU.p]
  refine ih g _ (i+1) (by omega) (by omega) (by omega) (by simp only [List.length_set];exact hm) λa ha=>?_
  by_cases e:a=i
  ·subst e
   have h1:a<m.length:=by omega
   simp only [gset_eq,List.length_set,h1]
  ·simp only [gset_ne (Ne.symm e)];exact hh a (by omega)
theorem toDg {l:List Cr} {c:Int} (hF:5000000<F) (hl:l.length<=2000000):im.p F l c=some (l,c):=by
 unfold im.p eW.p
 rw [mkn_of (by omega),Option.bind_some]
 have:=toCr_l (F:=F) hl l.length F (List.replicate l.length (0,0,0,0,0)) 0 (by omega) (by omega) (by omega) (by simp) (λa h=>by omega)
 rw [show ((0:Nat):Int)=0 from rfl] at this
 rw [this];rfl
theorem eqCr_l {l:List Cr} (hl:l.length<=2000000):∀ (n g:Nat) (i:Nat),l.length - i=n->n<g->eH.pl29 F g l l (i:Int)=some true:=by
 intro n
 induction n with
 | zero=>
  intro g i hn hg
  obtain ⟨g,rfl⟩:∃ g',g=g'+1:=⟨g - 1,by omega⟩
  rw [eH.pl29,dF (by omega),cond_false]
 | succ n ih=>
  intro g i hn hg
  obtain ⟨g,rfl⟩:∃ g',g=g'+1:=⟨g - 1,by omega⟩
  rw [eH.pl29,dT (by omega),cond_true,ixn (by omega),ws (by omega)]
  simp only [Option.bind_some,lf.p,bne_self_eq_false,cond_false,Bool.not_true]
  exact ih g (i+1) (by omega) (by omega)
theorem eqDg {l:List Cr} {c:Int} (hF:5000000<F) (hl:l.length<=2000000):jW.p F l c l c=some true:=by
 unfold jW.p eH.p
 have:=eqCr_l (F:=F) hl l.length F 0 (by omega) (by omega)
 rw [show ((0:Nat):Int)=0 from rfl] at this
 simp only [bne_self_eq_false,cond_false,this,Option.bind_some,Bool.not_true]
theorem szDg {l:List Cr} (hl:l.length<=2000000):jl.p F l 1048576=some (if 1048576<l.length then (-1:Int) else (1048576:Int) - (l.length:Int)):=by
 unfold jl.p lp.p
 rw [bX (by omega) (by omega)]
 by_cases h:1048576<l.length
 ·rw [decide_eq_true (show (1048576:Int) - l.length<0 by omega),cond_true,Option.bind_some,if_pos h];rfl
 ·rw [decide_eq_false (show ¬ (1048576:Int) - l.length<0 by omega),cond_false,Option.bind_some,if_neg h,decide_eq_false (by omega),cond_false]
theorem maxLen_le:maxLen<=9223372036854775807:=by decide
theorem szBig {l:List Cr} (hm:l.length<=maxLen) (h:1048576<l.length):jl.p F l 1048576=some (-1):=by
 unfold jl.p lp.p
 have:=maxLen_le
 rw [bX (by omega) (by omega),decide_eq_true (by omega),cond_true];rfl
theorem BR {x a b:Int}:fX.p F x a b=some (decide (a<=x/\x<=b)):=by
 unfold fX.p
 by_cases h:x>=a
 ·rw [decide_eq_true h,cond_true];congr 1;simp only [ge_iff_le] at h;simp [h]
 ·rw [decide_eq_false h,cond_false];congr 1;simp only [ge_iff_le] at h;simp [h]
theorem tF {x a b:Int}:gq.p F x a b=some (decide (a<=x/\x<=b)):=by
 unfold gq.p
 by_cases h:a<=x
 ·rw [decide_eq_true h,cond_true];congr 1;simp [h]
 ·rw [decide_eq_false h,cond_false];congr 1;simp [h]
end Go.Proofs.YtppbogklbhfboaaGreat.AE.DD
end
section
namespace Go.Proofs.YtppbogklbhfboaaGreat.AE.DD
open Go Go.AE Go.Proofs
variable {F:Nat}
theorem markCr_l:∀ (n g:Nat) (l:List Cr) (i k:Nat),l.length<=2000000->l.length - i=n->n<g->k+5 * n<=100000000->∃ l' k',fi.pl13 F g l (k:Int) (i:Int)=some (((k':Nat):Int),l'):=by
 intro n
 induction n with
 | zero=>
  intro g l i k hl hn hg hk
  obtain ⟨g,rfl⟩:∃ g',g=g'+1:=⟨g - 1,by omega⟩
  rw [fi.pl13,dF (by omega),cond_false]
  exact ⟨l,k,rfl⟩
 | succ n ih=>
  intro g l i k hl hn hg hk
  obtain ⟨g,rfl⟩:∃ g',g=g'+1:=⟨g - 1,by omega⟩
  have hi:i<l.length:=by omega
  rw [fi.pl13,dT (by omega),cond_true,ixn hi]
  simp only [Option.bind_some]
  have e1:IntKind.i64.wrap ((k:Int)+1)=((k+1:Nat):Int):=ws (by omega)
  have e2:IntKind.i64.wrap (((k+1:Nat):Int)+1)=((k+2:Nat):Int):=ws (by omega)
  have e3:IntKind.i64.wrap (((k+2:Nat):Int)+1)=((k+3:Nat):Int):=ws (by omega)
  have e4:IntKind.i64.wrap (((k+3:Nat):Int)+1)=((k+4:Nat):Int):=ws (by omega)
  have e5:IntKind.i64.wrap (((k+4:Nat):Int)+1)=((k+5:Nat):Int):=ws (by omega)
  simp only [e1,e2,e3,e4,e5,ws (show i<=4294967296 by omega)]
  rw [ixn (by simp only [List.length_set];exact hi),Option.bind_some,ixn (by simp only [List.length_set];exact hi),Option.bind_some,ixn (by simp only [List.length_set];exact hi),Option.bind_some,ixn (by simp only [List.length_set];exact hi),Option.bind_some]
  exact ih g _ (i+1) (k+5) (by simp only [List.length_set];exact hl) (by simp only [List.length_set];omega) (by omega) (by omega)
theorem markDg {l:List Cr} (hF:5000000<F) (hl:l.length<=2000000):∃ l' k',jX.p F l 1=some (((k':Nat):Int),l'):=by
 obtain ⟨l',k',e⟩:=markCr_l (F:=F) l.length F l 0 1 hl (by omega) (by omega) (by omega)
 have e:fi.pl13 F F l 1 0=_:=e
 refine ⟨l',k',?_⟩
 unfold jX.p fi.p
 rw [e];rfl
end Go.Proofs.YtppbogklbhfboaaGreat.AE.DD
end
section
namespace Go.Proofs.YtppbogklbhfboaaGreat.AE.DD
open Go Go.AE Go.Proofs
variable {F:Nat}
def en (x:Cr) (p:Nat):Int:=gt [x.1,x.2.1,x.2.2.1,x.2.2.2.1] p
def sg (x:Cr):Int:=x.2.2.2.2
def ent (x:Cr) (p:Nat):Bool:=p==0 || (p:Int)==2+sg x
def SgOk (x:Cr):Prop:=sg x=1\/sg x=-1
instance (x:Cr):Decidable (SgOk x):=by unfold SgOk;infer_instance
abbrev Tb:=List (Int×Int)×List (Int×Int)
def stp (x:Cr) (i p:Nat) (t:Tb):Option Tb:=
 bif ent x p then (if 0<=en x p/\en x p<t.2.length/\(gt t.2 (en x p).toNat).1<0 then some (t.1,t.2.set (en x p).toNat ((i:Int),(p:Int))) else none)
 else (if 0<=en x p/\en x p<t.1.length/\(gt t.1 (en x p).toNat).1<0 then some (t.1.set (en x p).toNat ((i:Int),(p:Int)),t.2) else none)
theorem i_ent {x:Cr} {p:Nat} (hs:SgOk x):je.p F (sg x) (p:Int)=some (ent x p):=by
 have hw:IntKind.i64.wrap (2+sg x)=2+sg x:=by rcases hs with h | h <;> rw [h] <;> decide
 unfold je.p ent
 rw [hw]
 by_cases h:p=0
 ·subst h;simp
 ·have e:((p:Int)==0)=false:=by simpa using h
  have e':(p==0)=false:=by simpa using h
  rw [e,e',cond_false,Bool.false_or]
theorem s_ent {x:Cr} {p:Nat} (hs:SgOk x) (hp:p<4):gA.p F (sg x) (p:Int)=some (ent x p):=by
 unfold gA.p ent
 have:p=0\/p=1\/p=2\/p=3:=by omega
 rcases hs with h | h <;> rw [h] <;> rcases this with rfl | rfl | rfl | rfl <;> rfl
theorem s_end {x:Cr} {p:Nat} (hp:p<4):gz.p F x.1 x.2.1 x.2.2.1 x.2.2.2.1 (p:Int)=some (en x p):=by
 unfold gz.p
 rw [ixn (by simpa using hp)];rfl
theorem i_has {l:List (Int×Int)} {a:Int} (hl:l.length<=1000):iJ.p F l a=some (decide (0<=a/\a<l.length)):=by
 unfold iJ.p ma.p
 rw [Option.bind_some,bX (by omega) (by omega),tF,Option.bind_some]
 congr 1
 apply decide_eq_decide.2
 omega
theorem set2 {l:List (Int×Int)} {n:Nat} {i p:Int} (h:n<l.length):(l.set n (i,(gt l n).2)).set n ((gt (l.set n (i,(gt l n).2)) n).1,p)=l.set n (i,p):=by
 rw [gset_eq h,List.set_set]
theorem arr_step {C:List (Int×Int)->List (Int×Int)->List Cr->Int->Int->Option (List (Int×Int)×List (Int×Int)×Bool)} {k:Nat} {t:Tb} {D:List Cr} {y:Int} {i p:Nat} {x:Cr} (hs:SgOk x) (hp:p<4) (h1:t.1.length<=1000) (h2:t.2.length<=1000) :
  cG.pl3931 F C (k+1) t.1 t.2 D y (i:Int) (sg x) (i:Int) x.1 x.2.1 x.2.2.1 x.2.2.2.1 (p:Int) =
   match stp x i p t with | none=>some (t.1,t.2,false) | some t'=>cG.pl3931 F C k t'.1 t'.2 D y (i:Int) (sg x) (i:Int) x.1 x.2.1 x.2.2.1 x.2.2.2.1 ((p+1:Nat):Int):=by
 rw [cG.pl3931,show decide ((p:Int)<4)=true from decide_eq_true (by omega),cond_true,if_pos ⟨by omega,by omega⟩,i_ent hs,Option.bind_some,ws (by omega)]
 have he:gt [x.1,x.2.1,x.2.2.1,x.2.2.2.1] ((p:Int)).toNat=en x p:=by rw [Int.toNat_natCast];rfl
 simp only [he]
 unfold stp
 cases ent x p with
 | true=>
  rw [cond_true,cond_true,i_has h2,Option.bind_some]
  by_cases c1:0<=en x p/\en x p<t.2.length
  ·rw [decide_eq_true c1,Bool.not_true,cond_false,ix_of c1.1 c1.2]
   simp only [Option.bind_some]
   by_cases c2:(gt t.2 (en x p).toNat).1<0
   ·rw [if_pos ⟨c1.1,c1.2,c2⟩,decide_eq_false (show ¬ (gt t.2 (en x p).toNat).1>=0 by omega),cond_false]
    simp only [set2 (show (en x p).toNat<t.2.length by omega)]
   ·rw [if_neg (λh=>c2 h.2.2),decide_eq_true (show (gt t.2 (en x p).toNat).1>=0 by omega),cond_true]
  ·rw [decide_eq_false c1,Bool.not_false,cond_true,if_neg (λh=>c1 ⟨h.1,h.2.1⟩)]
 | false=>
  rw [cond_false,cond_false,i_has h1,Option.bind_some]
  by_cases c1:0<=en x p/\en x p<t.1.length
  ·rw [decide_eq_true c1,Bool.not_true,cond_false,ix_of c1.1 c1.2]
   simp only [Option.bind_some]
   by_cases c2:(gt t.1 (en x p).toNat).1<0
   ·rw [if_pos ⟨c1.1,c1.2,c2⟩,decide_eq_false (show ¬ (gt t.1 (en x p).toNat).1>=0 by omega),cond_false]
    simp only [set2 (show (en x p).toNat<t.1.length by omega)]
   ·rw [if_neg (λh=>c2 h.2.2),decide_eq_true (show (gt t.1 (en x p).toNat).1>=0 by omega),cond_true]
  ·rw [decide_eq_false c1,Bool.not_false,cond_true,if_neg (λh=>c1 ⟨h.1,h.2.1⟩)]
theorem stp_len {x:Cr} {i p:Nat} {t t':Tb} (h:stp x i p t=some t'):t'.1.length=t.1.length/\t'.2.length=t.2.length:=by
 unfold stp at h
 cases e:ent x p with
 | true=>rw [e,cond_true] at h;obtain ⟨_,h⟩:=lH h;cases h;simp
 | false=>rw [e,cond_false] at h;obtain ⟨_,h⟩:=lH h;cases h;simp
def Mk (u:List Bool) (t:List (Int×Int)):Prop:=u.length=t.length/\∀ a:Nat,a<t.length->gt u a=decide (0<=(gt t a).1)
theorem Mk.set {u:List Bool} {t:List (Int×Int)} (h:Mk u t) {a i p:Nat} (ha:a<t.length):Mk (u.set a true) (t.set a ((i:Int),(p:Int))):=by
 refine ⟨by simpa using h.1,λb hb=>?_⟩
 rw [List.length_set] at hb
 by_cases e:a=b
 ·subst e
  rw [gset_eq (by rw [h.1];exact ha),gset_eq ha]
  exact (decide_eq_true (Int.natCast_nonneg i)).symm
 ·rw [gset_ne e,gset_ne e];exact h.2 b hb
theorem cnt_step {C:List Cr->Int->List Bool->List Bool->Int->Option Bool} {k:Nat} {t:Tb} {u v:List Bool} {D:List Cr} {y:Int} {i p:Nat} {x:Cr} (hs:SgOk x) (hp:p<4) (h1:t.1.length<=1000) (h12:t.2.length=t.1.length) (hu:Mk u t.2) (hv:Mk v t.1) :
  (stp x i p t=none/\cg.pl3927 F C (k+1) D (t.1.length:Int) u v y x.1 x.2.1 x.2.2.1 x.2.2.2.1 (sg x) (p:Int)=some false) \/
  (∃ t' u' v',stp x i p t=some t'/\Mk u' t'.2/\Mk v' t'.1/\cg.pl3927 F C (k+1) D (t.1.length:Int) u v y x.1 x.2.1 x.2.2.1 x.2.2.2.1 (sg x) (p:Int)=cg.pl3927 F C k D (t.1.length:Int) u' v' y x.1 x.2.1 x.2.2.1 x.2.2.2.1 (sg x) ((p+1:Nat):Int)):=by
 rw [cg.pl3927,show decide ((p:Int)<4)=true from decide_eq_true (by omega),cond_true,s_end hp,Option.bind_some,bX (x:=(t.1.length:Int) - 1) (by omega) (by omega),BR,Option.bind_some,s_ent hs hp,Option.bind_some,ws (by omega)]
 unfold stp
 by_cases c1:0<=en x p/\en x p<t.1.length
 ·rw [decide_eq_true (show 0<=en x p/\en x p<=(t.1.length:Int) - 1 by omega),Bool.not_true,cond_false]
  cases ent x p with
  | true=>
   simp only [cond_true]
   rw [ix_of c1.1 (by rw [hu.1,h12];exact c1.2)]
   simp only [Option.bind_some]
   rw [hu.2 _ (by omega)]
   by_cases c2:(gt t.2 (en x p).toNat).1<0
   ·right
    refine ⟨_,u.set (en x p).toNat true,v,if_pos ⟨c1.1,by rw [h12];exact c1.2,c2⟩,hu.set (by omega),hv,?_⟩
    rw [decide_eq_false (by omega),cond_false]
   ·left
    exact ⟨if_neg (λh=>c2 h.2.2),by rw [decide_eq_true (by omega),cond_true]⟩
  | false=>
   simp only [cond_false]
   rw [ix_of c1.1 (by rw [hv.1];exact c1.2)]
   simp only [Option.bind_some]
   rw [hv.2 _ (by omega)]
   by_cases c2:(gt t.1 (en x p).toNat).1<0
   ·right
    refine ⟨_,u,v.set (en x p).toNat true,if_pos ⟨c1.1,c1.2,c2⟩,hu,hv.set (by omega),?_⟩
    rw [decide_eq_false (by omega),cond_false]
   ·left
    exact ⟨if_neg (λh=>c2 h.2.2),by rw [decide_eq_true (by omega),cond_true]⟩
 ·left
  rw [decide_eq_false (show ¬ (0<=en x p/\en x p<=(t.1.length:Int) - 1) by omega),Bool.not_false,cond_true]
  refine ⟨?_,rfl⟩
  cases ent x p with
  | true=>rw [cond_true];exact if_neg (λh=>c1 ⟨h.1,by rw [<- h12];exact h.2.1⟩)
  | false=>rw [cond_false];exact if_neg (λh=>c1 ⟨h.1,h.2.1⟩)
end Go.Proofs.YtppbogklbhfboaaGreat.AE.DD
end
section
namespace Go.Proofs.YtppbogklbhfboaaGreat.AE.DD
open Go Go.AE Go.Proofs
variable {F:Nat}
def stp4 (x:Cr) (i:Nat) (t:Tb):Option Tb:=(stp x i 0 t).bind λt=>(stp x i 1 t).bind λt=>(stp x i 2 t).bind λt=>stp x i 3 t
def run (i:Nat):List Cr->Tb->Option Tb
 | [],t=>some t
 | x::D,t=>(stp4 x i t).bind (run (i+1) D)
theorem stp4_len {x:Cr} {i:Nat} {t t':Tb} (h:stp4 x i t=some t'):t'.1.length=t.1.length/\t'.2.length=t.2.length:=by
 unfold stp4 at h
 obtain ⟨a,h1,h⟩:=ag h
 obtain ⟨b,h2,h⟩:=ag h
 obtain ⟨c,h3,h⟩:=ag h
 have e1:=stp_len h1;have e2:=stp_len h2;have e3:=stp_len h3;have e4:=stp_len h
 omega
theorem arr4 {C:List (Int×Int)->List (Int×Int)->List Cr->Int->Int->Option (List (Int×Int)×List (Int×Int)×Bool)} {k:Nat} {t:Tb} {D:List Cr} {y:Int} {i:Nat} {x:Cr} (hs:SgOk x) (hi:i<=1000) (h1:t.1.length<=1000) (h2:t.2.length<=1000) :
  (stp4 x i t=none/\∃ a b,cG.pl3931 F C (k+5) t.1 t.2 D y (i:Int) (sg x) (i:Int) x.1 x.2.1 x.2.2.1 x.2.2.2.1 0=some (a,b,false)) \/
  (∃ t',stp4 x i t=some t'/\cG.pl3931 F C (k+5) t.1 t.2 D y (i:Int) (sg x) (i:Int) x.1 x.2.1 x.2.2.1 x.2.2.2.1 0=C t'.1 t'.2 D y ((i+1:Nat):Int)):=by
 unfold stp4
 have s0:=arr_step (F:=F) (C:=C) (k:=k+4) (t:=t) (D:=D) (y:=y) (i:=i) (p:=0) hs (by decide) h1 h2
 rw [show ((0:Nat):Int)=0 from rfl] at s0
 rw [s0]
 cases e0:stp x i 0 t with
 | none=>exact .inl ⟨rfl,_,_,rfl⟩
 | some a=>
  have l0:=stp_len e0
  have s1:=arr_step (F:=F) (C:=C) (k:=k+3) (t:=a) (D:=D) (y:=y) (i:=i) (p:=1) hs (by decide) (by omega) (by omega)
  simp only [Option.bind_some]
  rw [show ((0+1:Nat):Int)=((1:Nat):Int) from rfl,s1]
  cases e1:stp x i 1 a with
  | none=>exact .inl ⟨rfl,_,_,rfl⟩
  | some b=>
   have l1:=stp_len e1
   have s2:=arr_step (F:=F) (C:=C) (k:=k+2) (t:=b) (D:=D) (y:=y) (i:=i) (p:=2) hs (by decide) (by omega) (by omega)
   simp only [Option.bind_some]
   rw [show ((1+1:Nat):Int)=((2:Nat):Int) from rfl,s2]
   cases e2:stp x i 2 b with
   | none=>exact .inl ⟨rfl,_,_,rfl⟩
   | some c=>
    have l2:=stp_len e2
    have s3:=arr_step (F:=F) (C:=C) (k:=k+1) (t:=c) (D:=D) (y:=y) (i:=i) (p:=3) hs (by decide) (by omega) (by omega)
    simp only [Option.bind_some]
    rw [show ((2+1:Nat):Int)=((3:Nat):Int) from rfl,s3]
    cases e3:stp x i 3 c with
    | none=>exact .inl ⟨rfl,_,_,rfl⟩
    | some d=>
     right
     refine ⟨d,rfl,?_⟩
     show cG.pl3931 F C (k+1) d.1 d.2 D y (i:Int) (sg x) (i:Int) x.1 x.2.1 x.2.2.1 x.2.2.2.1 ((3+1:Nat):Int)=_
     rw [cG.pl3931,show decide (((3+1:Nat):Int)<4)=false by decide,cond_false,ws (by omega)]
theorem arr_run {D:List Cr} (hD:D.length<=100) (hs:∀ x∈D,SgOk x) (hF:100<F):∀ (n g i:Nat) (t:Tb),D.length - i=n->n<g->i<=D.length->t.1.length<=1000->t.2.length<=1000 ->
  (run i (D.drop i) t=none/\∃ a b,cG.pl61 F g t.1 t.2 D (D.length:Int) (i:Int)=some (a,b,false)) \/
  (∃ t',run i (D.drop i) t=some t'/\cG.pl61 F g t.1 t.2 D (D.length:Int) (i:Int)=some (t'.1,t'.2,true)):=by
 intro n
 induction n with
 | zero=>
  intro g i t hn hg hi h1 h2
  obtain ⟨g,rfl⟩:∃ g',g=g'+1:=⟨g - 1,by omega⟩
  right
  refine ⟨t,?_,?_⟩
  ·rw [List.drop_eq_nil_of_le (by omega)];rfl
  ·rw [cG.pl61,dF (by omega),cond_false]
 | succ n ih=>
  intro g i t hn hg hi h1 h2
  obtain ⟨g,rfl⟩:∃ g',g=g'+1:=⟨g - 1,by omega⟩
  have hlt:i<D.length:=by omega
  rw [cG.pl61,dT hlt,cond_true,ixn hlt,Option.bind_some]
  unfold jd.p
  rw [Option.bind_some]
  have hd:D.drop i=gt D i::D.drop (i+1):=by
   rw [List.drop_eq_getElem_cons hlt]
   congr 1
   have:=lJ hlt
   rw [List.getElem?_eq_getElem hlt] at this
   exact Option.some.inj this
  rw [hd]
  obtain ⟨f,rfl⟩:∃ f,F=f+5:=⟨F - 5,by omega⟩
  rcases arr4 (F:=f+5) (C:=cG.pl61 (f+5) g) (k:=f) (t:=t) (D:=D) (y:=(D.length:Int)) (i:=i) (hs _ (gmem hlt)) (by omega) h1 h2 with ⟨e,a,b,r⟩ | ⟨t',e,r⟩
  ·left
   refine ⟨by unfold run;rw [e];rfl,a,b,r⟩
  ·have hl:=stp4_len e
   have hr:run i (gt D i::D.drop (i+1)) t=run (i+1) (D.drop (i+1)) t':=by rw [run,e];rfl
   rw [hr]
   show (_/\∃ a b,cG.pl3931 (f+5) (cG.pl61 (f+5) g) (f+5) t.1 t.2 D (D.length:Int) (i:Int) (sg (gt D i)) (i:Int) (gt D i).1 (gt D i).2.1 (gt D i).2.2.1 (gt D i).2.2.2.1 0=_)\/(∃ t',_/\cG.pl3931 (f+5) (cG.pl61 (f+5) g) (f+5) t.1 t.2 D (D.length:Int) (i:Int) (sg (gt D i)) (i:Int) (gt D i).1 (gt D i).2.1 (gt D i).2.2.1 (gt D i).2.2.2.1 0=_)
   rw [r]
   exact ih g (i+1) t' (by omega) (by omega) (by omega) (by omega) (by omega)
theorem cnt4 {C:List Cr->Int->List Bool->List Bool->Int->Option Bool} {k:Nat} {t:Tb} {u v:List Bool} {D:List Cr} {y:Nat} {i:Nat} {x:Cr} (hs:SgOk x) (hy:y<=1000) (h1:t.1.length<=1000) (h12:t.2.length=t.1.length) (hu:Mk u t.2) (hv:Mk v t.1) :
  (stp4 x i t=none/\cg.pl3927 F C (k+5) D (t.1.length:Int) u v (y:Int) x.1 x.2.1 x.2.2.1 x.2.2.2.1 (sg x) 0=some false) \/
  (∃ t' u' v',stp4 x i t=some t'/\Mk u' t'.2/\Mk v' t'.1/\cg.pl3927 F C (k+5) D (t.1.length:Int) u v (y:Int) x.1 x.2.1 x.2.2.1 x.2.2.2.1 (sg x) 0=C D (t.1.length:Int) u' v' ((y+1:Nat):Int)):=by
 unfold stp4
 rcases cnt_step (F:=F) (C:=C) (k:=k+4) (t:=t) (D:=D) (y:=(y:Int)) (i:=i) (p:=0) hs (by decide) h1 h12 hu hv with ⟨e,r⟩ | ⟨a,u1,v1,e,hu1,hv1,r⟩
 ·exact .inl ⟨by rw [e];rfl,r⟩
 have r:cg.pl3927 F C (k+5) D (t.1.length:Int) u v (y:Int) x.1 x.2.1 x.2.2.1 x.2.2.2.1 (sg x) 0=_:=r
 rw [r,e]
 have l0:=stp_len e
 simp only [Option.bind_some]
 rcases cnt_step (F:=F) (C:=C) (k:=k+3) (t:=a) (D:=D) (y:=(y:Int)) (i:=i) (p:=1) hs (by decide) (by omega) (by omega) hu1 hv1 with ⟨e,r⟩ | ⟨b,u2,v2,e,hu2,hv2,r⟩
 ·rw [l0.1] at r
  exact .inl ⟨by rw [e];rfl,r⟩
 rw [l0.1] at r
 rw [show ((0+1:Nat):Int)=((1:Nat):Int) from rfl,r,e]
 have l1:=stp_len e
 simp only [Option.bind_some]
 rcases cnt_step (F:=F) (C:=C) (k:=k+2) (t:=b) (D:=D) (y:=(y:Int)) (i:=i) (p:=2) hs (by decide) (by omega) (by omega) hu2 hv2 with ⟨e,r⟩ | ⟨c,u3,v3,e,hu3,hv3,r⟩
 ·rw [l1.1,l0.1] at r
  exact .inl ⟨by rw [e];rfl,r⟩
 rw [l1.1,l0.1] at r
 rw [show ((1+1:Nat):Int)=((2:Nat):Int) from rfl,r,e]
 have l2:=stp_len e
 simp only [Option.bind_some]
 rcases cnt_step (F:=F) (C:=C) (k:=k+1) (t:=c) (D:=D) (y:=(y:Int)) (i:=i) (p:=3) hs (by decide) (by omega) (by omega) hu3 hv3 with ⟨e,r⟩ | ⟨d,u4,v4,e,hu4,hv4,r⟩
 ·rw [l2.1,l1.1,l0.1] at r
  exact .inl ⟨e,r⟩
 rw [l2.1,l1.1,l0.1] at r
 rw [show ((2+1:Nat):Int)=((3:Nat):Int) from rfl,r]
 refine .inr ⟨d,u4,v4,e,hu4,hv4,?_⟩
 rw [cg.pl3927,show decide (((3+1:Nat):Int)<4)=false by decide,cond_false,ws (by omega)]
theorem cnt_run {D:List Cr} {N:Nat} (hD:D.length<=100) (hN:N<=1000) (hF:100<F):∀ (n g i:Nat) (t:Tb) (u v:List Bool),D.length - i=n->n<g->i<=D.length->t.1.length=N->t.2.length=N->Mk u t.2->Mk v t.1 ->
  ∃ b,cg.pl61 F g D (N:Int) u v (i:Int)=some b/\(b=true↔(∀ x∈D.drop i,SgOk x)/\∃ t',run i (D.drop i) t=some t'):=by
 intro n
 induction n with
 | zero=>
  intro g i t u v hn hg hi h1 h2 hu hv
  obtain ⟨g,rfl⟩:∃ g',g=g'+1:=⟨g - 1,by omega⟩
  refine ⟨true,?_,?_⟩
  ·rw [cg.pl61,dF (by omega),cond_false]
  ·rw [List.drop_eq_nil_of_le (by omega)]
   simp [run]
 | succ n ih=>
  intro g i t u v hn hg hi h1 h2 hu hv
  obtain ⟨g,rfl⟩:∃ g',g=g'+1:=⟨g - 1,by omega⟩
  have hlt:i<D.length:=by omega
  have hd:D.drop i=gt D i::D.drop (i+1):=by
   rw [List.drop_eq_getElem_cons hlt]
   congr 1
   have:=lJ hlt
   rw [List.getElem?_eq_getElem hlt] at this
   exact Option.some.inj this
  rw [cg.pl61,dT hlt,cond_true,ixn hlt,Option.bind_some,hd]
  obtain ⟨f,rfl⟩:∃ f,F=f+5:=⟨F - 5,by omega⟩
  by_cases hs:SgOk (gt D i)
  ·have key:cg.pl3927 (f+5) (cg.pl61 (f+5) g) (f+5) D (N:Int) u v (i:Int) (gt D i).1 (gt D i).2.1 (gt D i).2.2.1 (gt D i).2.2.2.1 (sg (gt D i)) 0=(bif sg (gt D i) != 1 then (bif sg (gt D i) != -1 then (some false) else cg.pl3927 (f+5) (cg.pl61 (f+5) g) (f+5) D (N:Int) u v (i:Int) (gt D i).1 (gt D i).2.1 (gt D i).2.2.1 (gt D i).2.2.2.1 (sg (gt D i)) 0) else cg.pl3927 (f+5) (cg.pl61 (f+5) g) (f+5) D (N:Int) u v (i:Int) (gt D i).1 (gt D i).2.1 (gt D i).2.2.1 (gt D i).2.2.2.1 (sg (gt D i)) 0):=by
    rcases hs with h | h <;> rw [h] <;> rfl
   have key:=key.symm
   unfold sg at key
   rw [key]
   subst h1
   rcases cnt4 (F:=f+5) (C:=cg.pl61 (f+5) g) (k:=f) (t:=t) (D:=D) (y:=i) (i:=i) hs (by omega) hN h2 hu hv with ⟨e,r⟩ | ⟨t',u',v',e,hu',hv',r⟩
   ·refine ⟨false,r,?_⟩
    constructor
    ·intro h;cases h
    ·rintro ⟨_,t',h⟩
     rw [run,e] at h;cases h
   ·have hl:=stp4_len e
    obtain ⟨b,q1,q2⟩:=ih g (i+1) t' u' v' (by omega) (by omega) (by omega) hl.1 (by omega) hu' hv'
    refine ⟨b,r.trans q1,q2.trans ?_⟩
    have hr:run i (gt D i::D.drop (i+1)) t=run (i+1) (D.drop (i+1)) t':=by rw [run,e];rfl
    rw [hr]
    constructor
    ·rintro ⟨a,b⟩;exact ⟨List.forall_mem_cons.2 ⟨hs,a⟩,b⟩
    ·rintro ⟨a,b⟩;exact ⟨(List.forall_mem_cons.1 a).2,b⟩
  ·refine ⟨false,?_,?_⟩
   ·have hs':¬ (sg (gt D i)=1\/sg (gt D i)=-1):=hs
    unfold sg at hs'
    rw [show ((gt D i).2.2.2.2 != 1)=true by simp;omega,cond_true,show ((gt D i).2.2.2.2 != -1)=true by simp;omega,cond_true]
   ·constructor
    ·intro h;cases h
    ·rintro ⟨a,_⟩;exact absurd ((List.forall_mem_cons.1 a).1) hs
end Go.Proofs.YtppbogklbhfboaaGreat.AE.DD
end
section
namespace Go.Proofs.YtppbogklbhfboaaGreat.AE.DD
open Go Go.AE Go.Proofs
variable {F:Nat}
def ce (b:Bool) (x:Cr):Nat->Nat
 | 0=>0
 | p+1=>ce b x p+(bif ent x p==b then 1 else 0)
theorem ce4 {b:Bool} {x:Cr} (hs:SgOk x):ce b x 4=2:=by
 rcases hs with h | h <;> cases b <;> simp only [ce,ent,h] <;> rfl
structure PS (b:Bool) (D:List Cr) (N i0 p0:Nat) (l:List (Int×Int)):Prop where
 len:l.length=N
 put:∀ i p:Nat,i<D.length->p<4->(i<i0\/i=i0/\p<p0)->ent (gt D i) p=b->0<=en (gt D i) p/\en (gt D i) p<N/\gt l (en (gt D i) p).toNat=((i:Int),(p:Int))
 get:∀ a:Nat,a<N->(gt l a).1<0\/∃ i p:Nat,i<D.length/\p<4/\(i<i0\/i=i0/\p<p0)/\ent (gt D i) p=b/\en (gt D i) p=a
 cnt:l.countP (λq=>decide (0<=q.1))=2 * i0+ce b (gt D i0) p0
variable {b:Bool} {D:List Cr} {N i0 p0:Nat} {l:List (Int×Int)}
theorem PS.put_step (h:PS b D N i0 p0 l) (hi:i0<D.length) (hp:p0<4) (he:ent (gt D i0) p0=b) (h0:0<=en (gt D i0) p0) (h1:en (gt D i0) p0<l.length) (h2:(gt l (en (gt D i0) p0).toNat).1<0) :
  PS b D N i0 (p0+1) (l.set (en (gt D i0) p0).toNat ((i0:Int),(p0:Int))) where
 len:=by rw [List.length_set];exact h.len
 put:=λi p hi' hp' hpr he'=>by
  by_cases e:i=i0/\p=p0
  ·obtain ⟨rfl,rfl⟩:=e
   exact ⟨h0,by rw [<- h.len];exact h1,gset_eq (by omega)⟩
  ·obtain ⟨q1,q2,q3⟩:=h.put i p hi' hp' (by omega) he'
   refine ⟨q1,q2,?_⟩
   rw [gset_ne,q3]
   intro e2
   rw [e2,q3] at h2
   simp only at h2;omega
 get:=λa ha=>by
  by_cases e:a=(en (gt D i0) p0).toNat
  ·right;exact ⟨i0,p0,hi,hp,by omega,he,by omega⟩
  ·rw [gset_ne (Ne.symm e)]
   rcases h.get a ha with q | ⟨i,p,q1,q2,q3,q4,q5⟩
   ·exact .inl q
   ·exact .inr ⟨i,p,q1,q2,by omega,q4,q5⟩
 cnt:=by
  have hlt:(en (gt D i0) p0).toNat<l.length:=by omega
  rw [List.countP_set hlt,h.cnt]
  have e:l[(en (gt D i0) p0).toNat]=gt l (en (gt D i0) p0).toNat:=by
   have:=lJ hlt
   rw [List.getElem?_eq_getElem hlt] at this
   exact Option.some.inj this
  rw [e,if_neg (by simp;omega),if_pos (by simp),ce,he]
  simp only [beq_self_eq_true,cond_true]
  omega
theorem PS.skip_step (h:PS b D N i0 p0 l) (he:ent (gt D i0) p0=!b):PS b D N i0 (p0+1) l where
 len:=h.len
 put:=λi p hi' hp' hpr he'=>by
  refine h.put i p hi' hp' ?_ he'
  by_cases e:i=i0/\p=p0
  ·obtain ⟨rfl,rfl⟩:=e
   rw [he] at he';cases b <;> simp at he'
  ·omega
 get:=λa ha=>by
  rcases h.get a ha with q | ⟨i,p,q1,q2,q3,q4,q5⟩
  ·exact .inl q
  ·exact .inr ⟨i,p,q1,q2,by omega,q4,q5⟩
 cnt:=by
  rw [h.cnt,ce,he]
  cases b <;> simp
theorem PS.next (h:PS b D N i0 4 l) (hs:SgOk (gt D i0)):PS b D N (i0+1) 0 l where
 len:=h.len
 put:=λi p hi' hp' hpr he'=>h.put i p hi' hp' (by omega) he'
 get:=λa ha=>by
  rcases h.get a ha with q | ⟨i,p,q1,q2,q3,q4,q5⟩
  ·exact .inl q
  ·exact .inr ⟨i,p,q1,q2,by omega,q4,q5⟩
 cnt:=by rw [h.cnt,ce4 hs];simp only [ce];omega
def PT (D:List Cr) (N i0 p0:Nat) (t:Tb):Prop:=PS false D N i0 p0 t.1/\PS true D N i0 p0 t.2
theorem PT.stp {t t':Tb} (h:PT D N i0 p0 t) (hi:i0<D.length) (hp:p0<4) (e:stp (gt D i0) i0 p0 t=some t'):PT D N i0 (p0+1) t':=by
 unfold DD.stp at e
 cases he:ent (gt D i0) p0 with
 | true=>
  rw [he,cond_true] at e
  obtain ⟨⟨c0,c1,c2⟩,e⟩:=lH e
  cases e
  exact ⟨h.1.skip_step he,h.2.put_step hi hp he c0 c1 c2⟩
 | false=>
  rw [he,cond_false] at e
  obtain ⟨⟨c0,c1,c2⟩,e⟩:=lH e
  cases e
  exact ⟨h.1.put_step hi hp he c0 c1 c2,h.2.skip_step he⟩
theorem PT.stp4 {t t':Tb} (h:PT D N i0 0 t) (hi:i0<D.length) (hs:SgOk (gt D i0)) (e:stp4 (gt D i0) i0 t=some t'):PT D N (i0+1) 0 t':=by
 unfold DD.stp4 at e
 obtain ⟨a,h1,e⟩:=ag e
 obtain ⟨b,h2,e⟩:=ag e
 obtain ⟨c,h3,e⟩:=ag e
 have:=(((h.stp hi (by decide) h1).stp hi (by decide) h2).stp hi (by decide) h3).stp hi (by decide) e
 exact ⟨this.1.next hs,this.2.next hs⟩
theorem drop_cons {D:List Cr} {i:Nat} (hlt:i<D.length):D.drop i=gt D i::D.drop (i+1):=by
 rw [List.drop_eq_getElem_cons hlt]
 congr 1
 have:=lJ hlt
 rw [List.getElem?_eq_getElem hlt] at this
 exact Option.some.inj this
theorem PT.run (hs:∀ x∈D,SgOk x):∀ (n i:Nat) (t t':Tb),D.length - i=n->i<=D.length->PT D N i 0 t->run i (D.drop i) t=some t'->PT D N D.length 0 t':=by
 intro n
 induction n with
 | zero=>
  intro i t t' hn hi h e
  rw [List.drop_eq_nil_of_le (by omega)] at e
  cases e
  obtain rfl:i=D.length:=by omega
  exact h
 | succ n ih=>
  intro i t t' hn hi h e
  have hlt:i<D.length:=by omega
  rw [drop_cons hlt,DD.run] at e
  obtain ⟨a,h1,e⟩:=ag e
  exact ih (i+1) a t' (by omega) (by omega) (h.stp4 hlt (hs _ (gmem hlt)) h1) e
theorem PS.start (b:Bool) (D:List Cr) (N:Nat):PS b D N 0 0 (List.replicate N (-1,0)) where
 len:=by simp
 put:=λi p _ _ h=>by omega
 get:=λa ha=>.inl (by rw [grep ha];decide)
 cnt:=by rw [List.countP_replicate];simp [ce]
structure TS (b:Bool) (D:List Cr) (l:List (Int×Int)):Prop where
 len:l.length=2 * D.length
 put:∀ i p:Nat,i<D.length->p<4->ent (gt D i) p=b->0<=en (gt D i) p/\en (gt D i) p<(2 * D.length:Nat)/\gt l (en (gt D i) p).toNat=((i:Int),(p:Int))
 get:∀ a:Nat,a<2 * D.length->∃ i p:Nat,i<D.length/\p<4/\ent (gt D i) p=b/\en (gt D i) p=a/\gt l a=((i:Int),(p:Int))
theorem PS.whole (h:PS b D (2 * D.length) D.length 0 l):TS b D l where
 len:=h.len
 put:=λi p hi hp he=>h.put i p hi hp (.inl hi) he
 get:=λa ha=>by
  have hc:=h.cnt
  rw [ce,Nat.add_zero,<-h.len,List.countP_eq_length] at hc
  have hm:=hc _ (gmem (by rw [h.len];exact ha:a<l.length))
  simp only [decide_eq_true_eq] at hm
  rcases h.get a ha with q | ⟨i,p,q1,q2,q3,q4,q5⟩
  ·omega
  ·refine ⟨i,p,q1,q2,q4,q5,?_⟩
   obtain ⟨_,_,q⟩:=h.put i p q1 q2 q3 q4
   rw [q5,Int.toNat_natCast] at q
   exact q
structure TB (D:List Cr) (t:Tb):Prop where
 sg:∀ x∈D,SgOk x
 fr:TS false D t.1
 to_:TS true D t.2
theorem run_TB {t:Tb} (hs:∀ x∈D,SgOk x) (h:run 0 D (List.replicate (2 * D.length) (-1,0),List.replicate (2 * D.length) (-1,0))=some t):TB D t:=by
 have:=PT.run (N:=2 * D.length) hs D.length 0 _ t (by omega) (by omega) ⟨PS.start _ _ _,PS.start _ _ _⟩ (by rw [List.drop_zero];exact h)
 exact ⟨hs,this.1.whole,this.2.whole⟩
end Go.Proofs.YtppbogklbhfboaaGreat.AE.DD
end
section
namespace Go.Proofs.YtppbogklbhfboaaGreat.AE.DD
open Go Go.AE Go.Proofs
variable {F:Nat}
theorem mul1:∀ m:Nat,m<64->IntKind.u64.wrap (m:Int)=(m:Int)/\bits_Mul64.p 0 1 (m:Int)=some (0,(m:Int)):=by decide
theorem rep_end {m:Nat} (hm:m<64) (hF:100<F):du.p F [((-1),0)] (m:Int)=some (List.replicate m (-1,0)):=by
 obtain ⟨h1,h2⟩:=mul1 m hm
 unfold du.p du.pj2
 rw [show decide ((m:Int)<0)=false from decide_eq_false (by omega),cond_false,h1,show IntKind.u64.wrap (([((-1:Int),(0:Int))].length:Nat):Int)=1 by decide]
 have h3:bits_Mul.p F 1 (m:Int)=some (0,(m:Int)):=by
  unfold bits_Mul.p
  rw [show bits_Mul64.p F 1 (m:Int)=bits_Mul64.p 0 1 (m:Int) from rfl,h2];rfl
 rw [h3,Option.bind_some]
 simp only [show decide ((0:Int)>0)=false by decide,cond_false,show decide ((m:Int)>9223372036854775807)=false from decide_eq_false (by omega)]
 unfold du.pj1
 rw [wn (by omega),mkn_of (by omega),Option.bind_some,Option.bind_some]
 unfold BU cpl
 cases m with
 | zero=>simp;omega
 | succ m=>
  have hl:([((-1:Int),(0:Int))].take (List.replicate (m+1) ((0:Int),(0:Int))).length++(List.replicate (m+1) ((0:Int),(0:Int))).drop [((-1:Int),(0:Int))].length)=(-1,0)::List.replicate m (0,0):=by simp
  rw [hl,if_pos ⟨by simp,by left;simp,by simp;omega,by simp;omega⟩]
  simp [gt,List.replicate_succ]
theorem arrows_whole {D:List Cr} (hD:D.length<=30) (hs:∀ x∈D,SgOk x) (hF:1000<F) :
  (run 0 D (List.replicate (2 * D.length) (-1,0),List.replicate (2 * D.length) (-1,0))=none/\∃ a b,cG.p F D=some (a,b,false)) \/
  (∃ t,run 0 D (List.replicate (2 * D.length) (-1,0),List.replicate (2 * D.length) (-1,0))=some t/\cG.p F D=some (t.1,t.2,true)):=by
 unfold cG.p
 rw [show (2:Int) * (D.length:Int)=((2 * D.length:Nat):Int) by omega,wn (by omega),rep_end (by omega) (by omega),Option.bind_some,Option.bind_some]
 have:=arr_run (F:=F) (by omega) hs (by omega) D.length F 0 (List.replicate (2 * D.length) (-1,0),List.replicate (2 * D.length) (-1,0)) (by omega) (by omega) (by omega) (by simp;omega) (by simp;omega)
 rw [List.drop_zero] at this
 exact this
theorem counts_whole {D:List Cr} (hD:D.length<=30) (hF:1000<F) :
  ∃ b,cg.p F D=some b/\(b=true↔(∀ x∈D,SgOk x)/\∃ t,run 0 D (List.replicate (2 * D.length) (-1,0),List.replicate (2 * D.length) (-1,0))=some t):=by
 unfold cg.p
 rw [show (2:Int) * (D.length:Int)=((2 * D.length:Nat):Int) by omega,wn (by omega),mkn_of (by omega),Option.bind_some,Option.bind_some]
 have hm:Mk (List.replicate (2 * D.length) false) (List.replicate (2 * D.length) ((-1:Int),(0:Int))):=⟨by simp,λa ha=>by rw [List.length_replicate] at ha;rw [grep ha,grep ha];decide⟩
 have:=cnt_run (F:=F) (D:=D) (N:=2 * D.length) (by omega) (by omega) (by omega) D.length F 0 (List.replicate (2 * D.length) (-1,0),List.replicate (2 * D.length) (-1,0)) _ _ (by omega) (by omega) (by omega) (by simp) (by simp) hm hm
 rw [List.drop_zero] at this
 exact this
variable {D:List Cr} {l:List (Int×Int)} {b:Bool}
theorem place_step {C:Int->Bool->List Cr->Int->Option (Int×Int)} {k c p:Nat} {a:Int} (hs:∀ x∈D,SgOk x) (hc:c<D.length) (hp:p<4) :
  bE.pl213 F C (k+1) a b D (c:Int) (p:Int)=(bif en (gt D c) p==a&&ent (gt D c) p==b then some ((c:Int),(p:Int)) else bE.pl213 F C k a b D (c:Int) ((p+1:Nat):Int)):=by
 rw [bE.pl213,show decide ((p:Int)<4)=true from decide_eq_true (by omega),cond_true,ixn hc,Option.bind_some,s_end hp,Option.bind_some,ws (by omega),Option.bind_some]
 have:=s_ent (F:=F) (x:=gt D c) (p:=p) (hs _ (gmem hc)) hp
 unfold sg at this
 rw [this,Option.bind_some]
 cases en (gt D c) p==a with
 | true=>rw [cond_true,Bool.true_and]
 | false=>rw [cond_false,Bool.false_and,cond_false]
theorem place_row {C:Int->Bool->List Cr->Int->Option (Int×Int)} {c:Nat} {a:Int} (hs:∀ x∈D,SgOk x) (hc:c<D.length) (hD:D.length<=100) (hno:∀ p:Nat,p<4->ent (gt D c) p=b->en (gt D c) p≠a):∀ (m k p:Nat),4 - p=m->p<=4->m<k ->
  bE.pl213 F C k a b D (c:Int) (p:Int)=C a b D ((c+1:Nat):Int):=by
 intro m
 induction m with
 | zero=>
  intro k p hm hp hk
  obtain ⟨k,rfl⟩:∃ k',k=k'+1:=⟨k - 1,by omega⟩
  obtain rfl:p=4:=by omega
  rw [bE.pl213,show decide (((4:Nat):Int)<4)=false by decide,cond_false]
  unfold bE.pj4 bE.pj3
  rw [ws (by omega)]
 | succ m ih=>
  intro k p hm hp hk
  obtain ⟨k,rfl⟩:∃ k',k=k'+1:=⟨k - 1,by omega⟩
  rw [place_step hs hc (by omega)]
  have:(en (gt D c) p==a&&ent (gt D c) p==b)=false:=by
   cases h:(en (gt D c) p==a&&ent (gt D c) p==b) with
   | false=>rfl
   | true=>
    simp only [Bool.and_eq_true,beq_iff_eq] at h
    exact absurd h.1 (hno p (by omega) h.2)
  rw [this,cond_false]
  exact ih k (p+1) (by omega) (by omega) (by omega)
theorem place_hit {C:Int->Bool->List Cr->Int->Option (Int×Int)} {c p0:Nat} {a:Int} (hs:∀ x∈D,SgOk x) (hc:c<D.length) (hp0:p0<4) (hy:en (gt D c) p0=a) (hb:ent (gt D c) p0=b) (hno:∀ p:Nat,p<p0->ent (gt D c) p=b->en (gt D c) p≠a):∀ (m k p:Nat),p0 - p=m->p<=p0->m<k ->
  bE.pl213 F C k a b D (c:Int) (p:Int)=some ((c:Int),(p0:Int)):=by
 intro m
 induction m with
 | zero=>
  intro k p hm hp hk
  obtain ⟨k,rfl⟩:∃ k',k=k'+1:=⟨k - 1,by omega⟩
  obtain rfl:p=p0:=by omega
  rw [place_step hs hc hp0,hy,hb]
  simp
 | succ m ih=>
  intro k p hm hp hk
  obtain ⟨k,rfl⟩:∃ k',k=k'+1:=⟨k - 1,by omega⟩
  rw [place_step hs hc (by omega)]
  have:(en (gt D c) p==a&&ent (gt D c) p==b)=false:=by
   cases h:(en (gt D c) p==a&&ent (gt D c) p==b) with
   | false=>rfl
   | true=>
    simp only [Bool.and_eq_true,beq_iff_eq] at h
    exact absurd h.1 (hno p (by omega) h.2)
  rw [this,cond_false]
  exact ih k (p+1) (by omega) (by omega) (by omega)
theorem place_of {a:Nat} (hs:∀ x∈D,SgOk x) (h:TS b D l) (ha:a<2 * D.length) (hD:D.length<=30) (hF:1000<F):bE.p F D (a:Int) b=some (gt l a):=by
 obtain ⟨i0,p0,hi,hp,hb,hy,e⟩:=h.get a ha
 rw [e]
 have uniq:∀ i p:Nat,i<D.length->p<4->ent (gt D i) p=b->en (gt D i) p=a->i=i0/\p=p0:=λi p q1 q2 q3 q4=>by
  obtain ⟨_,_,q⟩:=h.put i p q1 q2 q3
  rw [q4,Int.toNat_natCast,e] at q
  simp only [Prod.mk.injEq] at q
  omega
 unfold bE.p
 have key:∀ (m g c:Nat),i0 - c=m->c<=i0->m<g->bE.pl13 F g (a:Int) b D (c:Int)=some ((i0:Int),(p0:Int)):=by
  intro m
  induction m with
  | zero=>
   intro g c hm hc hg
   obtain ⟨g,rfl⟩:∃ k',g=k'+1:=⟨g - 1,by omega⟩
   obtain rfl:c=i0:=by omega
   rw [bE.pl13,dT hi,cond_true]
   exact place_hit hs hi hp hy hb (λp q1 q2 q3=>by have:=uniq c p hi (by omega) q2 q3;omega) p0 F 0 (by omega) (by omega) (by omega)
  | succ m ih=>
   intro g c hm hc hg
   obtain ⟨g,rfl⟩:∃ k',g=k'+1:=⟨g - 1,by omega⟩
   rw [bE.pl13,dT (by omega),cond_true]
   have:=place_row (F:=F) (C:=bE.pl13 F g) (c:=c) (a:=(a:Int)) hs (by omega) (by omega) (λp q1 q2 q3=>by have:=uniq c p (by omega) q1 q2 q3;omega) 4 F 0 (by omega) (by omega) (by omega)
   have this:bE.pl213 F (bE.pl13 F g) F (a:Int) b D (c:Int) 0=_:=this
   rw [this]
   exact ih g (c+1) (by omega) (by omega) (by omega)
 exact key i0 F 0 (by omega) (by omega) (by omega)
def oth (D:List Cr) (t:Tb) (c p:Nat):Int×Int:=bif ent (gt D c) p then gt t.1 (en (gt D c) p).toNat else gt t.2 (en (gt D c) p).toNat
def suc (D:List Cr) (t:Tb) (k:Nat):Nat:=4 * (oth D t (k / 4) ((k+1) % 4)).1.toNat+(oth D t (k / 4) ((k+1) % 4)).2.toNat
theorem oth_is {t:Tb} (h:TB D t) {c p:Nat} (hc:c<D.length) (hp:p<4):∃ i q:Nat,oth D t c p=((i:Int),(q:Int))/\i<D.length/\q<4/\ent (gt D i) q=!(ent (gt D c) p)/\en (gt D i) q=en (gt D c) p:=by
 unfold oth
 cases he:ent (gt D c) p with
 | true=>
  obtain ⟨h0,h1,_⟩:=h.to_.put c p hc hp he
  obtain ⟨i,q,a1,a2,a3,a4,a5⟩:=h.fr.get (en (gt D c) p).toNat (by omega)
  exact ⟨i,q,a5,a1,a2,a3,by omega⟩
 | false=>
  obtain ⟨h0,h1,_⟩:=h.fr.put c p hc hp he
  obtain ⟨i,q,a1,a2,a3,a4,a5⟩:=h.to_.get (en (gt D c) p).toNat (by omega)
  exact ⟨i,q,a5,a1,a2,a3,by omega⟩
theorem oth_oth {t:Tb} (h:TB D t) {c p i q:Nat} (hc:c<D.length) (hp:p<4) (e:oth D t c p=((i:Int),(q:Int))) (hi:i<D.length) (hq:q<4):oth D t i q=((c:Int),(p:Int)):=by
 obtain ⟨i',q',e',_,_,e3,e4⟩:=oth_is h hc hp
 rw [e] at e'
 simp only [Prod.mk.injEq,Int.natCast_inj] at e'
 obtain ⟨rfl,rfl⟩:=e'
 unfold oth
 rw [e3,e4]
 cases he:ent (gt D c) p with
 | true=>exact (h.to_.put c p hc hp he).2.2
 | false=>exact (h.fr.put c p hc hp he).2.2
theorem suc_lt {t:Tb} (h:TB D t) {k:Nat} (hk:k<4 * D.length):suc D t k<4 * D.length:=by
 obtain ⟨i,q,e,h1,h2,_⟩:=oth_is h (c:=k / 4) (p:=(k+1) % 4) (by omega) (by omega)
 unfold suc
 rw [e];simp only [Int.toNat_natCast];omega
theorem suc_inj {t:Tb} (h:TB D t) {k k':Nat} (hk:k<4 * D.length) (hk':k'<4 * D.length) (e:suc D t k=suc D t k'):k=k':=by
 obtain ⟨i,q,e1,h1,h2,_⟩:=oth_is h (c:=k / 4) (p:=(k+1) % 4) (by omega) (by omega)
 obtain ⟨i',q',e1',h1',h2',_⟩:=oth_is h (c:=k' / 4) (p:=(k'+1) % 4) (by omega) (by omega)
 unfold suc at e
 rw [e1,e1'] at e
 simp only [Int.toNat_natCast] at e
 obtain rfl:i=i':=by omega
 obtain rfl:q=q':=by omega
 have a:=oth_oth h (by omega) (by omega) e1 h1 h2
 have b:=oth_oth h (by omega) (by omega) e1' h1 h2
 rw [a] at b
 simp only [Prod.mk.injEq,Int.natCast_inj] at b
 omega
theorem tdiv4 (k:Nat):Int.tdiv (k:Int) 4=((k / 4:Nat):Int):=by
 rw [Int.tdiv_eq_ediv_of_nonneg (by omega)];omega
theorem tmod4 (k:Nat):Int.tmod (k:Int) 4=((k % 4:Nat):Int):=by
 rw [Int.tmod_eq_emod_of_nonneg (by omega)];omega
theorem akN {t:Tb} (h:TB D t) {k:Nat} (hk:k<4 * D.length) (hD:D.length<=30) (hF:1000<F):gO.p F D (k:Int)=some ((suc D t k:Nat):Int):=by
 have hc:k / 4<D.length:=by omega
 unfold gO.p
 rw [tdiv4,tmod4,ws (by omega),tmod4,wn (by omega),ixn hc,Option.bind_some,show (k % 4+1) % 4=(k+1) % 4 by omega,s_end (by omega),Option.bind_some]
 have:=s_ent (F:=F) (x:=gt D (k / 4)) (p:=(k+1) % 4) (h.sg _ (gmem hc)) (by omega)
 unfold sg at this
 rw [this,Option.bind_some]
 obtain ⟨i,q,e,h1,h2,_⟩:=oth_is h (c:=k / 4) (p:=(k+1) % 4) hc (by omega)
 have hpl:bE.p F D (en (gt D (k / 4)) ((k+1) % 4)) (!(ent (gt D (k / 4)) ((k+1) % 4)))=some (oth D t (k / 4) ((k+1) % 4)):=by
  unfold oth
  cases he:ent (gt D (k / 4)) ((k+1) % 4) with
  | true=>
   obtain ⟨h0,h1,_⟩:=h.to_.put _ _ hc (by omega) he
   have:=place_of (F:=F) (a:=(en (gt D (k / 4)) ((k+1) % 4)).toNat) h.sg h.fr (by omega) hD hF
   rw [Int.toNat_of_nonneg h0] at this
   exact this
  | false=>
   obtain ⟨h0,h1,_⟩:=h.fr.put _ _ hc (by omega) he
   have:=place_of (F:=F) (a:=(en (gt D (k / 4)) ((k+1) % 4)).toNat) h.sg h.to_ (by omega) hD hF
   rw [Int.toNat_of_nonneg h0] at this
   exact this
 rw [hpl,Option.bind_some]
 unfold suc
 rw [e]
 simp only [Int.toNat_natCast]
 rw [bX (x:=4 * (i:Int)) (by omega) (by omega),bX (by omega) (by omega)]
 congr 1
theorem akO {t:Tb} (h:TB D t) {c p:Nat} (hc:c<D.length) (hp:p<4):hG.p F D t.1 t.2 (c:Int) (p:Int)=some (oth D t c p):=by
 unfold hG.p jd.p
 rw [ixn hc,Option.bind_some,Option.bind_some,if_pos ⟨by omega,by omega⟩]
 have:=i_ent (F:=F) (x:=gt D c) (p:=p) (h.sg _ (gmem hc))
 unfold sg at this
 rw [this,Option.bind_some]
 have he:gt [(gt D c).1,(gt D c).2.1,(gt D c).2.2.1,(gt D c).2.2.2.1] ((p:Int)).toNat=en (gt D c) p:=by rw [Int.toNat_natCast];rfl
 simp only [he]
 unfold oth
 cases hb:ent (gt D c) p with
 | true=>
  obtain ⟨h0,h1,_⟩:=h.to_.put c p hc hp hb
  rw [cond_true,cond_true,ix_of h0 (by rw [h.fr.len];exact h1),Option.bind_some]
 | false=>
  obtain ⟨h0,h1,_⟩:=h.fr.put c p hc hp hb
  rw [cond_false,cond_false,ix_of h0 (by rw [h.to_.len];exact h1),Option.bind_some]
end Go.Proofs.YtppbogklbhfboaaGreat.AE.DD
end
section
namespace Go.Proofs.YtppbogklbhfboaaGreat.AE.DD
open Go Go.AE Go.Proofs
inductive Orb (σ:Nat->Nat):List Bool->Nat->List Int->List Bool->List Int->Prop where
 | stop {done:List Bool} {k:Nat} {acc:List Int} (h:gt done k=true):Orb σ done k acc done acc
 | go {done done':List Bool} {k:Nat} {acc acc':List Int} (h:gt done k=false) (t:Orb σ (done.set k true) (σ k) (acc++[(k:Int)]) done' acc'):Orb σ done k acc done' acc'
inductive Orbs (σ:Nat->Nat) (M:Nat):List Bool->Nat->List (List Int)->List (List Int)->Prop where
 | fin {done:List Bool} {k:Nat} {out:List (List Int)} (h:M<=k):Orbs σ M done k out out
 | skip {done:List Bool} {k:Nat} {out R:List (List Int)} (h:k<M) (hd:gt done k=true) (t:Orbs σ M done (k+1) out R):Orbs σ M done k out R
 | go {done done':List Bool} {k:Nat} {acc:List Int} {out R:List (List Int)} (h:k<M) (hd:gt done k=false) (o:Orb σ done k [] done' acc) (t:Orbs σ M done' (k+1) (out++[acc]) R):Orbs σ M done k out R
def nf (done:List Bool):Nat:=done.countP (λb=>!b)
theorem gt_eq {α:Type} [Inhabited α] {l:List α} {n:Nat} (h:n<l.length):l[n]=gt l n:=by
 have:=lJ h
 rw [List.getElem?_eq_getElem h] at this
 exact Option.some.inj this
theorem nf_set {done:List Bool} {k:Nat} (hk:k<done.length) (h:gt done k=false):nf (done.set k true)+1=nf done:=by
 unfold nf
 rw [List.countP_set hk,gt_eq hk,h]
 have:0<done.countP (λb=>!b):=List.countP_pos_iff.2 ⟨false,by rw [<- h];exact gmem hk,rfl⟩
 simp;omega
theorem nf_le (done:List Bool):nf done<=done.length:=List.countP_le_length
def Con (σ:Nat->Nat) (M x y:Nat):Prop:=∀ S:Nat->Prop,(∀ k,k<M->(S k↔S (σ k)))->(S x↔S y)
section
variable {σ:Nat->Nat} {M:Nat}
theorem orb_spec (hlt:∀ x,x<M->σ x<M) (hinj:∀ x y,x<M->y<M->σ x=σ y->x=y) {done:List Bool} {k:Nat} (hl:done.length=M) (hk:k<M) (hd:gt done k=false) (hc:∀ x,x<M->(gt done x=true↔gt done (σ x)=true)) :
  ∀ (n:Nat) (dn:List Bool) (at_:Nat) (acc:List Int),nf dn=n->dn.length=M->at_<M->(∀ x,x<M->(gt dn x=true↔gt done x=true\/(x:Int)∈acc)) ->
   (∀ z∈acc,∃ x:Nat,x<M/\z=x/\gt done x=false/\Con σ M k x)->Con σ M k at_->(∀ x,x<M->(x:Int)∈acc->gt dn (σ x)=true\/σ x=at_)->(∀ x,x<M->gt dn (σ x)=true->gt dn x=true\/σ x=k) ->
   (gt dn at_=true->at_=k)->((acc=[]/\at_=k)\/∃ y,y<M/\gt dn y=true/\σ y=at_)->acc.length+nf dn<=M ->
   ∃ done' acc',Orb σ dn at_ acc done' acc'/\done'.length=M/\(∀ x,x<M->(gt done' x=true↔gt done x=true\/(x:Int)∈acc'))/\(∀ z∈acc',∃ x:Nat,x<M/\z=x/\gt done x=false/\Con σ M k x)/\(k:Int)∈acc'/\(∀ x:Nat,x<M->(x:Int)∈acc'->((σ x:Nat):Int)∈acc')/\(∀ x,x<M->(gt done' x=true↔gt done' (σ x)=true))/\acc'.length<=M:=by
 have fin_:∀ (dn:List Bool) (acc:List Int) (k':Nat),dn.length=M->gt dn k'=true->(k':Int)∈acc->(∀ x,x<M->(gt dn x=true↔gt done x=true\/(x:Int)∈acc))->(∀ z∈acc,∃ x:Nat,x<M/\z=x/\gt done x=false/\Con σ M k' x) ->
   (∀ x,x<M->(x:Int)∈acc->gt dn (σ x)=true\/σ x=k')->(∀ x,x<M->gt dn (σ x)=true->gt dn x=true\/σ x=k')->((acc=[]/\k'=k')\/∃ y,y<M/\gt dn y=true/\σ y=k')->acc.length<=M ->
   ∃ done' acc',Orb σ dn k' acc done' acc'/\done'.length=M/\(∀ x,x<M->(gt done' x=true↔gt done x=true\/(x:Int)∈acc'))/\(∀ z∈acc',∃ x:Nat,x<M/\z=x/\gt done x=false/\Con σ M k' x)/\(k':Int)∈acc'/\(∀ x:Nat,x<M->(x:Int)∈acc'->((σ x:Nat):Int)∈acc')/\(∀ x,x<M->(gt done' x=true↔gt done' (σ x)=true))/\acc'.length<=M:=by
  intro dn acc k' h1 hat hka i2 i3 i5 i6 i8 i9
  have hs:∀ x,x<M->(x:Int)∈acc->gt dn (σ x)=true:=λx hx hxa=>by
   rcases i5 x hx hxa with q | q
   ·exact q
   ·rw [q];exact hat
  refine ⟨dn,acc,.stop hat,h1,i2,i3,hka,λx hx hxa=>?_,λx hx=>⟨λq=>?_,λq=>?_⟩,i9⟩
  ·rcases (i2 _ (hlt x hx)).1 (hs x hx hxa) with q | q
   ·obtain ⟨y,hy,e,hf,_⟩:=i3 _ hxa
    obtain rfl:x=y:=by omega
    rw [(hc x hx).2 q] at hf;cases hf
   ·exact q
  ·rcases (i2 x hx).1 q with q | q
   ·exact (i2 _ (hlt x hx)).2 (.inl ((hc x hx).1 q))
   ·exact hs x hx q
  ·rcases i6 x hx q with q | q
   ·exact q
   ·rcases i8 with ⟨e,_⟩ | ⟨y,hy,hyd,e⟩
    ·rw [e] at hka;cases hka
    ·rw [hinj x y hx hy (q.trans e.symm)];exact hyd
 intro n
 induction n with
 | zero=>
  intro dn at_ acc hn h1 h2 i2 i3 i4 i5 i6 i7 i8 i9
  have hat:gt dn at_=true:=by
   cases h:gt dn at_ with
   | true=>rfl
   | false=>have:=nf_set (by omega) h;omega
  obtain rfl:=i7 hat
  have hka:(at_:Int)∈acc:=by rcases (i2 at_ hk).1 hat with q | q;(rw [hd] at q;cases q);exact q
  exact fin_ dn acc at_ h1 hat hka i2 i3 i5 i6 i8 (by omega)
 | succ n ih=>
  intro dn at_ acc hn h1 h2 i2 i3 i4 i5 i6 i7 i8 i9
  cases hat:gt dn at_ with
  | true=>
   obtain rfl:=i7 hat
   have hka:(at_:Int)∈acc:=by rcases (i2 at_ hk).1 hat with q | q;(rw [hd] at q;cases q);exact q
   exact fin_ dn acc at_ h1 hat hka i2 i3 i5 i6 i8 (by omega)
  | false=>
   have hset:∀ x,x<M->(gt (dn.set at_ true) x=true↔gt dn x=true\/x=at_):=λx hx=>by
    by_cases e:at_=x
    ·subst e;rw [gset_eq (by omega)];simp
    ·rw [gset_ne e];constructor
     ·exact .inl
     ·rintro (q | q);exact q;exact absurd q.symm e
   have hnd:gt done at_=false:=by
    cases h:gt done at_ with
    | false=>rfl
    | true=>rw [(i2 at_ h2).2 (.inl h)] at hat;cases hat
   have hstep:Con σ M k (σ at_):=λS hS=>(i4 S hS).trans (hS at_ h2)
   obtain ⟨done',acc',o,q1,q2,q3,q4,q5⟩:=ih (dn.set at_ true) (σ at_) (acc++[(at_:Int)]) (by have:=nf_set (by omega) hat;omega) (by rw [List.length_set];exact h1) (hlt _ h2)
    (λx hx=>by
     rw [hset x hx,i2 x hx]
     simp only [List.mem_append,List.mem_singleton,Int.natCast_inj,or_assoc])
    (λz hz=>by
     rcases List.mem_append.1 hz with hz | hz
     ·exact i3 z hz
     ·exact ⟨at_,h2,by simpa using hz,hnd,i4⟩)
    hstep
    (λx hx hxa=>by
     rcases List.mem_append.1 hxa with hxa | hxa
     ·left;rw [hset _ (hlt x hx)]
      rcases i5 x hx hxa with q | q
      ·exact .inl q
      ·exact .inr q
     ·right;obtain rfl:x=at_:=by have:=List.mem_singleton.1 hxa;omega
      rfl)
    (λx hx hs=>by
     rw [hset _ (hlt x hx)] at hs
     rw [hset x hx]
     rcases hs with q | q
     ·rcases i6 x hx q with q | q
      ·exact .inl (.inl q)
      ·exact .inr q
     ·rcases i8 with ⟨_,e⟩ | ⟨y,hy,hyd,e⟩
      ·exact .inr (q.trans e)
      ·exact .inl (.inl (by rw [hinj x y hx hy (q.trans e.symm)];exact hyd)))
    (λhs=>by
     rw [hset _ (hlt _ h2)] at hs
     rcases hs with q | q
     ·rcases i6 at_ h2 q with q | q
      ·rw [hat] at q;cases q
      ·exact q
     ·rcases i8 with ⟨_,e⟩ | ⟨y,hy,hyd,e⟩
      ·exact q.trans e
      ·have:=hinj y at_ hy h2 (e.trans q.symm)
       rw [this,hat] at hyd;cases hyd)
    (.inr ⟨at_,h2,by rw [hset _ h2];exact .inr rfl,rfl⟩)
    (by have:=nf_set (by omega) hat;rw [List.length_append,List.length_singleton];omega)
   exact ⟨done',acc',.go hat o,q1,q2,q3,q4,q5⟩
theorem orb_one (hlt:∀ x,x<M->σ x<M) (hinj:∀ x y,x<M->y<M->σ x=σ y->x=y) {done:List Bool} {k:Nat} (hl:done.length=M) (hk:k<M) (hd:gt done k=false) (hc:∀ x,x<M->(gt done x=true↔gt done (σ x)=true)) :
  ∃ done' acc',Orb σ done k [] done' acc'/\done'.length=M/\(∀ x,x<M->(gt done' x=true↔gt done x=true\/(x:Int)∈acc'))/\(∀ z∈acc',∃ x:Nat,x<M/\z=x/\gt done x=false/\Con σ M k x)/\(k:Int)∈acc'/\(∀ x:Nat,x<M->(x:Int)∈acc'->((σ x:Nat):Int)∈acc')/\(∀ x,x<M->(gt done' x=true↔gt done' (σ x)=true))/\acc'.length<=M:=
 orb_spec hlt hinj hl hk hd hc (nf done) done k [] rfl hl hk (λx hx=>by simp) (λz hz=>by cases hz) (λS hS=>Iff.rfl) (λx hx h=>by cases h) (λx hx h=>.inl ((hc x hx).2 h)) (λh=>absurd (hd.symm.trans h) (by decide)) (.inl ⟨rfl,rfl⟩) (by have:=nf_le done;simp;omega)
structure Part (σ:Nat->Nat) (M:Nat) (R:List (List Int)) (done:List Bool):Prop where
 len:done.length=M
 mem:∀ x:Nat,x<M->(gt done x=true↔∃ j,j<R.length/\(x:Int)∈gt R j)
 elt:∀ j,j<R.length->∀ z∈gt R j,∃ x:Nat,x<M/\z=x
 one:∀ (x:Nat) (j j':Nat),j<R.length->j'<R.length->(x:Int)∈gt R j->(x:Int)∈gt R j'->j=j'
 suc:∀ (x:Nat) (j:Nat),x<M->j<R.length->(x:Int)∈gt R j->((σ x:Nat):Int)∈gt R j
 con:∀ (x y:Nat) (j:Nat),j<R.length->(x:Int)∈gt R j->(y:Int)∈gt R j->Con σ M x y
 ne:∀ j,j<R.length->gt R j≠[]
 clo:∀ x,x<M->(gt done x=true↔gt done (σ x)=true)
 sz:∀ j,j<R.length->(gt R j).length<=M
theorem Con.symm {x y:Nat} (h:Con σ M x y):Con σ M y x:=λS hS=>(h S hS).symm
theorem Con.trans {x y z:Nat} (h:Con σ M x y) (h':Con σ M y z):Con σ M x z:=λS hS=>(h S hS).trans (h' S hS)
theorem Part.start (hlt:∀ x,x<M->σ x<M):Part σ M [] (List.replicate M false) where
 len:=by simp
 mem:=λx hx=>by rw [grep hx];simp
 elt:=λj hj=>by simp at hj
 one:=λx j j' hj=>by simp at hj
 suc:=λx j _ hj=>by simp at hj
 con:=λx y j hj=>by simp at hj
 ne:=λj hj=>by simp at hj
 clo:=λx hx=>by rw [grep hx,grep (hlt x hx)]
 sz:=λj hj=>by simp at hj
theorem Part.add {R:List (List Int)} {done done':List Bool} {k:Nat} {acc:List Int} (h:Part σ M R done) (q1:done'.length=M) (q2:∀ x,x<M->(gt done' x=true↔gt done x=true\/(x:Int)∈acc)) (q3:∀ z∈acc,∃ x:Nat,x<M/\z=x/\gt done x=false/\Con σ M k x) (q4:(k:Int)∈acc)
  (q5:∀ x:Nat,x<M->(x:Int)∈acc->((σ x:Nat):Int)∈acc) (q6:∀ x,x<M->(gt done' x=true↔gt done' (σ x)=true)) (q7:acc.length<=M):Part σ M (R++[acc]) done':=by
 have hg:∀ j,j<(R++[acc]).length->(j<R.length/\gt (R++[acc]) j=gt R j)\/(j=R.length/\gt (R++[acc]) j=acc):=λj hj=>by
  simp only [List.length_append,List.length_singleton] at hj
  by_cases e:j<R.length
  ·exact .inl ⟨e,gapp_lt e⟩
  ·obtain rfl:j=R.length:=by omega
   exact .inr ⟨rfl,gapp_eq⟩
 have hlast:R.length<(R++[acc]).length:=by simp
 refine ⟨q1,λx hx=>?_,λj hj z hz=>?_,λx j j' hj hj' hm hm'=>?_,λx j hx hj hm=>?_,λx y j hj hx hy=>?_,λj hj=>?_,q6,λj hj=>?_⟩
 ·rw [q2 x hx,h.mem x hx]
  constructor
  ·rintro (⟨j,hj,hm⟩ | hm)
   ·exact ⟨j,by simp;omega,by rw [gapp_lt hj];exact hm⟩
   ·exact ⟨R.length,hlast,by rw [gapp_eq];exact hm⟩
  ·rintro ⟨j,hj,hm⟩
   rcases hg j hj with ⟨e,g⟩ | ⟨e,g⟩
   ·exact .inl ⟨j,e,by rw [<- g];exact hm⟩
   ·exact .inr (by rw [<- g];exact hm)
 ·rcases hg j hj with ⟨e,g⟩ | ⟨e,g⟩
  ·rw [g] at hz;exact h.elt j e z hz
  ·rw [g] at hz;obtain ⟨x,a,b,_⟩:=q3 z hz;exact ⟨x,a,b⟩
 ·have cross:∀ j,j<R.length->(x:Int)∈gt R j->(x:Int)∈acc->False:=λj hj h1 h2=>by
   obtain ⟨y,a,b,c,_⟩:=q3 _ h2
   obtain rfl:x=y:=by omega
   have:=(h.mem x a).2 ⟨j,hj,h1⟩
   rw [c] at this;cases this
  rcases hg j hj with ⟨e,g⟩ | ⟨e,g⟩ <;> rcases hg j' hj' with ⟨e',g'⟩ | ⟨e',g'⟩ <;> rw [g] at hm <;> rw [g'] at hm'
  ·exact h.one x j j' e e' hm hm'
  ·exact (cross j e hm hm').elim
  ·exact (cross j' e' hm' hm).elim
  ·omega
 ·rcases hg j hj with ⟨e,g⟩ | ⟨e,g⟩ <;> rw [g] at hm ⊢
  ·exact h.suc x j hx e hm
  ·exact q5 x hx hm
 ·rcases hg j hj with ⟨e,g⟩ | ⟨e,g⟩ <;> rw [g] at hx hy
  ·exact h.con x y j e hx hy
  ·obtain ⟨x',_,e1,_,c1⟩:=q3 _ hx
   obtain ⟨y',_,e2,_,c2⟩:=q3 _ hy
   obtain rfl:x=x':=by omega
   obtain rfl:y=y':=by omega
   exact c1.symm.trans c2
 ·rcases hg j hj with ⟨e,g⟩ | ⟨e,g⟩ <;> rw [g]
  ·exact h.ne j e
  ·intro e2;rw [e2] at q4;cases q4
 ·rcases hg j hj with ⟨e,g⟩ | ⟨e,g⟩ <;> rw [g]
  ·exact h.sz j e
  ·exact q7
theorem orbs_all (hlt:∀ x,x<M->σ x<M) (hinj:∀ x y,x<M->y<M->σ x=σ y->x=y):∀ (n k:Nat) (done:List Bool) (out:List (List Int)),M - k=n->k<=M->Part σ M out done->(∀ x,x<k->gt done x=true) ->
  ∃ R done',Orbs σ M done k out R/\Part σ M R done'/\(∀ x,x<M->gt done' x=true)/\R.length<=out.length+n:=by
 intro n
 induction n with
 | zero=>
  intro k done out hn hk h hd
  exact ⟨out,done,.fin (by omega),h,λx hx=>hd x (by omega),by omega⟩
 | succ n ih=>
  intro k done out hn hk h hd
  cases hdk:gt done k with
  | true=>
   obtain ⟨R,done',o,q1,q2,q3⟩:=ih (k+1) done out (by omega) (by omega) h (λx hx=>by
    by_cases e:x=k
    ·subst e;exact hdk
    ·exact hd x (by omega))
   exact ⟨R,done',.skip (by omega) hdk o,q1,q2,by omega⟩
  | false=>
   obtain ⟨d',acc,o,q1,q2,q3,q4,q5,q6,q7⟩:=orb_one hlt hinj h.len (by omega) hdk h.clo
   obtain ⟨R,done',o',r1,r2,r3⟩:=ih (k+1) d' (out++[acc]) (by omega) (by omega) (h.add q1 q2 q3 q4 q5 q6 q7) (λx hx=>by
    rw [q2 x (by omega)]
    by_cases e:x=k
    ·subst e;exact .inr q4
    ·exact .inl (hd x (by omega)))
   rw [List.length_append,List.length_singleton] at r3
   exact ⟨R,done',.go (by omega) hdk o o',r1,r2,by omega⟩
theorem orbs_whole (hlt:∀ x,x<M->σ x<M) (hinj:∀ x y,x<M->y<M->σ x=σ y->x=y) :
  ∃ R done',Orbs σ M (List.replicate M false) 0 [] R/\Part σ M R done'/\(∀ x,x<M->gt done' x=true)/\R.length<=M:=by
 obtain ⟨R,d,o,q1,q2,q3⟩:=orbs_all hlt hinj M 0 _ [] (by omega) (by omega) (Part.start hlt) (λx hx=>by omega)
 exact ⟨R,d,o,q1,q2,by simpa using q3⟩
theorem Orb.acc_ne {done done':List Bool} {k:Nat} {acc acc':List Int} (h:Orb σ done k acc done' acc'):acc≠[]->acc'≠[]:=by
 induction h with
 | stop h=>exact id
 | go h t ih=>exact λ_=>ih (by simp)
theorem Orb.len {done done':List Bool} {k:Nat} {acc acc':List Int} (h:Orb σ done k acc done' acc'):done'.length=done.length:=by
 induction h with
 | stop h=>rfl
 | go h t ih=>rw [ih,List.length_set]
end
end Go.Proofs.YtppbogklbhfboaaGreat.AE.DD
end
section
namespace Go.Proofs.YtppbogklbhfboaaGreat.AE.DD
open Go Go.AE Go.Proofs
variable {F:Nat} {D:List Cr} {t:Tb}
theorem s_orb {C:List Cr->List (List Int)->List Bool->Int->Option (List (List Int))} (h:TB D t) (hD:D.length<=30) (hF:1000<F) {out:List (List Int)} {k0:Int} {dn dn':List Bool} {at_:Nat} {acc acc':List Int} (o:Orb (suc D t) dn at_ acc dn' acc') :
  ∀ g,dn.length=4 * D.length->at_<4 * D.length->nf dn<g->acc.length+nf dn<=1000->bI.pl7853 F C g D out dn k0 acc (at_:Int)=bI.pj6 F C D out dn' k0 acc':=by
 induction o with
 | stop hd=>
  intro g hl hat hg hb
  obtain ⟨g,rfl⟩:∃ g',g=g'+1:=⟨g - 1,by omega⟩
  rw [bI.pl7853,ixn (by omega),Option.bind_some,hd,Bool.not_true,cond_false]
 | @go done done' k acc acc' hd t' ih=>
  intro g hl hat hg hb
  obtain ⟨g,rfl⟩:∃ g',g=g'+1:=⟨g - 1,by omega⟩
  have hn:=nf_set (by omega:k<done.length) hd
  rw [bI.pl7853,ixn (by omega),Option.bind_some,hd,Bool.not_false,cond_true,Option.bind_some,Option.bind_some,apn_of (by simp;omega),Option.bind_some,akN h hat hD hF,Option.bind_some]
  exact ih g (by rw [List.length_set];exact hl) (suc_lt h hat) (by omega) (by rw [List.length_append,List.length_singleton];omega)
theorem s_orbs (h:TB D t) (hD:D.length<=30) (hF:1000<F) {dn:List Bool} {k:Nat} {out R:List (List Int)} (o:Orbs (suc D t) (4 * D.length) dn k out R) :
  ∀ g,dn.length=4 * D.length->4 * D.length - k<g->out.length<=k->bI.pl61 F g D out dn (k:Int)=some R:=by
 induction o with
 | fin hk=>
  intro g hl hg hb
  obtain ⟨g,rfl⟩:∃ g',g=g'+1:=⟨g - 1,by omega⟩
  rw [bI.pl61,dF (by omega),cond_false]
 | skip hk hd t' ih=>
  intro g hl hg hb
  obtain ⟨g,rfl⟩:∃ g',g=g'+1:=⟨g - 1,by omega⟩
  rw [bI.pl61,dT (by omega),cond_true,ixn (by omega),Option.bind_some,hd,cond_true]
  unfold bI.pj4
  rw [ws (by omega)]
  exact ih g hl (by omega) (by omega)
 | @go done done' k acc out R hk hd o' t' ih=>
  intro g hl hg hb
  obtain ⟨g,rfl⟩:∃ g',g=g'+1:=⟨g - 1,by omega⟩
  have:=nf_le done
  rw [bI.pl61,dT (by omega),cond_true,ixn (by omega),Option.bind_some,hd,cond_false,s_orb h hD hF o' F hl hk (by omega) (by simp;omega)]
  unfold bI.pj6 bI.pj5
  rw [apn_of (by simp;omega),Option.bind_some,ws (by omega)]
  exact ih g (by rw [o'.len];exact hl) (by omega) (by rw [List.length_append,List.length_singleton];omega)
theorem i_next (h:TB D t) {k:Nat} (hk:k<4 * D.length) (hD:D.length<=30) {β:Type} (f:Int->Option β) :
  ((hG.p F D t.1 t.2 (IntKind.i64.wrap (Int.tdiv (k:Int) 4)) (Int.tmod (IntKind.i64.wrap ((k:Int)+1)) 4)).bind λr=>f (IntKind.i64.wrap ((IntKind.i64.wrap (4 * r.1))+r.2)))=f ((suc D t k:Nat):Int):=by
 rw [tdiv4,ws (by omega),tmod4,wn (by omega),akO h (by omega) (by omega),Option.bind_some]
 obtain ⟨i,q,e,h1,h2,_⟩:=oth_is h (c:=k / 4) (p:=(k+1) % 4) (by omega) (by omega)
 unfold suc
 rw [e]
 simp only [Int.toNat_natCast]
 rw [bX (x:=4 * (i:Int)) (by omega) (by omega),bX (by omega) (by omega)]
 congr 1
theorem i_orb {C:List Cr->List (Int×Int)->List (Int×Int)->List (List Int)->List Bool->Int->Int->Option (List (List Int))} (h:TB D t) (hD:D.length<=30) (hF:1000<F) {out:List (List Int)} {n k0:Int} {dn dn':List Bool} {at_:Nat} {acc acc':List Int} (o:Orb (suc D t) dn at_ acc dn' acc') :
  ∀ g,dn.length=4 * D.length->at_<4 * D.length->nf dn<g->acc.length+nf dn<=1000->bH.pl15725 F C g D t.1 t.2 out dn n k0 acc (at_:Int)=bH.pj6 F C D t.1 t.2 out dn' acc' n k0:=by
 induction o with
 | stop hd=>
  intro g hl hat hg hb
  obtain ⟨g,rfl⟩:∃ g',g=g'+1:=⟨g - 1,by omega⟩
  rw [bH.pl15725,ixn (by omega),Option.bind_some,hd,Bool.not_true,cond_false]
 | @go done done' k acc acc' hd t' ih=>
  intro g hl hat hg hb
  obtain ⟨g,rfl⟩:∃ g',g=g'+1:=⟨g - 1,by omega⟩
  have hn:=nf_set (by omega:k<done.length) hd
  rw [bH.pl15725,ixn (by omega),Option.bind_some,hd,Bool.not_false,cond_true,Option.bind_some,Option.bind_some,apn_of (by simp;omega),Option.bind_some,i_next h hat hD]
  exact ih g (by rw [List.length_set];exact hl) (suc_lt h hat) (by omega) (by rw [List.length_append,List.length_singleton];omega)
theorem i_orbs (h:TB D t) (hD:D.length<=30) (hF:1000<F) {dn:List Bool} {k:Nat} {out R:List (List Int)} (o:Orbs (suc D t) (4 * D.length) dn k out R) :
  ∀ g,dn.length=4 * D.length->4 * D.length - k<g->out.length<=k->bH.pl61 F g D t.1 t.2 out dn ((4 * D.length:Nat):Int) (k:Int)=some R:=by
 induction o with
 | fin hk=>
  intro g hl hg hb
  obtain ⟨g,rfl⟩:∃ g',g=g'+1:=⟨g - 1,by omega⟩
  rw [bH.pl61,dF (by omega),cond_false]
 | @skip done k out R hk hd t' ih=>
  intro g hl hg hb
  obtain ⟨g,rfl⟩:∃ g',g=g'+1:=⟨g - 1,by omega⟩
  have:=nf_le done
  rw [bH.pl61,dT (by omega),cond_true,i_orb h hD hF (.stop hd) F hl hk (by omega) (by simp;omega)]
  unfold bH.pj6 bH.pj5 bH.pj4
  rw [show decide ((([]:List Int).length:Int)>0)=false by decide,cond_false,ws (by omega)]
  exact ih g hl (by omega) (by omega)
 | @go done done' k acc out R hk hd o' t' ih=>
  intro g hl hg hb
  obtain ⟨g,rfl⟩:∃ g',g=g'+1:=⟨g - 1,by omega⟩
  have:=nf_le done
  have hne:acc≠[]:=by
   cases o' with
   | stop hd'=>rw [hd] at hd';cases hd'
   | go _ t2=>exact t2.acc_ne (by simp)
  have:=List.length_pos_iff.2 hne
  rw [bH.pl61,dT (by omega),cond_true,i_orb h hD hF o' F hl hk (by omega) (by simp;omega)]
  unfold bH.pj6 bH.pj5 bH.pj4
  rw [decide_eq_true (by omega),cond_true,apn_of (by simp;omega),Option.bind_some,ws (by omega)]
  exact ih g (by rw [o'.len];exact hl) (by omega) (by rw [List.length_append,List.length_singleton];omega)
structure Rg (D:List Cr) (t:Tb) (R:List (List Int)):Prop where
 part:∃ done,Part (suc D t) (4 * D.length) R done/\∀ x,x<4 * D.length->gt done x=true
 le:R.length<=4 * D.length
theorem regions_both (h:TB D t) (hD:D.length<=30) (hF:1000<F):∃ R,Rg D t R/\bI.p F D=some R/\bH.p F D t.1 t.2=some R:=by
 obtain ⟨R,done,o,q1,q2,q3⟩:=orbs_whole (σ:=suc D t) (M:=4 * D.length) (λx hx=>suc_lt h hx) (λx y hx hy e=>suc_inj h hx hy e)
 refine ⟨R,⟨⟨done,q1,q2⟩,q3⟩,?_,?_⟩
 ·unfold bI.p
  rw [show (4:Int) * (D.length:Int)=((4 * D.length:Nat):Int) by omega,wn (by omega),mkn_of (by omega),Option.bind_some]
  exact s_orbs h hD hF o F (by simp) (by omega) (by simp)
 ·unfold bH.p
  rw [show (4:Int) * (D.length:Int)=((4 * D.length:Nat):Int) by omega,wn (by omega),mkn_of (by omega),Option.bind_some,List.length_replicate]
  exact i_orbs h hD hF o F (by simp) (by omega) (by simp)
end Go.Proofs.YtppbogklbhfboaaGreat.AE.DD
end
section
namespace Go.Proofs.YtppbogklbhfboaaGreat.AE.DD
open Go Go.AE Go.Proofs
variable {F:Nat}
structure UF (s t:List Int) (n:Nat):Prop where
 ls:s.length=n
 lt:t.length=n
 eq:∀ i j:Nat,i<n->j<n->(gt s i=gt s j↔gt t i=gt t j)
 low:∀ i:Nat,i<n->∃ r:Nat,gt t i=(r:Int)/\r<=i/\gt t r=(r:Int)
 sr:∀ i:Nat,i<n->0<=gt s i/\gt s i<(n:Int)
def cntg (n:Nat):List Int:=(List.range n).map λk:Nat=>(k:Int)
theorem cntg_len (n:Nat):(cntg n).length=n:=by simp [cntg]
theorem gt_cntg {n k:Nat} (h:k<n):gt (cntg n) k=(k:Int):=by
 have:=lJ (l:=cntg n) (n:=k) (by rw [cntg_len];exact h)
 unfold cntg at this ⊢
 rw [List.getElem?_map,List.getElem?_range h] at this
 exact (Option.some.inj this).symm
theorem cntg_succ (n:Nat):cntg (n+1)=cntg n++[(n:Int)]:=by simp [cntg,List.range_succ]
theorem UF.start (n:Nat):UF (cntg n) (cntg n) n where
 ls:=cntg_len n
 lt:=cntg_len n
 eq:=λi j hi hj=>Iff.rfl
 low:=λi hi=>⟨i,gt_cntg hi,Nat.le_refl _,gt_cntg hi⟩
 sr:=λi hi=>by rw [gt_cntg hi];omega
def rel (l:List Int) (a b:Int):List Int:=l.map λx=>if x=a then b else x
theorem rel_len (l:List Int) (a b:Int):(rel l a b).length=l.length:=by simp [rel]
theorem gt_rel {l:List Int} {a b:Int} {j:Nat} (h:j<l.length):gt (rel l a b) j=if gt l j=a then b else gt l j:=by
 have:=lJ (l:=rel l a b) (n:=j) (by rw [rel_len];exact h)
 unfold rel at this ⊢
 rw [List.getElem?_map,lJ h] at this
 exact (Option.some.inj this).symm
theorem UF.union {s t:List Int} {n i k:Nat} (h:UF s t n) (hi:i<n) (hk:k<n) {hi_ lo:Int} (hx:(hi_=gt t i/\lo=gt t k)\/(hi_=gt t k/\lo=gt t i)) (hle:lo<=hi_):UF (rel s (gt s k) (gt s i)) (rel t hi_ lo) n:=by
 have gs:∀ j,j<n->gt (rel s (gt s k) (gt s i)) j=if gt s j=gt s k then gt s i else gt s j:=λj hj=>gt_rel (by rw [h.ls];exact hj)
 have gtt:∀ j,j<n->gt (rel t hi_ lo) j=if gt t j=hi_ then lo else gt t j:=λj hj=>gt_rel (by rw [h.lt];exact hj)
 have mem:∀ j,j<n->((gt s j=gt s i\/gt s j=gt s k)↔(gt t j=hi_\/gt t j=lo)):=λj hj=>by
  rw [h.eq j i hj hi,h.eq j k hj hk]
  rcases hx with ⟨a,b⟩ | ⟨a,b⟩ <;> rw [a,b]
  exact or_comm
 have sA:∀ j,j<n->(gt s j=gt s i\/gt s j=gt s k)->gt (rel s (gt s k) (gt s i)) j=gt s i:=λj hj hA=>by
  rw [gs j hj];split
  ·rfl
  ·rename_i q;exact hA.resolve_right q
 have sN:∀ j,j<n->¬ (gt s j=gt s i\/gt s j=gt s k)->gt (rel s (gt s k) (gt s i)) j=gt s j:=λj hj hA=>by
  rw [gs j hj,if_neg (λq=>hA (.inr q))]
 have tA:∀ j,j<n->(gt s j=gt s i\/gt s j=gt s k)->gt (rel t hi_ lo) j=lo:=λj hj hA=>by
  rw [gtt j hj];split
  ·rfl
  ·rename_i q;exact ((mem j hj).1 hA).resolve_left q
 have tN:∀ j,j<n->¬ (gt s j=gt s i\/gt s j=gt s k)->gt (rel t hi_ lo) j=gt t j:=λj hj hA=>by
  rw [gtt j hj,if_neg (λq=>hA ((mem j hj).2 (.inl q)))]
 refine ⟨by rw [rel_len];exact h.ls,by rw [rel_len];exact h.lt,λa b ha hb=>?_,λa ha=>?_,λa ha=>?_⟩
 ·by_cases qa:gt s a=gt s i\/gt s a=gt s k <;> by_cases qb:gt s b=gt s i\/gt s b=gt s k
  ·rw [sA a ha qa,sA b hb qb,tA a ha qa,tA b hb qb];simp
  ·rw [sA a ha qa,sN b hb qb,tA a ha qa,tN b hb qb]
   constructor
   ·intro e;exact absurd (.inl e.symm) qb
   ·intro e;exact absurd ((mem b hb).2 (.inr e.symm)) qb
  ·rw [sN a ha qa,sA b hb qb,tN a ha qa,tA b hb qb]
   constructor
   ·intro e;exact absurd (.inl e) qa
   ·intro e;exact absurd ((mem a ha).2 (.inr e)) qa
  ·rw [sN a ha qa,sN b hb qb,tN a ha qa,tN b hb qb];exact h.eq a b ha hb
 ·by_cases qa:gt s a=gt s i\/gt s a=gt s k
  ·rw [tA a ha qa]
   obtain ⟨r,e1,e2,e3⟩:=h.low a ha
   have hlo:∃ m:Nat,m<n/\lo=gt t m/\(gt s m=gt s i\/gt s m=gt s k):=by
    rcases hx with ⟨_,b⟩ | ⟨_,b⟩
    ·exact ⟨k,hk,b,.inr rfl⟩
    ·exact ⟨i,hi,b,.inl rfl⟩
   obtain ⟨m,hm,em,qm⟩:=hlo
   obtain ⟨r',f1,f2,f3⟩:=h.low m hm
   have hl:lo=(r':Int):=em.trans f1
   have hle2:lo<=gt t a:=by
    rcases (mem a ha).1 qa with q | q
    ·rw [q];exact hle
    ·rw [q];exact Int.le_refl _
   refine ⟨r',hl,by omega,?_⟩
   rw [tA r' (by omega) ?_,hl]
   rw [h.eq r' i (by omega) hi,h.eq r' k (by omega) hk,f3,<-f1]
   rcases hx with ⟨a1,b⟩ | ⟨a1,b⟩
   ·right;rw [<- b];exact em.symm
   ·left;rw [<- b];exact em.symm
  ·rw [tN a ha qa]
   obtain ⟨r,e1,e2,e3⟩:=h.low a ha
   refine ⟨r,e1,e2,?_⟩
   rw [tN r (by omega),e3]
   intro q
   have:gt s r=gt s a:=(h.eq r a (by omega) ha).2 (e3.trans e1.symm)
   rw [this] at q;exact qa q
 ·rw [gs a ha];split
  ·exact h.sr i hi
  ·exact h.sr a ha
structure Cls (u:List Int) (n:Nat) (E:Nat->Nat->Prop):Prop where
 sound:∀ a b:Nat,E a b->a<n->b<n->gt u a=gt u b
 least:∀ S:Nat->Prop,(∀ a b,E a b->(S a↔S b))->∀ i j:Nat,i<n->j<n->gt u i=gt u j->(S i↔S j)
theorem Cls.start (n:Nat):Cls (cntg n) n (λ_ _=>False) where
 sound:=λa b h=>h.elim
 least:=λS hS i j hi hj h=>by rw [gt_cntg hi,gt_cntg hj] at h;rw [show i=j by omega]
theorem Cls.union {u:List Int} {n i k:Nat} {E E':Nat->Nat->Prop} (h:Cls u n E) (hl:u.length=n) (hi:i<n) (hk:k<n) (hE:∀ a b,E' a b↔E a b\/(a=i/\b=k)) {hi_ lo:Int} (hx:(hi_=gt u i/\lo=gt u k)\/(hi_=gt u k/\lo=gt u i)):Cls (rel u hi_ lo) n E':=by
 have g:∀ j,j<n->gt (rel u hi_ lo) j=if gt u j=hi_ then lo else gt u j:=λj hj=>gt_rel (by rw [hl];exact hj)
 refine ⟨λa b e ha hb=>?_,λS hS x y hx' hy' e=>?_⟩
 ·rw [g a ha,g b hb]
  rcases (hE a b).1 e with q | ⟨rfl,rfl⟩
  ·rw [h.sound a b q ha hb]
  ·rcases hx with ⟨q1,q2⟩ | ⟨q1,q2⟩ <;> subst q1 q2 <;> split <;> split <;> simp_all
 ·have hS0:∀ a b,E a b->(S a↔S b):=λa b q=>hS a b ((hE a b).2 (.inl q))
  have hik:S i↔S k:=hS i k ((hE i k).2 (.inr ⟨rfl,rfl⟩))
  have L:=h.least S hS0
  have toi:∀ z,z<n->(gt u z=hi_\/gt u z=lo)->(S z↔S i):=λz hz q=>by
   have:gt u z=gt u i\/gt u z=gt u k:=by
    rcases hx with ⟨q1,q2⟩ | ⟨q1,q2⟩ <;> rw [q1,q2] at q
    ·exact q
    ·exact q.symm
   rcases this with q | q
   ·exact L z i hz hi q
   ·exact (L z k hz hk q).trans hik.symm
  rw [g x hx',g y hy'] at e
  by_cases cx:gt u x=hi_ <;> by_cases cy:gt u y=hi_
  ·exact L x y hx' hy' (cx.trans cy.symm)
  ·rw [if_pos cx,if_neg cy] at e
   exact (toi x hx' (.inl cx)).trans (toi y hy' (.inr e.symm)).symm
  ·rw [if_neg cx,if_pos cy] at e
   exact (toi x hx' (.inr e)).trans (toi y hy' (.inl cy)).symm
  ·rw [if_neg cx,if_neg cy] at e
   exact L x y hx' hy' e
def rk (t:List Int):Nat->Nat
 | 0=>0
 | k+1=>rk t k+(bif gt t k==(k:Int) then 1 else 0)
def num (t:List Int) (n:Nat):List Int:=(List.range n).map λj=>((rk t (gt t j).toNat:Nat):Int)
theorem num_len (t:List Int) (n:Nat):(num t n).length=n:=by simp [num]
theorem num_succ (t:List Int) (n:Nat):num t (n+1)=num t n++[((rk t (gt t n).toNat:Nat):Int)]:=by simp [num,List.range_succ]
theorem gt_num {t:List Int} {n k:Nat} (h:k<n):gt (num t n) k=((rk t (gt t k).toNat:Nat):Int):=by
 have:=lJ (l:=num t n) (n:=k) (by rw [num_len];exact h)
 unfold num at this ⊢
 rw [List.getElem?_map,List.getElem?_range h] at this
 exact (Option.some.inj this).symm
theorem rk_le (t:List Int):∀ k,rk t k<=k
 | 0=>Nat.le_refl _
 | k+1=>by have:=rk_le t k;unfold rk;cases gt t k==(k:Int) <;> simp <;> omega
theorem rk_mono (t:List Int) {a b:Nat} (h:a<=b):rk t a<=rk t b:=by
 induction h with
 | refl=>exact Nat.le_refl _
 | step _ ih=>exact Nat.le_trans ih (by rw [rk];omega)
theorem rk_root {t:List Int} {r k:Nat} (h:gt t r=(r:Int)) (hk:r<k):rk t r<rk t k:=by
 have:rk t (r+1)=rk t r+1:=by rw [rk,h];simp
 have:=rk_mono t (show r+1<=k by omega)
 omega
def rts (s t:List Int):Nat->List Int
 | 0=>[]
 | k+1=>bif gt t k==(k:Int) then rts s t k++[gt s k] else rts s t k
theorem rts_len (s t:List Int):∀ k,(rts s t k).length=rk t k
 | 0=>rfl
 | k+1=>by unfold rts rk;cases gt t k==(k:Int) <;> simp [rts_len s t k]
theorem rts_mem {s t:List Int} {n:Nat} (h:UF s t n):∀ k,k<=n->∀ i:Nat,i<n->(gt s i∈rts s t k↔(gt t i).toNat<k)
 | 0,_,i,hi=>by simp [rts]
 | k+1,hk,i,hi=>by
  obtain ⟨r,e1,e2,e3⟩:=h.low i hi
  have ih:=rts_mem h k (by omega) i hi
  have hrk:(gt t i).toNat=r:=by rw [e1];simp
  rw [hrk] at ih ⊢
  unfold rts
  cases hq:gt t k==(k:Int) with
  | true=>
   have hq:gt t k=(k:Int):=by simpa using hq
   rw [cond_true,List.mem_append,ih,List.mem_singleton,h.eq i k hi (by omega),e1,hq]
   omega
  | false=>
   have hq:gt t k≠(k:Int):=by simpa using hq
   rw [cond_false,ih]
   constructor
   ·omega
   ·intro q
    have:r≠k:=λe=>hq (by rw [e] at e3;exact e3)
    omega
theorem rts_idx {s t:List Int} {n:Nat} (h:UF s t n):∀ k,k<=n->∀ i:Nat,i<n->(gt t i).toNat<k->(rts s t k).idxOf (gt s i)=rk t (gt t i).toNat
 | 0,_,i,hi,hlt=>absurd hlt (Nat.not_lt_zero _)
 | k+1,hk,i,hi,hlt=>by
  obtain ⟨r,e1,e2,e3⟩:=h.low i hi
  have hrk:(gt t i).toNat=r:=by rw [e1];simp
  by_cases c:(gt t i).toNat<k
  ·have ih:=rts_idx h k (by omega) i hi c
   have hm:=(rts_mem h k (by omega) i hi).2 c
   unfold rts
   cases gt t k==(k:Int) with
   | true=>rw [cond_true,List.idxOf_append,if_pos hm,ih]
   | false=>rw [cond_false,ih]
  ·have hm:gt s i ∉ rts s t k:=λq=>c ((rts_mem h k (by omega) i hi).1 q)
   obtain rfl:r=k:=by omega
   have hs:gt s i=gt s r:=(h.eq i r hi (by omega)).2 (e1.trans e3.symm)
   unfold rts
   rw [e3,beq_self_eq_true,cond_true,List.idxOf_append,if_neg hm,hs,hrk,rts_len]
   simp
theorem nst_is {s t:List Int} {n:Nat} (h:UF s t n):∀ k,k<=n->nst s k=(rts s t k,num t k)
 | 0,_=>rfl
 | k+1,hk=>by
  have ih:=nst_is h k (by omega)
  have hks:k<n:=by omega
  have hg:s.getD k 0=gt s k:=rfl
  obtain ⟨r,e1,e2,e3⟩:=h.low k hks
  have hrk:(gt t k).toNat=r:=by rw [e1];simp
  unfold nst
  simp only [hg,ih]
  have hc:(rts s t k).contains (gt s k)=decide (r<k):=by
   have:=rts_mem h k (by omega) k hks
   rw [hrk] at this
   rw [Bool.eq_iff_iff,decide_eq_true_eq,<-this];simp
  rw [hc,num_succ]
  have hr:(bif decide (r<k) then rts s t k else rts s t k++[gt s k])=rts s t (k+1):=by
   conv=>rhs;unfold rts
   by_cases c:r<k
   ·rw [decide_eq_true c,cond_true,show (gt t k==(k:Int))=false by rw [e1];simp;omega,cond_false]
   ·rw [decide_eq_false c,cond_false,show (gt t k==(k:Int))=true by rw [e1];simp;omega,cond_true]
  rw [hr,rts_idx h (k+1) hk k hks (by omega)]
theorem nums_is {s t:List Int} {n:Nat} (h:UF s t n):qt s=num t n:=by
 unfold qt
 rw [h.ls,nst_is h n (Nat.le_refl _)]
theorem i_numbered {s t:List Int} {n:Nat} (h:UF s t n) (hn:n<=1000):gr.p F s=some (num t n):=by
 unfold gr.p
 rw [if_pos,nums_is h]
 refine ⟨by rw [h.ls];omega,?_⟩
 unfold wfs
 rw [List.all_eq_true]
 intro x hx
 obtain ⟨j,hj,rfl⟩:=mem_gt hx
 have:=h.sr j (by rw [<- h.ls];exact hj)
 have h3:IntKind.i64.min=-9223372036854775808:=by decide
 have h4:IntKind.i64.max=9223372036854775807:=by decide
 simp only [Lit.wf,Bool.and_eq_true,decide_eq_true_eq]
 omega
theorem max_l {t:List Int} {n:Nat} (hl:∀ i:Nat,i<n->∃ r:Nat,gt t i=(r:Int)/\r<=i/\gt t r=(r:Int)) (hn:n<=1000):∀ (m g i:Nat),n - i=m->m<g->1<=i->i<=n ->
  ee.pl61 F g (num t n) ((rk t i:Nat) - 1:Int) (i:Int)=some ((rk t n:Nat) - 1:Int):=by
 intro m
 induction m with
 | zero=>
  intro g i hm hg h1 hi
  obtain ⟨g,rfl⟩:∃ g',g=g'+1:=⟨g - 1,by omega⟩
  rw [ee.pl61,dF (by rw [num_len];omega),cond_false,show i=n by omega]
 | succ m ih=>
  intro g i hm hg h1 hi
  obtain ⟨g,rfl⟩:∃ g',g=g'+1:=⟨g - 1,by omega⟩
  rw [ee.pl61,dT (by rw [num_len];omega),cond_true,ixn (by rw [num_len];omega),Option.bind_some,gt_num (by omega),ws (by omega)]
  obtain ⟨r,e1,e2,e3⟩:=hl i (by omega)
  have hrk:(gt t i).toNat=r:=by rw [e1];simp
  rw [hrk]
  have key:(if ((rk t r:Nat):Int)>((rk t i:Nat):Int) - 1 then ((rk t r:Nat):Int) else ((rk t i:Nat):Int) - 1)=((rk t (i+1):Nat):Int) - 1:=by
   by_cases c:r=i
   ·subst c
    have:rk t (r+1)=rk t r+1:=by rw [rk,e3];simp
    rw [if_pos (by omega),this];omega
   ·have h5:rk t (i+1)=rk t i:=by rw [rk,show (gt t i==(i:Int))=false by rw [e1];simp;omega];rfl
    have:=rk_root e3 (show r<i by omega)
    rw [if_neg (by omega),h5]
  rw [key]
  exact ih g (i+1) (by omega) (by omega) (by omega) (by omega)
theorem i_classCount {t:List Int} {n:Nat} (hl:∀ i:Nat,i<n->∃ r:Nat,gt t i=(r:Int)/\r<=i/\gt t r=(r:Int)) (hn:n<=1000) (hF:2000<F):ic.p F (num t n)=some ((rk t n:Nat):Int):=by
 unfold ic.p
 rw [num_len]
 cases n with
 | zero=>simp [rk]
 | succ n=>
  rw [show (((n+1:Nat):Int)==0)=false by simp;omega,cond_false]
  unfold ee.p ee.pj1
  rw [num_len,decide_eq_false (by omega),cond_false,show (0:Int)=((0:Nat):Int) from rfl,ixn (by rw [num_len];omega),Option.bind_some,gt_num (by omega)]
  obtain ⟨r,e1,e2,e3⟩:=hl 0 (by omega)
  have h0:gt t 0=0:=by rw [e1];omega
  have:=max_l (F:=F) hl hn n F 1 (by omega) (by omega) (Nat.le_refl _) (by omega)
  have hr1:rk t 1=1:=by rw [rk,rk,h0];rfl
  rw [hr1] at this
  rw [h0]
  have this:ee.pl61 F F (num t (n+1)) (((rk t (0:Int).toNat:Nat):Int)) 1=_:=this
  have:=rk_le t (n+1)
  rw [‹ee.pl61 F F _ _ _=_›,Option.bind_some,bX (by omega) (by omega)]
  congr 1;omega
end Go.Proofs.YtppbogklbhfboaaGreat.AE.DD
end
section
namespace Go.Proofs.YtppbogklbhfboaaGreat.AE.DD
open Go Go.AE Go.Proofs
variable {F:Nat}
def RelTo (l0:List Int) (a b:Int) (k:Nat) (l:List Int):Prop:=l.length=l0.length/\(∀ j,j<k->gt l j=if gt l0 j=a then b else gt l0 j)/\(∀ j,k<=j->gt l j=gt l0 j)
theorem RelTo.start (l0:List Int) (a b:Int):RelTo l0 a b 0 l0:=⟨rfl,λj hj=>by omega,λj hj=>rfl⟩
theorem RelTo.fin {l0 l:List Int} {a b:Int} {k:Nat} (h:RelTo l0 a b k l) (hk:l0.length<=k):l=rel l0 a b:=by
 refine gext (by rw [rel_len];exact h.1) λn hn=>?_
 rw [gt_rel (by rw [<- h.1];exact hn),h.2.1 n (by have:=h.1;omega)]
theorem RelTo.hit {l0 l:List Int} {a b:Int} {k:Nat} (h:RelTo l0 a b k l) (hk:k<l0.length) (e:gt l k=a):RelTo l0 a b (k+1) (l.set k b):=by
 refine ⟨by rw [List.length_set];exact h.1,λj hj=>?_,λj hj=>?_⟩
 ·by_cases c:k=j
  ·subst c;rw [gset_eq (by rw [h.1];exact hk),if_pos (by rw [<- h.2.2 k (Nat.le_refl _)];exact e)]
  ·rw [gset_ne c];exact h.2.1 j (by omega)
 ·rw [gset_ne (by omega)];exact h.2.2 j (by omega)
theorem RelTo.miss {l0 l:List Int} {a b:Int} {k:Nat} (h:RelTo l0 a b k l) (e:gt l k≠a):RelTo l0 a b (k+1) l:=by
 refine ⟨h.1,λj hj=>?_,λj hj=>h.2.2 j (by omega)⟩
 by_cases c:j=k
 ·subst c;rw [if_neg (by rw [<- h.2.2 j (Nat.le_refl _)];exact e)];exact h.2.2 j (Nat.le_refl _)
 ·exact h.2.1 j (by omega)
theorem union_l {l0:List Int} {a b:Int} (hl:l0.length<=1000):∀ (m g k:Nat) (l:List Int),l0.length - k=m->m<g->k<=l0.length->RelTo l0 a b k l ->
  da.pl7 F g l a b ((l0.length:Nat):Int) (k:Int)=some (rel l0 a b):=by
 intro m
 induction m with
 | zero=>
  intro g k l hm hg hk h
  obtain ⟨g,rfl⟩:∃ g',g=g'+1:=⟨g - 1,by omega⟩
  rw [da.pl7,dF (by omega),cond_false,h.fin (by omega)]
 | succ m ih=>
  intro g k l hm hg hk h
  obtain ⟨g,rfl⟩:∃ g',g=g'+1:=⟨g - 1,by omega⟩
  rw [da.pl7,dT (by omega),cond_true,ixn (by rw [h.1];omega),Option.bind_some]
  unfold da.pj2
  rw [ws (by omega)]
  by_cases e:gt l k=a
  ·rw [show (gt l k==a)=true by simpa using e,cond_true,Option.bind_some,Option.bind_some]
   exact ih g (k+1) _ (by omega) (by omega) (by omega) (h.hit (by omega) e)
  ·rw [show (gt l k==a)=false by simpa using e,cond_false]
   exact ih g (k+1) _ (by omega) (by omega) (by omega) (h.miss e)
theorem i_union {s:List Int} {i k:Nat} (hi:i<s.length) (hk:k<s.length) (hl:s.length<=1000) (hF:2000<F):da.p F s (i:Int) (k:Int)=some (rel s (gt s k) (gt s i)):=by
 unfold da.p
 rw [ixn hk,Option.bind_some,ixn hi,Option.bind_some]
 exact union_l hl s.length F 0 s (by omega) (by omega) (by omega) (.start _ _ _)
theorem counting_l {n:Nat} (hn:n<=1000):∀ (m g k:Nat),n - k=m->m<g->k<=n->eE.pl29 F g (cntg k) (n:Int) (k:Int)=some (cntg n):=by
 intro m
 induction m with
 | zero=>
  intro g k hm hg hk
  obtain ⟨g,rfl⟩:∃ g',g=g'+1:=⟨g - 1,by omega⟩
  rw [eE.pl29,dF (by omega),cond_false,show k=n by omega]
 | succ m ih=>
  intro g k hm hg hk
  obtain ⟨g,rfl⟩:∃ g',g=g'+1:=⟨g - 1,by omega⟩
  rw [eE.pl29,dT (by omega),cond_true,apn_of (by rw [cntg_len];simp;omega),Option.bind_some,ws (by omega),<-cntg_succ]
  exact ih g (k+1) (by omega) (by omega) (by omega)
theorem i_counting {n:Nat} (hn:n<=1000) (hF:2000<F):eE.p F (n:Int)=some (cntg n):=by
 unfold eE.p
 exact counting_l hn n F 0 (by omega) (by omega) (by omega)
theorem ifmax (x y:Int):(if y>x then y else x)=max x y:=by
 rw [Int.max_def];split <;> split <;> omega
theorem ifmin (x y:Int):(if y<x then y else x)=min x y:=by
 rw [Int.min_def];split <;> split <;> omega
theorem sparts_in {C:List Cr->List Int->Int->Option (List Int)} {D:List Cr} {y5:Nat} {x y:Int} {l0:List Int} (hl:l0.length<=1000) (hy:y5<=1000):∀ (m g k:Nat) (l:List Int),l0.length - k=m->m<g->k<=l0.length->RelTo l0 (max x y) (min x y) k l ->
  a_.pl7855 F C g D l (y5:Int) x y (k:Int)=C D (rel l0 (max x y) (min x y)) ((y5+1:Nat):Int):=by
 intro m
 induction m with
 | zero=>
  intro g k l hm hg hk h
  obtain ⟨g,rfl⟩:∃ g',g=g'+1:=⟨g - 1,by omega⟩
  rw [a_.pl7855,dF (by rw [h.1];omega),cond_false,h.fin (by omega)]
  unfold a_.pj7 a_.pj6
  rw [ws (by omega)]
 | succ m ih=>
  intro g k l hm hg hk h
  obtain ⟨g,rfl⟩:∃ g',g=g'+1:=⟨g - 1,by omega⟩
  rw [a_.pl7855,dT (by rw [h.1];omega),cond_true,ixn (by rw [h.1];omega),Option.bind_some,ifmax,ifmin]
  unfold a_.pj8
  rw [ws (by omega)]
  by_cases e:gt l k=max x y
  ·rw [show (gt l k==max x y)=true by simpa using e,cond_true,Option.bind_some,Option.bind_some]
   exact ih g (k+1) _ (by omega) (by omega) (by omega) (h.hit (by omega) e)
  ·rw [show (gt l k==max x y)=false by simpa using e,cond_false]
   exact ih g (k+1) _ (by omega) (by omega) (by omega) (h.miss e)
theorem fr_get {D:List Cr} {t:Tb} (h:TB D t) {a:Nat} (ha:a<2 * D.length):∃ i p:Nat,gt t.1 a=((i:Int),(p:Int))/\i<D.length/\p<4:=by
 obtain ⟨i,p,q1,q2,_,_,q5⟩:=h.fr.get a ha;exact ⟨i,p,q5,q1,q2⟩
theorem to_get {D:List Cr} {t:Tb} (h:TB D t) {a:Nat} (ha:a<2 * D.length):∃ i p:Nat,gt t.2 a=((i:Int),(p:Int))/\i<D.length/\p<4:=by
 obtain ⟨i,p,q1,q2,_,_,q5⟩:=h.to_.get a ha;exact ⟨i,p,q5,q1,q2⟩
def Ep (t:Tb) (k:Nat) (a b:Nat):Prop:=∃ x:Nat,x<k/\(gt t.1 x).1=(a:Int)/\(gt t.2 x).1=(b:Int)
theorem parts_l {D:List Cr} {t:Tb} (h:TB D t) (hD:D.length<=30) (hF:5000<F):∀ (m g k:Nat) (s u:List Int),2 * D.length - k=m->m<g->k<=2 * D.length->UF s u D.length->Cls u D.length (Ep t k) ->
  ∃ s' u',UF s' u' D.length/\Cls u' D.length (Ep t (2 * D.length))/\eu.pl29 F g t.1 t.2 s ((2 * D.length:Nat):Int) (k:Int)=some (num u' D.length)/\a_.pl61 F g D u (k:Int)=some u':=by
 intro m
 induction m with
 | zero=>
  intro g k s u hm hg hk hu hc
  obtain ⟨g,rfl⟩:∃ g',g=g'+1:=⟨g - 1,by omega⟩
  refine ⟨s,u,hu,by rw [show 2 * D.length=k by omega];exact hc,?_,?_⟩
  ·rw [eu.pl29,dF (by omega),cond_false,i_numbered hu (by omega),Option.bind_some]
  ·rw [a_.pl61,show (2:Int) * (D.length:Int)=((2 * D.length:Nat):Int) by omega,wn (by omega),dF (by omega),cond_false]
 | succ m ih=>
  intro g k s u hm hg hk hu hc
  obtain ⟨g,rfl⟩:∃ g',g=g'+1:=⟨g - 1,by omega⟩
  have hkl:k<2 * D.length:=by omega
  obtain ⟨i,p,e1,hi,_⟩:=fr_get h hkl
  obtain ⟨j,q,e2,hj,_⟩:=to_get h hkl
  have hu':=hu.union hi hj (hi_:=max (gt u j) (gt u i)) (lo:=min (gt u j) (gt u i)) (by omega) (by omega)
  have hc':=hc.union hu.lt hi hj (E':=Ep t (k+1)) (λa b=>by
   constructor
   ·rintro ⟨x,hx,a1,a2⟩
    by_cases e:x=k
    ·subst e;rw [e1] at a1;rw [e2] at a2;exact .inr ⟨by simp only at a1;omega,by simp only at a2;omega⟩
    ·exact .inl ⟨x,by omega,a1,a2⟩
   ·rintro (⟨x,hx,a1,a2⟩ | ⟨rfl,rfl⟩)
    ·exact ⟨x,by omega,a1,a2⟩
    ·exact ⟨k,by omega,by rw [e1],by rw [e2]⟩) (hi_:=max (gt u j) (gt u i)) (lo:=min (gt u j) (gt u i)) (by omega)
  obtain ⟨s',u',q1,qc,q2,q3⟩:=ih g (k+1) _ _ (by omega) (by omega) (by omega) hu' hc'
  refine ⟨s',u',q1,qc,?_,?_⟩
  ·rw [eu.pl29,dT hkl,cond_true,ixn (by rw [h.fr.len];exact hkl),Option.bind_some,ixn (by rw [h.to_.len];exact hkl),Option.bind_some,e1,e2]
   simp only
   rw [i_union (by rw [hu.ls];exact hi) (by rw [hu.ls];exact hj) (by rw [hu.ls];omega) (by omega),Option.bind_some,ws (by omega)]
   exact q2
  ·rw [a_.pl61,show (2:Int) * (D.length:Int)=((2 * D.length:Nat):Int) by omega,wn (by omega),dT hkl,cond_true,place_of h.sg h.to_ hkl hD (by omega),Option.bind_some,place_of h.sg h.fr hkl hD (by omega),Option.bind_some,e1,e2]
   simp only
   rw [ixn (by rw [hu.lt];exact hj),Option.bind_some,ixn (by rw [hu.lt];exact hi),Option.bind_some]
   have:=sparts_in (F:=F) (C:=a_.pl61 F g) (D:=D) (y5:=k) (x:=gt u j) (y:=gt u i) (l0:=u) (by rw [hu.lt];omega) (by omega) u.length F 0 u (by omega) (by rw [hu.lt];omega) (by omega) (.start _ _ _)
   have this:a_.pl7855 F (a_.pl61 F g) F D u (k:Int) (gt u j) (gt u i) 0=_:=this
   rw [this]
   exact q3
theorem sparts_start {D:List Cr} (hD:D.length<=30):∀ (m g k:Nat),D.length - k=m->m<g->k<=D.length->a_.pl29 F g D (cntg k) (k:Int)=a_.pl61 F F D (cntg D.length) 0:=by
 intro m
 induction m with
 | zero=>
  intro g k hm hg hk
  obtain ⟨g,rfl⟩:∃ g',g=g'+1:=⟨g - 1,by omega⟩
  rw [a_.pl29,dF (by omega),cond_false,show k=D.length by omega]
  rfl
 | succ m ih=>
  intro g k hm hg hk
  obtain ⟨g,rfl⟩:∃ g',g=g'+1:=⟨g - 1,by omega⟩
  rw [a_.pl29,dT (by omega),cond_true,apn_of (by rw [cntg_len];simp;omega),Option.bind_some,ws (by omega),<-cntg_succ]
  exact ih g (k+1) (by omega) (by omega) (by omega)
theorem parts_both {D:List Cr} {t:Tb} (h:TB D t) (hD:D.length<=30) (hF:5000<F):∃ s u,UF s u D.length/\Cls u D.length (Ep t (2 * D.length))/\eu.p F D t.1 t.2=some (num u D.length)/\a_.p F D=some u:=by
 obtain ⟨s,u,q1,qc,q2,q3⟩:=parts_l h hD hF (2 * D.length) F 0 (cntg D.length) (cntg D.length) (by omega) (by omega) (by omega) (UF.start _) (by
  have:=Cls.start D.length
  rw [show (λ_ _=>False)=Ep t 0 from by funext a b;exact propext ⟨λq=>q.elim,λ⟨x,hx,_⟩=>absurd hx (Nat.not_lt_zero _)⟩] at this
  exact this)
 refine ⟨s,u,q1,qc,?_,?_⟩
 ·unfold eu.p fl.p
  rw [Option.bind_some,i_counting (by omega) (by omega),Option.bind_some,h.fr.len]
  exact q2
 ·unfold a_.p
  have:=sparts_start (F:=F) hD D.length F 0 (by omega) (by omega) (by omega)
  exact this.trans q3
theorem pcount_l {u:List Int} (hn:u.length<=1000):∀ (m g k:Nat),u.length - k=m->m<g->k<=u.length->dv.pl61 F g ((rk u k:Nat):Int) u (k:Int)=some ((rk u u.length:Nat):Int):=by
 intro m
 induction m with
 | zero=>
  intro g k hm hg hk
  obtain ⟨g,rfl⟩:∃ g',g=g'+1:=⟨g - 1,by omega⟩
  rw [dv.pl61,dF (by omega),cond_false,show k=u.length by omega]
 | succ m ih=>
  intro g k hm hg hk
  obtain ⟨g,rfl⟩:∃ g',g=g'+1:=⟨g - 1,by omega⟩
  have:=rk_le u k
  rw [dv.pl61,dT (by omega),cond_true,ixn (by omega),Option.bind_some]
  unfold dv.pj2
  rw [ws (i:=k) (by omega),ws (by omega)]
  have:=ih g (k+1) (by omega) (by omega) (by omega)
  rw [rk] at this
  cases hb:gt u k==(k:Int) with
  | true=>rw [hb] at this;rw [cond_true];exact this
  | false=>rw [hb] at this;rw [cond_false];exact this
end Go.Proofs.YtppbogklbhfboaaGreat.AE.DD
end
section
namespace Go.Proofs.YtppbogklbhfboaaGreat.AE.DD
open Go Go.AE Go.Proofs
variable {F:Nat}
theorem sgn_l {D:List Cr} (hD:D.length<=1000):∀ (m g k:Nat),D.length - k=m->m<g->k<=D.length ->
  ∃ r:Int,eU.pl13 F g D (D.length:Int) (k:Int)=some r/\(r>=0↔¬ ∀ x∈D.drop k,SgOk x):=by
 intro m
 induction m with
 | zero=>
  intro g k hm hg hk
  obtain ⟨g,rfl⟩:∃ g',g=g'+1:=⟨g - 1,by omega⟩
  refine ⟨-1,?_,?_⟩
  ·rw [eU.pl13,dF (by omega),cond_false]
  ·rw [List.drop_eq_nil_of_le (by omega)];simp
 | succ m ih=>
  intro g k hm hg hk
  obtain ⟨g,rfl⟩:∃ g',g=g'+1:=⟨g - 1,by omega⟩
  have hlt:k<D.length:=by omega
  rw [eU.pl13,dT hlt,cond_true,ixn hlt,Option.bind_some,drop_cons hlt]
  unfold kY.p
  by_cases c:SgOk (gt D k)
  ·have:(bif ((gt D k).2.2.2.2 != 1) then (some ((gt D k).2.2.2.2 != (-1))) else (some false))=some false:=by
    have c':sg (gt D k)=1\/sg (gt D k)=-1:=c
    unfold sg at c'
    rcases c' with e | e <;> rw [e] <;> rfl
   rw [this,Option.bind_some,cond_false,ws (by omega)]
   obtain ⟨r,q1,q2⟩:=ih g (k+1) (by omega) (by omega) (by omega)
   refine ⟨r,q1,q2.trans (not_congr ?_)⟩
   constructor
   ·exact λa=>List.forall_mem_cons.2 ⟨c,a⟩
   ·exact λa=>(List.forall_mem_cons.1 a).2
  ·have:(bif ((gt D k).2.2.2.2 != 1) then (some ((gt D k).2.2.2.2 != (-1))) else (some false))=some true:=by
    have c':¬ (sg (gt D k)=1\/sg (gt D k)=-1):=c
    unfold sg at c'
    rw [show ((gt D k).2.2.2.2 != 1)=true by simp;omega,cond_true,show ((gt D k).2.2.2.2 != -1)=true by simp;omega]
   rw [this,Option.bind_some,cond_true]
   refine ⟨(k:Int),rfl,⟨λ_ a=>c (List.forall_mem_cons.1 a).1,λ_=>by omega⟩⟩
theorem sgn_all {D:List Cr} (hD:D.length<=1000) (hF:2000<F):jQ.p F D=some (decide (¬ ∀ x∈D,SgOk x)):=by
 unfold jQ.p eU.p
 obtain ⟨r,q1,q2⟩:=sgn_l (F:=F) hD D.length F 0 (by omega) (by omega) (by omega)
 have q1:eU.pl13 F F D (D.length:Int) 0=some r:=q1
 rw [q1,Option.bind_some]
 rw [List.drop_zero] at q2
 congr 1
 exact decide_eq_decide.2 q2
structure DG (F:Nat) (D:List Cr) (c:Int) (t:Tb) (R:List (List Int)) (s u:List Int):Prop where
 len:D.length<=10
 c0:0<=c
 c8:c<=8
 tb:TB D t
 rg:Rg D t R
 sR:bI.p F D=some R
 iR:bH.p F D t.1 t.2=some R
 uf:UF s u D.length
 cls:Cls u D.length (Ep t (2 * D.length))
 iP:eu.p F D t.1 t.2=some (num u D.length)
 sP:a_.p F D=some u
 euler:R.length=D.length+2 * rk u D.length
 draw:gM.p F D c=some (t.1,t.2,true)
theorem partCount {D:List Cr} {u:List Int} (hu:u.length<=1000) (hF:2000<F) (e:a_.p F D=some u):dv.p F D=some ((rk u u.length:Nat):Int):=by
 unfold dv.p
 rw [e,Option.bind_some]
 exact pcount_l (F:=F) hu u.length F 0 (by omega) (by omega) (by omega)
theorem isDr {D:List Cr} {c:Int} (hl:D.length<=2000000) (hF:5000000<F) :
  (gL.p F D c=some false/\∃ x y,gM.p F D c=some (x,y,false))\/(gL.p F D c=some true/\∃ t R s u,DG F D c t R s u):=by
 unfold gL.p
 by_cases h1:D.length<=10
 ·rw [decide_eq_false (by omega),cond_false,BR,Option.bind_some]
  by_cases h2:0<=c/\c<=8
  ·rw [decide_eq_true h2,Bool.not_true,cond_false]
   obtain ⟨b,q1,q2⟩:=counts_whole (F:=F) (D:=D) (by omega) (by omega)
   rw [q1,Option.bind_some]
   by_cases hs:∀ x∈D,SgOk x
   ·rcases arrows_whole (F:=F) (by omega) hs (by omega) with ⟨e,x,y,r⟩ | ⟨t,e,r⟩
    ·left
     have hb:b=false:=by
      cases b with
      | false=>rfl
      | true=>obtain ⟨_,t,e'⟩:=q2.1 rfl;rw [e] at e';cases e'
     subst hb
     refine ⟨rfl,[],[],?_⟩
     unfold gM.p fl.p
     rw [Option.bind_some,decide_eq_false (by omega),cond_false,tF,Option.bind_some,decide_eq_true h2,Bool.not_true,cond_false,sgn_all (by omega) (by omega),Option.bind_some,decide_eq_false (λq=>q hs),cond_false,r,Option.bind_some]
     rfl
    ·have hb:b=true:=q2.2 ⟨hs,t,e⟩
     subst hb
     have tb:=run_TB hs e
     obtain ⟨R,rg,e1,e2⟩:=regions_both (F:=F) tb (by omega) (by omega)
     obtain ⟨s,u,uf,cls,e3,e4⟩:=parts_both (F:=F) tb (by omega) (by omega)
     have hRl:=rg.le
     have hk:=rk_le u D.length
     rw [Bool.not_true,cond_false,e1,Option.bind_some,partCount (by rw [uf.lt];omega) (by omega) e4,Option.bind_some,uf.lt,bX (x:=2 * ((rk u D.length:Nat):Int)) (by omega) (by omega),bX (by omega) (by omega)]
     have hd:gM.p F D c=(bif ((R.length:Int) != (D.length:Int)+2 * ((rk u D.length:Nat):Int)) then (some (([]:List (Int×Int)),([]:List (Int×Int)),false)) else (some (t.1,t.2,true))):=by
      unfold gM.p fl.p
      rw [Option.bind_some,decide_eq_false (by omega),cond_false,tF,Option.bind_some,decide_eq_true h2,Bool.not_true,cond_false,sgn_all (by omega) (by omega),Option.bind_some,decide_eq_false (λq=>q hs),cond_false,r,Option.bind_some]
      simp only [Bool.not_true,cond_false]
      rw [e2,Option.bind_some]
      unfold md.p
      rw [Option.bind_some,e3,Option.bind_some,i_classCount uf.low (by omega) (by omega),Option.bind_some,bX (x:=2 * ((rk u D.length:Nat):Int)) (by omega) (by omega),bX (by omega) (by omega)]
     by_cases he:R.length=D.length+2 * rk u D.length
     ·right
      refine ⟨by congr 1;simp;omega,t,R,s,u,⟨h1,h2.1,h2.2,tb,rg,e1,e2,uf,cls,e3,e4,he,?_⟩⟩
      rw [hd,show ((R.length:Int) != (D.length:Int)+2 * ((rk u D.length:Nat):Int))=false by simp;omega,cond_false]
     ·left
      refine ⟨by congr 1;simp;omega,[],[],?_⟩
      rw [hd,show ((R.length:Int) != (D.length:Int)+2 * ((rk u D.length:Nat):Int))=true by simp;omega,cond_true]
   ·left
    have hb:b=false:=by
     cases b with
     | false=>rfl
     | true=>exact absurd (q2.1 rfl).1 hs
    subst hb
    refine ⟨rfl,[],[],?_⟩
    unfold gM.p fl.p
    rw [Option.bind_some,decide_eq_false (by omega),cond_false,tF,Option.bind_some,decide_eq_true h2,Bool.not_true,cond_false,sgn_all (by omega) (by omega),Option.bind_some,decide_eq_true hs,cond_true]
  ·left
   rw [decide_eq_false h2,Bool.not_false,cond_true]
   refine ⟨rfl,[],[],?_⟩
   unfold gM.p fl.p
   rw [Option.bind_some,decide_eq_false (by omega),cond_false,tF,Option.bind_some,decide_eq_false h2,Bool.not_false,cond_true]
 ·left
  rw [decide_eq_true (by omega),cond_true]
  refine ⟨rfl,[],[],?_⟩
  unfold gM.p fl.p
  rw [Option.bind_some,decide_eq_true (by omega),cond_true]
end Go.Proofs.YtppbogklbhfboaaGreat.AE.DD
end
section
namespace Go.Proofs.YtppbogklbhfboaaGreat.AE.DD
open Go Go.AE Go.Proofs
variable {F:Nat}
theorem isD {D:List Cr} {c:Int} (hl:D.length<=2000000) (hF:5000000<F) :
  (gL.p F D c=some false/\jq.p F D c=some false/\∃ x y,gM.p F D c=some (x,y,false)) \/
  (gL.p F D c=some true/\jq.p F D c=some true/\∃ t R s u,DG F D c t R s u):=by
 have key:=isDr (F:=F) (c:=c) hl hF
 rcases key with ⟨a,x,y,e⟩ | ⟨a,t,R,s,u,h⟩
 ·left
  refine ⟨a,?_,x,y,e⟩
  unfold jq.p
  rw [e,Option.bind_some]
 ·right
  refine ⟨a,?_,t,R,s,u,h⟩
  unfold jq.p
  rw [h.draw,Option.bind_some]
end Go.Proofs.YtppbogklbhfboaaGreat.AE.DD
end
section
namespace Go.Proofs.YtppbogklbhfboaaGreat.AE.DD
open Go Go.AE Go.Proofs
variable {F:Nat}
theorem en_at {D:List Cr} {t:Tb} (h:TB D t) {i p:Nat} (hi:i<D.length) (hp:p<4):∃ a:Nat,en (gt D i) p=(a:Int)/\a<2 * D.length:=by
 cases he:ent (gt D i) p with
 | true=>obtain ⟨h0,h1,_⟩:=h.to_.put i p hi hp he;exact ⟨(en (gt D i) p).toNat,by omega,by omega⟩
 | false=>obtain ⟨h0,h1,_⟩:=h.fr.put i p hi hp he;exact ⟨(en (gt D i) p).toNat,by omega,by omega⟩
theorem spass_in {C:List Cr->Int->List Int->Int->Option (List Int×Int)} {D:List Cr} {c:Int} {y6:Nat} {x y:Int} {l0:List Int} (hl:l0.length<=1000) (hy:y6<=1000):∀ (m g k:Nat) (l:List Int),l0.length - k=m->m<g->k<=l0.length->RelTo l0 (max x y) (min x y) k l ->
  aH.pl1963 F C g D c l (y6:Int) x y (k:Int)=C D c (rel l0 (max x y) (min x y)) ((y6+1:Nat):Int):=by
 intro m
 induction m with
 | zero=>
  intro g k l hm hg hk h
  obtain ⟨g,rfl⟩:∃ g',g=g'+1:=⟨g - 1,by omega⟩
  rw [aH.pl1963,dF (by rw [h.1];omega),cond_false,h.fin (by omega)]
  unfold aH.pj11 aH.pj10
  rw [ws (by omega)]
 | succ m ih=>
  intro g k l hm hg hk h
  obtain ⟨g,rfl⟩:∃ g',g=g'+1:=⟨g - 1,by omega⟩
  rw [aH.pl1963,dT (by rw [h.1];omega),cond_true,ixn (by rw [h.1];omega),Option.bind_some,ifmax,ifmin]
  unfold aH.pj12
  rw [ws (by omega)]
  by_cases e:gt l k=max x y
  ·rw [show (gt l k==max x y)=true by simpa using e,cond_true,Option.bind_some,Option.bind_some]
   exact ih g (k+1) _ (by omega) (by omega) (by omega) (h.hit (by omega) e)
  ·rw [show (gt l k==max x y)=false by simpa using e,cond_false]
   exact ih g (k+1) _ (by omega) (by omega) (by omega) (h.miss e)
theorem spass_num {c:Int} {u:List Int} {n:Nat} (hn:n<=1000) (hu:u.length=n) (hl:∀ i:Nat,i<n->∃ r:Nat,gt u i=(r:Int)/\r<=i/\gt u r=(r:Int)) (hc:0<=c) (hc8:c<=1000):∀ (m g k:Nat),n - k=m->m<g->k<=n ->
  aH.pl509 F g c u (num u k) ((rk u k:Nat):Int) (k:Int)=some (num u n,((rk u n:Nat):Int)+c):=by
 intro m
 induction m with
 | zero=>
  intro g k hm hg hk
  obtain ⟨g,rfl⟩:∃ g',g=g'+1:=⟨g - 1,by omega⟩
  have:=rk_le u n
  rw [aH.pl509,dF (by omega),cond_false]
  unfold aH.pj6
  rw [show k=n by omega,bX (by omega) (by omega)]
 | succ m ih=>
  intro g k hm hg hk
  obtain ⟨g,rfl⟩:∃ g',g=g'+1:=⟨g - 1,by omega⟩
  have:=rk_le u k
  obtain ⟨r,e1,e2,e3⟩:=hl k (by omega)
  have hrk:(gt u k).toNat=r:=by rw [e1];simp
  rw [aH.pl509,dT (by omega),cond_true,ixn (by omega),Option.bind_some]
  have ih:=ih g (k+1) (by omega) (by omega) (by omega)
  rw [num_succ,hrk,rk] at ih
  unfold aH.pj7
  rw [ws (i:=k) (by omega),ws (by omega)]
  by_cases c1:r=k
  ·subst c1
   rw [e3,beq_self_eq_true,cond_true,apn_of (by rw [num_len];simp;omega),Option.bind_some]
   rw [e3,beq_self_eq_true,cond_true] at ih
   exact ih
  ·rw [e1,show ((r:Int)==(k:Int))=false by simp;omega,cond_false,Option.bind_some,e1,ixn (by rw [num_len];omega),Option.bind_some,gt_num (by omega),e3,Int.toNat_natCast,apn_of (by rw [num_len];simp;omega),Option.bind_some]
   rw [e1,show ((r:Int)==(k:Int))=false by simp;omega,cond_false,Nat.add_zero] at ih
   exact ih
def Eo (D:List Cr) (k:Nat) (a b:Nat):Prop:=∃ x:Nat,x<k/\en (gt D x) 1=(a:Int)/\en (gt D x) 3=(b:Int)
theorem pass_l {D:List Cr} {t:Tb} {c:Int} (h:TB D t) (hD:D.length<=30) (hF:5000<F) (hc:0<=c) (hc8:c<=1000):∀ (m g k:Nat) (s u:List Int),D.length - k=m->m<g->k<=D.length->UF s u (2 * D.length)->Cls u (2 * D.length) (Eo D k) ->
  ∃ s' u',UF s' u' (2 * D.length)/\Cls u' (2 * D.length) (Eo D D.length)/\dz.pl29 F g D c s (D.length:Int) (k:Int)=some (num u' (2 * D.length),((rk u' (2 * D.length):Nat):Int)+c) /\
   aH.pl61 F g D c u (k:Int)=some (num u' (2 * D.length),((rk u' (2 * D.length):Nat):Int)+c):=by
 intro m
 induction m with
 | zero=>
  intro g k s u hm hg hk hu hcl
  obtain ⟨g,rfl⟩:∃ g',g=g'+1:=⟨g - 1,by omega⟩
  have:=rk_le u (2 * D.length)
  refine ⟨s,u,hu,by rw [show D.length=k by omega] at hcl ⊢;exact hcl,?_,?_⟩
  ·rw [dz.pl29,dF (by omega),cond_false]
   unfold dz.pj1
   rw [i_numbered hu (by omega),Option.bind_some,i_classCount hu.low (by omega) (by omega),Option.bind_some,bX (by omega) (by omega)]
  ·rw [aH.pl61,dF (by omega),cond_false]
   unfold aH.pj8
   exact spass_num (by omega) hu.lt hu.low hc hc8 (2 * D.length) F 0 (by omega) (by omega) (by omega)
 | succ m ih=>
  intro g k s u hm hg hk hu hcl
  obtain ⟨g,rfl⟩:∃ g',g=g'+1:=⟨g - 1,by omega⟩
  have hkl:k<D.length:=by omega
  obtain ⟨i,e1,hi⟩:=en_at h hkl (show 1<4 by decide)
  obtain ⟨j,e2,hj⟩:=en_at h hkl (show 3<4 by decide)
  have f1:(gt D k).2.1=(i:Int):=e1
  have f2:(gt D k).2.2.2.1=(j:Int):=e2
  have hu':=hu.union hi hj (hi_:=max (gt u i) (gt u j)) (lo:=min (gt u i) (gt u j)) (by omega) (by omega)
  have hc':=hcl.union hu.lt hi hj (E':=Eo D (k+1)) (λa b=>by
   constructor
   ·rintro ⟨x,hx,a1,a2⟩
    by_cases e:x=k
    ·subst e;rw [e1] at a1;rw [e2] at a2;exact .inr ⟨by omega,by omega⟩
    ·exact .inl ⟨x,by omega,a1,a2⟩
   ·rintro (⟨x,hx,a1,a2⟩ | ⟨rfl,rfl⟩)
    ·exact ⟨x,by omega,a1,a2⟩
    ·exact ⟨k,by omega,e1,e2⟩) (hi_:=max (gt u i) (gt u j)) (lo:=min (gt u i) (gt u j)) (by omega)
  obtain ⟨s',u',q1,qc,q2,q3⟩:=ih g (k+1) _ _ (by omega) (by omega) (by omega) hu' hc'
  refine ⟨s',u',q1,qc,?_,?_⟩
  ·rw [dz.pl29,dT hkl,cond_true,ixn hkl,Option.bind_some,f1,f2,i_union (by rw [hu.ls];exact hi) (by rw [hu.ls];exact hj) (by rw [hu.ls];omega) (by omega),Option.bind_some,ws (by omega)]
   exact q2
  ·rw [aH.pl61,dT hkl,cond_true,ixn hkl]
   simp only [Option.bind_some,f1,f2]
   rw [ixn (by rw [hu.lt];exact hi),Option.bind_some,ixn (by rw [hu.lt];exact hj),Option.bind_some]
   have:=spass_in (F:=F) (C:=aH.pl61 F g) (D:=D) (c:=c) (y6:=k) (x:=gt u i) (y:=gt u j) (l0:=u) (by rw [hu.lt];omega) (by omega) u.length F 0 u (by omega) (by rw [hu.lt];omega) (by omega) (.start _ _ _)
   have this:aH.pl1963 F (aH.pl61 F g) F D c u (k:Int) (gt u i) (gt u j) 0=_:=this
   rw [this]
   exact q3
theorem spass_start {D:List Cr} {c:Int} (hD:D.length<=30):∀ (m g k:Nat),2 * D.length - k=m->m<g->k<=2 * D.length->aH.pl29 F g D c (cntg k) (k:Int)=aH.pl61 F F D c (cntg (2 * D.length)) 0:=by
 intro m
 induction m with
 | zero=>
  intro g k hm hg hk
  obtain ⟨g,rfl⟩:∃ g',g=g'+1:=⟨g - 1,by omega⟩
  rw [aH.pl29,show (2:Int) * (D.length:Int)=((2 * D.length:Nat):Int) by omega,wn (by omega),dF (by omega),cond_false,show k=2 * D.length by omega]
  rfl
 | succ m ih=>
  intro g k hm hg hk
  obtain ⟨g,rfl⟩:∃ g',g=g'+1:=⟨g - 1,by omega⟩
  rw [aH.pl29,show (2:Int) * (D.length:Int)=((2 * D.length:Nat):Int) by omega,wn (by omega),dT (by omega),cond_true,apn_of (by rw [cntg_len];simp;omega),Option.bind_some,ws (by omega),<-cntg_succ]
  exact ih g (k+1) (by omega) (by omega) (by omega)
structure OV (F:Nat) (D:List Cr) (c:Int) (u:List Int):Prop where
 uf:∃ s,UF s u (2 * D.length)
 cls:Cls u (2 * D.length) (Eo D D.length)
 i:dz.p F D c=some (num u (2 * D.length),((rk u (2 * D.length):Nat):Int)+c)
 s:aH.p F D c=some (num u (2 * D.length),((rk u (2 * D.length):Nat):Int)+c)
theorem overpasses_both {D:List Cr} {t:Tb} {c:Int} (h:TB D t) (hD:D.length<=30) (hF:5000<F) (hc:0<=c) (hc8:c<=1000):∃ u,OV F D c u:=by
 obtain ⟨s,u,q1,qc,q2,q3⟩:=pass_l h hD hF hc hc8 D.length F 0 (cntg (2 * D.length)) (cntg (2 * D.length)) (by omega) (by omega) (by omega) (UF.start _) (by
  have:=Cls.start (2 * D.length)
  rw [show (λ_ _=>False)=Eo D 0 from by funext a b;exact propext ⟨λq=>q.elim,λ⟨x,hx,_⟩=>absurd hx (Nat.not_lt_zero _)⟩] at this
  exact this)
 refine ⟨u,⟨s,q1⟩,qc,?_,?_⟩
 ·unfold dz.p fl.p
  rw [Option.bind_some,show (2:Int) * (D.length:Int)=((2 * D.length:Nat):Int) by omega,wn (by omega),i_counting (by omega) (by omega),Option.bind_some]
  exact q2
 ·unfold aH.p
  have:=spass_start (F:=F) (c:=c) hD (2 * D.length) F 0 (by omega) (by omega) (by omega)
  exact this.trans q3
end Go.Proofs.YtppbogklbhfboaaGreat.AE.DD
end
section
namespace Go.Proofs.YtppbogklbhfboaaGreat.AE.DD
open Go Go.AE Go.Proofs
variable {F:Nat}
theorem w_add (a b:Int):IntKind.i64.wrap (IntKind.i64.wrap a+b)=IntKind.i64.wrap (a+b):=by
 rw [IntKind.wrap_i64,IntKind.wrap_i64,IntKind.wrap_i64];omega
def upd (l:List Int) (a:Nat) (x:Int):List Int:=l.set a (IntKind.i64.wrap (gt l a+x))
theorem upd_len (l:List Int) (a:Nat) (x:Int):(upd l a x).length=l.length:=by simp [upd]
theorem upd_comm {l:List Int} {a b:Nat} {x y:Int} (ha:a<l.length) (hb:b<l.length):upd (upd l a x) b y=upd (upd l b y) a x:=by
 unfold upd
 by_cases e:a=b
 ·subst e
  rw [gset_eq ha,gset_eq ha,List.set_set,List.set_set,w_add,w_add]
  congr 2;omega
 ·rw [gset_ne e,gset_ne (Ne.symm e),List.set_comm _ _ e]
def row3 (D:List Cr) (p:List Int) (n k:Nat) (l:List Int):List Int:=
 upd (upd (upd l (k * n+(gt p (en (gt D k) 0).toNat).toNat) (-1)) (k * n+(gt p (en (gt D k) 2).toNat).toNat) (-1)) (k * n+(gt p (en (gt D k) 1).toNat).toNat) 2
theorem row3_len (D:List Cr) (p:List Int) (n k:Nat) (l:List Int):(row3 D p n k l).length=l.length:=by simp only [row3,upd_len]
def Bnd (l:List Int) (b:Nat):Prop:=∀ m:Nat,-(b:Int)<=gt l m/\gt l m<=b
theorem upd_bd {l:List Int} {b a:Nat} {x:Int} (h:Bnd l b) (hb:b<=1000) (hx:-2<=x/\x<=2):Bnd (upd l a x) (b+2):=λm=>by
 have h1:=h m
 have h2:=h a
 unfold upd
 rw [bX (by omega) (by omega)]
 by_cases e:a=m
 ·subst e
  by_cases c:a<l.length
  ·rw [gset_eq c];omega
  ·rw [gt_out (by rw [List.length_set];omega)]
   show -((b+2:Nat):Int)<=0/\(0:Int)<=((b+2:Nat):Int)
   omega
 ·rw [gset_ne e];omega
theorem row3_bd {D:List Cr} {p:List Int} {n k b:Nat} {l:List Int} (h:Bnd l b) (hb:b<=900):Bnd (row3 D p n k l) (b+6):=
 upd_bd (b:=b+4) (upd_bd (b:=b+2) (upd_bd h (by omega) (by omega)) (by omega) (by omega)) (by omega) (by omega)
theorem ixm {l:List Int} {k n a:Nat} {x:Int} (hx:x=(a:Int)) (hk:k<=100) (hn:n<=1000) (ha:a<n) (hl:(k+1) * n<=l.length):ix l (IntKind.i64.wrap (IntKind.i64.wrap ((k:Int) * (n:Int))+x))=some (k * n+a):=by
 have h1:k * n<=100 * 1000:=Nat.mul_le_mul hk hn
 have h2:(k+1) * n=k * n+n:=by rw [Nat.add_mul,Nat.one_mul]
 rw [hx,show (k:Int) * (n:Int)=((k * n:Nat):Int) by rw [Int.natCast_mul],wn (by omega),show ((k * n:Nat):Int)+(a:Int)=((k * n+a:Nat):Int) by omega,wn (by omega),ixn (by omega)]
theorem cm_l {D:List Cr} {t:Tb} {u:List Int} {n:Nat} (h:TB D t) (hD:D.length<=30) (hn:n<=1000) (hu:∀ i:Nat,i<2 * D.length->∃ r:Nat,gt u i=(r:Int)/\r<=i/\gt u r=(r:Int)) (hrn:rk u (2 * D.length)<=n):∀ (m g k:Nat) (l:List Int),D.length - k=m->m<g->k<=D.length->l.length=D.length * n->Bnd l (6 * k) ->
  ∃ l',(l'.length=D.length * n/\Bnd l' (6 * D.length))/\dP.pl61 F g D (num u (2 * D.length)) (n:Int) (D.length:Int) (n:Int) l (k:Int)=some ((D.length:Int),(n:Int),l') /\
   eB.pl61 F g (num u (2 * D.length)) (D.length:Int) (n:Int) l D (D.length:Int) (k:Int)=some ((D.length:Int),(n:Int),l'):=by
 intro m
 induction m with
 | zero=>
  intro g k l hm hg hk hl hB
  obtain ⟨g,rfl⟩:∃ g',g=g'+1:=⟨g - 1,by omega⟩
  refine ⟨l,⟨hl,by rw [show D.length=k by omega];exact hB⟩,?_,?_⟩
  ·rw [dP.pl61,dF (by omega),cond_false]
  ·rw [eB.pl61,dF (by omega),cond_false]
 | succ m ih=>
  intro g k l hm hg hk hl hB
  obtain ⟨g,rfl⟩:∃ g',g=g'+1:=⟨g - 1,by omega⟩
  have hkl:k<D.length:=by omega
  obtain ⟨a,e0,ha⟩:=en_at h hkl (show 0<4 by decide)
  obtain ⟨b,e1,hb⟩:=en_at h hkl (show 1<4 by decide)
  obtain ⟨c,e2,hc⟩:=en_at h hkl (show 2<4 by decide)
  have f0:(gt D k).1=(a:Int):=e0
  have f1:(gt D k).2.1=(b:Int):=e1
  have f2:(gt D k).2.2.1=(c:Int):=e2
  have val:∀ x,x<2 * D.length->∃ v:Nat,gt (num u (2 * D.length)) x=(v:Int)/\v<n:=λx hx=>by
   obtain ⟨r,q1,q2,q3⟩:=hu x hx
   refine ⟨rk u (gt u x).toNat,gt_num hx,?_⟩
   have:=rk_root q3 (show r<2 * D.length by omega)
   rw [q1,Int.toNat_natCast];omega
  obtain ⟨va,g0,la⟩:=val a ha
  obtain ⟨vb,g1,lb⟩:=val b hb
  obtain ⟨vc,g2,lc⟩:=val c hc
  have hkn:(k+1) * n<=l.length:=by rw [hl];exact Nat.mul_le_mul_right _ (by omega)
  have hkn2:(k+1) * n=k * n+n:=by rw [Nat.add_mul,Nat.one_mul]
  obtain ⟨l',q0,q1,q2⟩:=ih g (k+1) (row3 D (num u (2 * D.length)) n k l) (by omega) (by omega) (by omega) (by rw [row3_len];exact hl) (by have:=row3_bd (D:=D) (p:=num u (2 * D.length)) (n:=n) (k:=k) (b:=6 * k) hB (by omega);exact this)
  have hrow:row3 D (num u (2 * D.length)) n k l=upd (upd (upd l (k * n+va) (-1)) (k * n+vc) (-1)) (k * n+vb) 2:=by
   unfold row3
   rw [e0,e1,e2,Int.toNat_natCast,Int.toNat_natCast,Int.toNat_natCast,g0,g1,g2,Int.toNat_natCast,Int.toNat_natCast,Int.toNat_natCast]
  refine ⟨l',q0,?_,?_⟩
  ·rw [dP.pl61,dT hkl,cond_true,ixn hkl]
   simp only [Option.bind_some,f0,f1,f2]
   rw [ixn (by rw [num_len];exact ha),Option.bind_some,ixn (by rw [num_len];exact hc),Option.bind_some,ixn (by rw [num_len];exact hb),Option.bind_some,ixm g0 (by omega) hn la hkn,Option.bind_some,Option.bind_some,
    ixm g2 (by omega) hn lc (by rw [List.length_set];exact hkn),Option.bind_some,Option.bind_some,ixm g1 (by omega) hn lb (by rw [List.length_set,List.length_set];exact hkn),Option.bind_some,Option.bind_some,ws (by omega)]
   rw [hrow] at q1
   exact q1
  ·rw [eB.pl61,dT hkl,cond_true,ixn hkl]
   simp only [Option.bind_some,f0,f1,f2]
   rw [ixn (by rw [num_len];exact hb),Option.bind_some,ixm g1 (by omega) hn lb hkn,Option.bind_some,ixn (by rw [num_len];exact ha),Option.bind_some,ixm g0 (by omega) hn la (by rw [List.length_set];exact hkn),Option.bind_some,
    ixn (by rw [num_len];exact hc),Option.bind_some,ixm g2 (by omega) hn lc (by rw [List.length_set,List.length_set];exact hkn),Option.bind_some,ws (by omega)]
   rw [hrow,upd_comm (by rw [upd_len];omega) (by rw [upd_len];omega),upd_comm (x:=-1) (y:=2) (by omega) (by omega)] at q2
   exact q2
structure CM (F:Nat) (D:List Cr) (c:Int) (n:Nat) (l:List Int):Prop where
 n1:n<=48
 len:l.length=D.length * n
 bd:Bnd l 1000
 pos:D.length≠0\/c≠0->1<=n
 s:dP.p F D c=some ((D.length:Int),(n:Int),l)
 i:eB.p F D c=some ((D.length:Int),(n:Int),l)
theorem cm_both {D:List Cr} {t:Tb} {c:Int} (h:TB D t) (hD:D.length<=10) (hF:5000<F) (hc:0<=c) (hc8:c<=8):∃ n l,CM F D c n l:=by
 obtain ⟨u,o⟩:=overpasses_both (F:=F) (c:=c) h (by omega) hF hc (by omega)
 obtain ⟨s,uf⟩:=o.uf
 have hrk:=rk_le u (2 * D.length)
 obtain ⟨n,hn⟩:∃ n:Nat,((rk u (2 * D.length):Nat):Int)+c=(n:Int):=⟨rk u (2 * D.length)+c.toNat,by omega⟩
 have hz:D.length * n<=10 * 100:=Nat.mul_le_mul hD (by omega)
 have hmk:mkn (IntKind.i64.wrap ((D.length:Int) * (n:Int))) (0:Int)=some (List.replicate (D.length * n) 0):=by
  rw [<- Int.natCast_mul,wn (by omega),mkn_of (by omega)]
 obtain ⟨l,q0,q1,q2⟩:=cm_l (F:=F) (n:=n) h (by omega) (by omega) uf.low (by omega) D.length F 0 (List.replicate (D.length * n) 0) (by omega) (by omega) (by omega) (by simp) (λm=>by
  have:gt (List.replicate (D.length * n) (0:Int)) m=0:=by unfold gt;simp [List.getElem?_replicate];split <;> rfl
  rw [this];omega)
 refine ⟨n,l,⟨by omega,q0.1,λm=>by have:=q0.2 m;omega,λhp=>?_,?_,?_⟩⟩
 ·by_cases h0:D.length=0
  ·have:c≠0:=hp.resolve_left (λq=>q h0)
   omega
  ·obtain ⟨r,r1,r2,_⟩:=uf.low 0 (by omega)
   have g0:gt u 0=0:=by rw [r1];omega
   have h1:rk u 1=1:=by rw [rk,g0];rfl
   have:=rk_mono u (show 1<=2 * D.length by omega)
   omega
 ·unfold dP.p fM.p
  rw [o.s,Option.bind_some,hn]
  simp only [hmk,Option.bind_some]
  exact q1
 ·unfold eB.p fl.p gl.p
  rw [o.i,Option.bind_some,Option.bind_some,hn]
  simp only [hmk,Option.bind_some]
  exact q2
end Go.Proofs.YtppbogklbhfboaaGreat.AE.DD
end
section
namespace Go.Proofs.YtppbogklbhfboaaGreat.AE.SS
open Go Go.AE Go.Proofs
def sw (i k a:Int):Int:=if a=i then k else if a=k then i else a
def swR (A:Mat) (i k:Int):Mat:=λa b=>A (sw i k a) b
def swC (A:Mat) (j k:Int):Mat:=λa b=>A a (sw j k b)
def ngR (A:Mat) (k:Int):Mat:=λa b=>if a=k then - A a b else A a b
def ngC (A:Mat) (k:Int):Mat:=λa b=>if b=k then - A a b else A a b
def Bd (R C:Nat) (A:Mat):Prop:=∀ i j:Int,0<=i->i<R->0<=j->j<C->-1000000000000<=A i j/\A i j<=1000000000000
variable {R C F:Nat} {A:Mat} {i j k:Int}
theorem at_mk (hR:R<=1000) (hC:C<=1000) (hi0:0<=i) (hi:i<R) (hj0:0<=j) (hj:j<C):bB.p F C (mk R C A) i j=some (A i j):=by
 unfold bB.p
 simp (disch:=omega) only [kn,lK,Option.bind_some]
theorem akP (hR:R<=1000) (hC:C<=1000) (hi0:0<=i) (hi:i<R) (hk0:0<=k) (hk:k<R):∀ (n f:Nat) (A:Mat) (j:Int),C - j=n->n<f->0<=j ->
  dq.pl7 F f i k C (mk R C A) j=some (mk R C λa b=>if j<=b then A (sw i k a) b else A a b):=by
 intro n
 induction n with
 | zero=>
  intro f A j hn hf hj
  obtain ⟨f,rfl⟩:∃ f',f=f'+1:=⟨f - 1,by omega⟩
  rw [dq.pl7,show decide (j<(C:Int))=false from decide_eq_false (by omega),cond_false]
  congr 1
  apply fW
  intro a b _ _ _ _
  rw [if_neg (by omega)]
 | succ n ih=>
  intro f A j hn hf hj
  obtain ⟨f,rfl⟩:∃ f',f=f'+1:=⟨f - 1,by omega⟩
  rw [dq.pl7,show decide (j<(C:Int))=true from decide_eq_true (by omega),cond_true]
  simp (disch:=omega) only [at_mk,kn,lK,oM,Option.bind_some,bX]
  rw [ih _ _ _ (by omega) (by omega) (by omega)]
  congr 1
  apply fW
  intro a b _ _ _ _
  unfold upd sw
  grind
theorem Tn (hR:R<=1000) (hC:C<=1000) (hF:C<F) (hi0:0<=i) (hi:i<R) (hk0:0<=k) (hk:k<R):dq.p F C (mk R C A) i k=some (mk R C (swR A i k)):=by
 unfold dq.p
 rw [akP hR hC hi0 hi hk0 hk C F A 0 (by omega) hF (by omega)]
 apply congrArg some
 apply fW
 intro a b _ _ _ _
 exact if_pos (by omega)
theorem akQ (hR:R<=1000) (hC:C<=1000) (hi0:0<=i) (hi:i<R) (hk0:0<=k) (hk:k<R):∀ (n f:Nat) (A:Mat) (j:Int),C - j=n->n<f->0<=j ->
  dI.pl7 F f i k C (mk R C A) C j=some (mk R C λa b=>if j<=b then A (sw i k a) b else A a b):=by
 intro n
 induction n with
 | zero=>
  intro f A j hn hf hj
  obtain ⟨f,rfl⟩:∃ f',f=f'+1:=⟨f - 1,by omega⟩
  rw [dI.pl7,show decide (j<(C:Int))=false from decide_eq_false (by omega),cond_false]
  congr 1
  apply fW
  intro a b _ _ _ _
  rw [if_neg (by omega)]
 | succ n ih=>
  intro f A j hn hf hj
  obtain ⟨f,rfl⟩:∃ f',f=f'+1:=⟨f - 1,by omega⟩
  rw [dI.pl7,show decide (j<(C:Int))=true from decide_eq_true (by omega),cond_true]
  simp (disch:=omega) only [at_mk,kn,lK,oM,Option.bind_some,bX]
  rw [ih _ _ _ (by omega) (by omega) (by omega)]
  congr 1
  apply fW
  intro a b _ _ _ _
  unfold upd sw
  grind
theorem To (hR:R<=1000) (hC:C<=1000) (hF:C<F) (hi0:0<=i) (hi:i<R) (hk0:0<=k) (hk:k<R):dI.p F C (mk R C A) i k=some (mk R C (swR A i k)):=by
 unfold dI.p
 rw [akQ hR hC hi0 hi hk0 hk C F A 0 (by omega) hF (by omega)]
 apply congrArg some
 apply fW
 intro a b _ _ _ _
 exact if_pos (by omega)
theorem akR (hR:R<=1000) (hC:C<=1000) (hi0:0<=j) (hi:j<C) (hk0:0<=k) (hk:k<C):∀ (n f:Nat) (A:Mat) (i:Int),R - i=n->n<f->0<=i ->
  dr.pl7 F f j k R C (mk R C A) i=some (mk R C λa b=>if i<=a then A a (sw j k b) else A a b):=by
 intro n
 induction n with
 | zero=>
  intro f A j hn hf hj
  obtain ⟨f,rfl⟩:∃ f',f=f'+1:=⟨f - 1,by omega⟩
  rw [dr.pl7,show decide (j<(R:Int))=false from decide_eq_false (by omega),cond_false]
  congr 1
  apply fW
  intro a b _ _ _ _
  rw [if_neg (by omega)]
 | succ n ih=>
  intro f A j hn hf hj
  obtain ⟨f,rfl⟩:∃ f',f=f'+1:=⟨f - 1,by omega⟩
  rw [dr.pl7,show decide (j<(R:Int))=true from decide_eq_true (by omega),cond_true]
  simp (disch:=omega) only [at_mk,kn,lK,oM,Option.bind_some,bX]
  rw [ih _ _ _ (by omega) (by omega) (by omega)]
  congr 1
  apply fW
  intro a b _ _ _ _
  unfold upd sw
  grind
theorem Tp (hR:R<=1000) (hC:C<=1000) (hF:R<F) (hi0:0<=j) (hi:j<C) (hk0:0<=k) (hk:k<C):dr.p F R C (mk R C A) j k=some (mk R C (swC A j k)):=by
 unfold dr.p
 rw [akR hR hC hi0 hi hk0 hk R F A 0 (by omega) hF (by omega)]
 apply congrArg some
 apply fW
 intro a b _ _ _ _
 exact if_pos (by omega)
theorem akS (hR:R<=1000) (hC:C<=1000) (hi0:0<=j) (hi:j<C) (hk0:0<=k) (hk:k<C):∀ (n f:Nat) (A:Mat) (i:Int),R - i=n->n<f->0<=i ->
  dJ.pl7 F f j k C (mk R C A) R i=some (mk R C λa b=>if i<=a then A a (sw j k b) else A a b):=by
 intro n
 induction n with
 | zero=>
  intro f A j hn hf hj
  obtain ⟨f,rfl⟩:∃ f',f=f'+1:=⟨f - 1,by omega⟩
  rw [dJ.pl7,show decide (j<(R:Int))=false from decide_eq_false (by omega),cond_false]
  congr 1
  apply fW
  intro a b _ _ _ _
  rw [if_neg (by omega)]
 | succ n ih=>
  intro f A j hn hf hj
  obtain ⟨f,rfl⟩:∃ f',f=f'+1:=⟨f - 1,by omega⟩
  rw [dJ.pl7,show decide (j<(R:Int))=true from decide_eq_true (by omega),cond_true]
  simp (disch:=omega) only [at_mk,kn,lK,oM,Option.bind_some,bX]
  rw [ih _ _ _ (by omega) (by omega) (by omega)]
  congr 1
  apply fW
  intro a b _ _ _ _
  unfold upd sw
  grind
theorem Tq (hR:R<=1000) (hC:C<=1000) (hF:R<F) (hi0:0<=j) (hi:j<C) (hk0:0<=k) (hk:k<C):dJ.p F R C (mk R C A) j k=some (mk R C (swC A j k)):=by
 unfold dJ.p
 rw [akS hR hC hi0 hi hk0 hk R F A 0 (by omega) hF (by omega)]
 apply congrArg some
 apply fW
 intro a b _ _ _ _
 exact if_pos (by omega)
theorem negr_l (hR:R<=1000) (hC:C<=1000) (hk0:0<=k) (hk:k<R):∀ (n:Nat) (A:Mat) (j:Int),Bd R C A->C - j=n->0<=j ->
  rN (mk R C A) (k * C+j).toNat n=mk R C λa b=>if a=k/\j<=b then - A a b else A a b:=by
 intro n
 induction n with
 | zero=>
  intro A j hb hn hj
  unfold rN
  apply fW
  intro a b _ _ _ _
  rw [if_neg (by omega)]
 | succ n ih=>
  intro A j hb hn hj
  unfold rN
  have h1:0<=k * C:=Int.mul_nonneg hk0 (Int.natCast_nonneg _)
  have hbb:=hb k j hk0 hk hj (by omega)
  simp (disch:=omega) only [kn,lK,oM]
  rw [bX (by omega) (by omega),show (k * C+j).toNat+1=(k * C+(j+1)).toNat by omega,ih _ (j+1) ?_ (by omega) (by omega)]
  ·apply fW
   intro a b _ _ _ _
   unfold upd
   grind
  ·intro a b h1 h2 h3 h4
   have:=hb a b h1 h2 h3 h4
   unfold upd
   split <;> omega
theorem negr_mk (hR:R<=1000) (hC:C<=1000) (hk0:0<=k) (hk:k<R) (hb:Bd R C A):rN (mk R C A) (k * C).toNat C=mk R C (ngR A k):=by
 have:=negr_l hR hC hk0 hk C A 0 hb (by omega) (by omega)
 rw [Int.add_zero] at this
 rw [this]
 apply fW
 intro a b _ _ _ _
 unfold ngR
 grind
end Go.Proofs.YtppbogklbhfboaaGreat.AE.SS
end
section
namespace Go.Proofs.YtppbogklbhfboaaGreat.AE.SS
open Go Go.AE Go.Proofs
variable {R C F:Nat} {A:Mat} {i j k:Int}
def ab (x:Int):Int:=if x<0 then -x else x
theorem ab_nn (x:Int):0<=ab x:=by unfold ab;split <;> omega
theorem ab_mul (x y:Int):ab (x * y)=ab x * ab y:=by
 have e (z:Int):ab z=(z.natAbs:Int):=by unfold ab;split <;> omega
 rw [e,e,e,Int.natAbs_mul,Int.natCast_mul]
theorem EA {x:Int} (h0:-4000000000000000000<=x) (h1:x<=4000000000000000000):fH.p F x=some (ab x):=by
 unfold fH.p ab
 rw [bX (by omega) (by omega)]
 congr 1
 split <;> split <;> omega
theorem BS {x:Int} (h0:-4000000000000000000<=x) (h1:x<=4000000000000000000):fC.p F x=some (ab x):=by
 unfold fC.p ab
 by_cases h:x<0
 ·rw [decide_eq_true h,cond_true,bX (by omega) (by omega),if_pos h,Int.zero_sub]
 ·rw [decide_eq_false h,cond_false,if_neg h]
theorem gt_div {u v m:Int} (hu:0<u) (hm:0<=m):v>Int.tdiv m u↔u * v>m:=by
 rw [Int.tdiv_eq_ediv_of_nonneg hm]
 rw [gt_iff_lt,Int.ediv_lt_iff_lt_mul hu,Int.mul_comm]
def okm (x y:Int):Prop:=ab (x * y)<=2000000000000
instance (x y:Int):Decidable (okm x y):=by unfold okm;infer_instance
theorem ab_bd {x m:Int} (h:ab x<=m):-m<=x/\x<=m:=by unfold ab at h;split at h <;> omega
theorem tdiv_bd {m u:Int} (hm:0<=m) (hu:0<=u):0<=Int.tdiv m u/\Int.tdiv m u<=m:=by
 rw [Int.tdiv_eq_ediv_of_nonneg hm]
 exact ⟨Int.ediv_nonneg hm hu,Int.ediv_le_self _ hm⟩
theorem akT {x y:Int} (hx:ab x<=4000000000000) (hy:ab y<=4000000000000):jN.p F x y 2000000000000=some (if okm x y then (x * y,true) else (0,false)):=by
 have bx:=ab_bd hx
 have by_:=ab_bd hy
 have n1:=ab_nn x
 unfold jN.p
 by_cases h:x=0
 ·subst h
  have:okm 0 y:=by unfold okm ab;rw [Int.zero_mul];decide
  rw [if_pos this,show ((0:Int) != 0)=false from rfl,cond_false,Int.zero_mul,bX (by omega) (by omega)]
 ·rw [show (x != 0)=true from bne_iff_ne.2 h,cond_true,EA (by omega) (by omega),Option.bind_some,EA (by omega) (by omega),Option.bind_some]
  have hp:0<ab x:=by unfold ab;split <;> omega
  have bd:=tdiv_bd (m:=2000000000000) (u:=ab x) (by omega) (by omega)
  rw [if_neg (by omega),bX (by omega) (by omega)]
  have key:ab y>Int.tdiv 2000000000000 (ab x)↔¬ okm x y:=by
   rw [gt_div hp (by omega),okm,ab_mul];omega
  by_cases ho:okm x y
  ·rw [decide_eq_false (λh=>(key.1 h) ho),cond_false,if_pos ho]
   have:=ab_bd ho
   rw [bX (by omega) (by omega)]
  ·rw [decide_eq_true (key.2 ho),cond_true,if_neg ho]
theorem abQ {x y:Int} (hx:ab x<=4000000000000) (hy:ab y<=4000000000000):iK.p F x y 2000000000000=some (if okm x y then (x * y,true) else (0,false)):=by
 have bx:=ab_bd hx
 have by_:=ab_bd hy
 have n1:=ab_nn x
 unfold iK.p
 by_cases h:x=0
 ·subst h
  have:okm 0 y:=by unfold okm ab;rw [Int.zero_mul];decide
  rw [if_pos this,show ((0:Int) != 0)=false from rfl,cond_false,Int.zero_mul,bX (by omega) (by omega)]
 ·rw [show (x != 0)=true from bne_iff_ne.2 h,cond_true,BS (by omega) (by omega),Option.bind_some,BS (by omega) (by omega),Option.bind_some]
  have hp:0<ab x:=by unfold ab;split <;> omega
  have bd:=tdiv_bd (m:=2000000000000) (u:=ab x) (by omega) (by omega)
  rw [if_neg (by omega),bX (by omega) (by omega)]
  have key:ab y>Int.tdiv 2000000000000 (ab x)↔¬ okm x y:=by
   rw [gt_div hp (by omega),okm,ab_mul];omega
  by_cases ho:okm x y
  ·rw [decide_eq_false (λh=>(key.1 h) ho),cond_false,if_pos ho]
   have:=ab_bd ho
   rw [bX (by omega) (by omega)]
  ·rw [decide_eq_true (key.2 ho),cond_true,if_neg ho]
theorem floor_core {a b:Int} (hb:0<b):(Int.tmod a b<0->a / b=Int.tdiv a b - 1)/\(¬ Int.tmod a b<0->a / b=Int.tdiv a b):=by
 have e:=Int.mul_tdiv_add_tmod a b
 have hlt:Int.tmod a b<b:=Int.tmod_lt_of_pos a hb
 have hgt:-b<Int.tmod a b:=by
  have:=Int.neg_one_mul b
  have h:=Int.lt_tmod_of_pos a hb
  omega
 constructor
 ·intro h
  have:a=(Int.tmod a b+b)+b * (Int.tdiv a b - 1):=by rw [Int.mul_sub,Int.mul_one];omega
  conv=>lhs;rw [this]
  rw [Int.add_mul_ediv_left _ _ (by omega),Int.ediv_eq_zero_of_lt (by omega) (by omega),Int.zero_add]
 ·intro h
  have:a=(Int.tmod a b)+b * (Int.tdiv a b):=by omega
  conv=>lhs;rw [this]
  rw [Int.add_mul_ediv_left _ _ (by omega),Int.ediv_eq_zero_of_lt (by omega) (by omega),Int.zero_add]
theorem quo_bd {a b:Int} (hb:0<b) (ha:ab a<=1000000000000):ab (a / b)<=1000000000000/\ab (Int.tdiv a b)<=1000000000000:=by
 have h:=ab_bd ha
 have h1:a / b<=1000000000000:=by
  by_cases h0:0<=a
  ·have:=Int.ediv_le_self b h0;omega
  ·have:=Int.ediv_neg_of_neg_of_pos (by omega:a<0) hb;omega
 have h2:-1000000000000<=a / b:=by
  rw [Int.le_ediv_iff_mul_le hb]
  have:1000000000000 * 1<=1000000000000 * b:=Int.mul_le_mul_of_nonneg_left (by omega) (by omega)
  rw [Int.neg_mul];omega
 have h3:a / b<=Int.tdiv a b/\Int.tdiv a b<=a / b+1:=by
  by_cases hh:Int.tmod a b<0
  ·have:=(floor_core (a:=a) hb).1 hh;omega
  ·have:=(floor_core (a:=a) hb).2 hh;omega
 have h4:Int.tdiv a b<=1000000000000:=by
  by_cases h0:0<=a
  ·rw [Int.tdiv_eq_ediv_of_nonneg h0];exact h1
  ·have:=Int.ediv_neg_of_neg_of_pos (by omega:a<0) hb;omega
 unfold ab
 constructor <;> split <;> omega
theorem abR {a b:Int} (hb:0<b) (ha:ab a<=1000000000000):jn.p F a b=some (a / b):=by
 unfold jn.p
 obtain ⟨h1,h2⟩:=quo_bd hb ha
 have h1:=ab_bd h1
 have h2:=ab_bd h2
 rw [if_neg (by omega),if_neg (by omega),bX (x:=Int.tdiv a b) (by omega) (by omega)]
 by_cases h:Int.tmod a b<0
 ·have e:=(floor_core (a:=a) hb).1 h
  rw [decide_eq_true h,cond_true,bX (x:=Int.tdiv a b - 1) (by omega) (by omega),e]
 ·rw [decide_eq_false h,cond_false,(floor_core (a:=a) hb).2 h]
theorem abS {a b:Int} (hb:0<b) (ha:ab a<=1000000000000):ji.p F a b=some (a / b):=by
 unfold ji.p
 obtain ⟨h1,h2⟩:=quo_bd hb ha
 have h1:=ab_bd h1
 have h2:=ab_bd h2
 rw [if_neg (by omega),if_neg (by omega),bX (x:=Int.tdiv a b) (by omega) (by omega)]
 by_cases h:Int.tmod a b<0
 ·have e:=(floor_core (a:=a) hb).1 h
  rw [decide_eq_true h,cond_true,bX (x:=Int.tdiv a b - 1) (by omega) (by omega),e]
 ·rw [decide_eq_false h,cond_false,(floor_core (a:=a) hb).2 h]
def fit (x y b:Int):Prop:=okm y b/\ab (x+y * b)<=1000000000000
instance (x y b:Int):Decidable (fit x y b):=by unfold fit;infer_instance
def ad (x y b:Int):Int:=if fit x y b then x+y * b else 0
theorem ad_bd (x y b:Int):ab (ad x y b)<=1000000000000:=by
 unfold ad
 split
 ·rename_i h;exact h.2
 ·decide
theorem ad_fit {x y b:Int} (h:fit x y b):ad x y b=x+y * b:=if_pos h
def adRf (A:Mat) (t f b j0:Int):Mat:=λi j=>if i=t/\j0<=j then ad (A t j) (A f j) b else A i j
def adCf (A:Mat) (t f b i0:Int):Mat:=λi j=>if j=t/\i0<=i then ad (A i t) (A i f) b else A i j
def adR (A:Mat) (t f b:Int):Mat:=λi j=>if i=t then ad (A t j) (A f j) b else A i j
def adC (A:Mat) (t f b:Int):Mat:=λi j=>if j=t then ad (A i t) (A i f) b else A i j
theorem Bd.ab {i j:Int} (h:Bd R C A) (hi0:0<=i) (hi:i<R) (hj0:0<=j) (hj:j<C):ab (A i j)<=1000000000000:=by
 have:=h i j hi0 hi hj0 hj
 unfold SS.ab;split <;> omega
theorem Bd.upd {i j x:Int} (h:Bd R C A) (hx:SS.ab x<=1000000000000):Bd R C (upd A i j x):=by
 intro a b h1 h2 h3 h4
 have:=h a b h1 h2 h3 h4
 have:=ab_bd hx
 unfold Go.AE.upd
 split <;> omega
theorem akU {t f q:Int} (hR:R<=1000) (hC:C<=1000) (ht0:0<=t) (ht:t<R) (hf0:0<=f) (hf:f<R) (htf:t≠f) (hq:ab q<=4000000000000):∀ (n g:Nat) (A:Mat) (bad:Bool) (j:Int),Bd R C A->C - j=n->n<g->0<=j ->
  ∃ bad',dG.pl7 F g bad t f q C (mk R C A) C j=some (bad',mk R C (adRf A t f q j))/\(bad'=true↔bad=true\/∃ b,j<=b/\b<C/\¬ fit (A t b) (A f b) q):=by
 intro n
 induction n with
 | zero=>
  intro g A bad j hb hn hg hj
  obtain ⟨g,rfl⟩:∃ g',g=g'+1:=⟨g - 1,by omega⟩
  rw [dG.pl7,show decide (j<(C:Int))=false from decide_eq_false (by omega),cond_false]
  refine ⟨bad,?_,⟨λh=>.inl h,λh=>?_⟩⟩
  ·congr 2
   apply fW
   intro a b _ _ _ _
   exact (if_neg (by omega)).symm
  ·rcases h with h | ⟨b,h1,h2,_⟩
   ·exact h
   ·omega
 | succ n ih=>
  intro g A bad j hb hn hg hj
  obtain ⟨g,rfl⟩:∃ g',g=g'+1:=⟨g - 1,by omega⟩
  rw [dG.pl7,show decide (j<(C:Int))=true from decide_eq_true (by omega),cond_true]
  have b1:=hb.ab hf0 hf hj (by omega)
  have b2:=hb.ab ht0 ht hj (by omega)
  have b3:=ab_bd b2
  simp (disch:=omega) only [kn,lK,oM,Option.bind_some,bX]
  rw [abQ (by omega) hq,Option.bind_some]
  have step:∀ bad1:Bool,(bad1=true↔bad=true\/¬ fit (A t j) (A f j) q)->∃ bad',dG.pl7 F g bad1 t f q C (mk R C (upd A t j (ad (A t j) (A f j) q))) C (j+1)=some (bad',mk R C (adRf A t f q j))/\(bad'=true↔bad=true\/∃ b,j<=b/\b<C/\¬ fit (A t b) (A f b) q):=by
   intro bad1 hbad
   obtain ⟨bad',e,he⟩:=ih g (upd A t j (ad (A t j) (A f j) q)) bad1 (j+1) (hb.upd (ad_bd _ _ _)) (by omega) (by omega) (by omega)
   refine ⟨bad',?_,?_⟩
   ·rw [e]
    congr 2
    apply fW
    intro a b _ _ _ _
    unfold adRf upd
    grind
   ·rw [he,hbad]
    constructor
    ·rintro ((h | h) | ⟨b,h1,h2,h3⟩)
     ·exact .inl h
     ·exact .inr ⟨j,by omega,by omega,h⟩
     ·rw [mD _ _ (by omega),mD _ _ (by omega)] at h3
      exact .inr ⟨b,by omega,h2,h3⟩
    ·rintro (h | ⟨b,h1,h2,h3⟩)
     ·exact .inl (.inl h)
     ·by_cases e:b=j
      ·subst e;exact .inl (.inr h3)
      ·exact .inr ⟨b,by omega,h2,by rw [mD _ _ (by omega),mD _ _ (by omega)];exact h3⟩
  by_cases ho:okm (A f j) q
  ·have h4:=ab_bd ho
   simp only [if_pos ho,Bool.not_true,cond_false]
   simp (disch:=omega) only [lK,EM,bX,Option.bind_some]
   rw [BS (by omega) (by omega),Option.bind_some]
   by_cases hs:ab (A t j+A f j * q)<=1000000000000
   ·rw [decide_eq_false (by omega),cond_false]
    have hfit:fit (A t j) (A f j) q:=⟨ho,hs⟩
    rw [<- ad_fit hfit]
    exact step bad ⟨λh=>.inl h,λh=>h.elim id λh=>absurd hfit h⟩
   ·rw [decide_eq_true (by omega),cond_true]
    have hfit:¬ fit (A t j) (A f j) q:=λh=>hs h.2
    have e0:upd (upd A t j (A t j+A f j * q)) t j 0=upd A t j (ad (A t j) (A f j) q):=by
     funext a b;unfold upd ad;rw [if_neg hfit];split <;> rfl
    rw [e0]
    exact step true ⟨λ_=>.inr hfit,λ_=>rfl⟩
  ·simp only [if_neg ho,Bool.not_false,cond_true,Option.bind_some]
   have hfit:¬ fit (A t j) (A f j) q:=λh=>ho h.1
   have e0:∀ z,upd (upd A t j z) t j 0=upd A t j (ad (A t j) (A f j) q):=by
    intro z;funext a b;unfold upd ad;rw [if_neg hfit];split <;> rfl
   rw [e0]
   exact step true ⟨λ_=>.inr hfit,λ_=>rfl⟩
theorem akV {t f q:Int} (hR:R<=1000) (hC:C<=1000) (ht0:0<=t) (ht:t<C) (hf0:0<=f) (hf:f<C) (htf:t≠f) (hq:ab q<=4000000000000):∀ (n g:Nat) (A:Mat) (bad:Bool) (j:Int),Bd R C A->R - j=n->n<g->0<=j ->
  ∃ bad',dH.pl7 F g bad t f q C (mk R C A) R j=some (bad',mk R C (adCf A t f q j))/\(bad'=true↔bad=true\/∃ b,j<=b/\b<R/\¬ fit (A b t) (A b f) q):=by
 intro n
 induction n with
 | zero=>
  intro g A bad j hb hn hg hj
  obtain ⟨g,rfl⟩:∃ g',g=g'+1:=⟨g - 1,by omega⟩
  rw [dH.pl7,show decide (j<(R:Int))=false from decide_eq_false (by omega),cond_false]
  refine ⟨bad,?_,⟨λh=>.inl h,λh=>?_⟩⟩
  ·congr 2
   apply fW
   intro a b _ _ _ _
   exact (if_neg (by omega)).symm
  ·rcases h with h | ⟨b,h1,h2,_⟩
   ·exact h
   ·omega
 | succ n ih=>
  intro g A bad j hb hn hg hj
  obtain ⟨g,rfl⟩:∃ g',g=g'+1:=⟨g - 1,by omega⟩
  rw [dH.pl7,show decide (j<(R:Int))=true from decide_eq_true (by omega),cond_true]
  have b1:=hb.ab hj (by omega) hf0 hf
  have b2:=hb.ab hj (by omega) ht0 ht
  have b3:=ab_bd b2
  simp (disch:=omega) only [kn,lK,oM,Option.bind_some,bX]
  rw [abQ (by omega) hq,Option.bind_some]
  have step:∀ bad1:Bool,(bad1=true↔bad=true\/¬ fit (A j t) (A j f) q)->∃ bad',dH.pl7 F g bad1 t f q C (mk R C (upd A j t (ad (A j t) (A j f) q))) R (j+1)=some (bad',mk R C (adCf A t f q j))/\(bad'=true↔bad=true\/∃ b,j<=b/\b<R/\¬ fit (A b t) (A b f) q):=by
   intro bad1 hbad
   obtain ⟨bad',e,he⟩:=ih g (upd A j t (ad (A j t) (A j f) q)) bad1 (j+1) (hb.upd (ad_bd _ _ _)) (by omega) (by omega) (by omega)
   refine ⟨bad',?_,?_⟩
   ·rw [e]
    congr 2
    apply fW
    intro a b _ _ _ _
    unfold adCf upd
    grind
   ·rw [he,hbad]
    constructor
    ·rintro ((h | h) | ⟨b,h1,h2,h3⟩)
     ·exact .inl h
     ·exact .inr ⟨j,by omega,by omega,h⟩
     ·rw [mD _ _ (by omega),mD _ _ (by omega)] at h3
      exact .inr ⟨b,by omega,h2,h3⟩
    ·rintro (h | ⟨b,h1,h2,h3⟩)
     ·exact .inl (.inl h)
     ·by_cases e:b=j
      ·subst e;exact .inl (.inr h3)
      ·exact .inr ⟨b,by omega,h2,by rw [mD _ _ (by omega),mD _ _ (by omega)];exact h3⟩
  by_cases ho:okm (A j f) q
  ·have h4:=ab_bd ho
   simp only [if_pos ho,Bool.not_true,cond_false]
   simp (disch:=omega) only [lK,EM,bX,Option.bind_some]
   rw [BS (by omega) (by omega),Option.bind_some]
   by_cases hs:ab (A j t+A j f * q)<=1000000000000
   ·rw [decide_eq_false (by omega),cond_false]
    have hfit:fit (A j t) (A j f) q:=⟨ho,hs⟩
    rw [<- ad_fit hfit]
    exact step bad ⟨λh=>.inl h,λh=>h.elim id λh=>absurd hfit h⟩
   ·rw [decide_eq_true (by omega),cond_true]
    have hfit:¬ fit (A j t) (A j f) q:=λh=>hs h.2
    have e0:upd (upd A j t (A j t+A j f * q)) j t 0=upd A j t (ad (A j t) (A j f) q):=by
     funext a b;unfold upd ad;rw [if_neg hfit];split <;> rfl
    rw [e0]
    exact step true ⟨λ_=>.inr hfit,λ_=>rfl⟩
  ·simp only [if_neg ho,Bool.not_false,cond_true,Option.bind_some]
   have hfit:¬ fit (A j t) (A j f) q:=λh=>ho h.1
   have e0:∀ z,upd (upd A j t z) j t 0=upd A j t (ad (A j t) (A j f) q):=by
    intro z;funext a b;unfold upd ad;rw [if_neg hfit];split <;> rfl
   rw [e0]
   exact step true ⟨λ_=>.inr hfit,λ_=>rfl⟩
def nfR (C:Nat) (A:Mat) (t f q:Int):Prop:=∃ b:Int,0<=b/\b<C/\¬ fit (A t b) (A f b) q
def nfC (R:Nat) (A:Mat) (t f q:Int):Prop:=∃ b:Int,0<=b/\b<R/\¬ fit (A b t) (A b f) q
theorem Ts {t f q:Int} {bad:Bool} (hR:R<=1000) (hC:C<=1000) (hF:C<F) (hb:Bd R C A) (ht0:0<=t) (ht:t<R) (hf0:0<=f) (hf:f<R) (htf:t≠f) (hq:ab q<=4000000000000) :
  ∃ bad',dG.p F bad C (mk R C A) t f q=some (bad',mk R C (adR A t f q))/\(bad'=true↔bad=true\/nfR C A t f q):=by
 obtain ⟨bad',e,h⟩:=akU hR hC ht0 ht hf0 hf htf hq C F A bad 0 hb (by omega) hF (by omega)
 refine ⟨bad',?_,h⟩
 unfold dG.p
 rw [e]
 congr 2
 apply fW
 intro a b _ _ _ _
 unfold adRf adR
 grind
theorem Tt {t f q:Int} {bad:Bool} (hR:R<=1000) (hC:C<=1000) (hF:R<F) (hb:Bd R C A) (ht0:0<=t) (ht:t<C) (hf0:0<=f) (hf:f<C) (htf:t≠f) (hq:ab q<=4000000000000) :
  ∃ bad',dH.p F bad R C (mk R C A) t f q=some (bad',mk R C (adC A t f q))/\(bad'=true↔bad=true\/nfC R A t f q):=by
 obtain ⟨bad',e,h⟩:=akV hR hC ht0 ht hf0 hf htf hq R F A bad 0 hb (by omega) hF (by omega)
 refine ⟨bad',?_,h⟩
 unfold dH.p
 rw [e]
 congr 2
 apply fW
 intro a b _ _ _ _
 unfold adCf adC
 grind
theorem Bd.adR {t f q:Int} (h:Bd R C A):Bd R C (adR A t f q):=by
 intro a b h1 h2 h3 h4
 have:=h a b h1 h2 h3 h4
 have:=ab_bd (ad_bd (A t b) (A f b) q)
 unfold SS.adR
 split <;> omega
theorem Bd.adC {t f q:Int} (h:Bd R C A):Bd R C (adC A t f q):=by
 intro a b h1 h2 h3 h4
 have:=h a b h1 h2 h3 h4
 have:=ab_bd (ad_bd (A a t) (A a f) q)
 unfold SS.adC
 split <;> omega
end Go.Proofs.YtppbogklbhfboaaGreat.AE.SS
end
section
namespace Go.Proofs.YtppbogklbhfboaaGreat.AE.SS
open Go Go.AE Go.Proofs
variable {R C F:Nat} {A:Mat} {i j k:Int}
theorem abT {x y q:Int} (hx:ab x<=1000000000000) (hy:ab y<=1000000000000) (hq:ab q<=4000000000000):∃ z,gV.p F x q y=some z/\ab z<=4000000000000/\(ab z<=1000000000000↔fit x y (-q))/\(fit x y (-q)->z=ad x y (-q)):=by
 unfold gV.p
 rw [akT hq (by omega),Option.bind_some]
 have e1:y * -q=- (q * y):=by rw [Int.mul_neg,Int.mul_comm]
 have ho:okm y (-q)↔okm q y:=by
  unfold okm;rw [e1];unfold ab;split <;> split <;> omega
 have bx:=ab_bd hx
 by_cases h:okm q y
 ·have hb:=ab_bd h
  rw [if_pos h,Bool.not_true,cond_false]
  simp only []
  rw [bX (by omega) (by omega)]
  have e2:x+y * -q=x - q * y:=by omega
  refine ⟨_,rfl,?_,?_,?_⟩
  ·unfold ab;split <;> omega
  ·unfold fit;rw [e2]
   exact ⟨λh1=>⟨ho.2 h,h1⟩,λh1=>h1.2⟩
  ·intro hf
   rw [ad_fit hf,e2]
 ·rw [if_neg h,Bool.not_false,cond_true]
  refine ⟨_,rfl,by decide,⟨λh=>absurd h (by decide),λhf=>absurd (ho.1 hf.1) h⟩,λhf=>absurd (ho.1 hf.1) h⟩
theorem abU {z:Int} {bad:Bool} (hR:R<=1000) (hC:C<=1000) (hi0:0<=i) (hi:i<R) (hj0:0<=j) (hj:j<C) (hz:ab z<=4000000000000) :
  gW.p F bad C (mk R C A) i j z=some (if ab z<=1000000000000 then (bad,mk R C (upd A i j z)) else (true,mk R C A)):=by
 have hb:=ab_bd hz
 unfold gW.p
 rw [EA (by omega) (by omega),Option.bind_some]
 by_cases h:ab z<=1000000000000
 ·rw [decide_eq_false (by omega),cond_false,if_pos h]
  simp (disch:=omega) only [kn,oM,Option.bind_some]
 ·rw [decide_eq_true (by omega),cond_true,if_neg h]
theorem akW {t f q:Int} (hR:R<=1000) (hC:C<=1000) (ht0:0<=t) (ht:t<R) (hf0:0<=f) (hf:f<R) (htf:t≠f) (hq:ab q<=4000000000000):∀ (n g:Nat) (A:Mat) (j:Int),Bd R C A->C - j=n->n<g->0<=j ->
  ∃ bad' l',dD.pl7 F g false t f q C (mk R C A) j=some (bad',l')/\(bad'=true↔∃ b,j<=b/\b<C/\¬ fit (A t b) (A f b) (-q))/\(bad'=false->l'=mk R C (adRf A t f (-q) j)):=by
 intro n
 induction n with
 | zero=>
  intro g A j hb hn hg hj
  obtain ⟨g,rfl⟩:∃ g',g=g'+1:=⟨g - 1,by omega⟩
  rw [dD.pl7,show decide (j<(C:Int))=false from decide_eq_false (by omega),cond_false]
  refine ⟨_,_,rfl,⟨λh=>(by cases h),λ⟨b,h1,h2,_⟩=>by omega⟩,λ_=>?_⟩
  apply fW
  intro a b _ _ _ _
  exact (if_neg (by omega)).symm
 | succ n ih=>
  intro g A j hb hn hg hj
  obtain ⟨g,rfl⟩:∃ g',g=g'+1:=⟨g - 1,by omega⟩
  rw [dD.pl7,show decide (j<(C:Int))=true from decide_eq_true (by omega),cond_true,Bool.not_false,cond_true]
  have b1:=hb.ab hf0 hf hj (by omega)
  have b2:=hb.ab ht0 ht hj (by omega)
  simp (disch:=omega) only [at_mk,Option.bind_some]
  obtain ⟨z,ez,hz1,hz2,hz3⟩:=abT (F:=F) b2 b1 hq
  rw [ez,Option.bind_some,abU hR hC ht0 ht hj (by omega) hz1,Option.bind_some,bX (by omega) (by omega)]
  by_cases hfit:fit (A t j) (A f j) (-q)
  ·rw [if_pos (hz2.2 hfit),hz3 hfit]
   obtain ⟨bad',l',e,he,hl⟩:=ih g (upd A t j (ad (A t j) (A f j) (-q))) (j+1) (hb.upd (ad_bd _ _ _)) (by omega) (by omega) (by omega)
   refine ⟨bad',l',e,?_,?_⟩
   ·rw [he]
    constructor
    ·rintro ⟨b,h1,h2,h3⟩
     rw [mD _ _ (by omega),mD _ _ (by omega)] at h3
     exact ⟨b,by omega,h2,h3⟩
    ·rintro ⟨b,h1,h2,h3⟩
     by_cases e:b=j
     ·subst e;exact absurd hfit h3
     ·exact ⟨b,by omega,h2,by rw [mD _ _ (by omega),mD _ _ (by omega)];exact h3⟩
   ·intro hbad
    rw [hl hbad]
    apply fW
    intro a b _ _ _ _
    unfold adRf upd
    grind
  ·rw [if_neg (λh=>hfit (hz2.1 h))]
   obtain ⟨g,rfl⟩:∃ g',g=g'+1:=⟨g - 1,by omega⟩
   refine ⟨true,mk R C A,?_,⟨λ_=>⟨j,by omega,by omega,hfit⟩,λ_=>rfl⟩,λh=>by cases h⟩
   rw [dD.pl7]
   cases decide (j+1<(C:Int)) <;> rfl
theorem akX {t f q:Int} (hR:R<=1000) (hC:C<=1000) (ht0:0<=t) (ht:t<C) (hf0:0<=f) (hf:f<C) (htf:t≠f) (hq:ab q<=4000000000000):∀ (n g:Nat) (A:Mat) (j:Int),Bd R C A->R - j=n->n<g->0<=j ->
  ∃ bad' l',dE.pl7 F g false t f q R C (mk R C A) j=some (bad',l')/\(bad'=true↔∃ b,j<=b/\b<R/\¬ fit (A b t) (A b f) (-q))/\(bad'=false->l'=mk R C (adCf A t f (-q) j)):=by
 intro n
 induction n with
 | zero=>
  intro g A j hb hn hg hj
  obtain ⟨g,rfl⟩:∃ g',g=g'+1:=⟨g - 1,by omega⟩
  rw [dE.pl7,show decide (j<(R:Int))=false from decide_eq_false (by omega),cond_false]
  refine ⟨_,_,rfl,⟨λh=>(by cases h),λ⟨b,h1,h2,_⟩=>by omega⟩,λ_=>?_⟩
  apply fW
  intro a b _ _ _ _
  exact (if_neg (by omega)).symm
 | succ n ih=>
  intro g A j hb hn hg hj
  obtain ⟨g,rfl⟩:∃ g',g=g'+1:=⟨g - 1,by omega⟩
  rw [dE.pl7,show decide (j<(R:Int))=true from decide_eq_true (by omega),cond_true,Bool.not_false,cond_true]
  have b1:=hb.ab hj (by omega) hf0 hf
  have b2:=hb.ab hj (by omega) ht0 ht
  simp (disch:=omega) only [at_mk,Option.bind_some]
  obtain ⟨z,ez,hz1,hz2,hz3⟩:=abT (F:=F) b2 b1 hq
  rw [ez,Option.bind_some,abU hR hC hj (by omega) ht0 ht hz1,Option.bind_some,bX (by omega) (by omega)]
  by_cases hfit:fit (A j t) (A j f) (-q)
  ·rw [if_pos (hz2.2 hfit),hz3 hfit]
   obtain ⟨bad',l',e,he,hl⟩:=ih g (upd A j t (ad (A j t) (A j f) (-q))) (j+1) (hb.upd (ad_bd _ _ _)) (by omega) (by omega) (by omega)
   refine ⟨bad',l',e,?_,?_⟩
   ·rw [he]
    constructor
    ·rintro ⟨b,h1,h2,h3⟩
     rw [mD _ _ (by omega),mD _ _ (by omega)] at h3
     exact ⟨b,by omega,h2,h3⟩
    ·rintro ⟨b,h1,h2,h3⟩
     by_cases e:b=j
     ·subst e;exact absurd hfit h3
     ·exact ⟨b,by omega,h2,by rw [mD _ _ (by omega),mD _ _ (by omega)];exact h3⟩
   ·intro hbad
    rw [hl hbad]
    apply fW
    intro a b _ _ _ _
    unfold adCf upd
    grind
  ·rw [if_neg (λh=>hfit (hz2.1 h))]
   obtain ⟨g,rfl⟩:∃ g',g=g'+1:=⟨g - 1,by omega⟩
   refine ⟨true,mk R C A,?_,⟨λ_=>⟨j,by omega,by omega,hfit⟩,λ_=>rfl⟩,λh=>by cases h⟩
   rw [dE.pl7]
   cases decide (j+1<(R:Int)) <;> rfl
theorem Tu {t f q:Int} (hR:R<=1000) (hC:C<=1000) (hF:C<F) (hb:Bd R C A) (ht0:0<=t) (ht:t<R) (hf0:0<=f) (hf:f<R) (htf:t≠f) (hq:ab q<=4000000000000) :
  ∃ bad' l',dD.p F false C (mk R C A) t f q=some (bad',l')/\(bad'=true↔nfR C A t f (-q))/\(bad'=false->l'=mk R C (adR A t f (-q))):=by
 obtain ⟨bad',l',e,h,hl⟩:=akW hR hC ht0 ht hf0 hf htf hq C F A 0 hb (by omega) hF (by omega)
 refine ⟨bad',l',e,h,λhh=>?_⟩
 rw [hl hh]
 apply fW
 intro a b _ _ _ _
 unfold adRf adR
 grind
theorem Tv {t f q:Int} (hR:R<=1000) (hC:C<=1000) (hF:R<F) (hb:Bd R C A) (ht0:0<=t) (ht:t<C) (hf0:0<=f) (hf:f<C) (htf:t≠f) (hq:ab q<=4000000000000) :
  ∃ bad' l',dE.p F false R C (mk R C A) t f q=some (bad',l')/\(bad'=true↔nfC R A t f (-q))/\(bad'=false->l'=mk R C (adC A t f (-q))):=by
 obtain ⟨bad',l',e,h,hl⟩:=akX hR hC ht0 ht hf0 hf htf hq R F A 0 hb (by omega) hF (by omega)
 refine ⟨bad',l',e,h,λhh=>?_⟩
 rw [hl hh]
 apply fW
 intro a b _ _ _ _
 unfold adCf adC
 grind
theorem Tw {t f q:Int} {c:Int} {l:List Int} (hF:0<F):dD.p F true c l t f q=some (true,l):=by
 obtain ⟨g,rfl⟩:∃ g',F=g'+1:=⟨F - 1,by omega⟩
 unfold dD.p
 rw [dD.pl7]
 cases decide (0<c) <;> rfl
theorem Tx {t f q:Int} {r c:Int} {l:List Int} (hF:0<F):dE.p F true r c l t f q=some (true,l):=by
 obtain ⟨g,rfl⟩:∃ g',F=g'+1:=⟨F - 1,by omega⟩
 unfold dE.p
 rw [dE.pl7]
 cases decide (0<r) <;> rfl
end Go.Proofs.YtppbogklbhfboaaGreat.AE.SS
end
section
namespace Go.Proofs.YtppbogklbhfboaaGreat.AE.SS
open Go Go.AE Go.Proofs
variable {R C F:Nat} {A:Mat} {i j k:Int}
def Sc (k:Int) (C:Nat) (i j a b:Int):Prop:=k<=a/\k<=b/\b<C/\(a<i\/a=i/\b<j)
def SI (k:Int) (C:Nat) (A:Mat) (i j:Int):Option (Int×Int)->Prop
 | none=>∀ a b,Sc k C i j a b->A a b=0
 | some (p,q)=>Sc k C i j p q/\A p q≠0/\∀ a b,Sc k C i j a b->A a b≠0->ab (A p q)<=ab (A a b)/\((a<p\/a=p/\b<q)->ab (A p q)<ab (A a b))
def sP:Option (Int×Int)->Int | none=>-1 | some (p,_)=>p
def sQ:Option (Int×Int)->Int | none=>-1 | some (_,q)=>q
def iP:Option (Int×Int)->Int | none=>0 | some (p,_)=>p
def iQ:Option (Int×Int)->Int | none=>0 | some (_,q)=>q
theorem ab_pos {x:Int}:ab x>0↔x≠0:=by unfold ab;split <;> omega
theorem sel_in {k:Int} (hR:R<=1000) (hC:C<=1000) (hb:Bd R C A) (hk:0<=k) (hi:i<R) (hki:k<=i) {l1 l2 l3 l4:List Int} {c1 c2 c3 c4 c5 c6:Int} {pC} {pD}:∀ (n g h:Nat) (s:Option (Int×Int)) (j:Int),C - j=n->n<g->n<h->k<=j->SI k C A i j s ->
  ∃ s',SI k C A i C s'/\aL.pl469 F pC g R C (mk R C A) c1 l1 c2 c3 l2 c4 c5 l3 c6 l4 k (sP s) (sQ s) i j=aL.pj9 F pC R C (mk R C A) c1 l1 c2 c3 l2 c4 c5 l3 c6 l4 k (sP s') (sQ s') i /\
   bu.pl469 F pD h k (iP s) (iQ s) s.isSome R C (mk R C A) i j=bu.pj8 F pD k (iP s') (iQ s') s'.isSome R C (mk R C A) i:=by
 intro n
 induction n with
 | zero=>
  intro g h s j hn hg hh hj hs
  obtain ⟨g,rfl⟩:∃ g',g=g'+1:=⟨g - 1,by omega⟩
  obtain ⟨h,rfl⟩:∃ g',h=g'+1:=⟨h - 1,by omega⟩
  rw [aL.pl469,bu.pl469,show decide (j<(C:Int))=false from decide_eq_false (by omega),cond_false,cond_false]
  refine ⟨s,?_,rfl,rfl⟩
  rw [show j=(C:Int) by omega] at hs
  exact hs
 | succ n ih=>
  intro g h s j hn hg hh hj hs
  obtain ⟨g,rfl⟩:∃ g',g=g'+1:=⟨g - 1,by omega⟩
  obtain ⟨h,rfl⟩:∃ g',h=g'+1:=⟨h - 1,by omega⟩
  rw [aL.pl469,bu.pl469,show decide (j<(C:Int))=true from decide_eq_true (by omega),cond_true,cond_true]
  have b1:=ab_bd (hb.ab (by omega:0<=i) hi (by omega:0<=j) (by omega))
  simp (disch:=omega) only [at_mk,kn,lK,Option.bind_some,EA,BS,bX,aL.pj10,bu.pj9]
  have scj:∀ a b,Sc k C i (j+1) a b↔Sc k C i j a b\/(a=i/\b=j):=by
   intro a b;unfold Sc;omega
  by_cases hx:A i j=0
  ·rw [hx,show decide (ab 0>0)=false from rfl,show (ab 0 != 0)=false from rfl,cond_false,cond_false]
   refine ih g h s (j+1) (by omega) (by omega) (by omega) (by omega) ?_
   match s,hs with
   | none,hs=>
    intro a b h1
    rcases (scj a b).1 h1 with h1 | ⟨rfl,rfl⟩
    ·exact hs a b h1
    ·exact hx
   | some (p,q),⟨h1,h2,h3⟩=>
    refine ⟨(scj p q).2 (.inl h1),h2,λa b h4 h5=>?_⟩
    rcases (scj a b).1 h4 with h4 | ⟨rfl,rfl⟩
    ·exact h3 a b h4 h5
    ·exact absurd hx h5
  ·have hpos:=ab_pos.2 hx
   rw [decide_eq_true hpos,show (ab (A i j) != 0)=true from bne_iff_ne.2 (by omega),cond_true,cond_true]
   match s,hs with
   | none,hs=>
    rw [show decide (sP none<0)=true from rfl,cond_true]
    simp only [Option.isSome_none,Bool.not_false,cond_true]
    refine ih g h (some (i,j)) (j+1) (by omega) (by omega) (by omega) (by omega) ⟨(scj i j).2 (.inr ⟨rfl,rfl⟩),hx,λa b h4 h5=>?_⟩
    rcases (scj a b).1 h4 with h4 | ⟨rfl,rfl⟩
    ·exact absurd (hs a b h4) h5
    ·exact ⟨Int.le_refl _,λh=>by omega⟩
   | some (p,q),⟨h1,h2,h3⟩=>
    have h1':=h1
    obtain ⟨e1,e2,e3,e4⟩:=h1'
    have b2:=ab_bd (hb.ab (i:=p) (j:=q) (by omega) (by omega) (by omega) (by omega))
    simp only [sP,sQ,iP,iQ,Option.isSome_some,Bool.not_true,cond_false]
    simp only [eq_false (show ¬ p<0 by omega),decide_false,cond_false]
    simp (disch:=omega) only [at_mk,kn,lK,Option.bind_some,EA,BS]
    by_cases hlt:ab (A i j)<ab (A p q)
    ·rw [decide_eq_true hlt,cond_true,cond_true]
     refine ih g h (some (i,j)) (j+1) (by omega) (by omega) (by omega) (by omega) ⟨(scj i j).2 (.inr ⟨rfl,rfl⟩),hx,λa b h4 h5=>?_⟩
     rcases (scj a b).1 h4 with h4 | ⟨rfl,rfl⟩
     ·have:=(h3 a b h4 h5).1
      exact ⟨by omega,λ_=>by omega⟩
     ·exact ⟨Int.le_refl _,λh=>by omega⟩
    ·rw [decide_eq_false hlt,cond_false,cond_false]
     refine ih g h (some (p,q)) (j+1) (by omega) (by omega) (by omega) (by omega) ⟨(scj p q).2 (.inl h1),h2,λa b h4 h5=>?_⟩
     rcases (scj a b).1 h4 with h4 | ⟨rfl,rfl⟩
     ·exact h3 a b h4 h5
     ·exact ⟨by omega,λh=>by omega⟩
theorem sel_out {k:Int} (hR:R<=1000) (hC:C<=1000) (hF:C<F) (hb:Bd R C A) (hk:0<=k) (hkC:k<=C) {l1 l2 l3 l4:List Int} {c1 c2 c3 c4 c5 c6:Int}:∀ (n g h:Nat) (s:Option (Int×Int)) (i:Int),R - i=n->n<g->n<h->k<=i->SI k C A i k s ->
  ∃ s',SI k C A R k s'/\aL.pl29 F g R C (mk R C A) c1 l1 c2 c3 l2 c4 c5 l3 c6 l4 k (sP s) (sQ s) i=aL.pj6 F R C (mk R C A) c1 l1 c2 c3 l2 c4 c5 l3 c6 l4 k (sP s') (sQ s') /\
   bu.pl29 F h k (iP s) (iQ s) s.isSome R C (mk R C A) i=some (iP s',iQ s',s'.isSome):=by
 intro n
 induction n with
 | zero=>
  intro g h s i hn hg hh hj hs
  obtain ⟨g,rfl⟩:∃ g',g=g'+1:=⟨g - 1,by omega⟩
  obtain ⟨h,rfl⟩:∃ g',h=g'+1:=⟨h - 1,by omega⟩
  rw [aL.pl29,bu.pl29,show decide (i<(R:Int))=false from decide_eq_false (by omega),cond_false,cond_false]
  refine ⟨s,?_,rfl,rfl⟩
  rw [show i=(R:Int) by omega] at hs
  exact hs
 | succ n ih=>
  intro g h s i hn hg hh hj hs
  obtain ⟨g,rfl⟩:∃ g',g=g'+1:=⟨g - 1,by omega⟩
  obtain ⟨h,rfl⟩:∃ g',h=g'+1:=⟨h - 1,by omega⟩
  rw [aL.pl29,bu.pl29,show decide (i<(R:Int))=true from decide_eq_true (by omega),cond_true,cond_true]
  obtain ⟨s1,hs1,e1,e2⟩:=sel_in (F:=F) (c1:=c1) (c2:=c2) (c3:=c3) (c4:=c4) (c5:=c5) (c6:=c6) (l1:=l1) (l2:=l2) (l3:=l3) (l4:=l4) (pC:=aL.pl29 F g) (pD:=bu.pl29 F h) hR hC hb hk (by omega) hj (C - k).toNat F F s k (by omega) (by omega) (by omega) (by omega) hs
  rw [e1,e2]
  unfold aL.pj9 aL.pj8 bu.pj8 bu.pj7
  rw [bX (by omega) (by omega)]
  refine ih g h s1 (i+1) (by omega) (by omega) (by omega) (by omega) ?_
  have sc:∀ a b,Sc k C (i+1) k a b↔Sc k C i C a b:=by
   intro a b;unfold Sc;omega
  match s1,hs1 with
  | none,hs=>exact λa b h=>hs a b ((sc a b).1 h)
  | some (p,q),⟨h1,h2,h3⟩=>exact ⟨(sc p q).2 h1,h2,λa b h=>h3 a b ((sc a b).1 h)⟩
end Go.Proofs.YtppbogklbhfboaaGreat.AE.SS
end
section
namespace Go.Proofs.YtppbogklbhfboaaGreat.AE.SS
open Go Go.AE Go.Proofs
variable {R C F:Nat} {A:Mat} {i j k:Int}
structure St where
 d:Mat
 l:Mat
 m:Mat
 r:Mat
 s:Mat
def St.good (R C:Nat) (t:St):Prop:=Bd R C t.d/\Bd R R t.l/\Bd R R t.m/\Bd C C t.r/\Bd C C t.s
def swS (t:St) (p q k:Int):St:=⟨swC (swR t.d p k) q k,swR t.l p k,swC t.m p k,swC t.r q k,swR t.s q k⟩
def ngS (t:St) (k:Int):St:=⟨ngR t.d k,ngR t.l k,ngC t.m k,t.r,t.s⟩
def ngRf (A:Mat) (k j0:Int):Mat:=λa b=>if a=k/\j0<=b then - A a b else A a b
def ngCf (A:Mat) (k i0:Int):Mat:=λa b=>if b=k/\i0<=a then - A a b else A a b
theorem Bd.upd_ng (h:Bd R C A) (hi0:0<=i) (hi:i<R) (hj0:0<=j) (hj:j<C):Bd R C (Go.AE.upd A i j (- A i j)):=by
 apply h.upd
 have:=ab_bd (h.ab hi0 hi hj0 hj)
 unfold SS.ab
 split <;> omega
theorem sw_in {i k a:Int} (hi0:0<=i) (hi:i<R) (hk0:0<=k) (hk:k<R) (ha0:0<=a) (ha:a<R):0<=sw i k a/\sw i k a<R:=by
 unfold sw;split
 ·omega
 ·split <;> omega
theorem Bd.swR (h:Bd R C A) (hi0:0<=i) (hi:i<R) (hk0:0<=k) (hk:k<R):Bd R C (swR A i k):=by
 intro a b h1 h2 h3 h4
 obtain ⟨g1,g2⟩:=sw_in hi0 hi hk0 hk h1 h2
 exact h _ _ g1 g2 h3 h4
theorem Bd.swC (h:Bd R C A) (hi0:0<=j) (hi:j<C) (hk0:0<=k) (hk:k<C):Bd R C (swC A j k):=by
 intro a b h1 h2 h3 h4
 obtain ⟨g1,g2⟩:=sw_in hi0 hi hk0 hk h3 h4
 exact h _ _ h1 h2 g1 g2
theorem Bd.ngR (h:Bd R C A):Bd R C (ngR A k):=by
 intro a b h1 h2 h3 h4
 have:=h a b h1 h2 h3 h4
 unfold SS.ngR;split <;> omega
theorem Bd.ngC (h:Bd R C A):Bd R C (ngC A k):=by
 intro a b h1 h2 h3 h4
 have:=h a b h1 h2 h3 h4
 unfold SS.ngC;split <;> omega
theorem akY (hR:R<=1000) (hC:C<=1000) (hk0:0<=k) (hk:k<R) {c4 c7:Int} {l5 l8 l11 l14:List Int}:∀ (n g:Nat) (A:Mat) (j:Int),Bd R C A->C - j=n->n<g->0<=j ->
  aL.pl65513 F g C (mk R C A) c4 l5 c7 l8 l11 l14 k j=aL.pj5 F (mk R C (ngRf A k j)) c4 l5 c7 l8 l11 l14 k:=by
 intro n
 induction n with
 | zero=>
  intro g A j hb hn hg hj
  obtain ⟨g,rfl⟩:∃ g',g=g'+1:=⟨g - 1,by omega⟩
  rw [aL.pl65513,show decide (j<(C:Int))=false from decide_eq_false (by omega),cond_false]
  congr 1
  apply fW
  intro a b _ _ _ _
  exact (if_neg (by omega)).symm
 | succ n ih=>
  intro g A j hb hn hg hj
  obtain ⟨g,rfl⟩:∃ g',g=g'+1:=⟨g - 1,by omega⟩
  rw [aL.pl65513,show decide (j<(C:Int))=true from decide_eq_true (by omega),cond_true]
  have b1:=ab_bd (hb.ab hk0 hk hj (by omega))
  simp (disch:=omega) only [at_mk,kn,oM,Option.bind_some,bX,Int.zero_sub]
  rw [ih _ _ (j+1) (hb.upd_ng hk0 hk hj (by omega)) (by omega) (by omega) (by omega)]
  congr 1
  apply fW
  intro a b _ _ _ _
  unfold ngRf upd
  grind
theorem akZ (hR:R<=1000) (hk0:0<=k) (hk:k<R) {l2 l11 l14:List Int}:∀ (n g:Nat) (A B:Mat) (j:Int),Bd R R A->Bd R R B->R - j=n->n<g->0<=j ->
  aL.pl65515 F g l2 R (mk R R A) R (mk R R B) l11 l14 k j=some (true,l2,mk R R (ngRf A k j),mk R R (ngCf B k j),l11,l14):=by
 intro n
 induction n with
 | zero=>
  intro g A B j hb hb' hn hg hj
  obtain ⟨g,rfl⟩:∃ g',g=g'+1:=⟨g - 1,by omega⟩
  rw [aL.pl65515,show decide (j<(R:Int))=false from decide_eq_false (by omega),cond_false]
  rw [fW (A:=A) (B:=ngRf A k j) (λa b _ _ _ _=>(if_neg (by omega)).symm),fW (A:=B) (B:=ngCf B k j) (λa b _ _ _ _=>(if_neg (by omega)).symm)]
 | succ n ih=>
  intro g A B j hb hb' hn hg hj
  obtain ⟨g,rfl⟩:∃ g',g=g'+1:=⟨g - 1,by omega⟩
  rw [aL.pl65515,show decide (j<(R:Int))=true from decide_eq_true (by omega),cond_true]
  have b1:=ab_bd (hb.ab hk0 hk hj (by omega))
  have b2:=ab_bd (hb'.ab hj (by omega) hk0 hk)
  simp (disch:=omega) only [at_mk,kn,oM,Option.bind_some,bX,Int.zero_sub]
  rw [ih _ _ _ (j+1) (hb.upd_ng hk0 hk hj (by omega)) (hb'.upd_ng hj (by omega) hk0 hk) (by omega) (by omega) (by omega)]
  rw [fW (A:=ngRf (upd A k j (-A k j)) k (j+1)) (B:=ngRf A k j) (λa b _ _ _ _=>by unfold ngRf upd;grind),fW (A:=ngCf (upd B j k (-B j k)) k (j+1)) (B:=ngCf B k j) (λa b _ _ _ _=>by unfold ngCf upd;grind)]
theorem ak0 (hR:R<=1000) (hk0:0<=k) (hk:k<R) {l2 l8 l11 l14:List Int}:∀ (n g:Nat) (B:Mat) (j:Int),Bd R R B->R - j=n->n<g->0<=j ->
  cb.pl32747 F g l2 R (mk R R B) l8 l11 l14 k R j=some (true,l2,mk R R (ngCf B k j),l8,l11,l14):=by
 intro n
 induction n with
 | zero=>
  intro g B j hb' hn hg hj
  obtain ⟨g,rfl⟩:∃ g',g=g'+1:=⟨g - 1,by omega⟩
  rw [cb.pl32747,show decide (j<(R:Int))=false from decide_eq_false (by omega),cond_false]
  rw [fW (A:=B) (B:=ngCf B k j) (λa b _ _ _ _=>(if_neg (by omega)).symm)]
 | succ n ih=>
  intro g B j hb' hn hg hj
  obtain ⟨g,rfl⟩:∃ g',g=g'+1:=⟨g - 1,by omega⟩
  rw [cb.pl32747,show decide (j<(R:Int))=true from decide_eq_true (by omega),cond_true]
  have b2:=ab_bd (hb'.ab hj (by omega) hk0 hk)
  simp (disch:=omega) only [at_mk,kn,lK,oM,Option.bind_some,bX,Int.zero_sub]
  rw [ih _ _ (j+1) (hb'.upd_ng hj (by omega) hk0 hk) (by omega) (by omega) (by omega)]
  rw [fW (A:=ngCf (upd B j k (-B j k)) k (j+1)) (B:=ngCf B k j) (λa b _ _ _ _=>by unfold ngCf upd;grind)]
theorem cuts_row (hR:R<=1000) (hC:C<=1000) (hk0:0<=k) (hk:k<R) (hC0:0<C):∃ x,oH (mk R C A) (IntKind.i64.wrap (k * C)) (IntKind.i64.wrap (IntKind.i64.wrap (k+1) * C))=some x/\x.length=C/\IntKind.i64.wrap (k * C)=k * C:=by
 obtain ⟨k,rfl⟩:=Int.eq_ofNat_of_zero_le hk0
 have h1:(k+1) * C<=R * C:=Nat.mul_le_mul_right _ (by omega)
 have h2:R * C<=1000 * 1000:=Nat.mul_le_mul hR hC
 have h3:(k+1) * C=k * C+C:=Nat.succ_mul _ _
 rw [bX (x:=(k:Int)+1) (by omega) (by omega),show (k:Int)+1=((k+1:Nat):Int) by omega,<-Int.natCast_mul,<-Int.natCast_mul,bX (by omega) (by omega),bX (by omega) (by omega)]
 unfold oH
 rw [if_pos (by rw [oL];omega)]
 refine ⟨_,rfl,?_,rfl⟩
 rw [List.length_drop,List.length_take,oL]
 omega
def pvS (t:St) (p q k:Int):St:=if (swS t p q k).d k k<0 then ngS (swS t p q k) k else swS t p q k
theorem pivot_both (hR:R<=1000) (hC:C<=1000) (hF:5000000<F) {t:St} (hg:t.good R C) (hk:0<=k) (hkR:k<R) (hkC:k<C) :
  ((∀ a b,k<=a->a<R->k<=b->b<C->t.d a b=0)/\aL.p F R C (mk R C t.d) R (mk R R t.l) R R (mk R R t.m) C C (mk C C t.r) C (mk C C t.s) k=some (false,mk R C t.d,mk R R t.l,mk R R t.m,mk C C t.r,mk C C t.s) /\
   cb.p F R (mk R R t.l) R R (mk R R t.m) R C (mk R C t.d) C C (mk C C t.r) C (mk C C t.s) k=some (false,mk R R t.l,mk R R t.m,mk R C t.d,mk C C t.r,mk C C t.s)) \/
  (∃ p q,SI k C t.d R k (some (p,q))/\∃ u,u=pvS t p q k/\u.good R C/\u.d k k=ab (t.d p q) /\
   aL.p F R C (mk R C t.d) R (mk R R t.l) R R (mk R R t.m) C C (mk C C t.r) C (mk C C t.s) k=some (true,mk R C u.d,mk R R u.l,mk R R u.m,mk C C u.r,mk C C u.s) /\
   cb.p F R (mk R R t.l) R R (mk R R t.m) R C (mk R C t.d) C C (mk C C t.r) C (mk C C t.s) k=some (true,mk R R u.l,mk R R u.m,mk R C u.d,mk C C u.r,mk C C u.s)):=by
 obtain ⟨g1,g2,g3,g4,g5⟩:=hg
 obtain ⟨s',hs,e1,e2⟩:=sel_out (F:=F) (c1:=R) (c2:=R) (c3:=R) (c4:=C) (c5:=C) (c6:=C) (l1:=mk R R t.l) (l2:=mk R R t.m) (l3:=mk C C t.r) (l4:=mk C C t.s) hR hC (by omega) g1 hk (by omega) (R - k).toNat F F none k (by omega) (by omega) (by omega) (by omega) (by intro a b h;unfold Sc at h;omega)
 unfold aL.p cb.p bu.p
 rw [show (-1:Int)=sP none from rfl]
 rw [show aL.pl29 F F R C (mk R C t.d) R (mk R R t.l) R R (mk R R t.m) C C (mk C C t.r) C (mk C C t.s) k (sP none) (sP none) k=_ from e1]
 rw [show bu.pl29 F F k 0 0 false R C (mk R C t.d) k=_ from e2,Option.bind_some]
 match s',hs with
 | none,hs=>
  left
  refine ⟨λa b h1 h2 h3 h4=>hs a b ⟨h1,h3,h4,.inl h2⟩,?_,rfl⟩
  unfold aL.pj6
  rfl
 | some (p,q),hs=>
  right
  refine ⟨p,q,hs,pvS t p q k,rfl,?_⟩
  obtain ⟨⟨h1,h2,h3,h4⟩,h5,h6⟩:=hs
  have hp:p<R:=by omega
  have q1:Bd R C (swC (swR t.d p k) q k):=(g1.swR (by omega) hp hk hkR).swC (by omega) (by omega) hk hkC
  have q2:=g2.swR (i:=p) (by omega) hp hk hkR
  have q3:=g3.swC (j:=p) (by omega) hp hk hkR
  have q4:=g4.swC (j:=q) (by omega) h3 hk hkC
  have q5:=g5.swR (i:=q) (by omega) h3 hk hkC
  have hpos:=ab_pos.2 h5
  have ekk:swC (swR t.d p k) q k k k=t.d p q:=by
   unfold swC swR sw
   grind
  have b1:=ab_bd (q1.ab hk hkR hk hkC)
  unfold aL.pj6
  simp only [sP,sQ,iP,iQ,Option.isSome_some,Bool.not_true,cond_false]
  simp only [eq_false (show ¬ p<0 by omega),decide_false,cond_false]
  rw [Tn hR hC (by omega) (by omega) hp hk hkR,Option.bind_some,Tn hR hR (by omega) (by omega) hp hk hkR,Option.bind_some,Tp hR hR (by omega) (by omega) hp hk hkR,Option.bind_some,Tp hR hC (by omega) (by omega) h3 hk hkC,Option.bind_some,Tp hC hC (by omega) (by omega) h3 hk hkC,Option.bind_some,Tn hC hC (by omega) (by omega) h3 hk hkC,Option.bind_some]
  rw [To hR hC (by omega) (by omega) hp hk hkR,Option.bind_some,To hR hR (by omega) (by omega) hp hk hkR,Option.bind_some,Tq hR hR (by omega) (by omega) hp hk hkR,Option.bind_some,Tq hR hC (by omega) (by omega) h3 hk hkC,Option.bind_some,Tq hC hC (by omega) (by omega) h3 hk hkC,Option.bind_some,To hC hC (by omega) (by omega) h3 hk hkC,Option.bind_some]
  simp (disch:=omega) only [at_mk,kn,lK,Option.bind_some]
  rw [ekk]
  by_cases hneg:t.d p q<0
  ·have epv:pvS t p q k=ngS (swS t p q k) k:=if_pos (by show swC (swR t.d p k) q k k k<0;rw [ekk];exact hneg)
   rw [epv]
   simp only [eq_true hneg,decide_true,cond_true]
   refine ⟨⟨q1.ngR,q2.ngR,q3.ngC,q4,q5⟩,?_,?_,?_⟩
   ·show ngR (swC (swR t.d p k) q k) k k k=_
    unfold ngR ab
    rw [if_pos rfl,ekk,if_pos hneg]
   ·rw [akY hR hC hk hkR C F _ 0 q1 (by omega) (by omega) (by omega)]
    unfold aL.pj5
    rw [akZ hR hk hkR R F _ _ 0 q2 q3 (by omega) (by omega) (by omega)]
    rw [fW (A:=ngRf (swC (swR t.d p k) q k) k 0) (B:=(ngS (swS t p q k) k).d) (λa b _ _ _ _=>by unfold ngRf;show _=ngR _ _ _ _;unfold ngR swS;grind)]
    rw [fW (A:=ngRf (swR t.l p k) k 0) (B:=(ngS (swS t p q k) k).l) (λa b _ _ _ _=>by unfold ngRf;show _=ngR _ _ _ _;unfold ngR swS;grind)]
    rw [fW (A:=ngCf (swC t.m p k) k 0) (B:=(ngS (swS t p q k) k).m) (λa b _ _ _ _=>by unfold ngCf;show _=ngC _ _ _ _;unfold ngC swS;grind)]
    rfl
   ·obtain ⟨x,ex,exl,ew⟩:=cuts_row (A:=swC (swR t.d p k) q k) hR hC hk hkR (by omega)
    obtain ⟨y,ey,eyl,ew2⟩:=cuts_row (A:=swR t.l p k) hR hR hk hkR (by omega)
    have m1:R * C<=1000 * 1000:=Nat.mul_le_mul hR hC
    have m2:R * R<=1000 * 1000:=Nat.mul_le_mul hR hR
    rw [ex,Option.bind_some,ey,Option.bind_some,if_pos (by rw [oL,oL];omega),ew,ew2,exl,eyl,negr_mk hR hC hk hkR q1,negr_mk hR hR hk hkR q2]
    unfold cb.pj3
    rw [ak0 hR hk hkR R F _ 0 q3 (by omega) (by omega) (by omega)]
    rw [fW (A:=ngCf (swC t.m p k) k 0) (B:=(ngS (swS t p q k) k).m) (λa b _ _ _ _=>by unfold ngCf;show _=ngC _ _ _ _;unfold ngC swS;grind)]
    rfl
  ·have epv:pvS t p q k=swS t p q k:=if_neg (by show ¬ swC (swR t.d p k) q k k k<0;rw [ekk];exact hneg)
   rw [epv]
   simp only [eq_false hneg,decide_false,cond_false]
   refine ⟨⟨q1,q2,q3,q4,q5⟩,?_,rfl,rfl⟩
   show swC (swR t.d p k) q k k k=_
   unfold ab
   rw [ekk,if_neg hneg]
end Go.Proofs.YtppbogklbhfboaaGreat.AE.SS
end
section
namespace Go.Proofs.YtppbogklbhfboaaGreat.AE.SS
open Go Go.AE Go.Proofs
variable {R C F:Nat} {A:Mat} {i j k:Int}
def rowS (u:St) (t f b:Int):St:=⟨adR u.d t f b,adR u.l t f b,adC u.m f t (-b),u.r,u.s⟩
def colS (u:St) (t f b:Int):St:=⟨adC u.d t f b,u.l,u.m,adC u.r t f b,adR u.s f t (-b)⟩
theorem rowS_good {u:St} (h:u.good R C) (t f b:Int):(rowS u t f b).good R C:=by
 obtain ⟨g1,g2,g3,g4,g5⟩:=h
 exact ⟨g1.adR,g2.adR,g3.adC,g4,g5⟩
theorem colS_good {u:St} (h:u.good R C) (t f b:Int):(colS u t f b).good R C:=by
 obtain ⟨g1,g2,g3,g4,g5⟩:=h
 exact ⟨g1.adC,g2,g3,g4.adC,g5.adR⟩
theorem ab_neg (x:Int):ab (-x)=ab x:=by unfold ab;split <;> split <;> omega
theorem row_both (hR:R<=1000) (hC:C<=1000) (hF:5000000<F) {u:St} (hg:u.good R C) {t f q:Int} (ht0:0<=t) (ht:t<R) (hf0:0<=f) (hf:f<R) (htf:t≠f) (hq:ab q<=4000000000000) (hq0:q≠0) :
  ∃ bad',fV.p F R (mk R R u.l) R R (mk R R u.m) C (mk R C u.d) false t f (-q)=some (mk R R (rowS u t f (-q)).l,mk R R (rowS u t f (-q)).m,mk R C (rowS u t f (-q)).d,bad') /\
   (∃ x y z,hY.p F C (mk R C u.d) R (mk R R u.l) R R (mk R R u.m) false t f q=some (x,y,z,bad')/\(bad'=false->x=mk R C (rowS u t f (-q)).d/\y=mk R R (rowS u t f (-q)).l/\z=mk R R (rowS u t f (-q)).m)) /\
   (bad'=false->¬ nfR C u.d t f (-q)):=by
 obtain ⟨g1,g2,g3,g4,g5⟩:=hg
 have bq:=ab_bd hq
 have hq':ab (-q)<=4000000000000:=by rw [ab_neg];exact hq
 obtain ⟨b1,e1,h1⟩:=Ts (F:=F) (bad:=false) hR hC (by omega) g1 ht0 ht hf0 hf htf hq'
 obtain ⟨b2,e2,h2⟩:=Ts (F:=F) (bad:=b1) hR hR (by omega) g2 ht0 ht hf0 hf htf hq'
 obtain ⟨b3,e3,h3⟩:=Tt (F:=F) (q:=- -q) (bad:=b2) hR hR (by omega) g3 hf0 hf ht0 ht (Ne.symm htf) (by rw [ab_neg];exact hq')
 refine ⟨b3,?_,?_,?_⟩
 ·unfold fV.p
  rw [e1,Option.bind_some]
  simp only []
  rw [e2,Option.bind_some]
  simp only []
  rw [bX (by omega) (by omega),Int.zero_sub,e3,Option.bind_some]
  rfl
 ·unfold hY.p
  rw [show (q != 0)=true from bne_iff_ne.2 hq0,cond_true]
  obtain ⟨c1,x,f1,i1,j1⟩:=Tu (F:=F) hR hC (by omega) g1 ht0 ht hf0 hf htf hq
  rw [f1,Option.bind_some]
  simp only []
  cases c1 with
  | true=>
   rw [Tw (by omega),Option.bind_some]
   simp only []
   rw [Tx (by omega),Option.bind_some]
   have hb:b3=true:=h3.2 (.inl (h2.2 (.inl (h1.2 (.inr (i1.1 rfl))))))
   subst hb
   exact ⟨_,_,_,rfl,λh=>by cases h⟩
  | false=>
   have n1:¬ nfR C u.d t f (-q):=λh=>by have:=i1.2 h;cases this
   obtain ⟨c2,y,f2,i2,j2⟩:=Tu (F:=F) hR hR (by omega) g2 ht0 ht hf0 hf htf hq
   rw [f2,Option.bind_some]
   simp only []
   cases c2 with
   | true=>
    rw [Tx (by omega),Option.bind_some]
    have hb:b3=true:=h3.2 (.inl (h2.2 (.inr (i2.1 rfl))))
    subst hb
    exact ⟨_,_,_,rfl,λh=>by cases h⟩
   | false=>
    have n2:¬ nfR R u.l t f (-q):=λh=>by have:=i2.2 h;cases this
    obtain ⟨c3,z,f3,i3,j3⟩:=Tv (F:=F) (q:=-q) hR hR (by omega) g3 hf0 hf ht0 ht (Ne.symm htf) hq'
    rw [bX (by omega) (by omega),Int.zero_sub,f3,Option.bind_some]
    have hb:b3=c3:=by
     rw [Bool.eq_iff_iff,h3,i3]
     constructor
     ·rintro (h | h)
      ·rcases h2.1 h with h | h
       ·rcases h1.1 h with h | h
        ·cases h
        ·exact absurd h n1
       ·exact absurd h n2
      ·exact h
     ·exact λh=>.inr h
    subst hb
    exact ⟨_,_,_,rfl,λh=>⟨j1 rfl,j2 rfl,j3 h⟩⟩
 ·intro hb hn
  have:b3=true:=h3.2 (.inl (h2.2 (.inl (h1.2 (.inr hn)))))
  rw [hb] at this;cases this
theorem col_both (hR:R<=1000) (hC:C<=1000) (hF:5000000<F) {u:St} (hg:u.good R C) {t f q:Int} (ht0:0<=t) (ht:t<C) (hf0:0<=f) (hf:f<C) (htf:t≠f) (hq:ab q<=4000000000000) (hq0:q≠0) :
  ∃ bad',iA.p F R C (mk R C u.d) C C (mk C C u.r) C (mk C C u.s) false t f (-q)=some (mk R C (colS u t f (-q)).d,mk C C (colS u t f (-q)).r,mk C C (colS u t f (-q)).s,bad') /\
   (∃ x y z,io.p F R C (mk R C u.d) C C (mk C C u.r) C (mk C C u.s) false t f q=some (x,y,z,bad')/\(bad'=false->x=mk R C (colS u t f (-q)).d/\y=mk C C (colS u t f (-q)).r/\z=mk C C (colS u t f (-q)).s)) /\
   (bad'=false->¬ nfC R u.d t f (-q)):=by
 obtain ⟨g1,g2,g3,g4,g5⟩:=hg
 have bq:=ab_bd hq
 have hq':ab (-q)<=4000000000000:=by rw [ab_neg];exact hq
 obtain ⟨b1,e1,h1⟩:=Tt (F:=F) (bad:=false) hR hC (by omega) g1 ht0 ht hf0 hf htf hq'
 obtain ⟨b2,e2,h2⟩:=Tt (F:=F) (bad:=b1) hC hC (by omega) g4 ht0 ht hf0 hf htf hq'
 obtain ⟨b3,e3,h3⟩:=Ts (F:=F) (q:=- -q) (bad:=b2) hC hC (by omega) g5 hf0 hf ht0 ht (Ne.symm htf) (by rw [ab_neg];exact hq')
 refine ⟨b3,?_,?_,?_⟩
 ·unfold iA.p
  rw [e1,Option.bind_some]
  simp only []
  rw [e2,Option.bind_some]
  simp only []
  rw [bX (by omega) (by omega),Int.zero_sub,e3,Option.bind_some]
  rfl
 ·unfold io.p
  rw [show (q != 0)=true from bne_iff_ne.2 hq0,cond_true]
  obtain ⟨c1,x,f1,i1,j1⟩:=Tv (F:=F) hR hC (by omega) g1 ht0 ht hf0 hf htf hq
  rw [f1,Option.bind_some]
  simp only []
  cases c1 with
  | true=>
   rw [Tx (by omega),Option.bind_some]
   simp only []
   rw [Tw (by omega),Option.bind_some]
   have hb:b3=true:=h3.2 (.inl (h2.2 (.inl (h1.2 (.inr (i1.1 rfl))))))
   subst hb
   exact ⟨_,_,_,rfl,λh=>by cases h⟩
  | false=>
   have n1:¬ nfC R u.d t f (-q):=λh=>by have:=i1.2 h;cases this
   obtain ⟨c2,y,f2,i2,j2⟩:=Tv (F:=F) hC hC (by omega) g4 ht0 ht hf0 hf htf hq
   rw [f2,Option.bind_some]
   simp only []
   cases c2 with
   | true=>
    rw [Tw (by omega),Option.bind_some]
    have hb:b3=true:=h3.2 (.inl (h2.2 (.inr (i2.1 rfl))))
    subst hb
    exact ⟨_,_,_,rfl,λh=>by cases h⟩
   | false=>
    have n2:¬ nfC C u.r t f (-q):=λh=>by have:=i2.2 h;cases this
    obtain ⟨c3,z,f3,i3,j3⟩:=Tu (F:=F) (q:=-q) hC hC (by omega) g5 hf0 hf ht0 ht (Ne.symm htf) hq'
    rw [bX (by omega) (by omega),Int.zero_sub,f3,Option.bind_some]
    have hb:b3=c3:=by
     rw [Bool.eq_iff_iff,h3,i3]
     constructor
     ·rintro (h | h)
      ·rcases h2.1 h with h | h
       ·rcases h1.1 h with h | h
        ·cases h
        ·exact absurd h n1
       ·exact absurd h n2
      ·exact h
     ·exact λh=>.inr h
    subst hb
    exact ⟨_,_,_,rfl,λh=>⟨j1 rfl,j2 rfl,j3 h⟩⟩
 ·intro hb hn
  have:b3=true:=h3.2 (.inl (h2.2 (.inl (h1.2 (.inr hn)))))
  rw [hb] at this;cases this
end Go.Proofs.YtppbogklbhfboaaGreat.AE.SS
end
section
namespace Go.Proofs.YtppbogklbhfboaaGreat.AE.SS
open Go Go.AE Go.Proofs
variable {R C F:Nat} {A:Mat} {i j k:Int}
abbrev i13 (F g R C:Nat) (u:St) (bad:Bool) (k i:Int):=bh.pl13 F g R (mk R R u.l) R R (mk R R u.m) R C (mk R C u.d) C C (mk C C u.r) C (mk C C u.s) bad k R C i
abbrev i4 (F R C:Nat) (u:St) (bad:Bool) (k:Int):=bh.pj4 F (mk R R u.l) (mk R R u.m) R C (mk R C u.d) C C (mk C C u.r) C (mk C C u.s) bad k C
abbrev i15 (F g R C:Nat) (u:St) (bad:Bool) (k j:Int):=bh.pl15 F g (mk R R u.l) (mk R R u.m) R C (mk R C u.d) C C (mk C C u.r) C (mk C C u.s) bad k C j
abbrev s29 (F g R C:Nat) (u:St) (bad:Bool) (k i:Int):=bF.pl29 F g R C (mk R C u.d) R (mk R R u.l) R R (mk R R u.m) C C (mk C C u.r) C (mk C C u.s) bad k i
abbrev s2 (F R C:Nat) (u:St) (bad:Bool) (k:Int):=bF.pj2 F R C (mk R C u.d) R (mk R R u.l) R R (mk R R u.m) C C (mk C C u.r) C (mk C C u.s) bad k
abbrev s61 (F g R C:Nat) (u:St) (bad:Bool) (k i:Int):=bF.pl61 F g R C (mk R C u.d) R (mk R R u.l) R R (mk R R u.m) C C (mk C C u.r) C (mk C C u.s) bad k i
abbrev s1 (F R C:Nat) (u:St) (bad:Bool) (k:Int):=bF.pj1 F R C (mk R C u.d) R (mk R R u.l) R R (mk R R u.m) (mk C C u.r) (mk C C u.s) bad k
theorem i15_bad {g:Nat} {l m d r s:List Int} {c6 c7 c9 c10 c13 k x j:Int}:bh.pl15 F (g+1) l m c6 c7 d c9 c10 r c13 s true k x j=some (true,l,m,d,r,s):=by
 rw [bh.pl15]
 cases decide (j<x) <;> rfl
theorem i13_bad {g:Nat} {l m d r s:List Int} {c1 c3 c4 c6 c7 c9 c10 c13 k x y i:Int} (hF:0<F):bh.pl13 F (g+1) c1 l c3 c4 m c6 c7 d c9 c10 r c13 s true k x y i=some (true,l,m,d,r,s):=by
 obtain ⟨f,rfl⟩:∃ f,F=f+1:=⟨F - 1,by omega⟩
 rw [bh.pl13]
 unfold bh.pj4
 cases decide (i<x)
 ·exact i15_bad
 ·exact i15_bad
theorem s61_bad {g:Nat} {l m d r s:List Int} {c0 c1 c4 c6 c7 c9 c10 c13 k i:Int}:bF.pl61 F (g+1) c0 c1 d c4 l c6 c7 m c9 c10 r c13 s true k i=some (false,false,d,l,m,r,s,true):=by
 rw [bF.pl61]
 cases decide (i<c1) <;> rfl
theorem s29_bad {g:Nat} {l m d r s:List Int} {c0 c1 c4 c6 c7 c9 c10 c13 k i:Int} (hF:0<F):bF.pl29 F (g+1) c0 c1 d c4 l c6 c7 m c9 c10 r c13 s true k i=some (false,false,d,l,m,r,s,true):=by
 obtain ⟨f,rfl⟩:∃ f,F=f+1:=⟨F - 1,by omega⟩
 rw [bF.pl29]
 unfold bF.pj2
 cases decide (i<c0)
 ·exact s61_bad
 ·exact s61_bad
theorem mod_eq {x p:Int}:x+p * -(x / p)=x % p:=by
 have:=Int.mul_ediv_add_emod x p
 rw [Int.mul_neg];omega
theorem quo_ne {x p:Int} (h:x / p=0):x % p=x:=by
 have:=Int.mul_ediv_add_emod x p
 rw [h] at this;omega
theorem clr_rows (hR:R<=1000) (hC:C<=1000) (hF:5000000<F) (hk:0<=k) (hkR:k<R) (hkC:k<C) {p:Int} (hp:0<p):∀ (n g h:Nat) (u:St) (i:Int),u.good R C->u.d k k=p->R - i=n->n+1<g->n+1<h->k<i ->
  (∃ v:St,v.good R C/\(∀ a b:Int,a<i->v.d a b=u.d a b)/\(∀ b:Int,0<=b->b<C->v.d k b=u.d k b)/\(∀ a:Int,i<=a->a<R->v.d a k=u.d a k % p)/\(∀ a:Int,0<=a->a<i->v.d a k=u.d a k) /\
   i13 F g R C u false k i=i4 F R C v false k/\s29 F h R C u false k i=s2 F R C v false k) \/
  (∃ l m d r s,i13 F g R C u false k i=some (true,l,m,d,r,s))/\(∃ l m d r s,s29 F h R C u false k i=some (false,false,d,l,m,r,s,true)):=by
 intro n
 induction n with
 | zero=>
  intro g h u i hu hkk hn hg hh hki
  obtain ⟨g,rfl⟩:∃ g',g=g'+1:=⟨g - 1,by omega⟩
  obtain ⟨h,rfl⟩:∃ g',h=g'+1:=⟨h - 1,by omega⟩
  left
  refine ⟨u,hu,λ_ _ _=>rfl,λ_ _ _=>rfl,λa h1 h2=>by omega,λ_ _ _=>rfl,?_,?_⟩
  ·unfold i13
   rw [bh.pl13,show decide (i<(R:Int))=false from decide_eq_false (by omega),cond_false]
  ·unfold s29
   rw [bF.pl29,show decide (i<(R:Int))=false from decide_eq_false (by omega),cond_false]
 | succ n ih=>
  intro g h u i hu hkk hn hg hh hki
  obtain ⟨g,rfl⟩:∃ g',g=g'+1:=⟨g - 1,by omega⟩
  obtain ⟨h,rfl⟩:∃ g',h=g'+1:=⟨h - 1,by omega⟩
  have bik:=hu.1.ab (i:=i) (j:=k) (by omega) (by omega) hk hkC
  have bq:=(quo_bd hp bik).1
  have bq':=ab_bd bq
  unfold i13 s29
  rw [bh.pl13,show decide (i<(R:Int))=true from decide_eq_true (by omega),cond_true,Bool.not_false,cond_true]
  rw [bF.pl29,show decide (i<(R:Int))=true from decide_eq_true (by omega),cond_true,Bool.not_false,cond_true]
  simp (disch:=omega) only [at_mk,kn,lK,Option.bind_some]
  rw [hkk,abR hp bik,abS hp bik,Option.bind_some,Option.bind_some]
  by_cases hq:u.d i k / p=0
  ·rw [hq,show ((0:Int) != 0)=false from rfl,cond_false]
   unfold bh.pj5 hY.p
   rw [show ((0:Int) != 0)=false from rfl,cond_false,Option.bind_some,bX (by omega) (by omega)]
   rcases ih g h u (i+1) hu hkk (by omega) (by omega) (by omega) (by omega) with ⟨v,q1,q0,q2,q3,q4,q5,q6⟩ | hbad
   ·left
    refine ⟨v,q1,λa b h=>q0 a b (by omega),q2,λa h1 h2=>?_,λa h1 h2=>q4 a h1 (by omega),q5,q6⟩
    by_cases e:a=i
    ·subst e
     rw [q4 a (by omega) (by omega),quo_ne hq]
    ·exact q3 a (by omega) h2
   ·exact .inr hbad
  ·rw [show (u.d i k / p != 0)=true from bne_iff_ne.2 hq,cond_true,bX (x:=0 - u.d i k / p) (by omega) (by omega),Int.zero_sub]
   obtain ⟨bad',e1,⟨x,y,z,e2,e3⟩,e4⟩:=row_both (q:=u.d i k / p) hR hC hF hu (by omega:0<=i) (by omega) hk hkR (by omega) (by omega) hq
   rw [e1,e2,Option.bind_some,Option.bind_some]
   unfold bh.pj5
   rw [bX (x:=i+1) (by omega) (by omega)]
   simp only []
   cases bad' with
   | true=>
    right
    obtain ⟨g,rfl⟩:∃ g',g=g'+1:=⟨g - 1,by omega⟩
    obtain ⟨h,rfl⟩:∃ g',h=g'+1:=⟨h - 1,by omega⟩
    exact ⟨⟨_,_,_,_,_,i13_bad (by omega)⟩,⟨_,_,_,_,_,s29_bad (by omega)⟩⟩
   | false=>
    obtain ⟨rfl,rfl,rfl⟩:=e3 rfl
    have e4:=e4 rfl
    have key:∀ b:Int,0<=b->b<C->(rowS u i k (-(u.d i k / p))).d i b=u.d i b+u.d k b * -(u.d i k / p):=by
     intro b h1 h2
     show adR u.d i k (-(u.d i k / p)) i b=_
     unfold adR
     rw [if_pos rfl]
     apply ad_fit
     exact Classical.byContradiction λhh=>e4 ⟨b,h1,h2,hh⟩
    have oth:∀ a b,a≠i->(rowS u i k (-(u.d i k / p))).d a b=u.d a b:=by
     intro a b h1
     show adR u.d i k (-(u.d i k / p)) a b=_
     unfold adR
     rw [if_neg h1]
    rcases ih g h (rowS u i k (-(u.d i k / p))) (i+1) (rowS_good hu _ _ _) (by rw [oth k k (by omega)];exact hkk) (by omega) (by omega) (by omega) (by omega) with ⟨v,q1,q0,q2,q3,q4,q5,q6⟩ | hbad
    ·left
     refine ⟨v,q1,λa b h=>(q0 a b (by omega)).trans (oth a b (by omega)),λb h1 h2=>?_,λa h1 h2=>?_,λa h1 h2=>?_,q5,q6⟩
     ·rw [q2 b h1 h2,oth k b (by omega)]
     ·by_cases e:a=i
      ·subst e
       rw [q4 a (by omega) (by omega),key k hk hkC,hkk,mod_eq]
      ·rw [q3 a (by omega) h2,oth a k e]
     ·rw [q4 a h1 (by omega),oth a k (by omega)]
    ·exact .inr hbad
theorem clr_cols (hR:R<=1000) (hC:C<=1000) (hF:5000000<F) (hk:0<=k) (hkR:k<R) (hkC:k<C) {p:Int} (hp:0<p):∀ (n g h:Nat) (u:St) (j:Int),u.good R C->u.d k k=p->C - j=n->n+1<g->n+1<h->k<j ->
  (∃ v:St,v.good R C/\(∀ a b:Int,b<j->v.d a b=u.d a b)/\(∀ a:Int,0<=a->a<R->v.d a k=u.d a k)/\(∀ b:Int,j<=b->b<C->v.d k b=u.d k b % p)/\(∀ b:Int,0<=b->b<j->v.d k b=u.d k b) /\
   i15 F g R C u false k j=some (false,mk R R v.l,mk R R v.m,mk R C v.d,mk C C v.r,mk C C v.s)/\s61 F h R C u false k j=s1 F R C v false k) \/
  (∃ l m d r s,i15 F g R C u false k j=some (true,l,m,d,r,s))/\(∃ l m d r s,s61 F h R C u false k j=some (false,false,d,l,m,r,s,true)):=by
 intro n
 induction n with
 | zero=>
  intro g h u i hu hkk hn hg hh hki
  obtain ⟨g,rfl⟩:∃ g',g=g'+1:=⟨g - 1,by omega⟩
  obtain ⟨h,rfl⟩:∃ g',h=g'+1:=⟨h - 1,by omega⟩
  left
  refine ⟨u,hu,λ_ _ _=>rfl,λ_ _ _=>rfl,λa h1 h2=>by omega,λ_ _ _=>rfl,?_,?_⟩
  ·unfold i15
   rw [bh.pl15,show decide (i<(C:Int))=false from decide_eq_false (by omega),cond_false]
  ·unfold s61
   rw [bF.pl61,show decide (i<(C:Int))=false from decide_eq_false (by omega),cond_false]
 | succ n ih=>
  intro g h u j hu hkk hn hg hh hki
  obtain ⟨g,rfl⟩:∃ g',g=g'+1:=⟨g - 1,by omega⟩
  obtain ⟨h,rfl⟩:∃ g',h=g'+1:=⟨h - 1,by omega⟩
  have bik:=hu.1.ab (i:=k) (j:=j) hk hkR (by omega) (by omega)
  have bq:=(quo_bd hp bik).1
  have bq':=ab_bd bq
  unfold i15 s61
  rw [bh.pl15,show decide (j<(C:Int))=true from decide_eq_true (by omega),cond_true,Bool.not_false,cond_true]
  rw [bF.pl61,show decide (j<(C:Int))=true from decide_eq_true (by omega),cond_true,Bool.not_false,cond_true]
  simp (disch:=omega) only [at_mk,kn,lK,Option.bind_some]
  rw [hkk,abR hp bik,abS hp bik,Option.bind_some,Option.bind_some]
  by_cases hq:u.d k j / p=0
  ·rw [hq,show ((0:Int) != 0)=false from rfl,cond_false]
   unfold bh.pj3 io.p
   rw [show ((0:Int) != 0)=false from rfl,cond_false,Option.bind_some,bX (by omega) (by omega)]
   rcases ih g h u (j+1) hu hkk (by omega) (by omega) (by omega) (by omega) with ⟨v,q1,q0,q2,q3,q4,q5,q6⟩ | hbad
   ·left
    refine ⟨v,q1,λa b h=>q0 a b (by omega),q2,λa h1 h2=>?_,λa h1 h2=>q4 a h1 (by omega),q5,q6⟩
    by_cases e:a=j
    ·subst e
     rw [q4 a (by omega) (by omega),quo_ne hq]
    ·exact q3 a (by omega) h2
   ·exact .inr hbad
  ·rw [show (u.d k j / p != 0)=true from bne_iff_ne.2 hq,cond_true,bX (x:=0 - u.d k j / p) (by omega) (by omega),Int.zero_sub]
   obtain ⟨bad',e1,⟨x,y,z,e2,e3⟩,e4⟩:=col_both (q:=u.d k j / p) hR hC hF hu (by omega:0<=j) (by omega) hk hkC (by omega) (by omega) hq
   rw [e1,e2,Option.bind_some,Option.bind_some]
   unfold bh.pj3
   rw [bX (x:=j+1) (by omega) (by omega)]
   simp only []
   cases bad' with
   | true=>
    right
    obtain ⟨g,rfl⟩:∃ g',g=g'+1:=⟨g - 1,by omega⟩
    obtain ⟨h,rfl⟩:∃ g',h=g'+1:=⟨h - 1,by omega⟩
    exact ⟨⟨_,_,_,_,_,i15_bad⟩,⟨_,_,_,_,_,s61_bad⟩⟩
   | false=>
    obtain ⟨rfl,rfl,rfl⟩:=e3 rfl
    have e4:=e4 rfl
    have key:∀ a:Int,0<=a->a<R->(colS u j k (-(u.d k j / p))).d a j=u.d a j+u.d a k * -(u.d k j / p):=by
     intro b h1 h2
     show adC u.d j k (-(u.d k j / p)) b j=_
     unfold adC
     rw [if_pos rfl]
     apply ad_fit
     exact Classical.byContradiction λhh=>e4 ⟨b,h1,h2,hh⟩
    have oth:∀ a b,b≠j->(colS u j k (-(u.d k j / p))).d a b=u.d a b:=by
     intro a b h1
     show adC u.d j k (-(u.d k j / p)) a b=_
     unfold adC
     rw [if_neg h1]
    rcases ih g h (colS u j k (-(u.d k j / p))) (j+1) (colS_good hu _ _ _) (by rw [oth k k (by omega)];exact hkk) (by omega) (by omega) (by omega) (by omega) with ⟨v,q1,q0,q2,q3,q4,q5,q6⟩ | hbad
    ·left
     refine ⟨v,q1,λa b h=>(q0 a b (by omega)).trans (oth a b (by omega)),λb h1 h2=>?_,λa h1 h2=>?_,λa h1 h2=>?_,q5,q6⟩
     ·rw [q2 b h1 h2,oth b k (by omega)]
     ·by_cases e:a=j
      ·subst e
       rw [q4 a (by omega) (by omega),key k hk hkR,hkk,mod_eq]
      ·rw [q3 a (by omega) h2,oth k a e]
     ·rw [q4 a h1 (by omega),oth k a (by omega)]
    ·exact .inr hbad
theorem clr_both (hR:R<=1000) (hC:C<=1000) (hF:5000000<F) (hk:0<=k) (hkR:k<R) (hkC:k<C) {p:Int} (hp:0<p) {u:St} (hu:u.good R C) (hkk:u.d k k=p) :
  (∃ v:St,v.good R C/\(∀ a b:Int,a<k->b<k->v.d a b=u.d a b)/\v.d k k=p/\(∀ a:Int,k<a->a<R->v.d a k=u.d a k % p)/\(∀ b:Int,k<b->b<C->v.d k b=u.d k b % p) /\
   bh.p F R (mk R R u.l) R R (mk R R u.m) R C (mk R C u.d) C C (mk C C u.r) C (mk C C u.s) false k=some (false,mk R R v.l,mk R R v.m,mk R C v.d,mk C C v.r,mk C C v.s)/\s29 F F R C u false k (IntKind.i64.wrap (k+1))=s1 F R C v false k) \/
  (∃ l m d r s,bh.p F R (mk R R u.l) R R (mk R R u.m) R C (mk R C u.d) C C (mk C C u.r) C (mk C C u.s) false k=some (true,l,m,d,r,s))/\(∃ l m d r s,s29 F F R C u false k (IntKind.i64.wrap (k+1))=some (false,false,d,l,m,r,s,true)):=by
 unfold bh.p
 rw [bX (x:=k+1) (by omega) (by omega)]
 rcases clr_rows hR hC hF hk hkR hkC hp (R - (k+1)).toNat F F u (k+1) hu hkk (by omega) (by omega) (by omega) (by omega) with ⟨v,q1,q0,q2,q3,q4,q5,q6⟩ | ⟨h1,h2⟩
 ·rcases clr_cols hR hC hF hk hkR hkC hp (C - (k+1)).toNat F F v (k+1) q1 (by rw [q4 k hk (by omega)];exact hkk) (by omega) (by omega) (by omega) (by omega) with ⟨w,p1,p0,p2,p3,p4,p5,p6⟩ | ⟨h1,h2⟩
  ·left
   refine ⟨w,p1,λa b h1 h2=>(p0 a b (by omega)).trans (q0 a b (by omega)),by rw [p2 k hk hkR,q4 k hk (by omega)];exact hkk,λa h1 h2=>by rw [p2 a (by omega) h2,q3 a (by omega) h2],λb h1 h2=>by rw [p3 b (by omega) h2,q2 b (by omega) h2],?_,?_⟩
   ·rw [show bh.pl13 F F R (mk R R u.l) R R (mk R R u.m) R C (mk R C u.d) C C (mk C C u.r) C (mk C C u.s) false k R C (k+1)=_ from q5]
    unfold i4 bh.pj4
    rw [bX (x:=k+1) (by omega) (by omega)]
    exact p5
   ·rw [q6]
    unfold s2 bF.pj2
    rw [bX (x:=k+1) (by omega) (by omega)]
    exact p6
  ·right
   obtain ⟨a1,a2,a3,a4,a5,h1⟩:=h1
   obtain ⟨b1,b2,b3,b4,b5,h2⟩:=h2
   refine ⟨⟨a1,a2,a3,a4,a5,?_⟩,⟨b1,b2,b3,b4,b5,?_⟩⟩
   ·rw [show bh.pl13 F F R (mk R R u.l) R R (mk R R u.m) R C (mk R C u.d) C C (mk C C u.r) C (mk C C u.s) false k R C (k+1)=_ from q5]
    unfold i4 bh.pj4
    rw [bX (x:=k+1) (by omega) (by omega)]
    exact h1
   ·rw [q6]
    unfold s2 bF.pj2
    rw [bX (x:=k+1) (by omega) (by omega)]
    exact h2
 ·exact .inr ⟨h1,h2⟩
end Go.Proofs.YtppbogklbhfboaaGreat.AE.SS
end
section
namespace Go.Proofs.YtppbogklbhfboaaGreat.AE.SS
open Go Go.AE Go.Proofs
variable {R C F:Nat} {A:Mat} {i j k:Int}
theorem cutf_row (hR:R<=1000) (hC:C<=1000) (hk0:0<=k) (hk:k<R):∃ x,fU.p F C (mk R C A) k=some x/\x.length=C/\∀ n:Nat,n<C->gt x n=A k n:=by
 obtain ⟨k,rfl⟩:=Int.eq_ofNat_of_zero_le hk0
 have h1:(k+1) * C<=R * C:=Nat.mul_le_mul_right _ (by omega)
 have h2:R * C<=1000 * 1000:=Nat.mul_le_mul hR hC
 have h3:(k+1) * C=k * C+C:=Nat.succ_mul _ _
 unfold fU.p
 rw [bX (x:=(k:Int)+1) (by omega) (by omega),show (k:Int)+1=((k+1:Nat):Int) by omega,<-Int.natCast_mul,<-Int.natCast_mul,bX (by omega) (by omega),bX (by omega) (by omega)]
 unfold cutf
 rw [if_pos (by rw [oL];omega),Option.bind_some]
 refine ⟨_,rfl,?_,?_⟩
 ·rw [List.length_drop,List.length_take,oL]
  omega
 ·intro n hn
  unfold gt
  rw [List.getD_eq_getElem?_getD,List.getElem?_drop,List.getElem?_take_of_lt (by omega),Int.toNat_natCast,JV hn (by omega)]
  rfl
theorem cutf_end {x:List Int} (hk0:0<=k) (hk:k<=x.length):∃ y,cutf x k (x.length:Int)=some y/\(y.length:Int)=x.length - k/\∀ n:Nat,gt y n=gt x (k.toNat+n):=by
 unfold cutf
 rw [if_pos (by omega)]
 refine ⟨_,rfl,?_,?_⟩
 ·rw [List.length_drop,List.length_take];omega
 ·intro n
  unfold gt
  rw [List.getD_eq_getElem?_getD,List.getD_eq_getElem?_getD,List.getElem?_drop,Int.toNat_natCast,List.take_length]
theorem idx_155 {y:List Int} (hy:y.length<=1000):∀ (n g:Nat) (i:Int),y.length - i=n->n<g->0<=i ->
  ∃ r,e_.pl13 F g y y.length i=some r/\(r>=0↔∃ a:Int,i<=a/\a<y.length/\gt y a.toNat≠0):=by
 intro n
 induction n with
 | zero=>
  intro g i hn hg hi
  obtain ⟨g,rfl⟩:∃ g',g=g'+1:=⟨g - 1,by omega⟩
  rw [e_.pl13,show decide (i<(y.length:Int))=false from decide_eq_false (by omega),cond_false]
  exact ⟨_,rfl,⟨λh=>absurd h (by decide),λ⟨a,h1,h2,_⟩=>by omega⟩⟩
 | succ n ih=>
  intro g i hn hg hi
  obtain ⟨g,rfl⟩:∃ g',g=g'+1:=⟨g - 1,by omega⟩
  rw [e_.pl13,show decide (i<(y.length:Int))=true from decide_eq_true (by omega),cond_true]
  unfold ix k_.p
  rw [if_pos (by omega),Option.bind_some,Option.bind_some]
  by_cases h:gt y i.toNat=0
  ·rw [h,show ((0:Int) != 0)=false from rfl,cond_false,bX (by omega) (by omega)]
   obtain ⟨r,e,hr⟩:=ih g (i+1) (by omega) (by omega) (by omega)
   refine ⟨r,e,hr.trans ⟨λ⟨a,h1,h2,h3⟩=>⟨a,by omega,h2,h3⟩,λ⟨a,h1,h2,h3⟩=>?_⟩⟩
   by_cases e:a=i
   ·subst e;exact absurd h h3
   ·exact ⟨a,by omega,h2,h3⟩
  ·rw [show (gt y i.toNat != 0)=true from bne_iff_ne.2 h,cond_true]
   exact ⟨_,rfl,⟨λ_=>⟨i,by omega,by omega,h⟩,λ_=>hi⟩⟩
theorem isClear_l (hR:R<=1000) (hC:C<=1000) (hF:5000000<F) (hk:0<=k) (hkR:k<R) (hkC:k<C):∀ (n g:Nat) (i:Int),R - i=n->n<g->k<i ->
  ∃ b:Bool,dw.pl29 F g k R C (mk R C A) i=some b/\(b=true↔(∀ a:Int,i<=a->a<R->A a k=0)/\(∀ a:Int,k<a->a<C->A k a=0)):=by
 intro n
 induction n with
 | zero=>
  intro g i hn hg hi
  obtain ⟨g,rfl⟩:∃ g',g=g'+1:=⟨g - 1,by omega⟩
  rw [dw.pl29,show decide (i<(R:Int))=false from decide_eq_false (by omega),cond_false]
  unfold dw.pj1
  obtain ⟨x,ex,xl,xg⟩:=cutf_row (F:=F) (A:=A) hR hC hk hkR
  rw [ex,Option.bind_some,bX (by omega) (by omega)]
  obtain ⟨y,ey,yl,yg⟩:=cutf_end (x:=x) (k:=k+1) (by omega) (by omega)
  rw [ey,Option.bind_some]
  unfold js.p e_.p
  obtain ⟨r,er,hr⟩:=idx_155 (F:=F) (y:=y) (by omega) y.length F 0 (by omega) (by omega) (by omega)
  rw [er,Option.bind_some,Option.bind_some]
  refine ⟨_,rfl,?_⟩
  have:(!decide (r>=0))=true↔¬ (r>=0):=by simp
  rw [this,hr]
  constructor
  ·intro h
   refine ⟨λa h1 h2=>by omega,λa h1 h2=>?_⟩
   refine Classical.byContradiction λhne=>h ⟨a - (k+1),by omega,by omega,?_⟩
   rw [yg,show (k+1).toNat+(a - (k+1)).toNat=a.toNat by omega,xg _ (by omega),Int.toNat_of_nonneg (by omega)]
   exact hne
  ·rintro ⟨_,h⟩ ⟨a,h1,h2,h3⟩
   apply h3
   rw [yg,xg _ (by omega),show (((k+1).toNat+a.toNat:Nat):Int)=k+1+a by omega]
   exact h _ (by omega) (by omega)
 | succ n ih=>
  intro g i hn hg hi
  obtain ⟨g,rfl⟩:∃ g',g=g'+1:=⟨g - 1,by omega⟩
  rw [dw.pl29,show decide (i<(R:Int))=true from decide_eq_true (by omega),cond_true]
  simp (disch:=omega) only [kn,lK,Option.bind_some]
  by_cases h:A i k=0
  ·rw [h,show ((0:Int) != 0)=false from rfl,cond_false,bX (by omega) (by omega)]
   obtain ⟨b,e,hb⟩:=ih g (i+1) (by omega) (by omega) (by omega)
   refine ⟨b,e,hb.trans ⟨λ⟨h1,h2⟩=>⟨λa h3 h4=>?_,h2⟩,λ⟨h1,h2⟩=>⟨λa h3 h4=>h1 a (by omega) h4,h2⟩⟩⟩
   by_cases e:a=i
   ·subst e;exact h
   ·exact h1 a (by omega) h4
  ·rw [show (A i k != 0)=true from bne_iff_ne.2 h,cond_true]
   exact ⟨_,rfl,⟨λh=>(by cases h),λ⟨h1,_⟩=>absurd (h1 i (by omega) (by omega)) h⟩⟩
theorem specClear_in (hR:R<=1000) (hC:C<=1000) (hk:0<=k) (hkR:k<R) (hkC:k<C):∀ (n g:Nat) (j:Int),C - j=n->n<g->k<j ->
  ∃ b:Bool,cE.pl29 F g C (mk R C A) k j=some b/\(b=true↔(∀ a:Int,j<=a->a<C->A k a=0)):=by
 intro n
 induction n with
 | zero=>
  intro g i hn hg hi
  obtain ⟨g,rfl⟩:∃ g',g=g'+1:=⟨g - 1,by omega⟩
  rw [cE.pl29,show decide (i<(C:Int))=false from decide_eq_false (by omega),cond_false]
  exact ⟨_,rfl,⟨λ_ a h1 h2=>by omega,λ_=>rfl⟩⟩
 | succ n ih=>
  intro g i hn hg hi
  obtain ⟨g,rfl⟩:∃ g',g=g'+1:=⟨g - 1,by omega⟩
  rw [cE.pl29,show decide (i<(C:Int))=true from decide_eq_true (by omega),cond_true]
  simp (disch:=omega) only [at_mk,Option.bind_some]
  by_cases h:A k i=0
  ·rw [h,show ((0:Int) != 0)=false from rfl,cond_false,bX (by omega) (by omega)]
   obtain ⟨b,e,hb⟩:=ih g (i+1) (by omega) (by omega) (by omega)
   refine ⟨b,e,hb.trans ⟨λh1 a h3 h4=>?_,λh1 a h3 h4=>h1 a (by omega) h4⟩⟩
   by_cases e:a=i
   ·subst e;exact h
   ·exact h1 a (by omega) h4
  ·rw [show (A k i != 0)=true from bne_iff_ne.2 h,cond_true]
   exact ⟨_,rfl,⟨λh=>(by cases h),λh1=>absurd (h1 i (by omega) (by omega)) h⟩⟩
theorem specClear_l (hR:R<=1000) (hC:C<=1000) (hF:5000000<F) (hk:0<=k) (hkR:k<R) (hkC:k<C):∀ (n g:Nat) (i:Int),R - i=n->n<g->k<i ->
  ∃ b:Bool,cE.pl13 F g R C (mk R C A) k i=some b/\(b=true↔(∀ a:Int,i<=a->a<R->A a k=0)/\(∀ a:Int,k<a->a<C->A k a=0)):=by
 intro n
 induction n with
 | zero=>
  intro g i hn hg hi
  obtain ⟨g,rfl⟩:∃ g',g=g'+1:=⟨g - 1,by omega⟩
  rw [cE.pl13,show decide (i<(R:Int))=false from decide_eq_false (by omega),cond_false]
  unfold cE.pj1
  rw [bX (by omega) (by omega)]
  obtain ⟨b,e,hb⟩:=specClear_in (F:=F) (A:=A) hR hC hk hkR hkC (C - (k+1)).toNat F (k+1) (by omega) (by omega) (by omega)
  exact ⟨b,e,hb.trans ⟨λh=>⟨λa h1 h2=>by omega,λa h1 h2=>h a (by omega) h2⟩,λ⟨_,h⟩ a h1 h2=>h a (by omega) h2⟩⟩
 | succ n ih=>
  intro g i hn hg hi
  obtain ⟨g,rfl⟩:∃ g',g=g'+1:=⟨g - 1,by omega⟩
  rw [cE.pl13,show decide (i<(R:Int))=true from decide_eq_true (by omega),cond_true]
  simp (disch:=omega) only [at_mk,Option.bind_some]
  by_cases h:A i k=0
  ·rw [h,show ((0:Int) != 0)=false from rfl,cond_false,bX (by omega) (by omega)]
   obtain ⟨b,e,hb⟩:=ih g (i+1) (by omega) (by omega) (by omega)
   refine ⟨b,e,hb.trans ⟨λ⟨h1,h2⟩=>⟨λa h3 h4=>?_,h2⟩,λ⟨h1,h2⟩=>⟨λa h3 h4=>h1 a (by omega) h4,h2⟩⟩⟩
   by_cases e:a=i
   ·subst e;exact h
   ·exact h1 a (by omega) h4
  ·rw [show (A i k != 0)=true from bne_iff_ne.2 h,cond_true]
   exact ⟨_,rfl,⟨λh=>(by cases h),λ⟨h1,_⟩=>absurd (h1 i (by omega) (by omega)) h⟩⟩
theorem clear_both (hR:R<=1000) (hC:C<=1000) (hF:5000000<F) (hk:0<=k) (hkR:k<R) (hkC:k<C) :
  ∃ b:Bool,dw.p F R C (mk R C A) k=some b/\cE.p F R C (mk R C A) k=some b/\(b=true↔(∀ a:Int,k<a->a<R->A a k=0)/\(∀ a:Int,k<a->a<C->A k a=0)):=by
 obtain ⟨b,e,hb⟩:=isClear_l (F:=F) (A:=A) hR hC hF hk hkR hkC (R - (k+1)).toNat F (k+1) (by omega) (by omega) (by omega)
 obtain ⟨c,e',hc⟩:=specClear_l (F:=F) (A:=A) hR hC hF hk hkR hkC (R - (k+1)).toNat F (k+1) (by omega) (by omega) (by omega)
 have:b=c:=by rw [Bool.eq_iff_iff,hb,hc]
 subst this
 unfold dw.p cE.p
 rw [bX (by omega) (by omega)]
 exact ⟨b,e,e',hb⟩
theorem idx_156 {y:List Int} (hR:R<=1000) (hC:C<=1000) (hk:0<=k) (hkR:k<R) (hkC:k<C) (hp:A k k≠0) (hy:y.length<=1000):∀ (n g:Nat) (i:Int),y.length - i=n->n<g->0<=i ->
  ∃ r,fa.pl13 F g y C (mk R C A) k y.length i=some r/\(r>=0↔∃ a:Int,i<=a/\a<y.length/\Int.tmod (gt y a.toNat) (A k k)≠0):=by
 intro n
 induction n with
 | zero=>
  intro g i hn hg hi
  obtain ⟨g,rfl⟩:∃ g',g=g'+1:=⟨g - 1,by omega⟩
  rw [fa.pl13,show decide (i<(y.length:Int))=false from decide_eq_false (by omega),cond_false]
  exact ⟨_,rfl,⟨λh=>absurd h (by decide),λ⟨a,h1,h2,_⟩=>by omega⟩⟩
 | succ n ih=>
  intro g i hn hg hi
  obtain ⟨g,rfl⟩:∃ g',g=g'+1:=⟨g - 1,by omega⟩
  rw [fa.pl13,show decide (i<(y.length:Int))=true from decide_eq_true (by omega),cond_true]
  unfold jE.p
  rw [kn hR hC hk hkR hk hkC]
  unfold ix
  rw [if_pos (by omega),Option.bind_some,Option.bind_some,lK hk hkR hk hkC,if_neg hp,Option.bind_some]
  by_cases h:Int.tmod (gt y i.toNat) (A k k)=0
  ·rw [h,show ((0:Int) != 0)=false from rfl,cond_false,bX (by omega) (by omega)]
   obtain ⟨r,e,hr⟩:=ih g (i+1) (by omega) (by omega) (by omega)
   refine ⟨r,e,hr.trans ⟨λ⟨a,h1,h2,h3⟩=>⟨a,by omega,h2,h3⟩,λ⟨a,h1,h2,h3⟩=>?_⟩⟩
   by_cases e:a=i
   ·subst e;exact absurd h h3
   ·exact ⟨a,by omega,h2,h3⟩
  ·rw [show (Int.tmod (gt y i.toNat) (A k k) != 0)=true from bne_iff_ne.2 h,cond_true]
   exact ⟨_,rfl,⟨λ_=>⟨i,by omega,by omega,h⟩,λ_=>hi⟩⟩
theorem specOdd_in (hR:R<=1000) (hC:C<=1000) (hk:0<=k) (hkR:k<R) (hkC:k<C) (hp:A k k≠0) (hi:k<i) (hiR:i<R) {pC}:∀ (n g:Nat) (j:Int),C - j=n->n<g->k<j ->
  ((∃ b:Int,j<=b/\b<C/\Int.tmod (A i b) (A k k)≠0)/\bT.pl213 F pC g R C (mk R C A) k i j=some i) \/
  ((∀ b:Int,j<=b->b<C->Int.tmod (A i b) (A k k)=0)/\bT.pl213 F pC g R C (mk R C A) k i j=pC R C (mk R C A) k (i+1)):=by
 intro n
 induction n with
 | zero=>
  intro g j hn hg hj
  obtain ⟨g,rfl⟩:∃ g',g=g'+1:=⟨g - 1,by omega⟩
  rw [bT.pl213,show decide (j<(C:Int))=false from decide_eq_false (by omega),cond_false]
  unfold bT.pj4 bT.pj3
  rw [bX (by omega) (by omega)]
  exact .inr ⟨λb h1 h2=>by omega,rfl⟩
 | succ n ih=>
  intro g j hn hg hj
  obtain ⟨g,rfl⟩:∃ g',g=g'+1:=⟨g - 1,by omega⟩
  rw [bT.pl213,show decide (j<(C:Int))=true from decide_eq_true (by omega),cond_true]
  simp (disch:=omega) only [at_mk,Option.bind_some]
  rw [if_neg hp]
  by_cases h:Int.tmod (A i j) (A k k)=0
  ·rw [h,show ((0:Int) != 0)=false from rfl,cond_false,bX (by omega) (by omega)]
   rcases ih g (j+1) (by omega) (by omega) (by omega) with ⟨⟨b,h1,h2,h3⟩,e⟩ | ⟨h1,e⟩
   ·exact .inl ⟨⟨b,by omega,h2,h3⟩,e⟩
   ·refine .inr ⟨λb h3 h4=>?_,e⟩
    by_cases e:b=j
    ·subst e;exact h
    ·exact h1 b (by omega) h4
  ·rw [show (Int.tmod (A i j) (A k k) != 0)=true from bne_iff_ne.2 h,cond_true]
   exact .inl ⟨⟨j,by omega,by omega,h⟩,rfl⟩
theorem odd_l (hR:R<=1000) (hC:C<=1000) (hF:5000000<F) (hk:0<=k) (hkR:k<R) (hkC:k<C) (hp:A k k≠0):∀ (n g h:Nat) (i:Int),R - i=n->n<g->n<h->k<i ->
  ∃ r:Int,dW.pl29 F g k R C (mk R C A) i=some r/\bT.pl13 F h R C (mk R C A) k i=some r/\(r=-1\/(k<r/\r<R/\∃ b:Int,k<b/\b<C/\Int.tmod (A r b) (A k k)≠0)):=by
 intro n
 induction n with
 | zero=>
  intro g h i hn hg hh hi
  obtain ⟨g,rfl⟩:∃ g',g=g'+1:=⟨g - 1,by omega⟩
  obtain ⟨h,rfl⟩:∃ g',h=g'+1:=⟨h - 1,by omega⟩
  rw [dW.pl29,bT.pl13,show decide (i<(R:Int))=false from decide_eq_false (by omega),cond_false,cond_false]
  exact ⟨-1,rfl,rfl,.inl rfl⟩
 | succ n ih=>
  intro g h i hn hg hh hi
  obtain ⟨g,rfl⟩:∃ g',g=g'+1:=⟨g - 1,by omega⟩
  obtain ⟨h,rfl⟩:∃ g',h=g'+1:=⟨h - 1,by omega⟩
  rw [dW.pl29,bT.pl13,show decide (i<(R:Int))=true from decide_eq_true (by omega),cond_true,cond_true]
  obtain ⟨x,ex,xl,xg⟩:=cutf_row (F:=F) (A:=A) (k:=i) hR hC (by omega) (by omega)
  rw [ex,Option.bind_some,bX (x:=k+1) (by omega) (by omega)]
  obtain ⟨y,ey,yl,yg⟩:=cutf_end (x:=x) (k:=k+1) (by omega) (by omega)
  rw [ey,Option.bind_some]
  unfold jF.p fa.p
  obtain ⟨r,er,hr⟩:=idx_156 (F:=F) (y:=y) hR hC hk hkR hkC hp (by omega) y.length F 0 (by omega) (by omega) (by omega)
  rw [er,Option.bind_some,Option.bind_some]
  have yv:∀ a:Int,0<=a->a<y.length->gt y a.toNat=A i (k+1+a):=by
   intro a h1 h2
   rw [yg,xg _ (by omega),show (((k+1).toNat+a.toNat:Nat):Int)=k+1+a by omega]
  rcases specOdd_in (F:=F) (pC:=bT.pl13 F h) hR hC hk hkR hkC hp hi (by omega) (C - (k+1)).toNat F (k+1) (by omega) (by omega) (by omega) with ⟨⟨b,h1,h2,h3⟩,e⟩ | ⟨h1,e⟩
  ·have:r>=0:=hr.2 ⟨b - (k+1),by omega,by omega,by rw [yv _ (by omega) (by omega),show k+1+(b - (k+1))=b by omega];exact h3⟩
   rw [decide_eq_true this,cond_true,e]
   exact ⟨i,rfl,rfl,.inr ⟨hi,by omega,b,by omega,h2,h3⟩⟩
  ·have:¬ r>=0:=by
    rw [hr]
    rintro ⟨a,h2,h3,h4⟩
    rw [yv a h2 h3] at h4
    exact h4 (h1 _ (by omega) (by omega))
   rw [decide_eq_false this,cond_false,e,bX (by omega) (by omega)]
   exact ih g h (i+1) (by omega) (by omega) (by omega) (by omega)
theorem odd_both (hR:R<=1000) (hC:C<=1000) (hF:5000000<F) (hk:0<=k) (hkR:k<R) (hkC:k<C) (hp:A k k≠0) :
  ∃ r:Int,dW.p F R C (mk R C A) k=some r/\bT.p F R C (mk R C A) k=some r/\(r=-1\/(k<r/\r<R/\∃ b:Int,k<b/\b<C/\Int.tmod (A r b) (A k k)≠0)):=by
 unfold dW.p bT.p
 rw [bX (by omega) (by omega)]
 exact odd_l hR hC hF hk hkR hkC hp (R - (k+1)).toNat F F (k+1) (by omega) (by omega) (by omega) (by omega)
end Go.Proofs.YtppbogklbhfboaaGreat.AE.SS
end
section
namespace Go.Proofs.YtppbogklbhfboaaGreat.AE.SS
open Go Go.AE Go.Proofs
variable {R C F:Nat} {A:Mat} {i j k:Int}
abbrev ir (F g R C:Nat) (u:St) (bad:Bool) (k:Int):=bR.pl3 F g R (mk R R u.l) R R (mk R R u.m) R C (mk R C u.d) C C (mk C C u.r) C (mk C C u.s) bad k
abbrev sr (F R C:Nat) (u:St) (k:Int):=bF.p F R C (mk R C u.d) R (mk R R u.l) R R (mk R R u.m) C C (mk C C u.r) C (mk C C u.s) false k
theorem ir_bad {g:Nat} {l m d r s:List Int} {c1 c3 c4 c6 c7 c9 c10 c13 k:Int}:bR.pl3 F (g+1) c1 l c3 c4 m c6 c7 d c9 c10 r c13 s true k=some (l,m,d,r,s,true):=by
 rw [bR.pl3];rfl
def Ust (R C:Nat) (k:Int) (u:St) (P:Int):Prop:=u.d k k=P/\(∀ a:Int,k<a->a<R->u.d a k=0)/\∃ b:Int,k<b/\b<C/\Int.tmod (u.d k b) P≠0
def HasLt (R C:Nat) (k:Int) (u:St) (P:Int):Prop:=∃ a b:Int,k<=a/\a<R/\k<=b/\b<C/\u.d a b≠0/\ab (u.d a b)<P
def Same (k:Int) (u v:St):Prop:=∀ a:Int,0<=a->a<k->v.d a a=u.d a a
theorem pv_same {u:St} {p q k:Int} (hp:k<=p) (hq:k<=q):Same k u (pvS u p q k):=by
 intro a _ h2
 have e:(swS u p q k).d a a=u.d a a:=by
  show swC (swR u.d p k) q k a a=_
  unfold swC swR sw
  rw [if_neg (by omega),if_neg (by omega),if_neg (by omega),if_neg (by omega)]
 unfold pvS
 split
 ·show (ngS (swS u p q k) k).d a a=_
  rw [<- e]
  unfold ngS
  simp only
  first | rw [ngR_ne (by omega)] | (unfold ngR;rw [if_neg (by omega)])
 ·exact e
theorem round_both (hR:R<=1000) (hC:C<=1000) (hF:5000000<F) (hk:0<=k) (hkR:k<R) (hkC:k<C) {u:St} (hu:u.good R C) (g:Nat) :
  ((∀ a b,k<=a->a<R->k<=b->b<C->u.d a b=0)/\ir F (g+1) R C u false k=some (mk R R u.l,mk R R u.m,mk R C u.d,mk C C u.r,mk C C u.s,false)/\sr F R C u k=some (true,true,mk R C u.d,mk R R u.l,mk R R u.m,mk C C u.r,mk C C u.s,false)) \/
  ∃ p q,SI k C u.d R k (some (p,q)) /\
   (((∃ l m d r s,ir F (g+2) R C u false k=some (l,m,d,r,s,true))/\(∃ l m d r s,sr F R C u k=some (false,false,d,l,m,r,s,true))) \/
   (∃ v:St,v.good R C/\ir F (g+1) R C u false k=ir F g R C v false k/\sr F R C u k=some (false,false,mk R C v.d,mk R R v.l,mk R R v.m,mk C C v.r,mk C C v.s,false) /\
    Same k u v/\(HasLt R C k v (ab (u.d p q))\/(Ust R C k v (ab (u.d p q))/\∀ b:Int,k<b->b<C->(pvS u p q k).d k b % ab (u.d p q)=0))) \/
   (∃ v:St,v.good R C/\ir F (g+1) R C u false k=ir F g R C v false (k+1)/\sr F R C u k=some (true,false,mk R C v.d,mk R R v.l,mk R R v.m,mk C C v.r,mk C C v.s,false)/\0<v.d k k/\Same k u v)):=by
 unfold ir sr bF.p
 have hmin:k<(if (C:Int)<R then (C:Int) else R):=by split <;> omega
 rcases pivot_both hR hC hF hu hk hkR hkC with ⟨h0,e1,e2⟩ | ⟨p,q,hs,w,hw,hwg,hwk,e1,e2⟩
 ·left
  refine ⟨h0,?_,?_⟩
  ·rw [bR.pl3,decide_eq_true hmin]
   simp only [Bool.not_false,cond_true]
   rw [e2,Option.bind_some]
   rfl
  ·rw [e1,Option.bind_some]
   rfl
 ·right
  refine ⟨p,q,hs,?_⟩
  have hP:0<ab (u.d p q):=ab_pos.2 hs.2.1
  rw [e1,Option.bind_some]
  simp only [Bool.not_true,cond_false]
  have hI:∀ g,bR.pl3 F (g+1) R (mk R R u.l) R R (mk R R u.m) R C (mk R C u.d) C C (mk C C u.r) C (mk C C u.s) false k =
    (bh.p F R (mk R R w.l) R R (mk R R w.m) R C (mk R C w.d) C C (mk C C w.r) C (mk C C w.s) false k).bind λr3=>(bif r3.1 then (bR.pj4 F (bR.pl3 F g) R r3.2.1 R R r3.2.2.1 R C r3.2.2.2.1 C C r3.2.2.2.2.1 C r3.2.2.2.2.2 r3.1 k) else ((dw.p F R C r3.2.2.2.1 k).bind λr7=>(bif (!r7) then (bR.pj4 F (bR.pl3 F g) R r3.2.1 R R r3.2.2.1 R C r3.2.2.2.1 C C r3.2.2.2.2.1 C r3.2.2.2.2.2 r3.1 k) else ((dW.p F R C r3.2.2.2.1 k).bind λr12=>(bif (decide (r12>=0)) then ((fV.p F R r3.2.1 R R r3.2.2.1 C r3.2.2.2.1 r3.1 k r12 1).bind λr16=>bR.pj6 F (bR.pl3 F g) R r16.1 R R r16.2.1 R C r16.2.2.1 C C r3.2.2.2.2.1 C r3.2.2.2.2.2 r16.2.2.2 k) else (bR.pj6 F (bR.pl3 F g) R r3.2.1 R R r3.2.2.1 R C r3.2.2.2.1 C C r3.2.2.2.2.1 C r3.2.2.2.2.2 r3.1 (IntKind.i64.wrap (k+1)))))))):=by
   intro g
   rw [bR.pl3,decide_eq_true hmin]
   simp only [Bool.not_false,cond_true]
   rw [e2,Option.bind_some]
   rfl
  have hpv:Same k u w:=by rw [hw];exact pv_same hs.1.1 hs.1.2.1
  rcases clr_both hR hC hF hk hkR hkC hP hwg hwk with ⟨v,hv,hv0,hvk,hva,hvb,c1,c2⟩ | ⟨⟨l,m,d,r,s,c1⟩,⟨l',m',d',r',s',c2⟩⟩
  ·have c2:bF.pl29 F F R C (mk R C w.d) R (mk R R w.l) R R (mk R R w.m) C C (mk C C w.r) C (mk C C w.s) false k (IntKind.i64.wrap (k+1))=_:=c2
   rw [c2]
   simp only [c1,Option.bind_some,cond_false] at hI
   obtain ⟨b,d1,d2,hb⟩:=clear_both (F:=F) (A:=v.d) hR hC hF hk hkR hkC
   unfold s1 bF.pj1
   simp only [cond_false]
   rw [d2,Option.bind_some]
   simp only [d1,Option.bind_some] at hI
   cases b with
   | false=>
    right;left
    refine ⟨v,hv,hI g,rfl,λa h1 h2=>(hv0 a a h2 h2).trans (hpv a h1 h2),.inl ?_⟩
    have hn:¬ ((∀ a:Int,k<a->a<R->v.d a k=0)/\(∀ a:Int,k<a->a<C->v.d k a=0)):=λh=>by have:=hb.2 h;cases this
    rcases Classical.not_and_iff_not_or_not.1 hn with h | h
    ·obtain ⟨a,h⟩:=Classical.not_forall.1 h
     have h:=not_imp.1 h
     obtain ⟨h1,h⟩:=h
     obtain ⟨h2,h3⟩:=not_imp.1 h
     refine ⟨a,k,by omega,h2,by omega,hkC,h3,?_⟩
     have:=hva a h1 h2
     have g1:=Int.emod_nonneg (w.d a k) (Int.ne_of_gt hP)
     have g2:=Int.emod_lt_of_pos (w.d a k) hP
     unfold ab at *
     rw [if_neg (by omega)];omega
    ·obtain ⟨a,h⟩:=Classical.not_forall.1 h
     have h:=not_imp.1 h
     obtain ⟨h1,h⟩:=h
     obtain ⟨h2,h3⟩:=not_imp.1 h
     refine ⟨k,a,by omega,hkR,by omega,h2,h3,?_⟩
     have:=hvb a h1 h2
     have g1:=Int.emod_nonneg (w.d k a) (Int.ne_of_gt hP)
     have g2:=Int.emod_lt_of_pos (w.d k a) hP
     unfold ab at *
     rw [if_neg (by omega)];omega
   | true=>
    obtain ⟨z1,z2⟩:=hb.1 rfl
    obtain ⟨r,f1,f2,hr⟩:=odd_both (F:=F) (A:=v.d) hR hC hF hk hkR hkC (by rw [hvk];omega)
    simp only [Bool.not_true,cond_false]
    rw [f2,Option.bind_some]
    simp only [Bool.not_true,cond_false,f1,Option.bind_some] at hI
    rcases hr with rfl | ⟨r1,r2,b,r3,r4,r5⟩
    ·right;right
     refine ⟨v,hv,?_,rfl,by rw [hvk];exact hP,λa h1 h2=>(hv0 a a h2 h2).trans (hpv a h1 h2)⟩
     rw [hI g,show decide ((-1:Int)>=0)=false from rfl,cond_false,bX (by omega) (by omega)]
     rfl
    ·rw [decide_eq_false (show ¬ r<0 by omega),cond_false]
     simp only [decide_eq_true (show r>=0 by omega),cond_true] at hI
     obtain ⟨bad',t1,⟨x,y,z,t2,t3⟩,t4⟩:=row_both (q:=-1) hR hC hF hv hk hkR (by omega:0<=r) r2 (by omega) (by decide) (by decide)
     rw [show (- -1:Int)=1 from rfl] at *
     rw [t2,Option.bind_some]
     simp only [t1,Option.bind_some] at hI
     cases bad' with
     | true=>
      left
      refine ⟨?_,⟨_,_,_,_,_,rfl⟩⟩
      rw [hI (g+1)]
      unfold bR.pj6 bR.pj5
      exact ⟨_,_,_,_,_,ir_bad⟩
     | false=>
      obtain ⟨rfl,rfl,rfl⟩:=t3 rfl
      have t4:=t4 rfl
      right;left
      refine ⟨rowS v k r 1,rowS_good hv _ _ _,hI g,rfl,?_,.inr ⟨⟨?_,?_,?_⟩,?_⟩⟩
      all_goals
       have key:∀ b:Int,0<=b->b<C->(rowS v k r 1).d k b=v.d k b+v.d r b * 1:=by
        intro b h1 h2
        show adR v.d k r 1 k b=_
        unfold adR
        rw [if_pos rfl]
        apply ad_fit
        exact Classical.byContradiction λhh=>t4 ⟨b,h1,h2,hh⟩
       have oth:∀ a b,a≠k->(rowS v k r 1).d a b=v.d a b:=by
        intro a b h1
        show adR v.d k r 1 a b=_
        unfold adR
        rw [if_neg h1]
      ·exact λa h1 h2=>(oth a a (by omega)).trans ((hv0 a a h2 h2).trans (hpv a h1 h2))
      ·rw [key k hk hkC,hvk,z1 r r1 r2];omega
      ·intro a h1 h2
       rw [oth a k (by omega)]
       exact z1 a h1 h2
      ·refine ⟨b,r3,r4,?_⟩
       rw [key b (by omega) r4,z2 b r3 r4,<-hvk]
       rw [show 0+v.d r b * 1=v.d r b by omega]
       exact r5
      ·intro b h1 h2
       rw [<- hw,<-hvb b h1 h2]
       exact z2 b h1 h2
  ·left
   have c2:bF.pl29 F F R C (mk R C w.d) R (mk R R w.l) R R (mk R R w.m) C C (mk C C w.r) C (mk C C w.s) false k (IntKind.i64.wrap (k+1))=_:=c2
   rw [c2,hI (g+1),c1,Option.bind_some]
   unfold bR.pj4
   simp only [cond_true]
   exact ⟨⟨_,_,_,_,_,ir_bad⟩,⟨_,_,_,_,_,rfl⟩⟩
end Go.Proofs.YtppbogklbhfboaaGreat.AE.SS
end
section
namespace Go.Proofs.YtppbogklbhfboaaGreat.AE.SS
open Go Go.AE Go.Proofs
variable {R C F:Nat} {A:Mat} {i j k:Int}
abbrev sd (F:Nat) pC (g R C:Nat) (u:St) (k:Int):=bJ.pl938 F pC g R C R C (mk R C u.d) R R (mk R R u.l) R R (mk R R u.m) C C (mk C C u.r) C C (mk C C u.s) false k false false
abbrev sO (F g R C:Nat) (u:St) (k:Int):=bJ.pl29 F g R C R C (mk R C u.d) R R (mk R R u.l) R R (mk R R u.m) C C (mk C C u.r) C C (mk C C u.s) false k
def RBad (x:Option (List Int×List Int×List Int×List Int×List Int×Bool)):Prop:=∃ l m d r s,x=some (l,m,d,r,s,true)
def SBad (x:Option (Int×Int×List Int×Int×Int×List Int×Int×Int×List Int×Int×Int×List Int×Int×Int×List Int×Bool)):Prop:=∃ a1 a2 d a3 a4 l a5 a6 m a7 a8 r a9 a10 s,x=some (a1,a2,d,a3,a4,l,a5,a6,m,a7,a8,r,a9,a10,s,true)
theorem sd_bad {pC} {g:Nat} {l m d r s:List Int} {c1 c2 a1 a2 a3 a4 a5 a6 a7 a8 a9 a10 k:Int}:SBad (bJ.pl938 F pC (g+1) c1 c2 a1 a2 d a3 a4 l a5 a6 m a7 a8 r a9 a10 s true k false false):=by
 rw [bJ.pl938]
 exact ⟨_,_,_,_,_,_,_,_,_,_,_,_,_,_,_,rfl⟩
theorem inner_both (hR:R<=1000) (hC:C<=1000) (hF:5000000<F) (hk:0<=k) (hkR:k<R) (hkC:k<C) {pC}:∀ (m:Nat) (u:St) (g h:Nat),u.good R C->HasLt R C k u (m+1)->2 * m+3<=g->2 * m+3<=h ->
  (RBad (ir F g R C u false k)/\SBad (sd F pC h R C u k)) \/
  (∃ v:St,v.good R C/\0<v.d k k/\Same k u v/\∃ g',g<=g'+(2 * m+2)/\ir F g R C u false k=ir F g' R C v false (k+1)/\sd F pC h R C u k=pC R C R C (mk R C v.d) R R (mk R R v.l) R R (mk R R v.m) C C (mk C C v.r) C C (mk C C v.s) false (k+1)):=by
 intro m
 induction m using Nat.strongRecOn with
 | _ m ih=>
 intro u g h hu hlt hg hh
 have stepS:∀ (u:St) (h:Nat),sd F pC (h+1) R C u k=(sr F R C u k).bind λr2=>bJ.pl938 F pC h R C R C r2.2.2.1 R R r2.2.2.2.1 R R r2.2.2.2.2.1 C C r2.2.2.2.2.2.1 C C r2.2.2.2.2.2.2.1 r2.2.2.2.2.2.2.2 k r2.1 r2.2.1:=by
  intro u h
  unfold sd
  rw [bJ.pl938]
  rfl
 have done:∀ (v:St) (h:Nat),bJ.pl938 F pC (h+1) R C R C (mk R C v.d) R R (mk R R v.l) R R (mk R R v.m) C C (mk C C v.r) C C (mk C C v.s) false k true false=pC R C R C (mk R C v.d) R R (mk R R v.l) R R (mk R R v.m) C C (mk C C v.r) C C (mk C C v.s) false (k+1):=by
  intro v h
  rw [bJ.pl938]
  unfold bJ.pj4 bJ.pj3
  simp only [Bool.not_true,cond_false]
  rw [bX (by omega) (by omega)]
 obtain ⟨g,rfl⟩:∃ g',g=g'+3:=⟨g - 3,by omega⟩
 obtain ⟨h,rfl⟩:∃ g',h=g'+3:=⟨h - 3,by omega⟩
 rcases round_both hR hC hF hk hkR hkC hu (g+2) with ⟨h0,_,_⟩ | ⟨p,q,hs,hcase⟩
 ·obtain ⟨a,b,h1,h2,h3,h4,h5,_⟩:=hlt
  exact absurd (h0 a b h1 h2 h3 h4) h5
 ·have hP:0<ab (u.d p q):=ab_pos.2 hs.2.1
  have hPm:ab (u.d p q)<m+1:=by
   obtain ⟨a,b,h1,h2,h3,h4,h5,h6⟩:=hlt
   have:=(hs.2.2 a b ⟨h1,h3,h4,.inl h2⟩ h5).1
   omega
  generalize ab (u.d p q)=P at hP hPm hcase
  have rec_:∀ (v:St) (g h:Nat),v.good R C->HasLt R C k v P->2 * m+1<=g->2 * m+1<=h ->
    (RBad (ir F g R C v false k)/\SBad (sd F pC h R C v k)) \/
    (∃ w:St,w.good R C/\0<w.d k k/\Same k v w/\∃ g',g<=g'+2 * m/\ir F g R C v false k=ir F g' R C w false (k+1)/\sd F pC h R C v k=pC R C R C (mk R C w.d) R R (mk R R w.l) R R (mk R R w.m) C C (mk C C w.r) C C (mk C C w.s) false (k+1)):=by
   intro v g h hv hl hg hh
   rcases ih (P.toNat - 1) (by omega) v g h hv (by rw [show (((P.toNat - 1:Nat):Int)+1)=P by omega];exact hl) (by omega) (by omega) with hb | ⟨w,hw,hw0,hw1,g',h1,h2,h3⟩
   ·exact .inl hb
   ·exact .inr ⟨w,hw,hw0,hw1,g',by omega,h2,h3⟩
  rcases hcase with ⟨⟨l,m',d,r,s,e1⟩,⟨l',m'',d',r',s',e2⟩⟩ | ⟨v,hv,e1,e2,hsm,hprog⟩ | ⟨v,hv,e1,e2,hpos,hsm⟩
  ·left
   refine ⟨?_,?_⟩
   ·rcases round_both hR hC hF hk hkR hkC hu (g+1) with ⟨h0,_,_⟩ | ⟨p1,q1,hs1,hcase⟩
    ·obtain ⟨a,b,h1,h2,h3,h4,h5,_⟩:=hlt
     exact absurd (h0 a b h1 h2 h3 h4) h5
    ·rcases hcase with ⟨⟨l,m',d,r,s,e1⟩,_⟩ | ⟨v,hv,_,e3,_⟩ | ⟨v,hv,_,e3,_⟩
     ·exact ⟨_,_,_,_,_,e1⟩
     ·rw [e2] at e3;simp at e3
     ·rw [e2] at e3;simp at e3
   ·rw [stepS,e2,Option.bind_some]
    exact sd_bad
  ·rw [e1,stepS,e2,Option.bind_some]
   rcases hprog with hl | ⟨⟨k1,k2,b,k3,k4,k5⟩,_⟩
   ·rcases rec_ v (g+2) (h+2) hv hl (by omega) (by omega) with hb | ⟨w,hw,hw0,hw1,g',h1,h2,h3⟩
    ·exact .inl hb
    ·exact .inr ⟨w,hw,hw0,λa h1 h2=>(hw1 a h1 h2).trans (hsm a h1 h2),g',by omega,h2,h3⟩
   ·by_cases hl:HasLt R C k v P
    ·rcases rec_ v (g+2) (h+2) hv hl (by omega) (by omega) with hb | ⟨w,hw,hw0,hw1,g',h1,h2,h3⟩
     ·exact .inl hb
     ·exact .inr ⟨w,hw,hw0,λa h1 h2=>(hw1 a h1 h2).trans (hsm a h1 h2),g',by omega,h2,h3⟩
    ·have hkk:v.d k k≠0:=by omega
     have abP:ab P=P:=by unfold ab;rw [if_neg (by omega)]
     rcases round_both hR hC hF hk hkR hkC hv (g+1) with ⟨h0,_,_⟩ | ⟨p1,q1,hs1,hcase⟩
     ·exact absurd (h0 k k (by omega) hkR (by omega) hkC) hkk
     ·obtain ⟨s1,s2,s3⟩:=hs1
      obtain ⟨t1,t2,t3,t4⟩:=s1
      have hkk3:=s3 k k ⟨by omega,by omega,hkC,.inl hkR⟩ hkk
      have hge:¬ ab (v.d p1 q1)<P:=λhh=>hl ⟨p1,q1,t1,by omega,t2,t3,s2,hh⟩
      have hpq:p1=k/\q1=k:=by
       refine Classical.byContradiction λhne=>?_
       have:=hkk3.2 (by omega)
       rw [k1,abP] at this
       exact hge this
      obtain ⟨hp1,hq1⟩:=hpq
      rw [hp1,hq1] at hcase
      have hPP:ab (v.d k k)=P:=by rw [k1,abP]
      rw [hPP] at hcase
      have hpv:pvS v k k k=swS v k k k:=by
       unfold pvS
       rw [if_neg]
       show ¬ swC (swR v.d k k) k k k k<0
       unfold swC swR sw
       simp only [if_true]
       omega
      rcases hcase with ⟨⟨l,m',d,r,s,f1⟩,⟨l',m'',d',r',s',f2⟩⟩ | ⟨w,hw,f1,f2,hsm2,hprog⟩ | ⟨w,hw,f1,f2,hpos2,hsm2⟩
      ·left
       refine ⟨?_,?_⟩
       ·rcases round_both hR hC hF hk hkR hkC hv g with ⟨h0,_,_⟩ | ⟨p2,q2,hs1,hcase⟩
        ·exact absurd (h0 _ _ (by omega) hkR (by omega) hkC) hkk
        ·rcases hcase with ⟨⟨l,m',d,r,s,e1⟩,_⟩ | ⟨v,hv,_,e3,_⟩ | ⟨v,hv,_,e3,_⟩
         ·exact ⟨_,_,_,_,_,e1⟩
         ·rw [f2] at e3;simp at e3
         ·rw [f2] at e3;simp at e3
       ·show SBad (sd F pC (h+1+1) R C v k)
        rw [stepS,f2,Option.bind_some]
        exact sd_bad
      ·rcases hprog with hl2 | ⟨_,hz⟩
       ·have hx:sd F pC (h+2) R C v k=sd F pC (h+1) R C w k:=by
         show sd F pC (h+1+1) R C v k=_
         rw [stepS,f2,Option.bind_some]
        rcases rec_ w (g+1) (h+1) hw hl2 (by omega) (by omega) with hb | ⟨x,hx',hx0,hx1,g',h1,h2,h3⟩
        ·left
         refine ⟨?_,?_⟩
         ·show RBad (ir F (g+1+1) R C v false k)
          rw [f1];exact hb.1
         ·show SBad (sd F pC (h+2) R C v k)
          rw [hx];exact hb.2
        ·right
         refine ⟨x,hx',hx0,λa h1 h2=>(hx1 a h1 h2).trans ((hsm2 a h1 h2).trans (hsm a h1 h2)),g',by omega,?_,?_⟩
         ·exact f1.trans h2
         ·exact hx.trans h3
       ·exfalso
        have:=hz b k3 k4
        rw [hpv] at this
        have e:(swS v k k k).d k b=v.d k b:=by
         show swC (swR v.d k k) k k k b=_
         unfold swC swR sw
         grind
        rw [e] at this
        exact k5 (Int.tmod_eq_zero_of_dvd (Int.dvd_of_emod_eq_zero this))
      ·right
       refine ⟨w,hw,hpos2,λa h1 h2=>(hsm2 a h1 h2).trans (hsm a h1 h2),g+1,by omega,f1,?_⟩
       show sd F pC (h+1+1) R C v k=_
       rw [stepS,f2,Option.bind_some]
       exact done w h
  ·right
   refine ⟨v,hv,hpos,hsm,g+2,by omega,e1,?_⟩
   rw [stepS,e2,Option.bind_some]
   exact done v (h+1)
theorem run_both (hR:R<=1000) (hC:C<=1000) (hF:2000000000100<=F):∀ (n:Nat) (k:Int) (u:St) (g h:Nat),u.good R C->0<=k->(if (C:Int)<R then (C:Int) else R) - k=n->n * 2000000000100+1<=g->n+1<=h ->
  (RBad (ir F g R C u false k)/\SBad (sO F h R C u k)) \/
  (∃ v:St,v.good R C/\Same k u v/\(∀ a:Int,k<=a->a<R->a<C->0<=v.d a a)/\ir F g R C u false k=some (mk R R v.l,mk R R v.m,mk R C v.d,mk C C v.r,mk C C v.s,false) /\
   sO F h R C u k=some ((R:Int),(C:Int),mk R C v.d,(R:Int),(R:Int),mk R R v.l,(R:Int),(R:Int),mk R R v.m,(C:Int),(C:Int),mk C C v.r,(C:Int),(C:Int),mk C C v.s,false)):=by
 intro n
 induction n with
 | zero=>
  intro k u g h hu hk hn hg hh
  obtain ⟨g,rfl⟩:∃ g',g=g'+1:=⟨g - 1,by omega⟩
  obtain ⟨h,rfl⟩:∃ g',h=g'+1:=⟨h - 1,by omega⟩
  right
  refine ⟨u,hu,λ_ _ _=>rfl,λa h1 h2 h3=>by split at hn <;> omega,?_,?_⟩
  ·unfold ir
   rw [bR.pl3,decide_eq_false (by omega)]
   rfl
  ·unfold sO
   rw [bJ.pl29,decide_eq_false (by omega)]
   rfl
 | succ n ih=>
  intro k u g h hu hk hn hg hh
  obtain ⟨g,rfl⟩:∃ g',g=g'+1:=⟨g - 1,by omega⟩
  obtain ⟨h,rfl⟩:∃ g',h=g'+1:=⟨h - 1,by omega⟩
  have hkC:k<C:=by split at hn <;> omega
  have hkR:k<R:=by split at hn <;> omega
  have hS:sO F (h+1) R C u k=sd F (bJ.pl29 F h) F R C u k:=by
   unfold sO sd
   rw [bJ.pl29,decide_eq_true (by omega),cond_true]
  rw [hS]
  by_cases hz:∀ a b,k<=a->a<R->k<=b->b<C->u.d a b=0
  ·rcases round_both (F:=F) hR hC (by omega) hk hkR hkC hu g with ⟨h0,e1,e2⟩ | ⟨p1,q1,⟨⟨t1,t2,t3,t4⟩,s2,s3⟩,hcase⟩
   ·right
    refine ⟨u,hu,λ_ _ _=>rfl,λa h1 h2 h3=>by rw [hz a a h1 h2 h1 h3];omega,e1,?_⟩
    obtain ⟨f,rfl⟩:∃ g',F=g'+2:=⟨F - 2,by omega⟩
    unfold sd
    rw [bJ.pl938]
    simp only [Bool.not_false,cond_true]
    have e2:bF.p (f+2) R C (mk R C u.d) R (mk R R u.l) R R (mk R R u.m) C C (mk C C u.r) C (mk C C u.s) false k=_:=e2
    rw [e2,Option.bind_some]
    rw [bJ.pl938]
    rfl
   ·exact absurd (hz p1 q1 t1 (by omega) t2 t3) s2
  ·obtain ⟨M,hM⟩:∃ M:Nat,M=1000000000000:=⟨_,rfl⟩
   have hl:HasLt R C k u ((M:Int)+1):=by
    refine Classical.byContradiction λhne=>hz λa b h1 h2 h3 h4=>?_
    refine Classical.byContradiction λh5=>hne ⟨a,b,h1,h2,h3,h4,h5,?_⟩
    have:=hu.1.ab (i:=a) (j:=b) (by omega) h2 (by omega) h4
    omega
   rcases inner_both (F:=F) (pC:=bJ.pl29 F h) hR hC (by omega) hk hkR hkC M u (g+1) F hu hl (by omega) (by omega) with ⟨hb1,hb2⟩ | ⟨v,hv,hv0,hv1,g',h1,h2,h3⟩
   ·exact .inl ⟨hb1,hb2⟩
   ·rw [h2,h3]
    have q1:n * 2000000000100+1<=g':=by
     rw [Nat.succ_mul] at hg
     generalize n * 2000000000100=N at *
     omega
    have q2:(if (C:Int)<R then (C:Int) else R) - (k+1)=n:=by omega
    have q3:n+1<=h:=by omega
    rcases ih (k+1) v g' h hv (by omega) q2 q1 q3 with hb | ⟨w,hw,hw1,hw2,e⟩
    ·exact .inl hb
    ·refine .inr ⟨w,hw,λa h1 h2=>(hw1 a h1 (by omega)).trans (hv1 a h1 h2),λa h1 h2 h3=>?_,e⟩
     by_cases ea:a=k
     ·subst ea;rw [hw1 a hk (by omega)];omega
     ·exact hw2 a (by omega) h2 h3
end Go.Proofs.YtppbogklbhfboaaGreat.AE.SS
end
section
namespace Go.Proofs.YtppbogklbhfboaaGreat.AE.SS
open Go Go.AE Go.Proofs
variable {R C F:Nat} {A:Mat} {i j k:Int}
theorem gt_set_eq {l:List Int} {n:Nat} {x:Int} (h:n<l.length):gt (l.set n x) n=x:=by
 unfold gt;rw [List.getD_eq_getElem?_getD,List.getElem?_set_self h];rfl
theorem gt_set_ne {l:List Int} {n m:Nat} {x:Int} (h:n≠m):gt (l.set n x) m=gt l m:=by
 unfold gt;rw [List.getD_eq_getElem?_getD,List.getD_eq_getElem?_getD,List.getElem?_set_ne h]
theorem ix_of {l:List Int} (h0:0<=i) (h:i<l.length):ix l i=some i.toNat:=by
 unfold ix;rw [if_pos ⟨h0,h⟩]
def InR (x a b:Int):Prop:=a<=x/\x<=b
instance (x a b:Int):Decidable (InR x a b):=by unfold InR;infer_instance
theorem BR {x a b:Int}:fX.p F x a b=some (decide (InR x a b)):=by
 unfold fX.p InR
 by_cases h:x>=a
 ·rw [decide_eq_true h,cond_true];congr 1;simp only [ge_iff_le] at h;simp [h]
 ·rw [decide_eq_false h,cond_false];congr 1;simp only [ge_iff_le] at h;simp [h]
theorem tF {x a b:Int}:gq.p F x a b=some (decide (InR x a b)):=by
 unfold gq.p InR
 by_cases h:a<=x
 ·rw [decide_eq_true h,cond_true];congr 1;simp [h]
 ·rw [decide_eq_false h,cond_false];congr 1;simp [h]
end Go.Proofs.YtppbogklbhfboaaGreat.AE.SS
end
section
namespace Go.Proofs.YtppbogklbhfboaaGreat.AE.SS
open Go Go.AE Go.Proofs
variable {R C F:Nat} {A:Mat} {i j k:Int}
theorem eqInt_l {l:List Int} (hl:l.length<=2000000):∀ (n g:Nat) (i:Int),l.length - i=n->n<g->0<=i->fe.pl29 F g l l i=some true:=by
 intro n
 induction n with
 | zero=>
  intro g i hn hg hi
  obtain ⟨g,rfl⟩:∃ g',g=g'+1:=⟨g - 1,by omega⟩
  rw [fe.pl29,decide_eq_false (by omega),cond_false]
 | succ n ih=>
  intro g i hn hg hi
  obtain ⟨g,rfl⟩:∃ g',g=g'+1:=⟨g - 1,by omega⟩
  rw [fe.pl29,decide_eq_true (by omega),cond_true,ix_of hi (by omega),Option.bind_some,Option.bind_some,bne_self_eq_false,cond_false,bX (by omega) (by omega)]
  exact ih g (i+1) (by omega) (by omega) (by omega)
theorem eqInt {l:List Int} (hF:5000000<F) (hl:l.length<=2000000):fe.p F l l=some true:=by
 unfold fe.p
 rw [bne_self_eq_false,cond_false]
 exact eqInt_l hl l.length F 0 (by omega) (by omega) (by omega)
end Go.Proofs.YtppbogklbhfboaaGreat.AE.SS
end
section
namespace Go.Proofs.YtppbogklbhfboaaGreat.AE.SS
open Go Go.AE Go.Proofs
variable {R C F:Nat} {A:Mat} {i j k:Int}
def okL (l:List Int) (i:Int):Prop:=∀ a:Nat,i<=a->a<l.length->InR (gt l a) (-1000000000000) 1000000000000
theorem specM_l {l:List Int} (hl:l.length<=2000000):∀ (n g:Nat) (i:Int),l.length - i=n->n<g->0<=i->∃ b,eS.pl29 F g l i=some b/\(b=true↔okL l i):=by
 intro n
 induction n with
 | zero=>
  intro g i hn hg hi
  obtain ⟨g,rfl⟩:∃ g',g=g'+1:=⟨g - 1,by omega⟩
  rw [eS.pl29,decide_eq_false (by omega),cond_false]
  exact ⟨_,rfl,⟨λ_ a h1 h2=>by omega,λ_=>rfl⟩⟩
 | succ n ih=>
  intro g i hn hg hi
  obtain ⟨g,rfl⟩:∃ g',g=g'+1:=⟨g - 1,by omega⟩
  rw [eS.pl29,decide_eq_true (by omega),cond_true,ix_of hi (by omega),Option.bind_some,BR,Option.bind_some]
  by_cases h:InR (gt l i.toNat) (-1000000000000) 1000000000000
  ·rw [decide_eq_true h,Bool.not_true,cond_false,bX (by omega) (by omega)]
   obtain ⟨b,e,hb⟩:=ih g (i+1) (by omega) (by omega) (by omega)
   refine ⟨b,e,hb.trans ⟨λh1 a h3 h4=>?_,λh1 a h3 h4=>h1 a (by omega) h4⟩⟩
   by_cases e:a=i.toNat
   ·subst e;exact h
   ·exact h1 a (by omega) h4
  ·rw [decide_eq_false h,Bool.not_false,cond_true]
   exact ⟨_,rfl,⟨λh=>(by cases h),λh1=>absurd (h1 i.toNat (by omega) (by omega)) h⟩⟩
theorem implM_l {l:List Int} (hl:l.length<=2000000):∀ (n g:Nat) (i:Int),l.length - i=n->n<g->0<=i->∃ r:Int,eV.pl13 F g l l.length i=some r/\(¬ r>=0↔okL l i):=by
 intro n
 induction n with
 | zero=>
  intro g i hn hg hi
  obtain ⟨g,rfl⟩:∃ g',g=g'+1:=⟨g - 1,by omega⟩
  rw [eV.pl13,decide_eq_false (by omega),cond_false]
  exact ⟨_,rfl,⟨λ_ a h1 h2=>by omega,λ_=>by decide⟩⟩
 | succ n ih=>
  intro g i hn hg hi
  obtain ⟨g,rfl⟩:∃ g',g=g'+1:=⟨g - 1,by omega⟩
  unfold eV.pl13 jC.p
  rw [decide_eq_true (by omega),cond_true,ix_of hi (by omega),Option.bind_some,tF,Option.bind_some,Option.bind_some]
  by_cases h:InR (gt l i.toNat) (-1000000000000) 1000000000000
  ·rw [decide_eq_true h,Bool.not_true,cond_false,bX (by omega) (by omega)]
   obtain ⟨b,e,hb⟩:=ih g (i+1) (by omega) (by omega) (by omega)
   refine ⟨b,e,hb.trans ⟨λh1 a h3 h4=>?_,λh1 a h3 h4=>h1 a (by omega) h4⟩⟩
   by_cases e:a=i.toNat
   ·subst e;exact h
   ·exact h1 a (by omega) h4
  ·rw [decide_eq_false h,Bool.not_false,cond_true]
   exact ⟨_,rfl,⟨λh=>absurd hi h,λh1=>absurd (h1 i.toNat (by omega) (by omega)) h⟩⟩
theorem isMatrix_both {a b:Int} {l:List Int} (hF:5000000<F) (hl:l.length<=2000000) :
  ∃ v:Bool,eS.p F a b l=some v/\fY.p F a b l=some v/\(v=true->∃ (R C:Nat) (A:Mat),a=R/\b=C/\R<=48/\C<=48/\l=mk R C A/\Bd R C A):=by
 unfold eS.p fY.p
 rw [BR,BR,tF,tF]
 simp only [Option.bind_some]
 by_cases ha:InR a 0 48
 ·rw [decide_eq_true ha]
  simp only [Bool.not_true,cond_false,cond_true]
  by_cases hb:InR b 0 48
  ·rw [decide_eq_true hb]
   simp only [Bool.not_true,cond_false,cond_true]
   unfold jB.p
   rw [Option.bind_some]
   obtain ⟨ha0,ha1⟩:=ha
   obtain ⟨hb0,hb1⟩:=hb
   obtain ⟨R,rfl⟩:=Int.eq_ofNat_of_zero_le ha0
   obtain ⟨C,rfl⟩:=Int.eq_ofNat_of_zero_le hb0
   have hm:R * C<=48 * 48:=Nat.mul_le_mul (by omega) (by omega)
   rw [<- Int.natCast_mul,bX (by omega) (by omega)]
   by_cases h:(l.length:Int)=((R * C:Nat):Int)
   ·rw [h,bne_self_eq_false,cond_false,beq_self_eq_true,cond_true]
    unfold jS.p eV.p
    obtain ⟨v,e1,h1⟩:=specM_l (F:=F) hl l.length F 0 (by omega) (by omega) (by omega)
    obtain ⟨r,e2,h2⟩:=implM_l (F:=F) hl l.length F 0 (by omega) (by omega) (by omega)
    rw [e1,e2,Option.bind_some,Option.bind_some]
    have:(!decide (r>=0))=v:=by
     rw [Bool.eq_iff_iff,h1,<-h2];simp
    rw [this]
    refine ⟨v,rfl,rfl,λhv=>⟨R,C,_,rfl,rfl,by omega,by omega,acQ (by omega),?_⟩⟩
    intro i j hi0 hi hj0 hj
    obtain ⟨x,y,rfl,rfl,g1,g2,g3,g4,g5⟩:=JU hi0 hi hj0 hj
    show InR (gt l ((x:Int) * C+y).toNat) (-1000000000000) 1000000000000
    rw [g3]
    exact h1.1 hv _ (by omega) (by omega)
   ·rw [show ((l.length:Int) != ((R * C:Nat):Int))=true from bne_iff_ne.2 h,show ((l.length:Int)==((R * C:Nat):Int))=false from beq_eq_false_iff_ne.2 h]
    exact ⟨false,rfl,rfl,λh=>(by cases h)⟩
  ·rw [decide_eq_false hb]
   exact ⟨false,rfl,rfl,λh=>(by cases h)⟩
 ·rw [decide_eq_false ha]
  exact ⟨false,rfl,rfl,λh=>(by cases h)⟩
end Go.Proofs.YtppbogklbhfboaaGreat.AE.SS
end
section
namespace Go.Proofs.YtppbogklbhfboaaGreat.AE.SS
open Go Go.AE Go.Proofs
variable {R C F:Nat} {A:Mat} {i j k:Int}
def idM:Mat:=λa b=>if a=b then 1 else 0
theorem idM_bd {n:Nat}:Bd n n idM:=by
 intro a b _ _ _ _
 unfold idM;split <;> decide
theorem one_l {n:Nat} (hn:n<=1000):∀ (m g:Nat) (A:Mat) (i:Int),n - i=m->m<g->0<=i->(∀ a b:Int,0<=a->a<n->0<=b->b<n->A a b=if a<i then idM a b else 0) ->
  dU.pl29 F g n n n (mk n n A) i=some ((n:Int),(n:Int),mk n n idM):=by
 intro m
 induction m with
 | zero=>
  intro g A i hm hg hi hA
  obtain ⟨g,rfl⟩:∃ g',g=g'+1:=⟨g - 1,by omega⟩
  rw [dU.pl29,decide_eq_false (by omega),cond_false]
  rw [fW (A:=A) (B:=idM) (λa b h1 h2 h3 h4=>by rw [hA a b h1 h2 h3 h4,if_pos (by omega)])]
 | succ m ih=>
  intro g A i hm hg hi hA
  obtain ⟨g,rfl⟩:∃ g',g=g'+1:=⟨g - 1,by omega⟩
  rw [dU.pl29,decide_eq_true (by omega),cond_true]
  simp (disch:=omega) only [kn,oM,Option.bind_some,bX]
  refine ih g _ (i+1) (by omega) (by omega) (by omega) λa b h1 h2 h3 h4=>?_
  have:=hA a b h1 h2 h3 h4
  unfold upd idM at *
  grind
theorem mk_zero (n m:Nat):List.replicate (n * m) (0:Int)=mk n m λ_ _=>0:=by
 apply List.ext_getElem
 ·rw [oL,List.length_replicate]
 ·intro a h1 h2
  simp [mk]
theorem abV {n:Nat} (hn:n<=1000) (hF:5000000<F):dU.p F n=some ((n:Int),(n:Int),mk n n idM):=by
 have hm:n * n<=1000 * 1000:=Nat.mul_le_mul hn hn
 unfold dU.p fM.p mkn
 rw [<- Int.natCast_mul,bX (by omega) (by omega),if_pos (by omega),Option.bind_some,Option.bind_some,Int.toNat_natCast,mk_zero]
 exact one_l hn n F _ 0 (by omega) (by omega) (by omega) λa b h1 _ _ _=>by rw [if_neg (by omega)]
theorem id_l {n:Nat} (hn:n<=1000):∀ (m g:Nat) (A:Mat) (i:Int),n - i=m->m<g->0<=i->(∀ a b:Int,0<=a->a<n->0<=b->b<n->A a b=if a<i then idM a b else 0) ->
  dY.pl29 F g n n (mk n n A) n i=some ((n:Int),(n:Int),mk n n idM):=by
 intro m
 induction m with
 | zero=>
  intro g A i hm hg hi hA
  obtain ⟨g,rfl⟩:∃ g',g=g'+1:=⟨g - 1,by omega⟩
  rw [dY.pl29,decide_eq_false (by omega),cond_false]
  rw [fW (A:=A) (B:=idM) (λa b h1 h2 h3 h4=>by rw [hA a b h1 h2 h3 h4,if_pos (by omega)])]
 | succ m ih=>
  intro g A i hm hg hi hA
  obtain ⟨g,rfl⟩:∃ g',g=g'+1:=⟨g - 1,by omega⟩
  rw [dY.pl29,decide_eq_true (by omega),cond_true]
  simp (disch:=omega) only [kn,oM,Option.bind_some,bX]
  refine ih g _ (i+1) (by omega) (by omega) (by omega) λa b h1 h2 h3 h4=>?_
  have:=hA a b h1 h2 h3 h4
  unfold upd idM at *
  grind
theorem abW {n:Nat} (hn:n<=1000) (hF:5000000<F):dY.p F n=some ((n:Int),(n:Int),mk n n idM):=by
 have hm:n * n<=1000 * 1000:=Nat.mul_le_mul hn hn
 unfold dY.p gl.p mkn
 rw [<- Int.natCast_mul,bX (by omega) (by omega),if_pos (by omega),Option.bind_some,Option.bind_some,Int.toNat_natCast,mk_zero]
 exact id_l hn n F _ 0 (by omega) (by omega) (by omega) λa b h1 _ _ _=>by rw [if_neg (by omega)]
theorem smith_both (hR:R<=48) (hC:C<=48) (hF:1000000000000000<=F) (hb:Bd R C A) :
  (iT.p F R C (mk R C A)=some (0,0,([]:List Int),0,0,([]:List Int),0,0,([]:List Int),0,0,([]:List Int),0,0,([]:List Int),3)/\SBad (bJ.p F R C (mk R C A))) \/
  (∃ v:St,v.good R C/\(∀ a:Int,0<=a->a<R->a<C->0<=v.d a a)/\iT.p F R C (mk R C A)=some ((R:Int),(R:Int),mk R R v.l,(R:Int),(R:Int),mk R R v.m,(R:Int),(C:Int),mk R C v.d,(C:Int),(C:Int),mk C C v.r,(C:Int),(C:Int),mk C C v.s,0) /\
   bJ.p F R C (mk R C A)=some ((R:Int),(C:Int),mk R C v.d,(R:Int),(R:Int),mk R R v.l,(R:Int),(R:Int),mk R R v.m,(C:Int),(C:Int),mk C C v.r,(C:Int),(C:Int),mk C C v.s,false)):=by
 have hm:R * C<=48 * 48:=Nat.mul_le_mul hR hC
 unfold iT.p bJ.p jT.p mi.p apn bR.p
 rw [if_pos (by rw [oL];simp;omega),List.nil_append,abV (by omega) (by omega),abV (by omega) (by omega),abW (by omega) (by omega),abW (by omega) (by omega)]
 simp only [Option.bind_some]
 obtain ⟨n,hn⟩:∃ n:Nat,(if (C:Int)<R then (C:Int) else R) - 0=n:=⟨(if (C:Int)<R then (C:Int) else R).toNat,by split <;> omega⟩
 have hn48:n<=48:=by split at hn <;> omega
 have q1:n * 2000000000100+1<=F:=by omega
 rcases run_both (F:=F) (R:=R) (C:=C) (by omega) (by omega) (by omega) n 0 ⟨A,idM,idM,idM,idM⟩ F F ⟨hb,idM_bd,idM_bd,idM_bd,idM_bd⟩ (by omega) hn q1 (by omega) with ⟨⟨l,m,d,r,s,e1⟩,e2⟩ | ⟨v,hv,_,hv2,e1,e2⟩
 ·left
  have e1:bR.pl3 F F R (mk R R idM) R R (mk R R idM) R C (mk R C A) C C (mk C C idM) C (mk C C idM) false 0=_:=e1
  rw [e1]
  exact ⟨rfl,e2⟩
 ·right
  have e1:bR.pl3 F F R (mk R R idM) R R (mk R R idM) R C (mk R C A) C C (mk C C idM) C (mk C C idM) false 0=_:=e1
  rw [e1]
  exact ⟨v,hv,λa h1 h2 h3=>hv2 a h1 h2 h3,rfl,e2⟩
end Go.Proofs.YtppbogklbhfboaaGreat.AE.SS
end
section
namespace Go.Proofs.YtppbogklbhfboaaGreat.AE.SS
open Go Go.AE Go.Proofs
variable {R C F:Nat} {A:Mat} {i j k:Int}
theorem fac_l (hR:R<=48) (hC:C<=48) (hpos:∀ a:Int,0<=a->a<R->a<C->0<=A a a/\A a a<=1000000000000) {n0:Int} (hn:n0=if (C:Int)<R then (C:Int) else R):∀ (m g h:Nat) (x:List Int) (i:Int),n0 - i=m->m<g->m<h->0<=i->x.length<=i->(∀ d∈x,0<d/\d<=1000000000000) ->
  ∃ y,y.length<=48/\(∀ d∈y,0<d/\d<=1000000000000)/\dg.pl125 F g C (mk R C A) x n0 i=some (y,0)/\cI.pl61 F h R C C (mk R C A) false x i=some (y,true):=by
 intro m
 induction m with
 | zero=>
  intro g h x i hm hg hh hi hx hd
  obtain ⟨g,rfl⟩:∃ g',g=g'+1:=⟨g - 1,by omega⟩
  obtain ⟨h,rfl⟩:∃ g',h=g'+1:=⟨h - 1,by omega⟩
  have h48:n0<=48:=by rw [hn];split <;> omega
  rw [dg.pl125,cI.pl61,<-hn,decide_eq_false (by omega),cond_false,cond_false]
  exact ⟨x,by omega,hd,rfl,rfl⟩
 | succ m ih=>
  intro g h x i hm hg hh hi hx hd
  obtain ⟨g,rfl⟩:∃ g',g=g'+1:=⟨g - 1,by omega⟩
  obtain ⟨h,rfl⟩:∃ g',h=g'+1:=⟨h - 1,by omega⟩
  have h48:n0<=C/\n0<=R:=by rw [hn];split <;> omega
  rw [dg.pl125,cI.pl61,<-hn,decide_eq_true (by omega),cond_true,cond_true,Bool.not_false,cond_true]
  simp (disch:=omega) only [at_mk,kn,lK,Option.bind_some]
  unfold dg.pj2 cI.pj3
  rw [bX (by omega) (by omega)]
  by_cases h0:A i i=0
  ·rw [h0,show ((0:Int) != 0)=false from rfl,cond_false,cond_false]
   exact ih g h x (i+1) (by omega) (by omega) (by omega) (by omega) (by omega) hd
  ·rw [show (A i i != 0)=true from bne_iff_ne.2 h0,cond_true,cond_true]
   unfold apn
   rw [if_pos (by simp;omega),Option.bind_some]
   refine ih g h (x++[A i i]) (i+1) (by omega) (by omega) (by omega) (by omega) (by simp;omega) λd hd'=>?_
   rcases List.mem_append.1 hd' with q | q
   ·exact hd d q
   ·obtain rfl:=List.mem_singleton.1 q
    have:=hpos i hi (by omega) (by omega);omega
theorem factors_bd (hR:R<=48) (hC:C<=48) (hF:1000000000000000<=F) (hb:Bd R C A) :
  (dg.p F R C (mk R C A)=some ([],3)/\cI.p F R C (mk R C A)=some ([],false)) \/
  (∃ y,y.length<=48/\(∀ d∈y,0<d/\d<=1000000000000)/\dg.p F R C (mk R C A)=some (y,0)/\cI.p F R C (mk R C A)=some (y,true)):=by
 unfold dg.p cI.p
 rcases smith_both hR hC hF hb with ⟨e1,⟨a1,a2,d,a3,a4,l,a5,a6,m,a7,a8,r,a9,a10,s,e2⟩⟩ | ⟨v,hv,hv2,e1,e2⟩
 ·left
  rw [e1,e2]
  refine ⟨rfl,?_⟩
  rw [Option.bind_some]
  obtain ⟨f,rfl⟩:∃ f,F=f+1:=⟨F - 1,by omega⟩
  rw [cI.pl61]
  generalize decide ((0:Int)<(if (C:Int)<R then (C:Int) else R))=b
  cases b <;> rfl
 ·right
  rw [e1,e2]
  simp only [Option.bind_some]
  rw [show ((0:Int) != 0)=false from rfl,cond_false]
  exact fac_l hR hC (λa h1 h2 h3=>⟨hv2 a h1 h2 h3,(hv.1 a a h1 h2 h1 h3).2⟩) rfl (if (C:Int)<R then (C:Int) else R).toNat F F [] 0 (by split <;> omega) (by split <;> omega) (by split <;> omega) (by omega) (by simp) (by simp)
theorem factors_both (hR:R<=48) (hC:C<=48) (hF:1000000000000000<=F) (hb:Bd R C A) :
  (dg.p F R C (mk R C A)=some ([],3)/\cI.p F R C (mk R C A)=some ([],false)) \/
  (∃ y,y.length<=48/\(∀ d∈y,0<d)/\dg.p F R C (mk R C A)=some (y,0)/\cI.p F R C (mk R C A)=some (y,true)):=by
 rcases factors_bd hR hC hF hb with h | ⟨y,hy,hp,e1,e2⟩
 ·exact .inl h
 ·exact .inr ⟨y,hy,λd hd=>(hp d hd).1,e1,e2⟩
end Go.Proofs.YtppbogklbhfboaaGreat.AE.SS
end
section
namespace Go.Proofs.YtppbogklbhfboaaGreat.AE.SS
open Go Go.AE Go.Proofs
variable {R C F:Nat} {A:Mat} {i j k:Int}
theorem inv_both {a b:Int} {l:List Int} (hF:1000000000000000<=F) (hl:l.length<=2000000) :
  ∃ y c,y.length<=48/\(∀ d∈y,0<d)/\jU.p F a b l=some (y,c)/\jP.p F a b l=some (y,c):=by
 unfold jU.p jP.p
 obtain ⟨v,e1,e2,hv⟩:=isMatrix_both (F:=F) (a:=a) (b:=b) (by omega) hl
 rw [e1,e2,Option.bind_some,Option.bind_some]
 cases v with
 | false=>exact ⟨[],1,by decide,by simp,rfl,rfl⟩
 | true=>
  obtain ⟨R,C,A,rfl,rfl,hR,hC,rfl,hb⟩:=hv rfl
  rw [Bool.not_true,cond_false,cond_false]
  rcases factors_both hR hC hF hb with ⟨f1,f2⟩ | ⟨y,hy,hd,f1,f2⟩
  ·rw [f1,f2];exact ⟨[],3,by decide,by simp,rfl,rfl⟩
  ·rw [f1,f2];exact ⟨y,0,hy,hd,rfl,rfl⟩
end Go.Proofs.YtppbogklbhfboaaGreat.AE.SS
end
section
namespace Go.Proofs.YtppbogklbhfboaaGreat.AE.SS
open Go Go.AE Go.Proofs
variable {R C F:Nat} {A:Mat} {i j k:Int}
def Cnt (l:List Int) (k:Int):Prop:=∀ n:Nat,n<l.length->gt l n=k+n
theorem mark_l:∀ (n g:Nat) (l:List Int) (i k:Int),l.length<=2000000->l.length - i=n->n<g->0<=i->0<=k->k<=100000000 ->
  ∃ l',fj.pl13 F g l (k+i) i=some (k+l.length,l')/\l'.length=l.length/\(∀ a:Nat,(a:Int)<i->gt l' a=gt l a)/\(∀ a:Nat,i<=a->a<l.length->gt l' a=k+a):=by
 intro n
 induction n with
 | zero=>
  intro g l i k hl hn hg hi hk hk2
  obtain ⟨g,rfl⟩:∃ g',g=g'+1:=⟨g - 1,by omega⟩
  rw [fj.pl13,decide_eq_false (by omega),cond_false]
  refine ⟨l,?_,rfl,λ_ _=>rfl,λa h1 h2=>by omega⟩
  rw [show (l.length:Int)=i by omega]
 | succ n ih=>
  intro g l i k hl hn hg hi hk hk2
  obtain ⟨g,rfl⟩:∃ g',g=g'+1:=⟨g - 1,by omega⟩
  rw [fj.pl13,decide_eq_true (by omega),cond_true,ix_of hi (by omega),Option.bind_some,Option.bind_some,bX (x:=k+i+1) (by omega) (by omega),bX (by omega) (by omega),Int.add_assoc]
  obtain ⟨l',e1,e2,e3,e4⟩:=ih g (l.set i.toNat (k+i)) (i+1) k (by rw [List.length_set];exact hl) (by rw [List.length_set];omega) (by omega) (by omega) hk hk2
  rw [List.length_set] at e1 e2 e4
  refine ⟨l',e1,e2,λa h=>?_,λa h1 h2=>?_⟩
  ·rw [e3 a (by omega),gt_set_ne (by omega)]
  ·by_cases e:a=i.toNat
   ·rw [e3 a (by omega),e,gt_set_eq (by omega)];omega
   ·exact e4 a (by omega) h2
theorem mark {l:List Int} (hF:5000000<F) (hl:l.length<=2000000) (hk:0<=k) (hk2:k<=100000000) :
  ∃ l',fj.p F l k=some (k+l.length,l')/\l'.length=l.length/\Cnt l' k:=by
 obtain ⟨l',e1,e2,e3,e4⟩:=mark_l (F:=F) l.length F l 0 k hl (by omega) (by omega) (by omega) hk hk2
 unfold fj.p
 rw [Int.add_zero] at e1
 exact ⟨l',e1,e2,λn hn=>e4 n (by omega) (by omega)⟩
theorem held_l {l:List Int} (hl:l.length<=2000000) (hk:0<=k) (hk2:k<=100000000) (hc:Cnt l k):∀ (n g:Nat) (i:Int),l.length - i=n->n<g->0<=i ->
  fk.pl13 F g l (k+i) i=some (k+l.length):=by
 intro n
 induction n with
 | zero=>
  intro g i hn hg hi
  obtain ⟨g,rfl⟩:∃ g',g=g'+1:=⟨g - 1,by omega⟩
  rw [fk.pl13,decide_eq_false (by omega),cond_false,show (l.length:Int)=i by omega]
 | succ n ih=>
  intro g i hn hg hi
  obtain ⟨g,rfl⟩:∃ g',g=g'+1:=⟨g - 1,by omega⟩
  rw [fk.pl13,decide_eq_true (by omega),cond_true,ix_of hi (by omega),Option.bind_some,hc i.toNat (by omega),Int.toNat_of_nonneg hi,bne_self_eq_false,cond_false,bX (x:=k+i+1) (by omega) (by omega),bX (by omega) (by omega),Int.add_assoc]
  exact ih g (i+1) (by omega) (by omega) (by omega)
theorem held {l:List Int} (hF:5000000<F) (hl:l.length<=2000000) (hk:0<=k) (hk2:k<=100000000) (hc:Cnt l k):fk.p F l k=some (k+l.length):=by
 unfold fk.p
 have:=held_l (F:=F) hl hk hk2 hc l.length F 0 (by omega) (by omega) (by omega)
 rw [Int.add_zero] at this
 exact this
end Go.Proofs.YtppbogklbhfboaaGreat.AE.SS
end
section
namespace Go.Proofs.YtppbogklbhfboaaGreat.AE.SS
open Go Go.AE Go.Proofs
variable {R C F:Nat} {A:Mat} {i j k:Int}
def tor (l:List Int):List Int:=l.filter λx=>x != 1
theorem gt_at {l:List Int} {n:Nat} {x:Int} (h:l[n]?=some x):gt l n=x:=by
 unfold gt
 obtain ⟨hn,e⟩:=List.getElem?_eq_some_iff.1 h
 simp [h]
theorem ix_nat {α:Type} {l:List α} {n:Nat} (h:n<l.length):ix l (n:Int)=some n:=by
 unfold ix;rw [if_pos ⟨by omega,by omega⟩];rfl
theorem ak1 {l:List Int} (hl:l.length<=1000) (hp:∀ d∈l,0<d):∀ (m g:Nat) (x:List Int) (n:Nat),l.length - n=m->m<g->x.length<=n->n<=l.length ->
  dS.pl29 F g l x (n:Int)=some (x++tor (l.drop n)):=by
 intro m
 induction m with
 | zero=>
  intro g x n hm hg hx hn
  obtain ⟨g,rfl⟩:∃ g',g=g'+1:=⟨g - 1,by omega⟩
  rw [dS.pl29,decide_eq_false (by omega),cond_false,List.drop_eq_nil_of_le (by omega)]
  simp [tor]
 | succ m ih=>
  intro g x n hm hg hx hn
  obtain ⟨g,rfl⟩:∃ g',g=g'+1:=⟨g - 1,by omega⟩
  have hn':n<l.length:=by omega
  have hd:l.drop n=l[n]::l.drop (n+1):=List.drop_eq_getElem_cons hn'
  have hg1:gt l n=l[n]:=gt_at (List.getElem?_eq_getElem hn')
  have hpos:=hp l[n] (List.getElem_mem hn')
  rw [dS.pl29,decide_eq_true (by omega),cond_true,ix_nat hn',Option.bind_some,Option.bind_some,hg1]
  unfold dS.pj2
  rw [bX (by omega) (by omega),hd]
  by_cases h:l[n]>1
  ·rw [decide_eq_true h,cond_true]
   unfold apn
   rw [if_pos (by simp;omega),Option.bind_some]
   have:=ih g (x++[l[n]]) (n+1) (by omega) (by omega) (by simp;omega) (by omega)
   rw [show ((n:Int)+1)=((n+1:Nat):Int) by omega,this]
   simp only [tor,List.filter_cons]
   rw [if_pos (by simp;omega),List.append_assoc];rfl
  ·rw [decide_eq_false h,cond_false]
   have:=ih g x (n+1) (by omega) (by omega) (by omega) (by omega)
   rw [show ((n:Int)+1)=((n+1:Nat):Int) by omega,this]
   simp only [tor,List.filter_cons]
   rw [if_neg (by simp;omega)]
theorem amO {l:List Int} (hF:5000<F) (hl:l.length<=1000) (hp:∀ d∈l,0<d):dS.p F l=some (tor l):=by
 unfold dS.p
 rw [show (0:Int)=((0:Nat):Int) from rfl,ak1 hl hp l.length F [] 0 (by omega) (by omega) (by simp) (by omega)]
 simp
theorem find_l {l:List Int} (hl:l.length<=1000):∀ (m g:Nat) (n:Nat),l.length - n=m->m<g->n<=l.length ->
  (eF.pl13 F g l l.length (n:Int)=some (-1)/\∀ d∈l.drop n,d≠1) \/
  ∃ r:Nat,eF.pl13 F g l l.length (n:Int)=some (r:Int)/\n<=r/\r<l.length/\gt l r=1/\∀ d∈(l.take r).drop n,d≠1:=by
 intro m
 induction m with
 | zero=>
  intro g n hm hg hn
  obtain ⟨g,rfl⟩:∃ g',g=g'+1:=⟨g - 1,by omega⟩
  left
  rw [eF.pl13,decide_eq_false (by omega),cond_false,List.drop_eq_nil_of_le (by omega)]
  exact ⟨rfl,by simp⟩
 | succ m ih=>
  intro g n hm hg hn
  obtain ⟨g,rfl⟩:∃ g',g=g'+1:=⟨g - 1,by omega⟩
  have hn':n<l.length:=by omega
  have hd:l.drop n=l[n]::l.drop (n+1):=List.drop_eq_getElem_cons hn'
  have hg1:gt l n=l[n]:=gt_at (List.getElem?_eq_getElem hn')
  rw [eF.pl13,decide_eq_true (by omega),cond_true,ix_nat hn',Option.bind_some,hg1]
  unfold iB.p
  rw [Option.bind_some]
  by_cases h:l[n]=1
  ·right
   refine ⟨n,?_,Nat.le_refl _,hn',by rw [hg1,h],?_⟩
   ·rw [show (l[n]==1)=true by simpa using h,cond_true]
   ·rw [List.drop_eq_nil_of_le (by rw [List.length_take];omega)];simp
  ·rw [show (l[n]==1)=false by simpa using h,cond_false,bX (by omega) (by omega),show ((n:Int)+1)=((n+1:Nat):Int) by omega]
   rcases ih g (n+1) (by omega) (by omega) (by omega) with ⟨e,q⟩ | ⟨r,e,h1,h2,h3,q⟩
   ·left
    refine ⟨e,λd hd'=>?_⟩
    rw [hd] at hd'
    rcases List.mem_cons.1 hd' with rfl | hd'
    ·exact h
    ·exact q d hd'
   ·right
    refine ⟨r,e,by omega,h2,h3,λd hd'=>?_⟩
    have e2:(l.take r).drop n=l[n]::(l.take r).drop (n+1):=by
     rw [List.drop_eq_getElem_cons (by rw [List.length_take];omega)]
     congr 1
     rw [List.getElem_take]
    rw [e2] at hd'
    rcases List.mem_cons.1 hd' with rfl | hd'
    ·exact h
    ·exact q d hd'
theorem tor_all {l:List Int} (h:∀ d∈l,d≠1):tor l=l:=by
 unfold tor
 rw [List.filter_eq_self]
 intro d hd
 simpa using h d hd
theorem del_l:∀ (m g:Nat) (l:List Int) (i n:Nat),l.length<=1000->l.length - n=m->m<g->i<=n->n<=l.length ->
  ∃ x,cS.pl61 F g l (i:Int) (n:Int)=some x/\x=l.take i++tor (l.drop n):=by
 intro m
 induction m with
 | zero=>
  intro g l i n hl hm hg hi hn
  obtain ⟨g,rfl⟩:∃ g',g=g'+1:=⟨g - 1,by omega⟩
  rw [cS.pl61,decide_eq_false (by omega),cond_false,List.drop_eq_nil_of_le (by omega)]
  unfold cS.pj2 cutf
  rw [if_pos (by constructor <;> omega),Option.bind_some]
  exact ⟨_,rfl,by simp [tor]⟩
 | succ m ih=>
  intro g l i n hl hm hg hi hn
  obtain ⟨g,rfl⟩:∃ g',g=g'+1:=⟨g - 1,by omega⟩
  have hn':n<l.length:=by omega
  have hd:l.drop n=l[n]::l.drop (n+1):=List.drop_eq_getElem_cons hn'
  have hg1:gt l n=l[n]:=gt_at (List.getElem?_eq_getElem hn')
  rw [cS.pl61,decide_eq_true (by omega),cond_true,ix_nat hn',Option.bind_some,hg1]
  unfold iB.p cS.pj3
  rw [Option.bind_some,bX (x:=(n:Int)+1) (by omega) (by omega),show ((n:Int)+1)=((n+1:Nat):Int) by omega]
  by_cases h:l[n]=1
  ·rw [show (l[n]==1)=true by simpa using h,Bool.not_true,cond_false]
   obtain ⟨x,e,ex⟩:=ih g l i (n+1) hl (by omega) (by omega) (by omega) (by omega)
   refine ⟨x,e,?_⟩
   rw [ex,hd]
   simp [tor,h]
  ·rw [show (l[n]==1)=false by simpa using h,Bool.not_false,cond_true,ix_nat (by omega),Option.bind_some,Option.bind_some,bX (by omega) (by omega),show ((i:Int)+1)=((i+1:Nat):Int) by omega]
   obtain ⟨x,e,ex⟩:=ih g (l.set i l[n]) (i+1) (n+1) (by rw [List.length_set];exact hl) (by rw [List.length_set];omega) (by omega) (by omega) (by rw [List.length_set];omega)
   refine ⟨x,e,?_⟩
   rw [ex,hd,List.drop_set_of_lt (by omega),List.take_add_one,List.take_set_of_le (by omega),List.getElem?_set_self (by omega)]
   simp only [tor,List.filter_cons]
   rw [if_pos (by simpa using h),Option.toList_some,List.append_assoc];rfl
theorem amP {l:List Int} (hF:5000<F) (hl:l.length<=1000):jV.p F l=some (tor l):=by
 unfold jV.p cS.p eF.p
 rcases find_l (F:=F) hl l.length F 0 (by omega) (by omega) (by omega) with ⟨e,q⟩ | ⟨r,e,h1,h2,h3,q⟩
 ·rw [show (0:Int)=((0:Nat):Int) from rfl,e,Option.bind_some]
  rw [List.drop_zero] at q
  rw [tor_all q];rfl
 ·rw [show (0:Int)=((0:Nat):Int) from rfl,e,Option.bind_some,show ((r:Int)==-1)=false by simp,cond_false,bX (by omega) (by omega),show ((r:Int)+1)=((r+1:Nat):Int) by omega]
  obtain ⟨x,e2,ex⟩:=del_l (F:=F) (l.length - (r+1)) F l r (r+1) hl rfl (by omega) (by omega) (by omega)
  rw [e2,Option.bind_some,ex]
  congr 1
  rw [List.drop_zero] at q
  have h4:l=l.take r++l[r]::l.drop (r+1):=by rw [<- List.drop_eq_getElem_cons h2,List.take_append_drop]
  have h5:l[r]=1:=by rw [<- h3];exact (gt_at (List.getElem?_eq_getElem h2)).symm
  conv=>rhs;rw [h4]
  unfold tor
  rw [List.filter_append,List.filter_cons,h5]
  have:=tor_all q
  unfold tor at this
  rw [this]
  simp
theorem tor_len {l:List Int}:(tor l).length<=l.length:=List.length_filter_le _ _
end Go.Proofs.YtppbogklbhfboaaGreat.AE.SS
end
section
namespace Go.Proofs.YtppbogklbhfboaaGreat.AE
open Go Go.AE Go.Proofs
variable {F R n:Nat} {A X:Mat} {i j:Int}
theorem cok_both {a b:Int} {l:List Int} (hF:1000000000000000<=F) (hl:l.length<=2000000) :
  ∃ n y c,y.length<=48/\iU.p F a b l=some (n,y,c)/\gR.p F a b l=some (n,y,c):=by
 unfold iU.p gR.p
 obtain ⟨y,c,hy,hp,e1,e2⟩:=SS.inv_both (F:=F) (a:=a) (b:=b) hF hl
 rw [e1,e2,Option.bind_some,Option.bind_some]
 by_cases hc:c=0
 ·subst hc
  unfold jB.p
  simp only [bne_self_eq_false,cond_false,Option.bind_some]
  rw [SS.amP (by omega) (by omega),SS.amO (by omega) (by omega) hp]
  exact ⟨_,SS.tor y,0,Nat.le_trans SS.tor_len hy,rfl,rfl⟩
 ·rw [show (c != 0)=true from bne_iff_ne.2 hc]
  exact ⟨0,[],c,by simp,rfl,rfl⟩
theorem zero_mk (hR:R<=48) (hn:n<=48):mkn (IntKind.i64.wrap ((R:Int) * n)) (0:Int)=some (mk R n λ_ _=>0):=by
 have hm:R * n<=48 * 48:=Nat.mul_le_mul hR hn
 have e:((R:Int) * n)=((R * n:Nat):Int):=by rw [Int.natCast_mul]
 rw [e,bX (by omega) (by omega)]
 unfold mkn
 rw [if_pos (by constructor <;> omega),Int.toNat_natCast]
 congr 1
 unfold mk
 rw [List.map_const']
 simp only [List.length_range]
theorem tr_row (hR:R<=48) (hn:n<=48) (hi0:0<=i) (hi:i<R) {p}:∀ (m g:Nat) (X:Mat) (j:Int),n - j=m->m<g->0<=j ->
  ∃ Y:Mat,(∀ a b:Int,Y a b=if b=i/\j<=a/\a<n then A i a else X a b)/\bZ.pl3931 F p g n (mk R n A) n R (mk n R X) R i i n j=p n (mk R n A) n R (mk n R Y) R (i+1):=by
 intro m
 induction m with
 | zero=>
  intro g X j hm hg hj
  obtain ⟨g,rfl⟩:∃ g',g=g'+1:=⟨g - 1,by omega⟩
  refine ⟨X,λa b=>by rw [if_neg (by omega)],?_⟩
  rw [bZ.pl3931,decide_eq_false (by omega),cond_false]
  unfold bZ.pj4 bZ.pj3
  rw [bX (by omega) (by omega)]
 | succ m ih=>
  intro g X j hm hg hj
  obtain ⟨g,rfl⟩:∃ g',g=g'+1:=⟨g - 1,by omega⟩
  have hjn:j<n:=by omega
  rw [bZ.pl3931,decide_eq_true (by omega),cond_true]
  simp (disch:=omega) only [kn,lK,oM,Option.bind_some]
  rw [bX (x:=j+1) (by omega) (by omega)]
  obtain ⟨Y,h1,h2⟩:=ih g (upd X j i (A i j)) (j+1) (by omega) (by omega) (by omega)
  refine ⟨Y,λa b=>?_,h2⟩
  rw [h1]
  by_cases c1:b=i/\j+1<=a/\a<n
  ·rw [if_pos c1,if_pos ⟨c1.1,by omega,c1.2.2⟩]
  ·rw [if_neg c1]
   by_cases c2:a=j/\b=i
   ·obtain ⟨rfl,rfl⟩:=c2;rw [EM,if_pos ⟨rfl,Int.le_refl _,hjn⟩]
   ·rw [mD _ _ c2,if_neg (by omega)]
theorem tr_l (hR:R<=48) (hn:n<=48) (hF:5000<F):∀ (m g:Nat) (X:Mat) (i:Int),R - i=m->m<g->0<=i ->
  ∃ Y:Mat,(∀ a b:Int,Y a b=if i<=b/\b<R/\0<=a/\a<n then A b a else X a b)/\bZ.pl61 F g n (mk R n A) n R (mk n R X) R i=some ((n:Int),(R:Int),mk n R Y):=by
 intro m
 induction m with
 | zero=>
  intro g X i hm hg hi
  obtain ⟨g,rfl⟩:∃ g',g=g'+1:=⟨g - 1,by omega⟩
  refine ⟨X,λa b=>by rw [if_neg (by omega)],?_⟩
  rw [bZ.pl61,decide_eq_false (by omega)];rfl
 | succ m ih=>
  intro g X i hm hg hi
  obtain ⟨g,rfl⟩:∃ g',g=g'+1:=⟨g - 1,by omega⟩
  rw [bZ.pl61,decide_eq_true (by omega),cond_true]
  obtain ⟨Y,h1,h2⟩:=tr_row (F:=F) (A:=A) hR hn hi (by omega:i<R) (p:=bZ.pl61 F g) n F X 0 (by omega) (by omega) (by omega)
  obtain ⟨Z,k1,k2⟩:=ih g Y (i+1) (by omega) (by omega) (by omega)
  rw [h2]
  refine ⟨Z,λa b=>?_,k2⟩
  rw [k1]
  by_cases c1:i+1<=b/\b<R/\0<=a/\a<n
  ·rw [if_pos c1,if_pos ⟨by omega,c1.2⟩]
  ·rw [if_neg c1,h1]
   by_cases c2:b=i/\0<=a/\a<n
   ·obtain ⟨rfl,c3,c4⟩:=c2;rw [if_pos ⟨rfl,c3,c4⟩,if_pos ⟨by omega,by omega,c3,c4⟩]
   ·rw [if_neg c2,if_neg (by omega)]
theorem sp_row {m:Nat} (hR:R<=48) (hn:n<=48) (hm:m<=n) (hi0:0<=i) (hi:i<m) {p}:∀ (q g:Nat) (X:Mat) (j:Int),R - j=q->q<g->0<=j ->
  ∃ Y:Mat,(∀ a b:Int,Y a b=if a=i/\j<=b/\b<R then A b i else X a b)/\bG.pl4053 F p g n (mk R n A) m R (mk m R X) i j=p n (mk R n A) m R (mk m R Y) (i+1):=by
 intro q
 induction q with
 | zero=>
  intro g X j hq hg hj
  obtain ⟨g,rfl⟩:∃ g',g=g'+1:=⟨g - 1,by omega⟩
  refine ⟨X,λa b=>by rw [if_neg (by omega)],?_⟩
  rw [bG.pl4053,decide_eq_false (by omega),cond_false]
  unfold bG.pj5 bG.pj4
  rw [bX (by omega) (by omega)]
 | succ q ih=>
  intro g X j hq hg hj
  obtain ⟨g,rfl⟩:∃ g',g=g'+1:=⟨g - 1,by omega⟩
  have hjR:j<R:=by omega
  rw [bG.pl4053,decide_eq_true (by omega),cond_true,SS.at_mk (by omega) (by omega) hj hjR hi0 (by omega),Option.bind_some]
  simp (disch:=omega) only [kn,oM,Option.bind_some]
  rw [bX (x:=j+1) (by omega) (by omega)]
  obtain ⟨Y,h1,h2⟩:=ih g (upd X i j (A j i)) (j+1) (by omega) (by omega) (by omega)
  refine ⟨Y,λa b=>?_,h2⟩
  rw [h1]
  by_cases c1:a=i/\j+1<=b/\b<R
  ·rw [if_pos c1,if_pos ⟨c1.1,by omega,c1.2.2⟩]
  ·rw [if_neg c1]
   by_cases c2:a=i/\b=j
   ·obtain ⟨rfl,rfl⟩:=c2;rw [EM,if_pos ⟨rfl,Int.le_refl _,hjR⟩]
   ·rw [mD _ _ c2,if_neg (by omega)]
theorem sp_l {m:Nat} (hR:R<=48) (hn:n<=48) (hm:m<=n) (hF:5000<F):∀ (q g:Nat) (X:Mat) (i:Int),m - i=q->q<g->0<=i ->
  ∃ Y:Mat,(∀ a b:Int,Y a b=if i<=a/\a<m/\0<=b/\b<R then A b a else X a b)/\bG.pl253 F g n (mk R n A) m R (mk m R X) i=bG.pj3 F m R (mk m R Y):=by
 intro q
 induction q with
 | zero=>
  intro g X i hq hg hi
  obtain ⟨g,rfl⟩:∃ g',g=g'+1:=⟨g - 1,by omega⟩
  refine ⟨X,λa b=>by rw [if_neg (by omega)],?_⟩
  rw [bG.pl253,decide_eq_false (by omega)];rfl
 | succ q ih=>
  intro g X i hq hg hi
  obtain ⟨g,rfl⟩:∃ g',g=g'+1:=⟨g - 1,by omega⟩
  rw [bG.pl253,decide_eq_true (by omega),cond_true]
  obtain ⟨Y,h1,h2⟩:=sp_row (F:=F) (A:=A) hR hn hm hi (by omega:i<m) (p:=bG.pl253 F g) R F X 0 (by omega) (by omega) (by omega)
  obtain ⟨Z,k1,k2⟩:=ih g Y (i+1) (by omega) (by omega) (by omega)
  rw [h2]
  refine ⟨Z,λa b=>?_,k2⟩
  rw [k1]
  by_cases c1:i+1<=a/\a<m/\0<=b/\b<R
  ·rw [if_pos c1,if_pos ⟨by omega,c1.2⟩]
  ·rw [if_neg c1,h1]
   by_cases c2:a=i/\0<=b/\b<R
   ·obtain ⟨rfl,c3,c4⟩:=c2;rw [if_pos ⟨rfl,c3,c4⟩,if_pos ⟨by omega,by omega,c3,c4⟩]
   ·rw [if_neg c2,if_neg (by omega)]
theorem mk_take {m:Nat} (hm:m<=n):(mk n R X).take (m * R)=mk m R X:=by
 unfold mk
 rw [<- List.map_take,List.take_range,Nat.min_eq_left (Nat.mul_le_mul_right _ hm)]
theorem isM {l:List Int} (hR:R<=48) (hn:n<=48) (hF:5000000<F) (hl:l.length=R * n) (hb:DD.Bnd l 1000):fY.p F R n l=some true:=by
 have hm:R * n<=48 * 48:=Nat.mul_le_mul hR hn
 unfold fY.p
 rw [DD.tF,DD.tF]
 simp only [Option.bind_some]
 rw [decide_eq_true (⟨by omega,by omega⟩:(0:Int)<=(R:Int)/\(R:Int)<=48),decide_eq_true (⟨by omega,by omega⟩:(0:Int)<=(n:Int)/\(n:Int)<=48)]
 unfold jB.p jS.p eV.p
 simp only [Option.bind_some,cond_true]
 rw [<- Int.natCast_mul,bX (by omega) (by omega),hl,beq_self_eq_true,cond_true]
 obtain ⟨r,e2,h2⟩:=SS.implM_l (F:=F) (l:=l) (by omega) l.length F 0 (by omega) (by omega) (by omega)
 rw [hl] at e2
 rw [e2,Option.bind_some,Option.bind_some]
 have:¬ r>=0:=h2.2 λa _ _=>by
  have:=hb a
  show (-1000000000000:Int)<=gt l a/\gt l a<=1000000000000
  omega
 rw [decide_eq_false this];rfl
theorem dc_both {D:List DD.Cr} {c:Int} (hF:1000000000000000<=F) (hl:D.length<=2000000):∃ r y e,y.length<=48/\iC.p F D c=some (r,y,e)/\bG.p F D c=some (r,y,e):=by
 unfold iC.p bG.p jZ.p mf.p
 rcases DD.isD (F:=F) (c:=c) hl (by omega) with ⟨a,b,_⟩ | ⟨a,b,t,Rg,s,u,h⟩
 ·rw [a,b];exact ⟨0,[],1,by simp,rfl,rfl⟩
 ·rw [a,b]
  simp only [Option.bind_some,Bool.not_true,cond_false]
  have hlen:=h.len
  by_cases hz:D.length=0/\c=0
  ·rw [show ((D.length:Int)==0)=true from beq_iff_eq.2 (by omega),show (c==0)=true from beq_iff_eq.2 hz.2]
   exact ⟨0,[],5,by simp,rfl,rfl⟩
  ·obtain ⟨n,l,cm⟩:=DD.cm_both (F:=F) (c:=c) h.tb (by omega) (by omega) h.c0 h.c8
   have hn48:=cm.n1
   have hn1:1<=n:=cm.pos (by
    by_cases h0:D.length=0
    ·exact .inr λq=>hz ⟨h0,q⟩
    ·exact .inl h0)
   obtain ⟨m,rfl⟩:∃ m,n=m+1:=⟨n - 1,by omega⟩
   have hle:∀ x:Option (Int×List Int×Int),(bif ((D.length:Int)==0) then (bif (c==0) then (some ((0:Int),([]:List Int),(5:Int))) else x) else x)=x:=λx=>by
    by_cases h0:D.length=0
    ·rw [show ((D.length:Int)==0)=true from beq_iff_eq.2 (by omega),cond_true,show (c==0)=false from beq_eq_false_iff_ne.2 (λq=>hz ⟨h0,q⟩),cond_false]
    ·rw [show ((D.length:Int)==0)=false from beq_eq_false_iff_ne.2 (by omega),cond_false]
   have hle2:(bif ((D.length:Int)==0) then some (c==0) else some false)=some false:=by
    by_cases h0:D.length=0
    ·rw [show ((D.length:Int)==0)=true from beq_iff_eq.2 (by omega),cond_true,show (c==0)=false from beq_eq_false_iff_ne.2 (λq=>hz ⟨h0,q⟩)]
    ·rw [show ((D.length:Int)==0)=false from beq_eq_false_iff_ne.2 (by omega),cond_false]
   rw [hle,hle2]
   simp only [Option.bind_some,cond_false,bne_self_eq_false]
   rw [cm.i,cm.s]
   simp only [Option.bind_some]
   unfold bZ.p
   rw [isM (by omega) hn48 (by omega) cm.len cm.bd]
   simp only [Option.bind_some,Bool.not_true,cond_false]
   have e:l=mk D.length (m+1) (λi j=>gt l (i * ((m+1:Nat):Int)+j).toNat):=acQ cm.len
   generalize (λi j:Int=>gt l (i * ((m+1:Nat):Int)+j).toNat)=A at e
   subst e
   unfold gl.p fM.p
   have w1:IntKind.i64.wrap ((((m+1:Nat):Int)) - 1)=(m:Int):=by rw [bX (by omega) (by omega)];omega
   rw [zero_mk hn48 (by omega),w1,zero_mk (by omega) (by omega)]
   simp only [Option.bind_some]
   obtain ⟨Y,h1,h2⟩:=tr_l (F:=F) (A:=A) (R:=D.length) (n:=m+1) (by omega) hn48 (by omega) D.length F (λ_ _=>0) 0 (by omega) (by omega) (by omega)
   obtain ⟨Z,k1,k2⟩:=sp_l (F:=F) (A:=A) (R:=D.length) (n:=m+1) (m:=m) (by omega) hn48 (by omega) (by omega) m F (λ_ _=>0) 0 (by omega) (by omega) (by omega)
   rw [h2,k2]
   simp only [Option.bind_some]
   have hz2:m * D.length<=48 * 48:=Nat.mul_le_mul (by omega) (by omega)
   have hmm:(m+1) * D.length=m * D.length+D.length:=by rw [Nat.add_mul,Nat.one_mul]
   rw [w1,<-Int.natCast_mul,bX (by omega) (by omega)]
   unfold cutf
   rw [if_pos ⟨Int.le_refl _,by omega,by rw [oL];omega⟩,Option.bind_some,Int.toNat_natCast]
   rw [show ((mk (m+1) D.length Y).take (m * D.length)).drop (0:Int).toNat=mk m D.length Y by rw [mk_take (by omega)];rfl]
   unfold bG.pj3
   have hYZ:mk m D.length Y=mk m D.length Z:=fW λa b a0 a1 b0 b1=>by
    rw [h1,k1,if_pos ⟨b0,b1,a0,by omega⟩,if_pos ⟨a0,a1,b0,b1⟩]
   rw [hYZ]
   obtain ⟨r,y,e,hy,e1,e2⟩:=cok_both (F:=F) (a:=(m:Int)) (b:=(D.length:Int)) (l:=mk m D.length Z) hF (by rw [oL];omega)
   rw [e1,e2]
   exact ⟨r,y,e,hy,rfl,rfl⟩
theorem FnExactDoubleCoverHomology_pure:∀ (ai:List (Int×Int×Int×Int×Int)) (ac:Int),ai.length<=maxLen->(∀ x∈ai,(Lit.int .i64 x.1).wf=true/\(Lit.int .i64 x.2.1).wf=true/\(Lit.int .i64 x.2.2.1).wf=true/\(Lit.int .i64 x.2.2.2.1).wf=true/\(Lit.int .i64 x.2.2.2.2).wf=true)->(Lit.int .i64 ac).wf=true->∃ F,iL.p F ai ac=some true:=by
 intro D c hm _ _
 obtain ⟨F,hF⟩:∃ F:Nat,F=1000000000000000:=⟨_,rfl⟩
 refine ⟨F,?_⟩
 unfold iL.p
 by_cases hl:D.length<=1048576
 ·rw [DD.szDg (by omega),Option.bind_some,if_neg (by omega),decide_eq_false (by omega),cond_false]
  have hF5:5000000<F:=by omega
  have hl2:D.length<=2000000:=by omega
  obtain ⟨n,y,ec,hy,e1,e2⟩:=dc_both (F:=F) (D:=D) (c:=c) (by omega) hl2
  obtain ⟨D',k',m1⟩:=DD.markDg (F:=F) (l:=D) hF5 hl2
  obtain ⟨y',n1,n2,n3⟩:=SS.mark (F:=F) (l:=y) (k:=1) (by omega) (by omega) (by omega) (by omega)
  have h1:=SS.held (F:=F) (l:=y') (k:=1) (by omega) (by omega) (by omega) (by omega) n3
  have hy2:y.length<=2000000:=by omega
  simp only [DD.toDg hF5 hl2,Option.bind_some,e1,e2,jj.p,kb.p,jG.p,SS.eqInt hF5 hy2,DD.eqDg hF5 hl2,m1,n1,h1,bne_self_eq_false,cond_false,Bool.not_true]
  rw [decide_eq_false (by omega),decide_eq_false (by omega),n2]
  simp only [Option.bind_some,bne_self_eq_false,cond_false]
  first | rfl | (rw [decide_eq_false (by omega)];rfl)
 ·rw [DD.szBig hm (by omega)];rfl
end Go.Proofs.YtppbogklbhfboaaGreat.AE
end
