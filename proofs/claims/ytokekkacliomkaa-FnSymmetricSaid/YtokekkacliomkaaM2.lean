import Derived.Test.YtokekkacliomkaaM1
set_option linter.unusedVariables false
set_option linter.unusedSimpArgs false
section
namespace Go.Proofs.Ytokekkacliomkaa.AE
open Go Go.AE Go.Proofs
theorem wN {n:Nat} (h:n<=1000000000):IntKind.i64.wrap (n:Int)=(n:Int):=ap (by omega) (by omega)
theorem b_shl {j:Nat} (h:j<=20):IntKind.i64.wrap (1 * 2 ^ (min ((j:Nat):Int).toNat (IntKind.i64).bits))=((2 ^ j:Nat):Int):=by
 rw [Int.toNat_natCast,show min j (IntKind.i64).bits=j from Nat.min_eq_left (by show j<=64;omega),Int.one_mul]
 have:2 ^ j<=2 ^ 20:=Nat.pow_le_pow_right (by omega) h
 rw [show (2:Int) ^ j=((2 ^ j:Nat):Int) by rw [Int.natCast_pow];rfl]
 exact wN (Nat.le_trans this (by decide))
theorem b_u64 {j:Nat} (h:j<=1000):IntKind.u64.wrap (j:Int)=(j:Int):=by
 have:((j:Nat):Int) % 2 ^ 64=j:=Int.emod_eq_of_lt (by omega) (by omega)
 simp [IntKind.wrap,IntKind.bits,IntKind.signed]
 omega
theorem b_shr {s j:Nat} (h:j<=20):Int.fdiv (s:Int) (2 ^ (min ((j:Nat):Int).toNat (IntKind.i64).bits))=((s / 2 ^ j:Nat):Int):=by
 rw [Int.toNat_natCast,show min j (IntKind.i64).bits=j from Nat.min_eq_left (by show j<=64;omega)]
 rw [show (2:Int) ^ j=((2 ^ j:Nat):Int) by rw [Int.natCast_pow];rfl]
 rw [Int.fdiv_eq_ediv_of_nonneg _ (Int.natCast_nonneg _)]
 rfl
theorem b_ofInt {n:Nat} (h:n<2 ^ 64):(BitVec.ofInt 64 (n:Int)).toNat=n:=by
 rw [BitVec.toNat_ofInt]
 have:((n:Nat):Int) % ((2 ^ 64:Nat):Int)=n:=Int.emod_eq_of_lt (by omega) (by omega)
 rw [this,Int.toNat_natCast]
theorem b_and1 {s:Nat} (h:s<=1000000000):Go.bits .and .i64 (s:Int) 1=((s % 2:Nat):Int):=by
 show IntKind.i64.wrap ((BitVec.ofInt 64 (s:Int) &&& BitVec.ofInt 64 ((1:Nat):Int)).toNat:Int)=_
 rw [BitVec.toNat_and,b_ofInt (by omega),b_ofInt (by omega),Nat.and_one_is_mod]
 exact ap (by omega) (by omega)
theorem b_bit {s j:Nat}:(s / 2 ^ j % 2=1)↔s.testBit j=true:=by rw [Nat.testBit_eq_decide_div_mod_eq,decide_eq_true_iff]
variable {F n:Nat} {A:Mat}
def lst (w:Nat):Nat->List Int
 | 0=>[]
 | i+1=>if w.testBit i=true then lst w i++[(i:Int)] else lst w i
theorem lst_len (w:Nat):∀ i:Nat,(lst w i).length=cnt i (bs w)
 | 0=>rfl
 | i+1=>by
  have e:bs w (i:Int)=w.testBit i:=by unfold bs;rw [decide_eq_true (by omega),Bool.true_and,Int.toNat_natCast]
  show (if w.testBit i=true then _ else _:List Int).length=cnt i (bs w)+(if bs w i=true then 1 else 0)
  rw [e,<-lst_len w i]
  split
  ·rw [List.length_append];rfl
  ·rfl
theorem lst_le (w:Nat):∀ i:Nat,(lst w i).length<=i
 | 0=>Nat.le_refl _
 | i+1=>by
  have:=lst_le w i
  show (if w.testBit i=true then _ else _:List Int).length<=_
  split
  ·rw [List.length_append,List.length_singleton];omega
  ·omega
theorem gap_lo {l:List Int} {x a:Int} (h0:0<=a) (h:a<l.length):gt (l++[x]) a.toNat=gt l a.toNat:=by
 unfold gt
 rw [List.getD_eq_getElem?_getD,List.getD_eq_getElem?_getD,List.getElem?_append_left (by omega)]
theorem gap_hi {l:List Int} {x:Int}:gt (l++[x]) l.length=x:=by
 unfold gt
 rw [List.getD_eq_getElem?_getD,List.getElem?_append_right (Nat.le_refl _),Nat.sub_self];rfl
theorem lst_L (w:Nat):∀ i:Nat,Lst i (lst w i).length (bs w) λa=>gt (lst w i) a.toNat
 | 0=>⟨λa h0 h1=>by have:(lst w 0).length=0:=rfl;omega,λa b h0 h1 h2=>by have:(lst w 0).length=0:=rfl;omega,λx h0 h1=>by omega⟩
 | i+1=>by
  have e:bs w (i:Int)=w.testBit i:=by unfold bs;rw [decide_eq_true (by omega),Bool.true_and,Int.toNat_natCast]
  have ih:=lst_L w i
  by_cases h:w.testBit i=true
  ·have el:lst w (i+1)=lst w i++[(i:Int)]:=if_pos h
   have ln:(lst w (i+1)).length=(lst w i).length+1:=by rw [el,List.length_append];rfl
   have lo:∀ a:Int,0<=a->a<(lst w i).length->gt (lst w (i+1)) a.toNat=gt (lst w i) a.toNat:=λa h0 h1=>by rw [el,gap_lo h0 h1]
   have hi:∀ a:Int,a=(lst w i).length->gt (lst w (i+1)) a.toNat=i:=λa h0=>by rw [el,h0,Int.toNat_natCast,gap_hi]
   refine ⟨λa h0 h1=>?_,λa b h0 h1 h2=>?_,λx h0 h1 h2=>?_⟩
   ·by_cases q:a=(lst w i).length
    ·rw [hi a q];exact ⟨by omega,by omega,by rw [e];exact h⟩
    ·rw [lo a h0 (by omega)]
     have:=ih.rng a h0 (by omega)
     exact ⟨this.1,by have:=this.2.1;omega,this.2.2⟩
   ·rw [lo a h0 (by omega)]
    by_cases q:b=(lst w i).length
    ·rw [hi b q];exact (ih.rng a h0 (by omega)).2.1
    ·rw [lo b (by omega) (by omega)];exact ih.inc a b h0 h1 (by omega)
   ·by_cases q:x=i
    ·exact ⟨(lst w i).length,by omega,by omega,by rw [hi _ rfl,q]⟩
    ·obtain ⟨a,a0,a1,a2⟩:=ih.all x h0 (by omega) h2
     exact ⟨a,a0,by omega,by rw [lo a a0 a1];exact a2⟩
  ·have el:lst w (i+1)=lst w i:=if_neg h
   rw [el]
   refine ⟨λa h0 h1=>?_,ih.inc,λx h0 h1 h2=>?_⟩
   ·have:=ih.rng a h0 h1
    exact ⟨this.1,by have:=this.2.1;omega,this.2.2⟩
   ·by_cases q:x=i
    ·rw [q,e] at h2;exact absurd h2 h
    ·exact ih.all x h0 (by omega) h2
theorem lst_sum {f:Int->Int} (hf:∀ x,0<=f x) (w:Nat):∀ i:Nat,Sg (lst w i).length (λa=>f (gt (lst w i) a.toNat))<=Sg i f
 | 0=>Int.le_refl _
 | i+1=>by
  have ih:=lst_sum hf w i
  have hi:=hf i
  show _<=Sg i f+f i
  by_cases h:w.testBit i=true
  ·have el:lst w (i+1)=lst w i++[(i:Int)]:=if_pos h
   rw [el,List.length_append]
   show Sg (lst w i).length (λa=>f (gt (lst w i++[(i:Int)]) a.toNat))+f (gt (lst w i++[(i:Int)]) ((lst w i).length:Int).toNat)<=_
   rw [Int.toNat_natCast,gap_hi,Sg_congr (g:=λa=>f (gt (lst w i) a.toNat)) λa h0 h1=>by rw [gap_lo h0 h1]]
   omega
  ·have el:lst w (i+1)=lst w i:=if_neg h
   rw [el];omega
theorem lst_prod {f:Int->Int} (hf:∀ x,1<=f x) (w:Nat):∀ i:Nat,Pi (lst w i).length (λa=>f (gt (lst w i) a.toNat))<=Pi i f
 | 0=>Int.le_refl _
 | i+1=>by
  have ih:=lst_prod hf w i
  have hi:=hf i
  have hp:=Pi_pos hf i
  show _<=Pi i f * f i
  by_cases h:w.testBit i=true
  ·have el:lst w (i+1)=lst w i++[(i:Int)]:=if_pos h
   rw [el,List.length_append]
   show Pi (lst w i).length (λa=>f (gt (lst w i++[(i:Int)]) a.toNat)) * f (gt (lst w i++[(i:Int)]) ((lst w i).length:Int).toNat)<=_
   rw [Int.toNat_natCast,gap_hi,Pi_congr (g:=λa=>f (gt (lst w i) a.toNat)) λa h0 h1=>by rw [gap_lo h0 h1]]
   exact Int.mul_le_mul_of_nonneg_right ih (by omega)
  ·have el:lst w (i+1)=lst w i:=if_neg h
   have:Pi i f * 1<=Pi i f * f i:=Int.mul_le_mul_of_nonneg_left hi (by omega)
   rw [el];omega
def sub (A:Mat) (l:List Int):Mat:=λa b=>A (gt l a.toNat) (gt l b.toNat)
theorem sub_vol (w:Nat) (hV:Pi n (mx n A)<=1000000000):Pi (lst w n).length (mx (lst w n).length (sub A (lst w n)))<=1000000000:=by
 refine Int.le_trans (Int.le_trans (Pi_le (g:=λa=>mx n A (gt (lst w n) a.toNat)) λa h0 h1=>?_).2 (lst_prod (f:=mx n A) (λx=>(mx_le x).2) w n)) hV
 have h2:rsum (lst w n).length (sub A (lst w n)) a<=rsum n A (gt (lst w n) a.toNat):=lst_sum (f:=λx=>ab0 (A (gt (lst w n) a.toNat) x)) (λ_=>ab0_nn _) w n
 have h3:=mx_le (n:=(lst w n).length) (B:=sub A (lst w n)) a
 have h4:=mx_le (n:=n) (B:=A) (gt (lst w n) a.toNat)
 refine ⟨by omega,?_⟩
 unfold mx at *
 split <;> split <;> omega
theorem app1 {l:List Int} {x:Int} (h:l.length<=1000000):apn l [x]=some (l++[x]):=by unfold apn;rw [if_pos (by simp;omega)]
section
variable (hn:n<=12)
include hn
theorem pr_in {l:List Int} (hl:l.length<=12) (hr:∀ a:Int,0<=a->a<l.length->0<=gt l a.toNat/\gt l a.toNat<n) {C} {a:Int} (a0:0<=a) (a1:a<l.length):∀ (d g:Nat) (b:Int),l.length - b=d->d<g->0<=b->b<=l.length ->
  aC.pl4053 F C g n (mk n n A) l l.length l.length l.length (mk l.length l.length (pM (sub A l) a b)) a b=C n (mk n n A) l l.length l.length l.length (mk l.length l.length (pM (sub A l) (a+1) 0)) (a+1):=by
 intro d
 induction d with
 | zero=>
  intro g b hd hg hb hb2
  obtain ⟨g,rfl⟩:∃ g',g=g'+1:=⟨g - 1,by omega⟩
  have e:mk l.length l.length (pM (sub A l) a b)=mk l.length l.length (pM (sub A l) (a+1) 0):=cY λx y x0 x1 y0 y1=>by
   unfold pM
   by_cases h:x<a\/x=a/\y<b
   ·rw [if_pos h,if_pos (by omega)]
   ·rw [if_neg h,if_neg (by omega)]
  rw [aC.pl4053,decide_eq_false (by omega),cond_false,e]
  unfold aC.pj6 aC.pj5
  rw [ap (x:=a+1) (by omega) (by omega)]
 | succ d ih=>
  intro g b hd hg hb hb2
  obtain ⟨g,rfl⟩:∃ g',g=g'+1:=⟨g - 1,by omega⟩
  have ra:=hr a a0 a1
  have rb:=hr b hb (by omega)
  have ea:ix l a=some a.toNat:=by unfold ix;rw [if_pos (by omega)]
  have eb:ix l b=some b.toNat:=by unfold ix;rw [if_pos (by omega)]
  have e1:upd (pM (sub A l) a b) a b (A (gt l a.toNat) (gt l b.toNat))=pM (sub A l) a (b+1):=by
   funext x y
   unfold upd pM
   by_cases q:x=a/\y=b
   ·rw [if_pos q,if_pos (by omega),q.1,q.2];rfl
   ·rw [if_neg q]
    by_cases h:x<a\/x=a/\y<b
    ·rw [if_pos h,if_pos (by omega)]
    ·rw [if_neg h,if_neg (by omega)]
  rw [aC.pl4053,decide_eq_true (by omega),cond_true,ea,Option.bind_some,eb,Option.bind_some,at_mk (by omega) (by omega) ra.1 ra.2 rb.1 rb.2,Option.bind_some,eL (i:=a) (j:=b) (by omega) (by omega) a0 a1 hb (by omega),Option.bind_some,Option.bind_some,jF a0 a1 hb (by omega),e1,ap (x:=b+1) (by omega) (by omega)]
  exact ih g (b+1) (by omega) (by omega) (by omega) (by omega)
theorem pr_out {l:List Int} (hF:1000<F) (hl:l.length<=12) (hr:∀ a:Int,0<=a->a<l.length->0<=gt l a.toNat/\gt l a.toNat<n):∀ (d g:Nat) (a:Int),l.length - a=d->d<g->0<=a->a<=l.length ->
  aC.pl253 F g n (mk n n A) l l.length l.length l.length (mk l.length l.length (pM (sub A l) a 0)) a=some ((l.length:Int),(l.length:Int),mk l.length l.length (sub A l),(l.length:Int)):=by
 intro d
 induction d with
 | zero=>
  intro g a hd hg ha ha2
  obtain ⟨g,rfl⟩:∃ g',g=g'+1:=⟨g - 1,by omega⟩
  have e:mk l.length l.length (pM (sub A l) a 0)=mk l.length l.length (sub A l):=cY λx y x0 x1 y0 y1=>if_pos (by omega)
  rw [aC.pl253,decide_eq_false (by omega),cond_false,e];rfl
 | succ d ih=>
  intro g a hd hg ha ha2
  obtain ⟨g,rfl⟩:∃ g',g=g'+1:=⟨g - 1,by omega⟩
  rw [aC.pl253,decide_eq_true (by omega),cond_true,pr_in hn hl hr ha (by omega) l.length F 0 (by omega) (by omega) (by omega) (by omega)]
  exact ih g (a+1) (by omega) (by omega) (by omega) (by omega)
theorem pr_list (hF:1000<F) (w:Nat) (hw:w<=4096):∀ (d g i:Nat),n - i=d->d<g->i<=n ->
  aC.pl29 F g w n n (mk n n A) (lst w i) i=some (((lst w n).length:Int),((lst w n).length:Int),mk (lst w n).length (lst w n).length (sub A (lst w n)),((lst w n).length:Int)):=by
 intro d
 induction d with
 | zero=>
  intro g i hd hg hi
  obtain ⟨g,rfl⟩:∃ g',g=g'+1:=⟨g - 1,by omega⟩
  obtain rfl:i=n:=by omega
  have hl:=lst_le w i
  have hm:(lst w i).length * (lst w i).length<=12 * 12:=Nat.mul_le_mul (by omega) (by omega)
  have hL:=lst_L w i
  rw [aC.pl29,decide_eq_false (by omega),cond_false]
  unfold aC.pj7 cD.p mkn
  rw [<- Int.natCast_mul,ap (by omega) (by omega),if_pos (by omega),Option.bind_some,Option.bind_some,Int.toNat_natCast,mk_zero]
  simp only []
  have e:(mk (lst w i).length (lst w i).length λ_ _=>0)=mk (lst w i).length (lst w i).length (pM (sub A (lst w i)) 0 0):=cY λa b a0 a1 b0 b1=>(if_neg (by omega)).symm
  rw [e]
  exact pr_out hn hF (by omega) (λa a0 a1=>⟨(hL.rng a a0 a1).1,(hL.rng a a0 a1).2.1⟩) (lst w i).length F 0 (by omega) (by omega) (by omega) (by omega)
 | succ d ih=>
  intro g i hd hg hi
  obtain ⟨g,rfl⟩:∃ g',g=g'+1:=⟨g - 1,by omega⟩
  have hl:=lst_le w i
  have hd2:w / 2 ^ i<=w:=Nat.div_le_self _ _
  rw [aC.pl29,decide_eq_true (by omega),cond_true,b_u64 (by omega),if_neg (by omega),b_shr (by omega),b_and1 (by omega)]
  unfold aC.pj8
  rw [ap (x:=(i:Int)+1) (by omega) (by omega)]
  by_cases h:w.testBit i=true
  ·have e:=b_bit.2 h
   rw [e,show (((1:Nat):Int)==1)=true from rfl,cond_true,app1 (by omega),Option.bind_some]
   have el:lst w (i+1)=lst w i++[(i:Int)]:=if_pos h
   rw [<- el]
   exact ih g (i+1) (by omega) (by omega) (by omega)
  ·have e:w / 2 ^ i % 2=0:=by
    have h1:¬ w / 2 ^ i % 2=1:=λq=>h (b_bit.1 q)
    omega
   rw [e,show (((0:Nat):Int)==1)=false from rfl,cond_false]
   have el:lst w (i+1)=lst w i:=if_neg h
   have:=ih g (i+1) (by omega) (by omega) (by omega)
   rw [el] at this
   exact this
end
def pt (n:Nat) (A:Mat) (k w:Nat):Int:=if cnt n (bs w)=k then det n (RS A (bs w)) else 0
theorem pt_bound {k w:Nat} (hV:Pi n (mx n A)<=1000000000):-1000000000<=pt n A k w/\pt n A k w<=1000000000:=by
 unfold pt
 split
 ·exact in9 (Int.le_trans RS_bound hV)
 ·omega
theorem ps_bound {k:Nat} (hV:Pi n (mx n A)<=1000000000):∀ w:Nat,-(1000000000 * (w:Int))<=Sn w (pt n A k)/\Sn w (pt n A k)<=1000000000 * (w:Int)
 | 0=>by show _<=(0:Int)/\(0:Int)<=_;omega
 | w+1=>by
  have h1:=ps_bound (k:=k) hV w
  have h2:=pt_bound (k:=k) (w:=w) hV
  show _<=Sn w (pt n A k)+pt n A k w/\Sn w (pt n A k)+pt n A k w<=_
  omega
structure Sm0 (n:Nat) (A:Mat) (w:Nat) (s:List Int):Prop where
 len:s.length=n+1
 val:∀ k:Nat,k<=n->gt s k=Sn w (pt n A k)
theorem sums_v (hn:n<=12) (hF:1000<F) (hV:Pi n (mx n A)<=1000000000):∀ (d g w:Nat) (s:List Int),2 ^ n - w=d->d<g->w<=2 ^ n->Sm0 n A w s ->
  ∃ s',Sm0 n A (2 ^ n) s'/\bE.pl29 F g n n (mk n n A) s w=bE.pj2 F s':=by
 have h12:2 ^ n<=4096:=Nat.le_trans (Nat.pow_le_pow_right (n:=2) (by omega) hn) (by decide)
 intro d
 induction d with
 | zero=>
  intro g w s hd hg hw hs
  obtain ⟨g,rfl⟩:∃ g',g=g'+1:=⟨g - 1,by omega⟩
  obtain rfl:w=2 ^ n:=by omega
  rw [bE.pl29,b_u64 (by omega),if_neg (by omega),b_shl (by omega),decide_eq_false (by omega),cond_false]
  exact ⟨s,hs,rfl⟩
 | succ d ih=>
  intro g w s hd hg hw hs
  obtain ⟨g,rfl⟩:∃ g',g=g'+1:=⟨g - 1,by omega⟩
  have hl:=lst_le w n
  have hc:=lst_len w n
  have hlen:=hs.len
  have hp:=pr_list (F:=F) (A:=A) hn hF w (by omega) n F 0 (by omega) (by omega) (by omega)
  have hd1:=(det_s (F:=F) (A:=sub A (lst w n)) (n:=(lst w n).length) (by omega) hF (sub_vol w hV)).1
  have hsub:det (lst w n).length (sub A (lst w n))=det n (RS A (bs w)):=(det_sub (lst_L w n)).symm
  have hix:ix s ((lst w n).length:Int)=some (lst w n).length:=by unfold ix;rw [if_pos (by omega)];congr 1
  have b1:=ps_bound (k:=(lst w n).length) hV w
  have b2:=pt_bound (k:=(lst w n).length) (w:=w) hV
  have e2:pt n A (lst w n).length w=det n (RS A (bs w)):=if_pos hc.symm
  rw [bE.pl29,b_u64 (by omega),if_neg (by omega),b_shl (by omega),decide_eq_true (by omega),cond_true]
  unfold aC.p
  rw [show ((0:Nat):Int)=0 from rfl,show lst w 0=[] from rfl] at hp
  rw [hp,Option.bind_some]
  simp only []
  rw [hix,Option.bind_some,hd1,Option.bind_some,Option.bind_some,Option.bind_some,hs.val _ hl,hsub,<-e2,ap (x:=_+_) (by omega) (by omega),ap (x:=(w:Int)+1) (by omega) (by omega)]
  refine ih g (w+1) _ (by omega) (by omega) (by omega) ⟨by rw [List.length_set];exact hlen,λk hk=>?_⟩
  show _=Sn w (pt n A k)+pt n A k w
  by_cases e:k=(lst w n).length
  ·rw [e,gt_set_eq (by omega)]
  ·rw [gt_set_ne (Ne.symm e),hs.val k hk]
   have:pt n A k w=0:=if_neg (by omega)
   omega
end Go.Proofs.Ytokekkacliomkaa.AE
end
section
namespace Go.Proofs.Ytokekkacliomkaa.AE
open Go Go.AE Go.Proofs
variable {F n:Nat} {A:Mat}
def sgn1 (x:Int):Int:=if x<0 then -1 else 1
def ch:Int->List Int->Int
 | _,[]=>0
 | s,x::t=>if x=0 then ch s t else (if s≠0/\sgn1 x≠s then 1 else 0)+ch (sgn1 x) t
def adj:List Int->Int
 | []=>0
 | [_]=>0
 | a::b::t=>(if a≠b then 1 else 0)+adj (b::t)
def nz (l:List Int):List Int:=(l.filter λx=>x≠0).map sgn1
theorem nz_zero {t:List Int}:nz (0::t)=nz t:=by unfold nz;simp
theorem nz_cons {x:Int} {t:List Int} (h:x≠0):nz (x::t)=sgn1 x::nz t:=by unfold nz;simp [h]
theorem sgn1_ne (x:Int):sgn1 x≠0:=by unfold sgn1;split <;> decide
theorem ch_s {s:Int} (h:s≠0):∀ l:List Int,ch s l=adj (s::nz l)
 | []=>rfl
 | x::t=>by
  by_cases e:x=0
  ·subst e
   rw [nz_zero,<-ch_s h t]
   exact if_pos rfl
  ·rw [nz_cons e]
   show (if x=0 then _ else _)=(if s≠sgn1 x then 1 else 0)+adj (sgn1 x::nz t)
   rw [if_neg e,<-ch_s (sgn1_ne x) t]
   congr 1
   by_cases q:sgn1 x=s
   ·rw [if_neg λh=>h.2 q,if_neg λh=>h q.symm]
   ·rw [if_pos ⟨h,q⟩,if_pos (Ne.symm q)]
theorem ch_0:∀ l:List Int,ch 0 l=adj (nz l)
 | []=>rfl
 | x::t=>by
  by_cases e:x=0
  ·subst e
   rw [nz_zero,<-ch_0 t]
   exact if_pos rfl
  ·rw [nz_cons e,<-ch_s (sgn1_ne x) t]
   show (if x=0 then _ else _)=_
   rw [if_neg e,if_neg λh=>h.1 rfl,Int.zero_add]
theorem ch_1 {t:List Int}:ch 1 (1::t)=adj (nz (1::t)):=by
 rw [nz_cons (by decide),show sgn1 1=1 from rfl,<-ch_s (by decide) t]
 show (if (1:Int)=0 then _ else _)=_
 rw [if_neg (by decide),show sgn1 1=1 from rfl,if_neg λh=>h.2 rfl,Int.zero_add]
theorem adj_snoc {a b:Int}:∀ l:List Int,adj (l++[a,b])=adj (l++[a])+if a≠b then 1 else 0
 | []=>by show (if a≠b then 1 else 0)+0=0+_;omega
 | [c]=>by show (if c≠a then 1 else 0)+((if a≠b then 1 else 0)+0)=((if c≠a then 1 else 0)+0)+_;omega
 | c::d::l=>by
  have h:=adj_snoc (d::l) (a:=a) (b:=b)
  show (if c≠d then 1 else 0)+adj (d::l++[a,b])=((if c≠d then 1 else 0)+adj (d::l++[a]))+_
  omega
theorem adj_rev:∀ l:List Int,adj l.reverse=adj l
 | []=>rfl
 | [_]=>rfl
 | a::b::t=>by
  have h:=adj_rev (b::t)
  rw [List.reverse_cons] at h
  rw [List.reverse_cons,List.reverse_cons,List.append_assoc]
  show adj (t.reverse++[b,a])=(if a≠b then 1 else 0)+adj (b::t)
  rw [adj_snoc,h]
  by_cases e:a=b
  ·rw [if_neg λh=>h e.symm,if_neg λh=>h e];omega
  ·rw [if_pos (Ne.symm e),if_pos e];omega
theorem nz_rev (l:List Int):nz l.reverse=(nz l).reverse:=by unfold nz;rw [List.filter_reverse,List.map_reverse]
theorem adj_neg:∀ l:List Int,adj (l.map λx=>-x)=adj l
 | []=>rfl
 | [_]=>rfl
 | a::b::t=>by
  have h:=adj_neg (b::t)
  show (if -a≠-b then 1 else 0)+adj ((b::t).map λx=>-x)=_
  rw [h]
  show _=(if a≠b then 1 else 0)+_
  congr 1
  by_cases e:a=b
  ·rw [if_neg λh=>h (by omega),if_neg λh=>h e]
  ·rw [if_pos (by omega),if_pos e]
theorem nz_neg:∀ l:List Int,nz (l.map λx=>-x)=(nz l).map λx=>-x
 | []=>rfl
 | x::t=>by
  have h:=nz_neg t
  rw [List.map_cons]
  by_cases e:x=0
  ·subst e;rw [show -(0:Int)=0 from rfl,nz_zero,nz_zero,h]
  ·rw [nz_cons e,nz_cons (by omega),h,List.map_cons]
   congr 1
   unfold sgn1
   by_cases q:x<0
   ·rw [if_pos q,if_neg (by omega)];rfl
   ·rw [if_neg q,if_pos (by omega)]
theorem drop_gt {l:List Int} {i:Nat} (h:i<l.length):l.drop i=gt l i::l.drop (i+1):=by
 rw [List.drop_eq_getElem_cons h];congr 1
 unfold gt;simp [h]
theorem chi_l {l:List Int} (hl:l.length<=1000):∀ (d g i:Nat) (c s:Int),l.length - i=d->d<g->i<=l.length->0<=c->c<=i ->
  bD.pl29 F g c s l l.length i=some (c+ch s (l.drop i)):=by
 intro d
 induction d with
 | zero=>
  intro g i c s hd hg hi hc hc2
  obtain ⟨g,rfl⟩:∃ g',g=g'+1:=⟨g - 1,by omega⟩
  rw [bD.pl29,decide_eq_false (by omega),cond_false,List.drop_eq_nil_of_le (by omega)]
  show some c=some (c+0);rw [Int.add_zero]
 | succ d ih=>
  intro g i c s hd hg hi hc hc2
  obtain ⟨g,rfl⟩:∃ g',g=g'+1:=⟨g - 1,by omega⟩
  have hix:ix l (i:Int)=some i:=by unfold ix;rw [if_pos (by omega)];congr 1
  have es:∀ x:Int,gS.p F x=some (sgn1 x):=λx=>by
   unfold gS.p sgn1
   by_cases q:x<0
   ·rw [decide_eq_true q,cond_true,if_pos q]
   ·rw [decide_eq_false q,cond_false,if_neg q]
  have i1:=ap (x:=(i:Int)+1) (by omega) (by omega)
  rw [drop_gt (show i<l.length by omega)]
  rw [bD.pl29,decide_eq_true (by omega),cond_true,hix,Option.bind_some]
  unfold bD.pj4 bD.pj6 bD.pj5
  rw [i1]
  show _=some (c+if gt l i=0 then ch s (l.drop (i+1)) else (if s≠0/\sgn1 (gt l i)≠s then 1 else 0)+ch (sgn1 (gt l i)) (l.drop (i+1)))
  by_cases e:gt l i=0
  ·rw [e,beq_self_eq_true,cond_true,if_pos rfl]
   exact ih g (i+1) c s (by omega) (by omega) (by omega) hc (by omega)
  ·rw [show (gt l i==0)=false from beq_eq_false_iff_ne.2 e,cond_false,if_neg e,es,Option.bind_some,Option.bind_some,Option.bind_some]
   by_cases h:s=0
   ·rw [h,bne_self_eq_false,cond_false,if_neg λq=>q.1 rfl,Int.zero_add]
    exact ih g (i+1) c _ (by omega) (by omega) (by omega) hc (by omega)
   ·rw [show (s != 0)=true from bne_iff_ne.2 h,cond_true]
    by_cases q:sgn1 (gt l i)=s
    ·rw [q,bne_self_eq_false,cond_false,if_neg λh=>h.2 rfl,Int.zero_add]
     exact ih g (i+1) c s (by omega) (by omega) (by omega) hc (by omega)
    ·rw [show (sgn1 (gt l i) != s)=true from bne_iff_ne.2 q,cond_true,if_pos ⟨h,q⟩,ap (x:=c+1) (by omega) (by omega),<-Int.add_assoc]
     exact ih g (i+1) (c+1) (sgn1 (gt l i)) (by omega) (by omega) (by omega) (by omega) (by omega)
theorem chs_l {l:List Int} (hl:l.length<=1000):∀ (d g i:Nat) (c s:Int),l.length - i=d->d<g->i<=l.length->0<=c->c<=i->(s=1\/s=-1) ->
  bK.pl29 F g l c s i=some (c+ch s (l.drop i)):=by
 intro d
 induction d with
 | zero=>
  intro g i c s hd hg hi hc hc2 hs
  obtain ⟨g,rfl⟩:∃ g',g=g'+1:=⟨g - 1,by omega⟩
  rw [bK.pl29,decide_eq_false (by omega),cond_false,List.drop_eq_nil_of_le (by omega)]
  show some c=some (c+0);rw [Int.add_zero]
 | succ d ih=>
  intro g i c s hd hg hi hc hc2 hs
  obtain ⟨g,rfl⟩:∃ g',g=g'+1:=⟨g - 1,by omega⟩
  have hix:ix l (i:Int)=some i:=by unfold ix;rw [if_pos (by omega)];congr 1
  have i1:=ap (x:=(i:Int)+1) (by omega) (by omega)
  have w1:=ap (x:=c+1) (by omega) (by omega)
  have w2:IntKind.i64.wrap (0 - s)=-s:=by rcases hs with e | e <;> subst e <;> rfl
  have keep:∀ x,ch s (l.drop (i+1))=x->bK.pl29 F g l c s ((i:Int)+1)=some (c+x):=λx e=>by
   rw [<- e];exact ih g (i+1) c s (by omega) (by omega) (by omega) hc (by omega) hs
  have turn:bK.pl29 F g l (c+1) (-s) ((i:Int)+1)=some (c+(1+ch (-s) (l.drop (i+1)))):=by
   rw [<- Int.add_assoc];exact ih g (i+1) (c+1) (-s) (by omega) (by omega) (by omega) (by omega) (by omega) (by omega)
  rw [drop_gt (show i<l.length by omega)]
  rw [bK.pl29,decide_eq_true (by omega),cond_true,hix,Option.bind_some,Option.bind_some,Option.bind_some]
  unfold bK.pj3 bK.pj4
  rw [i1,w1,w2]
  show _=some (c+if gt l i=0 then ch s (l.drop (i+1)) else (if s≠0/\sgn1 (gt l i)≠s then 1 else 0)+ch (sgn1 (gt l i)) (l.drop (i+1)))
  rcases Int.lt_trichotomy (gt l i) 0 with q | q | q
  ·have e1:sgn1 (gt l i)=-1:=if_pos q
   rw [decide_eq_false (p:=gt l i>0) (by omega),cond_false,decide_eq_true (p:=gt l i<0) q,cond_true,if_neg (by omega),e1]
   rcases hs with e | e
   ·subst e
    rw [decide_eq_true (by decide),cond_true,if_pos (by decide)]
    exact turn
   ·subst e
    rw [decide_eq_false (by decide),cond_false,if_neg (by decide),Int.zero_add]
    exact keep _ rfl
  ·rw [decide_eq_false (p:=gt l i>0) (by omega),cond_false,decide_eq_false (p:=gt l i<0) (by omega),cond_false,if_pos q]
   exact keep _ rfl
  ·have e1:sgn1 (gt l i)=1:=if_neg (by omega)
   rw [decide_eq_true (p:=gt l i>0) (by omega),cond_true,decide_eq_false (p:=gt l i<0) (by omega),cond_false,if_neg (by omega),e1]
   rcases hs with e | e
   ·subst e
    rw [decide_eq_false (by decide),cond_false,if_neg (by decide),Int.zero_add]
    exact keep _ rfl
   ·subst e
    rw [decide_eq_true (by decide),cond_true,if_pos (by decide)]
    exact turn
theorem chi {l:List Int} (hl:l.length<=1000) (hF:1000<F):bD.p F l=some (adj (nz l)):=by
 unfold bD.p
 have:=chi_l (F:=F) hl l.length F 0 0 0 (by omega) (by omega) (by omega) (by omega) (by omega)
 rw [show ((0:Nat):Int)=0 from rfl,List.drop_zero,Int.zero_add,ch_0] at this
 exact this
theorem chs {t:List Int} (hl:(1::t).length<=1000) (hF:1000<F):bK.p F (1::t)=some (adj (nz (1::t))):=by
 unfold bK.p
 have:=chs_l (F:=F) hl (1::t).length F 0 0 1 (by omega) (by omega) (by omega) (by omega) (by omega) (.inl rfl)
 rw [show ((0:Nat):Int)=0 from rfl,List.drop_zero,Int.zero_add,ch_1] at this
 exact this
end Go.Proofs.Ytokekkacliomkaa.AE
end
section
namespace Go.Proofs.Ytokekkacliomkaa.AE
open Go Go.AE Go.Proofs
section
variable {R C F:Nat} {A:Mat}
theorem isM_true (hR:R<=48) (hC:C<=48) (hF:5000000<F) (hb:Bd R C A):c_.p F R C (mk R C A)=some true:=by
 have hm:R * C<=48 * 48:=Nat.mul_le_mul hR hC
 unfold c_.p gQ.p gr.p iy.p cZ.p
 rw [decide_eq_true (show (0:Int)<=R by omega),decide_eq_true (show (R:Int)<=48 by omega)]
 simp only [cond_true,Option.bind_some]
 rw [decide_eq_true (show (0:Int)<=C by omega),decide_eq_true (show (C:Int)<=48 by omega)]
 simp only [cond_true,Option.bind_some]
 rw [<- Int.natCast_mul,ap (by omega) (by omega),dG,beq_self_eq_true,cond_true]
 obtain ⟨r,e,h⟩:=implM_l (F:=F) (l:=mk R C A) (by rw [dG];omega) (mk R C A).length F 0 (by omega) (by rw [dG];omega) (by omega)
 rw [dG] at e
 rw [e,Option.bind_some,Option.bind_some]
 have:¬ r>=0:=h.2 λa _ ha=>by
  rw [dG] at ha
  have hC0:0<C:=by
   rcases Nat.eq_zero_or_pos C with q | q
   ·subst q;simp at ha
   ·exact q
  have h1:a / C<R:=(Nat.div_lt_iff_lt_mul hC0).2 ha
  have h2:=Nat.mod_lt a hC0
  have e2:gt (mk R C A) a=A ((a / C:Nat):Int) ((a % C:Nat):Int):=by
   unfold gt mk
   rw [List.getD_eq_getElem?_getD,List.getElem?_map,List.getElem?_range ha];rfl
  rw [e2]
  exact hb _ _ (Int.natCast_nonneg _) (Int.ofNat_lt.2 h1) (Int.natCast_nonneg _) (Int.ofNat_lt.2 h2)
 rw [decide_eq_false this];rfl
end
variable {F n:Nat} {A:Mat}
def trM (A:Mat) (i j:Int):Mat:=λa b=>if b<i\/b=i/\a<j then A b a else 0
theorem tr_in (hn:n<=48) {i:Int} (i0:0<=i) (i1:i<n) {pC}:∀ (d g:Nat) (j:Int),n - j=d->d<g->0<=j->j<=n ->
  bv.pl3931 F pC g n (mk n n A) n n (mk n n (trM A i j)) n i i n j=pC n (mk n n A) n n (mk n n (trM A (i+1) 0)) n (i+1):=by
 intro d
 induction d with
 | zero=>
  intro g j hd hg hj hj2
  obtain ⟨g,rfl⟩:∃ g',g=g'+1:=⟨g - 1,by omega⟩
  rw [bv.pl3931,decide_eq_false (by omega),cond_false]
  unfold bv.pj4 bv.pj3
  rw [ap (x:=i+1) (by omega) (by omega)]
  have e:mk n n (trM A i j)=mk n n (trM A (i+1) 0):=cY λa b a0 a1 b0 b1=>by
   unfold trM
   by_cases h:b<i\/b=i/\a<j
   ·rw [if_pos h,if_pos (by omega)]
   ·rw [if_neg h,if_neg (by omega)]
  rw [e]
 | succ d ih=>
  intro g j hd hg hj hj2
  obtain ⟨g,rfl⟩:∃ g',g=g'+1:=⟨g - 1,by omega⟩
  rw [bv.pl3931,decide_eq_true (by omega),cond_true,eL (i:=j) (j:=i) (by omega) (by omega) (by omega) (by omega) i0 i1,Option.bind_some,eL (i:=i) (j:=j) (by omega) (by omega) i0 i1 (by omega) (by omega),Option.bind_some,Option.bind_some,
   fj (i:=i) (j:=j) i0 i1 (by omega) (by omega),jF (i:=j) (j:=i) (by omega) (by omega) i0 i1,ap (x:=j+1) (by omega) (by omega)]
  have e:upd (trM A i j) j i (A i j)=trM A i (j+1):=by
   funext a b
   unfold upd trM
   by_cases h:a=j/\b=i
   ·rw [if_pos h,if_pos (by omega),h.1,h.2]
   ·rw [if_neg h]
    by_cases h2:b<i\/b=i/\a<j
    ·rw [if_pos h2,if_pos (by omega)]
    ·rw [if_neg h2,if_neg (by omega)]
  rw [e]
  exact ih g (j+1) (by omega) (by omega) (by omega) (by omega)
theorem tr_out (hn:n<=48) (hF:1000<F):∀ (d g:Nat) (i:Int),n - i=d->d<g->0<=i->i<=n ->
  bv.pl61 F g n (mk n n A) n n (mk n n (trM A i 0)) n i=some ((n:Int),(n:Int),mk n n (tr A)):=by
 intro d
 induction d with
 | zero=>
  intro g i hd hg hi hi2
  obtain ⟨g,rfl⟩:∃ g',g=g'+1:=⟨g - 1,by omega⟩
  rw [bv.pl61,decide_eq_false (by omega),cond_false]
  have e:mk n n (trM A i 0)=mk n n (tr A):=cY λa b a0 a1 b0 b1=>if_pos (by omega)
  rw [e]
 | succ d ih=>
  intro g i hd hg hi hi2
  obtain ⟨g,rfl⟩:∃ g',g=g'+1:=⟨g - 1,by omega⟩
  rw [bv.pl61,decide_eq_true (by omega),cond_true,tr_in hn hi (by omega) n F 0 (by omega) (by omega) (by omega) (by omega)]
  exact ih g (i+1) (by omega) (by omega) (by omega) (by omega)
theorem transp (hn:n<=48) (hF:5000000<F) (hb:Bd n n A):bv.p F n n (mk n n A)=some ((n:Int),(n:Int),mk n n (tr A)):=by
 have hm:n * n<=48 * 48:=Nat.mul_le_mul hn hn
 unfold bv.p cO.p mkn
 rw [isM_true hn hn hF hb,Option.bind_some,Bool.not_true,cond_false,<-Int.natCast_mul,ap (by omega) (by omega),if_pos (by omega),Option.bind_some,Option.bind_some,Int.toNat_natCast,mk_zero]
 simp only []
 have e:mk n n (λ_ _=>0)=mk n n (trM A 0 0):=cY λa b a0 a1 b0 b1=>(if_neg (by omega)).symm
 rw [e]
 exact tr_out hn (by omega) n F 0 (by omega) (by omega) (by omega) (by omega)
end Go.Proofs.Ytokekkacliomkaa.AE
end
section
namespace Go.Proofs.Ytokekkacliomkaa.AE
open Go Go.AE Go.Proofs
variable {R C F:Nat} {A:Mat} {i j k:Int}
end Go.Proofs.Ytokekkacliomkaa.AE
end
section
namespace Go.Proofs.Ytokekkacliomkaa.AE
open Go Go.AE Go.Proofs
variable {R C F:Nat} {A:Mat} {i j k:Int}
end Go.Proofs.Ytokekkacliomkaa.AE
end
section
namespace Go.Proofs.Ytokekkacliomkaa.AE
open Go Go.AE Go.Proofs
variable {R C F:Nat} {A:Mat} {i j k:Int}
end Go.Proofs.Ytokekkacliomkaa.AE
end
section
namespace Go.Proofs.Ytokekkacliomkaa.AE
open Go Go.AE Go.Proofs
variable {F n:Nat} {A:Mat}
theorem list_ext {l l':List Int} (h:l.length=l'.length) (g:∀ i:Nat,i<l.length->gt l i=gt l' i):l=l':=by
 apply List.ext_getElem h
 intro i h1 h2
 have:=g i h1
 unfold gt at this
 simpa [h1,h2] using this
theorem gt_rev {l:List Int} {i:Nat} (h:i<l.length):gt l.reverse i=gt l (l.length - 1 - i):=by
 unfold gt
 rw [List.getD_eq_getElem?_getD,List.getD_eq_getElem?_getD,List.getElem?_reverse h]
theorem sg2_v:∀ i:Nat,sg2 i=1 - 2 * ((i % 2:Nat):Int)
 | 0=>rfl
 | i+1=>by
  have:=sg2_v i
  show - sg2 i=_
  omega
theorem sg2_add (a:Nat):∀ b:Nat,sg2 (a+b)=sg2 a * sg2 b
 | 0=>(Int.mul_one _).symm
 | b+1=>by
  show - sg2 (a+b)=sg2 a * - sg2 b
  rw [sg2_add a b,Int.mul_neg]
theorem sgw (i:Nat):IntKind.i64.wrap (1 - IntKind.i64.wrap (2 * Int.tmod (i:Int) 2))=sg2 i:=by
 rw [sg2_v,show Int.tmod (i:Int) 2=((i % 2:Nat):Int) from rfl,ap (x:=2 * ((i % 2:Nat):Int)) (by omega) (by omega),ap (by omega) (by omega)]
def tl (s:List Int):Nat->List Int
 | 0=>[]
 | i+1=>tl s i++[sg2 i * gt s i]
theorem tl_len (s:List Int):∀ i:Nat,(tl s i).length=i
 | 0=>rfl
 | i+1=>by show (tl s i++_).length=_;rw [List.length_append,tl_len s i];rfl
theorem tl_gt (s:List Int) {t:Nat}:∀ m:Nat,t<m->gt (tl s m) t=sg2 t * gt s t
 | 0,h=>by omega
 | m+1,h=>by
  have hl:=tl_len s m
  show gt (tl s m++[sg2 m * gt s m]) t=_
  by_cases e:t=m
  ·have:=gap_hi (l:=tl s m) (x:=sg2 m * gt s m)
   rw [hl] at this
   rw [e,this]
  ·have:=gap_lo (l:=tl s m) (x:=sg2 m * gt s m) (a:=(t:Int)) (by omega) (by omega)
   rw [Int.toNat_natCast] at this
   rw [this,tl_gt s m (by omega)]
theorem cons1 {l:List Int} (h:0<l.length) (g:gt l 0=1):∃ t,l=1::t:=by
 cases l with
 | nil=>simp at h
 | cons a t=>exact ⟨t,by have:a=1:=g;rw [this]⟩
theorem turn_l (hn:n<=12) {s:List Int} (hl:s.length=n+1) (hs:∀ t:Nat,t<=n->-10000000000000<=gt s t/\gt s t<=10000000000000):∀ (d g i:Nat),s.length - i=d->d<g->i<=s.length ->
  bE.pl125 F g s (tl s i) i=bE.pj1 F s (tl s s.length):=by
 intro d
 induction d with
 | zero=>
  intro g i hd hg hi
  obtain ⟨g,rfl⟩:∃ g',g=g'+1:=⟨g - 1,by omega⟩
  obtain rfl:i=s.length:=by omega
  rw [bE.pl125,decide_eq_false (by omega),cond_false]
 | succ d ih=>
  intro g i hd hg hi
  obtain ⟨g,rfl⟩:∃ g',g=g'+1:=⟨g - 1,by omega⟩
  have hix:ix s (i:Int)=some i:=by unfold ix;rw [if_pos (by omega)];congr 1
  have hb:=hs i (by omega)
  have ht:=tl_len s i
  have hm:gt s i * sg2 i=sg2 i * gt s i:=Int.mul_comm _ _
  have hw:IntKind.i64.wrap (gt s i * sg2 i)=sg2 i * gt s i:=by
   rw [hm]
   rcases sg2_or i with e | e <;> rw [e] <;> exact ap (by omega) (by omega)
  rw [bE.pl125,decide_eq_true (by omega),cond_true,hix,Option.bind_some,sgw,hw,app1 (by omega),Option.bind_some,ap (x:=(i:Int)+1) (by omega) (by omega)]
  exact ih g (i+1) (by omega) (by omega) (by omega)
theorem alt_l (hn:n<=12) {c:List Int} {r:Int} (hc:c.length=n+1) (hb:∀ t:Nat,t<=n->-10000000000000<=gt c t/\gt c t<=10000000000000):∀ (d g i:Nat) (l:List Int),n+1 - i=d->d<g->i<=n+1->l.length=n+1->(∀ t:Nat,t<=n->gt l t=if t<i then gt c t * sg2 t else gt c t) ->
  ∃ l',l'.length=n+1/\(∀ t:Nat,t<=n->gt l' t=gt c t * sg2 t)/\co.pl61 F g l r ((n+1:Nat):Int) i=co.pj1 F l' r:=by
 intro d
 induction d with
 | zero=>
  intro g i l hd hg hi hl h
  obtain ⟨g,rfl⟩:∃ g',g=g'+1:=⟨g - 1,by omega⟩
  rw [co.pl61,decide_eq_false (by omega),cond_false]
  exact ⟨l,hl,λt ht=>by rw [h t ht,if_pos (by omega)],rfl⟩
 | succ d ih=>
  intro g i l hd hg hi hl h
  obtain ⟨g,rfl⟩:∃ g',g=g'+1:=⟨g - 1,by omega⟩
  have hix:ix l (i:Int)=some i:=by unfold ix;rw [if_pos (by omega)];congr 1
  have hp:iU.p F (i:Int)=some (sg2 i):=by unfold iU.p;rw [sgw]
  have h0:=hb i (by omega)
  have hi2:gt l i=gt c i:=by rw [h i (by omega),if_neg (by omega)]
  have hw:IntKind.i64.wrap (gt c i * sg2 i)=gt c i * sg2 i:=by
   rcases sg2_or i with e | e <;> rw [e] <;> exact ap (by omega) (by omega)
  rw [co.pl61,decide_eq_true (by omega),cond_true,hix,Option.bind_some,hp,Option.bind_some,Option.bind_some,Option.bind_some,hi2,hw,ap (x:=(i:Int)+1) (by omega) (by omega)]
  refine ih g (i+1) _ (by omega) (by omega) (by omega) (by rw [List.length_set];exact hl) λt ht=>?_
  by_cases e:t=i
  ·subst e;rw [gt_set_eq (by omega),if_pos (by omega)]
  ·rw [gt_set_ne (Ne.symm e),h t ht]
   by_cases q:t<i
   ·rw [if_pos q,if_pos (by omega)]
   ·rw [if_neg q,if_neg (by omega)]
theorem sig_w (hn:n<=12) (hF:5000000<F) (hV:Pi n (mx n A)<=1000000000):∃ s:List Int,s.length=n+1/\(∀ k:Nat,k<=n->gt s k=ek n A k)/\co.p F n n (mk n n A)=some (IntKind.i64.wrap (adj (nz (tl s (n+1))) - adj (nz s)))/\bE.p F n n (mk n n A)=some (IntKind.i64.wrap (adj (nz (tl s (n+1))) - adj (nz s))):=by
 have h12:2 ^ n<=4096:=Nat.le_trans (Nat.pow_le_pow_right (n:=2) (by omega) hn) (by decide)
 have hs:=sml hn hV
 obtain ⟨c,hc,e1⟩:=char_p (F:=F) hn (by omega) hs
 have hk:mkn (IntKind.i64.wrap ((n:Int)+1)) (0:Int)=some (List.replicate (n+1) 0):=by
  rw [ap (by omega) (by omega)]
  unfold mkn
  rw [if_pos (by omega)];congr 1
 obtain ⟨s,h0,e2⟩:=sums_v (F:=F) hn (by omega) hV (2 ^ n) F 0 (List.replicate (n+1) 0) (Nat.sub_zero _) (by omega) (Nat.zero_le _) ⟨List.length_replicate,λk hk=>by
  unfold gt
  rw [List.getD_eq_getElem?_getD,List.getElem?_replicate,if_pos (by omega)];rfl⟩
 have he:∀ k:Nat,k<=n->gt s k=ek n A k:=λk hk=>by
  rw [h0.val k hk];unfold ek;rw [Ss_Sn];rfl
 have hsl:=h0.len
 have hsb:∀ t:Nat,t<=n->-10000000000000<=gt s t/\gt s t<=10000000000000:=λt ht=>by rw [he t ht];exact hs.e t
 have et:=turn_l (F:=F) hn hsl hsb s.length F 0 (by omega) (by omega) (by omega)
 have htl:=tl_len s (n+1)
 have c1:c=(tl s (n+1)).reverse:=list_ext (by rw [List.length_reverse,htl,hc.len]) λi hi=>by
  have hi:i<n+1:=by rw [<- hc.len];exact hi
  rw [gt_rev (by omega),htl,tl_gt s (n+1) (by omega),he _ (by omega)]
  have:=hc.val (n - i) (by omega) (by omega)
  rw [show n - (n - i)=i by omega] at this
  rw [this,show n+1 - 1 - i=n - i by omega]
 have hcl:=hc.len
 have hcb:∀ t:Nat,t<=n->-10000000000000<=gt c t/\gt c t<=10000000000000:=λt ht=>by
  have h1:=hc.val (n - t) (by omega) (by omega)
  have h2:=hs.e (n - t)
  rw [show n - (n - t)=t by omega] at h1
  rw [h1]
  rcases sg2_or (n - t) with e | e <;> rw [e] <;> omega
 obtain ⟨l',l1,l2,e3⟩:=alt_l (F:=F) hn (r:=adj (nz c)) hcl hcb (n+1) F 0 c (by omega) (by omega) (by omega) hcl λt ht=>by rw [if_neg (by omega)]
 have l3:∀ i:Nat,i<n+1->gt l' i=sg2 n * gt s (n - i):=λi hi=>by
  have h1:=hc.val (n - i) (by omega) (by omega)
  rw [show n - (n - i)=i by omega] at h1
  rw [l2 i (by omega),h1,he _ (by omega),Int.mul_assoc,Int.mul_comm (ek n A (n - i)),<-Int.mul_assoc,<-sg2_add,show n - i+i=n by omega]
 have a1:adj (nz c)=adj (nz (tl s (n+1))):=by rw [c1,nz_rev,adj_rev]
 have a2:adj (nz l')=adj (nz s):=by
  rcases sg2_or n with e | e
  ·have:l'=s.reverse:=list_ext (by rw [List.length_reverse];omega) λi hi=>by
    rw [gt_rev (by omega),l3 i (by omega),e,Int.one_mul];congr 1;omega
   rw [this,nz_rev,adj_rev]
  ·have:l'=(s.map λx=>-x).reverse:=list_ext (by rw [List.length_reverse,List.length_map];omega) λi hi=>by
    rw [gt_rev (by rw [List.length_map];omega),l3 i (by omega),e,List.length_map,show s.length - 1 - i=n - i by omega]
    have hlt:n - i<s.length:=by omega
    unfold gt
    simp [hlt]
   rw [this,nz_rev,adj_rev,nz_neg,adj_neg]
 obtain ⟨t1,ht1⟩:=cons1 (l:=s) (by omega) (by rw [he 0 (by omega),ek_zero])
 obtain ⟨t2,ht2⟩:=cons1 (l:=tl s (n+1)) (by omega) (by rw [tl_gt s (n+1) (by omega),he 0 (by omega),ek_zero];rfl)
 refine ⟨s,hsl,he,?_,?_⟩
 ·unfold co.p
  rw [e1,Option.bind_some,chi (by omega) (by omega),Option.bind_some,hcl]
  rw [show ((0:Nat):Int)=0 from rfl] at e3
  rw [e3]
  unfold co.pj1
  rw [chi (by omega) (by omega),Option.bind_some,a1,a2]
 ·unfold bE.p
  rw [hk,Option.bind_some]
  rw [show ((0:Nat):Int)=0 from rfl] at e2 et
  rw [e2]
  unfold bE.pj2
  rw [show tl s 0=[] from rfl] at et
  rw [et,hsl]
  unfold bE.pj1
  have k1:bK.p F (tl s (n+1))=some (adj (nz (tl s (n+1)))):=by
   rw [ht2] at htl ⊢
   exact chs (by omega) (by omega)
  have k2:bK.p F s=some (adj (nz s)):=by
   rw [ht1] at hsl ⊢
   exact chs (by omega) (by omega)
  rw [k1,Option.bind_some,k2,Option.bind_some]
theorem sig_v (hn:n<=12) (hF:5000000<F) (hV:Pi n (mx n A)<=1000000000):∃ y,co.p F n n (mk n n A)=some y/\bE.p F n n (mk n n A)=some y:=by
 obtain ⟨s,_,_,h1,h2⟩:=sig_w (F:=F) hn hF hV
 exact ⟨_,h1,h2⟩
end Go.Proofs.Ytokekkacliomkaa.AE
end
section
namespace Go.Proofs.Ytokekkacliomkaa.AE
open Go Go.AE Go.Proofs
variable {R C F:Nat} {A:Mat}
structure FV (R C:Nat) (A:Mat) (y:List Int):Prop where
 r:y.length<=R
 c:y.length<=C
 v:∀ a:Nat,a<y.length->y[a]?=some (A a a)/\0<A a a/\A a a<=1000000000000
 z:∀ a:Int,(y.length:Int)<=a->a<R->a<C->A a a=0
theorem facs_0 (hR:R<=48) (hC:C<=48) {n0:Int} (hn:n0=if (C:Int)<R then (C:Int) else R) {x:List Int}:∀ (m g:Nat) (i:Int),n0 - i=m->m<g->0<=i->(∀ a:Int,i<=a->a<R->a<C->A a a=0) ->
  bT.pl125 F g C (mk R C A) x n0 i=some (x,0):=by
 intro m
 induction m with
 | zero=>
  intro g i hm hg hi hz
  obtain ⟨g,rfl⟩:∃ g',g=g'+1:=⟨g - 1,by omega⟩
  rw [bT.pl125,decide_eq_false (by omega),cond_false]
 | succ m ih=>
  intro g i hm hg hi hz
  obtain ⟨g,rfl⟩:∃ g',g=g'+1:=⟨g - 1,by omega⟩
  have h48:n0<=C/\n0<=R:=by rw [hn];split <;> omega
  rw [bT.pl125,decide_eq_true (by omega),cond_true]
  simp (disch:=omega) only [eL,fj,Option.bind_some]
  rw [hz i (by omega) (by omega) (by omega),show ((0:Int) != 0)=false from rfl,cond_false]
  unfold bT.pj2
  rw [ap (by omega) (by omega)]
  exact ih g (i+1) (by omega) (by omega) (by omega) λa h1=>hz a (by omega)
theorem facs_l (hR:R<=48) (hC:C<=48) (hD:Dia R C A) (hb:Bd R C A) {n0:Int} (hn:n0=if (C:Int)<R then (C:Int) else R):∀ (m g:Nat) (x:List Int),n0 - x.length=m->m<g ->
  (∀ a:Nat,a<x.length->x[a]?=some (A a a)/\0<A a a/\A a a<=1000000000000)->∃ y,bT.pl125 F g C (mk R C A) x n0 x.length=some (y,0)/\FV R C A y:=by
 intro m
 have h48:n0<=C/\n0<=R/\((C:Int)<=n0\/(R:Int)<=n0):=by rw [hn];split <;> omega
 induction m with
 | zero=>
  intro g x hm hg hx
  obtain ⟨g,rfl⟩:∃ g',g=g'+1:=⟨g - 1,by omega⟩
  rw [bT.pl125,decide_eq_false (by omega),cond_false]
  exact ⟨x,rfl,by omega,by omega,hx,λa h1 h2 h3=>by omega⟩
 | succ m ih=>
  intro g x hm hg hx
  by_cases h0:A x.length x.length=0
  ·refine ⟨x,?_,by omega,by omega,hx,λa h1 h2 h3=>?_⟩
   ·refine facs_0 hR hC hn (m+1) g x.length hm hg (by omega) λa h1 h2 h3=>?_
    have:=hD.c x.length a (by omega) h1 h2 h3
    rw [h0] at this;exact Int.zero_dvd.1 this
   ·have:=hD.c x.length a (by omega) h1 h2 h3
    rw [h0] at this;exact Int.zero_dvd.1 this
  ·obtain ⟨g,rfl⟩:∃ g',g=g'+1:=⟨g - 1,by omega⟩
   rw [bT.pl125,decide_eq_true (by omega),cond_true]
   simp (disch:=omega) only [eL,fj,Option.bind_some]
   rw [show (A x.length x.length != 0)=true from bne_iff_ne.2 h0,cond_true]
   unfold apn
   rw [if_pos (by simp;omega),Option.bind_some]
   unfold bT.pj2
   have hl:((x++[A x.length x.length]).length:Int)=x.length+1:=by simp
   rw [ap (by omega) (by omega),<-hl]
   refine ih g (x++[A x.length x.length]) (by omega) (by omega) λa ha=>?_
   rw [List.length_append,List.length_singleton] at ha
   by_cases e:a=x.length
   ·subst e
    have h1:=hD.n x.length (by omega) (by omega) (by omega)
    have h2:=hb x.length x.length (by omega) (by omega) (by omega) (by omega)
    exact ⟨by rw [List.getElem?_append_right (Nat.le_refl _),Nat.sub_self];rfl,by omega,h2.2⟩
   ·rw [List.getElem?_append_left (by omega)]
    exact hx a (by omega)
theorem factors_v (hR:R<=48) (hC:C<=48) (hF:1000000000000000<=F) (hb:Bd R C A) :
  bT.p F R C (mk R C A)=some ([],3)\/∃ y v,Red R C A v/\Dia R C v.d/\FV R C v.d y/\bT.p F R C (mk R C A)=some (y,0):=by
 unfold bT.p
 rcases smith_both hR hC hF hb with ⟨e1,_⟩ | ⟨v,hv,hr,hd,_,e1,_⟩
 ·left;rw [e1];rfl
 ·right
  rw [e1]
  simp only [Option.bind_some]
  rw [show ((0:Int) != 0)=false from rfl,cond_false]
  obtain ⟨y,h1,h2⟩:=facs_l (F:=F) hR hC hd hv.1 rfl (if (C:Int)<R then (C:Int) else R).toNat F [] (by simp;split <;> omega) (by split <;> omega) λa ha=>by simp at ha
  exact ⟨y,v,hr.1,hd,h2,h1⟩
end Go.Proofs.Ytokekkacliomkaa.AE
end
section
namespace Go.Proofs.Ytokekkacliomkaa.AE
open Go Go.AE Go.Proofs
variable {n:Nat} {A X Y:Mat}
def Sy (n:Nat) (A:Mat):Prop:=∀ i j:Int,0<=i->i<n->0<=j->j<n->A i j=A j i
theorem cnt_le (S:Int->Bool):∀ n:Nat,cnt n S<=n
 | 0=>Nat.le_refl _
 | n+1=>by
  have:=cnt_le S n
  show cnt n S+(if S n=true then 1 else 0)<=_
  split <;> omega
theorem ek_big {k:Nat} (h:n<k):ek n A k=0:=by
 unfold ek
 rw [Ss_congr (g:=λ_=>0) λS _=>if_neg (by have:=cnt_le S n;omega),Ss_nul]
theorem Ek_big {i j:Int}:Ek n A n i j=0:=by
 unfold Ek
 rw [Ss_congr (g:=λ_=>0) λS _=>if_neg (by have:=cnt_le S n;omega),Ss_nul]
def av (n:Nat) (A:Mat) (x:Int->Int) (i:Int):Int:=Sg n λs=>A i s * x s
theorem sq0 (hA:Sy n A) {x:Int->Int} (h:∀ i:Int,0<=i->i<n->av n A (av n A x) i=0) {i:Int} (i0:0<=i) (i1:i<n):av n A x i=0:=by
 obtain ⟨y,hy⟩:∃ y,y=av n A x:=⟨_,rfl⟩
 have e:Sg n (λi=>y i * y i)=0:=by
  have e1:Sg n (λi=>y i * y i)=Sg n λi=>Sg n λs=>y i * (A i s * x s):=Sg_congr λi _ _=>by
   rw [Sg_mul];congr 1;rw [hy];rfl
  rw [e1,Sg_comm]
  refine Sg_zero λs s0 s1=>?_
  have h1:=h s s0 s1
  rw [<- hy] at h1
  rw [Sg_congr (g:=λi=>x s * (A s i * y i)) λi i0 i1=>by rw [hA i s i0 i1 s0 s1,<-Int.mul_assoc,Int.mul_comm (y i * A s i),Int.mul_comm (y i)],Sg_mul]
  show x s * av n A y s=0
  rw [h1,Int.mul_zero]
 have nn:∀ z:Int,0<=z * z:=λz=>by
  rcases Int.le_total 0 z with q | q
  ·exact Int.mul_nonneg q q
  ·exact Int.mul_nonneg_of_nonpos_of_nonpos q q
 have h2:=Sg_ge (f:=λi=>y i * y i) i0 (n:=n) (λz _ _=>nn (y z)) i1
 have h3:y i * y i=0:=by have:=nn (y i);omega
 rw [<- hy]
 rcases Int.mul_eq_zero.1 h3 with q | q <;> exact q
def Bk (n:Nat) (A:Mat):Nat->Mat
 | 0=>idM
 | k+1=>λi j=>ek n A (k+1) * idM i j - Ek n A k i j
theorem Ek_mul {i j:Int} (i0:0<=i) (i1:i<n) (j0:0<=j) (j1:j<n):∀ k:Nat,Ek n A k i j=mm n A (Bk n A k) i j
 | 0=>by rw [Ek_zero j0 j1];exact (mm_idr j0 j1).symm
 | k+1=>by
  rw [Ek_succ j0 j1]
  have e:mm n A (Bk n A (k+1)) i j=Sg n (λs=>ek n A (k+1) * (A i s * idM s j)+-1 * (A i s * Ek n A k s j)):=Sg_congr λs _ _=>by
   show A i s * (ek n A (k+1) * idM s j - Ek n A k s j)=_
   rw [Int.mul_sub,<-Int.mul_assoc,Int.mul_comm (A i s),Int.mul_assoc];omega
  rw [e,Sg_add,Sg_mul,Sg_mul]
  have h:mm n A idM i j=A i j:=mm_idr j0 j1
  unfold mm at h
  rw [h];omega
theorem Ek_last (hA:Sy n A) {r:Nat} (hz:∀ k:Nat,r<k->ek n A k=0):∀ (d k:Nat),k+d=n->r<=k->∀ i j:Int,0<=i->i<n->0<=j->j<n->Ek n A k i j=0
 | 0,k,hk,_,i,j,_,_,_,_=>by
  obtain rfl:k=n:=by omega
  exact Ek_big
 | d+1,k,hk,hr,i,j,i0,i1,j0,j1=>by
  have ih:=Ek_last hA hz d (k+1) (by omega) (by omega)
  rw [Ek_mul i0 i1 j0 j1]
  refine sq0 hA (x:=λs=>Bk n A k s j) (λi i0 i1=>?_) i0 i1
  have h:=ih i j i0 i1 j0 j1
  rw [Ek_succ j0 j1,hz (k+1) (by omega),Int.zero_mul] at h
  have e:av n A (av n A λs=>Bk n A k s j) i=Sg n λs=>A i s * Ek n A k s j:=Sg_congr λs s0 s1=>by
   rw [Ek_mul s0 s1 j0 j1];rfl
  omega
theorem mm_lin {c:Int} {i j:Int}:mm n A (λi j=>c * X i j - Y i j) i j=c * mm n A X i j - mm n A Y i j:=by
 have e:mm n A (λi j=>c * X i j - Y i j) i j=Sg n (λs=>c * (A i s * X s j)+-1 * (A i s * Y s j)):=Sg_congr λs _ _=>by
  show A i s * (c * X s j - Y s j)=_
  rw [Int.mul_sub,<-Int.mul_assoc,Int.mul_comm (A i s) c,Int.mul_assoc];omega
 rw [e,Sg_add,Sg_mul,Sg_mul]
 unfold mm;omega
theorem mm_linr {c:Int} {i j:Int}:mm n (λi j=>c * X i j - Y i j) A i j=c * mm n X A i j - mm n Y A i j:=by
 have e:mm n (λi j=>c * X i j - Y i j) A i j=Sg n (λs=>c * (X i s * A s j)+-1 * (Y i s * A s j)):=Sg_congr λs _ _=>by
  show (c * X i s - Y i s) * A s j=_
  rw [Int.sub_mul,Int.mul_assoc];omega
 rw [e,Sg_add,Sg_mul,Sg_mul]
 unfold mm;omega
theorem Ek_on (k:Nat):On n n (Ek n A (k+1)) λi j=>ek n A (k+1) * A i j - mm n A (Ek n A k) i j:=λ_ _ _ _ j0 j1=>Ek_succ j0 j1 k
theorem Ek_comm:∀ k:Nat,On n n (mm n A (Ek n A k)) (mm n (Ek n A k) A)
 | 0=>by
  have e:On n n (Ek n A 0) A:=λi j _ _ j0 j1=>Ek_zero j0 j1
  exact (On.mm On.refl e).trans (On.mm e On.refl).symm
 | k+1=>by
  refine (On.mm On.refl (Ek_on k)).trans (On.trans ?_ (On.mm (Ek_on k) On.refl).symm)
  intro i j i0 i1 j0 j1
  rw [mm_lin,mm_linr,mm_assoc]
  congr 1
  exact On.mm On.refl (Ek_comm k) i j i0 i1 j0 j1
theorem tr_cyc:Sg n (λi=>mm n X Y i i)=Sg n λi=>mm n Y X i i:=by
 unfold mm
 rw [Sg_comm]
 exact Sg_congr λi _ _=>Sg_congr λj _ _=>Int.mul_comm _ _
theorem Sg_upto {e:Int} {p:Nat}:∀ {n:Nat},p<=n->Sg n (λl=>if l<(p:Int) then e else 0)=p * e
 | 0,h=>by
  obtain rfl:p=0:=by omega
  show (0:Int)=((0:Nat):Int) * e
  omega
 | n+1,h=>by
  show Sg n _+(if (n:Int)<(p:Int) then e else 0)=_
  by_cases q:p=n+1
  ·subst q
   rw [if_pos (by omega),Sg_congr (g:=λl=>if l<(n:Int) then e else 0) λl _ h=>by rw [if_pos (by omega),if_pos h],Sg_upto (Nat.le_refl n)]
   rw [show ((n+1:Nat):Int)=(n:Int)+1 by omega,Int.add_mul];omega
  ·rw [if_neg (by omega),Sg_upto (by omega)];omega
theorem sym_rank (hA:Sy n A) {v:St} {p r:Nat} (hv:Red n n A v) (hd:∀ i j:Int,0<=i->i<n->0<=j->j<n->i≠j->v.d i j=0) (hp:p<=n) (h1:∀ l:Int,0<=l->l<p->v.d l l≠0) (h2:∀ l:Int,(p:Int)<=l->l<n->v.d l l=0)
  (hr:r<=n) (he:ek n A r≠0) (hz:∀ k:Nat,r<k->ek n A k=0):p=r:=by
 have z:=Ek_last hA hz (n - r) r (by omega) (Nat.le_refl r)
 cases r with
 | zero=>
  have za:On n n A λ_ _=>0:=λi j i0 i1 j0 j1=>by rw [<- Ek_zero (A:=A) (i:=i) j0 j1];exact z i j i0 i1 j0 j1
  rcases Nat.eq_zero_or_pos p with q | q
  ·exact q
  ·exfalso
   refine h1 0 (by omega) (by omega) ?_
   rw [hv.d 0 0 (by omega) (by omega) (by omega) (by omega)]
   refine Sg_zero λs _ _=>?_
   have:mm n v.l A 0 s=0:=Sg_zero λt t0 t1=>by rw [za t s t0 t1 (by assumption) (by assumption),Int.mul_zero]
   rw [this,Int.zero_mul]
 | succ q=>
  obtain ⟨e,hee⟩:∃ e,e=ek n A (q+1):=⟨_,rfl⟩
  obtain ⟨E,hE⟩:∃ E,E=Ek n A q:=⟨_,rfl⟩
  have ae:On n n (mm n A E) λi j=>e * A i j:=λi j i0 i1 j0 j1=>by
   have:=z i j i0 i1 j0 j1
   rw [Ek_on q i j i0 i1 j0 j1,<-hee,<-hE] at this
   have this:e * A i j - mm n A E i j=0:=this
   show mm n A E i j=e * A i j
   omega
  have ea:On n n (mm n E A) λi j=>e * A i j:=by
   have:=Ek_comm (n:=n) (A:=A) q
   rw [<- hE] at this
   exact this.symm.trans ae
  -- the columns of m
  have md:On n n (mm n v.m v.d) (mm n A v.r):=by
   refine (On.mm On.refl hv.d).trans ?_
   rw [<- mm_assoc,<-mm_assoc]
   exact On.mm ((On.mm hv.ml On.refl).trans On.idl) On.refl
  have mdv:∀ i l:Int,0<=l->l<n->mm n v.m v.d i l=v.m i l * v.d l l:=λi l l0 l1=>by
   have h:=Sg_one (f:=λs=>v.m i s * v.d s l) l0 (n:=n)
   rw [if_pos l1] at h
   rw [<- h]
   refine Sg_congr λs s0 s1=>?_
   by_cases c:s=l
   ·rw [if_pos c]
   ·rw [if_neg c,hd s l s0 s1 l0 l1 c,Int.mul_zero]
  have lo:∀ l:Int,0<=l->l<p->mm n (mm n v.l E) v.m l l=e:=λl l0 l1=>by
   have em:∀ i:Int,0<=i->i<n->mm n E v.m i l=e * v.m i l:=λi i0 i1=>by
    have g1:mm n E (mm n v.m v.d) i l=mm n E v.m i l * v.d l l:=by
     rw [<- mm_assoc]
     have h:=Sg_one (f:=λs=>mm n E v.m i s * v.d s l) l0 (n:=n)
     rw [if_pos (by omega)] at h
     rw [<- h]
     refine Sg_congr λs s0 s1=>?_
     by_cases c:s=l
     ·rw [if_pos c]
     ·rw [if_neg c,hd s l s0 s1 l0 (by omega) c,Int.mul_zero]
    have g2:mm n E (mm n v.m v.d) i l=e * (v.m i l * v.d l l):=by
     rw [On.mm On.refl md i l i0 i1 l0 (by omega),<-mm_assoc,On.mm ea On.refl i l i0 i1 l0 (by omega)]
     have:mm n (λi j=>e * A i j) v.r i l=e * mm n A v.r i l:=by
      unfold mm;rw [<- Sg_mul];exact Sg_congr λs _ _=>Int.mul_assoc _ _ _
     rw [this,<-md i l i0 i1 l0 (by omega),mdv i l l0 (by omega)]
    rw [g1,<-Int.mul_assoc] at g2
    exact Int.eq_of_mul_eq_mul_right (h1 l l0 l1) g2
   rw [mm_assoc]
   have:mm n v.l (mm n E v.m) l l=e * mm n v.l v.m l l:=by
    show Sg n _=e * Sg n _
    rw [<- Sg_mul]
    exact Sg_congr λs s0 s1=>by rw [em s s0 s1,<-Int.mul_assoc,Int.mul_comm (v.l l s) e,Int.mul_assoc]
   rw [this,hv.lm l l l0 (by omega) l0 (by omega)]
   show e * (if l=l then 1 else 0)=e
   rw [if_pos rfl,Int.mul_one]
  have la:On n n (mm n v.l A) (mm n v.d v.s):=by
   refine On.symm ((On.mm hv.d On.refl).trans ?_)
   rw [mm_assoc (C:=v.s)]
   exact (On.mm On.refl hv.rs).trans On.idr
  have hi:∀ l:Int,(p:Int)<=l->l<n->mm n (mm n v.l E) v.m l l=0:=λl l0 l1=>by
   refine Sg_zero λs s0 s1=>?_
   have ze:mm n v.l E l s=0:=by
    have e1:On n n E (mm n A (Bk n A q)):=λi j i0 i1 j0 j1=>by rw [hE];exact Ek_mul i0 i1 j0 j1 q
    rw [On.mm On.refl e1 l s (by omega) l1 s0 s1,<-mm_assoc]
    refine Sg_zero λt t0 t1=>?_
    have:mm n v.l A l t=0:=by
     rw [la l t (by omega) l1 t0 t1]
     refine Sg_zero λw w0 w1=>?_
     by_cases c:l=w
     ·rw [<- c,h2 l l0 l1,Int.zero_mul]
     ·rw [hd l w (by omega) l1 w0 w1 c,Int.zero_mul]
    rw [this,Int.zero_mul]
   rw [ze,Int.zero_mul]
  have t1:Sg n (λl=>mm n (mm n v.l E) v.m l l)=p * e:=by
   rw [<- Sg_upto (e:=e) hp]
   refine Sg_congr λl l0 l1=>?_
   by_cases c:l<(p:Int)
   ·rw [if_pos c];exact lo l l0 c
   ·rw [if_neg c];exact hi l (by omega) l1
  have t2:Sg n (λl=>mm n (mm n v.l E) v.m l l)=((q:Int)+1) * e:=by
   rw [tr_cyc,hee,<-Ek_tr q,<-hE]
   refine Sg_congr λi i0 i1=>?_
   rw [<- mm_assoc,On.mm hv.ml On.refl i i i0 i1 i0 i1]
   exact mm_idl i0 i1
  rw [t1] at t2
  have:=Int.eq_of_mul_eq_mul_right (by rw [hee];exact he) t2
  omega
end Go.Proofs.Ytokekkacliomkaa.AE
end
section
namespace Go.Proofs.Ytokekkacliomkaa.AE
open Go Go.AE Go.Proofs
variable {n:Nat} {A:Mat}
def tw:Nat->List Int->List Int
 | _,[]=>[]
 | i,x::t=>sg2 i * x::tw (i+1) t
def last:Nat->Nat->List Int->Nat
 | j,_,[]=>j
 | j,i,x::t=>if x=0 then last j (i+1) t else last i (i+1) t
theorem tw_len:∀ (l:List Int) (i:Nat),(tw i l).length=l.length
 | [],_=>rfl
 | _::t,i=>by show (tw (i+1) t).length+1=t.length+1;rw [tw_len t]
theorem tw_gt:∀ (l:List Int) (i t:Nat),t<l.length->gt (tw i l) t=sg2 (i+t) * gt l t
 | [],_,_,h=>by simp at h
 | x::l,i,0,_=>rfl
 | x::l,i,t+1,h=>by
  have h1:=tw_gt l (i+1) t (by simpa using h)
  rw [show i+1+t=i+(t+1) by omega] at h1
  exact h1
theorem sgn1_or (x:Int):sgn1 x=1\/sgn1 x=-1:=by unfold sgn1;split <;> omega
theorem sgn1_mul {i:Nat} {x:Int} (h:x≠0):sgn1 (sg2 i * x)=sg2 i * sgn1 x:=by
 unfold sgn1
 rcases sg2_or i with e | e <;> rw [e]
 ·rw [Int.one_mul,Int.one_mul]
 ·by_cases q:x<0
  ·rw [if_pos q,if_neg (by omega)];rfl
  ·rw [if_neg q,if_pos (by omega)];rfl
theorem ch_cons {s x:Int} {t:List Int} (h:x≠0):ch s (x::t)=(if s≠0/\sgn1 x≠s then 1 else 0)+ch (sgn1 x) t:=if_neg h
theorem chs_bound:∀ (l:List Int) (j i:Nat) (σ:Int),j<i->(σ=1\/σ=-1)->0<=ch σ l/\0<=ch (sg2 j * σ) (tw i l)/\∃ m:Int,0<=m/\ch σ l+ch (sg2 j * σ) (tw i l)+2 * m=(last j i l:Int) - j
 | [],j,i,σ,_,_=>⟨Int.le_refl _,Int.le_refl _,0,Int.le_refl _,by show (0:Int)+0+2 * 0=(j:Int) - j;omega⟩
 | x::t,j,i,σ,h,hs=>by
  by_cases c:x=0
  ·subst c
   have ih:=chs_bound t j (i+1) σ (by omega) hs
   have e1:ch σ (0::t)=ch σ t:=if_pos rfl
   have e2:ch (sg2 j * σ) (tw i (0::t))=ch (sg2 j * σ) (tw (i+1) t):=if_pos (Int.mul_zero _)
   have e3:last j i (0::t)=last j (i+1) t:=if_pos rfl
   rw [e1,e2,e3];exact ih
  ·obtain ⟨i1,i2,m,m0,i3⟩:=chs_bound t i (i+1) (sgn1 x) (by omega) (sgn1_or x)
   have e1:=ch_cons (s:=σ) (t:=t) c
   have hx:sg2 i * x≠0:=by
    rcases sg2_or i with e | e <;> rw [e] <;> omega
   have e2:ch (sg2 j * σ) (tw i (x::t))=(if sg2 j * σ≠0/\sg2 i * sgn1 x≠sg2 j * σ then 1 else 0)+ch (sg2 i * sgn1 x) (tw (i+1) t):=by
    rw [<- sgn1_mul c];exact ch_cons hx
   have e3:last j i (x::t)=last i (i+1) t:=if_neg c
   rw [e1,e2,e3]
   have p1:=sg2_v i
   have p2:=sg2_v j
   obtain ⟨c1,hc1⟩:∃ c1:Int,c1=if σ≠0/\sgn1 x≠σ then 1 else 0:=⟨_,rfl⟩
   obtain ⟨c2,hc2⟩:∃ c2:Int,c2=if sg2 j * σ≠0/\sg2 i * sgn1 x≠sg2 j * σ then 1 else 0:=⟨_,rfl⟩
   rw [<- hc1,<-hc2]
   have k:0<=c1/\0<=c2/\c1+c2<=(i:Int) - j/\(c1+c2 - ((i:Int) - j)) % 2=0:=by
    rcases sg2_or i with a | a <;> rcases sg2_or j with b | b <;> rcases hs with d | d <;> rcases sgn1_or x with f | f <;> rw [d,f] at hc1 <;> rw [a,b,d,f] at hc2 <;> simp at hc1 hc2 <;> omega
   exact ⟨by omega,by omega,m+((i:Int) - j - c1 - c2) / 2,by omega,by omega⟩
theorem last_v:∀ (l:List Int) (j i:Nat),j<i->(last j i l=j/\∀ t:Nat,t<l.length->gt l t=0)\/(i<=last j i l/\last j i l<i+l.length/\gt l (last j i l - i)≠0/\∀ t:Nat,last j i l - i<t->t<l.length->gt l t=0)
 | [],j,i,_=>.inl ⟨rfl,λt h=>by simp at h⟩
 | x::l,j,i,h=>by
  by_cases c:x=0
  ·have e:last j i (x::l)=last j (i+1) l:=if_pos c
   rw [e]
   rcases last_v l j (i+1) (by omega) with ⟨a,b⟩ | ⟨a,b,d,f⟩
   ·refine .inl ⟨a,λt ht=>?_⟩
    cases t with
    | zero=>exact c
    | succ t=>exact b t (by simpa using ht)
   ·refine .inr ⟨by omega,by rw [List.length_cons];omega,?_,λt h1 h2=>?_⟩
    ·rw [show last j (i+1) l - i=(last j (i+1) l - (i+1))+1 by omega];exact d
    ·cases t with
     | zero=>omega
     | succ t=>exact f t (by omega) (by simpa using h2)
  ·have e:last j i (x::l)=last i (i+1) l:=if_neg c
   rw [e]
   right
   rcases last_v l i (i+1) (by omega) with ⟨a,b⟩ | ⟨a,b,d,f⟩
   ·rw [a]
    refine ⟨Nat.le_refl _,by rw [List.length_cons];omega,by rw [Nat.sub_self];exact c,λt h1 h2=>?_⟩
    cases t with
    | zero=>omega
    | succ t=>exact b t (by simpa using h2)
   ·refine ⟨by omega,by rw [List.length_cons];omega,?_,λt h1 h2=>?_⟩
    ·rw [show last i (i+1) l - i=(last i (i+1) l - (i+1))+1 by omega];exact d
    ·cases t with
     | zero=>omega
     | succ t=>exact f t (by omega) (by simpa using h2)
def es (n:Nat) (A:Mat):List Int:=(List.range (n+1)).map (ek n A)
theorem es_len:(es n A).length=n+1:=by simp [es]
theorem es_gt {k:Nat} (h:k<=n):gt (es n A) k=ek n A k:=by
 unfold gt es
 rw [List.getD_eq_getElem?_getD,List.getElem?_map,List.getElem?_range (by omega)];rfl
def sgm (n:Nat) (A:Mat):Int:=adj (nz (tw 0 (es n A))) - adj (nz (es n A))
theorem tl_tw {s:List Int}:tl s s.length=tw 0 s:=list_ext (by rw [tl_len,tw_len]) λi hi=>by
 rw [tl_len] at hi
 rw [tl_gt s _ hi,tw_gt s 0 i hi,Nat.zero_add]
theorem sgm_bound:∃ r:Nat,r<=n/\ek n A r≠0/\(∀ k:Nat,r<k->ek n A k=0)/\sgm n A<=r/\- sgm n A<=r/\((r:Int) - sgm n A) % 2=0:=by
 have hl:=es_len (n:=n) (A:=A)
 obtain ⟨t,ht⟩:=cons1 (l:=es n A) (by omega) (by rw [es_gt (by omega),ek_zero])
 have htl:t.length=n:=by rw [ht,List.length_cons] at hl;omega
 have hg:∀ k:Nat,k<n->gt t k=ek n A (k+1):=λk hk=>by
  rw [<- es_gt (by omega),ht];rfl
 obtain ⟨b1,b2,m,m0,b3⟩:=chs_bound t 0 1 1 (by omega) (.inl rfl)
 have c1:adj (nz (es n A))=ch 1 t:=by
  rw [ht,<-ch_1,ch_cons (by decide),show sgn1 1=1 from rfl,if_neg λh=>h.2 rfl,Int.zero_add]
 have c2:adj (nz (tw 0 (es n A)))=ch 1 (tw 1 t):=by
  rw [ht,show tw 0 (1::t)=1::tw 1 t from rfl,<-ch_1,ch_cons (by decide),show sgn1 1=1 from rfl,if_neg λh=>h.2 rfl,Int.zero_add]
 rw [show sg2 0 * 1=1 from rfl] at b2 b3
 unfold sgm
 rw [c1,c2]
 rcases last_v t 0 1 (by omega) with ⟨a,b⟩ | ⟨a,b,d,f⟩
 ·refine ⟨0,by omega,by rw [ek_zero];decide,λk hk=>?_,by omega,by omega,by omega⟩
  by_cases q:k<=n
  ·have:=b (k - 1) (by omega)
   rw [hg (k - 1) (by omega),show k - 1+1=k by omega] at this
   exact this
  ·exact ek_big (by omega)
 ·refine ⟨last 0 1 t,by omega,?_,λk hk=>?_,by omega,by omega,by omega⟩
  ·rw [hg _ (by omega),show last 0 1 t - 1+1=last 0 1 t by omega] at d
   exact d
  ·by_cases q:k<=n
   ·have:=f (k - 1) (by omega) (by omega)
    rw [hg (k - 1) (by omega),show k - 1+1=k by omega] at this
    exact this
   ·exact ek_big (by omega)
end Go.Proofs.Ytokekkacliomkaa.AE
end
section
namespace Go.Proofs.Ytokekkacliomkaa.AE
open Go Go.AE Go.Proofs
variable {n:Nat} {A:Mat}
def ng (A:Mat):Mat:=λi j=>- A i j
theorem dt_neg:∀ (r:Nat) (S:Int->Bool),dt n (ng A) r S=sg2 r * dt n A r S
 | 0,_=>rfl
 | r+1,S=>by
  show Sg n _=sg2 (r+1) * Sg n _
  rw [<- Sg_mul]
  refine Sg_congr λc _ _=>?_
  by_cases h:S c=true
  ·rw [if_pos h,if_pos h,dt_neg r]
   show sgn n S c * (- A r c * (sg2 r * dt n A r (rm S c)))=- sg2 r * (sgn n S c * (A r c * dt n A r (rm S c)))
   generalize sgn n S c=x
   generalize A r c=y
   generalize dt n A r (rm S c)=z
   rcases sg2_or r with e | e <;> rw [e] <;> simp [Int.mul_neg,Int.neg_mul]
  ·rw [if_neg h,if_neg h,Int.mul_zero]
theorem ek_pt (k:Nat):ek n A k=Sn (2 ^ n) (pt n A k):=by unfold ek;rw [Ss_Sn];rfl
theorem Sn_mul {c:Int} {f:Nat->Int}:∀ n:Nat,Sn n (λi=>c * f i)=c * Sn n f
 | 0=>(Int.mul_zero c).symm
 | n+1=>by show Sn n _+c * f n=c * (Sn n f+f n);rw [Sn_mul n,Int.mul_add]
theorem ek_neg (k:Nat):ek n (ng A) k=sg2 k * ek n A k:=by
 rw [ek_pt,ek_pt,<-Sn_mul]
 refine Sn_congr λw _=>?_
 unfold pt
 by_cases h:cnt n (bs w)=k
 ·rw [if_pos h,if_pos h,det_sub (lst_L w n),det_sub (lst_L w n),lst_len,h]
  exact dt_neg k _
 ·rw [if_neg h,if_neg h,Int.mul_zero]
theorem Sg_out {f:Int->Int} {i:Int} (h0:0<=i):∀ {n:Nat},i<n->Sg n f=f i+Sg n λx=>if x=i then 0 else f x
 | 0,h=>by omega
 | n+1,h=>by
  show Sg n f+f n=f i+(Sg n (λx=>if x=i then 0 else f x)+(if (n:Int)=i then 0 else f n))
  by_cases e:i=n
  ·subst e
   rw [if_pos rfl,Sg_congr (n:=n) (g:=f) λx _ hx=>if_neg (by omega)];omega
  ·rw [if_neg (by omega),Sg_out h0 (n:=n) (by omega)];omega
theorem Sg_sw {f:Int->Int} {p q:Int} (hp:0<=p/\p<n) (hq:0<=q/\q<n):Sg n (λx=>f (sw p q x))=Sg n f:=by
 by_cases e:p=q
 ·subst e;congr 1;funext x;rw [sw_pp]
 ·rw [Sg_out (f:=f) hp.1 hp.2,Sg_out (f:=λx=>if x=p then 0 else f x) hq.1 hq.2,Sg_out (f:=λx=>f (sw p q x)) hp.1 hp.2,Sg_out (f:=λx=>if x=p then 0 else f (sw p q x)) hq.1 hq.2]
  have e1:sw p q p=q:=if_pos rfl
  have e2:sw p q q=p:=by unfold sw;rw [if_neg (by omega),if_pos rfl]
  rw [e1,e2,if_neg (Ne.symm e),if_neg (Ne.symm e)]
  have:(Sg n λx=>if x=q then 0 else if x=p then 0 else f (sw p q x))=Sg n λx=>if x=q then 0 else if x=p then 0 else f x:=by
   congr 1
   funext x
   by_cases a:x=q
   ·rw [if_pos a,if_pos a]
   ·rw [if_neg a,if_neg a]
    by_cases b:x=p
    ·rw [if_pos b,if_pos b]
    ·rw [if_neg b,if_neg b]
     unfold sw
     rw [if_neg b,if_neg a]
  omega
def cj (A:Mat) (g:Int->Int):Mat:=λa b=>A (g a) (g b)
theorem sw_inj {p q a b:Int} (h:sw p q a=sw p q b):a=b:=by
 have:sw p q (sw p q a)=sw p q (sw p q b):=by rw [h]
 rwa [sw_sw,sw_sw] at this
theorem ad1_sw1 {U:Int->Bool} {p q:Int} (hp:U p=false) (hq:U q=false):(λx=>ad1 U p (sw p q x))=ad1 U q:=by
 funext x
 unfold ad1 sw
 by_cases a:x=p
 ·subst a
  by_cases b:x=q
  ·subst b;simp
  ·rw [if_pos rfl,hq,hp,decide_eq_false (Ne.symm b),decide_eq_false b]
 ·rw [if_neg a]
  by_cases b:x=q
  ·subst b;simp
  ·rw [if_neg b,decide_eq_false a,decide_eq_false b]
theorem sw_off {U:Int->Bool} {p q:Int} (h:U p=U q):(λx=>U (sw p q x))=U:=by
 funext x
 unfold sw
 by_cases a:x=p
 ·subst a;rw [if_pos rfl,h]
 ·rw [if_neg a]
  by_cases b:x=q
  ·subst b;rw [if_pos rfl,h]
  ·rw [if_neg b]
theorem sw_comm (p q x:Int):sw p q x=sw q p x:=by unfold sw;split <;> split <;> simp_all
theorem ek_sw {p q:Int} (hp:0<=p/\p<n) (hq:0<=q/\q<n) (k:Nat):ek n (cj A (sw p q)) k=ek n A k:=by
 by_cases e:p=q
 ·subst e
  have:cj A (sw p p)=A:=by funext a b;show A (sw p p a) (sw p p b)=_;rw [sw_pp,sw_pp]
  rw [this]
 ·obtain ⟨G,hG⟩:∃ G:(Int->Bool)->Int,G=λS=>if cnt n S=k then det n (RS A S) else 0:=⟨_,rfl⟩
  obtain ⟨F,hF⟩:∃ F:(Int->Bool)->Int,F=λS=>if cnt n S=k then det n (RS A λx=>S (sw p q x)) else 0:=⟨_,rfl⟩
  have e1:ek n (cj A (sw p q)) k=Ss n F:=by
   unfold ek
   refine Ss_congr λS _=>?_
   rw [hF]
   by_cases h:cnt n S=k
   ·simp only [if_pos h]
    rw [<- det_conj (X:=RS A λx=>S (sw p q x)) hp hq]
    congr 1
    funext a b
    unfold RS cj
    show _=if S (sw p q (sw p q a))=true then A (sw p q a) (sw p q b) else if sw p q a=sw p q b then (1:Int) else 0
    rw [sw_sw]
    by_cases h1:S a=true
    ·rw [if_pos h1,if_pos h1]
    ·rw [if_neg h1,if_neg h1]
     by_cases h2:a=b
     ·rw [if_pos h2,h2,if_pos rfl]
     ·rw [if_neg h2,if_neg λh=>h2 (sw_inj h)]
   ·simp only [if_neg h]
  have e2:ek n A k=Ss n G:=by unfold ek;rw [hG]
  rw [e1,e2,Ss_out hq.1 hq.2 (f:=F),Ss_out hq.1 hq.2 (f:=G),Ss_out hp.1 hp.2 (f:=λS=>if S q=true then 0 else F S+F (ad1 S q)),Ss_out hp.1 hp.2 (f:=λS=>if S q=true then 0 else G S+G (ad1 S q))]
  refine Ss_congr λU _=>?_
  cases h1:U p with
  | true=>simp
  | false=>
   rw [ad1_ne (c:=p) (Ne.symm e)]
   cases h2:U q with
   | true=>simp
   | false=>
    have c1:=cnt_ad1 hp.1 hp.2 h1
    have c2:=cnt_ad1 hq.1 hq.2 h2
    have a1:F U=G U:=by rw [hF,hG];simp only [sw_off (h1.trans h2.symm)]
    have a2:F (ad1 U p)=G (ad1 U q):=by rw [hF,hG];simp only [ad1_sw1 h1 h2,c1,c2]
    have a3:F (ad1 U q)=G (ad1 U p):=by
     rw [hF,hG]
     have:(λx=>ad1 U q (sw p q x))=ad1 U p:=by
      have:=ad1_sw1 (p:=q) (q:=p) h2 h1
      rw [<- this];funext x;rw [sw_comm]
     simp only [this,c1,c2]
    have a4:F (ad1 (ad1 U p) q)=G (ad1 (ad1 U p) q):=by
     rw [hF,hG]
     have:ad1 (ad1 U p) q p=ad1 (ad1 U p) q q:=by rw [ad1_self,ad1_ne e,ad1_self]
     simp only [sw_off this]
    simp only [a1,a2,a3,a4]
    simp
    omega
theorem vol_cj {p q:Int} (hp:0<=p/\p<n) (hq:0<=q/\q<n):Pi n (mx n (cj A (sw p q)))=Pi n (mx n A):=by
 rw [<- Pi_sw (f:=mx n A) hp hq]
 refine Pi_congr λa _ _=>?_
 have:rsum n (cj A (sw p q)) a=rsum n A (sw p q a):=Sg_sw (f:=λb=>ab0 (A (sw p q a) b)) hp hq
 unfold mx
 rw [this]
theorem perm_c {g:Int->Int} (hg:∀ a:Int,0<=a->a<n->0<=g a/\g a<n) (hi:∀ a b:Int,0<=a->a<n->0<=b->b<n->g a=g b->a=b):∀ k:Nat,k<=n->∃ p:Int->Int,(∀ j,ek n (cj A p) j=ek n A j)/\Pi n (mx n (cj A p))=Pi n (mx n A) /\
  (∀ a:Int,0<=a->a<n->0<=p a/\p a<n)/\(∀ y:Int,0<=y->y<n->∃ x:Int,0<=x/\x<n/\p x=y)/\∀ a:Int,0<=a->a<k->p a=g a
 | 0,_=>⟨λx=>x,λ_=>rfl,rfl,λa h0 h1=>⟨h0,h1⟩,λy h0 h1=>⟨y,h0,h1,rfl⟩,λa h0 h1=>by omega⟩
 | k+1,hk=>by
  obtain ⟨p,p1,p2,p3,p4,p5⟩:=perm_c hg hi k (by omega)
  have hgk:=hg k (by omega) (by omega)
  obtain ⟨x,x0,x1,x2⟩:=p4 (g k) hgk.1 hgk.2
  have xk:(k:Int)<=x:=by
   rcases Int.lt_or_le x k with q | q
   ·rw [p5 x x0 q] at x2
    have:=hi x k x0 x1 (by omega) (by omega) x2
    omega
   ·exact q
  have r1:0<=(k:Int)/\(k:Int)<n:=⟨by omega,by omega⟩
  have r2:0<=x/\x<n:=⟨x0,x1⟩
  refine ⟨λa=>p (sw k x a),λj=>?_,?_,λa h0 h1=>?_,λy h0 h1=>?_,λa h0 h1=>?_⟩
  ·rw [<- p1 j];exact ek_sw (A:=cj A p) r1 r2 j
  ·rw [<- p2];exact vol_cj (A:=cj A p) r1 r2
  ·have:=sw_rng r1 r2 ⟨h0,h1⟩
   exact p3 _ this.1 this.2
  ·obtain ⟨z,z0,z1,z2⟩:=p4 y h0 h1
   have:=sw_rng r1 r2 ⟨z0,z1⟩
   exact ⟨sw k x z,this.1,this.2,by dsimp only;rw [sw_sw];exact z2⟩
  ·dsimp only
   by_cases e:a=k
   ·rw [e,show sw k x k=x from if_pos rfl];exact x2
   ·rw [show sw k x a=a by unfold sw;rw [if_neg e,if_neg (by omega)]]
    exact p5 a h0 (by omega)
theorem ek_on {B:Mat} (h:On n n A B) (k:Nat):ek n A k=ek n B k:=Ss_congr λS _=>by
 congr 1
 exact det_ml.cg λa b a0 a1 b0 b1=>by unfold RS;rw [h a b a0 a1 b0 b1]
theorem vol_on {B:Mat} (h:On n n A B):Pi n (mx n A)=Pi n (mx n B):=Pi_congr λa a0 a1=>by
 have:rsum n A a=rsum n B a:=Sg_congr λb b0 b1=>by rw [h a b a0 a1 b0 b1]
 unfold mx;rw [this]
theorem order {h:Int->Int} (hr:∀ a:Int,0<=a->a<n->0<=h a/\h a<n) (hs:∀ y:Int,0<=y->y<n->∃ x:Int,0<=x/\x<n/\h x=y):(∀ j,ek n (cj A h) j=ek n A j)/\Pi n (mx n (cj A h))=Pi n (mx n A):=by
 have hg:∀ y:Int,∃ x:Int,0<=y->y<n->0<=x/\x<n/\h x=y:=λy=>by
  by_cases c:0<=y/\y<n
  ·obtain ⟨x,x1⟩:=hs y c.1 c.2
   exact ⟨x,λ_ _=>x1⟩
  ·exact ⟨0,λa b=>absurd ⟨a,b⟩ c⟩
 obtain ⟨g,hg⟩:∃ g:Int->Int,∀ y:Int,0<=y->y<n->0<=g y/\g y<n/\h (g y)=y:=⟨λy=>(hg y).choose,λy=>(hg y).choose_spec⟩
 obtain ⟨p,p1,p2,p3,p4,p5⟩:=perm_c (A:=cj A h) (λa a0 a1=>⟨(hg a a0 a1).1,(hg a a0 a1).2.1⟩) (λa b a0 a1 b0 b1 e=>by rw [<- (hg a a0 a1).2.2,e,(hg b b0 b1).2.2]) n (Nat.le_refl n)
 have e:On n n (cj (cj A h) p) A:=λa b a0 a1 b0 b1=>by
  show A (h (p a)) (h (p b))=A a b
  rw [p5 a a0 a1,p5 b b0 b1,(hg a a0 a1).2.2,(hg b b0 b1).2.2]
 exact ⟨λj=>by rw [<- p1 j,ek_on e],by rw [<- p2,vol_on e]⟩
end Go.Proofs.Ytokekkacliomkaa.AE
end
section
namespace Go.Proofs.Ytokekkacliomkaa.AE
open Go Go.AE Go.Proofs
variable {F n R C:Nat} {A:Mat}
theorem st_in (hR:R<=48) (hC:C<=48) {i:Int} (i0:0<=i) (i1:i<R) {pC}:∀ (d g:Nat) (j:Int),C - j=d->d<g->0<=j->j<=C ->
  bz.pl981 F pC g R C (mk R C A) C R (mk C R (trM A i j)) i j=pC R C (mk R C A) C R (mk C R (trM A (i+1) 0)) (i+1):=by
 intro d
 induction d with
 | zero=>
  intro g j hd hg hj hj2
  obtain ⟨g,rfl⟩:∃ g',g=g'+1:=⟨g - 1,by omega⟩
  rw [bz.pl981,decide_eq_false (by omega),cond_false]
  unfold bz.pj4 bz.pj3
  rw [ap (x:=i+1) (by omega) (by omega)]
  have e:mk C R (trM A i j)=mk C R (trM A (i+1) 0):=cY λa b a0 a1 b0 b1=>by
   unfold trM
   by_cases h:b<i\/b=i/\a<j
   ·rw [if_pos h,if_pos (by omega)]
   ·rw [if_neg h,if_neg (by omega)]
  rw [e]
 | succ d ih=>
  intro g j hd hg hj hj2
  obtain ⟨g,rfl⟩:∃ g',g=g'+1:=⟨g - 1,by omega⟩
  rw [bz.pl981,decide_eq_true (by omega),cond_true,at_mk (by omega) (by omega) i0 i1 hj (by omega),Option.bind_some,eL (i:=j) (j:=i) (by omega) (by omega) hj (by omega) i0 i1,Option.bind_some,Option.bind_some,
   jF (i:=j) (j:=i) hj (by omega) i0 i1,ap (x:=j+1) (by omega) (by omega)]
  have e:upd (trM A i j) j i (A i j)=trM A i (j+1):=by
   funext a b
   unfold upd trM
   by_cases h:a=j/\b=i
   ·rw [if_pos h,if_pos (by omega),h.1,h.2]
   ·rw [if_neg h]
    by_cases h2:b<i\/b=i/\a<j
    ·rw [if_pos h2,if_pos (by omega)]
    ·rw [if_neg h2,if_neg (by omega)]
  rw [e]
  exact ih g (j+1) (by omega) (by omega) (by omega) (by omega)
theorem st_out (hR:R<=48) (hC:C<=48) (hF:1000<F):∀ (d g:Nat) (i:Int),R - i=d->d<g->0<=i->i<=R ->
  bz.pl61 F g R C (mk R C A) C R (mk C R (trM A i 0)) i=some ((C:Int),(R:Int),mk C R (tr A)):=by
 intro d
 induction d with
 | zero=>
  intro g i hd hg hi hi2
  obtain ⟨g,rfl⟩:∃ g',g=g'+1:=⟨g - 1,by omega⟩
  rw [bz.pl61,decide_eq_false (by omega),cond_false]
  have e:mk C R (trM A i 0)=mk C R (tr A):=cY λa b a0 a1 b0 b1=>if_pos (by omega)
  rw [e]
 | succ d ih=>
  intro g i hd hg hi hi2
  obtain ⟨g,rfl⟩:∃ g',g=g'+1:=⟨g - 1,by omega⟩
  rw [bz.pl61,decide_eq_true (by omega),cond_true,st_in hR hC hi (by omega) C F 0 (by omega) (by omega) (by omega) (by omega)]
  exact ih g (i+1) (by omega) (by omega) (by omega) (by omega)
theorem stransp (hR:R<=48) (hC:C<=48) (hF:5000000<F) (h:cz.p F R C (mk R C A)=some true):bz.p F R C (mk R C A)=some ((C:Int),(R:Int),mk C R (tr A)):=by
 have hm:C * R<=48 * 48:=Nat.mul_le_mul hC hR
 unfold bz.p cD.p mkn
 rw [h,Option.bind_some,Bool.not_true,cond_false,<-Int.natCast_mul,ap (by omega) (by omega),if_pos (by omega),Option.bind_some,Option.bind_some,Int.toNat_natCast,mk_zero]
 simp only []
 have e:mk C R (λ_ _=>0)=mk C R (trM A 0 0):=cY λa b a0 a1 b0 b1=>(if_neg (by omega)).symm
 rw [e]
 exact st_out hR hC (by omega) R F 0 (by omega) (by omega) (by omega) (by omega)
theorem eq_both {l l':List Int} (hl:l.length<=1000000) (e:l.length=l'.length):∀ (m g:Nat) (i:Int),l.length - i=m->m<g->0<=i->∃ v,dc.pl29 F g l l' l.length i=some v/\dC.pl29 F g l l' i=some v:=by
 intro m
 induction m with
 | zero=>
  intro g i hm hg hi
  obtain ⟨g,rfl⟩:∃ g',g=g'+1:=⟨g - 1,by omega⟩
  rw [dc.pl29,decide_eq_false (by omega),cond_false,dC.pl29,decide_eq_false (by omega),cond_false]
  exact ⟨_,rfl,rfl⟩
 | succ m ih=>
  intro g i hm hg hi
  obtain ⟨g,rfl⟩:∃ g',g=g'+1:=⟨g - 1,by omega⟩
  have e1:ix l i=some i.toNat:=by unfold ix;rw [if_pos (by omega)]
  have e2:ix l' i=some i.toNat:=by unfold ix;rw [if_pos (by omega)]
  rw [dc.pl29,decide_eq_true (by omega),cond_true,e1,Option.bind_some,e2,Option.bind_some,dC.pl29,decide_eq_true (by omega),cond_true,e1,Option.bind_some,e2,Option.bind_some,ap (x:=i+1) (by omega) (by omega)]
  cases (gt l i.toNat != gt l' i.toNat) with
  | true=>exact ⟨_,rfl,rfl⟩
  | false=>exact ih g (i+1) (by omega) (by omega) (by omega)
theorem sig_both {a b:Int} {l:List Int} (hF:1000000000000000<=F) (hl:l.length<=2000000) :
  ∃ y c,(c≠0->y=0)/\eJ.p F a b l=some (y,c)/\fq.p F a b l=some (y,c):=by
 unfold eJ.p fq.p
 obtain ⟨v,m1,m2,hv⟩:=isMatrix_both (F:=F) (a:=a) (b:=b) (by omega) hl
 rw [m1,m2]
 cases v with
 | false=>exact ⟨_,_,λ_=>rfl,rfl,rfl⟩
 | true=>
  obtain ⟨R,C,A,rfl,rfl,hR,hC,rfl,hb⟩:=hv rfl
  rw [Option.bind_some,Option.bind_some,Bool.not_true,cond_false,cond_false,stransp hR hC (by omega) m1,Option.bind_some]
  simp only []
  unfold dC.p
  by_cases hRC:R=C
  ·subst hRC
   have hm:R * R<=48 * 48:=Nat.mul_le_mul hR hR
   obtain ⟨v,s1,s2⟩:=eq_both (F:=F) (l:=mk R R A) (l':=mk R R (tr A)) (by rw [dG];omega) (by rw [dG,dG]) (R * R) F 0 (by rw [dG];omega) (by omega) (by omega)
   rw [bne_self_eq_false,cond_false,cond_false,cond_false,transp hR (by omega) hb,Option.bind_some]
   simp only []
   unfold iz.p dc.p
   have el:(((mk R R A).length:Int) != ((mk R R (tr A)).length:Int))=false:=by rw [dG,dG,bne_self_eq_false]
   rw [beq_self_eq_true,cond_true,cond_true,el,cond_false,cond_false,s1,s2,Option.bind_some,Option.bind_some,Option.bind_some]
   cases v with
   | false=>exact ⟨_,_,λ_=>rfl,rfl,rfl⟩
   | true=>
    rw [Bool.not_true,cond_false,cond_false]
    by_cases h12:(R:Int)>12
    ·rw [decide_eq_true h12];exact ⟨_,_,λ_=>rfl,rfl,rfl⟩
    ·rw [decide_eq_false h12,cond_false,cond_false]
     unfold bw.p bF.p
     obtain ⟨v,e1,h1⟩:=vol_i (F:=F) hR (by omega) hb R F 0 (by omega) (by omega) (by omega) (by show (1:Int)<=_;omega)
     have e2:=vol_s (F:=F) hR (by omega) hb R F 0 (by omega) (by omega) (by omega)
     rw [show Pi 0 (mx R A)=1 from rfl,show ((0:Nat):Int)=0 from rfl] at e1 e2
     rw [show (1000000000:Int) / 1=1000000000 from by decide] at e2
     rw [e1,e2,Option.bind_some,Option.bind_some]
     by_cases c:Pi R (mx R A)<=1000000000
     ·have h2:=h1.2 c
      obtain ⟨y,g1,g2⟩:=sig_v (F:=F) (n:=R) (A:=A) (by omega) (by omega) c
      rw [decide_eq_true c,decide_eq_false (by omega),Bool.not_true,cond_false,cond_false,g1,g2]
      exact ⟨y,0,λh=>absurd rfl h,rfl,rfl⟩
     ·have h2:=λq=>c (h1.1 q)
      rw [decide_eq_false c,decide_eq_true (by omega),Bool.not_false,cond_true,cond_true]
      exact ⟨_,_,λ_=>rfl,rfl,rfl⟩
  ·have hne:((R:Int) != (C:Int))=true:=by simp;omega
   rw [hne]
   exact ⟨_,_,λ_=>rfl,rfl,rfl⟩
end Go.Proofs.Ytokekkacliomkaa.AE
end
section
namespace Go.Proofs.Ytokekkacliomkaa.AE.SS
open Go Go.AE Go.Proofs
variable {F:Nat}
theorem ix_of {α:Type} {l:List α} {i:Int} (h0:0<=i) (h:i<l.length):ix l i=some i.toNat:=by
 unfold ix;rw [if_pos ⟨h0,h⟩]
structure Src (c:List Int) (a s:Int):Prop where
 b:∀ n:Nat,0<=gt c n/\gt c n<=255
 l:c.length<=1000000
 a0:0<=a
 a1:a<=c.length
 s0:0<=s
 s1:s<2147483647
theorem seed_ok {s:Int} (h0:0<=s) (h1:s<2147483647):∃ t,Int.tmod (IntKind.i64.wrap ((IntKind.i64.wrap (s * 48271))+11)) 2147483647=t/\0<=t/\t<2147483647:=by
 rw [ap (x:=s * 48271) (by omega) (by omega),ap (by omega) (by omega)]
 refine ⟨_,rfl,?_⟩
 rw [Int.tmod_eq_emod_of_nonneg (by omega)]
 constructor <;> omega
theorem mod_ok {x n:Int} (hx:0<=x) (hn:1<n):∃ r,Int.tmod x n=r/\0<=r/\r<n:=by
 refine ⟨_,rfl,?_⟩
 rw [Int.tmod_eq_emod_of_nonneg hx]
 exact ⟨Int.emod_nonneg _ (by omega),Int.emod_lt_of_pos _ (by omega)⟩
theorem next {c:List Int} {a s n:Int} (h:Src c a s):∃ r a' s',bI.p F c a s n=some (r,a',s')/\Src c a' s'/\0<=r/\(n<=1->r=0)/\(1<n->r<n):=by
 obtain ⟨h1,h2,h3,h4,h5,h6⟩:=h
 unfold bI.p
 by_cases hn:n<=1
 ·rw [decide_eq_true hn,cond_true]
  exact ⟨0,a,s,rfl,⟨h1,h2,h3,h4,h5,h6⟩,Int.le_refl _,λ_=>rfl,λq=>by omega⟩
 ·rw [decide_eq_false hn,cond_false]
  obtain ⟨t,e,t0,t1⟩:=seed_ok h5 h6
  simp only [e]
  have td:0<=Int.tdiv t 11/\Int.tdiv t 11<=t:=by
   rw [Int.tdiv_eq_ediv_of_nonneg t0];constructor <;> omega
  unfold bI.pj2 bI.pj1 bI.pj3
  have n0:¬ n=0:=by omega
  simp only [if_neg n0]
  by_cases ha:a<c.length
  ·rw [decide_eq_true ha,cond_true]
   have ix0:ix c a=some a.toNat:=ix_of h3 ha
   have gb:=h1 a.toNat
   rw [ix0,Option.bind_some,ap (x:=a+1) (by omega) (by omega),ap (x:=a+1 - 1) (by omega) (by omega),show a+1 - 1=a by omega,ix0,Option.bind_some,ap (x:=gt c a.toNat) (by omega) (by omega),ap (x:=Int.tdiv t 11) (by omega) (by omega),ap (x:=Int.tdiv t 11+gt c a.toNat) (by omega) (by omega)]
   have S:Src c (a+1) t:=⟨h1,h2,by omega,by omega,t0,t1⟩
   obtain ⟨r1,m1,m2,m3⟩:=mod_ok (x:=gt c a.toNat) (n:=n) gb.1 (by omega)
   obtain ⟨r2,m4,m5,m6⟩:=mod_ok (x:=Int.tdiv t 11+gt c a.toNat) (n:=n) (by omega) (by omega)
   rw [m1,m4]
   cases decide (n<=256) <;> cases (Int.tmod (a+1) 2==0) <;> simp only [cond_true,cond_false]
   ·exact ⟨r2,_,_,rfl,S,m5,λq=>absurd q hn,λ_=>m6⟩
   ·exact ⟨r2,_,_,rfl,S,m5,λq=>absurd q hn,λ_=>m6⟩
   ·exact ⟨r2,_,_,rfl,S,m5,λq=>absurd q hn,λ_=>m6⟩
   ·exact ⟨r1,_,_,rfl,S,m2,λq=>absurd q hn,λ_=>m3⟩
  ·rw [decide_eq_false ha,cond_false,ap (x:=Int.tdiv t 11) (by omega) (by omega)]
   obtain ⟨r2,m4,m5,m6⟩:=mod_ok (x:=Int.tdiv t 11) (n:=n) (by omega) (by omega)
   rw [m4]
   exact ⟨r2,_,_,rfl,⟨h1,h2,h3,h4,t0,t1⟩,m5,λq=>absurd q hn,λ_=>m6⟩
theorem from_l {c:List Int} (hc:c.length<=1000000) (hb:∀ n:Nat,0<=gt c n/\gt c n<=255):∀ (n g:Nat) (s i:Int),c.length - i=n->n<g->0<=i->0<=s->s<2147483647->∃ t,cT.pl29 F g c 0 s i=some (c,0,t)/\0<=t/\t<2147483647:=by
 intro n
 induction n with
 | zero=>
  intro g s i hn hg hi h0 h1
  obtain ⟨g,rfl⟩:∃ g',g=g'+1:=⟨g - 1,by omega⟩
  rw [cT.pl29,decide_eq_false (by omega),cond_false]
  exact ⟨s,rfl,h0,h1⟩
 | succ n ih=>
  intro g s i hn hg hi h0 h1
  obtain ⟨g,rfl⟩:∃ g',g=g'+1:=⟨g - 1,by omega⟩
  rw [cT.pl29,decide_eq_true (by omega),cond_true]
  cases decide (i<64) with
  | false=>exact ⟨s,rfl,h0,h1⟩
  | true=>
   have gb:=hb i.toNat
   rw [cond_true,ix_of hi (by omega),Option.bind_some,ap (x:=gt c i.toNat) (by omega) (by omega),ap (x:=s * 37) (by omega) (by omega),ap (x:=s * 37+gt c i.toNat) (by omega) (by omega),ap (x:=i+1) (by omega) (by omega)]
   obtain ⟨r,m1,m2,m3⟩:=mod_ok (x:=s * 37+gt c i.toNat) (n:=2147483647) (by omega) (by omega)
   rw [m1]
   exact ih g r (i+1) (by omega) (by omega) (by omega) m2 m3
theorem from_ {c:List Int} (hF:5000000<F) (hc:c.length<=1000000) (hb:∀ n:Nat,0<=gt c n/\gt c n<=255):∃ t,cT.p F c=some (c,0,t)/\Src c 0 t:=by
 unfold cT.p
 obtain ⟨t,e,h0,h1⟩:=from_l (F:=F) hc hb c.length F 97531 0 (by omega) (by omega) (by omega) (by omega) (by omega)
 exact ⟨t,e,hb,hc,Int.le_refl _,by omega,h0,h1⟩
theorem nx {c:List Int} {a s n:Int} (h:Src c a s) (hn:1<=n):∃ r a' s',bI.p F c a s n=some (r,a',s')/\Src c a' s'/\0<=r/\r<n:=by
 obtain ⟨r,a',s',e,h',r0,r1,r2⟩:=next (F:=F) (n:=n) h
 refine ⟨r,a',s',e,h',r0,?_⟩
 by_cases c:n<=1
 ·have:=r1 c;omega
 ·exact r2 (by omega)
end Go.Proofs.Ytokekkacliomkaa.AE.SS
end
section
namespace Go.Proofs.Ytokekkacliomkaa.AE
open Go Go.AE Go.Proofs
variable {F:Nat} {c:List Int}
theorem mem_set {l:List Int} {n:Nat} {x y:Int} (h:y∈l.set n x):y∈l\/y=x:=List.mem_or_eq_of_mem_set h
theorem ixk {α:Type} {l:List α} {i:Int} (h0:0<=i) (h:i<l.length):ix l i=some i.toNat:=SS.ix_of h0 h
theorem zero_l {a b:Int} (ha:0<=a) (ha':a<=1000) (hb:0<=b) (hb':b<=1000):cD.p F a b=some (a,b,List.replicate (a * b).toNat 0):=by
 have h0:0<=a * b:=Int.mul_nonneg ha hb
 have h1:a * b<=1000 * 1000:=Int.mul_le_mul ha' hb' hb (by omega)
 unfold cD.p mkn
 rw [ap (by omega) (by omega),if_pos (by omega)];rfl
theorem size_l {R C w:Int} (hw:1<=w) (hw6:w<=6):∀ (n g:Nat) (a s:Int) (l:List Int) (i:Int),l.length - i=n->n<g->0<=i->l.length<=1000000->(∀ x∈l,-6<=x/\x<=6)->SS.Src c a s ->
  ∃ l' a' s',ca.pl61 F g c a s R C l w i=some (R,C,l',a',s')/\l'.length=l.length/\(∀ x∈l',-6<=x/\x<=6)/\SS.Src c a' s':=by
 intro n
 induction n with
 | zero=>
  intro g a s l i hn hg hi hl hx hs
  obtain ⟨g,rfl⟩:∃ g',g=g'+1:=⟨g - 1,by omega⟩
  rw [ca.pl61,decide_eq_false (by omega),cond_false]
  exact ⟨l,a,s,rfl,rfl,hx,hs⟩
 | succ n ih=>
  intro g a s l i hn hg hi hl hx hs
  obtain ⟨g,rfl⟩:∃ g',g=g'+1:=⟨g - 1,by omega⟩
  rw [ca.pl61,decide_eq_true (by omega),cond_true]
  obtain ⟨r,a1,s1,e1,h1,r0,r1⟩:=SS.nx (F:=F) (n:=3) hs (by omega)
  rw [e1,Option.bind_some]
  simp only []
  unfold ca.pj2
  rw [ap (x:=i+1) (by omega) (by omega)]
  cases decide (r>0) with
  | false=>rw [cond_false];exact ih g a1 s1 l (i+1) (by omega) (by omega) (by omega) hl hx h1
  | true=>
   rw [cond_true,ap (x:=2 * w) (by omega) (by omega),ap (x:=2 * w+1) (by omega) (by omega)]
   obtain ⟨q,a2,s2,e2,h2,q0,q1⟩:=SS.nx (F:=F) (n:=2 * w+1) h1 (by omega)
   rw [e2,Option.bind_some,ixk hi (by omega),Option.bind_some,Option.bind_some]
   simp only []
   rw [ap (x:=q - w) (by omega) (by omega)]
   obtain ⟨l',a',s',e,k1,k2,k3⟩:=ih g a2 s2 (l.set i.toNat (q - w)) (i+1) (by rw [List.length_set];omega) (by omega) (by omega) (by rw [List.length_set];omega) (λx hx'=>by
    rcases mem_set hx' with h | h
    ·exact hx x h
    ·omega) h2
   exact ⟨l',a',s',e,by rw [k1,List.length_set],k2,k3⟩
theorem draw_size {R C a s:Int} (hF:5000000<F) (hR:0<=R) (hR':R<=100) (hC:0<=C) (hC':C<=100) (hs:SS.Src c a s) :
  ∃ l a' s',ca.p F c a s R C=some (R,C,l,a',s')/\l.length=(R * C).toNat/\(∀ x∈l,-6<=x/\x<=6)/\SS.Src c a' s':=by
 unfold ca.p
 have h0:0<=R * C:=Int.mul_nonneg hR hC
 have h1:R * C<=100 * 100:=Int.mul_le_mul hR' hC' hC (by omega)
 rw [zero_l hR (by omega) hC (by omega),Option.bind_some]
 obtain ⟨w,a1,s1,e1,k1,w0,w1⟩:=SS.nx (F:=F) (n:=6) hs (by omega)
 rw [e1,Option.bind_some]
 simp only []
 rw [ap (by omega) (by omega)]
 obtain ⟨l,a',s',e,q1,q2,q3⟩:=size_l (F:=F) (c:=c) (R:=R) (C:=C) (w:=1+w) (by omega) (by omega) (R * C).toNat F a1 s1 (List.replicate (R * C).toNat 0) 0 (by rw [List.length_replicate];omega) (by omega) (by omega) (by rw [List.length_replicate];omega) (λx hx=>by rw [List.eq_of_mem_replicate hx];omega) k1
 exact ⟨l,a',s',e,by rw [q1,List.length_replicate],q2,q3⟩
theorem draw_matrix {a s:Int} (hF:5000000<F) (hs:SS.Src c a s):∃ x y l a' s',fC.p F c a s=some (x,y,l,a',s')/\List.length l<=100/\SS.Src c a' s':=by
 unfold fC.p
 obtain ⟨x,a1,s1,e1,h1,x0,x1⟩:=SS.nx (F:=F) (n:=5) hs (by omega)
 obtain ⟨y,a2,s2,e2,h2,y0,y1⟩:=SS.nx (F:=F) (n:=5) h1 (by omega)
 obtain ⟨l,a3,s3,e3,l1,_,h3⟩:=draw_size (F:=F) (R:=x) (C:=y) hF x0 (by omega) y0 (by omega) h2
 obtain ⟨r,a4,s4,e4,h4,r0,r1⟩:=SS.nx (F:=F) (n:=24) h3 (by omega)
 have k0:0<=x * y:=Int.mul_nonneg x0 y0
 have k1:x * y<=5 * 5:=Int.mul_le_mul (by omega) (by omega) y0 (by omega)
 rw [e1,Option.bind_some]
 simp only []
 rw [e2,Option.bind_some]
 simp only []
 rw [e3,Option.bind_some]
 simp only []
 rw [e4,Option.bind_some]
 simp only []
 cases (r==0) with
 | true=>rw [cond_true];exact ⟨_,_,_,_,_,rfl,by omega,h4⟩
 | false=>
  cases (r==1) with
  | true=>
   have hap:apn l [(0:Int)]=some (l++[0]):=by unfold apn;rw [if_pos (by simp;omega)]
   rw [cond_false,cond_true,hap];exact ⟨_,_,_,_,_,rfl,by simp;omega,h4⟩
  | false=>
   cases (r==2) with
   | true=>
    simp only [cond_false,cond_true]
    by_cases hl:(l.length:Int)>0
    ·obtain ⟨k,a5,s5,e5,h5,p0,p1⟩:=SS.nx (F:=F) (n:=(l.length:Int)) h4 (by omega)
     obtain ⟨q,a6,s6,e6,h6,q0,q1⟩:=SS.nx (F:=F) (n:=5) h5 (by omega)
     rw [decide_eq_true hl,cond_true,e5,Option.bind_some]
     simp only []
     rw [e6,Option.bind_some]
     simp only []
     rw [ixk q0 (by simpa using q1),Option.bind_some,ixk p0 p1,Option.bind_some,Option.bind_some]
     exact ⟨_,_,_,_,_,rfl,by rw [List.length_set];omega,h6⟩
    ·rw [decide_eq_false hl,cond_false]
     exact ⟨_,_,_,_,_,rfl,by omega,h4⟩
   | false=>
    simp only [cond_false]
    cases (r==3) with
    | true=>
     obtain ⟨k,a5,s5,e5,h5,p0,p1⟩:=SS.nx (F:=F) (n:=3) h4 (by omega)
     rw [cond_true,e5,Option.bind_some]
     simp only []
     rw [ixk p0 (by simpa using p1),Option.bind_some]
     exact ⟨_,_,_,_,_,rfl,by simp,h5⟩
    | false=>rw [cond_false];exact ⟨_,_,_,_,_,rfl,by omega,h4⟩
end Go.Proofs.Ytokekkacliomkaa.AE
end
section
namespace Go.Proofs.Ytokekkacliomkaa.AE
open Go Go.AE Go.Proofs
variable {R C F:Nat} {A:Mat} {i j k:Int}
end Go.Proofs.Ytokekkacliomkaa.AE
end
section
namespace Go.Proofs.Ytokekkacliomkaa.AE
open Go Go.AE Go.Proofs
variable {R C F:Nat} {A:Mat} {i j k:Int}
end Go.Proofs.Ytokekkacliomkaa.AE
end
section
namespace Go.Proofs.Ytokekkacliomkaa.AE
open Go Go.AE Go.Proofs
variable {R C F:Nat} {A:Mat} {i j k:Int}
def tor (l:List Int):List Int:=l.filter λx=>x != 1
end Go.Proofs.Ytokekkacliomkaa.AE
end
section
namespace Go.Proofs.Ytokekkacliomkaa.AE
open Go Go.AE Go.Proofs
variable {R K C F:Nat} {A B X:Mat} {i j k:Int}
def okm1 (x y:Int):Prop:=ab (x * y)<=1000000000000
instance (x y:Int):Decidable (okm1 x y):=by unfold okm1;infer_instance
end Go.Proofs.Ytokekkacliomkaa.AE
end
section
namespace Go.Proofs.Ytokekkacliomkaa.AE
open Go Go.AE Go.Proofs
variable {R K C F:Nat} {A B:Mat}
inductive HV (F:Nat) (a b:Int) (l:List Int) (c d:Int) (m:List Int):Int->List Int->Int->Prop
 | bad (e:Int) (he:e≠0):HV F a b l c d m 0 [] e
 | good (R n C':Nat) (A B:Mat) (v w:St) (y y':List Int) (ha:a=n) (hb:b=C') (hc:c=R) (hd:d=n) (hR:R<=48) (hn:n<=48) (hC:C'<=48) (hl:l=mk n C' B) (hm:m=mk R n A) (bA:Bd R n A) (bB:Bd n C' B)
   (h0:On R C' (mm n A B) λ_ _=>0) (rA:Red R n A v) (rB:Red n C' B w) (dA:Dia R n v.d) (dB:Dia n C' w.d) (fA:FV R n v.d y') (fB:FV n C' w.d y)
   (mB:c_.p F a b l=some true) (mA:c_.p F c d m=some true) (eA:bT.p F c d m=some (y',0)) (eB:bT.p F a b l=some (y,0)):HV F a b l c d m (IntKind.i64.wrap (IntKind.i64.wrap (a - y.length) - y'.length)) (tor y) 0
end Go.Proofs.Ytokekkacliomkaa.AE
end
section
namespace Go.Proofs.Ytokekkacliomkaa.AE
open Go Go.AE Go.Proofs
variable {F:Nat} {c:List Int}
theorem and_m (x:Int):0<=bits .and .u64 x 16777215/\bits .and .u64 x 16777215<=16777215:=by
 have h:(BitVec.ofInt 64 x &&& BitVec.ofInt 64 16777215).toNat<=16777215:=by
  rw [BitVec.toNat_and];exact Nat.le_trans Nat.and_le_right (by decide)
 have e:bits .and .u64 x 16777215=IntKind.u64.wrap ((BitVec.ofInt 64 x &&& BitVec.ofInt 64 16777215).toNat:Int):=rfl
 rw [e]
 generalize (BitVec.ofInt 64 x &&& BitVec.ofInt 64 16777215).toNat=k at h
 have e2:IntKind.u64.wrap (k:Int)=(k:Int) % 2 ^ 64:=rfl
 rw [e2]
 omega
theorem below {i h n:Int} (hc:c.length<=1000000) (hb:∀ m:Nat,0<=gt c m/\gt c m<=255) (hi:0<=i/\i<=c.length) (hn:1<=n) (hn2:n<=1000):∃ r i' h',eY.p F c i h n=some (r,i',h')/\0<=r/\r<n/\0<=i'/\i'<=c.length:=by
 unfold eY.p eY.pj1
 have a0:=and_m (Int.fdiv (IntKind.u64.wrap ((IntKind.u64.wrap (h * 6364136223846793005))+1442695040888963407)) (2 ^ (min (33:Int).toNat (IntKind.u64).bits)))
 generalize bits .and .u64 (Int.fdiv (IntKind.u64.wrap ((IntKind.u64.wrap (h * 6364136223846793005))+1442695040888963407)) (2 ^ (min (33:Int).toNat (IntKind.u64).bits))) 16777215=x at a0
 rw [ap (x:=x) (by omega) (by omega)]
 by_cases hlt:i<c.length
 ·have:=hb i.toNat
  rw [decide_eq_true hlt,cond_true,ixk hi.1 hlt,Option.bind_some,ap (x:=gt c i.toNat) (by omega) (by omega),ap (x:=x+gt c i.toNat) (by omega) (by omega),ap (x:=i+1) (by omega) (by omega),if_neg (by omega)]
  obtain ⟨r,m1,m2,m3⟩:∃ r,Int.tmod (x+gt c i.toNat) n=r/\0<=r/\r<n:=⟨_,rfl,by rw [Int.tmod_eq_emod_of_nonneg (by omega)];exact Int.emod_nonneg _ (by omega),by rw [Int.tmod_eq_emod_of_nonneg (by omega)];exact Int.emod_lt_of_pos _ (by omega)⟩
  rw [m1]
  exact ⟨r,_,_,rfl,m2,m3,by omega,by omega⟩
 ·rw [decide_eq_false hlt,cond_false,if_neg (by omega)]
  obtain ⟨r,m1,m2,m3⟩:∃ r,Int.tmod x n=r/\0<=r/\r<n:=⟨_,rfl,by rw [Int.tmod_eq_emod_of_nonneg (by omega)];exact Int.emod_nonneg _ (by omega),by rw [Int.tmod_eq_emod_of_nonneg (by omega)];exact Int.emod_lt_of_pos _ (by omega)⟩
  rw [m1]
  exact ⟨r,_,_,rfl,m2,m3,hi.1,hi.2⟩
structure Ord (n:Nat) (p:List Int):Prop where
 l:p.length=n
 r:∀ x∈p,0<=x/\x<n
 s:∀ a:Nat,a<n->∃ i:Nat,i<n/\p[i]?=some (a:Int)
theorem Ord.swap {n:Nat} {p:List Int} (h:Ord n p) {i k:Nat} (hi:i<n) (hk:k<n):Ord n ((p.set i (gt p k)).set k (gt p i)):=by
 have hl:=h.l
 have gi:gt p i=p[i]'(by omega):=by unfold gt;simp [show i<p.length by omega]
 have gk:gt p k=p[k]'(by omega):=by unfold gt;simp [show k<p.length by omega]
 refine ⟨by rw [List.length_set,List.length_set];exact h.l,λx hx=>?_,λa ha=>?_⟩
 ·rcases mem_set hx with hx | rfl
  ·rcases mem_set hx with hx | rfl
   ·exact h.r x hx
   ·rw [gk];exact h.r _ (List.getElem_mem _)
  ·rw [gi];exact h.r _ (List.getElem_mem _)
 ·obtain ⟨j,hj,e⟩:=h.s a ha
  by_cases e1:j=i
  ·subst e1
   refine ⟨k,hk,?_⟩
   rw [List.getElem?_set_self (by rw [List.length_set];omega),gi]
   rw [List.getElem?_eq_getElem (by omega)] at e;exact e
  ·by_cases e2:j=k
   ·subst e2
    refine ⟨i,hi,?_⟩
    by_cases e3:j=i
    ·exact absurd e3 e1
    ·rw [List.getElem?_set_ne e3,List.getElem?_set_self (by omega),gk]
     rw [List.getElem?_eq_getElem (by omega)] at e;exact e
   ·refine ⟨j,hj,?_⟩
    rw [List.getElem?_set_ne (Ne.symm e2),List.getElem?_set_ne (Ne.symm e1)];exact e
theorem shuf2 {n:Nat} (hn:n<=48) (hc:c.length<=1000000) (hb:∀ m:Nat,0<=gt c m/\gt c m<=255):∀ (m g:Nat) (i h:Int) (p:List Int),m<g->(m:Int)<n\/m=0->0<=i/\i<=c.length->Ord n p->∃ p' i' h',bO.pl61 F g c i h p m=some (p',i',h')/\Ord n p'/\0<=i'/\i'<=c.length:=by
 intro m
 induction m with
 | zero=>
  intro g i h p hg hm hi hp
  obtain ⟨g,rfl⟩:∃ g',g=g'+1:=⟨g - 1,by omega⟩
  rw [bO.pl61,decide_eq_false (by omega),cond_false]
  exact ⟨p,i,h,rfl,hp,hi.1,hi.2⟩
 | succ m ih=>
  intro g i h p hg hm hi hp
  obtain ⟨g,rfl⟩:∃ g',g=g'+1:=⟨g - 1,by omega⟩
  have hl:=hp.l
  obtain ⟨r,i',h',e,r0,r1,i0,i1⟩:=below (F:=F) (i:=i) (h:=h) (n:=((m+1:Nat):Int)+1) hc hb hi (by omega) (by omega)
  obtain ⟨k,rfl⟩:=Int.eq_ofNat_of_zero_le r0
  have x1:ix p ((m+1:Nat):Int)=some (m+1):=by rw [ixk (by omega) (by omega)];rfl
  have x2:ix p (k:Int)=some k:=by rw [ixk (by omega) (by omega)];rfl
  have x3:ix (p.set (m+1) (gt p k)) (k:Int)=some k:=by rw [ixk (by omega) (by rw [List.length_set];omega)];rfl
  rw [bO.pl61,decide_eq_true (by omega),cond_true,ap (x:=((m+1:Nat):Int)+1) (by omega) (by omega),e,Option.bind_some]
  simp only []
  rw [x1,Option.bind_some,x2,Option.bind_some,Option.bind_some,Option.bind_some,x3,Option.bind_some,Option.bind_some,ap (x:=((m+1:Nat):Int) - 1) (by omega) (by omega),show ((m+1:Nat):Int) - 1=(m:Int) by omega]
  exact ih g i' h' _ (by omega) (by omega) ⟨i0,i1⟩ (hp.swap (by omega) (by omega))
def upto (n:Nat):List Int:=(List.range n).map λ(k:Nat)=>(k:Int)
theorem shuf1 {n:Nat} (hn:n<=48) (hF:5000<F) (hc:c.length<=1000000) (hb:∀ m:Nat,0<=gt c m/\gt c m<=255) {i h:Int} (hi:0<=i/\i<=c.length):∀ (m g j:Nat),n - j=m->m<g->j<=n->∃ p' i' h',bO.pl29 F g c i h n (upto j) j=some (p',i',h')/\Ord n p'/\0<=i'/\i'<=c.length:=by
 intro m
 induction m with
 | zero=>
  intro g j hm hg hj
  obtain ⟨g,rfl⟩:∃ g',g=g'+1:=⟨g - 1,by omega⟩
  obtain rfl:j=n:=by omega
  rw [bO.pl29,decide_eq_false (by omega),cond_false]
  unfold bO.pj1
  have ho:Ord j (upto j):=⟨by simp [upto],λx hx=>by
   obtain ⟨y,hy,rfl⟩:=List.mem_map.1 hx
   have:=List.mem_range.1 hy;omega,λa ha=>⟨a,ha,by unfold upto;rw [List.getElem?_map,List.getElem?_range ha];rfl⟩⟩
  rw [ap (by omega) (by omega)]
  by_cases h0:j=0
  ·subst h0
   obtain ⟨f,hf⟩:∃ f,F=f+1:=⟨F - 1,by omega⟩
   have:∀ G,bO.pl61 F (G+1) c i h (upto 0) (((0:Nat):Int) - 1)=some (upto 0,i,h):=λG=>by
    rw [bO.pl61,decide_eq_false (by omega),cond_false]
   have:=this f
   rw [<- hf] at this
   exact ⟨_,_,_,this,ho,hi.1,hi.2⟩
  ·have:=shuf2 (F:=F) hn hc hb (j - 1) F i h (upto j) (by omega) (by omega) hi ho
   rw [show (((j - 1:Nat)):Int)=(j:Int) - 1 by omega] at this
   exact this
 | succ m ih=>
  intro g j hm hg hj
  obtain ⟨g,rfl⟩:∃ g',g=g'+1:=⟨g - 1,by omega⟩
  have hap:apn (upto j) [(j:Int)]=some (upto (j+1)):=by
   unfold apn;rw [if_pos (by simp [upto];omega)]
   unfold upto;rw [List.range_succ,List.map_append];rfl
  rw [bO.pl29,decide_eq_true (by omega),cond_true,hap,Option.bind_some,ap (by omega) (by omega)]
  exact ih g (j+1) (by omega) (by omega) (by omega)
theorem shuffled {n:Nat} (hn:n<=48) (hF:5000<F) (hc:c.length<=1000000) (hb:∀ m:Nat,0<=gt c m/\gt c m<=255) {i h:Int} (hi:0<=i/\i<=c.length):∃ p' i' h',bO.p F c i h n=some (p',i',h')/\Ord n p'/\0<=i'/\i'<=c.length:=by
 unfold bO.p
 exact shuf1 hn hF hc hb hi n F 0 (by omega) (by omega) (by omega)
theorem roll_l (hc:c.length<=1000000) {i:Int}:∀ (m g:Nat) (h:Int) (j:Int),c.length - j=m->m<g->0<=j->∃ h',cV.pl29 F g c i h j=some (c,i,h'):=by
 intro m
 induction m with
 | zero=>
  intro g h j hm hg hj
  obtain ⟨g,rfl⟩:∃ g',g=g'+1:=⟨g - 1,by omega⟩
  rw [cV.pl29,decide_eq_false (by omega),cond_false]
  exact ⟨h,rfl⟩
 | succ m ih=>
  intro g h j hm hg hj
  obtain ⟨g,rfl⟩:∃ g',g=g'+1:=⟨g - 1,by omega⟩
  rw [cV.pl29,decide_eq_true (by omega),cond_true,ixk hj (by omega),Option.bind_some,ap (x:=j+1) (by omega) (by omega)]
  exact ih g _ (j+1) (by omega) (by omega) (by omega)
theorem Sim.trans {R C:Nat} {A B D:Mat} (h:Sim R C A B) (h':Sim R C B D):Sim R C A D:=by
 obtain ⟨P,U,h⟩:=h
 obtain ⟨Q,V,h'⟩:=h'
 refine ⟨mm R Q P,mm C U V,λi j h1 h2 h3 h4=>?_⟩
 rw [h' i j h1 h2 h3 h4]
 have e:On R C (mm C (mm R Q B) V) (mm C (mm R (mm R Q P) A) (mm C U V)):=by
  rw [show mm R (mm R Q P) A=mm R Q (mm R P A) from mm_assoc,show mm C (mm R Q (mm R P A)) (mm C U V)=mm C (mm C (mm R Q (mm R P A)) U) V from mm_assoc.symm,show mm C (mm R Q (mm R P A)) U=mm R Q (mm C (mm R P A) U) from mm_assoc]
  exact On.mm (On.mm On.refl h) On.refl
 exact e i j h1 h2 h3 h4
def prm (A:Mat) (p q:List Int):Mat:=λi j=>A (gt p i.toNat) (gt q j.toNat)
theorem Ord.gt {n:Nat} {p:List Int} (h:Ord n p) {i:Int} (h0:0<=i) (hi:i<n):0<=Go.AE.gt p i.toNat/\Go.AE.gt p i.toNat<n:=by
 have hl:=h.l
 have e:Go.AE.gt p i.toNat=p[i.toNat]'(by omega):=by unfold Go.AE.gt;simp [show i.toNat<p.length by omega]
 rw [e];exact h.r _ (List.getElem_mem _)
end Go.Proofs.Ytokekkacliomkaa.AE
end
section
namespace Go.Proofs.Ytokekkacliomkaa.AE
open Go Go.AE Go.Proofs
variable {F n:Nat} {A:Mat} {c:List Int}
theorem eqs_l {l:List Int} (hl:l.length<=1000000):∀ (m g:Nat) (i:Int),l.length - i=m->m<g->0<=i->dc.pl29 F g l l l.length i=some true:=by
 intro m
 induction m with
 | zero=>
  intro g i hm hg hi
  obtain ⟨g,rfl⟩:∃ g',g=g'+1:=⟨g - 1,by omega⟩
  rw [dc.pl29,decide_eq_false (by omega),cond_false]
 | succ m ih=>
  intro g i hm hg hi
  obtain ⟨g,rfl⟩:∃ g',g=g'+1:=⟨g - 1,by omega⟩
  rw [dc.pl29,decide_eq_true (by omega),cond_true,ixk hi (by omega),Option.bind_some,Option.bind_some,bne_self_eq_false,cond_false,ap (by omega) (by omega)]
  exact ih g (i+1) (by omega) (by omega) (by omega)
theorem eqs_v {l l':List Int} (hl:l.length<=1000000) (e:l.length=l'.length):∀ (m g:Nat) (i:Int),l.length - i=m->m<g->0<=i->dc.pl29 F g l l' l.length i=some true->∀ t:Nat,i<=t->t<l.length->gt l t=gt l' t:=by
 intro m
 induction m with
 | zero=>intro g i hm hg hi _ t h1 h2;omega
 | succ m ih=>
  intro g i hm hg hi h t h1 h2
  obtain ⟨g,rfl⟩:∃ g',g=g'+1:=⟨g - 1,by omega⟩
  rw [dc.pl29,decide_eq_true (by omega),cond_true,ixk hi (by omega),Option.bind_some,ixk hi (by omega),Option.bind_some,ap (x:=i+1) (by omega) (by omega)] at h
  cases hc:(gt l i.toNat != gt l' i.toNat) with
  | true=>rw [hc,cond_true] at h;cases h
  | false=>
   rw [hc,cond_false] at h
   by_cases q:(t:Int)=i
   ·have:=bne_eq_false_iff_eq.1 hc
    rw [show t=i.toNat by omega];exact this
   ·exact ih g (i+1) (by omega) (by omega) (by omega) h t (by omega) h2
theorem sig_ok (hn:n<=12) (hF:5000000<F) (hb:Bd n n A) (hA:Sy n A) (hV:Pi n (mx n A)<=1000000000):eJ.p F n n (mk n n A)=some (sgm n A,0):=by
 have hm:n * n<=12 * 12:=Nat.mul_le_mul hn hn
 have et:mk n n (tr A)=mk n n A:=cY λi j i0 i1 j0 j1=>hA j i j0 j1 i0 i1
 obtain ⟨v,e1,h1⟩:=vol_i (F:=F) (by omega) (by omega) hb n F 0 (by omega) (by omega) (by omega) (by show (1:Int)<=_;omega)
 rw [show Pi 0 (mx n A)=1 from rfl,show ((0:Nat):Int)=0 from rfl] at e1
 have h2:=h1.2 hV
 obtain ⟨s,s1,s2,s3,_⟩:=sig_w (F:=F) hn hF hV
 have hs:s=es n A:=list_ext (by rw [s1,es_len]) λi hi=>by rw [s2 i (by omega),es_gt (by omega)]
 obtain ⟨r,r1,_,_,b1,b2,_⟩:=sgm_bound (n:=n) (A:=A)
 unfold eJ.p
 rw [isM_true (by omega) (by omega) hF hb,Option.bind_some,Bool.not_true,cond_false,bne_self_eq_false,cond_false,transp (by omega) hF hb,Option.bind_some]
 simp only []
 unfold iz.p dc.p bw.p
 rw [et,beq_self_eq_true,cond_true,cond_true,bne_self_eq_false,cond_false,eqs_l (by rw [dG];omega) (n * n) F 0 (by rw [dG];omega) (by omega) (by omega),Option.bind_some,Option.bind_some,Bool.not_true,cond_false,decide_eq_false (by omega),cond_false,e1,Option.bind_some,decide_eq_false (by omega),cond_false,s3,Option.bind_some]
 have:tl s (n+1)=tw 0 s:=by rw [<- s1];exact tl_tw
 rw [this,hs]
 show some (IntKind.i64.wrap (sgm n A),(0:Int))=_
 rw [ap (by omega) (by omega)]
theorem sig_inv {a b y:Int} {l:List Int} (hF:5000000<F) (hl:l.length<=2000000) (h:eJ.p F a b l=some (y,0)):∃ (n:Nat) (A:Mat),a=n/\b=n/\l=mk n n A/\n<=12/\Bd n n A/\Sy n A/\Pi n (mx n A)<=1000000000:=by
 unfold eJ.p at h
 obtain ⟨v,m1,m2,hv⟩:=isMatrix_both (F:=F) (a:=a) (b:=b) (by omega) hl
 rw [m2,Option.bind_some] at h
 cases v with
 | false=>rw [Bool.not_false,cond_true] at h;cases h
 | true=>
  obtain ⟨R,C,A,rfl,rfl,hR,hC,rfl,hb⟩:=hv rfl
  rw [Bool.not_true,cond_false] at h
  by_cases hRC:R=C
  ·subst hRC
   have hm:R * R<=48 * 48:=Nat.mul_le_mul hR hR
   rw [bne_self_eq_false,cond_false,transp hR (by omega) hb,Option.bind_some] at h
   simp only [] at h
   obtain ⟨v,s1,s2⟩:=eq_both (F:=F) (l:=mk R R A) (l':=mk R R (tr A)) (by rw [dG];omega) (by rw [dG,dG]) (R * R) F 0 (by rw [dG];omega) (by omega) (by omega)
   have el:(((mk R R A).length:Int) != ((mk R R (tr A)).length:Int))=false:=by rw [dG,dG,bne_self_eq_false]
   unfold iz.p dc.p at h
   rw [beq_self_eq_true,cond_true,cond_true,el,cond_false,s1,Option.bind_some,Option.bind_some] at h
   cases v with
   | false=>rw [Bool.not_false,cond_true] at h;cases h
   | true=>
    have hv:=eqs_v (by rw [dG];omega) (by rw [dG,dG]) (R * R) F 0 (by rw [dG];omega) (by omega) (by omega) s1
    have hA:Sy R A:=λi j i0 i1 j0 j1=>by
     obtain ⟨u,w,rfl,rfl,g1,g2,g3,g4,g5⟩:=BD (R:=R) (C:=R) i0 i1 j0 j1
     have:=hv (u * R+w) (by omega) (by rw [dG];exact g4)
     rw [<- g3,fj i0 i1 j0 j1,fj i0 i1 j0 j1] at this
     exact this
    rw [Bool.not_true,cond_false] at h
    by_cases h12:(R:Int)>12
    ·rw [decide_eq_true h12,cond_true] at h;cases h
    ·rw [decide_eq_false h12,cond_false] at h
     unfold bw.p at h
     obtain ⟨v,e1,h1⟩:=vol_i (F:=F) hR (by omega) hb R F 0 (by omega) (by omega) (by omega) (by show (1:Int)<=_;omega)
     rw [show Pi 0 (mx R A)=1 from rfl,show ((0:Nat):Int)=0 from rfl] at e1
     rw [e1,Option.bind_some] at h
     by_cases q:v>1000000000
     ·rw [decide_eq_true q,cond_true] at h;cases h
     ·exact ⟨R,A,rfl,rfl,rfl,by omega,hb,hA,h1.1 (by omega)⟩
  ·rw [show ((R:Int) != (C:Int))=true by simp;omega,cond_true] at h;cases h
theorem tw_tw:∀ (s:List Int) (i:Nat),tw i (tw i s)=s
 | [],_=>rfl
 | x::t,i=>by
  show sg2 i * (sg2 i * x)::tw (i+1) (tw (i+1) t)=x::t
  rw [tw_tw t,<-Int.mul_assoc]
  rcases sg2_or i with e | e <;> rw [e] <;> simp
theorem sgm_neg:sgm n (ng A)=- sgm n A:=by
 have e:es n (ng A)=tw 0 (es n A):=list_ext (by rw [es_len,tw_len,es_len]) λi hi=>by
  rw [es_len] at hi
  rw [es_gt (by omega),tw_gt _ _ _ (by rw [es_len];exact hi),es_gt (by omega),ek_neg,Nat.zero_add]
 unfold sgm
 rw [e,tw_tw];omega
theorem sgm_cj {h:Int->Int} (e:∀ j,ek n (cj A h) j=ek n A j):sgm n (cj A h)=sgm n A:=by
 have:es n (cj A h)=es n A:=by unfold es;congr 1;funext j;exact e j
 unfold sgm;rw [this]
theorem take1 {l:List Int} {k:Nat} (h:k<l.length):l.take (k+1)=l.take k++[gt l k]:=by
 rw [List.take_add_one];congr 1
 unfold gt
 simp [h]
theorem ap0 {l:List Int} (h:l.length<=1000000):apn ([]:List Int) l=some l:=by unfold apn;rw [if_pos (by simp;omega)];rfl
section
variable {p:List Int} {x:Int} (hn:n<=12) (hp:Ord n p) (hb:Bd n n A)
include hn hp hb
theorem two_in {C} {i:Nat} (i1:i<n):∀ (d g j:Nat),n - j=d->d<g->j<=n ->
  bc.pl131029 F C g n n (mk n n A) x n p n n ((mk n n (ng A)).take (i * n+j)) n n ((mk n n (prm A p p)).take (i * n+j)) i j =
   C n n (mk n n A) x n p n n ((mk n n (ng A)).take ((i+1) * n)) n n ((mk n n (prm A p p)).take ((i+1) * n)) ((i:Int)+1):=by
 intro d
 induction d with
 | zero=>
  intro g j hd hg hj
  obtain ⟨g,rfl⟩:∃ g',g=g'+1:=⟨g - 1,by omega⟩
  obtain rfl:j=n:=by omega
  rw [bc.pl131029,decide_eq_false (by omega),cond_false]
  unfold bc.pj5 bc.pj4
  rw [ap (x:=(i:Int)+1) (by omega) (by omega),show i * j+j=(i+1) * j by rw [Nat.add_mul,Nat.one_mul]]
 | succ d ih=>
  intro g j hd hg hj
  obtain ⟨g,rfl⟩:∃ g',g=g'+1:=⟨g - 1,by omega⟩
  have hm:n * n<=12 * 12:=Nat.mul_le_mul hn hn
  have hlt:i * n+j<n * n:=by
   have:=Nat.mul_le_mul_right n (show i+1<=n by omega)
   rw [Nat.add_mul,Nat.one_mul] at this;omega
  have ti:=hp.gt (i:=(i:Int)) (by omega) (by omega)
  have tj:=hp.gt (i:=(j:Int)) (by omega) (by omega)
  rw [Int.toNat_natCast] at ti tj
  have ei:ix p (i:Int)=some i:=by unfold ix;rw [if_pos (by rw [hp.l];omega)];congr 1
  have ej:ix p (j:Int)=some j:=by unfold ix;rw [if_pos (by rw [hp.l];omega)];congr 1
  have hbij:=hb i j (by omega) (by omega) (by omega) (by omega)
  have l1:((mk n n (ng A)).take (i * n+j)).length<=1000000:=by rw [List.length_take,dG];omega
  have l2:((mk n n (prm A p p)).take (i * n+j)).length<=1000000:=by rw [List.length_take,dG];omega
  have g1:gt (mk n n (ng A)) (i * n+j)=- A i j:=by
   have:=BE (R:=n) (C:=n) (A:=ng A) (a:=i) (b:=j) (by omega) hlt
   unfold gt;rw [List.getD_eq_getElem?_getD,this];rfl
  have g2:gt (mk n n (prm A p p)) (i * n+j)=A (gt p i) (gt p j):=by
   have:=BE (R:=n) (C:=n) (A:=prm A p p) (a:=i) (b:=j) (by omega) hlt
   unfold gt;rw [List.getD_eq_getElem?_getD,this];rfl
  rw [bc.pl131029,decide_eq_true (by omega),cond_true,ap0 l1,Option.bind_some,eL (i:=(i:Int)) (j:=(j:Int)) (by omega) (by omega) (by omega) (by omega) (by omega) (by omega),Option.bind_some,fj (i:=(i:Int)) (j:=(j:Int)) (by omega) (by omega) (by omega) (by omega),ap (x:=0 - A i j) (by omega) (by omega),app1 l1,Option.bind_some,
   ap0 l2,Option.bind_some,ei,Option.bind_some,ej,Option.bind_some,eL (i:=gt p i) (j:=gt p j) (by omega) (by omega) ti.1 ti.2 tj.1 tj.2,Option.bind_some,fj ti.1 ti.2 tj.1 tj.2,app1 l2,Option.bind_some,ap (x:=(j:Int)+1) (by omega) (by omega),Int.zero_sub,<-g1,<-g2,<-take1 (by rw [dG];exact hlt),<-take1 (by rw [dG];exact hlt)]
  exact ih g (j+1) (by omega) (by omega) (by omega)
theorem two_out (hF:1000<F):∀ (d g i:Nat),n - i=d->d<g->i<=n ->
  bc.pl8189 F g n n (mk n n A) x n p n n ((mk n n (ng A)).take (i * n)) n n ((mk n n (prm A p p)).take (i * n)) i =
   bc.pj3 F n n (mk n n A) x n n (mk n n (ng A)) n n (mk n n (prm A p p)):=by
 intro d
 induction d with
 | zero=>
  intro g i hd hg hi
  obtain ⟨g,rfl⟩:∃ g',g=g'+1:=⟨g - 1,by omega⟩
  obtain rfl:i=n:=by omega
  rw [bc.pl8189,decide_eq_false (by omega),cond_false,List.take_of_length_le (by rw [dG];omega),List.take_of_length_le (by rw [dG];omega)]
 | succ d ih=>
  intro g i hd hg hi
  obtain ⟨g,rfl⟩:∃ g',g=g'+1:=⟨g - 1,by omega⟩
  have h:=two_in (F:=F) (x:=x) hn hp hb (C:=bc.pl8189 F g) (i:=i) (by omega) n F 0 (by omega) (by omega) (by omega)
  rw [Nat.add_zero,show ((0:Nat):Int)=0 from rfl] at h
  rw [bc.pl8189,decide_eq_true (by omega),cond_true,h]
  exact ih g (i+1) (by omega) (by omega) (by omega)
end
end Go.Proofs.Ytokekkacliomkaa.AE
end
section
namespace Go.Proofs.Ytokekkacliomkaa.AE
open Go Go.AE Go.Proofs
variable {F n:Nat} {A:Mat} {c:List Int}
theorem ixl {R C:Nat} {l:List Int} {i j:Int} (hR:R<=1000) (hC:C<=1000) (hl:l.length=R * C) (hi0:0<=i) (hi:i<R) (hj0:0<=j) (hj:j<C):∃ x,ix l (IntKind.i64.wrap (IntKind.i64.wrap (i * C)+j))=some x:=by
 rw [afJ hl,eL hR hC hi0 hi hj0 hj];exact ⟨_,rfl⟩
theorem ds1 {C:List Int->Int->Int->Int->Int->Int->List Int->Int->Option (Int×Int×List Int)} (hn:n<=10) {i:Int} (i0:0<=i) (i1:i<n):∀ (d g:Nat) (a s:Int) (l:List Int) (j:Int),i+1 - j=d->d<g->0<=j->l.length=n * n->SS.Src c a s ->
  ∃ l' a' s',l'.length=n * n/\SS.Src c a' s'/\aV.pl4053 F C g c a s n n n l i j=C c a' s' n n n l' (i+1):=by
 intro d
 induction d with
 | zero=>
  intro g a s l j hd hg hj hl hs
  obtain ⟨g,rfl⟩:∃ g',g=g'+1:=⟨g - 1,by omega⟩
  rw [aV.pl4053,decide_eq_false (by omega),cond_false]
  unfold aV.pj5 aV.pj4
  rw [ap (x:=i+1) (by omega) (by omega)]
  exact ⟨l,a,s,hl,hs,rfl⟩
 | succ d ih=>
  intro g a s l j hd hg hj hl hs
  obtain ⟨g,rfl⟩:∃ g',g=g'+1:=⟨g - 1,by omega⟩
  obtain ⟨x,a1,s1,e1,h1,x0,x1⟩:=SS.nx (F:=F) (n:=7) hs (by omega)
  obtain ⟨k1,e2⟩:=ixl (R:=n) (C:=n) (l:=l) (i:=i) (j:=j) (by omega) (by omega) hl i0 i1 hj (by omega)
  obtain ⟨k2,e3⟩:=ixl (R:=n) (C:=n) (l:=l.set k1 (IntKind.i64.wrap (x - 3))) (i:=j) (j:=i) (by omega) (by omega) (by rw [List.length_set];exact hl) hj (by omega) i0 i1
  rw [aV.pl4053,decide_eq_true (by omega),cond_true,e1,Option.bind_some]
  simp only []
  rw [e2,Option.bind_some,Option.bind_some,e3,Option.bind_some,Option.bind_some,ap (x:=j+1) (by omega) (by omega)]
  exact ih g a1 s1 _ (j+1) (by omega) (by omega) (by omega) (by rw [List.length_set,List.length_set];exact hl) h1
theorem ds3 (hn:n<=10) {a s:Int} {l:List Int} (hl:l.length=n * n) (hs:SS.Src c a s):∃ x y l',aV.pj3 F c a s n n n l=some (x,y,l')/\List.length l'<=2000000:=by
 have hm:n * n<=10 * 10:=Nat.mul_le_mul hn hn
 unfold aV.pj3
 obtain ⟨x,a1,s1,e1,h1,x0,x1⟩:=SS.nx (F:=F) (n:=12) hs (by omega)
 rw [e1,Option.bind_some]
 simp only []
 cases (x==0) with
 | true=>
  rw [cond_true]
  by_cases c1:(n:Int)>0
  ·obtain ⟨z,a2,s2,e2,h2,z0,z1⟩:=SS.nx (F:=F) (n:=12) h1 (by omega)
   have k2:1 * 1<=n * n:=Nat.mul_le_mul (by omega) (by omega)
   rw [decide_eq_true c1,cond_true,e2,Option.bind_some]
   simp only []
   rw [<- Int.natCast_mul,ap (x:=((n * n:Nat):Int)) (by omega) (by omega),ap (x:=((n * n:Nat):Int) - 1) (by omega) (by omega),ixk (l:=l) (by omega) (by omega),Option.bind_some,Option.bind_some]
   exact ⟨_,_,_,rfl,by rw [List.length_set];omega⟩
  ·rw [decide_eq_false c1,cond_false]
   exact ⟨_,_,l,rfl,by omega⟩
 | false=>
  rw [cond_false]
  cases (x==1) with
  | true=>
   obtain ⟨z,a2,s2,e2,h2,z0,z1⟩:=SS.nx (F:=F) (n:=2) h1 (by omega)
   rw [cond_true,e2,Option.bind_some]
   simp only []
   rw [ap (x:=12+z) (by omega) (by omega),zero_l (by omega) (by omega) (by omega) (by omega),Option.bind_some]
   simp only []
   rw [zero_l (by omega) (by omega) (by omega) (by omega),Option.bind_some]
   refine ⟨_,_,_,rfl,?_⟩
   simp only [List.length_replicate]
   have:(12+z) * (12+z)<=14 * 14:=Int.mul_le_mul (by omega) (by omega) (by omega) (by omega)
   omega
  | false=>
   rw [cond_false]
   exact ⟨_,_,l,rfl,by omega⟩
theorem ds2 (hn:n<=10) (hF:1000<F):∀ (d g:Nat) (a s:Int) (l:List Int) (i:Int),n - i=d->d<g->0<=i->l.length=n * n->SS.Src c a s ->
  ∃ x y l',aV.pl253 F g c a s n n n l i=some (x,y,l')/\List.length l'<=2000000:=by
 intro d
 induction d with
 | zero=>
  intro g a s l i hd hg hi hl hs
  obtain ⟨g,rfl⟩:∃ g',g=g'+1:=⟨g - 1,by omega⟩
  rw [aV.pl253,decide_eq_false (by omega),cond_false]
  exact ds3 hn hl hs
 | succ d ih=>
  intro g a s l i hd hg hi hl hs
  obtain ⟨g,rfl⟩:∃ g',g=g'+1:=⟨g - 1,by omega⟩
  obtain ⟨l',a',s',l1,s1,e⟩:=ds1 (F:=F) (C:=aV.pl253 F g) hn hi (show i<n by omega) (i+1).toNat F a s l 0 (by omega) (by omega) (by omega) hl hs
  rw [aV.pl253,decide_eq_true (by omega),cond_true,e]
  exact ih g a' s' l' (i+1) (by omega) (by omega) (by omega) l1 s1
theorem draw_sym (hF:5000000<F) (hc:c.length<=1000000) (hb:∀ m:Nat,0<=gt c m/\gt c m<=255):∃ a b l,aV.p F c=some (a,b,l)/\List.length l<=2000000:=by
 unfold aV.p
 obtain ⟨t,e0,h0⟩:=SS.from_ (F:=F) (by omega) hc hb
 rw [e0,Option.bind_some]
 simp only []
 obtain ⟨q,a1,s1,e1,h1,q0,q1⟩:=SS.nx (F:=F) (n:=8) h0 (by omega)
 rw [e1,Option.bind_some]
 simp only []
 cases (q==0) with
 | true=>
  obtain ⟨x,y,l,a2,s2,e2,l2,_⟩:=draw_matrix (F:=F) (by omega) h1
  rw [cond_true,e2,Option.bind_some]
  exact ⟨x,y,l,rfl,by omega⟩
 | false=>
  obtain ⟨r,a2,s2,e2,h2,r0,r1⟩:=SS.nx (F:=F) (n:=5) h1 (by omega)
  obtain ⟨m,rfl⟩:=Int.eq_ofNat_of_zero_le r0
  rw [cond_false,e2,Option.bind_some]
  simp only []
  rw [zero_l (by omega) (by omega) (by omega) (by omega),Option.bind_some]
  exact ds2 (by omega) (by omega) m F a2 s2 _ 0 (by omega) (by omega) (by omega) (by rw [List.length_replicate,<-Int.natCast_mul,Int.toNat_natCast]) h2
theorem fin_ok {x:Int} (hn:n<=12) (hF:1000000000000000<=F) (hb:Bd n n A) (hA:Sy n A) (hV:Pi n (mx n A)<=1000000000) {p:List Int} (hp:Ord n p) (hx:x=sgm n A) :
  bc.pj3 F n n (mk n n A) x n n (mk n n (ng A)) n n (mk n n (prm A p p))=some true:=by
 subst hx
 have hord:=order (A:=A) (h:=λx=>gt p x.toNat) (λa a0 a1=>hp.gt a0 a1) (λy y0 y1=>by
  obtain ⟨i,i1,i2⟩:=hp.s y.toNat (by omega)
  refine ⟨i,by omega,by omega,?_⟩
  show gt p (i:Int).toNat=y
  unfold gt
  rw [Int.toNat_natCast,List.getD_eq_getElem?_getD,i2]
  show ((y.toNat:Nat):Int)=y
  omega)
 have hb1:Bd n n (ng A):=λi j i0 i1 j0 j1=>by
  have:=hb i j i0 i1 j0 j1
  show _<=- A i j/\- A i j<=_
  omega
 have hs1:Sy n (ng A):=λi j i0 i1 j0 j1=>by show - A i j=- A j i;rw [hA i j i0 i1 j0 j1]
 have hv1:Pi n (mx n (ng A))<=1000000000:=by
  have:Pi n (mx n (ng A))=Pi n (mx n A):=Pi_congr λa _ _=>by
   have:rsum n (ng A) a=rsum n A a:=Sg_congr λb _ _=>by show ab0 (- A a b)=ab0 (A a b);unfold ab0;split <;> split <;> omega
   unfold mx;rw [this]
  rw [this];exact hV
 have hb2:Bd n n (prm A p p):=λi j i0 i1 j0 j1=>hb _ _ (hp.gt i0 i1).1 (hp.gt i0 i1).2 (hp.gt j0 j1).1 (hp.gt j0 j1).2
 have hs2:Sy n (prm A p p):=λi j i0 i1 j0 j1=>hA _ _ (hp.gt i0 i1).1 (hp.gt i0 i1).2 (hp.gt j0 j1).1 (hp.gt j0 j1).2
 have hv2:Pi n (mx n (prm A p p))<=1000000000:=by rw [show prm A p p=cj A λx=>gt p x.toNat from rfl,hord.2];exact hV
 have k1:=sig_ok (F:=F) hn (by omega) hb1 hs1 hv1
 have k2:=sig_ok (F:=F) hn (by omega) hb2 hs2 hv2
 rw [sgm_neg] at k1
 rw [show prm A p p=cj A λx=>gt p x.toNat from rfl,sgm_cj hord.1] at k2
 rw [show prm A p p=cj A λx=>gt p x.toNat from rfl]
 obtain ⟨r,r1,r2,r3,b1,b2,b3⟩:=sgm_bound (n:=n) (A:=A)
 unfold bc.pj3
 rw [k1,k2,Option.bind_some,Option.bind_some,ap (x:=0 - sgm n A) (by omega) (by omega),Int.zero_sub]
 unfold gK.p io.p gr.p
 rw [isM_true (by omega) (by omega) (by omega) hb,Option.bind_some,Bool.not_true,cond_false]
 rcases factors_v (F:=F) (R:=n) (C:=n) (by omega) (by omega) hF hb with f1 | ⟨y,v,f2,f3,f4,f5⟩
 ·rw [f1]
  simp only [Option.bind_some,beq_self_eq_true,cond_true]
  rfl
 ·have hyr:=f4.r
  have hrk:y.length=r:=sym_rank hA f2 (λi j a b c d e=>f3.o i j a b c d e) f4.r (λl l0 l1=>by
   obtain ⟨u,rfl⟩:=Int.eq_ofNat_of_zero_le l0
   have:=(f4.v u (by omega)).2.1
   omega) (λl l0 l1=>f4.z l l0 l1 l1) r1 r2 r3
  rw [f5]
  simp only [Option.bind_some,beq_self_eq_true,cond_true,bne_self_eq_false,cond_false]
  rw [hrk,ap (x:=(r:Int) - sgm n A) (by omega) (by omega),Int.tmod_eq_emod_of_nonneg (by omega),b3,decide_eq_true b1,decide_eq_true b2]
  rfl
theorem FnSymmetric_pure:∀ (aY:List Int),aY.length<=maxLen->(∀ x∈aY,(Lit.int .u8 x).wf=true)->∃ F,bc.p F aY=some true:=by
 intro c _ hx
 obtain ⟨F,hF⟩:∃ F:Nat,F=1000000000000000:=⟨_,rfl⟩
 refine ⟨F,?_⟩
 unfold bc.p iH.p
 rw [Option.bind_some]
 by_cases hb:(c.length:Int)>4096
 ·rw [decide_eq_true hb,cond_true]
 rw [decide_eq_false hb,cond_false]
 have hby:∀ m:Nat,0<=gt c m/\gt c m<=255:=λm=>by
  by_cases hm:m<c.length
  ·have h1:gt c m=c[m]:=by unfold gt;simp [hm]
   have:=hx _ (List.getElem_mem hm)
   rw [h1]
   have h2:IntKind.u8.min<=c[m]/\c[m]<=IntKind.u8.max:=by simpa [Lit.wf] using this
   have h3:IntKind.u8.min=0:=by decide
   have h4:IntKind.u8.max=255:=by decide
   omega
  ·have h1:gt c m=0:=by unfold gt;rw [List.getD_eq_getElem?_getD,List.getElem?_eq_none (by omega)];rfl
   rw [h1];omega
 have hcl:c.length<=1000000:=by omega
 unfold cV.p
 obtain ⟨h0,e0⟩:=roll_l (F:=F) (c:=c) (i:=0) hcl c.length F (IntKind.u64.wrap ((IntKind.u64.wrap ((7006:Int) * 7919))+(IntKind.u64.wrap (c.length:Int)))) 0 (by omega) (by omega) (by omega)
 rw [e0,Option.bind_some]
 simp only []
 obtain ⟨a,b,l,e1,hl⟩:=draw_sym (F:=F) (by omega) hcl hby
 rw [e1,Option.bind_some]
 simp only []
 obtain ⟨y,e,i0,i1,i2⟩:=sig_both (F:=F) (a:=a) (b:=b) (l:=l) (by omega) hl
 rw [i1,i2]
 simp only [Option.bind_some,bne_self_eq_false,cond_false]
 by_cases he:e=0
 ·subst he
  obtain ⟨n,A,rfl,rfl,rfl,hn,hbd,hA,hV⟩:=sig_inv (F:=F) (by omega) hl i1
  have ok:=sig_ok (F:=F) hn (by omega) hbd hA hV
  rw [i1] at ok
  have hy:y=sgm n A:=congrArg Prod.fst (Option.some.inj ok)
  obtain ⟨p,i',h',g1,g2,_⟩:=shuffled (F:=F) (n:=n) (c:=c) (i:=0) (h:=h0) (by omega) (by omega) hcl hby ⟨by omega,by omega⟩
  rw [bne_self_eq_false,cond_false,g1,Option.bind_some]
  simp only []
  have h2:=two_out (F:=F) (x:=y) hn g2 hbd (by omega) n F 0 (by omega) (by omega) (by omega)
  rw [Nat.zero_mul,List.take_zero,List.take_zero,show ((0:Nat):Int)=0 from rfl] at h2
  rw [h2]
  exact fin_ok hn (by omega) hbd hA hV g2 hy
 ·rw [show (e != 0)=true from bne_iff_ne.2 he,cond_true]
  rw [i0 he];rfl
end Go.Proofs.Ytokekkacliomkaa.AE
end
