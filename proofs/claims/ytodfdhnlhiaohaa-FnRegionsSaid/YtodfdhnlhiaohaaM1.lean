import Derived.Test.YtodfdhnlhiaohaaP1
set_option linter.unusedVariables false
set_option linter.unusedSimpArgs false
section
namespace Go.Proofs.Ytodfdhnlhiaohaa.AE.DD
open Go Go.AE Go.Proofs
variable {F:Nat}
section
variable {α:Type} [Inhabited α]
theorem gset_eq {l:List α} {n:Nat} {x:α} (h:n<l.length):gt (l.set n x) n=x:=by
 unfold gt;rw [List.getD_eq_getElem?_getD,List.getElem?_set_self h];rfl
theorem gset_ne {l:List α} {n m:Nat} {x:α} (h:n≠m):gt (l.set n x) m=gt l m:=by
 unfold gt;rw [List.getD_eq_getElem?_getD,List.getD_eq_getElem?_getD,List.getElem?_set_ne h]
theorem gt_out {l:List α} {n:Nat} (h:l.length<=n):gt l n=default:=by
 unfold gt;rw [List.getD_eq_getElem?_getD,List.getElem?_eq_none h];rfl
theorem gext {l m:List α} (h:l.length=m.length) (hh:∀ n:Nat,n<l.length->gt l n=gt m n):l=m:=by
 apply List.ext_getElem?
 intro n
 by_cases hn:n<l.length
 ·rw [eS hn,eS (by omega),hh n hn]
 ·rw [List.getElem?_eq_none (by omega),List.getElem?_eq_none (by omega)]
theorem gmem {l:List α} {n:Nat} (h:n<l.length):gt l n∈l:=List.mem_of_getElem? (eS h)
theorem gapp_lt {l m:List α} {n:Nat} (h:n<l.length):gt (l++m) n=gt l n:=by
 unfold gt;rw [List.getD_eq_getElem?_getD,List.getD_eq_getElem?_getD,List.getElem?_append_left h]
theorem gapp_eq {l:List α} {x:α}:gt (l++[x]) l.length=x:=by
 unfold gt;rw [List.getD_eq_getElem?_getD,List.getElem?_append_right (Nat.le_refl _),Nat.sub_self];rfl
theorem grep {n m:Nat} {x:α} (h:m<n):gt (List.replicate n x) m=x:=by
 unfold gt;rw [List.getD_eq_getElem?_getD,List.getElem?_replicate,if_pos h];rfl
theorem mem_gt {l:List α} {x:α} (h:x∈l):∃ n,n<l.length/\gt l n=x:=by
 obtain ⟨n,hn⟩:=List.getElem?_of_mem h
 have hl:=(List.getElem?_eq_some_iff.1 hn).1
 refine ⟨n,hl,?_⟩
 rw [eS hl] at hn;exact Option.some.inj hn
end
section
variable {α:Type}
theorem ix_of {l:List α} {i:Int} (h0:0<=i) (h:i<l.length):ix l i=some i.toNat:=by
 unfold ix;rw [if_pos ⟨h0,h⟩]
theorem ixn {l:List α} {n:Nat} (h:n<l.length):ix l (n:Int)=some n:=by
 rw [ix_of (by omega) (by omega)];simp
theorem apn_of {l m:List α} (h:l.length+m.length<=4294967296):apn l m=some (l++m):=by unfold apn;rw [if_pos h]
theorem mkn_of {n:Nat} {x:α} (h:n<=4294967296):mkn (n:Int) x=some (List.replicate n x):=by
 unfold mkn;rw [if_pos (by omega)];simp
end
theorem wn {i:Nat} (h:i<=4294967296):IntKind.i64.wrap (i:Int)=(i:Int):=bo (by omega) (by omega)
theorem ws {i:Nat} (h:i<=4294967296):IntKind.i64.wrap ((i:Int)+1)=((i+1:Nat):Int):=by rw [bo (by omega) (by omega)];omega
theorem dT {i n:Nat} (h:i<n):decide ((i:Int)<(n:Int))=true:=decide_eq_true (by omega)
theorem dF {i n:Nat} (h:n<=i):decide ((i:Int)<(n:Int))=false:=decide_eq_false (by omega)
abbrev Cr:=Int×Int×Int×Int×Int
theorem MV {x a b:Int}:cB.p F x a b=some (decide (a<=x/\x<=b)):=by
 unfold cB.p
 by_cases h:x>=a
 ·rw [decide_eq_true h,cond_true];congr 1;simp only [ge_iff_le] at h;simp [h]
 ·rw [decide_eq_false h,cond_false];congr 1;simp only [ge_iff_le] at h;simp [h]
theorem sE {x a b:Int}:dw.p F x a b=some (decide (a<=x/\x<=b)):=by
 unfold dw.p
 by_cases h:a<=x
 ·rw [decide_eq_true h,cond_true];congr 1;simp [h]
 ·rw [decide_eq_false h,cond_false];congr 1;simp [h]
end Go.Proofs.Ytodfdhnlhiaohaa.AE.DD
end
section
namespace Go.Proofs.Ytodfdhnlhiaohaa.AE.DD
open Go Go.AE Go.Proofs
variable {F:Nat}
def en (x:Cr) (p:Nat):Int:=gt [x.1,x.2.1,x.2.2.1,x.2.2.2.1] p
def sg (x:Cr):Int:=x.2.2.2.2
def ent (x:Cr) (p:Nat):Bool:=p==0 || (p:Int)==2+sg x
def SgOk (x:Cr):Prop:=sg x=1\/sg x=-1
instance (x:Cr):Decidable (SgOk x):=by unfold SgOk;infer_instance
abbrev Tb:=List (Int×Int)×List (Int×Int)
def stp (x:Cr) (i p:Nat) (t:Tb):Option Tb:=
 bif ent x p then (if 0<=en x p/\en x p<t.2.length/\(gt t.2 (en x p).toNat).1<0 then some (t.1,t.2.set (en x p).toNat ((i:Int),(p:Int))) else none)
 else (if 0<=en x p/\en x p<t.1.length/\(gt t.1 (en x p).toNat).1<0 then some (t.1.set (en x p).toNat ((i:Int),(p:Int)),t.2) else none)
theorem i_ent {x:Cr} {p:Nat} (hs:SgOk x):df.p F (sg x) (p:Int)=some (ent x p):=by
 have hw:IntKind.i64.wrap (2+sg x)=2+sg x:=by rcases hs with h | h <;> rw [h] <;> decide
 unfold df.p ent
 rw [hw]
 by_cases h:p=0
 ·subst h;simp
 ·have e:((p:Int)==0)=false:=by simpa using h
  have e':(p==0)=false:=by simpa using h
  rw [e,e',cond_false,Bool.false_or]
theorem s_ent {x:Cr} {p:Nat} (hs:SgOk x) (hp:p<4):cq.p F (sg x) (p:Int)=some (ent x p):=by
 unfold cq.p ent
 have:p=0\/p=1\/p=2\/p=3:=by omega
 rcases hs with h | h <;> rw [h] <;> rcases this with rfl | rfl | rfl | rfl <;> rfl
theorem s_end {x:Cr} {p:Nat} (hp:p<4):bu.p F x.1 x.2.1 x.2.2.1 x.2.2.2.1 (p:Int)=some (en x p):=by
 unfold bu.p
 rw [ixn (by simpa using hp)];rfl
theorem i_has {l:List (Int×Int)} {a:Int} (hl:l.length<=1000):cX.p F l a=some (decide (0<=a/\a<l.length)):=by
 unfold cX.p ew.p
 rw [Option.bind_some,bo (by omega) (by omega),sE,Option.bind_some]
 congr 1
 apply decide_eq_decide.2
 omega
theorem set2 {l:List (Int×Int)} {n:Nat} {i p:Int} (h:n<l.length):(l.set n (i,(gt l n).2)).set n ((gt (l.set n (i,(gt l n).2)) n).1,p)=l.set n (i,p):=by
 rw [gset_eq h,List.set_set]
theorem arr_step {C:List (Int×Int)->List (Int×Int)->List Cr->Int->Int->Option (List (Int×Int)×List (Int×Int)×Bool)} {k:Nat} {t:Tb} {D:List Cr} {y:Int} {i p:Nat} {x:Cr} (hs:SgOk x) (hp:p<4) (h1:t.1.length<=1000) (h2:t.2.length<=1000) :
  aP.pl3931 F C (k+1) t.1 t.2 D y (i:Int) (sg x) (i:Int) x.1 x.2.1 x.2.2.1 x.2.2.2.1 (p:Int) =
   match stp x i p t with | none=>some (t.1,t.2,false) | some t'=>aP.pl3931 F C k t'.1 t'.2 D y (i:Int) (sg x) (i:Int) x.1 x.2.1 x.2.2.1 x.2.2.2.1 ((p+1:Nat):Int):=by
 rw [aP.pl3931,show decide ((p:Int)<4)=true from decide_eq_true (by omega),cond_true,if_pos ⟨by omega,by omega⟩,i_ent hs,Option.bind_some,ws (by omega)]
 have he:gt [x.1,x.2.1,x.2.2.1,x.2.2.2.1] ((p:Int)).toNat=en x p:=by rw [Int.toNat_natCast];rfl
 simp only [he]
 unfold stp
 cases ent x p with
 | true=>
  rw [cond_true,cond_true,i_has h2,Option.bind_some]
  by_cases c1:0<=en x p/\en x p<t.2.length
  ·rw [decide_eq_true c1,Bool.not_true,cond_false,ix_of c1.1 c1.2]
   simp only [Option.bind_some]
   by_cases c2:(gt t.2 (en x p).toNat).1<0
   ·rw [if_pos ⟨c1.1,c1.2,c2⟩,decide_eq_false (show ¬ (gt t.2 (en x p).toNat).1>=0 by omega),cond_false]
    simp only [set2 (show (en x p).toNat<t.2.length by omega)]
   ·rw [if_neg (λh=>c2 h.2.2),decide_eq_true (show (gt t.2 (en x p).toNat).1>=0 by omega),cond_true]
  ·rw [decide_eq_false c1,Bool.not_false,cond_true,if_neg (λh=>c1 ⟨h.1,h.2.1⟩)]
 | false=>
  rw [cond_false,cond_false,i_has h1,Option.bind_some]
  by_cases c1:0<=en x p/\en x p<t.1.length
  ·rw [decide_eq_true c1,Bool.not_true,cond_false,ix_of c1.1 c1.2]
   simp only [Option.bind_some]
   by_cases c2:(gt t.1 (en x p).toNat).1<0
   ·rw [if_pos ⟨c1.1,c1.2,c2⟩,decide_eq_false (show ¬ (gt t.1 (en x p).toNat).1>=0 by omega),cond_false]
    simp only [set2 (show (en x p).toNat<t.1.length by omega)]
   ·rw [if_neg (λh=>c2 h.2.2),decide_eq_true (show (gt t.1 (en x p).toNat).1>=0 by omega),cond_true]
  ·rw [decide_eq_false c1,Bool.not_false,cond_true,if_neg (λh=>c1 ⟨h.1,h.2.1⟩)]
theorem stp_len {x:Cr} {i p:Nat} {t t':Tb} (h:stp x i p t=some t'):t'.1.length=t.1.length/\t'.2.length=t.2.length:=by
 unfold stp at h
 cases e:ent x p with
 | true=>rw [e,cond_true] at h;obtain ⟨_,h⟩:=eD h;cases h;simp
 | false=>rw [e,cond_false] at h;obtain ⟨_,h⟩:=eD h;cases h;simp
def Mk (u:List Bool) (t:List (Int×Int)):Prop:=u.length=t.length/\∀ a:Nat,a<t.length->gt u a=decide (0<=(gt t a).1)
theorem Mk.set {u:List Bool} {t:List (Int×Int)} (h:Mk u t) {a i p:Nat} (ha:a<t.length):Mk (u.set a true) (t.set a ((i:Int),(p:Int))):=by
 refine ⟨by simpa using h.1,λb hb=>?_⟩
 rw [List.length_set] at hb
 by_cases e:a=b
 ·subst e
  rw [gset_eq (by rw [h.1];exact ha),gset_eq ha]
  exact (decide_eq_true (Int.natCast_nonneg i)).symm
 ·rw [gset_ne e,gset_ne e];exact h.2 b hb
theorem cnt_step {C:List Cr->Int->List Bool->List Bool->Int->Option Bool} {k:Nat} {t:Tb} {u v:List Bool} {D:List Cr} {y:Int} {i p:Nat} {x:Cr} (hs:SgOk x) (hp:p<4) (h1:t.1.length<=1000) (h12:t.2.length=t.1.length) (hu:Mk u t.2) (hv:Mk v t.1) :
  (stp x i p t=none/\aK.pl3927 F C (k+1) D (t.1.length:Int) u v y x.1 x.2.1 x.2.2.1 x.2.2.2.1 (sg x) (p:Int)=some false) \/
  (∃ t' u' v',stp x i p t=some t'/\Mk u' t'.2/\Mk v' t'.1/\aK.pl3927 F C (k+1) D (t.1.length:Int) u v y x.1 x.2.1 x.2.2.1 x.2.2.2.1 (sg x) (p:Int)=aK.pl3927 F C k D (t.1.length:Int) u' v' y x.1 x.2.1 x.2.2.1 x.2.2.2.1 (sg x) ((p+1:Nat):Int)):=by
 rw [aK.pl3927,show decide ((p:Int)<4)=true from decide_eq_true (by omega),cond_true,s_end hp,Option.bind_some,bo (x:=(t.1.length:Int) - 1) (by omega) (by omega),MV,Option.bind_some,s_ent hs hp,Option.bind_some,ws (by omega)]
 unfold stp
 by_cases c1:0<=en x p/\en x p<t.1.length
 ·rw [decide_eq_true (show 0<=en x p/\en x p<=(t.1.length:Int) - 1 by omega),Bool.not_true,cond_false]
  cases ent x p with
  | true=>
   simp only [cond_true]
   rw [ix_of c1.1 (by rw [hu.1,h12];exact c1.2)]
   simp only [Option.bind_some]
   rw [hu.2 _ (by omega)]
   by_cases c2:(gt t.2 (en x p).toNat).1<0
   ·right
    refine ⟨_,u.set (en x p).toNat true,v,if_pos ⟨c1.1,by rw [h12];exact c1.2,c2⟩,hu.set (by omega),hv,?_⟩
    rw [decide_eq_false (by omega),cond_false]
   ·left
    exact ⟨if_neg (λh=>c2 h.2.2),by rw [decide_eq_true (by omega),cond_true]⟩
  | false=>
   simp only [cond_false]
   rw [ix_of c1.1 (by rw [hv.1];exact c1.2)]
   simp only [Option.bind_some]
   rw [hv.2 _ (by omega)]
   by_cases c2:(gt t.1 (en x p).toNat).1<0
   ·right
    refine ⟨_,u,v.set (en x p).toNat true,if_pos ⟨c1.1,c1.2,c2⟩,hu,hv.set (by omega),?_⟩
    rw [decide_eq_false (by omega),cond_false]
   ·left
    exact ⟨if_neg (λh=>c2 h.2.2),by rw [decide_eq_true (by omega),cond_true]⟩
 ·left
  rw [decide_eq_false (show ¬ (0<=en x p/\en x p<=(t.1.length:Int) - 1) by omega),Bool.not_false,cond_true]
  refine ⟨?_,rfl⟩
  cases ent x p with
  | true=>rw [cond_true];exact if_neg (λh=>c1 ⟨h.1,by rw [<- h12];exact h.2.1⟩)
  | false=>rw [cond_false];exact if_neg (λh=>c1 ⟨h.1,h.2.1⟩)
end Go.Proofs.Ytodfdhnlhiaohaa.AE.DD
end
section
namespace Go.Proofs.Ytodfdhnlhiaohaa.AE.DD
open Go Go.AE Go.Proofs
variable {F:Nat}
def stp4 (x:Cr) (i:Nat) (t:Tb):Option Tb:=(stp x i 0 t).bind λt=>(stp x i 1 t).bind λt=>(stp x i 2 t).bind λt=>stp x i 3 t
def run (i:Nat):List Cr->Tb->Option Tb
 | [],t=>some t
 | x::D,t=>(stp4 x i t).bind (run (i+1) D)
theorem stp4_len {x:Cr} {i:Nat} {t t':Tb} (h:stp4 x i t=some t'):t'.1.length=t.1.length/\t'.2.length=t.2.length:=by
 unfold stp4 at h
 obtain ⟨a,h1,h⟩:=af h
 obtain ⟨b,h2,h⟩:=af h
 obtain ⟨c,h3,h⟩:=af h
 have e1:=stp_len h1;have e2:=stp_len h2;have e3:=stp_len h3;have e4:=stp_len h
 omega
theorem arr4 {C:List (Int×Int)->List (Int×Int)->List Cr->Int->Int->Option (List (Int×Int)×List (Int×Int)×Bool)} {k:Nat} {t:Tb} {D:List Cr} {y:Int} {i:Nat} {x:Cr} (hs:SgOk x) (hi:i<=1000) (h1:t.1.length<=1000) (h2:t.2.length<=1000) :
  (stp4 x i t=none/\∃ a b,aP.pl3931 F C (k+5) t.1 t.2 D y (i:Int) (sg x) (i:Int) x.1 x.2.1 x.2.2.1 x.2.2.2.1 0=some (a,b,false)) \/
  (∃ t',stp4 x i t=some t'/\aP.pl3931 F C (k+5) t.1 t.2 D y (i:Int) (sg x) (i:Int) x.1 x.2.1 x.2.2.1 x.2.2.2.1 0=C t'.1 t'.2 D y ((i+1:Nat):Int)):=by
 unfold stp4
 have s0:=arr_step (F:=F) (C:=C) (k:=k+4) (t:=t) (D:=D) (y:=y) (i:=i) (p:=0) hs (by decide) h1 h2
 rw [show ((0:Nat):Int)=0 from rfl] at s0
 rw [s0]
 cases e0:stp x i 0 t with
 | none=>exact .inl ⟨rfl,_,_,rfl⟩
 | some a=>
  have l0:=stp_len e0
  have s1:=arr_step (F:=F) (C:=C) (k:=k+3) (t:=a) (D:=D) (y:=y) (i:=i) (p:=1) hs (by decide) (by omega) (by omega)
  simp only [Option.bind_some]
  rw [show ((0+1:Nat):Int)=((1:Nat):Int) from rfl,s1]
  cases e1:stp x i 1 a with
  | none=>exact .inl ⟨rfl,_,_,rfl⟩
  | some b=>
   have l1:=stp_len e1
   have s2:=arr_step (F:=F) (C:=C) (k:=k+2) (t:=b) (D:=D) (y:=y) (i:=i) (p:=2) hs (by decide) (by omega) (by omega)
   simp only [Option.bind_some]
   rw [show ((1+1:Nat):Int)=((2:Nat):Int) from rfl,s2]
   cases e2:stp x i 2 b with
   | none=>exact .inl ⟨rfl,_,_,rfl⟩
   | some c=>
    have l2:=stp_len e2
    have s3:=arr_step (F:=F) (C:=C) (k:=k+1) (t:=c) (D:=D) (y:=y) (i:=i) (p:=3) hs (by decide) (by omega) (by omega)
    simp only [Option.bind_some]
    rw [show ((2+1:Nat):Int)=((3:Nat):Int) from rfl,s3]
    cases e3:stp x i 3 c with
    | none=>exact .inl ⟨rfl,_,_,rfl⟩
    | some d=>
     right
     refine ⟨d,rfl,?_⟩
     show aP.pl3931 F C (k+1) d.1 d.2 D y (i:Int) (sg x) (i:Int) x.1 x.2.1 x.2.2.1 x.2.2.2.1 ((3+1:Nat):Int)=_
     rw [aP.pl3931,show decide (((3+1:Nat):Int)<4)=false by decide,cond_false,ws (by omega)]
theorem arr_run {D:List Cr} (hD:D.length<=100) (hs:∀ x∈D,SgOk x) (hF:100<F):∀ (n g i:Nat) (t:Tb),D.length - i=n->n<g->i<=D.length->t.1.length<=1000->t.2.length<=1000 ->
  (run i (D.drop i) t=none/\∃ a b,aP.pl61 F g t.1 t.2 D (D.length:Int) (i:Int)=some (a,b,false)) \/
  (∃ t',run i (D.drop i) t=some t'/\aP.pl61 F g t.1 t.2 D (D.length:Int) (i:Int)=some (t'.1,t'.2,true)):=by
 intro n
 induction n with
 | zero=>
  intro g i t hn hg hi h1 h2
  obtain ⟨g,rfl⟩:∃ g',g=g'+1:=⟨g - 1,by omega⟩
  right
  refine ⟨t,?_,?_⟩
  ·rw [List.drop_eq_nil_of_le (by omega)];rfl
  ·rw [aP.pl61,dF (by omega),cond_false]
 | succ n ih=>
  intro g i t hn hg hi h1 h2
  obtain ⟨g,rfl⟩:∃ g',g=g'+1:=⟨g - 1,by omega⟩
  have hlt:i<D.length:=by omega
  rw [aP.pl61,dT hlt,cond_true,ixn hlt,Option.bind_some]
  unfold de.p
  rw [Option.bind_some]
  have hd:D.drop i=gt D i::D.drop (i+1):=by
   rw [List.drop_eq_getElem_cons hlt]
   congr 1
   have:=eS hlt
   rw [List.getElem?_eq_getElem hlt] at this
   exact Option.some.inj this
  rw [hd]
  obtain ⟨f,rfl⟩:∃ f,F=f+5:=⟨F - 5,by omega⟩
  rcases arr4 (F:=f+5) (C:=aP.pl61 (f+5) g) (k:=f) (t:=t) (D:=D) (y:=(D.length:Int)) (i:=i) (hs _ (gmem hlt)) (by omega) h1 h2 with ⟨e,a,b,r⟩ | ⟨t',e,r⟩
  ·left
   refine ⟨by unfold run;rw [e];rfl,a,b,r⟩
  ·have hl:=stp4_len e
   have hr:run i (gt D i::D.drop (i+1)) t=run (i+1) (D.drop (i+1)) t':=by rw [run,e];rfl
   rw [hr]
   show (_/\∃ a b,aP.pl3931 (f+5) (aP.pl61 (f+5) g) (f+5) t.1 t.2 D (D.length:Int) (i:Int) (sg (gt D i)) (i:Int) (gt D i).1 (gt D i).2.1 (gt D i).2.2.1 (gt D i).2.2.2.1 0=_)\/(∃ t',_/\aP.pl3931 (f+5) (aP.pl61 (f+5) g) (f+5) t.1 t.2 D (D.length:Int) (i:Int) (sg (gt D i)) (i:Int) (gt D i).1 (gt D i).2.1 (gt D i).2.2.1 (gt D i).2.2.2.1 0=_)
   rw [r]
   exact ih g (i+1) t' (by omega) (by omega) (by omega) (by omega) (by omega)
theorem cnt4 {C:List Cr->Int->List Bool->List Bool->Int->Option Bool} {k:Nat} {t:Tb} {u v:List Bool} {D:List Cr} {y:Nat} {i:Nat} {x:Cr} (hs:SgOk x) (hy:y<=1000) (h1:t.1.length<=1000) (h12:t.2.length=t.1.length) (hu:Mk u t.2) (hv:Mk v t.1) :
  (stp4 x i t=none/\aK.pl3927 F C (k+5) D (t.1.length:Int) u v (y:Int) x.1 x.2.1 x.2.2.1 x.2.2.2.1 (sg x) 0=some false) \/
  (∃ t' u' v',stp4 x i t=some t'/\Mk u' t'.2/\Mk v' t'.1/\aK.pl3927 F C (k+5) D (t.1.length:Int) u v (y:Int) x.1 x.2.1 x.2.2.1 x.2.2.2.1 (sg x) 0=C D (t.1.length:Int) u' v' ((y+1:Nat):Int)):=by
 unfold stp4
 rcases cnt_step (F:=F) (C:=C) (k:=k+4) (t:=t) (D:=D) (y:=(y:Int)) (i:=i) (p:=0) hs (by decide) h1 h12 hu hv with ⟨e,r⟩ | ⟨a,u1,v1,e,hu1,hv1,r⟩
 ·exact .inl ⟨by rw [e];rfl,r⟩
 have r:aK.pl3927 F C (k+5) D (t.1.length:Int) u v (y:Int) x.1 x.2.1 x.2.2.1 x.2.2.2.1 (sg x) 0=_:=r
 rw [r,e]
 have l0:=stp_len e
 simp only [Option.bind_some]
 rcases cnt_step (F:=F) (C:=C) (k:=k+3) (t:=a) (D:=D) (y:=(y:Int)) (i:=i) (p:=1) hs (by decide) (by omega) (by omega) hu1 hv1 with ⟨e,r⟩ | ⟨b,u2,v2,e,hu2,hv2,r⟩
 ·rw [l0.1] at r
  exact .inl ⟨by rw [e];rfl,r⟩
 rw [l0.1] at r
 rw [show ((0+1:Nat):Int)=((1:Nat):Int) from rfl,r,e]
 have l1:=stp_len e
 simp only [Option.bind_some]
 rcases cnt_step (F:=F) (C:=C) (k:=k+2) (t:=b) (D:=D) (y:=(y:Int)) (i:=i) (p:=2) hs (by decide) (by omega) (by omega) hu2 hv2 with ⟨e,r⟩ | ⟨c,u3,v3,e,hu3,hv3,r⟩
 ·rw [l1.1,l0.1] at r
  exact .inl ⟨by rw [e];rfl,r⟩
 rw [l1.1,l0.1] at r
 rw [show ((1+1:Nat):Int)=((2:Nat):Int) from rfl,r,e]
 have l2:=stp_len e
 simp only [Option.bind_some]
 rcases cnt_step (F:=F) (C:=C) (k:=k+1) (t:=c) (D:=D) (y:=(y:Int)) (i:=i) (p:=3) hs (by decide) (by omega) (by omega) hu3 hv3 with ⟨e,r⟩ | ⟨d,u4,v4,e,hu4,hv4,r⟩
 ·rw [l2.1,l1.1,l0.1] at r
  exact .inl ⟨e,r⟩
 rw [l2.1,l1.1,l0.1] at r
 rw [show ((2+1:Nat):Int)=((3:Nat):Int) from rfl,r]
 refine .inr ⟨d,u4,v4,e,hu4,hv4,?_⟩
 rw [aK.pl3927,show decide (((3+1:Nat):Int)<4)=false by decide,cond_false,ws (by omega)]
theorem cnt_run {D:List Cr} {N:Nat} (hD:D.length<=100) (hN:N<=1000) (hF:100<F):∀ (n g i:Nat) (t:Tb) (u v:List Bool),D.length - i=n->n<g->i<=D.length->t.1.length=N->t.2.length=N->Mk u t.2->Mk v t.1 ->
  ∃ b,aK.pl61 F g D (N:Int) u v (i:Int)=some b/\(b=true↔(∀ x∈D.drop i,SgOk x)/\∃ t',run i (D.drop i) t=some t'):=by
 intro n
 induction n with
 | zero=>
  intro g i t u v hn hg hi h1 h2 hu hv
  obtain ⟨g,rfl⟩:∃ g',g=g'+1:=⟨g - 1,by omega⟩
  refine ⟨true,?_,?_⟩
  ·rw [aK.pl61,dF (by omega),cond_false]
  ·rw [List.drop_eq_nil_of_le (by omega)]
   simp [run]
 | succ n ih=>
  intro g i t u v hn hg hi h1 h2 hu hv
  obtain ⟨g,rfl⟩:∃ g',g=g'+1:=⟨g - 1,by omega⟩
  have hlt:i<D.length:=by omega
  have hd:D.drop i=gt D i::D.drop (i+1):=by
   rw [List.drop_eq_getElem_cons hlt]
   congr 1
   have:=eS hlt
   rw [List.getElem?_eq_getElem hlt] at this
   exact Option.some.inj this
  rw [aK.pl61,dT hlt,cond_true,ixn hlt,Option.bind_some,hd]
  obtain ⟨f,rfl⟩:∃ f,F=f+5:=⟨F - 5,by omega⟩
  by_cases hs:SgOk (gt D i)
  ·have key:aK.pl3927 (f+5) (aK.pl61 (f+5) g) (f+5) D (N:Int) u v (i:Int) (gt D i).1 (gt D i).2.1 (gt D i).2.2.1 (gt D i).2.2.2.1 (sg (gt D i)) 0=(bif sg (gt D i) != 1 then (bif sg (gt D i) != -1 then (some false) else aK.pl3927 (f+5) (aK.pl61 (f+5) g) (f+5) D (N:Int) u v (i:Int) (gt D i).1 (gt D i).2.1 (gt D i).2.2.1 (gt D i).2.2.2.1 (sg (gt D i)) 0) else aK.pl3927 (f+5) (aK.pl61 (f+5) g) (f+5) D (N:Int) u v (i:Int) (gt D i).1 (gt D i).2.1 (gt D i).2.2.1 (gt D i).2.2.2.1 (sg (gt D i)) 0):=by
    rcases hs with h | h <;> rw [h] <;> rfl
   have key:=key.symm
   unfold sg at key
   rw [key]
   subst h1
   rcases cnt4 (F:=f+5) (C:=aK.pl61 (f+5) g) (k:=f) (t:=t) (D:=D) (y:=i) (i:=i) hs (by omega) hN h2 hu hv with ⟨e,r⟩ | ⟨t',u',v',e,hu',hv',r⟩
   ·refine ⟨false,r,?_⟩
    constructor
    ·intro h;cases h
    ·rintro ⟨_,t',h⟩
     rw [run,e] at h;cases h
   ·have hl:=stp4_len e
    obtain ⟨b,q1,q2⟩:=ih g (i+1) t' u' v' (by omega) (by omega) (by omega) hl.1 (by omega) hu' hv'
    refine ⟨b,r.trans q1,q2.trans ?_⟩
    have hr:run i (gt D i::D.drop (i+1)) t=run (i+1) (D.drop (i+1)) t':=by rw [run,e];rfl
    rw [hr]
    constructor
    ·rintro ⟨a,b⟩;exact ⟨List.forall_mem_cons.2 ⟨hs,a⟩,b⟩
    ·rintro ⟨a,b⟩;exact ⟨(List.forall_mem_cons.1 a).2,b⟩
  ·refine ⟨false,?_,?_⟩
   ·have hs':¬ (sg (gt D i)=1\/sg (gt D i)=-1):=hs
    unfold sg at hs'
    rw [show ((gt D i).2.2.2.2 != 1)=true by simp;omega,cond_true,show ((gt D i).2.2.2.2 != -1)=true by simp;omega,cond_true]
   ·constructor
    ·intro h;cases h
    ·rintro ⟨a,_⟩;exact absurd ((List.forall_mem_cons.1 a).1) hs
end Go.Proofs.Ytodfdhnlhiaohaa.AE.DD
end
section
namespace Go.Proofs.Ytodfdhnlhiaohaa.AE.DD
open Go Go.AE Go.Proofs
variable {F:Nat}
def ce (b:Bool) (x:Cr):Nat->Nat
 | 0=>0
 | p+1=>ce b x p+(bif ent x p==b then 1 else 0)
theorem ce4 {b:Bool} {x:Cr} (hs:SgOk x):ce b x 4=2:=by
 rcases hs with h | h <;> cases b <;> simp only [ce,ent,h] <;> rfl
structure PS (b:Bool) (D:List Cr) (N i0 p0:Nat) (l:List (Int×Int)):Prop where
 len:l.length=N
 put:∀ i p:Nat,i<D.length->p<4->(i<i0\/i=i0/\p<p0)->ent (gt D i) p=b->0<=en (gt D i) p/\en (gt D i) p<N/\gt l (en (gt D i) p).toNat=((i:Int),(p:Int))
 get:∀ a:Nat,a<N->(gt l a).1<0\/∃ i p:Nat,i<D.length/\p<4/\(i<i0\/i=i0/\p<p0)/\ent (gt D i) p=b/\en (gt D i) p=a
 cnt:l.countP (λq=>decide (0<=q.1))=2 * i0+ce b (gt D i0) p0
variable {b:Bool} {D:List Cr} {N i0 p0:Nat} {l:List (Int×Int)}
theorem PS.put_step (h:PS b D N i0 p0 l) (hi:i0<D.length) (hp:p0<4) (he:ent (gt D i0) p0=b) (h0:0<=en (gt D i0) p0) (h1:en (gt D i0) p0<l.length) (h2:(gt l (en (gt D i0) p0).toNat).1<0) :
  PS b D N i0 (p0+1) (l.set (en (gt D i0) p0).toNat ((i0:Int),(p0:Int))) where
 len:=by rw [List.length_set];exact h.len
 put:=λi p hi' hp' hpr he'=>by
  by_cases e:i=i0/\p=p0
  ·obtain ⟨rfl,rfl⟩:=e
   exact ⟨h0,by rw [<- h.len];exact h1,gset_eq (by omega)⟩
  ·obtain ⟨q1,q2,q3⟩:=h.put i p hi' hp' (by omega) he'
   refine ⟨q1,q2,?_⟩
   rw [gset_ne,q3]
   intro e2
   rw [e2,q3] at h2
   simp only at h2;omega
 get:=λa ha=>by
  by_cases e:a=(en (gt D i0) p0).toNat
  ·right;exact ⟨i0,p0,hi,hp,by omega,he,by omega⟩
  ·rw [gset_ne (Ne.symm e)]
   rcases h.get a ha with q | ⟨i,p,q1,q2,q3,q4,q5⟩
   ·exact .inl q
   ·exact .inr ⟨i,p,q1,q2,by omega,q4,q5⟩
 cnt:=by
  have hlt:(en (gt D i0) p0).toNat<l.length:=by omega
  rw [List.countP_set hlt,h.cnt]
  have e:l[(en (gt D i0) p0).toNat]=gt l (en (gt D i0) p0).toNat:=by
   have:=eS hlt
   rw [List.getElem?_eq_getElem hlt] at this
   exact Option.some.inj this
  rw [e,if_neg (by simp;omega),if_pos (by simp),ce,he]
  simp only [beq_self_eq_true,cond_true]
  omega
theorem PS.skip_step (h:PS b D N i0 p0 l) (he:ent (gt D i0) p0=!b):PS b D N i0 (p0+1) l where
 len:=h.len
 put:=λi p hi' hp' hpr he'=>by
  refine h.put i p hi' hp' ?_ he'
  by_cases e:i=i0/\p=p0
  ·obtain ⟨rfl,rfl⟩:=e
   rw [he] at he';cases b <;> simp at he'
  ·omega
 get:=λa ha=>by
  rcases h.get a ha with q | ⟨i,p,q1,q2,q3,q4,q5⟩
  ·exact .inl q
  ·exact .inr ⟨i,p,q1,q2,by omega,q4,q5⟩
 cnt:=by
  rw [h.cnt,ce,he]
  cases b <;> simp
theorem PS.next (h:PS b D N i0 4 l) (hs:SgOk (gt D i0)):PS b D N (i0+1) 0 l where
 len:=h.len
 put:=λi p hi' hp' hpr he'=>h.put i p hi' hp' (by omega) he'
 get:=λa ha=>by
  rcases h.get a ha with q | ⟨i,p,q1,q2,q3,q4,q5⟩
  ·exact .inl q
  ·exact .inr ⟨i,p,q1,q2,by omega,q4,q5⟩
 cnt:=by rw [h.cnt,ce4 hs];simp only [ce];omega
def PT (D:List Cr) (N i0 p0:Nat) (t:Tb):Prop:=PS false D N i0 p0 t.1/\PS true D N i0 p0 t.2
theorem PT.stp {t t':Tb} (h:PT D N i0 p0 t) (hi:i0<D.length) (hp:p0<4) (e:stp (gt D i0) i0 p0 t=some t'):PT D N i0 (p0+1) t':=by
 unfold DD.stp at e
 cases he:ent (gt D i0) p0 with
 | true=>
  rw [he,cond_true] at e
  obtain ⟨⟨c0,c1,c2⟩,e⟩:=eD e
  cases e
  exact ⟨h.1.skip_step he,h.2.put_step hi hp he c0 c1 c2⟩
 | false=>
  rw [he,cond_false] at e
  obtain ⟨⟨c0,c1,c2⟩,e⟩:=eD e
  cases e
  exact ⟨h.1.put_step hi hp he c0 c1 c2,h.2.skip_step he⟩
theorem PT.stp4 {t t':Tb} (h:PT D N i0 0 t) (hi:i0<D.length) (hs:SgOk (gt D i0)) (e:stp4 (gt D i0) i0 t=some t'):PT D N (i0+1) 0 t':=by
 unfold DD.stp4 at e
 obtain ⟨a,h1,e⟩:=af e
 obtain ⟨b,h2,e⟩:=af e
 obtain ⟨c,h3,e⟩:=af e
 have:=(((h.stp hi (by decide) h1).stp hi (by decide) h2).stp hi (by decide) h3).stp hi (by decide) e
 exact ⟨this.1.next hs,this.2.next hs⟩
theorem drop_cons {D:List Cr} {i:Nat} (hlt:i<D.length):D.drop i=gt D i::D.drop (i+1):=by
 rw [List.drop_eq_getElem_cons hlt]
 congr 1
 have:=eS hlt
 rw [List.getElem?_eq_getElem hlt] at this
 exact Option.some.inj this
theorem PT.run (hs:∀ x∈D,SgOk x):∀ (n i:Nat) (t t':Tb),D.length - i=n->i<=D.length->PT D N i 0 t->run i (D.drop i) t=some t'->PT D N D.length 0 t':=by
 intro n
 induction n with
 | zero=>
  intro i t t' hn hi h e
  rw [List.drop_eq_nil_of_le (by omega)] at e
  cases e
  obtain rfl:i=D.length:=by omega
  exact h
 | succ n ih=>
  intro i t t' hn hi h e
  have hlt:i<D.length:=by omega
  rw [drop_cons hlt,DD.run] at e
  obtain ⟨a,h1,e⟩:=af e
  exact ih (i+1) a t' (by omega) (by omega) (h.stp4 hlt (hs _ (gmem hlt)) h1) e
theorem PS.start (b:Bool) (D:List Cr) (N:Nat):PS b D N 0 0 (List.replicate N (-1,0)) where
 len:=by simp
 put:=λi p _ _ h=>by omega
 get:=λa ha=>.inl (by rw [grep ha];decide)
 cnt:=by rw [List.countP_replicate];simp [ce]
structure TS (b:Bool) (D:List Cr) (l:List (Int×Int)):Prop where
 len:l.length=2 * D.length
 put:∀ i p:Nat,i<D.length->p<4->ent (gt D i) p=b->0<=en (gt D i) p/\en (gt D i) p<(2 * D.length:Nat)/\gt l (en (gt D i) p).toNat=((i:Int),(p:Int))
 get:∀ a:Nat,a<2 * D.length->∃ i p:Nat,i<D.length/\p<4/\ent (gt D i) p=b/\en (gt D i) p=a/\gt l a=((i:Int),(p:Int))
theorem PS.whole (h:PS b D (2 * D.length) D.length 0 l):TS b D l where
 len:=h.len
 put:=λi p hi hp he=>h.put i p hi hp (.inl hi) he
 get:=λa ha=>by
  have hc:=h.cnt
  rw [ce,Nat.add_zero,<-h.len,List.countP_eq_length] at hc
  have hm:=hc _ (gmem (by rw [h.len];exact ha:a<l.length))
  simp only [decide_eq_true_eq] at hm
  rcases h.get a ha with q | ⟨i,p,q1,q2,q3,q4,q5⟩
  ·omega
  ·refine ⟨i,p,q1,q2,q4,q5,?_⟩
   obtain ⟨_,_,q⟩:=h.put i p q1 q2 q3 q4
   rw [q5,Int.toNat_natCast] at q
   exact q
structure TB (D:List Cr) (t:Tb):Prop where
 sg:∀ x∈D,SgOk x
 fr:TS false D t.1
 to_:TS true D t.2
theorem run_TB {t:Tb} (hs:∀ x∈D,SgOk x) (h:run 0 D (List.replicate (2 * D.length) (-1,0),List.replicate (2 * D.length) (-1,0))=some t):TB D t:=by
 have:=PT.run (N:=2 * D.length) hs D.length 0 _ t (by omega) (by omega) ⟨PS.start _ _ _,PS.start _ _ _⟩ (by rw [List.drop_zero];exact h)
 exact ⟨hs,this.1.whole,this.2.whole⟩
end Go.Proofs.Ytodfdhnlhiaohaa.AE.DD
end
section
namespace Go.Proofs.Ytodfdhnlhiaohaa.AE.DD
open Go Go.AE Go.Proofs
variable {F:Nat}
theorem mul1:∀ m:Nat,m<64->IntKind.u64.wrap (m:Int)=(m:Int)/\bits_Mul64.p 0 1 (m:Int)=some (0,(m:Int)):=by decide
theorem rep_end {m:Nat} (hm:m<64) (hF:100<F):bd.p F [((-1),0)] (m:Int)=some (List.replicate m (-1,0)):=by
 obtain ⟨h1,h2⟩:=mul1 m hm
 unfold bd.p bd.pj2
 rw [show decide ((m:Int)<0)=false from decide_eq_false (by omega),cond_false,h1,show IntKind.u64.wrap (([((-1:Int),(0:Int))].length:Nat):Int)=1 by decide]
 have h3:bits_Mul.p F 1 (m:Int)=some (0,(m:Int)):=by
  unfold bits_Mul.p
  rw [show bits_Mul64.p F 1 (m:Int)=bits_Mul64.p 0 1 (m:Int) from rfl,h2];rfl
 rw [h3,Option.bind_some]
 simp only [show decide ((0:Int)>0)=false by decide,cond_false,show decide ((m:Int)>9223372036854775807)=false from decide_eq_false (by omega)]
 unfold bd.pj1
 rw [wn (by omega),mkn_of (by omega),Option.bind_some,Option.bind_some]
 unfold kW cpl
 cases m with
 | zero=>simp;omega
 | succ m=>
  have hl:([((-1:Int),(0:Int))].take (List.replicate (m+1) ((0:Int),(0:Int))).length++(List.replicate (m+1) ((0:Int),(0:Int))).drop [((-1:Int),(0:Int))].length)=(-1,0)::List.replicate m (0,0):=by simp
  rw [hl,if_pos ⟨by simp,by left;simp,by simp;omega,by simp;omega⟩]
  simp [gt,List.replicate_succ]
theorem arrows_whole {D:List Cr} (hD:D.length<=30) (hs:∀ x∈D,SgOk x) (hF:1000<F) :
  (run 0 D (List.replicate (2 * D.length) (-1,0),List.replicate (2 * D.length) (-1,0))=none/\∃ a b,aP.p F D=some (a,b,false)) \/
  (∃ t,run 0 D (List.replicate (2 * D.length) (-1,0),List.replicate (2 * D.length) (-1,0))=some t/\aP.p F D=some (t.1,t.2,true)):=by
 unfold aP.p
 rw [show (2:Int) * (D.length:Int)=((2 * D.length:Nat):Int) by omega,wn (by omega),rep_end (by omega) (by omega),Option.bind_some,Option.bind_some]
 have:=arr_run (F:=F) (by omega) hs (by omega) D.length F 0 (List.replicate (2 * D.length) (-1,0),List.replicate (2 * D.length) (-1,0)) (by omega) (by omega) (by omega) (by simp;omega) (by simp;omega)
 rw [List.drop_zero] at this
 exact this
theorem counts_whole {D:List Cr} (hD:D.length<=30) (hF:1000<F) :
  ∃ b,aK.p F D=some b/\(b=true↔(∀ x∈D,SgOk x)/\∃ t,run 0 D (List.replicate (2 * D.length) (-1,0),List.replicate (2 * D.length) (-1,0))=some t):=by
 unfold aK.p
 rw [show (2:Int) * (D.length:Int)=((2 * D.length:Nat):Int) by omega,wn (by omega),mkn_of (by omega),Option.bind_some,Option.bind_some]
 have hm:Mk (List.replicate (2 * D.length) false) (List.replicate (2 * D.length) ((-1:Int),(0:Int))):=⟨by simp,λa ha=>by rw [List.length_replicate] at ha;rw [grep ha,grep ha];decide⟩
 have:=cnt_run (F:=F) (D:=D) (N:=2 * D.length) (by omega) (by omega) (by omega) D.length F 0 (List.replicate (2 * D.length) (-1,0),List.replicate (2 * D.length) (-1,0)) _ _ (by omega) (by omega) (by omega) (by simp) (by simp) hm hm
 rw [List.drop_zero] at this
 exact this
variable {D:List Cr} {l:List (Int×Int)} {b:Bool}
theorem place_step {C:Int->Bool->List Cr->Int->Option (Int×Int)} {k c p:Nat} {a:Int} (hs:∀ x∈D,SgOk x) (hc:c<D.length) (hp:p<4) :
  ax.pl213 F C (k+1) a b D (c:Int) (p:Int)=(bif en (gt D c) p==a&&ent (gt D c) p==b then some ((c:Int),(p:Int)) else ax.pl213 F C k a b D (c:Int) ((p+1:Nat):Int)):=by
 rw [ax.pl213,show decide ((p:Int)<4)=true from decide_eq_true (by omega),cond_true,ixn hc,Option.bind_some,s_end hp,Option.bind_some,ws (by omega),Option.bind_some]
 have:=s_ent (F:=F) (x:=gt D c) (p:=p) (hs _ (gmem hc)) hp
 unfold sg at this
 rw [this,Option.bind_some]
 cases en (gt D c) p==a with
 | true=>rw [cond_true,Bool.true_and]
 | false=>rw [cond_false,Bool.false_and,cond_false]
theorem place_row {C:Int->Bool->List Cr->Int->Option (Int×Int)} {c:Nat} {a:Int} (hs:∀ x∈D,SgOk x) (hc:c<D.length) (hD:D.length<=100) (hno:∀ p:Nat,p<4->ent (gt D c) p=b->en (gt D c) p≠a):∀ (m k p:Nat),4 - p=m->p<=4->m<k ->
  ax.pl213 F C k a b D (c:Int) (p:Int)=C a b D ((c+1:Nat):Int):=by
 intro m
 induction m with
 | zero=>
  intro k p hm hp hk
  obtain ⟨k,rfl⟩:∃ k',k=k'+1:=⟨k - 1,by omega⟩
  obtain rfl:p=4:=by omega
  rw [ax.pl213,show decide (((4:Nat):Int)<4)=false by decide,cond_false]
  unfold ax.pj4 ax.pj3
  rw [ws (by omega)]
 | succ m ih=>
  intro k p hm hp hk
  obtain ⟨k,rfl⟩:∃ k',k=k'+1:=⟨k - 1,by omega⟩
  rw [place_step hs hc (by omega)]
  have:(en (gt D c) p==a&&ent (gt D c) p==b)=false:=by
   cases h:(en (gt D c) p==a&&ent (gt D c) p==b) with
   | false=>rfl
   | true=>
    simp only [Bool.and_eq_true,beq_iff_eq] at h
    exact absurd h.1 (hno p (by omega) h.2)
  rw [this,cond_false]
  exact ih k (p+1) (by omega) (by omega) (by omega)
theorem place_hit {C:Int->Bool->List Cr->Int->Option (Int×Int)} {c p0:Nat} {a:Int} (hs:∀ x∈D,SgOk x) (hc:c<D.length) (hp0:p0<4) (hy:en (gt D c) p0=a) (hb:ent (gt D c) p0=b) (hno:∀ p:Nat,p<p0->ent (gt D c) p=b->en (gt D c) p≠a):∀ (m k p:Nat),p0 - p=m->p<=p0->m<k ->
  ax.pl213 F C k a b D (c:Int) (p:Int)=some ((c:Int),(p0:Int)):=by
 intro m
 induction m with
 | zero=>
  intro k p hm hp hk
  obtain ⟨k,rfl⟩:∃ k',k=k'+1:=⟨k - 1,by omega⟩
  obtain rfl:p=p0:=by omega
  rw [place_step hs hc hp0,hy,hb]
  simp
 | succ m ih=>
  intro k p hm hp hk
  obtain ⟨k,rfl⟩:∃ k',k=k'+1:=⟨k - 1,by omega⟩
  rw [place_step hs hc (by omega)]
  have:(en (gt D c) p==a&&ent (gt D c) p==b)=false:=by
   cases h:(en (gt D c) p==a&&ent (gt D c) p==b) with
   | false=>rfl
   | true=>
    simp only [Bool.and_eq_true,beq_iff_eq] at h
    exact absurd h.1 (hno p (by omega) h.2)
  rw [this,cond_false]
  exact ih k (p+1) (by omega) (by omega) (by omega)
theorem place_of {a:Nat} (hs:∀ x∈D,SgOk x) (h:TS b D l) (ha:a<2 * D.length) (hD:D.length<=30) (hF:1000<F):ax.p F D (a:Int) b=some (gt l a):=by
 obtain ⟨i0,p0,hi,hp,hb,hy,e⟩:=h.get a ha
 rw [e]
 have uniq:∀ i p:Nat,i<D.length->p<4->ent (gt D i) p=b->en (gt D i) p=a->i=i0/\p=p0:=λi p q1 q2 q3 q4=>by
  obtain ⟨_,_,q⟩:=h.put i p q1 q2 q3
  rw [q4,Int.toNat_natCast,e] at q
  simp only [Prod.mk.injEq] at q
  omega
 unfold ax.p
 have key:∀ (m g c:Nat),i0 - c=m->c<=i0->m<g->ax.pl13 F g (a:Int) b D (c:Int)=some ((i0:Int),(p0:Int)):=by
  intro m
  induction m with
  | zero=>
   intro g c hm hc hg
   obtain ⟨g,rfl⟩:∃ k',g=k'+1:=⟨g - 1,by omega⟩
   obtain rfl:c=i0:=by omega
   rw [ax.pl13,dT hi,cond_true]
   exact place_hit hs hi hp hy hb (λp q1 q2 q3=>by have:=uniq c p hi (by omega) q2 q3;omega) p0 F 0 (by omega) (by omega) (by omega)
  | succ m ih=>
   intro g c hm hc hg
   obtain ⟨g,rfl⟩:∃ k',g=k'+1:=⟨g - 1,by omega⟩
   rw [ax.pl13,dT (by omega),cond_true]
   have:=place_row (F:=F) (C:=ax.pl13 F g) (c:=c) (a:=(a:Int)) hs (by omega) (by omega) (λp q1 q2 q3=>by have:=uniq c p (by omega) q1 q2 q3;omega) 4 F 0 (by omega) (by omega) (by omega)
   have this:ax.pl213 F (ax.pl13 F g) F (a:Int) b D (c:Int) 0=_:=this
   rw [this]
   exact ih g (c+1) (by omega) (by omega) (by omega)
 exact key i0 F 0 (by omega) (by omega) (by omega)
def oth (D:List Cr) (t:Tb) (c p:Nat):Int×Int:=bif ent (gt D c) p then gt t.1 (en (gt D c) p).toNat else gt t.2 (en (gt D c) p).toNat
def suc (D:List Cr) (t:Tb) (k:Nat):Nat:=4 * (oth D t (k / 4) ((k+1) % 4)).1.toNat+(oth D t (k / 4) ((k+1) % 4)).2.toNat
theorem oth_is {t:Tb} (h:TB D t) {c p:Nat} (hc:c<D.length) (hp:p<4):∃ i q:Nat,oth D t c p=((i:Int),(q:Int))/\i<D.length/\q<4/\ent (gt D i) q=!(ent (gt D c) p)/\en (gt D i) q=en (gt D c) p:=by
 unfold oth
 cases he:ent (gt D c) p with
 | true=>
  obtain ⟨h0,h1,_⟩:=h.to_.put c p hc hp he
  obtain ⟨i,q,a1,a2,a3,a4,a5⟩:=h.fr.get (en (gt D c) p).toNat (by omega)
  exact ⟨i,q,a5,a1,a2,a3,by omega⟩
 | false=>
  obtain ⟨h0,h1,_⟩:=h.fr.put c p hc hp he
  obtain ⟨i,q,a1,a2,a3,a4,a5⟩:=h.to_.get (en (gt D c) p).toNat (by omega)
  exact ⟨i,q,a5,a1,a2,a3,by omega⟩
theorem oth_oth {t:Tb} (h:TB D t) {c p i q:Nat} (hc:c<D.length) (hp:p<4) (e:oth D t c p=((i:Int),(q:Int))) (hi:i<D.length) (hq:q<4):oth D t i q=((c:Int),(p:Int)):=by
 obtain ⟨i',q',e',_,_,e3,e4⟩:=oth_is h hc hp
 rw [e] at e'
 simp only [Prod.mk.injEq,Int.natCast_inj] at e'
 obtain ⟨rfl,rfl⟩:=e'
 unfold oth
 rw [e3,e4]
 cases he:ent (gt D c) p with
 | true=>exact (h.to_.put c p hc hp he).2.2
 | false=>exact (h.fr.put c p hc hp he).2.2
theorem suc_lt {t:Tb} (h:TB D t) {k:Nat} (hk:k<4 * D.length):suc D t k<4 * D.length:=by
 obtain ⟨i,q,e,h1,h2,_⟩:=oth_is h (c:=k / 4) (p:=(k+1) % 4) (by omega) (by omega)
 unfold suc
 rw [e];simp only [Int.toNat_natCast];omega
theorem suc_inj {t:Tb} (h:TB D t) {k k':Nat} (hk:k<4 * D.length) (hk':k'<4 * D.length) (e:suc D t k=suc D t k'):k=k':=by
 obtain ⟨i,q,e1,h1,h2,_⟩:=oth_is h (c:=k / 4) (p:=(k+1) % 4) (by omega) (by omega)
 obtain ⟨i',q',e1',h1',h2',_⟩:=oth_is h (c:=k' / 4) (p:=(k'+1) % 4) (by omega) (by omega)
 unfold suc at e
 rw [e1,e1'] at e
 simp only [Int.toNat_natCast] at e
 obtain rfl:i=i':=by omega
 obtain rfl:q=q':=by omega
 have a:=oth_oth h (by omega) (by omega) e1 h1 h2
 have b:=oth_oth h (by omega) (by omega) e1' h1 h2
 rw [a] at b
 simp only [Prod.mk.injEq,Int.natCast_inj] at b
 omega
theorem tdiv4 (k:Nat):Int.tdiv (k:Int) 4=((k / 4:Nat):Int):=by
 rw [Int.tdiv_eq_ediv_of_nonneg (by omega)];omega
theorem tmod4 (k:Nat):Int.tmod (k:Int) 4=((k % 4:Nat):Int):=by
 rw [Int.tmod_eq_emod_of_nonneg (by omega)];omega
theorem WH {t:Tb} (h:TB D t) {k:Nat} (hk:k<4 * D.length) (hD:D.length<=30) (hF:1000<F):cC.p F D (k:Int)=some ((suc D t k:Nat):Int):=by
 have hc:k / 4<D.length:=by omega
 unfold cC.p
 rw [tdiv4,tmod4,ws (by omega),tmod4,wn (by omega),ixn hc,Option.bind_some,show (k % 4+1) % 4=(k+1) % 4 by omega,s_end (by omega),Option.bind_some]
 have:=s_ent (F:=F) (x:=gt D (k / 4)) (p:=(k+1) % 4) (h.sg _ (gmem hc)) (by omega)
 unfold sg at this
 rw [this,Option.bind_some]
 obtain ⟨i,q,e,h1,h2,_⟩:=oth_is h (c:=k / 4) (p:=(k+1) % 4) hc (by omega)
 have hpl:ax.p F D (en (gt D (k / 4)) ((k+1) % 4)) (!(ent (gt D (k / 4)) ((k+1) % 4)))=some (oth D t (k / 4) ((k+1) % 4)):=by
  unfold oth
  cases he:ent (gt D (k / 4)) ((k+1) % 4) with
  | true=>
   obtain ⟨h0,h1,_⟩:=h.to_.put _ _ hc (by omega) he
   have:=place_of (F:=F) (a:=(en (gt D (k / 4)) ((k+1) % 4)).toNat) h.sg h.fr (by omega) hD hF
   rw [Int.toNat_of_nonneg h0] at this
   exact this
  | false=>
   obtain ⟨h0,h1,_⟩:=h.fr.put _ _ hc (by omega) he
   have:=place_of (F:=F) (a:=(en (gt D (k / 4)) ((k+1) % 4)).toNat) h.sg h.to_ (by omega) hD hF
   rw [Int.toNat_of_nonneg h0] at this
   exact this
 rw [hpl,Option.bind_some]
 unfold suc
 rw [e]
 simp only [Int.toNat_natCast]
 rw [bo (x:=4 * (i:Int)) (by omega) (by omega),bo (by omega) (by omega)]
 congr 1
theorem WI {t:Tb} (h:TB D t) {c p:Nat} (hc:c<D.length) (hp:p<4):cF.p F D t.1 t.2 (c:Int) (p:Int)=some (oth D t c p):=by
 unfold cF.p de.p
 rw [ixn hc,Option.bind_some,Option.bind_some,if_pos ⟨by omega,by omega⟩]
 have:=i_ent (F:=F) (x:=gt D c) (p:=p) (h.sg _ (gmem hc))
 unfold sg at this
 rw [this,Option.bind_some]
 have he:gt [(gt D c).1,(gt D c).2.1,(gt D c).2.2.1,(gt D c).2.2.2.1] ((p:Int)).toNat=en (gt D c) p:=by rw [Int.toNat_natCast];rfl
 simp only [he]
 unfold oth
 cases hb:ent (gt D c) p with
 | true=>
  obtain ⟨h0,h1,_⟩:=h.to_.put c p hc hp hb
  rw [cond_true,cond_true,ix_of h0 (by rw [h.fr.len];exact h1),Option.bind_some]
 | false=>
  obtain ⟨h0,h1,_⟩:=h.fr.put c p hc hp hb
  rw [cond_false,cond_false,ix_of h0 (by rw [h.to_.len];exact h1),Option.bind_some]
end Go.Proofs.Ytodfdhnlhiaohaa.AE.DD
end
section
namespace Go.Proofs.Ytodfdhnlhiaohaa.AE.DD
open Go Go.AE Go.Proofs
inductive Orb (σ:Nat->Nat):List Bool->Nat->List Int->List Bool->List Int->Prop where
 | stop {done:List Bool} {k:Nat} {acc:List Int} (h:gt done k=true):Orb σ done k acc done acc
 | go {done done':List Bool} {k:Nat} {acc acc':List Int} (h:gt done k=false) (t:Orb σ (done.set k true) (σ k) (acc++[(k:Int)]) done' acc'):Orb σ done k acc done' acc'
inductive Orbs (σ:Nat->Nat) (M:Nat):List Bool->Nat->List (List Int)->List (List Int)->Prop where
 | fin {done:List Bool} {k:Nat} {out:List (List Int)} (h:M<=k):Orbs σ M done k out out
 | skip {done:List Bool} {k:Nat} {out R:List (List Int)} (h:k<M) (hd:gt done k=true) (t:Orbs σ M done (k+1) out R):Orbs σ M done k out R
 | go {done done':List Bool} {k:Nat} {acc:List Int} {out R:List (List Int)} (h:k<M) (hd:gt done k=false) (o:Orb σ done k [] done' acc) (t:Orbs σ M done' (k+1) (out++[acc]) R):Orbs σ M done k out R
def nf (done:List Bool):Nat:=done.countP (λb=>!b)
theorem gt_eq {α:Type} [Inhabited α] {l:List α} {n:Nat} (h:n<l.length):l[n]=gt l n:=by
 have:=eS h
 rw [List.getElem?_eq_getElem h] at this
 exact Option.some.inj this
theorem nf_set {done:List Bool} {k:Nat} (hk:k<done.length) (h:gt done k=false):nf (done.set k true)+1=nf done:=by
 unfold nf
 rw [List.countP_set hk,gt_eq hk,h]
 have:0<done.countP (λb=>!b):=List.countP_pos_iff.2 ⟨false,by rw [<- h];exact gmem hk,rfl⟩
 simp;omega
theorem nf_le (done:List Bool):nf done<=done.length:=List.countP_le_length
def Con (σ:Nat->Nat) (M x y:Nat):Prop:=∀ S:Nat->Prop,(∀ k,k<M->(S k↔S (σ k)))->(S x↔S y)
section
variable {σ:Nat->Nat} {M:Nat}
theorem orb_spec (hlt:∀ x,x<M->σ x<M) (hinj:∀ x y,x<M->y<M->σ x=σ y->x=y) {done:List Bool} {k:Nat} (hl:done.length=M) (hk:k<M) (hd:gt done k=false) (hc:∀ x,x<M->(gt done x=true↔gt done (σ x)=true)) :
  ∀ (n:Nat) (dn:List Bool) (at_:Nat) (acc:List Int),nf dn=n->dn.length=M->at_<M->(∀ x,x<M->(gt dn x=true↔gt done x=true\/(x:Int)∈acc)) ->
   (∀ z∈acc,∃ x:Nat,x<M/\z=x/\gt done x=false/\Con σ M k x)->Con σ M k at_->(∀ x,x<M->(x:Int)∈acc->gt dn (σ x)=true\/σ x=at_)->(∀ x,x<M->gt dn (σ x)=true->gt dn x=true\/σ x=k) ->
   (gt dn at_=true->at_=k)->((acc=[]/\at_=k)\/∃ y,y<M/\gt dn y=true/\σ y=at_)->acc.length+nf dn<=M ->
   ∃ done' acc',Orb σ dn at_ acc done' acc'/\done'.length=M/\(∀ x,x<M->(gt done' x=true↔gt done x=true\/(x:Int)∈acc'))/\(∀ z∈acc',∃ x:Nat,x<M/\z=x/\gt done x=false/\Con σ M k x)/\(k:Int)∈acc'/\(∀ x:Nat,x<M->(x:Int)∈acc'->((σ x:Nat):Int)∈acc')/\(∀ x,x<M->(gt done' x=true↔gt done' (σ x)=true))/\acc'.length<=M:=by
 have fin_:∀ (dn:List Bool) (acc:List Int) (k':Nat),dn.length=M->gt dn k'=true->(k':Int)∈acc->(∀ x,x<M->(gt dn x=true↔gt done x=true\/(x:Int)∈acc))->(∀ z∈acc,∃ x:Nat,x<M/\z=x/\gt done x=false/\Con σ M k' x) ->
   (∀ x,x<M->(x:Int)∈acc->gt dn (σ x)=true\/σ x=k')->(∀ x,x<M->gt dn (σ x)=true->gt dn x=true\/σ x=k')->((acc=[]/\k'=k')\/∃ y,y<M/\gt dn y=true/\σ y=k')->acc.length<=M ->
   ∃ done' acc',Orb σ dn k' acc done' acc'/\done'.length=M/\(∀ x,x<M->(gt done' x=true↔gt done x=true\/(x:Int)∈acc'))/\(∀ z∈acc',∃ x:Nat,x<M/\z=x/\gt done x=false/\Con σ M k' x)/\(k':Int)∈acc'/\(∀ x:Nat,x<M->(x:Int)∈acc'->((σ x:Nat):Int)∈acc')/\(∀ x,x<M->(gt done' x=true↔gt done' (σ x)=true))/\acc'.length<=M:=by
  intro dn acc k' h1 hat hka i2 i3 i5 i6 i8 i9
  have hs:∀ x,x<M->(x:Int)∈acc->gt dn (σ x)=true:=λx hx hxa=>by
   rcases i5 x hx hxa with q | q
   ·exact q
   ·rw [q];exact hat
  refine ⟨dn,acc,.stop hat,h1,i2,i3,hka,λx hx hxa=>?_,λx hx=>⟨λq=>?_,λq=>?_⟩,i9⟩
  ·rcases (i2 _ (hlt x hx)).1 (hs x hx hxa) with q | q
   ·obtain ⟨y,hy,e,hf,_⟩:=i3 _ hxa
    obtain rfl:x=y:=by omega
    rw [(hc x hx).2 q] at hf;cases hf
   ·exact q
  ·rcases (i2 x hx).1 q with q | q
   ·exact (i2 _ (hlt x hx)).2 (.inl ((hc x hx).1 q))
   ·exact hs x hx q
  ·rcases i6 x hx q with q | q
   ·exact q
   ·rcases i8 with ⟨e,_⟩ | ⟨y,hy,hyd,e⟩
    ·rw [e] at hka;cases hka
    ·rw [hinj x y hx hy (q.trans e.symm)];exact hyd
 intro n
 induction n with
 | zero=>
  intro dn at_ acc hn h1 h2 i2 i3 i4 i5 i6 i7 i8 i9
  have hat:gt dn at_=true:=by
   cases h:gt dn at_ with
   | true=>rfl
   | false=>have:=nf_set (by omega) h;omega
  obtain rfl:=i7 hat
  have hka:(at_:Int)∈acc:=by rcases (i2 at_ hk).1 hat with q | q;(rw [hd] at q;cases q);exact q
  exact fin_ dn acc at_ h1 hat hka i2 i3 i5 i6 i8 (by omega)
 | succ n ih=>
  intro dn at_ acc hn h1 h2 i2 i3 i4 i5 i6 i7 i8 i9
  cases hat:gt dn at_ with
  | true=>
   obtain rfl:=i7 hat
   have hka:(at_:Int)∈acc:=by rcases (i2 at_ hk).1 hat with q | q;(rw [hd] at q;cases q);exact q
   exact fin_ dn acc at_ h1 hat hka i2 i3 i5 i6 i8 (by omega)
  | false=>
   have hset:∀ x,x<M->(gt (dn.set at_ true) x=true↔gt dn x=true\/x=at_):=λx hx=>by
    by_cases e:at_=x
    ·subst e;rw [gset_eq (by omega)];simp
    ·rw [gset_ne e];constructor
     ·exact .inl
     ·rintro (q | q);exact q;exact absurd q.symm e
   have hnd:gt done at_=false:=by
    cases h:gt done at_ with
    | false=>rfl
    | true=>rw [(i2 at_ h2).2 (.inl h)] at hat;cases hat
   have hstep:Con σ M k (σ at_):=λS hS=>(i4 S hS).trans (hS at_ h2)
   obtain ⟨done',acc',o,q1,q2,q3,q4,q5⟩:=ih (dn.set at_ true) (σ at_) (acc++[(at_:Int)]) (by have:=nf_set (by omega) hat;omega) (by rw [List.length_set];exact h1) (hlt _ h2)
    (λx hx=>by
     rw [hset x hx,i2 x hx]
     simp only [List.mem_append,List.mem_singleton,Int.natCast_inj,or_assoc])
    (λz hz=>by
     rcases List.mem_append.1 hz with hz | hz
     ·exact i3 z hz
     ·exact ⟨at_,h2,by simpa using hz,hnd,i4⟩)
    hstep
    (λx hx hxa=>by
     rcases List.mem_append.1 hxa with hxa | hxa
     ·left;rw [hset _ (hlt x hx)]
      rcases i5 x hx hxa with q | q
      ·exact .inl q
      ·exact .inr q
     ·right;obtain rfl:x=at_:=by have:=List.mem_singleton.1 hxa;omega
      rfl)
    (λx hx hs=>by
     rw [hset _ (hlt x hx)] at hs
     rw [hset x hx]
     rcases hs with q | q
     ·rcases i6 x hx q with q | q
      ·exact .inl (.inl q)
      ·exact .inr q
     ·rcases i8 with ⟨_,e⟩ | ⟨y,hy,hyd,e⟩
      ·exact .inr (q.trans e)
      ·exact .inl (.inl (by rw [hinj x y hx hy (q.trans e.symm)];exact hyd)))
    (λhs=>by
     rw [hset _ (hlt _ h2)] at hs
     rcases hs with q | q
     ·rcases i6 at_ h2 q with q | q
      ·rw [hat] at q;cases q
      ·exact q
     ·rcases i8 with ⟨_,e⟩ | ⟨y,hy,hyd,e⟩
      ·exact q.trans e
      ·have:=hinj y at_ hy h2 (e.trans q.symm)
       rw [this,hat] at hyd;cases hyd)
    (.inr ⟨at_,h2,by rw [hset _ h2];exact .inr rfl,rfl⟩)
    (by have:=nf_set (by omega) hat;rw [List.length_append,List.length_singleton];omega)
   exact ⟨done',acc',.go hat o,q1,q2,q3,q4,q5⟩
theorem orb_one (hlt:∀ x,x<M->σ x<M) (hinj:∀ x y,x<M->y<M->σ x=σ y->x=y) {done:List Bool} {k:Nat} (hl:done.length=M) (hk:k<M) (hd:gt done k=false) (hc:∀ x,x<M->(gt done x=true↔gt done (σ x)=true)) :
  ∃ done' acc',Orb σ done k [] done' acc'/\done'.length=M/\(∀ x,x<M->(gt done' x=true↔gt done x=true\/(x:Int)∈acc'))/\(∀ z∈acc',∃ x:Nat,x<M/\z=x/\gt done x=false/\Con σ M k x)/\(k:Int)∈acc'/\(∀ x:Nat,x<M->(x:Int)∈acc'->((σ x:Nat):Int)∈acc')/\(∀ x,x<M->(gt done' x=true↔gt done' (σ x)=true))/\acc'.length<=M:=
 orb_spec hlt hinj hl hk hd hc (nf done) done k [] rfl hl hk (λx hx=>by simp) (λz hz=>by cases hz) (λS hS=>Iff.rfl) (λx hx h=>by cases h) (λx hx h=>.inl ((hc x hx).2 h)) (λh=>absurd (hd.symm.trans h) (by decide)) (.inl ⟨rfl,rfl⟩) (by have:=nf_le done;simp;omega)
structure Part (σ:Nat->Nat) (M:Nat) (R:List (List Int)) (done:List Bool):Prop where
 len:done.length=M
 mem:∀ x:Nat,x<M->(gt done x=true↔∃ j,j<R.length/\(x:Int)∈gt R j)
 elt:∀ j,j<R.length->∀ z∈gt R j,∃ x:Nat,x<M/\z=x
 one:∀ (x:Nat) (j j':Nat),j<R.length->j'<R.length->(x:Int)∈gt R j->(x:Int)∈gt R j'->j=j'
 suc:∀ (x:Nat) (j:Nat),x<M->j<R.length->(x:Int)∈gt R j->((σ x:Nat):Int)∈gt R j
 con:∀ (x y:Nat) (j:Nat),j<R.length->(x:Int)∈gt R j->(y:Int)∈gt R j->Con σ M x y
 ne:∀ j,j<R.length->gt R j≠[]
 clo:∀ x,x<M->(gt done x=true↔gt done (σ x)=true)
 sz:∀ j,j<R.length->(gt R j).length<=M
 nd:∀ j,j<R.length->(gt R j).Nodup
theorem Con.symm {x y:Nat} (h:Con σ M x y):Con σ M y x:=λS hS=>(h S hS).symm
theorem Con.trans {x y z:Nat} (h:Con σ M x y) (h':Con σ M y z):Con σ M x z:=λS hS=>(h S hS).trans (h' S hS)
theorem Part.start (hlt:∀ x,x<M->σ x<M):Part σ M [] (List.replicate M false) where
 len:=by simp
 mem:=λx hx=>by rw [grep hx];simp
 elt:=λj hj=>by simp at hj
 one:=λx j j' hj=>by simp at hj
 suc:=λx j _ hj=>by simp at hj
 con:=λx y j hj=>by simp at hj
 ne:=λj hj=>by simp at hj
 clo:=λx hx=>by rw [grep hx,grep (hlt x hx)]
 sz:=λj hj=>by simp at hj
 nd:=λj hj=>by simp at hj
theorem Part.add {R:List (List Int)} {done done':List Bool} {k:Nat} {acc:List Int} (h:Part σ M R done) (q1:done'.length=M) (q2:∀ x,x<M->(gt done' x=true↔gt done x=true\/(x:Int)∈acc)) (q3:∀ z∈acc,∃ x:Nat,x<M/\z=x/\gt done x=false/\Con σ M k x) (q4:(k:Int)∈acc)
  (q5:∀ x:Nat,x<M->(x:Int)∈acc->((σ x:Nat):Int)∈acc) (q6:∀ x,x<M->(gt done' x=true↔gt done' (σ x)=true)) (q7:acc.length<=M) (q8:acc.Nodup):Part σ M (R++[acc]) done':=by
 have hg:∀ j,j<(R++[acc]).length->(j<R.length/\gt (R++[acc]) j=gt R j)\/(j=R.length/\gt (R++[acc]) j=acc):=λj hj=>by
  simp only [List.length_append,List.length_singleton] at hj
  by_cases e:j<R.length
  ·exact .inl ⟨e,gapp_lt e⟩
  ·obtain rfl:j=R.length:=by omega
   exact .inr ⟨rfl,gapp_eq⟩
 have hlast:R.length<(R++[acc]).length:=by simp
 refine ⟨q1,λx hx=>?_,λj hj z hz=>?_,λx j j' hj hj' hm hm'=>?_,λx j hx hj hm=>?_,λx y j hj hx hy=>?_,λj hj=>?_,q6,λj hj=>?_,λj hj=>?_⟩
 ·rw [q2 x hx,h.mem x hx]
  constructor
  ·rintro (⟨j,hj,hm⟩ | hm)
   ·exact ⟨j,by simp;omega,by rw [gapp_lt hj];exact hm⟩
   ·exact ⟨R.length,hlast,by rw [gapp_eq];exact hm⟩
  ·rintro ⟨j,hj,hm⟩
   rcases hg j hj with ⟨e,g⟩ | ⟨e,g⟩
   ·exact .inl ⟨j,e,by rw [<- g];exact hm⟩
   ·exact .inr (by rw [<- g];exact hm)
 ·rcases hg j hj with ⟨e,g⟩ | ⟨e,g⟩
  ·rw [g] at hz;exact h.elt j e z hz
  ·rw [g] at hz;obtain ⟨x,a,b,_⟩:=q3 z hz;exact ⟨x,a,b⟩
 ·have cross:∀ j,j<R.length->(x:Int)∈gt R j->(x:Int)∈acc->False:=λj hj h1 h2=>by
   obtain ⟨y,a,b,c,_⟩:=q3 _ h2
   obtain rfl:x=y:=by omega
   have:=(h.mem x a).2 ⟨j,hj,h1⟩
   rw [c] at this;cases this
  rcases hg j hj with ⟨e,g⟩ | ⟨e,g⟩ <;> rcases hg j' hj' with ⟨e',g'⟩ | ⟨e',g'⟩ <;> rw [g] at hm <;> rw [g'] at hm'
  ·exact h.one x j j' e e' hm hm'
  ·exact (cross j e hm hm').elim
  ·exact (cross j' e' hm' hm).elim
  ·omega
 ·rcases hg j hj with ⟨e,g⟩ | ⟨e,g⟩ <;> rw [g] at hm ⊢
  ·exact h.suc x j hx e hm
  ·exact q5 x hx hm
 ·rcases hg j hj with ⟨e,g⟩ | ⟨e,g⟩ <;> rw [g] at hx hy
  ·exact h.con x y j e hx hy
  ·obtain ⟨x',_,e1,_,c1⟩:=q3 _ hx
   obtain ⟨y',_,e2,_,c2⟩:=q3 _ hy
   obtain rfl:x=x':=by omega
   obtain rfl:y=y':=by omega
   exact c1.symm.trans c2
 ·rcases hg j hj with ⟨e,g⟩ | ⟨e,g⟩ <;> rw [g]
  ·exact h.ne j e
  ·intro e2;rw [e2] at q4;cases q4
 ·rcases hg j hj with ⟨e,g⟩ | ⟨e,g⟩ <;> rw [g]
  ·exact h.sz j e
  ·exact q7
 ·rcases hg j hj with ⟨e,g⟩ | ⟨e,g⟩ <;> rw [g]
  ·exact h.nd j e
  ·exact q8
theorem Orb.nd (hlt:∀ x,x<M->σ x<M) {done done':List Bool} {k:Nat} {acc acc':List Int} (h:Orb σ done k acc done' acc'):k<M->done.length=M->acc.Nodup->(∀ z∈acc,∃ x:Nat,z=x/\gt done x=true)->acc'.Nodup:=by
 induction h with
 | stop h=>exact λ_ _ hn _=>hn
 | @go done done' k acc acc' h t ih=>
  intro hk hl hn ha
  refine ih (hlt _ hk) (by rw [List.length_set];exact hl) ?_ (λz hz=>?_)
  ·rw [List.nodup_append]
   refine ⟨hn,by simp,λa ha' b hb e=>?_⟩
   obtain ⟨x,e1,e2⟩:=ha a ha'
   have hb:=List.mem_singleton.1 hb
   have:x=k:=by omega
   rw [this,h] at e2;cases e2
  ·rcases List.mem_append.1 hz with hz | hz
   ·obtain ⟨x,e1,e2⟩:=ha z hz
    refine ⟨x,e1,?_⟩
    by_cases e:k=x
    ·subst e;rw [gset_eq (by omega)]
    ·rw [gset_ne e];exact e2
   ·exact ⟨k,List.mem_singleton.1 hz,by rw [gset_eq (by omega)]⟩
theorem orbs_all (hlt:∀ x,x<M->σ x<M) (hinj:∀ x y,x<M->y<M->σ x=σ y->x=y):∀ (n k:Nat) (done:List Bool) (out:List (List Int)),M - k=n->k<=M->Part σ M out done->(∀ x,x<k->gt done x=true) ->
  ∃ R done',Orbs σ M done k out R/\Part σ M R done'/\(∀ x,x<M->gt done' x=true)/\R.length<=out.length+n:=by
 intro n
 induction n with
 | zero=>
  intro k done out hn hk h hd
  exact ⟨out,done,.fin (by omega),h,λx hx=>hd x (by omega),by omega⟩
 | succ n ih=>
  intro k done out hn hk h hd
  cases hdk:gt done k with
  | true=>
   obtain ⟨R,done',o,q1,q2,q3⟩:=ih (k+1) done out (by omega) (by omega) h (λx hx=>by
    by_cases e:x=k
    ·subst e;exact hdk
    ·exact hd x (by omega))
   exact ⟨R,done',.skip (by omega) hdk o,q1,q2,by omega⟩
  | false=>
   obtain ⟨d',acc,o,q1,q2,q3,q4,q5,q6,q7⟩:=orb_one hlt hinj h.len (by omega) hdk h.clo
   obtain ⟨R,done',o',r1,r2,r3⟩:=ih (k+1) d' (out++[acc]) (by omega) (by omega) (h.add q1 q2 q3 q4 q5 q6 q7 (o.nd hlt (by omega) h.len List.nodup_nil (λz hz=>by cases hz))) (λx hx=>by
    rw [q2 x (by omega)]
    by_cases e:x=k
    ·subst e;exact .inr q4
    ·exact .inl (hd x (by omega)))
   rw [List.length_append,List.length_singleton] at r3
   exact ⟨R,done',.go (by omega) hdk o o',r1,r2,by omega⟩
theorem orbs_whole (hlt:∀ x,x<M->σ x<M) (hinj:∀ x y,x<M->y<M->σ x=σ y->x=y) :
  ∃ R done',Orbs σ M (List.replicate M false) 0 [] R/\Part σ M R done'/\(∀ x,x<M->gt done' x=true)/\R.length<=M:=by
 obtain ⟨R,d,o,q1,q2,q3⟩:=orbs_all hlt hinj M 0 _ [] (by omega) (by omega) (Part.start hlt) (λx hx=>by omega)
 exact ⟨R,d,o,q1,q2,by simpa using q3⟩
theorem Orb.acc_ne {done done':List Bool} {k:Nat} {acc acc':List Int} (h:Orb σ done k acc done' acc'):acc≠[]->acc'≠[]:=by
 induction h with
 | stop h=>exact id
 | go h t ih=>exact λ_=>ih (by simp)
theorem Orb.len {done done':List Bool} {k:Nat} {acc acc':List Int} (h:Orb σ done k acc done' acc'):done'.length=done.length:=by
 induction h with
 | stop h=>rfl
 | go h t ih=>rw [ih,List.length_set]
end
end Go.Proofs.Ytodfdhnlhiaohaa.AE.DD
end
section
namespace Go.Proofs.Ytodfdhnlhiaohaa.AE.DD
open Go Go.AE Go.Proofs
variable {F:Nat} {D:List Cr} {t:Tb}
theorem s_orb {C:List Cr->List (List Int)->List Bool->Int->Option (List (List Int))} (h:TB D t) (hD:D.length<=30) (hF:1000<F) {out:List (List Int)} {k0:Int} {dn dn':List Bool} {at_:Nat} {acc acc':List Int} (o:Orb (suc D t) dn at_ acc dn' acc') :
  ∀ g,dn.length=4 * D.length->at_<4 * D.length->nf dn<g->acc.length+nf dn<=1000->aD.pl7853 F C g D out dn k0 acc (at_:Int)=aD.pj6 F C D out dn' k0 acc':=by
 induction o with
 | stop hd=>
  intro g hl hat hg hb
  obtain ⟨g,rfl⟩:∃ g',g=g'+1:=⟨g - 1,by omega⟩
  rw [aD.pl7853,ixn (by omega),Option.bind_some,hd,Bool.not_true,cond_false]
 | @go done done' k acc acc' hd t' ih=>
  intro g hl hat hg hb
  obtain ⟨g,rfl⟩:∃ g',g=g'+1:=⟨g - 1,by omega⟩
  have hn:=nf_set (by omega:k<done.length) hd
  rw [aD.pl7853,ixn (by omega),Option.bind_some,hd,Bool.not_false,cond_true,Option.bind_some,Option.bind_some,apn_of (by simp;omega),Option.bind_some,WH h hat hD hF,Option.bind_some]
  exact ih g (by rw [List.length_set];exact hl) (suc_lt h hat) (by omega) (by rw [List.length_append,List.length_singleton];omega)
theorem s_orbs (h:TB D t) (hD:D.length<=30) (hF:1000<F) {dn:List Bool} {k:Nat} {out R:List (List Int)} (o:Orbs (suc D t) (4 * D.length) dn k out R) :
  ∀ g,dn.length=4 * D.length->4 * D.length - k<g->out.length<=k->aD.pl61 F g D out dn (k:Int)=some R:=by
 induction o with
 | fin hk=>
  intro g hl hg hb
  obtain ⟨g,rfl⟩:∃ g',g=g'+1:=⟨g - 1,by omega⟩
  rw [aD.pl61,dF (by omega),cond_false]
 | skip hk hd t' ih=>
  intro g hl hg hb
  obtain ⟨g,rfl⟩:∃ g',g=g'+1:=⟨g - 1,by omega⟩
  rw [aD.pl61,dT (by omega),cond_true,ixn (by omega),Option.bind_some,hd,cond_true]
  unfold aD.pj4
  rw [ws (by omega)]
  exact ih g hl (by omega) (by omega)
 | @go done done' k acc out R hk hd o' t' ih=>
  intro g hl hg hb
  obtain ⟨g,rfl⟩:∃ g',g=g'+1:=⟨g - 1,by omega⟩
  have:=nf_le done
  rw [aD.pl61,dT (by omega),cond_true,ixn (by omega),Option.bind_some,hd,cond_false,s_orb h hD hF o' F hl hk (by omega) (by simp;omega)]
  unfold aD.pj6 aD.pj5
  rw [apn_of (by simp;omega),Option.bind_some,ws (by omega)]
  exact ih g (by rw [o'.len];exact hl) (by omega) (by rw [List.length_append,List.length_singleton];omega)
theorem i_next (h:TB D t) {k:Nat} (hk:k<4 * D.length) (hD:D.length<=30) {β:Type} (f:Int->Option β) :
  ((cF.p F D t.1 t.2 (IntKind.i64.wrap (Int.tdiv (k:Int) 4)) (Int.tmod (IntKind.i64.wrap ((k:Int)+1)) 4)).bind λr=>f (IntKind.i64.wrap ((IntKind.i64.wrap (4 * r.1))+r.2)))=f ((suc D t k:Nat):Int):=by
 rw [tdiv4,ws (by omega),tmod4,wn (by omega),WI h (by omega) (by omega),Option.bind_some]
 obtain ⟨i,q,e,h1,h2,_⟩:=oth_is h (c:=k / 4) (p:=(k+1) % 4) (by omega) (by omega)
 unfold suc
 rw [e]
 simp only [Int.toNat_natCast]
 rw [bo (x:=4 * (i:Int)) (by omega) (by omega),bo (by omega) (by omega)]
 congr 1
theorem i_orb {C:List Cr->List (Int×Int)->List (Int×Int)->List (List Int)->List Bool->Int->Int->Option (List (List Int))} (h:TB D t) (hD:D.length<=30) (hF:1000<F) {out:List (List Int)} {n k0:Int} {dn dn':List Bool} {at_:Nat} {acc acc':List Int} (o:Orb (suc D t) dn at_ acc dn' acc') :
  ∀ g,dn.length=4 * D.length->at_<4 * D.length->nf dn<g->acc.length+nf dn<=1000->aw.pl15725 F C g D t.1 t.2 out dn n k0 acc (at_:Int)=aw.pj6 F C D t.1 t.2 out dn' acc' n k0:=by
 induction o with
 | stop hd=>
  intro g hl hat hg hb
  obtain ⟨g,rfl⟩:∃ g',g=g'+1:=⟨g - 1,by omega⟩
  rw [aw.pl15725,ixn (by omega),Option.bind_some,hd,Bool.not_true,cond_false]
 | @go done done' k acc acc' hd t' ih=>
  intro g hl hat hg hb
  obtain ⟨g,rfl⟩:∃ g',g=g'+1:=⟨g - 1,by omega⟩
  have hn:=nf_set (by omega:k<done.length) hd
  rw [aw.pl15725,ixn (by omega),Option.bind_some,hd,Bool.not_false,cond_true,Option.bind_some,Option.bind_some,apn_of (by simp;omega),Option.bind_some,i_next h hat hD]
  exact ih g (by rw [List.length_set];exact hl) (suc_lt h hat) (by omega) (by rw [List.length_append,List.length_singleton];omega)
theorem i_orbs (h:TB D t) (hD:D.length<=30) (hF:1000<F) {dn:List Bool} {k:Nat} {out R:List (List Int)} (o:Orbs (suc D t) (4 * D.length) dn k out R) :
  ∀ g,dn.length=4 * D.length->4 * D.length - k<g->out.length<=k->aw.pl61 F g D t.1 t.2 out dn ((4 * D.length:Nat):Int) (k:Int)=some R:=by
 induction o with
 | fin hk=>
  intro g hl hg hb
  obtain ⟨g,rfl⟩:∃ g',g=g'+1:=⟨g - 1,by omega⟩
  rw [aw.pl61,dF (by omega),cond_false]
 | @skip done k out R hk hd t' ih=>
  intro g hl hg hb
  obtain ⟨g,rfl⟩:∃ g',g=g'+1:=⟨g - 1,by omega⟩
  have:=nf_le done
  rw [aw.pl61,dT (by omega),cond_true,i_orb h hD hF (.stop hd) F hl hk (by omega) (by simp;omega)]
  unfold aw.pj6 aw.pj5 aw.pj4
  rw [show decide ((([]:List Int).length:Int)>0)=false by decide,cond_false,ws (by omega)]
  exact ih g hl (by omega) (by omega)
 | @go done done' k acc out R hk hd o' t' ih=>
  intro g hl hg hb
  obtain ⟨g,rfl⟩:∃ g',g=g'+1:=⟨g - 1,by omega⟩
  have:=nf_le done
  have hne:acc≠[]:=by
   cases o' with
   | stop hd'=>rw [hd] at hd';cases hd'
   | go _ t2=>exact t2.acc_ne (by simp)
  have:=List.length_pos_iff.2 hne
  rw [aw.pl61,dT (by omega),cond_true,i_orb h hD hF o' F hl hk (by omega) (by simp;omega)]
  unfold aw.pj6 aw.pj5 aw.pj4
  rw [decide_eq_true (by omega),cond_true,apn_of (by simp;omega),Option.bind_some,ws (by omega)]
  exact ih g (by rw [o'.len];exact hl) (by omega) (by rw [List.length_append,List.length_singleton];omega)
structure Rg (D:List Cr) (t:Tb) (R:List (List Int)):Prop where
 part:∃ done,Part (suc D t) (4 * D.length) R done/\∀ x,x<4 * D.length->gt done x=true
 le:R.length<=4 * D.length
theorem regions_both (h:TB D t) (hD:D.length<=30) (hF:1000<F):∃ R,Rg D t R/\aD.p F D=some R/\aw.p F D t.1 t.2=some R:=by
 obtain ⟨R,done,o,q1,q2,q3⟩:=orbs_whole (σ:=suc D t) (M:=4 * D.length) (λx hx=>suc_lt h hx) (λx y hx hy e=>suc_inj h hx hy e)
 refine ⟨R,⟨⟨done,q1,q2⟩,q3⟩,?_,?_⟩
 ·unfold aD.p
  rw [show (4:Int) * (D.length:Int)=((4 * D.length:Nat):Int) by omega,wn (by omega),mkn_of (by omega),Option.bind_some]
  exact s_orbs h hD hF o F (by simp) (by omega) (by simp)
 ·unfold aw.p
  rw [show (4:Int) * (D.length:Int)=((4 * D.length:Nat):Int) by omega,wn (by omega),mkn_of (by omega),Option.bind_some,List.length_replicate]
  exact i_orbs h hD hF o F (by simp) (by omega) (by simp)
end Go.Proofs.Ytodfdhnlhiaohaa.AE.DD
end
section
namespace Go.Proofs.Ytodfdhnlhiaohaa.AE.DD
open Go Go.AE Go.Proofs
variable {F:Nat}
structure UF (s t:List Int) (n:Nat):Prop where
 ls:s.length=n
 lt:t.length=n
 eq:∀ i j:Nat,i<n->j<n->(gt s i=gt s j↔gt t i=gt t j)
 low:∀ i:Nat,i<n->∃ r:Nat,gt t i=(r:Int)/\r<=i/\gt t r=(r:Int)
 sr:∀ i:Nat,i<n->0<=gt s i/\gt s i<(n:Int)
def cntg (n:Nat):List Int:=(List.range n).map λk:Nat=>(k:Int)
theorem cntg_len (n:Nat):(cntg n).length=n:=by simp [cntg]
theorem gt_cntg {n k:Nat} (h:k<n):gt (cntg n) k=(k:Int):=by
 have:=eS (l:=cntg n) (n:=k) (by rw [cntg_len];exact h)
 unfold cntg at this ⊢
 rw [List.getElem?_map,List.getElem?_range h] at this
 exact (Option.some.inj this).symm
theorem cntg_succ (n:Nat):cntg (n+1)=cntg n++[(n:Int)]:=by simp [cntg,List.range_succ]
theorem UF.start (n:Nat):UF (cntg n) (cntg n) n where
 ls:=cntg_len n
 lt:=cntg_len n
 eq:=λi j hi hj=>Iff.rfl
 low:=λi hi=>⟨i,gt_cntg hi,Nat.le_refl _,gt_cntg hi⟩
 sr:=λi hi=>by rw [gt_cntg hi];omega
def rel (l:List Int) (a b:Int):List Int:=l.map λx=>if x=a then b else x
theorem rel_len (l:List Int) (a b:Int):(rel l a b).length=l.length:=by simp [rel]
theorem gt_rel {l:List Int} {a b:Int} {j:Nat} (h:j<l.length):gt (rel l a b) j=if gt l j=a then b else gt l j:=by
 have:=eS (l:=rel l a b) (n:=j) (by rw [rel_len];exact h)
 unfold rel at this ⊢
 rw [List.getElem?_map,eS h] at this
 exact (Option.some.inj this).symm
theorem UF.union {s t:List Int} {n i k:Nat} (h:UF s t n) (hi:i<n) (hk:k<n) {hi_ lo:Int} (hx:(hi_=gt t i/\lo=gt t k)\/(hi_=gt t k/\lo=gt t i)) (hle:lo<=hi_):UF (rel s (gt s k) (gt s i)) (rel t hi_ lo) n:=by
 have gs:∀ j,j<n->gt (rel s (gt s k) (gt s i)) j=if gt s j=gt s k then gt s i else gt s j:=λj hj=>gt_rel (by rw [h.ls];exact hj)
 have gtt:∀ j,j<n->gt (rel t hi_ lo) j=if gt t j=hi_ then lo else gt t j:=λj hj=>gt_rel (by rw [h.lt];exact hj)
 have mem:∀ j,j<n->((gt s j=gt s i\/gt s j=gt s k)↔(gt t j=hi_\/gt t j=lo)):=λj hj=>by
  rw [h.eq j i hj hi,h.eq j k hj hk]
  rcases hx with ⟨a,b⟩ | ⟨a,b⟩ <;> rw [a,b]
  exact or_comm
 have sA:∀ j,j<n->(gt s j=gt s i\/gt s j=gt s k)->gt (rel s (gt s k) (gt s i)) j=gt s i:=λj hj hA=>by
  rw [gs j hj];split
  ·rfl
  ·rename_i q;exact hA.resolve_right q
 have sN:∀ j,j<n->¬ (gt s j=gt s i\/gt s j=gt s k)->gt (rel s (gt s k) (gt s i)) j=gt s j:=λj hj hA=>by
  rw [gs j hj,if_neg (λq=>hA (.inr q))]
 have tA:∀ j,j<n->(gt s j=gt s i\/gt s j=gt s k)->gt (rel t hi_ lo) j=lo:=λj hj hA=>by
  rw [gtt j hj];split
  ·rfl
  ·rename_i q;exact ((mem j hj).1 hA).resolve_left q
 have tN:∀ j,j<n->¬ (gt s j=gt s i\/gt s j=gt s k)->gt (rel t hi_ lo) j=gt t j:=λj hj hA=>by
  rw [gtt j hj,if_neg (λq=>hA ((mem j hj).2 (.inl q)))]
 refine ⟨by rw [rel_len];exact h.ls,by rw [rel_len];exact h.lt,λa b ha hb=>?_,λa ha=>?_,λa ha=>?_⟩
 ·by_cases qa:gt s a=gt s i\/gt s a=gt s k <;> by_cases qb:gt s b=gt s i\/gt s b=gt s k
  ·rw [sA a ha qa,sA b hb qb,tA a ha qa,tA b hb qb];simp
  ·rw [sA a ha qa,sN b hb qb,tA a ha qa,tN b hb qb]
   constructor
   ·intro e;exact absurd (.inl e.symm) qb
   ·intro e;exact absurd ((mem b hb).2 (.inr e.symm)) qb
  ·rw [sN a ha qa,sA b hb qb,tN a ha qa,tA b hb qb]
   constructor
   ·intro e;exact absurd (.inl e) qa
   ·intro e;exact absurd ((mem a ha).2 (.inr e)) qa
  ·rw [sN a ha qa,sN b hb qb,tN a ha qa,tN b hb qb];exact h.eq a b ha hb
 ·by_cases qa:gt s a=gt s i\/gt s a=gt s k
  ·rw [tA a ha qa]
   obtain ⟨r,e1,e2,e3⟩:=h.low a ha
   have hlo:∃ m:Nat,m<n/\lo=gt t m/\(gt s m=gt s i\/gt s m=gt s k):=by
    rcases hx with ⟨_,b⟩ | ⟨_,b⟩
    ·exact ⟨k,hk,b,.inr rfl⟩
    ·exact ⟨i,hi,b,.inl rfl⟩
   obtain ⟨m,hm,em,qm⟩:=hlo
   obtain ⟨r',f1,f2,f3⟩:=h.low m hm
   have hl:lo=(r':Int):=em.trans f1
   have hle2:lo<=gt t a:=by
    rcases (mem a ha).1 qa with q | q
    ·rw [q];exact hle
    ·rw [q];exact Int.le_refl _
   refine ⟨r',hl,by omega,?_⟩
   rw [tA r' (by omega) ?_,hl]
   rw [h.eq r' i (by omega) hi,h.eq r' k (by omega) hk,f3,<-f1]
   rcases hx with ⟨a1,b⟩ | ⟨a1,b⟩
   ·right;rw [<- b];exact em.symm
   ·left;rw [<- b];exact em.symm
  ·rw [tN a ha qa]
   obtain ⟨r,e1,e2,e3⟩:=h.low a ha
   refine ⟨r,e1,e2,?_⟩
   rw [tN r (by omega),e3]
   intro q
   have:gt s r=gt s a:=(h.eq r a (by omega) ha).2 (e3.trans e1.symm)
   rw [this] at q;exact qa q
 ·rw [gs a ha];split
  ·exact h.sr i hi
  ·exact h.sr a ha
structure Cls (u:List Int) (n:Nat) (E:Nat->Nat->Prop):Prop where
 sound:∀ a b:Nat,E a b->a<n->b<n->gt u a=gt u b
 least:∀ S:Nat->Prop,(∀ a b,E a b->(S a↔S b))->∀ i j:Nat,i<n->j<n->gt u i=gt u j->(S i↔S j)
theorem Cls.start (n:Nat):Cls (cntg n) n (λ_ _=>False) where
 sound:=λa b h=>h.elim
 least:=λS hS i j hi hj h=>by rw [gt_cntg hi,gt_cntg hj] at h;rw [show i=j by omega]
theorem Cls.union {u:List Int} {n i k:Nat} {E E':Nat->Nat->Prop} (h:Cls u n E) (hl:u.length=n) (hi:i<n) (hk:k<n) (hE:∀ a b,E' a b↔E a b\/(a=i/\b=k)) {hi_ lo:Int} (hx:(hi_=gt u i/\lo=gt u k)\/(hi_=gt u k/\lo=gt u i)):Cls (rel u hi_ lo) n E':=by
 have g:∀ j,j<n->gt (rel u hi_ lo) j=if gt u j=hi_ then lo else gt u j:=λj hj=>gt_rel (by rw [hl];exact hj)
 refine ⟨λa b e ha hb=>?_,λS hS x y hx' hy' e=>?_⟩
 ·rw [g a ha,g b hb]
  rcases (hE a b).1 e with q | ⟨rfl,rfl⟩
  ·rw [h.sound a b q ha hb]
  ·rcases hx with ⟨q1,q2⟩ | ⟨q1,q2⟩ <;> subst q1 q2 <;> split <;> split <;> simp_all
 ·have hS0:∀ a b,E a b->(S a↔S b):=λa b q=>hS a b ((hE a b).2 (.inl q))
  have hik:S i↔S k:=hS i k ((hE i k).2 (.inr ⟨rfl,rfl⟩))
  have L:=h.least S hS0
  have toi:∀ z,z<n->(gt u z=hi_\/gt u z=lo)->(S z↔S i):=λz hz q=>by
   have:gt u z=gt u i\/gt u z=gt u k:=by
    rcases hx with ⟨q1,q2⟩ | ⟨q1,q2⟩ <;> rw [q1,q2] at q
    ·exact q
    ·exact q.symm
   rcases this with q | q
   ·exact L z i hz hi q
   ·exact (L z k hz hk q).trans hik.symm
  rw [g x hx',g y hy'] at e
  by_cases cx:gt u x=hi_ <;> by_cases cy:gt u y=hi_
  ·exact L x y hx' hy' (cx.trans cy.symm)
  ·rw [if_pos cx,if_neg cy] at e
   exact (toi x hx' (.inl cx)).trans (toi y hy' (.inr e.symm)).symm
  ·rw [if_neg cx,if_pos cy] at e
   exact (toi x hx' (.inr e)).trans (toi y hy' (.inl cy)).symm
  ·rw [if_neg cx,if_neg cy] at e
   exact L x y hx' hy' e
def rk (t:List Int):Nat->Nat
 | 0=>0
 | k+1=>rk t k+(bif gt t k==(k:Int) then 1 else 0)
def num (t:List Int) (n:Nat):List Int:=(List.range n).map λj=>((rk t (gt t j).toNat:Nat):Int)
theorem num_len (t:List Int) (n:Nat):(num t n).length=n:=by simp [num]
theorem num_succ (t:List Int) (n:Nat):num t (n+1)=num t n++[((rk t (gt t n).toNat:Nat):Int)]:=by simp [num,List.range_succ]
theorem gt_num {t:List Int} {n k:Nat} (h:k<n):gt (num t n) k=((rk t (gt t k).toNat:Nat):Int):=by
 have:=eS (l:=num t n) (n:=k) (by rw [num_len];exact h)
 unfold num at this ⊢
 rw [List.getElem?_map,List.getElem?_range h] at this
 exact (Option.some.inj this).symm
theorem rk_le (t:List Int):∀ k,rk t k<=k
 | 0=>Nat.le_refl _
 | k+1=>by have:=rk_le t k;unfold rk;cases gt t k==(k:Int) <;> simp <;> omega
theorem rk_mono (t:List Int) {a b:Nat} (h:a<=b):rk t a<=rk t b:=by
 induction h with
 | refl=>exact Nat.le_refl _
 | step _ ih=>exact Nat.le_trans ih (by rw [rk];omega)
theorem rk_root {t:List Int} {r k:Nat} (h:gt t r=(r:Int)) (hk:r<k):rk t r<rk t k:=by
 have:rk t (r+1)=rk t r+1:=by rw [rk,h];simp
 have:=rk_mono t (show r+1<=k by omega)
 omega
def rts (s t:List Int):Nat->List Int
 | 0=>[]
 | k+1=>bif gt t k==(k:Int) then rts s t k++[gt s k] else rts s t k
theorem rts_len (s t:List Int):∀ k,(rts s t k).length=rk t k
 | 0=>rfl
 | k+1=>by unfold rts rk;cases gt t k==(k:Int) <;> simp [rts_len s t k]
theorem rts_mem {s t:List Int} {n:Nat} (h:UF s t n):∀ k,k<=n->∀ i:Nat,i<n->(gt s i∈rts s t k↔(gt t i).toNat<k)
 | 0,_,i,hi=>by simp [rts]
 | k+1,hk,i,hi=>by
  obtain ⟨r,e1,e2,e3⟩:=h.low i hi
  have ih:=rts_mem h k (by omega) i hi
  have hrk:(gt t i).toNat=r:=by rw [e1];simp
  rw [hrk] at ih ⊢
  unfold rts
  cases hq:gt t k==(k:Int) with
  | true=>
   have hq:gt t k=(k:Int):=by simpa using hq
   rw [cond_true,List.mem_append,ih,List.mem_singleton,h.eq i k hi (by omega),e1,hq]
   omega
  | false=>
   have hq:gt t k≠(k:Int):=by simpa using hq
   rw [cond_false,ih]
   constructor
   ·omega
   ·intro q
    have:r≠k:=λe=>hq (by rw [e] at e3;exact e3)
    omega
theorem rts_idx {s t:List Int} {n:Nat} (h:UF s t n):∀ k,k<=n->∀ i:Nat,i<n->(gt t i).toNat<k->(rts s t k).idxOf (gt s i)=rk t (gt t i).toNat
 | 0,_,i,hi,hlt=>absurd hlt (Nat.not_lt_zero _)
 | k+1,hk,i,hi,hlt=>by
  obtain ⟨r,e1,e2,e3⟩:=h.low i hi
  have hrk:(gt t i).toNat=r:=by rw [e1];simp
  by_cases c:(gt t i).toNat<k
  ·have ih:=rts_idx h k (by omega) i hi c
   have hm:=(rts_mem h k (by omega) i hi).2 c
   unfold rts
   cases gt t k==(k:Int) with
   | true=>rw [cond_true,List.idxOf_append,if_pos hm,ih]
   | false=>rw [cond_false,ih]
  ·have hm:gt s i ∉ rts s t k:=λq=>c ((rts_mem h k (by omega) i hi).1 q)
   obtain rfl:r=k:=by omega
   have hs:gt s i=gt s r:=(h.eq i r hi (by omega)).2 (e1.trans e3.symm)
   unfold rts
   rw [e3,beq_self_eq_true,cond_true,List.idxOf_append,if_neg hm,hs,hrk,rts_len]
   simp
theorem nst_is {s t:List Int} {n:Nat} (h:UF s t n):∀ k,k<=n->nst s k=(rts s t k,num t k)
 | 0,_=>rfl
 | k+1,hk=>by
  have ih:=nst_is h k (by omega)
  have hks:k<n:=by omega
  have hg:s.getD k 0=gt s k:=rfl
  obtain ⟨r,e1,e2,e3⟩:=h.low k hks
  have hrk:(gt t k).toNat=r:=by rw [e1];simp
  unfold nst
  simp only [hg,ih]
  have hc:(rts s t k).contains (gt s k)=decide (r<k):=by
   have:=rts_mem h k (by omega) k hks
   rw [hrk] at this
   rw [Bool.eq_iff_iff,decide_eq_true_eq,<-this];simp
  rw [hc,num_succ]
  have hr:(bif decide (r<k) then rts s t k else rts s t k++[gt s k])=rts s t (k+1):=by
   conv=>rhs;unfold rts
   by_cases c:r<k
   ·rw [decide_eq_true c,cond_true,show (gt t k==(k:Int))=false by rw [e1];simp;omega,cond_false]
   ·rw [decide_eq_false c,cond_false,show (gt t k==(k:Int))=true by rw [e1];simp;omega,cond_true]
  rw [hr,rts_idx h (k+1) hk k hks (by omega)]
theorem nums_is {s t:List Int} {n:Nat} (h:UF s t n):ia s=num t n:=by
 unfold ia
 rw [h.ls,nst_is h n (Nat.le_refl _)]
theorem i_numbered {s t:List Int} {n:Nat} (h:UF s t n) (hn:n<=1000):cY.p F s=some (num t n):=by
 unfold cY.p
 rw [if_pos,nums_is h]
 refine ⟨by rw [h.ls];omega,?_⟩
 unfold wfs
 rw [List.all_eq_true]
 intro x hx
 obtain ⟨j,hj,rfl⟩:=mem_gt hx
 have:=h.sr j (by rw [<- h.ls];exact hj)
 have h3:IntKind.i64.min=-9223372036854775808:=by decide
 have h4:IntKind.i64.max=9223372036854775807:=by decide
 simp only [Lit.wf,Bool.and_eq_true,decide_eq_true_eq]
 omega
theorem max_l {t:List Int} {n:Nat} (hl:∀ i:Nat,i<n->∃ r:Nat,gt t i=(r:Int)/\r<=i/\gt t r=(r:Int)) (hn:n<=1000):∀ (m g i:Nat),n - i=m->m<g->1<=i->i<=n ->
  bs.pl61 F g (num t n) ((rk t i:Nat) - 1:Int) (i:Int)=some ((rk t n:Nat) - 1:Int):=by
 intro m
 induction m with
 | zero=>
  intro g i hm hg h1 hi
  obtain ⟨g,rfl⟩:∃ g',g=g'+1:=⟨g - 1,by omega⟩
  rw [bs.pl61,dF (by rw [num_len];omega),cond_false,show i=n by omega]
 | succ m ih=>
  intro g i hm hg h1 hi
  obtain ⟨g,rfl⟩:∃ g',g=g'+1:=⟨g - 1,by omega⟩
  rw [bs.pl61,dT (by rw [num_len];omega),cond_true,ixn (by rw [num_len];omega),Option.bind_some,gt_num (by omega),ws (by omega)]
  obtain ⟨r,e1,e2,e3⟩:=hl i (by omega)
  have hrk:(gt t i).toNat=r:=by rw [e1];simp
  rw [hrk]
  have key:(if ((rk t r:Nat):Int)>((rk t i:Nat):Int) - 1 then ((rk t r:Nat):Int) else ((rk t i:Nat):Int) - 1)=((rk t (i+1):Nat):Int) - 1:=by
   by_cases c:r=i
   ·subst c
    have:rk t (r+1)=rk t r+1:=by rw [rk,e3];simp
    rw [if_pos (by omega),this];omega
   ·have h5:rk t (i+1)=rk t i:=by rw [rk,show (gt t i==(i:Int))=false by rw [e1];simp;omega];rfl
    have:=rk_root e3 (show r<i by omega)
    rw [if_neg (by omega),h5]
  rw [key]
  exact ih g (i+1) (by omega) (by omega) (by omega) (by omega)
theorem i_classCount {t:List Int} {n:Nat} (hl:∀ i:Nat,i<n->∃ r:Nat,gt t i=(r:Int)/\r<=i/\gt t r=(r:Int)) (hn:n<=1000) (hF:2000<F):cl.p F (num t n)=some ((rk t n:Nat):Int):=by
 unfold cl.p
 rw [num_len]
 cases n with
 | zero=>simp [rk]
 | succ n=>
  rw [show (((n+1:Nat):Int)==0)=false by simp;omega,cond_false]
  unfold bs.p bs.pj1
  rw [num_len,decide_eq_false (by omega),cond_false,show (0:Int)=((0:Nat):Int) from rfl,ixn (by rw [num_len];omega),Option.bind_some,gt_num (by omega)]
  obtain ⟨r,e1,e2,e3⟩:=hl 0 (by omega)
  have h0:gt t 0=0:=by rw [e1];omega
  have:=max_l (F:=F) hl hn n F 1 (by omega) (by omega) (Nat.le_refl _) (by omega)
  have hr1:rk t 1=1:=by rw [rk,rk,h0];rfl
  rw [hr1] at this
  rw [h0]
  have this:bs.pl61 F F (num t (n+1)) (((rk t (0:Int).toNat:Nat):Int)) 1=_:=this
  have:=rk_le t (n+1)
  rw [‹bs.pl61 F F _ _ _=_›,Option.bind_some,bo (by omega) (by omega)]
  congr 1;omega
end Go.Proofs.Ytodfdhnlhiaohaa.AE.DD
end
section
namespace Go.Proofs.Ytodfdhnlhiaohaa.AE.DD
open Go Go.AE Go.Proofs
variable {F:Nat}
def RelTo (l0:List Int) (a b:Int) (k:Nat) (l:List Int):Prop:=l.length=l0.length/\(∀ j,j<k->gt l j=if gt l0 j=a then b else gt l0 j)/\(∀ j,k<=j->gt l j=gt l0 j)
theorem RelTo.start (l0:List Int) (a b:Int):RelTo l0 a b 0 l0:=⟨rfl,λj hj=>by omega,λj hj=>rfl⟩
theorem RelTo.fin {l0 l:List Int} {a b:Int} {k:Nat} (h:RelTo l0 a b k l) (hk:l0.length<=k):l=rel l0 a b:=by
 refine gext (by rw [rel_len];exact h.1) λn hn=>?_
 rw [gt_rel (by rw [<- h.1];exact hn),h.2.1 n (by have:=h.1;omega)]
theorem RelTo.hit {l0 l:List Int} {a b:Int} {k:Nat} (h:RelTo l0 a b k l) (hk:k<l0.length) (e:gt l k=a):RelTo l0 a b (k+1) (l.set k b):=by
 refine ⟨by rw [List.length_set];exact h.1,λj hj=>?_,λj hj=>?_⟩
 ·by_cases c:k=j
  ·subst c;rw [gset_eq (by rw [h.1];exact hk),if_pos (by rw [<- h.2.2 k (Nat.le_refl _)];exact e)]
  ·rw [gset_ne c];exact h.2.1 j (by omega)
 ·rw [gset_ne (by omega)];exact h.2.2 j (by omega)
theorem RelTo.miss {l0 l:List Int} {a b:Int} {k:Nat} (h:RelTo l0 a b k l) (e:gt l k≠a):RelTo l0 a b (k+1) l:=by
 refine ⟨h.1,λj hj=>?_,λj hj=>h.2.2 j (by omega)⟩
 by_cases c:j=k
 ·subst c;rw [if_neg (by rw [<- h.2.2 j (Nat.le_refl _)];exact e)];exact h.2.2 j (Nat.le_refl _)
 ·exact h.2.1 j (by omega)
theorem union_l {l0:List Int} {a b:Int} (hl:l0.length<=1000):∀ (m g k:Nat) (l:List Int),l0.length - k=m->m<g->k<=l0.length->RelTo l0 a b k l ->
  bh.pl7 F g l a b ((l0.length:Nat):Int) (k:Int)=some (rel l0 a b):=by
 intro m
 induction m with
 | zero=>
  intro g k l hm hg hk h
  obtain ⟨g,rfl⟩:∃ g',g=g'+1:=⟨g - 1,by omega⟩
  rw [bh.pl7,dF (by omega),cond_false,h.fin (by omega)]
 | succ m ih=>
  intro g k l hm hg hk h
  obtain ⟨g,rfl⟩:∃ g',g=g'+1:=⟨g - 1,by omega⟩
  rw [bh.pl7,dT (by omega),cond_true,ixn (by rw [h.1];omega),Option.bind_some]
  unfold bh.pj2
  rw [ws (by omega)]
  by_cases e:gt l k=a
  ·rw [show (gt l k==a)=true by simpa using e,cond_true,Option.bind_some,Option.bind_some]
   exact ih g (k+1) _ (by omega) (by omega) (by omega) (h.hit (by omega) e)
  ·rw [show (gt l k==a)=false by simpa using e,cond_false]
   exact ih g (k+1) _ (by omega) (by omega) (by omega) (h.miss e)
theorem i_union {s:List Int} {i k:Nat} (hi:i<s.length) (hk:k<s.length) (hl:s.length<=1000) (hF:2000<F):bh.p F s (i:Int) (k:Int)=some (rel s (gt s k) (gt s i)):=by
 unfold bh.p
 rw [ixn hk,Option.bind_some,ixn hi,Option.bind_some]
 exact union_l hl s.length F 0 s (by omega) (by omega) (by omega) (.start _ _ _)
theorem counting_l {n:Nat} (hn:n<=1000):∀ (m g k:Nat),n - k=m->m<g->k<=n->bJ.pl29 F g (cntg k) (n:Int) (k:Int)=some (cntg n):=by
 intro m
 induction m with
 | zero=>
  intro g k hm hg hk
  obtain ⟨g,rfl⟩:∃ g',g=g'+1:=⟨g - 1,by omega⟩
  rw [bJ.pl29,dF (by omega),cond_false,show k=n by omega]
 | succ m ih=>
  intro g k hm hg hk
  obtain ⟨g,rfl⟩:∃ g',g=g'+1:=⟨g - 1,by omega⟩
  rw [bJ.pl29,dT (by omega),cond_true,apn_of (by rw [cntg_len];simp;omega),Option.bind_some,ws (by omega),<-cntg_succ]
  exact ih g (k+1) (by omega) (by omega) (by omega)
theorem i_counting {n:Nat} (hn:n<=1000) (hF:2000<F):bJ.p F (n:Int)=some (cntg n):=by
 unfold bJ.p
 exact counting_l hn n F 0 (by omega) (by omega) (by omega)
theorem ifmax (x y:Int):(if y>x then y else x)=max x y:=by
 rw [Int.max_def];split <;> split <;> omega
theorem ifmin (x y:Int):(if y<x then y else x)=min x y:=by
 rw [Int.min_def];split <;> split <;> omega
theorem sparts_in {C:List Cr->List Int->Int->Option (List Int)} {D:List Cr} {y5:Nat} {x y:Int} {l0:List Int} (hl:l0.length<=1000) (hy:y5<=1000):∀ (m g k:Nat) (l:List Int),l0.length - k=m->m<g->k<=l0.length->RelTo l0 (max x y) (min x y) k l ->
  au.pl7855 F C g D l (y5:Int) x y (k:Int)=C D (rel l0 (max x y) (min x y)) ((y5+1:Nat):Int):=by
 intro m
 induction m with
 | zero=>
  intro g k l hm hg hk h
  obtain ⟨g,rfl⟩:∃ g',g=g'+1:=⟨g - 1,by omega⟩
  rw [au.pl7855,dF (by rw [h.1];omega),cond_false,h.fin (by omega)]
  unfold au.pj7 au.pj6
  rw [ws (by omega)]
 | succ m ih=>
  intro g k l hm hg hk h
  obtain ⟨g,rfl⟩:∃ g',g=g'+1:=⟨g - 1,by omega⟩
  rw [au.pl7855,dT (by rw [h.1];omega),cond_true,ixn (by rw [h.1];omega),Option.bind_some,ifmax,ifmin]
  unfold au.pj8
  rw [ws (by omega)]
  by_cases e:gt l k=max x y
  ·rw [show (gt l k==max x y)=true by simpa using e,cond_true,Option.bind_some,Option.bind_some]
   exact ih g (k+1) _ (by omega) (by omega) (by omega) (h.hit (by omega) e)
  ·rw [show (gt l k==max x y)=false by simpa using e,cond_false]
   exact ih g (k+1) _ (by omega) (by omega) (by omega) (h.miss e)
theorem fr_get {D:List Cr} {t:Tb} (h:TB D t) {a:Nat} (ha:a<2 * D.length):∃ i p:Nat,gt t.1 a=((i:Int),(p:Int))/\i<D.length/\p<4:=by
 obtain ⟨i,p,q1,q2,_,_,q5⟩:=h.fr.get a ha;exact ⟨i,p,q5,q1,q2⟩
theorem to_get {D:List Cr} {t:Tb} (h:TB D t) {a:Nat} (ha:a<2 * D.length):∃ i p:Nat,gt t.2 a=((i:Int),(p:Int))/\i<D.length/\p<4:=by
 obtain ⟨i,p,q1,q2,_,_,q5⟩:=h.to_.get a ha;exact ⟨i,p,q5,q1,q2⟩
def Ep (t:Tb) (k:Nat) (a b:Nat):Prop:=∃ x:Nat,x<k/\(gt t.1 x).1=(a:Int)/\(gt t.2 x).1=(b:Int)
theorem parts_l {D:List Cr} {t:Tb} (h:TB D t) (hD:D.length<=30) (hF:5000<F):∀ (m g k:Nat) (s u:List Int),2 * D.length - k=m->m<g->k<=2 * D.length->UF s u D.length->Cls u D.length (Ep t k) ->
  ∃ s' u',UF s' u' D.length/\Cls u' D.length (Ep t (2 * D.length))/\a_.pl29 F g t.1 t.2 s ((2 * D.length:Nat):Int) (k:Int)=some (num u' D.length)/\au.pl61 F g D u (k:Int)=some u':=by
 intro m
 induction m with
 | zero=>
  intro g k s u hm hg hk hu hc
  obtain ⟨g,rfl⟩:∃ g',g=g'+1:=⟨g - 1,by omega⟩
  refine ⟨s,u,hu,by rw [show 2 * D.length=k by omega];exact hc,?_,?_⟩
  ·rw [a_.pl29,dF (by omega),cond_false,i_numbered hu (by omega),Option.bind_some]
  ·rw [au.pl61,show (2:Int) * (D.length:Int)=((2 * D.length:Nat):Int) by omega,wn (by omega),dF (by omega),cond_false]
 | succ m ih=>
  intro g k s u hm hg hk hu hc
  obtain ⟨g,rfl⟩:∃ g',g=g'+1:=⟨g - 1,by omega⟩
  have hkl:k<2 * D.length:=by omega
  obtain ⟨i,p,e1,hi,_⟩:=fr_get h hkl
  obtain ⟨j,q,e2,hj,_⟩:=to_get h hkl
  have hu':=hu.union hi hj (hi_:=max (gt u j) (gt u i)) (lo:=min (gt u j) (gt u i)) (by omega) (by omega)
  have hc':=hc.union hu.lt hi hj (E':=Ep t (k+1)) (λa b=>by
   constructor
   ·rintro ⟨x,hx,a1,a2⟩
    by_cases e:x=k
    ·subst e;rw [e1] at a1;rw [e2] at a2;exact .inr ⟨by simp only at a1;omega,by simp only at a2;omega⟩
    ·exact .inl ⟨x,by omega,a1,a2⟩
   ·rintro (⟨x,hx,a1,a2⟩ | ⟨rfl,rfl⟩)
    ·exact ⟨x,by omega,a1,a2⟩
    ·exact ⟨k,by omega,by rw [e1],by rw [e2]⟩) (hi_:=max (gt u j) (gt u i)) (lo:=min (gt u j) (gt u i)) (by omega)
  obtain ⟨s',u',q1,qc,q2,q3⟩:=ih g (k+1) _ _ (by omega) (by omega) (by omega) hu' hc'
  refine ⟨s',u',q1,qc,?_,?_⟩
  ·rw [a_.pl29,dT hkl,cond_true,ixn (by rw [h.fr.len];exact hkl),Option.bind_some,ixn (by rw [h.to_.len];exact hkl),Option.bind_some,e1,e2]
   simp only
   rw [i_union (by rw [hu.ls];exact hi) (by rw [hu.ls];exact hj) (by rw [hu.ls];omega) (by omega),Option.bind_some,ws (by omega)]
   exact q2
  ·rw [au.pl61,show (2:Int) * (D.length:Int)=((2 * D.length:Nat):Int) by omega,wn (by omega),dT hkl,cond_true,place_of h.sg h.to_ hkl hD (by omega),Option.bind_some,place_of h.sg h.fr hkl hD (by omega),Option.bind_some,e1,e2]
   simp only
   rw [ixn (by rw [hu.lt];exact hj),Option.bind_some,ixn (by rw [hu.lt];exact hi),Option.bind_some]
   have:=sparts_in (F:=F) (C:=au.pl61 F g) (D:=D) (y5:=k) (x:=gt u j) (y:=gt u i) (l0:=u) (by rw [hu.lt];omega) (by omega) u.length F 0 u (by omega) (by rw [hu.lt];omega) (by omega) (.start _ _ _)
   have this:au.pl7855 F (au.pl61 F g) F D u (k:Int) (gt u j) (gt u i) 0=_:=this
   rw [this]
   exact q3
theorem sparts_start {D:List Cr} (hD:D.length<=30):∀ (m g k:Nat),D.length - k=m->m<g->k<=D.length->au.pl29 F g D (cntg k) (k:Int)=au.pl61 F F D (cntg D.length) 0:=by
 intro m
 induction m with
 | zero=>
  intro g k hm hg hk
  obtain ⟨g,rfl⟩:∃ g',g=g'+1:=⟨g - 1,by omega⟩
  rw [au.pl29,dF (by omega),cond_false,show k=D.length by omega]
  rfl
 | succ m ih=>
  intro g k hm hg hk
  obtain ⟨g,rfl⟩:∃ g',g=g'+1:=⟨g - 1,by omega⟩
  rw [au.pl29,dT (by omega),cond_true,apn_of (by rw [cntg_len];simp;omega),Option.bind_some,ws (by omega),<-cntg_succ]
  exact ih g (k+1) (by omega) (by omega) (by omega)
theorem parts_both {D:List Cr} {t:Tb} (h:TB D t) (hD:D.length<=30) (hF:5000<F):∃ s u,UF s u D.length/\Cls u D.length (Ep t (2 * D.length))/\a_.p F D t.1 t.2=some (num u D.length)/\au.p F D=some u:=by
 obtain ⟨s,u,q1,qc,q2,q3⟩:=parts_l h hD hF (2 * D.length) F 0 (cntg D.length) (cntg D.length) (by omega) (by omega) (by omega) (UF.start _) (by
  have:=Cls.start D.length
  rw [show (λ_ _=>False)=Ep t 0 from by funext a b;exact propext ⟨λq=>q.elim,λ⟨x,hx,_⟩=>absurd hx (Nat.not_lt_zero _)⟩] at this
  exact this)
 refine ⟨s,u,q1,qc,?_,?_⟩
 ·unfold a_.p cQ.p
  rw [Option.bind_some,i_counting (by omega) (by omega),Option.bind_some,h.fr.len]
  exact q2
 ·unfold au.p
  have:=sparts_start (F:=F) hD D.length F 0 (by omega) (by omega) (by omega)
  exact this.trans q3
theorem pcount_l {u:List Int} (hn:u.length<=1000):∀ (m g k:Nat),u.length - k=m->m<g->k<=u.length->bf.pl61 F g ((rk u k:Nat):Int) u (k:Int)=some ((rk u u.length:Nat):Int):=by
 intro m
 induction m with
 | zero=>
  intro g k hm hg hk
  obtain ⟨g,rfl⟩:∃ g',g=g'+1:=⟨g - 1,by omega⟩
  rw [bf.pl61,dF (by omega),cond_false,show k=u.length by omega]
 | succ m ih=>
  intro g k hm hg hk
  obtain ⟨g,rfl⟩:∃ g',g=g'+1:=⟨g - 1,by omega⟩
  have:=rk_le u k
  rw [bf.pl61,dT (by omega),cond_true,ixn (by omega),Option.bind_some]
  unfold bf.pj2
  rw [ws (i:=k) (by omega),ws (by omega)]
  have:=ih g (k+1) (by omega) (by omega) (by omega)
  rw [rk] at this
  cases hb:gt u k==(k:Int) with
  | true=>rw [hb] at this;rw [cond_true];exact this
  | false=>rw [hb] at this;rw [cond_false];exact this
end Go.Proofs.Ytodfdhnlhiaohaa.AE.DD
end
section
namespace Go.Proofs.Ytodfdhnlhiaohaa.AE.DD
open Go Go.AE Go.Proofs
variable {F:Nat}
theorem sgn_l {D:List Cr} (hD:D.length<=1000):∀ (m g k:Nat),D.length - k=m->m<g->k<=D.length ->
  ∃ r:Int,bD.pl13 F g D (D.length:Int) (k:Int)=some r/\(r>=0↔¬ ∀ x∈D.drop k,SgOk x):=by
 intro m
 induction m with
 | zero=>
  intro g k hm hg hk
  obtain ⟨g,rfl⟩:∃ g',g=g'+1:=⟨g - 1,by omega⟩
  refine ⟨-1,?_,?_⟩
  ·rw [bD.pl13,dF (by omega),cond_false]
  ·rw [List.drop_eq_nil_of_le (by omega)];simp
 | succ m ih=>
  intro g k hm hg hk
  obtain ⟨g,rfl⟩:∃ g',g=g'+1:=⟨g - 1,by omega⟩
  have hlt:k<D.length:=by omega
  rw [bD.pl13,dT hlt,cond_true,ixn hlt,Option.bind_some,drop_cons hlt]
  unfold dW.p
  by_cases c:SgOk (gt D k)
  ·have:(bif ((gt D k).2.2.2.2 != 1) then (some ((gt D k).2.2.2.2 != (-1))) else (some false))=some false:=by
    have c':sg (gt D k)=1\/sg (gt D k)=-1:=c
    unfold sg at c'
    rcases c' with e | e <;> rw [e] <;> rfl
   rw [this,Option.bind_some,cond_false,ws (by omega)]
   obtain ⟨r,q1,q2⟩:=ih g (k+1) (by omega) (by omega) (by omega)
   refine ⟨r,q1,q2.trans (not_congr ?_)⟩
   constructor
   ·exact λa=>List.forall_mem_cons.2 ⟨c,a⟩
   ·exact λa=>(List.forall_mem_cons.1 a).2
  ·have:(bif ((gt D k).2.2.2.2 != 1) then (some ((gt D k).2.2.2.2 != (-1))) else (some false))=some true:=by
    have c':¬ (sg (gt D k)=1\/sg (gt D k)=-1):=c
    unfold sg at c'
    rw [show ((gt D k).2.2.2.2 != 1)=true by simp;omega,cond_true,show ((gt D k).2.2.2.2 != -1)=true by simp;omega]
   rw [this,Option.bind_some,cond_true]
   refine ⟨(k:Int),rfl,⟨λ_ a=>c (List.forall_mem_cons.1 a).1,λ_=>by omega⟩⟩
theorem sgn_all {D:List Cr} (hD:D.length<=1000) (hF:2000<F):dx.p F D=some (decide (¬ ∀ x∈D,SgOk x)):=by
 unfold dx.p bD.p
 obtain ⟨r,q1,q2⟩:=sgn_l (F:=F) hD D.length F 0 (by omega) (by omega) (by omega)
 have q1:bD.pl13 F F D (D.length:Int) 0=some r:=q1
 rw [q1,Option.bind_some]
 rw [List.drop_zero] at q2
 congr 1
 exact decide_eq_decide.2 q2
structure DG (F:Nat) (D:List Cr) (c:Int) (t:Tb) (R:List (List Int)) (s u:List Int):Prop where
 len:D.length<=10
 c0:0<=c
 c8:c<=8
 tb:TB D t
 rg:Rg D t R
 sR:aD.p F D=some R
 iR:aw.p F D t.1 t.2=some R
 uf:UF s u D.length
 cls:Cls u D.length (Ep t (2 * D.length))
 iP:a_.p F D t.1 t.2=some (num u D.length)
 sP:au.p F D=some u
 euler:R.length=D.length+2 * rk u D.length
 draw:ck.p F D c=some (t.1,t.2,true)
theorem partCount {D:List Cr} {u:List Int} (hu:u.length<=1000) (hF:2000<F) (e:au.p F D=some u):bf.p F D=some ((rk u u.length:Nat):Int):=by
 unfold bf.p
 rw [e,Option.bind_some]
 exact pcount_l (F:=F) hu u.length F 0 (by omega) (by omega) (by omega)
theorem isDr {D:List Cr} {c:Int} (hl:D.length<=2000000) (hF:5000000<F) :
  (bL.p F D c=some false/\∃ x y,ck.p F D c=some (x,y,false))\/(bL.p F D c=some true/\∃ t R s u,DG F D c t R s u):=by
 unfold bL.p
 by_cases h1:D.length<=10
 ·rw [decide_eq_false (by omega),cond_false,MV,Option.bind_some]
  by_cases h2:0<=c/\c<=8
  ·rw [decide_eq_true h2,Bool.not_true,cond_false]
   obtain ⟨b,q1,q2⟩:=counts_whole (F:=F) (D:=D) (by omega) (by omega)
   rw [q1,Option.bind_some]
   by_cases hs:∀ x∈D,SgOk x
   ·rcases arrows_whole (F:=F) (by omega) hs (by omega) with ⟨e,x,y,r⟩ | ⟨t,e,r⟩
    ·left
     have hb:b=false:=by
      cases b with
      | false=>rfl
      | true=>obtain ⟨_,t,e'⟩:=q2.1 rfl;rw [e] at e';cases e'
     subst hb
     refine ⟨rfl,[],[],?_⟩
     unfold ck.p cQ.p
     rw [Option.bind_some,decide_eq_false (by omega),cond_false,sE,Option.bind_some,decide_eq_true h2,Bool.not_true,cond_false,sgn_all (by omega) (by omega),Option.bind_some,decide_eq_false (λq=>q hs),cond_false,r,Option.bind_some]
     rfl
    ·have hb:b=true:=q2.2 ⟨hs,t,e⟩
     subst hb
     have tb:=run_TB hs e
     obtain ⟨R,rg,e1,e2⟩:=regions_both (F:=F) tb (by omega) (by omega)
     obtain ⟨s,u,uf,cls,e3,e4⟩:=parts_both (F:=F) tb (by omega) (by omega)
     have hRl:=rg.le
     have hk:=rk_le u D.length
     rw [Bool.not_true,cond_false,e1,Option.bind_some,partCount (by rw [uf.lt];omega) (by omega) e4,Option.bind_some,uf.lt,bo (x:=2 * ((rk u D.length:Nat):Int)) (by omega) (by omega),bo (by omega) (by omega)]
     have hd:ck.p F D c=(bif ((R.length:Int) != (D.length:Int)+2 * ((rk u D.length:Nat):Int)) then (some (([]:List (Int×Int)),([]:List (Int×Int)),false)) else (some (t.1,t.2,true))):=by
      unfold ck.p cQ.p
      rw [Option.bind_some,decide_eq_false (by omega),cond_false,sE,Option.bind_some,decide_eq_true h2,Bool.not_true,cond_false,sgn_all (by omega) (by omega),Option.bind_some,decide_eq_false (λq=>q hs),cond_false,r,Option.bind_some]
      simp only [Bool.not_true,cond_false]
      rw [e2,Option.bind_some]
      unfold eB.p
      rw [Option.bind_some,e3,Option.bind_some,i_classCount uf.low (by omega) (by omega),Option.bind_some,bo (x:=2 * ((rk u D.length:Nat):Int)) (by omega) (by omega),bo (by omega) (by omega)]
     by_cases he:R.length=D.length+2 * rk u D.length
     ·right
      refine ⟨by congr 1;simp;omega,t,R,s,u,⟨h1,h2.1,h2.2,tb,rg,e1,e2,uf,cls,e3,e4,he,?_⟩⟩
      rw [hd,show ((R.length:Int) != (D.length:Int)+2 * ((rk u D.length:Nat):Int))=false by simp;omega,cond_false]
     ·left
      refine ⟨by congr 1;simp;omega,[],[],?_⟩
      rw [hd,show ((R.length:Int) != (D.length:Int)+2 * ((rk u D.length:Nat):Int))=true by simp;omega,cond_true]
   ·left
    have hb:b=false:=by
     cases b with
     | false=>rfl
     | true=>exact absurd (q2.1 rfl).1 hs
    subst hb
    refine ⟨rfl,[],[],?_⟩
    unfold ck.p cQ.p
    rw [Option.bind_some,decide_eq_false (by omega),cond_false,sE,Option.bind_some,decide_eq_true h2,Bool.not_true,cond_false,sgn_all (by omega) (by omega),Option.bind_some,decide_eq_true hs,cond_true]
  ·left
   rw [decide_eq_false h2,Bool.not_false,cond_true]
   refine ⟨rfl,[],[],?_⟩
   unfold ck.p cQ.p
   rw [Option.bind_some,decide_eq_false (by omega),cond_false,sE,Option.bind_some,decide_eq_false h2,Bool.not_false,cond_true]
 ·left
  rw [decide_eq_true (by omega),cond_true]
  refine ⟨rfl,[],[],?_⟩
  unfold ck.p cQ.p
  rw [Option.bind_some,decide_eq_true (by omega),cond_true]
end Go.Proofs.Ytodfdhnlhiaohaa.AE.DD
end
section
namespace Go.Proofs.Ytodfdhnlhiaohaa.AE.DD
open Go Go.AE Go.Proofs
variable {F:Nat}
theorem en_at {D:List Cr} {t:Tb} (h:TB D t) {i p:Nat} (hi:i<D.length) (hp:p<4):∃ a:Nat,en (gt D i) p=(a:Int)/\a<2 * D.length:=by
 cases he:ent (gt D i) p with
 | true=>obtain ⟨h0,h1,_⟩:=h.to_.put i p hi hp he;exact ⟨(en (gt D i) p).toNat,by omega,by omega⟩
 | false=>obtain ⟨h0,h1,_⟩:=h.fr.put i p hi hp he;exact ⟨(en (gt D i) p).toNat,by omega,by omega⟩
end Go.Proofs.Ytodfdhnlhiaohaa.AE.DD
end
section
namespace Go.Proofs.Ytodfdhnlhiaohaa.AE.DD
open Go Go.AE Go.Proofs
theorem perm_of {α:Type} [BEq α] [LawfulBEq α]:∀ (l m:List α),l.Nodup->(∀ x∈l,x∈m)->m.length<=l.length->l.Perm m:=by
 intro l
 induction l with
 | nil=>intro m _ _ h;have e:m=[]:=List.eq_nil_of_length_eq_zero (by simpa using h);rw [e]
 | cons a t ih=>
  intro m hn hm hl
  have ha:a∈m:=hm a (by simp)
  obtain ⟨h1,h2⟩:=List.nodup_cons.1 hn
  refine ((ih (m.erase a) h2 (λx hx=>?_) ?_).cons a).trans (List.perm_cons_erase ha).symm
  ·exact (List.mem_erase_of_ne (show x≠a from λe=>h1 (by rw [<- e];exact hx))).2 (hm x (by simp [hx]))
  ·rw [List.length_erase_of_mem ha];simp at hl;omega
theorem nodup_map {α β:Type} {f:α->β}:∀ {l:List α},l.Nodup->(∀ x∈l,∀ y∈l,f x=f y->x=y)->(l.map f).Nodup:=by
 intro l
 induction l with
 | nil=>intro _ _;simp
 | cons a t ih=>
  intro hn hi
  obtain ⟨h1,h2⟩:=List.nodup_cons.1 hn
  rw [List.map_cons]
  refine List.nodup_cons.2 ⟨λhm=>?_,ih h2 λx hx y hy=>hi x (by simp [hx]) y (by simp [hy])⟩
  obtain ⟨b,hb,e⟩:=List.mem_map.1 hm
  exact h1 (hi b (by simp [hb]) a (by simp) e ▸ hb)
def bl:Nat->List (List Bool)
 | 0=>[[]]
 | m+1=>(bl m).map (true::·)++(bl m).map (false::·)
theorem bl_mem:∀ (m:Nat) (l:List Bool),l∈bl m↔l.length=m:=by
 intro m
 induction m with
 | zero=>intro l;simp [bl]
 | succ m ih=>
  intro l
  cases l with
  | nil=>simp [bl]
  | cons b l=>cases b <;> simp [bl,ih]
theorem bl_nodup:∀ m:Nat,(bl m).Nodup:=by
 intro m
 induction m with
 | zero=>simp [bl]
 | succ m ih=>
  rw [bl,List.nodup_append]
  refine ⟨nodup_map ih (λx _ y _ e=>by simpa using e),nodup_map ih (λx _ y _ e=>by simpa using e),λx hx y hy e=>?_⟩
  obtain ⟨a,_,rfl⟩:=List.mem_map.1 hx
  obtain ⟨b,_,rfl⟩:=List.mem_map.1 hy
  simp at e
theorem bsurj {m:Nat} (f:List Bool->List Bool) (hl:∀ l,l.length=m->(f l).length=m) (hi:∀ l l',l.length=m->l'.length=m->f l=f l'->l=l') {y:List Bool} (hy:y.length=m):∃ l,l.length=m/\f l=y:=by
 have p:((bl m).map f).Perm (bl m):=perm_of _ _ (nodup_map (bl_nodup m) λx hx y hy e=>hi x y ((bl_mem m x).1 hx) ((bl_mem m y).1 hy) e) (λx hx=>by
  obtain ⟨a,ha,rfl⟩:=List.mem_map.1 hx
  exact (bl_mem m _).2 (hl a ((bl_mem m a).1 ha))) (by simp)
 obtain ⟨a,ha,e⟩:=List.mem_map.1 (p.mem_iff.2 ((bl_mem m y).2 hy))
 exact ⟨a,(bl_mem m a).1 ha,e⟩
structure Ends (n:Nat) (tl hd ar:Nat->Nat):Prop where
 tlt:∀ x,x<2 * n->tl x<4 * n
 hlt:∀ x,x<2 * n->hd x<4 * n
 ta:∀ x,x<2 * n->ar (tl x)=x
 ha:∀ x,x<2 * n->ar (hd x)=x
 ne:∀ x,x<2 * n->tl x≠hd x
def el (tl hd:Nat->Nat):Nat->List Nat
 | 0=>[]
 | m+1=>tl m::hd m::el tl hd m
section
variable {n:Nat} {tl hd ar fc:Nat->Nat}
theorem el_len:∀ m,(el tl hd m).length=2 * m:=by
 intro m
 induction m with
 | zero=>rfl
 | succ m ih=>simp [el,ih];omega
theorem el_mem:∀ m e,e∈el tl hd m↔∃ x,x<m/\(e=tl x\/e=hd x):=by
 intro m
 induction m with
 | zero=>intro e;simp [el]
 | succ m ih=>
  intro e
  simp only [el,List.mem_cons,ih]
  constructor
  ·rintro (h | h | ⟨x,hx,h⟩)
   ·exact ⟨m,by omega,.inl h⟩
   ·exact ⟨m,by omega,.inr h⟩
   ·exact ⟨x,by omega,h⟩
  ·rintro ⟨x,hx,h⟩
   by_cases c:x=m
   ·subst c;rcases h with h | h
    ·exact .inl h
    ·exact .inr (.inl h)
   ·exact .inr (.inr ⟨x,by omega,h⟩)
theorem el_nodup (h:Ends n tl hd ar):∀ m,m<=2 * n->(el tl hd m).Nodup:=by
 intro m
 induction m with
 | zero=>intro _;simp [el]
 | succ m ih=>
  intro hm
  have no:∀ e,e=tl m\/e=hd m->e ∉ el tl hd m:=λe he hme=>by
   obtain ⟨x,hx,q⟩:=(el_mem m e).1 hme
   have h1:ar e=m:=he.elim (λq=>by rw [q];exact h.ta m (by omega)) (λq=>by rw [q];exact h.ha m (by omega))
   have h2:ar e=x:=q.elim (λq=>by rw [q];exact h.ta x (by omega)) (λq=>by rw [q];exact h.ha x (by omega))
   omega
  rw [el,List.nodup_cons,List.nodup_cons]
  refine ⟨λq=>?_,no _ (.inr rfl),ih (by omega)⟩
  rcases List.mem_cons.1 q with q | q
  ·exact h.ne m (by omega) q
  ·exact no _ (.inl rfl) q
theorem el_perm (h:Ends n tl hd ar):(el tl hd (2 * n)).Perm (List.range (4 * n)):=by
 refine perm_of _ _ (el_nodup h _ (Nat.le_refl _)) (λe he=>?_) (by rw [el_len];simp;omega)
 obtain ⟨x,hx,q⟩:=(el_mem _ e).1 he
 rcases q with rfl | rfl
 ·exact List.mem_range.2 (h.tlt x hx)
 ·exact List.mem_range.2 (h.hlt x hx)
theorem end_is (h:Ends n tl hd ar) {e:Nat} (he:e<4 * n):∃ x,x<2 * n/\(e=tl x\/e=hd x):=
 (el_mem _ e).1 ((el_perm h).mem_iff.2 (List.mem_range.2 he))
def VC (n:Nat) (ar:Nat->Nat) (h:Nat->Bool):Prop:=∀ v,v<n->xor (xor (h (ar (4 * v))) (h (ar (4 * v+1)))) (xor (h (ar (4 * v+2))) (h (ar (4 * v+3))))=false
theorem vtx {ψ:Nat->Bool}:∀ m,(∀ v,v<m->xor (xor (ψ (4 * v)) (ψ (4 * v+1))) (xor (ψ (4 * v+2)) (ψ (4 * v+3)))=false)->(List.range (4 * m)).countP ψ % 2=0:=by
 intro m
 induction m with
 | zero=>intro _;rfl
 | succ m ih=>
  intro h
  have h1:=ih λv hv=>h v (by omega)
  have h2:=h m (by omega)
  rw [show 4 * (m+1)=4 * m+1+1+1+1 by omega,List.range_succ,List.range_succ,List.range_succ,List.range_succ]
  simp only [List.countP_append,List.countP_singleton]
  rw [show 4 * m+1+1=4 * m+2 by omega,show 4 * m+2+1=4 * m+3 by omega]
  revert h2
  cases ψ (4 * m) <;> cases ψ (4 * m+1) <;> cases ψ (4 * m+2) <;> cases ψ (4 * m+3) <;> simp <;> omega
theorem el_even {ψ:Nat->Bool}:∀ m,(∀ x,x<m->ψ (tl x)=ψ (hd x))->(el tl hd m).countP ψ % 2=0:=by
 intro m
 induction m with
 | zero=>intro _;rfl
 | succ m ih=>
  intro h
  have h1:=ih λv hv=>h v (by omega)
  have h2:=h m (by omega)
  rw [el,List.countP_cons,List.countP_cons,h2]
  cases ψ (hd m) <;> simp <;> omega
theorem el_odd {ψ:Nat->Bool} {k:Nat} (hk:ψ (tl k)≠ψ (hd k)):∀ m,k<m->(∀ x,x<m->x≠k->ψ (tl x)=ψ (hd x))->(el tl hd m).countP ψ % 2=1:=by
 intro m
 induction m with
 | zero=>intro h;omega
 | succ m ih=>
  intro hm h
  rw [el,List.countP_cons,List.countP_cons]
  by_cases c:k=m
  ·subst c
   have h1:=el_even (ψ:=ψ) k λx hx=>h x (by omega) (by omega)
   revert hk
   cases ψ (tl k) <;> cases ψ (hd k) <;> simp <;> omega
  ·have h1:=ih (by omega) λx hx hx2=>h x (by omega) hx2
   have h2:=h m (by omega) (Ne.symm c)
   rw [h2]
   cases ψ (hd m) <;> simp <;> omega
def Eb (tl hd:Nat->Nat) (k a b:Nat):Prop:=∃ x,x<k/\tl x / 4=a/\hd x / 4=b
theorem cut_zero (he:Ends n tl hd ar) {h:Nat->Bool} (hv:VC n ar h) {k:Nat} (hk:k<2 * n) (hz:∀ x,k<x->x<2 * n->h x=false) {A:Nat->Bool} (hA:∀ x,x<k->A (tl x / 4)=A (hd x / 4)) (hAk:A (tl k / 4)≠A (hd k / 4)):h k=false:=by
 cases c:h k with
 | false=>rfl
 | true=>
  exfalso
  have h1:=vtx (ψ:=λe=>A (e / 4)&&h (ar e)) n (λv hv'=>by
   have:=hv v hv'
   show xor (xor (A (4 * v / 4)&&_) (A ((4 * v+1) / 4)&&_)) (xor (A ((4 * v+2) / 4)&&_) (A ((4 * v+3) / 4)&&_))=false
   rw [show 4 * v / 4=v by omega,show (4 * v+1) / 4=v by omega,show (4 * v+2) / 4=v by omega,show (4 * v+3) / 4=v by omega]
   cases A v
   ·rfl
   ·simpa using this)
  have h2:=el_odd (tl:=tl) (hd:=hd) (ψ:=λe=>A (e / 4)&&h (ar e)) (k:=k) (by
   show ((A (tl k / 4)&&h (ar (tl k)))≠(A (hd k / 4)&&h (ar (hd k))))
   rw [he.ta k hk,he.ha k hk,c];simpa using hAk) (2 * n) hk (λx hx hne=>by
   show (A (tl x / 4)&&h (ar (tl x)))=(A (hd x / 4)&&h (ar (hd x)))
   rw [he.ta x hx,he.ha x hx]
   rcases Nat.lt_or_ge x k with q | q
   ·rw [hA x q]
   ·rw [hz x (by omega) hx];simp)
  rw [(el_perm he).countP_eq] at h2
  omega
theorem rk_cntg (n:Nat):∀ m,m<=n->rk (cntg n) m=m:=by
 intro m
 induction m with
 | zero=>intro _;rfl
 | succ m ih=>intro h;rw [rk,ih (by omega),gt_cntg (by omega)];simp
theorem rk_rel {u:List Int} {a b:Nat} (hb:b<a) (hu:gt u a=(a:Int)) (hub:gt u b=(b:Int)):∀ m,m<=u.length->rk (rel u a b) m+(if a<m then 1 else 0)=rk u m:=by
 intro m
 induction m with
 | zero=>intro _;simp [rk]
 | succ m ih=>
  intro h
  have ih:=ih (by omega)
  rw [rk,rk,<-ih,gt_rel (by omega)]
  by_cases c:gt u m=(a:Int)
  ·rw [if_pos c]
   have hbm:b≠m:=λe=>by subst e;rw [hub] at c;omega
   rw [show (((b:Nat):Int)==(m:Int))=false from beq_eq_false_iff_ne.mpr (by omega),cond_false]
   by_cases d:a=m
   ·subst d
    rw [c,beq_self_eq_true,cond_true,if_pos (show a<a+1 by omega),if_neg (show ¬ a<a by omega)]
   ·rw [c,show (((a:Nat):Int)==(m:Int))=false from beq_eq_false_iff_ne.mpr (by omega),cond_false]
    by_cases d2:a<m
    ·rw [if_pos d2,if_pos (by omega)]
    ·rw [if_neg d2,if_neg (by omega)]
  ·rw [if_neg c]
   have d:a≠m:=λe=>by subst e;exact c hu
   by_cases d2:a<m
   ·rw [if_pos d2,if_pos (by omega)];omega
   ·rw [if_neg d2,if_neg (by omega)];omega
theorem rel_same {u:List Int} {a:Int}:rel u a a=u:=by
 unfold rel
 have e:(λx=>if x=a then a else x)=(id:Int->Int):=by
  funext x;split
  ·rename_i h;exact h.symm
  ·rfl
 rw [e,List.map_id]
theorem forest (he:Ends n tl hd ar):∀ k,k<=2 * n->∃ (s u:List Int) (nt:List Nat),UF s u n/\Cls u n (Eb tl hd k)/\nt.length+n=k+rk u n /\
  ∀ h,VC n ar h->(∀ x,k<=x->x<2 * n->h x=false)->(∀ x∈nt,h x=false)->∀ x,x<2 * n->h x=false:=by
 intro k
 induction k with
 | zero=>
  intro _
  refine ⟨cntg n,cntg n,[],UF.start n,?_,by rw [rk_cntg n n (Nat.le_refl n)];simp,λh _ h1 _ x hx=>h1 x (by omega) hx⟩
  have e:Eb tl hd 0=λ_ _=>False:=by
   funext a b;exact propext ⟨λ⟨x,hx,_⟩=>by omega,λh=>h.elim⟩
  rw [e];exact Cls.start n
 | succ k ih=>
  intro hk
  obtain ⟨s,u,nt,h1,h2,h3,h4⟩:=ih (by omega)
  have hi:tl k / 4<n:=by have:=he.tlt k (by omega);omega
  have hj:hd k / 4<n:=by have:=he.hlt k (by omega);omega
  have hE:∀ a b,Eb tl hd (k+1) a b↔Eb tl hd k a b\/(a=tl k / 4/\b=hd k / 4):=λa b=>by
   constructor
   ·rintro ⟨x,hx,q1,q2⟩
    by_cases c:x=k
    ·subst c;exact .inr ⟨q1.symm,q2.symm⟩
    ·exact .inl ⟨x,by omega,q1,q2⟩
   ·rintro (⟨x,hx,q⟩ | ⟨q1,q2⟩)
    ·exact ⟨x,by omega,q⟩
    ·exact ⟨k,by omega,q1.symm,q2.symm⟩
  by_cases c:gt u (tl k / 4)=gt u (hd k / 4)
  ·refine ⟨s,u,k::nt,h1,?_,by simp;omega,λh hv hz hn=>h4 h hv (λx q1 q2=>?_) λx hx=>hn x (by simp [hx])⟩
   ·have:=h2.union h1.lt hi hj hE (.inl ⟨rfl,rfl⟩)
    rw [c,rel_same] at this;exact this
   ·by_cases d:x=k
    ·subst d;exact hn x (by simp)
    ·exact hz x (by omega) q2
  ·obtain ⟨a,e1,e2,e3⟩:=h1.low _ hi
   obtain ⟨b,f1,f2,f3⟩:=h1.low _ hj
   have hdet:∀ h,VC n ar h->(∀ x,k+1<=x->x<2 * n->h x=false)->(∀ x∈nt,h x=false)->∀ x,x<2 * n->h x=false:=λh hv hz hn=>by
    have hk0:h k=false:=cut_zero he hv (by omega) (λx q1 q2=>hz x q1 q2) (A:=λv=>decide (gt u v=gt u (tl k / 4))) (λx hx=>by
     have hx1:tl x / 4<n:=by have:=he.tlt x (by omega);omega
     have hx2:hd x / 4<n:=by have:=he.hlt x (by omega);omega
     have:=h2.sound _ _ ⟨x,hx,rfl,rfl⟩ hx1 hx2
     simp only [this]) (by
     simp only [decide_true]
     intro q
     exact c (of_decide_eq_true q.symm).symm)
    exact h4 h hv (λx q1 q2=>by
     by_cases d:x=k
     ·subst d;exact hk0
     ·exact hz x (by omega) q2) hn
   rcases Nat.lt_trichotomy a b with q | q | q
   ·refine ⟨_,_,nt,h1.union hi hj (.inr ⟨rfl,rfl⟩) (by rw [e1,f1];omega),h2.union h1.lt hi hj hE (.inr ⟨rfl,rfl⟩),?_,hdet⟩
    have:=rk_rel (u:=u) q f3 e3 n (by rw [h1.lt];exact Nat.le_refl n)
    rw [if_pos (by omega)] at this
    rw [e1,f1];omega
   ·exfalso;subst q;exact c (e1.trans f1.symm)
   ·refine ⟨_,_,nt,h1.union hi hj (.inl ⟨rfl,rfl⟩) (by rw [e1,f1];omega),h2.union h1.lt hi hj hE (.inl ⟨rfl,rfl⟩),?_,hdet⟩
    have:=rk_rel (u:=u) q e3 f3 n (by rw [h1.lt];exact Nat.le_refl n)
    rw [if_pos (by omega)] at this
    rw [e1,f1];omega
end
end Go.Proofs.Ytodfdhnlhiaohaa.AE.DD
end
section
namespace Go.Proofs.Ytodfdhnlhiaohaa.AE.DD
open Go Go.AE Go.Proofs
def rot (k:Nat):Nat:=4 * (k / 4)+(k+1) % 4
def rinv (k:Nat):Nat:=4 * (k / 4)+(k+3) % 4
theorem rinv_rot (k:Nat):rinv (rot k)=k:=by unfold rinv rot;omega
theorem rot_rinv (k:Nat):rot (rinv k)=k:=by unfold rinv rot;omega
theorem rot_lt {n k:Nat} (h:k<4 * n):rot k<4 * n:=by unfold rot;omega
theorem rinv_lt {n k:Nat} (h:k<4 * n):rinv k<4 * n:=by unfold rinv;omega
structure Faces (n N:Nat) (tl hd fc:Nat->Nat):Prop where
 lt:∀ k,k<4 * n->fc k<N
 sur:∀ j,j<N->∃ k,k<4 * n/\fc k=j
 at_tl:∀ x,x<2 * n->fc (rinv (tl x))=fc (hd x)
 at_hd:∀ x,x<2 * n->fc (rinv (hd x))=fc (tl x)
def roots (u:List Int) (n:Nat):List Nat:=(List.range n).filter λc=>gt u c==(c:Int)
theorem roots_len (u:List Int):∀ n,(roots u n).length=rk u n:=by
 intro n
 induction n with
 | zero=>rfl
 | succ n ih=>
  unfold roots at ih ⊢
  rw [List.range_succ,List.filter_append,List.length_append,ih,rk]
  congr 1
  by_cases c:gt u n=(n:Int)
  ·simp [c]
  ·rw [show (gt u n==(n:Int))=false from beq_eq_false_iff_ne.mpr c];simp [c]
theorem uf_same {n:Nat} {E:Nat->Nat->Prop} {s s' u u':List Int} (h:UF s u n) (h':UF s' u' n) (c:Cls u n E) (c':Cls u' n E) (hE:∀ a b,E a b->a<n/\b<n):u=u':=by
 have key:∀ {u u':List Int},Cls u n E->Cls u' n E->∀ i j,i<n->j<n->gt u i=gt u j->gt u' i=gt u' j:=λ{u u'} c c' i j hi hj e=>
  (((c.least (λx=>gt u' x=gt u' j) (λa b q=>by rw [c'.sound a b q (hE a b q).1 (hE a b q).2]) i j hi hj e).2 rfl))
 refine gext (by rw [h.lt,h'.lt]) λi hi=>?_
 rw [h.lt] at hi
 obtain ⟨r,e1,e2,e3⟩:=h.low i hi
 obtain ⟨r',f1,f2,f3⟩:=h'.low i hi
 have k1:=key c c' i r hi (by omega) (e1.trans e3.symm)
 have k2:=key c' c i r' hi (by omega) (f1.trans f3.symm)
 obtain ⟨q,g1,g2,g3⟩:=h'.low r (by omega)
 obtain ⟨q',g1',g2',g3'⟩:=h.low r' (by omega)
 rw [f1,g1] at k1
 rw [e1,g1'] at k2
 rw [e1,f1];omega
section
variable {n N:Nat} {tl hd ar fc:Nat->Nat}
def dif (tl hd fc:Nat->Nat) (g:Nat->Bool) (x:Nat):Bool:=xor (g (fc (hd x))) (g (fc (tl x)))
theorem dif_end (he:Ends n tl hd ar) (hf:Faces n N tl hd fc) (g:Nat->Bool) {e:Nat} (h:e<4 * n):dif tl hd fc g (ar e)=xor (g (fc (rinv e))) (g (fc e)):=by
 obtain ⟨x,hx,q⟩:=end_is he h
 unfold dif
 rcases q with rfl | rfl
 ·rw [he.ta x hx,hf.at_tl x hx]
 ·rw [he.ha x hx,hf.at_hd x hx];cases g (fc (hd x)) <;> cases g (fc (tl x)) <;> rfl
theorem four {b0 b1 b2 b3:Bool} (c:Bool):xor (xor (xor c (xor b3 b0)) (xor c (xor b0 b1))) (xor (xor c (xor b1 b2)) (xor c (xor b2 b3)))=false:=by
 cases b0 <;> cases b1 <;> cases b2 <;> cases b3 <;> cases c <;> rfl
theorem dif_vc (he:Ends n tl hd ar) (hf:Faces n N tl hd fc) (g:Nat->Bool) (c:Bool):VC n ar λx=>xor c (dif tl hd fc g x):=by
 intro v hv
 show xor (xor (xor c (dif tl hd fc g (ar (4 * v)))) (xor c (dif tl hd fc g (ar (4 * v+1))))) (xor (xor c (dif tl hd fc g (ar (4 * v+2)))) (xor c (dif tl hd fc g (ar (4 * v+3)))))=false
 rw [dif_end he hf g (by omega),dif_end he hf g (by omega),dif_end he hf g (by omega),dif_end he hf g (by omega),
  show rinv (4 * v)=4 * v+3 by unfold rinv;omega,show rinv (4 * v+1)=4 * v by unfold rinv;omega,show rinv (4 * v+2)=4 * v+1 by unfold rinv;omega,show rinv (4 * v+3)=4 * v+2 by unfold rinv;omega]
 exact four c
theorem dif_xor (g g':Nat->Bool) (x:Nat):dif tl hd fc (λj=>xor (g j) (g' j)) x=xor (dif tl hd fc g x) (dif tl hd fc g' x):=by
 unfold dif
 dsimp only
 cases g (fc (hd x)) <;> cases g (fc (tl x)) <;> cases g' (fc (hd x)) <;> cases g' (fc (tl x)) <;> rfl
theorem flat_zero (he:Ends n tl hd ar) (hf:Faces n N tl hd fc) {s u:List Int} (hu:UF s u n) (hc:Cls u n (Eb tl hd (2 * n))) {δ:Nat->Bool} (h0:∀ x,x<2 * n->dif tl hd fc δ x=false) (hr:∀ c∈roots u n,δ (fc (4 * c))=false):∀ j,j<N->δ j=false:=by
 have h1:∀ e,e<4 * n->δ (fc (rinv e))=δ (fc e):=λe h=>by
  obtain ⟨x,hx,q⟩:=end_is he h
  have e1:ar e<2 * n:=by
   rcases q with rfl | rfl
   ·rw [he.ta x hx];exact hx
   ·rw [he.ha x hx];exact hx
  have:=h0 _ e1
  rw [dif_end he hf δ h] at this
  revert this;cases δ (fc (rinv e)) <;> cases δ (fc e) <;> simp
 have h2:∀ v,v<n->∀ p,p<4->δ (fc (4 * v+p))=δ (fc (4 * v)):=λv hv p hp=>by
  have a1:=h1 (4 * v+1) (by omega)
  have a2:=h1 (4 * v+2) (by omega)
  have a3:=h1 (4 * v+3) (by omega)
  rw [show rinv (4 * v+1)=4 * v by unfold rinv;omega] at a1
  rw [show rinv (4 * v+2)=4 * v+1 by unfold rinv;omega] at a2
  rw [show rinv (4 * v+3)=4 * v+2 by unfold rinv;omega] at a3
  have:p=0\/p=1\/p=2\/p=3:=by omega
  rcases this with rfl | rfl | rfl | rfl
  ·rfl
  ·exact a1.symm
  ·exact a2.symm.trans a1.symm
  ·exact a3.symm.trans (a2.symm.trans a1.symm)
 have h3:∀ k,k<4 * n->δ (fc k)=δ (fc (4 * (k / 4))):=λk hk=>by
  have:=h2 (k / 4) (by omega) (k % 4) (by omega)
  rwa [show 4 * (k / 4)+k % 4=k by omega] at this
 have h4:∀ c,c<n->δ (fc (4 * c))=false:=λc hcn=>by
  obtain ⟨r,e1,e2,e3⟩:=hu.low c hcn
  have h5:=hc.least (λc=>δ (fc (4 * c))=true) (λa b q=>by
   obtain ⟨x,hx,rfl,rfl⟩:=q
   rw [<- h3 _ (he.tlt x hx),<-h3 _ (he.hlt x hx),<-hf.at_tl x hx,h1 _ (he.tlt x hx)]) c r hcn (by omega) (e1.trans e3.symm)
  have h6:=hr r (List.mem_filter.2 ⟨List.mem_range.2 (by omega),by simpa using e3⟩)
  cases q:δ (fc (4 * c)) with
  | false=>rfl
  | true=>rw [h5.1 q] at h6;cases h6
 intro j hj
 obtain ⟨k,hk,rfl⟩:=hf.sur j hj
 rw [h3 k hk];exact h4 _ (by omega)
theorem checker (he:Ends n tl hd ar) (hf:Faces n N tl hd fc) {s u:List Int} (hu:UF s u n) (hc:Cls u n (Eb tl hd (2 * n))) (eu:N=n+2 * rk u n):∃ f:Nat->Bool,∀ k,k<4 * n->f (fc (rot k))=!(f (fc k)):=by
 obtain ⟨s',u',nt,h1,h2,h3,h4⟩:=forest he (2 * n) (Nat.le_refl _)
 have hE:∀ a b,Eb tl hd (2 * n) a b->a<n/\b<n:=λa b ⟨x,hx,q1,q2⟩=>by
  have:=he.tlt x hx
  have:=he.hlt x hx
  omega
 obtain rfl:=uf_same hu h1 hc h2 hE
 have hnt:nt.length=n+rk u n:=by omega
 obtain ⟨g,hg,e⟩:=bsurj (m:=N) (λg=>nt.map (dif tl hd fc (gt g))++(roots u n).map (λc=>gt g (fc (4 * c)))) (λg _=>by simp [roots_len];omega) (λg g' hg hg' e=>by
  obtain ⟨e1,e2⟩:=List.append_inj e (by simp)
  rw [List.map_inj_left] at e1 e2
  have z:=flat_zero he hf hu hc (δ:=λj=>xor (gt g j) (gt g' j)) (λx hx=>by
   have:=h4 (dif tl hd fc λj=>xor (gt g j) (gt g' j)) (by
    have:=dif_vc he hf (λj=>xor (gt g j) (gt g' j)) false
    simpa using this) (λx q1 q2=>by omega) (λx hx=>by rw [dif_xor,e1 x hx];simp) x hx
   exact this) (λc hc'=>by show xor (gt g (fc (4 * c))) (gt g' (fc (4 * c)))=false;rw [e2 c hc'];simp)
  refine gext (by rw [hg,hg']) λj hj=>?_
  have:=z j (by omega)
  revert this;cases gt g j <;> cases gt g' j <;> simp) (y:=nt.map (λ_=>true)++(roots u n).map (λ_=>false)) (by simp [roots_len];omega)
 obtain ⟨e1,e2⟩:=List.append_inj e (by simp)
 rw [List.map_inj_left] at e1
 have key:=h4 (λx=>xor true (dif tl hd fc (gt g) x)) (dif_vc he hf (gt g) true) (λx q1 q2=>by omega) (λx hx=>by rw [e1 x hx];rfl)
 refine ⟨gt g,λk hk=>?_⟩
 obtain ⟨x,hx,q⟩:=end_is he (rot_lt hk)
 have e3:ar (rot k)<2 * n:=by
  rcases q with q | q
  ·rw [q,he.ta x hx];exact hx
  ·rw [q,he.ha x hx];exact hx
 have:=key _ e3
 rw [dif_end he hf (gt g) (rot_lt hk),rinv_rot] at this
 revert this
 cases gt g (fc k) <;> cases gt g (fc (rot k)) <;> simp
end
end Go.Proofs.Ytodfdhnlhiaohaa.AE.DD
end
section
namespace Go.Proofs.Ytodfdhnlhiaohaa.AE.DD
open Go Go.AE Go.Proofs
structure Asg (G:Nat->Int) (f:Nat->Nat) (S:Nat->Prop) (N:Nat) (out:List Int):Prop where
 len:out.length=N
 hit:∀ x,S x->f x<N->gt out (f x)=G (f x)
 miss:∀ k,k<N->(∀ x,S x->f x≠k)->gt out k=0
theorem Asg.start (G:Nat->Int) (f:Nat->Nat) (N:Nat):Asg G f (λ_=>False) N (List.replicate N 0):=
 ⟨by simp,λx h=>h.elim,λk hk _=>grep hk⟩
theorem Asg.congr {G:Nat->Int} {f:Nat->Nat} {S S':Nat->Prop} {N:Nat} {out:List Int} (h:Asg G f S N out) (e:∀ x,S x↔S' x):Asg G f S' N out:=by
 rw [show S'=S from funext λx=>propext (e x).symm];exact h
theorem Asg.step {G:Nat->Int} {f:Nat->Nat} {S:Nat->Prop} {N:Nat} {out:List Int} (h:Asg G f S N out) {x:Nat} (hx:f x<N) {v:Int} (hv:v=G (f x)):Asg G f (λy=>S y\/y=x) N (out.set (f x) v) where
 len:=by rw [List.length_set];exact h.len
 hit:=λy hy hlt=>by
  by_cases e:f x=f y
  ·rw [<- e,gset_eq (by rw [h.len];exact hx)];exact hv
  ·rw [gset_ne e]
   rcases hy with q | q
   ·exact h.hit y q hlt
   ·exact absurd (by rw [q]) e
 miss:=λk hk hn=>by
  rw [gset_ne (hn x (.inr rfl))]
  exact h.miss k hk (λy hy=>hn y (.inl hy))
noncomputable def cix (R:List (List Int)) (a:Nat):Nat:=open Classical in if h:∃ j,j<R.length/\(a:Int)∈gt R j then Classical.choose h else 0
section
variable {σ:Nat->Nat} {M:Nat} {R:List (List Int)} {done:List Bool}
theorem cix_spec (h:Part σ M R done) (hd:∀ x,x<M->gt done x=true) {a:Nat} (ha:a<M):cix R a<R.length/\(a:Int)∈gt R (cix R a):=by
 have q:=(h.mem a ha).1 (hd a ha)
 unfold cix
 rw [dif_pos q]
 exact Classical.choose_spec q
theorem cix_eq (h:Part σ M R done) (hd:∀ x,x<M->gt done x=true) {a j:Nat} (ha:a<M) (hj:j<R.length) (hm:(a:Int)∈gt R j):cix R a=j:=by
 obtain ⟨q1,q2⟩:=cix_spec h hd ha
 exact h.one a _ _ q1 hj q2 hm
theorem cix_suc (h:Part σ M R done) (hd:∀ x,x<M->gt done x=true) (hlt:∀ x,x<M->σ x<M) {a:Nat} (ha:a<M):cix R (σ a)=cix R a:=by
 obtain ⟨q1,q2⟩:=cix_spec h hd ha
 exact cix_eq h hd (hlt a ha) q1 (h.suc a _ ha q1 q2)
def Sj (R:List (List Int)) (j q:Nat) (a:Nat):Prop:=(∃ j',j'<j/\j'<R.length/\(a:Int)∈gt R j')\/(j<R.length/\∃ q',q'<q/\q'<(gt R j).length/\gt (gt R j) q'=(a:Int))
theorem Sj_next (R:List (List Int)) {j q:Nat} (hj:j<R.length) (hq:(gt R j).length<=q) (a:Nat):Sj R j q a↔Sj R (j+1) 0 a:=by
 constructor
 ·rintro (⟨j',h1,h2,h3⟩ | ⟨h1,q',h2,h3,h4⟩)
  ·exact .inl ⟨j',by omega,h2,h3⟩
  ·exact .inl ⟨j,by omega,h1,by rw [<- h4];exact gmem h3⟩
 ·rintro (⟨j',h1,h2,h3⟩ | ⟨h1,q',h2,_⟩)
  ·by_cases e:j'=j
   ·subst e
    obtain ⟨q',h4,h5⟩:=mem_gt h3
    exact .inr ⟨h2,q',by omega,h4,h5⟩
   ·exact .inl ⟨j',by omega,h2,h3⟩
  ·omega
theorem Sj_step (R:List (List Int)) {j q x:Nat} (hj:j<R.length) (hq:q<(gt R j).length) (hx:gt (gt R j) q=(x:Int)) (a:Nat):(Sj R j q a\/a=x)↔Sj R j (q+1) a:=by
 constructor
 ·rintro ((⟨j',h1,h2,h3⟩ | ⟨h1,q',h2,h3,h4⟩) | rfl)
  ·exact .inl ⟨j',h1,h2,h3⟩
  ·exact .inr ⟨h1,q',by omega,h3,h4⟩
  ·exact .inr ⟨hj,q,by omega,hq,hx⟩
 ·rintro (⟨j',h1,h2,h3⟩ | ⟨h1,q',h2,h3,h4⟩)
  ·exact .inl (.inl ⟨j',h1,h2,h3⟩)
  ·by_cases e:q'=q
   ·subst e;right;rw [hx] at h4;omega
   ·exact .inl (.inr ⟨h1,q',by omega,h3,h4⟩)
theorem Sj_all (h:Part σ M R done) (hd:∀ x,x<M->gt done x=true) {j:Nat} (hj:R.length<=j) (a:Nat):Sj R j 0 a↔a<M:=by
 constructor
 ·rintro (⟨j',h1,h2,h3⟩ | ⟨h1,q',h2,_⟩)
  ·obtain ⟨x,h4,h5⟩:=h.elt j' h2 _ h3;omega
  ·omega
 ·intro ha
  obtain ⟨j',h1,h2⟩:=(h.mem a ha).1 (hd a ha)
  exact .inl ⟨j',by omega,h1,h2⟩
theorem Sj_none (R:List (List Int)) (a:Nat):Sj R 0 0 a↔False:=by
 constructor
 ·rintro (⟨j',h1,_⟩ | ⟨_,q',h1,_⟩) <;> omega
 ·exact False.elim
end
end Go.Proofs.Ytodfdhnlhiaohaa.AE.DD
end
section
namespace Go.Proofs.Ytodfdhnlhiaohaa.AE.DD
open Go Go.AE Go.Proofs
variable {F:Nat}
theorem icr_in {C:List Int->List (List Int)->Int->Int->Option (List Int)} {R:List (List Int)} {σ:Nat->Nat} {M:Nat} {done:List Bool} (h:Part σ M R done) (hd:∀ x,x<M->gt done x=true) {n:Int} {j:Nat} (hj:j<R.length) (hjl:j<=1000) (hlen:(gt R j).length<=1000):∀ (d g q:Nat) (out:List Int),(gt R j).length - q=d->d<g->q<=(gt R j).length->Asg (λa=>(cix R a:Int)) id (Sj R j q) M out ->
  ∃ out',aF.pl1883 F C g out R n (j:Int) (j:Int) (gt R j) ((gt R j).length:Int) (q:Int)=C out' R n ((j+1:Nat):Int)/\Asg (λa=>(cix R a:Int)) id (Sj R (j+1) 0) M out':=by
 intro d
 induction d with
 | zero=>
  intro g q out hdd hg hq ha
  obtain ⟨g,rfl⟩:∃ g',g=g'+1:=⟨g - 1,by omega⟩
  refine ⟨out,?_,ha.congr (Sj_next R hj (by omega))⟩
  rw [aF.pl1883,dF (by omega),cond_false]
  unfold aF.pj4 aF.pj3
  rw [ws (by omega)]
 | succ d ih=>
  intro g q out hdd hg hq ha
  obtain ⟨g,rfl⟩:∃ g',g=g'+1:=⟨g - 1,by omega⟩
  have hql:q<(gt R j).length:=by omega
  obtain ⟨x,hx,e⟩:=h.elt j hj _ (gmem hql)
  have hc:cix R x=j:=cix_eq h hd hx hj (by rw [<- e];exact gmem hql)
  obtain ⟨out',q1,q2⟩:=ih g (q+1) (out.set x (j:Int)) (by omega) (by omega) (by omega) ((ha.step (x:=x) (v:=(j:Int)) hx (by simp only [id];rw [hc])).congr (Sj_step R hj hql e))
  refine ⟨out',?_,q2⟩
  rw [aF.pl1883,dT hql,cond_true,ixn hql,Option.bind_some,e,ixn (by rw [ha.len];exact hx),Option.bind_some,Option.bind_some,ws (by omega)]
  exact q1
theorem icr_out {R:List (List Int)} {σ:Nat->Nat} {M:Nat} {done:List Bool} (h:Part σ M R done) (hd:∀ x,x<M->gt done x=true) (hR:R.length<=1000) (hlen:∀ j,j<R.length->(gt R j).length<=1000) (hF:2000<F):∀ (d g j:Nat) (out:List Int),R.length - j=d->d<g->j<=R.length->Asg (λa=>(cix R a:Int)) id (Sj R j 0) M out ->
  ∃ out',aF.pl29 F g out R (R.length:Int) (j:Int)=some out'/\Asg (λa=>(cix R a:Int)) id (λa=>a<M) M out':=by
 intro d
 induction d with
 | zero=>
  intro g j out hdd hg hj ha
  obtain ⟨g,rfl⟩:∃ g',g=g'+1:=⟨g - 1,by omega⟩
  refine ⟨out,by rw [aF.pl29,dF (by omega),cond_false],ha.congr (Sj_all h hd (by omega))⟩
 | succ d ih=>
  intro g j out hdd hg hj ha
  obtain ⟨g,rfl⟩:∃ g',g=g'+1:=⟨g - 1,by omega⟩
  have hjl:j<R.length:=by omega
  obtain ⟨o1,q1,q2⟩:=icr_in (F:=F) (C:=aF.pl29 F g) (n:=(R.length:Int)) h hd hjl (by omega) (hlen j hjl) (gt R j).length F 0 out (by omega) (by have:=hlen j hjl;omega) (by omega) ha
  obtain ⟨o2,r1,r2⟩:=ih g (j+1) o1 (by omega) (by omega) (by omega) q2
  refine ⟨o2,?_,r2⟩
  rw [aF.pl29,dT hjl,cond_true,ixn hjl,Option.bind_some]
  exact q1.trans r1
end Go.Proofs.Ytodfdhnlhiaohaa.AE.DD
end
section
namespace Go.Proofs.Ytodfdhnlhiaohaa.AE.DD
open Go Go.AE Go.Proofs
variable {F:Nat}
structure Chk (n N:Nat) (fc:Nat->Nat) (u:List Int) (g:Nat->Bool):Prop where
 lt:∀ k,k<4 * n->fc k<N
 flip:∀ k,k<4 * n->g (fc (rot k))=!(g (fc k))
 root:∀ r:Nat,r<n->gt u r=(r:Int)->g (fc (4 * r))=false
 all:∀ S:Nat->Prop,(∀ k,k<4 * n->S (fc k)->S (fc (rot k)))->(∀ r:Nat,r<n->gt u r=(r:Int)->S (fc (4 * r)))->∀ j,j<N->S j
theorem rot4 (k:Nat):rot (rot (rot (rot k)))=k:=by unfold rot;omega
theorem chk_of {n N:Nat} {tl hd ar fc:Nat->Nat} (he:Ends n tl hd ar) (hf:Faces n N tl hd fc) {s u:List Int} (hu:UF s u n) (hc:Cls u n (Eb tl hd (2 * n))) (eu:N=n+2 * rk u n)
  (hcon:∀ k k',k<4 * n->k'<4 * n->fc k=fc k'->∀ S:Nat->Prop,(∀ x,x<2 * n->(S (rinv (tl x))↔S (hd x))/\(S (rinv (hd x))↔S (tl x)))->(S k↔S k')):∃ g,Chk n N fc u g:=by
 obtain ⟨f,hfl⟩:=checker he hf hu hc eu
 have d4:∀ k,rinv k / 4=k / 4:=λk=>by unfold rinv;omega
 have r4:∀ k,rot k / 4=k / 4:=λk=>by unfold rot;omega
 have harc:∀ x,x<2 * n->gt u (tl x / 4)=gt u (hd x / 4):=λx hx=>hc.sound _ _ ⟨x,hx,rfl,rfl⟩ (by have:=he.tlt x hx;omega) (by have:=he.hlt x hx;omega)
 have hcl:∀ k k',k<4 * n->k'<4 * n->fc k=fc k'->gt u (k / 4)=gt u (k' / 4):=λk k' hk hk' e=>by
  have:=hcon k k' hk hk' e (λz=>gt u (z / 4)=gt u (k' / 4)) (λx hx=>by
   have h:=harc x hx
   simp only [d4]
   rw [h];exact ⟨Iff.rfl,Iff.rfl⟩)
  exact this.2 rfl
 have hk:∀ j,∃ k,j<N->(k<4 * n/\fc k=j):=λj=>by
  by_cases h:j<N
  ·obtain ⟨k,q⟩:=hf.sur j h;exact ⟨k,λ_=>q⟩
  ·exact ⟨0,λq=>absurd q h⟩
 obtain ⟨kc,hkc⟩:=Classical.axiomOfChoice hk
 let b:Nat->Bool:=λk=>f (fc (4 * (gt u (k / 4)).toNat))
 have hb:∀ k,k<4 * n->b (kc (fc k))=b k:=λk hk=>by
  obtain ⟨h1,h2⟩:=hkc (fc k) (hf.lt k hk)
  show f (fc (4 * (gt u (kc (fc k) / 4)).toNat))=f (fc (4 * (gt u (k / 4)).toNat))
  rw [hcl _ _ h1 hk h2]
 refine ⟨λj=>xor (f j) (b (kc j)),hf.lt,λk hk=>?_,λr hr hr2=>?_,λS hS hR=>?_⟩
 ·show xor (f (fc (rot k))) (b (kc (fc (rot k))))=!(xor (f (fc k)) (b (kc (fc k))))
  rw [hb _ (rot_lt hk),hb k hk,hfl k hk,show b (rot k)=b k by show f (fc (4 * (gt u (rot k / 4)).toNat))=_;rw [r4]]
  cases f (fc k) <;> cases b k <;> rfl
 ·show xor (f (fc (4 * r))) (b (kc (fc (4 * r))))=false
  rw [hb _ (by omega),show b (4 * r)=f (fc (4 * r)) by show f (fc (4 * (gt u (4 * r / 4)).toNat))=_;rw [show 4 * r / 4=r by omega,hr2];rfl]
  cases f (fc (4 * r)) <;> rfl
 ·have h1:∀ k,k<4 * n->(S (fc (rot k))↔S (fc k)):=λk hk=>⟨λh=>by
   have h2:=hS _ (rot_lt hk) h
   have h3:=hS _ (rot_lt (rot_lt hk)) h2
   have h4:=hS _ (rot_lt (rot_lt (rot_lt hk))) h3
   rwa [rot4] at h4,hS k hk⟩
  have h2:∀ v,v<n->∀ p,p<4->(S (fc (4 * v+p))↔S (fc (4 * v))):=λv hv p hp=>by
   have a0:=h1 (4 * v) (by omega)
   have a1:=h1 (4 * v+1) (by omega)
   have a2:=h1 (4 * v+2) (by omega)
   rw [show rot (4 * v)=4 * v+1 by unfold rot;omega] at a0
   rw [show rot (4 * v+1)=4 * v+2 by unfold rot;omega] at a1
   rw [show rot (4 * v+2)=4 * v+3 by unfold rot;omega] at a2
   have:p=0\/p=1\/p=2\/p=3:=by omega
   rcases this with rfl | rfl | rfl | rfl
   ·exact Iff.rfl
   ·exact a0
   ·exact a1.trans a0
   ·exact a2.trans (a1.trans a0)
  have h3:∀ k,k<4 * n->(S (fc k)↔S (fc (4 * (k / 4)))):=λk hk=>by
   have:=h2 (k / 4) (by omega) (k % 4) (by omega)
   rwa [show 4 * (k / 4)+k % 4=k by omega] at this
  have h4:∀ c,c<n->S (fc (4 * c)):=λc hcn=>by
   obtain ⟨r,e1,e2,e3⟩:=hu.low c hcn
   refine (hc.least (λc=>S (fc (4 * c))) (λa b q=>?_) c r hcn (by omega) (e1.trans e3.symm)).2 (hR r (by omega) e3)
   obtain ⟨x,hx,rfl,rfl⟩:=q
   have ht:=he.tlt x hx
   have:=h1 (rinv (tl x)) (rinv_lt ht)
   rw [rot_rinv,hf.at_tl x hx] at this
   exact (h3 _ ht).symm.trans (this.trans (h3 _ (he.hlt x hx)))
  intro j hj
  obtain ⟨k,hk,rfl⟩:=hf.sur j hj
  exact (h3 k hk).2 (h4 _ (by omega))
def ptl (t:Tb) (x:Nat):Nat:=4 * (gt t.1 x).1.toNat+(gt t.1 x).2.toNat
def phd (t:Tb) (x:Nat):Nat:=4 * (gt t.2 x).1.toNat+(gt t.2 x).2.toNat
def par (D:List Cr) (e:Nat):Nat:=(en (gt D (e / 4)) (e % 4)).toNat
theorem tl_is {D:List Cr} {t:Tb} (h:TB D t) {x:Nat} (hx:x<2 * D.length):∃ i p:Nat,i<D.length/\p<4/\ent (gt D i) p=false/\en (gt D i) p=(x:Int)/\gt t.1 x=((i:Int),(p:Int))/\ptl t x=4 * i+p:=by
 obtain ⟨i,p,h1,h2,h3,h4,h5⟩:=h.fr.get x hx
 exact ⟨i,p,h1,h2,h3,h4,h5,by unfold ptl;rw [h5];rfl⟩
theorem hd_is {D:List Cr} {t:Tb} (h:TB D t) {x:Nat} (hx:x<2 * D.length):∃ i p:Nat,i<D.length/\p<4/\ent (gt D i) p=true/\en (gt D i) p=(x:Int)/\gt t.2 x=((i:Int),(p:Int))/\phd t x=4 * i+p:=by
 obtain ⟨i,p,h1,h2,h3,h4,h5⟩:=h.to_.get x hx
 exact ⟨i,p,h1,h2,h3,h4,h5,by unfold phd;rw [h5];rfl⟩
theorem ends_of {D:List Cr} {t:Tb} (h:TB D t):Ends D.length (ptl t) (phd t) (par D) where
 tlt:=λx hx=>by obtain ⟨i,p,h1,h2,_,_,_,e⟩:=tl_is h hx;omega
 hlt:=λx hx=>by obtain ⟨i,p,h1,h2,_,_,_,e⟩:=hd_is h hx;omega
 ta:=λx hx=>by
  obtain ⟨i,p,h1,h2,_,h4,_,e⟩:=tl_is h hx
  unfold par;rw [e,show (4 * i+p) / 4=i by omega,show (4 * i+p) % 4=p by omega,h4];rfl
 ha:=λx hx=>by
  obtain ⟨i,p,h1,h2,_,h4,_,e⟩:=hd_is h hx
  unfold par;rw [e,show (4 * i+p) / 4=i by omega,show (4 * i+p) % 4=p by omega,h4];rfl
 ne:=λx hx=>by
  obtain ⟨i,p,h1,h2,h3,_,_,e⟩:=tl_is h hx
  obtain ⟨i',p',g1,g2,g3,_,_,e'⟩:=hd_is h hx
  intro q
  rw [e,e'] at q
  obtain ⟨rfl,rfl⟩:i=i'/\p=p':=by omega
  rw [h3] at g3;cases g3
theorem suc_tl {D:List Cr} {t:Tb} (h:TB D t) {x:Nat} (hx:x<2 * D.length):suc D t (rinv (ptl t x))=phd t x:=by
 obtain ⟨i,p,h1,h2,h3,h4,_,e⟩:=tl_is h hx
 rw [e];unfold suc
 rw [show rinv (4 * i+p) / 4=i by unfold rinv;omega,show (rinv (4 * i+p)+1) % 4=p by unfold rinv;omega]
 unfold oth
 rw [h3,cond_false,h4];rfl
theorem suc_hd {D:List Cr} {t:Tb} (h:TB D t) {x:Nat} (hx:x<2 * D.length):suc D t (rinv (phd t x))=ptl t x:=by
 obtain ⟨i,p,h1,h2,h3,h4,_,e⟩:=hd_is h hx
 rw [e];unfold suc
 rw [show rinv (4 * i+p) / 4=i by unfold rinv;omega,show (rinv (4 * i+p)+1) % 4=p by unfold rinv;omega]
 unfold oth
 rw [h3,cond_true,h4];rfl
theorem dg_chk {D:List Cr} {c:Int} {t:Tb} {R:List (List Int)} {s u:List Int} (h:DG F D c t R s u):∃ g,Chk D.length R.length (cix R) u g:=by
 obtain ⟨done,hp,hd⟩:=h.rg.part
 have he:=ends_of h.tb
 have hsl:∀ x,x<4 * D.length->suc D t x<4 * D.length:=λx hx=>suc_lt h.tb hx
 have hf:Faces D.length R.length (ptl t) (phd t) (cix R):=⟨λk hk=>(cix_spec hp hd hk).1,λj hj=>by
   obtain ⟨z,l,e⟩:=List.exists_cons_of_ne_nil (hp.ne j hj)
   have hz:z∈gt R j:=by rw [e];simp
   obtain ⟨x,hx,rfl⟩:=hp.elt j hj z hz
   exact ⟨x,hx,cix_eq hp hd hx hj hz⟩,
  λx hx=>by rw [<- suc_tl h.tb hx,cix_suc hp hd hsl (rinv_lt (he.tlt x hx))],
  λx hx=>by rw [<- suc_hd h.tb hx,cix_suc hp hd hsl (rinv_lt (he.hlt x hx))]⟩
 have hE:Ep t (2 * D.length)=Eb (ptl t) (phd t) (2 * D.length):=by
  funext a b
  refine propext ⟨λ⟨x,hx,q1,q2⟩=>⟨x,hx,?_,?_⟩,λ⟨x,hx,q1,q2⟩=>⟨x,hx,?_,?_⟩⟩
  ·obtain ⟨i,p,_,h2,_,_,e0,e⟩:=tl_is h.tb hx
   rw [e0] at q1;simp only at q1;omega
  ·obtain ⟨i,p,_,h2,_,_,e0,e⟩:=hd_is h.tb hx
   rw [e0] at q2;simp only at q2;omega
  ·obtain ⟨i,p,_,h2,_,_,e0,e⟩:=tl_is h.tb hx
   rw [e0];simp only;omega
  ·obtain ⟨i,p,_,h2,_,_,e0,e⟩:=hd_is h.tb hx
   rw [e0];simp only;omega
 have hc:=h.cls
 rw [hE] at hc
 refine chk_of he hf h.uf hc h.euler λk k' hk hk' e S hS=>?_
 obtain ⟨a1,a2⟩:=cix_spec hp hd hk
 obtain ⟨b1,b2⟩:=cix_spec hp hd hk'
 rw [<- e] at b2
 refine hp.con k k' _ a1 a2 b2 S λz hz=>?_
 obtain ⟨x,hx,q⟩:=end_is he (rot_lt hz)
 rcases q with q | q
 ·have:=(hS x hx).1
  rw [<- suc_tl h.tb hx,<-q,rinv_rot] at this
  exact this
 ·have:=(hS x hx).2
  rw [<- suc_hd h.tb hx,<-q,rinv_rot] at this
  exact this
end Go.Proofs.Ytodfdhnlhiaohaa.AE.DD
end
section
namespace Go.Proofs.Ytodfdhnlhiaohaa.AE.DD
open Go Go.AE Go.Proofs
variable {F:Nat}
def ci (b:Bool):Int:=bif b then 1 else 0
theorem ci_not (b:Bool):1 - ci b=ci (!b):=by cases b <;> rfl
theorem ci_01 (b:Bool):0<=ci b/\ci b<=1:=by cases b <;> decide
def full (N:Nat) (g:Nat->Bool):List Int:=(List.range N).map λj=>ci (g j)
theorem full_len {N:Nat} {g:Nat->Bool}:(full N g).length=N:=by simp [full]
theorem gt_full {N:Nat} {g:Nat->Bool} {j:Nat} (h:j<N):gt (full N g) j=ci (g j):=by
 have:=eS (l:=full N g) (n:=j) (by rw [full_len];exact h)
 unfold full at this ⊢
 rw [List.getElem?_map,List.getElem?_range h] at this
 exact (Option.some.inj this).symm
def Okc (N:Nat) (g:Nat->Bool) (out:List Int):Prop:=out.length=N/\∀ j,j<N->gt out j=-1\/gt out j=ci (g j)
def unc (out:List Int):Nat:=out.countP λv=>decide (v<0)
theorem set_gt_same {l:List Int} {j:Nat} {v:Int} (h:gt l j=v):l.set j v=l:=by
 refine gext (by simp) λi hi=>?_
 by_cases e:j=i
 ·subst e;rw [gset_eq (by simpa using hi),h]
 ·rw [gset_ne e]
section
variable {N:Nat} {g:Nat->Bool} {out:List Int}
theorem Okc.val (h:Okc N g out) {j:Nat} (hj:j<N) (h0:0<=gt out j):gt out j=ci (g j):=(h.2 j hj).resolve_left (by omega)
theorem Okc.rng (h:Okc N g out) {j:Nat} (hj:j<N):-1<=gt out j/\gt out j<=1:=by
 have:=ci_01 (g j)
 rcases h.2 j hj with e | e <;> omega
theorem Okc.put (h:Okc N g out) {j:Nat} (hj:j<N) {v:Int} (hv:v=ci (g j)):Okc N g (out.set j v)/\(∀ i,0<=gt out i->0<=gt (out.set j v) i)/\0<=gt (out.set j v) j:=by
 have hl:=h.1
 have:=ci_01 (g j)
 have hs:gt (out.set j v) j=v:=gset_eq (by omega)
 refine ⟨⟨by simp [hl],λi hi=>?_⟩,λi hi=>?_,by omega⟩
 ·by_cases e:j=i
  ·subst e;rw [hs];exact .inr hv
  ·rw [gset_ne e];exact h.2 i hi
 ·by_cases e:j=i
  ·subst e;rw [hs];omega
  ·rw [gset_ne e];exact hi
theorem unc_put (h:Okc N g out) {j:Nat} (hj:j<N) (hn:gt out j<0) {v:Int} (hv:v=ci (g j)):unc (out.set j v)+1=unc out:=by
 have hjl:j<out.length:=by rw [h.1];exact hj
 have:=ci_01 (g j)
 unfold unc
 rw [List.countP_set hjl,gt_eq hjl,decide_eq_true hn,decide_eq_false (show ¬ v<0 by omega)]
 have:0<out.countP (λv=>decide (v<0)):=List.countP_pos_iff.2 ⟨gt out j,gmem hjl,decide_eq_true hn⟩
 simp;omega
theorem unc_le (h:Okc N g out):unc out<=N:=by rw [<- h.1];exact List.countP_le_length
theorem unc_zero (h:Okc N g out) (hz:unc out=0) {j:Nat} (hj:j<N):0<=gt out j:=by
 unfold unc at hz
 rw [List.countP_eq_zero] at hz
 have:=hz _ (gmem (show j<out.length by rw [h.1];exact hj))
 simp at this;exact this
theorem Okc.fin (h:Okc N g out) (ha:∀ j,j<N->0<=gt out j):out=full N g:=by
 refine gext (by rw [h.1,full_len]) λj hj=>?_
 rw [h.1] at hj
 rw [gt_full hj,h.val hj (ha j hj)]
theorem zero_unc (ha:∀ j,j<out.length->0<=gt out j):unc out=0:=by
 unfold unc
 rw [List.countP_eq_zero]
 intro a hm
 obtain ⟨n,hn,rfl⟩:=mem_gt hm
 have:=ha n hn
 simp;exact this
end
structure Ps (n N:Nat) (fc:Nat->Nat) (g:Nat->Bool) (k:Nat) (out out':List Int):Prop where
 ok:Okc N g out'
 mono:∀ i,0<=gt out i->0<=gt out' i
 res:unc out'<unc out\/(out'=out/\∀ k',k<=k'->k'<4 * n->0<=gt out (fc k')->0<=gt out (fc (rot k')))
section
variable {n N:Nat} {fc:Nat->Nat} {g:Nat->Bool} {u reg:List Int}
theorem Ps.le {k:Nat} {out out':List Int} (h:Ps n N fc g k out out'):unc out'<=unc out:=by
 rcases h.res with q | ⟨q,_⟩
 ·omega
 ·rw [q];exact Nat.le_refl _
theorem Ps.skip {k:Nat} {out out':List Int} (h:Ps n N fc g (k+1) out out') (hk:0<=gt out (fc k)->0<=gt out (fc (rot k))):Ps n N fc g k out out':=by
 refine ⟨h.ok,h.mono,h.res.imp id λ⟨q1,q2⟩=>⟨q1,λk' a b=>?_⟩⟩
 by_cases e:k'=k
 ·subst e;exact hk
 ·exact q2 k' (by omega) b
theorem Ps.put {k j:Nat} {v:Int} {out out':List Int} (ho:Okc N g out) (hj:j<N) (hn:gt out j<0) (hv:v=ci (g j)) (h:Ps n N fc g (k+1) (out.set j v) out'):Ps n N fc g k out out':=by
 have h1:=unc_put ho hj hn hv
 have h2:=h.le
 exact ⟨h.ok,λi hi=>h.mono i ((ho.put hj hv).2.1 i hi),.inl (by omega)⟩
def Rts (n:Nat) (fc:Nat->Nat) (u out:List Int) (c:Nat):Prop:=∀ r:Nat,r<c->r<n->gt u r=(r:Int)->0<=gt out (fc (4 * r))
theorem Chk.closed (hc:Chk n N fc u g) {out:List Int} (hr:Rts n fc u out n) (h:∀ k,k<4 * n->0<=gt out (fc k)->0<=gt out (fc (rot k))):∀ j,j<N->0<=gt out j:=
 hc.all (λj=>0<=gt out j) h λr hr1 hr2=>hr r hr1 hr1 hr2
structure Rgl (n:Nat) (fc:Nat->Nat) (reg:List Int):Prop where
 len:reg.length=4 * n
 at_:∀ k,k<4 * n->gt reg k=(fc k:Int)
theorem i_pass {C:List Int->List Int->Int->Int->Option (List Int)} (hc:Chk n N fc u g) (hg:Rgl n fc reg) (hn:n<=100) {b:Nat} (hb:b<=1000) {A:Int}:∀ (d gg k:Nat) (out:List Int),4 * n - k=d->d<gg->k<=4 * n->Okc N g out ->
  ∃ out',aq.pl16301 F C gg reg out A (b:Int) ((4 * n:Nat):Int) (k:Int)=C reg out' A ((b+1:Nat):Int)/\Ps n N fc g k out out':=by
 intro d
 induction d with
 | zero=>
  intro gg k out hd hgg hk ho
  obtain ⟨gg,rfl⟩:∃ g',gg=g'+1:=⟨gg - 1,by omega⟩
  refine ⟨out,?_,ho,λi hi=>hi,.inr ⟨rfl,λk' q1 q2=>by omega⟩⟩
  rw [aq.pl16301,dF (by omega),cond_false]
  unfold aq.pj8 aq.pj7
  rw [ws (by omega)]
 | succ d ih=>
  intro gg k out hd hgg hk ho
  obtain ⟨gg,rfl⟩:∃ g',gg=g'+1:=⟨gg - 1,by omega⟩
  have hk':k<4 * n:=by omega
  have hf:=hc.lt k hk'
  have hfr:=hc.lt _ (rot_lt hk')
  have er:IntKind.i64.wrap ((IntKind.i64.wrap ((k:Int) - Int.tmod (k:Int) 4))+Int.tmod (((k+1:Nat):Int)) 4)=((rot k:Nat):Int):=by
   rw [tmod4,tmod4,bo (x:=(k:Int) - ((k % 4:Nat):Int)) (by omega) (by omega),bo (by omega) (by omega)];unfold rot;omega
  rw [aq.pl16301,dT hk',cond_true,ixn (by rw [hg.len];exact hk'),Option.bind_some,hg.at_ k hk',ixn (by rw [ho.1];exact hf),Option.bind_some,ws (i:=k) (by omega),er]
  have hnext:∀ o1:List Int,aq.pj9 F (aq.pl16301 F C gg) reg o1 A (b:Int) ((4 * n:Nat):Int) (k:Int)=aq.pl16301 F C gg reg o1 A (b:Int) ((4 * n:Nat):Int) ((k+1:Nat):Int):=λo1=>by
   unfold aq.pj9;rw [ws (by omega)]
  by_cases c:0<=gt out (fc k)
  ·have hv:1 - gt out (fc k)=ci (g (fc (rot k))):=by rw [ho.val hf c,ci_not,hc.flip k hk']
   have:=ho.rng hf
   rw [decide_eq_true (show gt out (fc k)>=0 from c),cond_true,ixn (by rw [hg.len];exact rot_lt hk'),Option.bind_some,hg.at_ _ (rot_lt hk'),ixn (by rw [ho.1];exact hfr),Option.bind_some,Option.bind_some,bo (by omega) (by omega),hnext]
   obtain ⟨p1,_,_⟩:=ho.put hfr hv
   obtain ⟨out',q1,q2⟩:=ih gg (k+1) _ (by omega) (by omega) (by omega) p1
   refine ⟨out',q1,?_⟩
   by_cases c2:0<=gt out (fc (rot k))
   ·rw [set_gt_same ((ho.val hfr c2).trans hv.symm)] at q2
    exact q2.skip λ_=>c2
   ·exact Ps.put ho hfr (by omega) hv q2
  ·rw [decide_eq_false (show ¬ gt out (fc k)>=0 from c),cond_false,hnext]
   obtain ⟨out',q1,q2⟩:=ih gg (k+1) out (by omega) (by omega) (by omega) ho
   exact ⟨out',q1,q2.skip λq=>absurd q c⟩
theorem i_rounds (hc:Chk n N fc u g) (hg:Rgl n fc reg) (hn:n<=100) (hN:N<=400) (hF:2000<F):∀ (d gg b:Nat) (out:List Int),N - b=d->d<gg->b<=N->Okc N g out->Rts n fc u out n->unc out<=N - b ->
  aq.pl509 F gg reg out (N:Int) (b:Int)=some (full N g):=by
 intro d
 induction d with
 | zero=>
  intro gg b out hd hgg hb ho hr hu
  obtain ⟨gg,rfl⟩:∃ g',gg=g'+1:=⟨gg - 1,by omega⟩
  rw [aq.pl509,dF (by omega),cond_false,ho.fin λj hj=>unc_zero ho (by omega) hj]
 | succ d ih=>
  intro gg b out hd hgg hb ho hr hu
  obtain ⟨gg,rfl⟩:∃ g',gg=g'+1:=⟨gg - 1,by omega⟩
  rw [aq.pl509,dT (by omega),cond_true,show (reg.length:Int)=((4 * n:Nat):Int) by rw [hg.len]]
  obtain ⟨out',q1,q2⟩:=i_pass (F:=F) (C:=aq.pl509 F gg) (A:=(N:Int)) (b:=b) hc hg hn (by omega) (4 * n) F 0 out (by omega) (by omega) (by omega) ho
  rw [show ((0:Nat):Int)=0 from rfl] at q1
  rw [q1]
  refine ih gg (b+1) out' (by omega) (by omega) (by omega) q2.ok (λr h1 h2 h3=>q2.mono _ (hr r h1 h2 h3)) ?_
  rcases q2.res with q | ⟨e,q⟩
  ·omega
  ·have:=zero_unc (out:=out) (by rw [ho.1];exact hc.closed hr λk hk=>q k (by omega) hk)
   rw [e];omega
theorem i_start (hc:Chk n N fc u g) (hg:Rgl n fc reg) (hn:n<=100) (hN:N<=400) (hF:2000<F) {s:List Int} (hu:UF s u n):∀ (d gg c:Nat) (out:List Int) (seen:List Bool),n - c=d->d<gg->c<=n->Okc N g out->Rts n fc u out c->seen.length=rk u n->(∀ m,m<rk u n->gt seen m=decide (m<rk u c)) ->
  aq.pl253 F gg reg out seen (num u n) (n:Int) (c:Int)=some (full N g):=by
 intro d
 induction d with
 | zero=>
  intro gg c out seen hd hgg hcn ho hr hl hs
  obtain ⟨gg,rfl⟩:∃ g',gg=g'+1:=⟨gg - 1,by omega⟩
  rw [aq.pl253,dF (by omega),cond_false]
  unfold aq.pj10
  rw [ho.1]
  exact i_rounds hc hg hn hN hF N F 0 out (by omega) (by omega) (by omega) ho (by rw [show n=c by omega];rw [show n=c by omega] at hr;exact hr) (by have:=unc_le ho;omega)
 | succ d ih=>
  intro gg c out seen hd hgg hcn ho hr hl hs
  obtain ⟨gg,rfl⟩:∃ g',gg=g'+1:=⟨gg - 1,by omega⟩
  have hc':c<n:=by omega
  obtain ⟨r,e1,e2,e3⟩:=hu.low c hc'
  have hrn:rk u r<rk u n:=rk_root e3 (by omega)
  have e5:gt (num u n) c=((rk u r:Nat):Int):=by rw [gt_num hc',e1];rfl
  have e4:IntKind.i64.wrap (4 * (c:Int))=((4 * c:Nat):Int):=by rw [bo (by omega) (by omega)];omega
  rw [aq.pl253,dT hc',cond_true,ixn (by rw [num_len];exact hc'),Option.bind_some,e5,ixn (by rw [hl];exact hrn),Option.bind_some,hs _ hrn,e4]
  unfold aq.pj11
  rw [ws (i:=c) (by omega)]
  by_cases e:r=c
  ·subst e
   have hf:=hc.lt (4 * r) (by omega)
   obtain ⟨p1,p2,p3⟩:=ho.put hf (v:=0) (by rw [hc.root r hc' e3];rfl)
   rw [decide_eq_false (by omega),Bool.not_false,cond_true,Option.bind_some,Option.bind_some,ixn (by rw [hg.len];omega),Option.bind_some,hg.at_ _ (by omega),ixn (by rw [ho.1];exact hf),Option.bind_some,Option.bind_some]
   have hk1:rk u (r+1)=rk u r+1:=by rw [rk,e3];simp
   refine ih gg (r+1) _ _ (by omega) (by omega) (by omega) p1 (λr' h1 h2 h3=>?_) (by simp [hl]) λm hm=>?_
   ·by_cases q:r'=r
    ·subst q;exact p3
    ·exact p2 _ (hr r' (by omega) h2 h3)
   ·rw [hk1]
    by_cases q:rk u r=m
    ·subst q;rw [gset_eq (by omega),decide_eq_true (by omega)]
    ·rw [gset_ne q,hs m hm];exact decide_eq_decide.2 (by omega)
  ·have hrc:rk u r<rk u c:=rk_root e3 (by omega)
   have hk1:rk u (c+1)=rk u c:=by rw [rk,e1,show (((r:Nat):Int)==(c:Int))=false from beq_eq_false_iff_ne.mpr (by omega)];rfl
   rw [decide_eq_true hrc,Bool.not_true,cond_false]
   refine ih gg (c+1) _ _ (by omega) (by omega) (by omega) ho (λr' h1 h2 h3=>?_) hl λm hm=>by rw [hk1];exact hs m hm
   by_cases q:r'=c
   ·subst q;rw [h3] at e1;omega
   ·exact hr r' (by omega) h2 h3
end
end Go.Proofs.Ytodfdhnlhiaohaa.AE.DD
end
section
namespace Go.Proofs.Ytodfdhnlhiaohaa.AE.DD
open Go Go.AE Go.Proofs
variable {F:Nat}
section
variable {n N:Nat} {fc:Nat->Nat} {g:Nat->Bool} {u reg:List Int}
end
theorem rep_m1 {m:Nat} (hm:m<64) (hF:100<F):aZ.p F [-1] (m:Int)=some (List.replicate m (-1)):=by
 obtain ⟨h1,h2⟩:=mul1 m hm
 unfold aZ.p aZ.pj2
 rw [show decide ((m:Int)<0)=false from decide_eq_false (by omega),cond_false,h1,show IntKind.u64.wrap (([(-1:Int)].length:Nat):Int)=1 by decide]
 have h3:bits_Mul.p F 1 (m:Int)=some (0,(m:Int)):=by
  unfold bits_Mul.p
  rw [show bits_Mul64.p F 1 (m:Int)=bits_Mul64.p 0 1 (m:Int) from rfl,h2];rfl
 rw [h3,Option.bind_some]
 simp only [show decide ((0:Int)>0)=false by decide,cond_false,show decide ((m:Int)>9223372036854775807)=false from decide_eq_false (by omega)]
 unfold aZ.pj1
 rw [wn (by omega),mkn_of (by omega),Option.bind_some,Option.bind_some]
 unfold kW cpl
 cases m with
 | zero=>simp;omega
 | succ m=>
  have hl:([(-1:Int)].take (List.replicate (m+1) (0:Int)).length++(List.replicate (m+1) (0:Int)).drop [(-1:Int)].length)=(-1)::List.replicate m 0:=by simp
  rw [hl,if_pos ⟨by simp,by left;simp,by simp;omega⟩]
  simp [gt,List.replicate_succ]
end Go.Proofs.Ytodfdhnlhiaohaa.AE.DD
end
section
namespace Go.Proofs.Ytodfdhnlhiaohaa.AE
open Go Go.AE Go.Proofs
variable {F:Nat}
abbrev Cr:=DD.Cr
theorem ix_of {α:Type} {l:List α} {i:Int} (h0:0<=i) (h:i<l.length):ix l i=some i.toNat:=by
 unfold ix;rw [if_pos ⟨h0,h⟩]
theorem apn1 {α:Type} {l:List α} {x:α} (h:l.length<=1000000):apn l [x]=some (l++[x]):=by unfold apn;rw [if_pos (by simp;omega)]
structure Src (c:List Int) (a s:Int):Prop where
 b:∀ n:Nat,0<=gt c n/\gt c n<=255
 l:c.length<=1000000
 a0:0<=a
 a1:a<=c.length
 s0:0<=s
 s1:s<2147483647
theorem seed_ok {s:Int} (h0:0<=s) (h1:s<2147483647):∃ t,Int.tmod (IntKind.i64.wrap ((IntKind.i64.wrap (s * 48271))+11)) 2147483647=t/\0<=t/\t<2147483647:=by
 rw [bo (x:=s * 48271) (by omega) (by omega),bo (by omega) (by omega)]
 refine ⟨_,rfl,?_⟩
 rw [Int.tmod_eq_emod_of_nonneg (by omega)]
 constructor <;> omega
theorem mod_ok {x n:Int} (hx:0<=x) (hn:1<n):∃ r,Int.tmod x n=r/\0<=r/\r<n:=by
 refine ⟨_,rfl,?_⟩
 rw [Int.tmod_eq_emod_of_nonneg hx]
 exact ⟨Int.emod_nonneg _ (by omega),Int.emod_lt_of_pos _ (by omega)⟩
theorem next {c:List Int} {a s n:Int} (h:Src c a s):∃ r a' s',aJ.p F c a s n=some (r,a',s')/\Src c a' s'/\0<=r/\(n<=1->r=0)/\(1<n->r<n):=by
 obtain ⟨h1,h2,h3,h4,h5,h6⟩:=h
 unfold aJ.p
 by_cases hn:n<=1
 ·rw [decide_eq_true hn,cond_true]
  exact ⟨0,a,s,rfl,⟨h1,h2,h3,h4,h5,h6⟩,Int.le_refl _,λ_=>rfl,λq=>by omega⟩
 ·rw [decide_eq_false hn,cond_false]
  obtain ⟨t,e,t0,t1⟩:=seed_ok h5 h6
  simp only [e]
  have td:0<=Int.tdiv t 11/\Int.tdiv t 11<=t:=by
   rw [Int.tdiv_eq_ediv_of_nonneg t0];constructor <;> omega
  unfold aJ.pj2 aJ.pj1 aJ.pj3
  have n0:¬ n=0:=by omega
  simp only [if_neg n0]
  by_cases ha:a<c.length
  ·rw [decide_eq_true ha,cond_true]
   have ix0:ix c a=some a.toNat:=ix_of h3 ha
   have gb:=h1 a.toNat
   rw [ix0,Option.bind_some,bo (x:=a+1) (by omega) (by omega),bo (x:=a+1 - 1) (by omega) (by omega),show a+1 - 1=a by omega,ix0,Option.bind_some,bo (x:=gt c a.toNat) (by omega) (by omega),bo (x:=Int.tdiv t 11) (by omega) (by omega),bo (x:=Int.tdiv t 11+gt c a.toNat) (by omega) (by omega)]
   have S:Src c (a+1) t:=⟨h1,h2,by omega,by omega,t0,t1⟩
   obtain ⟨r1,m1,m2,m3⟩:=mod_ok (x:=gt c a.toNat) (n:=n) gb.1 (by omega)
   obtain ⟨r2,m4,m5,m6⟩:=mod_ok (x:=Int.tdiv t 11+gt c a.toNat) (n:=n) (by omega) (by omega)
   rw [m1,m4]
   cases decide (n<=256) <;> cases (Int.tmod (a+1) 2==0) <;> simp only [cond_true,cond_false]
   ·exact ⟨r2,_,_,rfl,S,m5,λq=>absurd q hn,λ_=>m6⟩
   ·exact ⟨r2,_,_,rfl,S,m5,λq=>absurd q hn,λ_=>m6⟩
   ·exact ⟨r2,_,_,rfl,S,m5,λq=>absurd q hn,λ_=>m6⟩
   ·exact ⟨r1,_,_,rfl,S,m2,λq=>absurd q hn,λ_=>m3⟩
  ·rw [decide_eq_false ha,cond_false,bo (x:=Int.tdiv t 11) (by omega) (by omega)]
   obtain ⟨r2,m4,m5,m6⟩:=mod_ok (x:=Int.tdiv t 11) (n:=n) (by omega) (by omega)
   rw [m4]
   exact ⟨r2,_,_,rfl,⟨h1,h2,h3,h4,t0,t1⟩,m5,λq=>absurd q hn,λ_=>m6⟩
theorem from_l {c:List Int} (hc:c.length<=1000000) (hb:∀ n:Nat,0<=gt c n/\gt c n<=255):∀ (n g:Nat) (s i:Int),c.length - i=n->n<g->0<=i->0<=s->s<2147483647->∃ t,bE.pl29 F g c 0 s i=some (c,0,t)/\0<=t/\t<2147483647:=by
 intro n
 induction n with
 | zero=>
  intro g s i hn hg hi h0 h1
  obtain ⟨g,rfl⟩:∃ g',g=g'+1:=⟨g - 1,by omega⟩
  rw [bE.pl29,decide_eq_false (by omega),cond_false]
  exact ⟨s,rfl,h0,h1⟩
 | succ n ih=>
  intro g s i hn hg hi h0 h1
  obtain ⟨g,rfl⟩:∃ g',g=g'+1:=⟨g - 1,by omega⟩
  rw [bE.pl29,decide_eq_true (by omega),cond_true]
  cases decide (i<64) with
  | false=>exact ⟨s,rfl,h0,h1⟩
  | true=>
   have gb:=hb i.toNat
   rw [cond_true,ix_of hi (by omega),Option.bind_some,bo (x:=gt c i.toNat) (by omega) (by omega),bo (x:=s * 37) (by omega) (by omega),bo (x:=s * 37+gt c i.toNat) (by omega) (by omega),bo (x:=i+1) (by omega) (by omega)]
   obtain ⟨r,m1,m2,m3⟩:=mod_ok (x:=s * 37+gt c i.toNat) (n:=2147483647) (by omega) (by omega)
   rw [m1]
   exact ih g r (i+1) (by omega) (by omega) (by omega) m2 m3
theorem from_ {c:List Int} (hF:5000000<F) (hc:c.length<=1000000) (hb:∀ n:Nat,0<=gt c n/\gt c n<=255):∃ t,bE.p F c=some (c,0,t)/\Src c 0 t:=by
 unfold bE.p
 obtain ⟨t,e,h0,h1⟩:=from_l (F:=F) hc hb c.length F 97531 0 (by omega) (by omega) (by omega) (by omega) (by omega)
 exact ⟨t,e,hb,hc,Int.le_refl _,by omega,h0,h1⟩
theorem nx {c:List Int} {a s n:Int} (h:Src c a s) (hn:1<=n):∃ r a' s',aJ.p F c a s n=some (r,a',s')/\Src c a' s'/\0<=r/\r<n:=by
 obtain ⟨r,a',s',e,h',r0,r1,r2⟩:=next (F:=F) (n:=n) h
 refine ⟨r,a',s',e,h',r0,?_⟩
 by_cases c:n<=1
 ·have:=r1 c;omega
 ·exact r2 (by omega)
def Ord (n:Int) (l:List Int):Prop:=(l.length:Int)=n/\∀ m:Nat,m<l.length->0<=gt l m/\gt l m<n
theorem ord_set {n:Int} {l:List Int} {i:Nat} {x:Int} (h:Ord n l) (hx:0<=x/\x<n):Ord n (l.set i x):=⟨by rw [List.length_set];exact h.1,λm hm=>by
 rw [List.length_set] at hm
 by_cases e:i=m
 ·subst e;rw [DD.gset_eq hm];exact hx
 ·rw [DD.gset_ne e];exact h.2 m hm⟩
theorem order_swap {c:List Int} {nn:Int} (hn:nn<=1000):∀ (n g:Nat) (a s:Int) (l:List Int) (i:Int),i.toNat=n->n<g->i<nn->Ord nn l->Src c a s ->
  ∃ l' a' s',aN.pl61 F g c a s l i=some (l',a',s')/\Ord nn l'/\Src c a' s':=by
 intro n
 induction n with
 | zero=>
  intro g a s l i hi hg hb ho h
  obtain ⟨g,rfl⟩:∃ g',g=g'+1:=⟨g - 1,by omega⟩
  rw [aN.pl61,decide_eq_false (by omega),cond_false]
  exact ⟨l,a,s,rfl,ho,h⟩
 | succ n ih=>
  intro g a s l i hi hg hb ho h
  obtain ⟨g,rfl⟩:∃ g',g=g'+1:=⟨g - 1,by omega⟩
  have hl:=ho.1
  rw [aN.pl61,decide_eq_true (by omega),cond_true,bo (x:=i+1) (by omega) (by omega)]
  obtain ⟨r,a1,s1,e1,h1,r0,r1⟩:=nx (F:=F) (n:=i+1) h (by omega)
  rw [e1,Option.bind_some]
  simp only []
  rw [ix_of (l:=l) (i:=i) (by omega) (by omega),Option.bind_some,ix_of (l:=l) (i:=r) r0 (by omega),Option.bind_some,Option.bind_some,Option.bind_some,ix_of (i:=r) r0 (by rw [List.length_set];omega),Option.bind_some,Option.bind_some,bo (x:=i - 1) (by omega) (by omega)]
  have v1:=ho.2 r.toNat (by omega)
  have v2:=ho.2 i.toNat (by omega)
  exact ih g a1 s1 _ (i - 1) (by omega) (by omega) (by omega) (ord_set (ord_set ho v1) v2) h1
theorem order_fill {c:List Int} {nn:Int} (h0:0<=nn) (hn:nn<=1000) (hF:5000000<F) {a s:Int} (h:Src c a s):∀ (n g:Nat) (l:List Int) (i:Int),(nn - i).toNat=n->n<g->0<=i->i<=nn->(l.length:Int)=i->(∀ m:Nat,m<l.length->0<=gt l m/\gt l m<nn) ->
  ∃ l' a' s',aN.pl29 F g c a s nn l i=some (l',a',s')/\Ord nn l'/\Src c a' s':=by
 intro n
 induction n with
 | zero=>
  intro g l i hi hg h1 h2 hl hv
  obtain ⟨g,rfl⟩:∃ g',g=g'+1:=⟨g - 1,by omega⟩
  rw [aN.pl29,decide_eq_false (by omega),cond_false]
  unfold aN.pj1
  rw [bo (x:=nn - 1) (by omega) (by omega)]
  exact order_swap hn _ F a s l (nn - 1) rfl (by omega) (by omega) ⟨by omega,hv⟩ h
 | succ n ih=>
  intro g l i hi hg h1 h2 hl hv
  obtain ⟨g,rfl⟩:∃ g',g=g'+1:=⟨g - 1,by omega⟩
  rw [aN.pl29,decide_eq_true (by omega),cond_true,apn1 (by omega),Option.bind_some,bo (x:=i+1) (by omega) (by omega)]
  refine ih g (l++[i]) (i+1) (by omega) (by omega) (by omega) (by omega) (by rw [List.length_append];simp;omega) (λm hm=>?_)
  rw [List.length_append] at hm
  by_cases e:m<l.length
  ·rw [DD.gapp_lt e];exact hv m e
  ·have:m=l.length:=by simp at hm;omega
   subst this;rw [DD.gapp_eq];omega
theorem order_of {c:List Int} {a s nn:Int} (hF:5000000<F) (h:Src c a s) (h0:0<=nn) (hn:nn<=1000):∃ l' a' s',aN.p F c a s nn=some (l',a',s')/\Ord nn l'/\Src c a' s':=by
 unfold aN.p
 exact order_fill h0 hn hF h _ F [] 0 rfl (by omega) (by omega) (by omega) rfl (λm hm=>by simp at hm)
end Go.Proofs.Ytodfdhnlhiaohaa.AE
end
section
namespace Go.Proofs.Ytodfdhnlhiaohaa.AE
open Go Go.AE Go.Proofs
variable {F:Nat}
def E4 (x:Cr) (P:Int->Prop):Prop:=P x.1/\P x.2.1/\P x.2.2.1/\P x.2.2.2.1
theorem E4.of {x:Cr} {P Q:Int->Prop} (h:E4 x P) (hq:∀ e,P e->Q e):E4 x Q:=⟨hq _ h.1,hq _ h.2.1,hq _ h.2.2.1,hq _ h.2.2.2⟩
theorem E4.en {x:Cr} {P:Int->Prop} (h:∀ p:Nat,p<4->P (DD.en x p)):E4 x P:=⟨h 0 (by omega),h 1 (by omega),h 2 (by omega),h 3 (by omega)⟩
theorem E4.at {x:Cr} {P:Int->Prop} (h:E4 x P) {p:Nat} (hp:p<4):P (DD.en x p):=by
 match p,hp with
 | 0,_=>exact h.1
 | 1,_=>exact h.2.1
 | 2,_=>exact h.2.2.1
 | 3,_=>exact h.2.2.2
theorem end_of {x:Cr} {p:Nat} (hp:p<4):bu.p F x.1 x.2.1 x.2.2.1 x.2.2.2.1 (p:Int)=some (DD.en x p):=by
 unfold bu.p
 rw [DD.ixn (by simp;omega),Option.bind_some];rfl
theorem with_of {x:Cr} {p:Nat} {a:Int} (hp:p<4):∃ y:Cr,bY.p F x.1 x.2.1 x.2.2.1 x.2.2.2.1 x.2.2.2.2 (p:Int) a=some y/\DD.en y p=a/\∀ q:Nat,q<4->q≠p->DD.en y q=DD.en x q:=by
 unfold bY.p
 have q4:∀ (P:Nat->Prop),P 0->P 1->P 2->P 3->∀ q:Nat,q<4->P q:=λP a b c d q hq=>by
  match q,hq with
  | 0,_=>exact a
  | 1,_=>exact b
  | 2,_=>exact c
  | 3,_=>exact d
 match p,hp with
 | 0,_=>exact ⟨_,rfl,rfl,q4 _ (λh=>absurd rfl h) (λ_=>rfl) (λ_=>rfl) (λ_=>rfl)⟩
 | 1,_=>exact ⟨_,rfl,rfl,q4 _ (λ_=>rfl) (λh=>absurd rfl h) (λ_=>rfl) (λ_=>rfl)⟩
 | 2,_=>exact ⟨_,rfl,rfl,q4 _ (λ_=>rfl) (λ_=>rfl) (λh=>absurd rfl h) (λ_=>rfl)⟩
 | 3,_=>exact ⟨_,rfl,rfl,q4 _ (λ_=>rfl) (λ_=>rfl) (λ_=>rfl) (λh=>absurd rfl h)⟩
def Q (n st:Nat) (at_:List Int) (i:Nat) (e:Int):Prop:=(0<=e/\e<2 * (n:Int))\/∃ j:Nat,i<=j/\j<st/\e=-1 - (j:Int)/\0<=gt at_ j
structure At (n st:Nat) (at_:List Int):Prop where
 len:at_.length=st
 val:∀ j:Nat,j<st->gt at_ j=-1 - (j:Int)\/(0<=gt at_ j/\gt at_ j<2 * (n:Int))
theorem fin_p {C1 C2} {n st i c:Nat} {at_:List Int} {sti circ:Int} (ha:At n st at_) (hi:i<st) (hst:st<=100) (hc:c<n) (hn:n<=1000):∀ (m g p:Nat) (D:List Cr),4 - p=m->m<g->p<=4->D.length=n ->
  (∀ c':Nat,c'<n->c'≠c->∀ q:Nat,q<4->(c'<c->Q n st at_ (i+1) (DD.en (gt D c') q))/\(c<c'->Q n st at_ i (DD.en (gt D c') q)))->(∀ q:Nat,q<4->(q<p->Q n st at_ (i+1) (DD.en (gt D c) q))/\(p<=q->Q n st at_ i (DD.en (gt D c) q))) ->
  ∃ D':List Cr,ah.pl260789 F C1 C2 g sti D circ at_ (i:Int) (c:Int) (p:Int)=C2 sti D' circ at_ (i:Int) ((c+1:Nat):Int)/\D'.length=n/\∀ c':Nat,c'<n->∀ q:Nat,q<4->(c'<c+1->Q n st at_ (i+1) (DD.en (gt D' c') q))/\(c+1<=c'->Q n st at_ i (DD.en (gt D' c') q)):=by
 intro m
 induction m with
 | zero=>
  intro g p D hm hg hp hD h1 h2
  obtain ⟨g,rfl⟩:∃ g',g=g'+1:=⟨g - 1,by omega⟩
  rw [ah.pl260789,decide_eq_false (by omega),cond_false]
  unfold ah.pj21 ah.pj20
  rw [DD.ws (by omega)]
  refine ⟨D,rfl,hD,λc' hc' q hq=>?_⟩
  by_cases e:c'=c
  ·subst e;exact ⟨λ_=>(h2 q hq).1 (by omega),λh=>by omega⟩
  ·have:=h1 c' hc' e q hq
   exact ⟨λh=>this.1 (by omega),λh=>this.2 (by omega)⟩
 | succ m ih=>
  intro g p D hm hg hp hD h1 h2
  obtain ⟨g,rfl⟩:∃ g',g=g'+1:=⟨g - 1,by omega⟩
  have hp4:p<4:=by omega
  have hcl:c<D.length:=by omega
  rw [ah.pl260789,decide_eq_true (by omega),cond_true,DD.ixn hcl,Option.bind_some,end_of hp4,Option.bind_some,bo (x:=-1 - (i:Int)) (by omega) (by omega),Option.bind_some]
  have hQ:=(h2 p hp4).2 (Nat.le_refl _)
  by_cases e:DD.en (gt D c) p=-1 - (i:Int)
  ·have hai:0<=gt at_ i/\gt at_ i<2 * (n:Int):=by
    rcases hQ with q | ⟨j,q1,q2,q3,q4⟩
    ·omega
    ·have:j=i:=by omega
     subst this
     rcases ha.val j q2 with v | v
     ·omega
     ·exact v
   rw [e,beq_self_eq_true,cond_true,DD.ixn (show i<at_.length by rw [ha.len];exact hi),Option.bind_some]
   obtain ⟨y,y1,y2,y3⟩:=with_of (F:=F) (x:=gt D c) (a:=gt at_ i) hp4
   rw [y1]
   simp (disch:=(first | exact hcl | (simp only [List.length_set];exact hcl))) only [Option.bind_some,DD.gset_eq,List.set_set]
   unfold ah.pj22
   rw [DD.ws (by omega)]
   exact ih g (p+1) (D.set c y) (by omega) (by omega) (by omega) (by rw [List.length_set];exact hD) (λc' hc' hne q hq=>by rw [DD.gset_ne (Ne.symm hne)];exact h1 c' hc' hne q hq) (λq hq=>by
    rw [DD.gset_eq hcl]
    by_cases eq:q=p
    ·subst eq;rw [y2];exact ⟨λ_=>.inl hai,λh=>by omega⟩
    ·rw [y3 q hq eq];exact ⟨λh=>(h2 q hq).1 (by omega),λh=>(h2 q hq).2 (by omega)⟩)
  ·rw [show (DD.en (gt D c) p==-1 - (i:Int))=false from beq_eq_false_iff_ne.2 e,cond_false]
   unfold ah.pj22
   rw [DD.ws (by omega)]
   exact ih g (p+1) D (by omega) (by omega) (by omega) hD h1 (λq hq=>⟨λh=>by
    by_cases eq:q=p
    ·subst eq
     rcases hQ with q' | ⟨j,q1,q2,q3,q4⟩
     ·exact .inl q'
     ·have:j≠i:=λe'=>e (by rw [q3,e'])
      exact .inr ⟨j,by omega,q2,q3,q4⟩
    ·exact (h2 q hq).1 (by omega),λh=>(h2 q hq).2 (by omega)⟩)
theorem fin_c {C1} {n st i:Nat} {at_:List Int} {sti circ:Int} (ha:At n st at_) (hi:i<st) (hst:st<=100) (hn:n<=1000) (hF:5000000<F):∀ (m g c:Nat) (D:List Cr),n - c=m->m<g->c<=n->D.length=n ->
  (∀ c':Nat,c'<n->∀ q:Nat,q<4->(c'<c->Q n st at_ (i+1) (DD.en (gt D c') q))/\(c<=c'->Q n st at_ i (DD.en (gt D c') q))) ->
  ∃ D':List Cr,ah.pl16299 F C1 g sti D circ at_ (i:Int) (c:Int)=C1 sti D' circ at_ ((i+1:Nat):Int)/\D'.length=n/\∀ c':Nat,c'<n->∀ q:Nat,q<4->Q n st at_ (i+1) (DD.en (gt D' c') q):=by
 intro m
 induction m with
 | zero=>
  intro g c D hm hg hc hD h1
  obtain ⟨g,rfl⟩:∃ g',g=g'+1:=⟨g - 1,by omega⟩
  rw [ah.pl16299,decide_eq_false (by omega),cond_false]
  unfold ah.pj18 ah.pj17
  rw [DD.ws (by omega)]
  exact ⟨D,rfl,hD,λc' hc' q hq=>(h1 c' hc' q hq).1 (by omega)⟩
 | succ m ih=>
  intro g c D hm hg hc hD h1
  obtain ⟨g,rfl⟩:∃ g',g=g'+1:=⟨g - 1,by omega⟩
  rw [ah.pl16299,decide_eq_true (by omega),cond_true]
  obtain ⟨D',e1,e2,e3⟩:=fin_p (F:=F) (C1:=C1) (C2:=ah.pl16299 F C1 g) (sti:=sti) (circ:=circ) ha hi hst (show c<n by omega) hn 4 F 0 D (by omega) (by omega) (by omega) hD (λc' hc' hne q hq=>⟨λh=>(h1 c' hc' q hq).1 h,λh=>(h1 c' hc' q hq).2 (by omega)⟩) (λq hq=>⟨λh=>by omega,λ_=>(h1 c (by omega) q hq).2 (Nat.le_refl _)⟩)
  have e1:ah.pl260789 F C1 (ah.pl16299 F C1 g) F sti D circ at_ (i:Int) (c:Int) 0=_:=e1
  rw [e1]
  exact ih g (c+1) D' (by omega) (by omega) (by omega) e2 e3
theorem fin_i {n st:Nat} {at_:List Int} (ha:At n st at_) (hst:st<=100) (hn:n<=1000) (hF:5000000<F):∀ (m g i:Nat) (D:List Cr) (circ:Int),st - i=m->m<g->i<=st->D.length=n->-1000<=circ->circ<=i ->
  (∀ c':Nat,c'<n->∀ q:Nat,q<4->Q n st at_ i (DD.en (gt D c') q)) ->
  ∃ (D':List Cr) (circ':Int),ah.pl509 F g (st:Int) D circ at_ (i:Int)=some (D',circ')/\D'.length=n/\∀ c':Nat,c'<n->E4 (gt D' c') λe=>0<=e/\e<2 * (n:Int):=by
 intro m
 induction m with
 | zero=>
  intro g i D circ hm hg hi hD hc0 hc1 h
  obtain ⟨g,rfl⟩:∃ g',g=g'+1:=⟨g - 1,by omega⟩
  rw [ah.pl509,decide_eq_false (by omega),cond_false]
  refine ⟨D,circ,rfl,hD,λc' hc'=>E4.en λp hp=>?_⟩
  rcases h c' hc' p hp with q | ⟨j,q1,q2,_⟩
  ·exact q
  ·omega
 | succ m ih=>
  intro g i D circ hm hg hi hD hc0 hc1 h
  obtain ⟨g,rfl⟩:∃ g',g=g'+1:=⟨g - 1,by omega⟩
  have go:∀ circ:Int,-1000<=circ->circ<=((i+1:Nat):Int)->∃ (D':List Cr) (circ':Int),ah.pj23 F (ah.pl509 F g) (st:Int) D circ at_ (i:Int)=some (D',circ')/\D'.length=n/\∀ c':Nat,c'<n->E4 (gt D' c') λe=>0<=e/\e<2 * (n:Int):=λcirc k0 k1=>by
   unfold ah.pj23
   obtain ⟨D',e1,e2,e3⟩:=fin_c (F:=F) (C1:=ah.pl509 F g) (sti:=(st:Int)) (circ:=circ) ha (show i<st by omega) hst hn hF n F 0 D (by omega) (by omega) (by omega) hD (λc' hc' q hq=>⟨λh'=>by omega,λ_=>h c' hc' q hq⟩)
   have e1:ah.pl16299 F (ah.pl509 F g) F (st:Int) D circ at_ (i:Int) 0=_:=e1
   rw [e1]
   exact ih g (i+1) D' circ (by omega) (by omega) (by omega) e2 k0 k1 e3
  rw [ah.pl509,decide_eq_true (by omega),cond_true,DD.ixn (show i<at_.length by rw [ha.len];omega),Option.bind_some]
  cases decide (gt at_ i<0) with
  | true=>rw [cond_true,bo (x:=circ+1) (by omega) (by omega)];exact go (circ+1) (by omega) (by omega)
  | false=>rw [cond_false];exact go circ hc0 (by omega)
end Go.Proofs.Ytodfdhnlhiaohaa.AE
end
section
namespace Go.Proofs.Ytodfdhnlhiaohaa.AE
open Go Go.AE Go.Proofs
variable {F:Nat}
theorem abs_of {x:Int} (h:-1000<=x/\x<=1000):cw.p F x=some ((x.natAbs:Nat):Int):=by
 unfold cw.p
 rw [bo (x:=0 - x) (by omega) (by omega)]
 congr 1
 split <;> omega
def Wd (st:Nat) (w:List Int):Prop:=∀ k:Nat,k<w.length->1<=(gt w k).natAbs/\(gt w k).natAbs<st
theorem word_l {st:Nat} {w:List Int} (hw:Wd st w) (hl:w.length<=100) (hst:st<=100) (hF:5000000<F):∀ (m g k:Nat) (D:List Cr) (at_:List Int),w.length - k=m->m<g->k<=w.length->D.length=k->At k st at_->(∀ c':Nat,c'<k->∀ q:Nat,q<4->Q k st at_ 0 (DD.en (gt D c') q)) ->
  ∃ (D':List Cr) (circ':Int),ah.pl253 F g (st:Int) w D 0 at_ (2 * (k:Int)) (k:Int)=some (D',circ')/\D'.length=w.length/\∀ c':Nat,c'<w.length->E4 (gt D' c') λe=>0<=e/\e<2 * (w.length:Int):=by
 intro m
 induction m with
 | zero=>
  intro g k D at_ hm hg hk hD ha hQ
  obtain ⟨g,rfl⟩:∃ g',g=g'+1:=⟨g - 1,by omega⟩
  have hkk:k=w.length:=by omega
  subst hkk
  rw [ah.pl253,decide_eq_false (by omega),cond_false]
  unfold ah.pj24
  exact fin_i ha hst (by omega) hF st F 0 D 0 (by omega) (by omega) (by omega) hD (by omega) (by omega) hQ
 | succ m ih=>
  intro g k D at_ hm hg hk hD ha hQ
  obtain ⟨g,rfl⟩:∃ g',g=g'+1:=⟨g - 1,by omega⟩
  have hkw:k<w.length:=by omega
  obtain ⟨b1,b2⟩:=hw k hkw
  obtain ⟨i,hi⟩:∃ i:Nat,(gt w k).natAbs=i+1:=⟨(gt w k).natAbs - 1,by omega⟩
  have hlen:=ha.len
  rw [ah.pl253,decide_eq_true (by omega),cond_true,DD.ixn hkw,Option.bind_some,abs_of (by omega),Option.bind_some,Option.bind_some,hi,bo (x:=(((i+1:Nat)):Int) - 1) (by omega) (by omega),show (((i+1:Nat)):Int) - 1=(i:Int) by omega,DD.ws (by omega),bo (x:=2 * (k:Int)+2) (by omega) (by omega),bo (x:=2 * (k:Int)+1) (by omega) (by omega)]
  have va:=ha.val i (by omega)
  have vb:=ha.val (i+1) (by omega)
  -- behind a letter
  have go:∀ x:Cr,(∀ q:Nat,q<4->DD.en x q=gt at_ i\/DD.en x q=gt at_ (i+1)\/DD.en x q=2 * (k:Int)\/DD.en x q=2 * (k:Int)+1) ->
    ∃ (D':List Cr) (circ':Int),ah.pj25 F (ah.pl253 F g) (st:Int) w (D++[x]) 0 at_ (2 * (k:Int)+2) (k:Int) (i:Int) (2 * (k:Int)) (2 * (k:Int)+1)=some (D',circ')/\D'.length=w.length/\∀ c':Nat,c'<w.length->E4 (gt D' c') λe=>0<=e/\e<2 * (w.length:Int):=by
   intro x hx
   unfold ah.pj25
   rw [DD.ixn (show i<at_.length by omega),Option.bind_some,Option.bind_some,DD.ws (by omega),DD.ixn (by rw [List.length_set];omega),Option.bind_some,Option.bind_some,DD.ws (by omega),show 2 * (k:Int)+2=2 * ((k+1:Nat):Int) by omega]
   have hv:∀ j:Nat,j<st->gt ((at_.set i (2 * (k:Int))).set (i+1) (2 * (k:Int)+1)) j=if j=i then 2 * (k:Int) else if j=i+1 then 2 * (k:Int)+1 else gt at_ j:=λj hj=>by
    by_cases e1:j=i+1
    ·subst e1;rw [DD.gset_eq (by rw [List.length_set];omega),if_neg (by omega),if_pos rfl]
    ·rw [DD.gset_ne (Ne.symm e1)]
     by_cases e2:j=i
     ·subst e2;rw [DD.gset_eq (by omega),if_pos rfl]
     ·rw [DD.gset_ne (Ne.symm e2),if_neg e2,if_neg e1]
   have ha':At (k+1) st ((at_.set i (2 * (k:Int))).set (i+1) (2 * (k:Int)+1)):=⟨by rw [List.length_set,List.length_set];exact hlen,λj hj=>by
    rw [hv j hj]
    by_cases e2:j=i
    ·rw [if_pos e2];right;omega
    ·rw [if_neg e2]
     by_cases e1:j=i+1
     ·rw [if_pos e1];right;omega
     ·rw [if_neg e1]
      rcases ha.val j hj with v | v
      ·exact .inl v
      ·right;omega⟩
   have hup:∀ j:Nat,j<st->0<=gt at_ j->0<=gt ((at_.set i (2 * (k:Int))).set (i+1) (2 * (k:Int)+1)) j:=λj hj h0=>by
    rw [hv j hj];split
    ·omega
    ·split <;> omega
   refine ih g (k+1) (D++[x]) _ (by omega) (by omega) (by omega) (by rw [List.length_append];simp;omega) ha' (λc' hc' q hq=>?_)
   by_cases e:c'<k
   ·rw [DD.gapp_lt (by omega)]
    rcases hQ c' e q hq with h | ⟨j,h1,h2,h3,h4⟩
    ·exact .inl (by omega)
    ·exact .inr ⟨j,h1,h2,h3,hup j h2 h4⟩
   ·have:c'=D.length:=by omega
    subst this
    rw [DD.gapp_eq]
    have ti:∀ j:Nat,j=i\/j=i+1->Q (D.length+1) st ((at_.set i (2 * (D.length:Int))).set (i+1) (2 * (D.length:Int)+1)) 0 (gt at_ j):=λj hj=>by
     rcases ha.val j (by omega) with v | v
     ·refine .inr ⟨j,Nat.zero_le _,by omega,v,?_⟩
      rw [hD,hv j (by omega)]
      rcases hj with r | r
      ·rw [if_pos r];omega
      ·rw [if_neg (by omega),if_pos r];omega
     ·exact .inl (by omega)
    rw [hD] at ti
    rcases hx q hq with h | h | h | h
    ·rw [h];exact ti i (.inl rfl)
    ·rw [h];exact ti (i+1) (.inr rfl)
    ·rw [h];exact .inl (by omega)
    ·rw [h];exact .inl (by omega)
  have q4:∀ (x:Cr) (P:Int->Prop),P x.1->P x.2.1->P x.2.2.1->P x.2.2.2.1->∀ q:Nat,q<4->P (DD.en x q):=λx P a b c d q hq=>E4.at (P:=P) ⟨a,b,c,d⟩ hq
  cases decide (gt w k>0) with
  | true=>
   rw [cond_true,DD.ixn (show i+1<at_.length by omega),Option.bind_some,DD.ixn (show i<at_.length by omega),Option.bind_some,apn1 (by omega),Option.bind_some]
   exact go _ (q4 _ (λe=>e=gt at_ i\/e=gt at_ (i+1)\/e=2 * (k:Int)\/e=2 * (k:Int)+1) (.inr (.inl rfl)) (.inr (.inr (.inr rfl))) (.inr (.inr (.inl rfl))) (.inl rfl))
  | false=>
   rw [cond_false,DD.ixn (show i<at_.length by omega),Option.bind_some,DD.ixn (show i+1<at_.length by omega),Option.bind_some,apn1 (by omega),Option.bind_some]
   exact go _ (q4 _ (λe=>e=gt at_ i\/e=gt at_ (i+1)\/e=2 * (k:Int)\/e=2 * (k:Int)+1) (.inl rfl) (.inr (.inl rfl)) (.inr (.inr (.inr rfl))) (.inr (.inr (.inl rfl))))
theorem strands_l {st:Nat} {w:List Int} (hw:Wd st w) (hl:w.length<=100) (hst:st<=100) (hF:5000000<F):∀ (m g j:Nat) (at_:List Int),st - j=m->m<g->j<=st->at_.length=j->(∀ i:Nat,i<j->gt at_ i=-1 - (i:Int)) ->
  ∃ (D':List Cr) (circ':Int),ah.pl61 F g (st:Int) w [] 0 at_ (j:Int)=some (D',circ')/\D'.length=w.length/\∀ c':Nat,c'<w.length->E4 (gt D' c') λe=>0<=e/\e<2 * (w.length:Int):=by
 intro m
 induction m with
 | zero=>
  intro g j at_ hm hg hj ha hv
  obtain ⟨g,rfl⟩:∃ g',g=g'+1:=⟨g - 1,by omega⟩
  rw [ah.pl61,decide_eq_false (by omega),cond_false]
  unfold ah.pj26
  exact word_l hw hl hst hF w.length F 0 [] at_ (by omega) (by omega) (by omega) rfl ⟨by omega,λi hi=>.inl (hv i (by omega))⟩ (λc' hc'=>by omega)
 | succ m ih=>
  intro g j at_ hm hg hj ha hv
  obtain ⟨g,rfl⟩:∃ g',g=g'+1:=⟨g - 1,by omega⟩
  rw [ah.pl61,decide_eq_true (by omega),cond_true,apn1 (by omega),Option.bind_some,DD.ws (by omega),bo (x:=-1 - (j:Int)) (by omega) (by omega)]
  refine ih g (j+1) _ (by omega) (by omega) (by omega) (by rw [List.length_append];simp;omega) (λi hi=>?_)
  by_cases e:i<at_.length
  ·rw [DD.gapp_lt e];exact hv i (by omega)
  ·have:i=at_.length:=by omega
   subst this;rw [DD.gapp_eq,ha]
theorem closure_of {st:Nat} {w:List Int} (hw:Wd st w) (hl:w.length<=100) (hst:st<=100) (hF:5000000<F) :
  ∃ (D':List Cr) (circ':Int),ah.p F (st:Int) w=some (D',circ')/\D'.length=w.length/\∀ c':Nat,c'<w.length->E4 (gt D' c') λe=>0<=e/\e<2 * (w.length:Int):=by
 unfold ah.p
 exact strands_l hw hl hst hF st F 0 [] (by omega) (by omega) (by omega) rfl (λi hi=>by omega)
theorem renum_l {n:Nat} {D:List Cr} {arcs order:List Int} {circ:Int} (hn:n<=100) (hD:D.length=n) (hE:∀ c':Nat,c'<n->E4 (gt D c') λe=>0<=e/\e<2 * (n:Int)) (ha:Ord (2 * (n:Int)) arcs) (ho:Ord (n:Int) order):∀ (m g k:Nat) (O:List Cr),order.length - k=m->m<g->k<=order.length->O.length=k ->
  ∃ O':List Cr,bC.pl29 F g arcs order D O circ (k:Int)=some (O',circ)/\O'.length=order.length:=by
 have hol:=ho.1
 have hal:=ha.1
 intro m
 induction m with
 | zero=>
  intro g k O hm hg hk hO
  obtain ⟨g,rfl⟩:∃ g',g=g'+1:=⟨g - 1,by omega⟩
  rw [bC.pl29,decide_eq_false (by omega),cond_false]
  exact ⟨O,rfl,by omega⟩
 | succ m ih=>
  intro g k O hm hg hk hO
  obtain ⟨g,rfl⟩:∃ g',g=g'+1:=⟨g - 1,by omega⟩
  have hkl:k<order.length:=by omega
  have v:=ho.2 k hkl
  obtain ⟨e1,e2,e3,e4⟩:=hE (gt order k).toNat (by omega)
  rw [bC.pl29,decide_eq_true (by omega),cond_true,DD.ixn hkl,Option.bind_some,ix_of (l:=D) v.1 (by omega),Option.bind_some,ix_of (l:=arcs) e1.1 (by omega),Option.bind_some,ix_of (l:=arcs) e2.1 (by omega),Option.bind_some,ix_of (l:=arcs) e3.1 (by omega),Option.bind_some,ix_of (l:=arcs) e4.1 (by omega),Option.bind_some,apn1 (by omega),Option.bind_some,DD.ws (by omega)]
  exact ih g (k+1) _ (by omega) (by omega) (by omega) (by rw [List.length_append];simp;omega)
theorem small_end {c:List Int} {a s:Int} {st:Nat} {w:List Int} (hF:5000000<F) (h:Src c a s) (hw:Wd st w) (hl:w.length<=10) (hst:st<=100) :
  ∃ (D':List Cr) (circ a' s':Int),aL.pj2 F c a s (st:Int) w=some (D',circ,a',s')/\D'.length<=10/\Src c a' s':=by
 unfold aL.pj2
 obtain ⟨D,circ,e1,e2,e3⟩:=closure_of (F:=F) hw (by omega) hst hF
 obtain ⟨r,a1,s1,f1,h1,_,_⟩:=nx (F:=F) (n:=3) h (by omega)
 rw [e1,Option.bind_some,f1,Option.bind_some]
 simp only []
 cases (r==0) with
 | true=>exact ⟨D,circ,a1,s1,rfl,by omega,h1⟩
 | false=>
  rw [cond_false,bo (x:=2 * (D.length:Int)) (by omega) (by omega)]
  obtain ⟨l1,a2,s2,g1,o1,h2⟩:=order_of (F:=F) (nn:=2 * (D.length:Int)) hF h1 (by omega) (by omega)
  obtain ⟨l2,a3,s3,g2,o2,h3⟩:=order_of (F:=F) (nn:=(D.length:Int)) hF h2 (by omega) (by omega)
  rw [g1,Option.bind_some]
  simp only []
  rw [g2,Option.bind_some]
  simp only []
  obtain ⟨O,k1,k2⟩:=renum_l (F:=F) (n:=D.length) (circ:=circ) (by omega) rfl (by rw [e2];exact e3) o1 o2 l2.length F 0 [] (by omega) (by have:=o2.1;omega) (by omega) rfl
  have k1:bC.p F D circ l1 l2=_:=k1
  rw [k1]
  have:=o2.1
  exact ⟨O,circ,a3,s3,rfl,by omega,h3⟩
theorem small_l {c:List Int} {st:Nat} (hF:5000000<F) (hst:st<=100):∀ (m g:Nat) (a s:Int) (w:List Int) (k:Int),k.toNat=m->m<g->w.length+k.toNat<=10->Wd st w->Src c a s ->
  ∃ (D':List Cr) (circ a' s':Int),aL.pl61 F g c a s (st:Int) w k=some (D',circ,a',s')/\D'.length<=10/\Src c a' s':=by
 intro m
 induction m with
 | zero=>
  intro g a s w k hk hg hl hw h
  obtain ⟨g,rfl⟩:∃ g',g=g'+1:=⟨g - 1,by omega⟩
  rw [aL.pl61,decide_eq_false (by omega),cond_false]
  exact small_end hF h hw (by omega) hst
 | succ m ih=>
  intro g a s w k hk hg hl hw h
  obtain ⟨g,rfl⟩:∃ g',g=g'+1:=⟨g - 1,by omega⟩
  rw [aL.pl61,decide_eq_true (by omega),cond_true]
  by_cases h1:(st:Int)>1
  ·rw [decide_eq_true h1,cond_true,bo (x:=(st:Int) - 1) (by omega) (by omega)]
   obtain ⟨r,a1,s1,e1,h1',r0,r1⟩:=nx (F:=F) (n:=(st:Int) - 1) h (by omega)
   obtain ⟨q,a2,s2,e2,h2,_,_⟩:=nx (F:=F) (n:=3) h1' (by omega)
   rw [e1,Option.bind_some]
   simp only []
   rw [e2,Option.bind_some]
   simp only []
   have app:∀ x:Int,1<=x.natAbs->x.natAbs<st->Wd st (w++[x]):=λx x1 x2 j hj=>by
    rw [List.length_append] at hj
    by_cases e:j<w.length
    ·rw [DD.gapp_lt e];exact hw j e
    ·have:j=w.length:=by simp at hj;omega
     subst this;rw [DD.gapp_eq];exact ⟨x1,x2⟩
   have nxt:∀ x:Int,1<=x.natAbs->x.natAbs<st->∃ (D':List Cr) (circ a' s':Int),aL.pj3 F (aL.pl61 F g) c a2 s2 (st:Int) w k x=some (D',circ,a',s')/\D'.length<=10/\Src c a' s':=λx x1 x2=>by
    unfold aL.pj3
    rw [apn1 (by omega),Option.bind_some,bo (x:=k - 1) (by omega) (by omega)]
    exact ih g a2 s2 _ (k - 1) (by omega) (by omega) (by rw [List.length_append];simp;omega) (app x x1 x2) h2
   rw [bo (x:=1+r) (by omega) (by omega),bo (x:=0 - (1+r)) (by omega) (by omega)]
   cases (q==0) with
   | true=>exact nxt _ (by omega) (by omega)
   | false=>exact nxt _ (by omega) (by omega)
  ·rw [decide_eq_false h1,cond_false]
   exact small_end hF h hw (by omega) hst
theorem small_of {c:List Int} {a s most:Int} (hF:5000000<F) (h:Src c a s) (h0:0<=most) (h1:most<=10) :
  ∃ (D':List Cr) (circ a' s':Int),aL.p F c a s most=some (D',circ,a',s')/\D'.length<=10/\Src c a' s':=by
 unfold aL.p
 obtain ⟨r,a1,s1,e1,h1',r0,r1⟩:=nx (F:=F) (n:=3) h (by omega)
 rw [bo (x:=most+1) (by omega) (by omega)]
 obtain ⟨q,a2,s2,e2,h2,q0,q1⟩:=nx (F:=F) (n:=most+1) h1' (by omega)
 rw [e1,Option.bind_some]
 simp only []
 rw [e2,Option.bind_some]
 simp only []
 rw [bo (x:=1+r) (by omega) (by omega),show 1+r=((1+r.toNat:Nat):Int) by omega]
 exact small_l hF (by omega) _ F a2 s2 [] q rfl (by omega) (by simp;omega) (λk hk=>by simp at hk) h2
end Go.Proofs.Ytodfdhnlhiaohaa.AE
end
section
namespace Go.Proofs.Ytodfdhnlhiaohaa.AE
open Go Go.AE Go.Proofs
variable {F:Nat}
def mv (n:Int) (x:Cr):Cr:=(x.1+n,x.2.1+n,x.2.2.1+n,x.2.2.2.1+n,x.2.2.2.2)
theorem mv_en {n:Int} {x:Cr} {p:Nat} (hp:p<4):DD.en (mv n x) p=DD.en x p+n:=by
 match p,hp with
 | 0,_=>rfl
 | 1,_=>rfl
 | 2,_=>rfl
 | 3,_=>rfl
theorem mv_ent {n:Int} {x:Cr} {p:Nat}:DD.ent (mv n x) p=DD.ent x p:=rfl
theorem union_l {D E:List Cr} {circ n:Int} (hD:D.length<=10) (hE:E.length<=10) (hn:0<=n/\n<=100) (hb:∀ c':Nat,c'<E.length->E4 (gt E c') λe=>0<=e/\e<=100):∀ (m g k:Nat) (O:List Cr),E.length - k=m->m<g->k<=E.length->O.length=D.length+k ->
  (∀ i:Nat,i<D.length->gt O i=gt D i)->(∀ i:Nat,i<k->gt O (D.length+i)=mv n (gt E i)) ->
  ∃ O':List Cr,bN.pl125 F g E O circ n (k:Int)=some (O',circ)/\O'.length=D.length+E.length/\(∀ i:Nat,i<D.length->gt O' i=gt D i)/\(∀ i:Nat,i<E.length->gt O' (D.length+i)=mv n (gt E i)):=by
 intro m
 induction m with
 | zero=>
  intro g k O hm hg hk hO h1 h2
  obtain ⟨g,rfl⟩:∃ g',g=g'+1:=⟨g - 1,by omega⟩
  rw [bN.pl125,decide_eq_false (by omega),cond_false]
  exact ⟨O,rfl,by omega,h1,λi hi=>h2 i (by omega)⟩
 | succ m ih=>
  intro g k O hm hg hk hO h1 h2
  obtain ⟨g,rfl⟩:∃ g',g=g'+1:=⟨g - 1,by omega⟩
  have hkl:k<E.length:=by omega
  obtain ⟨b1,b2,b3,b4⟩:=hb k hkl
  rw [bN.pl125,decide_eq_true (by omega),cond_true,DD.ixn hkl,Option.bind_some,apn1 (by omega),Option.bind_some,DD.ws (by omega),bo (x:=(gt E k).1+n) (by omega) (by omega),bo (x:=(gt E k).2.1+n) (by omega) (by omega),bo (x:=(gt E k).2.2.1+n) (by omega) (by omega),bo (x:=(gt E k).2.2.2.1+n) (by omega) (by omega)]
  refine ih g (k+1) (O++[mv n (gt E k)]) (by omega) (by omega) (by omega) (by rw [List.length_append];simp;omega) (λi hi=>by rw [DD.gapp_lt (by omega)];exact h1 i hi) (λi hi=>?_)
  by_cases e:i<k
  ·rw [DD.gapp_lt (by omega)];exact h2 i e
  ·have:i=k:=by omega
   subst this
   rw [<- hO,DD.gapp_eq]
structure Un (D E O:List Cr):Prop where
 td:∃ t,DD.TB D t
 te:∃ t,DD.TB E t
 len:O.length=D.length+E.length
 l10:D.length+E.length<=10
 l:∀ i:Nat,i<D.length->gt O i=gt D i
 r:∀ i:Nat,i<E.length->gt O (D.length+i)=mv (2 * (D.length:Int)) (gt E i)
theorem unions {D E:List Cr} {c c':Int} (hF:5000000<F) (hD:D.length<=10) (hE:E.length<=10) :
  ∃ (O:List Cr) (circ e:Int),cW.p F D c E c'=some (O,circ,e)/\(e=0->Un D E O):=by
 unfold cW.p
 rcases DD.isDr (F:=F) (c:=c) (D:=D) (by omega) hF with ⟨a,_⟩ | ⟨a,t,R,s,u,h⟩
 ·rw [a];exact ⟨[],0,1,rfl,λh=>by omega⟩
 ·rw [a,Option.bind_some,Bool.not_true,cond_false]
  rcases DD.isDr (F:=F) (c:=c') (D:=E) (by omega) hF with ⟨a',_⟩ | ⟨a',t',R',s',u',h'⟩
  ·rw [a'];exact ⟨[],0,1,rfl,λh=>by omega⟩
  ·rw [a',Option.bind_some,Bool.not_true,cond_false,bo (x:=(D.length:Int)+E.length) (by omega) (by omega)]
   by_cases h10:(D.length:Int)+E.length>10
   ·rw [decide_eq_true h10,cond_true];exact ⟨[],0,3,rfl,λh=>by omega⟩
   ·rw [decide_eq_false h10,cond_false]
    have q0:=h.c0
    have q1:=h'.c0
    have q2:=h.c8
    have q3:=h'.c8
    rw [bo (x:=c+c') (by omega) (by omega)]
    by_cases h8:c+c'>8
    ·rw [decide_eq_true h8,cond_true];exact ⟨[],0,3,rfl,λh=>by omega⟩
    ·rw [decide_eq_false h8,cond_false]
     unfold bN.p
     have ap:apn ([]:List Cr) D=some D:=by unfold apn;rw [if_pos (by simp;omega),List.nil_append]
     rw [ap,Option.bind_some,bo (x:=c+c') (by omega) (by omega),bo (x:=2 * (D.length:Int)) (by omega) (by omega)]
     obtain ⟨O,e1,e2,e3,e4⟩:=union_l (F:=F) (D:=D) (E:=E) (circ:=c+c') (n:=2 * (D.length:Int)) hD hE (by omega) (λi hi=>E4.en λp hp=>by
      obtain ⟨x,x1,x2⟩:=DD.en_at h'.tb hi hp
      omega) E.length F 0 D (by omega) (by omega) (by omega) rfl (λi hi=>rfl) (λi hi=>by omega)
     have e1:bN.pl125 F F E D (c+c') (2 * (D.length:Int)) 0=_:=e1
     rw [e1]
     exact ⟨O,c+c',0,rfl,λ_=>⟨⟨t,h.tb⟩,⟨t',h'.tb⟩,e2,by omega,e3,e4⟩⟩
theorem place_p {C} {O:List Cr} {a:Int} {b:Bool} {c:Nat} (hs:∀ x∈O,DD.SgOk x) (hc:c<O.length) (hl:O.length<=100):∀ (m g p:Nat),4 - p=m->m<g->p<=4 ->
  (∃ q:Nat,q<4/\ax.pl213 F C g a b O (c:Int) (p:Int)=some ((c:Int),(q:Int)))\/((∀ q:Nat,p<=q->q<4->¬ (DD.en (gt O c) q=a/\DD.ent (gt O c) q=b))/\ax.pl213 F C g a b O (c:Int) (p:Int)=C a b O ((c+1:Nat):Int)):=by
 intro m
 induction m with
 | zero=>
  intro g p hm hg hp
  obtain ⟨g,rfl⟩:∃ g',g=g'+1:=⟨g - 1,by omega⟩
  right
  refine ⟨λq h1 h2=>by omega,?_⟩
  rw [ax.pl213,decide_eq_false (by omega),cond_false]
  unfold ax.pj4 ax.pj3
  rw [DD.ws (by omega)]
 | succ m ih=>
  intro g p hm hg hp
  obtain ⟨g,rfl⟩:∃ g',g=g'+1:=⟨g - 1,by omega⟩
  rw [DD.place_step (F:=F) (b:=b) hs hc (show p<4 by omega)]
  by_cases h:DD.en (gt O c) p=a/\DD.ent (gt O c) p=b
  ·left
   refine ⟨p,by omega,?_⟩
   rw [h.1,h.2,beq_self_eq_true,beq_self_eq_true];rfl
  ·have hf:(DD.en (gt O c) p==a&&DD.ent (gt O c) p==b)=false:=by
    rw [Bool.and_eq_false_iff,beq_eq_false_iff_ne,beq_eq_false_iff_ne]
    by_cases h1:DD.en (gt O c) p=a
    ·exact .inr λh2=>h ⟨h1,h2⟩
    ·exact .inl h1
   rw [hf,cond_false]
   rcases ih g (p+1) (by omega) (by omega) (by omega) with ⟨q,q1,q2⟩ | ⟨q1,q2⟩
   ·exact .inl ⟨q,q1,q2⟩
   ·refine .inr ⟨λq h1 h2=>?_,q2⟩
    by_cases e:q=p
    ·subst e;exact h
    ·exact q1 q (by omega) h2
theorem place_c {O:List Cr} {a:Int} {b:Bool} {i p:Nat} (hs:∀ x∈O,DD.SgOk x) (hl:O.length<=100) (hF:5000000<F) (hi:i<O.length) (hp:p<4) (h:DD.en (gt O i) p=a/\DD.ent (gt O i) p=b):∀ (m g c:Nat),i - c=m->m<g->c<=i ->
  ∃ c' q:Nat,c'<O.length/\q<4/\ax.pl13 F g a b O (c:Int)=some ((c':Int),(q:Int)):=by
 intro m
 induction m with
 | zero=>
  intro g c hm hg hc
  obtain ⟨g,rfl⟩:∃ g',g=g'+1:=⟨g - 1,by omega⟩
  have:c=i:=by omega
  subst this
  rw [ax.pl13,decide_eq_true (by omega),cond_true]
  rcases place_p (F:=F) (C:=ax.pl13 F g) (a:=a) (b:=b) hs hi hl 4 F 0 (by omega) (by omega) (by omega) with ⟨q,q1,q2⟩ | ⟨q1,q2⟩
  ·exact ⟨c,q,hi,q1,q2⟩
  ·exact absurd h (q1 p (Nat.zero_le _) hp)
 | succ m ih=>
  intro g c hm hg hc
  obtain ⟨g,rfl⟩:∃ g',g=g'+1:=⟨g - 1,by omega⟩
  have hcl:c<O.length:=by omega
  rw [ax.pl13,decide_eq_true (by omega),cond_true]
  rcases place_p (F:=F) (C:=ax.pl13 F g) (a:=a) (b:=b) hs hcl hl 4 F 0 (by omega) (by omega) (by omega) with ⟨q,q1,q2⟩ | ⟨q1,q2⟩
  ·exact ⟨c,q,hcl,q1,q2⟩
  ·have q2:ax.pl213 F (ax.pl13 F g) F a b O (c:Int) 0=_:=q2
   rw [q2]
   exact ih g (c+1) (by omega) (by omega) (by omega)
theorem place_of {O:List Cr} {a:Int} {b:Bool} {i p:Nat} (hs:∀ x∈O,DD.SgOk x) (hl:O.length<=100) (hF:5000000<F) (hi:i<O.length) (hp:p<4) (h:DD.en (gt O i) p=a/\DD.ent (gt O i) p=b) :
  ∃ c' q:Nat,c'<O.length/\q<4/\ax.p F O a b=some ((c':Int),(q:Int)):=by
 unfold ax.p
 exact place_c hs hl hF hi hp h i F 0 (by omega) (by omega) (by omega)
theorem Un.sg {D E O:List Cr} (h:Un D E O):∀ x∈O,DD.SgOk x:=λx hx=>by
 obtain ⟨i,hi,e⟩:=DD.mem_gt hx
 obtain ⟨t,ht⟩:=h.td
 obtain ⟨t',ht'⟩:=h.te
 have hl:=h.len
 by_cases c:i<D.length
 ·rw [h.l i c] at e;rw [<- e];exact ht.sg _ (DD.gmem c)
 ·have e2:=h.r (i - D.length) (by omega)
  rw [show D.length+(i - D.length)=i by omega,e] at e2
  have hs:DD.SgOk (gt E (i - D.length)):=ht'.sg _ (DD.gmem (by omega))
  rw [e2];exact hs
theorem joins {D E:List Cr} {c c':Int} (hF:5000000<F) (hD:D.length<=10) (hE:E.length<=10) :
  ∃ (O:List Cr) (circ e:Int),c_.p F D c 0 E c' 0=some (O,circ,e)/\(e=0->O.length<=10):=by
 unfold c_.p
 obtain ⟨O,circ,e,u1,u2⟩:=unions (F:=F) (c:=c) (c':=c') hF hD hE
 rw [u1,Option.bind_some]
 simp only []
 by_cases he:e=0
 ·subst he
  have h:=u2 rfl
  have hl:=h.len
  have h10:=h.l10
  simp only [bne_self_eq_false,cond_false]
  rw [bo (x:=2 * (D.length:Int)) (by omega) (by omega),bo (x:=2 * (D.length:Int) - 1) (by omega) (by omega),bo (x:=2 * (E.length:Int)) (by omega) (by omega),bo (x:=2 * (E.length:Int) - 1) (by omega) (by omega),DD.MV,Option.bind_some]
  by_cases d0:(0:Int)<=0/\(0:Int)<=2 * (D.length:Int) - 1
  ·rw [decide_eq_true d0,Bool.not_true,cond_false,DD.MV,Option.bind_some]
   by_cases d1:(0:Int)<=0/\(0:Int)<=2 * (E.length:Int) - 1
   ·rw [decide_eq_true d1,Bool.not_true,cond_false,bo (x:=0+2 * (D.length:Int)) (by omega) (by omega)]
    obtain ⟨t,ht⟩:=h.td
    obtain ⟨t',ht'⟩:=h.te
    obtain ⟨i,p,i1,i2,i3,i4,_⟩:=ht.to_.get 0 (by omega)
    obtain ⟨j,q,j1,j2,j3,j4,_⟩:=ht'.to_.get 0 (by omega)
    obtain ⟨c1,q1,c1l,q1l,e1⟩:=place_of (F:=F) (O:=O) (a:=0) (b:=true) h.sg (by omega) hF (show i<O.length by omega) i2 (by rw [h.l i i1];exact ⟨i4,i3⟩)
    obtain ⟨c2,q2,c2l,q2l,e2⟩:=place_of (F:=F) (O:=O) (a:=0+2 * (D.length:Int)) (b:=true) h.sg (by omega) hF (show D.length+j<O.length by omega) j2 (by
     rw [h.r j j1,mv_en j2,mv_ent,j4,j3];exact ⟨rfl,rfl⟩)
    rw [e1,Option.bind_some,e2,Option.bind_some]
    simp only []
    rw [DD.ixn c1l,Option.bind_some]
    obtain ⟨y,y1,_⟩:=with_of (F:=F) (x:=gt O c1) (a:=0+2 * (D.length:Int)) q1l
    rw [y1]
    simp (disch:=(first | exact c1l | (simp only [List.length_set];exact c1l))) only [Option.bind_some,DD.gset_eq,List.set_set]
    have c2l':c2<(O.set c1 y).length:=by rw [List.length_set];exact c2l
    have hy:O.set c1 (y.1,y.2.1,y.2.2.1,y.2.2.2.1,y.2.2.2.2)=O.set c1 y:=rfl
    rw [hy,DD.ixn c2l',Option.bind_some]
    obtain ⟨z,z1,_⟩:=with_of (F:=F) (x:=gt (O.set c1 y) c2) (a:=0) q2l
    rw [z1]
    simp (disch:=(first | exact c2l' | (simp only [List.length_set];simp only [List.length_set] at c2l';exact c2l'))) only [Option.bind_some,DD.gset_eq,List.set_set]
    exact ⟨_,circ,0,rfl,λ_=>by rw [List.length_set,List.length_set];omega⟩
   ·rw [decide_eq_false d1,Bool.not_false,cond_true];exact ⟨[],0,4,rfl,λh=>by simp⟩
  ·rw [decide_eq_false d0,Bool.not_false,cond_true];exact ⟨[],0,4,rfl,λh=>by simp⟩
 ·rw [show (e != 0)=true from bne_iff_ne.2 he,cond_true]
  exact ⟨[],0,e,rfl,λh=>by simp⟩
theorem mirror_l {D:List Cr} {circ:Int} (hD:D.length<=100):∀ (m g k:Nat) (O:List Cr),D.length - k=m->m<g->k<=D.length->O.length=k->∃ O':List Cr,bv.pl61 F g D O circ (k:Int)=some (O',circ)/\O'.length=D.length:=by
 intro m
 induction m with
 | zero=>
  intro g k O hm hg hk hO
  obtain ⟨g,rfl⟩:∃ g',g=g'+1:=⟨g - 1,by omega⟩
  rw [bv.pl61,decide_eq_false (by omega),cond_false]
  exact ⟨O,rfl,by omega⟩
 | succ m ih=>
  intro g k O hm hg hk hO
  obtain ⟨g,rfl⟩:∃ g',g=g'+1:=⟨g - 1,by omega⟩
  have hkl:k<D.length:=by omega
  rw [bv.pl61,decide_eq_true (by omega),cond_true,DD.ixn hkl,Option.bind_some]
  obtain ⟨r,hr⟩:∃ r:Cr,dR.p F (gt D k).1 (gt D k).2.1 (gt D k).2.2.1 (gt D k).2.2.2.1 (gt D k).2.2.2.2=some r:=by
   unfold dR.p
   cases ((gt D k).2.2.2.2==1) with
   | true=>exact ⟨_,rfl⟩
   | false=>exact ⟨_,rfl⟩
  rw [hr,Option.bind_some,apn1 (by omega),Option.bind_some,DD.ws (by omega)]
  exact ih g (k+1) _ (by omega) (by omega) (by omega) (by rw [List.length_append];simp;omega)
theorem mirror_of {D:List Cr} {c:Int} (hF:5000000<F) (hD:D.length<=10):∃ (O:List Cr) (circ:Int),bv.p F D c=some (O,circ)/\O.length<=10:=by
 unfold bv.p
 rcases DD.isDr (F:=F) (c:=c) (D:=D) (by omega) hF with ⟨a,_⟩ | ⟨a,t,R,s,u,h⟩
 ·rw [a];exact ⟨[],0,rfl,by simp⟩
 ·rw [a,Option.bind_some,Bool.not_true,cond_false]
  obtain ⟨O,e1,e2⟩:=mirror_l (F:=F) (D:=D) (circ:=c) (by omega) D.length F 0 [] (by omega) (by omega) (by omega) rfl
  exact ⟨O,c,e1,by omega⟩
theorem draw_of {c:List Int} {a s:Int} (hF:5000000<F) (h:Src c a s):∃ (D:List Cr) (circ a' s':Int),dv.p F c a s=some (D,circ,a',s')/\D.length<=10/\Src c a' s':=by
 unfold dv.p
 obtain ⟨D,circ,a1,s1,e1,l1,h1⟩:=small_of (F:=F) (most:=5) hF h (by omega) (by omega)
 rw [e1,Option.bind_some]
 simp only []
 obtain ⟨r,a2,s2,e2,h2,_,_⟩:=nx (F:=F) (n:=5) h1 (by omega)
 rw [e2,Option.bind_some]
 simp only []
 cases (r==0) with
 | true=>
  rw [cond_true]
  obtain ⟨E,ce,a3,s3,e3,l3,h3⟩:=small_of (F:=F) (most:=4) hF h2 (by omega) (by omega)
  rw [e3,Option.bind_some]
  simp only []
  obtain ⟨O,co,er,u1,u2⟩:=joins (F:=F) (c:=circ) (c':=ce) hF l1 l3
  rw [u1,Option.bind_some]
  simp only []
  by_cases he:er=0
  ·rw [show (er==0)=true from beq_iff_eq.2 he,cond_true];exact ⟨O,co,a3,s3,rfl,u2 he,h3⟩
  ·rw [show (er==0)=false from beq_eq_false_iff_ne.2 he,cond_false];exact ⟨D,circ,a3,s3,rfl,l1,h3⟩
 | false=>
  rw [cond_false]
  cases (r==1) with
  | true=>
   rw [cond_true]
   obtain ⟨E,ce,a3,s3,e3,l3,h3⟩:=small_of (F:=F) (most:=3) hF h2 (by omega) (by omega)
   rw [e3,Option.bind_some]
   simp only []
   obtain ⟨O,co,er,u1,u2⟩:=unions (F:=F) (c:=circ) (c':=ce) hF l1 l3
   rw [u1,Option.bind_some]
   simp only []
   by_cases he:er=0
   ·rw [show (er==0)=true from beq_iff_eq.2 he,cond_true]
    have:=u2 he
    exact ⟨O,co,a3,s3,rfl,by rw [this.len];exact this.l10,h3⟩
   ·rw [show (er==0)=false from beq_eq_false_iff_ne.2 he,cond_false];exact ⟨D,circ,a3,s3,rfl,l1,h3⟩
  | false=>
   rw [cond_false]
   cases (r==2) with
   | true=>
    rw [cond_true]
    obtain ⟨O,co,m1,m2⟩:=mirror_of (F:=F) (D:=D) (c:=circ) hF l1
    rw [m1,Option.bind_some]
    exact ⟨O,co,a2,s2,rfl,m2,h2⟩
   | false=>exact ⟨D,circ,a2,s2,rfl,l1,h2⟩
theorem any_of {c:List Int} {a s:Int} (hF:5000000<F) (h:Src c a s):∃ (D:List Cr) (circ a' s':Int),db.p F c a s=some (D,circ,a',s')/\D.length<=10:=by
 unfold db.p
 obtain ⟨D,circ,a1,s1,e1,l1,h1⟩:=draw_of (F:=F) hF h
 rw [e1,Option.bind_some]
 simp only []
 by_cases h0:D.length=0
 ·rw [show ((D.length:Int)==0)=true from beq_iff_eq.2 (by omega),cond_true];exact ⟨D,circ,a1,s1,rfl,l1⟩
 ·rw [show ((D.length:Int)==0)=false from beq_eq_false_iff_ne.2 (by omega),cond_false]
  obtain ⟨r,a2,s2,e2,h2,_,_⟩:=nx (F:=F) (n:=9) h1 (by omega)
  rw [e2,Option.bind_some]
  simp only []
  cases decide (r>0) with
  | true=>rw [cond_true];exact ⟨D,circ,a2,s2,rfl,l1⟩
  | false=>
   rw [cond_false]
   obtain ⟨k,a3,s3,e3,h3,k0,k1⟩:=nx (F:=F) (n:=(D.length:Int)) h2 (by omega)
   rw [e3,Option.bind_some]
   simp only []
   obtain ⟨q,a4,s4,e4,h4,_,_⟩:=nx (F:=F) (n:=6) h3 (by omega)
   rw [e4,Option.bind_some]
   simp only []
   have hk:∀ O:List Cr,O.length=D.length->ix O k=some k.toNat:=λO hO=>ix_of k0 (by omega)
   have hset:∀ x:Cr,(D.set k.toNat x).length=D.length:=λx=>List.length_set
   simp (disch:=(simp only [List.length_set])) only [hk,Option.bind_some]
   cases (q==0) with
   | true=>exact ⟨_,circ,a4,s4,rfl,by rw [List.length_set];exact l1⟩
   | false=>
    simp only [cond_false]
    cases (q==1) with
    | true=>exact ⟨_,circ,a4,s4,rfl,by rw [List.length_set];exact l1⟩
    | false=>
     simp only [cond_false]
     cases (q==2) with
     | true=>exact ⟨_,circ,a4,s4,rfl,by simp only [List.length_set];exact l1⟩
     | false=>
      simp only [cond_false]
      cases (q==3) with
      | true=>
       obtain ⟨v,a5,s5,e5,h5,v0,v1⟩:=nx (F:=F) (n:=3) h4 (by omega)
       rw [cond_true,e5,Option.bind_some]
       simp only []
       rw [ix_of v0 (by simp;omega),Option.bind_some]
       exact ⟨D,_,a5,s5,rfl,l1⟩
      | false=>
       simp only [cond_false]
       cases (q==4) with
       | true=>exact ⟨_,circ,a4,s4,rfl,by rw [List.length_set];exact l1⟩
       | false=>
        simp only [cond_false]
        cases (q==5) with
        | true=>exact ⟨_,circ,a4,s4,rfl,by simp only [List.length_set];exact l1⟩
        | false=>exact ⟨D,circ,a4,s4,rfl,l1⟩
theorem drawn {c:List Int} (hF:5000000<F) (hc:c.length<=1000000) (hb:∀ n:Nat,0<=gt c n/\gt c n<=255):∃ (D:List Cr) (circ:Int),cJ.p F c=some (D,circ)/\D.length<=10:=by
 unfold cJ.p
 obtain ⟨t,e,h⟩:=from_ (F:=F) hF hc hb
 rw [e,Option.bind_some]
 simp only []
 obtain ⟨D,circ,a',s',e2,l⟩:=any_of (F:=F) hF h
 rw [e2]
 exact ⟨D,circ,rfl,l⟩
end Go.Proofs.Ytodfdhnlhiaohaa.AE
end
section
namespace Go.Proofs.Ytodfdhnlhiaohaa.AE.DD
open Go Go.AE Go.Proofs
variable {F:Nat}
theorem crs_i {D:List Cr} {c:Int} {t:Tb} {R:List (List Int)} {s u:List Int} (h:DG F D c t R s u) (hF:2000<F):∃ reg:List Int,reg.length=4 * D.length/\(∀ k,k<4 * D.length->gt reg k=(cix R k:Int))/\aF.p F D t.1 t.2=some reg:=by
 have hl:=h.len
 obtain ⟨done,hp,hd⟩:=h.rg.part
 have hR:=h.rg.le
 have hlen:∀ j,j<R.length->(gt R j).length<=1000:=λj hj=>by have:=hp.sz j hj;omega
 have e4:IntKind.i64.wrap (4 * (D.length:Int))=((4 * D.length:Nat):Int):=by rw [bo (by omega) (by omega)];omega
 obtain ⟨o,q1,q2⟩:=icr_out (F:=F) hp hd (by omega) hlen hF R.length F 0 (List.replicate (4 * D.length) 0) (by omega) (by omega) (by omega) ((Asg.start _ _ _).congr λa=>(Sj_none R a).symm)
 refine ⟨o,q2.len,λa ha=>q2.hit a ha ha,?_⟩
 unfold aF.p
 rw [e4,mkn_of (by omega),Option.bind_some,h.iR,Option.bind_some];exact q1
theorem colors_i {D:List Cr} {c:Int} {t:Tb} {R:List (List Int)} {s u:List Int} (h:DG F D c t R s u) (hF:5000<F):∃ g,Chk D.length R.length (cix R) u g/\aq.p F D t.1 t.2=some (full R.length g):=by
 obtain ⟨g,hc⟩:=dg_chk h
 obtain ⟨reg,r1,r2,r4⟩:=crs_i h (by omega)
 have hg:Rgl D.length (cix R) reg:=⟨r1,r2⟩
 have hl:=h.len
 have hR:=h.rg.le
 refine ⟨g,hc,?_⟩
 unfold aq.p
 rw [r4,Option.bind_some,h.iP,Option.bind_some,h.iR,Option.bind_some,rep_m1 (by omega) (by omega),Option.bind_some,i_classCount h.uf.low (by omega) (by omega),Option.bind_some,mkn_of (by have:=rk_le u D.length;omega),Option.bind_some,num_len]
 refine i_start hc hg (by omega) (by omega) (by omega) h.uf D.length F 0 _ _ (by omega) (by omega) (by omega) ⟨by simp,λj hj=>.inl (grep hj)⟩ (λr h=>by omega) (by simp) λm hm=>?_
 rw [grep hm];rw [rk,decide_eq_false (by omega)]
end Go.Proofs.Ytodfdhnlhiaohaa.AE.DD
end
section
namespace Go.Proofs.Ytodfdhnlhiaohaa.AE
open Go Go.AE Go.Proofs
variable {F:Nat}
structure Co (R:List (List Int)) (g:Nat->Bool) (M:Nat) (S:Nat->Prop) (out:List Int) (n:Nat):Prop where
 len:out.length=M
 hit:∀ x,x<M->S x->gt out x=DD.ci (g (DD.cix R x))+1
 miss:∀ x,x<M->¬ S x->gt out x=0
 cnt:n+out.countP (λv=>v==0)=M
theorem Co.congr {R:List (List Int)} {g:Nat->Bool} {M n:Nat} {S S':Nat->Prop} {out:List Int} (h:Co R g M S out n) (e:∀ x,S x↔S' x):Co R g M S' out n:=by
 rw [show S'=S from funext λx=>propext (e x).symm];exact h
theorem Co.step {R:List (List Int)} {g:Nat->Bool} {M n x:Nat} {S:Nat->Prop} {out:List Int} (h:Co R g M S out n) (hx:x<M) (hn:¬ S x):Co R g M (λy=>S y\/y=x) (out.set x (DD.ci (g (DD.cix R x))+1)) (n+1) where
 len:=by rw [List.length_set];exact h.len
 hit:=λy hy hs=>by
  by_cases e:x=y
  ·subst e;rw [DD.gset_eq (by rw [h.len];exact hx)]
  ·rw [DD.gset_ne e];exact h.hit y hy (hs.resolve_right (Ne.symm e))
 miss:=λy hy hs=>by
  rw [DD.gset_ne (λe=>hs (.inr e.symm))];exact h.miss y hy (λq=>hs (.inl q))
 cnt:=by
  have hl:x<out.length:=by rw [h.len];exact hx
  have h0:out[x]=0:=by rw [DD.gt_eq hl];exact h.miss x hx hn
  have hc:=DD.ci_01 (g (DD.cix R x))
  rw [List.countP_set hl,h0]
  have hne:(DD.ci (g (DD.cix R x))+1==0)=false:=beq_eq_false_iff_ne.2 (by omega)
  have hpos:0<out.countP (λv=>v==0):=List.countP_pos_iff.2 ⟨0,by rw [<- h0];exact List.getElem_mem _,rfl⟩
  have:=h.cnt
  simp only [beq_self_eq_true,if_true,hne]
  simp
  omega
section
variable {R:List (List Int)} {g:Nat->Bool} {M:Nat} {σ:Nat->Nat} {done:List Bool}
theorem in_l {C} (hp:DD.Part σ M R done) (hd:∀ x,x<M->gt done x=true) (hM:M<=100) (hR:R.length<=1000) {j:Nat} (hj:j<R.length):∀ (m gg q:Nat) (out:List Int) (n:Nat),(gt R j).length - q=m->m<gg->q<=(gt R j).length->Co R g M (DD.Sj R j q) out n ->
  ∃ (out':List Int) (n':Nat),av.pl65493 F C gg R (DD.full R.length g) out (n:Int) (j:Int) (q:Int)=C R (DD.full R.length g) out' (n':Int) ((j+1:Nat):Int)/\Co R g M (DD.Sj R (j+1) 0) out' n':=by
 intro m
 induction m with
 | zero=>
  intro gg q out n hm hg hq h
  obtain ⟨gg,rfl⟩:∃ g',gg=g'+1:=⟨gg - 1,by omega⟩
  rw [av.pl65493,DD.ixn hj,Option.bind_some,decide_eq_false (by omega),cond_false]
  unfold av.pj6 av.pj5
  rw [DD.ws (by omega)]
  exact ⟨out,n,rfl,h.congr (DD.Sj_next R hj (by omega))⟩
 | succ m ih=>
  intro gg q out n hm hg hq h
  obtain ⟨gg,rfl⟩:∃ g',gg=g'+1:=⟨gg - 1,by omega⟩
  have hql:q<(gt R j).length:=by omega
  obtain ⟨x,hx,e⟩:=hp.elt j hj _ (DD.gmem hql)
  have hc:DD.cix R x=j:=DD.cix_eq hp hd hx hj (by rw [<- e];exact DD.gmem hql)
  have hns:¬ DD.Sj R j q x:=by
   rintro (⟨j',h1,h2,h3⟩ | ⟨_,q',h2,h3,h4⟩)
   ·have:=hp.one x j' j h2 hj h3 (by rw [<- e];exact DD.gmem hql)
    omega
   ·have nd:=hp.nd j hj
    have e5:(gt R j)[q']=(gt R j)[q]:=by rw [DD.gt_eq h3,DD.gt_eq hql,h4,e]
    have:=(List.getElem_inj nd).1 e5
    omega
  have hcnt:=h.cnt
  have hlen:=h.len
  have hsz:=hp.sz j hj
  have hci:=DD.ci_01 (g j)
  rw [av.pl65493,DD.ixn hj,Option.bind_some,decide_eq_true (by omega),cond_true,Option.bind_some,DD.ixn hql,Option.bind_some,e,decide_eq_false (by omega),cond_false,decide_eq_false (by omega),cond_false,DD.ixn (show x<out.length by omega),Option.bind_some,h.miss x hx hns,show ((0:Int) != 0)=false from rfl,cond_false,DD.ixn (by rw [DD.full_len];exact hj),Option.bind_some,Option.bind_some,Option.bind_some,DD.gt_full hj,bo (x:=DD.ci (g j)+1) (by omega) (by omega),DD.ws (by omega),DD.ws (by omega)]
  have h2:=(h.step hx hns).congr (DD.Sj_step R hj hql e)
  rw [hc] at h2
  exact ih gg (q+1) _ (n+1) (by omega) (by omega) (by omega) h2
theorem out_l (hp:DD.Part σ M R done) (hd:∀ x,x<M->gt done x=true) (hM:M<=100) (hR:R.length<=1000) (hF:5000000<F):∀ (m gg j:Nat) (out:List Int) (n:Nat),R.length - j=m->m<gg->j<=R.length->Co R g M (DD.Sj R j 0) out n ->
  ∃ out':List Int,av.pl4093 F gg R (DD.full R.length g) out (n:Int) (j:Int)=av.pl8189 F F out' (M:Int) 0/\out'.length=M/\∀ x,x<M->gt out' x=DD.ci (g (DD.cix R x))+1:=by
 intro m
 induction m with
 | zero=>
  intro gg j out n hm hg hj h
  obtain ⟨gg,rfl⟩:∃ g',gg=g'+1:=⟨gg - 1,by omega⟩
  rw [av.pl4093,decide_eq_false (by omega),cond_false]
  unfold av.pj4
  have hall:=h.congr (S':=λa=>a<M) (λa=>DD.Sj_all hp hd (by omega) a)
  have hz:out.countP (λv=>v==0)=0:=by
   rw [List.countP_eq_zero]
   intro v hv
   obtain ⟨i,hi,e⟩:=DD.mem_gt hv
   have hiM:i<M:=by rw [<- h.len];exact hi
   have:=hall.hit i hiM hiM
   have:=DD.ci_01 (g (DD.cix R i))
   rw [<- e]
   simp
   omega
  have:=h.cnt
  rw [show n=M by omega]
  exact ⟨out,rfl,h.len,λx hx=>hall.hit x hx hx⟩
 | succ m ih=>
  intro gg j out n hm hg hj h
  obtain ⟨gg,rfl⟩:∃ g',gg=g'+1:=⟨gg - 1,by omega⟩
  have hjl:j<R.length:=by omega
  have:=hp.sz j hjl
  rw [av.pl4093,decide_eq_true (by omega),cond_true]
  obtain ⟨o1,n1,q1,q2⟩:=in_l (F:=F) (C:=av.pl4093 F gg) hp hd hM hR hjl (gt R j).length F 0 out n (by omega) (by omega) (by omega) h
  have q1:av.pl65493 F (av.pl4093 F gg) F R (DD.full R.length g) out (n:Int) (j:Int) 0=_:=q1
  rw [q1]
  exact ih gg (j+1) o1 n1 (by omega) (by omega) (by omega) q2
end
theorem end_l {N:Nat} {R:List (List Int)} {u:List Int} {g:Nat->Bool} {n:Nat} (hc:DD.Chk n N (DD.cix R) u g) (hn:n<=20) {out:List Int} (hl:out.length=4 * n) (ho:∀ x,x<4 * n->gt out x=DD.ci (g (DD.cix R x))+1):∀ (m gg k:Nat),4 * n - k=m->m<gg->k<=4 * n->av.pl8189 F gg out ((4 * n:Nat):Int) (k:Int)=some true:=by
 intro m
 induction m with
 | zero=>
  intro gg k hm hg hk
  obtain ⟨gg,rfl⟩:∃ g',gg=g'+1:=⟨gg - 1,by omega⟩
  rw [av.pl8189,decide_eq_false (by omega),cond_false]
  unfold av.pj3
  rw [hl,beq_self_eq_true]
 | succ m ih=>
  intro gg k hm hg hk
  obtain ⟨gg,rfl⟩:∃ g',gg=g'+1:=⟨gg - 1,by omega⟩
  have hk4:k<4 * n:=by omega
  have hr:=DD.rot_lt hk4
  have e:IntKind.i64.wrap (IntKind.i64.wrap (IntKind.i64.wrap (Int.tdiv (k:Int) 4) * 4)+Int.tmod (IntKind.i64.wrap ((k:Int)+1)) 4)=((DD.rot k:Nat):Int):=by
   rw [DD.tdiv4,DD.ws (by omega),DD.tmod4,DD.wn (by omega),bo (x:=((k / 4:Nat):Int) * 4) (by omega) (by omega),bo (by omega) (by omega)]
   unfold DD.rot;omega
  rw [av.pl8189,decide_eq_true (by omega),cond_true,DD.ixn (by omega),Option.bind_some,e,DD.ixn (by omega),Option.bind_some,ho k hk4,ho _ hr,hc.flip k hk4,<-DD.ci_not]
  have:=DD.ci_01 (g (DD.cix R k))
  rw [bo (by omega) (by omega),show (DD.ci (g (DD.cix R k))+1+(1 - DD.ci (g (DD.cix R k))+1) != 3)=false from by rw [show DD.ci (g (DD.cix R k))+1+(1 - DD.ci (g (DD.cix R k))+1)=3 by omega];rfl,cond_false,DD.ws (by omega)]
  exact ih gg (k+1) (by omega) (by omega) (by omega)
theorem FnRegions_pure:∀ (ai:List Int),ai.length<=maxLen->(∀ x∈ai,(Lit.int .u8 x).wf=true)->∃ F,av.p F ai=some true:=by
 intro l _ hw
 obtain ⟨F,hF⟩:∃ F:Nat,F=1000000000000000:=⟨_,rfl⟩
 refine ⟨F,?_⟩
 have hF5:5000000<F:=by omega
 unfold av.p di.p
 rw [Option.bind_some]
 by_cases hl:(l.length:Int)>4096
 ·rw [decide_eq_true hl,cond_true]
 ·rw [decide_eq_false hl,cond_false]
  have hb:∀ n:Nat,0<=gt l n/\gt l n<=255:=λn=>by
   by_cases hn:n<l.length
   ·have hx:=hw _ (DD.gmem hn)
    have h2:IntKind.u8.min<=gt l n/\gt l n<=IntKind.u8.max:=by simpa [Lit.wf] using hx
    have m0:IntKind.u8.min=0:=by decide
    have m1:IntKind.u8.max=255:=by decide
    omega
   ·rw [DD.gt_out (by omega)];decide
  obtain ⟨D,c,e1,hD⟩:=drawn (F:=F) hF5 (by omega) hb
  rw [e1,Option.bind_some]
  unfold cN.p cO.p
  simp only []
  rcases DD.isDr (F:=F) (c:=c) (D:=D) (by omega) hF5 with ⟨a,x,y,b⟩ | ⟨a,t,R,s,u,h⟩
  ·rw [a,b];rfl
  ·rw [a,h.draw]
   simp only [Option.bind_some,Bool.not_true,cond_false]
   obtain ⟨g,hc,k1⟩:=DD.colors_i h (by omega)
   rw [h.iR,k1]
   simp only [Option.bind_some,Bool.not_true,cond_false,DD.full_len,bne_self_eq_false]
   obtain ⟨done,hp,hd⟩:=h.rg.part
   have hR:=h.rg.le
   rw [bo (x:=4 * (D.length:Int)) (by omega) (by omega),show 4 * (D.length:Int)=((4 * D.length:Nat):Int) by omega,DD.mkn_of (by omega),Option.bind_some]
   have start:Co R g (4 * D.length) (DD.Sj R 0 0) (List.replicate (4 * D.length) 0) 0:=by
    refine ⟨by simp,λx hx hs=>((DD.Sj_none R x).1 hs).elim,λx hx _=>DD.grep hx,?_⟩
    rw [List.countP_replicate];simp
   obtain ⟨out,o1,o2,o3⟩:=out_l (F:=F) (g:=g) hp hd (by omega) (by omega) hF5 R.length F 0 _ 0 (by omega) (by omega) (by omega) start
   have o1:av.pl4093 F F R (DD.full R.length g) (List.replicate (4 * D.length) 0) 0 0=_:=o1
   rw [o1]
   exact end_l hc (by omega) o2 o3 (4 * D.length) F 0 (by omega) (by omega) (by omega)
end Go.Proofs.Ytodfdhnlhiaohaa.AE
end
