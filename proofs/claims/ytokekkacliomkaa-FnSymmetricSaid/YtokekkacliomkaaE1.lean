import Derived.WalkKit
import Derived.Orders
set_option linter.unusedVariables false
set_option linter.unusedSimpArgs false
section
namespace Go.AE
inductive Cap where
 | ex (n:Nat)
 | full (z:Nat)
 | tip (z o:Nat)
 deriving DecidableEq
structure Sl where
 a:Option (Nat×Nat)
 n:Nat
 c:Cap
 deriving DecidableEq
inductive AV where
 | int (k:IntKind) (n:Int)
 | bool (b:Bool)
 | str (s:ByteArray)
 | nilp
 | nili
 | ptr (b o:Nat)
 | sl (s:Sl)
 | agg (l:List AV)
 | tup (l:List AV)
 | fn (f:FuncId) (caps:List AV)
structure Phi where
 b:Nat->Nat
 o:Nat->Nat
 k:Nat->Nat
def Sl.ad (s:Sl):Option (Nat×Nat):=match s.c with | .tip _ _=>none | _=>s.a
theorem Sl.ad_some {s:Sl} {p:Nat×Nat} (h:s.ad=some p):s.a=some p/\∀ z o,s.c≠.tip z o:=by
 unfold Sl.ad at h
 split at h
 ·cases h
 ·rename_i hc;exact ⟨h,λz o e=>hc z o e⟩
def Sl.toV (Φ:Phi) (s:Sl):Value:=
 .slice (s.a.map λp=>⟨Φ.b p.1,Φ.o p.1+(match s.c with | .tip z o=>if (Φ.k p.1 - p.2) / z=0 then o else p.2 | _=>p.2),none⟩) s.n
  (match s.c with | .ex n=>n | .full z | .tip z _=>match s.a with | some p=>(Φ.k p.1 - p.2) / z | none=>0)
def Sl.adr (Φ:Phi) (s:Sl):Option Addr:=s.a.map λp=>⟨Φ.b p.1,Φ.o p.1+(match s.c with | .tip z o=>if (Φ.k p.1 - p.2) / z=0 then o else p.2 | _=>p.2),none⟩
theorem Sl.adr_of {Φ:Phi} {s:Sl} {p:Nat×Nat} (h:s.ad=some p):s.adr Φ=some ⟨Φ.b p.1,Φ.o p.1+p.2,none⟩:=by
 obtain ⟨h1,h2⟩:=Sl.ad_some h
 unfold Sl.adr
 rw [h1]
 cases hc:s.c with
 | tip z o=>exact absurd hc (h2 z o)
 | _=>rfl
mutual
def AV.toV (Φ:Phi):AV->Value
 | .int k n=>.int k n
 | .bool b=>.bool b
 | .str s=>.string s
 | .nilp=>.pointer none
 | .nili=>.nilIface
 | .ptr b o=>.pointer (some ⟨Φ.b b,Φ.o b+o,none⟩)
 | .sl s=>s.toV Φ
 | .agg l=>.agg (AV.toVs Φ l).toArray
 | .tup l=>.tuple (AV.toVs Φ l).toArray
 | .fn f caps=>.func (.func f) #[] (AV.toVs Φ caps).toArray
def AV.toVs (Φ:Phi):List AV->List Value
 | []=>[]
 | v::l=>v.toV Φ::AV.toVs Φ l
end
mutual
def AV.inS (S:Nat->Prop):AV->Prop
 | .ptr b _=>S b
 | .sl s=>∀ p,s.a=some p->S p.1
 | .agg l=>AV.inSs S l
 | .tup l=>AV.inSs S l
 | .fn _ caps=>AV.inSs S caps
 | _=>True
def AV.inSs (S:Nat->Prop):List AV->Prop
 | []=>True
 | v::l=>v.inS S/\AV.inSs S l
end
theorem AV.toVs_eq (Φ:Phi):∀ l:List AV,AV.toVs Φ l=l.map (AV.toV Φ)
 | []=>rfl
 | v::l=>by simp [AV.toVs,AV.toVs_eq Φ l]
theorem AV.inSs_iff (S:Nat->Prop):∀ l:List AV,AV.inSs S l↔∀ v∈l,v.inS S
 | []=>by simp [AV.inSs]
 | v::l=>by simp [AV.inSs,AV.inSs_iff S l]
def Phi.agree (Φ Φ':Phi) (S:Nat->Prop):Prop:=∀ b,S b->Φ'.b b=Φ.b b/\Φ'.o b=Φ.o b/\Φ'.k b=Φ.k b
mutual
theorem AV.toV_agree {Φ Φ':Phi} {S:Nat->Prop} (h:Φ.agree Φ' S):∀ v:AV,v.inS S->v.toV Φ'=v.toV Φ
 | .int _ _,_=>by simp [AV.toV]
 | .bool _,_=>by simp [AV.toV]
 | .str _,_=>by simp [AV.toV]
 | .nilp,_=>by simp [AV.toV]
 | .nili,_=>by simp [AV.toV]
 | .ptr b o,hs=>by simp only [AV.inS] at hs;simp [AV.toV,h b hs]
 | .sl ⟨none,n,c⟩,hs=>by simp [AV.toV,Sl.toV]
 | .sl ⟨some p,n,c⟩,hs=>by
  have:=hs p rfl
  simp [AV.toV,Sl.toV,h p.1 this]
 | .agg l,hs=>by simp only [AV.inS] at hs;simp [AV.toV,AV.toVs_agree h l hs]
 | .tup l,hs=>by simp only [AV.inS] at hs;simp [AV.toV,AV.toVs_agree h l hs]
 | .fn f l,hs=>by simp only [AV.inS] at hs;simp [AV.toV,AV.toVs_agree h l hs]
theorem AV.toVs_agree {Φ Φ':Phi} {S:Nat->Prop} (h:Φ.agree Φ' S):∀ l:List AV,AV.inSs S l->AV.toVs Φ' l=AV.toVs Φ l
 | [],_=>rfl
 | v::l,hs=>by simp only [AV.inSs] at hs;simp [AV.toVs,AV.toV_agree h v hs.1,AV.toVs_agree h l hs.2]
end
mutual
theorem AV.inS_mono {S S':Nat->Prop} (h:∀ b,S b->S' b):∀ v:AV,v.inS S->v.inS S'
 | .int _ _,_=>by simp [AV.inS]
 | .bool _,_=>by simp [AV.inS]
 | .str _,_=>by simp [AV.inS]
 | .nilp,_=>by simp [AV.inS]
 | .nili,_=>by simp [AV.inS]
 | .ptr b o,hs=>by simp only [AV.inS] at hs ⊢;exact h _ hs
 | .sl s,hs=>by simp only [AV.inS] at hs ⊢;exact λp hp=>h _ (hs p hp)
 | .agg l,hs=>by simp only [AV.inS] at hs ⊢;exact AV.inSs_mono h l hs
 | .tup l,hs=>by simp only [AV.inS] at hs ⊢;exact AV.inSs_mono h l hs
 | .fn f l,hs=>by simp only [AV.inS] at hs ⊢;exact AV.inSs_mono h l hs
theorem AV.inSs_mono {S S':Nat->Prop} (h:∀ b,S b->S' b):∀ l:List AV,AV.inSs S l->AV.inSs S' l
 | [],_=>by simp [AV.inSs]
 | v::l,hs=>by simp only [AV.inSs] at hs ⊢;exact ⟨AV.inS_mono h v hs.1,AV.inSs_mono h l hs.2⟩
end
mutual
def AV.ok (Φ:Phi) (S:Nat->Prop):AV->Prop
 | .ptr b _=>S b
 | .sl s=>∀ p,s.a=some p->S p.1/\∀ z,s.c=.full z->0<z/\p.2+s.n * z<=Φ.k p.1
 | .agg l=>AV.oks Φ S l
 | .tup l=>AV.oks Φ S l
 | .fn _ caps=>AV.oks Φ S caps
 | _=>True
def AV.oks (Φ:Phi) (S:Nat->Prop):List AV->Prop
 | []=>True
 | v::l=>v.ok Φ S/\AV.oks Φ S l
end
theorem AV.oks_iff (Φ:Phi) (S:Nat->Prop):∀ l:List AV,AV.oks Φ S l↔∀ v∈l,v.ok Φ S
 | []=>by simp [AV.oks]
 | v::l=>by simp [AV.oks,AV.oks_iff Φ S l]
mutual
theorem AV.ok_inS {Φ:Phi} {S:Nat->Prop}:∀ v:AV,v.ok Φ S->v.inS S
 | .int _ _,_=>by simp [AV.inS]
 | .bool _,_=>by simp [AV.inS]
 | .str _,_=>by simp [AV.inS]
 | .nilp,_=>by simp [AV.inS]
 | .nili,_=>by simp [AV.inS]
 | .ptr b o,hs=>by simp only [AV.ok] at hs;simpa only [AV.inS] using hs
 | .sl s,hs=>by simp only [AV.ok] at hs;simp only [AV.inS];exact λp hp=>(hs p hp).1
 | .agg l,hs=>by simp only [AV.ok] at hs;simp only [AV.inS];exact AV.oks_inS l hs
 | .tup l,hs=>by simp only [AV.ok] at hs;simp only [AV.inS];exact AV.oks_inS l hs
 | .fn f l,hs=>by simp only [AV.ok] at hs;simp only [AV.inS];exact AV.oks_inS l hs
theorem AV.oks_inS {Φ:Phi} {S:Nat->Prop}:∀ l:List AV,AV.oks Φ S l->AV.inSs S l
 | [],_=>by simp [AV.inSs]
 | v::l,hs=>by simp only [AV.oks] at hs;simp only [AV.inSs];exact ⟨AV.ok_inS v hs.1,AV.oks_inS l hs.2⟩
end
mutual
theorem AV.ok_agree {Φ Φ':Phi} {S S':Nat->Prop} (h:Φ.agree Φ' S) (hS:∀ b,S b->S' b):∀ v:AV,v.ok Φ S->v.ok Φ' S'
 | .int _ _,_=>by simp [AV.ok]
 | .bool _,_=>by simp [AV.ok]
 | .str _,_=>by simp [AV.ok]
 | .nilp,_=>by simp [AV.ok]
 | .nili,_=>by simp [AV.ok]
 | .ptr b o,hs=>by simp only [AV.ok] at hs ⊢;exact hS _ hs
 | .sl s,hs=>by
  simp only [AV.ok] at hs ⊢
  intro p hp
  obtain ⟨h1,h2⟩:=hs p hp
  refine ⟨hS _ h1,λz hz=>?_⟩
  rw [(h _ h1).2.2]
  exact h2 z hz
 | .agg l,hs=>by simp only [AV.ok] at hs ⊢;exact AV.oks_agree h hS l hs
 | .tup l,hs=>by simp only [AV.ok] at hs ⊢;exact AV.oks_agree h hS l hs
 | .fn f l,hs=>by simp only [AV.ok] at hs ⊢;exact AV.oks_agree h hS l hs
theorem AV.oks_agree {Φ Φ':Phi} {S S':Nat->Prop} (h:Φ.agree Φ' S) (hS:∀ b,S b->S' b):∀ l:List AV,AV.oks Φ S l->AV.oks Φ' S' l
 | [],_=>by simp [AV.oks]
 | v::l,hs=>by simp only [AV.oks] at hs ⊢;exact ⟨AV.ok_agree h hS v hs.1,AV.oks_agree h hS l hs.2⟩
end
mutual
theorem AV.ok_and {Φ:Phi} {S S':Nat->Prop}:∀ v:AV,v.ok Φ S->v.inS S'->v.ok Φ (λb=>S b/\S' b)
 | .int _ _,_,_=>by simp [AV.ok]
 | .bool _,_,_=>by simp [AV.ok]
 | .str _,_,_=>by simp [AV.ok]
 | .nilp,_,_=>by simp [AV.ok]
 | .nili,_,_=>by simp [AV.ok]
 | .ptr b o,hs,ht=>by simp only [AV.ok,AV.inS] at hs ht ⊢;exact ⟨hs,ht⟩
 | .sl s,hs,ht=>by simp only [AV.ok,AV.inS] at hs ht ⊢;exact λp hp=>⟨⟨(hs p hp).1,ht p hp⟩,(hs p hp).2⟩
 | .agg l,hs,ht=>by simp only [AV.ok,AV.inS] at hs ht ⊢;exact AV.oks_and l hs ht
 | .tup l,hs,ht=>by simp only [AV.ok,AV.inS] at hs ht ⊢;exact AV.oks_and l hs ht
 | .fn f l,hs,ht=>by simp only [AV.ok,AV.inS] at hs ht ⊢;exact AV.oks_and l hs ht
theorem AV.oks_and {Φ:Phi} {S S':Nat->Prop}:∀ l:List AV,AV.oks Φ S l->AV.inSs S' l->AV.oks Φ (λb=>S b/\S' b) l
 | [],_,_=>by simp [AV.oks]
 | v::l,hs,ht=>by simp only [AV.oks,AV.inSs] at hs ht ⊢;exact ⟨AV.ok_and v hs.1 ht.1,AV.oks_and l hs.2 ht.2⟩
end
def AV.isCell:AV->Bool
 | .agg _ | .tup _=>false
 | _=>true
def AV.cells:AV->List AV
 | .agg l=>l
 | v=>[v]
structure Blk where
 cells:List AV
 own:Bool
 live:Bool
abbrev Hp:=List Blk
abbrev OA:=Option (AV×Hp)
abbrev ON:=Option (Nat×Nat)
abbrev AV.i (n:Int):AV:=.int .i64 n
def Hp.cell (H:Hp) (b o:Nat):Option AV:=match H[b]? with
 | some k=>if k.live then k.cells[o]? else none
 | none=>none
def Hp.st (H:Hp) (b o:Nat) (v:AV):Option Hp:=match H[b]? with
 | some k=>if k.live&&k.own&&v.isCell&&decide (o<k.cells.length) then some (H.set b { k with cells:=k.cells.set o v }) else none
 | none=>none
def Own (Φ:Phi) (S:Nat->Prop) (H:Hp) (k:Nat):Prop:=∃ b blk,S b/\H[b]?=some blk/\blk.own=true/\blk.live=true/\Φ.b b=k
structure Rel (Φ:Phi) (S:Nat->Prop) (H:Hp) (w:World):Prop where
 lt:∀ b,S b->b<H.length
 closed:∀ b blk,S b->H[b]?=some blk->blk.live=true->∀ v∈blk.cells,v.ok Φ S/\v.isCell=true
 cell:∀ b blk,S b->H[b]?=some blk->blk.live=true->∀ i v,blk.cells[i]?=some v->w.cell? ⟨Φ.b b,Φ.o b+i,none⟩=some (v.toV Φ)
 own:∀ b blk,S b->H[b]?=some blk->blk.live=true->blk.own=true->∃ c T,w.heap[Φ.b b]?=some (.cells c T (0,0))/\c.size=Φ.o b+Φ.k b/\blk.cells.length<=Φ.k b
 inj:∀ b blk b' blk',S b->S b'->H[b]?=some blk->H[b']?=some blk'->blk.live=true->blk'.live=true->blk.own=true->blk'.own=true->Φ.b b=Φ.b b'->b=b'
 ro:∀ b blk b' blk',S b->S b'->H[b]?=some blk->H[b']?=some blk'->blk.live=true->blk'.live=true->blk.own=true->blk'.own=false->blk'.cells≠[]->Φ.b b≠Φ.b b'
def WF (H:Hp):Prop:=∀ (b:Nat) (blk:Blk),H[b]?=some blk->blk.live=true->∀ v∈blk.cells,AV.inS (·<H.length) v
def ext (S:Nat->Prop) (H H':Hp) (b:Nat):Prop:=S b\/(H.length<=b/\b<H'.length)
structure Post (Φ:Phi) (S:Nat->Prop) (H:Hp) (w:World) (Φ':Phi) (H':Hp) (w':World):Prop where
 agree:Φ.agree Φ' S
 len:H.length<=H'.length
 rel:Rel Φ' (ext S H H') H' w'
 own:∀ k,k<w.heap.size->Own Φ' (ext S H H') H' k->Own Φ S H k
 os:w'.os=w.os
 tape:w'.tape=w.tape
 output:w'.output=w.output
 size:w.heap.size<=w'.heap.size
 frame:∀ k,k<w.heap.size->¬ Own Φ S H k->w'.heap[k]?=w.heap[k]?
 rok:∀ b blk,ext S H H' b->H'[b]?=some blk->blk.live=true->blk.own=false->S b/\H[b]?=some blk
theorem Phi.agree_refl (Φ:Phi) (S:Nat->Prop):Φ.agree Φ S:=λ_ _=>⟨rfl,rfl,rfl⟩
theorem vV (S:Nat->Prop) (H:Hp):ext S H H=S:=by
 funext b;simp only [ext];exact propext ⟨λh=>h.elim id (λh=>by omega),Or.inl⟩
theorem Bt {S:Nat->Prop} {H H' H'':Hp} (h:H.length<=H'.length) (h':H'.length<=H''.length):ext (ext S H H') H' H''=ext S H H'':=by
 funext b;simp only [ext];apply propext;constructor
 ·rintro ((h | h) | h)
  ·exact .inl h
  ·exact .inr ⟨h.1,by omega⟩
  ·exact .inr ⟨by omega,h.2⟩
 ·rintro (h | h)
  ·exact .inl (.inl h)
  ·by_cases q:b<H'.length
   ·exact .inl (.inr ⟨h.1,q⟩)
   ·exact .inr ⟨by omega,h.2⟩
theorem Post.refl {Φ:Phi} {S:Nat->Prop} {H:Hp} {w:World} (h:Rel Φ S H w):Post Φ S H w Φ H w:=
 ⟨Phi.agree_refl _ _,Nat.le_refl _,by rw [vV];exact h,λk _ hk=>by rw [vV] at hk;exact hk,rfl,rfl,rfl,Nat.le_refl _,λ_ _ _=>rfl,λb blk hb hx _ _=>by rw [vV] at hb;exact ⟨hb,hx⟩⟩
theorem Post.trans {Φ Φ' Φ'':Phi} {S:Nat->Prop} {H H' H'':Hp} {w w' w'':World} (h:Post Φ S H w Φ' H' w') (h':Post Φ' (ext S H H') H' w' Φ'' H'' w''):Post Φ S H w Φ'' H'' w'' where
 agree:=λb hb=>by
  obtain ⟨a1,a2,a3⟩:=h.agree b hb
  obtain ⟨b1,b2,b3⟩:=h'.agree b (.inl hb)
  exact ⟨b1.trans a1,b2.trans a2,b3.trans a3⟩
 len:=Nat.le_trans h.len h'.len
 rel:=by have:=h'.rel;rwa [Bt h.len h'.len] at this
 own:=λk hk ho=>h.own k hk (h'.own k (Nat.lt_of_lt_of_le hk h.size) (by rw [Bt h.len h'.len];exact ho))
 os:=h'.os.trans h.os
 tape:=h'.tape.trans h.tape
 output:=h'.output.trans h.output
 size:=Nat.le_trans h.size h'.size
 frame:=λk hk ho=>(h'.frame k (Nat.lt_of_lt_of_le hk h.size) (λq=>ho (h.own k hk q))).trans (h.frame k hk ho)
 rok:=λb blk hb hx hl ho=>by
  obtain ⟨q1,q2⟩:=h'.rok b blk (by rw [Bt h.len h'.len];exact hb) hx hl ho
  exact h.rok b blk q1 q2 hl ho
theorem Rel.drew {Φ:Phi} {S:Nat->Prop} {H:Hp} {w:World} (h:Rel Φ S H w) (n:Nat):Rel Φ S H { w with drawn:=n }:=
 ⟨h.lt,h.closed,h.cell,h.own,h.inj,h.ro⟩
theorem Post.drew {Φ Φ':Phi} {S:Nat->Prop} {H H':Hp} {w w':World} (h:Post Φ S H w Φ' H' w') (n:Nat):Post Φ S H w Φ' H' { w' with drawn:=n }:=
 ⟨h.agree,h.len,h.rel.drew n,h.own,h.os,h.tape,h.output,h.size,h.frame,h.rok⟩
theorem Hp.cell_some {H:Hp} {b o:Nat} {v:AV} (h:H.cell b o=some v):∃ blk,H[b]?=some blk/\blk.live=true/\blk.cells[o]?=some v:=by
 unfold Hp.cell at h
 split at h
 ·rename_i k hk
  split at h
  ·rename_i hl;exact ⟨k,hk,hl,h⟩
  ·cases h
 ·cases h
theorem Rel.cell_of {Φ:Phi} {S:Nat->Prop} {H:Hp} {w:World} (h:Rel Φ S H w) {b o:Nat} {v:AV} (hb:S b) (hv:H.cell b o=some v) :
  w.cell? ⟨Φ.b b,Φ.o b+o,none⟩=some (v.toV Φ)/\v.ok Φ S/\v.isCell=true:=by
 obtain ⟨blk,h1,h2,h3⟩:=Hp.cell_some hv
 exact ⟨h.cell b blk hb h1 h2 o v h3,(h.closed b blk hb h1 h2 v (List.mem_of_getElem? h3))⟩
def Phi.put (Φ:Phi) (n:Nat) (b o k:Nat):Phi:=⟨λi=>if i=n then b else Φ.b i,λi=>if i=n then o else Φ.o i,λi=>if i=n then k else Φ.k i⟩
theorem Phi.put_agree {Φ:Phi} {S:Nat->Prop} {n b o k:Nat} (h:¬ S n):Φ.agree (Φ.put n b o k) S:=by
 intro i hi
 have:i≠n:=λe=>h (e ▸ hi)
 simp [Phi.put,this]
theorem Phi.put_b (Φ:Phi) (n b o k:Nat):(Φ.put n b o k).b n=b:=by simp [Phi.put]
theorem Phi.put_o (Φ:Phi) (n b o k:Nat):(Φ.put n b o k).o n=o:=by simp [Phi.put]
theorem Phi.put_k (Φ:Phi) (n b o k:Nat):(Φ.put n b o k).k n=k:=by simp [Phi.put]
theorem qn {S:Nat->Prop} {H:Hp} {x:Blk} {b:Nat} (h:ext S H (H++[x]) b):S b\/b=H.length:=by
 rcases h with h | ⟨h1,h2⟩
 ·exact .inl h
 ·simp at h2;exact .inr (by omega)
theorem cell?_push (w:World) (o:Obj) (a:Addr) (h:a.block<w.heap.size):World.cell? { w with heap:=w.heap.push o } a=w.cell? a:=by
 unfold World.cell?
 simp only [Array.getElem?_push]
 rw [if_neg (by omega)]
theorem cell?_lt {w:World} {a:Addr} {v:Value} (h:w.cell? a=some v):a.block<w.heap.size:=by
 unfold World.cell? at h
 split at h
 ·rename_i c T f e
  exact (Array.getElem?_eq_some_iff.1 e).1
 ·cases h
theorem Rel.new {Φ:Phi} {S:Nat->Prop} {H:Hp} {w:World} (h:Rel Φ S H w) (cs:List AV) (c:Array Value) (T:TypeId)
  (hcl:∀ v∈cs,v.ok Φ S/\v.isCell=true) (hlen:cs.length<=c.size) (hc:∀ (i:Nat) (v:AV),cs[i]?=some v->c[i]?=some (v.toV Φ)) :
  Post Φ S H w (Φ.put H.length w.heap.size 0 c.size) (H++[⟨cs,true,true⟩]) { w with heap:=w.heap.push (.cells c T) }:=by
 have hS:¬ S H.length:=λq=>Nat.lt_irrefl _ (h.lt _ q)
 have hag:Φ.agree (Φ.put H.length w.heap.size 0 c.size) S:=Phi.put_agree hS
 have hold:∀ b blk,S b->(H++[(⟨cs,true,true⟩:Blk)])[b]?=some blk->H[b]?=some blk:=λb blk hb hx=>by
  rwa [List.getElem?_append_left (h.lt b hb)] at hx
 have hnew:∀ blk,(H++[(⟨cs,true,true⟩:Blk)])[H.length]?=some blk->blk=⟨cs,true,true⟩:=λblk hx=>by
  simpa using hx.symm
 have hne:∀ b,S b->b≠H.length:=λb hb e=>hS (e ▸ hb)
 have hbn:∀ b,S b->(Φ.put H.length w.heap.size 0 c.size).b b=Φ.b b:=λb hb=>(hag b hb).1
 have hown:∀ b blk,S b->H[b]?=some blk->blk.live=true->blk.own=true->Φ.b b<w.heap.size:=λb blk hb h1 h2 h3=>by
  obtain ⟨c',T',e,_⟩:=h.own b blk hb h1 h2 h3
  exact (Array.getElem?_eq_some_iff.1 e).1
 refine ⟨hag,by simp,⟨?_,?_,?_,?_,?_,?_⟩,?_,rfl,rfl,rfl,by simp,?_,?_⟩
 ·intro b hb
  rcases qn hb with hb | rfl
  ·have:=h.lt b hb;simp;omega
  ·simp
 ·intro b blk hb hx hl v hv
  have himp:∀ b,S b->ext S H (H++[(⟨cs,true,true⟩:Blk)]) b:=λb hb=>.inl hb
  rcases qn hb with hb | rfl
  ·obtain ⟨q1,q2⟩:=h.closed b blk hb (hold b blk hb hx) hl v hv
   exact ⟨AV.ok_agree hag himp v q1,q2⟩
  ·obtain rfl:=hnew blk hx
   obtain ⟨q1,q2⟩:=hcl v hv
   exact ⟨AV.ok_agree hag himp v q1,q2⟩
 ·intro b blk hb hx hl i v hv
  rcases qn hb with hb | rfl
  ·have hc':=h.cell b blk hb (hold b blk hb hx) hl i v hv
   have hin:=AV.ok_inS v (h.closed b blk hb (hold b blk hb hx) hl v (List.mem_of_getElem? hv)).1
   rw [(hag b hb).1,(hag b hb).2.1,AV.toV_agree hag v hin]
   rw [cell?_push _ _ _ (cell?_lt hc')]
   exact hc'
  ·obtain rfl:=hnew blk hx
   have hin:=AV.ok_inS v (hcl v (List.mem_of_getElem? hv)).1
   rw [Phi.put_b,Phi.put_o,AV.toV_agree hag v hin]
   unfold World.cell?
   simp only [Array.getElem?_push_size]
   simpa using hc i v hv
 ·intro b blk hb hx hl ho
  rcases qn hb with hb | rfl
  ·obtain ⟨c',T',e,e2,e3⟩:=h.own b blk hb (hold b blk hb hx) hl ho
   refine ⟨c',T',?_,?_,?_⟩
   ·rw [(hag b hb).1]
    simp only [Array.getElem?_push]
    rw [if_neg (by have:=(Array.getElem?_eq_some_iff.1 e).1;omega)]
    exact e
   ·rw [(hag b hb).2.1,(hag b hb).2.2];exact e2
   ·rw [(hag b hb).2.2];exact e3
  ·obtain rfl:=hnew blk hx
   refine ⟨c,T,?_,?_,?_⟩
   ·rw [Phi.put_b];simp
   ·rw [Phi.put_o,Phi.put_k];omega
   ·rw [Phi.put_k];exact hlen
 ·intro b blk b' blk' hb hb' hx hx' hl hl' ho ho' e
  rcases qn hb with hb | rfl
  ·rcases qn hb' with hb' | rfl
   ·rw [hbn b hb,hbn b' hb'] at e
    exact h.inj b blk b' blk' hb hb' (hold b blk hb hx) (hold b' blk' hb' hx') hl hl' ho ho' e
   ·rw [hbn b hb,Phi.put_b] at e
    have:=hown b blk hb (hold b blk hb hx) hl ho
    omega
  ·rcases qn hb' with hb' | rfl
   ·rw [hbn b' hb',Phi.put_b] at e
    have:=hown b' blk' hb' (hold b' blk' hb' hx') hl' ho'
    omega
   ·rfl
 ·intro b blk b' blk' hb hb' hx hx' hl hl' ho ho' hne' e
  rcases qn hb' with hb' | rfl
  ·rcases qn hb with hb | rfl
   ·rw [hbn b hb,hbn b' hb'] at e
    exact h.ro b blk b' blk' hb hb' (hold b blk hb hx) (hold b' blk' hb' hx') hl hl' ho ho' hne' e
   ·rw [hbn b' hb',Phi.put_b] at e
    obtain ⟨v,hv⟩:∃ v,blk'.cells[0]?=some v:=by
     cases hcs:blk'.cells with
     | nil=>exact absurd hcs hne'
     | cons v l=>exact ⟨v,rfl⟩
    have:=cell?_lt (h.cell b' blk' hb' (hold b' blk' hb' hx') hl' 0 v hv)
    simp at this
    omega
  ·obtain rfl:=hnew blk' hx'
   simp at ho'
 ·rintro k hk ⟨b,blk,hb,hx,ho,hl,rfl⟩
  rcases qn hb with hb | rfl
  ·exact ⟨b,blk,hb,hold b blk hb hx,ho,hl,(hbn b hb).symm⟩
  ·rw [Phi.put_b] at hk;omega
 ·intro k hk _
  simp only [Array.getElem?_push]
  rw [if_neg (by omega)]
 ·intro b blk hb hx hl ho
  rcases qn hb with hb | rfl
  ·exact ⟨hb,hold b blk hb hx⟩
  ·obtain rfl:=hnew blk hx
   simp at ho
end Go.AE
end
section
namespace Go.AE
theorem Hp.st_some {H H':Hp} {b o:Nat} {v:AV} (h:H.st b o v=some H') :
  ∃ blk,H[b]?=some blk/\blk.live=true/\blk.own=true/\v.isCell=true/\o<blk.cells.length/\H'=H.set b { blk with cells:=blk.cells.set o v }:=by
 unfold Hp.st at h
 split at h
 ·rename_i k hk
  split at h
  ·rename_i hl
   simp only [Bool.and_eq_true,decide_eq_true_eq] at hl
   exact ⟨k,hk,hl.1.1.1,hl.1.1.2,hl.1.2,hl.2,(Option.some.inj h).symm⟩
  ·cases h
 ·cases h
theorem getElem?_set_blk {H:Hp} {b b':Nat} {x y:Blk} (h:(H.set b x)[b']?=some y):(b'=b/\y=x)\/(b'≠b/\H[b']?=some y):=by
 rw [List.getElem?_set] at h
 split at h
 ·rename_i e
  split at h
  ·exact .inl ⟨e.symm,(Option.some.inj h).symm⟩
  ·cases h
 ·rename_i e;exact .inr ⟨λq=>e q.symm,h⟩
theorem Rel.store {Φ:Phi} {S:Nat->Prop} {H H':Hp} {w:World} (h:Rel Φ S H w) {b o:Nat} {v:AV} (hb:S b) (hv:v.ok Φ S) (hst:H.st b o v=some H') :
  w.frozen? ⟨Φ.b b,Φ.o b+o,none⟩=false/\(∃ u,w.cell? ⟨Φ.b b,Φ.o b+o,none⟩=some u) /\
  Post Φ S H w Φ H' (w.setCell ⟨Φ.b b,Φ.o b+o,none⟩ (v.toV Φ)):=by
 obtain ⟨blk,h1,h2,h3,h4,h5,rfl⟩:=Hp.st_some hst
 obtain ⟨c,T,e1,e2,e3⟩:=h.own b blk hb h1 h2 h3
 have hcell:∃ u,w.cell? ⟨Φ.b b,Φ.o b+o,none⟩=some u:=
  ⟨_,h.cell b blk hb h1 h2 o _ (List.getElem?_eq_getElem h5)⟩
 have hfz:w.frozen? ⟨Φ.b b,Φ.o b+o,none⟩=false:=by
  unfold World.frozen?;simp only [e1];simp
 have hset:∀ k,k≠Φ.b b->(w.setCell ⟨Φ.b b,Φ.o b+o,none⟩ (v.toV Φ)).heap[k]?=w.heap[k]?:=λk hk=>by
  simp only [World.setCell,Array.getElem?_modify];rw [if_neg (by simpa using λe=>hk e.symm)]
 have hset2:(w.setCell ⟨Φ.b b,Φ.o b+o,none⟩ (v.toV Φ)).heap[Φ.b b]?=some (.cells (c.setIfInBounds (Φ.o b+o) (v.toV Φ)) T (0,0)):=by
  simp only [World.setCell,Array.getElem?_modify,e1];simp
 have hlen:(H.set b { blk with cells:=blk.cells.set o v }).length=H.length:=by simp
 have hext:ext S H (H.set b { blk with cells:=blk.cells.set o v })=S:=by
  funext b';simp only [ext,hlen];exact propext ⟨λq=>q.elim id (λq=>by omega),.inl⟩
 have hown:∀ k,Own Φ S (H.set b { blk with cells:=blk.cells.set o v }) k->Own Φ S H k:=by
  rintro k ⟨b',x,hb',hx,ho,hl,rfl⟩
  rcases getElem?_set_blk hx with ⟨rfl,rfl⟩ | ⟨_,hx⟩
  ·exact ⟨_,blk,hb',h1,h3,h2,rfl⟩
  ·exact ⟨b',x,hb',hx,ho,hl,rfl⟩
 refine ⟨hfz,hcell,Phi.agree_refl _ _,by simp,?_,?_,rfl,rfl,rfl,by simp [World.setCell],?_,?_⟩
 ·rw [hext]
  refine ⟨?_,?_,?_,?_,?_,?_⟩
  ·intro b' hb';rw [hlen];exact h.lt b' hb'
  ·intro b' x hb' hx hl u hu
   rcases getElem?_set_blk hx with ⟨rfl,rfl⟩ | ⟨_,hx⟩
   ·rcases List.mem_or_eq_of_mem_set hu with hu | rfl
    ·exact h.closed _ blk hb' h1 h2 u hu
    ·exact ⟨hv,h4⟩
   ·exact h.closed b' x hb' hx hl u hu
  ·intro b' x hb' hx hl i u hu
   rcases getElem?_set_blk hx with ⟨rfl,rfl⟩ | ⟨hne,hx⟩
   ·simp only [List.getElem?_set] at hu
    split at hu
    ·rename_i ei
     subst ei
     obtain rfl:=Option.some.inj hu
     obtain ⟨u,hu⟩:=hcell
     exact World.cell?_setCell_same w _ _ hu
    ·rename_i ei
     exact (World.cell?_setCell_other w _ _ _ (λe=>ei (by have:=congrArg Addr.off e;simp at this;omega))).trans (h.cell _ blk hb' h1 h2 i u hu)
   ·rw [World.cell?_setCell_other w]
    ·exact h.cell b' x hb' hx hl i u hu
    ·intro e
     have e':Φ.b b=Φ.b b':=congrArg Addr.block e
     cases hxo:x.own with
     | true=>exact hne (h.inj b blk b' x hb hb' h1 hx h2 hl h3 hxo e').symm
     | false=>exact h.ro b blk b' x hb hb' h1 hx h2 hl h3 hxo (λq=>by rw [q] at hu;simp at hu) e'
  ·intro b' x hb' hx hl ho
   rcases getElem?_set_blk hx with ⟨rfl,rfl⟩ | ⟨hne,hx⟩
   ·exact ⟨_,T,hset2,by simpa using e2,by simpa using e3⟩
   ·obtain ⟨c',T',q1,q2,q3⟩:=h.own b' x hb' hx hl ho
    exact ⟨c',T',by rw [hset _ (λe=>hne (h.inj b' x b blk hb' hb hx h1 hl h2 ho h3 e))];exact q1,q2,q3⟩
  ·intro b1 x1 b2 x2 hb1 hb2 hx1 hx2 hl1 hl2 ho1 ho2 e
   have k1:∃ y,H[b1]?=some y/\y.live=true/\y.own=true:=by
    rcases getElem?_set_blk hx1 with ⟨rfl,rfl⟩ | ⟨_,hx⟩
    ·exact ⟨blk,h1,h2,h3⟩
    ·exact ⟨x1,hx,hl1,ho1⟩
   have k2:∃ y,H[b2]?=some y/\y.live=true/\y.own=true:=by
    rcases getElem?_set_blk hx2 with ⟨rfl,rfl⟩ | ⟨_,hx⟩
    ·exact ⟨blk,h1,h2,h3⟩
    ·exact ⟨x2,hx,hl2,ho2⟩
   obtain ⟨y1,a1,a2,a3⟩:=k1
   obtain ⟨y2,c1,c2,c3⟩:=k2
   exact h.inj b1 y1 b2 y2 hb1 hb2 a1 c1 a2 c2 a3 c3 e
  ·intro b1 x1 b2 x2 hb1 hb2 hx1 hx2 hl1 hl2 ho1 ho2 hn e
   have k1:∃ y,H[b1]?=some y/\y.live=true/\y.own=true:=by
    rcases getElem?_set_blk hx1 with ⟨rfl,rfl⟩ | ⟨_,hx⟩
    ·exact ⟨blk,h1,h2,h3⟩
    ·exact ⟨x1,hx,hl1,ho1⟩
   obtain ⟨y1,a1,a2,a3⟩:=k1
   rcases getElem?_set_blk hx2 with ⟨rfl,rfl⟩ | ⟨_,hx⟩
   ·simp [h3] at ho2
   ·exact h.ro b1 y1 b2 x2 hb1 hb2 a1 hx a2 hl2 a3 ho2 hn e
 ·intro k _ hk;rw [hext] at hk;exact hown k hk
 ·intro k hk hno
  exact hset k (λe=>hno ⟨b,blk,hb,h1,h3,h2,e.symm⟩)
 ·intro b' x hb' hx hl ho
  rw [hext] at hb'
  rcases getElem?_set_blk hx with ⟨rfl,rfl⟩ | ⟨_,hx⟩
  ·simp [h3] at ho
  ·exact ⟨hb',hx⟩
def Hp.kill (H:Hp) (b:Nat):Hp:=match H[b]? with
 | some blk=>H.set b { blk with live:=false }
 | none=>H
theorem Hp.kill_some {H:Hp} {b b':Nat} {x:Blk} (hx:(H.kill b)[b']?=some x) (hl:x.live=true):b'≠b/\H[b']?=some x:=by
 unfold Hp.kill at hx
 split at hx
 ·rcases getElem?_set_blk hx with ⟨rfl,rfl⟩ | q
  ·simp at hl
  ·exact q
 ·rename_i e
  refine ⟨?_,hx⟩
  rintro rfl
  rw [e] at hx;cases hx
theorem Hp.kill_length (H:Hp) (b:Nat):(H.kill b).length=H.length:=by
 unfold Hp.kill;split <;> simp
theorem Rel.kill {Φ:Phi} {S:Nat->Prop} {H:Hp} {w:World} (h:Rel Φ S H w) (b:Nat):Rel Φ S (H.kill b) w where
 lt:=λb' hb'=>by rw [Hp.kill_length];exact h.lt b' hb'
 closed:=λb' x hb' hx hl=>h.closed b' x hb' (Hp.kill_some hx hl).2 hl
 cell:=λb' x hb' hx hl=>h.cell b' x hb' (Hp.kill_some hx hl).2 hl
 own:=λb' x hb' hx hl=>h.own b' x hb' (Hp.kill_some hx hl).2 hl
 inj:=λb1 x1 b2 x2 hb1 hb2 hx1 hx2 hl1 hl2=>h.inj b1 x1 b2 x2 hb1 hb2 (Hp.kill_some hx1 hl1).2 (Hp.kill_some hx2 hl2).2 hl1 hl2
 ro:=λb1 x1 b2 x2 hb1 hb2 hx1 hx2 hl1 hl2=>h.ro b1 x1 b2 x2 hb1 hb2 (Hp.kill_some hx1 hl1).2 (Hp.kill_some hx2 hl2).2 hl1 hl2
theorem Post.kill {Φ:Phi} {S:Nat->Prop} {H:Hp} {w:World} (h:Rel Φ S H w) (b:Nat):Post Φ S H w Φ (H.kill b) w:=by
 have hext:ext S H (H.kill b)=S:=by
  funext b';simp only [ext,Hp.kill_length];exact propext ⟨λq=>q.elim id (λq=>by omega),.inl⟩
 refine ⟨Phi.agree_refl _ _,by rw [Hp.kill_length];exact Nat.le_refl _,by rw [hext];exact h.kill b,?_,rfl,rfl,rfl,Nat.le_refl _,λ_ _ _=>rfl,λb' x hb' hx hl ho=>by rw [hext] at hb';exact ⟨hb',(Hp.kill_some hx hl).2⟩⟩
 rw [hext]
 rintro k _ ⟨b',x,hb',hx,ho,hl,rfl⟩
 exact ⟨b',x,hb',(Hp.kill_some hx hl).2,ho,hl,rfl⟩
theorem Rel.grow {Φ:Phi} {S:Nat->Prop} {H:Hp} {w w':World} (h:Rel Φ S H w) {b o:Nat} {blk:Blk} {cs:List AV} {c':Array Value} {T:TypeId}
  (hb:S b) (h1:H[b]?=some blk) (h2:blk.live=true) (h3:blk.own=true)
  (hcl:∀ v∈cs,v.ok Φ S/\v.isCell=true) (ho:o<=Φ.k b) (hlen:cs.length<=Φ.k b - o)
  (hsz:c'.size=Φ.o b+Φ.k b) (hc:∀ (i:Nat) (v:AV),cs[i]?=some v->c'[Φ.o b+o+i]?=some (v.toV Φ))
  (hother:∀ k,k≠Φ.b b->w'.heap[k]?=w.heap[k]?) (hthis:w'.heap[Φ.b b]?=some (.cells c' T (0,0)))
  (hos:w'.os=w.os) (htape:w'.tape=w.tape) (hout:w'.output=w.output) (hsize:w'.heap.size=w.heap.size) :
  Post Φ S H w (Φ.put H.length (Φ.b b) (Φ.o b+o) (Φ.k b - o)) (H.kill b++[⟨cs,true,true⟩]) w':=by
 have hS:¬ S H.length:=λq=>Nat.lt_irrefl _ (h.lt _ q)
 have hag:Φ.agree (Φ.put H.length (Φ.b b) (Φ.o b+o) (Φ.k b - o)) S:=Phi.put_agree hS
 have hlenk:(H.kill b).length=H.length:=Hp.kill_length H b
 have hext:ext S H (H.kill b++[(⟨cs,true,true⟩:Blk)])=λb'=>S b'\/b'=H.length:=by
  funext b';simp only [ext,List.length_append,hlenk,List.length_singleton]
  exact propext ⟨λq=>q.elim .inl (λq=>.inr (by omega)),λq=>q.elim .inl (λq=>.inr (by omega))⟩
 have hold:∀ b' x,S b'->(H.kill b++[(⟨cs,true,true⟩:Blk)])[b']?=some x->x.live=true->b'≠b/\H[b']?=some x:=λb' x hb' hx hl=>by
  rw [List.getElem?_append_left (by rw [hlenk];exact h.lt b' hb')] at hx
  exact Hp.kill_some hx hl
 have hnew:∀ x,(H.kill b++[(⟨cs,true,true⟩:Blk)])[H.length]?=some x->x=⟨cs,true,true⟩:=λx hx=>by
  rw [List.getElem?_append_right (by omega),hlenk] at hx
  simpa using hx.symm
 have hbn:∀ b',S b'->(Φ.put H.length (Φ.b b) (Φ.o b+o) (Φ.k b - o)).b b'=Φ.b b':=λb' hb'=>(hag b' hb').1
 have hne:∀ b' x,S b'->b'≠b->H[b']?=some x->x.live=true->(x.own=false->x.cells≠[])->Φ.b b'≠Φ.b b:=λb' x hb' hn hx hl hcells e=>by
  cases hxo:x.own with
  | true=>exact hn (h.inj b' x b blk hb' hb hx h1 hl h2 hxo h3 e)
  | false=>exact h.ro b blk b' x hb hb' h1 hx h2 hl h3 hxo (hcells hxo) e.symm
 refine ⟨hag,by simp [hlenk],?_,?_,hos,htape,hout,by omega,?_,?_⟩
 ·rw [hext]
  have himp:∀ b',S b'->(S b'\/b'=H.length):=λ_ q=>.inl q
  refine ⟨?_,?_,?_,?_,?_,?_⟩
  ·rintro b' (hb' | rfl)
   ·have:=h.lt b' hb';simp [hlenk];omega
   ·simp [hlenk]
  ·rintro b' x (hb' | rfl) hx hl v hv
   ·obtain ⟨_,hx⟩:=hold b' x hb' hx hl
    obtain ⟨q1,q2⟩:=h.closed b' x hb' hx hl v hv
    exact ⟨AV.ok_agree hag himp v q1,q2⟩
   ·obtain rfl:=hnew x hx
    obtain ⟨q1,q2⟩:=hcl v hv
    exact ⟨AV.ok_agree hag himp v q1,q2⟩
  ·rintro b' x (hb' | rfl) hx hl i v hv
   ·obtain ⟨hn,hx⟩:=hold b' x hb' hx hl
    have hc':=h.cell b' x hb' hx hl i v hv
    have hin:=AV.ok_inS v (h.closed b' x hb' hx hl v (List.mem_of_getElem? hv)).1
    rw [(hag b' hb').1,(hag b' hb').2.1,AV.toV_agree hag v hin]
    unfold World.cell? at hc' ⊢
    rw [hother _ (hne b' x hb' hn hx hl (λ_ q=>by rw [q] at hv;simp at hv))]
    exact hc'
   ·obtain rfl:=hnew x hx
    have hin:=AV.ok_inS v (hcl v (List.mem_of_getElem? hv)).1
    rw [Phi.put_b,Phi.put_o,AV.toV_agree hag v hin]
    unfold World.cell?
    simp only [hthis]
    simpa using hc i v hv
  ·rintro b' x (hb' | rfl) hx hl hxo
   ·obtain ⟨hn,hx⟩:=hold b' x hb' hx hl
    obtain ⟨c1,T1,q1,q2,q3⟩:=h.own b' x hb' hx hl hxo
    refine ⟨c1,T1,?_,?_,?_⟩
    ·rw [hbn b' hb',hother _ (hne b' x hb' hn hx hl (λq=>by rw [hxo] at q;cases q))];exact q1
    ·rw [(hag b' hb').2.1,(hag b' hb').2.2];exact q2
    ·rw [(hag b' hb').2.2];exact q3
   ·obtain rfl:=hnew x hx
    refine ⟨c',T,?_,?_,?_⟩
    ·rw [Phi.put_b];exact hthis
    ·rw [Phi.put_o,Phi.put_k];omega
    ·rw [Phi.put_k];exact hlen
  ·rintro b1 x1 b2 x2 (hb1 | rfl) (hb2 | rfl) hx1 hx2 hl1 hl2 ho1 ho2 e
   ·rw [hbn b1 hb1,hbn b2 hb2] at e
    exact h.inj b1 x1 b2 x2 hb1 hb2 (hold b1 x1 hb1 hx1 hl1).2 (hold b2 x2 hb2 hx2 hl2).2 hl1 hl2 ho1 ho2 e
   ·rw [hbn b1 hb1,Phi.put_b] at e
    obtain ⟨hn,hx⟩:=hold b1 x1 hb1 hx1 hl1
    exact absurd e (hne b1 x1 hb1 hn hx hl1 (λq=>by rw [ho1] at q;cases q))
   ·rw [hbn b2 hb2,Phi.put_b] at e
    obtain ⟨hn,hx⟩:=hold b2 x2 hb2 hx2 hl2
    exact absurd e.symm (hne b2 x2 hb2 hn hx hl2 (λq=>by rw [ho2] at q;cases q))
   ·rfl
  ·rintro b1 x1 b2 x2 (hb1 | rfl) (hb2 | rfl) hx1 hx2 hl1 hl2 ho1 ho2 hnn e
   ·rw [hbn b1 hb1,hbn b2 hb2] at e
    exact h.ro b1 x1 b2 x2 hb1 hb2 (hold b1 x1 hb1 hx1 hl1).2 (hold b2 x2 hb2 hx2 hl2).2 hl1 hl2 ho1 ho2 hnn e
   ·obtain rfl:=hnew x2 hx2
    simp at ho2
   ·rw [hbn b2 hb2,Phi.put_b] at e
    obtain ⟨hn,hx⟩:=hold b2 x2 hb2 hx2 hl2
    exact hne b2 x2 hb2 hn hx hl2 (λ_=>hnn) e.symm
   ·obtain rfl:=hnew x2 hx2
    simp at ho2
 ·rw [hext]
  rintro k hk ⟨b',x,hb' | rfl,hx,hxo,hl,rfl⟩
  ·obtain ⟨hn,hx⟩:=hold b' x hb' hx hl
   exact ⟨b',x,hb',hx,hxo,hl,(hbn b' hb').symm⟩
  ·exact ⟨b,blk,hb,h1,h3,h2,(Phi.put_b _ _ _ _ _).symm⟩
 ·intro k hk hno
  exact hother k (λe=>hno ⟨b,blk,hb,h1,h3,h2,e.symm⟩)
 ·rw [hext]
  rintro b' x (hb' | rfl) hx hl hxo
  ·exact ⟨hb',(hold b' x hb' hx hl).2⟩
  ·obtain rfl:=hnew x hx
   simp at hxo
theorem WF.new {H:Hp} (h:WF H) (cs:List AV) (hcl:∀ v∈cs,AV.inS (·<H.length) v) (own live:Bool):WF (H++[⟨cs,own,live⟩]):=by
 intro b x hx hl v hv
 have himp:∀ b,b<H.length->b<(H++[(⟨cs,own,live⟩:Blk)]).length:=λb hb=>by simp;omega
 rw [List.getElem?_append] at hx
 split at hx
 ·exact AV.inS_mono himp v (h b x hx hl v hv)
 ·rename_i hb
  by_cases e:b - H.length=0
  ·rw [e] at hx
   obtain rfl:⟨cs,own,live⟩=x:=by simpa using hx
   exact AV.inS_mono himp v (hcl v hv)
  ·rw [List.getElem?_eq_none (by simp;omega)] at hx;cases hx
theorem WF.st {H H':Hp} (h:WF H) {b o:Nat} {v:AV} (hv:AV.inS (·<H.length) v) (hst:H.st b o v=some H'):WF H'/\H'.length=H.length:=by
 obtain ⟨blk,h1,h2,h3,h4,h5,rfl⟩:=Hp.st_some hst
 refine ⟨?_,by simp⟩
 intro b' x hx hl u hu
 have:(H.set b { blk with cells:=blk.cells.set o v }).length=H.length:=by simp
 rw [this]
 rcases getElem?_set_blk hx with ⟨rfl,rfl⟩ | ⟨_,hx⟩
 ·rcases List.mem_or_eq_of_mem_set hu with hu | rfl
  ·exact h _ blk h1 h2 u hu
  ·exact hv
 ·exact h b' x hx hl u hu
theorem WF.kill {H:Hp} (h:WF H) (b:Nat):WF (H.kill b):=by
 intro b' x hx hl u hu
 rw [Hp.kill_length]
 exact h b' x (Hp.kill_some hx hl).2 hl u hu
end Go.AE
end
section
namespace Go.AE
inductive LK where
 | int (k:IntKind) | bool | str | sl | ptr | any
inductive Shp where
 | leaf (k:LK)
 | agg (ks:List LK)
 | tup (l:List Shp)
inductive TD where
 | int (k:IntKind) | bool | str | ptr | slice (e:TypeId) | arr (n:Nat) (e:TypeId) | struct (fs:List (Nat×TypeId)) | other
structure TI where
 d:TD
 agg:Bool
 size:Nat
 bytes:Nat
 zero:List AV
 ks:List LK
structure Tabs where
 ty:TypeId->Option TI
 sh:TypeId->Option Shp
abbrev Tab:=TypeId->Option TI
def AV.asI (k:IntKind):AV->Option Int
 | .int k' n=>if k'=k then some n else none
 | _=>none
def AV.asB:AV->Option Bool
 | .bool b=>some b
 | _=>none
def AV.asS:AV->Option ByteArray
 | .str s=>some s
 | _=>none
def AV.asSl:AV->Option Sl
 | .sl s=>some s
 | _=>none
def AV.asP:AV->ON
 | .ptr b o=>some (b,o)
 | _=>none
def AV.asAgg (n:Nat):AV->Option (List AV)
 | .agg l=>if l.length=n then some l else none
 | _=>none
def AV.asTup (n:Nat):AV->Option (List AV)
 | .tup l=>if l.length=n then some l else none
 | _=>none
section
variable {R:Type}
def unk (lk:LK) (v:AV) (K:AV->Option R):Option R:=match lk with
 | .int k=>(v.asI k).bind λn=>K (.int k n)
 | .bool=>v.asB.bind λb=>K (.bool b)
 | .str=>v.asS.bind λs=>K (.str s)
 | .sl=>v.asSl.bind λs=>K (.sl s)
 | .ptr=>v.asP.bind λp=>K (.ptr p.1 p.2)
 | .any=>K v
def Lt:List LK->Nat->List AV->(List AV->Option R)->Option R
 | [],_,_,K=>K []
 | k::ks,j,l,K=>(l[j]?).bind λv=>unk k v λv'=>Lt ks (j+1) l λr=>K (v'::r)
mutual
def Bu:Shp->AV->(AV->Option R)->Option R
 | .leaf k,v,K=>unk k v K
 | .agg ks,v,K=>(v.asAgg ks.length).bind λl=>Lt ks 0 l λr=>K (.agg r)
 | .tup ss,v,K=>(v.asTup ss.length).bind λl=>Ei ss 0 l λr=>K (.tup r)
def Ei:List Shp->Nat->List AV->(List AV->Option R)->Option R
 | [],_,_,K=>K []
 | s::ss,j,l,K=>(l[j]?).bind λv=>Bu s v λv'=>Ei ss (j+1) l λr=>K (v'::r)
end
theorem AV.asI_some {k:IntKind} {v:AV} {n:Int} (h:v.asI k=some n):v=.int k n:=by
 cases v <;> simp only [AV.asI] at h <;> try (cases h;done)
 split at h
 ·rename_i e;cases h;rw [e]
 ·cases h
theorem AV.asB_some {v:AV} {n:Bool} (h:v.asB=some n):v=.bool n:=by
 cases v <;> simp only [AV.asB] at h <;> cases h;rfl
theorem AV.asS_some {v:AV} {n:ByteArray} (h:v.asS=some n):v=.str n:=by
 cases v <;> simp only [AV.asS] at h <;> cases h;rfl
theorem AV.asSl_some {v:AV} {n:Sl} (h:v.asSl=some n):v=.sl n:=by
 cases v <;> simp only [AV.asSl] at h <;> cases h;rfl
theorem AV.asP_some {v:AV} {n:Nat×Nat} (h:v.asP=some n):v=.ptr n.1 n.2:=by
 cases v <;> simp only [AV.asP] at h <;> cases h;rfl
theorem AV.asAgg_some {n:Nat} {v:AV} {l:List AV} (h:v.asAgg n=some l):v=.agg l/\l.length=n:=by
 cases v <;> simp only [AV.asAgg] at h <;> try (cases h;done)
 split at h
 ·rename_i e;cases h;exact ⟨rfl,e⟩
 ·cases h
theorem AV.asTup_some {n:Nat} {v:AV} {l:List AV} (h:v.asTup n=some l):v=.tup l/\l.length=n:=by
 cases v <;> simp only [AV.asTup] at h <;> try (cases h;done)
 split at h
 ·rename_i e;cases h;exact ⟨rfl,e⟩
 ·cases h
theorem ah {α:Type} {x:Option α} {f:α->Option R} {r:R} (h:x.bind f=some r):∃ a,x=some a/\f a=some r:=by
 cases x with
 | none=>cases h
 | some a=>exact ⟨a,rfl,h⟩
theorem Vw {lk:LK} {v:AV} {K:AV->Option R} {r:R} (h:unk lk v K=some r):K v=some r:=by
 cases lk <;> simp only [unk] at h
 ·obtain ⟨n,h1,h2⟩:=ah h;rw [AV.asI_some h1];exact h2
 ·obtain ⟨n,h1,h2⟩:=ah h;rw [AV.asB_some h1];exact h2
 ·obtain ⟨n,h1,h2⟩:=ah h;rw [AV.asS_some h1];exact h2
 ·obtain ⟨n,h1,h2⟩:=ah h;rw [AV.asSl_some h1];exact h2
 ·obtain ⟨n,h1,h2⟩:=ah h;rw [AV.asP_some h1];exact h2
 ·exact h
theorem aeS {l:List AV} {r:R}:∀ (ks:List LK) (j:Nat) (K:List AV->Option R),l.length=j+ks.length->Lt ks j l K=some r->K (l.drop j)=some r
 | [],j,K,hl,h=>by rw [List.drop_eq_nil_of_le (by simp at hl;omega)];exact h
 | k::ks,j,K,hl,h=>by
  simp only [Lt] at h
  obtain ⟨v,h1,h2⟩:=ah h
  have h3:=aeS ks (j+1) _ (by simp at hl;omega) (Vw h2)
  obtain ⟨hj,e⟩:=List.getElem?_eq_some_iff.1 h1
  rw [List.drop_eq_getElem_cons hj,e]
  exact h3
mutual
theorem aeT {r:R}:∀ (s:Shp) (v:AV) (K:AV->Option R),Bu s v K=some r->K v=some r
 | .leaf k,v,K,h=>by simp only [Bu] at h;exact Vw h
 | .agg ks,v,K,h=>by
  simp only [Bu] at h
  obtain ⟨l,h1,h2⟩:=ah h
  obtain ⟨rfl,hl⟩:=AV.asAgg_some h1
  simpa using aeS ks 0 _ (by omega) h2
 | .tup ss,v,K,h=>by
  simp only [Bu] at h
  obtain ⟨l,h1,h2⟩:=ah h
  obtain ⟨rfl,hl⟩:=AV.asTup_some h1
  simpa using aeU ss 0 l _ (by omega) h2
theorem aeU {r:R}:∀ (ss:List Shp) (j:Nat) (l:List AV) (K:List AV->Option R),l.length=j+ss.length->Ei ss j l K=some r->K (l.drop j)=some r
 | [],j,l,K,hl,h=>by
  simp only [Ei] at h
  rw [List.drop_eq_nil_of_le (by simp at hl;omega)];exact h
 | s::ss,j,l,K,hl,h=>by
  simp only [Ei] at h
  obtain ⟨v,h1,h2⟩:=ah h
  have h3:=aeU ss (j+1) l _ (by simp at hl;omega) (aeT s v _ h2)
  obtain ⟨hj,e⟩:=List.getElem?_eq_some_iff.1 h1
  rw [List.drop_eq_getElem_cons hj,e]
  exact h3
end
def Hp.ldI (H:Hp) (k:IntKind) (b o:Nat):Option Int:=(H.cell b o).bind (AV.asI k)
def Hp.ldB (H:Hp) (b o:Nat):Option Bool:=(H.cell b o).bind AV.asB
def Hp.ldS (H:Hp) (b o:Nat):Option ByteArray:=(H.cell b o).bind AV.asS
def Hp.ldSl (H:Hp) (b o:Nat):Option Sl:=(H.cell b o).bind AV.asSl
def Hp.ldP (H:Hp) (b o:Nat):ON:=(H.cell b o).bind AV.asP
def vW (H:Hp) (b o:Nat) (lk:LK) (K:AV->Option R):Option R:=match lk with
 | .int k=>(H.ldI k b o).bind λn=>K (.int k n)
 | .bool=>(H.ldB b o).bind λx=>K (.bool x)
 | .str=>(H.ldS b o).bind λx=>K (.str x)
 | .sl=>(H.ldSl b o).bind λx=>K (.sl x)
 | .ptr=>(H.ldP b o).bind λp=>K (.ptr p.1 p.2)
 | .any=>(H.cell b o).bind K
theorem Vx {H:Hp} {b o:Nat} {lk:LK} {K:AV->Option R} {r:R} (h:vW H b o lk K=some r):∃ v,H.cell b o=some v/\K v=some r:=by
 cases lk <;> simp only [vW] at h <;> obtain ⟨n,h1,h2⟩:=ah h
 ·obtain ⟨v,h3,h4⟩:=ah h1;exact ⟨v,h3,by rw [AV.asI_some h4];exact h2⟩
 ·obtain ⟨v,h3,h4⟩:=ah h1;exact ⟨v,h3,by rw [AV.asB_some h4];exact h2⟩
 ·obtain ⟨v,h3,h4⟩:=ah h1;exact ⟨v,h3,by rw [AV.asS_some h4];exact h2⟩
 ·obtain ⟨v,h3,h4⟩:=ah h1;exact ⟨v,h3,by rw [AV.asSl_some h4];exact h2⟩
 ·obtain ⟨v,h3,h4⟩:=ah h1;exact ⟨v,h3,by rw [AV.asP_some h4];exact h2⟩
 ·exact ⟨n,h1,h2⟩
def vX (H:Hp) (b o:Nat):List LK->(List AV->Option R)->Option R
 | [],K=>K []
 | lk::ks,K=>vW H b o lk λv=>vX H b (o+1) ks λl=>K (v::l)
theorem Vy {H:Hp} {b:Nat} {r:R}:∀ (ks:List LK) (o:Nat) (K:List AV->Option R),vX H b o ks K=some r ->
  ∃ l,l.length=ks.length/\(∀ i v,l[i]?=some v->H.cell b (o+i)=some v)/\K l=some r
 | [],o,K,h=>⟨[],rfl,by simp,h⟩
 | k::ks,o,K,h=>by
  simp only [vX] at h
  obtain ⟨v,h1,h2⟩:=Vx h
  obtain ⟨l,h3,h4,h5⟩:=Vy ks (o+1) _ h2
  refine ⟨v::l,by simp [h3],?_,h5⟩
  intro i u hu
  cases i with
  | zero=>simp at hu;subst hu;exact h1
  | succ i=>
   simp at hu
   have:=h4 i u hu
   rwa [show o+1+i=o+(i+1) by omega] at this
def stN (H:Hp) (b o:Nat):List AV->(Hp->Option R)->Option R
 | [],K=>K H
 | v::l,K=>(H.st b o v).bind λH'=>stN H' b (o+1) l K
def Hp.row (H:Hp) (b o n:Nat):Option (List AV):=match H[b]? with
 | some k=>if k.live&&decide (o+n<=k.cells.length) then some ((k.cells.drop o).take n) else none
 | none=>none
def Hp.ownc (H:Hp) (b:Nat):Option (List AV):=match H[b]? with
 | some k=>if k.live&&k.own then some k.cells else none
 | none=>none
def Sl.row (H:Hp) (s:Sl) (z:Nat):Option (List AV):=if s.n=0 then some [] else match s.ad with
 | some p=>H.row p.1 p.2 (s.n * z)
 | none=>none
def zrow (n:Nat):List AV->List AV
 | [z]=>List.replicate n z
 | l=>(List.replicate n l).flatten
def qO (cells:List AV) (off:Nat):List AV->List AV
 | []=>cells
 | v::l=>qO (cells.set off v) (off+1) l
def nB (place:Nat->ON) (cells:List AV):List (Nat×AV)->Option (List AV)
 | []=>some cells
 | (i,v)::rest=>match place i with
  | none=>none
  | some (off,size)=>if v.cells.length≠size\/off+v.cells.length>cells.length then none else nB place (qO cells off v.cells) rest
def t_ (X:Tab) (fs:List (Nat×TypeId)) (i:Nat):ON:=(fs[i]?).bind λf=>(X f.2).bind λk=>some (f.1,k.size)
def Sl.idx (s:Sl) (i:Int) (z:Nat):ON:=if 0<=i/\i<s.n then s.ad.map λp=>(p.1,p.2+i.toNat * z) else none
def Sl.cut (s:Sl) (z:Nat) (l h:Int):Option Sl:=match s.c with
 | .ex c=>if 0<=l/\l<=h/\h<=c then some ⟨if c=l.toNat then s.a else s.a.map (λp=>(p.1,p.2+l.toNat * z)),h.toNat - l.toNat,.ex (c - l.toNat)⟩ else none
 | .full z'=>s.a.bind λp=>if 0<=l/\l<=h/\h<=s.n/\z'=z then
   some (if l<s.n then ⟨some (p.1,p.2+l.toNat * z),h.toNat - l.toNat,.full z'⟩ else ⟨some (p.1,p.2+l.toNat * z),0,.tip z' p.2⟩) else none
 | .tip z' o=>if l=0/\h=0/\z'=z/\s.n=0/\s.a.isSome then some s else none
def Sl.cut3 (s:Sl) (z:Nat) (l h m:Int):Option Sl:=
 if 0<=l/\l<=h/\h<=m/\(match s.c with | .ex c=>decide (m<=c) | .full z'=>decide (z'=z/\m<=s.n/\s.a.isSome) | .tip _ _=>false)=true then
  some ⟨if m.toNat=l.toNat then s.a else s.a.map (λp=>(p.1,p.2+l.toNat * z)),h.toNat - l.toNat,.ex (m.toNat - l.toNat)⟩ else none
def Hp.mk (H:Hp) (zero:List AV) (bytes:Nat) (n m:Int):Option (Sl×Hp):=
 if 0<=n/\n<=m/\m * bytes<=70368744177664/\m<=70368744177664 then some (⟨some (H.length,0),n.toNat,.ex m.toNat⟩,H++[⟨zrow m.toNat zero,true,true⟩]) else none
def Hp.app (H:Hp) (z bytes:Nat) (s:Sl) (n:Nat) (xs:List AV):Option (Sl×Hp):=
 if (s.n+n) * bytes<=70368744177664/\s.n+n<=70368744177664/\bytes<=70368744177664/\0<z then
  match s.c with
  | .ex c=>
   if s.n+n<=c then
    match s.a with
    | some p=>stN H p.1 (p.2+s.n * z) xs λH'=>some (⟨some p,s.n+n,.ex c⟩,H')
    | none=>some (⟨none,s.n+n,.ex c⟩,H)
   else (s.row H z).bind λolds=>some (⟨some (H.length,0),s.n+n,.full z⟩,H++[⟨olds++xs,true,true⟩])
  | .full z'=>s.a.bind λp=>(H.ownc p.1).bind λcells=>
   if z'=z then
    if p.2+(s.n+n) * z'<=cells.length then stN H p.1 (p.2+s.n * z') xs λH'=>some (⟨some p,s.n+n,.full z'⟩,H')
    else if p.2+s.n * z'=cells.length then some (⟨some (H.length,0),s.n+n,.full z'⟩,H.kill p.1++[⟨cells.drop p.2++xs,true,true⟩])
    else none
   else none
  | .tip _ _=>none
 else none
def Hp.cpy (H:Hp) (z:Nat) (d s:Sl):Option (Nat×Hp):=match d.ad with
 | some p=>((⟨s.a,min s.n d.n,s.c⟩:Sl).row H z).bind λxs=>stN H p.1 p.2 xs λH'=>some (min s.n d.n,H')
 | none=>if min s.n d.n=0 then some (min s.n d.n,H) else none
def Hp.clr (H:Hp) (zero:List AV) (s:Sl):Option Hp:=if s.n=0 then some H else match s.ad with
 | some p=>stN H p.1 p.2 (zrow s.n zero) some
 | none=>none
abbrev Orc (R:Type):=FuncId->List AV->Hp->(AV->Hp->Option R)->Option R
def Vz (X:Tab) (op:BinOp) (t:TypeId) (x y:AV) (K:AV->Option R):Option R:=
 match x,y with
 | .int k a,.int k' b=>
  match op with
  | .shl=>if b<0 then none else K (.int k (k.wrap (a * 2 ^ (min b.toNat k.bits))))
  | .shr=>if b<0 then none else K (.int k (a.fdiv (2 ^ (min b.toNat k.bits))))
  | .add=>if k=k' then K (.int k (k.wrap (a+b))) else none
  | .sub=>if k=k' then K (.int k (k.wrap (a - b))) else none
  | .mul=>if k=k' then K (.int k (k.wrap (a * b))) else none
  | .quo=>if k=k' then (if b=0 then none else K (.int k (k.wrap (a.tdiv b)))) else none
  | .rem=>if k=k' then (if b=0 then none else K (.int k (a.tmod b))) else none
  | .and=>if k=k' then K (.int k (bits .and k a b)) else none
  | .or=>if k=k' then K (.int k (bits .or k a b)) else none
  | .xor=>if k=k' then K (.int k (bits .xor k a b)) else none
  | .andNot=>if k=k' then K (.int k (bits .andNot k a b)) else none
  | .eql=>if k=k' then K (.bool (a==b)) else none
  | .neq=>if k=k' then K (.bool (a != b)) else none
  | .lss=>if k=k' then K (.bool (decide (a<b))) else none
  | .leq=>if k=k' then K (.bool (decide (a<=b))) else none
  | .gtr=>if k=k' then K (.bool (decide (a>b))) else none
  | .geq=>if k=k' then K (.bool (decide (a>=b))) else none
 | .bool a,.bool b=>
  match op,(X t).map TI.d with
  | .eql,some .bool=>K (.bool (a==b))
  | .neq,some .bool=>K (.bool (!(a==b)))
  | _,_=>none
 | .str a,.str b=>
  match op with
  | .eql=>K (.bool (a.toList==b.toList))
  | .neq=>K (.bool (!(a.toList==b.toList)))
  | .add=>if a.size+b.size<=9223372036854775807 then K (.str (a++b)) else none
  | _=>none
 | .sl s,.sl ⟨none,_,_⟩=>
  match op,(X t).map TI.d with
  | .eql,some (.slice _)=>K (.bool s.a.isNone)
  | .neq,some (.slice _)=>K (.bool (!s.a.isNone))
  | _,_=>none
 | _,_=>none
def VA (X:Tab) (t:TypeId) (x:AV) (lo hi mx:Option AV) (K:AV->Option R):Option R:=
 match (X t).map TI.d,x with
 | some (.slice e),.sl s=>(X e).bind λi=>
  match mx with
  | some (.int _ m)=>match hi with
   | some (.int _ h)=>
    let l:Option Int:=match lo with | some (.int _ l)=>some l | some _=>none | none=>some 0
    l.bind λl=>(s.cut3 i.size l h m).bind λs'=>K (.sl s')
   | _=>none
  | some _=>none
  | none=>
   let h:Option Int:=match hi with | some (.int _ h)=>some h | some _=>none | none=>some s.n
   let l:Option Int:=match lo with | some (.int _ l)=>some l | some _=>none | none=>some 0
   h.bind λh=>l.bind λl=>(s.cut i.size l h).bind λs'=>K (.sl s')
 | some (.arr n e),.ptr b o=>(X e).bind λ_=>
  match lo,hi,mx with
  | none,none,none=>K (.sl ⟨some (b,o),n,.ex n⟩)
  | _,_,_=>none
 | some .str,.str s=>
  match mx with
  | some _=>none
  | none=>
   let h:Option Int:=match hi with | some (.int _ h)=>some h | some _=>none | none=>some s.size
   let l:Option Int:=match lo with | some (.int _ l)=>some l | some _=>none | none=>some 0
   h.bind λh=>l.bind λl=>if 0<=l/\l<=h/\h<=s.size then K (.str (s.extract l.toNat h.toNat)) else none
 | _,_=>none
def VB (X:Tab) (b:Builtin) (ts:List TypeId) (args:List AV) (H:Hp) (K:AV->Hp->Option R):Option R:=
 match b,ts,args with
 | .len,[t],[x]=>match (X t).map TI.d,x with
  | some (.slice _),.sl s=>K (.int .i64 s.n) H
  | some .str,.str s=>K (.int .i64 s.size) H
  | some (.arr n _),_=>K (.int .i64 n) H
  | _,_=>none
 | .cap,[t],[x]=>match (X t).map TI.d,x with
  | some (.slice _),.sl ⟨_,_,.ex c⟩=>K (.int .i64 c) H
  | _,_=>none
 | .max,[_,_],[.int k x,.int k' y]=>if k=k' then K (.int k (if y>x then y else x)) H else none
 | .max,[_,_,_],[.int k x,.int k' y,.int k'' z]=>if k=k'/\k=k'' then K (.int k (if z>(if y>x then y else x) then z else (if y>x then y else x))) H else none
 | .clear,[t],[.sl s]=>match (X t).map TI.d with
  | some (.slice e)=>(X e).bind λi=>(H.clr i.zero s).bind λH'=>K (.tup []) H'
  | _=>none
 | .min,[_,_],[.int k x,.int k' y]=>if k=k' then K (.int k (if y<x then y else x)) H else none
 | .append,[t,tx],[.sl s,x]=>match (X t).map TI.d,(X tx).map TI.d,x with
  | some (.slice e),some (.slice _),.sl y=>(X e).bind λi=>(y.row H i.size).bind λxs=>(H.app i.size i.bytes s y.n xs).bind λr=>K (.sl r.1) r.2
  | some (.slice e),some (.int _),.int _ n=>(X e).bind λi=>if 0<=n/\n<=70368744177664 then (H.app i.size i.bytes s n.toNat (zrow n.toNat i.zero)).bind λr=>K (.sl r.1) r.2 else none
  | _,_,_=>none
 | .copy,[t,tx],[.sl d,.sl s]=>match (X t).map TI.d,(X tx).map TI.d with
  | some (.slice e),some (.slice _)=>(X e).bind λi=>(H.cpy i.size d s).bind λr=>K (.int .i64 r.1) r.2
  | _,_=>none
 | _,_,_=>none
def aop (Y:Tabs) (C:Orc R) (ρ:Operand->AV) (o:Oper) (H:Hp) (K:AV->Hp->Option R):Option R:=
 let X:=Y.ty
 match o.op with
 | .move x | .assign x=>K (ρ x) H
 | .pick c a b=>match ρ c with
  | .bool t=>bif t then K (ρ a) H else K (ρ b) H
  | _=>none
 | .alloc e=>(X e).bind λi=>K (.ptr H.length 0) (H++[⟨i.zero,true,true⟩])
 | .box _ x=>bif (ρ x).cells.all AV.isCell then K (.ptr H.length 0) (H++[⟨(ρ x).cells,true,true⟩]) else none
 | .build t parts=>(X t).bind λi=>match i.d with
  | .struct fs=>bif !(fs.all λf=>(X f.2).isSome) then none else (nB (t_ X fs) i.zero (parts.toList.map λq=>(q.1,ρ q.2))).bind λcells=>bif cells.all AV.isCell then K (.agg cells) H else none
  | .arr _ e=>(X e).bind λie=>(nB (λj=>some (j * ie.size,ie.size)) i.zero (parts.toList.map λq=>(q.1,ρ q.2))).bind λcells=>bif cells.all AV.isCell then K (.agg cells) H else none
  | _=>none
 | .buildSlice t len parts=>(X t).bind λi=>match i.d with
  | .slice e=>(X e).bind λie=>if len * ie.size<=16777216 then
    (nB (λj=>some (j * ie.size,ie.size)) (zrow len ie.zero) (parts.toList.map λq=>(q.1,ρ q.2))).bind λcells=>
     bif cells.all AV.isCell then K (.sl ⟨some (H.length,0),len,.ex len⟩) (H++[⟨cells,true,true⟩]) else none
   else none
  | _=>none
 | .load t a=>match ρ a with
  | .ptr b o=>(X t).bind λi=>bif i.agg then vX H b o i.ks λl=>K (.agg l) H else vW H b o (i.ks.headD .any) λv=>K v H
  | _=>none
 | .store t a x=>match ρ a with
  | .ptr b o=>(X t).bind λi=>bif (ρ x).cells.length==i.size then stN H b o (ρ x).cells λH'=>K (.tup []) H' else none
  | _=>none
 | .nilCheck x=>match ρ x with
  | .ptr b o=>K (.ptr b o) H
  | .fn f caps=>K (.fn f caps) H
  | _=>none
 | .binOp op t x y _=>Vz X op t (ρ x) (ρ y) λv=>K v H
 | .unOp op _ x=>match op,ρ x with
  | .neg,.int k n=>K (.int k (k.wrap (0 - n))) H
  | .not,.bool b=>K (.bool (!b)) H
  | _,_=>none
 | .convert s d x=>match ρ x,X s,(X d).map TI.d with
  | .int _ n,some _,some (.int k)=>K (.int k (k.wrap n)) H
  | _,_,_=>none
 | .makeFunc (.func f) first caps=>bif first.isEmpty then K (.fn f (caps.toList.map ρ)) H else none
 | .makeSlice t l c=>(X t).bind λi=>match i.d,ρ l,ρ c with
  | .slice e,.int _ n,.int _ m=>(X e).bind λie=>(H.mk ie.zero ie.bytes n m).bind λr=>K (.sl r.1) r.2
  | _,_,_=>none
 | .slice t x lo hi mx=>VA X t (ρ x) (lo.map ρ) (hi.map ρ) (mx.map ρ) λv=>K v H
 | .fieldAddr s x f=>match ρ x,(X s).map TI.d with
  | .ptr b o,some (.struct fs)=>(fs[f]?).bind λq=>(X q.2).bind λi=>bif i.size==0 then none else K (.ptr b (o+q.1)) H
  | _,_=>none
 | .field s x f=>match ρ x,(X s).map TI.d with
  | .agg cs,some (.struct fs)=>(fs[f]?).bind λq=>(X q.2).bind λi=>
   bif i.agg then K (.agg ((cs.drop q.1).take i.size)) H else (cs[q.1]?).bind λv=>K v H
  | _,_=>none
 | .indexAddr t x ix=>match (X t).map TI.d,ρ x,ρ ix with
  | some (.slice e),.sl s,.int _ i=>(X e).bind λie=>(s.idx i ie.size).bind λp=>K (.ptr p.1 p.2) H
  | some (.arr n e),.ptr b o,.int _ i=>(X e).bind λie=>if 0<=i/\i<n then K (.ptr b (o+i.toNat * ie.size)) H else none
  | _,_,_=>none
 | .index t x ix=>match (X t).map TI.d,ρ x,ρ ix with
  | some (.arr n e),.agg cs,.int _ i=>(X e).bind λie=>bif ie.agg then none else
   if 0<=i/\i<n then (cs[i.toNat * ie.size]?).bind λv=>unk (ie.ks.headD .any) v λv=>K v H else none
  | some .str,.str s,.int _ i=>if 0<=i then (s[i.toNat]?).bind λb=>K (.int .u8 b.toNat) H else none
  | _,_,_=>none
 | .extract x j=>match ρ x with
  | .tup l=>(l[j]?).bind λv=>K v H
  | _=>none
 | .call c=>match c.callee with
  | .builtin b=>VB X b c.argTypes.toList (c.args.toList.map ρ) H K
  | .value f=>match ρ f with
   | .fn g caps=>C g (c.args.toList.map ρ++caps) H λv H'=>match Y.sh o.type with
    | some i=>Bu i v λv'=>K v' H'
    | none=>K v H'
   | _=>none
  | _=>none
 | _=>none
end
end Go.AE
end
section
namespace Go.AE
def qP:TD->TypeDesc->Bool
 | .int k,.int k'=>k==k'
 | .bool,.bool=>true
 | .str,.string=>true
 | .ptr,.pointer _=>true
 | .slice e,.slice e'=>e==e'
 | .arr n e,.array n' e'=>n==n'&&e==e'
 | .struct fs,.struct gs=>gs.toList.map (λf=>(f.offset,f.type))==fs
 | .other,.func ..=>true
 | _,_=>false
def ua:TypeDesc->Bool
 | .struct _ | .array ..=>true
 | _=>false
def veq:AV->Value->Bool
 | .int k n,.int k' n'=>k==k'&&n==n'
 | .bool b,.bool b'=>b==b'
 | .str s,.string t=>s.data==t.data
 | .nilp,.pointer none=>true
 | .nili,.nilIface=>true
 | .sl ⟨none,n,.ex c⟩,.slice none n' c'=>n==n'&&c==c'
 | _,_=>false
def Bv:List AV->List Value->Bool
 | [],[]=>true
 | a::l,v::m=>veq a v&&Bv l m
 | _,_=>false
theorem aqC {a:AV} {v:Value} (h:veq a v=true):(∀ Φ,a.toV Φ=v)/\(∀ Φ S,a.ok Φ S)/\(∀ S,a.inS S)/\a.isCell=true:=by
 unfold veq at h
 split at h
 ·simp at h;obtain ⟨rfl,rfl⟩:=h;simp [AV.toV,AV.ok,AV.inS,AV.isCell]
 ·simp at h;subst h;simp [AV.toV,AV.ok,AV.inS,AV.isCell]
 ·rename_i s t
  have:s=t:=by cases s;cases t;simpa using h
  subst this;simp [AV.toV,AV.ok,AV.inS,AV.isCell]
 ·simp [AV.toV,AV.ok,AV.inS,AV.isCell]
 ·simp [AV.toV,AV.ok,AV.inS,AV.isCell]
 ·simp at h;obtain ⟨rfl,rfl⟩:=h;simp [AV.toV,AV.ok,AV.inS,AV.isCell,Sl.toV]
 ·cases h
theorem aeV:∀ {l:List AV} {m:List Value},Bv l m=true->(∀ Φ,AV.toVs Φ l=m)/\(∀ v∈l,(∀ Φ S,v.ok Φ S)/\(∀ S,v.inS S)/\v.isCell=true)
 | [],[],_=>by simp [AV.toVs]
 | a::l,v::m,h=>by
  simp only [Bv,Bool.and_eq_true] at h
  obtain ⟨h1,h2⟩:=aqC h.1
  obtain ⟨h3,h4⟩:=aeV h.2
  refine ⟨λΦ=>by simp [AV.toVs,h1 Φ,h3 Φ],?_⟩
  intro u hu
  rcases List.mem_cons.1 hu with rfl | hu
  ·exact ⟨h2.1,h2.2.1,h2.2.2⟩
  ·exact h4 u hu
 | [],_::_,h=>by simp [Bv] at h
 | _::_,[],h=>by simp [Bv] at h
def VC (P:Program) (t:TypeId) (i:TI):Bool:=
 match P.underlying t,P.info? t with
 | some d,some info=>qP i.d d&&(ua d==i.agg)&&info.size==i.size&&info.bytes==i.bytes &&
   (!i.agg || i.ks.length==i.size)&&(match info.zero with | some z=>Bv i.zero z.cells.toList | none=>false)&&i.zero.length==i.size&&(i.agg || i.size==1)
 | _,_=>false
structure TIok (P:Program) (t:TypeId) (i:TI) (d:TypeDesc) (info:TypeInfo) (z:Value):Prop where
 und:P.underlying t=some d
 dm:qP i.d d=true
 agg:ua d=i.agg
 inf:P.info? t=some info
 size:info.size=i.size
 bytes:info.bytes=i.bytes
 ks:i.agg=true->i.ks.length=i.size
 zero:info.zero=some z
 zc:∀ Φ,z.cells=(AV.toVs Φ i.zero).toArray
 zok:∀ v∈i.zero,(∀ Φ S,v.ok Φ S)/\(∀ S,v.inS S)/\v.isCell=true
 zl:i.zero.length=i.size
 one:i.agg=false->i.size=1
theorem aqD {P:Program} {t:TypeId} {i:TI} (h:VC P t i=true):∃ d info z,TIok P t i d info z:=by
 unfold VC at h
 split at h
 ·rename_i d info h1 h2
  simp only [Bool.and_eq_true,beq_iff_eq] at h
  obtain ⟨⟨⟨⟨⟨⟨⟨a1,a2⟩,a3⟩,a4⟩,a5⟩,a6⟩,a7⟩,a8⟩:=h
  split at a6
  ·rename_i z hz
   obtain ⟨b1,b2⟩:=aeV a6
   refine ⟨d,info,z,h1,a1,a2,h2,a3,a4,?_,hz,λΦ=>?_,b2,a7,?_⟩
   ·intro q;simpa [q] using a5
   ·rw [b1 Φ]
   ·intro q;simpa [q] using a8
  ·cases a6
 ·cases h
def dR (P:Program) (X:Tab):Prop:=∀ t i,X t=some i->∃ d info z,TIok P t i d info z
def Vt (l:List (TypeId×TI)):Tab:=λt=>(l.find? λp=>p.1==t).map (·.2)
theorem aqz {P:Program} {l:List (TypeId×TI)} (h:(l.all λp=>VC P p.1 p.2)=true):dR P (Vt l):=by
 intro t i hx
 unfold Vt at hx
 cases hf:l.find? (λp=>p.1==t) with
 | none=>rw [hf] at hx;cases hx
 | some p=>
  rw [hf] at hx
  have h1:=List.find?_some hf
  have h2:=List.mem_of_find?_eq_some hf
  simp at h1 hx
  subst h1 hx
  exact aqD (List.all_eq_true.1 h p h2)
structure OTV (P:Program) (o:Oper) (ρ:Operand->AV) (H:Hp) (v:AV) (H':Hp):Prop where
 run:∀ Φ S w,Rel Φ S H w->(∀ x∈o.op.operands,(ρ x).ok Φ S)->∃ Φ' w',
  ((execOp (λx=>(ρ x).toV Φ) o).run P w=.ok (.value (v.toV Φ')) w'\/((execOp (λx=>(ρ x).toV Φ) o).run P w=.ok .skip w'/\v=.tup [])) /\
  Post Φ S H w Φ' H' w'/\v.ok Φ' (ext S H H')
 wf:WF H->(∀ x∈o.op.operands,(ρ x).inS (·<H.length))->WF H'/\v.inS (·<H'.length)/\H.length<=H'.length
structure PV (P:Program) (o:Oper) (ρ:Operand->AV) (v:AV):Prop where
 run:∀ Φ S,(∀ x∈o.op.operands,(ρ x).ok Φ S)->∀ w,(execOp (λx=>(ρ x).toV Φ) o).run P w=.ok (.value (v.toV Φ)) w
 ok:∀ Φ S,(∀ x∈o.op.operands,(ρ x).ok Φ S)->v.ok Φ S
 ins:∀ S,(∀ x∈o.op.operands,(ρ x).inS S)->v.inS S
theorem OTV.pure {P:Program} {o:Oper} {ρ:Operand->AV} {H:Hp} {v:AV}
  (h:∀ Φ S,(∀ x∈o.op.operands,(ρ x).ok Φ S)->∀ w,(execOp (λx=>(ρ x).toV Φ) o).run P w=.ok (.value (v.toV Φ)) w)
  (hok:∀ Φ S,(∀ x∈o.op.operands,(ρ x).ok Φ S)->v.ok Φ S)
  (hin:∀ S,(∀ x∈o.op.operands,(ρ x).inS S)->v.inS S):OTV P o ρ H v H where
 run:=λΦ S w hr hx=>⟨Φ,w,.inl (h Φ S hx w),Post.refl hr,by rw [vV];exact hok Φ S hx⟩
 wf:=λhw hx=>⟨hw,hin _ hx,Nat.le_refl _⟩
theorem PV.otv {P:Program} {o:Oper} {ρ:Operand->AV} {H:Hp} {v:AV} (h:PV P o ρ v):OTV P o ρ H v H:=OTV.pure h.run h.ok h.ins
theorem OTV.new {P:Program} {o:Oper} {ρ:Operand->AV} {H:Hp} {v:AV} (cs:List AV)
  (h:∀ Φ S w,Rel Φ S H w->(∀ x∈o.op.operands,(ρ x).ok Φ S)->∃ (c:Array Value) (T:TypeId) (n:Nat),
   cs.length<=c.size/\(∀ (i:Nat) (u:AV),cs[i]?=some u->c[i]?=some (u.toV Φ))/\(∀ u∈cs,u.ok Φ S/\u.isCell=true) /\
   (execOp (λx=>(ρ x).toV Φ) o).run P w=.ok (.value (v.toV (Φ.put H.length w.heap.size 0 c.size))) { w with heap:=w.heap.push (.cells c T),drawn:=n } /\
   v.ok (Φ.put H.length w.heap.size 0 c.size) (ext S H (H++[⟨cs,true,true⟩])))
  (hin:(∀ x∈o.op.operands,(ρ x).inS (·<H.length))->(∀ u∈cs,u.inS (·<H.length))/\v.inS (·<H.length+1)):OTV P o ρ H v (H++[⟨cs,true,true⟩]) where
 run:=λΦ S w hr hx=>by
  obtain ⟨c,T,n,h1,h2,h3,h4,h5⟩:=h Φ S w hr hx
  exact ⟨_,_,.inl h4,(hr.new cs c T h3 h1 h2).drew n,h5⟩
 wf:=λhw hx=>by
  obtain ⟨h1,h2⟩:=hin hx
  exact ⟨hw.new cs h1 true true,by simpa using h2,by simp⟩
end Go.AE
end
section
namespace Go.AE
variable {R:Type} {P:Program} {X:Tab} {ρ:Operand->AV} {o:Oper} {H:Hp} {r:R}
theorem Addr.add_none (b n m:Nat):(⟨b,n,none⟩:Addr).add m=⟨b,n+m,none⟩:=by
 unfold Addr.add;split
 ·rename_i e;subst e;rfl
 ·rfl
theorem Ej (Φ:Phi) (v:AV):(v.toV Φ).cells=(AV.toVs Φ v.cells).toArray:=by
 cases v <;> simp [AV.toV,AV.cells,Value.cells,AV.toVs,Sl.toV]
theorem iO (Φ:Phi) (l:List AV):(AV.toVs Φ l).length=l.length:=by simp [AV.toVs_eq]
theorem qQ (Φ:Phi) (l:List AV) (i:Nat):(AV.toVs Φ l)[i]?=(l[i]?).map (AV.toV Φ):=by simp [AV.toVs_eq]
theorem Lu {Φ:Phi} {S:Nat->Prop} {v:AV} (h:v.ok Φ S):∀ u∈v.cells,u.ok Φ S:=by
 cases v with
 | agg l=>intro u hu;simp only [AV.ok] at h;exact (AV.oks_iff Φ S l).1 h u hu
 | _=>intro u hu;simp only [AV.cells,List.mem_singleton] at hu;subst hu;exact h
theorem Lv {S:Nat->Prop} {v:AV} (h:v.inS S):∀ u∈v.cells,u.inS S:=by
 cases v with
 | agg l=>intro u hu;simp only [AV.inS] at h;exact (AV.inSs_iff S l).1 h u hu
 | _=>intro u hu;simp only [AV.cells,List.mem_singleton] at hu;subst hu;exact h
theorem aqE {x:Operand} (ho:o.op=.move x):PV P o ρ (ρ x):=by
 refine PV.mk (λΦ S _ w=>?_) (λΦ S hx=>hx x (by simp [ho,Op.operands])) (λS hx=>hx x (by simp [ho,Op.operands]))
 simp [execOp,ho]
theorem aqF {x:Operand} (ho:o.op=.assign x):PV P o ρ (ρ x):=by
 refine PV.mk (λΦ S _ w=>?_) (λΦ S hx=>hx x (by simp [ho,Op.operands])) (λS hx=>hx x (by simp [ho,Op.operands]))
 simp [execOp,ho]
theorem aqG {c a b:Operand} {t:Bool} (ho:o.op=.pick c a b) (hc:ρ c=.bool t):PV P o ρ (if t then ρ a else ρ b):=by
 refine PV.mk (λΦ S _ w=>?_) (λΦ S hx=>?_) (λS hx=>?_)
 ·simp only [execOp,ho,hc,AV.toV];cases t <;> simp [asBool]
 ·cases t
  ·exact hx b (by simp [ho,Op.operands])
  ·exact hx a (by simp [ho,Op.operands])
 ·cases t
  ·exact hx b (by simp [ho,Op.operands])
  ·exact hx a (by simp [ho,Op.operands])
theorem aqH {e:TypeId} {i:TI} (hX:dR P X) (ho:o.op=.alloc e) (hi:X e=some i):OTV P o ρ H (.ptr H.length 0) (H++[⟨i.zero,true,true⟩]):=by
 obtain ⟨d,info,z,t⟩:=hX e i hi
 refine OTV.new i.zero (λΦ S w hr _=>⟨(AV.toVs Φ i.zero).toArray,e,w.drawn,by simp [iO],λj u hu=>by simp [qQ,hu],λu hu=>⟨(t.zok u hu).1 Φ S,(t.zok u hu).2.2⟩,?_,?_⟩) (λ_=>⟨λu hu=>(t.zok u hu).2.1 _,?_⟩)
 ·simp [execOp,ho,Instr.alloc,zeroValue,typeInfo,t.inf,t.zero,newVar,newRow,t.zc Φ,AV.toV,Phi.put_b,Phi.put_o]
 ·simp [AV.ok,ext]
 ·simp [AV.inS]
theorem aqI {e:TypeId} {x:Operand} (ho:o.op=.box e x) (hc:(ρ x).cells.all AV.isCell=true):OTV P o ρ H (.ptr H.length 0) (H++[⟨(ρ x).cells,true,true⟩]):=by
 refine OTV.new (ρ x).cells (λΦ S w hr hx=>⟨(AV.toVs Φ (ρ x).cells).toArray,e,w.drawn,by simp [iO],λj u hu=>by simp [qQ,hu],
  λu hu=>⟨Lu (hx x (by simp [ho,Op.operands])) u hu,List.all_eq_true.1 hc u hu⟩,?_,?_⟩) (λhx=>⟨λu hu=>Lv (hx x (by simp [ho,Op.operands])) u hu,?_⟩)
 ·simp [execOp,ho,Instr.box,newVar,newRow,Ej,AV.toV,Phi.put_b,Phi.put_o]
 ·simp [AV.ok,ext]
 ·simp [AV.inS]
theorem aeW (Φ:Phi):∀ (l cells:List AV) (off:Nat),AV.toVs Φ (qO cells off l)=((AV.toVs Φ l).zipIdx.foldl (λ(cs:List Value) (q:Value×Nat)=>cs.set (off+q.2) q.1) (AV.toVs Φ cells))
 | [],cells,off=>by simp [qO,AV.toVs]
 | v::l,cells,off=>by
  simp only [qO]
  rw [aeW Φ l (cells.set off v) (off+1)]
  simp only [AV.toVs,List.zipIdx_cons,List.foldl_cons,Nat.add_zero]
  have e:AV.toVs Φ (cells.set off v)=(AV.toVs Φ cells).set off (v.toV Φ):=by simp [AV.toVs_eq,List.map_set]
  rw [e,List.zipIdx_succ,List.foldl_map]
  congr 1
  funext cs q
  obtain ⟨a,i⟩:=q
  simp only
  rw [Nat.add_assoc,Nat.add_comm 1 i]
theorem aeX (off:Nat):∀ (l:List (Value×Nat)) (cs:Array Value),(l.foldl (λcs q=>cs.setIfInBounds (off+q.2) q.1) cs).toList=l.foldl (λ(cs:List Value) q=>cs.set (off+q.2) q.1) cs.toList
 | [],cs=>rfl
 | q::l,cs=>by simp only [List.foldl_cons];rw [aeX off l];simp
theorem aeY:∀ (l cells:List AV) (off:Nat),(qO cells off l).length=cells.length
 | [],_,_=>rfl
 | v::l,cells,off=>by simp only [qO];rw [aeY l];simp
theorem aeZ:∀ (l cells:List AV) (off:Nat) (u:AV),u∈qO cells off l->u∈l\/u∈cells
 | [],_,_,u,h=>.inr h
 | v::l,cells,off,u,h=>by
  simp only [qO] at h
  rcases aeZ l _ _ u h with h | h
  ·exact .inl (List.mem_cons_of_mem _ h)
  ·rcases List.mem_or_eq_of_mem_set h with h | rfl
   ·exact .inr h
   ·exact .inl (by simp)
theorem Bw (Φ:Phi) {place:Nat->ON}:∀ (parts:List (Nat×AV)) (cells out:List AV),nB place cells parts=some out ->
  Instr.fill place (AV.toVs Φ cells).toArray (parts.map λq=>(q.1,q.2.toV Φ))=some (AV.toVs Φ out).toArray/\out.length=cells.length/\∀ u∈out,u∈cells\/∃ q∈parts,u∈q.2.cells
 | [],cells,out,h=>by
  simp only [nB] at h
  cases h
  exact ⟨rfl,rfl,λu hu=>.inl hu⟩
 | (i,v)::rest,cells,out,h=>by
  simp only [nB] at h
  cases hp:place i with
  | none=>simp [hp] at h
  | some p=>
   obtain ⟨off,size⟩:=p
   simp only [hp] at h
   split at h
   ·cases h
   ·rename_i hn
    simp only [not_or,Decidable.not_not,Nat.not_lt] at hn
    obtain ⟨h1,h2,h3⟩:=Bw Φ rest _ out h
    refine ⟨?_,by rw [h2,aeY],?_⟩
    ·simp only [List.map_cons,Instr.fill,hp]
     rw [if_neg]
     ·have e:((v.toV Φ).cells.zipIdx.foldl (λcs (x:Value×Nat)=>cs.setIfInBounds (off+x.2) x.1) (AV.toVs Φ cells).toArray)=(AV.toVs Φ (qO cells off v.cells)).toArray:=by
       apply Array.ext'
       rw [aeW,Ej]
       rw [<- Array.foldl_toList]
       rw [aeX]
       simp
      rw [<- h1,<-e]
     ·simp only [Ej,List.size_toArray,iO,Bool.or_eq_true,decide_eq_true_eq,not_or,Decidable.not_not,Nat.not_lt]
      exact ⟨hn.1,hn.2⟩
    ·intro u hu
     rcases h3 u hu with h | ⟨q,hq,h⟩
     ·rcases aeZ _ _ _ u h with h | h
      ·exact .inr ⟨(i,v),by simp,h⟩
      ·exact .inl h
     ·exact .inr ⟨q,List.mem_cons_of_mem _ hq,h⟩
theorem ae0 {p q:Nat->ON}:∀ (parts:List (Nat×AV)) (cells out:List AV),(∀ x∈parts,∀ y,p x.1=some y->q x.1=some y)->nB p cells parts=some out->nB q cells parts=some out
 | [],cells,out,_,h=>h
 | (i,v)::rest,cells,out,hpq,h=>by
  simp only [nB] at h ⊢
  cases hp:p i with
  | none=>simp [hp] at h
  | some y=>
   obtain ⟨off,size⟩:=y
   rw [hpq (i,v) (by simp) _ hp]
   simp only [hp] at h ⊢
   split at h
   ·cases h
   ·rename_i hn
    rw [if_neg hn]
    exact ae0 rest _ _ (λx hx=>hpq x (List.mem_cons_of_mem _ hx)) h
theorem ae1 (hX:dR P X):∀ (fs:List Field),(∀ f∈fs,(X f.type).isSome=true) ->
  ∃ l,fs.mapM (λf=>(P.info? f.type).map λi=>(f.offset,i.size))=some l/\∀ i p,t_ X (fs.map λf=>(f.offset,f.type)) i=some p->l[i]?=some p
 | [],_=>⟨[],rfl,λi p h=>by simp [t_] at h⟩
 | f::fs,h=>by
  obtain ⟨k,hk⟩:=Option.isSome_iff_exists.1 (h f (by simp))
  obtain ⟨d,info,z,t⟩:=hX _ _ hk
  obtain ⟨l,h1,h2⟩:=ae1 hX fs (λg hg=>h g (List.mem_cons_of_mem _ hg))
  refine ⟨(f.offset,info.size)::l,by simp [List.mapM_cons,t.inf,h1],?_⟩
  intro i p hp
  cases i with
  | zero=>simp [t_,hk] at hp;subst hp;simp [t.size]
  | succ i=>
   have:=h2 i p (by simpa [t_] using hp)
   simpa using this
theorem ae2 {t:TypeId} {parts:Array (Nat×Operand)} {cells:List AV} {i:TI} (hX:dR P X) (ho:o.op=.build t parts) (hi:X t=some i)
  (h:(∃ fs,i.d=.struct fs/\(fs.all λf=>(X f.2).isSome)=true/\nB (t_ X fs) i.zero (parts.toList.map λq=>(q.1,ρ q.2))=some cells) \/
   (∃ n e ie,i.d=.arr n e/\X e=some ie/\nB (λj=>some (j * ie.size,ie.size)) i.zero (parts.toList.map λq=>(q.1,ρ q.2))=some cells)) :
  PV P o ρ (.agg cells):=by
 obtain ⟨d,info,z,tk⟩:=hX t i hi
 have hmem:∀ u∈cells,u∈i.zero\/∃ q∈parts.toList,u∈(ρ q.2).cells:=by
  intro u hu
  rcases h with ⟨fs,_,_,h⟩ | ⟨n,e,ie,_,_,h⟩
  all_goals
   rcases (Bw ⟨id,id,id⟩ _ _ _ h).2.2 u hu with h | ⟨q,hq,h⟩
   ·exact .inl h
   ·obtain ⟨p,hp,rfl⟩:=List.mem_map.1 hq
    exact .inr ⟨p,hp,h⟩
 have hop:∀ q∈parts.toList,q.2∈o.op.operands:=λq hq=>by
  rw [ho];simp only [Op.operands];simp only [List.mem_toArray,List.mem_map];exact ⟨q,hq,rfl⟩
 refine PV.mk (λΦ S hx w=>?_) (λΦ S hx=>?_) (λS hx=>?_)
 ·have hb:P.built t (parts.map λx=>(x.1,(ρ x.2).toV Φ)).toList=some (AV.toVs Φ cells).toArray:=by
   unfold Program.built
   have hp:(parts.map λx=>(x.1,(ρ x.2).toV Φ)).toList=(parts.toList.map λq=>(q.1,ρ q.2)).map λq=>(q.1,q.2.toV Φ):=by simp
   rcases h with ⟨fs,h1,h2,h3⟩ | ⟨n,e,ie,h1,h2,h3⟩
   ·have hd:=tk.dm
    rw [h1] at hd
    cases d <;> simp only [qP] at hd <;> try (cases hd;done)
    rename_i gs
    rw [beq_iff_eq] at hd
    obtain ⟨l,q1,q2⟩:=ae1 hX gs.toList (λf hf=>by
     have:=List.all_eq_true.1 h2 (f.offset,f.type) (by rw [<- hd];exact List.mem_map.2 ⟨f,hf,rfl⟩)
     simpa using this)
    rw [hd] at q2
    simp only [tk.inf,tk.und,tk.zero,q1]
    rw [tk.zc Φ,hp]
    refine (Bw Φ _ _ _ (ae0 _ _ _ (λx _ y hy=>?_) h3)).1
    simpa using q2 x.1 y hy
   ·have hd:=tk.dm
    rw [h1] at hd
    cases d <;> simp only [qP] at hd <;> try (cases hd;done)
    rename_i n' e'
    simp only [Bool.and_eq_true,beq_iff_eq] at hd
    obtain ⟨rfl,rfl⟩:=hd
    obtain ⟨d2,info2,z2,t2⟩:=hX _ _ h2
    simp only [tk.inf,tk.und,tk.zero,t2.inf]
    rw [tk.zc Φ,hp,t2.size]
    exact (Bw Φ _ _ _ h3).1
  have:=run_build (P:=P) w t (parts.map λx=>(x.1,(ρ x.2).toV Φ)) _ hb
  simp only [execOp,ho]
  simp [this,AV.toV]
 ·simp only [AV.ok]
  refine (AV.oks_iff Φ S cells).2 λu hu=>?_
  rcases hmem u hu with h | ⟨q,hq,h⟩
  ·exact (tk.zok u h).1 Φ S
  ·exact Lu (hx q.2 (hop q hq)) u h
 ·simp only [AV.inS]
  refine (AV.inSs_iff S cells).2 λu hu=>?_
  rcases hmem u hu with h | ⟨q,hq,h⟩
  ·exact (tk.zok u h).2.1 S
  ·exact Lv (hx q.2 (hop q hq)) u h
theorem ae3 (z:List Value) (hz:0<z.length):∀ (n i:Nat),i<n * z.length->((List.replicate n z).flatten)[i]?=z[i % z.length]?
 | 0,i,h=>by simp at h
 | n+1,i,h=>by
  rw [List.replicate_succ,List.flatten_cons,List.getElem?_append]
  split
  ·rename_i hi;rw [Nat.mod_eq_of_lt hi]
  ·rename_i hi
   have e:(n+1) * z.length=n * z.length+z.length:=by rw [Nat.succ_mul]
   rw [ae3 z hz n (i - z.length) (by omega)]
   congr 1
   exact (Nat.mod_eq_sub_mod (by omega)).symm
theorem Lw (n:Nat) (z:List AV):zrow n z=(List.replicate n z).flatten:=by
 unfold zrow;split
 ·rename_i x;induction n with
  | zero=>rfl
  | succ n ih=>rw [List.replicate_succ,List.replicate_succ,List.flatten_cons,ih];rfl
 ·rfl
theorem aqJ (Φ:Phi) (n:Nat) (z:List AV):AV.toVs Φ (zrow n z)=(List.replicate n (AV.toVs Φ z)).flatten:=by
 rw [Lw,AV.toVs_eq,AV.toVs_eq,List.map_flatten,List.map_replicate]
theorem El (n:Nat) (z:List AV):(zrow n z).length=n * z.length:=by
 rw [Lw];simp
theorem rW {n:Nat} {z:List AV} {u:AV} (h:u∈zrow n z):u∈z:=by
 rw [Lw] at h
 obtain ⟨l,h1,h2⟩:=List.mem_flatten.1 h
 rw [List.mem_replicate] at h1
 rw [<- h1.2];exact h2
theorem VD (Φ:Phi) (n:Nat) (z:List AV) (zv:Array Value) (hz:zv.toList=AV.toVs Φ z) :
  (Array.range (n * z.length)).map (λj=>zv[j % zv.size]!)=(AV.toVs Φ (zrow n z)).toArray:=by
 have hs:zv.size=z.length:=by rw [<- Array.length_toList,hz,iO]
 apply Array.ext'
 apply List.ext_getElem?
 intro i
 rw [aqJ]
 by_cases hi:i<n * z.length
 ·have hp:0<z.length:=by
   rcases Nat.eq_zero_or_pos z.length with h0 | h0
   ·rw [h0] at hi;simp at hi
   ·exact h0
  rw [ae3 (AV.toVs Φ z) (by rw [iO];exact hp) n i (by rw [iO];exact hi)]
  rw [iO,<-hz,hs]
  have hm:=Nat.mod_lt i hp
  simp [hi]
  have hm':i % z.length<zv.size:=by omega
  rw [getElem!_pos zv _ hm',Array.getElem?_eq_getElem hm']
 ·rw [List.getElem?_eq_none (by simp;omega),List.getElem?_eq_none (by simp [iO];omega)]
end Go.AE
end
section
namespace Go.AE
variable {R:Type} {P:Program} {X:Tab} {ρ:Operand->AV} {o:Oper} {H:Hp} {r:R}
theorem TIok.slice {t:TypeId} {i:TI} {d:TypeDesc} {info:TypeInfo} {z:Value} (h:TIok P t i d info z) {e:TypeId} (he:i.d=.slice e):P.underlying t=some (.slice e):=by
 have hd:=h.dm
 rw [he] at hd
 cases d <;> simp only [qP] at hd <;> try (cases hd;done)
 rw [beq_iff_eq] at hd
 rw [hd];exact h.und
theorem TIok.arr {t:TypeId} {i:TI} {d:TypeDesc} {info:TypeInfo} {z:Value} (h:TIok P t i d info z) {n:Nat} {e:TypeId} (he:i.d=.arr n e):P.underlying t=some (.array n e):=by
 have hd:=h.dm
 rw [he] at hd
 cases d <;> simp only [qP] at hd <;> try (cases hd;done)
 simp only [Bool.and_eq_true,beq_iff_eq] at hd
 rw [hd.1,hd.2];exact h.und
theorem TIok.struct {t:TypeId} {i:TI} {d:TypeDesc} {info:TypeInfo} {z:Value} (h:TIok P t i d info z) {fs:List (Nat×TypeId)} (he:i.d=.struct fs) :
  ∃ gs:Array Field,P.underlying t=some (.struct gs)/\gs.toList.map (λf=>(f.offset,f.type))=fs:=by
 have hd:=h.dm
 rw [he] at hd
 cases d <;> simp only [qP] at hd <;> try (cases hd;done)
 rename_i gs
 rw [beq_iff_eq] at hd
 exact ⟨gs,h.und,hd⟩
theorem TIok.int {t:TypeId} {i:TI} {d:TypeDesc} {info:TypeInfo} {z:Value} (h:TIok P t i d info z) {k:IntKind} (he:i.d=.int k):P.underlying t=some (.int k):=by
 have hd:=h.dm
 rw [he] at hd
 cases d <;> simp only [qP] at hd <;> try (cases hd;done)
 rw [beq_iff_eq] at hd
 rw [hd];exact h.und
theorem TIok.bool {t:TypeId} {i:TI} {d:TypeDesc} {info:TypeInfo} {z:Value} (h:TIok P t i d info z) (he:i.d=.bool):P.underlying t=some .bool:=by
 have hd:=h.dm
 rw [he] at hd
 cases d <;> simp only [qP] at hd <;> try (cases hd;done)
 exact h.und
theorem TIok.str {t:TypeId} {i:TI} {d:TypeDesc} {info:TypeInfo} {z:Value} (h:TIok P t i d info z) (he:i.d=.str):P.underlying t=some .string:=by
 have hd:=h.dm
 rw [he] at hd
 cases d <;> simp only [qP] at hd <;> try (cases hd;done)
 exact h.und
theorem iR {t:TypeId} {D:TD} (h:(X t).map TI.d=some D):∃ i,X t=some i/\i.d=D:=by
 cases hx:X t with
 | none=>rw [hx] at h;cases h
 | some i=>rw [hx] at h;exact ⟨i,rfl,by simpa using h⟩
theorem aqK {t e:TypeId} {len:Nat} {parts:Array (Nat×Operand)} {cells:List AV} {i ie:TI} (hX:dR P X) (ho:o.op=.buildSlice t len parts) (hi:X t=some i) (hd:i.d=.slice e) (he:X e=some ie)
  (hlim:len * ie.size<=16777216) (h:nB (λj=>some (j * ie.size,ie.size)) (zrow len ie.zero) (parts.toList.map λq=>(q.1,ρ q.2))=some cells) (hc:cells.all AV.isCell=true) :
  OTV P o ρ H (.sl ⟨some (H.length,0),len,.ex len⟩) (H++[⟨cells,true,true⟩]):=by
 obtain ⟨d,info,z,tk⟩:=hX t i hi
 obtain ⟨d2,info2,z2,t2⟩:=hX e ie he
 have hu:=tk.slice hd
 have hop:∀ q∈parts.toList,q.2∈o.op.operands:=λq hq=>by
  rw [ho];simp only [Op.operands];simp only [List.mem_toArray,List.mem_map];exact ⟨q,hq,rfl⟩
 have hmem:∀ u∈cells,u∈ie.zero\/∃ q∈parts.toList,u∈(ρ q.2).cells:=by
  intro u hu
  rcases (Bw ⟨id,id,id⟩ _ _ _ h).2.2 u hu with h | ⟨q,hq,h⟩
  ·exact .inl (rW h)
  ·obtain ⟨p,hp,rfl⟩:=List.mem_map.1 hq
   exact .inr ⟨p,hp,h⟩
 refine OTV.new cells (λΦ S w hr hx=>⟨(AV.toVs Φ cells).toArray,e,w.drawn,by simp [iO],λj u hu=>by simp [qQ,hu],λu hu=>⟨?_,List.all_eq_true.1 hc u hu⟩,?_,?_⟩) (λhx=>⟨λu hu=>?_,?_⟩)
 ·rcases hmem u hu with h | ⟨q,hq,h⟩
  ·exact (t2.zok u h).1 Φ S
  ·exact Lu (hx q.2 (hop q hq)) u h
 ·have hf:=(Bw Φ _ _ _ h).1
  have hm:=VD Φ len ie.zero z2.cells (by rw [t2.zc Φ])
  rw [t2.zl] at hm
  have hf':Instr.fill (λj=>some (j * ie.size,ie.size)) (AV.toVs Φ (zrow len ie.zero)).toArray (List.map (λx:Nat×Operand=>(x.fst,AV.toV Φ (ρ x.snd))) parts.toList)=some (AV.toVs Φ cells).toArray:=by
   rw [<- hf,List.map_map];rfl
  have h24:¬ (16777216<len * ie.size):=by omega
  have key:∀ zz:Array Value,(len * ie.size≠0->zz=z2.cells)->(Array.range (len * ie.size)).map (λj=>zz[j % zz.size]!)=(AV.toVs Φ (zrow len ie.zero)).toArray:=by
   intro zz hzz
   by_cases h0:len * ie.size=0
   ·rw [<- hm,h0];apply Array.ext' <;> simp
   ·rw [hzz h0,hm]
  simp only [execOp,ho]
  by_cases h0:len * ie.size=0
  ·have k:=key #[] (λq=>absurd h0 q)
   rw [h0] at k
   simp [Instr.buildSlice,run_underlying hu,sizeOf,typeInfo,t2.inf,t2.size,h0,newRow,AV.toV,Sl.toV,Phi.put_b,Phi.put_o] at k ⊢
   rw [k,hf']
   simp
  ·have k:=key z2.cells (λ_=>rfl)
   simp [Instr.buildSlice,run_underlying hu,sizeOf,typeInfo,zeroValue,t2.inf,t2.size,t2.zero,h24,h0,newRow,AV.toV,Sl.toV,Phi.put_b,Phi.put_o] at k ⊢
   rw [k,hf']
   simp
 ·simp only [AV.ok]
  intro p hp
  cases hp
  refine ⟨by simp [ext],λz hz=>by cases hz⟩
 ·rcases hmem u hu with h | ⟨q,hq,h⟩
  ·exact (t2.zok u h).2.1 _
  ·exact Lv (hx q.2 (hop q hq)) u h
 ·simp only [AV.inS]
  intro p hp
  cases hp
  simp
end Go.AE
end
section
namespace Go.AE
variable {R:Type} {P:Program} {X:Tab} {ρ:Operand->AV} {o:Oper} {H:Hp} {r:R}
theorem aqL {t e:TypeId} {l c:Operand} {k k':IntKind} {n m:Int} {i ie:TI} (hX:dR P X) (ho:o.op=.makeSlice t l c) (hi:X t=some i) (hd:i.d=.slice e) (he:X e=some ie)
  (hl:ρ l=.int k n) (hc:ρ c=.int k' m) (hb:0<=n/\n<=m/\m * ie.bytes<=70368744177664/\m<=70368744177664) :
  OTV P o ρ H (.sl ⟨some (H.length,0),n.toNat,.ex m.toNat⟩) (H++[⟨zrow m.toNat ie.zero,true,true⟩]):=by
 obtain ⟨d,info,z,tk⟩:=hX t i hi
 obtain ⟨d2,info2,z2,t2⟩:=hX e ie he
 have hu:=tk.slice hd
 obtain ⟨b0,b1,b2,b3⟩:=hb
 refine OTV.new (zrow m.toNat ie.zero) (λΦ S w hr hx=>⟨(AV.toVs Φ (zrow m.toNat ie.zero)).toArray,e,w.drawn,by simp [iO],λj u hu=>by simp [qQ,hu],λu hu=>⟨(t2.zok u (rW hu)).1 Φ S,(t2.zok u (rW hu)).2.2⟩,?_,?_⟩) (λhx=>⟨λu hu=>(t2.zok u (rW hu)).2.1 _,?_⟩)
 ·have hm:=VD Φ m.toNat ie.zero z2.cells (by rw [t2.zc Φ])
  rw [t2.zl] at hm
  have wn:IntKind.i64.wrap n=n:=by simp [IntKind.wrap,IntKind.bits,IntKind.signed];omega
  have wm:IntKind.i64.wrap m=m:=by simp [IntKind.wrap,IntKind.bits,IntKind.signed];omega
  have c1:¬ (m<0):=by omega
  have c2:¬ (281474976710656<(ie.bytes:Int) * m):=by rw [Int.mul_comm];omega
  have c3:¬ (n<0):=by omega
  have c4:¬ (m<n):=by omega
  have key:∀ zz:Array Value,(m.toNat * ie.size≠0->zz=z2.cells)->(Array.range (m.toNat * ie.size)).map (λj=>zz[j % zz.size]!)=(AV.toVs Φ (zrow m.toNat ie.zero)).toArray:=by
   intro zz hzz
   by_cases h0:m.toNat * ie.size=0
   ·rw [<- hm,h0];apply Array.ext' <;> simp
   ·rw [hzz h0,hm]
  simp only [execOp,ho,hl,hc,AV.toV]
  by_cases h0:m.toNat * ie.size=0
  ·have k:=key #[] (λq=>absurd h0 q)
   rw [h0] at k
   simp [Instr.makeSlice,asInt,asIntOf,run_underlying hu,sizeOf,typeInfo,t2.inf,t2.size,t2.bytes,wn,wm,c1,c2,c3,c4,h0,newRow,Sl.toV,Phi.put_b,Phi.put_o] at k ⊢
   rw [k]
  ·have k:=key z2.cells (λ_=>rfl)
   simp [Instr.makeSlice,asInt,asIntOf,run_underlying hu,sizeOf,typeInfo,zeroValue,t2.inf,t2.size,t2.bytes,t2.zero,wn,wm,c1,c2,c3,c4,h0,newRow,Sl.toV,Phi.put_b,Phi.put_o] at k ⊢
   rw [k]
 ·simp only [AV.ok]
  intro p hp
  cases hp
  refine ⟨by simp [ext],λz hz=>by cases hz⟩
 ·simp only [AV.inS]
  intro p hp
  cases hp
  simp
theorem Rel.loadCells {Φ:Phi} {S:Nat->Prop} {w:World} (h:Rel Φ S H w) {b o:Nat} (hb:S b) (l:List AV) (hl:∀ i v,l[i]?=some v->H.cell b (o+i)=some v) :
  (loadCells ⟨Φ.b b,Φ.o b+o,none⟩ l.length).run P w=.ok (AV.toVs Φ l).toArray w:=by
 have:=run_loadCells_list (P:=P) w ⟨Φ.b b,Φ.o b+o,none⟩ (AV.toVs Φ l) (λj v hv=>by
  rw [qQ] at hv
  cases hx:l[j]? with
  | none=>rw [hx] at hv;cases hv
  | some u=>
   rw [hx] at hv
   cases hv
   rw [Addr.add_none,Nat.add_assoc]
   exact (h.cell_of hb (hl j u hx)).1)
 rwa [iO] at this
theorem aqM {t:TypeId} {a:Operand} {b c:Nat} {i:TI} {K:AV->Hp->Option R} (hX:dR P X) (ho:o.op=.load t a) (ha:ρ a=.ptr b c) (hi:X t=some i)
  (h:(bif i.agg then vX H b c i.ks λl=>K (.agg l) H else vW H b c (i.ks.headD .any) λv=>K v H)=some r) :
  ∃ v,OTV P o ρ H v H/\K v H=some r:=by
 obtain ⟨d,info,z,tk⟩:=hX t i hi
 have hop:a∈o.op.operands:=by rw [ho];simp [Op.operands]
 cases hagg:i.agg with
 | true=>
  rw [hagg,cond_true] at h
  obtain ⟨l,h1,h2,h3⟩:=Vy _ _ _ h
  refine ⟨.agg l,⟨λΦ S w hr hx=>⟨Φ,w,.inl ?_,Post.refl hr,?_⟩,λhw hx=>⟨hw,?_,Nat.le_refl _⟩⟩,h3⟩
  ·have hS:S b:=by have:=hx a hop;rw [ha] at this;simpa only [AV.ok] using this
   have hl:=hr.loadCells (P:=P) hS l h2
   have hag:=tk.agg
   rw [hagg] at hag
   rw [h1,tk.ks hagg,<-tk.size] at hl
   simp only [execOp,ho,ha,AV.toV]
   have hia:(isAgg t).run P w=.ok true w:=by
    simp only [isAgg,Sem.run_bind,run_underlying tk.und,Result.andThen_ok]
    cases d <;> simp [ua] at hag ⊢
   simp [Instr.loadAt,Instr.sureAddr,loadVar,hia,sizeOf,typeInfo,tk.inf,hl]
  ·rw [vV]
   have hS:S b:=by have:=hx a hop;rw [ha] at this;simpa only [AV.ok] using this
   simp only [AV.ok]
   refine (AV.oks_iff Φ S l).2 λv hv=>?_
   obtain ⟨j,hj⟩:=List.getElem?_of_mem hv
   exact (hr.cell_of hS (h2 j v hj)).2.1
  ·simp only [AV.inS]
   refine (AV.inSs_iff _ l).2 λv hv=>?_
   obtain ⟨j,hj⟩:=List.getElem?_of_mem hv
   obtain ⟨blk,q1,q2,q3⟩:=Hp.cell_some (h2 j v hj)
   exact hw b blk q1 q2 v (List.mem_of_getElem? q3)
 | false=>
  rw [hagg,cond_false] at h
  obtain ⟨v,h2,h3⟩:=Vx h
  refine ⟨v,⟨λΦ S w hr hx=>⟨Φ,w,.inl ?_,Post.refl hr,?_⟩,λhw hx=>⟨hw,?_,Nat.le_refl _⟩⟩,h3⟩
  ·have hS:S b:=by have:=hx a hop;rw [ha] at this;simpa only [AV.ok] using this
   have hl:=(hr.cell_of hS h2).1
   have hag:=tk.agg
   rw [hagg] at hag
   simp only [execOp,ho,ha,AV.toV]
   have hia:(isAgg t).run P w=.ok false w:=by
    simp only [isAgg,Sem.run_bind,run_underlying tk.und,Result.andThen_ok]
    cases d <;> simp [ua] at hag ⊢
   simp [Instr.loadAt,Instr.sureAddr,loadVar,hia,hl]
  ·rw [vV]
   have hS:S b:=by have:=hx a hop;rw [ha] at this;simpa only [AV.ok] using this
   exact (hr.cell_of hS h2).2.1
  ·obtain ⟨blk,q1,q2,q3⟩:=Hp.cell_some h2
   exact hw b blk q1 q2 v (List.mem_of_getElem? q3)
theorem ae4 (Φ:Phi) {v:AV} (h:v.isCell=true):(v.toV Φ).oneCell'=true:=by
 cases v <;> simp [AV.isCell] at h <;> simp [AV.toV,Value.oneCell',Sl.toV]
theorem Rel.stores {Φ:Phi} {S:Nat->Prop} {b:Nat} (hb:S b):∀ (l:List AV) (o j:Nat) (H:Hp) (w:World) (K:Hp->Option R),Rel Φ S H w->(∀ v∈l,v.ok Φ S)->stN H b (o+j) l K=some r ->
  ∃ H' w',(storeCells ⟨Φ.b b,Φ.o b+o,none⟩ (AV.toVs Φ l) j).run P w=.ok () w'/\Post Φ S H w Φ H' w'/\H'.length=H.length/\K H'=some r
 | [],o,j,H,w,K,hr,hv,h=>⟨H,w,by simp [AV.toVs,storeCells],Post.refl hr,rfl,h⟩
 | v::l,o,j,H,w,K,hr,hv,h=>by
  simp only [stN] at h
  obtain ⟨H1,h1,h2⟩:=ah h
  obtain ⟨blk,_,_,_,hcell,_,hH1⟩:=Hp.st_some h1
  obtain ⟨f1,⟨u,f2⟩,f3⟩:=hr.store hb (hv v (by simp)) h1
  have hlen:H1.length=H.length:=by rw [hH1];simp
  have hext:ext S H H1=S:=by
   funext b';simp only [ext,hlen];exact propext ⟨λq=>q.elim id (λq=>by omega),.inl⟩
  have hr1:=f3.rel
  rw [hext] at hr1
  obtain ⟨H2,w2,g1,g2,g3,g4⟩:=Rel.stores hb l o (j+1) H1 _ K hr1 (λu hu=>hv u (List.mem_cons_of_mem _ hu)) (by rw [<- Nat.add_assoc];exact h2)
  refine ⟨H2,w2,?_,?_,g3.trans hlen,g4⟩
  ·simp only [AV.toVs,storeCells,Sem.run_bind,Addr.add_none,Nat.add_assoc]
   rw [run_store P w _ _ _ (ae4 Φ hcell)]
   simp only [f2,f1,Bool.false_eq_true,if_false,Result.andThen_ok]
   exact g1
  ·refine f3.trans ?_
   rw [hext];exact g2
theorem WF.stN {b:Nat}:∀ (l:List AV) (o:Nat) (H:Hp) (K:Hp->Option R) (Q:Hp->Prop),(∀ v∈l,v.inS (·<H.length))->WF H->stN H b o l K=some r->(∀ H',WF H'->H'.length=H.length->K H'=some r->Q H')->∃ H',Q H'/\K H'=some r
 | [],o,H,K,Q,hv,hw,h,hq=>⟨H,hq H hw rfl h,h⟩
 | v::l,o,H,K,Q,hv,hw,h,hq=>by
  simp only [AE.stN] at h
  obtain ⟨H1,h1,h2⟩:=ah h
  obtain ⟨w1,l1⟩:=hw.st (hv v (by simp)) h1
  exact WF.stN l (o+1) H1 K Q (λu hu=>by rw [l1];exact hv u (List.mem_cons_of_mem _ hu)) w1 h2 (λH' q1 q2 q3=>hq H' q1 (q2.trans l1) q3)
def stH (H:Hp) (b o:Nat):List AV->Option Hp
 | []=>some H
 | v::l=>(H.st b o v).bind λH'=>stH H' b (o+1) l
theorem ub (b:Nat) (K:Hp->Option R):∀ (l:List AV) (o:Nat) (H:Hp),stN H b o l K=(stH H b o l).bind K
 | [],o,H=>rfl
 | v::l,o,H=>by
  simp only [stN,stH]
  cases H.st b o v with
  | none=>rfl
  | some H'=>exact ub b K l (o+1) H'
theorem WF.stH {b:Nat}:∀ (l:List AV) (o:Nat) (H H':Hp),(∀ v∈l,v.inS (·<H.length))->WF H->stH H b o l=some H'->WF H'/\H'.length=H.length
 | [],o,H,H',hv,hw,h=>by simp only [AE.stH] at h;cases h;exact ⟨hw,rfl⟩
 | v::l,o,H,H',hv,hw,h=>by
  simp only [AE.stH] at h
  obtain ⟨H1,h1,h2⟩:=ah h
  obtain ⟨w1,l1⟩:=hw.st (hv v (by simp)) h1
  obtain ⟨w2,l2⟩:=WF.stH l (o+1) H1 H' (λu hu=>by rw [l1];exact hv u (List.mem_cons_of_mem _ hu)) w1 h2
  exact ⟨w2,l2.trans l1⟩
theorem Rel.storesH {Φ:Phi} {S:Nat->Prop} {H H':Hp} {w:World} (hr:Rel Φ S H w) {b o:Nat} (hb:S b) {l:List AV} (hv:∀ v∈l,v.ok Φ S) (h:stH H b o l=some H') :
  ∃ w',(storeCells ⟨Φ.b b,Φ.o b+o,none⟩ (AV.toVs Φ l) 0).run P w=.ok () w'/\Post Φ S H w Φ H' w'/\H'.length=H.length:=by
 obtain ⟨H2,w2,g1,g2,g3,g4⟩:=Rel.stores (P:=P) (R:=Hp) (r:=H') hb l o 0 H w some hr hv (by rw [ub,Nat.add_zero,h];rfl)
 cases g4
 exact ⟨w2,g1,g2,g3⟩
theorem aqN {t:TypeId} {a x:Operand} {b c:Nat} {i:TI} {K:AV->Hp->Option R} (hX:dR P X) (ho:o.op=.store t a x) (ha:ρ a=.ptr b c) (hi:X t=some i)
  (hl:(ρ x).cells.length=i.size) (h:stN H b c (ρ x).cells (λH'=>K (.tup []) H')=some r) :
  ∃ H',OTV P o ρ H (.tup []) H'/\K (.tup []) H'=some r:=by
 obtain ⟨d,info,z,tk⟩:=hX t i hi
 have hopa:a∈o.op.operands:=by rw [ho];simp [Op.operands]
 have hopx:x∈o.op.operands:=by rw [ho];simp [Op.operands]
 rw [ub] at h
 obtain ⟨H',h1,h2⟩:=ah h
 refine ⟨H',⟨λΦ S w hr hx=>?_,λhw hx=>?_⟩,h2⟩
 ·have hS:S b:=by have:=hx a hopa;rw [ha] at this;simpa only [AV.ok] using this
  obtain ⟨w',g1,g2,g3⟩:=hr.storesH (P:=P) hS (Lu (hx x hopx)) h1
  refine ⟨Φ,w',.inr ⟨?_,rfl⟩,g2,by simp [AV.ok,AV.oks]⟩
  simp only [execOp,ho,ha,AV.toV]
  have hsz:((ρ x).toV Φ).cells.size=info.size:=by rw [Ej];simp [iO,hl,tk.size]
  have hlist:((ρ x).toV Φ).cells.toList=AV.toVs Φ (ρ x).cells:=by rw [Ej]
  simp [Instr.storeAt,Instr.sureAddr,storeVar,sizeOf,typeInfo,tk.inf,hsz,hlist,g1]
 ·obtain ⟨w1,l1⟩:=WF.stH _ _ _ _ (Lv (hx x hopx)) hw h1
  exact ⟨w1,by simp [AV.inS,AV.inSs],by omega⟩
end Go.AE
end
section
namespace Go.AE
variable {R:Type} {P:Program} {X:Tab} {ρ:Operand->AV} {o:Oper} {H:Hp} {r:R}
theorem aqO {x:Operand} {b c:Nat} (ho:o.op=.nilCheck x) (hx:ρ x=.ptr b c):PV P o ρ (.ptr b c):=by
 have hop:x∈o.op.operands:=by rw [ho];simp [Op.operands]
 refine PV.mk (λΦ S _ w=>?_) (λΦ S h=>by have:=h x hop;rwa [hx] at this) (λS h=>by have:=h x hop;rwa [hx] at this)
 simp [execOp,ho,hx,AV.toV]
theorem aqP {x:Operand} {f:FuncId} {caps:List AV} (ho:o.op=.nilCheck x) (hx:ρ x=.fn f caps):PV P o ρ (.fn f caps):=by
 have hop:x∈o.op.operands:=by rw [ho];simp [Op.operands]
 refine PV.mk (λΦ S _ w=>?_) (λΦ S h=>by have:=h x hop;rwa [hx] at this) (λS h=>by have:=h x hop;rwa [hx] at this)
 simp [execOp,ho,hx,AV.toV]
theorem aqQ {t:TypeId} {x:Operand} {k:IntKind} {n:Int} (ho:o.op=.unOp .neg t x) (hx:ρ x=.int k n):PV P o ρ (.int k (k.wrap (0 - n))):=by
 refine PV.mk (λΦ S _ w=>?_) (λΦ S h=>by simp [AV.ok]) (λS h=>by simp [AV.inS])
 simp [execOp,ho,hx,AV.toV,Op.unary,Op.intArith]
theorem aqR {t:TypeId} {x:Operand} {b:Bool} (ho:o.op=.unOp .not t x) (hx:ρ x=.bool b):PV P o ρ (.bool (!b)):=by
 refine PV.mk (λΦ S _ w=>?_) (λΦ S h=>by simp [AV.ok]) (λS h=>by simp [AV.inS])
 simp [execOp,ho,hx,AV.toV,Op.unary]
theorem aqS {s d:TypeId} {x:Operand} {k k':IntKind} {n:Int} {i j:TI} (hX:dR P X) (ho:o.op=.convert s d x) (hx:ρ x=.int k' n) (hi:X s=some i) (hj:X d=some j) (hd:j.d=.int k) :
  PV P o ρ (.int k (k.wrap n)):=by
 obtain ⟨d1,info,z,tk⟩:=hX _ _ hi
 obtain ⟨d2,info2,z2,t2⟩:=hX _ _ hj
 have hu:=t2.int hd
 refine PV.mk (λΦ S _ w=>?_) (λΦ S h=>by simp [AV.ok]) (λS h=>by simp [AV.inS])
 simp [execOp,ho,hx,AV.toV,convert,run_underlying tk.und,run_underlying hu,Conv.intToInt]
theorem aqT {f:FuncId} {caps:Array Operand} (ho:o.op=.makeFunc (.func f) #[] caps):PV P o ρ (.fn f (caps.toList.map ρ)):=by
 have hop:∀ x∈caps,x∈o.op.operands:=λx hx=>by rw [ho];simp [Op.operands,hx]
 refine PV.mk (λΦ S _ w=>?_) (λΦ S h=>?_) (λS h=>?_)
 ·simp [execOp,ho,AV.toV,AV.toVs_eq,Instr.makeFunc]
  apply Array.ext';simp
 ·simp only [AV.ok]
  refine (AV.oks_iff Φ S _).2 λv hv=>?_
  obtain ⟨x,hx,rfl⟩:=List.mem_map.1 hv
  exact h x (hop x (by simpa using hx))
 ·simp only [AV.inS]
  refine (AV.inSs_iff S _).2 λv hv=>?_
  obtain ⟨x,hx,rfl⟩:=List.mem_map.1 hv
  exact h x (hop x (by simpa using hx))
theorem aqU {x:Operand} {j:Nat} {l:List AV} {v:AV} (ho:o.op=.extract x j) (hx:ρ x=.tup l) (hv:l[j]?=some v):PV P o ρ v:=by
 have hop:x∈o.op.operands:=by rw [ho];simp [Op.operands]
 refine PV.mk (λΦ S _ w=>?_) (λΦ S h=>?_) (λS h=>?_)
 ·simp [execOp,ho,hx,AV.toV,Instr.extract,AV.toVs_eq,hv]
 ·have:=h x hop
  rw [hx] at this
  simp only [AV.ok] at this
  exact (AV.oks_iff Φ S l).1 this v (List.mem_of_getElem? hv)
 ·have:=h x hop
  rw [hx] at this
  simp only [AV.inS] at this
  exact (AV.inSs_iff S l).1 this v (List.mem_of_getElem? hv)
theorem aqV {s:TypeId} {x:Operand} {f b c:Nat} {i k:TI} {fs:List (Nat×TypeId)} {q:Nat×TypeId} (hX:dR P X) (ho:o.op=.fieldAddr s x f) (hx:ρ x=.ptr b c) (hi:X s=some i) (hd:i.d=.struct fs)
  (hq:fs[f]?=some q) (hk:X q.2=some k) (hz:k.size≠0):PV P o ρ (.ptr b (c+q.1)):=by
 obtain ⟨d1,info,z,tk⟩:=hX _ _ hi
 obtain ⟨d2,info2,z2,t2⟩:=hX _ _ hk
 obtain ⟨gs,hu,hg⟩:=tk.struct hd
 have hop:x∈o.op.operands:=by rw [ho];simp [Op.operands]
 refine PV.mk (λΦ S _ w=>?_) (λΦ S h=>by have:=h x hop;rw [hx] at this;simpa only [AV.ok] using this) (λS h=>by have:=h x hop;rw [hx] at this;simpa only [AV.inS] using this)
 have hfl:(gs.toList[f]?).map (λg:Field=>(g.offset,g.type))=some q:=by rw [<- hq,<-hg];simp
 cases hgf:gs[f]? with
 | none=>rw [<- Array.getElem?_toList] at hgf;rw [hgf] at hfl;cases hfl
 | some g=>
  have hgl:=hgf
  rw [<- Array.getElem?_toList] at hgl
  rw [hgl] at hfl
  obtain rfl:(g.offset,g.type)=q:=by simpa using hfl
  simp only [execOp,ho,hx,AV.toV]
  simp [Instr.fieldAt,run_underlying hu,hgf,Instr.sureAddr,fieldPlace,sizeOf,typeInfo,t2.inf,t2.size,hz,Addr.add_none,Nat.add_assoc]
theorem ae5 {s:TypeId} {x:Operand} {f:Nat} {cs:List AV} {v:AV} {i k:TI} {fs:List (Nat×TypeId)} {q:Nat×TypeId} (hX:dR P X) (ho:o.op=.field s x f) (hx:ρ x=.agg cs) (hi:X s=some i) (hd:i.d=.struct fs)
  (hq:fs[f]?=some q) (hk:X q.2=some k) (hv:(k.agg=true/\v=.agg ((cs.drop q.1).take k.size))\/(k.agg=false/\cs[q.1]?=some v)):PV P o ρ v:=by
 obtain ⟨d1,info,z,tk⟩:=hX _ _ hi
 obtain ⟨d2,info2,z2,t2⟩:=hX _ _ hk
 obtain ⟨gs,hu,hg⟩:=tk.struct hd
 have hop:x∈o.op.operands:=by rw [ho];simp [Op.operands]
 refine PV.mk (λΦ S _ w=>?_) (λΦ S h=>?_) (λS h=>?_)
 ·have hfl:(gs.toList[f]?).map (λg:Field=>(g.offset,g.type))=some q:=by rw [<- hq,<-hg];simp
  cases hgf:gs[f]? with
  | none=>rw [<- Array.getElem?_toList] at hgf;rw [hgf] at hfl;cases hfl
  | some g=>
   have hgl:=hgf
   rw [<- Array.getElem?_toList] at hgl
   rw [hgl] at hfl
   obtain rfl:(g.offset,g.type)=q:=by simpa using hfl
   simp only [execOp,ho,hx,AV.toV]
   have hag:=t2.agg
   have hia:(isAgg g.type).run P w=.ok k.agg w:=by
    rw [<- hag]
    simp only [isAgg,Sem.run_bind,run_underlying t2.und,Result.andThen_ok]
    cases d2 <;> simp [ua]
   rcases hv with ⟨h1,rfl⟩ | ⟨h1,h2⟩
   ·simp [Instr.field,run_underlying hu,hgf,asAgg,part,hia,h1,sizeOf,typeInfo,t2.inf,t2.size,AV.toV,AV.toVs_eq]
   ·simp [Instr.field,run_underlying hu,hgf,asAgg,part,hia,h1,sizeOf,typeInfo,t2.inf,t2.size,AV.toVs_eq]
    simp at h2
    simp [h2]
 ·have:=h x hop
  rw [hx] at this
  simp only [AV.ok] at this
  rcases hv with ⟨h1,rfl⟩ | ⟨h1,h2⟩
  ·simp only [AV.ok]
   exact (AV.oks_iff Φ S _).2 λu hu=>(AV.oks_iff Φ S cs).1 this u (List.mem_of_mem_drop (List.mem_of_mem_take hu))
  ·exact (AV.oks_iff Φ S cs).1 this v (List.mem_of_getElem? h2)
 ·have:=h x hop
  rw [hx] at this
  simp only [AV.inS] at this
  rcases hv with ⟨h1,rfl⟩ | ⟨h1,h2⟩
  ·simp only [AV.inS]
   exact (AV.inSs_iff S _).2 λu hu=>(AV.inSs_iff S cs).1 this u (List.mem_of_mem_drop (List.mem_of_mem_take hu))
  ·exact (AV.inSs_iff S cs).1 this v (List.mem_of_getElem? h2)
theorem aqW {t e:TypeId} {x ix:Operand} {s:Sl} {k:IntKind} {j:Int} {p:Nat×Nat} {i ie:TI} (hX:dR P X) (ho:o.op=.indexAddr t x ix) (hi:X t=some i) (hd:i.d=.slice e) (he:X e=some ie)
  (hx:ρ x=.sl s) (hix:ρ ix=.int k j) (hj:0<=j/\j<s.n) (hp:s.ad=some p):PV P o ρ (.ptr p.1 (p.2+j.toNat * ie.size)):=by
 obtain ⟨hp,hnt⟩:=Sl.ad_some hp
 obtain ⟨d1,info,z,tk⟩:=hX _ _ hi
 obtain ⟨d2,info2,z2,t2⟩:=hX _ _ he
 have hu:=tk.slice hd
 have hop:x∈o.op.operands:=by rw [ho];simp [Op.operands]
 refine PV.mk (λΦ S _ w=>?_) (λΦ S h=>?_) (λS h=>?_)
 ·obtain ⟨sa,sn,sc⟩:=s
  simp only at hp hj
  subst hp
  cases sc with
  | tip z o=>exact absurd rfl (hnt z o)
  | _=>
   simp only [execOp,ho,hx,hix,AV.toV,Sl.toV]
   simp [Instr.indexAt,run_underlying hu,asIntOf,hj,sizeOf,typeInfo,t2.inf,t2.size,Addr.add_none,Nat.add_assoc]
 ·have:=h x hop
  rw [hx] at this
  simp only [AV.ok] at this ⊢
  exact (this p hp).1
 ·have:=h x hop
  rw [hx] at this
  simp only [AV.inS] at this ⊢
  exact this p hp
theorem aqX {t e:TypeId} {n b c:Nat} {x ix:Operand} {k:IntKind} {j:Int} {i ie:TI} (hX:dR P X) (ho:o.op=.indexAddr t x ix) (hi:X t=some i) (hd:i.d=.arr n e) (he:X e=some ie)
  (hx:ρ x=.ptr b c) (hix:ρ ix=.int k j) (hj:0<=j/\j<n):PV P o ρ (.ptr b (c+j.toNat * ie.size)):=by
 obtain ⟨d1,info,z,tk⟩:=hX _ _ hi
 obtain ⟨d2,info2,z2,t2⟩:=hX _ _ he
 have hu:=tk.arr hd
 have hop:x∈o.op.operands:=by rw [ho];simp [Op.operands]
 refine PV.mk (λΦ S _ w=>?_) (λΦ S h=>?_) (λS h=>?_)
 ·simp only [execOp,ho,hx,hix,AV.toV]
  simp [Instr.indexAt,run_underlying hu,asIntOf,Instr.sureAddr,hj,sizeOf,typeInfo,t2.inf,t2.size,Addr.add_none,Nat.add_assoc]
 ·have:=h x hop
  rw [hx] at this
  simpa only [AV.ok] using this
 ·have:=h x hop
  rw [hx] at this
  simpa only [AV.inS] using this
theorem aqY {t e:TypeId} {n:Nat} {x ix:Operand} {k:IntKind} {j:Int} {cs:List AV} {v:AV} {i ie:TI} (hX:dR P X) (ho:o.op=.index t x ix) (hi:X t=some i) (hd:i.d=.arr n e) (he:X e=some ie)
  (hx:ρ x=.agg cs) (hix:ρ ix=.int k j) (hj:0<=j/\j<n) (hag:ie.agg=false) (hv:cs[j.toNat * ie.size]?=some v):PV P o ρ v:=by
 obtain ⟨d1,info,z,tk⟩:=hX _ _ hi
 obtain ⟨d2,info2,z2,t2⟩:=hX _ _ he
 have hu:=tk.arr hd
 have hop:x∈o.op.operands:=by rw [ho];simp [Op.operands]
 refine PV.mk (λΦ S _ w=>?_) (λΦ S h=>?_) (λS h=>?_)
 ·have hia:(isAgg e).run P w=.ok false w:=by
   have:=t2.agg
   rw [hag] at this
   rw [<- this]
   simp only [isAgg,Sem.run_bind,run_underlying t2.und,Result.andThen_ok]
   cases d2 <;> simp [ua]
  simp only [execOp,ho,hx,hix,AV.toV]
  simp [Instr.index,run_underlying hu,asIntOf,hj,sizeOf,typeInfo,t2.inf,t2.size,part,hia,AV.toVs_eq,hv]
 ·have:=h x hop
  rw [hx] at this
  simp only [AV.ok] at this
  exact (AV.oks_iff Φ S cs).1 this v (List.mem_of_getElem? hv)
 ·have:=h x hop
  rw [hx] at this
  simp only [AV.inS] at this
  exact (AV.inSs_iff S cs).1 this v (List.mem_of_getElem? hv)
theorem aqZ {t:TypeId} {x ix:Operand} {k:IntKind} {j:Int} {s:ByteArray} {b:UInt8} {i:TI} (hX:dR P X) (ho:o.op=.index t x ix) (hi:X t=some i) (hd:i.d=.str)
  (hx:ρ x=.str s) (hix:ρ ix=.int k j) (hj:0<=j) (hb:s[j.toNat]?=some b):PV P o ρ (.int .u8 b.toNat):=by
 obtain ⟨d1,info,z,tk⟩:=hX _ _ hi
 have hu:=tk.str hd
 refine PV.mk (λΦ S _ w=>?_) (λΦ S h=>by simp [AV.ok]) (λS h=>by simp [AV.inS])
 simp only [execOp,ho,hx,hix,AV.toV]
 simp [Instr.index,run_underlying hu,asIntOf,hj,hb]
end Go.AE
end
section
namespace Go.AE
variable {R:Type} {P:Program} {X:Tab} {ρ:Operand->AV} {o:Oper} {H:Hp} {r:R}
theorem vY {op:BinOp} {t t2:TypeId} {x y:Operand} {v:AV} (ho:o.op=.binOp op t x y t2) (hs:(∀ Φ S,v.ok Φ S)/\(∀ S,v.inS S))
  (h:∀ (Φ:Phi) (w:World),(do eqGuard op t x y ((ρ x).toV Φ) ((ρ y).toV Φ);binOp op t ((ρ x).toV Φ) ((ρ y).toV Φ):Sem Value).run P w=.ok (v.toV Φ) w):PV P o ρ v:=by
 refine PV.mk (λΦ S _ w=>?_) (λΦ S _=>hs.1 Φ S) (λS _=>hs.2 S)
 have:=h Φ w
 simp only [execOp,ho]
 rw [Sem.run_bind,this]
 rfl
theorem aq0 (op:BinOp) (t:TypeId) (x y:Operand) (k k':IntKind) (a b:Int) (w:World):(eqGuard op t x y (.int k a) (.int k' b)).run P w=.ok () w:=by
 cases op <;> simp [eqGuard]
theorem ae6 (op:BinOp) (t:TypeId) (x y:Operand) (a b:Bool) (w:World):(eqGuard op t x y (.bool a) (.bool b)).run P w=.ok () w:=by
 cases op <;> simp [eqGuard]
theorem ae7 (op:BinOp) (t:TypeId) (x y:Operand) (a b:ByteArray) (w:World):(eqGuard op t x y (.string a) (.string b)).run P w=.ok () w:=by
 cases op <;> simp [eqGuard]
theorem ae8 (op:BinOp) (t:TypeId) (x y:Operand) (a b:Option Addr) (n m c d:Nat) (w:World):(eqGuard op t x y (.slice a n c) (.slice b m d)).run P w=.ok () w:=by
 cases op <;> simp [eqGuard]
theorem ae9 {w:World} {t e:TypeId} (hu:P.underlying t=some (.slice e)) (a:Option Addr) (n m c d:Nat):(Op.equal t (.slice a n c) (.slice none m d)).run P w=.ok a.isNone w:=by
 show (Op.equalIn (9999+1) t (.slice a n c) (.slice none m d)).run P w=.ok a.isNone w
 rw [Op.equalIn]
 cases a <;> simp [run_underlying hu]
theorem ae_ {w:World} {t e:TypeId} (hu:P.underlying t=some (.slice e)) (a:Option Addr) (n m c d:Nat):(binOp .eql t (.slice a n c) (.slice none m d)).run P w=.ok (.bool a.isNone) w:=by
 show (do pure (.bool (<- Op.equal t (.slice a n c) (.slice none m d))):Sem Value).run P w=_
 simp [ae9 hu]
theorem afa {w:World} {t e:TypeId} (hu:P.underlying t=some (.slice e)) (a:Option Addr) (n m c d:Nat):(binOp .neq t (.slice a n c) (.slice none m d)).run P w=.ok (.bool (!a.isNone)) w:=by
 show (do pure (.bool (!(<- Op.equal t (.slice a n c) (.slice none m d)))):Sem Value).run P w=_
 simp [ae9 hu]
theorem aq1 {op:BinOp} {t t2:TypeId} {x y:Operand} {K:AV->Option R} (hX:dR P X) (ho:o.op=.binOp op t x y t2) (h:Vz X op t (ρ x) (ρ y) K=some r) :
  ∃ v,PV P o ρ v/\K v=some r:=by
 unfold Vz at h
 split at h
 ·rename_i k a k' b hx hy
  cases op <;> simp only at h
  all_goals (split at h <;> (try split at h) <;> (try (cases h;done)))
  all_goals
   refine ⟨_,vY ho ⟨λ_ _=>by simp [AV.ok],λ_=>by simp [AV.inS]⟩ (λΦ w=>?_),h⟩
   rw [hx,hy]
   simp only [AV.toV,Sem.run_bind,aq0,Result.andThen_ok]
   simp [binOp,Op.intArith,Op.intDiv,Op.intBits,Op.intCmp,Op.shift,bits, *]
 ·rename_i a b hx hy
  split at h
  ·rename_i hd
   obtain ⟨i,hi,hid⟩:=iR hd
   obtain ⟨d1,info,z,tk⟩:=hX _ _ hi
   have hu:=tk.bool hid
   refine ⟨_,vY ho ⟨λ_ _=>by simp [AV.ok],λ_=>by simp [AV.inS]⟩ (λΦ w=>?_),h⟩
   rw [hx,hy]
   simp only [AV.toV,Sem.run_bind,ae6,Result.andThen_ok]
   exact run_eql_bool w t a b hu
  ·rename_i hd
   obtain ⟨i,hi,hid⟩:=iR hd
   obtain ⟨d1,info,z,tk⟩:=hX _ _ hi
   have hu:=tk.bool hid
   refine ⟨_,vY ho ⟨λ_ _=>by simp [AV.ok],λ_=>by simp [AV.inS]⟩ (λΦ w=>?_),h⟩
   rw [hx,hy]
   simp only [AV.toV,Sem.run_bind,ae6,Result.andThen_ok]
   exact run_neq_bool w t a b hu
  ·cases h
 ·rename_i a b hx hy
  cases op <;> simp only at h <;> try (cases h;done)
  ·split at h
   ·refine ⟨_,vY ho ⟨λ_ _=>by simp [AV.ok],λ_=>by simp [AV.inS]⟩ (λΦ w=>?_),h⟩
    rw [hx,hy]
    simp only [AV.toV,Sem.run_bind,ae7,Result.andThen_ok]
    simp [binOp,Op.stringOp,IntKind.max,IntKind.signed,IntKind.bits]
    omega
   ·cases h
  all_goals
   refine ⟨_,vY ho ⟨λ_ _=>by simp [AV.ok],λ_=>by simp [AV.inS]⟩ (λΦ w=>?_),h⟩
   rw [hx,hy]
   simp only [AV.toV,Sem.run_bind,ae7,Result.andThen_ok]
   simp [binOp,Op.stringOp]
 ·rename_i s n c hx hy
  split at h
  ·rename_i hd
   obtain ⟨i,hi,hid⟩:=iR hd
   obtain ⟨d1,info,z,tk⟩:=hX _ _ hi
   have hu:=tk.slice hid
   refine ⟨_,vY ho ⟨λ_ _=>by simp [AV.ok],λ_=>by simp [AV.inS]⟩ (λΦ w=>?_),h⟩
   rw [hx,hy]
   simp only [AV.toV,Sl.toV,Sem.run_bind,ae8,Result.andThen_ok]
   cases ha:s.a <;> simp only [Option.map_none,Option.map_some,ae_ hu,afa hu,Option.isNone_none,Option.isNone_some]
  ·rename_i hd
   obtain ⟨i,hi,hid⟩:=iR hd
   obtain ⟨d1,info,z,tk⟩:=hX _ _ hi
   have hu:=tk.slice hid
   refine ⟨_,vY ho ⟨λ_ _=>by simp [AV.ok],λ_=>by simp [AV.inS]⟩ (λΦ w=>?_),h⟩
   rw [hx,hy]
   simp only [AV.toV,Sl.toV,Sem.run_bind,ae8,Result.andThen_ok]
   cases ha:s.a <;> simp only [Option.map_none,Option.map_some,ae_ hu,afa hu,Option.isNone_none,Option.isNone_some]
  ·cases h
 ·cases h
def mn (d:Int):Option AV->Option Int
 | some (.int _ h)=>some h
 | some _=>none
 | none=>some d
theorem Em {w:World} {Φ:Phi} {isS:Bool} {n c:Nat} {lo hi:Option AV} {h l:Int} (hh:mn n hi=some h) (hl:mn 0 lo=some l) (h0:0<=l) (h1:l<=h) (h2:h<=c) :
  (Instr.sliceBounds isS n c (lo.map (AV.toV Φ)) (hi.map (AV.toV Φ)) none).run P w=.ok (l.toNat,h.toNat,c) w:=by
 have eh:(h.toNat:Int)=h:=Int.toNat_of_nonneg (by omega)
 have c1:0<=h:=by omega
 unfold mn at hh hl
 split at hh <;> (try (cases hh;done)) <;> split at hl <;> (try (cases hl;done))
 all_goals
  simp at hh hl
  subst hh hl
 ·simp [Instr.sliceBounds,AV.toV,run_sliceBound,c1,h0,h1,h2,eh]
 ·simp [Instr.sliceBounds,AV.toV,run_sliceBound,c1,h2]
 ·simp [Instr.sliceBounds,AV.toV,run_sliceBound,h0,h1]
 ·simp [Instr.sliceBounds]
theorem aq2 {w:World} {Φ:Phi} {isS:Bool} {n c:Nat} {lo:Option AV} {k k':IntKind} {h l m:Int} (hl:mn 0 lo=some l) (h0:0<=l) (h1:l<=h) (h2:h<=m) (h3:m<=c) :
  (Instr.sliceBounds isS n c (lo.map (AV.toV Φ)) (some (.int k h)) (some (.int k' m))).run P w=.ok (l.toNat,h.toNat,m.toNat) w:=by
 have eh:(h.toNat:Int)=h:=Int.toNat_of_nonneg (by omega)
 have em:(m.toNat:Int)=m:=Int.toNat_of_nonneg (by omega)
 have c1:0<=h:=by omega
 have c2:0<=m:=by omega
 unfold mn at hl
 split at hl <;> (try (cases hl;done))
 all_goals
  simp at hl
  subst hl
  simp [Instr.sliceBounds,AV.toV,run_sliceBound,c1,c2,h0,h1,h2,h3,eh,em]
theorem aq3 {t:TypeId} {x:Operand} {lo hi mx:Option Operand} {K:AV->Option R} (hX:dR P X) (ho:o.op=.slice t x lo hi mx)
  (h:VA X t (ρ x) (lo.map ρ) (hi.map ρ) (mx.map ρ) K=some r):∃ v,PV P o ρ v/\K v=some r:=by
 have hop:x∈o.op.operands:=by rw [ho];simp [Op.operands]
 unfold VA at h
 split at h
 ·rename_i e s hd hx
  obtain ⟨i,hi',hid⟩:=iR hd
  obtain ⟨d1,info,z,tk⟩:=hX _ _ hi'
  have hu:=tk.slice hid
  obtain ⟨ie,he,h⟩:=ah h
  obtain ⟨d2,info2,z2,t2⟩:=hX _ _ he
  split at h
  ·rename_i km m hmx
   split at h
   ·rename_i kh hv hhi
    obtain ⟨lv,hl,h⟩:=ah h
    have hl':mn 0 (lo.map ρ)=some lv:=by unfold mn;exact hl
    obtain ⟨s',hcut,h⟩:=ah h
    unfold Sl.cut3 at hcut
    obtain ⟨hb,hcut⟩:=Option.ite_none_right_eq_some.1 hcut
    ·cases hcut
     obtain ⟨b0,b1,b2,b3⟩:=hb
     have hxx:∀ (Φ:Phi) (S:Nat->Prop),(ρ x).ok Φ S->∀ p,s.a=some p->S p.1:=λΦ S hk p hp=>by rw [hx] at hk;simp only [AV.ok] at hk;exact (hk p hp).1
     refine ⟨_,PV.mk (λΦ S hok w=>?_) (λΦ S hok=>?_) (λS hok=>?_),h⟩
     ·have hcap:∃ cc:Nat,(ρ x).toV Φ=.slice (s.a.map λp=>⟨Φ.b p.1,Φ.o p.1+p.2,none⟩) s.n cc/\m<=cc:=by
       rw [hx]
       cases hc:s.c with
       | ex c=>rw [hc] at b3;exact ⟨c,by simp [AV.toV,Sl.toV,hc],of_decide_eq_true b3⟩
       | full z'=>
        rw [hc] at b3
        obtain ⟨rfl,c2,c3⟩:=of_decide_eq_true b3
        obtain ⟨p,hp⟩:=Option.isSome_iff_exists.1 c3
        have hk:=hok x hop
        rw [hx] at hk
        simp only [AV.ok] at hk
        obtain ⟨q3,q4⟩:=(hk p hp).2 _ hc
        have:s.n<=(Φ.k p.1 - p.2) / ie.size:=(Nat.le_div_iff_mul_le q3).2 (by omega)
        exact ⟨(Φ.k p.1 - p.2) / ie.size,by simp [AV.toV,Sl.toV,hc,hp],by omega⟩
       | tip z' o'=>rw [hc] at b3;cases b3
      obtain ⟨cc,hv1,hv2⟩:=hcap
      have hbd:=aq2 (P:=P) (w:=w) (Φ:=Φ) (isS:=true) (n:=s.n) (k:=kh) (k':=km) hl' b0 b1 b2 hv2
      have em:mx.map (λx=>(ρ x).toV Φ)=some (.int km m):=by
       cases mx with
       | none=>cases hmx
       | some y=>simp only [Option.map_some,Option.some.injEq] at hmx ⊢;rw [hmx];rfl
      have eh:hi.map (λx=>(ρ x).toV Φ)=some (.int kh hv):=by
       cases hi with
       | none=>cases hhi
       | some y=>simp only [Option.map_some,Option.some.injEq] at hhi ⊢;rw [hhi];rfl
      simp only [execOp,ho,hv1,em,eh]
      simp only [Option.map_map] at hbd ⊢
      rw [show (λx=>AV.toV Φ (ρ x))=(AV.toV Φ ∘ ρ) from rfl]
      simp [Instr.sliceAt,Instr.slice,run_underlying hu,hbd,sizeOf,typeInfo,t2.inf,t2.size,AV.toV,Sl.toV]
      by_cases e:m.toNat=lv.toNat
      ·simp [e]
      ·simp only [e,if_false]
       cases s.a <;> simp [Addr.add_none,Nat.add_assoc]
     ·have:=hxx Φ S (hok x hop)
      simp only [AV.ok]
      intro p hp
      refine ⟨?_,λz hz=>by cases hz⟩
      split at hp
      ·exact this p hp
      ·cases ha:s.a with
       | none=>simp [ha] at hp
       | some q=>rw [ha] at hp;simp at hp;subst hp;exact this q ha
     ·have:=hok x hop
      rw [hx] at this
      simp only [AV.inS] at this ⊢
      intro p hp
      split at hp
      ·exact this p hp
      ·cases ha:s.a with
       | none=>simp [ha] at hp
       | some q=>rw [ha] at hp;simp at hp;subst hp;exact this q ha
   ·cases h
  ·cases h
  ·rename_i hmx
   have hmx':mx=none:=by cases mx <;> simp at hmx ⊢
   obtain ⟨hv,hh,h⟩:=ah h
   obtain ⟨lv,hl,h⟩:=ah h
   have hh':mn s.n (hi.map ρ)=some hv:=by unfold mn;exact hh
   have hl':mn 0 (lo.map ρ)=some lv:=by unfold mn;exact hl
   obtain ⟨s',hcut,h⟩:=ah h
   unfold Sl.cut at hcut
   split at hcut
   ·rename_i c hc
    split at hcut
    ·rename_i hb
     cases hcut
     obtain ⟨b0,b1,b2⟩:=hb
     refine ⟨_,PV.mk (λΦ S hok w=>?_) (λΦ S hok=>?_) (λS hok=>?_),h⟩
     ·have hbd:=Em (P:=P) (w:=w) (Φ:=Φ) (isS:=true) hh' hl' b0 b1 b2
      simp only [execOp,ho,hmx',hx,AV.toV,Sl.toV,hc]
      simp only [Option.map_none,Option.map_map] at hbd ⊢
      rw [show (λx=>AV.toV Φ (ρ x))=(AV.toV Φ ∘ ρ) from rfl]
      simp [Instr.sliceAt,Instr.slice,run_underlying hu,hbd,sizeOf,typeInfo,t2.inf,t2.size]
      by_cases e:c=lv.toNat
      ·simp [e]
      ·simp only [e,if_false]
       cases s.a <;> simp [Addr.add_none,Nat.add_assoc]
     ·have:=hok x hop
      rw [hx] at this
      simp only [AV.ok] at this ⊢
      intro p hp
      refine ⟨?_,λz hz=>by cases hz⟩
      split at hp
      ·exact (this p hp).1
      ·cases ha:s.a with
       | none=>simp [ha] at hp
       | some q=>rw [ha] at hp;simp at hp;subst hp;exact (this q ha).1
     ·have:=hok x hop
      rw [hx] at this
      simp only [AV.inS] at this ⊢
      intro p hp
      split at hp
      ·exact this p hp
      ·cases ha:s.a with
       | none=>simp [ha] at hp
       | some q=>rw [ha] at hp;simp at hp;subst hp;exact this q ha
    ·cases hcut
   ·rename_i z hc
    obtain ⟨p,ha,hcut⟩:=ah hcut
    split at hcut
    ·rename_i hb
     cases hcut
     obtain ⟨b0,b1,b2,rfl⟩:=hb
     by_cases b3:lv<s.n
     rotate_left
     ·rw [if_neg b3] at h
      refine ⟨_,PV.mk (λΦ S hok w=>?_) (λΦ S hok=>?_) (λS hok=>?_),h⟩
      ·have hx':=hok x hop
       rw [hx] at hx'
       simp only [AV.ok] at hx'
       simp only [execOp,ho,hmx',hx,AV.toV,Sl.toV,hc,ha]
       obtain ⟨q1,q2⟩:=hx' p ha
       obtain ⟨q3,q4⟩:=q2 _ hc
       have hcap:s.n<=(Φ.k p.1 - p.2) / ie.size:=(Nat.le_div_iff_mul_le q3).2 (by omega)
       have hbd:=Em (P:=P) (w:=w) (Φ:=Φ) (isS:=true) (c:=(Φ.k p.1 - p.2) / ie.size) hh' hl' b0 b1 (by omega)
       simp only [Option.map_none,Option.map_map] at hbd ⊢
       rw [show (λx=>AV.toV Φ (ρ x))=(AV.toV Φ ∘ ρ) from rfl]
       simp [Instr.sliceAt,Instr.slice,run_underlying hu,hbd,sizeOf,typeInfo,t2.inf,t2.size]
       have e3:lv.toNat * ie.size<=s.n * ie.size:=Nat.mul_le_mul_right _ (by omega)
       have e4:(Φ.k p.1 - (p.2+lv.toNat * ie.size)) / ie.size=(Φ.k p.1 - p.2) / ie.size - lv.toNat:=by
        rw [Nat.sub_add_eq,Nat.mul_comm lv.toNat,Nat.sub_mul_div_of_le _ _ _ (by rw [Nat.mul_comm];omega)]
       have e5:hv.toNat - lv.toNat=0:=by omega
       rw [e4,e5]
       refine ⟨?_,rfl,rfl⟩
       by_cases e6:(Φ.k p.1 - p.2) / ie.size=lv.toNat
       ·have e7:ie.size=0\/Φ.k p.1 - (p.2+lv.toNat * ie.size)<ie.size:=Nat.div_eq_zero_iff.1 (by rw [e4];omega)
        rw [if_pos e6,if_pos e7]
       ·have e7:¬ (ie.size=0\/Φ.k p.1 - (p.2+lv.toNat * ie.size)<ie.size):=λh=>e6 (by have:=Nat.div_eq_zero_iff.2 h;rw [e4] at this;omega)
        rw [if_neg e6,if_neg e7,Addr.add_none,Nat.add_assoc]
      ·have:=hok x hop
       rw [hx] at this
       simp only [AV.ok] at this ⊢
       intro q' hp
       cases hp
       exact ⟨(this p ha).1,λz hz=>by cases hz⟩
      ·have:=hok x hop
       rw [hx] at this
       simp only [AV.inS] at this ⊢
       intro q' hp
       cases hp
       exact this p ha
     rw [if_pos b3] at h
     refine ⟨_,PV.mk (λΦ S hok w=>?_) (λΦ S hok=>?_) (λS hok=>?_),h⟩
     ·have hx':=hok x hop
      rw [hx] at hx'
      simp only [AV.ok] at hx'
      simp only [execOp,ho,hmx',hx,AV.toV,Sl.toV,hc,ha]
      obtain ⟨q1,q2⟩:=hx' p ha
      obtain ⟨q3,q4⟩:=q2 _ hc
      have hcap:s.n<=(Φ.k p.1 - p.2) / ie.size:=(Nat.le_div_iff_mul_le q3).2 (by omega)
      have hbd:=Em (P:=P) (w:=w) (Φ:=Φ) (isS:=true) (c:=(Φ.k p.1 - p.2) / ie.size) hh' hl' b0 b1 (by omega)
      simp only [Option.map_none,Option.map_map] at hbd ⊢
      rw [show (λx=>AV.toV Φ (ρ x))=(AV.toV Φ ∘ ρ) from rfl]
      simp [Instr.sliceAt,Instr.slice,run_underlying hu,hbd,sizeOf,typeInfo,t2.inf,t2.size]
      have hne:¬ ((Φ.k p.1 - p.2) / ie.size=lv.toNat):=by omega
      have e3:lv.toNat * ie.size<=s.n * ie.size:=Nat.mul_le_mul_right _ (by omega)
      simp only [hne,if_false,Addr.add_none,Nat.add_assoc,true_and]
      rw [Nat.sub_add_eq,Nat.mul_comm lv.toNat,Nat.sub_mul_div_of_le _ _ _ (by rw [Nat.mul_comm];omega)]
     ·have:=hok x hop
      rw [hx] at this
      simp only [AV.ok] at this ⊢
      intro q' hp
      cases hp
      obtain ⟨q1,q2⟩:=this p ha
      refine ⟨q1,λz hz=>?_⟩
      cases hz
      obtain ⟨q3,q4⟩:=q2 _ hc
      refine ⟨q3,?_⟩
      have e1:(hv.toNat - lv.toNat) * ie.size=hv.toNat * ie.size - lv.toNat * ie.size:=Nat.sub_mul _ _ _
      have e2:hv.toNat * ie.size<=s.n * ie.size:=Nat.mul_le_mul_right _ (by omega)
      have e3:lv.toNat * ie.size<=hv.toNat * ie.size:=Nat.mul_le_mul_right _ (by omega)
      show p.2+lv.toNat * ie.size+(hv.toNat - lv.toNat) * ie.size<=Φ.k p.1
      rw [e1];omega
     ·have:=hok x hop
      rw [hx] at this
      simp only [AV.inS] at this ⊢
      intro q' hp
      cases hp
      exact this p ha
    ·cases hcut
   ·rename_i z oo hc
    split at hcut
    ·rename_i hb
     cases hcut
     obtain ⟨rfl,rfl,rfl,b3,b4⟩:=hb
     obtain ⟨p,ha⟩:=Option.isSome_iff_exists.1 b4
     have h:=‹K (.sl s)=some r›
     refine ⟨_,PV.mk (λΦ S hok w=>?_) (λΦ S hok=>?_) (λS hok=>?_),h⟩
     ·have hbd:=Em (P:=P) (w:=w) (Φ:=Φ) (isS:=true) (c:=(Φ.k p.1 - p.2) / ie.size) hh' hl' (Int.le_refl 0) (Int.le_refl 0) (Int.natCast_nonneg _)
      rw [b3] at hbd
      simp only [execOp,ho,hmx',hx,AV.toV,Sl.toV,hc,ha]
      simp only [Option.map_none,Option.map_map] at hbd ⊢
      rw [show (λx=>AV.toV Φ (ρ x))=(AV.toV Φ ∘ ρ) from rfl]
      simp [Instr.sliceAt,Instr.slice,run_underlying hu,hbd,sizeOf,typeInfo,t2.inf,t2.size,b3,Addr.add_none]
     ·have:=hok x hop
      rwa [hx] at this
     ·have:=hok x hop
      rwa [hx] at this
    ·cases hcut
 ·rename_i n e b c hd hx
  obtain ⟨i,hi',hid⟩:=iR hd
  obtain ⟨d1,info,z,tk⟩:=hX _ _ hi'
  have hu:=tk.arr hid
  obtain ⟨ie,he,h⟩:=ah h
  obtain ⟨d2,info2,z2,t2⟩:=hX _ _ he
  split at h
  ·rename_i h1 h2 h3
   have h1':lo=none:=by cases lo <;> simp at h1 ⊢
   have h2':hi=none:=by cases hi <;> simp at h2 ⊢
   have h3':mx=none:=by cases mx <;> simp at h3 ⊢
   refine ⟨_,PV.mk (λΦ S hok w=>?_) (λΦ S hok=>?_) (λS hok=>?_),h⟩
   ·simp only [execOp,ho,hx,AV.toV,h1',h2',h3',Sl.toV]
    simp [Instr.sliceAt,Instr.sureAddr,run_underlying hu,Instr.sliceBounds,sizeOf,typeInfo,t2.inf,Addr.add_none]
   ·have:=hok x hop
    rw [hx] at this
    simp only [AV.ok] at this ⊢
    intro p hp
    cases hp
    exact ⟨this,λz hz=>by cases hz⟩
   ·have:=hok x hop
    rw [hx] at this
    simp only [AV.inS] at this ⊢
    intro p hp
    cases hp
    exact this
  ·cases h
 ·rename_i s hd hx
  obtain ⟨i,hi',hid⟩:=iR hd
  obtain ⟨d1,info,z,tk⟩:=hX _ _ hi'
  have hu:=tk.str hid
  split at h
  ·cases h
  ·rename_i hmx
   have hmx':mx=none:=by cases mx <;> simp at hmx ⊢
   obtain ⟨hv,hh,h⟩:=ah h
   obtain ⟨lv,hl,h⟩:=ah h
   have hh':mn s.size (hi.map ρ)=some hv:=by unfold mn;exact hh
   have hl':mn 0 (lo.map ρ)=some lv:=by unfold mn;exact hl
   split at h
   ·rename_i hb
    obtain ⟨b0,b1,b2⟩:=hb
    refine ⟨_,PV.mk (λΦ S hok w=>?_) (λΦ S hok=>by simp [AV.ok]) (λS hok=>by simp [AV.inS]),h⟩
    have hbd:=Em (P:=P) (w:=w) (Φ:=Φ) (isS:=false) hh' hl' b0 b1 b2
    simp only [execOp,ho,hmx',hx,AV.toV]
    simp only [Option.map_none,Option.map_map] at hbd ⊢
    rw [show (λx=>AV.toV Φ (ρ x))=(AV.toV Φ ∘ ρ) from rfl]
    simp [Instr.sliceAt,Instr.slice,run_underlying hu,hbd]
   ·cases h
 ·cases h
end Go.AE
end
section
namespace Go.AE
variable {R:Type} {P:Program} {X:Tab} {ρ:Operand->AV} {o:Oper} {H:Hp} {r:R}
theorem Hp.row_some {H:Hp} {b o n:Nat} {l:List AV} (h:H.row b o n=some l):∃ blk,H[b]?=some blk/\blk.live=true/\o+n<=blk.cells.length/\l=(blk.cells.drop o).take n:=by
 unfold Hp.row at h
 split at h
 ·rename_i k hk
  split at h
  ·rename_i hl
   simp only [Bool.and_eq_true,decide_eq_true_eq] at hl
   exact ⟨k,hk,hl.1,hl.2,(Option.some.inj h).symm⟩
  ·cases h
 ·cases h
theorem Hp.row_cell {H:Hp} {b o n:Nat} {l:List AV} (h:H.row b o n=some l):l.length=n/\∀ i v,l[i]?=some v->H.cell b (o+i)=some v:=by
 obtain ⟨blk,h1,h2,h3,rfl⟩:=Hp.row_some h
 refine ⟨by simp;omega,λi v hv=>?_⟩
 unfold Hp.cell
 simp only [h1,h2,if_true]
 rw [List.getElem?_take] at hv
 split at hv
 ·rw [List.getElem?_drop] at hv;exact hv
 ·cases hv
theorem vZ {Φ:Phi} {S:Nat->Prop} {w:World} (hr:Rel Φ S H w) {y:Sl} {z:Nat} {xs:List AV} (hy:AV.ok Φ S (.sl y)) (h:y.row H z=some xs) (len cap n:Nat) (hn:n=y.n) :
  (Builtin.firstCells z n (.slice (y.adr Φ) len cap)).run P w=.ok (AV.toVs Φ xs).toArray w/\(∀ v∈xs,v.ok Φ S/\v.isCell=true)/\xs.length=y.n * z:=by
 subst hn
 unfold Sl.row at h
 by_cases hn:y.n=0
 ·rw [if_pos hn] at h
  cases h
  cases ha:y.a with
  | none=>simp [Builtin.firstCells,AV.toVs,hn,Sl.adr,ha]
  | some p=>
   simp only [AV.ok] at hy
   have:=hr.loadCells (P:=P) (o:=match y.c with | .tip z o=>if (Φ.k p.1 - p.2) / z=0 then o else p.2 | _=>p.2) (hy p ha).1 [] (λi v h=>by simp at h)
   refine ⟨?_,λv hv=>(by cases hv),by simp [hn]⟩
   have e:y.adr Φ=some ⟨Φ.b p.1,Φ.o p.1+(match y.c with | .tip z o=>if (Φ.k p.1 - p.2) / z=0 then o else p.2 | _=>p.2),none⟩:=by unfold Sl.adr;rw [ha];rfl
   rw [e]
   simpa [Builtin.firstCells,hn] using this
 rw [if_neg hn] at h
 cases ha:y.ad with
 | none=>
  rw [ha] at h
  cases h
 | some p=>
  rw [ha] at h
  obtain ⟨h1,h2⟩:=Hp.row_cell h
  simp only [AV.ok] at hy
  have hS:=(hy p (Sl.ad_some ha).1).1
  refine ⟨?_,λv hv=>?_,h1⟩
  ·have:=hr.loadCells (P:=P) hS xs h2
   rw [h1] at this
   rw [Sl.adr_of ha]
   simpa [Builtin.firstCells] using this
  ·obtain ⟨j,hj⟩:=List.getElem?_of_mem hv
   exact (hr.cell_of hS (h2 j v hj)).2
theorem VE {y:Sl} {z:Nat} {xs:List AV} (h:y.row H z=some xs) (hw:WF H):∀ v∈xs,v.inS (·<H.length):=by
 unfold Sl.row at h
 by_cases hn:y.n=0
 ·rw [if_pos hn] at h;cases h;simp
 rw [if_neg hn] at h
 cases ha:y.ad with
 | some p=>
  rw [ha] at h
  obtain ⟨h1,h2⟩:=Hp.row_cell h
  intro v hv
  obtain ⟨j,hj⟩:=List.getElem?_of_mem hv
  obtain ⟨blk,q1,q2,q3⟩:=Hp.cell_some (h2 j v hj)
  exact hw _ blk q1 q2 v (List.mem_of_getElem? q3)
 | none=>
  rw [ha] at h
  cases h
theorem VF {b:Nat} {cs:List AV} (h:H.ownc b=some cs):∃ blk,H[b]?=some blk/\blk.live=true/\blk.own=true/\blk.cells=cs:=by
 unfold Hp.ownc at h
 split at h
 ·rename_i k hk
  split at h
  ·rename_i hl
   simp only [Bool.and_eq_true] at hl
   exact ⟨k,hk,hl.1,hl.2,Option.some.inj h⟩
  ·cases h
 ·cases h
theorem afb {w:World} {b:Nat} {T:TypeId}:∀ (l:List Value) (o j:Nat) (c:Array Value),(∀ v∈l,v.oneCell'=true)->o+j+l.length<=c.size->w.heap[b]?=some (.cells c T (0,0)) ->
  ∃ w' c',(storeCells ⟨b,o,none⟩ l j).run P w=.ok () w'/\w'.heap[b]?=some (.cells c' T (0,0))/\c'.size=c.size/\(∀ k,k≠b->w'.heap[k]?=w.heap[k]?)/\w'.os=w.os/\w'.tape=w.tape/\w'.output=w.output /\
   w'.heap.size=w.heap.size/\(∀ i,i<o+j->c'[i]?=c[i]?)/\(∀ i,i<l.length->c'[o+j+i]?=l[i]?)
 | [],o,j,c,_,_,hc=>⟨w,c,by simp [storeCells],hc,rfl,λ_ _=>rfl,rfl,rfl,rfl,rfl,λ_ _=>rfl,λi hi=>absurd hi (Nat.not_lt_zero _)⟩
 | v::l,o,j,c,hv,hl,hc=>by
  simp only [List.length_cons] at hl
  have hcell:w.cell? ⟨b,o+j,none⟩=some (c[o+j]'(by omega)):=by
   unfold World.cell?;simp only [hc];simp
  have hfz:w.frozen? ⟨b,o+j,none⟩=false:=by unfold World.frozen?;simp only [hc];simp
  have h1:(w.setCell ⟨b,o+j,none⟩ v).heap[b]?=some (.cells (c.setIfInBounds (o+j) v) T (0,0)):=by
   simp only [World.setCell,Array.getElem?_modify,hc];simp
  obtain ⟨w',c',g1,g2,g3,g4,g5,g6,g7,g8,g9,g10⟩:=afb (w:=w.setCell ⟨b,o+j,none⟩ v) l o (j+1) (c.setIfInBounds (o+j) v) (λu hu=>hv u (List.mem_cons_of_mem _ hu)) (by simp;omega) h1
  refine ⟨w',c',?_,g2,by simpa using g3,?_,g5,g6,g7,by simpa [World.setCell] using g8,?_,?_⟩
  ·simp only [storeCells,Sem.run_bind,Addr.add_none]
   rw [run_store P w _ _ _ (hv v (by simp))]
   simp only [hcell,hfz,Bool.false_eq_true,if_false,Result.andThen_ok]
   exact g1
  ·intro k hk
   rw [g4 k hk]
   simp only [World.setCell,Array.getElem?_modify];rw [if_neg (by simpa using λe=>hk e.symm)]
  ·intro i hi
   rw [g9 i (by omega),Array.getElem?_setIfInBounds_ne (by omega)]
  ·intro i hi
   cases i with
   | zero=>
    rw [g9 (o+j+0) (by omega)]
    have:o+j<c.size:=by omega
    simp [this]
   | succ i=>
    have:=g10 i (by simpa using hi)
    rw [show o+j+(i+1)=o+(j+1)+i by omega,this]
    simp
inductive AppRes (H:Hp) (z:Nat) (s:Sl) (n:Nat) (xs:List AV):AV->Hp->Prop where
 | exIn (c:Nat) (p:Nat×Nat) (H':Hp) (hc:s.c=.ex c) (h:s.n+n<=c) (ha:s.a=some p) (hs:stH H p.1 (p.2+s.n * z) xs=some H'):AppRes H z s n xs (.sl ⟨some p,s.n+n,.ex c⟩) H'
 | exNil (c:Nat) (hc:s.c=.ex c) (h:s.n+n<=c) (ha:s.a=none):AppRes H z s n xs (.sl ⟨none,s.n+n,.ex c⟩) H
 | exOut (c:Nat) (olds:List AV) (hc:s.c=.ex c) (h:¬ s.n+n<=c) (ho:s.row H z=some olds):AppRes H z s n xs (.sl ⟨some (H.length,0),s.n+n,.full z⟩) (H++[⟨olds++xs,true,true⟩])
 | fIn (p:Nat×Nat) (cells:List AV) (H':Hp) (hc:s.c=.full z) (ha:s.a=some p) (ho:H.ownc p.1=some cells) (h:p.2+(s.n+n) * z<=cells.length) (hs:stH H p.1 (p.2+s.n * z) xs=some H'):AppRes H z s n xs (.sl ⟨some p,s.n+n,.full z⟩) H'
 | fTip (p:Nat×Nat) (cells:List AV) (hc:s.c=.full z) (ha:s.a=some p) (ho:H.ownc p.1=some cells) (h:p.2+s.n * z=cells.length) (hn:¬ p.2+(s.n+n) * z<=cells.length) :
   AppRes H z s n xs (.sl ⟨some (H.length,0),s.n+n,.full z⟩) (H.kill p.1++[⟨cells.drop p.2++xs,true,true⟩])
theorem afc {ie:TI} {s:Sl} {n:Nat} {xs:List AV} {K:AV->Hp->Option R} (h0:((H.app ie.size ie.bytes s n xs).bind λr=>K (.sl r.1) r.2)=some r) :
  ((s.n+n) * ie.bytes<=70368744177664/\s.n+n<=70368744177664/\ie.bytes<=70368744177664/\0<ie.size)/\∃ v H',AppRes H ie.size s n xs v H'/\K v H'=some r:=by
 obtain ⟨q,h,hk⟩:=ah h0
 unfold Hp.app at h
 split at h
 ·rename_i hb
  refine ⟨hb,?_⟩
  split at h
  ·rename_i c hc
   split at h
   ·rename_i hle
    split at h
    ·rename_i p ha
     rw [ub] at h
     obtain ⟨H',h1,h2⟩:=ah h
     cases h2
     exact ⟨_,H',.exIn c p H' hc hle ha h1,hk⟩
    ·rename_i ha
     cases h
     exact ⟨_,H,.exNil c hc hle ha,hk⟩
   ·rename_i hle
    obtain ⟨olds,h1,h2⟩:=ah h
    cases h2
    exact ⟨_,_,.exOut c olds hc hle h1,hk⟩
  ·rename_i z hc
   obtain ⟨p,ha,h⟩:=ah h
   obtain ⟨cells,ho,h⟩:=ah h
   split at h
   ·rename_i hz
    subst hz
    split at h
    ·rename_i hfit
     rw [ub] at h
     obtain ⟨H',h1,h2⟩:=ah h
     cases h2
     exact ⟨_,H',.fIn p cells H' hc ha ho hfit h1,hk⟩
    ·rename_i hfit
     split at h
     ·rename_i htip
      cases h
      exact ⟨_,_,.fTip p cells hc ha ho htip hfit,hk⟩
     ·cases h
   ·cases h
  ·cases h
 ·cases h
theorem AppRes.wf {z:Nat} {s:Sl} {n:Nat} {xs:List AV} {v:AV} {H':Hp} (h:AppRes H z s n xs v H') (hw:WF H) (hs:AV.inS (·<H.length) (.sl s)) (hx:∀ u∈xs,u.inS (·<H.length)) :
  WF H'/\v.inS (·<H'.length)/\H.length<=H'.length:=by
 simp only [AV.inS] at hs
 cases h with
 | exIn c p H' hc hle ha hst=>
  obtain ⟨w1,l1⟩:=WF.stH _ _ _ _ hx hw hst
  refine ⟨w1,?_,by omega⟩
  simp only [AV.inS];intro q hq;cases hq;rw [l1];exact hs p ha
 | exNil c hc hle ha=>exact ⟨hw,by simp [AV.inS],Nat.le_refl _⟩
 | exOut c olds hc hle ho=>
  refine ⟨hw.new _ (λu hu=>?_) true true,?_,by simp⟩
  ·rcases List.mem_append.1 hu with hu | hu
   ·exact VE ho hw u hu
   ·exact hx u hu
  ·simp [AV.inS]
 | fIn p cells H' hc ha ho hfit hst=>
  obtain ⟨w1,l1⟩:=WF.stH _ _ _ _ hx hw hst
  refine ⟨w1,?_,by omega⟩
  simp only [AV.inS];intro q hq;cases hq;rw [l1];exact hs p ha
 | fTip p cells hc ha ho htip hfit=>
  obtain ⟨blk,h1,h2,h3,rfl⟩:=VF ho
  have hk:=hw.kill p.1
  refine ⟨hk.new _ (λu hu=>?_) true true,?_,by simp [Hp.kill_length]⟩
  ·rw [Hp.kill_length]
   rcases List.mem_append.1 hu with hu | hu
   ·exact hw p.1 blk h1 h2 u (List.mem_of_mem_drop hu)
   ·exact hx u hu
  ·simp [AV.inS,Hp.kill_length]
theorem afd {Φ:Phi} {z2:Value} {zs:List AV} (hz:z2.cells=(AV.toVs Φ zs).toArray) (n:Nat):Builtin.zeroCells z2.cells n=(AV.toVs Φ (zrow n zs)).toArray:=by
 have hs:z2.cells.size=zs.length:=by rw [hz];simp [iO]
 have:=VD Φ n zs z2.cells (by rw [hz])
 unfold Builtin.zeroCells
 rw [hs]
 rw [<- this,hs]
def Src (P:Program) (ie:TI) (D:TypeDesc) (y:Value) (n:Nat) (vs:List Value) (zs:List Value) (w:World):Prop:=
 (∃ k kk m,D=.int k/\y=.int kk m/\0<=m/\m<=70368744177664/\m.toNat=n/\vs=zs) \/
 ((∀ k,D≠.int k)/\(Builtin.lenOf y).run P w=.ok n w/\∀ m,(Builtin.firstCells ie.size n y).run P { w with drawn:=m }=.ok vs.toArray { w with drawn:=m })
theorem afe {n:Int} (h0:0<=n) (h1:n<=70368744177664):IntKind.i64.wrap n=n:=by
 rw [IntKind.wrap_i64];omega
theorem Lx {w:World} {t tx ty e:TypeId} {y:Value} {n sl cap:Nat} {vs:List Value} {ie:TI} {D:TypeDesc} {base:Option Addr} {z2:Value} {info2:TypeInfo} {d2:TypeDesc}
  (hu:P.underlying t=some (.slice e)) (t2:TIok P e ie d2 info2 z2) (htx:P.underlying tx=some D) (b2:n<=70368744177664) (b1:n * ie.bytes<=70368744177664) (hlen:vs.length=n * ie.size)
  (hsrc:Src P ie D y n vs (Builtin.zeroCells z2.cells n).toList w) (hle:sl+n<=cap) :
  (Builtin.append_ #[t,tx] ty #[.slice base sl cap,y]).run P w =
   (match base with | some a=>(storeCells (a.add (sl * ie.size)) vs).run P w | none=>.ok () w).andThen λ_ w2=>.ok (.slice base (sl+n) cap) w2:=by
 rcases hsrc with ⟨k,kk,m,rfl,rfl,m0,m1,rfl,rfl⟩ | ⟨hD,h1,h2⟩
 ·have wm:=afe m0 m1
  have c1:¬ (m<0):=by omega
  have c2:¬ (281474976710656<m * (ie.bytes:Int)):=by
   have h1:((m.toNat * ie.bytes:Nat):Int)<=70368744177664:=by omega
   rw [Int.natCast_mul,Int.toNat_of_nonneg m0] at h1
   omega
  unfold Builtin.append_
  simp only [List.getElem?_toArray,List.getElem?_cons_zero,List.getElem?_cons_succ,Sem.run_bind,run_underlying hu,run_underlying htx,Result.andThen_ok,sizeOf,typeInfo,run_program,t2.inf,Sem.run_pure,t2.size,asInt,asIntOf,if_true,wm,c1,if_false,t2.bytes]
  have c2':¬ (m * (ie.bytes:Int)>2 ^ 48):=c2
  simp only [c2',if_false,hle,if_true,Sem.run_pure,Result.andThen_ok,Bool.not_true,Bool.false_eq_true,Sem.run_bind]
  by_cases h0:m.toNat * ie.size=0
  ·rw [h0] at hlen
   have hnil:(Builtin.zeroCells z2.cells m.toNat).toList=[]:=List.eq_nil_of_length_eq_zero hlen
   rw [hnil]
   simp only [h0,if_true,Sem.run_pure,Result.andThen_ok]
   cases base <;> simp [storeCells]
  ·simp only [h0,if_false,Sem.run_bind,zeroValue,typeInfo,run_program,Result.andThen_ok,t2.inf,t2.zero,Sem.run_pure]
   cases base <;> simp
 ·have h2':=h2 w.drawn
  have hw:({ w with drawn:=w.drawn }:World)=w:=rfl
  rw [hw] at h2'
  unfold Builtin.append_
  simp only [List.getElem?_toArray,List.getElem?_cons_zero,List.getElem?_cons_succ,Sem.run_bind,run_underlying hu,run_underlying htx,Result.andThen_ok,sizeOf,typeInfo,run_program,t2.inf,Sem.run_pure,t2.size]
  cases D <;> first | (exact absurd rfl (hD _)) | (simp only [Bool.false_eq_true,if_false,h1,Result.andThen_ok,hle,if_true,Bool.not_false,h2',Sem.run_bind];cases base <;> simp)
theorem aff {w:World} {t tx ty e:TypeId} {y:Value} {n sl cap:Nat} {vs os:List Value} {ie:TI} {D:TypeDesc} {base:Option Addr} {z2:Value} {info2:TypeInfo} {d2:TypeDesc}
  (hu:P.underlying t=some (.slice e)) (t2:TIok P e ie d2 info2 z2) (htx:P.underlying tx=some D) (b2:sl+n<=70368744177664) (b1:(sl+n) * ie.bytes<=70368744177664) (hlen:vs.length=n * ie.size)
  (hsrc:Src P ie D y n vs (Builtin.zeroCells z2.cells n).toList w) (hle:¬ sl+n<=cap)
  (hold:∀ m,(Builtin.firstCells ie.size sl (.slice base sl cap)).run P { w with drawn:=m }=.ok os.toArray { w with drawn:=m }) :
  ∃ (newCap m:Nat),sl+n<=newCap/\(Builtin.append_ #[t,tx] ty #[.slice base sl cap,y]).run P w =
   .ok (.slice (some ⟨w.heap.size,0,none⟩) (sl+n) newCap) { w with heap:=w.heap.push (.cells (os.toArray++vs.toArray++Builtin.zeroCells z2.cells (newCap - (sl+n))) e),drawn:=m }:=by
 refine ⟨(Question.appendCap (sl+n) cap e).cut (w.tape w.drawn (.appendCap (sl+n) cap e)),w.drawn+1,by simp [Question.cut],?_⟩
 have hfit:=growslice_fits (need:=sl+n) (old:=cap) (bytes:=ie.bytes) (by omega) (by omega)
 have hmax:¬ (((sl+n:Nat):Int)>IntKind.i64.max/\True):=by
  have:IntKind.i64.max=9223372036854775807:=rfl
  rw [this];omega
 have hmax':∀ p:Prop,¬ (((sl+n:Nat):Int)>IntKind.i64.max/\p):=λp q=>hmax ⟨q.1,trivial⟩
 have hfit':¬ (Builtin.nextslicecap (sl+n) cap * ie.bytes>2 ^ 48):=by omega
 rcases hsrc with ⟨k,kk,m,rfl,rfl,m0,m1,rfl,rfl⟩ | ⟨hD,h1,h2⟩
 ·have wm:=afe m0 m1
  have c1:¬ (m<0):=by omega
  have c2':¬ (m * (ie.bytes:Int)>2 ^ 48):=by
   have h1:((m.toNat * ie.bytes:Nat):Int)<=70368744177664:=by
    have:m.toNat * ie.bytes<=(sl+m.toNat) * ie.bytes:=Nat.mul_le_mul_right _ (by omega)
    omega
   rw [Int.natCast_mul,Int.toNat_of_nonneg m0] at h1
   omega
  unfold Builtin.append_
  simp only [List.getElem?_toArray,List.getElem?_cons_zero,List.getElem?_cons_succ,Sem.run_bind,run_underlying hu,run_underlying htx,Result.andThen_ok,sizeOf,typeInfo,run_program,t2.inf,Sem.run_pure,t2.size,asInt,asIntOf,if_true,wm,c1,if_false,t2.bytes]
  simp only [c2',if_false,hle,if_true,Sem.run_pure,Result.andThen_ok,Bool.not_true,Bool.false_eq_true,Sem.run_bind,hmax',hfit',run_choose,Question.forced,run_askRoom,hold,typeInfo,run_program,t2.inf,t2.bytes,zeroValue,t2.zero]
  by_cases h0:m.toNat * ie.size=0
  ·rw [h0] at hlen
   have hnil:(Builtin.zeroCells z2.cells m.toNat).toList=[]:=List.eq_nil_of_length_eq_zero hlen
   rw [hnil]
   simp only [h0,if_true,Sem.run_pure,Result.andThen_ok]
   simp [newRow]
   rfl
  ·simp only [h0,if_false,Sem.run_bind,zeroValue,typeInfo,run_program,Result.andThen_ok,t2.inf,t2.zero,Sem.run_pure]
   simp [newRow]
   rfl
 ·unfold Builtin.append_
  simp only [List.getElem?_toArray,List.getElem?_cons_zero,List.getElem?_cons_succ,Sem.run_bind,run_underlying hu,run_underlying htx,Result.andThen_ok,sizeOf,typeInfo,run_program,t2.inf,Sem.run_pure,t2.size]
  cases D <;> first | (exact absurd rfl (hD _)) | (simp only [Bool.false_eq_true,if_false,h1,h2,Result.andThen_ok,hle,if_true,Bool.not_false,Sem.run_bind,hmax',hfit',run_choose,Question.forced,run_askRoom,hold,typeInfo,run_program,t2.inf,t2.bytes,zeroValue,t2.zero,Sem.run_pure];simp [newRow];rfl)
theorem AppRes.run {Φ:Phi} {S:Nat->Prop} {w:World} {t tx ty e:TypeId} {s:Sl} {y:Value} {n:Nat} {xs:List AV} {i ie:TI} {D:TypeDesc} {v:AV} {H':Hp}
  (h:AppRes H ie.size s n xs v H')
  (hX:dR P X) (hr:Rel Φ S H w) (hi:X t=some i) (hid:i.d=.slice e) (he:X e=some ie) (hs:AV.ok Φ S (.sl s)) (htx:P.underlying tx=some D)
  (hxs:∀ v∈xs,v.ok Φ S/\v.isCell=true) (hlen:xs.length=n * ie.size)
  (hsrc:∀ zs:List Value,zs=AV.toVs Φ (zrow n ie.zero)->Src P ie D y n (AV.toVs Φ xs) zs w)
  (hb:(s.n+n) * ie.bytes<=70368744177664/\s.n+n<=70368744177664/\ie.bytes<=70368744177664/\0<ie.size) :
  ∃ Φ' w',(Builtin.append_ #[t,tx] ty #[s.toV Φ,y]).run P w=.ok (v.toV Φ') w'/\Post Φ S H w Φ' H' w'/\v.ok Φ' (ext S H H'):=by
 obtain ⟨d1,info,z,tk⟩:=hX _ _ hi
 obtain ⟨d2,info2,z2,t2⟩:=hX _ _ he
 have hu:=tk.slice hid
 obtain ⟨b1,b2,b3,b4⟩:=hb
 have hzz:=afd (Φ:=Φ) (t2.zc Φ) n
 have hsrc':Src P ie D y n (AV.toVs Φ xs) (Builtin.zeroCells z2.cells n).toList w:=hsrc _ (by rw [hzz])
 have hvl:(AV.toVs Φ xs).length=n * ie.size:=by rw [iO];exact hlen
 have bn:n * ie.bytes<=70368744177664:=by
  have:n * ie.bytes<=(s.n+n) * ie.bytes:=Nat.mul_le_mul_right _ (by omega)
  omega
 have hs':=hs
 simp only [AV.ok] at hs'
 obtain ⟨sa,sn,sc⟩:=s
 cases h with
 | exIn c p H' hc hle ha hst=>
  simp only at hc ha hle hst hs'
  subst hc ha
  obtain ⟨w',g1,g2,g3⟩:=hr.storesH (P:=P) (hs' p rfl).1 (λv hv=>(hxs v hv).1) hst
  have:=Lx (P:=P) (base:=some ⟨Φ.b p.1,Φ.o p.1+p.2,none⟩) (ty:=ty) hu t2 htx (by omega) bn hvl hsrc' hle
  simp only [Addr.add_none,Nat.add_assoc] at this
  rw [g1] at this
  refine ⟨Φ,w',by simpa [Sl.toV,AV.toV] using this,g2,?_⟩
  simp only [AV.ok]
  intro q hq
  cases hq
  exact ⟨.inl (hs' p rfl).1,λz hz=>by cases hz⟩
 | exNil c hc hle ha=>
  simp only at hc ha hle hs'
  subst hc ha
  have:=Lx (P:=P) (base:=none) (ty:=ty) hu t2 htx (by omega) bn hvl hsrc' hle
  refine ⟨Φ,w,by simpa [Sl.toV,AV.toV] using this,Post.refl hr,?_⟩
  simp only [AV.ok]
  intro q hq
  cases hq
 | exOut c olds hc hle ho=>
  simp only at hc hle hs'
  subst hc
  have hf:∀ m,(Builtin.firstCells ie.size sn (.slice (sa.map λp=>⟨Φ.b p.1,Φ.o p.1+p.2,none⟩) sn c)).run P { w with drawn:=m }=.ok (AV.toVs Φ olds).toArray { w with drawn:=m }:=
   λm=>(vZ (P:=P) (hr.drew m) hs ho sn c sn rfl).1
  have hol:=vZ (P:=P) hr hs ho sn c sn rfl
  obtain ⟨nc,m,g1,g2⟩:=aff (P:=P) (ty:=ty) hu t2 htx (by omega) b1 hvl hsrc' hle hf
  have holen:olds.length=sn * ie.size:=hol.2.2
  have hz2:z2.cells.size=ie.size:=by rw [t2.zc Φ];simp [iO,t2.zl]
  have hcs:((AV.toVs Φ olds).toArray++(AV.toVs Φ xs).toArray++Builtin.zeroCells z2.cells (nc - (sn+n))).size=nc * ie.size:=by
   have e:(sn+n+(nc - (sn+n))) * ie.size=nc * ie.size:=by rw [Nat.add_sub_cancel' g1]
   rw [Nat.add_mul,Nat.add_mul] at e
   simp [iO,holen,hlen,Builtin.zeroCells,hz2]
   omega
  have hpost:=hr.new (olds++xs) ((AV.toVs Φ olds).toArray++(AV.toVs Φ xs).toArray++Builtin.zeroCells z2.cells (nc - (sn+n))) e
   (λv hv=>by rcases List.mem_append.1 hv with h | h;exact hol.2.1 v h;exact hxs v h)
   (by rw [hcs];simp [holen,hlen];rw [<- Nat.add_mul];exact Nat.mul_le_mul_right _ g1)
   (λi v hv=>by
    have hh:(AV.toVs Φ (olds++xs))[i]?=some (v.toV Φ):=by rw [qQ,hv];rfl
    have hlt:i<(AV.toVs Φ (olds++xs)).length:=(List.getElem?_eq_some_iff.1 hh).1
    rw [AV.toVs_eq,List.map_append,<-AV.toVs_eq,<-AV.toVs_eq] at hh hlt
    rw [<- Array.getElem?_toList]
    simp only [Array.toList_append]
    rw [List.getElem?_append_left hlt]
    exact hh)
  refine ⟨_,_,?_,hpost.drew m,?_⟩
  ·simp only [Sl.toV] at g2 ⊢
   rw [g2]
   simp only [AV.toV,Sl.toV,Option.map_some,Phi.put_b,Phi.put_o,Phi.put_k,hcs,Nat.sub_zero,Nat.mul_div_cancel _ b4]
  ·simp only [AV.ok]
   intro q hq
   cases hq
   refine ⟨by simp [ext],λz hz=>?_⟩
   cases hz
   refine ⟨b4,?_⟩
   rw [Phi.put_k,hcs]
   simp
   exact Nat.mul_le_mul_right _ g1
 | fIn p cells H' hc ha ho hfit hst=>
  simp only at hc ha hfit hst hs'
  subst hc ha
  obtain ⟨q1,q2⟩:=hs' p rfl
  obtain ⟨q3,q4⟩:=q2 _ rfl
  obtain ⟨blk,e1,e2,e3,rfl⟩:=VF ho
  obtain ⟨c,T,f1,f2,f3⟩:=hr.own p.1 blk q1 e1 e2 e3
  have hcap:sn+n<=(Φ.k p.1 - p.2) / ie.size:=(Nat.le_div_iff_mul_le b4).2 (by omega)
  obtain ⟨w',g1,g2,g3⟩:=hr.storesH (P:=P) q1 (λv hv=>(hxs v hv).1) hst
  have:=Lx (P:=P) (base:=some ⟨Φ.b p.1,Φ.o p.1+p.2,none⟩) (ty:=ty) hu t2 htx (by omega) bn hvl hsrc' hcap
  simp only [Addr.add_none,Nat.add_assoc] at this
  rw [g1] at this
  refine ⟨Φ,w',by simpa [Sl.toV,AV.toV] using this,g2,?_⟩
  simp only [AV.ok]
  intro q hq
  cases hq
  refine ⟨.inl q1,λz hz=>?_⟩
  cases hz
  exact ⟨b4,by show p.2+(sn+n) * ie.size<=Φ.k p.1;omega⟩
 | fTip p cells hc ha ho htip hfit=>
  simp only at hc ha hfit htip hs'
  subst hc ha
  obtain ⟨q1,q2⟩:=hs' p rfl
  obtain ⟨q3,q4⟩:=q2 _ rfl
  obtain ⟨blk,e1,e2,e3,rfl⟩:=VF ho
  obtain ⟨c,T,f1,f2,f3⟩:=hr.own p.1 blk q1 e1 e2 e3
  have hclos:=hr.closed p.1 blk q1 e1 e2
  have hcl:∀ v∈blk.cells.drop p.2++xs,v.ok Φ S/\v.isCell=true:=λv hv=>by
   rcases List.mem_append.1 hv with h | h
   ·exact hclos v (List.mem_of_mem_drop h)
   ·exact hxs v h
  have hdl:(blk.cells.drop p.2++xs).length=(sn+n) * ie.size:=by simp [hlen,Nat.add_mul];omega
  by_cases hfit':sn+n<=(Φ.k p.1 - p.2) / ie.size
  ·have hroom:(sn+n) * ie.size<=Φ.k p.1 - p.2:=(Nat.le_div_iff_mul_le b4).1 hfit'
   have hone:∀ v∈AV.toVs Φ xs,v.oneCell'=true:=λv hv=>by
    rw [AV.toVs_eq] at hv
    obtain ⟨u,hu,rfl⟩:=List.mem_map.1 hv
    exact ae4 Φ (hxs u hu).2
   obtain ⟨w',c',g1,g2,g3,g4,g5,g6,g7,g8,g9,g10⟩:=afb (P:=P) (w:=w) (b:=Φ.b p.1) (T:=T) (AV.toVs Φ xs) (Φ.o p.1+p.2+sn * ie.size) 0 c hone
    (by rw [iO,hlen,f2];rw [Nat.add_mul] at hroom;omega) f1
   have:=Lx (P:=P) (base:=some ⟨Φ.b p.1,Φ.o p.1+p.2,none⟩) (ty:=ty) hu t2 htx (by omega) bn hvl hsrc' hfit'
   simp only [Addr.add_none] at this
   rw [g1] at this
   have hpost:=hr.grow (b:=p.1) (o:=p.2) (cs:=blk.cells.drop p.2++xs) (c':=c') (T:=T) q1 e1 e2 e3 hcl (by omega) (by rw [hdl];omega) (by rw [g3,f2])
    (λi v hv=>by
     rw [List.getElem?_append] at hv
     split at hv
     ·rename_i hi
      rw [List.getElem?_drop] at hv
      have hcell:=hr.cell p.1 blk q1 e1 e2 _ v hv
      unfold World.cell? at hcell
      simp only [f1] at hcell
      simp at hi
      rw [g9 _ (by omega)]
      simpa [Nat.add_assoc] using hcell
     ·rename_i hi
      simp at hi
      have e5:(blk.cells.drop p.2).length=sn * ie.size:=by simp;omega
      rw [e5] at hv
      have hlt:i - sn * ie.size<xs.length:=(List.getElem?_eq_some_iff.1 hv).1
      have:=g10 (i - sn * ie.size) (by rw [iO];exact hlt)
      rw [qQ,hv] at this
      rw [<- Option.map_some (f:=AV.toV Φ) ,<-this]
      congr 1
      omega)
    g4 g2 g5 g6 g7 g8
   refine ⟨_,w',?_,hpost,?_⟩
   ·simpa [Sl.toV,AV.toV,Phi.put_b,Phi.put_o,Phi.put_k] using this
   ·simp only [AV.ok]
    intro q hq
    cases hq
    refine ⟨.inr (by simp [Hp.kill_length]),λz hz=>?_⟩
    cases hz
    refine ⟨b4,?_⟩
    rw [Phi.put_k]
    simpa using hroom
  ·have hrow:(⟨some p,sn,.full ie.size⟩:Sl).row H ie.size=some (blk.cells.drop p.2):=by
    by_cases h0:sn=0
    ·have:blk.cells.drop p.2=[]:=List.drop_eq_nil_of_le (by rw [h0,Nat.zero_mul] at htip;omega)
     unfold Sl.row;rw [if_pos h0,this]
    ·unfold Sl.row
     rw [if_neg h0]
     simp only [Sl.ad,Hp.row,e1,e2]
     rw [if_pos (by simp;omega)]
     rw [List.take_of_length_le (by simp;omega)]
   have hf:∀ m,(Builtin.firstCells ie.size sn (.slice (some ⟨Φ.b p.1,Φ.o p.1+p.2,none⟩) sn ((Φ.k p.1 - p.2) / ie.size))).run P { w with drawn:=m }=.ok (AV.toVs Φ (blk.cells.drop p.2)).toArray { w with drawn:=m }:=
    λm=>by simpa [Sl.adr] using (vZ (P:=P) (hr.drew m) hs hrow sn ((Φ.k p.1 - p.2) / ie.size) sn rfl).1
   obtain ⟨nc,m,g1,g2⟩:=aff (P:=P) (ty:=ty) hu t2 htx (by omega) b1 hvl hsrc' hfit' hf
   have hz2:z2.cells.size=ie.size:=by rw [t2.zc Φ];simp [iO,t2.zl]
   have hcs:((AV.toVs Φ (blk.cells.drop p.2)).toArray++(AV.toVs Φ xs).toArray++Builtin.zeroCells z2.cells (nc - (sn+n))).size=nc * ie.size:=by
    have e5:blk.cells.length - p.2=sn * ie.size:=by omega
    have e:(sn+n+(nc - (sn+n))) * ie.size=nc * ie.size:=by rw [Nat.add_sub_cancel' g1]
    rw [Nat.add_mul,Nat.add_mul] at e
    simp [iO,hlen,Builtin.zeroCells,hz2,e5]
    omega
   have hk:=Post.kill hr p.1
   have hkr:=hr.kill p.1
   have hpost:=hkr.new (blk.cells.drop p.2++xs) ((AV.toVs Φ (blk.cells.drop p.2)).toArray++(AV.toVs Φ xs).toArray++Builtin.zeroCells z2.cells (nc - (sn+n))) e hcl
    (by rw [hcs,hdl];exact Nat.mul_le_mul_right _ g1)
    (λi v hv=>by
     have hh:(AV.toVs Φ (blk.cells.drop p.2++xs))[i]?=some (v.toV Φ):=by rw [qQ,hv];rfl
     have hlt:i<(AV.toVs Φ (blk.cells.drop p.2++xs)).length:=(List.getElem?_eq_some_iff.1 hh).1
     rw [AV.toVs_eq,List.map_append,<-AV.toVs_eq,<-AV.toVs_eq] at hh hlt
     rw [<- Array.getElem?_toList]
     simp only [Array.toList_append]
     rw [List.getElem?_append_left hlt]
     exact hh)
   have hexk:ext S H (H.kill p.1)=S:=by
    funext b';simp only [ext,Hp.kill_length];exact propext ⟨λq=>q.elim id (λq=>by omega),.inl⟩
   have hboth:=hk.trans (by rw [hexk];exact hpost)
   rw [Hp.kill_length] at hboth
   refine ⟨_,_,?_,hboth.drew m,?_⟩
   ·simp only [Sl.toV,Option.map_some] at g2 ⊢
    rw [g2]
    simp only [AV.toV,Sl.toV,Option.map_some,Phi.put_b,Phi.put_o,Phi.put_k,hcs,Nat.sub_zero,Nat.mul_div_cancel _ b4]
   ·simp only [AV.ok]
    intro q hq
    cases hq
    refine ⟨.inr (by simp [Hp.kill_length]),λz hz=>?_⟩
    cases hz
    refine ⟨b4,?_⟩
    rw [Phi.put_k,hcs]
    simp
    exact Nat.mul_le_mul_right _ g1
end Go.AE
end
section
namespace Go.AE
variable {R:Type} {P:Program} {X:Tab} {ρ:Operand->AV} {o:Oper} {H:Hp} {r:R}
def dd (o:Oper):Bool:=match o.op with
 | .move _ | .assign _ | .pick .. | .build .. | .nilCheck _ | .binOp .. | .unOp .. | .convert .. | .makeFunc .. | .slice .. | .fieldAddr .. | .field .. | .indexAddr .. | .index .. | .extract ..=>true
 | .call c=>match c.callee with
  | .builtin .len | .builtin .cap | .builtin .max | .builtin .min=>true
  | _=>false
 | _=>false
def dP (o:Oper):Bool:=match o.op with
 | .load .. | .alloc _ | .box .. | .buildSlice .. | .makeSlice ..=>true
 | _=>false
def aX (H H':Hp):Prop:=∀ b,b<H.length->H'[b]?=H[b]?
theorem aX.refl (H:Hp):aX H H:=λ_ _=>rfl
theorem aX.snoc (H:Hp) (x:Blk):aX H (H++[x]):=λb hb=>by rw [List.getElem?_append_left hb]
structure Res (P:Program) (o:Oper) (ρ:Operand->AV) (H:Hp) (v:AV) (H':Hp):Prop where
 otv:OTV P o ρ H v H'
 sil:dd o=true->PV P o ρ v/\H'=H
 con:dP o=true->aX H H'
theorem PV.res {v:AV} (h:PV P o ρ v) (hc:dP o=false):Res P o ρ H v H:=⟨h.otv,λ_=>⟨h,rfl⟩,λq=>by rw [hc] at q;cases q⟩
theorem OTV.cres {v:AV} {H':Hp} (h:OTV P o ρ H v H') (hs:dd o=false) (hc:aX H H'):Res P o ρ H v H':=⟨h,λq=>(by rw [hs] at q;cases q),λ_=>hc⟩
theorem OTV.wres {v:AV} {H':Hp} (h:OTV P o ρ H v H') (hs:dd o=false) (hc:dP o=false):Res P o ρ H v H':=⟨h,λq=>(by rw [hs] at q;cases q),λq=>(by rw [hc] at q;cases q)⟩
theorem Bx {c:Call} {b:Builtin} (ho:o.op=.call c) (hc:c.callee=.builtin b) (σ:Operand->Value) (w:World) {v:Value} {w':World}
  (h:(builtin b c.argTypes o.type (c.args.map fun | .const _=>true | _=>false) (c.args.map σ)).run P w=.ok (.value v) w'):(execOp σ o).run P w=.ok (.value v) w':=by
 simp only [execOp,ho,resolve,hc,Sem.run_bind,Sem.run_pure,Result.andThen_ok,invoke]
 exact h
theorem aq4 {c:Call} {b:Builtin} (ho:o.op=.call c) (hc:c.callee=.builtin b):∀ x∈c.args.toList,x∈o.op.operands:=λx hx=>by
 rw [ho];simp only [Op.operands,Call.operands,hc];simpa using hx
theorem By {c:Call} {l:List AV} (h:c.args.toList.map ρ=l) (Φ:Phi):c.args.map (λx=>(ρ x).toV Φ)=(l.map (AV.toV Φ)).toArray:=by
 subst h;apply Array.ext';simp
theorem Bz {α:Type} {a:Array α} {l:List α} (h:a.toList=l):a=l.toArray:=by subst h;simp
theorem aq5 {c:Call} {b:Builtin} (ho:o.op=.call c) (hc:c.callee=.builtin b) {l:List AV} (h:c.args.toList.map ρ=l) {Q:AV->Prop} (hx:∀ x∈o.op.operands,Q (ρ x)):∀ v∈l,Q v:=by
 subst h
 intro v hv
 obtain ⟨x,hx',rfl⟩:=List.mem_map.1 hv
 exact hx x (aq4 ho hc x hx')
theorem uc {c:Call} {b:Builtin} {l:List AV} {ts:List TypeId} {v:AV} (ho:o.op=.call c) (hc:c.callee=.builtin b) (hl:c.args.toList.map ρ=l) (ht:c.argTypes.toList=ts)
  (hs:(∀ Φ S,v.ok Φ S)/\(∀ S,v.inS S)) (h:∀ (Φ:Phi) (w:World) (cs:Array Bool),(builtin b ts.toArray o.type cs (l.map (AV.toV Φ)).toArray).run P w=.ok (.value (v.toV Φ)) w):PV P o ρ v:=by
 refine PV.mk (λΦ S _ w=>?_) (λΦ S _=>hs.1 Φ S) (λS _=>hs.2 S)
 refine Bx ho hc _ w ?_
 rw [By hl Φ,Bz ht]
 exact h Φ w _
theorem aq6 {c:Call} {b:Builtin} {K:AV->Hp->Option R} (hX:dR P X) (ho:o.op=.call c) (hc:c.callee=.builtin b)
  (h:VB X b c.argTypes.toList (c.args.toList.map ρ) H K=some r):∃ v H',Res P o ρ H v H'/\K v H'=some r:=by
 generalize hl:c.args.toList.map ρ=l at h
 generalize ht:c.argTypes.toList=ts at h
 have hok:=λ(Q:AV->Prop) hx=>aq5 (Q:=Q) ho hc hl hx
 unfold VB at h
 split at h
 ·-- len
  rename_i t x
  split at h
  ·rename_i e s hd
   obtain ⟨i,hi,hid⟩:=iR hd
   obtain ⟨d1,info,z,tk⟩:=hX _ _ hi
   have hu:=tk.slice hid
   refine ⟨_,H,(uc ho hc hl ht ⟨λ_ _=>by simp [AV.ok],λ_=>by simp [AV.inS]⟩ (λΦ w cs=>?_)).res (by simp [dP,ho]),h⟩
   simp [builtin,Builtin.len_,run_underlying hu,AV.toV,Sl.toV,goInt]
  ·rename_i s hd
   obtain ⟨i,hi,hid⟩:=iR hd
   obtain ⟨d1,info,z,tk⟩:=hX _ _ hi
   have hu:=tk.str hid
   refine ⟨_,H,(uc ho hc hl ht ⟨λ_ _=>by simp [AV.ok],λ_=>by simp [AV.inS]⟩ (λΦ w cs=>?_)).res (by simp [dP,ho]),h⟩
   simp [builtin,Builtin.len_,run_underlying hu,AV.toV,goInt]
  ·rename_i n e hd
   obtain ⟨i,hi,hid⟩:=iR hd
   obtain ⟨d1,info,z,tk⟩:=hX _ _ hi
   have hu:=tk.arr hid
   refine ⟨_,H,(uc ho hc hl ht ⟨λ_ _=>by simp [AV.ok],λ_=>by simp [AV.inS]⟩ (λΦ w cs=>?_)).res (by simp [dP,ho]),h⟩
   simp [builtin,Builtin.len_,run_underlying hu,AV.toV,goInt]
  ·cases h
 ·-- cap
  rename_i t x
  split at h
  ·rename_i e a n c' hd
   obtain ⟨i,hi,hid⟩:=iR hd
   obtain ⟨d1,info,z,tk⟩:=hX _ _ hi
   have hu:=tk.slice hid
   refine ⟨_,H,(uc ho hc hl ht ⟨λ_ _=>by simp [AV.ok],λ_=>by simp [AV.inS]⟩ (λΦ w cs=>?_)).res (by simp [dP,ho]),h⟩
   simp [builtin,Builtin.cap_,run_underlying hu,AV.toV,Sl.toV,goInt]
  ·cases h
 ·split at h
  ·rename_i hk
   subst hk
   refine ⟨_,H,(uc ho hc hl ht ⟨λ_ _=>by simp [AV.ok],λ_=>by simp [AV.inS]⟩ (λΦ w cs=>?_)).res (by simp [dP,ho]),h⟩
   simp [builtin,Builtin.max_,Builtin.max2,AV.toV]
  ·cases h
 ·split at h
  ·rename_i hk
   obtain ⟨rfl,rfl⟩:=hk
   refine ⟨_,H,(uc ho hc hl ht ⟨λ_ _=>by simp [AV.ok],λ_=>by simp [AV.inS]⟩ (λΦ w cs=>?_)).res (by simp [dP,ho]),h⟩
   simp [builtin,Builtin.max_,Builtin.max2,AV.toV]
  ·cases h
 ·-- clear
  rename_i t s
  split at h
  ·rename_i e hd
   obtain ⟨i,hi,hid⟩:=iR hd
   obtain ⟨d1,info,z,tk⟩:=hX _ _ hi
   have hu:=tk.slice hid
   obtain ⟨ie,he,h⟩:=ah h
   obtain ⟨d2,info2,z2,t2⟩:=hX _ _ he
   obtain ⟨H',hc1,hk⟩:=ah h
   unfold Hp.clr at hc1
   split at hc1
   ·rename_i hn
    cases hc1
    refine ⟨_,H,OTV.wres ⟨λΦ S w hr hx=>?_,λhw hx=>?_⟩ (by simp [dd,ho,hc]) (by simp [dP,ho]),hk⟩
    ·refine ⟨Φ,w,.inl (Bx ho hc _ w ?_),Post.refl hr,by simp [AV.ok,AV.oks]⟩
     rw [By hl Φ,Bz ht]
     simp only [builtin,List.map_cons,List.map_nil,AV.toV,Sl.toV,hn]
     cases s.a <;> simp [Builtin.clear_,run_underlying hu,AV.toVs]
    ·exact ⟨hw,by simp [AV.inS,AV.inSs],Nat.le_refl _⟩
   ·rename_i hn
    split at hc1
    ·rename_i p hp
     rw [ub] at hc1
     obtain ⟨H2,hst,h2⟩:=ah hc1
     cases h2
     refine ⟨_,H',OTV.wres ⟨λΦ S w hr hx=>?_,λhw hx=>?_⟩ (by simp [dd,ho,hc]) (by simp [dP,ho]),hk⟩
     ·have hok1:=hok (λv=>v.ok Φ S) hx
      have hs1:=hok1 (.sl s) (by simp)
      simp only [AV.ok] at hs1
      obtain ⟨w',g1,g2,g3⟩:=hr.storesH (P:=P) (hs1 p (Sl.ad_some hp).1).1 (λv hv=>(t2.zok v (rW hv)).1 Φ S) hst
      have hzz:=afd (Φ:=Φ) (t2.zc Φ) s.n
      have ea:=Sl.adr_of (Φ:=Φ) hp
      unfold Sl.adr at ea
      refine ⟨Φ,w',.inl (Bx ho hc _ w ?_),g2,by simp [AV.ok,AV.oks]⟩
      rw [By hl Φ,Bz ht]
      simp only [builtin,List.map_cons,List.map_nil,AV.toV,Sl.toV,ea]
      cases hnn:s.n with
      | zero=>exact absurd hnn hn
      | succ m=>
       rw [hnn] at hzz g1
       simp [Builtin.clear_,run_underlying hu,zeroValue,typeInfo,t2.inf,t2.zero,hzz,g1,AV.toVs]
     ·obtain ⟨w1,l1⟩:=WF.stH _ _ _ _ (λv hv=>(t2.zok v (rW hv)).2.1 _) hw hst
      exact ⟨w1,by simp [AV.inS,AV.inSs],by omega⟩
    ·cases hc1
  ·cases h
 ·split at h
  ·rename_i hk
   subst hk
   refine ⟨_,H,(uc ho hc hl ht ⟨λ_ _=>by simp [AV.ok],λ_=>by simp [AV.inS]⟩ (λΦ w cs=>?_)).res (by simp [dP,ho]),h⟩
   simp [builtin,Builtin.min_,Builtin.min2,AV.toV]
  ·cases h
 ·-- append
  rename_i t tx s x
  split at h
  ·rename_i e e' y hd hd'
   obtain ⟨i,hi,hid⟩:=iR hd
   obtain ⟨j,hj,hjd⟩:=iR hd'
   obtain ⟨d1,info,z,tk⟩:=hX _ _ hj
   have hu':=tk.slice hjd
   obtain ⟨ie,he,h⟩:=ah h
   obtain ⟨xs,hxs,h⟩:=ah h
   obtain ⟨hb,v,H',hres,hk⟩:=afc h
   refine ⟨v,H',OTV.wres ⟨λΦ S w hr hx=>?_,λhw hx=>?_⟩ (by simp [dd,ho,hc]) (by simp [dP,ho]),hk⟩
   ·have hok1:=hok (λv=>v.ok Φ S) hx
    have hs:=hok1 (.sl s) (by simp)
    have hy:=hok1 (.sl y) (by simp)
    have hf:=vZ (P:=P) hr hy hxs y.n 0 y.n rfl
    obtain ⟨Φ',w',g1,g2,g3⟩:=hres.run (ty:=o.type) (D:=.slice e') (y:=y.toV Φ) hX hr hi hid he hs hu' hf.2.1 hf.2.2
     (λzs hzs=>.inr ⟨λk=>by simp,by simp [Builtin.lenOf,Sl.toV],λm=>(vZ (P:=P) (hr.drew m) hy hxs _ _ y.n rfl).1⟩) hb
    refine ⟨Φ',w',.inl (Bx ho hc _ w ?_),g2,g3⟩
    rw [By hl Φ,Bz ht]
    simp only [builtin,List.map_cons,List.map_nil,AV.toV] at g1 ⊢
    rw [Sem.run_bind,g1];rfl
   ·have hok1:=hok (λv=>v.inS (·<H.length)) hx
    exact hres.wf hw (hok1 (.sl s) (by simp)) (VE hxs hw)
  ·rename_i e k k' n hd hd'
   obtain ⟨i,hi,hid⟩:=iR hd
   obtain ⟨j,hj,hjd⟩:=iR hd'
   obtain ⟨d1,info,z,tk⟩:=hX _ _ hj
   have hu':=tk.int hjd
   obtain ⟨ie,he,h⟩:=ah h
   obtain ⟨d2,info2,z2,t2⟩:=hX _ _ he
   split at h
   ·rename_i hn
    obtain ⟨hb,v,H',hres,hk⟩:=afc h
    refine ⟨v,H',OTV.wres ⟨λΦ S w hr hx=>?_,λhw hx=>?_⟩ (by simp [dd,ho,hc]) (by simp [dP,ho]),hk⟩
    ·have hok1:=hok (λv=>v.ok Φ S) hx
     have hs:=hok1 (.sl s) (by simp)
     obtain ⟨Φ',w',g1,g2,g3⟩:=hres.run (ty:=o.type) (D:=.int k) (y:=.int k' n) hX hr hi hid he hs hu' (λu hu=>⟨(t2.zok u (rW hu)).1 Φ S,(t2.zok u (rW hu)).2.2⟩) (by rw [El,t2.zl])
      (λzs hzs=>.inl ⟨k,k',n,rfl,rfl,hn.1,hn.2,rfl,hzs.symm⟩) hb
     refine ⟨Φ',w',.inl (Bx ho hc _ w ?_),g2,g3⟩
     rw [By hl Φ,Bz ht]
     simp only [builtin,List.map_cons,List.map_nil,AV.toV] at g1 ⊢
     rw [Sem.run_bind,g1];rfl
    ·have hok1:=hok (λv=>v.inS (·<H.length)) hx
     exact hres.wf hw (hok1 (.sl s) (by simp)) (λu hu=>(t2.zok u (rW hu)).2.1 _)
   ·cases h
  ·cases h
 ·-- copy
  rename_i t tx d s
  split at h
  ·rename_i e e' hd hd'
   obtain ⟨i,hi,hid⟩:=iR hd
   obtain ⟨d1,info,z,tk⟩:=hX _ _ hi
   have hu:=tk.slice hid
   obtain ⟨ie,he,h⟩:=ah h
   obtain ⟨d2,info2,z2,t2⟩:=hX _ _ he
   have hle:min s.n d.n<=s.n:=Nat.min_le_left _ _
   have hyok:∀ Φ S,AV.ok Φ S (.sl s)->AV.ok Φ S (.sl ⟨s.a,min s.n d.n,s.c⟩):=λΦ S q=>by
    simp only [AV.ok] at q ⊢
    intro p hp
    refine ⟨(q p hp).1,λz hz=>⟨((q p hp).2 z hz).1,?_⟩⟩
    have:=((q p hp).2 z hz).2
    have h2:min s.n d.n * z<=s.n * z:=Nat.mul_le_mul_right _ hle
    omega
   obtain ⟨q,h,hk⟩:=ah h
   unfold Hp.cpy at h
   split at h
   ·rename_i p hp
    obtain ⟨xs,hxs,h⟩:=ah h
    rw [ub] at h
    obtain ⟨H',hst,h2⟩:=ah h
    cases h2
    refine ⟨_,H',OTV.wres ⟨λΦ S w hr hx=>?_,λhw hx=>?_⟩ (by simp [dd,ho,hc]) (by simp [dP,ho]),hk⟩
    ·have hok1:=hok (λv=>v.ok Φ S) hx
     have hd1:=hok1 (.sl d) (by simp)
     have hs1:=hok1 (.sl s) (by simp)
     simp only [AV.ok] at hd1
     have hfa:∀ cc:Nat,_:=λcc=>(vZ (P:=P) hr (hyok Φ S hs1) hxs s.n cc (min s.n d.n) rfl).1
     have hf:=vZ (P:=P) hr (hyok Φ S hs1) hxs s.n 0 (min s.n d.n) rfl
     obtain ⟨w',g1,g2,g3⟩:=hr.storesH (P:=P) (hd1 p (Sl.ad_some hp).1).1 (λv hv=>(hf.2.1 v hv).1) hst
     have ea:=Sl.adr_of (Φ:=Φ) hp
     unfold Sl.adr at ea hfa
     refine ⟨Φ,w',.inl (Bx ho hc _ w ?_),g2,by simp [AV.ok]⟩
     rw [By hl Φ,Bz ht]
     simp only [builtin,List.map_cons,List.map_nil,AV.toV,Sl.toV,ea]
     simp only [Builtin.copy_,List.getElem?_toArray,List.getElem?_cons_zero,List.getElem?_cons_succ,Sem.run_bind,run_underlying hu,Result.andThen_ok,Builtin.lenOf,Sem.run_pure,sizeOf,typeInfo,run_program,t2.inf,t2.size]
     have e:Nat.min s.n d.n=min s.n d.n:=rfl
     simp only at hfa
     rw [e,hfa]
     simp [g1,goInt]
    ·have hok1:=hok (λv=>v.inS (·<H.length)) hx
     obtain ⟨w1,l1⟩:=WF.stH _ _ _ _ (VE hxs hw) hw hst
     exact ⟨w1,by simp [AV.inS],by omega⟩
   ·rename_i hp
    split at h
    ·rename_i hn
     cases h
     refine ⟨_,H,(uc ho hc hl ht ⟨λ_ _=>by simp [AV.ok],λ_=>by simp [AV.inS]⟩ (λΦ w cs=>?_)).res (by simp [dP,ho]),hk⟩
     have e:Nat.min s.n d.n=0:=hn
     simp only [builtin,List.map_cons,List.map_nil,AV.toV,Sl.toV]
     simp only [Builtin.copy_,List.getElem?_toArray,List.getElem?_cons_zero,List.getElem?_cons_succ,Sem.run_bind,run_underlying hu,Result.andThen_ok,Builtin.lenOf,Sem.run_pure,sizeOf,typeInfo,run_program,t2.inf,t2.size,e,hn]
     cases s.a <;> cases d.a <;> simp [Builtin.firstCells,loadCells,loadCellsFrom,goInt,storeCells]
    ·cases h
  ·cases h
 ·cases h
theorem qo {b:Bool} {x y:Option R} (h:(bif b then x else y)=some r):(b=true/\x=some r)\/(b=false/\y=some r):=by
 cases b with
 | true=>exact .inl ⟨rfl,h⟩
 | false=>exact .inr ⟨rfl,h⟩
theorem aq7 {Y:Tabs} {C:Orc R} {K:AV->Hp->Option R} (hX:dR P Y.ty) (hcall:∀ c f,o.op=.call c->c.callee≠.value f) (h:aop Y C ρ o H K=some r) :
  ∃ v H',Res P o ρ H v H'/\K v H'=some r:=by
 unfold aop at h
 simp only at h
 split at h
 case h_1 x ho=>exact ⟨_,H,(aqE ho).res (by simp [dP,ho]),h⟩
 case h_2 x ho=>exact ⟨_,H,(aqF ho).res (by simp [dP,ho]),h⟩
 case h_3 c a b ho=>
  split at h
  ·rename_i t hc
   refine ⟨_,H,(aqG ho hc).res (by simp [dP,ho]),?_⟩
   cases t <;> simpa using h
  ·cases h
 case h_4 e ho=>
  obtain ⟨i,hi,h⟩:=ah h
  exact ⟨_,_,(aqH hX ho hi).cres (by simp [dd,ho]) (aX.snoc _ _),h⟩
 case h_5 e x ho=>
  rcases qo h with ⟨hc,h⟩ | ⟨_,h⟩
  ·exact ⟨_,_,(aqI ho hc).cres (by simp [dd,ho]) (aX.snoc _ _),h⟩
  ·cases h
 case h_6 t parts ho=>
  obtain ⟨i,hi,h⟩:=ah h
  split at h
  ·rename_i fs hd
   rcases qo h with ⟨_,h⟩ | ⟨ha,h⟩
   ·cases h
   ·obtain ⟨cells,hf,h⟩:=ah h
    rcases qo h with ⟨hc,h⟩ | ⟨_,h⟩
    ·exact ⟨_,H,(ae2 hX ho hi (.inl ⟨fs,hd,by simpa using ha,hf⟩)).res (by simp [dP,ho]),h⟩
    ·cases h
  ·rename_i n e hd
   obtain ⟨ie,he,h⟩:=ah h
   obtain ⟨cells,hf,h⟩:=ah h
   rcases qo h with ⟨hc,h⟩ | ⟨_,h⟩
   ·exact ⟨_,H,(ae2 hX ho hi (.inr ⟨n,e,ie,hd,he,hf⟩)).res (by simp [dP,ho]),h⟩
   ·cases h
  ·cases h
 case h_7 t len parts ho=>
  obtain ⟨i,hi,h⟩:=ah h
  split at h
  ·rename_i e hd
   obtain ⟨ie,he,h⟩:=ah h
   split at h
   ·rename_i hlim
    obtain ⟨cells,hf,h⟩:=ah h
    rcases qo h with ⟨hc,h⟩ | ⟨_,h⟩
    ·exact ⟨_,_,(aqK hX ho hi hd he hlim hf hc).cres (by simp [dd,ho]) (aX.snoc _ _),h⟩
    ·cases h
   ·cases h
  ·cases h
 case h_8 t a ho=>
  split at h
  ·rename_i b c ha
   obtain ⟨i,hi,h⟩:=ah h
   obtain ⟨v,h1,h2⟩:=aqM (P:=P) hX ho ha hi h
   exact ⟨v,H,h1.cres (by simp [dd,ho]) (aX.refl _),h2⟩
  ·cases h
 case h_9 t a x ho=>
  split at h
  ·rename_i b c ha
   obtain ⟨i,hi,h⟩:=ah h
   rcases qo h with ⟨hl,h⟩ | ⟨_,h⟩
   ·obtain ⟨H',h1,h2⟩:=aqN (P:=P) hX ho ha hi (by simpa using hl) h
    exact ⟨_,H',h1.wres (by simp [dd,ho]) (by simp [dP,ho]),h2⟩
   ·cases h
  ·cases h
 case h_10 x ho=>
  split at h
  ·rename_i b c hx;exact ⟨_,H,(aqO ho hx).res (by simp [dP,ho]),h⟩
  ·rename_i f caps hx;exact ⟨_,H,(aqP ho hx).res (by simp [dP,ho]),h⟩
  ·cases h
 case h_11 op t x y t2 ho=>
  obtain ⟨v,h1,h2⟩:=aq1 (P:=P) hX ho h
  exact ⟨v,H,h1.res (by simp [dP,ho]),h2⟩
 case h_12 op t x ho=>
  split at h
  ·rename_i k n hx;exact ⟨_,H,(aqQ ho hx).res (by simp [dP,ho]),h⟩
  ·rename_i b hx;exact ⟨_,H,(aqR ho hx).res (by simp [dP,ho]),h⟩
  ·cases h
 case h_13 s d x ho=>
  split at h
  ·rename_i k' n i k hx hi hd
   obtain ⟨j,hj,hjd⟩:=iR hd
   exact ⟨_,H,(aqS hX ho hx hi hj hjd).res (by simp [dP,ho]),h⟩
  ·cases h
 case h_14 f first caps ho=>
  rcases qo h with ⟨hf,h⟩ | ⟨_,h⟩
  ·have:first=#[]:=by simpa using hf
   subst this
   exact ⟨_,H,(aqT ho).res (by simp [dP,ho]),h⟩
  ·cases h
 case h_15 t l c ho=>
  obtain ⟨i,hi,h⟩:=ah h
  split at h
  ·rename_i e k n k' m hd hl hc
   obtain ⟨ie,he,h⟩:=ah h
   obtain ⟨q,hq,h⟩:=ah h
   unfold Hp.mk at hq
   split at hq
   ·rename_i hb
    cases hq
    exact ⟨_,_,(aqL hX ho hi hd he hl hc hb).cres (by simp [dd,ho]) (aX.snoc _ _),h⟩
   ·cases hq
  ·cases h
 case h_16 t x lo hi mx ho=>
  obtain ⟨v,h1,h2⟩:=aq3 (P:=P) hX ho h
  exact ⟨v,H,h1.res (by simp [dP,ho]),h2⟩
 case h_17 s x f ho=>
  split at h
  ·rename_i b c fs hx hd
   obtain ⟨i,hi,hid⟩:=iR hd
   obtain ⟨q,hq,h⟩:=ah h
   obtain ⟨k,hk,h⟩:=ah h
   rcases qo h with ⟨_,h⟩ | ⟨hz,h⟩
   ·cases h
   ·exact ⟨_,H,(aqV hX ho hx hi hid hq hk (by simpa using hz)).res (by simp [dP,ho]),h⟩
  ·cases h
 case h_18 s x f ho=>
  split at h
  ·rename_i cs fs hx hd
   obtain ⟨i,hi,hid⟩:=iR hd
   obtain ⟨q,hq,h⟩:=ah h
   obtain ⟨k,hk,h⟩:=ah h
   rcases qo h with ⟨ha,h⟩ | ⟨ha,h⟩
   ·exact ⟨_,H,(ae5 hX ho hx hi hid hq hk (.inl ⟨ha,rfl⟩)).res (by simp [dP,ho]),h⟩
   ·obtain ⟨v,hv,h⟩:=ah h
    exact ⟨_,H,(ae5 hX ho hx hi hid hq hk (.inr ⟨ha,hv⟩)).res (by simp [dP,ho]),h⟩
  ·cases h
 case h_19 t x ix ho=>
  split at h
  ·rename_i e s k j hd hx hix
   obtain ⟨i,hi,hid⟩:=iR hd
   obtain ⟨ie,he,h⟩:=ah h
   obtain ⟨q,hq,h⟩:=ah h
   unfold Sl.idx at hq
   split at hq
   ·rename_i hj
    cases hp:s.ad with
    | none=>rw [hp] at hq;cases hq
    | some p=>
     rw [hp] at hq
     cases hq
     exact ⟨_,H,(aqW hX ho hi hid he hx hix hj hp).res (by simp [dP,ho]),h⟩
   ·cases hq
  ·rename_i n e b c k j hd hx hix
   obtain ⟨i,hi,hid⟩:=iR hd
   obtain ⟨ie,he,h⟩:=ah h
   split at h
   ·rename_i hj
    exact ⟨_,H,(aqX hX ho hi hid he hx hix hj).res (by simp [dP,ho]),h⟩
   ·cases h
  ·cases h
 case h_20 t x ix ho=>
  split at h
  ·rename_i n e cs k j hd hx hix
   obtain ⟨i,hi,hid⟩:=iR hd
   obtain ⟨ie,he,h⟩:=ah h
   rcases qo h with ⟨_,h⟩ | ⟨ha,h⟩
   ·cases h
   ·split at h
    ·rename_i hj
     obtain ⟨v,hv,h⟩:=ah h
     exact ⟨_,H,(aqY hX ho hi hid he hx hix hj ha hv).res (by simp [dP,ho]),Vw h⟩
    ·cases h
  ·rename_i s k j hd hx hix
   obtain ⟨i,hi,hid⟩:=iR hd
   split at h
   ·rename_i hj
    obtain ⟨b,hb,h⟩:=ah h
    exact ⟨_,H,(aqZ hX ho hi hid hx hix hj hb).res (by simp [dP,ho]),h⟩
   ·cases h
  ·cases h
 case h_21 x j ho=>
  split at h
  ·rename_i l hx
   obtain ⟨v,hv,h⟩:=ah h
   exact ⟨_,H,(aqU ho hx hv).res (by simp [dP,ho]),h⟩
  ·cases h
 case h_22 c ho=>
  split at h
  ·rename_i b hc
   exact aq6 hX ho hc h
  ·rename_i f hc
   exact absurd hc (hcall c f ho)
  ·cases h
 case h_23=>cases h
end Go.AE
end
section
namespace Go.AE
variable {R:Type} {P:Program} {o:Oper} {H:Hp} {r:R}
structure T (P:Program) (f:FuncId) (args:List AV) (H:Hp) (v:AV) (H':Hp):Prop where
 enters:∀ (vs:Array Value) (w:World),(callFunc f vs).run P w=.ok (.enter f vs) w
 run:WF H->∀ Φ S w,Rel Φ S H w->(∀ a∈args,a.ok Φ S)->Calls P f (AV.toVs Φ args).toArray w λe w'=>∃ Φ',e=.returned (v.toV Φ')/\Post Φ S H w Φ' H' w'/\v.ok Φ' (ext S H H')
 wf:WF H->(∀ a∈args,a.inS (·<H.length))->WF H'/\v.inS (·<H'.length)/\H.length<=H'.length
def COk (P:Program) (C:Orc R):Prop:=∀ f args H K r,C f args H K=some r->∃ v H',T P f args H v H'/\K v H'=some r
structure OT (P:Program) (o:Oper) (ρ:Operand->AV) (H:Hp) (v:AV) (H':Hp):Prop where
 run:WF H->∀ Φ S w (a:Act) (next:Act->World->Prop) (Q:Exit->Act->World->Prop),Rel Φ S H w->(∀ x∈o.op.operands,a.eval x=(ρ x).toV Φ/\(ρ x).ok Φ S) ->
  (∀ Φ' w',Post Φ S H w Φ' H' w'->v.ok Φ' (ext S H H')->next (a.put o.dst (v.toV Φ')) w')->o.wp P a w next Q
 wf:WF H->(∀ x∈o.op.operands,(ρ x).inS (·<H.length))->WF H'/\v.inS (·<H'.length)/\H.length<=H'.length
theorem OTV.ot {ρ:Operand->AV} {v:AV} {H':Hp} (h:OTV P o ρ H v H') (hs:∀ cs b,o.op≠.select cs b):OT P o ρ H v H' where
 run:=λ_ Φ S w a next Q hr hx hk=>by
  obtain ⟨Φ',w',h1,h2,h3⟩:=h.run Φ S w hr (λx hx'=>(hx x hx').2)
  have he:execOp a.eval o=execOp (λx=>(ρ x).toV Φ) o:=execOp_congr o hs (λx hx'=>(hx x hx').1)
  have:=hk Φ' w' h2 h3
  unfold Oper.wp
  rw [he]
  rcases h1 with h1 | ⟨h1,rfl⟩
  ·rw [h1];exact this
  ·rw [h1]
   simp only [AV.toV,AV.toVs] at this
   exact this
 wf:=h.wf
theorem qp {Y:Tabs} {C:Orc R} {K:AV->Hp->Option R} {ρ:Operand->AV} (hX:dR P Y.ty) (hC:COk P C) (h:aop Y C ρ o H K=some r):∃ v H',(OT P o ρ H v H'/\(dd o=true->PV P o ρ v/\H'=H)/\(dP o=true->aX H H'))/\K v H'=some r:=by
 have hs:∀ cs b,o.op≠.select cs b:=λcs b e=>by simp [aop,e] at h
 by_cases hc:∃ c f,o.op=.call c/\c.callee=.value f
 ·obtain ⟨c,f,ho,hf⟩:=hc
  unfold aop at h
  simp only [ho,hf] at h
  split at h
  ·rename_i g caps hg
   obtain ⟨v,H',hT,h⟩:=hC _ _ _ _ _ h
   have hk:K v H'=some r:=by
    split at h
    ·exact aeT _ _ _ h
    ·exact h
   have hopf:f∈o.op.operands:=by rw [ho];simp [Op.operands,Call.operands,hf]
   have hopa:∀ x∈c.args.toList,x∈o.op.operands:=λx hx=>by rw [ho];simp [Op.operands,Call.operands,hf];exact .inr (by simpa using hx)
   have hargs:∀ (Q:AV->Prop) (QS:∀ l,Q (.fn g l)->∀ v∈l,Q v),(∀ x∈o.op.operands,Q (ρ x))->∀ a∈c.args.toList.map ρ++caps,Q a:=λQ QS hx a ha=>by
    rcases List.mem_append.1 ha with ha | ha
    ·obtain ⟨x,hx',rfl⟩:=List.mem_map.1 ha
     exact hx x (hopa x hx')
    ·have:=hx f hopf
     rw [hg] at this
     exact QS caps this a ha
   refine ⟨v,H',⟨⟨λhw Φ S w a next Q hr hx hkk=>?_,λhw hx=>?_⟩,λq=>?_,λq=>?_⟩,hk⟩
   ·have hcalls:=hT.run hw Φ S w hr (hargs (λv=>v.ok Φ S) (λl q=>by simp only [AV.ok] at q;exact (AV.oks_iff Φ S l).1 q) (λx hx'=>(hx x hx').2))
    have he:execOp a.eval o=execOp (λx=>(ρ x).toV Φ) o:=execOp_congr o hs (λx hx'=>(hx x hx').1)
    unfold Oper.wp
    rw [he]
    have hex:(execOp (λx=>(ρ x).toV Φ) o).run P w=.ok (.enter g (AV.toVs Φ (c.args.toList.map ρ++caps)).toArray) w:=by
     simp only [execOp,ho,resolve,hf,Sem.run_bind,hg,AV.toV,Deferred.ofValue,Sem.run_pure,Result.andThen_ok,invoke]
     have e:(#[]++Array.map (λx=>AV.toV Φ (ρ x)) c.args)++(AV.toVs Φ caps).toArray=(AV.toVs Φ (c.args.toList.map ρ++caps)).toArray:=by
      apply Array.ext';simp [AV.toVs_eq]
     rw [e]
     exact hT.enters _ w
    rw [hex,Oper.upon_enter]
    refine hcalls.mono ?_
    rintro e w' ⟨Φ',rfl,h2,h3⟩
    exact hkk Φ' w' h2 h3
   ·exact hT.wf hw (hargs (λv=>v.inS (·<H.length)) (λl q=>by simp only [AV.inS] at q;exact (AV.inSs_iff _ l).1 q) hx)
   ·simp [dd,ho,hf] at q
   ·simp [dP,ho] at q
  ·cases h
 ·obtain ⟨v,H',h1,h2⟩:=aq7 (P:=P) hX (λc f ho hf=>hc ⟨c,f,ho,hf⟩) h
  exact ⟨v,H',⟨h1.otv.ot hs,h1.sil,h1.con⟩,h2⟩
abbrev Tm:=Nat->AV
def Tm.put (tm:Tm) (d:Nat) (v:AV):Tm:=λi=>bif i.beq d then v else tm i
def Tm.putO (tm:Tm) (d:Option Nat) (v:AV):Tm:=match d with
 | some d=>tm.put d v
 | none=>tm
def ofV:Value->AV
 | .int k n=>.int k n
 | .bool b=>.bool b
 | .string s=>.str s
 | .nilIface=>.nili
 | .slice none n c=>.sl ⟨none,n,.ex c⟩
 | _=>.nilp
def VG:Value->Bool
 | .int _ _ | .bool _ | .string _ | .nilIface | .slice none _ _ | .pointer none=>true
 | _=>false
theorem v_ (Φ:Phi) {v:Value} (h:VG v=true):(ofV v).toV Φ=v:=by
 unfold VG at h
 split at h <;> simp_all [ofV,AV.toV,Sl.toV]
theorem wa (Φ:Phi) (S:Nat->Prop) (v:Value):(ofV v).ok Φ S:=by
 unfold ofV;split <;> simp [AV.ok]
theorem aq8 (S:Nat->Prop) (v:Value):(ofV v).inS S:=by
 unfold ofV;split <;> simp [AV.inS]
def opv (tm:Tm):Operand->AV
 | .tmp t=>tm t
 | .const v=>ofV v
 | .func f=>.fn f []
 | .global _=>.nilp
def qR:Operand->Bool
 | .tmp _=>true
 | .const v=>VG v
 | .func _=>true
 | .global _=>false
structure TR (Φ:Phi) (S:Nat->Prop) (nt:Nat) (tm:Tm) (a:Act):Prop where
 defers:a.defers=[]
 size:a.tmps.size=nt
 val:∀ t,a.tmps.getD t undef=(tm t).toV Φ/\(tm t).ok Φ S
theorem TR.eval {Φ:Phi} {S:Nat->Prop} {nt:Nat} {tm:Tm} {a:Act} (h:TR Φ S nt tm a) {x:Operand} (hx:qR x=true):a.eval x=(opv tm x).toV Φ/\(opv tm x).ok Φ S:=by
 cases x with
 | tmp t=>exact h.val t
 | const v=>exact ⟨(v_ Φ hx).symm,wa Φ S v⟩
 | func f=>exact ⟨by simp [Act.eval,opv,AV.toV,AV.toVs],by simp [opv,AV.ok,AV.oks]⟩
 | global g=>cases hx
theorem VH {tmps:Array Value} {d t:Nat} {v:Value} (hd:d<tmps.size):(tmps.setIfInBounds d v).getD t undef=if t=d then v else tmps.getD t undef:=by
 simp only [Array.getD_eq_getD_getElem?]
 by_cases e:t=d
 ·subst e;simp [hd]
 ·rw [Array.getElem?_setIfInBounds_ne (λq=>e q.symm),if_neg e]
theorem Tm.put_eq (tm:Tm) (d:Nat) (v:AV) (t:Nat):tm.put d v t=if t=d then v else tm t:=by
 unfold Tm.put
 by_cases e:t=d
 ·subst e;simp
 ·have:t.beq d=false:=by
   cases h:t.beq d with
   | true=>exact absurd (Nat.eq_of_beq_eq_true h) e
   | false=>rfl
  rw [this,if_neg e];rfl
theorem TR.put {Φ Φ':Phi} {S S':Nat->Prop} {nt:Nat} {tm:Tm} {a:Act} (h:TR Φ S nt tm a) (hag:Φ.agree Φ' S) (hS:∀ b,S b->S' b) {d:Option Nat} (hd:∀ x,d=some x->x<nt) {v:AV} (hv:v.ok Φ' S') :
  TR Φ' S' nt (tm.putO d v) (a.put d (v.toV Φ')):=by
 have hold:∀ t,a.tmps.getD t undef=(tm t).toV Φ'/\(tm t).ok Φ' S':=λt=>by
  obtain ⟨h1,h2⟩:=h.val t
  exact ⟨by rw [AV.toV_agree hag _ (AV.ok_inS _ h2)];exact h1,AV.ok_agree hag hS _ h2⟩
 cases d with
 | none=>exact ⟨h.defers,h.size,hold⟩
 | some x=>
  refine ⟨h.defers,by simp [Act.put,h.size],λt=>?_⟩
  simp only [Act.put,Tm.putO,Tm.put_eq]
  rw [VH (by rw [h.size];exact hd x rfl)]
  split
  ·exact ⟨rfl,hv⟩
  ·exact hold t
def gE:AV:=.tup []
def lb (ops:Array Oper) (o:Oper):Option (Nat×Bool):=match o.guard with
 | none=>none
 | some (j,want)=>((ops[j]?).bind (·.dst)).map λd=>(d,want)
def nX (Y:Tabs) (C:Orc R) (ops:Array Oper):List Oper->Tm->Hp->(Tm->Hp->Option R)->Option R
 | [],tm,H,K=>K tm H
 | o::rest,tm,H,K=>match o.guard with
  | none=>aop Y C (opv tm) o H λv H'=>nX Y C ops rest (tm.putO o.dst v) H' K
  | some _=>match lb ops o with
   | none=>none
   | some (d,want)=>match tm d with
    | .bool t=>
     bif t then (bif want then aop Y C (opv (tm.put d (.bool true))) o H λv H'=>nX Y C ops rest ((tm.put d (.bool true)).putO o.dst v) H' K
      else nX Y C ops rest ((tm.put d (.bool true)).putO o.dst gE) H K)
     else (bif want then nX Y C ops rest ((tm.put d (.bool false)).putO o.dst gE) H K
      else aop Y C (opv (tm.put d (.bool false))) o H λv H'=>nX Y C ops rest ((tm.put d (.bool false)).putO o.dst v) H' K)
    | .tup []=>nX Y C ops rest (tm.putO o.dst gE) H K
    | _=>none
theorem Tm.put_same {tm:Tm} {d:Nat} {v:AV} (h:tm d=v):tm.put d v=tm:=by
 funext t;rw [Tm.put_eq];split
 ·rename_i e;rw [e,h]
 ·rfl
def aq9 (P:Program) (ops:Array Oper) (o:Oper) (tm:Tm) (H:Hp) (v:AV) (H':Hp):Prop:=
 (∃ w:Bool,w=true/\(o.guard=none\/∃ d want,lb ops o=some (d,want)/\tm d=.bool want)/\OT P o (opv tm) H v H') \/
 (∃ d want,lb ops o=some (d,want)/\(tm d=.bool (!want)\/tm d=gE)/\v=gE/\H'=H)
theorem afg {Y:Tabs} {C:Orc R} {ops:Array Oper} {rest:List Oper} {tm:Tm} {K:Tm->Hp->Option R} (hX:dR P Y.ty) (hC:COk P C) (h:nX Y C ops (o::rest) tm H K=some r) :
  ∃ v H',aq9 P ops o tm H v H'/\nX Y C ops rest (tm.putO o.dst v) H' K=some r:=by
 simp only [nX] at h
 split at h
 ·rename_i hg
  obtain ⟨v,H',⟨h1,_⟩,h2⟩:=qp hX hC h
  exact ⟨v,H',.inl ⟨true,rfl,.inl hg,h1⟩,h2⟩
 ·split at h
  ·cases h
  ·rename_i d want hg
   split at h
   ·rename_i t ht
    cases t <;> cases want <;> simp only [cond_true,cond_false] at h <;> rw [Tm.put_same ht] at h
    ·obtain ⟨v,H',⟨h1,_⟩,h2⟩:=qp hX hC h
     exact ⟨v,H',.inl ⟨true,rfl,.inr ⟨d,false,hg,ht⟩,h1⟩,h2⟩
    ·exact ⟨_,H,.inr ⟨d,true,hg,.inl ht,rfl,rfl⟩,h⟩
    ·exact ⟨_,H,.inr ⟨d,false,hg,.inl ht,rfl,rfl⟩,h⟩
    ·obtain ⟨v,H',⟨h1,_⟩,h2⟩:=qp hX hC h
     exact ⟨v,H',.inl ⟨true,rfl,.inr ⟨d,true,hg,ht⟩,h1⟩,h2⟩
   ·rename_i ht;exact ⟨_,H,.inr ⟨d,want,hg,.inr ht,rfl,rfl⟩,h⟩
   ·cases h
def mo (nt:Nat) (o:Oper):Bool:=(match o.dst with | some d=>decide (d<nt) | none=>true)&&o.op.operands.all qR
theorem VI {ops:Array Oper} {a:Act} {d:Nat} {want:Bool} (hg:lb ops o=some (d,want)) (hv:a.tmps.getD d undef=undef) :
  Region.wanted o (yielded ops a.tmps)=false:=by
 unfold lb at hg
 unfold Region.wanted
 cases hgu:o.guard with
 | none=>simp [hgu] at hg
 | some p=>
  obtain ⟨j,w⟩:=p
  simp only [hgu] at hg ⊢
  cases hj:(ops[j]?).bind (·.dst) with
  | none=>simp [hj] at hg
  | some d'=>
   simp [hj] at hg
   obtain ⟨rfl,rfl⟩:=hg
   unfold yielded
   simp only [hj,Option.bind_some]
   simp only [Array.getD_eq_getD_getElem?] at hv
   cases hx:a.tmps[d']? with
   | none=>rfl
   | some u=>
    rw [hx] at hv
    simp at hv
    subst hv
    rfl
theorem afh {ops:Array Oper} {Φ:Phi} {S:Nat->Prop} {nt:Nat} {tm:Tm} {a:Act} (h:TR Φ S nt tm a) {d:Nat} {want b:Bool} (hg:lb ops o=some (d,want)) (ht:tm d=.bool b) :
  Region.wanted o (yielded ops a.tmps)=(b==want):=by
 unfold lb at hg
 unfold Region.wanted
 cases hgu:o.guard with
 | none=>simp [hgu] at hg
 | some p=>
  obtain ⟨j,w⟩:=p
  simp only [hgu] at hg ⊢
  cases hj:(ops[j]?).bind (·.dst) with
  | none=>simp [hj] at hg
  | some d'=>
   simp [hj] at hg
   obtain ⟨rfl,rfl⟩:=hg
   unfold yielded
   simp only [hj,Option.bind_some]
   have hv:=(h.val d').1
   rw [ht] at hv
   simp only [AV.toV,Array.getD_eq_getD_getElem?] at hv
   cases hx:a.tmps[d']? with
   | none=>rw [hx] at hv;simp [undef] at hv
   | some u=>
    rw [hx] at hv
    simp at hv
    subst hv
    cases b <;> cases w <;> rfl
def SR (Φ0:Phi) (S0:Nat->Prop) (H0:Hp) (w0:World) (nt:Nat) (tm:Tm) (H:Hp) (a:Act) (w:World):Prop:=
 WF H/\∃ Φ,Post Φ0 S0 H0 w0 Φ H w/\TR Φ (ext S0 H0 H) nt tm a
theorem afi {Y:Tabs} {C:Orc R} {ops:Array Oper} {nt:Nat} (hX:dR P Y.ty) (hC:COk P C) {Φ0:Phi} {S0:Nat->Prop} {H0:Hp} {w0:World} {Q:Exit->Act->World->Prop} :
  ∀ (rest:List Oper) (i:Nat) (tm:Tm) (H:Hp) (K:Tm->Hp->Option R) (a:Act) (w:World),ops.toList.drop i=rest->(rest.all (mo nt))=true->nX Y C ops rest tm H K=some r ->
   SR Φ0 S0 H0 w0 nt tm H a w->(∀ tm' H' a' w',SR Φ0 S0 H0 w0 nt tm' H' a' w'->K tm' H'=some r->Q .normal a' w')->wpOps P ops Q (List.range' i rest.length) a w
 | [],i,tm,H,K,a,w,hd,hok,h,hs,hq=>hq tm H a w hs h
 | o::rest,i,tm,H,K,a,w,hd,hok,h,hs,hq=>by
  simp only [List.all_cons,Bool.and_eq_true] at hok
  obtain ⟨hok1,hok2⟩:=hok
  have hi:ops[i]?=some o:=by
   have:(ops.toList.drop i)[0]?=some o:=by rw [hd];rfl
   rw [List.getElem?_drop] at this
   simpa using this
  have hd':ops.toList.drop (i+1)=rest:=by
   rw [<- List.drop_drop,hd];rfl
  obtain ⟨v,H',hst,h'⟩:=afg hX hC h
  obtain ⟨hw,Φ,hp,ht⟩:=hs
  simp only [mo,Bool.and_eq_true] at hok1
  have hdst:∀ x,o.dst=some x->x<nt:=λx hx=>by have:=hok1.1;rw [hx] at this;simpa using this
  have hopk:∀ x∈o.op.operands,qR x=true:=λx hx=>Array.all_eq_true_iff_forall_mem.1 hok1.2 x hx
  have ih:=λtm1 H1 a1 w1=>afi hX hC (Φ0:=Φ0) (S0:=S0) (H0:=H0) (w0:=w0) (Q:=Q) rest (i+1) tm1 H1 K a1 w1 hd' hok2
  simp only [List.length_cons,List.range'_succ,wpOps,hi]
  rcases hst with ⟨_,_,hwant,hot⟩ | ⟨d,want,hg,htd,rfl,rfl⟩
  ·have hwd:Region.wanted o (yielded ops a.tmps)=true:=by
    rcases hwant with hg | ⟨d,want,hg,htd⟩
    ·unfold Region.wanted;rw [hg]
    ·rw [afh ht hg htd];cases want <;> rfl
   rw [if_pos hwd]
   refine .inl (hot.run hw Φ _ w a _ _ hp.rel (λx hx=>ht.eval (hopk x hx)) (λΦ' w' hp' hv'=>?_))
   have hwf':=hot.wf hw (λx hx=>AV.inS_mono (hp.rel.lt) _ (AV.ok_inS _ (ht.eval (hopk x hx)).2))
   have hpp:=hp.trans hp'
   have he:=Bt (S:=S0) hp.len hp'.len
   refine ih _ _ _ _ h' ⟨hwf'.1,Φ',hpp,?_⟩ hq
   rw [he] at hv'
   exact ht.put hp'.agree (λb hb=>by rw [<- he];exact .inl hb) hdst hv'
  ·have hwd:Region.wanted o (yielded ops a.tmps)=false:=by
    rcases htd with htd | htd
    ·rw [afh ht hg htd];cases want <;> rfl
    ·refine VI hg ?_
     have:=(ht.val d).1
     rw [htd] at this
     simpa [gE,AV.toV,AV.toVs,undef] using this
   rw [if_neg (by rw [hwd];simp)]
   refine ih _ _ _ _ h' ⟨hw,Φ,hp,?_⟩ hq
   have:=ht.put (v:=gE) (Phi.agree_refl Φ _) (λ_ q=>q) hdst (by simp [gE,AV.ok,AV.oks])
   simpa [gE,AV.toV,AV.toVs,undef] using this
end Go.AE
end
section
namespace Go.AE
open Classical
variable {R:Type} {P:Program} {r:R}
structure PostS (Φ:Phi) (S:Nat->Prop) (H:Hp) (w:World) (Φ':Phi) (S':Nat->Prop) (H':Hp) (w':World):Prop where
 agree:Φ.agree Φ' S
 sub:∀ b,S b->S' b
 rel:Rel Φ' S' H' w'
 own:∀ k,k<w.heap.size->Own Φ' S' H' k->Own Φ S H k
 os:w'.os=w.os
 tape:w'.tape=w.tape
 output:w'.output=w.output
 size:w.heap.size<=w'.heap.size
 frame:∀ k,k<w.heap.size->¬ Own Φ S H k->w'.heap[k]?=w.heap[k]?
 rok:∀ b blk,S' b->H'[b]?=some blk->blk.live=true->blk.own=false->S b/\H[b]?=some blk
theorem Rel.restrict {Φ:Phi} {S:Nat->Prop} {H Hi:Hp} {w:World} (h:Rel Φ S H w) (hag:∀ b,b<Hi.length->H[b]?=Hi[b]?) (hwf:WF Hi):Rel Φ (λb=>S b/\b<Hi.length) Hi w where
 lt:=λb hb=>hb.2
 closed:=λb blk hb hx hl v hv=>by
  have hx':=hx;rw [<- hag b hb.2] at hx'
  obtain ⟨q1,q2⟩:=h.closed b blk hb.1 hx' hl v hv
  exact ⟨AV.ok_and v q1 (hwf b blk hx hl v hv),q2⟩
 cell:=λb blk hb hx hl=>h.cell b blk hb.1 (by rw [hag b hb.2];exact hx) hl
 own:=λb blk hb hx hl=>h.own b blk hb.1 (by rw [hag b hb.2];exact hx) hl
 inj:=λb blk b' blk' hb hb' hx hx'=>h.inj b blk b' blk' hb.1 hb'.1 (by rw [hag b hb.2];exact hx) (by rw [hag b' hb'.2];exact hx')
 ro:=λb blk b' blk' hb hb' hx hx'=>h.ro b blk b' blk' hb.1 hb'.1 (by rw [hag b hb.2];exact hx) (by rw [hag b' hb'.2];exact hx')
theorem afj {l:List AV} (h:l≠[]):∃ v,l[0]?=some v:=by
 cases l with
 | nil=>exact absurd rfl h
 | cons v l=>exact ⟨v,rfl⟩
theorem En {Φ Φ1:Phi} {S:Nat->Prop} {H Hi Hi1 H':Hp} {w w1:World} (h:Rel Φ S H w) (hag:∀ b,b<Hi.length->H[b]?=Hi[b]?)
  (hp:Post Φ (λb=>S b/\b<Hi.length) Hi w Φ1 Hi1 w1) (hag':∀ b,b<Hi1.length->H'[b]?=Hi1[b]?) (hlen':Hi1.length<=H'.length) (hlen2:H.length<=H'.length)
  (hnew:∀ b,S b->¬ (Hi.length<=b/\b<Hi1.length)) (hlate:∀ b,S b->Hi1.length<=b->H'[b]?=H[b]?) :
  ∃ Φ2,Φ1.agree Φ2 (ext (λb=>S b/\b<Hi.length) Hi Hi1)/\PostS Φ S H w Φ2 (λb=>S b\/(Hi.length<=b/\b<Hi1.length)) H' w1:=by
 have hl1:=hp.len
 let Φ2:Phi:=⟨λb=>if Hi.length<=b/\b<Hi1.length then Φ1.b b else Φ.b b,λb=>if Hi.length<=b/\b<Hi1.length then Φ1.o b else Φ.o b,λb=>if Hi.length<=b/\b<Hi1.length then Φ1.k b else Φ.k b⟩
 have a0:Φ.agree Φ2 S:=λb hb=>by simp only [Φ2];simp [hnew b hb]
 have a1:Φ1.agree Φ2 (ext (λb=>S b/\b<Hi.length) Hi Hi1):=λb hb=>by
  rcases hb with ⟨hb,hlt⟩ | hb
  ·obtain ⟨q1,q2,q3⟩:=hp.agree b ⟨hb,hlt⟩
   simp only [Φ2];simp [hnew b hb,q1,q2,q3]
  ·simp only [Φ2];simp [hb]
 have sub1:∀ b,ext (λb=>S b/\b<Hi.length) Hi Hi1 b->(S b\/(Hi.length<=b/\b<Hi1.length)):=λb hb=>by
  rcases hb with ⟨hb,_⟩ | hb
  ·exact .inl hb
  ·exact .inr hb
 -- each known block stands in the step's part,or came later
 have part:∀ b blk,(S b\/(Hi.length<=b/\b<Hi1.length))->H'[b]?=some blk ->
   (ext (λb=>S b/\b<Hi.length) Hi Hi1 b/\Hi1[b]?=some blk)\/(S b/\Hi1.length<=b/\H[b]?=some blk):=λb blk hb hx=>by
  by_cases q:b<Hi1.length
  ·refine .inl ⟨?_,by rw [<- hag' b q];exact hx⟩
   rcases hb with hb | hb
   ·refine .inl ⟨hb,?_⟩
    have:=hnew b hb
    omega
   ·exact .inr hb
  ·rcases hb with hb | hb
   ·exact .inr ⟨hb,by omega,by rw [<- hlate b hb (by omega)];exact hx⟩
   ·omega
 -- what came later lies apart from what the step may write
 have apart:∀ b blk,S b->Hi1.length<=b->H[b]?=some blk->blk.live=true->(blk.own=true\/blk.cells≠[])->¬ Own Φ (λb=>S b/\b<Hi.length) Hi (Φ.b b):=by
  rintro b blk hb hge hx hl hne ⟨b',blk',⟨hb',hlt'⟩,hx',ho',hl',e⟩
  rw [<- hag b' hlt'] at hx'
  cases hbo:blk.own with
  | true=>
   have:=h.inj b' blk' b blk hb' hb hx' hx hl' hl ho' hbo e
   omega
  | false=>exact h.ro b' blk' b blk hb' hb hx' hx hl' hl ho' hbo (by rcases hne with q | q;(rw [hbo] at q;cases q);exact q) e
 have inw:∀ b blk,S b->H[b]?=some blk->blk.live=true->(blk.own=true\/blk.cells≠[])->Φ.b b<w.heap.size:=by
  intro b blk hb hx hl hne
  cases hbo:blk.own with
  | true=>
   obtain ⟨c,T,e,_⟩:=h.own b blk hb hx hl hbo
   exact (Array.getElem?_eq_some_iff.1 e).1
  | false=>
   obtain ⟨v,hv⟩:=afj (by rcases hne with q | q;(rw [hbo] at q;cases q);exact q)
   exact cell?_lt (h.cell b blk hb hx hl 0 v hv)
 have hfr:∀ b blk,S b->Hi1.length<=b->H[b]?=some blk->blk.live=true->(blk.own=true\/blk.cells≠[])->w1.heap[Φ.b b]?=w.heap[Φ.b b]?:=λb blk hb hge hx hl hne=>
  hp.frame _ (inw b blk hb hx hl hne) (apart b blk hb hge hx hl hne)
 -- an owned block of the step's part and a later block are two
 have two:∀ b blk b' blk',ext (λb=>S b/\b<Hi.length) Hi Hi1 b->Hi1[b]?=some blk->blk.live=true->blk.own=true->S b'->Hi1.length<=b'->H[b']?=some blk'->blk'.live=true ->
   (blk'.own=true\/blk'.cells≠[])->Φ1.b b≠Φ.b b':=by
  intro b blk b' blk' hb hx hl ho hb' hge hx' hl' hne e
  have hlt:=inw b' blk' hb' hx' hl' hne
  have:=hp.own (Φ.b b') hlt ⟨b,blk,hb,hx,ho,hl,e⟩
  exact apart b' blk' hb' hge hx' hl' hne this
 refine ⟨Φ2,a1,a0,λb hb=>.inl hb,⟨?_,?_,?_,?_,?_,?_⟩,?_,hp.os,hp.tape,hp.output,hp.size,?_,?_⟩
 ·rintro b (hb | hb)
  ·exact Nat.lt_of_lt_of_le (h.lt b hb) hlen2
  ·omega
 ·intro b blk hb hx hl v hv
  rcases part b blk hb hx with ⟨hb,hx⟩ | ⟨hb,hge,hx⟩
  ·obtain ⟨q1,q2⟩:=hp.rel.closed b blk hb hx hl v hv
   exact ⟨AV.ok_agree a1 sub1 v q1,q2⟩
  ·obtain ⟨q1,q2⟩:=h.closed b blk hb hx hl v hv
   exact ⟨AV.ok_agree a0 (λb hb=>.inl hb) v q1,q2⟩
 ·intro b blk hb hx hl i v hv
  rcases part b blk hb hx with ⟨hb,hx⟩ | ⟨hb,hge,hx⟩
  ·have hin:=AV.ok_inS v (hp.rel.closed b blk hb hx hl v (List.mem_of_getElem? hv)).1
   rw [(a1 b hb).1,(a1 b hb).2.1,AV.toV_agree a1 v hin]
   exact hp.rel.cell b blk hb hx hl i v hv
  ·have hin:=AV.ok_inS v (h.closed b blk hb hx hl v (List.mem_of_getElem? hv)).1
   rw [(a0 b hb).1,(a0 b hb).2.1,AV.toV_agree a0 v hin]
   have hc:=h.cell b blk hb hx hl i v hv
   unfold World.cell? at hc ⊢
   rw [hfr b blk hb hge hx hl (.inr (λq=>by rw [q] at hv;simp at hv))]
   exact hc
 ·intro b blk hb hx hl ho
  rcases part b blk hb hx with ⟨hb,hx⟩ | ⟨hb,hge,hx⟩
  ·obtain ⟨c,T,e1,e2,e3⟩:=hp.rel.own b blk hb hx hl ho
   exact ⟨c,T,by rw [(a1 b hb).1];exact e1,by rw [(a1 b hb).2.1,(a1 b hb).2.2];exact e2,by rw [(a1 b hb).2.2];exact e3⟩
  ·obtain ⟨c,T,e1,e2,e3⟩:=h.own b blk hb hx hl ho
   exact ⟨c,T,by rw [(a0 b hb).1,hfr b blk hb hge hx hl (.inl ho)];exact e1,by rw [(a0 b hb).2.1,(a0 b hb).2.2];exact e2,by rw [(a0 b hb).2.2];exact e3⟩
 ·intro b blk b' blk' hb hb' hx hx' hl hl' ho ho' e
  rcases part b blk hb hx with ⟨hb,hx⟩ | ⟨hb,hge,hx⟩ <;> rcases part b' blk' hb' hx' with ⟨hb',hx'⟩ | ⟨hb',hge',hx'⟩
  ·rw [(a1 b hb).1,(a1 b' hb').1] at e
   exact hp.rel.inj b blk b' blk' hb hb' hx hx' hl hl' ho ho' e
  ·rw [(a1 b hb).1,(a0 b' hb').1] at e
   exact absurd e (two b blk b' blk' hb hx hl ho hb' hge' hx' hl' (.inl ho'))
  ·rw [(a0 b hb).1,(a1 b' hb').1] at e
   exact absurd e.symm (two b' blk' b blk hb' hx' hl' ho' hb hge hx hl (.inl ho))
  ·rw [(a0 b hb).1,(a0 b' hb').1] at e
   exact h.inj b blk b' blk' hb hb' hx hx' hl hl' ho ho' e
 ·intro b blk b' blk' hb hb' hx hx' hl hl' ho ho' hne e
  rcases part b blk hb hx with ⟨hb,hx⟩ | ⟨hb,hge,hx⟩ <;> rcases part b' blk' hb' hx' with ⟨hb',hx'⟩ | ⟨hb',hge',hx'⟩
  ·rw [(a1 b hb).1,(a1 b' hb').1] at e
   exact hp.rel.ro b blk b' blk' hb hb' hx hx' hl hl' ho ho' hne e
  ·rw [(a1 b hb).1,(a0 b' hb').1] at e
   exact two b blk b' blk' hb hx hl ho hb' hge' hx' hl' (.inr hne) e
  ·rw [(a0 b hb).1,(a1 b' hb').1] at e
   obtain ⟨⟨q1,q2⟩,q3⟩:=hp.rok b' blk' hb' hx' hl' ho'
   rw [(hp.agree b' ⟨q1,q2⟩).1] at e
   rw [<- hag b' q2] at q3
   exact h.ro b blk b' blk' hb q1 hx q3 hl hl' ho ho' hne e
  ·rw [(a0 b hb).1,(a0 b' hb').1] at e
   exact h.ro b blk b' blk' hb hb' hx hx' hl hl' ho ho' hne e
 ·rintro k hk ⟨b,blk,hb,hx,ho,hl,e⟩
  rcases part b blk hb hx with ⟨hb,hx⟩ | ⟨hb,hge,hx⟩
  ·rw [(a1 b hb).1] at e
   obtain ⟨b',blk',⟨hb',hlt'⟩,hx',ho',hl',e'⟩:=hp.own k hk ⟨b,blk,hb,hx,ho,hl,e⟩
   exact ⟨b',blk',hb',by rw [hag b' hlt'];exact hx',ho',hl',e'⟩
  ·rw [(a0 b hb).1] at e
   exact ⟨b,blk,hb,hx,ho,hl,e⟩
 ·intro k hk hno
  refine hp.frame k hk (λ⟨b',blk',⟨hb',hlt'⟩,hx',ho',hl',e'⟩=>hno ⟨b',blk',hb',by rw [hag b' hlt'];exact hx',ho',hl',e'⟩)
 ·intro b blk hb hx hl ho
  rcases part b blk hb hx with ⟨hb,hx⟩ | ⟨hb,hge,hx⟩
  ·obtain ⟨⟨q1,q2⟩,q3⟩:=hp.rok b blk hb hx hl ho
   exact ⟨q1,by rw [hag b q2];exact q3⟩
  ·exact ⟨hb,hx⟩
theorem PostS.trans {Φ Φ' Φ'':Phi} {S S' S'':Nat->Prop} {H H' H'':Hp} {w w' w'':World} (h:PostS Φ S H w Φ' S' H' w') (h':PostS Φ' S' H' w' Φ'' S'' H'' w''):PostS Φ S H w Φ'' S'' H'' w'' where
 agree:=λb hb=>by
  obtain ⟨a1,a2,a3⟩:=h.agree b hb
  obtain ⟨b1,b2,b3⟩:=h'.agree b (h.sub b hb)
  exact ⟨b1.trans a1,b2.trans a2,b3.trans a3⟩
 sub:=λb hb=>h'.sub b (h.sub b hb)
 rel:=h'.rel
 own:=λk hk ho=>h.own k hk (h'.own k (Nat.lt_of_lt_of_le hk h.size) ho)
 os:=h'.os.trans h.os
 tape:=h'.tape.trans h.tape
 output:=h'.output.trans h.output
 size:=Nat.le_trans h.size h'.size
 frame:=λk hk ho=>(h'.frame k (Nat.lt_of_lt_of_le hk h.size) (λq=>ho (h.own k hk q))).trans (h.frame k hk ho)
 rok:=λb blk hb hx hl ho=>by
  obtain ⟨q1,q2⟩:=h'.rok b blk hb hx hl ho
  exact h.rok b blk q1 q2 hl ho
end Go.AE
end
section
namespace Go.AE
open Classical
variable {R:Type} {P:Program} {r:R}
noncomputable def ud (pin:Bool) (o:Oper) (H H':Hp) (x:Option R):Option R:=bif dd o || dP o || pin then x else (if aX H H' then x else none)
noncomputable def nC (Y:Tabs) (C:Orc R) (ops:Array Oper) (pins:List Nat):List Oper->Nat->Tm->Hp->(Tm->Hp->Option R)->Option R
 | [],_,tm,H,K=>K tm H
 | o::rest,i,tm,H,K=>match o.guard with
  | none=>aop Y C (opv tm) o H λv H'=>ud (pins.contains i) o H H' (nC Y C ops pins rest (i+1) (tm.putO o.dst v) H' K)
  | some _=>match lb ops o with
   | none=>none
   | some (d,want)=>match tm d with
    | .bool t=>
     bif t then (bif want then aop Y C (opv (tm.put d (.bool true))) o H λv H'=>ud (pins.contains i) o H H' (nC Y C ops pins rest (i+1) ((tm.put d (.bool true)).putO o.dst v) H' K)
      else nC Y C ops pins rest (i+1) ((tm.put d (.bool true)).putO o.dst gE) H K)
     else (bif want then nC Y C ops pins rest (i+1) ((tm.put d (.bool false)).putO o.dst gE) H K
      else aop Y C (opv (tm.put d (.bool false))) o H λv H'=>ud (pins.contains i) o H H' (nC Y C ops pins rest (i+1) ((tm.put d (.bool false)).putO o.dst v) H' K))
    | .tup []=>nC Y C ops pins rest (i+1) (tm.putO o.dst gE) H K
    | _=>none
def wb (P:Program) (ops:Array Oper) (o:Oper) (tm:Tm) (H:Hp) (v:AV) (H':Hp):Prop:=
 ((o.guard=none\/∃ d want,lb ops o=some (d,want)/\tm d=.bool want)/\OT P o (opv tm) H v H'/\(dd o=true->PV P o (opv tm) v/\H'=H)) \/
 (∃ d want,lb ops o=some (d,want)/\(tm d=.bool (!want)\/tm d=gE)/\v=gE/\H'=H)
theorem BA {pin:Bool} {o:Oper} {H H':Hp} {x:Option R} (h:ud pin o H H' x=some r) (hs:dd o=true->H'=H) (hc:dP o=true->aX H H'):x=some r/\(pin=true\/aX H H'):=by
 unfold ud at h
 cases h1:dd o with
 | true=>rw [h1] at h;rw [hs h1];exact ⟨by simpa using h,.inr (aX.refl _)⟩
 | false=>
  cases h2:dP o with
  | true=>rw [h1,h2] at h;exact ⟨by simpa using h,.inr (hc h2)⟩
  | false=>
   cases h3:pin with
   | true=>rw [h1,h2,h3] at h;exact ⟨by simpa using h,.inl rfl⟩
   | false=>
    rw [h1,h2,h3] at h
    simp only [Bool.or_self,cond_false] at h
    split at h
    ·rename_i q;exact ⟨h,.inr q⟩
    ·cases h
theorem afk {Y:Tabs} {C:Orc R} {ops:Array Oper} {pins:List Nat} {o:Oper} {i:Nat} {H:Hp} {rest:List Oper} {tm:Tm} {K:Tm->Hp->Option R} (hX:dR P Y.ty) (hC:COk P C)
  (h:nC Y C ops pins (o::rest) i tm H K=some r) :
  ∃ v H',wb P ops o tm H v H'/\(pins.contains i=true\/aX H H')/\nC Y C ops pins rest (i+1) (tm.putO o.dst v) H' K=some r:=by
 simp only [nC] at h
 split at h
 ·rename_i hg
  obtain ⟨v,H',⟨h1,h3,h4⟩,h2⟩:=qp hX hC h
  obtain ⟨h5,h6⟩:=BA h2 (λq=>(h3 q).2) h4
  exact ⟨v,H',.inl ⟨.inl hg,h1,h3⟩,h6,h5⟩
 ·split at h
  ·cases h
  ·rename_i d want hg
   split at h
   ·rename_i t ht
    cases t <;> cases want <;> simp only [cond_true,cond_false] at h <;> rw [Tm.put_same ht] at h
    ·obtain ⟨v,H',⟨h1,h3,h4⟩,h2⟩:=qp hX hC h
     obtain ⟨h5,h6⟩:=BA h2 (λq=>(h3 q).2) h4
     exact ⟨v,H',.inl ⟨.inr ⟨d,false,hg,ht⟩,h1,h3⟩,h6,h5⟩
    ·exact ⟨_,H,.inr ⟨d,true,hg,.inl ht,rfl,rfl⟩,.inr (aX.refl _),h⟩
    ·exact ⟨_,H,.inr ⟨d,false,hg,.inl ht,rfl,rfl⟩,.inr (aX.refl _),h⟩
    ·obtain ⟨v,H',⟨h1,h3,h4⟩,h2⟩:=qp hX hC h
     obtain ⟨h5,h6⟩:=BA h2 (λq=>(h3 q).2) h4
     exact ⟨v,H',.inl ⟨.inr ⟨d,true,hg,ht⟩,h1,h3⟩,h6,h5⟩
   ·rename_i ht;exact ⟨_,H,.inr ⟨d,want,hg,.inr ht,rfl,rfl⟩,.inr (aX.refl _),h⟩
   ·cases h
theorem afl {Y:Tabs} {C:Orc R} {ops:Array Oper} {pins:List Nat} (hX:dR P Y.ty) (hC:COk P C):∀ (rest:List Oper) (i:Nat) (tm:Tm) (H:Hp) (K:Tm->Hp->Option R),
  ops.toList.drop i=rest->i+rest.length=ops.size->nC Y C ops pins rest i tm H K=some r ->
  ∃ (TM:Nat->Tm) (HH:Nat->Hp) (V:Nat->AV),TM i=tm/\HH i=H /\
   (∀ j o,i<=j->ops[j]?=some o->wb P ops o (TM j) (HH j) (V j) (HH (j+1))/\(pins.contains j=true\/aX (HH j) (HH (j+1)))/\TM (j+1)=(TM j).putO o.dst (V j))/\K (TM ops.size) (HH ops.size)=some r
 | [],i,tm,H,K,hd,hn,h=>⟨λ_=>tm,λ_=>H,λ_=>gE,rfl,rfl,λj o hj ho=>by
   have:j<ops.size:=(Array.getElem?_eq_some_iff.1 ho).1
   simp at hn;omega,h⟩
 | o::rest,i,tm,H,K,hd,hn,h=>by
  have hi:ops[i]?=some o:=by
   have:(ops.toList.drop i)[0]?=some o:=by rw [hd];rfl
   rw [List.getElem?_drop] at this
   simpa using this
  have hd':ops.toList.drop (i+1)=rest:=by rw [<- List.drop_drop,hd];rfl
  obtain ⟨v,H',h1,h2,h3⟩:=afk hX hC h
  obtain ⟨TM,HH,V,e1,e2,e3,e4⟩:=afl hX hC rest (i+1) _ _ K hd' (by simp at hn;omega) h3
  have hsz:i<ops.size:=(Array.getElem?_eq_some_iff.1 hi).1
  refine ⟨λj=>if j<=i then tm else TM j,λj=>if j<=i then H else HH j,λj=>if j=i then v else V j,by simp,by simp,?_,by
   simp only [show ¬ ops.size<=i by omega,if_false];exact e4⟩
  intro j o' hj ho'
  by_cases e:j=i
  ·subst e
   rw [hi] at ho'
   cases ho'
   simp only [Nat.le_refl,if_true,show ¬ j+1<=j by omega,if_false,e1,e2]
   exact ⟨h1,h2,trivial⟩
  ·simp only [show ¬ j<=i by omega,show ¬ j+1<=i by omega,e,if_false]
   exact e3 j o' (by omega) ho'
def ue (ops:Array Oper) (i j:Nat):Bool:=match ops[j]? with
 | some o=>o.after.any λe=>Region.binds .any e&&e.on==i
 | none=>false
def afm (ops:Array Oper) (tbl:List (List Nat)):Bool:=
 (List.range ops.size).all λj=>(tbl.getD j []).all λi=>decide (i<j)&&(ue ops i j || (tbl.getD j []).any λk=>decide (k<j)&&ue ops k j&&(tbl.getD k []).contains i)
def fi (tbl:List (List Nat)) (i j:Nat):Bool:=(tbl.getD j []).contains i
def ko (ops:Array Oper) (o:Oper) (t:Nat):Bool:=(o.op.operands.any λx=>match x with | .tmp u=>u==t | _=>false) || (match lb ops o with | some (d,_)=>d==t | none=>false)
def VJ (ops:Array Oper) (nt:Nat) (tbl:List (List Nat)) (pins:List Nat):Bool:=
 afm ops tbl&&ops.toList.all (mo nt) &&
 (List.range ops.size).all (λj=>match ops[j]? with
  | some o=>(o.after.all λe=>!Region.binds .any e || decide (e.on<j)) &&
   (List.range ops.size).all (λi=>match ops[i]? with
    | some oi=>(i==j || (match oi.dst with | some d=>o.dst != some d&&(!ko ops o d || fi tbl i j || fi tbl j i) | none=>true)) &&
     (i != j || (match oi.dst with | some d=>!ko ops o d | none=>true)) &&
     (!pins.contains j || i==j || dd oi || fi tbl i j || fi tbl j i)
    | none=>true)
  | none=>true)
end Go.AE
end
section
namespace Go.AE
open Classical
variable {R:Type} {P:Program} {r:R}
structure DrawS (ops:Array Oper) (nt:Nat) (tbl:List (List Nat)) (pins:List Nat):Prop where
 tblp:∀ i j,j<ops.size->fi tbl i j=true->i<j/\(ue ops i j=true\/∃ k,k<j/\ue ops k j=true/\fi tbl i k=true)
 oper:∀ (j:Nat) (o:Oper),ops[j]?=some o->mo nt o=true
 back:∀ (j:Nat) (o:Oper),ops[j]?=some o->∀ e∈o.after,Region.binds .any e=true->e.on<j
 dst:∀ (i j:Nat) (oi oj:Oper) (d:Nat),ops[i]?=some oi->ops[j]?=some oj->i≠j->oi.dst=some d->oj.dst≠some d/\(ko ops oj d=true->fi tbl i j=true\/fi tbl j i=true)
 self:∀ (i:Nat) (oi:Oper) (d:Nat),ops[i]?=some oi->oi.dst=some d->ko ops oi d=false
 pin:∀ (i j:Nat) (oi:Oper),ops[i]?=some oi->j<ops.size->pins.contains j=true->i≠j->dd oi=false->fi tbl i j=true\/fi tbl j i=true
theorem aq_ {ops:Array Oper} {nt:Nat} {tbl:List (List Nat)} {pins:List Nat} (h:VJ ops nt tbl pins=true):DrawS ops nt tbl pins:=by
 unfold VJ at h
 simp only [Bool.and_eq_true] at h
 obtain ⟨⟨h1,h2⟩,h3⟩:=h
 have hj:∀ (j:Nat) (o:Oper),ops[j]?=some o->j∈List.range ops.size:=λj o ho=>List.mem_range.2 (Array.getElem?_eq_some_iff.1 ho).1
 have h3':∀ (j:Nat) (o:Oper),ops[j]?=some o->(o.after.all λe=>!Region.binds .any e || decide (e.on<j))=true /\
   ∀ (i:Nat) (oi:Oper),ops[i]?=some oi ->
    ((i==j || (match oi.dst with | some d=>o.dst != some d&&(!ko ops o d || fi tbl i j || fi tbl j i) | none=>true))=true /\
    (i != j || (match oi.dst with | some d=>!ko ops o d | none=>true))=true) /\
    (!pins.contains j || i==j || dd oi || fi tbl i j || fi tbl j i)=true:=λj o ho=>by
  have:=List.all_eq_true.1 h3 j (hj j o ho)
  simp only [ho,Bool.and_eq_true] at this
  refine ⟨this.1,λi oi hoi=>?_⟩
  have:=List.all_eq_true.1 this.2 i (hj i oi hoi)
  simp only [hoi,Bool.and_eq_true] at this
  exact this
 refine ⟨?_,?_,?_,?_,?_,?_⟩
 ·intro i j hjn ha
  have:=List.all_eq_true.1 h1 j (List.mem_range.2 hjn)
  have:=List.all_eq_true.1 this i (by unfold fi at ha;simpa using ha)
  simp only [Bool.and_eq_true,decide_eq_true_eq,Bool.or_eq_true] at this
  refine ⟨this.1,this.2.imp id λq=>?_⟩
  obtain ⟨k,hk,q⟩:=List.any_eq_true.1 q
  simp only [Bool.and_eq_true,decide_eq_true_eq] at q
  exact ⟨k,q.1.1,q.1.2,q.2⟩
 ·intro j o ho
  exact List.all_eq_true.1 h2 o (by rw [<- Array.getElem?_toList] at ho;exact List.mem_of_getElem? ho)
 ·intro j o ho e he hb
  have:=Array.all_eq_true_iff_forall_mem.1 (h3' j o ho).1 e he
  simpa [hb] using this
 ·intro i j oi oj d hi hjj hne hd
  have:=((h3' j oj hjj).2 i oi hi).1.1
  have hne':(i==j)=false:=by simpa using hne
  simp only [hne',hd,Bool.false_or,Bool.and_eq_true,Bool.or_eq_true,bne_iff_ne] at this
  refine ⟨this.1,λq=>?_⟩
  rcases this.2 with (q' | q') | q'
  ·rw [q] at q';cases q'
  ·exact .inl q'
  ·exact .inr q'
 ·intro i oi d hi hd
  have:=((h3' i oi hi).2 i oi hi).1.2
  simpa [hd] using this
 ·intro i j oi hi hjn hp hne hs
  have hoj:ops[j]?=some ops[j]:=Array.getElem?_eq_getElem hjn
  have:=((h3' j _ hoj).2 i oi hi).2
  have hne':(i==j)=false:=by simpa using hne
  simp only [hp,hne',hs,Bool.not_true,Bool.false_or,Bool.or_eq_true] at this
  exact this
theorem Eo {ops:Array Oper} {o:Oper} {t:Nat} (h:Operand.tmp t∈o.op.operands):ko ops o t=true:=by
 unfold ko
 rw [Bool.or_eq_true]
 exact .inl (Array.any_eq_true'.2 ⟨.tmp t,h,by simp⟩)
theorem Ly {ops:Array Oper} {o:Oper} {d:Nat} {want:Bool} (h:lb ops o=some (d,want)):ko ops o d=true:=by
 unfold ko
 rw [h];simp
section
variable {ops:Array Oper} {nt:Nat} {tbl:List (List Nat)} {pins:List Nat} {TM:Nat->Tm} {HH:Nat->Hp} {V:Nat->AV}
structure Tr (P:Program) (ops:Array Oper) (pins:List Nat) (TM:Nat->Tm) (HH:Nat->Hp) (V:Nat->AV):Prop where
 step:∀ (j:Nat) (o:Oper),ops[j]?=some o->wb P ops o (TM j) (HH j) (V j) (HH (j+1))
 pinc:∀ (j:Nat) (o:Oper),ops[j]?=some o->pins.contains j=true\/aX (HH j) (HH (j+1))
 tm:∀ (j:Nat) (o:Oper),ops[j]?=some o->TM (j+1)=(TM j).putO o.dst (V j)
 wf:∀ j,j<=ops.size->WF (HH j)/\∀ t,(TM j t).inS (·<(HH j).length)
 mono:∀ j,j<ops.size->(HH j).length<=(HH (j+1)).length
theorem Ep {tm:Tm} {d:Option Nat} {v:AV} {S:Nat->Prop} (h:∀ t,(tm t).inS S) (hv:v.inS S) (t:Nat):(tm.putO d v t).inS S:=by
 cases d with
 | none=>exact h t
 | some d=>simp only [Tm.putO,Tm.put_eq];split;exact hv;exact h t
theorem afn {tm:Tm} {S:Nat->Prop} (h:∀ t,(tm t).inS S) (x:Operand):(opv tm x).inS S:=by
 cases x with
 | tmp t=>exact h t
 | const v=>exact aq8 S v
 | global g=>simp [opv,AV.inS]
 | func f=>simp [opv,AV.inS,AV.inSs]
theorem Lz {o:Oper} {tm:Tm} {H H':Hp} {v:AV} (h:wb P ops o tm H v H') (hw:WF H) (ht:∀ t,(tm t).inS (·<H.length)):WF H'/\v.inS (·<H'.length)/\H.length<=H'.length:=by
 rcases h with ⟨_,hot,_⟩ | ⟨d,want,_,_,rfl,rfl⟩
 ·exact hot.wf hw (λx _=>afn ht x)
 ·exact ⟨hw,by simp [gE,AV.inS,AV.inSs],Nat.le_refl _⟩
theorem Tr.mk' (hs:∀ (j:Nat) (o:Oper),ops[j]?=some o->wb P ops o (TM j) (HH j) (V j) (HH (j+1))/\(pins.contains j=true\/aX (HH j) (HH (j+1)))/\TM (j+1)=(TM j).putO o.dst (V j))
  (hw:WF (HH 0)) (ht:∀ t,(TM 0 t).inS (·<(HH 0).length)):Tr P ops pins TM HH V:=by
 have hwf:∀ j,j<=ops.size->WF (HH j)/\∀ t,(TM j t).inS (·<(HH j).length):=by
  intro j
  induction j with
  | zero=>exact λ_=>⟨hw,ht⟩
  | succ j ih=>
   intro hj
   obtain ⟨h1,h2⟩:=ih (by omega)
   have ho:ops[j]?=some (ops[j]'(by omega)):=Array.getElem?_eq_getElem _
   obtain ⟨a1,a2,a3⟩:=hs j _ ho
   obtain ⟨b1,b2,b3⟩:=Lz a1 h1 h2
   refine ⟨b1,λt=>?_⟩
   rw [a3]
   exact Ep (λt=>AV.inS_mono (λb hb=>Nat.lt_of_lt_of_le hb b3) _ (h2 t)) b2 t
 refine ⟨λj o ho=>(hs j o ho).1,λj o ho=>(hs j o ho).2.1,λj o ho=>(hs j o ho).2.2,hwf,λj hj=>?_⟩
 obtain ⟨h1,h2⟩:=hwf j (by omega)
 have ho:ops[j]?=some (ops[j]'hj):=Array.getElem?_eq_getElem _
 exact (Lz (hs j _ ho).1 h1 h2).2.2
theorem Tr.le (h:Tr P ops pins TM HH V) {i j:Nat} (hij:i<=j) (hj:j<=ops.size):(HH i).length<=(HH j).length:=by
 induction j with
 | zero=>
  obtain rfl:i=0:=by omega
  exact Nat.le_refl _
 | succ j ih=>
  rcases Nat.lt_or_ge i (j+1) with q | q
  ·exact Nat.le_trans (ih (by omega) (by omega)) (h.mono j (by omega))
  ·obtain rfl:i=j+1:=by omega
   exact Nat.le_refl _
theorem Tr.cons (h:Tr P ops pins TM HH V) {i j:Nat} (hij:i<=j) (hj:j<=ops.size) (hc:∀ k,i<=k->k<j->aX (HH k) (HH (k+1))):aX (HH i) (HH j):=by
 induction j with
 | zero=>
  obtain rfl:i=0:=by omega
  exact aX.refl _
 | succ j ih=>
  rcases Nat.lt_or_ge i (j+1) with q | q
  ·intro b hb
   rw [hc j (by omega) (by omega) b (Nat.lt_of_lt_of_le hb (h.le (by omega) (by omega)))]
   exact ih (by omega) (by omega) (λk h1 h2=>hc k h1 (by omega)) b hb
  ·obtain rfl:i=j+1:=by omega
   exact aX.refl _
theorem Tr.slot (h:Tr P ops pins TM HH V) (hd:DrawS ops nt tbl pins) (t:Nat):∀ j,j<=ops.size ->
  (∀ (k:Nat) (o:Oper),k<j->ops[k]?=some o->o.dst=some t->TM j t=V k)/\((∀ (k:Nat) (o:Oper),k<j->ops[k]?=some o->o.dst≠some t)->TM j t=TM 0 t):=by
 intro j
 induction j with
 | zero=>exact λ_=>⟨λk o hk=>absurd hk (by omega),λ_=>rfl⟩
 | succ j ih=>
  intro hj
  obtain ⟨h1,h2⟩:=ih (by omega)
  have ho:ops[j]?=some (ops[j]'(by omega)):=Array.getElem?_eq_getElem _
  generalize ops[j]'(by omega)=oj at ho
  have e:=h.tm j oj ho
  refine ⟨λk o hk hko hkd=>?_,λhn=>?_⟩
  ·rw [e]
   by_cases ek:k=j
   ·subst ek
    rw [ho] at hko;cases hko
    rw [hkd];simp [Tm.putO,Tm.put_eq]
   ·have hne:=(hd.dst k j o oj t hko ho ek hkd).1
    have:(TM j).putO oj.dst (V j) t=TM j t:=by
     cases hdd:oj.dst with
     | none=>rfl
     | some d=>simp only [Tm.putO,Tm.put_eq];rw [if_neg (λq=>hne (by rw [hdd,q]))]
    rw [this]
    exact h1 k o (by omega) hko hkd
  ·rw [e]
   have:(TM j).putO oj.dst (V j) t=TM j t:=by
    cases hdd:oj.dst with
    | none=>rfl
    | some d=>simp only [Tm.putO,Tm.put_eq];rw [if_neg (λq=>hn j oj (by omega) ho (by rw [hdd,q]))]
   rw [this]
   exact h2 (λk o hk=>hn k o (by omega))
end
end Go.AE
end
section
namespace Go.AE
open Classical
variable {R:Type} {P:Program} {r:R}
section
variable {ops:Array Oper} {nt:Nat} {tbl:List (List Nat)} {pins:List Nat} {TM:Nat->Tm} {HH:Nat->Hp} {V:Nat->AV}
def Ls (listed:Array Bool) (i:Nat):Prop:=listed.getD i false=true
def SE (S:Nat->Prop) (n:Nat) (HH:Nat->Hp) (L:Nat->Prop) (b:Nat):Prop:=S b\/∃ i,i<n/\L i/\(HH i).length<=b/\b<(HH (i+1)).length
def uf (ops:Array Oper) (i:Nat):Prop:=∀ o,ops[i]?=some o->dd o=false
structure Inv (ops:Array Oper) (nt:Nat) (TM:Nat->Tm) (HH:Nat->Hp) (V:Nat->AV) (Φs:Phi) (S:Nat->Prop) (ws:World) (listed:Array Bool) (a:Act) (w:World) (Φ:Phi) (p q:Nat):Prop where
 size:listed.size=ops.size
 closed:∀ (k:Nat) (o:Oper),Ls listed k->ops[k]?=some o->∀ e∈o.after,Region.binds .any e=true->Ls listed e.on
 pq:p<=q/\q<=ops.size
 h1:∀ i,i<p->uf ops i->Ls listed i
 h2:∀ i,q<=i->i<ops.size->uf ops i->¬ Ls listed i
 h3:∀ i,p<=i->i<q->aX (HH i) (HH (i+1))
 h4:q=ops.size\/¬ aX (HH q) (HH (q+1))
 post:PostS Φs S (HH 0) ws Φ (SE S ops.size HH (Ls listed)) (HH q) w
 defers:a.defers=[]
 asize:a.tmps.size=nt
 val:∀ t,((∀ (k:Nat) (o:Oper),Ls listed k->ops[k]?=some o->o.dst=some t->a.tmps.getD t undef=(V k).toV Φ/\(V k).ok Φ (SE S ops.size HH (Ls listed))) /\
  ((∀ (k:Nat) (o:Oper),Ls listed k->ops[k]?=some o->o.dst≠some t)->a.tmps.getD t undef=(TM 0 t).toV Φ/\(TM 0 t).ok Φ (SE S ops.size HH (Ls listed))))
theorem qq (hd:DrawS ops nt tbl pins) {L:Nat->Prop} (hc:∀ (k:Nat) (o:Oper),L k->ops[k]?=some o->∀ e∈o.after,Region.binds .any e=true->L e.on) :
  ∀ (j:Nat) (o:Oper),ops[j]?=some o->(∀ e∈o.after,Region.binds .any e=true->L e.on)->∀ i,fi tbl i j=true->L i:=by
 intro j
 induction j using Nat.strongRecOn with
 | _ j ih=>
  intro o ho hp i ha
  have hjn:j<ops.size:=(Array.getElem?_eq_some_iff.1 ho).1
  have hedge:∀ k,ue ops k j=true->L k:=λk hk=>by
   unfold ue at hk
   rw [ho] at hk
   simp only at hk
   obtain ⟨e,he,hb⟩:=Array.any_eq_true'.1 hk
   simp only [Bool.and_eq_true,beq_iff_eq] at hb
   rw [<- hb.2]
   exact hp e he hb.1
  rcases (hd.tblp i j hjn ha).2 with q | ⟨k,hk,hek,hak⟩
  ·exact hedge i q
  ·have hok:ops[k]?=some (ops[k]'(by omega)):=Array.getElem?_eq_getElem _
   have hLk:=hedge k hek
   exact ih k hk _ hok (hc k _ hLk hok) i hak
theorem Er (ops:Array Oper) (HH:Nat->Hp):∀ (d p:Nat),ops.size - p=d->p<=ops.size->∃ q,p<=q/\q<=ops.size/\(∀ i,p<=i->i<q->aX (HH i) (HH (i+1)))/\(q=ops.size\/¬ aX (HH q) (HH (q+1)))
 | 0,p,hd,hp=>⟨p,Nat.le_refl _,hp,λi h1 h2=>absurd h1 (by omega),.inl (by omega)⟩
 | d+1,p,hd,hp=>by
  by_cases c:aX (HH p) (HH (p+1))
  ·obtain ⟨q,h1,h2,h3,h4⟩:=Er ops HH d (p+1) (by omega) (by omega)
   refine ⟨q,by omega,h2,λi hi hq=>?_,h4⟩
   by_cases e:i=p
   ·subst e;exact c
   ·exact h3 i (by omega) hq
  ·exact ⟨p,Nat.le_refl _,hp,λi h1 h2=>absurd h1 (by omega),.inr c⟩
theorem fe {listed:Array Bool} {i j:Nat} (hi:i<listed.size):Ls (listed.setIfInBounds i true) j↔(Ls listed j\/j=i):=by
 unfold Ls
 simp only [Array.getD_eq_getD_getElem?]
 by_cases e:j=i
 ·subst e;simp [hi]
 ·rw [Array.getElem?_setIfInBounds_ne (λq=>e q.symm)];simp [e]
theorem ug {S:Nat->Prop} {n i:Nat} {L L':Nat->Prop} (hL:∀ j,L' j↔(L j\/j=i)) (hi:i<n) :
  SE S n HH L'=λb=>SE S n HH L b\/((HH i).length<=b/\b<(HH (i+1)).length):=by
 funext b
 apply propext
 constructor
 ·rintro (hb | ⟨j,h1,h2,h3⟩)
  ·exact .inl (.inl hb)
  ·rcases (hL j).1 h2 with q | rfl
   ·exact .inl (.inr ⟨j,h1,q,h3⟩)
   ·exact .inr h3
 ·rintro ((hb | ⟨j,h1,h2,h3⟩) | hb)
  ·exact .inl hb
  ·exact .inr ⟨j,h1,(hL j).2 (.inl h2),h3⟩
  ·exact .inr ⟨i,hi,(hL i).2 (.inr rfl),hb⟩
variable {Φs:Phi} {S:Nat->Prop} {ws:World}
theorem Inv.slots (hd:DrawS ops nt tbl pins) (tr:Tr P ops pins TM HH V) {listed:Array Bool} {a:Act} {w:World} {Φ:Phi} {p q:Nat} (I:Inv ops nt TM HH V Φs S ws listed a w Φ p q)
  {i:Nat} {o:Oper} (ho:ops[i]?=some o) (hr:∀ e∈o.after,Region.binds .any e=true->Ls listed e.on) (hni:¬ Ls listed i) (t:Nat) (ht:ko ops o t=true) :
  a.tmps.getD t undef=(TM i t).toV Φ/\(TM i t).ok Φ (SE S ops.size HH (Ls listed)):=by
 have hin:i<ops.size:=(Array.getElem?_eq_some_iff.1 ho).1
 have hah:=qq hd I.closed i o ho hr
 obtain ⟨s1,s2⟩:=tr.slot hd t i (by omega)
 by_cases hex:∃ (k:Nat) (ok:Oper),ops[k]?=some ok/\ok.dst=some t
 ·obtain ⟨k,ok,hk,hkd⟩:=hex
  have hne:k≠i:=by
   rintro rfl
   rw [ho] at hk;cases hk
   have:=hd.self k o t ho hkd
   rw [this] at ht;cases ht
  rcases (hd.dst k i ok o t hk ho hne hkd).2 ht with ha | ha
  ·have hlt:=(hd.tblp k i hin ha).1
   rw [s1 k ok hlt hk hkd]
   exact (I.val t).1 k ok (hah k ha) hk hkd
  ·have hkn:k<ops.size:=(Array.getElem?_eq_some_iff.1 hk).1
   have hlt:=(hd.tblp i k hkn ha).1
   have hone:∀ (j:Nat) (oj:Oper),ops[j]?=some oj->oj.dst=some t->j=k:=λj oj hj hjd=>by
    rcases Nat.decEq j k with e | e
    ·exact absurd hjd (hd.dst k j ok oj t hk hj (λq=>e q.symm) hkd).1
    ·exact e
   have hkl:¬ Ls listed k:=λhL=>hni (qq hd I.closed k ok hk (I.closed k ok hL hk) i ha)
   rw [s2 (λj oj hj hjo hjd=>by have:=hone j oj hjo hjd;omega)]
   exact (I.val t).2 (λj oj hj hjo hjd=>hkl (by rw [<- hone j oj hjo hjd];exact hj))
 ·have hno:∀ (k:Nat) (ok:Oper),ops[k]?=some ok->ok.dst≠some t:=λk ok hk hkd=>hex ⟨k,ok,hk,hkd⟩
  rw [s2 (λk ok _ hk=>hno k ok hk)]
  exact (I.val t).2 (λk ok _ hk=>hno k ok hk)
theorem Inv.val' (hd:DrawS ops nt tbl pins) {listed:Array Bool} {a:Act} {w:World} {Φ Φ':Phi} {p q:Nat} (I:Inv ops nt TM HH V Φs S ws listed a w Φ p q)
  {i:Nat} {o:Oper} (ho:ops[i]?=some o) (hni:¬ Ls listed i) {S':Nat->Prop} (hag:Φ.agree Φ' (SE S ops.size HH (Ls listed))) (hS:∀ b,SE S ops.size HH (Ls listed) b->S' b) (hv:(V i).ok Φ' S') :
  ∀ t,((∀ (k:Nat) (ok:Oper),Ls (listed.setIfInBounds i true) k->ops[k]?=some ok->ok.dst=some t->(a.put o.dst ((V i).toV Φ')).tmps.getD t undef=(V k).toV Φ'/\(V k).ok Φ' S') /\
   ((∀ (k:Nat) (ok:Oper),Ls (listed.setIfInBounds i true) k->ops[k]?=some ok->ok.dst≠some t)->(a.put o.dst ((V i).toV Φ')).tmps.getD t undef=(TM 0 t).toV Φ'/\(TM 0 t).ok Φ' S')):=by
 have hin:i<ops.size:=(Array.getElem?_eq_some_iff.1 ho).1
 have hil:i<listed.size:=by rw [I.size];exact hin
 have hopk:=hd.oper i o ho
 simp only [mo,Bool.and_eq_true] at hopk
 have hput:∀ t,(a.put o.dst ((V i).toV Φ')).tmps.getD t undef=if o.dst=some t then (V i).toV Φ' else a.tmps.getD t undef:=λt=>by
  cases hdd:o.dst with
  | none=>simp [Act.put]
  | some d=>
   have hdn:d<nt:=by have:=hopk.1;rw [hdd] at this;simpa using this
   simp only [Act.put]
   rw [VH (by rw [I.asize];exact hdn)]
   by_cases e:t=d
   ·subst e;simp
   ·rw [if_neg e,if_neg (by simpa using λq=>e q.symm)]
 have up:∀ {v:AV} {x:Value},x=v.toV Φ->v.ok Φ (SE S ops.size HH (Ls listed))->x=v.toV Φ'/\v.ok Φ' S':=λh1 h2=>⟨by rw [AV.toV_agree hag _ (AV.ok_inS _ h2)];exact h1,AV.ok_agree hag hS _ h2⟩
 intro t
 refine ⟨λk ok hk hko hkd=>?_,λhn=>?_⟩
 ·rw [hput t]
  rcases (fe hil).1 hk with hk | rfl
  ·have hne:i≠k:=λe=>hni (e ▸ hk)
   rw [if_neg (λq=>(hd.dst i k o ok t ho hko hne q).1 hkd)]
   obtain ⟨q1,q2⟩:=(I.val t).1 k ok hk hko hkd
   exact up q1 q2
  ·rw [ho] at hko;cases hko
   rw [if_pos hkd]
   exact ⟨rfl,hv⟩
 ·rw [hput t,if_neg (hn i o ((fe hil).2 (.inr rfl)) ho)]
  obtain ⟨q1,q2⟩:=(I.val t).2 (λk ok hk=>hn k ok ((fe hil).2 (.inl hk)))
  exact up q1 q2
end
end Go.AE
end
section
namespace Go.AE
open Classical
variable {R:Type} {P:Program} {r:R}
section
variable {ops:Array Oper} {nt:Nat} {tbl:List (List Nat)} {pins:List Nat} {TM:Nat->Tm} {HH:Nat->Hp} {V:Nat->AV} {Φs:Phi} {S:Nat->Prop} {ws:World}
theorem Inv.closed' {listed:Array Bool} {a:Act} {w:World} {Φ:Phi} {p q:Nat} (I:Inv ops nt TM HH V Φs S ws listed a w Φ p q) {i:Nat} {o:Oper} (ho:ops[i]?=some o)
  (hr:∀ e∈o.after,Region.binds .any e=true->Ls listed e.on):∀ (k:Nat) (ok:Oper),Ls (listed.setIfInBounds i true) k->ops[k]?=some ok->∀ e∈ok.after,Region.binds .any e=true->Ls (listed.setIfInBounds i true) e.on:=by
 have hil:i<listed.size:=by rw [I.size];exact (Array.getElem?_eq_some_iff.1 ho).1
 intro k ok hk hko e he hb
 refine (fe hil).2 (.inl ?_)
 rcases (fe hil).1 hk with hk | rfl
 ·exact I.closed k ok hk hko e he hb
 ·rw [ho] at hko;cases hko;exact hr e he hb
theorem Inv.quiet (hd:DrawS ops nt tbl pins) {listed:Array Bool} {a:Act} {w:World} {Φ:Phi} {p q:Nat} (I:Inv ops nt TM HH V Φs S ws listed a w Φ p q)
  {i:Nat} {o:Oper} (ho:ops[i]?=some o) (hr:∀ e∈o.after,Region.binds .any e=true->Ls listed e.on) (hni:¬ Ls listed i)
  (hsame:HH (i+1)=HH i) (hv:(V i).ok Φ (SE S ops.size HH (Ls listed))) (hnw:dd o=true\/(p<=i/\i<q)\/(q<=i->i=q->False)) (hq:dd o=false->i<q) :
  Inv ops nt TM HH V Φs S ws (listed.setIfInBounds i true) (a.put o.dst ((V i).toV Φ)) w Φ p q:=by
 have hin:i<ops.size:=(Array.getElem?_eq_some_iff.1 ho).1
 have hil:i<listed.size:=by rw [I.size];exact hin
 have hse:SE S ops.size HH (Ls (listed.setIfInBounds i true))=SE S ops.size HH (Ls listed):=by
  rw [ug (λj=>fe hil) hin]
  funext b
  rw [hsame]
  exact propext ⟨λh=>h.elim id (λh=>by omega),.inl⟩
 refine ⟨by simp [I.size],I.closed' ho hr,I.pq,λj hj hl=>(fe hil).2 (.inl (I.h1 j hj hl)),λj hj hjn hl hL=>?_,I.h3,I.h4,by rw [hse];exact I.post,?_,?_,?_⟩
 ·rcases (fe hil).1 hL with hL | rfl
  ·exact I.h2 j hj hjn hl hL
  ·have:=hq (hl o ho)
   omega
 ·cases o.dst <;> simp [Act.put,I.defers]
 ·cases o.dst <;> simp [Act.put,I.asize]
 ·rw [hse]
  exact I.val' hd ho hni (Phi.agree_refl _ _) (λb hb=>hb) hv
theorem Inv.loud (hd:DrawS ops nt tbl pins) (tr:Tr P ops pins TM HH V) (hS0:∀ b,S b->b<(HH 0).length) {listed:Array Bool} {a:Act} {w:World} {Φ:Phi} {p q:Nat} (I:Inv ops nt TM HH V Φs S ws listed a w Φ p q)
  {i:Nat} {o:Oper} (ho:ops[i]?=some o) (hr:∀ e∈o.after,Region.binds .any e=true->Ls listed e.on) (hni:¬ Ls listed i) (hloud:dd o=false)
  (hot:OT P o (opv (TM i)) (HH i) (V i) (HH (i+1))) {next:Act->World->Prop} {Q:Exit->Act->World->Prop}
  (hnext:∀ Φ' w' p' q',Inv ops nt TM HH V Φs S ws (listed.setIfInBounds i true) (a.put o.dst ((V i).toV Φ')) w' Φ' p' q'->next (a.put o.dst ((V i).toV Φ')) w'):o.wp P a w next Q:=by
 have hin:i<ops.size:=(Array.getElem?_eq_some_iff.1 ho).1
 have hil:i<listed.size:=by rw [I.size];exact hin
 have hah:=qq hd I.closed i o ho hr
 have hLoud:uf ops i:=λo' ho'=>by rw [ho] at ho';cases ho';exact hloud
 have hpi:p<=i:=by
  rcases Nat.lt_or_ge i p with h | h
  ·exact absurd (I.h1 i h hLoud) hni
  ·exact h
 -- what may write is pinned,and loud
 have hwr:∀ j,j<ops.size->¬ aX (HH j) (HH (j+1))->pins.contains j=true/\uf ops j:=λj hj hc=>by
  have hoj:ops[j]?=some ops[j]:=Array.getElem?_eq_getElem hj
  refine ⟨(tr.pinc j _ hoj).resolve_right hc,λo' ho'=>?_⟩
  rw [hoj] at ho';cases ho'
  cases hs:dd ops[j] with
  | false=>rfl
  | true=>
   exfalso
   rcases tr.step j _ hoj with ⟨_,_,h⟩ | ⟨d,want,_,_,_,h⟩
   ·exact hc ((h hs).2 ▸ aX.refl _)
   ·exact hc (h ▸ aX.refl _)
 have hiq:i<=q:=by
  rcases Nat.lt_or_ge q i with h | h
  ·exfalso
   rcases I.h4 with h4 | h4
   ·omega
   ·obtain ⟨w1,w2⟩:=hwr q (by omega) h4
    rcases hd.pin i q o ho (by omega) w1 (by omega) hloud with h5 | h5
    ·have:=(hd.tblp i q (by omega) h5).1;omega
    ·exact I.h2 q (Nat.le_refl _) (by omega) w2 (hah q h5)
  ·exact h
 have hcons:aX (HH i) (HH q):=tr.cons hiq I.pq.2 (λk h1 h2=>I.h3 k (by omega) h2)
 have hwfi:=(tr.wf i (by omega)).1
 have hag:∀ b,b<(HH i).length->(HH q)[b]?=(HH i)[b]?:=hcons
 have hrel:=I.post.rel
 have hrr:=hrel.restrict hag hwfi
 have hopk:=hd.oper i o ho
 simp only [mo,Bool.and_eq_true] at hopk
 have hslots:=λt ht=>I.slots hd tr ho hr hni t ht
 have hbnd:=(tr.wf i (by omega)).2
 refine hot.run hwfi Φ _ w a next Q hrr (λx hx=>?_) (λΦ1 w1 hp1 hv1=>?_)
 ·have hxk:qR x=true:=Array.all_eq_true_iff_forall_mem.1 hopk.2 x hx
  cases x with
  | tmp t=>
   obtain ⟨q1,q2⟩:=hslots t (Eo hx)
   exact ⟨q1,AV.ok_and _ q2 (hbnd t)⟩
  | const v=>exact ⟨(v_ Φ hxk).symm,wa Φ _ v⟩
  | func f=>exact ⟨by simp [Act.eval,opv,AV.toV,AV.toVs],by simp [opv,AV.ok,AV.oks]⟩
  | global g=>cases hxk
 ·-- the new blocks were not known before
  have hnew:∀ b,SE S ops.size HH (Ls listed) b->¬ ((HH i).length<=b/\b<(HH (i+1)).length):=by
   rintro b (hb | ⟨j,hj,hL,h1,h2⟩) ⟨h3,h4⟩
   ·have:=hS0 b hb
    have:=tr.le (Nat.zero_le i) (by omega)
    omega
   ·rcases Nat.lt_trichotomy j i with h | h | h
    ·have:=tr.le (i:=j+1) (j:=i) (by omega) (by omega);omega
    ·subst h;exact hni hL
    ·have:=tr.le (i:=i+1) (j:=j) (by omega) (by omega);omega
  by_cases hlt:i<q
  ·-- no write
   have hcons1:aX (HH (i+1)) (HH q):=tr.cons (by omega) I.pq.2 (λk h1 h2=>I.h3 k (by omega) h2)
   obtain ⟨Φ2,a1,hps⟩:=En hrel hag hp1 (H':=HH q) hcons1 (tr.le (by omega) I.pq.2) (Nat.le_refl _) hnew (λb _ _=>rfl)
   have hse:SE S ops.size HH (Ls (listed.setIfInBounds i true))=λb=>SE S ops.size HH (Ls listed) b\/((HH i).length<=b/\b<(HH (i+1)).length):=ug (λj=>fe hil) hin
   have hv2:(V i).ok Φ2 (SE S ops.size HH (Ls (listed.setIfInBounds i true))):=by
    rw [hse]
    refine AV.ok_agree a1 (λb hb=>?_) _ hv1
    rcases hb with hb | hb
    ·exact .inl hb.1
    ·exact .inr hb
   have hveq:(V i).toV Φ1=(V i).toV Φ2:=(AV.toV_agree a1 _ (AV.ok_inS _ hv1)).symm
   rw [hveq]
   refine hnext Φ2 w1 p q ⟨by simp [I.size],I.closed' ho hr,I.pq,λj hj hl=>(fe hil).2 (.inl (I.h1 j hj hl)),λj hj hjn hl hL=>?_,I.h3,I.h4,?_,?_,?_,?_⟩
   ·rcases (fe hil).1 hL with hL | rfl
    ·exact I.h2 j hj hjn hl hL
    ·omega
   ·rw [hse];exact I.post.trans hps
   ·cases o.dst <;> simp [Act.put,I.defers]
   ·cases o.dst <;> simp [Act.put,I.asize]
   ·exact I.val' hd ho hni hps.agree (λb hb=>by rw [hse];exact .inl hb) hv2
  ·-- the place that may write
   obtain rfl:i=q:=by omega
   have hnc:¬ aX (HH i) (HH (i+1)):=I.h4.resolve_left (by omega)
   have hpin:=(hwr i hin hnc).1
   have hall:∀ j,j<i->uf ops j->Ls listed j:=λj hj hl=>by
    have hoj:ops[j]?=some (ops[j]'(by omega)):=Array.getElem?_eq_getElem _
    rcases hd.pin j i _ hoj hin hpin (by omega) (hl _ hoj) with h5 | h5
    ·exact hah j h5
    ·have:=(hd.tblp i j (by omega) h5).1;omega
   obtain ⟨Φ2,a1,hps⟩:=En hrel hag hp1 (H':=HH (i+1)) (λ_ _=>rfl) (Nat.le_refl _) (tr.mono i hin) hnew (λb hb hge=>by
    exfalso
    have:=hrel.lt b hb
    have:=tr.mono i hin
    omega)
   have hse:SE S ops.size HH (Ls (listed.setIfInBounds i true))=λb=>SE S ops.size HH (Ls listed) b\/((HH i).length<=b/\b<(HH (i+1)).length):=ug (λj=>fe hil) hin
   have hv2:(V i).ok Φ2 (SE S ops.size HH (Ls (listed.setIfInBounds i true))):=by
    rw [hse]
    refine AV.ok_agree a1 (λb hb=>?_) _ hv1
    rcases hb with hb | hb
    ·exact .inl hb.1
    ·exact .inr hb
   have hveq:(V i).toV Φ1=(V i).toV Φ2:=(AV.toV_agree a1 _ (AV.ok_inS _ hv1)).symm
   rw [hveq]
   obtain ⟨q',g1,g2,g3,g4⟩:=Er ops HH _ (i+1) rfl (by omega)
   refine hnext Φ2 w1 (i+1) q' ⟨by simp [I.size],I.closed' ho hr,⟨g1,g2⟩,λj hj hl=>?_,λj hj hjn hl hL=>?_,g3,g4,?_,?_,?_,?_⟩
   ·by_cases e:j=i
    ·subst e;exact (fe hil).2 (.inr rfl)
    ·exact (fe hil).2 (.inl (hall j (by omega) hl))
   ·rcases (fe hil).1 hL with hL | rfl
    ·exact I.h2 j (by omega) hjn hl hL
    ·omega
   ·rw [hse]
    have hcq:aX (HH (i+1)) (HH q'):=tr.cons g1 g2 g3
    have hp2:=I.post.trans hps
    -- the heap further on,where nothing is written
    refine ⟨hp2.agree,hp2.sub,?_,?_,hp2.os,hp2.tape,hp2.output,hp2.size,hp2.frame,?_⟩
    ·have hr2:=hp2.rel
     have key:∀ b,(SE S ops.size HH (Ls listed) b\/((HH i).length<=b/\b<(HH (i+1)).length))->(HH q')[b]?=(HH (i+1))[b]?:=λb hb=>hcq b (hr2.lt b hb)
     exact ⟨λb hb=>Nat.lt_of_lt_of_le (hr2.lt b hb) (tr.le g1 g2),λb blk hb hx=>hr2.closed b blk hb (by rw [<- key b hb];exact hx),λb blk hb hx=>hr2.cell b blk hb (by rw [<- key b hb];exact hx),
      λb blk hb hx=>hr2.own b blk hb (by rw [<- key b hb];exact hx),λb blk b' blk' hb hb' hx hx'=>hr2.inj b blk b' blk' hb hb' (by rw [<- key b hb];exact hx) (by rw [<- key b' hb'];exact hx'),
      λb blk b' blk' hb hb' hx hx'=>hr2.ro b blk b' blk' hb hb' (by rw [<- key b hb];exact hx) (by rw [<- key b' hb'];exact hx')⟩
    ·have hr2:=hp2.rel
     rintro k hk ⟨b,blk,hb,hx,hrest⟩
     exact hp2.own k hk ⟨b,blk,hb,by rw [<- hcq b (hr2.lt b hb)];exact hx,hrest⟩
    ·have hr2:=hp2.rel
     intro b blk hb hx hl ho'
     exact hp2.rok b blk hb (by rw [<- hcq b (hr2.lt b hb)];exact hx) hl ho'
   ·cases o.dst <;> simp [Act.put,I.defers]
   ·cases o.dst <;> simp [Act.put,I.asize]
   ·exact I.val' hd ho hni hps.agree (λb hb=>by rw [hse];exact .inl hb) hv2
end
end Go.AE
end
section
namespace Go.AE
open Classical
variable {R:Type} {P:Program} {r:R}
section
variable {ops:Array Oper} {nt:Nat} {tbl:List (List Nat)} {pins:List Nat} {TM:Nat->Tm} {HH:Nat->Hp} {V:Nat->AV} {Φs:Phi} {S:Nat->Prop} {ws:World}
theorem LA {o:Oper} {a:Act} {Φ:Phi} {d:Nat} {want b:Bool} (hg:lb ops o=some (d,want)) (hv:a.tmps.getD d undef=(AV.bool b).toV Φ):Region.wanted o (yielded ops a.tmps)=(b==want):=by
 unfold lb at hg
 unfold Region.wanted
 cases hgu:o.guard with
 | none=>simp [hgu] at hg
 | some p=>
  obtain ⟨j,w⟩:=p
  simp only [hgu] at hg ⊢
  cases hj:(ops[j]?).bind (·.dst) with
  | none=>simp [hj] at hg
  | some d'=>
   simp [hj] at hg
   obtain ⟨rfl,rfl⟩:=hg
   unfold yielded
   simp only [hj,Option.bind_some]
   simp only [AV.toV,Array.getD_eq_getD_getElem?] at hv
   cases hx:a.tmps[d']? with
   | none=>rw [hx] at hv;simp [undef] at hv
   | some u=>
    rw [hx] at hv
    simp at hv
    subst hv
    cases b <;> cases w <;> rfl
theorem Inv.all (hd:DrawS ops nt tbl pins) (tr:Tr P ops pins TM HH V) (hS0:∀ b,S b->b<(HH 0).length) {Q:Exit->Act->World->Prop}
  (hq:∀ listed a w Φ p q,Inv ops nt TM HH V Φs S ws listed a w Φ p q->(∀ i,i<ops.size->Ls listed i)->Q .normal a w) :
  ∀ (fuel:Nat) (listed:Array Bool) (a:Act) (w:World) (Φ:Phi) (p q:Nat) (l:List Nat),Inv ops nt TM HH V Φs S ws listed a w Φ p q->l.length<=fuel->(∀ i,i<ops.size->¬ Ls listed i->i∈l) ->
   wpAny P .any ops Q fuel listed a w:=by
 intro fuel
 induction fuel with
 | zero=>
  intro listed a w Φ p q l I hl hm
  have hall:∀ i,i<ops.size->Ls listed i:=λi hi=>Classical.byContradiction λh=>by
   have:=hm i hi h
   have:l=[]:=List.eq_nil_of_length_eq_zero (by omega)
   simp_all
  refine ⟨?_,hq listed a w Φ p q I hall⟩
  apply List.eq_nil_iff_forall_not_mem.2
  intro i hi
  obtain ⟨h0,o,ho,_⟩:=mem_ready.1 hi
  have hin:i<ops.size:=(Array.getElem?_eq_some_iff.1 ho).1
  have:=hall i hin
  unfold Ls at this
  simp only [Array.getD_eq_getD_getElem?] at h0 this
  rw [Array.getElem?_eq_getElem (by rw [I.size];exact hin)] at h0 this
  simp at h0 this
  rw [h0] at this;cases this
 | succ fuel ih=>
  intro listed a w Φ p q l I hl hm
  refine ⟨λhr=>?_,λi hi=>?_⟩
  ·-- nothing is ready: all are listed
   have hall:∀ i,i<ops.size->Ls listed i:=by
    intro i
    induction i using Nat.strongRecOn with
    | _ i ihi=>
     intro hin
     refine Classical.byContradiction λh=>?_
     have ho:ops[i]?=some ops[i]:=Array.getElem?_eq_getElem hin
     have hmem:i∈Region.ready .any ops listed:=by
      refine mem_ready.2 ⟨?_,ops[i],ho,λe he hb=>?_⟩
      ·unfold Ls at h
       simp only [Array.getD_eq_getD_getElem?] at h ⊢
       rw [Array.getElem?_eq_getElem (by rw [I.size];exact hin)] at h ⊢
       simpa using h
      ·have hlt:=hd.back i _ ho e he hb
       exact ihi e.on hlt (by omega)
     rw [hr] at hmem
     cases hmem
   exact hq listed a w Φ p q I hall
  ·obtain ⟨h0,o,ho,hr⟩:=mem_ready.1 hi
   have hin:i<ops.size:=(Array.getElem?_eq_some_iff.1 ho).1
   have hil:i<listed.size:=by rw [I.size];exact hin
   have hni:¬ Ls listed i:=by
    unfold Ls
    simp only [Array.getD_eq_getD_getElem?] at h0 ⊢
    rw [Array.getElem?_eq_getElem hil] at h0 ⊢
    simpa using h0
   have hil2:i∈l:=hm i hin hni
   have hl':(l.erase i).length<=fuel:=by
    rw [List.length_erase_of_mem hil2];omega
   have hm':∀ j,j<ops.size->¬ Ls (listed.setIfInBounds i true) j->j∈l.erase i:=λj hj hn=>by
    have h1:j≠i:=λe=>hn ((fe hil).2 (.inr e))
    have h2:¬ Ls listed j:=λe=>hn ((fe hil).2 (.inl e))
    exact (List.mem_erase_of_ne h1).2 (hm j hj h2)
   have hr':∀ e∈o.after,Region.binds .any e=true->Ls listed e.on:=hr
   have hopk:=hd.oper i o ho
   simp only [mo,Bool.and_eq_true] at hopk
   have hslots:=λt ht=>I.slots hd tr ho hr' hni t ht
   unfold wpOp
   simp only [ho]
   rcases tr.step i o ho with ⟨hwant,hot,hsil⟩ | ⟨d,want,hg,htd,hv,hH⟩
   ·have hwd:Region.wanted o (yielded ops a.tmps)=true:=by
     rcases hwant with hg | ⟨d,want,hg,htd⟩
     ·unfold Region.wanted;rw [hg]
     ·have h1:=(hslots d (Ly hg)).1
      rw [htd] at h1
      rw [LA hg h1];cases want <;> rfl
    rw [if_pos hwd]
    refine .inl ?_
    cases hs:dd o with
    | true=>
     obtain ⟨hpv,hH⟩:=hsil hs
     have hops:∀ x∈o.op.operands,a.eval x=(opv (TM i) x).toV Φ/\(opv (TM i) x).ok Φ (SE S ops.size HH (Ls listed)):=λx hx=>by
      have hxk:qR x=true:=Array.all_eq_true_iff_forall_mem.1 hopk.2 x hx
      cases x with
      | tmp t=>exact hslots t (Eo hx)
      | const v=>exact ⟨(v_ Φ hxk).symm,wa Φ _ v⟩
      | func f=>exact ⟨by simp [Act.eval,opv,AV.toV,AV.toVs],by simp [opv,AV.ok,AV.oks]⟩
      | global g=>cases hxk
     have hse:∀ cs b,o.op≠.select cs b:=λcs b e=>by simp [dd,e] at hs
     have hrun:=hpv.run Φ _ (λx hx=>(hops x hx).2) w
     have he:execOp a.eval o=execOp (λx=>(opv (TM i) x).toV Φ) o:=execOp_congr o hse (λx hx=>(hops x hx).1)
     unfold Oper.wp
     rw [he,hrun,Oper.upon_value]
     exact ih _ _ _ Φ p q _ (I.quiet hd ho hr' hni hH (hpv.ok Φ _ (λx hx=>(hops x hx).2)) (.inl hs) (λq=>by rw [hs] at q;cases q)) hl' hm'
    | false=>
     exact I.loud hd tr hS0 ho hr' hni hs hot (λΦ' w' p' q' I'=>ih _ _ _ Φ' p' q' _ I' hl' hm')
   ·have h1:=(hslots d (Ly hg)).1
    have hwd:Region.wanted o (yielded ops a.tmps)=false:=by
     rcases htd with htd | htd <;> rw [htd] at h1
     ·rw [LA hg h1];cases want <;> rfl
     ·exact VI hg (by simpa [gE,AV.toV,AV.toVs,undef] using h1)
    rw [if_neg (by rw [hwd];simp)]
    have hvu:(V i).toV Φ=undef:=by rw [hv];simp [gE,AV.toV,AV.toVs,undef]
    have hvok:(V i).ok Φ (SE S ops.size HH (Ls listed)):=by rw [hv];simp [gE,AV.ok,AV.oks]
    rw [<- hvu]
    cases hs:dd o with
    | true=>exact ih _ _ _ Φ p q _ (I.quiet hd ho hr' hni hH hvok (.inl hs) (λq=>by rw [hs] at q;cases q)) hl' hm'
    | false=>
     -- passed by: it leaves the heap,so it stands fi of the next place that may write
     have hloud:uf ops i:=λo' ho'=>by rw [ho] at ho';cases ho';exact hs
     have hiq:i<q:=by
      rcases Nat.lt_or_ge i q with h | h
      ·exact h
      ·exfalso
       rcases I.h4 with h4 | h4
       ·omega
       ·have hqn:q<ops.size:=by omega
        have hoj:ops[q]?=some ops[q]:=Array.getElem?_eq_getElem hqn
        have w1:=(tr.pinc q _ hoj).resolve_right h4
        have w2:uf ops q:=λo' ho'=>by
         rw [hoj] at ho';cases ho'
         cases hs':dd ops[q] with
         | false=>rfl
         | true=>
          exfalso
          rcases tr.step q _ hoj with ⟨_,_,h⟩ | ⟨_,_,_,_,_,h⟩
          ·exact h4 ((h hs').2 ▸ aX.refl _)
          ·exact h4 (h ▸ aX.refl _)
        by_cases e:i=q
        ·subst e;exact h4 (hH ▸ aX.refl _)
        ·have hah:=qq hd I.closed i o ho hr'
         rcases hd.pin i q o ho hqn w1 e hs with h5 | h5
         ·have:=(hd.tblp i q hqn h5).1;omega
         ·exact I.h2 q (Nat.le_refl _) hqn w2 (hah q h5)
     exact ih _ _ _ Φ p q _ (I.quiet hd ho hr' hni hH hvok (.inr (.inr (λ_ e=>by omega))) (λ_=>hiq)) hl' hm'
theorem Tr.range (tr:Tr P ops pins TM HH V):∀ n,n<=ops.size->∀ b,(HH 0).length<=b->b<(HH n).length->∃ i,i<n/\(HH i).length<=b/\b<(HH (i+1)).length
 | 0,_,b,h1,h2=>by omega
 | n+1,hn,b,h1,h2=>by
  rcases Nat.lt_or_ge b (HH n).length with h | h
  ·obtain ⟨i,hi,h3,h4⟩:=tr.range n (by omega) b h1 h
   exact ⟨i,by omega,h3,h4⟩
  ·exact ⟨n,by omega,h,h2⟩
theorem ara {Y:Tabs} {C:Orc R} {rid:Nat} (hm:P.follows .mixedOrders=true) (hX:dR P Y.ty) (hC:COk P C) (hd:DrawS ops nt tbl pins) {Φ0:Phi} {S0:Nat->Prop} {H0:Hp} {w0:World} {Q:Exit->Act->World->Prop}
  {tm:Tm} {H:Hp} {K:Tm->Hp->Option R} {a:Act} {w:World} (h:nC Y C ops pins ops.toList 0 tm H K=some r) (hs:SR Φ0 S0 H0 w0 nt tm H a w)
  (hq:∀ tm' H' a' w',SR Φ0 S0 H0 w0 nt tm' H' a' w'->K tm' H'=some r->Q .normal a' w'):(Code.region rid ops true).wp P Q a w:=by
 obtain ⟨TM,HH,V,e1,e2,e3,e4⟩:=afl hX hC ops.toList 0 tm H K rfl (by simp) h
 obtain ⟨hw,Φ,hp,ht⟩:=hs
 subst e1 e2
 have hS0:∀ b,ext S0 H0 (HH 0) b->b<(HH 0).length:=hp.rel.lt
 have tr:Tr P ops pins TM HH V:=Tr.mk' (λj o ho=>e3 j o (Nat.zero_le _) ho) hw (λt=>AV.inS_mono hS0 _ (AV.ok_inS _ (ht.val t).2))
 refine wp_region_any hm ?_
 obtain ⟨q,g1,g2,g3,g4⟩:=Er ops HH _ 0 rfl (Nat.zero_le _)
 have hsize:(Array.replicate ops.size false).size=ops.size:=by simp
 have hnone:∀ i,¬ Ls (Array.replicate ops.size false) i:=λi=>by
  unfold Ls
  simp only [Array.getD_eq_getD_getElem?]
  by_cases hi:i<ops.size
  ·simp [hi]
  ·simp [hi]
 have hse:SE (ext S0 H0 (HH 0)) ops.size HH (Ls (Array.replicate ops.size false))=ext S0 H0 (HH 0):=by
  funext b
  exact propext ⟨λh=>h.elim id (λ⟨i,_,hL,_⟩=>absurd hL (hnone i)),.inl⟩
 have hcq:aX (HH 0) (HH q):=tr.cons (Nat.zero_le _) g2 g3
 have key:∀ b,ext S0 H0 (HH 0) b->(HH q)[b]?=(HH 0)[b]?:=λb hb=>hcq b (hS0 b hb)
 have I0:Inv ops nt TM HH V Φ (ext S0 H0 (HH 0)) w (Array.replicate ops.size false) a { w with drawn:=w.drawn+1 } Φ 0 q:=by
  refine ⟨hsize,λk o hk=>absurd hk (hnone k),⟨g1,g2⟩,λi hi=>absurd hi (Nat.not_lt_zero _),λi _ _ _=>hnone i,λi h1 h2=>g3 i h1 h2,g4,?_,ht.defers,ht.size,λt=>⟨λk o hk=>absurd hk (hnone k),λ_=>by rw [hse];exact ht.val t⟩⟩
  rw [hse]
  have hr:=hp.rel.drew (w.drawn+1)
  refine ⟨Phi.agree_refl _ _,λb hb=>hb,?_,?_,rfl,rfl,rfl,Nat.le_refl _,λ_ _ _=>rfl,λb blk hb hx _ _=>⟨hb,by rw [<- key b hb];exact hx⟩⟩
  ·exact ⟨λb hb=>Nat.lt_of_lt_of_le (hr.lt b hb) (tr.le (Nat.zero_le _) g2),λb blk hb hx=>hr.closed b blk hb (by rw [<- key b hb];exact hx),λb blk hb hx=>hr.cell b blk hb (by rw [<- key b hb];exact hx),
    λb blk hb hx=>hr.own b blk hb (by rw [<- key b hb];exact hx),λb blk b' blk' hb hb' hx hx'=>hr.inj b blk b' blk' hb hb' (by rw [<- key b hb];exact hx) (by rw [<- key b' hb'];exact hx'),
    λb blk b' blk' hb hb' hx hx'=>hr.ro b blk b' blk' hb hb' (by rw [<- key b hb];exact hx) (by rw [<- key b' hb'];exact hx')⟩
  ·rintro k hk ⟨b,blk,hb,hx,hrest⟩
   exact ⟨b,blk,hb,by rw [<- key b hb];exact hx,hrest⟩
 refine Inv.all hd tr hS0 (λlisted a' w' Φ' p' q' I hall=>?_) ops.size _ a _ Φ 0 q (List.range ops.size) I0 (by simp) (λi hi _=>List.mem_range.2 hi)
 -- all is done
 have hqn:q'=ops.size:=by
  rcases Nat.lt_or_ge q' ops.size with hlt | hge
  ·exfalso
   have h:=I.h4.resolve_left (by omega)
   have hoj:ops[q']?=some ops[q']:=Array.getElem?_eq_getElem hlt
   refine I.h2 q' (Nat.le_refl _) hlt (λo' ho'=>?_) (hall q' hlt)
   rw [hoj] at ho';cases ho'
   cases hs':dd ops[q'] with
   | false=>rfl
   | true=>
    exfalso
    rcases tr.step q' _ hoj with ⟨_,_,h'⟩ | ⟨_,_,_,_,_,h'⟩
    ·exact h ((h' hs').2 ▸ aX.refl _)
    ·exact h (h' ▸ aX.refl _)
  ·have:=I.pq.2;omega
 subst hqn
 have hle:=tr.le (Nat.zero_le ops.size) (Nat.le_refl _)
 have hseE:SE (ext S0 H0 (HH 0)) ops.size HH (Ls listed)=ext (ext S0 H0 (HH 0)) (HH 0) (HH ops.size):=by
  funext b
  apply propext
  constructor
  ·rintro (hb | ⟨i,hi,_,h1,h2⟩)
   ·exact .inl hb
   ·have:=tr.le (Nat.zero_le i) (by omega)
    have:=tr.le (i:=i+1) (j:=ops.size) (by omega) (Nat.le_refl _)
    exact .inr ⟨by omega,by omega⟩
  ·rintro (hb | ⟨h1,h2⟩)
   ·exact .inl hb
   ·obtain ⟨i,hi,h3,h4⟩:=tr.range ops.size (Nat.le_refl _) b h1 h2
    exact .inr ⟨i,hi,hall i hi,h3,h4⟩
 have hps:=I.post
 rw [hseE] at hps
 have hpost:Post Φ (ext S0 H0 (HH 0)) (HH 0) w Φ' (HH ops.size) w':=⟨hps.agree,hle,hps.rel,hps.own,hps.os,hps.tape,hps.output,hps.size,hps.frame,hps.rok⟩
 have hee:=Bt (S:=S0) hp.len hle
 refine hq (TM ops.size) (HH ops.size) a' w' ⟨(tr.wf _ (Nat.le_refl _)).1,Φ',hp.trans hpost,I.defers,I.asize,λt=>?_⟩ e4
 rw [<- hee,<-hseE]
 obtain ⟨s1,s2⟩:=tr.slot hd t ops.size (Nat.le_refl _)
 by_cases hex:∃ (k:Nat) (ok:Oper),ops[k]?=some ok/\ok.dst=some t
 ·obtain ⟨k,ok,hk,hkd⟩:=hex
  have hkn:k<ops.size:=(Array.getElem?_eq_some_iff.1 hk).1
  rw [s1 k ok hkn hk hkd]
  exact (I.val t).1 k ok (hall k hkn) hk hkd
 ·have hno:∀ (k:Nat) (ok:Oper),ops[k]?=some ok->ok.dst≠some t:=λk ok hk hkd=>hex ⟨k,ok,hk,hkd⟩
  rw [s2 (λk ok _ hk=>hno k ok hk)]
  exact (I.val t).2 (λk ok _ hk=>hno k ok hk)
end
end Go.AE
end
section
namespace Go.AE
open Classical
variable {R:Type} {P:Program} {r:R}
noncomputable def qj (v:AV) (H:Hp) (v':AV) (H':Hp):Option Unit:=if v'=v/\H'=H then some () else none
def kU (o:Oper):Bool:=match o.op with
 | .buildSlice _ _ parts=>parts.toList.all λq=>match q.2 with
  | .const _=>true
  | _=>false
 | _=>false
def Bs (r:OA) (v:AV) (H:Hp):Prop:=∃ (b n:Nat) (cells:List AV),v=.sl ⟨some (b,0),n,.ex n⟩/\r=some (.sl ⟨some (0,0),n,.ex n⟩,[⟨cells,true,true⟩])/\(∀ u∈cells,∃ k x,u=AV.int k x)/\(H.length<=b\/H[b]?=some ⟨cells,true,true⟩)
noncomputable def mkO (Y:Tabs) (o:Oper) (ρ:Operand->AV):OA:=aop (R:=AV×Hp) Y (λ_ _ _ _=>none) ρ o [] (λv H=>some (v,H))
def Stb (Y:Tabs) (o:Oper) (ρ:Operand->AV) (v:AV) (H:Hp):Prop:=
 bif kU o then Bs (mkO Y o ρ) v H else aop (R:=Unit) Y (λ_ _ _ _=>none) ρ o H (λv' H'=>qj v H v' H')=some ()
def VK (Y:Tabs) (l:Oper×(Operand->AV)×AV):List Hp->Prop
 | []=>True
 | h::hs=>Stb Y l.1 l.2.1 l.2.2 h/\VK Y l hs
def VL (Y:Tabs) (hs:List Hp):List (Oper×(Operand->AV)×AV)->Prop
 | []=>True
 | l::ls=>VK Y l hs/\VL Y hs ls
theorem afo {Y:Tabs} {l:Oper×(Operand->AV)×AV}:∀ {hs:List Hp},VK Y l hs->∀ h∈hs,Stb Y l.1 l.2.1 l.2.2 h
 | [],_,_,h=>by cases h
 | _::_,q,x,h=>by
  rcases List.mem_cons.1 h with rfl | h
  ·exact q.1
  ·exact afo q.2 x h
theorem afp {Y:Tabs} {hs:List Hp}:∀ {ls:List (Oper×(Operand->AV)×AV)},VL Y hs ls->∀ l∈ls,∀ h∈hs,Stb Y l.1 l.2.1 l.2.2 h
 | [],_,_,h=>by cases h
 | _::_,q,x,h=>by
  rcases List.mem_cons.1 h with rfl | h
  ·exact afo q.1
  ·exact afp q.2 x h
noncomputable def ifW (p:Prop) (x:Option R):Option R:=if p then x else none
theorem afq {p:Prop} {x:Option R} (h:ifW p x=some r):p/\x=some r:=by
 unfold ifW at h
 split at h
 ·rename_i q;exact ⟨q,h⟩
 ·cases h
theorem Stb.ot {Y:Tabs} {o:Oper} {ρ:Operand->AV} {v:AV} {H:Hp} (hX:dR P Y.ty) (hm:kU o=false) (h:Stb Y o ρ v H):OT P o ρ H v H:=by
 unfold Stb at h
 rw [hm,cond_false] at h
 obtain ⟨v',H',⟨h1,_,_⟩,h2⟩:=qp (P:=P) hX (λf args H K r h=>by cases h) h
 unfold qj at h2
 split at h2
 ·rename_i q;obtain ⟨rfl,rfl⟩:=q;exact h1
 ·cases h2
def lc (o:Oper):Bool:=match o.op with
 | .load ..=>true
 | _=>false
theorem afr {o:Oper} (h:lc o=true):kU o=false:=by
 unfold lc at h
 split at h
 ·rename_i t a ho
  unfold kU
  rw [ho]
 ·cases h
theorem afs {o:Oper} (h:kU o=true):dP o=true/\dd o=false/\∀ x∈o.op.operands,∃ v,x=.const v:=by
 unfold kU at h
 split at h
 ·rename_i t l parts ho
  refine ⟨by simp [dP,ho],by simp [dd,ho],λx hx=>?_⟩
  rw [ho] at hx
  simp only [Op.operands,List.mem_toArray,List.mem_map] at hx
  obtain ⟨q,hq,rfl⟩:=hx
  have:=List.all_eq_true.1 h q hq
  split at this
  ·exact ⟨_,by assumption⟩
  ·cases this
 ·cases h
theorem Stb.mk {Y:Tabs} {o:Oper} {ρ:Operand->AV} {v:AV} {H:Hp} (hX:dR P Y.ty) (hm:kU o=true) (h:Stb Y o ρ v H) :
  ∃ (b n:Nat) (cells:List AV),v=.sl ⟨some (b,0),n,.ex n⟩/\OT P o ρ [] (.sl ⟨some (0,0),n,.ex n⟩) [⟨cells,true,true⟩]/\(∀ u∈cells,∃ k x,u=AV.int k x)/\(H.length<=b\/H[b]?=some ⟨cells,true,true⟩):=by
 unfold Stb at h
 rw [hm,cond_true] at h
 obtain ⟨b,n,cells,e1,e2,e3,e4⟩:=h
 unfold mkO at e2
 obtain ⟨v',H',⟨h1,_,_⟩,h2⟩:=qp (P:=P) hX (λf args H K r h=>by cases h) e2
 obtain ⟨rfl,rfl⟩:=Prod.mk.inj (Option.some.inj h2)
 exact ⟨b,n,cells,e1,h1,e3,e4⟩
theorem arb {Y:Tabs} {C:Orc R} {o:Oper} {ρ:Operand->AV} {H:Hp} {K:AV->Hp->Option R} (hl:kU o=true):aop Y C ρ o H K=aop Y C ρ o H (λv H'=>if H'.length=H.length+1/\∃ n,v=.sl ⟨some (H.length,0),n,.ex n⟩ then K v H' else none):=by
 unfold kU at hl
 split at hl
 ·rename_i t l parts ho
  unfold aop
  simp [ho]
 ·cases hl
theorem arc {Y:Tabs} {C:Orc R} {o:Oper} {ρ:Operand->AV} {H:Hp} {K:AV->Hp->Option R} (hl:lc o=true):aop Y C ρ o H K=aop Y C ρ o H (λv H'=>if H'=H then K v H' else none):=by
 unfold lc at hl
 split at hl
 ·rename_i t a ho
  unfold aop
  simp only [ho,if_true]
 ·cases hl
theorem ard {Y:Tabs} {C:Orc R} {o:Oper} {ρ:Operand->AV} {H:Hp} {K:AV->Hp->Option R} (hX:dR P Y.ty) (hC:COk P C) (hl:lc o=true) (h:aop Y C ρ o H K=some r) :
  ∃ v,(OT P o ρ H v H/\(dd o=true->PV P o ρ v/\H=H)/\(dP o=true->aX H H))/\K v H=some r:=by
 rw [arc hl] at h
 obtain ⟨v,H',h1,h2⟩:=qp (P:=P) hX hC h
 split at h2
 ·rename_i q;subst q;exact ⟨v,h1,h2⟩
 ·cases h2
def qs (fin:Bool) (rest:List Oper) (o:Oper) (H':Hp) (hs:List Hp):List Hp:=bif dd o || lc o || (fin&&rest.isEmpty) then hs else H'::hs
noncomputable def mp (Y:Tabs) (C:Orc R) (ops:Array Oper) (pins stb:List Nat):List Oper->Nat->Tm->Hp->List Hp->List (Oper×(Operand->AV)×AV)->(Tm->Hp->Option R)->Option R
 | [],_,tm,H,hs,ls,K=>ifW (VL Y hs ls) (K tm H)
 | o::rest,i,tm,H,hs,ls,K=>match o.guard with
  | none=>aop Y C (opv tm) o H λv H'=>ud (pins.contains i) o H H' (mp Y C ops pins stb rest (i+1) (tm.putO o.dst v) H' (qs (pins.contains 999) rest o H' hs) (bif stb.contains i then (o,opv tm,v)::ls else ls) K)
  | some _=>bif stb.contains i then none else match lb ops o with
   | none=>none
   | some (d,want)=>match tm d with
    | .bool t=>
     bif t then (bif want then aop Y C (opv (tm.put d (.bool true))) o H λv H'=>ud (pins.contains i) o H H' (mp Y C ops pins stb rest (i+1) ((tm.put d (.bool true)).putO o.dst v) H' (qs (pins.contains 999) rest o H' hs) ls K)
      else mp Y C ops pins stb rest (i+1) ((tm.put d (.bool true)).putO o.dst gE) H (qs (pins.contains 999) rest o H hs) ls K)
     else (bif want then mp Y C ops pins stb rest (i+1) ((tm.put d (.bool false)).putO o.dst gE) H (qs (pins.contains 999) rest o H hs) ls K
      else aop Y C (opv (tm.put d (.bool false))) o H λv H'=>ud (pins.contains i) o H H' (mp Y C ops pins stb rest (i+1) ((tm.put d (.bool false)).putO o.dst v) H' (qs (pins.contains 999) rest o H' hs) ls K))
    | .tup []=>mp Y C ops pins stb rest (i+1) (tm.putO o.dst gE) H (qs (pins.contains 999) rest o H hs) ls K
    | _=>none
def Mk1 (H H':Hp) (v:AV):Prop:=aX H H'/\H'.length=H.length+1/\∃ n,v=.sl ⟨some (H.length,0),n,.ex n⟩
theorem VM {Y:Tabs} {C:Orc R} {o:Oper} {ρ:Operand->AV} {H:Hp} {K:AV->Hp->Option R} (hX:dR P Y.ty) (hC:COk P C) (h:aop Y C ρ o H K=some r) :
  ∃ v H',(OT P o ρ H v H'/\(dd o=true->PV P o ρ v/\H'=H)/\(dP o=true->aX H H'))/\((lc o=true->H'=H)/\(kU o=true->Mk1 H H' v))/\K v H'=some r:=by
 by_cases hl:lc o=true
 ·obtain ⟨v,a,b⟩:=ard (P:=P) hX hC hl h;exact ⟨v,H,a,⟨λ_=>rfl,λq=>by rw [afr hl] at q;cases q⟩,b⟩
 ·by_cases hm:kU o=true
  ·rw [arb hm] at h
   obtain ⟨v,H',a,b⟩:=qp (P:=P) hX hC h
   split at b
   ·rename_i q;exact ⟨v,H',a,⟨λq=>absurd q hl,λ_=>⟨a.2.2 (afs hm).1,q.1,q.2⟩⟩,b⟩
   ·cases b
  ·obtain ⟨v,H',a,b⟩:=qp (P:=P) hX hC h;exact ⟨v,H',a,⟨λq=>absurd q hl,λq=>absurd q hm⟩,b⟩
theorem aft {Y:Tabs} {C:Orc R} {ops:Array Oper} {pins stb:List Nat} {o:Oper} {i:Nat} {H:Hp} {rest:List Oper} {tm:Tm} {hs:List Hp} {ls:List (Oper×(Operand->AV)×AV)} {K:Tm->Hp->Option R} (hX:dR P Y.ty) (hC:COk P C)
  (h:mp Y C ops pins stb (o::rest) i tm H hs ls K=some r) :
  ∃ v H',wb P ops o tm H v H'/\(pins.contains i=true\/aX H H')/\((lc o=true->H'=H)/\(kU o=true->o.guard=none->Mk1 H H' v))/\(dd o=true->H'=H) /\
   mp Y C ops pins stb rest (i+1) (tm.putO o.dst v) H' (qs (pins.contains 999) rest o H' hs) (bif stb.contains i then (o,opv tm,v)::ls else ls) K=some r:=by
 simp only [mp] at h
 split at h
 ·rename_i hg
  obtain ⟨v,H',⟨h1,h3,h4⟩,h7,h2⟩:=VM (P:=P) hX hC h
  obtain ⟨h5,h6⟩:=BA h2 (λq=>(h3 q).2) h4
  exact ⟨v,H',.inl ⟨.inl hg,h1,h3⟩,h6,⟨h7.1,λq _=>h7.2 q⟩,λq=>(h3 q).2,h5⟩
 ·rename_i hgd
  have hgn:o.guard≠none:=λq=>by rw [q] at hgd;cases hgd
  by_cases hst:stb.contains i=true
  ·rw [hst,cond_true] at h;cases h
  ·have hst:stb.contains i=false:=by simpa using hst
   rw [hst,cond_false] at h
   simp only [hst,cond_false]
   split at h
   ·cases h
   ·rename_i d want hg
    split at h
    ·rename_i t ht
     cases t <;> cases want <;> simp only [cond_true,cond_false] at h <;> rw [Tm.put_same ht] at h
     ·obtain ⟨v,H',⟨h1,h3,h4⟩,h7,h2⟩:=VM (P:=P) hX hC h
      obtain ⟨h5,h6⟩:=BA h2 (λq=>(h3 q).2) h4
      exact ⟨v,H',.inl ⟨.inr ⟨d,false,hg,ht⟩,h1,h3⟩,h6,⟨h7.1,λq g=>absurd g hgn⟩,λq=>(h3 q).2,h5⟩
     ·exact ⟨_,H,.inr ⟨d,true,hg,.inl ht,rfl,rfl⟩,.inr (aX.refl _),⟨λ_=>rfl,λ_ g=>absurd g hgn⟩,λ_=>rfl,h⟩
     ·exact ⟨_,H,.inr ⟨d,false,hg,.inl ht,rfl,rfl⟩,.inr (aX.refl _),⟨λ_=>rfl,λ_ g=>absurd g hgn⟩,λ_=>rfl,h⟩
     ·obtain ⟨v,H',⟨h1,h3,h4⟩,h7,h2⟩:=VM (P:=P) hX hC h
      obtain ⟨h5,h6⟩:=BA h2 (λq=>(h3 q).2) h4
      exact ⟨v,H',.inl ⟨.inr ⟨d,true,hg,ht⟩,h1,h3⟩,h6,⟨h7.1,λq g=>absurd g hgn⟩,λq=>(h3 q).2,h5⟩
    ·rename_i ht;exact ⟨_,H,.inr ⟨d,want,hg,.inr ht,rfl,rfl⟩,.inr (aX.refl _),⟨λ_=>rfl,λ_ g=>absurd g hgn⟩,λ_=>rfl,h⟩
    ·cases h
theorem afu {Y:Tabs} {C:Orc R} {ops:Array Oper} {pins stb:List Nat} (hX:dR P Y.ty) (hC:COk P C):∀ (rest:List Oper) (i:Nat) (tm:Tm) (H:Hp) (hs:List Hp) (ls:List (Oper×(Operand->AV)×AV)) (K:Tm->Hp->Option R),
  ops.toList.drop i=rest->i+rest.length=ops.size->(rest≠[]\/pins.contains 999=false->H∈hs)->mp Y C ops pins stb rest i tm H hs ls K=some r ->
  ∃ (TM:Nat->Tm) (HH:Nat->Hp) (V:Nat->AV) (hsF:List Hp) (lsF:List (Oper×(Operand->AV)×AV)),TM i=tm/\HH i=H /\
   (∀ j o,i<=j->ops[j]?=some o->wb P ops o (TM j) (HH j) (V j) (HH (j+1))/\(pins.contains j=true\/aX (HH j) (HH (j+1)))/\TM (j+1)=(TM j).putO o.dst (V j)/\((lc o=true->HH (j+1)=HH j)/\(kU o=true->o.guard=none->Mk1 (HH j) (HH (j+1)) (V j)))) /\
   (∀ h∈hs,h∈hsF)/\(∀ l∈ls,l∈lsF)/\(∀ j,i<j->j<=ops.size->(j<ops.size\/pins.contains 999=false)->HH j∈hsF)/\(∀ j o,i<=j->ops[j]?=some o->stb.contains j=true->(o,opv (TM j),V j)∈lsF) /\
   (∀ l∈lsF,∀ h∈hsF,Stb Y l.1 l.2.1 l.2.2 h)/\K (TM ops.size) (HH ops.size)=some r
 | [],i,tm,H,hs,ls,K,hd,hn,hH,h=>by
  unfold mp at h
  obtain ⟨q,h⟩:=afq h
  ·refine ⟨λ_=>tm,λ_=>H,λ_=>gE,hs,ls,rfl,rfl,λj o hj ho=>?_,λ_ q=>q,λ_ q=>q,λj a b _=>?_,λj o hj ho=>?_,afp q,h⟩
   ·have:j<ops.size:=(Array.getElem?_eq_some_iff.1 ho).1
    simp at hn;omega
   ·simp at hn;omega
   ·have:j<ops.size:=(Array.getElem?_eq_some_iff.1 ho).1
    simp at hn;omega
 | o::rest,i,tm,H,hs,ls,K,hd,hn,hH,h=>by
  have hi:ops[i]?=some o:=by
   have:(ops.toList.drop i)[0]?=some o:=by rw [hd];rfl
   rw [List.getElem?_drop] at this
   simpa using this
  have hd':ops.toList.drop (i+1)=rest:=by rw [<- List.drop_drop,hd];rfl
  obtain ⟨v,H',hS,h8,h7,h3,h2⟩:=aft (P:=P) hX hC h
  ·have hsz:i<ops.size:=(Array.getElem?_eq_some_iff.1 hi).1
   have hH':rest≠[]\/pins.contains 999=false->H'∈qs (pins.contains 999) rest o H' hs:=λhr=>by
    have hf:(pins.contains 999&&rest.isEmpty)=false:=by
     rcases hr with hr | hr
     ·cases rest with
      | nil=>exact absurd rfl hr
      | cons _ _=>simp
     ·rw [hr];rfl
    unfold qs
    rw [hf,Bool.or_false]
    cases h5:dd o with
    | true=>rw [h3 h5];exact hH (.inl (by simp))
    | false=>
     cases h6:lc o with
     | true=>rw [h7.1 h6];exact hH (.inl (by simp))
     | false=>exact List.mem_cons_self
   have hup:∀ x∈hs,x∈qs (pins.contains 999) rest o H' hs:=λx hx=>by
    unfold qs
    cases (dd o || lc o || (pins.contains 999&&rest.isEmpty)) with
    | true=>exact hx
    | false=>exact List.mem_cons_of_mem _ hx
   obtain ⟨TM,HH,V,hsF,lsF,e1,e2,e3,e5,e6,e7,e8,e9,e4⟩:=afu hX hC rest (i+1) _ _ _ _ K hd' (by simp at hn;omega) hH' h2
   refine ⟨λj=>if j<=i then tm else TM j,λj=>if j<=i then H else HH j,λj=>if j=i then v else V j,hsF,lsF,by simp,by simp,?_,λx hx=>e5 x (hup x hx),λl hl=>e6 l ?_,λj a b c=>?_,?_,e9,by
    simp only [show ¬ ops.size<=i by omega,if_false];exact e4⟩
   ·intro j o' hj ho'
    by_cases e:j=i
    ·subst e
     rw [hi] at ho'
     cases ho'
     simp only [Nat.le_refl,if_true,show ¬ j+1<=j by omega,if_false,e1,e2]
     exact ⟨hS,h8,trivial,h7⟩
    ·simp only [show ¬ j<=i by omega,show ¬ j+1<=i by omega,e,if_false]
     exact e3 j o' (by omega) ho'
   ·cases stb.contains i
    ·exact hl
    ·exact List.mem_cons_of_mem _ hl
   ·simp only [show ¬ j<=i by omega,if_false]
    by_cases e:j=i+1
    ·subst e;rw [e2];exact e5 _ (hH' (c.imp (λh hr=>by rw [hr] at hn;simp at hn;omega) id))
    ·exact e7 j (by omega) b c
   ·intro j o' hj ho' hs'
    by_cases e:j=i
    ·subst e
     rw [hi] at ho'
     cases ho'
     simp only [Nat.le_refl,if_true]
     exact e6 _ (by rw [hs',cond_true];simp)
    ·simp only [show ¬ j<=i by omega,e,if_false]
     exact e8 j o' (by omega) ho' hs'
end Go.AE
end
section
namespace Go.AE
open Classical
variable {R:Type} {P:Program} {r:R}
structure DrawSW (ops:Array Oper) (nt:Nat) (tbl:List (List Nat)) (pins stb:List Nat):Prop where
 tblp:∀ i j,j<ops.size->fi tbl i j=true->i<j/\(ue ops i j=true\/∃ k,k<j/\ue ops k j=true/\fi tbl i k=true)
 oper:∀ (j:Nat) (o:Oper),ops[j]?=some o->mo nt o=true
 back:∀ (j:Nat) (o:Oper),ops[j]?=some o->∀ e∈o.after,Region.binds .any e=true->e.on<j
 dst:∀ (i j:Nat) (oi oj:Oper) (d:Nat),ops[i]?=some oi->ops[j]?=some oj->i≠j->oi.dst=some d->oj.dst≠some d/\(ko ops oj d=true->fi tbl i j=true\/fi tbl j i=true)
 self:∀ (i:Nat) (oi:Oper) (d:Nat),ops[i]?=some oi->oi.dst=some d->ko ops oi d=false
 pin:∀ (i j:Nat) (oi:Oper),ops[i]?=some oi->j<ops.size->pins.contains j=true->i≠j->dd oi=false->stb.contains i=false->fi tbl i j=true\/fi tbl j i=true
 load:∀ (i:Nat) (oi:Oper),ops[i]?=some oi->stb.contains i=true->oi.guard=none/\(lc oi=true\/(kU oi=true/\∀ j,j<i->pins.contains j=true->fi tbl j i=true))
 last:pins.contains 999=true->∃ o,0<ops.size/\ops[ops.size - 1]?=some o/\dd o=false/\∀ i,i<ops.size->stb.contains i=true->fi tbl i (ops.size - 1)=true
theorem DrawSW.toD {ops:Array Oper} {nt:Nat} {tbl:List (List Nat)} {pins stb:List Nat} (h:DrawSW ops nt tbl pins stb):DrawS ops nt tbl []:=
 ⟨h.tblp,h.oper,h.back,h.dst,h.self,λi j oi _ _ q=>by simp at q⟩
section
variable {ops:Array Oper} {nt:Nat} {tbl:List (List Nat)} {pins stb:List Nat} {TM:Nat->Tm} {HH:Nat->Hp} {V:Nat->AV}
theorem Tr.slotW (h:Tr P ops pins TM HH V) (hd:DrawSW ops nt tbl pins stb) (t:Nat):∀ j,j<=ops.size ->
  (∀ (k:Nat) (o:Oper),k<j->ops[k]?=some o->o.dst=some t->TM j t=V k)/\((∀ (k:Nat) (o:Oper),k<j->ops[k]?=some o->o.dst≠some t)->TM j t=TM 0 t):=by
 intro j
 induction j with
 | zero=>exact λ_=>⟨λk o hk=>absurd hk (by omega),λ_=>rfl⟩
 | succ j ih=>
  intro hj
  obtain ⟨h1,h2⟩:=ih (by omega)
  have ho:ops[j]?=some (ops[j]'(by omega)):=Array.getElem?_eq_getElem _
  generalize ops[j]'(by omega)=oj at ho
  have e:=h.tm j oj ho
  refine ⟨λk o hk hko hkd=>?_,λhn=>?_⟩
  ·rw [e]
   by_cases ek:k=j
   ·subst ek
    rw [ho] at hko;cases hko
    rw [hkd];simp [Tm.putO,Tm.put_eq]
   ·have hne:=(hd.dst k j o oj t hko ho ek hkd).1
    have:(TM j).putO oj.dst (V j) t=TM j t:=by
     cases hdd:oj.dst with
     | none=>rfl
     | some d=>simp only [Tm.putO,Tm.put_eq];rw [if_neg (λq=>hne (by rw [hdd,q]))]
    rw [this]
    exact h1 k o (by omega) hko hkd
  ·rw [e]
   have:(TM j).putO oj.dst (V j) t=TM j t:=by
    cases hdd:oj.dst with
    | none=>rfl
    | some d=>simp only [Tm.putO,Tm.put_eq];rw [if_neg (λq=>hn j oj (by omega) ho (by rw [hdd,q]))]
   rw [this]
   exact h2 (λk o hk=>hn k o (by omega))
theorem LB {o:Oper} {j:Nat} (hcs:∀ (j:Nat) (o:Oper),ops[j]?=some o->stb.contains j=true->aX (HH j) (HH (j+1))) (hoj:ops[j]?=some o) (hc:¬ aX (HH j) (HH (j+1))):stb.contains j=false:=by
 cases h:stb.contains j with
 | false=>rfl
 | true=>exact absurd (hcs j o hoj h) hc
def uh (ops:Array Oper) (stb:List Nat) (i:Nat):Prop:=stb.contains i=false/\uf ops i
structure InvW (ops:Array Oper) (stb:List Nat) (nt:Nat) (TM:Nat->Tm) (HH:Nat->Hp) (V:Nat->AV) (Φs:Phi) (S:Nat->Prop) (ws:World) (listed:Array Bool) (a:Act) (w:World) (Φ:Phi) (p q:Nat):Prop where
 size:listed.size=ops.size
 closed:∀ (k:Nat) (o:Oper),Ls listed k->ops[k]?=some o->∀ e∈o.after,Region.binds .any e=true->Ls listed e.on
 pq:p<=q/\q<=ops.size
 h1:∀ i,i<p->uh ops stb i->Ls listed i
 h2:∀ i,q<=i->i<ops.size->uh ops stb i->¬ Ls listed i
 h3:∀ i,p<=i->i<q->aX (HH i) (HH (i+1))
 h4:q=ops.size\/¬ aX (HH q) (HH (q+1))
 post:PostS Φs S (HH 0) ws Φ (SE S ops.size HH (Ls listed)) (HH q) w
 defers:a.defers=[]
 asize:a.tmps.size=nt
 val:∀ t,((∀ (k:Nat) (o:Oper),Ls listed k->ops[k]?=some o->o.dst=some t->a.tmps.getD t undef=(V k).toV Φ/\(V k).ok Φ (SE S ops.size HH (Ls listed))) /\
  ((∀ (k:Nat) (o:Oper),Ls listed k->ops[k]?=some o->o.dst≠some t)->a.tmps.getD t undef=(TM 0 t).toV Φ/\(TM 0 t).ok Φ (SE S ops.size HH (Ls listed))))
variable {Φs:Phi} {S:Nat->Prop} {ws:World}
theorem InvW.slots (hd:DrawSW ops nt tbl pins stb) (tr:Tr P ops pins TM HH V) {listed:Array Bool} {a:Act} {w:World} {Φ:Phi} {p q:Nat} (I:InvW ops stb nt TM HH V Φs S ws listed a w Φ p q)
  {i:Nat} {o:Oper} (ho:ops[i]?=some o) (hr:∀ e∈o.after,Region.binds .any e=true->Ls listed e.on) (hni:¬ Ls listed i) (t:Nat) (ht:ko ops o t=true) :
  a.tmps.getD t undef=(TM i t).toV Φ/\(TM i t).ok Φ (SE S ops.size HH (Ls listed)):=by
 have hin:i<ops.size:=(Array.getElem?_eq_some_iff.1 ho).1
 have hah:=qq hd.toD I.closed i o ho hr
 obtain ⟨s1,s2⟩:=tr.slotW hd t i (by omega)
 by_cases hex:∃ (k:Nat) (ok:Oper),ops[k]?=some ok/\ok.dst=some t
 ·obtain ⟨k,ok,hk,hkd⟩:=hex
  have hne:k≠i:=by
   rintro rfl
   rw [ho] at hk;cases hk
   have:=hd.self k o t ho hkd
   rw [this] at ht;cases ht
  rcases (hd.dst k i ok o t hk ho hne hkd).2 ht with ha | ha
  ·have hlt:=(hd.tblp k i hin ha).1
   rw [s1 k ok hlt hk hkd]
   exact (I.val t).1 k ok (hah k ha) hk hkd
  ·have hkn:k<ops.size:=(Array.getElem?_eq_some_iff.1 hk).1
   have hlt:=(hd.tblp i k hkn ha).1
   have hone:∀ (j:Nat) (oj:Oper),ops[j]?=some oj->oj.dst=some t->j=k:=λj oj hj hjd=>by
    rcases Nat.decEq j k with e | e
    ·exact absurd hjd (hd.dst k j ok oj t hk hj (λq=>e q.symm) hkd).1
    ·exact e
   have hkl:¬ Ls listed k:=λhL=>hni (qq hd.toD I.closed k ok hk (I.closed k ok hL hk) i ha)
   rw [s2 (λj oj hj hjo hjd=>by have:=hone j oj hjo hjd;omega)]
   exact (I.val t).2 (λj oj hj hjo hjd=>hkl (by rw [<- hone j oj hjo hjd];exact hj))
 ·have hno:∀ (k:Nat) (ok:Oper),ops[k]?=some ok->ok.dst≠some t:=λk ok hk hkd=>hex ⟨k,ok,hk,hkd⟩
  rw [s2 (λk ok _ hk=>hno k ok hk)]
  exact (I.val t).2 (λk ok _ hk=>hno k ok hk)
theorem InvW.val' (hd:DrawSW ops nt tbl pins stb) {listed:Array Bool} {a:Act} {w:World} {Φ Φ':Phi} {p q:Nat} (I:InvW ops stb nt TM HH V Φs S ws listed a w Φ p q)
  {i:Nat} {o:Oper} (ho:ops[i]?=some o) (hni:¬ Ls listed i) {S':Nat->Prop} (hag:Φ.agree Φ' (SE S ops.size HH (Ls listed))) (hS:∀ b,SE S ops.size HH (Ls listed) b->S' b) (hv:(V i).ok Φ' S') :
  ∀ t,((∀ (k:Nat) (ok:Oper),Ls (listed.setIfInBounds i true) k->ops[k]?=some ok->ok.dst=some t->(a.put o.dst ((V i).toV Φ')).tmps.getD t undef=(V k).toV Φ'/\(V k).ok Φ' S') /\
   ((∀ (k:Nat) (ok:Oper),Ls (listed.setIfInBounds i true) k->ops[k]?=some ok->ok.dst≠some t)->(a.put o.dst ((V i).toV Φ')).tmps.getD t undef=(TM 0 t).toV Φ'/\(TM 0 t).ok Φ' S')):=by
 have hin:i<ops.size:=(Array.getElem?_eq_some_iff.1 ho).1
 have hil:i<listed.size:=by rw [I.size];exact hin
 have hopk:=hd.oper i o ho
 simp only [mo,Bool.and_eq_true] at hopk
 have hput:∀ t,(a.put o.dst ((V i).toV Φ')).tmps.getD t undef=if o.dst=some t then (V i).toV Φ' else a.tmps.getD t undef:=λt=>by
  cases hdd:o.dst with
  | none=>simp [Act.put]
  | some d=>
   have hdn:d<nt:=by have:=hopk.1;rw [hdd] at this;simpa using this
   simp only [Act.put]
   rw [VH (by rw [I.asize];exact hdn)]
   by_cases e:t=d
   ·subst e;simp
   ·rw [if_neg e,if_neg (by simpa using λq=>e q.symm)]
 have up:∀ {v:AV} {x:Value},x=v.toV Φ->v.ok Φ (SE S ops.size HH (Ls listed))->x=v.toV Φ'/\v.ok Φ' S':=λh1 h2=>⟨by rw [AV.toV_agree hag _ (AV.ok_inS _ h2)];exact h1,AV.ok_agree hag hS _ h2⟩
 intro t
 refine ⟨λk ok hk hko hkd=>?_,λhn=>?_⟩
 ·rw [hput t]
  rcases (fe hil).1 hk with hk | rfl
  ·have hne:i≠k:=λe=>hni (e ▸ hk)
   rw [if_neg (λq=>(hd.dst i k o ok t ho hko hne q).1 hkd)]
   obtain ⟨q1,q2⟩:=(I.val t).1 k ok hk hko hkd
   exact up q1 q2
  ·rw [ho] at hko;cases hko
   rw [if_pos hkd]
   exact ⟨rfl,hv⟩
 ·rw [hput t,if_neg (hn i o ((fe hil).2 (.inr rfl)) ho)]
  obtain ⟨q1,q2⟩:=(I.val t).2 (λk ok hk=>hn k ok ((fe hil).2 (.inl hk)))
  exact up q1 q2
theorem InvW.closed' {listed:Array Bool} {a:Act} {w:World} {Φ:Phi} {p q:Nat} (I:InvW ops stb nt TM HH V Φs S ws listed a w Φ p q) {i:Nat} {o:Oper} (ho:ops[i]?=some o)
  (hr:∀ e∈o.after,Region.binds .any e=true->Ls listed e.on):∀ (k:Nat) (ok:Oper),Ls (listed.setIfInBounds i true) k->ops[k]?=some ok->∀ e∈ok.after,Region.binds .any e=true->Ls (listed.setIfInBounds i true) e.on:=by
 have hil:i<listed.size:=by rw [I.size];exact (Array.getElem?_eq_some_iff.1 ho).1
 intro k ok hk hko e he hb
 refine (fe hil).2 (.inl ?_)
 rcases (fe hil).1 hk with hk | rfl
 ·exact I.closed k ok hk hko e he hb
 ·rw [ho] at hko;cases hko;exact hr e he hb
theorem InvW.quiet (hd:DrawSW ops nt tbl pins stb) {listed:Array Bool} {a:Act} {w:World} {Φ:Phi} {p q:Nat} (I:InvW ops stb nt TM HH V Φs S ws listed a w Φ p q)
  {i:Nat} {o:Oper} (ho:ops[i]?=some o) (hr:∀ e∈o.after,Region.binds .any e=true->Ls listed e.on) (hni:¬ Ls listed i)
  (hsame:HH (i+1)=HH i) (hv:(V i).ok Φ (SE S ops.size HH (Ls listed))) (hnw:dd o=true\/(p<=i/\i<q)\/(q<=i->i=q->False)) (hq:dd o=false->stb.contains i=false->i<q) :
  InvW ops stb nt TM HH V Φs S ws (listed.setIfInBounds i true) (a.put o.dst ((V i).toV Φ)) w Φ p q:=by
 have hin:i<ops.size:=(Array.getElem?_eq_some_iff.1 ho).1
 have hil:i<listed.size:=by rw [I.size];exact hin
 have hse:SE S ops.size HH (Ls (listed.setIfInBounds i true))=SE S ops.size HH (Ls listed):=by
  rw [ug (λj=>fe hil) hin]
  funext b
  rw [hsame]
  exact propext ⟨λh=>h.elim id (λh=>by omega),.inl⟩
 refine ⟨by simp [I.size],I.closed' ho hr,I.pq,λj hj hl=>(fe hil).2 (.inl (I.h1 j hj hl)),λj hj hjn hl hL=>?_,I.h3,I.h4,by rw [hse];exact I.post,?_,?_,?_⟩
 ·rcases (fe hil).1 hL with hL | rfl
  ·exact I.h2 j hj hjn hl hL
  ·have:=hq (hl.2 o ho) hl.1
   omega
 ·cases o.dst <;> simp [Act.put,I.defers]
 ·cases o.dst <;> simp [Act.put,I.asize]
 ·rw [hse]
  exact I.val' hd ho hni (Phi.agree_refl _ _) (λb hb=>hb) hv
theorem InvW.loud (hd:DrawSW ops nt tbl pins stb) (tr:Tr P ops pins TM HH V) (hS0:∀ b,S b->b<(HH 0).length) {listed:Array Bool} {a:Act} {w:World} {Φ:Phi} {p q:Nat} (I:InvW ops stb nt TM HH V Φs S ws listed a w Φ p q)
  {i:Nat} {o:Oper} (ho:ops[i]?=some o) (hr:∀ e∈o.after,Region.binds .any e=true->Ls listed e.on) (hni:¬ Ls listed i) (hloud:dd o=false) (hns:stb.contains i=false) (hcs:∀ (j:Nat) (o:Oper),ops[j]?=some o->stb.contains j=true->aX (HH j) (HH (j+1)))
  (hot:OT P o (opv (TM i)) (HH i) (V i) (HH (i+1))) {next:Act->World->Prop} {Q:Exit->Act->World->Prop}
  (hnext:∀ Φ' w' p' q',InvW ops stb nt TM HH V Φs S ws (listed.setIfInBounds i true) (a.put o.dst ((V i).toV Φ')) w' Φ' p' q'->next (a.put o.dst ((V i).toV Φ')) w'):o.wp P a w next Q:=by
 have hin:i<ops.size:=(Array.getElem?_eq_some_iff.1 ho).1
 have hil:i<listed.size:=by rw [I.size];exact hin
 have hah:=qq hd.toD I.closed i o ho hr
 have hLoud:uh ops stb i:=⟨hns,λo' ho'=>by rw [ho] at ho';cases ho';exact hloud⟩
 have hpi:p<=i:=by
  rcases Nat.lt_or_ge i p with h | h
  ·exact absurd (I.h1 i h hLoud) hni
  ·exact h
 -- what may write is pinned,and loud
 have hwr:∀ j,j<ops.size->¬ aX (HH j) (HH (j+1))->pins.contains j=true/\uh ops stb j:=λj hj hc=>by
  have hoj:ops[j]?=some ops[j]:=Array.getElem?_eq_getElem hj
  refine ⟨(tr.pinc j _ hoj).resolve_right hc,LB hcs hoj hc,λo' ho'=>?_⟩
  rw [hoj] at ho';cases ho'
  cases hs:dd ops[j] with
  | false=>rfl
  | true=>
   exfalso
   rcases tr.step j _ hoj with ⟨_,_,h⟩ | ⟨d,want,_,_,_,h⟩
   ·exact hc ((h hs).2 ▸ aX.refl _)
   ·exact hc (h ▸ aX.refl _)
 have hiq:i<=q:=by
  rcases Nat.lt_or_ge q i with h | h
  ·exfalso
   rcases I.h4 with h4 | h4
   ·omega
   ·obtain ⟨w1,w2⟩:=hwr q (by omega) h4
    rcases hd.pin i q o ho (by omega) w1 (by omega) hloud hns with h5 | h5
    ·have:=(hd.tblp i q (by omega) h5).1;omega
    ·exact I.h2 q (Nat.le_refl _) (by omega) w2 (hah q h5)
  ·exact h
 have hcons:aX (HH i) (HH q):=tr.cons hiq I.pq.2 (λk h1 h2=>I.h3 k (by omega) h2)
 have hwfi:=(tr.wf i (by omega)).1
 have hag:∀ b,b<(HH i).length->(HH q)[b]?=(HH i)[b]?:=hcons
 have hrel:=I.post.rel
 have hrr:=hrel.restrict hag hwfi
 have hopk:=hd.oper i o ho
 simp only [mo,Bool.and_eq_true] at hopk
 have hslots:=λt ht=>I.slots hd tr ho hr hni t ht
 have hbnd:=(tr.wf i (by omega)).2
 refine hot.run hwfi Φ _ w a next Q hrr (λx hx=>?_) (λΦ1 w1 hp1 hv1=>?_)
 ·have hxk:qR x=true:=Array.all_eq_true_iff_forall_mem.1 hopk.2 x hx
  cases x with
  | tmp t=>
   obtain ⟨q1,q2⟩:=hslots t (Eo hx)
   exact ⟨q1,AV.ok_and _ q2 (hbnd t)⟩
  | const v=>exact ⟨(v_ Φ hxk).symm,wa Φ _ v⟩
  | func f=>exact ⟨by simp [Act.eval,opv,AV.toV,AV.toVs],by simp [opv,AV.ok,AV.oks]⟩
  | global g=>cases hxk
 ·-- the new blocks were not known before
  have hnew:∀ b,SE S ops.size HH (Ls listed) b->¬ ((HH i).length<=b/\b<(HH (i+1)).length):=by
   rintro b (hb | ⟨j,hj,hL,h1,h2⟩) ⟨h3,h4⟩
   ·have:=hS0 b hb
    have:=tr.le (Nat.zero_le i) (by omega)
    omega
   ·rcases Nat.lt_trichotomy j i with h | h | h
    ·have:=tr.le (i:=j+1) (j:=i) (by omega) (by omega);omega
    ·subst h;exact hni hL
    ·have:=tr.le (i:=i+1) (j:=j) (by omega) (by omega);omega
  by_cases hlt:i<q
  ·-- no write
   have hcons1:aX (HH (i+1)) (HH q):=tr.cons (by omega) I.pq.2 (λk h1 h2=>I.h3 k (by omega) h2)
   obtain ⟨Φ2,a1,hps⟩:=En hrel hag hp1 (H':=HH q) hcons1 (tr.le (by omega) I.pq.2) (Nat.le_refl _) hnew (λb _ _=>rfl)
   have hse:SE S ops.size HH (Ls (listed.setIfInBounds i true))=λb=>SE S ops.size HH (Ls listed) b\/((HH i).length<=b/\b<(HH (i+1)).length):=ug (λj=>fe hil) hin
   have hv2:(V i).ok Φ2 (SE S ops.size HH (Ls (listed.setIfInBounds i true))):=by
    rw [hse]
    refine AV.ok_agree a1 (λb hb=>?_) _ hv1
    rcases hb with hb | hb
    ·exact .inl hb.1
    ·exact .inr hb
   have hveq:(V i).toV Φ1=(V i).toV Φ2:=(AV.toV_agree a1 _ (AV.ok_inS _ hv1)).symm
   rw [hveq]
   refine hnext Φ2 w1 p q ⟨by simp [I.size],I.closed' ho hr,I.pq,λj hj hl=>(fe hil).2 (.inl (I.h1 j hj hl)),λj hj hjn hl hL=>?_,I.h3,I.h4,?_,?_,?_,?_⟩
   ·rcases (fe hil).1 hL with hL | rfl
    ·exact I.h2 j hj hjn hl hL
    ·omega
   ·rw [hse];exact I.post.trans hps
   ·cases o.dst <;> simp [Act.put,I.defers]
   ·cases o.dst <;> simp [Act.put,I.asize]
   ·exact I.val' hd ho hni hps.agree (λb hb=>by rw [hse];exact .inl hb) hv2
  ·-- the place that may write
   obtain rfl:i=q:=by omega
   have hnc:¬ aX (HH i) (HH (i+1)):=I.h4.resolve_left (by omega)
   have hpin:=(hwr i hin hnc).1
   have hall:∀ j,j<i->uh ops stb j->Ls listed j:=λj hj hl=>by
    have hoj:ops[j]?=some (ops[j]'(by omega)):=Array.getElem?_eq_getElem _
    rcases hd.pin j i _ hoj hin hpin (by omega) (hl.2 _ hoj) hl.1 with h5 | h5
    ·exact hah j h5
    ·have:=(hd.tblp i j (by omega) h5).1;omega
   obtain ⟨Φ2,a1,hps⟩:=En hrel hag hp1 (H':=HH (i+1)) (λ_ _=>rfl) (Nat.le_refl _) (tr.mono i hin) hnew (λb hb hge=>by
    exfalso
    have:=hrel.lt b hb
    have:=tr.mono i hin
    omega)
   have hse:SE S ops.size HH (Ls (listed.setIfInBounds i true))=λb=>SE S ops.size HH (Ls listed) b\/((HH i).length<=b/\b<(HH (i+1)).length):=ug (λj=>fe hil) hin
   have hv2:(V i).ok Φ2 (SE S ops.size HH (Ls (listed.setIfInBounds i true))):=by
    rw [hse]
    refine AV.ok_agree a1 (λb hb=>?_) _ hv1
    rcases hb with hb | hb
    ·exact .inl hb.1
    ·exact .inr hb
   have hveq:(V i).toV Φ1=(V i).toV Φ2:=(AV.toV_agree a1 _ (AV.ok_inS _ hv1)).symm
   rw [hveq]
   obtain ⟨q',g1,g2,g3,g4⟩:=Er ops HH _ (i+1) rfl (by omega)
   refine hnext Φ2 w1 (i+1) q' ⟨by simp [I.size],I.closed' ho hr,⟨g1,g2⟩,λj hj hl=>?_,λj hj hjn hl hL=>?_,g3,g4,?_,?_,?_,?_⟩
   ·by_cases e:j=i
    ·subst e;exact (fe hil).2 (.inr rfl)
    ·exact (fe hil).2 (.inl (hall j (by omega) hl))
   ·rcases (fe hil).1 hL with hL | rfl
    ·exact I.h2 j (by omega) hjn hl hL
    ·omega
   ·rw [hse]
    have hcq:aX (HH (i+1)) (HH q'):=tr.cons g1 g2 g3
    have hp2:=I.post.trans hps
    -- the heap further on,where nothing is written
    refine ⟨hp2.agree,hp2.sub,?_,?_,hp2.os,hp2.tape,hp2.output,hp2.size,hp2.frame,?_⟩
    ·have hr2:=hp2.rel
     have key:∀ b,(SE S ops.size HH (Ls listed) b\/((HH i).length<=b/\b<(HH (i+1)).length))->(HH q')[b]?=(HH (i+1))[b]?:=λb hb=>hcq b (hr2.lt b hb)
     exact ⟨λb hb=>Nat.lt_of_lt_of_le (hr2.lt b hb) (tr.le g1 g2),λb blk hb hx=>hr2.closed b blk hb (by rw [<- key b hb];exact hx),λb blk hb hx=>hr2.cell b blk hb (by rw [<- key b hb];exact hx),
      λb blk hb hx=>hr2.own b blk hb (by rw [<- key b hb];exact hx),λb blk b' blk' hb hb' hx hx'=>hr2.inj b blk b' blk' hb hb' (by rw [<- key b hb];exact hx) (by rw [<- key b' hb'];exact hx'),
      λb blk b' blk' hb hb' hx hx'=>hr2.ro b blk b' blk' hb hb' (by rw [<- key b hb];exact hx) (by rw [<- key b' hb'];exact hx')⟩
    ·have hr2:=hp2.rel
     rintro k hk ⟨b,blk,hb,hx,hrest⟩
     exact hp2.own k hk ⟨b,blk,hb,by rw [<- hcq b (hr2.lt b hb)];exact hx,hrest⟩
    ·have hr2:=hp2.rel
     intro b blk hb hx hl ho'
     exact hp2.rok b blk hb (by rw [<- hcq b (hr2.lt b hb)];exact hx) hl ho'
   ·cases o.dst <;> simp [Act.put,I.defers]
   ·cases o.dst <;> simp [Act.put,I.asize]
   ·exact I.val' hd ho hni hps.agree (λb hb=>by rw [hse];exact .inl hb) hv2
theorem InvW.stable (hd:DrawSW ops nt tbl pins stb) (tr:Tr P ops pins TM HH V) (hS0:∀ b,S b->b<(HH 0).length) {listed:Array Bool} {a:Act} {w:World} {Φ:Phi} {p q:Nat} (I:InvW ops stb nt TM HH V Φs S ws listed a w Φ p q)
  {i:Nat} {o:Oper} (ho:ops[i]?=some o) (hr:∀ e∈o.after,Region.binds .any e=true->Ls listed e.on) (hni:¬ Ls listed i) (hloud:dd o=false) (hns:stb.contains i=true) (hsame:HH (i+1)=HH i)
  {k:Nat} (hik:i<=k\/k=q) (hkq:k<=q) (hkc:aX (HH k) (HH q)) (hot:OT P o (opv (TM i)) (HH k) (V i) (HH k)) {next:Act->World->Prop} {Q:Exit->Act->World->Prop}
  (hnext:∀ Φ' w',InvW ops stb nt TM HH V Φs S ws (listed.setIfInBounds i true) (a.put o.dst ((V i).toV Φ')) w' Φ' p q->next (a.put o.dst ((V i).toV Φ')) w'):o.wp P a w next Q:=by
 have hin:i<ops.size:=(Array.getElem?_eq_some_iff.1 ho).1
 have hil:i<listed.size:=by rw [I.size];exact hin
 have hwfq:=(tr.wf k (Nat.le_trans hkq I.pq.2)).1
 have hag:∀ b,b<(HH k).length->(HH q)[b]?=(HH k)[b]?:=hkc
 have hbnd:=(tr.wf i (by omega)).2
 have hrel:=I.post.rel
 have hrr:=hrel.restrict hag hwfq
 have hopk:=hd.oper i o ho
 simp only [mo,Bool.and_eq_true] at hopk
 have hslots:=λt ht=>I.slots hd tr ho hr hni t ht
 refine hot.run hwfq Φ _ w a next Q hrr (λx hx=>?_) (λΦ1 w1 hp1 hv1=>?_)
 ·have hxk:qR x=true:=Array.all_eq_true_iff_forall_mem.1 hopk.2 x hx
  cases x with
  | tmp t=>
   obtain ⟨q1,q2⟩:=hslots t (Eo hx)
   refine ⟨q1,AV.ok_and _ q2 ?_⟩
   rcases hik with hik | rfl
   ·exact AV.inS_mono (λb hb=>Nat.lt_of_lt_of_le hb (tr.le hik (Nat.le_trans hkq I.pq.2))) _ (hbnd t)
   ·exact AV.inS_mono hrel.lt _ (AV.ok_inS _ q2)
  | const v=>exact ⟨(v_ Φ hxk).symm,wa Φ _ v⟩
  | func f=>exact ⟨by simp [Act.eval,opv,AV.toV,AV.toVs],by simp [opv,AV.ok,AV.oks]⟩
  | global g=>cases hxk
 ·obtain ⟨Φ2,a1,hps⟩:=En hrel hag hp1 (H':=HH q) hag (tr.le hkq I.pq.2) (Nat.le_refl _) (λb _ h=>by omega) (λb _ _=>rfl)
  have hse0:(λb=>SE S ops.size HH (Ls listed) b\/((HH k).length<=b/\b<(HH k).length))=SE S ops.size HH (Ls listed):=by
   funext b;exact propext ⟨λh=>h.elim id (λh=>by omega),.inl⟩
  have hse:SE S ops.size HH (Ls (listed.setIfInBounds i true))=SE S ops.size HH (Ls listed):=by
   rw [ug (λj=>fe hil) hin]
   funext b
   rw [hsame]
   exact propext ⟨λh=>h.elim id (λh=>by omega),.inl⟩
  rw [hse0] at hps
  have hv2:(V i).ok Φ2 (SE S ops.size HH (Ls (listed.setIfInBounds i true))):=by
   rw [hse]
   refine AV.ok_agree a1 (λb hb=>?_) _ hv1
   rcases hb with hb | hb
   ·exact hb.1
   ·omega
  have hveq:(V i).toV Φ1=(V i).toV Φ2:=(AV.toV_agree a1 _ (AV.ok_inS _ hv1)).symm
  rw [hveq]
  refine hnext Φ2 w1 ⟨by simp [I.size],I.closed' ho hr,I.pq,λj hj hl=>(fe hil).2 (.inl (I.h1 j hj hl)),λj hj hjn hl hL=>?_,I.h3,I.h4,?_,?_,?_,?_⟩
  ·rcases (fe hil).1 hL with hL | rfl
   ·exact I.h2 j hj hjn hl hL
   ·rw [hl.1] at hns;cases hns
  ·rw [hse];exact I.post.trans hps
  ·cases o.dst <;> simp [Act.put,I.defers]
  ·cases o.dst <;> simp [Act.put,I.asize]
  ·exact I.val' hd ho hni hps.agree (λb hb=>by rw [hse];exact hb) hv2
theorem arf {Φ:Phi} {w:World}:Rel Φ (λ_=>False) [] w:=⟨λ_ h=>h.elim,λ_ _ h=>h.elim,λ_ _ h=>h.elim,λ_ _ h=>h.elim,λ_ _ _ _ h=>h.elim,λ_ _ _ _ h=>h.elim⟩
theorem late {Φ Φ1:Phi} {S:Nat->Prop} {H:Hp} {w w1:World} {b:Nat} {cells:List AV} (h:Rel Φ S H w) (hb:H[b]?=some ⟨cells,true,true⟩) (hnb:¬ S b) (hat:∀ u∈cells,∃ k x,u=AV.int k x)
  (hp:Post Φ (λ_=>False) [] w Φ1 [⟨cells,true,true⟩] w1):PostS Φ S H w (Φ.put b (Φ1.b 0) (Φ1.o 0) (Φ1.k 0)) (λx=>S x\/x=b) H w1:=by
 have fr:∀ k,k<w.heap.size->w1.heap[k]?=w.heap[k]?:=λk hk=>hp.frame k hk (λ⟨_,_,q,_⟩=>q)
 have e0:ext (λ_=>False) ([]:Hp) [⟨cells,true,true⟩] 0:=.inr ⟨Nat.zero_le _,by simp⟩
 have hx0:([⟨cells,true,true⟩]:Hp)[0]?=some ⟨cells,true,true⟩:=rfl
 have hnew:w.heap.size<=Φ1.b 0:=Nat.le_of_not_lt λhk=>by
  obtain ⟨_,_,q,_⟩:=hp.own _ hk ⟨0,_,e0,hx0,rfl,rfl,rfl⟩
  exact q
 have hag:Φ.agree (Φ.put b (Φ1.b 0) (Φ1.o 0) (Φ1.k 0)) S:=Phi.put_agree hnb
 have hblk:∀ blk,H[b]?=some blk->blk=⟨cells,true,true⟩:=λblk hx=>by rw [hb] at hx;exact (Option.some.inj hx).symm
 have hlt:∀ {k:Nat} {x:Obj},w.heap[k]?=some x->k<w.heap.size:=λe=>(Array.getElem?_eq_some_iff.1 e).1
 have hob:∀ x blk,S x->H[x]?=some blk->blk.live=true->blk.own=true->Φ.b x<w.heap.size:=λx blk hs hx hl ho=>by
  obtain ⟨c,T,e,_⟩:=h.own x blk hs hx hl ho;exact hlt e
 have hcb:∀ x blk,S x->H[x]?=some blk->blk.live=true->blk.cells≠[]->Φ.b x<w.heap.size:=λx blk hs hx hl ho=>by
  obtain ⟨v,hv⟩:=afj ho
  exact cell?_lt (h.cell x blk hs hx hl 0 v hv)
 have hbn:∀ x,S x->(Φ.put b (Φ1.b 0) (Φ1.o 0) (Φ1.k 0)).b x=Φ.b x:=λx hs=>(hag x hs).1
 refine ⟨hag,λx hs=>.inl hs,⟨?_,?_,?_,?_,?_,?_⟩,?_,hp.os,hp.tape,hp.output,hp.size,λk hk _=>fr k hk,?_⟩
 ·rintro x (hs | rfl)
  ·exact h.lt x hs
  ·exact (List.getElem?_eq_some_iff.1 hb).1
 ·rintro x blk (hs | rfl) hx hl v hv
  ·obtain ⟨q1,q2⟩:=h.closed x blk hs hx hl v hv
   exact ⟨AV.ok_agree hag (λ_ q=>.inl q) v q1,q2⟩
  ·obtain rfl:=hblk blk hx
   obtain ⟨k,y,rfl⟩:=hat v hv
   exact ⟨by simp [AV.ok],rfl⟩
 ·rintro x blk (hs | rfl) hx hl i v hv
  ·have hc:=h.cell x blk hs hx hl i v hv
   have hin:=AV.ok_inS v (h.closed x blk hs hx hl v (List.mem_of_getElem? hv)).1
   rw [hbn x hs,(hag x hs).2.1,AV.toV_agree hag v hin]
   have:=cell?_lt hc
   unfold World.cell? at hc ⊢
   simp only at hc ⊢
   rw [fr _ this];exact hc
  ·obtain rfl:=hblk blk hx
   have hc:=hp.rel.cell 0 _ e0 hx0 rfl i v hv
   obtain ⟨k,y,rfl⟩:=hat v (List.mem_of_getElem? hv)
   rw [Phi.put_b,Phi.put_o,hc];rfl
 ·rintro x blk (hs | rfl) hx hl ho
  ·obtain ⟨c,T,e,e2,e3⟩:=h.own x blk hs hx hl ho
   refine ⟨c,T,?_,?_,?_⟩
   ·rw [hbn x hs,fr _ (hlt e)];exact e
   ·rw [(hag x hs).2.1,(hag x hs).2.2];exact e2
   ·rw [(hag x hs).2.2];exact e3
  ·obtain rfl:=hblk blk hx
   obtain ⟨c,T,e,e2,e3⟩:=hp.rel.own 0 _ e0 hx0 rfl rfl
   refine ⟨c,T,?_,?_,?_⟩
   ·rw [Phi.put_b];exact e
   ·rw [Phi.put_o,Phi.put_k];exact e2
   ·rw [Phi.put_k];exact e3
 ·rintro x blk y blk' (hs | rfl) (hs' | rfl) hx hx' hl hl' ho ho' e
  ·rw [hbn x hs,hbn y hs'] at e
   exact h.inj x blk y blk' hs hs' hx hx' hl hl' ho ho' e
  ·rw [hbn x hs,Phi.put_b] at e
   have:=hob x blk hs hx hl ho;omega
  ·rw [hbn y hs',Phi.put_b] at e
   have:=hob y blk' hs' hx' hl' ho';omega
  ·rfl
 ·rintro x blk y blk' (hs | rfl) (hs' | rfl) hx hx' hl hl' ho ho' hne e
  ·rw [hbn x hs,hbn y hs'] at e
   exact h.ro x blk y blk' hs hs' hx hx' hl hl' ho ho' hne e
  ·obtain rfl:=hblk blk' hx';cases ho'
  ·rw [hbn y hs',Phi.put_b] at e
   have:=hcb y blk' hs' hx' hl' hne;omega
  ·obtain rfl:=hblk blk' hx';cases ho'
 ·rintro k hk ⟨x,blk,hs | rfl,hx,ho,hl,rfl⟩
  ·rw [hbn x hs];exact ⟨x,blk,hs,hx,ho,hl,rfl⟩
  ·rw [Phi.put_b] at hk;omega
 ·rintro x blk (hs | rfl) hx hl ho
  ·exact ⟨hs,hx⟩
  ·obtain rfl:=hblk blk hx;cases ho
theorem InvW.late (hd:DrawSW ops nt tbl pins stb) (tr:Tr P ops pins TM HH V) (hS0:∀ b,S b->b<(HH 0).length) {listed:Array Bool} {a:Act} {w:World} {Φ:Phi} {p q:Nat} (I:InvW ops stb nt TM HH V Φs S ws listed a w Φ p q)
  {i:Nat} {o:Oper} (ho:ops[i]?=some o) (hr:∀ e∈o.after,Region.binds .any e=true->Ls listed e.on) (hni:¬ Ls listed i) (hns:stb.contains i=true) {n:Nat} {cells:List AV}
  (hlen:(HH (i+1)).length=(HH i).length+1) (hV:V i=.sl ⟨some ((HH i).length,0),n,.ex n⟩) (hmk:OT P o (opv (TM i)) [] (.sl ⟨some (0,0),n,.ex n⟩) [⟨cells,true,true⟩]) (hat:∀ u∈cells,∃ k x,u=AV.int k x)
  (hq:(HH q)[(HH i).length]?=some ⟨cells,true,true⟩) (hcon:∀ x∈o.op.operands,∃ v,x=.const v) {next:Act->World->Prop} {Q:Exit->Act->World->Prop}
  (hnext:∀ Φ' w',InvW ops stb nt TM HH V Φs S ws (listed.setIfInBounds i true) (a.put o.dst ((V i).toV Φ')) w' Φ' p q->next (a.put o.dst ((V i).toV Φ')) w'):o.wp P a w next Q:=by
 have hin:i<ops.size:=(Array.getElem?_eq_some_iff.1 ho).1
 have hil:i<listed.size:=by rw [I.size];exact hin
 have hopk:=hd.oper i o ho
 simp only [mo,Bool.and_eq_true] at hopk
 have hnb:¬ SE S ops.size HH (Ls listed) (HH i).length:=by
  rintro (hb | ⟨j,hj,hL,h1,h2⟩)
  ·have:=hS0 _ hb
   have:=tr.le (Nat.zero_le i) (by omega);omega
  ·rcases Nat.lt_trichotomy j i with h | h | h
   ·have:=tr.le (i:=j+1) (j:=i) (by omega) (by omega);omega
   ·subst h;exact hni hL
   ·have:=tr.le (i:=i+1) (j:=j) (by omega) (by omega);omega
 refine hmk.run (λ_ _ h=>by simp at h) Φ (λ_=>False) w a next Q arf (λx hx=>?_) (λΦ1 w1 hp1 _=>?_)
 ·have hxk:qR x=true:=Array.all_eq_true_iff_forall_mem.1 hopk.2 x hx
  obtain ⟨v,rfl⟩:=hcon x hx
  exact ⟨(v_ Φ hxk).symm,wa Φ _ v⟩
 ·have hps:=AE.late I.post.rel hq hnb hat hp1
  have hse:SE S ops.size HH (Ls (listed.setIfInBounds i true))=λb=>SE S ops.size HH (Ls listed) b\/b=(HH i).length:=by
   rw [ug (λj=>fe hil) hin]
   funext b
   rw [hlen]
   exact propext ⟨λh=>h.imp id (λh=>by omega),λh=>h.imp id (λh=>by omega)⟩
  have hv2:(V i).ok (Φ.put (HH i).length (Φ1.b 0) (Φ1.o 0) (Φ1.k 0)) (SE S ops.size HH (Ls (listed.setIfInBounds i true))):=by
   rw [hse,hV]
   simp only [AV.ok]
   intro z hz
   cases hz
   exact ⟨.inr rfl,λz hz=>by cases hz⟩
  have hveq:(AV.sl ⟨some (0,0),n,.ex n⟩).toV Φ1=(V i).toV (Φ.put (HH i).length (Φ1.b 0) (Φ1.o 0) (Φ1.k 0)):=by
   rw [hV];simp [AV.toV,Sl.toV,Phi.put_b,Phi.put_o]
  rw [hveq]
  refine hnext _ w1 ⟨by simp [I.size],I.closed' ho hr,I.pq,λj hj hl=>(fe hil).2 (.inl (I.h1 j hj hl)),λj hj hjn hl hL=>?_,I.h3,I.h4,?_,?_,?_,?_⟩
  ·rcases (fe hil).1 hL with hL | rfl
   ·exact I.h2 j hj hjn hl hL
   ·rw [hl.1] at hns;cases hns
  ·rw [hse];exact I.post.trans hps
  ·cases o.dst <;> simp [Act.put,I.defers]
  ·cases o.dst <;> simp [Act.put,I.asize]
  ·exact I.val' hd ho hni hps.agree (λb hb=>by rw [hse];exact .inl hb) hv2
theorem InvW.all (hd:DrawSW ops nt tbl pins stb) (tr:Tr P ops pins TM HH V) (hld:∀ (j:Nat) (o:Oper),ops[j]?=some o->lc o=true->HH (j+1)=HH j) (hmk:∀ (j:Nat) (o:Oper),ops[j]?=some o->kU o=true->o.guard=none->Mk1 (HH j) (HH (j+1)) (V j)) {Y:Tabs} (hX:dR P Y.ty) (hst:∀ (k:Nat) (o:Oper),ops[k]?=some o->stb.contains k=true->∀ j,j<=ops.size->(j<ops.size\/pins.contains 999=false)->Stb Y o (opv (TM k)) (V k) (HH j)) (hS0:∀ b,S b->b<(HH 0).length) {Q:Exit->Act->World->Prop}
  (hq:∀ listed a w Φ p q,InvW ops stb nt TM HH V Φs S ws listed a w Φ p q->(∀ i,i<ops.size->Ls listed i)->Q .normal a w) :
  ∀ (fuel:Nat) (listed:Array Bool) (a:Act) (w:World) (Φ:Phi) (p q:Nat) (l:List Nat),InvW ops stb nt TM HH V Φs S ws listed a w Φ p q->l.length<=fuel->(∀ i,i<ops.size->¬ Ls listed i->i∈l) ->
   wpAny P .any ops Q fuel listed a w:=by
 have hcs:∀ (j:Nat) (o:Oper),ops[j]?=some o->stb.contains j=true->aX (HH j) (HH (j+1)):=λj o hj hc=>by
  obtain ⟨hg,h | ⟨h,_⟩⟩:=hd.load j o hj hc
  ·rw [hld j o hj h];exact aX.refl _
  ·exact (hmk j o hj h hg).1
 intro fuel
 induction fuel with
 | zero=>
  intro listed a w Φ p q l I hl hm
  have hall:∀ i,i<ops.size->Ls listed i:=λi hi=>Classical.byContradiction λh=>by
   have:=hm i hi h
   have:l=[]:=List.eq_nil_of_length_eq_zero (by omega)
   simp_all
  refine ⟨?_,hq listed a w Φ p q I hall⟩
  apply List.eq_nil_iff_forall_not_mem.2
  intro i hi
  obtain ⟨h0,o,ho,_⟩:=mem_ready.1 hi
  have hin:i<ops.size:=(Array.getElem?_eq_some_iff.1 ho).1
  have:=hall i hin
  unfold Ls at this
  simp only [Array.getD_eq_getD_getElem?] at h0 this
  rw [Array.getElem?_eq_getElem (by rw [I.size];exact hin)] at h0 this
  simp at h0 this
  rw [h0] at this;cases this
 | succ fuel ih=>
  intro listed a w Φ p q l I hl hm
  refine ⟨λhr=>?_,λi hi=>?_⟩
  ·-- nothing is ready: all are listed
   have hall:∀ i,i<ops.size->Ls listed i:=by
    intro i
    induction i using Nat.strongRecOn with
    | _ i ihi=>
     intro hin
     refine Classical.byContradiction λh=>?_
     have ho:ops[i]?=some ops[i]:=Array.getElem?_eq_getElem hin
     have hmem:i∈Region.ready .any ops listed:=by
      refine mem_ready.2 ⟨?_,ops[i],ho,λe he hb=>?_⟩
      ·unfold Ls at h
       simp only [Array.getD_eq_getD_getElem?] at h ⊢
       rw [Array.getElem?_eq_getElem (by rw [I.size];exact hin)] at h ⊢
       simpa using h
      ·have hlt:=hd.back i _ ho e he hb
       exact ihi e.on hlt (by omega)
     rw [hr] at hmem
     cases hmem
   exact hq listed a w Φ p q I hall
  ·obtain ⟨h0,o,ho,hr⟩:=mem_ready.1 hi
   have hin:i<ops.size:=(Array.getElem?_eq_some_iff.1 ho).1
   have hil:i<listed.size:=by rw [I.size];exact hin
   have hni:¬ Ls listed i:=by
    unfold Ls
    simp only [Array.getD_eq_getD_getElem?] at h0 ⊢
    rw [Array.getElem?_eq_getElem hil] at h0 ⊢
    simpa using h0
   have hil2:i∈l:=hm i hin hni
   have hl':(l.erase i).length<=fuel:=by
    rw [List.length_erase_of_mem hil2];omega
   have hm':∀ j,j<ops.size->¬ Ls (listed.setIfInBounds i true) j->j∈l.erase i:=λj hj hn=>by
    have h1:j≠i:=λe=>hn ((fe hil).2 (.inr e))
    have h2:¬ Ls listed j:=λe=>hn ((fe hil).2 (.inl e))
    exact (List.mem_erase_of_ne h1).2 (hm j hj h2)
   have hr':∀ e∈o.after,Region.binds .any e=true->Ls listed e.on:=hr
   have hopk:=hd.oper i o ho
   simp only [mo,Bool.and_eq_true] at hopk
   have hslots:=λt ht=>I.slots hd tr ho hr' hni t ht
   unfold wpOp
   simp only [ho]
   rcases tr.step i o ho with ⟨hwant,hot,hsil⟩ | ⟨d,want,hg,htd,hv,hH⟩
   ·have hwd:Region.wanted o (yielded ops a.tmps)=true:=by
     rcases hwant with hg | ⟨d,want,hg,htd⟩
     ·unfold Region.wanted;rw [hg]
     ·have h1:=(hslots d (Ly hg)).1
      rw [htd] at h1
      rw [LA hg h1];cases want <;> rfl
    rw [if_pos hwd]
    refine .inl ?_
    cases hs:dd o with
    | true=>
     obtain ⟨hpv,hH⟩:=hsil hs
     have hops:∀ x∈o.op.operands,a.eval x=(opv (TM i) x).toV Φ/\(opv (TM i) x).ok Φ (SE S ops.size HH (Ls listed)):=λx hx=>by
      have hxk:qR x=true:=Array.all_eq_true_iff_forall_mem.1 hopk.2 x hx
      cases x with
      | tmp t=>exact hslots t (Eo hx)
      | const v=>exact ⟨(v_ Φ hxk).symm,wa Φ _ v⟩
      | func f=>exact ⟨by simp [Act.eval,opv,AV.toV,AV.toVs],by simp [opv,AV.ok,AV.oks]⟩
      | global g=>cases hxk
     have hse:∀ cs b,o.op≠.select cs b:=λcs b e=>by simp [dd,e] at hs
     have hrun:=hpv.run Φ _ (λx hx=>(hops x hx).2) w
     have he:execOp a.eval o=execOp (λx=>(opv (TM i) x).toV Φ) o:=execOp_congr o hse (λx hx=>(hops x hx).1)
     unfold Oper.wp
     rw [he,hrun,Oper.upon_value]
     exact ih _ _ _ Φ p q _ (I.quiet hd ho hr' hni hH (hpv.ok Φ _ (λx hx=>(hops x hx).2)) (.inl hs) (λq=>by rw [hs] at q;cases q)) hl' hm'
    | false=>
     cases hc:stb.contains i with
     | false=>exact I.loud hd tr hS0 ho hr' hni hs hc hcs hot (λΦ' w' p' q' I'=>ih _ _ _ Φ' p' q' _ I' hl' hm')
     | true=>
      obtain ⟨k,hik,hkq,hkc,hk1,hlt⟩:∃ k,(i<=k\/k=q)/\k<=q/\aX (HH k) (HH q)/\(k<ops.size\/pins.contains 999=false)/\(i<q->i<k):=by
       have hah:=qq hd.toD I.closed i o ho hr'
       by_cases hlq:q<ops.size\/pins.contains 999=false
       ·exact ⟨q,.inr rfl,Nat.le_refl _,aX.refl _,hlq,id⟩
       ·have hfin:pins.contains 999=true:=by
         cases hf:pins.contains 999 with
         | true=>rfl
         | false=>exact absurd (.inr hf) hlq
        have hqn:q=ops.size:=by have:=I.pq.2;have:¬ q<ops.size:=λh=>hlq (.inl h);omega
        obtain ⟨oL,hn0,hoL,hsL,haL⟩:=hd.last hfin
        have hai:=haL i hin hc
        have hiL:=(hd.tblp i (ops.size - 1) (by omega) hai).1
        have hnL:¬ Ls listed (ops.size - 1):=λhL=>hni (qq hd.toD I.closed (ops.size - 1) oL hoL (I.closed (ops.size - 1) oL hL hoL) i hai)
        have hstL:stb.contains (ops.size - 1)=false:=by
         cases hf:stb.contains (ops.size - 1) with
         | false=>rfl
         | true=>have:=(hd.tblp _ (ops.size - 1) (by omega) (haL (ops.size - 1) (by omega) hf)).1;omega
        have hpL:p<=ops.size - 1:=by
         rcases Nat.lt_or_ge (ops.size - 1) p with h | h
         ·exact absurd (I.h1 _ h ⟨hstL,λo' ho'=>by rw [hoL] at ho';cases ho';exact hsL⟩) hnL
         ·exact h
        refine ⟨ops.size - 1,.inl (by omega),by omega,?_,.inl (by omega),λ_=>hiL⟩
        have:=I.h3 (ops.size - 1) hpL (by omega)
        rw [show ops.size - 1+1=q by omega] at this
        exact this
      obtain ⟨hgn,hll | ⟨hmm,hpj⟩⟩:=hd.load i o ho hc
      ·exact I.stable hd tr hS0 ho hr' hni hs hc (hld i o ho hll) hik hkq hkc ((hst i o ho hc k (Nat.le_trans hkq I.pq.2) hk1).ot hX (afr hll)) (λΦ' w' I'=>ih _ _ _ Φ' p q _ I' hl' hm')
      ·obtain ⟨_,m1,n',m2⟩:=hmk i o ho hmm hgn
       have hiq:i<q:=by
        rcases Nat.lt_or_ge i q with h | h
        ·exact h
        ·exfalso
         rcases I.h4 with h4 | h4
         ·omega
         ·have hqn:q<ops.size:=by omega
          have hoj:ops[q]?=some ops[q]:=Array.getElem?_eq_getElem hqn
          have w1:=(tr.pinc q _ hoj).resolve_right h4
          have w2:uh ops stb q:=⟨LB hcs hoj h4,λo' ho'=>by
           rw [hoj] at ho';cases ho'
           cases hs':dd ops[q] with
           | false=>rfl
           | true=>
            exfalso
            rcases tr.step q _ hoj with ⟨_,_,h⟩ | ⟨_,_,_,_,_,h⟩
            ·exact h4 ((h hs').2 ▸ aX.refl _)
            ·exact h4 (h ▸ aX.refl _)⟩
          by_cases e:i=q
          ·subst e;exact h4 (hmk i o ho hmm hgn).1
          ·exact I.h2 q (Nat.le_refl _) hqn w2 (qq hd.toD I.closed i o ho hr' q (hpj q (by omega) w1))
       have hkl:=hlt hiq
       obtain ⟨b,n,cells,k1,k2,k3,k4⟩:=(hst i o ho hc k (Nat.le_trans hkq I.pq.2) hk1).mk hX hmm
       rw [m2] at k1
       simp only [AV.sl.injEq,Sl.mk.injEq,Option.some.injEq,Prod.mk.injEq,and_true] at k1
       obtain ⟨hb,hnn,_⟩:=k1
       subst hb hnn
       have hle:=tr.le (i:=i+1) (j:=k) (by omega) (Nat.le_trans hkq I.pq.2)
       have hk4:(HH k)[(HH i).length]?=some ⟨cells,true,true⟩:=k4.resolve_left (by omega)
       exact I.late hd tr hS0 ho hr' hni hc m1 m2 k2 k3 ((hkc _ (by omega)).trans hk4) (afs hmm).2.2 (λΦ' w' I'=>ih _ _ _ Φ' p q _ I' hl' hm')
   ·have h1:=(hslots d (Ly hg)).1
    have hwd:Region.wanted o (yielded ops a.tmps)=false:=by
     rcases htd with htd | htd <;> rw [htd] at h1
     ·rw [LA hg h1];cases want <;> rfl
     ·exact VI hg (by simpa [gE,AV.toV,AV.toVs,undef] using h1)
    rw [if_neg (by rw [hwd];simp)]
    have hvu:(V i).toV Φ=undef:=by rw [hv];simp [gE,AV.toV,AV.toVs,undef]
    have hvok:(V i).ok Φ (SE S ops.size HH (Ls listed)):=by rw [hv];simp [gE,AV.ok,AV.oks]
    rw [<- hvu]
    cases hs:dd o with
    | true=>exact ih _ _ _ Φ p q _ (I.quiet hd ho hr' hni hH hvok (.inl hs) (λq=>by rw [hs] at q;cases q)) hl' hm'
    | false=>
     -- passed by: it leaves the heap,so it stands fi of the next place that may write
     have hns:stb.contains i=false:=by
      cases hc:stb.contains i with
      | false=>rfl
      | true=>have:=(hd.load i o ho hc).1;unfold lb at hg;rw [this] at hg;cases hg
     have hloud:uh ops stb i:=⟨hns,λo' ho'=>by rw [ho] at ho';cases ho';exact hs⟩
     have hiq:i<q:=by
      rcases Nat.lt_or_ge i q with h | h
      ·exact h
      ·exfalso
       rcases I.h4 with h4 | h4
       ·omega
       ·have hqn:q<ops.size:=by omega
        have hoj:ops[q]?=some ops[q]:=Array.getElem?_eq_getElem hqn
        have w1:=(tr.pinc q _ hoj).resolve_right h4
        have w2:uh ops stb q:=⟨LB hcs hoj h4,λo' ho'=>by
         rw [hoj] at ho';cases ho'
         cases hs':dd ops[q] with
         | false=>rfl
         | true=>
          exfalso
          rcases tr.step q _ hoj with ⟨_,_,h⟩ | ⟨_,_,_,_,_,h⟩
          ·exact h4 ((h hs').2 ▸ aX.refl _)
          ·exact h4 (h ▸ aX.refl _)⟩
        by_cases e:i=q
        ·subst e;exact h4 (hH ▸ aX.refl _)
        ·have hah:=qq hd.toD I.closed i o ho hr'
         rcases hd.pin i q o ho hqn w1 e hs hns with h5 | h5
         ·have:=(hd.tblp i q hqn h5).1;omega
         ·exact I.h2 q (Nat.le_refl _) hqn w2 (hah q h5)
     exact ih _ _ _ Φ p q _ (I.quiet hd ho hr' hni hH hvok (.inr (.inr (λ_ e=>by omega))) (λ_ _=>hiq)) hl' hm'
theorem arh {Y:Tabs} {C:Orc R} {rid:Nat} (hm:P.follows .mixedOrders=true) (hX:dR P Y.ty) (hC:COk P C) (hd:DrawSW ops nt tbl pins stb) {Φ0:Phi} {S0:Nat->Prop} {H0:Hp} {w0:World} {Q:Exit->Act->World->Prop}
  {tm:Tm} {H:Hp} {K:Tm->Hp->Option R} {a:Act} {w:World} (h:mp Y C ops pins stb ops.toList 0 tm H [H] [] K=some r) (hs:SR Φ0 S0 H0 w0 nt tm H a w)
  (hq:∀ tm' H' a' w',SR Φ0 S0 H0 w0 nt tm' H' a' w'->K tm' H'=some r->Q .normal a' w'):(Code.region rid ops true).wp P Q a w:=by
 obtain ⟨TM,HH,V,hsF,lsF,e1,e2,e3,f1,_,f3,f4,f5,e4⟩:=afu (P:=P) hX hC ops.toList 0 tm H [H] [] K rfl (by simp) (λ_=>by simp) h
 obtain ⟨hw,Φ,hp,ht⟩:=hs
 subst e1 e2
 have hS0:∀ b,ext S0 H0 (HH 0) b->b<(HH 0).length:=hp.rel.lt
 have hld:∀ (j:Nat) (o:Oper),ops[j]?=some o->lc o=true->HH (j+1)=HH j:=λj o ho=>(e3 j o (Nat.zero_le _) ho).2.2.2.1
 have hmk:∀ (j:Nat) (o:Oper),ops[j]?=some o->kU o=true->o.guard=none->Mk1 (HH j) (HH (j+1)) (V j):=λj o ho=>(e3 j o (Nat.zero_le _) ho).2.2.2.2
 have hst:∀ (k:Nat) (o:Oper),ops[k]?=some o->stb.contains k=true->∀ j,j<=ops.size->(j<ops.size\/pins.contains 999=false)->Stb Y o (opv (TM k)) (V k) (HH j):=λk o ho hk j hj hjl=>
  (f5 _ (f4 k o (Nat.zero_le _) ho hk) (HH j) (by
   rcases Nat.eq_zero_or_pos j with q | q
   ·subst q;exact f1 _ (by simp)
   ·exact f3 j q hj hjl))
 have tr:Tr P ops pins TM HH V:=Tr.mk' (λj o ho=>let q:=e3 j o (Nat.zero_le _) ho;⟨q.1,q.2.1,q.2.2.1⟩) hw (λt=>AV.inS_mono hS0 _ (AV.ok_inS _ (ht.val t).2))
 refine wp_region_any hm ?_
 obtain ⟨q,g1,g2,g3,g4⟩:=Er ops HH _ 0 rfl (Nat.zero_le _)
 have hsize:(Array.replicate ops.size false).size=ops.size:=by simp
 have hnone:∀ i,¬ Ls (Array.replicate ops.size false) i:=λi=>by
  unfold Ls
  simp only [Array.getD_eq_getD_getElem?]
  by_cases hi:i<ops.size
  ·simp [hi]
  ·simp [hi]
 have hse:SE (ext S0 H0 (HH 0)) ops.size HH (Ls (Array.replicate ops.size false))=ext S0 H0 (HH 0):=by
  funext b
  exact propext ⟨λh=>h.elim id (λ⟨i,_,hL,_⟩=>absurd hL (hnone i)),.inl⟩
 have hcq:aX (HH 0) (HH q):=tr.cons (Nat.zero_le _) g2 g3
 have key:∀ b,ext S0 H0 (HH 0) b->(HH q)[b]?=(HH 0)[b]?:=λb hb=>hcq b (hS0 b hb)
 have I0:InvW ops stb nt TM HH V Φ (ext S0 H0 (HH 0)) w (Array.replicate ops.size false) a { w with drawn:=w.drawn+1 } Φ 0 q:=by
  refine ⟨hsize,λk o hk=>absurd hk (hnone k),⟨g1,g2⟩,λi hi=>absurd hi (Nat.not_lt_zero _),λi _ _ _=>hnone i,λi h1 h2=>g3 i h1 h2,g4,?_,ht.defers,ht.size,λt=>⟨λk o hk=>absurd hk (hnone k),λ_=>by rw [hse];exact ht.val t⟩⟩
  rw [hse]
  have hr:=hp.rel.drew (w.drawn+1)
  refine ⟨Phi.agree_refl _ _,λb hb=>hb,?_,?_,rfl,rfl,rfl,Nat.le_refl _,λ_ _ _=>rfl,λb blk hb hx _ _=>⟨hb,by rw [<- key b hb];exact hx⟩⟩
  ·exact ⟨λb hb=>Nat.lt_of_lt_of_le (hr.lt b hb) (tr.le (Nat.zero_le _) g2),λb blk hb hx=>hr.closed b blk hb (by rw [<- key b hb];exact hx),λb blk hb hx=>hr.cell b blk hb (by rw [<- key b hb];exact hx),
    λb blk hb hx=>hr.own b blk hb (by rw [<- key b hb];exact hx),λb blk b' blk' hb hb' hx hx'=>hr.inj b blk b' blk' hb hb' (by rw [<- key b hb];exact hx) (by rw [<- key b' hb'];exact hx'),
    λb blk b' blk' hb hb' hx hx'=>hr.ro b blk b' blk' hb hb' (by rw [<- key b hb];exact hx) (by rw [<- key b' hb'];exact hx')⟩
  ·rintro k hk ⟨b,blk,hb,hx,hrest⟩
   exact ⟨b,blk,hb,by rw [<- key b hb];exact hx,hrest⟩
 have hcs:∀ (j:Nat) (o:Oper),ops[j]?=some o->stb.contains j=true->aX (HH j) (HH (j+1)):=λj o hj hc=>by
  obtain ⟨hg,h | ⟨h,_⟩⟩:=hd.load j o hj hc
  ·rw [hld j o hj h];exact aX.refl _
  ·exact (hmk j o hj h hg).1
 refine InvW.all hd tr hld hmk hX hst hS0 (λlisted a' w' Φ' p' q' I hall=>?_) ops.size _ a _ Φ 0 q (List.range ops.size) I0 (by simp) (λi hi _=>List.mem_range.2 hi)
 -- all is done
 have hqn:q'=ops.size:=by
  rcases Nat.lt_or_ge q' ops.size with hlt | hge
  ·exfalso
   have h:=I.h4.resolve_left (by omega)
   have hoj:ops[q']?=some ops[q']:=Array.getElem?_eq_getElem hlt
   refine I.h2 q' (Nat.le_refl _) hlt ⟨LB hcs hoj h,λo' ho'=>?_⟩ (hall q' hlt)
   rw [hoj] at ho';cases ho'
   cases hs':dd ops[q'] with
   | false=>rfl
   | true=>
    exfalso
    rcases tr.step q' _ hoj with ⟨_,_,h'⟩ | ⟨_,_,_,_,_,h'⟩
    ·exact h ((h' hs').2 ▸ aX.refl _)
    ·exact h (h' ▸ aX.refl _)
  ·have:=I.pq.2;omega
 subst hqn
 have hle:=tr.le (Nat.zero_le ops.size) (Nat.le_refl _)
 have hseE:SE (ext S0 H0 (HH 0)) ops.size HH (Ls listed)=ext (ext S0 H0 (HH 0)) (HH 0) (HH ops.size):=by
  funext b
  apply propext
  constructor
  ·rintro (hb | ⟨i,hi,_,h1,h2⟩)
   ·exact .inl hb
   ·have:=tr.le (Nat.zero_le i) (by omega)
    have:=tr.le (i:=i+1) (j:=ops.size) (by omega) (Nat.le_refl _)
    exact .inr ⟨by omega,by omega⟩
  ·rintro (hb | ⟨h1,h2⟩)
   ·exact .inl hb
   ·obtain ⟨i,hi,h3,h4⟩:=tr.range ops.size (Nat.le_refl _) b h1 h2
    exact .inr ⟨i,hi,hall i hi,h3,h4⟩
 have hps:=I.post
 rw [hseE] at hps
 have hpost:Post Φ (ext S0 H0 (HH 0)) (HH 0) w Φ' (HH ops.size) w':=⟨hps.agree,hle,hps.rel,hps.own,hps.os,hps.tape,hps.output,hps.size,hps.frame,hps.rok⟩
 have hee:=Bt (S:=S0) hp.len hle
 refine hq (TM ops.size) (HH ops.size) a' w' ⟨(tr.wf _ (Nat.le_refl _)).1,Φ',hp.trans hpost,I.defers,I.asize,λt=>?_⟩ e4
 rw [<- hee,<-hseE]
 obtain ⟨s1,s2⟩:=tr.slotW hd t ops.size (Nat.le_refl _)
 by_cases hex:∃ (k:Nat) (ok:Oper),ops[k]?=some ok/\ok.dst=some t
 ·obtain ⟨k,ok,hk,hkd⟩:=hex
  have hkn:k<ops.size:=(Array.getElem?_eq_some_iff.1 hk).1
  rw [s1 k ok hkn hk hkd]
  exact (I.val t).1 k ok (hall k hkn) hk hkd
 ·have hno:∀ (k:Nat) (ok:Oper),ops[k]?=some ok->ok.dst≠some t:=λk ok hk hkd=>hex ⟨k,ok,hk,hkd⟩
  rw [s2 (λk ok _ hk=>hno k ok hk)]
  exact (I.val t).2 (λk ok _ hk=>hno k ok hk)
end
def VN (ops:Array Oper) (nt:Nat) (tbl:List (List Nat)) (pins stb:List Nat):Bool:=
 afm ops tbl&&ops.toList.all (mo nt) &&
 (List.range ops.size).all (λj=>match ops[j]? with
  | some o=>(o.after.all λe=>!Region.binds .any e || decide (e.on<j)) &&
   (List.range ops.size).all (λi=>match ops[i]? with
    | some oi=>(i==j || (match oi.dst with | some d=>o.dst != some d&&(!ko ops o d || fi tbl i j || fi tbl j i) | none=>true)) &&
     (i != j || (match oi.dst with | some d=>!ko ops o d | none=>true)) &&
     (!pins.contains j || i==j || dd oi || stb.contains i || fi tbl i j || fi tbl j i)
    | none=>true)
  | none=>true) &&
 stb.all (λi=>match ops[i]? with | some o=>o.guard.isNone&&(lc o || (kU o&&(List.range i).all λj=>!pins.contains j || fi tbl j i)) | none=>true) &&
 (!pins.contains 999 || match ops[ops.size - 1]? with | some o=>!dd o&&stb.all (λi=>fi tbl i (ops.size - 1)) | none=>false)
theorem ari {ops:Array Oper} {nt:Nat} {tbl:List (List Nat)} {pins stb:List Nat} (h:VN ops nt tbl pins stb=true):DrawSW ops nt tbl pins stb:=by
 unfold VN at h
 simp only [Bool.and_eq_true] at h
 obtain ⟨⟨⟨⟨h1,h2⟩,h3⟩,h4⟩,h5⟩:=h
 have hj:∀ (j:Nat) (o:Oper),ops[j]?=some o->j∈List.range ops.size:=λj o ho=>List.mem_range.2 (Array.getElem?_eq_some_iff.1 ho).1
 have h3':∀ (j:Nat) (o:Oper),ops[j]?=some o->(o.after.all λe=>!Region.binds .any e || decide (e.on<j))=true /\
   ∀ (i:Nat) (oi:Oper),ops[i]?=some oi ->
    ((i==j || (match oi.dst with | some d=>o.dst != some d&&(!ko ops o d || fi tbl i j || fi tbl j i) | none=>true))=true /\
    (i != j || (match oi.dst with | some d=>!ko ops o d | none=>true))=true) /\
    (!pins.contains j || i==j || dd oi || stb.contains i || fi tbl i j || fi tbl j i)=true:=λj o ho=>by
  have:=List.all_eq_true.1 h3 j (hj j o ho)
  simp only [ho,Bool.and_eq_true] at this
  refine ⟨this.1,λi oi hoi=>?_⟩
  have:=List.all_eq_true.1 this.2 i (hj i oi hoi)
  simp only [hoi,Bool.and_eq_true] at this
  exact this
 refine ⟨?_,?_,?_,?_,?_,?_,?_,?_⟩
 ·intro i j hjn ha
  have:=List.all_eq_true.1 h1 j (List.mem_range.2 hjn)
  have:=List.all_eq_true.1 this i (by unfold fi at ha;simpa using ha)
  simp only [Bool.and_eq_true,decide_eq_true_eq,Bool.or_eq_true] at this
  refine ⟨this.1,this.2.imp id λq=>?_⟩
  obtain ⟨k,hk,q⟩:=List.any_eq_true.1 q
  simp only [Bool.and_eq_true,decide_eq_true_eq] at q
  exact ⟨k,q.1.1,q.1.2,q.2⟩
 ·intro j o ho
  exact List.all_eq_true.1 h2 o (by rw [<- Array.getElem?_toList] at ho;exact List.mem_of_getElem? ho)
 ·intro j o ho e he hb
  have:=Array.all_eq_true_iff_forall_mem.1 (h3' j o ho).1 e he
  simpa [hb] using this
 ·intro i j oi oj d hi hjj hne hd
  have:=((h3' j oj hjj).2 i oi hi).1.1
  have hne':(i==j)=false:=by simpa using hne
  simp only [hne',hd,Bool.false_or,Bool.and_eq_true,Bool.or_eq_true,bne_iff_ne] at this
  refine ⟨this.1,λq=>?_⟩
  rcases this.2 with (q' | q') | q'
  ·rw [q] at q';cases q'
  ·exact .inl q'
  ·exact .inr q'
 ·intro i oi d hi hd
  have:=((h3' i oi hi).2 i oi hi).1.2
  simpa [hd] using this
 ·intro i j oi hi hjn hp hne hs hns
  have hoj:ops[j]?=some ops[j]:=Array.getElem?_eq_getElem hjn
  have:=((h3' j _ hoj).2 i oi hi).2
  have hne':(i==j)=false:=by simpa using hne
  simp only [hp,hne',hs,hns,Bool.not_true,Bool.false_or,Bool.or_eq_true] at this
  exact this
 ·intro i oi hi hs
  have hm:i∈stb:=List.contains_iff_mem.1 hs
  have:=List.all_eq_true.1 h4 i hm
  simp only [hi,Bool.and_eq_true,Bool.or_eq_true,Option.isNone_iff_eq_none] at this
  refine ⟨this.1,this.2.imp id λq=>⟨q.1,λj hj hp=>?_⟩⟩
  have:=List.all_eq_true.1 q.2 j (List.mem_range.2 hj)
  rw [hp] at this
  simpa using this
 ·intro hf
  rw [hf,Bool.not_true,Bool.false_or] at h5
  cases ho:ops[ops.size - 1]? with
  | none=>rw [ho] at h5;cases h5
  | some o=>
   rw [ho] at h5
   simp only [Bool.and_eq_true,Bool.not_eq_true'] at h5
   have:=(Array.getElem?_eq_some_iff.1 ho).1
   exact ⟨o,by omega,rfl,h5.1,λi hi hs=>List.all_eq_true.1 h5.2 i (List.contains_iff_mem.1 hs)⟩
end Go.AE
end
