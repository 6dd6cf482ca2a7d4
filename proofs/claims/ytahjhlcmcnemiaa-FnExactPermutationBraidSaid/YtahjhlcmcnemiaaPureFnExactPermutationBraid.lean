/- PermutationBraid: program and reference answer alike for all arguments: the pure statement. -/
import Derived.Test.YtahjhlcmcnemiaaStatFnExactPermutationBraid
import Derived.Test.YtahjhlcmcnemiaaPerm
namespace Go.Proofs.Ytahjhlcmcnemiaa.fnExactPermutationBraid.Pure
open Go.RowKit Go.Proofs.Ytahjhlcmcnemiaa.PA Go.Proofs.YtahjhlcmcnemiaaW.PrintWords Go.Proofs.YtahjhlcmcnemiaaW.PrintLast Go.Proofs.Ytahjhlcmcnemiaa.Base Go.Proofs.Ytahjhlcmcnemiaa.BaseB Go.Proofs.Ytahjhlcmcnemiaa.Perm
theorem FnExactPermutationBraid : Pure := by
  intro l hl hw
  refine ⟨(l.length + 1001) + 1 + 1 + 1, ?_⟩
  generalize hK : l.length + 1001 = K
  unfold laws_FnExactPermutationBraid.f
  by_cases hb : (1048576 : Int) < l.length
  · rw [if_pos (by omega)]
  · rw [if_neg (by omega)]
    have hs : ∀ k, 1000 + l.length < k → spec_PermutationBraid.f k l = some (out l) := fun k hk => spec_f k l hk (by omega)
    have hi : ∀ k, 1000 + l.length < k → impl_PermutationBraid.f k l = some (out l) := fun k hk => impl_f k l hk (by omega)
    have ho := out_len l
    generalize hO : out l = o at hs hi ho
    obtain ⟨o1, o2, o3⟩ := o
    have ho2 : o2.length ≤ _ := ho
    simp (disch := omega) only [toInts, hs, hi, Option.bind_some, eqB_same, bne_self_eq_false, if_true]
    simp only [laws_FnExactPermutationBraid.j0]
    simp (disch := omega) only [if_lt_no, toInts, Option.bind_some, eqInts_same, eqB_same, markInts, bne_self_eq_false, Bool.false_eq_true, if_true, if_false]
    simp only [laws_FnExactPermutationBraid.j1]
    simp (disch := omega) only [if_lt_no, toInts, hi, Option.bind_some, eqB_same, markB, heldB, bne_self_eq_false, Bool.false_eq_true, if_true, if_false]
    simp only [laws_FnExactPermutationBraid.j2]
    simp (disch := omega) only [if_lt_no, Option.bind_some, heldB, Bool.false_eq_true, if_true, if_false]
end Go.Proofs.Ytahjhlcmcnemiaa.fnExactPermutationBraid.Pure
