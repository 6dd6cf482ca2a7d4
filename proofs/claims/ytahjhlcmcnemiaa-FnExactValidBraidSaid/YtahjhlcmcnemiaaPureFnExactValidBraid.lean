/- ValidBraid: program and reference answer alike for all arguments: the pure statement. -/
import Derived.Test.YtahjhlcmcnemiaaStatFnExactValidBraid
import Derived.Test.YtahjhlcmcnemiaaBaseB
namespace Go.Proofs.Ytahjhlcmcnemiaa.fnExactValidBraid.Pure
open Go.RowKit Go.Proofs.Ytahjhlcmcnemiaa.PA Go.Proofs.YtahjhlcmcnemiaaW.PrintWords Go.Proofs.YtahjhlcmcnemiaaW.PrintLast Go.Proofs.Ytahjhlcmcnemiaa.Base Go.Proofs.Ytahjhlcmcnemiaa.BaseB
theorem FnExactValidBraid : Pure := by
  intro a l ha hl hw
  refine ⟨l.length + 27, ?_⟩
  unfold laws_FnExactValidBraid.f
  rw [szB a l 1048576 (by omega) (by omega) hl]
  simp only [Option.bind_some]
  by_cases hb : (1048576 : Int) < l.length
  · rw [if_pos hb, if_pos (by omega)]
  · rw [if_neg hb, if_neg (by omega)]
    have h1 := toB a l (l.length + 27) (by omega) (by omega)
    have h2 := valid (l.length + 27) a l (by omega) hl
    have h3 : impl_ValidBraid.f a l = some (impl_isBraid.b a l) := rfl
    have h4 := eqB_same a l (l.length + 27) (by omega) (by omega)
    simp only [h1, h2, h3, h4, Option.bind_some, bne_self_eq_false, Bool.false_eq_true, if_false, if_true]
end Go.Proofs.Ytahjhlcmcnemiaa.fnExactValidBraid.Pure
