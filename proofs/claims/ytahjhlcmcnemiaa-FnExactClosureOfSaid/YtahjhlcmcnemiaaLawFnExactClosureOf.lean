/- FnExactClosureOf answers true for every input and leaves its arguments as they were. -/
import Derived.Test.YtahjhlcmcnemiaaLiftFnExactClosureOf
import Derived.Test.YtahjhlcmcnemiaaK1FnExactClosureOf
import Derived.Test.YtahjhlcmcnemiaaK2FnExactClosureOf
import Derived.Test.YtahjhlcmcnemiaaK3FnExactClosureOf
import Derived.Test.YtahjhlcmcnemiaaK4FnExactClosureOf
import Derived.WalkKit
import Derived.ProofKit
import Derived.OpenShut
import Derived.ShutString
import Derived.ChangeOld
import Derived.Below
import Derived.SizedLaws
import Derived.Lib.SmallJoins
namespace Go.Proofs.Ytahjhlcmcnemiaa.fnExactClosureOf
open Go Go.Proofs
theorem closed : joinedFacts Try.pinned.checked.prog 13 Try.f13 Rows.fnExactClosureOfSpec Rows.fnExactClosureOfRow = true := by
  unfold joinedFacts
  rw [k1, k2, k3, k4]
  kernel_rfl
theorem over : Rows.fnExactClosureOfRow.holds Try.pinned (OpenSpec.ofChange Rows.fnExactClosureOfSpec) :=
  OpenClaim.holds_of_wide 13 Try.f13 rfl rfl rfl rfl rfl rfl rfl ⟨rfl, rfl, rfl, rfl, rfl⟩ rfl rfl rfl rfl rfl (by kernel_rfl) Try.func13 closed
    (of_decide_eq_true (by kernel_rfl)) (by unfold Func.isWrapper; first | (rw [if_pos (by decide +kernel)]; kernel_rfl) | (rw [if_neg (by decide +kernel)]; exact ⟨rfl, rfl⟩))
    (fun os started H enc _ => lifted os started H enc)
theorem proved : Rows.FnExactClosureOfSaid := over
#print axioms proved
end Go.Proofs.Ytahjhlcmcnemiaa.fnExactClosureOf
namespace Go.Proofs.Ytahjhlcmcnemiaa
/-- The row, under a short name, for the claim. -/
theorem fnExactClosureOf_holds : Rows.FnExactClosureOfSaid := fnExactClosureOf.proved
end Go.Proofs.Ytahjhlcmcnemiaa
