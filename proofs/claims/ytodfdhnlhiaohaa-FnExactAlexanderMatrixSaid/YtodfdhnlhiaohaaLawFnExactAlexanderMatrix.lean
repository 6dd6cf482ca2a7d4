/- FnExactAlexanderMatrix answers true for every input and leaves its arguments as they were. -/
import Derived.Test.YtodfdhnlhiaohaaLiftFnExactAlexanderMatrix
import Derived.Test.YtodfdhnlhiaohaaK1FnExactAlexanderMatrix
import Derived.Test.YtodfdhnlhiaohaaK2FnExactAlexanderMatrix
import Derived.Test.YtodfdhnlhiaohaaK3FnExactAlexanderMatrix
import Derived.Test.YtodfdhnlhiaohaaK4FnExactAlexanderMatrix
import Derived.WalkKit
import Derived.ProofKit
import Derived.OpenShut
import Derived.ShutString
import Derived.ChangeOld
import Derived.Below
import Derived.SizedLaws
import Derived.Lib.SmallJoins
namespace Go.Proofs.Ytodfdhnlhiaohaa.fnExactAlexanderMatrix
open Go Go.Proofs
theorem closed : joinedFacts Try.pinned.checked.prog 4 Try.f4 Rows.fnExactAlexanderMatrixSpec Rows.fnExactAlexanderMatrixRow = true := by
  unfold joinedFacts
  rw [k1, k2, k3, k4]
  kernel_rfl
theorem over : Rows.fnExactAlexanderMatrixRow.holds Try.pinned (OpenSpec.ofChange Rows.fnExactAlexanderMatrixSpec) :=
  OpenClaim.holds_of_wide 4 Try.f4 rfl rfl rfl rfl rfl rfl rfl ⟨rfl, rfl, rfl, rfl, rfl⟩ rfl rfl rfl rfl rfl (by kernel_rfl) Try.func4 closed
    (of_decide_eq_true (by kernel_rfl)) (by unfold Func.isWrapper; first | (rw [if_pos (by decide +kernel)]; kernel_rfl) | (rw [if_neg (by decide +kernel)]; exact ⟨rfl, rfl⟩))
    (fun os started H enc _ => lifted os started H enc)
theorem proved : Rows.FnExactAlexanderMatrixSaid := over
#print axioms proved
end Go.Proofs.Ytodfdhnlhiaohaa.fnExactAlexanderMatrix
namespace Go.Proofs.Ytodfdhnlhiaohaa
/-- The row, under a short name, for the claim. -/
theorem fnExactAlexanderMatrix_holds : Rows.FnExactAlexanderMatrixSaid := fnExactAlexanderMatrix.proved
end Go.Proofs.Ytodfdhnlhiaohaa
