/- FnExactKnotDeterminant answers true for every input and leaves its arguments as they were. -/
import Derived.Test.YtppbogklbhfboaaLiftFnExactKnotDeterminant
import Derived.Test.YtppbogklbhfboaaK1FnExactKnotDeterminant
import Derived.Test.YtppbogklbhfboaaK2FnExactKnotDeterminant
import Derived.Test.YtppbogklbhfboaaK3FnExactKnotDeterminant
import Derived.Test.YtppbogklbhfboaaK4FnExactKnotDeterminant
import Derived.WalkKit
import Derived.ProofKit
import Derived.OpenShut
import Derived.ShutString
import Derived.ChangeOld
import Derived.Below
import Derived.SizedLaws
import Derived.Lib.SmallJoins
namespace Go.Proofs.Ytppbogklbhfboaa.fnExactKnotDeterminant
open Go Go.Proofs
theorem closed : joinedFacts Try.pinned.checked.prog 5 Try.f5 Rows.fnExactKnotDeterminantSpec Rows.fnExactKnotDeterminantRow = true := by
  unfold joinedFacts
  rw [k1, k2, k3, k4]
  kernel_rfl
theorem over : Rows.fnExactKnotDeterminantRow.holds Try.pinned (OpenSpec.ofChange Rows.fnExactKnotDeterminantSpec) :=
  OpenClaim.holds_of_wide 5 Try.f5 rfl rfl rfl rfl rfl rfl rfl ⟨rfl, rfl, rfl, rfl, rfl⟩ rfl rfl rfl rfl rfl (by kernel_rfl) Try.func5 closed
    (of_decide_eq_true (by kernel_rfl)) (by unfold Func.isWrapper; first | (rw [if_pos (by decide +kernel)]; kernel_rfl) | (rw [if_neg (by decide +kernel)]; exact ⟨rfl, rfl⟩))
    (fun os started H enc _ => lifted os started H enc)
theorem proved : Rows.FnExactKnotDeterminantSaid := over
#print axioms proved
end Go.Proofs.Ytppbogklbhfboaa.fnExactKnotDeterminant
namespace Go.Proofs.Ytppbogklbhfboaa
/-- The row, under a short name, for the claim. -/
theorem fnExactKnotDeterminant_holds : Rows.FnExactKnotDeterminantSaid := fnExactKnotDeterminant.proved
end Go.Proofs.Ytppbogklbhfboaa
