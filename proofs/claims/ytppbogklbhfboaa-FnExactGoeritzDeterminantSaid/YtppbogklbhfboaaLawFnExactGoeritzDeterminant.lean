/- FnExactGoeritzDeterminant answers true for every input and leaves its arguments as they were. -/
import Derived.Test.YtppbogklbhfboaaLiftFnExactGoeritzDeterminant
import Derived.Test.YtppbogklbhfboaaK1FnExactGoeritzDeterminant
import Derived.Test.YtppbogklbhfboaaK2FnExactGoeritzDeterminant
import Derived.Test.YtppbogklbhfboaaK3FnExactGoeritzDeterminant
import Derived.Test.YtppbogklbhfboaaK4FnExactGoeritzDeterminant
import Derived.WalkKit
import Derived.ProofKit
import Derived.OpenShut
import Derived.ShutString
import Derived.ChangeOld
import Derived.Below
import Derived.SizedLaws
import Derived.Lib.SmallJoins
namespace Go.Proofs.Ytppbogklbhfboaa.fnExactGoeritzDeterminant
open Go Go.Proofs
theorem closed : joinedFacts Try.pinned.checked.prog 3 Try.f3 Rows.fnExactGoeritzDeterminantSpec Rows.fnExactGoeritzDeterminantRow = true := by
  unfold joinedFacts
  rw [k1, k2, k3, k4]
  kernel_rfl
theorem over : Rows.fnExactGoeritzDeterminantRow.holds Try.pinned (OpenSpec.ofChange Rows.fnExactGoeritzDeterminantSpec) :=
  OpenClaim.holds_of_wide 3 Try.f3 rfl rfl rfl rfl rfl rfl rfl ⟨rfl, rfl, rfl, rfl, rfl⟩ rfl rfl rfl rfl rfl (by kernel_rfl) Try.func3 closed
    (of_decide_eq_true (by kernel_rfl)) (by unfold Func.isWrapper; first | (rw [if_pos (by decide +kernel)]; kernel_rfl) | (rw [if_neg (by decide +kernel)]; exact ⟨rfl, rfl⟩))
    (fun os started H enc _ => lifted os started H enc)
theorem proved : Rows.FnExactGoeritzDeterminantSaid := over
#print axioms proved
end Go.Proofs.Ytppbogklbhfboaa.fnExactGoeritzDeterminant
namespace Go.Proofs.Ytppbogklbhfboaa
/-- The row, under a short name, for the claim. -/
theorem fnExactGoeritzDeterminant_holds : Rows.FnExactGoeritzDeterminantSaid := fnExactGoeritzDeterminant.proved
end Go.Proofs.Ytppbogklbhfboaa
