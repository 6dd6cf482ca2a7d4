/- FnDeterminant answers true for every input and leaves its arguments as they were. -/
import Derived.Test.YtokekkacliomkaaLiftFnDeterminant
import Derived.Test.YtokekkacliomkaaK1FnDeterminant
import Derived.Test.YtokekkacliomkaaK2FnDeterminant
import Derived.Test.YtokekkacliomkaaK3FnDeterminant
import Derived.Test.YtokekkacliomkaaK4FnDeterminant
import Derived.WalkKit
import Derived.ProofKit
import Derived.OpenShut
import Derived.ShutString
import Derived.ChangeOld
import Derived.Below
import Derived.SizedLaws
import Derived.Lib.SmallJoins
namespace Go.Proofs.Ytokekkacliomkaa.fnDeterminant
open Go Go.Proofs
theorem closed : joinedFacts Try.pinned.checked.prog 5 Try.f5 Rows.fnDeterminantSpec Rows.fnDeterminantRow = true := by
  unfold joinedFacts
  rw [k1, k2, k3, k4]
  kernel_rfl
theorem over : Rows.fnDeterminantRow.holds Try.pinned (OpenSpec.ofChange Rows.fnDeterminantSpec) :=
  OpenClaim.holds_of_wide 5 Try.f5 rfl rfl rfl rfl rfl rfl rfl ⟨rfl, rfl, rfl, rfl, rfl⟩ rfl rfl rfl rfl rfl (by kernel_rfl) Try.func5 closed
    (of_decide_eq_true (by kernel_rfl)) (by unfold Func.isWrapper; first | (rw [if_pos (by decide +kernel)]; kernel_rfl) | (rw [if_neg (by decide +kernel)]; exact ⟨rfl, rfl⟩))
    (fun os started H enc _ => lifted os started H enc)
theorem proved : Rows.FnDeterminantSaid := over
#print axioms proved
end Go.Proofs.Ytokekkacliomkaa.fnDeterminant
namespace Go.Proofs.Ytokekkacliomkaa
/-- The row, under a short name, for the claim. -/
theorem fnDeterminant_holds : Rows.FnDeterminantSaid := fnDeterminant.proved
end Go.Proofs.Ytokekkacliomkaa
