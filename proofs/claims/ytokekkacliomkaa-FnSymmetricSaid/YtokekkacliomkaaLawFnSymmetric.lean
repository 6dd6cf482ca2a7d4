/- FnSymmetric answers true for every input and leaves its arguments as they were. -/
import Derived.Test.YtokekkacliomkaaLiftFnSymmetric
import Derived.Test.YtokekkacliomkaaK1FnSymmetric
import Derived.Test.YtokekkacliomkaaK2FnSymmetric
import Derived.Test.YtokekkacliomkaaK3FnSymmetric
import Derived.Test.YtokekkacliomkaaK4FnSymmetric
import Derived.WalkKit
import Derived.ProofKit
import Derived.OpenShut
import Derived.ShutString
import Derived.ChangeOld
import Derived.Below
import Derived.SizedLaws
import Derived.Lib.SmallJoins
namespace Go.Proofs.Ytokekkacliomkaa.fnSymmetric
open Go Go.Proofs
theorem closed : joinedFacts Try.pinned.checked.prog 7 Try.f7 Rows.fnSymmetricSpec Rows.fnSymmetricRow = true := by
  unfold joinedFacts
  rw [k1, k2, k3, k4]
  kernel_rfl
theorem over : Rows.fnSymmetricRow.holds Try.pinned (OpenSpec.ofChange Rows.fnSymmetricSpec) :=
  OpenClaim.holds_of_wide 7 Try.f7 rfl rfl rfl rfl rfl rfl rfl ⟨rfl, rfl, rfl, rfl, rfl⟩ rfl rfl rfl rfl rfl (by kernel_rfl) Try.func7 closed
    (of_decide_eq_true (by kernel_rfl)) (by unfold Func.isWrapper; first | (rw [if_pos (by decide +kernel)]; kernel_rfl) | (rw [if_neg (by decide +kernel)]; exact ⟨rfl, rfl⟩))
    (fun os started H enc _ => lifted os started H enc)
theorem proved : Rows.FnSymmetricSaid := over
#print axioms proved
end Go.Proofs.Ytokekkacliomkaa.fnSymmetric
namespace Go.Proofs.Ytokekkacliomkaa
/-- The row, under a short name, for the claim. -/
theorem fnSymmetric_holds : Rows.FnSymmetricSaid := fnSymmetric.proved
end Go.Proofs.Ytokekkacliomkaa
