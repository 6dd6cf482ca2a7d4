/- FnSmith answers true for every input and leaves its arguments as they were. -/
import Derived.Test.YtokekkacliomkaaLiftFnSmith
import Derived.Test.YtokekkacliomkaaK1FnSmith
import Derived.Test.YtokekkacliomkaaK2FnSmith
import Derived.Test.YtokekkacliomkaaK3FnSmith
import Derived.Test.YtokekkacliomkaaK4FnSmith
import Derived.WalkKit
import Derived.ProofKit
import Derived.OpenShut
import Derived.ShutString
import Derived.ChangeOld
import Derived.Below
import Derived.SizedLaws
import Derived.Lib.SmallJoins
namespace Go.Proofs.Ytokekkacliomkaa.fnSmith
open Go Go.Proofs
theorem closed : joinedFacts Try.pinned.checked.prog 6 Try.f6 Rows.fnSmithSpec Rows.fnSmithRow = true := by
  unfold joinedFacts
  rw [k1, k2, k3, k4]
  kernel_rfl
theorem over : Rows.fnSmithRow.holds Try.pinned (OpenSpec.ofChange Rows.fnSmithSpec) :=
  OpenClaim.holds_of_wide 6 Try.f6 rfl rfl rfl rfl rfl rfl rfl ⟨rfl, rfl, rfl, rfl, rfl⟩ rfl rfl rfl rfl rfl (by kernel_rfl) Try.func6 closed
    (of_decide_eq_true (by kernel_rfl)) (by unfold Func.isWrapper; first | (rw [if_pos (by decide +kernel)]; kernel_rfl) | (rw [if_neg (by decide +kernel)]; exact ⟨rfl, rfl⟩))
    (fun os started H enc _ => lifted os started H enc)
theorem proved : Rows.FnSmithSaid := over
#print axioms proved
end Go.Proofs.Ytokekkacliomkaa.fnSmith
namespace Go.Proofs.Ytokekkacliomkaa
/-- The row, under a short name, for the claim. -/
theorem fnSmith_holds : Rows.FnSmithSaid := fnSmith.proved
end Go.Proofs.Ytokekkacliomkaa
