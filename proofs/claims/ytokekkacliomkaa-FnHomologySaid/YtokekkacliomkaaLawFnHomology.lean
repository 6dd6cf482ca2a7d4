/- FnHomology answers true for every input and leaves its arguments as they were. -/
import Derived.Test.YtokekkacliomkaaLiftFnHomology
import Derived.Test.YtokekkacliomkaaK1FnHomology
import Derived.Test.YtokekkacliomkaaK2FnHomology
import Derived.Test.YtokekkacliomkaaK3FnHomology
import Derived.Test.YtokekkacliomkaaK4FnHomology
import Derived.WalkKit
import Derived.ProofKit
import Derived.OpenShut
import Derived.ShutString
import Derived.ChangeOld
import Derived.Below
import Derived.SizedLaws
import Derived.Lib.SmallJoins
namespace Go.Proofs.Ytokekkacliomkaa.fnHomology
open Go Go.Proofs
theorem closed : joinedFacts Try.pinned.checked.prog 3 Try.f3 Rows.fnHomologySpec Rows.fnHomologyRow = true := by
  unfold joinedFacts
  rw [k1, k2, k3, k4]
  kernel_rfl
theorem over : Rows.fnHomologyRow.holds Try.pinned (OpenSpec.ofChange Rows.fnHomologySpec) :=
  OpenClaim.holds_of_wide 3 Try.f3 rfl rfl rfl rfl rfl rfl rfl ⟨rfl, rfl, rfl, rfl, rfl⟩ rfl rfl rfl rfl rfl (by kernel_rfl) Try.func3 closed
    (of_decide_eq_true (by kernel_rfl)) (by unfold Func.isWrapper; first | (rw [if_pos (by decide +kernel)]; kernel_rfl) | (rw [if_neg (by decide +kernel)]; exact ⟨rfl, rfl⟩))
    (fun os started H enc _ => lifted os started H enc)
theorem proved : Rows.FnHomologySaid := over
#print axioms proved
end Go.Proofs.Ytokekkacliomkaa.fnHomology
namespace Go.Proofs.Ytokekkacliomkaa
/-- The row, under a short name, for the claim. -/
theorem fnHomology_holds : Rows.FnHomologySaid := fnHomology.proved
end Go.Proofs.Ytokekkacliomkaa
