/- FnExactIsColoring answers true for every input and leaves its arguments as they were. -/
import Derived.Test.YthfinhmkgdmelaaLiftFnExactIsColoring
import Derived.Test.YthfinhmkgdmelaaK1FnExactIsColoring
import Derived.Test.YthfinhmkgdmelaaK2FnExactIsColoring
import Derived.Test.YthfinhmkgdmelaaK3FnExactIsColoring
import Derived.Test.YthfinhmkgdmelaaK4FnExactIsColoring
import Derived.WalkKit
import Derived.ProofKit
import Derived.OpenShut
import Derived.ShutString
import Derived.ChangeOld
import Derived.Below
import Derived.SizedLaws
import Derived.Lib.SmallJoins
namespace Go.Proofs.Ythfinhmkgdmelaa.fnExactIsColoring
open Go Go.Proofs
theorem closed : joinedFacts Try.pinned.checked.prog 7 Try.f7 Rows.fnExactIsColoringSpec Rows.fnExactIsColoringRow = true := by
  unfold joinedFacts
  rw [k1, k2, k3, k4]
  kernel_rfl
theorem over : Rows.fnExactIsColoringRow.holds Try.pinned (OpenSpec.ofChange Rows.fnExactIsColoringSpec) :=
  OpenClaim.holds_of_wide 7 Try.f7 rfl rfl rfl rfl rfl rfl rfl ⟨rfl, rfl, rfl, rfl, rfl⟩ rfl rfl rfl rfl rfl (by kernel_rfl) Try.func7 closed
    (of_decide_eq_true (by kernel_rfl)) (by unfold Func.isWrapper; first | (rw [if_pos (by decide +kernel)]; kernel_rfl) | (rw [if_neg (by decide +kernel)]; exact ⟨rfl, rfl⟩))
    (fun os started H enc _ => lifted os started H enc)
theorem proved : Rows.FnExactIsColoringSaid := over
#print axioms proved
end Go.Proofs.Ythfinhmkgdmelaa.fnExactIsColoring
namespace Go.Proofs.Ythfinhmkgdmelaa
/-- The row, under a short name, for the claim. -/
theorem fnExactIsColoring_holds : Rows.FnExactIsColoringSaid := fnExactIsColoring.proved
end Go.Proofs.Ythfinhmkgdmelaa
