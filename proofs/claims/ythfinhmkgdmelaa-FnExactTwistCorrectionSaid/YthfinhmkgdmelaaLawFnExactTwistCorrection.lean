/- FnExactTwistCorrection answers true for every input and leaves its arguments as they were. -/
import Derived.Test.YthfinhmkgdmelaaLiftFnExactTwistCorrection
import Derived.Test.YthfinhmkgdmelaaK1FnExactTwistCorrection
import Derived.Test.YthfinhmkgdmelaaK2FnExactTwistCorrection
import Derived.Test.YthfinhmkgdmelaaK3FnExactTwistCorrection
import Derived.Test.YthfinhmkgdmelaaK4FnExactTwistCorrection
import Derived.WalkKit
import Derived.ProofKit
import Derived.OpenShut
import Derived.ShutString
import Derived.ChangeOld
import Derived.Below
import Derived.SizedLaws
import Derived.Lib.SmallJoins
namespace Go.Proofs.Ythfinhmkgdmelaa.fnExactTwistCorrection
open Go Go.Proofs
theorem closed : joinedFacts Try.pinned.checked.prog 6 Try.f6 Rows.fnExactTwistCorrectionSpec Rows.fnExactTwistCorrectionRow = true := by
  unfold joinedFacts
  rw [k1, k2, k3, k4]
  kernel_rfl
theorem over : Rows.fnExactTwistCorrectionRow.holds Try.pinned (OpenSpec.ofChange Rows.fnExactTwistCorrectionSpec) :=
  OpenClaim.holds_of_wide 6 Try.f6 rfl rfl rfl rfl rfl rfl rfl ⟨rfl, rfl, rfl, rfl, rfl⟩ rfl rfl rfl rfl rfl (by kernel_rfl) Try.func6 closed
    (of_decide_eq_true (by kernel_rfl)) (by unfold Func.isWrapper; first | (rw [if_pos (by decide +kernel)]; kernel_rfl) | (rw [if_neg (by decide +kernel)]; exact ⟨rfl, rfl⟩))
    (fun os started H enc _ => lifted os started H enc)
theorem proved : Rows.FnExactTwistCorrectionSaid := over
#print axioms proved
end Go.Proofs.Ythfinhmkgdmelaa.fnExactTwistCorrection
namespace Go.Proofs.Ythfinhmkgdmelaa
/-- The row, under a short name, for the claim. -/
theorem fnExactTwistCorrection_holds : Rows.FnExactTwistCorrectionSaid := fnExactTwistCorrection.proved
end Go.Proofs.Ythfinhmkgdmelaa
