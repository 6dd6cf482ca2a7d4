/- FnExactSymmetricSignature answers true for every input and leaves its arguments as they were. -/
import Derived.Test.YtokekkacliomkaaLiftFnExactSymmetricSignature
import Derived.Test.YtokekkacliomkaaK1FnExactSymmetricSignature
import Derived.Test.YtokekkacliomkaaK2FnExactSymmetricSignature
import Derived.Test.YtokekkacliomkaaK3FnExactSymmetricSignature
import Derived.Test.YtokekkacliomkaaK4FnExactSymmetricSignature
import Derived.WalkKit
import Derived.ProofKit
import Derived.OpenShut
import Derived.ShutString
import Derived.ChangeOld
import Derived.Below
import Derived.SizedLaws
import Derived.Lib.SmallJoins
namespace Go.Proofs.Ytokekkacliomkaa.fnExactSymmetricSignature
open Go Go.Proofs
theorem closed : joinedFacts Try.pinned.checked.prog 8 Try.f8 Rows.fnExactSymmetricSignatureSpec Rows.fnExactSymmetricSignatureRow = true := by
  unfold joinedFacts
  rw [k1, k2, k3, k4]
  kernel_rfl
theorem over : Rows.fnExactSymmetricSignatureRow.holds Try.pinned (OpenSpec.ofChange Rows.fnExactSymmetricSignatureSpec) :=
  OpenClaim.holds_of_wide 8 Try.f8 rfl rfl rfl rfl rfl rfl rfl ⟨rfl, rfl, rfl, rfl, rfl⟩ rfl rfl rfl rfl rfl (by kernel_rfl) Try.func8 closed
    (of_decide_eq_true (by kernel_rfl)) (by unfold Func.isWrapper; first | (rw [if_pos (by decide +kernel)]; kernel_rfl) | (rw [if_neg (by decide +kernel)]; exact ⟨rfl, rfl⟩))
    (fun os started H enc _ => lifted os started H enc)
theorem proved : Rows.FnExactSymmetricSignatureSaid := over
#print axioms proved
end Go.Proofs.Ytokekkacliomkaa.fnExactSymmetricSignature
namespace Go.Proofs.Ytokekkacliomkaa
/-- The row, under a short name, for the claim. -/
theorem fnExactSymmetricSignature_holds : Rows.FnExactSymmetricSignatureSaid := fnExactSymmetricSignature.proved
end Go.Proofs.Ytokekkacliomkaa
