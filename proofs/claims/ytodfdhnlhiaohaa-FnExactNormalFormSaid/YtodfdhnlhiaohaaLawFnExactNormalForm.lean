/- FnExactNormalForm answers true for every input and leaves its arguments as they were. -/
import Derived.Test.YtodfdhnlhiaohaaLiftFnExactNormalForm
import Derived.Test.YtodfdhnlhiaohaaK1FnExactNormalForm
import Derived.Test.YtodfdhnlhiaohaaK2FnExactNormalForm
import Derived.Test.YtodfdhnlhiaohaaK3FnExactNormalForm
import Derived.Test.YtodfdhnlhiaohaaK4FnExactNormalForm
import Derived.WalkKit
import Derived.ProofKit
import Derived.OpenShut
import Derived.ShutString
import Derived.ChangeOld
import Derived.Below
import Derived.SizedLaws
import Derived.Lib.SmallJoins
namespace Go.Proofs.Ytodfdhnlhiaohaa.fnExactNormalForm
open Go Go.Proofs
theorem closed : joinedFacts Try.pinned.checked.prog 6 Try.f6 Rows.fnExactNormalFormSpec Rows.fnExactNormalFormRow = true := by
  unfold joinedFacts
  rw [k1, k2, k3, k4]
  kernel_rfl
theorem over : Rows.fnExactNormalFormRow.holds Try.pinned (OpenSpec.ofChange Rows.fnExactNormalFormSpec) :=
  OpenClaim.holds_of_wide 6 Try.f6 rfl rfl rfl rfl rfl rfl rfl ⟨rfl, rfl, rfl, rfl, rfl⟩ rfl rfl rfl rfl rfl (by kernel_rfl) Try.func6 closed
    (of_decide_eq_true (by kernel_rfl)) (by unfold Func.isWrapper; first | (rw [if_pos (by decide +kernel)]; kernel_rfl) | (rw [if_neg (by decide +kernel)]; exact ⟨rfl, rfl⟩))
    (fun os started H enc _ => lifted os started H enc)
theorem proved : Rows.FnExactNormalFormSaid := over
#print axioms proved
end Go.Proofs.Ytodfdhnlhiaohaa.fnExactNormalForm
namespace Go.Proofs.Ytodfdhnlhiaohaa
/-- The row, under a short name, for the claim. -/
theorem fnExactNormalForm_holds : Rows.FnExactNormalFormSaid := fnExactNormalForm.proved
end Go.Proofs.Ytodfdhnlhiaohaa
