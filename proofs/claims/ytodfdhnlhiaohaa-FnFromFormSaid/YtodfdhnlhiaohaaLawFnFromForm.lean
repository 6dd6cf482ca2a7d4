/- FnFromForm answers true for every input and leaves its arguments as they were. -/
import Derived.Test.YtodfdhnlhiaohaaLiftFnFromForm
import Derived.Test.YtodfdhnlhiaohaaK1FnFromForm
import Derived.Test.YtodfdhnlhiaohaaK2FnFromForm
import Derived.Test.YtodfdhnlhiaohaaK3FnFromForm
import Derived.Test.YtodfdhnlhiaohaaK4FnFromForm
import Derived.WalkKit
import Derived.ProofKit
import Derived.OpenShut
import Derived.ShutString
import Derived.ChangeOld
import Derived.Below
import Derived.SizedLaws
import Derived.Lib.SmallJoins
namespace Go.Proofs.Ytodfdhnlhiaohaa.fnFromForm
open Go Go.Proofs
theorem closed : joinedFacts Try.pinned.checked.prog 9 Try.f9 Rows.fnFromFormSpec Rows.fnFromFormRow = true := by
  unfold joinedFacts
  rw [k1, k2, k3, k4]
  kernel_rfl
theorem over : Rows.fnFromFormRow.holds Try.pinned (OpenSpec.ofChange Rows.fnFromFormSpec) :=
  OpenClaim.holds_of_wide 9 Try.f9 rfl rfl rfl rfl rfl rfl rfl ⟨rfl, rfl, rfl, rfl, rfl⟩ rfl rfl rfl rfl rfl (by kernel_rfl) Try.func9 closed
    (of_decide_eq_true (by kernel_rfl)) (by unfold Func.isWrapper; first | (rw [if_pos (by decide +kernel)]; kernel_rfl) | (rw [if_neg (by decide +kernel)]; exact ⟨rfl, rfl⟩))
    (fun os started H enc _ => lifted os started H enc)
theorem proved : Rows.FnFromFormSaid := over
#print axioms proved
end Go.Proofs.Ytodfdhnlhiaohaa.fnFromForm
namespace Go.Proofs.Ytodfdhnlhiaohaa
/-- The row, under a short name, for the claim. -/
theorem fnFromForm_holds : Rows.FnFromFormSaid := fnFromForm.proved
end Go.Proofs.Ytodfdhnlhiaohaa
