/- FnBraidGroup answers true for every input and leaves its arguments as they were. -/
import Derived.Test.YtodfdhnlhiaohaaLiftFnBraidGroup
import Derived.Test.YtodfdhnlhiaohaaK1FnBraidGroup
import Derived.Test.YtodfdhnlhiaohaaK2FnBraidGroup
import Derived.Test.YtodfdhnlhiaohaaK3FnBraidGroup
import Derived.Test.YtodfdhnlhiaohaaK4FnBraidGroup
import Derived.WalkKit
import Derived.ProofKit
import Derived.OpenShut
import Derived.ShutString
import Derived.ChangeOld
import Derived.Below
import Derived.SizedLaws
import Derived.Lib.SmallJoins
namespace Go.Proofs.Ytodfdhnlhiaohaa.fnBraidGroup
open Go Go.Proofs
theorem closed : joinedFacts Try.pinned.checked.prog 10 Try.f10 Rows.fnBraidGroupSpec Rows.fnBraidGroupRow = true := by
  unfold joinedFacts
  rw [k1, k2, k3, k4]
  kernel_rfl
theorem over : Rows.fnBraidGroupRow.holds Try.pinned (OpenSpec.ofChange Rows.fnBraidGroupSpec) :=
  OpenClaim.holds_of_wide 10 Try.f10 rfl rfl rfl rfl rfl rfl rfl ⟨rfl, rfl, rfl, rfl, rfl⟩ rfl rfl rfl rfl rfl (by kernel_rfl) Try.func10 closed
    (of_decide_eq_true (by kernel_rfl)) (by unfold Func.isWrapper; first | (rw [if_pos (by decide +kernel)]; kernel_rfl) | (rw [if_neg (by decide +kernel)]; exact ⟨rfl, rfl⟩))
    (fun os started H enc _ => lifted os started H enc)
theorem proved : Rows.FnBraidGroupSaid := over
#print axioms proved
end Go.Proofs.Ytodfdhnlhiaohaa.fnBraidGroup
namespace Go.Proofs.Ytodfdhnlhiaohaa
/-- The row, under a short name, for the claim. -/
theorem fnBraidGroup_holds : Rows.FnBraidGroupSaid := fnBraidGroup.proved
end Go.Proofs.Ytodfdhnlhiaohaa
