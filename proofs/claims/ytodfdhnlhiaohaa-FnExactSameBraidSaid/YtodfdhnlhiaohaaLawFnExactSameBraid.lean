/- FnExactSameBraid answers true for every input and leaves its arguments as they were. -/
import Derived.Test.YtodfdhnlhiaohaaLiftFnExactSameBraid
import Derived.Test.YtodfdhnlhiaohaaK1FnExactSameBraid
import Derived.Test.YtodfdhnlhiaohaaK2FnExactSameBraid
import Derived.Test.YtodfdhnlhiaohaaK3FnExactSameBraid
import Derived.Test.YtodfdhnlhiaohaaK4FnExactSameBraid
import Derived.WalkKit
import Derived.ProofKit
import Derived.OpenShut
import Derived.ShutString
import Derived.ChangeOld
import Derived.Below
import Derived.SizedLaws
import Derived.Lib.SmallJoins
namespace Go.Proofs.Ytodfdhnlhiaohaa.fnExactSameBraid
open Go Go.Proofs
theorem closed : joinedFacts Try.pinned.checked.prog 7 Try.f7 Rows.fnExactSameBraidSpec Rows.fnExactSameBraidRow = true := by
  unfold joinedFacts
  rw [k1, k2, k3, k4]
  kernel_rfl
theorem over : Rows.fnExactSameBraidRow.holds Try.pinned (OpenSpec.ofChange Rows.fnExactSameBraidSpec) :=
  OpenClaim.holds_of_wide 7 Try.f7 rfl rfl rfl rfl rfl rfl rfl ⟨rfl, rfl, rfl, rfl, rfl⟩ rfl rfl rfl rfl rfl (by kernel_rfl) Try.func7 closed
    (of_decide_eq_true (by kernel_rfl)) (by unfold Func.isWrapper; first | (rw [if_pos (by decide +kernel)]; kernel_rfl) | (rw [if_neg (by decide +kernel)]; exact ⟨rfl, rfl⟩))
    (fun os started H enc _ => lifted os started H enc)
theorem proved : Rows.FnExactSameBraidSaid := over
#print axioms proved
end Go.Proofs.Ytodfdhnlhiaohaa.fnExactSameBraid
namespace Go.Proofs.Ytodfdhnlhiaohaa
/-- The row, under a short name, for the claim. -/
theorem fnExactSameBraid_holds : Rows.FnExactSameBraidSaid := fnExactSameBraid.proved
end Go.Proofs.Ytodfdhnlhiaohaa
