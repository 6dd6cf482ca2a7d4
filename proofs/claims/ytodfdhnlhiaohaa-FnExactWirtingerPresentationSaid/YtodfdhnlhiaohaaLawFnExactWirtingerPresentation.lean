/- FnExactWirtingerPresentation answers true for every input and leaves its arguments as they were. -/
import Derived.Test.YtodfdhnlhiaohaaLiftFnExactWirtingerPresentation
import Derived.Test.YtodfdhnlhiaohaaK1FnExactWirtingerPresentation
import Derived.Test.YtodfdhnlhiaohaaK2FnExactWirtingerPresentation
import Derived.Test.YtodfdhnlhiaohaaK3FnExactWirtingerPresentation
import Derived.Test.YtodfdhnlhiaohaaK4FnExactWirtingerPresentation
import Derived.WalkKit
import Derived.ProofKit
import Derived.OpenShut
import Derived.ShutString
import Derived.ChangeOld
import Derived.Below
import Derived.SizedLaws
import Derived.Lib.SmallJoins
namespace Go.Proofs.Ytodfdhnlhiaohaa.fnExactWirtingerPresentation
open Go Go.Proofs
theorem closed : joinedFacts Try.pinned.checked.prog 3 Try.f3 Rows.fnExactWirtingerPresentationSpec Rows.fnExactWirtingerPresentationRow = true := by
  unfold joinedFacts
  rw [k1, k2, k3, k4]
  kernel_rfl
theorem over : Rows.fnExactWirtingerPresentationRow.holds Try.pinned (OpenSpec.ofChange Rows.fnExactWirtingerPresentationSpec) :=
  OpenClaim.holds_of_wide 3 Try.f3 rfl rfl rfl rfl rfl rfl rfl ⟨rfl, rfl, rfl, rfl, rfl⟩ rfl rfl rfl rfl rfl (by kernel_rfl) Try.func3 closed
    (of_decide_eq_true (by kernel_rfl)) (by unfold Func.isWrapper; first | (rw [if_pos (by decide +kernel)]; kernel_rfl) | (rw [if_neg (by decide +kernel)]; exact ⟨rfl, rfl⟩))
    (fun os started H enc _ => lifted os started H enc)
theorem proved : Rows.FnExactWirtingerPresentationSaid := over
#print axioms proved
end Go.Proofs.Ytodfdhnlhiaohaa.fnExactWirtingerPresentation
namespace Go.Proofs.Ytodfdhnlhiaohaa
/-- The row, under a short name, for the claim. -/
theorem fnExactWirtingerPresentation_holds : Rows.FnExactWirtingerPresentationSaid := fnExactWirtingerPresentation.proved
end Go.Proofs.Ytodfdhnlhiaohaa
