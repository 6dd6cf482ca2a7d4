/- FnRegions answers true for every input and leaves its arguments as they were. -/
import Derived.Test.YtodfdhnlhiaohaaLiftFnRegions
import Derived.Test.YtodfdhnlhiaohaaK1FnRegions
import Derived.Test.YtodfdhnlhiaohaaK2FnRegions
import Derived.Test.YtodfdhnlhiaohaaK3FnRegions
import Derived.Test.YtodfdhnlhiaohaaK4FnRegions
import Derived.WalkKit
import Derived.ProofKit
import Derived.OpenShut
import Derived.ShutString
import Derived.ChangeOld
import Derived.Below
import Derived.SizedLaws
import Derived.Lib.SmallJoins
namespace Go.Proofs.Ytodfdhnlhiaohaa.fnRegions
open Go Go.Proofs
theorem closed : joinedFacts Try.pinned.checked.prog 8 Try.f8 Rows.fnRegionsSpec Rows.fnRegionsRow = true := by
  unfold joinedFacts
  rw [k1, k2, k3, k4]
  kernel_rfl
theorem over : Rows.fnRegionsRow.holds Try.pinned (OpenSpec.ofChange Rows.fnRegionsSpec) :=
  OpenClaim.holds_of_wide 8 Try.f8 rfl rfl rfl rfl rfl rfl rfl ⟨rfl, rfl, rfl, rfl, rfl⟩ rfl rfl rfl rfl rfl (by kernel_rfl) Try.func8 closed
    (of_decide_eq_true (by kernel_rfl)) (by unfold Func.isWrapper; first | (rw [if_pos (by decide +kernel)]; kernel_rfl) | (rw [if_neg (by decide +kernel)]; exact ⟨rfl, rfl⟩))
    (fun os started H enc _ => lifted os started H enc)
theorem proved : Rows.FnRegionsSaid := over
#print axioms proved
end Go.Proofs.Ytodfdhnlhiaohaa.fnRegions
namespace Go.Proofs.Ytodfdhnlhiaohaa
/-- The row, under a short name, for the claim. -/
theorem fnRegions_holds : Rows.FnRegionsSaid := fnRegions.proved
end Go.Proofs.Ytodfdhnlhiaohaa
