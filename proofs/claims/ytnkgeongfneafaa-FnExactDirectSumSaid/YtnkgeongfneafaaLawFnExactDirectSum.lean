/- FnExactDirectSum answers true for every input and leaves its arguments as they were. -/
import Derived.Test.YtnkgeongfneafaaLiftFnExactDirectSum
import Derived.Test.YtnkgeongfneafaaK1FnExactDirectSum
import Derived.Test.YtnkgeongfneafaaK2FnExactDirectSum
import Derived.Test.YtnkgeongfneafaaK3FnExactDirectSum
import Derived.Test.YtnkgeongfneafaaK4FnExactDirectSum
import Derived.WalkKit
import Derived.ProofKit
import Derived.OpenShut
import Derived.ShutString
import Derived.ChangeOld
import Derived.Below
import Derived.SizedLaws
import Derived.Lib.SmallJoins
namespace Go.Proofs.Ytnkgeongfneafaa.fnExactDirectSum
open Go Go.Proofs
theorem closed : joinedFacts Try.pinned.checked.prog 10 Try.f10 Rows.fnExactDirectSumSpec Rows.fnExactDirectSumRow = true := by
  unfold joinedFacts
  rw [k1, k2, k3, k4]
  kernel_rfl
theorem over : Rows.fnExactDirectSumRow.holds Try.pinned (OpenSpec.ofChange Rows.fnExactDirectSumSpec) :=
  OpenClaim.holds_of_wide 10 Try.f10 rfl rfl rfl rfl rfl rfl rfl ⟨rfl, rfl, rfl, rfl, rfl⟩ rfl rfl rfl rfl rfl (by kernel_rfl) Try.func10 closed
    (of_decide_eq_true (by kernel_rfl)) (by unfold Func.isWrapper; first | (rw [if_pos (by decide +kernel)]; kernel_rfl) | (rw [if_neg (by decide +kernel)]; exact ⟨rfl, rfl⟩))
    (fun os started H enc _ => lifted os started H enc)
theorem proved : Rows.FnExactDirectSumSaid := over
#print axioms proved
end Go.Proofs.Ytnkgeongfneafaa.fnExactDirectSum
namespace Go.Proofs.Ytnkgeongfneafaa
/-- The row, under a short name, for the claim. -/
theorem fnExactDirectSum_holds : Rows.FnExactDirectSumSaid := fnExactDirectSum.proved
end Go.Proofs.Ytnkgeongfneafaa
