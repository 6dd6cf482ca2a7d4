/- FnExactCokernelOf answers true for every input and leaves its arguments as they were. -/
import Derived.Test.YtnkgeongfneafaaLiftFnExactCokernelOf
import Derived.Test.YtnkgeongfneafaaK1FnExactCokernelOf
import Derived.Test.YtnkgeongfneafaaK2FnExactCokernelOf
import Derived.Test.YtnkgeongfneafaaK3FnExactCokernelOf
import Derived.Test.YtnkgeongfneafaaK4FnExactCokernelOf
import Derived.WalkKit
import Derived.ProofKit
import Derived.OpenShut
import Derived.ShutString
import Derived.ChangeOld
import Derived.Below
import Derived.SizedLaws
import Derived.Lib.SmallJoins
namespace Go.Proofs.Ytnkgeongfneafaa.fnExactCokernelOf
open Go Go.Proofs
theorem closed : joinedFacts Try.pinned.checked.prog 8 Try.f8 Rows.fnExactCokernelOfSpec Rows.fnExactCokernelOfRow = true := by
  unfold joinedFacts
  rw [k1, k2, k3, k4]
  kernel_rfl
theorem over : Rows.fnExactCokernelOfRow.holds Try.pinned (OpenSpec.ofChange Rows.fnExactCokernelOfSpec) :=
  OpenClaim.holds_of_wide 8 Try.f8 rfl rfl rfl rfl rfl rfl rfl ⟨rfl, rfl, rfl, rfl, rfl⟩ rfl rfl rfl rfl rfl (by kernel_rfl) Try.func8 closed
    (of_decide_eq_true (by kernel_rfl)) (by unfold Func.isWrapper; first | (rw [if_pos (by decide +kernel)]; kernel_rfl) | (rw [if_neg (by decide +kernel)]; exact ⟨rfl, rfl⟩))
    (fun os started H enc _ => lifted os started H enc)
theorem proved : Rows.FnExactCokernelOfSaid := over
#print axioms proved
end Go.Proofs.Ytnkgeongfneafaa.fnExactCokernelOf
namespace Go.Proofs.Ytnkgeongfneafaa
/-- The row, under a short name, for the claim. -/
theorem fnExactCokernelOf_holds : Rows.FnExactCokernelOfSaid := fnExactCokernelOf.proved
end Go.Proofs.Ytnkgeongfneafaa
