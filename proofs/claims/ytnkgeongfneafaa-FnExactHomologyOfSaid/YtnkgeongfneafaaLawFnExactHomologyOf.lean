/- FnExactHomologyOf answers true for every input and leaves its arguments as they were. -/
import Derived.Test.YtnkgeongfneafaaLiftFnExactHomologyOf
import Derived.Test.YtnkgeongfneafaaK1FnExactHomologyOf
import Derived.Test.YtnkgeongfneafaaK2FnExactHomologyOf
import Derived.Test.YtnkgeongfneafaaK3FnExactHomologyOf
import Derived.Test.YtnkgeongfneafaaK4FnExactHomologyOf
import Derived.WalkKit
import Derived.ProofKit
import Derived.OpenShut
import Derived.ShutString
import Derived.ChangeOld
import Derived.Below
import Derived.SizedLaws
import Derived.Lib.SmallJoins
namespace Go.Proofs.Ytnkgeongfneafaa.fnExactHomologyOf
open Go Go.Proofs
theorem closed : joinedFacts Try.pinned.checked.prog 11 Try.f11 Rows.fnExactHomologyOfSpec Rows.fnExactHomologyOfRow = true := by
  unfold joinedFacts
  rw [k1, k2, k3, k4]
  kernel_rfl
theorem over : Rows.fnExactHomologyOfRow.holds Try.pinned (OpenSpec.ofChange Rows.fnExactHomologyOfSpec) :=
  OpenClaim.holds_of_wide 11 Try.f11 rfl rfl rfl rfl rfl rfl rfl ⟨rfl, rfl, rfl, rfl, rfl⟩ rfl rfl rfl rfl rfl (by kernel_rfl) Try.func11 closed
    (of_decide_eq_true (by kernel_rfl)) (by unfold Func.isWrapper; first | (rw [if_pos (by decide +kernel)]; kernel_rfl) | (rw [if_neg (by decide +kernel)]; exact ⟨rfl, rfl⟩))
    (fun os started H enc _ => lifted os started H enc)
theorem proved : Rows.FnExactHomologyOfSaid := over
#print axioms proved
end Go.Proofs.Ytnkgeongfneafaa.fnExactHomologyOf
namespace Go.Proofs.Ytnkgeongfneafaa
/-- The row, under a short name, for the claim. -/
theorem fnExactHomologyOf_holds : Rows.FnExactHomologyOfSaid := fnExactHomologyOf.proved
end Go.Proofs.Ytnkgeongfneafaa
