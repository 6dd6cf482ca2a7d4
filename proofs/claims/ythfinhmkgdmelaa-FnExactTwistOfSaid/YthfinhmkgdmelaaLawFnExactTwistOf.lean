/- FnExactTwistOf answers true for every input and leaves its arguments as they were. -/
import Derived.Test.YthfinhmkgdmelaaLiftFnExactTwistOf
import Derived.Test.YthfinhmkgdmelaaK1FnExactTwistOf
import Derived.Test.YthfinhmkgdmelaaK2FnExactTwistOf
import Derived.Test.YthfinhmkgdmelaaK3FnExactTwistOf
import Derived.Test.YthfinhmkgdmelaaK4FnExactTwistOf
import Derived.WalkKit
import Derived.ProofKit
import Derived.OpenShut
import Derived.ShutString
import Derived.ChangeOld
import Derived.Below
import Derived.SizedLaws
import Derived.Lib.SmallJoins
namespace Go.Proofs.Ythfinhmkgdmelaa.fnExactTwistOf
open Go Go.Proofs
theorem closed : joinedFacts Try.pinned.checked.prog 4 Try.f4 Rows.fnExactTwistOfSpec Rows.fnExactTwistOfRow = true := by
  unfold joinedFacts
  rw [k1, k2, k3, k4]
  kernel_rfl
theorem over : Rows.fnExactTwistOfRow.holds Try.pinned (OpenSpec.ofChange Rows.fnExactTwistOfSpec) :=
  OpenClaim.holds_of_wide 4 Try.f4 rfl rfl rfl rfl rfl rfl rfl ⟨rfl, rfl, rfl, rfl, rfl⟩ rfl rfl rfl rfl rfl (by kernel_rfl) Try.func4 closed
    (of_decide_eq_true (by kernel_rfl)) (by unfold Func.isWrapper; first | (rw [if_pos (by decide +kernel)]; kernel_rfl) | (rw [if_neg (by decide +kernel)]; exact ⟨rfl, rfl⟩))
    (fun os started H enc _ => lifted os started H enc)
theorem proved : Rows.FnExactTwistOfSaid := over
#print axioms proved
end Go.Proofs.Ythfinhmkgdmelaa.fnExactTwistOf
namespace Go.Proofs.Ythfinhmkgdmelaa
/-- The row, under a short name, for the claim. -/
theorem fnExactTwistOf_holds : Rows.FnExactTwistOfSaid := fnExactTwistOf.proved
end Go.Proofs.Ythfinhmkgdmelaa
