/- FnExactMeridianMap answers true for every input and leaves its arguments as they were. -/
import Derived.Test.YthfinhmkgdmelaaLiftFnExactMeridianMap
import Derived.Test.YthfinhmkgdmelaaK1FnExactMeridianMap
import Derived.Test.YthfinhmkgdmelaaK2FnExactMeridianMap
import Derived.Test.YthfinhmkgdmelaaK3FnExactMeridianMap
import Derived.Test.YthfinhmkgdmelaaK4FnExactMeridianMap
import Derived.WalkKit
import Derived.ProofKit
import Derived.OpenShut
import Derived.ShutString
import Derived.ChangeOld
import Derived.Below
import Derived.SizedLaws
import Derived.Lib.SmallJoins
namespace Go.Proofs.Ythfinhmkgdmelaa.fnExactMeridianMap
open Go Go.Proofs
theorem closed : joinedFacts Try.pinned.checked.prog 9 Try.f9 Rows.fnExactMeridianMapSpec Rows.fnExactMeridianMapRow = true := by
  unfold joinedFacts
  rw [k1, k2, k3, k4]
  kernel_rfl
theorem over : Rows.fnExactMeridianMapRow.holds Try.pinned (OpenSpec.ofChange Rows.fnExactMeridianMapSpec) :=
  OpenClaim.holds_of_wide 9 Try.f9 rfl rfl rfl rfl rfl rfl rfl ⟨rfl, rfl, rfl, rfl, rfl⟩ rfl rfl rfl rfl rfl (by kernel_rfl) Try.func9 closed
    (of_decide_eq_true (by kernel_rfl)) (by unfold Func.isWrapper; first | (rw [if_pos (by decide +kernel)]; kernel_rfl) | (rw [if_neg (by decide +kernel)]; exact ⟨rfl, rfl⟩))
    (fun os started H enc _ => lifted os started H enc)
theorem proved : Rows.FnExactMeridianMapSaid := over
#print axioms proved
end Go.Proofs.Ythfinhmkgdmelaa.fnExactMeridianMap
namespace Go.Proofs.Ythfinhmkgdmelaa
/-- The row, under a short name, for the claim. -/
theorem fnExactMeridianMap_holds : Rows.FnExactMeridianMapSaid := fnExactMeridianMap.proved
end Go.Proofs.Ythfinhmkgdmelaa
