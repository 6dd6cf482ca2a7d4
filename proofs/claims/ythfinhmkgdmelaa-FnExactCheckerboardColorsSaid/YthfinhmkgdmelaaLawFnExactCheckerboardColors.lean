/- FnExactCheckerboardColors answers true for every input and leaves its arguments as they were. -/
import Derived.Test.YthfinhmkgdmelaaLiftFnExactCheckerboardColors
import Derived.Test.YthfinhmkgdmelaaK1FnExactCheckerboardColors
import Derived.Test.YthfinhmkgdmelaaK2FnExactCheckerboardColors
import Derived.Test.YthfinhmkgdmelaaK3FnExactCheckerboardColors
import Derived.Test.YthfinhmkgdmelaaK4FnExactCheckerboardColors
import Derived.WalkKit
import Derived.ProofKit
import Derived.OpenShut
import Derived.ShutString
import Derived.ChangeOld
import Derived.Below
import Derived.SizedLaws
import Derived.Lib.SmallJoins
namespace Go.Proofs.Ythfinhmkgdmelaa.fnExactCheckerboardColors
open Go Go.Proofs
theorem closed : joinedFacts Try.pinned.checked.prog 5 Try.f5 Rows.fnExactCheckerboardColorsSpec Rows.fnExactCheckerboardColorsRow = true := by
  unfold joinedFacts
  rw [k1, k2, k3, k4]
  kernel_rfl
theorem over : Rows.fnExactCheckerboardColorsRow.holds Try.pinned (OpenSpec.ofChange Rows.fnExactCheckerboardColorsSpec) :=
  OpenClaim.holds_of_wide 5 Try.f5 rfl rfl rfl rfl rfl rfl rfl ⟨rfl, rfl, rfl, rfl, rfl⟩ rfl rfl rfl rfl rfl (by kernel_rfl) Try.func5 closed
    (of_decide_eq_true (by kernel_rfl)) (by unfold Func.isWrapper; first | (rw [if_pos (by decide +kernel)]; kernel_rfl) | (rw [if_neg (by decide +kernel)]; exact ⟨rfl, rfl⟩))
    (fun os started H enc _ => lifted os started H enc)
theorem proved : Rows.FnExactCheckerboardColorsSaid := over
#print axioms proved
end Go.Proofs.Ythfinhmkgdmelaa.fnExactCheckerboardColors
namespace Go.Proofs.Ythfinhmkgdmelaa
/-- The row, under a short name, for the claim. -/
theorem fnExactCheckerboardColors_holds : Rows.FnExactCheckerboardColorsSaid := fnExactCheckerboardColors.proved
end Go.Proofs.Ythfinhmkgdmelaa
