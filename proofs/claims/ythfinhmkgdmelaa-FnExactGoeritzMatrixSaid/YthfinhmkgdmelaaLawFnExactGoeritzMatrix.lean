/- FnExactGoeritzMatrix answers true for every input and leaves its arguments as they were. -/
import Derived.Test.YthfinhmkgdmelaaLiftFnExactGoeritzMatrix
import Derived.Test.YthfinhmkgdmelaaK1FnExactGoeritzMatrix
import Derived.Test.YthfinhmkgdmelaaK2FnExactGoeritzMatrix
import Derived.Test.YthfinhmkgdmelaaK3FnExactGoeritzMatrix
import Derived.Test.YthfinhmkgdmelaaK4FnExactGoeritzMatrix
import Derived.WalkKit
import Derived.ProofKit
import Derived.OpenShut
import Derived.ShutString
import Derived.ChangeOld
import Derived.Below
import Derived.SizedLaws
import Derived.Lib.SmallJoins
namespace Go.Proofs.Ythfinhmkgdmelaa.fnExactGoeritzMatrix
open Go Go.Proofs
theorem closed : joinedFacts Try.pinned.checked.prog 11 Try.f11 Rows.fnExactGoeritzMatrixSpec Rows.fnExactGoeritzMatrixRow = true := by
  unfold joinedFacts
  rw [k1, k2, k3, k4]
  kernel_rfl
theorem over : Rows.fnExactGoeritzMatrixRow.holds Try.pinned (OpenSpec.ofChange Rows.fnExactGoeritzMatrixSpec) :=
  OpenClaim.holds_of_wide 11 Try.f11 rfl rfl rfl rfl rfl rfl rfl ⟨rfl, rfl, rfl, rfl, rfl⟩ rfl rfl rfl rfl rfl (by kernel_rfl) Try.func11 closed
    (of_decide_eq_true (by kernel_rfl)) (by unfold Func.isWrapper; first | (rw [if_pos (by decide +kernel)]; kernel_rfl) | (rw [if_neg (by decide +kernel)]; exact ⟨rfl, rfl⟩))
    (fun os started H enc _ => lifted os started H enc)
theorem proved : Rows.FnExactGoeritzMatrixSaid := over
#print axioms proved
end Go.Proofs.Ythfinhmkgdmelaa.fnExactGoeritzMatrix
namespace Go.Proofs.Ythfinhmkgdmelaa
/-- The row, under a short name, for the claim. -/
theorem fnExactGoeritzMatrix_holds : Rows.FnExactGoeritzMatrixSaid := fnExactGoeritzMatrix.proved
end Go.Proofs.Ythfinhmkgdmelaa
