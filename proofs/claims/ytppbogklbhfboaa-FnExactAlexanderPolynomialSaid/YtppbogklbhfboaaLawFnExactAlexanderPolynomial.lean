/- FnExactAlexanderPolynomial answers true for every input and leaves its arguments as they were. -/
import Derived.Test.YtppbogklbhfboaaLiftFnExactAlexanderPolynomial
import Derived.Test.YtppbogklbhfboaaK1FnExactAlexanderPolynomial
import Derived.Test.YtppbogklbhfboaaK2FnExactAlexanderPolynomial
import Derived.Test.YtppbogklbhfboaaK3FnExactAlexanderPolynomial
import Derived.Test.YtppbogklbhfboaaK4FnExactAlexanderPolynomial
import Derived.WalkKit
import Derived.ProofKit
import Derived.OpenShut
import Derived.ShutString
import Derived.ChangeOld
import Derived.Below
import Derived.SizedLaws
import Derived.Lib.SmallJoins
namespace Go.Proofs.Ytppbogklbhfboaa.fnExactAlexanderPolynomial
open Go Go.Proofs
theorem closed : joinedFacts Try.pinned.checked.prog 6 Try.f6 Rows.fnExactAlexanderPolynomialSpec Rows.fnExactAlexanderPolynomialRow = true := by
  unfold joinedFacts
  rw [k1, k2, k3, k4]
  kernel_rfl
theorem over : Rows.fnExactAlexanderPolynomialRow.holds Try.pinned (OpenSpec.ofChange Rows.fnExactAlexanderPolynomialSpec) :=
  OpenClaim.holds_of_wide 6 Try.f6 rfl rfl rfl rfl rfl rfl rfl ⟨rfl, rfl, rfl, rfl, rfl⟩ rfl rfl rfl rfl rfl (by kernel_rfl) Try.func6 closed
    (of_decide_eq_true (by kernel_rfl)) (by unfold Func.isWrapper; first | (rw [if_pos (by decide +kernel)]; kernel_rfl) | (rw [if_neg (by decide +kernel)]; exact ⟨rfl, rfl⟩))
    (fun os started H enc _ => lifted os started H enc)
theorem proved : Rows.FnExactAlexanderPolynomialSaid := over
#print axioms proved
end Go.Proofs.Ytppbogklbhfboaa.fnExactAlexanderPolynomial
namespace Go.Proofs.Ytppbogklbhfboaa
/-- The row, under a short name, for the claim. -/
theorem fnExactAlexanderPolynomial_holds : Rows.FnExactAlexanderPolynomialSaid := fnExactAlexanderPolynomial.proved
end Go.Proofs.Ytppbogklbhfboaa
