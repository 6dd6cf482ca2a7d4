/- FnExactDoubleCoverHomology answers true for every input and leaves its arguments as they were. -/
import Derived.Test.YtppbogklbhfboaaGreatLiftFnExactDoubleCoverHomology
import Derived.Test.YtppbogklbhfboaaGreatK1FnExactDoubleCoverHomology
import Derived.Test.YtppbogklbhfboaaGreatK2FnExactDoubleCoverHomology
import Derived.Test.YtppbogklbhfboaaGreatK3FnExactDoubleCoverHomology
import Derived.Test.YtppbogklbhfboaaGreatK4FnExactDoubleCoverHomology
import Derived.WalkKit
import Derived.ProofKit
import Derived.OpenShut
import Derived.ShutString
import Derived.ChangeOld
import Derived.Below
import Derived.SizedLaws
import Derived.Lib.SmallJoins
namespace Go.Proofs.YtppbogklbhfboaaGreat.fnExactDoubleCoverHomology
open Go Go.Proofs
theorem closed : joinedFacts Tryz.pinned.checked.prog 4 Tryz.f4 Rows.fnExactDoubleCoverHomologySpec Rows.fnExactDoubleCoverHomologyRow = true := by
  unfold joinedFacts
  rw [k1, k2, k3, k4]
  kernel_rfl
theorem over : Rows.fnExactDoubleCoverHomologyRow.holds Tryz.pinned (OpenSpec.ofChange Rows.fnExactDoubleCoverHomologySpec) :=
  OpenClaim.holds_of_wide 4 Tryz.f4 rfl rfl rfl rfl rfl rfl rfl ⟨rfl, rfl, rfl, rfl, rfl⟩ rfl rfl rfl rfl rfl (by kernel_rfl) Tryz.func4 closed
    (of_decide_eq_true (by kernel_rfl)) (by unfold Func.isWrapper; first | (rw [if_pos (by decide +kernel)]; kernel_rfl) | (rw [if_neg (by decide +kernel)]; exact ⟨rfl, rfl⟩))
    (fun os started H enc _ => lifted os started H enc)
theorem proved : Rows.FnExactDoubleCoverHomologySaid := over
#print axioms proved
end Go.Proofs.YtppbogklbhfboaaGreat.fnExactDoubleCoverHomology
namespace Go.Proofs.YtppbogklbhfboaaGreat
/-- The row, under a short name, for the claim. -/
theorem fnExactDoubleCoverHomology_holds : Rows.FnExactDoubleCoverHomologySaid := fnExactDoubleCoverHomology.proved
end Go.Proofs.YtppbogklbhfboaaGreat
