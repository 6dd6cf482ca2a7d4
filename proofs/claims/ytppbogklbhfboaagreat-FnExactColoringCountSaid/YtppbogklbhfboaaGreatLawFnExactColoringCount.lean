/- FnExactColoringCount answers true for every input and leaves its arguments as they were. -/
import Derived.Test.YtppbogklbhfboaaGreatLiftFnExactColoringCount
import Derived.Test.YtppbogklbhfboaaGreatK1FnExactColoringCount
import Derived.Test.YtppbogklbhfboaaGreatK2FnExactColoringCount
import Derived.Test.YtppbogklbhfboaaGreatK3FnExactColoringCount
import Derived.Test.YtppbogklbhfboaaGreatK4FnExactColoringCount
import Derived.WalkKit
import Derived.ProofKit
import Derived.OpenShut
import Derived.ShutString
import Derived.ChangeOld
import Derived.Below
import Derived.SizedLaws
import Derived.Lib.SmallJoins
namespace Go.Proofs.YtppbogklbhfboaaGreat.fnExactColoringCount
open Go Go.Proofs
theorem closed : joinedFacts Tryz.pinned.checked.prog 3 Tryz.f3 Rows.fnExactColoringCountSpec Rows.fnExactColoringCountRow = true := by
  unfold joinedFacts
  rw [k1, k2, k3, k4]
  kernel_rfl
theorem over : Rows.fnExactColoringCountRow.holds Tryz.pinned (OpenSpec.ofChange Rows.fnExactColoringCountSpec) :=
  OpenClaim.holds_of_wide 3 Tryz.f3 rfl rfl rfl rfl rfl rfl rfl ⟨rfl, rfl, rfl, rfl, rfl⟩ rfl rfl rfl rfl rfl (by kernel_rfl) Tryz.func3 closed
    (of_decide_eq_true (by kernel_rfl)) (by unfold Func.isWrapper; first | (rw [if_pos (by decide +kernel)]; kernel_rfl) | (rw [if_neg (by decide +kernel)]; exact ⟨rfl, rfl⟩))
    (fun os started H enc _ => lifted os started H enc)
theorem proved : Rows.FnExactColoringCountSaid := over
#print axioms proved
end Go.Proofs.YtppbogklbhfboaaGreat.fnExactColoringCount
namespace Go.Proofs.YtppbogklbhfboaaGreat
/-- The row, under a short name, for the claim. -/
theorem fnExactColoringCount_holds : Rows.FnExactColoringCountSaid := fnExactColoringCount.proved
end Go.Proofs.YtppbogklbhfboaaGreat
