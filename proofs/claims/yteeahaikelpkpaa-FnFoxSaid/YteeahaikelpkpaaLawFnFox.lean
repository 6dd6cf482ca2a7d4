/- FnFox answers true for every input and leaves its arguments as they were. -/
import Derived.Test.YteeahaikelpkpaaLiftFnFox
import Derived.Test.YteeahaikelpkpaaK1FnFox
import Derived.Test.YteeahaikelpkpaaK2FnFox
import Derived.Test.YteeahaikelpkpaaK3FnFox
import Derived.Test.YteeahaikelpkpaaK4FnFox
import Derived.WalkKit
import Derived.ProofKit
import Derived.OpenShut
import Derived.ShutString
import Derived.ChangeOld
import Derived.Below
import Derived.SizedLaws
import Derived.Lib.SmallJoins
namespace Go.Proofs.Yteeahaikelpkpaa.fnFox
open Go Go.Proofs
theorem closed : joinedFacts Try.pinned.checked.prog 6 Try.f6 Rows.fnFoxSpec Rows.fnFoxRow = true := by
  unfold joinedFacts
  rw [k1, k2, k3, k4]
  kernel_rfl
theorem over : Rows.fnFoxRow.holds Try.pinned (OpenSpec.ofChange Rows.fnFoxSpec) :=
  OpenClaim.holds_of_wide 6 Try.f6 rfl rfl rfl rfl rfl rfl rfl ⟨rfl, rfl, rfl, rfl, rfl⟩ rfl rfl rfl rfl rfl (by kernel_rfl) Try.func6 closed
    (of_decide_eq_true (by kernel_rfl)) (by unfold Func.isWrapper; first | (rw [if_pos (by decide +kernel)]; kernel_rfl) | (rw [if_neg (by decide +kernel)]; exact ⟨rfl, rfl⟩))
    (fun os started H enc _ => lifted os started H enc)
theorem proved : Rows.FnFoxSaid := over
#print axioms proved
end Go.Proofs.Yteeahaikelpkpaa.fnFox
namespace Go.Proofs.Yteeahaikelpkpaa
/-- The row, under a short name, for the claim. -/
theorem fnFox_holds : Rows.FnFoxSaid := fnFox.proved
end Go.Proofs.Yteeahaikelpkpaa
