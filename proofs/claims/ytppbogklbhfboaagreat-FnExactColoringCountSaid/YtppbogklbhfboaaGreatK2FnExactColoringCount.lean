/- One of the facts of the row FnExactColoringCount, by evaluation. -/
import Derived.Test.YtppbogklbhfboaaGreatRows
import Derived.Test.YtppbogklbhfboaaGreatProg
import Derived.WalkKit
import Derived.ProofKit
import Derived.OpenShut
import Derived.ShutString
import Derived.ChangeOld
import Derived.Below
import Derived.SizedLaws
import Derived.Lib.SmallJoins
namespace Go.Proofs.YtppbogklbhfboaaGreat.fnExactColoringCount
open Go Go.Proofs
theorem k2 : (Rows.fnExactColoringCountRow.unfollowed == Tryz.pinned.checked.prog.unfollowed 3) = true := by kernel_rfl
end Go.Proofs.YtppbogklbhfboaaGreat.fnExactColoringCount
