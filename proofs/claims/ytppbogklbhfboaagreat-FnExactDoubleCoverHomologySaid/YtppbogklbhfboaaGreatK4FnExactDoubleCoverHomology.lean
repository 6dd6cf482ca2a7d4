/- One of the facts of the row FnExactDoubleCoverHomology, by evaluation. -/
import Derived.Test.YtppbogklbhfboaaGreatRows
import Derived.Test.YtppbogklbhfboaaGreatProg
import Derived.WalkKit
import Derived.ProofKit
import Derived.OpenShut
import Derived.ShutString
import Derived.ChangeOld
import Derived.Below
import Derived.SizedLaws
import Derived.Lib.SmallJoins
namespace Go.Proofs.YtppbogklbhfboaaGreat.fnExactDoubleCoverHomology
open Go Go.Proofs
theorem k4 : (Rows.fnExactDoubleCoverHomologyRow.named == Tryz.pinned.checked.prog.varsNamed 4) = true := by kernel_rfl
end Go.Proofs.YtppbogklbhfboaaGreat.fnExactDoubleCoverHomology
