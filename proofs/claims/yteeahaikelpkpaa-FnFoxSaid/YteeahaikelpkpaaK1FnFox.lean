/- One of the facts of the row FnFox, by evaluation. -/
import Derived.Test.YteeahaikelpkpaaRows
import Derived.Test.YteeahaikelpkpaaProg
import Derived.WalkKit
import Derived.ProofKit
import Derived.OpenShut
import Derived.ShutString
import Derived.ChangeOld
import Derived.Below
import Derived.SizedLaws
import Derived.Lib.SmallJoins
namespace Go.Proofs.Yteeahaikelpkpaa.fnFox
open Go Go.Proofs
theorem k1 : (Rows.fnFoxRow.inPlace == Try.pinned.checked.prog.inPlace 6) = true := by kernel_rfl
end Go.Proofs.Yteeahaikelpkpaa.fnFox
