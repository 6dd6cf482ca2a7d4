/- One of the facts of the row FnExactClosureOf, by evaluation. -/
import Derived.Test.YtahjhlcmcnemiaaRows
import Derived.Test.YtahjhlcmcnemiaaProg
import Derived.WalkKit
import Derived.ProofKit
import Derived.OpenShut
import Derived.ShutString
import Derived.ChangeOld
import Derived.Below
import Derived.SizedLaws
import Derived.Lib.SmallJoins
namespace Go.Proofs.Ytahjhlcmcnemiaa.fnExactClosureOf
open Go Go.Proofs
theorem k4 : (Rows.fnExactClosureOfRow.named == Try.pinned.checked.prog.varsNamed 13) = true := by kernel_rfl
end Go.Proofs.Ytahjhlcmcnemiaa.fnExactClosureOf
