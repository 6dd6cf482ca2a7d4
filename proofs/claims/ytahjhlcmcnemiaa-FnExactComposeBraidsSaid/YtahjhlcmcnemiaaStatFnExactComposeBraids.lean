/- The pure statement of FnExactComposeBraids: over numbers and lists alone. -/
import Derived.Test.YtahjhlcmcnemiaaPAxf9
import Derived.Test.YtahjhlcmcnemiaaFits
namespace Go.Proofs.Ytahjhlcmcnemiaa.fnExactComposeBraids
open Go.RowKit Go.ChangeShapes Go.WideShapes Go.Joins Go.Deep Go.Proofs.YtahjhlcmcnemiaaW.PrintWords Go.Proofs.YtahjhlcmcnemiaaW.PrintLast
set_option linter.unusedVariables false
set_option linter.unusedSimpArgs false
def Pure : Prop := ∀ (a0_0 : Int) (l0_1 : List Int) (a1_0 : Int) (l1_1 : List Int), (Lit.int .i64 a0_0).wf = true → l0_1.length ≤ maxLen → (∀ x ∈ l0_1, (fun (n : Int) => (Lit.int .i64 n).wf = true) x) → (Lit.int .i64 a1_0).wf = true → l1_1.length ≤ maxLen → (∀ x ∈ l1_1, (fun (n : Int) => (Lit.int .i64 n).wf = true) x) → ∃ k, PA.laws_FnExactComposeBraids.f k a0_0 l0_1 a1_0 l1_1 = some true
end Go.Proofs.Ytahjhlcmcnemiaa.fnExactComposeBraids
