/- The pure statement of FnExactConjugateBraid: over numbers and lists alone. -/
import Derived.Test.YtahjhlcmcnemiaaPAxf11
import Derived.Test.YtahjhlcmcnemiaaFits
namespace Go.Proofs.Ytahjhlcmcnemiaa.fnExactConjugateBraid
open Go.RowKit Go.ChangeShapes Go.WideShapes Go.Joins Go.Deep Go.Proofs.YtahjhlcmcnemiaaW.PrintWords Go.Proofs.YtahjhlcmcnemiaaW.PrintLast
set_option linter.unusedVariables false
set_option linter.unusedSimpArgs false
def Pure : Prop := ∀ (a0_0 : Int) (l0_1 : List Int) (a1 : Int), (Lit.int .i64 a0_0).wf = true → l0_1.length ≤ maxLen → (∀ x ∈ l0_1, (fun (n : Int) => (Lit.int .i64 n).wf = true) x) → (Lit.int .i64 a1).wf = true → ∃ k, PA.laws_FnExactConjugateBraid.f k a0_0 l0_1 a1 = some true
end Go.Proofs.Ytahjhlcmcnemiaa.fnExactConjugateBraid
