/-
  No cell of these rows narrows 'for every input' (looked for: loops, veiled, ifaces, maps, wideKeys, modest, calm, conditions, laid).
  DERIVED. THE GIVEN ROWS OF THIS SEAT. 10 by the template 'for every input the law returns true; each argument reads behind the call as it read before'; 0 by the template 'total and deterministic' (their statements: YtnkgeongfneafaaTotals.lean).
  GIVEN WITH THE SEED: the statements are not yours to turn. If you find one false, say at which input.
  Laid BY PROGRAM, IN A SANDBOX (cutbox-rows.mjs): the forced cells as the released guide's own fill.sh prints them over the translation 86a57e1cf42bf4d2… (all of the seat's roots in one cut). By AI agents, Wed Nov 11 2026. No macro, syntax, notation, axiom, sorry.
-/
import Derived.Test.YtnkgeongfneafaaChecked
import GoSem.Claim
import GoSem.ClaimJoined
import GoSem.ClaimMapViews
import Derived.JoinedTies
import Derived.KernelRfl
namespace Go.Proofs.Ytnkgeongfneafaa
/- THE CELL 'sum', in the pinned program and in every row, IS THE sha256 OF THE DUMP (.gsa) THAT YtnkgeongfneafaaProg.lean LOADS. Nothing in Lean hashes anything: it is a label: what it is worth is what the hold of that sum in a sandbox is worth. -/
noncomputable def Try.pinned : Pinned := { name := "ytnkgeongfneafaa", sum := "86a57e1cf42bf4d2b651a79df14872df97a70c78825ec543d1e7b9329aacfa26", checked := Try.checked }
namespace Rows
def none {H : Type} : Left H := { results := [], args := [] }

/-- 'laws.FnSmith': WHATEVER THE INPUT: true; the input reads as it did. -/
def fnSmithSpec : ChangeSpec := { name := "fnSmith", fn := fun _ => fun
  | [d] => { results := [.lit (.bool true)], args := [d] }
  | _ => none }
def fnSmithRow : OpenClaim := { program := "ytnkgeongfneafaa", sum := "86a57e1cf42bf4d2b651a79df14872df97a70c78825ec543d1e7b9329aacfa26", func := "loop.example/g00870/laws.FnSmith", spec := "fnSmith", unfollowed := true, recurses := true, apart := false }
def FnSmithSaid : Prop := fnSmithRow.holds Try.pinned (OpenSpec.ofChange fnSmithSpec)

/-- ITS FALSE NEIGHBOUR: 'it returns false'. Refute it at one input. -/
def fnSmithWrong : ChangeSpec := { name := "fnSmith", fn := fun _ => fun
  | [d] => { results := [.lit (.bool false)], args := [d] }
  | _ => none }
def FnSmithWrongFalsely : Prop := fnSmithRow.holds Try.pinned (OpenSpec.ofChange fnSmithWrong)

/-- 'laws.FnExactMatrixRank': WHATEVER THE INPUT: true; the input reads as it did. -/
def fnExactMatrixRankSpec : ChangeSpec := { name := "fnExactMatrixRank", fn := fun _ => fun
  | [d] => { results := [.lit (.bool true)], args := [d] }
  | _ => none }
def fnExactMatrixRankRow : OpenClaim := { program := "ytnkgeongfneafaa", sum := "86a57e1cf42bf4d2b651a79df14872df97a70c78825ec543d1e7b9329aacfa26", func := "loop.example/g00870/laws.FnExactMatrixRank", spec := "fnExactMatrixRank", unfollowed := true, recurses := true, apart := false }
def FnExactMatrixRankSaid : Prop := fnExactMatrixRankRow.holds Try.pinned (OpenSpec.ofChange fnExactMatrixRankSpec)

/-- ITS FALSE NEIGHBOUR: 'it returns false'. Refute it at one input. -/
def fnExactMatrixRankWrong : ChangeSpec := { name := "fnExactMatrixRank", fn := fun _ => fun
  | [d] => { results := [.lit (.bool false)], args := [d] }
  | _ => none }
def FnExactMatrixRankWrongFalsely : Prop := fnExactMatrixRankRow.holds Try.pinned (OpenSpec.ofChange fnExactMatrixRankWrong)

/-- 'laws.FnExactInvariantFactors': WHATEVER THE INPUT: true; the input reads as it did. -/
def fnExactInvariantFactorsSpec : ChangeSpec := { name := "fnExactInvariantFactors", fn := fun _ => fun
  | [d] => { results := [.lit (.bool true)], args := [d] }
  | _ => none }
def fnExactInvariantFactorsRow : OpenClaim := { program := "ytnkgeongfneafaa", sum := "86a57e1cf42bf4d2b651a79df14872df97a70c78825ec543d1e7b9329aacfa26", func := "loop.example/g00870/laws.FnExactInvariantFactors", spec := "fnExactInvariantFactors", unfollowed := true, recurses := true, apart := false }
def FnExactInvariantFactorsSaid : Prop := fnExactInvariantFactorsRow.holds Try.pinned (OpenSpec.ofChange fnExactInvariantFactorsSpec)

/-- ITS FALSE NEIGHBOUR: 'it returns false'. Refute it at one input. -/
def fnExactInvariantFactorsWrong : ChangeSpec := { name := "fnExactInvariantFactors", fn := fun _ => fun
  | [d] => { results := [.lit (.bool false)], args := [d] }
  | _ => none }
def FnExactInvariantFactorsWrongFalsely : Prop := fnExactInvariantFactorsRow.holds Try.pinned (OpenSpec.ofChange fnExactInvariantFactorsWrong)

/-- 'laws.FnExactSmithForm': WHATEVER THE INPUT: true; the input reads as it did. -/
def fnExactSmithFormSpec : ChangeSpec := { name := "fnExactSmithForm", fn := fun _ => fun
  | [d] => { results := [.lit (.bool true)], args := [d] }
  | _ => none }
def fnExactSmithFormRow : OpenClaim := { program := "ytnkgeongfneafaa", sum := "86a57e1cf42bf4d2b651a79df14872df97a70c78825ec543d1e7b9329aacfa26", func := "loop.example/g00870/laws.FnExactSmithForm", spec := "fnExactSmithForm", unfollowed := true, recurses := true, apart := false }
def FnExactSmithFormSaid : Prop := fnExactSmithFormRow.holds Try.pinned (OpenSpec.ofChange fnExactSmithFormSpec)

/-- ITS FALSE NEIGHBOUR: 'it returns false'. Refute it at one input. -/
def fnExactSmithFormWrong : ChangeSpec := { name := "fnExactSmithForm", fn := fun _ => fun
  | [d] => { results := [.lit (.bool false)], args := [d] }
  | _ => none }
def FnExactSmithFormWrongFalsely : Prop := fnExactSmithFormRow.holds Try.pinned (OpenSpec.ofChange fnExactSmithFormWrong)

/-- 'laws.FnHomology': WHATEVER THE INPUT: true; the input reads as it did. -/
def fnHomologySpec : ChangeSpec := { name := "fnHomology", fn := fun _ => fun
  | [d] => { results := [.lit (.bool true)], args := [d] }
  | _ => none }
def fnHomologyRow : OpenClaim := { program := "ytnkgeongfneafaa", sum := "86a57e1cf42bf4d2b651a79df14872df97a70c78825ec543d1e7b9329aacfa26", func := "loop.example/g00870/laws.FnHomology", spec := "fnHomology", unfollowed := true, recurses := true, apart := false }
def FnHomologySaid : Prop := fnHomologyRow.holds Try.pinned (OpenSpec.ofChange fnHomologySpec)

/-- ITS FALSE NEIGHBOUR: 'it returns false'. Refute it at one input. -/
def fnHomologyWrong : ChangeSpec := { name := "fnHomology", fn := fun _ => fun
  | [d] => { results := [.lit (.bool false)], args := [d] }
  | _ => none }
def FnHomologyWrongFalsely : Prop := fnHomologyRow.holds Try.pinned (OpenSpec.ofChange fnHomologyWrong)

/-- 'laws.FnExactCokernelOf': WHATEVER THE INPUT: true; the input reads as it did. -/
def fnExactCokernelOfSpec : ChangeSpec := { name := "fnExactCokernelOf", fn := fun _ => fun
  | [d] => { results := [.lit (.bool true)], args := [d] }
  | _ => none }
def fnExactCokernelOfRow : OpenClaim := { program := "ytnkgeongfneafaa", sum := "86a57e1cf42bf4d2b651a79df14872df97a70c78825ec543d1e7b9329aacfa26", func := "loop.example/g00870/laws.FnExactCokernelOf", spec := "fnExactCokernelOf", unfollowed := true, recurses := true, apart := false }
def FnExactCokernelOfSaid : Prop := fnExactCokernelOfRow.holds Try.pinned (OpenSpec.ofChange fnExactCokernelOfSpec)

/-- ITS FALSE NEIGHBOUR: 'it returns false'. Refute it at one input. -/
def fnExactCokernelOfWrong : ChangeSpec := { name := "fnExactCokernelOf", fn := fun _ => fun
  | [d] => { results := [.lit (.bool false)], args := [d] }
  | _ => none }
def FnExactCokernelOfWrongFalsely : Prop := fnExactCokernelOfRow.holds Try.pinned (OpenSpec.ofChange fnExactCokernelOfWrong)

/-- 'laws.FnSymmetric': WHATEVER THE INPUT: true; the input reads as it did. -/
def fnSymmetricSpec : ChangeSpec := { name := "fnSymmetric", fn := fun _ => fun
  | [d] => { results := [.lit (.bool true)], args := [d] }
  | _ => none }
def fnSymmetricRow : OpenClaim := { program := "ytnkgeongfneafaa", sum := "86a57e1cf42bf4d2b651a79df14872df97a70c78825ec543d1e7b9329aacfa26", func := "loop.example/g00870/laws.FnSymmetric", spec := "fnSymmetric", unfollowed := true, recurses := true, apart := false }
def FnSymmetricSaid : Prop := fnSymmetricRow.holds Try.pinned (OpenSpec.ofChange fnSymmetricSpec)

/-- ITS FALSE NEIGHBOUR: 'it returns false'. Refute it at one input. -/
def fnSymmetricWrong : ChangeSpec := { name := "fnSymmetric", fn := fun _ => fun
  | [d] => { results := [.lit (.bool false)], args := [d] }
  | _ => none }
def FnSymmetricWrongFalsely : Prop := fnSymmetricRow.holds Try.pinned (OpenSpec.ofChange fnSymmetricWrong)

/-- 'laws.FnExactDirectSum': WHATEVER THE INPUT: true; the input reads as it did. -/
def fnExactDirectSumSpec : ChangeSpec := { name := "fnExactDirectSum", fn := fun _ => fun
  | [d1, d2] => { results := [.lit (.bool true)], args := [d1, d2] }
  | _ => none }
def fnExactDirectSumRow : OpenClaim := { program := "ytnkgeongfneafaa", sum := "86a57e1cf42bf4d2b651a79df14872df97a70c78825ec543d1e7b9329aacfa26", func := "loop.example/g00870/laws.FnExactDirectSum", spec := "fnExactDirectSum", unfollowed := true, recurses := true, apart := false }
def FnExactDirectSumSaid : Prop := fnExactDirectSumRow.holds Try.pinned (OpenSpec.ofChange fnExactDirectSumSpec)

/-- ITS FALSE NEIGHBOUR: 'it returns false'. Refute it at one input. -/
def fnExactDirectSumWrong : ChangeSpec := { name := "fnExactDirectSum", fn := fun _ => fun
  | [d1, d2] => { results := [.lit (.bool false)], args := [d1, d2] }
  | _ => none }
def FnExactDirectSumWrongFalsely : Prop := fnExactDirectSumRow.holds Try.pinned (OpenSpec.ofChange fnExactDirectSumWrong)

/-- 'laws.FnExactHomologyOf': WHATEVER THE INPUT: true; the input reads as it did. -/
def fnExactHomologyOfSpec : ChangeSpec := { name := "fnExactHomologyOf", fn := fun _ => fun
  | [d1, d2] => { results := [.lit (.bool true)], args := [d1, d2] }
  | _ => none }
def fnExactHomologyOfRow : OpenClaim := { program := "ytnkgeongfneafaa", sum := "86a57e1cf42bf4d2b651a79df14872df97a70c78825ec543d1e7b9329aacfa26", func := "loop.example/g00870/laws.FnExactHomologyOf", spec := "fnExactHomologyOf", unfollowed := true, recurses := true, apart := false }
def FnExactHomologyOfSaid : Prop := fnExactHomologyOfRow.holds Try.pinned (OpenSpec.ofChange fnExactHomologyOfSpec)

/-- ITS FALSE NEIGHBOUR: 'it returns false'. Refute it at one input. -/
def fnExactHomologyOfWrong : ChangeSpec := { name := "fnExactHomologyOf", fn := fun _ => fun
  | [d1, d2] => { results := [.lit (.bool false)], args := [d1, d2] }
  | _ => none }
def FnExactHomologyOfWrongFalsely : Prop := fnExactHomologyOfRow.holds Try.pinned (OpenSpec.ofChange fnExactHomologyOfWrong)

/-- 'laws.FnExactAbelianizationOf': WHATEVER THE INPUT: true; the input reads as it did. -/
def fnExactAbelianizationOfSpec : ChangeSpec := { name := "fnExactAbelianizationOf", fn := fun _ => fun
  | [d] => { results := [.lit (.bool true)], args := [d] }
  | _ => none }
def fnExactAbelianizationOfRow : OpenClaim := { program := "ytnkgeongfneafaa", sum := "86a57e1cf42bf4d2b651a79df14872df97a70c78825ec543d1e7b9329aacfa26", func := "loop.example/g00870/laws.FnExactAbelianizationOf", spec := "fnExactAbelianizationOf", unfollowed := true, recurses := true, apart := false }
def FnExactAbelianizationOfSaid : Prop := fnExactAbelianizationOfRow.holds Try.pinned (OpenSpec.ofChange fnExactAbelianizationOfSpec)

/-- ITS FALSE NEIGHBOUR: 'it returns false'. Refute it at one input. -/
def fnExactAbelianizationOfWrong : ChangeSpec := { name := "fnExactAbelianizationOf", fn := fun _ => fun
  | [d] => { results := [.lit (.bool false)], args := [d] }
  | _ => none }
def FnExactAbelianizationOfWrongFalsely : Prop := fnExactAbelianizationOfRow.holds Try.pinned (OpenSpec.ofChange fnExactAbelianizationOfWrong)

/- THE SECOND FORM. 'bulk': how many values and letters a reading holds, each counted each time it is reached (what is shared counts as often as it is met; a slice's spare places count too). A statement '..UptoSaid' is the law's where the arguments, and the package variables that the reading takes, are together of bulk at most 1048576: NARROWER than '..Said'. Prove '..Said' where nothing that the law and all that it calls make is longer than what came in: it says more and counts as full. Else prove '..UptoSaid'. A law counts once. -/
mutual
def uptoBulk {H : Type} : DataW H → Nat
  | .lit (.string bytes) => bytes.length + 1
  | .lit _ => 1
  | .nil => 1
  | .ptr d => uptoBulk d + 1
  | .slice elems spare => uptoBulkAll elems + uptoBulkAll spare + 1
  | .agg parts => uptoBulkAll parts + 1
  | .iface _ d => uptoBulk d + 1
  | .map entries => uptoBulkEntries entries + 1
  | .held _ => 1
def uptoBulkAll {H : Type} : List (DataW H) → Nat
  | [] => 0
  | d :: r => uptoBulk d + uptoBulkAll r
def uptoBulkEntries {H : Type} : List (Lit × DataW H) → Nat
  | [] => 0
  | x :: r => uptoBulkEntry x + uptoBulkEntries r
def uptoBulkEntry {H : Type} : Lit × DataW H → Nat
  | (.string bytes, d) => bytes.length + uptoBulk d + 1
  | (_, d) => uptoBulk d + 1
 end
def uptoSmall : (H : Type) → List (DataW H) → Bool := fun _ ds => decide (uptoBulkAll ds ≤ 1048576)
def OpenSpec.upto (s : _root_.Go.ChangeSpec) : _root_.Go.OpenSpec := { _root_.Go.OpenSpec.ofChange s with cond := some uptoSmall }

/-- 'laws.FnSmith', WHERE WHAT IT READS IS OF BULK AT MOST 1048576: true; the input reads as it did. -/
def fnSmithUptoRow : OpenClaim := { program := "ytnkgeongfneafaa", sum := "86a57e1cf42bf4d2b651a79df14872df97a70c78825ec543d1e7b9329aacfa26", func := "loop.example/g00870/laws.FnSmith", spec := "fnSmith", unfollowed := true, recurses := true, apart := false, narrowed := true }
def FnSmithUptoSaid : Prop := fnSmithUptoRow.holds Try.pinned (OpenSpec.upto fnSmithSpec)

/-- 'laws.FnExactMatrixRank', WHERE WHAT IT READS IS OF BULK AT MOST 1048576: true; the input reads as it did. -/
def fnExactMatrixRankUptoRow : OpenClaim := { program := "ytnkgeongfneafaa", sum := "86a57e1cf42bf4d2b651a79df14872df97a70c78825ec543d1e7b9329aacfa26", func := "loop.example/g00870/laws.FnExactMatrixRank", spec := "fnExactMatrixRank", unfollowed := true, recurses := true, apart := false, narrowed := true }
def FnExactMatrixRankUptoSaid : Prop := fnExactMatrixRankUptoRow.holds Try.pinned (OpenSpec.upto fnExactMatrixRankSpec)

/-- 'laws.FnExactInvariantFactors', WHERE WHAT IT READS IS OF BULK AT MOST 1048576: true; the input reads as it did. -/
def fnExactInvariantFactorsUptoRow : OpenClaim := { program := "ytnkgeongfneafaa", sum := "86a57e1cf42bf4d2b651a79df14872df97a70c78825ec543d1e7b9329aacfa26", func := "loop.example/g00870/laws.FnExactInvariantFactors", spec := "fnExactInvariantFactors", unfollowed := true, recurses := true, apart := false, narrowed := true }
def FnExactInvariantFactorsUptoSaid : Prop := fnExactInvariantFactorsUptoRow.holds Try.pinned (OpenSpec.upto fnExactInvariantFactorsSpec)

/-- 'laws.FnExactSmithForm', WHERE WHAT IT READS IS OF BULK AT MOST 1048576: true; the input reads as it did. -/
def fnExactSmithFormUptoRow : OpenClaim := { program := "ytnkgeongfneafaa", sum := "86a57e1cf42bf4d2b651a79df14872df97a70c78825ec543d1e7b9329aacfa26", func := "loop.example/g00870/laws.FnExactSmithForm", spec := "fnExactSmithForm", unfollowed := true, recurses := true, apart := false, narrowed := true }
def FnExactSmithFormUptoSaid : Prop := fnExactSmithFormUptoRow.holds Try.pinned (OpenSpec.upto fnExactSmithFormSpec)

/-- 'laws.FnHomology', WHERE WHAT IT READS IS OF BULK AT MOST 1048576: true; the input reads as it did. -/
def fnHomologyUptoRow : OpenClaim := { program := "ytnkgeongfneafaa", sum := "86a57e1cf42bf4d2b651a79df14872df97a70c78825ec543d1e7b9329aacfa26", func := "loop.example/g00870/laws.FnHomology", spec := "fnHomology", unfollowed := true, recurses := true, apart := false, narrowed := true }
def FnHomologyUptoSaid : Prop := fnHomologyUptoRow.holds Try.pinned (OpenSpec.upto fnHomologySpec)

/-- 'laws.FnExactCokernelOf', WHERE WHAT IT READS IS OF BULK AT MOST 1048576: true; the input reads as it did. -/
def fnExactCokernelOfUptoRow : OpenClaim := { program := "ytnkgeongfneafaa", sum := "86a57e1cf42bf4d2b651a79df14872df97a70c78825ec543d1e7b9329aacfa26", func := "loop.example/g00870/laws.FnExactCokernelOf", spec := "fnExactCokernelOf", unfollowed := true, recurses := true, apart := false, narrowed := true }
def FnExactCokernelOfUptoSaid : Prop := fnExactCokernelOfUptoRow.holds Try.pinned (OpenSpec.upto fnExactCokernelOfSpec)

/-- 'laws.FnSymmetric', WHERE WHAT IT READS IS OF BULK AT MOST 1048576: true; the input reads as it did. -/
def fnSymmetricUptoRow : OpenClaim := { program := "ytnkgeongfneafaa", sum := "86a57e1cf42bf4d2b651a79df14872df97a70c78825ec543d1e7b9329aacfa26", func := "loop.example/g00870/laws.FnSymmetric", spec := "fnSymmetric", unfollowed := true, recurses := true, apart := false, narrowed := true }
def FnSymmetricUptoSaid : Prop := fnSymmetricUptoRow.holds Try.pinned (OpenSpec.upto fnSymmetricSpec)

/-- 'laws.FnExactDirectSum', WHERE WHAT IT READS IS OF BULK AT MOST 1048576: true; the input reads as it did. -/
def fnExactDirectSumUptoRow : OpenClaim := { program := "ytnkgeongfneafaa", sum := "86a57e1cf42bf4d2b651a79df14872df97a70c78825ec543d1e7b9329aacfa26", func := "loop.example/g00870/laws.FnExactDirectSum", spec := "fnExactDirectSum", unfollowed := true, recurses := true, apart := false, narrowed := true }
def FnExactDirectSumUptoSaid : Prop := fnExactDirectSumUptoRow.holds Try.pinned (OpenSpec.upto fnExactDirectSumSpec)

/-- 'laws.FnExactHomologyOf', WHERE WHAT IT READS IS OF BULK AT MOST 1048576: true; the input reads as it did. -/
def fnExactHomologyOfUptoRow : OpenClaim := { program := "ytnkgeongfneafaa", sum := "86a57e1cf42bf4d2b651a79df14872df97a70c78825ec543d1e7b9329aacfa26", func := "loop.example/g00870/laws.FnExactHomologyOf", spec := "fnExactHomologyOf", unfollowed := true, recurses := true, apart := false, narrowed := true }
def FnExactHomologyOfUptoSaid : Prop := fnExactHomologyOfUptoRow.holds Try.pinned (OpenSpec.upto fnExactHomologyOfSpec)

/-- 'laws.FnExactAbelianizationOf', WHERE WHAT IT READS IS OF BULK AT MOST 1048576: true; the input reads as it did. -/
def fnExactAbelianizationOfUptoRow : OpenClaim := { program := "ytnkgeongfneafaa", sum := "86a57e1cf42bf4d2b651a79df14872df97a70c78825ec543d1e7b9329aacfa26", func := "loop.example/g00870/laws.FnExactAbelianizationOf", spec := "fnExactAbelianizationOf", unfollowed := true, recurses := true, apart := false, narrowed := true }
def FnExactAbelianizationOfUptoSaid : Prop := fnExactAbelianizationOfUptoRow.holds Try.pinned (OpenSpec.upto fnExactAbelianizationOfSpec)

end Rows
end Go.Proofs.Ytnkgeongfneafaa
