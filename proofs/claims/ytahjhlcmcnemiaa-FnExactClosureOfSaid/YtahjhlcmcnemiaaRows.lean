/-
  No cell of these rows narrows 'for every input' (looked for: loops, veiled, ifaces, maps, wideKeys, modest, calm, conditions, laid).
  DERIVED. THE GIVEN ROWS OF THIS SEAT. 11 by the template 'for every input the law returns true; each argument reads behind the call as it read before'; 0 by the template 'total and deterministic' (their statements: YtahjhlcmcnemiaaTotals.lean).
  GIVEN WITH THE SEED: the statements are not yours to turn. If you find one false, say at which input.
  Laid BY PROGRAM, IN A SANDBOX (cutbox-rows.mjs): the forced cells as the released guide's own fill.sh prints them over the translation 256b6f9903a5b4ee… (all of the seat's roots in one cut). By AI agents, Wed Nov 11 2026. No macro, syntax, notation, axiom, sorry.
-/
import Derived.Test.YtahjhlcmcnemiaaChecked
import GoSem.Claim
import GoSem.ClaimJoined
import GoSem.ClaimMapViews
import Derived.JoinedTies
import Derived.KernelRfl
namespace Go.Proofs.Ytahjhlcmcnemiaa
/- THE CELL 'sum', in the pinned program and in every row, IS THE sha256 OF THE DUMP (.gsa) THAT YtahjhlcmcnemiaaProg.lean LOADS. Nothing in Lean hashes anything: it is a label: what it is worth is what the hold of that sum in a sandbox is worth. -/
noncomputable def Try.pinned : Pinned := { name := "ytahjhlcmcnemiaa", sum := "256b6f9903a5b4ee528d58f5b03e024feddfa3b2bddfef2f5296f6b186b0add2", checked := Try.checked }
namespace Rows
def none {H : Type} : Left H := { results := [], args := [] }

/-- 'laws.FnExactTransformColoring': WHATEVER THE INPUT: true; the input reads as it did. -/
def fnExactTransformColoringSpec : ChangeSpec := { name := "fnExactTransformColoring", fn := fun _ => fun
  | [d1, d2, d3, d4] => { results := [.lit (.bool true)], args := [d1, d2, d3, d4] }
  | _ => none }
def fnExactTransformColoringRow : OpenClaim := { program := "ytahjhlcmcnemiaa", sum := "256b6f9903a5b4ee528d58f5b03e024feddfa3b2bddfef2f5296f6b186b0add2", func := "loop.example/g00870/laws.FnExactTransformColoring", spec := "fnExactTransformColoring", unfollowed := true, recurses := true, apart := false }
def FnExactTransformColoringSaid : Prop := fnExactTransformColoringRow.holds Try.pinned (OpenSpec.ofChange fnExactTransformColoringSpec)

/-- ITS FALSE NEIGHBOUR: 'it returns false'. Refute it at one input. -/
def fnExactTransformColoringWrong : ChangeSpec := { name := "fnExactTransformColoring", fn := fun _ => fun
  | [d1, d2, d3, d4] => { results := [.lit (.bool false)], args := [d1, d2, d3, d4] }
  | _ => none }
def FnExactTransformColoringWrongFalsely : Prop := fnExactTransformColoringRow.holds Try.pinned (OpenSpec.ofChange fnExactTransformColoringWrong)

/-- 'laws.FnExactValidBraid': WHATEVER THE INPUT: true; the input reads as it did. -/
def fnExactValidBraidSpec : ChangeSpec := { name := "fnExactValidBraid", fn := fun _ => fun
  | [d] => { results := [.lit (.bool true)], args := [d] }
  | _ => none }
def fnExactValidBraidRow : OpenClaim := { program := "ytahjhlcmcnemiaa", sum := "256b6f9903a5b4ee528d58f5b03e024feddfa3b2bddfef2f5296f6b186b0add2", func := "loop.example/g00870/laws.FnExactValidBraid", spec := "fnExactValidBraid", unfollowed := true, recurses := true, apart := false }
def FnExactValidBraidSaid : Prop := fnExactValidBraidRow.holds Try.pinned (OpenSpec.ofChange fnExactValidBraidSpec)

/-- ITS FALSE NEIGHBOUR: 'it returns false'. Refute it at one input. -/
def fnExactValidBraidWrong : ChangeSpec := { name := "fnExactValidBraid", fn := fun _ => fun
  | [d] => { results := [.lit (.bool false)], args := [d] }
  | _ => none }
def FnExactValidBraidWrongFalsely : Prop := fnExactValidBraidRow.holds Try.pinned (OpenSpec.ofChange fnExactValidBraidWrong)

/-- 'laws.FnExactPermutationBraid': WHATEVER THE INPUT: true; the input reads as it did. -/
def fnExactPermutationBraidSpec : ChangeSpec := { name := "fnExactPermutationBraid", fn := fun _ => fun
  | [d] => { results := [.lit (.bool true)], args := [d] }
  | _ => none }
def fnExactPermutationBraidRow : OpenClaim := { program := "ytahjhlcmcnemiaa", sum := "256b6f9903a5b4ee528d58f5b03e024feddfa3b2bddfef2f5296f6b186b0add2", func := "loop.example/g00870/laws.FnExactPermutationBraid", spec := "fnExactPermutationBraid", apart := false }
def FnExactPermutationBraidSaid : Prop := fnExactPermutationBraidRow.holds Try.pinned (OpenSpec.ofChange fnExactPermutationBraidSpec)

/-- ITS FALSE NEIGHBOUR: 'it returns false'. Refute it at one input. -/
def fnExactPermutationBraidWrong : ChangeSpec := { name := "fnExactPermutationBraid", fn := fun _ => fun
  | [d] => { results := [.lit (.bool false)], args := [d] }
  | _ => none }
def FnExactPermutationBraidWrongFalsely : Prop := fnExactPermutationBraidRow.holds Try.pinned (OpenSpec.ofChange fnExactPermutationBraidWrong)

/-- 'laws.FnExactReducedBraid': WHATEVER THE INPUT: true; the input reads as it did. -/
def fnExactReducedBraidSpec : ChangeSpec := { name := "fnExactReducedBraid", fn := fun _ => fun
  | [d] => { results := [.lit (.bool true)], args := [d] }
  | _ => none }
def fnExactReducedBraidRow : OpenClaim := { program := "ytahjhlcmcnemiaa", sum := "256b6f9903a5b4ee528d58f5b03e024feddfa3b2bddfef2f5296f6b186b0add2", func := "loop.example/g00870/laws.FnExactReducedBraid", spec := "fnExactReducedBraid", unfollowed := true, recurses := true, apart := false }
def FnExactReducedBraidSaid : Prop := fnExactReducedBraidRow.holds Try.pinned (OpenSpec.ofChange fnExactReducedBraidSpec)

/-- ITS FALSE NEIGHBOUR: 'it returns false'. Refute it at one input. -/
def fnExactReducedBraidWrong : ChangeSpec := { name := "fnExactReducedBraid", fn := fun _ => fun
  | [d] => { results := [.lit (.bool false)], args := [d] }
  | _ => none }
def FnExactReducedBraidWrongFalsely : Prop := fnExactReducedBraidRow.holds Try.pinned (OpenSpec.ofChange fnExactReducedBraidWrong)

/-- 'laws.FnExactInvertBraid': WHATEVER THE INPUT: true; the input reads as it did. -/
def fnExactInvertBraidSpec : ChangeSpec := { name := "fnExactInvertBraid", fn := fun _ => fun
  | [d] => { results := [.lit (.bool true)], args := [d] }
  | _ => none }
def fnExactInvertBraidRow : OpenClaim := { program := "ytahjhlcmcnemiaa", sum := "256b6f9903a5b4ee528d58f5b03e024feddfa3b2bddfef2f5296f6b186b0add2", func := "loop.example/g00870/laws.FnExactInvertBraid", spec := "fnExactInvertBraid", unfollowed := true, recurses := true, apart := false }
def FnExactInvertBraidSaid : Prop := fnExactInvertBraidRow.holds Try.pinned (OpenSpec.ofChange fnExactInvertBraidSpec)

/-- ITS FALSE NEIGHBOUR: 'it returns false'. Refute it at one input. -/
def fnExactInvertBraidWrong : ChangeSpec := { name := "fnExactInvertBraid", fn := fun _ => fun
  | [d] => { results := [.lit (.bool false)], args := [d] }
  | _ => none }
def FnExactInvertBraidWrongFalsely : Prop := fnExactInvertBraidRow.holds Try.pinned (OpenSpec.ofChange fnExactInvertBraidWrong)

/-- 'laws.FnExactStabilizeBraid': WHATEVER THE INPUT: true; the input reads as it did. -/
def fnExactStabilizeBraidSpec : ChangeSpec := { name := "fnExactStabilizeBraid", fn := fun _ => fun
  | [d1, d2] => { results := [.lit (.bool true)], args := [d1, d2] }
  | _ => none }
def fnExactStabilizeBraidRow : OpenClaim := { program := "ytahjhlcmcnemiaa", sum := "256b6f9903a5b4ee528d58f5b03e024feddfa3b2bddfef2f5296f6b186b0add2", func := "loop.example/g00870/laws.FnExactStabilizeBraid", spec := "fnExactStabilizeBraid", unfollowed := true, recurses := true, apart := false }
def FnExactStabilizeBraidSaid : Prop := fnExactStabilizeBraidRow.holds Try.pinned (OpenSpec.ofChange fnExactStabilizeBraidSpec)

/-- ITS FALSE NEIGHBOUR: 'it returns false'. Refute it at one input. -/
def fnExactStabilizeBraidWrong : ChangeSpec := { name := "fnExactStabilizeBraid", fn := fun _ => fun
  | [d1, d2] => { results := [.lit (.bool false)], args := [d1, d2] }
  | _ => none }
def FnExactStabilizeBraidWrongFalsely : Prop := fnExactStabilizeBraidRow.holds Try.pinned (OpenSpec.ofChange fnExactStabilizeBraidWrong)

/-- 'laws.FnExactComposeBraids': WHATEVER THE INPUT: true; the input reads as it did. -/
def fnExactComposeBraidsSpec : ChangeSpec := { name := "fnExactComposeBraids", fn := fun _ => fun
  | [d1, d2] => { results := [.lit (.bool true)], args := [d1, d2] }
  | _ => none }
def fnExactComposeBraidsRow : OpenClaim := { program := "ytahjhlcmcnemiaa", sum := "256b6f9903a5b4ee528d58f5b03e024feddfa3b2bddfef2f5296f6b186b0add2", func := "loop.example/g00870/laws.FnExactComposeBraids", spec := "fnExactComposeBraids", unfollowed := true, recurses := true, apart := false }
def FnExactComposeBraidsSaid : Prop := fnExactComposeBraidsRow.holds Try.pinned (OpenSpec.ofChange fnExactComposeBraidsSpec)

/-- ITS FALSE NEIGHBOUR: 'it returns false'. Refute it at one input. -/
def fnExactComposeBraidsWrong : ChangeSpec := { name := "fnExactComposeBraids", fn := fun _ => fun
  | [d1, d2] => { results := [.lit (.bool false)], args := [d1, d2] }
  | _ => none }
def FnExactComposeBraidsWrongFalsely : Prop := fnExactComposeBraidsRow.holds Try.pinned (OpenSpec.ofChange fnExactComposeBraidsWrong)

/-- 'laws.FnExactDestabilizeBraid': WHATEVER THE INPUT: true; the input reads as it did. -/
def fnExactDestabilizeBraidSpec : ChangeSpec := { name := "fnExactDestabilizeBraid", fn := fun _ => fun
  | [d] => { results := [.lit (.bool true)], args := [d] }
  | _ => none }
def fnExactDestabilizeBraidRow : OpenClaim := { program := "ytahjhlcmcnemiaa", sum := "256b6f9903a5b4ee528d58f5b03e024feddfa3b2bddfef2f5296f6b186b0add2", func := "loop.example/g00870/laws.FnExactDestabilizeBraid", spec := "fnExactDestabilizeBraid", unfollowed := true, recurses := true, apart := false }
def FnExactDestabilizeBraidSaid : Prop := fnExactDestabilizeBraidRow.holds Try.pinned (OpenSpec.ofChange fnExactDestabilizeBraidSpec)

/-- ITS FALSE NEIGHBOUR: 'it returns false'. Refute it at one input. -/
def fnExactDestabilizeBraidWrong : ChangeSpec := { name := "fnExactDestabilizeBraid", fn := fun _ => fun
  | [d] => { results := [.lit (.bool false)], args := [d] }
  | _ => none }
def FnExactDestabilizeBraidWrongFalsely : Prop := fnExactDestabilizeBraidRow.holds Try.pinned (OpenSpec.ofChange fnExactDestabilizeBraidWrong)

/-- 'laws.FnExactConjugateBraid': WHATEVER THE INPUT: true; the input reads as it did. -/
def fnExactConjugateBraidSpec : ChangeSpec := { name := "fnExactConjugateBraid", fn := fun _ => fun
  | [d1, d2] => { results := [.lit (.bool true)], args := [d1, d2] }
  | _ => none }
def fnExactConjugateBraidRow : OpenClaim := { program := "ytahjhlcmcnemiaa", sum := "256b6f9903a5b4ee528d58f5b03e024feddfa3b2bddfef2f5296f6b186b0add2", func := "loop.example/g00870/laws.FnExactConjugateBraid", spec := "fnExactConjugateBraid", unfollowed := true, recurses := true, apart := false }
def FnExactConjugateBraidSaid : Prop := fnExactConjugateBraidRow.holds Try.pinned (OpenSpec.ofChange fnExactConjugateBraidSpec)

/-- ITS FALSE NEIGHBOUR: 'it returns false'. Refute it at one input. -/
def fnExactConjugateBraidWrong : ChangeSpec := { name := "fnExactConjugateBraid", fn := fun _ => fun
  | [d1, d2] => { results := [.lit (.bool false)], args := [d1, d2] }
  | _ => none }
def FnExactConjugateBraidWrongFalsely : Prop := fnExactConjugateBraidRow.holds Try.pinned (OpenSpec.ofChange fnExactConjugateBraidWrong)

/-- 'laws.FnExactBraidPermutation': WHATEVER THE INPUT: true; the input reads as it did. -/
def fnExactBraidPermutationSpec : ChangeSpec := { name := "fnExactBraidPermutation", fn := fun _ => fun
  | [d] => { results := [.lit (.bool true)], args := [d] }
  | _ => none }
def fnExactBraidPermutationRow : OpenClaim := { program := "ytahjhlcmcnemiaa", sum := "256b6f9903a5b4ee528d58f5b03e024feddfa3b2bddfef2f5296f6b186b0add2", func := "loop.example/g00870/laws.FnExactBraidPermutation", spec := "fnExactBraidPermutation", unfollowed := true, recurses := true, apart := false }
def FnExactBraidPermutationSaid : Prop := fnExactBraidPermutationRow.holds Try.pinned (OpenSpec.ofChange fnExactBraidPermutationSpec)

/-- ITS FALSE NEIGHBOUR: 'it returns false'. Refute it at one input. -/
def fnExactBraidPermutationWrong : ChangeSpec := { name := "fnExactBraidPermutation", fn := fun _ => fun
  | [d] => { results := [.lit (.bool false)], args := [d] }
  | _ => none }
def FnExactBraidPermutationWrongFalsely : Prop := fnExactBraidPermutationRow.holds Try.pinned (OpenSpec.ofChange fnExactBraidPermutationWrong)

/-- 'laws.FnExactClosureOf': WHATEVER THE INPUT: true; the input reads as it did. -/
def fnExactClosureOfSpec : ChangeSpec := { name := "fnExactClosureOf", fn := fun _ => fun
  | [d] => { results := [.lit (.bool true)], args := [d] }
  | _ => none }
def fnExactClosureOfRow : OpenClaim := { program := "ytahjhlcmcnemiaa", sum := "256b6f9903a5b4ee528d58f5b03e024feddfa3b2bddfef2f5296f6b186b0add2", func := "loop.example/g00870/laws.FnExactClosureOf", spec := "fnExactClosureOf", unfollowed := true, recurses := true, apart := false }
def FnExactClosureOfSaid : Prop := fnExactClosureOfRow.holds Try.pinned (OpenSpec.ofChange fnExactClosureOfSpec)

/-- ITS FALSE NEIGHBOUR: 'it returns false'. Refute it at one input. -/
def fnExactClosureOfWrong : ChangeSpec := { name := "fnExactClosureOf", fn := fun _ => fun
  | [d] => { results := [.lit (.bool false)], args := [d] }
  | _ => none }
def FnExactClosureOfWrongFalsely : Prop := fnExactClosureOfRow.holds Try.pinned (OpenSpec.ofChange fnExactClosureOfWrong)

/- THE SECOND FORM. 'bulk': how many values and letters a reading holds, each counted each time it is reached (what is shared counts as often as it is met; a slice's spare places count too). A statement '..UptoSaid' is the law's where the arguments, and the package variables that the reading takes, are together of bulk at most 1048576: NARROWER than '..Said'. Prove '..Said' where nothing that the law and all that it calls make is longer than what came in: it says more and counts as full. Else prove '..UptoSaid'. A law counts once. -/
mutual
def uptoBulk {H : Type} : DataW H → Nat
  | .lit (.string bytes) => bytes.length + 1
  | .lit _ => 1
  | .nil => 1
  | .ptr d => uptoBulk d + 1
  | .slice elems spare => uptoBulkAll elems + uptoBulkAll spare + 1
  | .agg parts => uptoBulkAll parts + 1
  | .iface _ d => uptoBulk d + 1
  | .map entries => uptoBulkEntries entries + 1
  | .held _ => 1
def uptoBulkAll {H : Type} : List (DataW H) → Nat
  | [] => 0
  | d :: r => uptoBulk d + uptoBulkAll r
def uptoBulkEntries {H : Type} : List (Lit × DataW H) → Nat
  | [] => 0
  | x :: r => uptoBulkEntry x + uptoBulkEntries r
def uptoBulkEntry {H : Type} : Lit × DataW H → Nat
  | (.string bytes, d) => bytes.length + uptoBulk d + 1
  | (_, d) => uptoBulk d + 1
 end
def uptoSmall : (H : Type) → List (DataW H) → Bool := fun _ ds => decide (uptoBulkAll ds ≤ 1048576)
def OpenSpec.upto (s : _root_.Go.ChangeSpec) : _root_.Go.OpenSpec := { _root_.Go.OpenSpec.ofChange s with cond := some uptoSmall }

/-- 'laws.FnExactTransformColoring', WHERE WHAT IT READS IS OF BULK AT MOST 1048576: true; the input reads as it did. -/
def fnExactTransformColoringUptoRow : OpenClaim := { program := "ytahjhlcmcnemiaa", sum := "256b6f9903a5b4ee528d58f5b03e024feddfa3b2bddfef2f5296f6b186b0add2", func := "loop.example/g00870/laws.FnExactTransformColoring", spec := "fnExactTransformColoring", unfollowed := true, recurses := true, apart := false, narrowed := true }
def FnExactTransformColoringUptoSaid : Prop := fnExactTransformColoringUptoRow.holds Try.pinned (OpenSpec.upto fnExactTransformColoringSpec)

/-- 'laws.FnExactValidBraid', WHERE WHAT IT READS IS OF BULK AT MOST 1048576: true; the input reads as it did. -/
def fnExactValidBraidUptoRow : OpenClaim := { program := "ytahjhlcmcnemiaa", sum := "256b6f9903a5b4ee528d58f5b03e024feddfa3b2bddfef2f5296f6b186b0add2", func := "loop.example/g00870/laws.FnExactValidBraid", spec := "fnExactValidBraid", unfollowed := true, recurses := true, apart := false, narrowed := true }
def FnExactValidBraidUptoSaid : Prop := fnExactValidBraidUptoRow.holds Try.pinned (OpenSpec.upto fnExactValidBraidSpec)

/-- 'laws.FnExactPermutationBraid', WHERE WHAT IT READS IS OF BULK AT MOST 1048576: true; the input reads as it did. -/
def fnExactPermutationBraidUptoRow : OpenClaim := { program := "ytahjhlcmcnemiaa", sum := "256b6f9903a5b4ee528d58f5b03e024feddfa3b2bddfef2f5296f6b186b0add2", func := "loop.example/g00870/laws.FnExactPermutationBraid", spec := "fnExactPermutationBraid", apart := false, narrowed := true }
def FnExactPermutationBraidUptoSaid : Prop := fnExactPermutationBraidUptoRow.holds Try.pinned (OpenSpec.upto fnExactPermutationBraidSpec)

/-- 'laws.FnExactReducedBraid', WHERE WHAT IT READS IS OF BULK AT MOST 1048576: true; the input reads as it did. -/
def fnExactReducedBraidUptoRow : OpenClaim := { program := "ytahjhlcmcnemiaa", sum := "256b6f9903a5b4ee528d58f5b03e024feddfa3b2bddfef2f5296f6b186b0add2", func := "loop.example/g00870/laws.FnExactReducedBraid", spec := "fnExactReducedBraid", unfollowed := true, recurses := true, apart := false, narrowed := true }
def FnExactReducedBraidUptoSaid : Prop := fnExactReducedBraidUptoRow.holds Try.pinned (OpenSpec.upto fnExactReducedBraidSpec)

/-- 'laws.FnExactInvertBraid', WHERE WHAT IT READS IS OF BULK AT MOST 1048576: true; the input reads as it did. -/
def fnExactInvertBraidUptoRow : OpenClaim := { program := "ytahjhlcmcnemiaa", sum := "256b6f9903a5b4ee528d58f5b03e024feddfa3b2bddfef2f5296f6b186b0add2", func := "loop.example/g00870/laws.FnExactInvertBraid", spec := "fnExactInvertBraid", unfollowed := true, recurses := true, apart := false, narrowed := true }
def FnExactInvertBraidUptoSaid : Prop := fnExactInvertBraidUptoRow.holds Try.pinned (OpenSpec.upto fnExactInvertBraidSpec)

/-- 'laws.FnExactStabilizeBraid', WHERE WHAT IT READS IS OF BULK AT MOST 1048576: true; the input reads as it did. -/
def fnExactStabilizeBraidUptoRow : OpenClaim := { program := "ytahjhlcmcnemiaa", sum := "256b6f9903a5b4ee528d58f5b03e024feddfa3b2bddfef2f5296f6b186b0add2", func := "loop.example/g00870/laws.FnExactStabilizeBraid", spec := "fnExactStabilizeBraid", unfollowed := true, recurses := true, apart := false, narrowed := true }
def FnExactStabilizeBraidUptoSaid : Prop := fnExactStabilizeBraidUptoRow.holds Try.pinned (OpenSpec.upto fnExactStabilizeBraidSpec)

/-- 'laws.FnExactComposeBraids', WHERE WHAT IT READS IS OF BULK AT MOST 1048576: true; the input reads as it did. -/
def fnExactComposeBraidsUptoRow : OpenClaim := { program := "ytahjhlcmcnemiaa", sum := "256b6f9903a5b4ee528d58f5b03e024feddfa3b2bddfef2f5296f6b186b0add2", func := "loop.example/g00870/laws.FnExactComposeBraids", spec := "fnExactComposeBraids", unfollowed := true, recurses := true, apart := false, narrowed := true }
def FnExactComposeBraidsUptoSaid : Prop := fnExactComposeBraidsUptoRow.holds Try.pinned (OpenSpec.upto fnExactComposeBraidsSpec)

/-- 'laws.FnExactDestabilizeBraid', WHERE WHAT IT READS IS OF BULK AT MOST 1048576: true; the input reads as it did. -/
def fnExactDestabilizeBraidUptoRow : OpenClaim := { program := "ytahjhlcmcnemiaa", sum := "256b6f9903a5b4ee528d58f5b03e024feddfa3b2bddfef2f5296f6b186b0add2", func := "loop.example/g00870/laws.FnExactDestabilizeBraid", spec := "fnExactDestabilizeBraid", unfollowed := true, recurses := true, apart := false, narrowed := true }
def FnExactDestabilizeBraidUptoSaid : Prop := fnExactDestabilizeBraidUptoRow.holds Try.pinned (OpenSpec.upto fnExactDestabilizeBraidSpec)

/-- 'laws.FnExactConjugateBraid', WHERE WHAT IT READS IS OF BULK AT MOST 1048576: true; the input reads as it did. -/
def fnExactConjugateBraidUptoRow : OpenClaim := { program := "ytahjhlcmcnemiaa", sum := "256b6f9903a5b4ee528d58f5b03e024feddfa3b2bddfef2f5296f6b186b0add2", func := "loop.example/g00870/laws.FnExactConjugateBraid", spec := "fnExactConjugateBraid", unfollowed := true, recurses := true, apart := false, narrowed := true }
def FnExactConjugateBraidUptoSaid : Prop := fnExactConjugateBraidUptoRow.holds Try.pinned (OpenSpec.upto fnExactConjugateBraidSpec)

/-- 'laws.FnExactBraidPermutation', WHERE WHAT IT READS IS OF BULK AT MOST 1048576: true; the input reads as it did. -/
def fnExactBraidPermutationUptoRow : OpenClaim := { program := "ytahjhlcmcnemiaa", sum := "256b6f9903a5b4ee528d58f5b03e024feddfa3b2bddfef2f5296f6b186b0add2", func := "loop.example/g00870/laws.FnExactBraidPermutation", spec := "fnExactBraidPermutation", unfollowed := true, recurses := true, apart := false, narrowed := true }
def FnExactBraidPermutationUptoSaid : Prop := fnExactBraidPermutationUptoRow.holds Try.pinned (OpenSpec.upto fnExactBraidPermutationSpec)

/-- 'laws.FnExactClosureOf', WHERE WHAT IT READS IS OF BULK AT MOST 1048576: true; the input reads as it did. -/
def fnExactClosureOfUptoRow : OpenClaim := { program := "ytahjhlcmcnemiaa", sum := "256b6f9903a5b4ee528d58f5b03e024feddfa3b2bddfef2f5296f6b186b0add2", func := "loop.example/g00870/laws.FnExactClosureOf", spec := "fnExactClosureOf", unfollowed := true, recurses := true, apart := false, narrowed := true }
def FnExactClosureOfUptoSaid : Prop := fnExactClosureOfUptoRow.holds Try.pinned (OpenSpec.upto fnExactClosureOfSpec)

end Rows
end Go.Proofs.Ytahjhlcmcnemiaa
