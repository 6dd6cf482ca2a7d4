/-
  No cell of these rows narrows 'for every input' (looked for: loops, veiled, ifaces, maps, wideKeys, modest, calm, conditions, laid).
  DERIVED. THE GIVEN ROWS OF THIS SEAT. 12 by the template 'for every input the law returns true; each argument reads behind the call as it read before'; 0 by the template 'total and deterministic' (their statements: YthfinhmkgdmelaaTotals.lean).
  GIVEN WITH THE SEED: the statements are not yours to turn. If you find one false, say at which input.
  Laid BY PROGRAM, IN A SANDBOX (cutbox-rows.mjs): the forced cells as the released guide's own fill.sh prints them over the translation 02472f94636daa97… (all of the seat's roots in one cut). By AI agents, Wed Nov 11 2026. No macro, syntax, notation, axiom, sorry.
-/
import Derived.Test.YthfinhmkgdmelaaChecked
import GoSem.Claim
import GoSem.ClaimJoined
import GoSem.ClaimMapViews
import Derived.JoinedTies
import Derived.KernelRfl
namespace Go.Proofs.Ythfinhmkgdmelaa
/- THE CELL 'sum', in the pinned program and in every row, IS THE sha256 OF THE DUMP (.gsa) THAT YthfinhmkgdmelaaProg.lean LOADS. Nothing in Lean hashes anything: it is a label: what it is worth is what the hold of that sum in a sandbox is worth. -/
noncomputable def Try.pinned : Pinned := { name := "ythfinhmkgdmelaa", sum := "02472f94636daa97768e1e6883b7b2f62d323655ec497ccd43e42206844edcbf", checked := Try.checked }
namespace Rows
def none {H : Type} : Left H := { results := [], args := [] }

/-- 'laws.FnExactOverpasses': WHATEVER THE INPUT: true; the input reads as it did. -/
def fnExactOverpassesSpec : ChangeSpec := { name := "fnExactOverpasses", fn := fun _ => fun
  | [d] => { results := [.lit (.bool true)], args := [d] }
  | _ => none }
def fnExactOverpassesRow : OpenClaim := { program := "ythfinhmkgdmelaa", sum := "02472f94636daa97768e1e6883b7b2f62d323655ec497ccd43e42206844edcbf", func := "loop.example/g00870/laws.FnExactOverpasses", spec := "fnExactOverpasses", unfollowed := true, recurses := true, apart := false }
def FnExactOverpassesSaid : Prop := fnExactOverpassesRow.holds Try.pinned (OpenSpec.ofChange fnExactOverpassesSpec)

/-- ITS FALSE NEIGHBOUR: 'it returns false'. Refute it at one input. -/
def fnExactOverpassesWrong : ChangeSpec := { name := "fnExactOverpasses", fn := fun _ => fun
  | [d] => { results := [.lit (.bool false)], args := [d] }
  | _ => none }
def FnExactOverpassesWrongFalsely : Prop := fnExactOverpassesRow.holds Try.pinned (OpenSpec.ofChange fnExactOverpassesWrong)

/-- 'laws.FnExactTwistOf': WHATEVER THE INPUT: true; the input reads as it did. -/
def fnExactTwistOfSpec : ChangeSpec := { name := "fnExactTwistOf", fn := fun _ => fun
  | [d1, d2, d3] => { results := [.lit (.bool true)], args := [d1, d2, d3] }
  | _ => none }
def fnExactTwistOfRow : OpenClaim := { program := "ythfinhmkgdmelaa", sum := "02472f94636daa97768e1e6883b7b2f62d323655ec497ccd43e42206844edcbf", func := "loop.example/g00870/laws.FnExactTwistOf", spec := "fnExactTwistOf", unfollowed := true, recurses := true, apart := false }
def FnExactTwistOfSaid : Prop := fnExactTwistOfRow.holds Try.pinned (OpenSpec.ofChange fnExactTwistOfSpec)

/-- ITS FALSE NEIGHBOUR: 'it returns false'. Refute it at one input. -/
def fnExactTwistOfWrong : ChangeSpec := { name := "fnExactTwistOf", fn := fun _ => fun
  | [d1, d2, d3] => { results := [.lit (.bool false)], args := [d1, d2, d3] }
  | _ => none }
def FnExactTwistOfWrongFalsely : Prop := fnExactTwistOfRow.holds Try.pinned (OpenSpec.ofChange fnExactTwistOfWrong)

/-- 'laws.FnExactCheckerboardColors': WHATEVER THE INPUT: true; the input reads as it did. -/
def fnExactCheckerboardColorsSpec : ChangeSpec := { name := "fnExactCheckerboardColors", fn := fun _ => fun
  | [d] => { results := [.lit (.bool true)], args := [d] }
  | _ => none }
def fnExactCheckerboardColorsRow : OpenClaim := { program := "ythfinhmkgdmelaa", sum := "02472f94636daa97768e1e6883b7b2f62d323655ec497ccd43e42206844edcbf", func := "loop.example/g00870/laws.FnExactCheckerboardColors", spec := "fnExactCheckerboardColors", unfollowed := true, recurses := true, apart := false }
def FnExactCheckerboardColorsSaid : Prop := fnExactCheckerboardColorsRow.holds Try.pinned (OpenSpec.ofChange fnExactCheckerboardColorsSpec)

/-- ITS FALSE NEIGHBOUR: 'it returns false'. Refute it at one input. -/
def fnExactCheckerboardColorsWrong : ChangeSpec := { name := "fnExactCheckerboardColors", fn := fun _ => fun
  | [d] => { results := [.lit (.bool false)], args := [d] }
  | _ => none }
def FnExactCheckerboardColorsWrongFalsely : Prop := fnExactCheckerboardColorsRow.holds Try.pinned (OpenSpec.ofChange fnExactCheckerboardColorsWrong)

/-- 'laws.FnExactTwistCorrection': WHATEVER THE INPUT: true; the input reads as it did. -/
def fnExactTwistCorrectionSpec : ChangeSpec := { name := "fnExactTwistCorrection", fn := fun _ => fun
  | [d1, d2] => { results := [.lit (.bool true)], args := [d1, d2] }
  | _ => none }
def fnExactTwistCorrectionRow : OpenClaim := { program := "ythfinhmkgdmelaa", sum := "02472f94636daa97768e1e6883b7b2f62d323655ec497ccd43e42206844edcbf", func := "loop.example/g00870/laws.FnExactTwistCorrection", spec := "fnExactTwistCorrection", unfollowed := true, recurses := true, apart := false }
def FnExactTwistCorrectionSaid : Prop := fnExactTwistCorrectionRow.holds Try.pinned (OpenSpec.ofChange fnExactTwistCorrectionSpec)

/-- ITS FALSE NEIGHBOUR: 'it returns false'. Refute it at one input. -/
def fnExactTwistCorrectionWrong : ChangeSpec := { name := "fnExactTwistCorrection", fn := fun _ => fun
  | [d1, d2] => { results := [.lit (.bool false)], args := [d1, d2] }
  | _ => none }
def FnExactTwistCorrectionWrongFalsely : Prop := fnExactTwistCorrectionRow.holds Try.pinned (OpenSpec.ofChange fnExactTwistCorrectionWrong)

/-- 'laws.FnExactIsColoring': WHATEVER THE INPUT: true; the input reads as it did. -/
def fnExactIsColoringSpec : ChangeSpec := { name := "fnExactIsColoring", fn := fun _ => fun
  | [d1, d2, d3] => { results := [.lit (.bool true)], args := [d1, d2, d3] }
  | _ => none }
def fnExactIsColoringRow : OpenClaim := { program := "ythfinhmkgdmelaa", sum := "02472f94636daa97768e1e6883b7b2f62d323655ec497ccd43e42206844edcbf", func := "loop.example/g00870/laws.FnExactIsColoring", spec := "fnExactIsColoring", unfollowed := true, recurses := true, apart := false }
def FnExactIsColoringSaid : Prop := fnExactIsColoringRow.holds Try.pinned (OpenSpec.ofChange fnExactIsColoringSpec)

/-- ITS FALSE NEIGHBOUR: 'it returns false'. Refute it at one input. -/
def fnExactIsColoringWrong : ChangeSpec := { name := "fnExactIsColoring", fn := fun _ => fun
  | [d1, d2, d3] => { results := [.lit (.bool false)], args := [d1, d2, d3] }
  | _ => none }
def FnExactIsColoringWrongFalsely : Prop := fnExactIsColoringRow.holds Try.pinned (OpenSpec.ofChange fnExactIsColoringWrong)

/-- 'laws.FnExactColoringMatrix': WHATEVER THE INPUT: true; the input reads as it did. -/
def fnExactColoringMatrixSpec : ChangeSpec := { name := "fnExactColoringMatrix", fn := fun _ => fun
  | [d] => { results := [.lit (.bool true)], args := [d] }
  | _ => none }
def fnExactColoringMatrixRow : OpenClaim := { program := "ythfinhmkgdmelaa", sum := "02472f94636daa97768e1e6883b7b2f62d323655ec497ccd43e42206844edcbf", func := "loop.example/g00870/laws.FnExactColoringMatrix", spec := "fnExactColoringMatrix", unfollowed := true, recurses := true, apart := false }
def FnExactColoringMatrixSaid : Prop := fnExactColoringMatrixRow.holds Try.pinned (OpenSpec.ofChange fnExactColoringMatrixSpec)

/-- ITS FALSE NEIGHBOUR: 'it returns false'. Refute it at one input. -/
def fnExactColoringMatrixWrong : ChangeSpec := { name := "fnExactColoringMatrix", fn := fun _ => fun
  | [d] => { results := [.lit (.bool false)], args := [d] }
  | _ => none }
def FnExactColoringMatrixWrongFalsely : Prop := fnExactColoringMatrixRow.holds Try.pinned (OpenSpec.ofChange fnExactColoringMatrixWrong)

/-- 'laws.FnExactMeridianMap': WHATEVER THE INPUT: true; the input reads as it did. -/
def fnExactMeridianMapSpec : ChangeSpec := { name := "fnExactMeridianMap", fn := fun _ => fun
  | [d1, d2] => { results := [.lit (.bool true)], args := [d1, d2] }
  | _ => none }
def fnExactMeridianMapRow : OpenClaim := { program := "ythfinhmkgdmelaa", sum := "02472f94636daa97768e1e6883b7b2f62d323655ec497ccd43e42206844edcbf", func := "loop.example/g00870/laws.FnExactMeridianMap", spec := "fnExactMeridianMap", unfollowed := true, recurses := true, apart := false }
def FnExactMeridianMapSaid : Prop := fnExactMeridianMapRow.holds Try.pinned (OpenSpec.ofChange fnExactMeridianMapSpec)

/-- ITS FALSE NEIGHBOUR: 'it returns false'. Refute it at one input. -/
def fnExactMeridianMapWrong : ChangeSpec := { name := "fnExactMeridianMap", fn := fun _ => fun
  | [d1, d2] => { results := [.lit (.bool false)], args := [d1, d2] }
  | _ => none }
def FnExactMeridianMapWrongFalsely : Prop := fnExactMeridianMapRow.holds Try.pinned (OpenSpec.ofChange fnExactMeridianMapWrong)

/-- 'laws.FnExactWirtingerPresentation': WHATEVER THE INPUT: true; the input reads as it did. -/
def fnExactWirtingerPresentationSpec : ChangeSpec := { name := "fnExactWirtingerPresentation", fn := fun _ => fun
  | [d] => { results := [.lit (.bool true)], args := [d] }
  | _ => none }
def fnExactWirtingerPresentationRow : OpenClaim := { program := "ythfinhmkgdmelaa", sum := "02472f94636daa97768e1e6883b7b2f62d323655ec497ccd43e42206844edcbf", func := "loop.example/g00870/laws.FnExactWirtingerPresentation", spec := "fnExactWirtingerPresentation", unfollowed := true, recurses := true, apart := false }
def FnExactWirtingerPresentationSaid : Prop := fnExactWirtingerPresentationRow.holds Try.pinned (OpenSpec.ofChange fnExactWirtingerPresentationSpec)

/-- ITS FALSE NEIGHBOUR: 'it returns false'. Refute it at one input. -/
def fnExactWirtingerPresentationWrong : ChangeSpec := { name := "fnExactWirtingerPresentation", fn := fun _ => fun
  | [d] => { results := [.lit (.bool false)], args := [d] }
  | _ => none }
def FnExactWirtingerPresentationWrongFalsely : Prop := fnExactWirtingerPresentationRow.holds Try.pinned (OpenSpec.ofChange fnExactWirtingerPresentationWrong)

/-- 'laws.FnExactGoeritzMatrix': WHATEVER THE INPUT: true; the input reads as it did. -/
def fnExactGoeritzMatrixSpec : ChangeSpec := { name := "fnExactGoeritzMatrix", fn := fun _ => fun
  | [d1, d2] => { results := [.lit (.bool true)], args := [d1, d2] }
  | _ => none }
def fnExactGoeritzMatrixRow : OpenClaim := { program := "ythfinhmkgdmelaa", sum := "02472f94636daa97768e1e6883b7b2f62d323655ec497ccd43e42206844edcbf", func := "loop.example/g00870/laws.FnExactGoeritzMatrix", spec := "fnExactGoeritzMatrix", unfollowed := true, recurses := true, apart := false }
def FnExactGoeritzMatrixSaid : Prop := fnExactGoeritzMatrixRow.holds Try.pinned (OpenSpec.ofChange fnExactGoeritzMatrixSpec)

/-- ITS FALSE NEIGHBOUR: 'it returns false'. Refute it at one input. -/
def fnExactGoeritzMatrixWrong : ChangeSpec := { name := "fnExactGoeritzMatrix", fn := fun _ => fun
  | [d1, d2] => { results := [.lit (.bool false)], args := [d1, d2] }
  | _ => none }
def FnExactGoeritzMatrixWrongFalsely : Prop := fnExactGoeritzMatrixRow.holds Try.pinned (OpenSpec.ofChange fnExactGoeritzMatrixWrong)

/-- 'laws.FnRegions': WHATEVER THE INPUT: true; the input reads as it did. -/
def fnRegionsSpec : ChangeSpec := { name := "fnRegions", fn := fun _ => fun
  | [d] => { results := [.lit (.bool true)], args := [d] }
  | _ => none }
def fnRegionsRow : OpenClaim := { program := "ythfinhmkgdmelaa", sum := "02472f94636daa97768e1e6883b7b2f62d323655ec497ccd43e42206844edcbf", func := "loop.example/g00870/laws.FnRegions", spec := "fnRegions", unfollowed := true, recurses := true, apart := false }
def FnRegionsSaid : Prop := fnRegionsRow.holds Try.pinned (OpenSpec.ofChange fnRegionsSpec)

/-- ITS FALSE NEIGHBOUR: 'it returns false'. Refute it at one input. -/
def fnRegionsWrong : ChangeSpec := { name := "fnRegions", fn := fun _ => fun
  | [d] => { results := [.lit (.bool false)], args := [d] }
  | _ => none }
def FnRegionsWrongFalsely : Prop := fnRegionsRow.holds Try.pinned (OpenSpec.ofChange fnRegionsWrong)

/-- 'laws.FnExactFirstColoring': WHATEVER THE INPUT: true; the input reads as it did. -/
def fnExactFirstColoringSpec : ChangeSpec := { name := "fnExactFirstColoring", fn := fun _ => fun
  | [d1, d2] => { results := [.lit (.bool true)], args := [d1, d2] }
  | _ => none }
def fnExactFirstColoringRow : OpenClaim := { program := "ythfinhmkgdmelaa", sum := "02472f94636daa97768e1e6883b7b2f62d323655ec497ccd43e42206844edcbf", func := "loop.example/g00870/laws.FnExactFirstColoring", spec := "fnExactFirstColoring", unfollowed := true, recurses := true, apart := false }
def FnExactFirstColoringSaid : Prop := fnExactFirstColoringRow.holds Try.pinned (OpenSpec.ofChange fnExactFirstColoringSpec)

/-- ITS FALSE NEIGHBOUR: 'it returns false'. Refute it at one input. -/
def fnExactFirstColoringWrong : ChangeSpec := { name := "fnExactFirstColoring", fn := fun _ => fun
  | [d1, d2] => { results := [.lit (.bool false)], args := [d1, d2] }
  | _ => none }
def FnExactFirstColoringWrongFalsely : Prop := fnExactFirstColoringRow.holds Try.pinned (OpenSpec.ofChange fnExactFirstColoringWrong)

/-- 'laws.FnExactAlexanderMatrix': WHATEVER THE INPUT: true; the input reads as it did. -/
def fnExactAlexanderMatrixSpec : ChangeSpec := { name := "fnExactAlexanderMatrix", fn := fun _ => fun
  | [d] => { results := [.lit (.bool true)], args := [d] }
  | _ => none }
def fnExactAlexanderMatrixRow : OpenClaim := { program := "ythfinhmkgdmelaa", sum := "02472f94636daa97768e1e6883b7b2f62d323655ec497ccd43e42206844edcbf", func := "loop.example/g00870/laws.FnExactAlexanderMatrix", spec := "fnExactAlexanderMatrix", unfollowed := true, recurses := true, apart := false }
def FnExactAlexanderMatrixSaid : Prop := fnExactAlexanderMatrixRow.holds Try.pinned (OpenSpec.ofChange fnExactAlexanderMatrixSpec)

/-- ITS FALSE NEIGHBOUR: 'it returns false'. Refute it at one input. -/
def fnExactAlexanderMatrixWrong : ChangeSpec := { name := "fnExactAlexanderMatrix", fn := fun _ => fun
  | [d] => { results := [.lit (.bool false)], args := [d] }
  | _ => none }
def FnExactAlexanderMatrixWrongFalsely : Prop := fnExactAlexanderMatrixRow.holds Try.pinned (OpenSpec.ofChange fnExactAlexanderMatrixWrong)

/- THE SECOND FORM. 'bulk': how many values and letters a reading holds, each counted each time it is reached (what is shared counts as often as it is met; a slice's spare places count too). A statement '..UptoSaid' is the law's where the arguments, and the package variables that the reading takes, are together of bulk at most 1048576: NARROWER than '..Said'. Prove '..Said' where nothing that the law and all that it calls make is longer than what came in: it says more and counts as full. Else prove '..UptoSaid'. A law counts once. -/
mutual
def uptoBulk {H : Type} : DataW H → Nat
  | .lit (.string bytes) => bytes.length + 1
  | .lit _ => 1
  | .nil => 1
  | .ptr d => uptoBulk d + 1
  | .slice elems spare => uptoBulkAll elems + uptoBulkAll spare + 1
  | .agg parts => uptoBulkAll parts + 1
  | .iface _ d => uptoBulk d + 1
  | .map entries => uptoBulkEntries entries + 1
  | .held _ => 1
def uptoBulkAll {H : Type} : List (DataW H) → Nat
  | [] => 0
  | d :: r => uptoBulk d + uptoBulkAll r
def uptoBulkEntries {H : Type} : List (Lit × DataW H) → Nat
  | [] => 0
  | x :: r => uptoBulkEntry x + uptoBulkEntries r
def uptoBulkEntry {H : Type} : Lit × DataW H → Nat
  | (.string bytes, d) => bytes.length + uptoBulk d + 1
  | (_, d) => uptoBulk d + 1
 end
def uptoSmall : (H : Type) → List (DataW H) → Bool := fun _ ds => decide (uptoBulkAll ds ≤ 1048576)
def OpenSpec.upto (s : _root_.Go.ChangeSpec) : _root_.Go.OpenSpec := { _root_.Go.OpenSpec.ofChange s with cond := some uptoSmall }

/-- 'laws.FnExactOverpasses', WHERE WHAT IT READS IS OF BULK AT MOST 1048576: true; the input reads as it did. -/
def fnExactOverpassesUptoRow : OpenClaim := { program := "ythfinhmkgdmelaa", sum := "02472f94636daa97768e1e6883b7b2f62d323655ec497ccd43e42206844edcbf", func := "loop.example/g00870/laws.FnExactOverpasses", spec := "fnExactOverpasses", unfollowed := true, recurses := true, apart := false, narrowed := true }
def FnExactOverpassesUptoSaid : Prop := fnExactOverpassesUptoRow.holds Try.pinned (OpenSpec.upto fnExactOverpassesSpec)

/-- 'laws.FnExactTwistOf', WHERE WHAT IT READS IS OF BULK AT MOST 1048576: true; the input reads as it did. -/
def fnExactTwistOfUptoRow : OpenClaim := { program := "ythfinhmkgdmelaa", sum := "02472f94636daa97768e1e6883b7b2f62d323655ec497ccd43e42206844edcbf", func := "loop.example/g00870/laws.FnExactTwistOf", spec := "fnExactTwistOf", unfollowed := true, recurses := true, apart := false, narrowed := true }
def FnExactTwistOfUptoSaid : Prop := fnExactTwistOfUptoRow.holds Try.pinned (OpenSpec.upto fnExactTwistOfSpec)

/-- 'laws.FnExactCheckerboardColors', WHERE WHAT IT READS IS OF BULK AT MOST 1048576: true; the input reads as it did. -/
def fnExactCheckerboardColorsUptoRow : OpenClaim := { program := "ythfinhmkgdmelaa", sum := "02472f94636daa97768e1e6883b7b2f62d323655ec497ccd43e42206844edcbf", func := "loop.example/g00870/laws.FnExactCheckerboardColors", spec := "fnExactCheckerboardColors", unfollowed := true, recurses := true, apart := false, narrowed := true }
def FnExactCheckerboardColorsUptoSaid : Prop := fnExactCheckerboardColorsUptoRow.holds Try.pinned (OpenSpec.upto fnExactCheckerboardColorsSpec)

/-- 'laws.FnExactTwistCorrection', WHERE WHAT IT READS IS OF BULK AT MOST 1048576: true; the input reads as it did. -/
def fnExactTwistCorrectionUptoRow : OpenClaim := { program := "ythfinhmkgdmelaa", sum := "02472f94636daa97768e1e6883b7b2f62d323655ec497ccd43e42206844edcbf", func := "loop.example/g00870/laws.FnExactTwistCorrection", spec := "fnExactTwistCorrection", unfollowed := true, recurses := true, apart := false, narrowed := true }
def FnExactTwistCorrectionUptoSaid : Prop := fnExactTwistCorrectionUptoRow.holds Try.pinned (OpenSpec.upto fnExactTwistCorrectionSpec)

/-- 'laws.FnExactIsColoring', WHERE WHAT IT READS IS OF BULK AT MOST 1048576: true; the input reads as it did. -/
def fnExactIsColoringUptoRow : OpenClaim := { program := "ythfinhmkgdmelaa", sum := "02472f94636daa97768e1e6883b7b2f62d323655ec497ccd43e42206844edcbf", func := "loop.example/g00870/laws.FnExactIsColoring", spec := "fnExactIsColoring", unfollowed := true, recurses := true, apart := false, narrowed := true }
def FnExactIsColoringUptoSaid : Prop := fnExactIsColoringUptoRow.holds Try.pinned (OpenSpec.upto fnExactIsColoringSpec)

/-- 'laws.FnExactColoringMatrix', WHERE WHAT IT READS IS OF BULK AT MOST 1048576: true; the input reads as it did. -/
def fnExactColoringMatrixUptoRow : OpenClaim := { program := "ythfinhmkgdmelaa", sum := "02472f94636daa97768e1e6883b7b2f62d323655ec497ccd43e42206844edcbf", func := "loop.example/g00870/laws.FnExactColoringMatrix", spec := "fnExactColoringMatrix", unfollowed := true, recurses := true, apart := false, narrowed := true }
def FnExactColoringMatrixUptoSaid : Prop := fnExactColoringMatrixUptoRow.holds Try.pinned (OpenSpec.upto fnExactColoringMatrixSpec)

/-- 'laws.FnExactMeridianMap', WHERE WHAT IT READS IS OF BULK AT MOST 1048576: true; the input reads as it did. -/
def fnExactMeridianMapUptoRow : OpenClaim := { program := "ythfinhmkgdmelaa", sum := "02472f94636daa97768e1e6883b7b2f62d323655ec497ccd43e42206844edcbf", func := "loop.example/g00870/laws.FnExactMeridianMap", spec := "fnExactMeridianMap", unfollowed := true, recurses := true, apart := false, narrowed := true }
def FnExactMeridianMapUptoSaid : Prop := fnExactMeridianMapUptoRow.holds Try.pinned (OpenSpec.upto fnExactMeridianMapSpec)

/-- 'laws.FnExactWirtingerPresentation', WHERE WHAT IT READS IS OF BULK AT MOST 1048576: true; the input reads as it did. -/
def fnExactWirtingerPresentationUptoRow : OpenClaim := { program := "ythfinhmkgdmelaa", sum := "02472f94636daa97768e1e6883b7b2f62d323655ec497ccd43e42206844edcbf", func := "loop.example/g00870/laws.FnExactWirtingerPresentation", spec := "fnExactWirtingerPresentation", unfollowed := true, recurses := true, apart := false, narrowed := true }
def FnExactWirtingerPresentationUptoSaid : Prop := fnExactWirtingerPresentationUptoRow.holds Try.pinned (OpenSpec.upto fnExactWirtingerPresentationSpec)

/-- 'laws.FnExactGoeritzMatrix', WHERE WHAT IT READS IS OF BULK AT MOST 1048576: true; the input reads as it did. -/
def fnExactGoeritzMatrixUptoRow : OpenClaim := { program := "ythfinhmkgdmelaa", sum := "02472f94636daa97768e1e6883b7b2f62d323655ec497ccd43e42206844edcbf", func := "loop.example/g00870/laws.FnExactGoeritzMatrix", spec := "fnExactGoeritzMatrix", unfollowed := true, recurses := true, apart := false, narrowed := true }
def FnExactGoeritzMatrixUptoSaid : Prop := fnExactGoeritzMatrixUptoRow.holds Try.pinned (OpenSpec.upto fnExactGoeritzMatrixSpec)

/-- 'laws.FnRegions', WHERE WHAT IT READS IS OF BULK AT MOST 1048576: true; the input reads as it did. -/
def fnRegionsUptoRow : OpenClaim := { program := "ythfinhmkgdmelaa", sum := "02472f94636daa97768e1e6883b7b2f62d323655ec497ccd43e42206844edcbf", func := "loop.example/g00870/laws.FnRegions", spec := "fnRegions", unfollowed := true, recurses := true, apart := false, narrowed := true }
def FnRegionsUptoSaid : Prop := fnRegionsUptoRow.holds Try.pinned (OpenSpec.upto fnRegionsSpec)

/-- 'laws.FnExactFirstColoring', WHERE WHAT IT READS IS OF BULK AT MOST 1048576: true; the input reads as it did. -/
def fnExactFirstColoringUptoRow : OpenClaim := { program := "ythfinhmkgdmelaa", sum := "02472f94636daa97768e1e6883b7b2f62d323655ec497ccd43e42206844edcbf", func := "loop.example/g00870/laws.FnExactFirstColoring", spec := "fnExactFirstColoring", unfollowed := true, recurses := true, apart := false, narrowed := true }
def FnExactFirstColoringUptoSaid : Prop := fnExactFirstColoringUptoRow.holds Try.pinned (OpenSpec.upto fnExactFirstColoringSpec)

/-- 'laws.FnExactAlexanderMatrix', WHERE WHAT IT READS IS OF BULK AT MOST 1048576: true; the input reads as it did. -/
def fnExactAlexanderMatrixUptoRow : OpenClaim := { program := "ythfinhmkgdmelaa", sum := "02472f94636daa97768e1e6883b7b2f62d323655ec497ccd43e42206844edcbf", func := "loop.example/g00870/laws.FnExactAlexanderMatrix", spec := "fnExactAlexanderMatrix", unfollowed := true, recurses := true, apart := false, narrowed := true }
def FnExactAlexanderMatrixUptoSaid : Prop := fnExactAlexanderMatrixUptoRow.holds Try.pinned (OpenSpec.upto fnExactAlexanderMatrixSpec)

end Rows
end Go.Proofs.Ythfinhmkgdmelaa
