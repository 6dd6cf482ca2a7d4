/-
  No cell of these rows narrows 'for every input' (looked for: loops, veiled, ifaces, maps, wideKeys, modest, calm, conditions, laid).
  DERIVED. THE GIVEN ROWS OF THIS SEAT. 8 by the template 'for every input the law returns true; each argument reads behind the call as it read before'; 0 by the template 'total and deterministic' (their statements: YtodfdhnlhiaohaaTotals.lean).
  GIVEN WITH THE SEED: the statements are not yours to turn. If you find one false, say at which input.
  Laid BY PROGRAM, IN A SANDBOX (cutbox-rows.mjs): the forced cells as the released guide's own fill.sh prints them over the translation 2cdfb02d1035f618… (all of the seat's roots in one cut). By AI agents, Wed Nov 11 2026. No macro, syntax, notation, axiom, sorry.
-/
import Derived.Test.YtodfdhnlhiaohaaChecked
import GoSem.Claim
import GoSem.ClaimJoined
import GoSem.ClaimMapViews
import Derived.JoinedTies
import Derived.KernelRfl
namespace Go.Proofs.Ytodfdhnlhiaohaa
/- THE CELL 'sum', in the pinned program and in every row, IS THE sha256 OF THE DUMP (.gsa) THAT YtodfdhnlhiaohaaProg.lean LOADS. Nothing in Lean hashes anything: it is a label: what it is worth is what the hold of that sum in a sandbox is worth. -/
noncomputable def Try.pinned : Pinned := { name := "ytodfdhnlhiaohaa", sum := "2cdfb02d1035f618d6e00e50da1b153a6f6c81dffff60805d92418ae2e3694f9", checked := Try.checked }
namespace Rows
def none {H : Type} : Left H := { results := [], args := [] }

/-- 'laws.FnExactWirtingerPresentation': WHATEVER THE INPUT: true; the input reads as it did. -/
def fnExactWirtingerPresentationSpec : ChangeSpec := { name := "fnExactWirtingerPresentation", fn := fun _ => fun
  | [d] => { results := [.lit (.bool true)], args := [d] }
  | _ => none }
def fnExactWirtingerPresentationRow : OpenClaim := { program := "ytodfdhnlhiaohaa", sum := "2cdfb02d1035f618d6e00e50da1b153a6f6c81dffff60805d92418ae2e3694f9", func := "loop.example/g00870/laws.FnExactWirtingerPresentation", spec := "fnExactWirtingerPresentation", unfollowed := true, recurses := true, apart := false }
def FnExactWirtingerPresentationSaid : Prop := fnExactWirtingerPresentationRow.holds Try.pinned (OpenSpec.ofChange fnExactWirtingerPresentationSpec)

/-- ITS FALSE NEIGHBOUR: 'it returns false'. Refute it at one input. -/
def fnExactWirtingerPresentationWrong : ChangeSpec := { name := "fnExactWirtingerPresentation", fn := fun _ => fun
  | [d] => { results := [.lit (.bool false)], args := [d] }
  | _ => none }
def FnExactWirtingerPresentationWrongFalsely : Prop := fnExactWirtingerPresentationRow.holds Try.pinned (OpenSpec.ofChange fnExactWirtingerPresentationWrong)

/-- 'laws.FnExactAlexanderMatrix': WHATEVER THE INPUT: true; the input reads as it did. -/
def fnExactAlexanderMatrixSpec : ChangeSpec := { name := "fnExactAlexanderMatrix", fn := fun _ => fun
  | [d] => { results := [.lit (.bool true)], args := [d] }
  | _ => none }
def fnExactAlexanderMatrixRow : OpenClaim := { program := "ytodfdhnlhiaohaa", sum := "2cdfb02d1035f618d6e00e50da1b153a6f6c81dffff60805d92418ae2e3694f9", func := "loop.example/g00870/laws.FnExactAlexanderMatrix", spec := "fnExactAlexanderMatrix", unfollowed := true, recurses := true, apart := false }
def FnExactAlexanderMatrixSaid : Prop := fnExactAlexanderMatrixRow.holds Try.pinned (OpenSpec.ofChange fnExactAlexanderMatrixSpec)

/-- ITS FALSE NEIGHBOUR: 'it returns false'. Refute it at one input. -/
def fnExactAlexanderMatrixWrong : ChangeSpec := { name := "fnExactAlexanderMatrix", fn := fun _ => fun
  | [d] => { results := [.lit (.bool false)], args := [d] }
  | _ => none }
def FnExactAlexanderMatrixWrongFalsely : Prop := fnExactAlexanderMatrixRow.holds Try.pinned (OpenSpec.ofChange fnExactAlexanderMatrixWrong)

/-- 'laws.FnExactAbelianizationOf': WHATEVER THE INPUT: true; the input reads as it did. -/
def fnExactAbelianizationOfSpec : ChangeSpec := { name := "fnExactAbelianizationOf", fn := fun _ => fun
  | [d] => { results := [.lit (.bool true)], args := [d] }
  | _ => none }
def fnExactAbelianizationOfRow : OpenClaim := { program := "ytodfdhnlhiaohaa", sum := "2cdfb02d1035f618d6e00e50da1b153a6f6c81dffff60805d92418ae2e3694f9", func := "loop.example/g00870/laws.FnExactAbelianizationOf", spec := "fnExactAbelianizationOf", unfollowed := true, recurses := true, apart := false }
def FnExactAbelianizationOfSaid : Prop := fnExactAbelianizationOfRow.holds Try.pinned (OpenSpec.ofChange fnExactAbelianizationOfSpec)

/-- ITS FALSE NEIGHBOUR: 'it returns false'. Refute it at one input. -/
def fnExactAbelianizationOfWrong : ChangeSpec := { name := "fnExactAbelianizationOf", fn := fun _ => fun
  | [d] => { results := [.lit (.bool false)], args := [d] }
  | _ => none }
def FnExactAbelianizationOfWrongFalsely : Prop := fnExactAbelianizationOfRow.holds Try.pinned (OpenSpec.ofChange fnExactAbelianizationOfWrong)

/-- 'laws.FnExactNormalForm': WHATEVER THE INPUT: true; the input reads as it did. -/
def fnExactNormalFormSpec : ChangeSpec := { name := "fnExactNormalForm", fn := fun _ => fun
  | [d] => { results := [.lit (.bool true)], args := [d] }
  | _ => none }
def fnExactNormalFormRow : OpenClaim := { program := "ytodfdhnlhiaohaa", sum := "2cdfb02d1035f618d6e00e50da1b153a6f6c81dffff60805d92418ae2e3694f9", func := "loop.example/g00870/laws.FnExactNormalForm", spec := "fnExactNormalForm", unfollowed := true, recurses := true, apart := false }
def FnExactNormalFormSaid : Prop := fnExactNormalFormRow.holds Try.pinned (OpenSpec.ofChange fnExactNormalFormSpec)

/-- ITS FALSE NEIGHBOUR: 'it returns false'. Refute it at one input. -/
def fnExactNormalFormWrong : ChangeSpec := { name := "fnExactNormalForm", fn := fun _ => fun
  | [d] => { results := [.lit (.bool false)], args := [d] }
  | _ => none }
def FnExactNormalFormWrongFalsely : Prop := fnExactNormalFormRow.holds Try.pinned (OpenSpec.ofChange fnExactNormalFormWrong)

/-- 'laws.FnExactSameBraid': WHATEVER THE INPUT: true; the input reads as it did. -/
def fnExactSameBraidSpec : ChangeSpec := { name := "fnExactSameBraid", fn := fun _ => fun
  | [d1, d2] => { results := [.lit (.bool true)], args := [d1, d2] }
  | _ => none }
def fnExactSameBraidRow : OpenClaim := { program := "ytodfdhnlhiaohaa", sum := "2cdfb02d1035f618d6e00e50da1b153a6f6c81dffff60805d92418ae2e3694f9", func := "loop.example/g00870/laws.FnExactSameBraid", spec := "fnExactSameBraid", unfollowed := true, recurses := true, apart := false }
def FnExactSameBraidSaid : Prop := fnExactSameBraidRow.holds Try.pinned (OpenSpec.ofChange fnExactSameBraidSpec)

/-- ITS FALSE NEIGHBOUR: 'it returns false'. Refute it at one input. -/
def fnExactSameBraidWrong : ChangeSpec := { name := "fnExactSameBraid", fn := fun _ => fun
  | [d1, d2] => { results := [.lit (.bool false)], args := [d1, d2] }
  | _ => none }
def FnExactSameBraidWrongFalsely : Prop := fnExactSameBraidRow.holds Try.pinned (OpenSpec.ofChange fnExactSameBraidWrong)

/-- 'laws.FnRegions': WHATEVER THE INPUT: true; the input reads as it did. -/
def fnRegionsSpec : ChangeSpec := { name := "fnRegions", fn := fun _ => fun
  | [d] => { results := [.lit (.bool true)], args := [d] }
  | _ => none }
def fnRegionsRow : OpenClaim := { program := "ytodfdhnlhiaohaa", sum := "2cdfb02d1035f618d6e00e50da1b153a6f6c81dffff60805d92418ae2e3694f9", func := "loop.example/g00870/laws.FnRegions", spec := "fnRegions", unfollowed := true, recurses := true, apart := false }
def FnRegionsSaid : Prop := fnRegionsRow.holds Try.pinned (OpenSpec.ofChange fnRegionsSpec)

/-- ITS FALSE NEIGHBOUR: 'it returns false'. Refute it at one input. -/
def fnRegionsWrong : ChangeSpec := { name := "fnRegions", fn := fun _ => fun
  | [d] => { results := [.lit (.bool false)], args := [d] }
  | _ => none }
def FnRegionsWrongFalsely : Prop := fnRegionsRow.holds Try.pinned (OpenSpec.ofChange fnRegionsWrong)

/-- 'laws.FnFromForm': WHATEVER THE INPUT: true; the input reads as it did. -/
def fnFromFormSpec : ChangeSpec := { name := "fnFromForm", fn := fun _ => fun
  | [d] => { results := [.lit (.bool true)], args := [d] }
  | _ => none }
def fnFromFormRow : OpenClaim := { program := "ytodfdhnlhiaohaa", sum := "2cdfb02d1035f618d6e00e50da1b153a6f6c81dffff60805d92418ae2e3694f9", func := "loop.example/g00870/laws.FnFromForm", spec := "fnFromForm", unfollowed := true, recurses := true, apart := false }
def FnFromFormSaid : Prop := fnFromFormRow.holds Try.pinned (OpenSpec.ofChange fnFromFormSpec)

/-- ITS FALSE NEIGHBOUR: 'it returns false'. Refute it at one input. -/
def fnFromFormWrong : ChangeSpec := { name := "fnFromForm", fn := fun _ => fun
  | [d] => { results := [.lit (.bool false)], args := [d] }
  | _ => none }
def FnFromFormWrongFalsely : Prop := fnFromFormRow.holds Try.pinned (OpenSpec.ofChange fnFromFormWrong)

/-- 'laws.FnBraidGroup': WHATEVER THE INPUT: true; the input reads as it did. -/
def fnBraidGroupSpec : ChangeSpec := { name := "fnBraidGroup", fn := fun _ => fun
  | [d] => { results := [.lit (.bool true)], args := [d] }
  | _ => none }
def fnBraidGroupRow : OpenClaim := { program := "ytodfdhnlhiaohaa", sum := "2cdfb02d1035f618d6e00e50da1b153a6f6c81dffff60805d92418ae2e3694f9", func := "loop.example/g00870/laws.FnBraidGroup", spec := "fnBraidGroup", unfollowed := true, recurses := true, apart := false }
def FnBraidGroupSaid : Prop := fnBraidGroupRow.holds Try.pinned (OpenSpec.ofChange fnBraidGroupSpec)

/-- ITS FALSE NEIGHBOUR: 'it returns false'. Refute it at one input. -/
def fnBraidGroupWrong : ChangeSpec := { name := "fnBraidGroup", fn := fun _ => fun
  | [d] => { results := [.lit (.bool false)], args := [d] }
  | _ => none }
def FnBraidGroupWrongFalsely : Prop := fnBraidGroupRow.holds Try.pinned (OpenSpec.ofChange fnBraidGroupWrong)

/- THE SECOND FORM. 'bulk': how many values and letters a reading holds, each counted each time it is reached (what is shared counts as often as it is met; a slice's spare places count too). A statement '..UptoSaid' is the law's where the arguments, and the package variables that the reading takes, are together of bulk at most 1048576: NARROWER than '..Said'. Prove '..Said' where nothing that the law and all that it calls make is longer than what came in: it says more and counts as full. Else prove '..UptoSaid'. A law counts once. -/
mutual
def uptoBulk {H : Type} : DataW H → Nat
  | .lit (.string bytes) => bytes.length + 1
  | .lit _ => 1
  | .nil => 1
  | .ptr d => uptoBulk d + 1
  | .slice elems spare => uptoBulkAll elems + uptoBulkAll spare + 1
  | .agg parts => uptoBulkAll parts + 1
  | .iface _ d => uptoBulk d + 1
  | .map entries => uptoBulkEntries entries + 1
  | .held _ => 1
def uptoBulkAll {H : Type} : List (DataW H) → Nat
  | [] => 0
  | d :: r => uptoBulk d + uptoBulkAll r
def uptoBulkEntries {H : Type} : List (Lit × DataW H) → Nat
  | [] => 0
  | x :: r => uptoBulkEntry x + uptoBulkEntries r
def uptoBulkEntry {H : Type} : Lit × DataW H → Nat
  | (.string bytes, d) => bytes.length + uptoBulk d + 1
  | (_, d) => uptoBulk d + 1
 end
def uptoSmall : (H : Type) → List (DataW H) → Bool := fun _ ds => decide (uptoBulkAll ds ≤ 1048576)
def OpenSpec.upto (s : _root_.Go.ChangeSpec) : _root_.Go.OpenSpec := { _root_.Go.OpenSpec.ofChange s with cond := some uptoSmall }

/-- 'laws.FnExactWirtingerPresentation', WHERE WHAT IT READS IS OF BULK AT MOST 1048576: true; the input reads as it did. -/
def fnExactWirtingerPresentationUptoRow : OpenClaim := { program := "ytodfdhnlhiaohaa", sum := "2cdfb02d1035f618d6e00e50da1b153a6f6c81dffff60805d92418ae2e3694f9", func := "loop.example/g00870/laws.FnExactWirtingerPresentation", spec := "fnExactWirtingerPresentation", unfollowed := true, recurses := true, apart := false, narrowed := true }
def FnExactWirtingerPresentationUptoSaid : Prop := fnExactWirtingerPresentationUptoRow.holds Try.pinned (OpenSpec.upto fnExactWirtingerPresentationSpec)

/-- 'laws.FnExactAlexanderMatrix', WHERE WHAT IT READS IS OF BULK AT MOST 1048576: true; the input reads as it did. -/
def fnExactAlexanderMatrixUptoRow : OpenClaim := { program := "ytodfdhnlhiaohaa", sum := "2cdfb02d1035f618d6e00e50da1b153a6f6c81dffff60805d92418ae2e3694f9", func := "loop.example/g00870/laws.FnExactAlexanderMatrix", spec := "fnExactAlexanderMatrix", unfollowed := true, recurses := true, apart := false, narrowed := true }
def FnExactAlexanderMatrixUptoSaid : Prop := fnExactAlexanderMatrixUptoRow.holds Try.pinned (OpenSpec.upto fnExactAlexanderMatrixSpec)

/-- 'laws.FnExactAbelianizationOf', WHERE WHAT IT READS IS OF BULK AT MOST 1048576: true; the input reads as it did. -/
def fnExactAbelianizationOfUptoRow : OpenClaim := { program := "ytodfdhnlhiaohaa", sum := "2cdfb02d1035f618d6e00e50da1b153a6f6c81dffff60805d92418ae2e3694f9", func := "loop.example/g00870/laws.FnExactAbelianizationOf", spec := "fnExactAbelianizationOf", unfollowed := true, recurses := true, apart := false, narrowed := true }
def FnExactAbelianizationOfUptoSaid : Prop := fnExactAbelianizationOfUptoRow.holds Try.pinned (OpenSpec.upto fnExactAbelianizationOfSpec)

/-- 'laws.FnExactNormalForm', WHERE WHAT IT READS IS OF BULK AT MOST 1048576: true; the input reads as it did. -/
def fnExactNormalFormUptoRow : OpenClaim := { program := "ytodfdhnlhiaohaa", sum := "2cdfb02d1035f618d6e00e50da1b153a6f6c81dffff60805d92418ae2e3694f9", func := "loop.example/g00870/laws.FnExactNormalForm", spec := "fnExactNormalForm", unfollowed := true, recurses := true, apart := false, narrowed := true }
def FnExactNormalFormUptoSaid : Prop := fnExactNormalFormUptoRow.holds Try.pinned (OpenSpec.upto fnExactNormalFormSpec)

/-- 'laws.FnExactSameBraid', WHERE WHAT IT READS IS OF BULK AT MOST 1048576: true; the input reads as it did. -/
def fnExactSameBraidUptoRow : OpenClaim := { program := "ytodfdhnlhiaohaa", sum := "2cdfb02d1035f618d6e00e50da1b153a6f6c81dffff60805d92418ae2e3694f9", func := "loop.example/g00870/laws.FnExactSameBraid", spec := "fnExactSameBraid", unfollowed := true, recurses := true, apart := false, narrowed := true }
def FnExactSameBraidUptoSaid : Prop := fnExactSameBraidUptoRow.holds Try.pinned (OpenSpec.upto fnExactSameBraidSpec)

/-- 'laws.FnRegions', WHERE WHAT IT READS IS OF BULK AT MOST 1048576: true; the input reads as it did. -/
def fnRegionsUptoRow : OpenClaim := { program := "ytodfdhnlhiaohaa", sum := "2cdfb02d1035f618d6e00e50da1b153a6f6c81dffff60805d92418ae2e3694f9", func := "loop.example/g00870/laws.FnRegions", spec := "fnRegions", unfollowed := true, recurses := true, apart := false, narrowed := true }
def FnRegionsUptoSaid : Prop := fnRegionsUptoRow.holds Try.pinned (OpenSpec.upto fnRegionsSpec)

/-- 'laws.FnFromForm', WHERE WHAT IT READS IS OF BULK AT MOST 1048576: true; the input reads as it did. -/
def fnFromFormUptoRow : OpenClaim := { program := "ytodfdhnlhiaohaa", sum := "2cdfb02d1035f618d6e00e50da1b153a6f6c81dffff60805d92418ae2e3694f9", func := "loop.example/g00870/laws.FnFromForm", spec := "fnFromForm", unfollowed := true, recurses := true, apart := false, narrowed := true }
def FnFromFormUptoSaid : Prop := fnFromFormUptoRow.holds Try.pinned (OpenSpec.upto fnFromFormSpec)

/-- 'laws.FnBraidGroup', WHERE WHAT IT READS IS OF BULK AT MOST 1048576: true; the input reads as it did. -/
def fnBraidGroupUptoRow : OpenClaim := { program := "ytodfdhnlhiaohaa", sum := "2cdfb02d1035f618d6e00e50da1b153a6f6c81dffff60805d92418ae2e3694f9", func := "loop.example/g00870/laws.FnBraidGroup", spec := "fnBraidGroup", unfollowed := true, recurses := true, apart := false, narrowed := true }
def FnBraidGroupUptoSaid : Prop := fnBraidGroupUptoRow.holds Try.pinned (OpenSpec.upto fnBraidGroupSpec)

end Rows
end Go.Proofs.Ytodfdhnlhiaohaa
