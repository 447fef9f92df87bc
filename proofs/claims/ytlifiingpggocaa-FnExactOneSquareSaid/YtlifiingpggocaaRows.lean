/-
  No cell of these rows narrows 'for every input' (looked for: loops, veiled, ifaces, maps, wideKeys, modest, calm, conditions, laid).
  DERIVED. THE GIVEN ROWS OF THIS SEAT. 12 by the template 'for every input the law returns true; each argument reads behind the call as it read before'; 0 by the template 'total and deterministic' (their statements: YtlifiingpggocaaTotals.lean).
  GIVEN WITH THE SEED: the statements are not yours to turn. If you find one false, say at which input.
  Laid BY PROGRAM, IN A SANDBOX (cutbox-rows.mjs): the forced cells as the released guide's own fill.sh prints them over the translation d190088f50ab2411… (all of the seat's roots in one cut). By AI agents, Wed Nov 11 2026. No macro, syntax, notation, axiom, sorry.
-/
import Derived.Test.YtlifiingpggocaaChecked
import GoSem.Claim
import GoSem.ClaimJoined
import GoSem.ClaimMapViews
import Derived.JoinedTies
import Derived.KernelRfl
namespace Go.Proofs.Ytlifiingpggocaa
/- THE CELL 'sum', in the pinned program and in every row, IS THE sha256 OF THE DUMP (.gsa) THAT YtlifiingpggocaaProg.lean LOADS. Nothing in Lean hashes anything: it is a label: what it is worth is what the hold of that sum in a sandbox is worth. -/
noncomputable def Try.pinned : Pinned := { name := "ytlifiingpggocaa", sum := "d190088f50ab2411e6d5d79b5aab34a2ee1f96af1960de4d0dbd7a219d45fb9c", checked := Try.checked }
namespace Rows
def none {H : Type} : Left H := { results := [], args := [] }

/-- 'laws.FnExactOneSquare': WHATEVER THE INPUT: true; the input reads as it did. -/
def fnExactOneSquareSpec : ChangeSpec := { name := "fnExactOneSquare", fn := fun _ => fun
  | [d] => { results := [.lit (.bool true)], args := [d] }
  | _ => none }
def fnExactOneSquareRow : OpenClaim := { program := "ytlifiingpggocaa", sum := "d190088f50ab2411e6d5d79b5aab34a2ee1f96af1960de4d0dbd7a219d45fb9c", func := "loop.example/g01296/laws.FnExactOneSquare", spec := "fnExactOneSquare", unfollowed := true, recurses := true, apart := false }
def FnExactOneSquareSaid : Prop := fnExactOneSquareRow.holds Try.pinned (OpenSpec.ofChange fnExactOneSquareSpec)

/-- ITS FALSE NEIGHBOUR: 'it returns false'. Refute it at one input. -/
def fnExactOneSquareWrong : ChangeSpec := { name := "fnExactOneSquare", fn := fun _ => fun
  | [d] => { results := [.lit (.bool false)], args := [d] }
  | _ => none }
def FnExactOneSquareWrongFalsely : Prop := fnExactOneSquareRow.holds Try.pinned (OpenSpec.ofChange fnExactOneSquareWrong)

/-- 'laws.FnExactRatioOfNet': WHATEVER THE INPUT: true; the input reads as it did. -/
def fnExactRatioOfNetSpec : ChangeSpec := { name := "fnExactRatioOfNet", fn := fun _ => fun
  | [d] => { results := [.lit (.bool true)], args := [d] }
  | _ => none }
def fnExactRatioOfNetRow : OpenClaim := { program := "ytlifiingpggocaa", sum := "d190088f50ab2411e6d5d79b5aab34a2ee1f96af1960de4d0dbd7a219d45fb9c", func := "loop.example/g01296/laws.FnExactRatioOfNet", spec := "fnExactRatioOfNet", apart := false }
def FnExactRatioOfNetSaid : Prop := fnExactRatioOfNetRow.holds Try.pinned (OpenSpec.ofChange fnExactRatioOfNetSpec)

/-- ITS FALSE NEIGHBOUR: 'it returns false'. Refute it at one input. -/
def fnExactRatioOfNetWrong : ChangeSpec := { name := "fnExactRatioOfNet", fn := fun _ => fun
  | [d] => { results := [.lit (.bool false)], args := [d] }
  | _ => none }
def FnExactRatioOfNetWrongFalsely : Prop := fnExactRatioOfNetRow.holds Try.pinned (OpenSpec.ofChange fnExactRatioOfNetWrong)

/-- 'laws.FnExactLowCurrents': WHATEVER THE INPUT: true; the input reads as it did. -/
def fnExactLowCurrentsSpec : ChangeSpec := { name := "fnExactLowCurrents", fn := fun _ => fun
  | [d] => { results := [.lit (.bool true)], args := [d] }
  | _ => none }
def fnExactLowCurrentsRow : OpenClaim := { program := "ytlifiingpggocaa", sum := "d190088f50ab2411e6d5d79b5aab34a2ee1f96af1960de4d0dbd7a219d45fb9c", func := "loop.example/g01296/laws.FnExactLowCurrents", spec := "fnExactLowCurrents", apart := false }
def FnExactLowCurrentsSaid : Prop := fnExactLowCurrentsRow.holds Try.pinned (OpenSpec.ofChange fnExactLowCurrentsSpec)

/-- ITS FALSE NEIGHBOUR: 'it returns false'. Refute it at one input. -/
def fnExactLowCurrentsWrong : ChangeSpec := { name := "fnExactLowCurrents", fn := fun _ => fun
  | [d] => { results := [.lit (.bool false)], args := [d] }
  | _ => none }
def FnExactLowCurrentsWrongFalsely : Prop := fnExactLowCurrentsRow.holds Try.pinned (OpenSpec.ofChange fnExactLowCurrentsWrong)

/-- 'laws.FnExactIsCutCode': WHATEVER THE INPUT: true; the input reads as it did. -/
def fnExactIsCutCodeSpec : ChangeSpec := { name := "fnExactIsCutCode", fn := fun _ => fun
  | [d] => { results := [.lit (.bool true)], args := [d] }
  | _ => none }
def fnExactIsCutCodeRow : OpenClaim := { program := "ytlifiingpggocaa", sum := "d190088f50ab2411e6d5d79b5aab34a2ee1f96af1960de4d0dbd7a219d45fb9c", func := "loop.example/g01296/laws.FnExactIsCutCode", spec := "fnExactIsCutCode", unfollowed := true, recurses := true, apart := false }
def FnExactIsCutCodeSaid : Prop := fnExactIsCutCodeRow.holds Try.pinned (OpenSpec.ofChange fnExactIsCutCodeSpec)

/-- ITS FALSE NEIGHBOUR: 'it returns false'. Refute it at one input. -/
def fnExactIsCutCodeWrong : ChangeSpec := { name := "fnExactIsCutCode", fn := fun _ => fun
  | [d] => { results := [.lit (.bool false)], args := [d] }
  | _ => none }
def FnExactIsCutCodeWrongFalsely : Prop := fnExactIsCutCodeRow.holds Try.pinned (OpenSpec.ofChange fnExactIsCutCodeWrong)

/-- 'laws.FnExactOrderOfCode': WHATEVER THE INPUT: true; the input reads as it did. -/
def fnExactOrderOfCodeSpec : ChangeSpec := { name := "fnExactOrderOfCode", fn := fun _ => fun
  | [d] => { results := [.lit (.bool true)], args := [d] }
  | _ => none }
def fnExactOrderOfCodeRow : OpenClaim := { program := "ytlifiingpggocaa", sum := "d190088f50ab2411e6d5d79b5aab34a2ee1f96af1960de4d0dbd7a219d45fb9c", func := "loop.example/g01296/laws.FnExactOrderOfCode", spec := "fnExactOrderOfCode", unfollowed := true, recurses := true, apart := false }
def FnExactOrderOfCodeSaid : Prop := fnExactOrderOfCodeRow.holds Try.pinned (OpenSpec.ofChange fnExactOrderOfCodeSpec)

/-- ITS FALSE NEIGHBOUR: 'it returns false'. Refute it at one input. -/
def fnExactOrderOfCodeWrong : ChangeSpec := { name := "fnExactOrderOfCode", fn := fun _ => fun
  | [d] => { results := [.lit (.bool false)], args := [d] }
  | _ => none }
def FnExactOrderOfCodeWrongFalsely : Prop := fnExactOrderOfCodeRow.holds Try.pinned (OpenSpec.ofChange fnExactOrderOfCodeWrong)

/-- 'laws.FnExactWidthOfCode': WHATEVER THE INPUT: true; the input reads as it did. -/
def fnExactWidthOfCodeSpec : ChangeSpec := { name := "fnExactWidthOfCode", fn := fun _ => fun
  | [d] => { results := [.lit (.bool true)], args := [d] }
  | _ => none }
def fnExactWidthOfCodeRow : OpenClaim := { program := "ytlifiingpggocaa", sum := "d190088f50ab2411e6d5d79b5aab34a2ee1f96af1960de4d0dbd7a219d45fb9c", func := "loop.example/g01296/laws.FnExactWidthOfCode", spec := "fnExactWidthOfCode", unfollowed := true, recurses := true, apart := false }
def FnExactWidthOfCodeSaid : Prop := fnExactWidthOfCodeRow.holds Try.pinned (OpenSpec.ofChange fnExactWidthOfCodeSpec)

/-- ITS FALSE NEIGHBOUR: 'it returns false'. Refute it at one input. -/
def fnExactWidthOfCodeWrong : ChangeSpec := { name := "fnExactWidthOfCode", fn := fun _ => fun
  | [d] => { results := [.lit (.bool false)], args := [d] }
  | _ => none }
def FnExactWidthOfCodeWrongFalsely : Prop := fnExactWidthOfCodeRow.holds Try.pinned (OpenSpec.ofChange fnExactWidthOfCodeWrong)

/-- 'laws.FnExactCutOfCode': WHATEVER THE INPUT: true; the input reads as it did. -/
def fnExactCutOfCodeSpec : ChangeSpec := { name := "fnExactCutOfCode", fn := fun _ => fun
  | [d] => { results := [.lit (.bool true)], args := [d] }
  | _ => none }
def fnExactCutOfCodeRow : OpenClaim := { program := "ytlifiingpggocaa", sum := "d190088f50ab2411e6d5d79b5aab34a2ee1f96af1960de4d0dbd7a219d45fb9c", func := "loop.example/g01296/laws.FnExactCutOfCode", spec := "fnExactCutOfCode", unfollowed := true, recurses := true, apart := false }
def FnExactCutOfCodeSaid : Prop := fnExactCutOfCodeRow.holds Try.pinned (OpenSpec.ofChange fnExactCutOfCodeSpec)

/-- ITS FALSE NEIGHBOUR: 'it returns false'. Refute it at one input. -/
def fnExactCutOfCodeWrong : ChangeSpec := { name := "fnExactCutOfCode", fn := fun _ => fun
  | [d] => { results := [.lit (.bool false)], args := [d] }
  | _ => none }
def FnExactCutOfCodeWrongFalsely : Prop := fnExactCutOfCodeRow.holds Try.pinned (OpenSpec.ofChange fnExactCutOfCodeWrong)

/-- 'laws.FnExactCompareCodes': WHATEVER THE INPUT: true; the input reads as it did. -/
def fnExactCompareCodesSpec : ChangeSpec := { name := "fnExactCompareCodes", fn := fun _ => fun
  | [d1, d2] => { results := [.lit (.bool true)], args := [d1, d2] }
  | _ => none }
def fnExactCompareCodesRow : OpenClaim := { program := "ytlifiingpggocaa", sum := "d190088f50ab2411e6d5d79b5aab34a2ee1f96af1960de4d0dbd7a219d45fb9c", func := "loop.example/g01296/laws.FnExactCompareCodes", spec := "fnExactCompareCodes", unfollowed := true, recurses := true, apart := false }
def FnExactCompareCodesSaid : Prop := fnExactCompareCodesRow.holds Try.pinned (OpenSpec.ofChange fnExactCompareCodesSpec)

/-- ITS FALSE NEIGHBOUR: 'it returns false'. Refute it at one input. -/
def fnExactCompareCodesWrong : ChangeSpec := { name := "fnExactCompareCodes", fn := fun _ => fun
  | [d1, d2] => { results := [.lit (.bool false)], args := [d1, d2] }
  | _ => none }
def FnExactCompareCodesWrongFalsely : Prop := fnExactCompareCodesRow.holds Try.pinned (OpenSpec.ofChange fnExactCompareCodesWrong)

/-- 'laws.FnExactMirrorCode': WHATEVER THE INPUT: true; the input reads as it did. -/
def fnExactMirrorCodeSpec : ChangeSpec := { name := "fnExactMirrorCode", fn := fun _ => fun
  | [d] => { results := [.lit (.bool true)], args := [d] }
  | _ => none }
def fnExactMirrorCodeRow : OpenClaim := { program := "ytlifiingpggocaa", sum := "d190088f50ab2411e6d5d79b5aab34a2ee1f96af1960de4d0dbd7a219d45fb9c", func := "loop.example/g01296/laws.FnExactMirrorCode", spec := "fnExactMirrorCode", unfollowed := true, recurses := true, apart := false }
def FnExactMirrorCodeSaid : Prop := fnExactMirrorCodeRow.holds Try.pinned (OpenSpec.ofChange fnExactMirrorCodeSpec)

/-- ITS FALSE NEIGHBOUR: 'it returns false'. Refute it at one input. -/
def fnExactMirrorCodeWrong : ChangeSpec := { name := "fnExactMirrorCode", fn := fun _ => fun
  | [d] => { results := [.lit (.bool false)], args := [d] }
  | _ => none }
def FnExactMirrorCodeWrongFalsely : Prop := fnExactMirrorCodeRow.holds Try.pinned (OpenSpec.ofChange fnExactMirrorCodeWrong)

/-- 'laws.FnExactTurnCode': WHATEVER THE INPUT: true; the input reads as it did. -/
def fnExactTurnCodeSpec : ChangeSpec := { name := "fnExactTurnCode", fn := fun _ => fun
  | [d] => { results := [.lit (.bool true)], args := [d] }
  | _ => none }
def fnExactTurnCodeRow : OpenClaim := { program := "ytlifiingpggocaa", sum := "d190088f50ab2411e6d5d79b5aab34a2ee1f96af1960de4d0dbd7a219d45fb9c", func := "loop.example/g01296/laws.FnExactTurnCode", spec := "fnExactTurnCode", unfollowed := true, recurses := true, apart := false }
def FnExactTurnCodeSaid : Prop := fnExactTurnCodeRow.holds Try.pinned (OpenSpec.ofChange fnExactTurnCodeSpec)

/-- ITS FALSE NEIGHBOUR: 'it returns false'. Refute it at one input. -/
def fnExactTurnCodeWrong : ChangeSpec := { name := "fnExactTurnCode", fn := fun _ => fun
  | [d] => { results := [.lit (.bool false)], args := [d] }
  | _ => none }
def FnExactTurnCodeWrongFalsely : Prop := fnExactTurnCodeRow.holds Try.pinned (OpenSpec.ofChange fnExactTurnCodeWrong)

/-- 'laws.FnExactGrowCode': WHATEVER THE INPUT: true; the input reads as it did. -/
def fnExactGrowCodeSpec : ChangeSpec := { name := "fnExactGrowCode", fn := fun _ => fun
  | [d1, d2] => { results := [.lit (.bool true)], args := [d1, d2] }
  | _ => none }
def fnExactGrowCodeRow : OpenClaim := { program := "ytlifiingpggocaa", sum := "d190088f50ab2411e6d5d79b5aab34a2ee1f96af1960de4d0dbd7a219d45fb9c", func := "loop.example/g01296/laws.FnExactGrowCode", spec := "fnExactGrowCode", unfollowed := true, recurses := true, apart := false }
def FnExactGrowCodeSaid : Prop := fnExactGrowCodeRow.holds Try.pinned (OpenSpec.ofChange fnExactGrowCodeSpec)

/-- ITS FALSE NEIGHBOUR: 'it returns false'. Refute it at one input. -/
def fnExactGrowCodeWrong : ChangeSpec := { name := "fnExactGrowCode", fn := fun _ => fun
  | [d1, d2] => { results := [.lit (.bool false)], args := [d1, d2] }
  | _ => none }
def FnExactGrowCodeWrongFalsely : Prop := fnExactGrowCodeRow.holds Try.pinned (OpenSpec.ofChange fnExactGrowCodeWrong)

/-- 'laws.FnExactPartsOf': WHATEVER THE INPUT: true; the input reads as it did. -/
def fnExactPartsOfSpec : ChangeSpec := { name := "fnExactPartsOf", fn := fun _ => fun
  | [d] => { results := [.lit (.bool true)], args := [d] }
  | _ => none }
def fnExactPartsOfRow : OpenClaim := { program := "ytlifiingpggocaa", sum := "d190088f50ab2411e6d5d79b5aab34a2ee1f96af1960de4d0dbd7a219d45fb9c", func := "loop.example/g01296/laws.FnExactPartsOf", spec := "fnExactPartsOf", unfollowed := true, recurses := true, apart := false }
def FnExactPartsOfSaid : Prop := fnExactPartsOfRow.holds Try.pinned (OpenSpec.ofChange fnExactPartsOfSpec)

/-- ITS FALSE NEIGHBOUR: 'it returns false'. Refute it at one input. -/
def fnExactPartsOfWrong : ChangeSpec := { name := "fnExactPartsOf", fn := fun _ => fun
  | [d] => { results := [.lit (.bool false)], args := [d] }
  | _ => none }
def FnExactPartsOfWrongFalsely : Prop := fnExactPartsOfRow.holds Try.pinned (OpenSpec.ofChange fnExactPartsOfWrong)

/- THE SECOND FORM. 'bulk': how many values and letters a reading holds, each counted each time it is reached (what is shared counts as often as it is met; a slice's spare places count too). A statement '..UptoSaid' is the law's where the arguments, and the package variables that the reading takes, are together of bulk at most 1048576: NARROWER than '..Said'. Prove '..Said' where nothing that the law and all that it calls make is longer than what came in: it says more and counts as full. Else prove '..UptoSaid'. A law counts once. -/
mutual
def uptoBulk {H : Type} : DataW H → Nat
  | .lit (.string bytes) => bytes.length + 1
  | .lit _ => 1
  | .nil => 1
  | .ptr d => uptoBulk d + 1
  | .slice elems spare => uptoBulkAll elems + uptoBulkAll spare + 1
  | .agg parts => uptoBulkAll parts + 1
  | .iface _ d => uptoBulk d + 1
  | .map entries => uptoBulkEntries entries + 1
  | .held _ => 1
def uptoBulkAll {H : Type} : List (DataW H) → Nat
  | [] => 0
  | d :: r => uptoBulk d + uptoBulkAll r
def uptoBulkEntries {H : Type} : List (Lit × DataW H) → Nat
  | [] => 0
  | x :: r => uptoBulkEntry x + uptoBulkEntries r
def uptoBulkEntry {H : Type} : Lit × DataW H → Nat
  | (.string bytes, d) => bytes.length + uptoBulk d + 1
  | (_, d) => uptoBulk d + 1
 end
def uptoSmall : (H : Type) → List (DataW H) → Bool := fun _ ds => decide (uptoBulkAll ds ≤ 1048576)
def OpenSpec.upto (s : _root_.Go.ChangeSpec) : _root_.Go.OpenSpec := { _root_.Go.OpenSpec.ofChange s with cond := some uptoSmall }

/-- 'laws.FnExactOneSquare', WHERE WHAT IT READS IS OF BULK AT MOST 1048576: true; the input reads as it did. -/
def fnExactOneSquareUptoRow : OpenClaim := { program := "ytlifiingpggocaa", sum := "d190088f50ab2411e6d5d79b5aab34a2ee1f96af1960de4d0dbd7a219d45fb9c", func := "loop.example/g01296/laws.FnExactOneSquare", spec := "fnExactOneSquare", unfollowed := true, recurses := true, apart := false, narrowed := true }
def FnExactOneSquareUptoSaid : Prop := fnExactOneSquareUptoRow.holds Try.pinned (OpenSpec.upto fnExactOneSquareSpec)

/-- 'laws.FnExactRatioOfNet', WHERE WHAT IT READS IS OF BULK AT MOST 1048576: true; the input reads as it did. -/
def fnExactRatioOfNetUptoRow : OpenClaim := { program := "ytlifiingpggocaa", sum := "d190088f50ab2411e6d5d79b5aab34a2ee1f96af1960de4d0dbd7a219d45fb9c", func := "loop.example/g01296/laws.FnExactRatioOfNet", spec := "fnExactRatioOfNet", apart := false, narrowed := true }
def FnExactRatioOfNetUptoSaid : Prop := fnExactRatioOfNetUptoRow.holds Try.pinned (OpenSpec.upto fnExactRatioOfNetSpec)

/-- 'laws.FnExactLowCurrents', WHERE WHAT IT READS IS OF BULK AT MOST 1048576: true; the input reads as it did. -/
def fnExactLowCurrentsUptoRow : OpenClaim := { program := "ytlifiingpggocaa", sum := "d190088f50ab2411e6d5d79b5aab34a2ee1f96af1960de4d0dbd7a219d45fb9c", func := "loop.example/g01296/laws.FnExactLowCurrents", spec := "fnExactLowCurrents", apart := false, narrowed := true }
def FnExactLowCurrentsUptoSaid : Prop := fnExactLowCurrentsUptoRow.holds Try.pinned (OpenSpec.upto fnExactLowCurrentsSpec)

/-- 'laws.FnExactIsCutCode', WHERE WHAT IT READS IS OF BULK AT MOST 1048576: true; the input reads as it did. -/
def fnExactIsCutCodeUptoRow : OpenClaim := { program := "ytlifiingpggocaa", sum := "d190088f50ab2411e6d5d79b5aab34a2ee1f96af1960de4d0dbd7a219d45fb9c", func := "loop.example/g01296/laws.FnExactIsCutCode", spec := "fnExactIsCutCode", unfollowed := true, recurses := true, apart := false, narrowed := true }
def FnExactIsCutCodeUptoSaid : Prop := fnExactIsCutCodeUptoRow.holds Try.pinned (OpenSpec.upto fnExactIsCutCodeSpec)

/-- 'laws.FnExactOrderOfCode', WHERE WHAT IT READS IS OF BULK AT MOST 1048576: true; the input reads as it did. -/
def fnExactOrderOfCodeUptoRow : OpenClaim := { program := "ytlifiingpggocaa", sum := "d190088f50ab2411e6d5d79b5aab34a2ee1f96af1960de4d0dbd7a219d45fb9c", func := "loop.example/g01296/laws.FnExactOrderOfCode", spec := "fnExactOrderOfCode", unfollowed := true, recurses := true, apart := false, narrowed := true }
def FnExactOrderOfCodeUptoSaid : Prop := fnExactOrderOfCodeUptoRow.holds Try.pinned (OpenSpec.upto fnExactOrderOfCodeSpec)

/-- 'laws.FnExactWidthOfCode', WHERE WHAT IT READS IS OF BULK AT MOST 1048576: true; the input reads as it did. -/
def fnExactWidthOfCodeUptoRow : OpenClaim := { program := "ytlifiingpggocaa", sum := "d190088f50ab2411e6d5d79b5aab34a2ee1f96af1960de4d0dbd7a219d45fb9c", func := "loop.example/g01296/laws.FnExactWidthOfCode", spec := "fnExactWidthOfCode", unfollowed := true, recurses := true, apart := false, narrowed := true }
def FnExactWidthOfCodeUptoSaid : Prop := fnExactWidthOfCodeUptoRow.holds Try.pinned (OpenSpec.upto fnExactWidthOfCodeSpec)

/-- 'laws.FnExactCutOfCode', WHERE WHAT IT READS IS OF BULK AT MOST 1048576: true; the input reads as it did. -/
def fnExactCutOfCodeUptoRow : OpenClaim := { program := "ytlifiingpggocaa", sum := "d190088f50ab2411e6d5d79b5aab34a2ee1f96af1960de4d0dbd7a219d45fb9c", func := "loop.example/g01296/laws.FnExactCutOfCode", spec := "fnExactCutOfCode", unfollowed := true, recurses := true, apart := false, narrowed := true }
def FnExactCutOfCodeUptoSaid : Prop := fnExactCutOfCodeUptoRow.holds Try.pinned (OpenSpec.upto fnExactCutOfCodeSpec)

/-- 'laws.FnExactCompareCodes', WHERE WHAT IT READS IS OF BULK AT MOST 1048576: true; the input reads as it did. -/
def fnExactCompareCodesUptoRow : OpenClaim := { program := "ytlifiingpggocaa", sum := "d190088f50ab2411e6d5d79b5aab34a2ee1f96af1960de4d0dbd7a219d45fb9c", func := "loop.example/g01296/laws.FnExactCompareCodes", spec := "fnExactCompareCodes", unfollowed := true, recurses := true, apart := false, narrowed := true }
def FnExactCompareCodesUptoSaid : Prop := fnExactCompareCodesUptoRow.holds Try.pinned (OpenSpec.upto fnExactCompareCodesSpec)

/-- 'laws.FnExactMirrorCode', WHERE WHAT IT READS IS OF BULK AT MOST 1048576: true; the input reads as it did. -/
def fnExactMirrorCodeUptoRow : OpenClaim := { program := "ytlifiingpggocaa", sum := "d190088f50ab2411e6d5d79b5aab34a2ee1f96af1960de4d0dbd7a219d45fb9c", func := "loop.example/g01296/laws.FnExactMirrorCode", spec := "fnExactMirrorCode", unfollowed := true, recurses := true, apart := false, narrowed := true }
def FnExactMirrorCodeUptoSaid : Prop := fnExactMirrorCodeUptoRow.holds Try.pinned (OpenSpec.upto fnExactMirrorCodeSpec)

/-- 'laws.FnExactTurnCode', WHERE WHAT IT READS IS OF BULK AT MOST 1048576: true; the input reads as it did. -/
def fnExactTurnCodeUptoRow : OpenClaim := { program := "ytlifiingpggocaa", sum := "d190088f50ab2411e6d5d79b5aab34a2ee1f96af1960de4d0dbd7a219d45fb9c", func := "loop.example/g01296/laws.FnExactTurnCode", spec := "fnExactTurnCode", unfollowed := true, recurses := true, apart := false, narrowed := true }
def FnExactTurnCodeUptoSaid : Prop := fnExactTurnCodeUptoRow.holds Try.pinned (OpenSpec.upto fnExactTurnCodeSpec)

/-- 'laws.FnExactGrowCode', WHERE WHAT IT READS IS OF BULK AT MOST 1048576: true; the input reads as it did. -/
def fnExactGrowCodeUptoRow : OpenClaim := { program := "ytlifiingpggocaa", sum := "d190088f50ab2411e6d5d79b5aab34a2ee1f96af1960de4d0dbd7a219d45fb9c", func := "loop.example/g01296/laws.FnExactGrowCode", spec := "fnExactGrowCode", unfollowed := true, recurses := true, apart := false, narrowed := true }
def FnExactGrowCodeUptoSaid : Prop := fnExactGrowCodeUptoRow.holds Try.pinned (OpenSpec.upto fnExactGrowCodeSpec)

/-- 'laws.FnExactPartsOf', WHERE WHAT IT READS IS OF BULK AT MOST 1048576: true; the input reads as it did. -/
def fnExactPartsOfUptoRow : OpenClaim := { program := "ytlifiingpggocaa", sum := "d190088f50ab2411e6d5d79b5aab34a2ee1f96af1960de4d0dbd7a219d45fb9c", func := "loop.example/g01296/laws.FnExactPartsOf", spec := "fnExactPartsOf", unfollowed := true, recurses := true, apart := false, narrowed := true }
def FnExactPartsOfUptoSaid : Prop := fnExactPartsOfUptoRow.holds Try.pinned (OpenSpec.upto fnExactPartsOfSpec)

end Rows
end Go.Proofs.Ytlifiingpggocaa
