/-
  No cell of these rows narrows 'for every input' (looked for: loops, veiled, ifaces, maps, wideKeys, modest, calm, conditions, laid).
  DERIVED. THE GIVEN ROWS OF THIS SEAT. 10 by the template 'for every input the law returns true; each argument reads behind the call as it read before'; 0 by the template 'total and deterministic' (their statements: YthnjbpabiamkjaaTotals.lean).
  GIVEN WITH THE SEED: the statements are not yours to turn. If you find one false, say at which input.
  Laid BY PROGRAM, IN A SANDBOX (cutbox-rows.mjs): the forced cells as the released guide's own fill.sh prints them over the translation 5f05b23029b5033f… (all of the seat's roots in one cut). By AI agents, Wed Nov 11 2026. No macro, syntax, notation, axiom, sorry.
-/
import Derived.Test.YthnjbpabiamkjaaChecked
import GoSem.Claim
import GoSem.ClaimJoined
import GoSem.ClaimMapViews
import Derived.JoinedTies
import Derived.KernelRfl
namespace Go.Proofs.Ythnjbpabiamkjaa
/- THE CELL 'sum', in the pinned program and in every row, IS THE sha256 OF THE DUMP (.gsa) THAT YthnjbpabiamkjaaProg.lean LOADS. Nothing in Lean hashes anything: it is a label: what it is worth is what the hold of that sum in a sandbox is worth. -/
noncomputable def Try.pinned : Pinned := { name := "ythnjbpabiamkjaa", sum := "5f05b23029b5033f7126bb98c426c12174bf742a4de60a0098fc57116b0b11a6", checked := Try.checked }
namespace Rows
def none {H : Type} : Left H := { results := [], args := [] }

/-- 'laws.FnExactCodeOf': WHATEVER THE INPUT: true; the input reads as it did. -/
def fnExactCodeOfSpec : ChangeSpec := { name := "fnExactCodeOf", fn := fun _ => fun
  | [d] => { results := [.lit (.bool true)], args := [d] }
  | _ => none }
def fnExactCodeOfRow : OpenClaim := { program := "ythnjbpabiamkjaa", sum := "5f05b23029b5033f7126bb98c426c12174bf742a4de60a0098fc57116b0b11a6", func := "loop.example/g01296/laws.FnExactCodeOf", spec := "fnExactCodeOf", unfollowed := true, recurses := true, apart := false }
def FnExactCodeOfSaid : Prop := fnExactCodeOfRow.holds Try.pinned (OpenSpec.ofChange fnExactCodeOfSpec)

/-- ITS FALSE NEIGHBOUR: 'it returns false'. Refute it at one input. -/
def fnExactCodeOfWrong : ChangeSpec := { name := "fnExactCodeOf", fn := fun _ => fun
  | [d] => { results := [.lit (.bool false)], args := [d] }
  | _ => none }
def FnExactCodeOfWrongFalsely : Prop := fnExactCodeOfRow.holds Try.pinned (OpenSpec.ofChange fnExactCodeOfWrong)

/-- 'laws.FnExactCrossesOf': WHATEVER THE INPUT: true; the input reads as it did. -/
def fnExactCrossesOfSpec : ChangeSpec := { name := "fnExactCrossesOf", fn := fun _ => fun
  | [d] => { results := [.lit (.bool true)], args := [d] }
  | _ => none }
def fnExactCrossesOfRow : OpenClaim := { program := "ythnjbpabiamkjaa", sum := "5f05b23029b5033f7126bb98c426c12174bf742a4de60a0098fc57116b0b11a6", func := "loop.example/g01296/laws.FnExactCrossesOf", spec := "fnExactCrossesOf", unfollowed := true, recurses := true, apart := false }
def FnExactCrossesOfSaid : Prop := fnExactCrossesOfRow.holds Try.pinned (OpenSpec.ofChange fnExactCrossesOfSpec)

/-- ITS FALSE NEIGHBOUR: 'it returns false'. Refute it at one input. -/
def fnExactCrossesOfWrong : ChangeSpec := { name := "fnExactCrossesOf", fn := fun _ => fun
  | [d] => { results := [.lit (.bool false)], args := [d] }
  | _ => none }
def FnExactCrossesOfWrongFalsely : Prop := fnExactCrossesOfRow.holds Try.pinned (OpenSpec.ofChange fnExactCrossesOfWrong)

/-- 'laws.FnExactLinesOf': WHATEVER THE INPUT: true; the input reads as it did. -/
def fnExactLinesOfSpec : ChangeSpec := { name := "fnExactLinesOf", fn := fun _ => fun
  | [d] => { results := [.lit (.bool true)], args := [d] }
  | _ => none }
def fnExactLinesOfRow : OpenClaim := { program := "ythnjbpabiamkjaa", sum := "5f05b23029b5033f7126bb98c426c12174bf742a4de60a0098fc57116b0b11a6", func := "loop.example/g01296/laws.FnExactLinesOf", spec := "fnExactLinesOf", unfollowed := true, recurses := true, apart := false }
def FnExactLinesOfSaid : Prop := fnExactLinesOfRow.holds Try.pinned (OpenSpec.ofChange fnExactLinesOfSpec)

/-- ITS FALSE NEIGHBOUR: 'it returns false'. Refute it at one input. -/
def fnExactLinesOfWrong : ChangeSpec := { name := "fnExactLinesOf", fn := fun _ => fun
  | [d] => { results := [.lit (.bool false)], args := [d] }
  | _ => none }
def FnExactLinesOfWrongFalsely : Prop := fnExactLinesOfRow.holds Try.pinned (OpenSpec.ofChange fnExactLinesOfWrong)

/-- 'laws.FnExactNetOfCut': WHATEVER THE INPUT: true; the input reads as it did. -/
def fnExactNetOfCutSpec : ChangeSpec := { name := "fnExactNetOfCut", fn := fun _ => fun
  | [d] => { results := [.lit (.bool true)], args := [d] }
  | _ => none }
def fnExactNetOfCutRow : OpenClaim := { program := "ythnjbpabiamkjaa", sum := "5f05b23029b5033f7126bb98c426c12174bf742a4de60a0098fc57116b0b11a6", func := "loop.example/g01296/laws.FnExactNetOfCut", spec := "fnExactNetOfCut", unfollowed := true, recurses := true, apart := false }
def FnExactNetOfCutSaid : Prop := fnExactNetOfCutRow.holds Try.pinned (OpenSpec.ofChange fnExactNetOfCutSpec)

/-- ITS FALSE NEIGHBOUR: 'it returns false'. Refute it at one input. -/
def fnExactNetOfCutWrong : ChangeSpec := { name := "fnExactNetOfCut", fn := fun _ => fun
  | [d] => { results := [.lit (.bool false)], args := [d] }
  | _ => none }
def FnExactNetOfCutWrongFalsely : Prop := fnExactNetOfCutRow.holds Try.pinned (OpenSpec.ofChange fnExactNetOfCutWrong)

/-- 'laws.FnExactLongestLine': WHATEVER THE INPUT: true; the input reads as it did. -/
def fnExactLongestLineSpec : ChangeSpec := { name := "fnExactLongestLine", fn := fun _ => fun
  | [d] => { results := [.lit (.bool true)], args := [d] }
  | _ => none }
def fnExactLongestLineRow : OpenClaim := { program := "ythnjbpabiamkjaa", sum := "5f05b23029b5033f7126bb98c426c12174bf742a4de60a0098fc57116b0b11a6", func := "loop.example/g01296/laws.FnExactLongestLine", spec := "fnExactLongestLine", unfollowed := true, recurses := true, apart := false }
def FnExactLongestLineSaid : Prop := fnExactLongestLineRow.holds Try.pinned (OpenSpec.ofChange fnExactLongestLineSpec)

/-- ITS FALSE NEIGHBOUR: 'it returns false'. Refute it at one input. -/
def fnExactLongestLineWrong : ChangeSpec := { name := "fnExactLongestLine", fn := fun _ => fun
  | [d] => { results := [.lit (.bool false)], args := [d] }
  | _ => none }
def FnExactLongestLineWrongFalsely : Prop := fnExactLongestLineRow.holds Try.pinned (OpenSpec.ofChange fnExactLongestLineWrong)

/-- 'laws.FnExactFirstTurn': WHATEVER THE INPUT: true; the input reads as it did. -/
def fnExactFirstTurnSpec : ChangeSpec := { name := "fnExactFirstTurn", fn := fun _ => fun
  | [d] => { results := [.lit (.bool true)], args := [d] }
  | _ => none }
def fnExactFirstTurnRow : OpenClaim := { program := "ythnjbpabiamkjaa", sum := "5f05b23029b5033f7126bb98c426c12174bf742a4de60a0098fc57116b0b11a6", func := "loop.example/g01296/laws.FnExactFirstTurn", spec := "fnExactFirstTurn", unfollowed := true, recurses := true, apart := false }
def FnExactFirstTurnSaid : Prop := fnExactFirstTurnRow.holds Try.pinned (OpenSpec.ofChange fnExactFirstTurnSpec)

/-- ITS FALSE NEIGHBOUR: 'it returns false'. Refute it at one input. -/
def fnExactFirstTurnWrong : ChangeSpec := { name := "fnExactFirstTurn", fn := fun _ => fun
  | [d] => { results := [.lit (.bool false)], args := [d] }
  | _ => none }
def FnExactFirstTurnWrongFalsely : Prop := fnExactFirstTurnRow.holds Try.pinned (OpenSpec.ofChange fnExactFirstTurnWrong)

/-- 'laws.FnExactIsBalanced': WHATEVER THE INPUT: true; the input reads as it did. -/
def fnExactIsBalancedSpec : ChangeSpec := { name := "fnExactIsBalanced", fn := fun _ => fun
  | [d1, d2] => { results := [.lit (.bool true)], args := [d1, d2] }
  | _ => none }
def fnExactIsBalancedRow : OpenClaim := { program := "ythnjbpabiamkjaa", sum := "5f05b23029b5033f7126bb98c426c12174bf742a4de60a0098fc57116b0b11a6", func := "loop.example/g01296/laws.FnExactIsBalanced", spec := "fnExactIsBalanced", unfollowed := true, recurses := true, apart := false }
def FnExactIsBalancedSaid : Prop := fnExactIsBalancedRow.holds Try.pinned (OpenSpec.ofChange fnExactIsBalancedSpec)

/-- ITS FALSE NEIGHBOUR: 'it returns false'. Refute it at one input. -/
def fnExactIsBalancedWrong : ChangeSpec := { name := "fnExactIsBalanced", fn := fun _ => fun
  | [d1, d2] => { results := [.lit (.bool false)], args := [d1, d2] }
  | _ => none }
def FnExactIsBalancedWrongFalsely : Prop := fnExactIsBalancedRow.holds Try.pinned (OpenSpec.ofChange fnExactIsBalancedWrong)

/-- 'laws.FnExactCutOf': WHATEVER THE INPUT: true; the input reads as it did. -/
def fnExactCutOfSpec : ChangeSpec := { name := "fnExactCutOf", fn := fun _ => fun
  | [d1, d2, d3] => { results := [.lit (.bool true)], args := [d1, d2, d3] }
  | _ => none }
def fnExactCutOfRow : OpenClaim := { program := "ythnjbpabiamkjaa", sum := "5f05b23029b5033f7126bb98c426c12174bf742a4de60a0098fc57116b0b11a6", func := "loop.example/g01296/laws.FnExactCutOf", spec := "fnExactCutOf", unfollowed := true, recurses := true, apart := false }
def FnExactCutOfSaid : Prop := fnExactCutOfRow.holds Try.pinned (OpenSpec.ofChange fnExactCutOfSpec)

/-- ITS FALSE NEIGHBOUR: 'it returns false'. Refute it at one input. -/
def fnExactCutOfWrong : ChangeSpec := { name := "fnExactCutOf", fn := fun _ => fun
  | [d1, d2, d3] => { results := [.lit (.bool false)], args := [d1, d2, d3] }
  | _ => none }
def FnExactCutOfWrongFalsely : Prop := fnExactCutOfRow.holds Try.pinned (OpenSpec.ofChange fnExactCutOfWrong)

/-- 'laws.FnExactIsPerfect': WHATEVER THE INPUT: true; the input reads as it did. -/
def fnExactIsPerfectSpec : ChangeSpec := { name := "fnExactIsPerfect", fn := fun _ => fun
  | [d] => { results := [.lit (.bool true)], args := [d] }
  | _ => none }
def fnExactIsPerfectRow : OpenClaim := { program := "ythnjbpabiamkjaa", sum := "5f05b23029b5033f7126bb98c426c12174bf742a4de60a0098fc57116b0b11a6", func := "loop.example/g01296/laws.FnExactIsPerfect", spec := "fnExactIsPerfect", unfollowed := true, recurses := true, apart := false }
def FnExactIsPerfectSaid : Prop := fnExactIsPerfectRow.holds Try.pinned (OpenSpec.ofChange fnExactIsPerfectSpec)

/-- ITS FALSE NEIGHBOUR: 'it returns false'. Refute it at one input. -/
def fnExactIsPerfectWrong : ChangeSpec := { name := "fnExactIsPerfect", fn := fun _ => fun
  | [d] => { results := [.lit (.bool false)], args := [d] }
  | _ => none }
def FnExactIsPerfectWrongFalsely : Prop := fnExactIsPerfectRow.holds Try.pinned (OpenSpec.ofChange fnExactIsPerfectWrong)

/-- 'laws.FnExactCutOfSides': WHATEVER THE INPUT: true; the input reads as it did. -/
def fnExactCutOfSidesSpec : ChangeSpec := { name := "fnExactCutOfSides", fn := fun _ => fun
  | [d1, d2] => { results := [.lit (.bool true)], args := [d1, d2] }
  | _ => none }
def fnExactCutOfSidesRow : OpenClaim := { program := "ythnjbpabiamkjaa", sum := "5f05b23029b5033f7126bb98c426c12174bf742a4de60a0098fc57116b0b11a6", func := "loop.example/g01296/laws.FnExactCutOfSides", spec := "fnExactCutOfSides", unfollowed := true, recurses := true, apart := false }
def FnExactCutOfSidesSaid : Prop := fnExactCutOfSidesRow.holds Try.pinned (OpenSpec.ofChange fnExactCutOfSidesSpec)

/-- ITS FALSE NEIGHBOUR: 'it returns false'. Refute it at one input. -/
def fnExactCutOfSidesWrong : ChangeSpec := { name := "fnExactCutOfSides", fn := fun _ => fun
  | [d1, d2] => { results := [.lit (.bool false)], args := [d1, d2] }
  | _ => none }
def FnExactCutOfSidesWrongFalsely : Prop := fnExactCutOfSidesRow.holds Try.pinned (OpenSpec.ofChange fnExactCutOfSidesWrong)

/- THE SECOND FORM. 'bulk': how many values and letters a reading holds, each counted each time it is reached (what is shared counts as often as it is met; a slice's spare places count too). A statement '..UptoSaid' is the law's where the arguments, and the package variables that the reading takes, are together of bulk at most 1048576: NARROWER than '..Said'. Prove '..Said' where nothing that the law and all that it calls make is longer than what came in: it says more and counts as full. Else prove '..UptoSaid'. A law counts once. -/
mutual
def uptoBulk {H : Type} : DataW H → Nat
  | .lit (.string bytes) => bytes.length + 1
  | .lit _ => 1
  | .nil => 1
  | .ptr d => uptoBulk d + 1
  | .slice elems spare => uptoBulkAll elems + uptoBulkAll spare + 1
  | .agg parts => uptoBulkAll parts + 1
  | .iface _ d => uptoBulk d + 1
  | .map entries => uptoBulkEntries entries + 1
  | .held _ => 1
def uptoBulkAll {H : Type} : List (DataW H) → Nat
  | [] => 0
  | d :: r => uptoBulk d + uptoBulkAll r
def uptoBulkEntries {H : Type} : List (Lit × DataW H) → Nat
  | [] => 0
  | x :: r => uptoBulkEntry x + uptoBulkEntries r
def uptoBulkEntry {H : Type} : Lit × DataW H → Nat
  | (.string bytes, d) => bytes.length + uptoBulk d + 1
  | (_, d) => uptoBulk d + 1
 end
def uptoSmall : (H : Type) → List (DataW H) → Bool := fun _ ds => decide (uptoBulkAll ds ≤ 1048576)
def OpenSpec.upto (s : _root_.Go.ChangeSpec) : _root_.Go.OpenSpec := { _root_.Go.OpenSpec.ofChange s with cond := some uptoSmall }

/-- 'laws.FnExactCodeOf', WHERE WHAT IT READS IS OF BULK AT MOST 1048576: true; the input reads as it did. -/
def fnExactCodeOfUptoRow : OpenClaim := { program := "ythnjbpabiamkjaa", sum := "5f05b23029b5033f7126bb98c426c12174bf742a4de60a0098fc57116b0b11a6", func := "loop.example/g01296/laws.FnExactCodeOf", spec := "fnExactCodeOf", unfollowed := true, recurses := true, apart := false, narrowed := true }
def FnExactCodeOfUptoSaid : Prop := fnExactCodeOfUptoRow.holds Try.pinned (OpenSpec.upto fnExactCodeOfSpec)

/-- 'laws.FnExactCrossesOf', WHERE WHAT IT READS IS OF BULK AT MOST 1048576: true; the input reads as it did. -/
def fnExactCrossesOfUptoRow : OpenClaim := { program := "ythnjbpabiamkjaa", sum := "5f05b23029b5033f7126bb98c426c12174bf742a4de60a0098fc57116b0b11a6", func := "loop.example/g01296/laws.FnExactCrossesOf", spec := "fnExactCrossesOf", unfollowed := true, recurses := true, apart := false, narrowed := true }
def FnExactCrossesOfUptoSaid : Prop := fnExactCrossesOfUptoRow.holds Try.pinned (OpenSpec.upto fnExactCrossesOfSpec)

/-- 'laws.FnExactLinesOf', WHERE WHAT IT READS IS OF BULK AT MOST 1048576: true; the input reads as it did. -/
def fnExactLinesOfUptoRow : OpenClaim := { program := "ythnjbpabiamkjaa", sum := "5f05b23029b5033f7126bb98c426c12174bf742a4de60a0098fc57116b0b11a6", func := "loop.example/g01296/laws.FnExactLinesOf", spec := "fnExactLinesOf", unfollowed := true, recurses := true, apart := false, narrowed := true }
def FnExactLinesOfUptoSaid : Prop := fnExactLinesOfUptoRow.holds Try.pinned (OpenSpec.upto fnExactLinesOfSpec)

/-- 'laws.FnExactNetOfCut', WHERE WHAT IT READS IS OF BULK AT MOST 1048576: true; the input reads as it did. -/
def fnExactNetOfCutUptoRow : OpenClaim := { program := "ythnjbpabiamkjaa", sum := "5f05b23029b5033f7126bb98c426c12174bf742a4de60a0098fc57116b0b11a6", func := "loop.example/g01296/laws.FnExactNetOfCut", spec := "fnExactNetOfCut", unfollowed := true, recurses := true, apart := false, narrowed := true }
def FnExactNetOfCutUptoSaid : Prop := fnExactNetOfCutUptoRow.holds Try.pinned (OpenSpec.upto fnExactNetOfCutSpec)

/-- 'laws.FnExactLongestLine', WHERE WHAT IT READS IS OF BULK AT MOST 1048576: true; the input reads as it did. -/
def fnExactLongestLineUptoRow : OpenClaim := { program := "ythnjbpabiamkjaa", sum := "5f05b23029b5033f7126bb98c426c12174bf742a4de60a0098fc57116b0b11a6", func := "loop.example/g01296/laws.FnExactLongestLine", spec := "fnExactLongestLine", unfollowed := true, recurses := true, apart := false, narrowed := true }
def FnExactLongestLineUptoSaid : Prop := fnExactLongestLineUptoRow.holds Try.pinned (OpenSpec.upto fnExactLongestLineSpec)

/-- 'laws.FnExactFirstTurn', WHERE WHAT IT READS IS OF BULK AT MOST 1048576: true; the input reads as it did. -/
def fnExactFirstTurnUptoRow : OpenClaim := { program := "ythnjbpabiamkjaa", sum := "5f05b23029b5033f7126bb98c426c12174bf742a4de60a0098fc57116b0b11a6", func := "loop.example/g01296/laws.FnExactFirstTurn", spec := "fnExactFirstTurn", unfollowed := true, recurses := true, apart := false, narrowed := true }
def FnExactFirstTurnUptoSaid : Prop := fnExactFirstTurnUptoRow.holds Try.pinned (OpenSpec.upto fnExactFirstTurnSpec)

/-- 'laws.FnExactIsBalanced', WHERE WHAT IT READS IS OF BULK AT MOST 1048576: true; the input reads as it did. -/
def fnExactIsBalancedUptoRow : OpenClaim := { program := "ythnjbpabiamkjaa", sum := "5f05b23029b5033f7126bb98c426c12174bf742a4de60a0098fc57116b0b11a6", func := "loop.example/g01296/laws.FnExactIsBalanced", spec := "fnExactIsBalanced", unfollowed := true, recurses := true, apart := false, narrowed := true }
def FnExactIsBalancedUptoSaid : Prop := fnExactIsBalancedUptoRow.holds Try.pinned (OpenSpec.upto fnExactIsBalancedSpec)

/-- 'laws.FnExactCutOf', WHERE WHAT IT READS IS OF BULK AT MOST 1048576: true; the input reads as it did. -/
def fnExactCutOfUptoRow : OpenClaim := { program := "ythnjbpabiamkjaa", sum := "5f05b23029b5033f7126bb98c426c12174bf742a4de60a0098fc57116b0b11a6", func := "loop.example/g01296/laws.FnExactCutOf", spec := "fnExactCutOf", unfollowed := true, recurses := true, apart := false, narrowed := true }
def FnExactCutOfUptoSaid : Prop := fnExactCutOfUptoRow.holds Try.pinned (OpenSpec.upto fnExactCutOfSpec)

/-- 'laws.FnExactIsPerfect', WHERE WHAT IT READS IS OF BULK AT MOST 1048576: true; the input reads as it did. -/
def fnExactIsPerfectUptoRow : OpenClaim := { program := "ythnjbpabiamkjaa", sum := "5f05b23029b5033f7126bb98c426c12174bf742a4de60a0098fc57116b0b11a6", func := "loop.example/g01296/laws.FnExactIsPerfect", spec := "fnExactIsPerfect", unfollowed := true, recurses := true, apart := false, narrowed := true }
def FnExactIsPerfectUptoSaid : Prop := fnExactIsPerfectUptoRow.holds Try.pinned (OpenSpec.upto fnExactIsPerfectSpec)

/-- 'laws.FnExactCutOfSides', WHERE WHAT IT READS IS OF BULK AT MOST 1048576: true; the input reads as it did. -/
def fnExactCutOfSidesUptoRow : OpenClaim := { program := "ythnjbpabiamkjaa", sum := "5f05b23029b5033f7126bb98c426c12174bf742a4de60a0098fc57116b0b11a6", func := "loop.example/g01296/laws.FnExactCutOfSides", spec := "fnExactCutOfSides", unfollowed := true, recurses := true, apart := false, narrowed := true }
def FnExactCutOfSidesUptoSaid : Prop := fnExactCutOfSidesUptoRow.holds Try.pinned (OpenSpec.upto fnExactCutOfSidesSpec)

end Rows
end Go.Proofs.Ythnjbpabiamkjaa
