/-
  No cell of these rows narrows 'for every input' (looked for: loops, veiled, ifaces, maps, wideKeys, modest, calm, conditions, laid).
  DERIVED. THE GIVEN ROWS OF THIS SEAT. 11 by the template 'for every input the law returns true; each argument reads behind the call as it read before'; 0 by the template 'total and deterministic' (their statements: YtfkplibnbljfcaaTotals.lean).
  GIVEN WITH THE SEED: the statements are not yours to turn. If you find one false, say at which input.
  Laid BY PROGRAM, IN A SANDBOX (cutbox-rows.mjs): the forced cells as the released guide's own fill.sh prints them over the translation 89de8b3556abfa51… (all of the seat's roots in one cut). By AI agents, Wed Nov 11 2026. No macro, syntax, notation, axiom, sorry.
-/
import Derived.Test.YtfkplibnbljfcaaChecked
import GoSem.Claim
import GoSem.ClaimJoined
import GoSem.ClaimMapViews
import Derived.JoinedTies
import Derived.KernelRfl
namespace Go.Proofs.Ytfkplibnbljfcaa
/- THE CELL 'sum', in the pinned program and in every row, IS THE sha256 OF THE DUMP (.gsa) THAT YtfkplibnbljfcaaProg.lean LOADS. Nothing in Lean hashes anything: it is a label: what it is worth is what the hold of that sum in a sandbox is worth. -/
noncomputable def Try.pinned : Pinned := { name := "ytfkplibnbljfcaa", sum := "89de8b3556abfa5133ea0692481763abad57a140fadfcf08e76f20b2cb063bc4", checked := Try.checked }
namespace Rows
def none {H : Type} : Left H := { results := [], args := [] }

/-- 'laws.FnExactSquaresBeside': WHATEVER THE INPUT: true; the input reads as it did. -/
def fnExactSquaresBesideSpec : ChangeSpec := { name := "fnExactSquaresBeside", fn := fun _ => fun
  | [d1, d2] => { results := [.lit (.bool true)], args := [d1, d2] }
  | _ => none }
def fnExactSquaresBesideRow : OpenClaim := { program := "ytfkplibnbljfcaa", sum := "89de8b3556abfa5133ea0692481763abad57a140fadfcf08e76f20b2cb063bc4", func := "loop.example/g01296/laws.FnExactSquaresBeside", spec := "fnExactSquaresBeside", unfollowed := true, recurses := true, apart := false }
def FnExactSquaresBesideSaid : Prop := fnExactSquaresBesideRow.holds Try.pinned (OpenSpec.ofChange fnExactSquaresBesideSpec)

/-- ITS FALSE NEIGHBOUR: 'it returns false'. Refute it at one input. -/
def fnExactSquaresBesideWrong : ChangeSpec := { name := "fnExactSquaresBeside", fn := fun _ => fun
  | [d1, d2] => { results := [.lit (.bool false)], args := [d1, d2] }
  | _ => none }
def FnExactSquaresBesideWrongFalsely : Prop := fnExactSquaresBesideRow.holds Try.pinned (OpenSpec.ofChange fnExactSquaresBesideWrong)

/-- 'laws.FnExactLevelsOf': WHATEVER THE INPUT: true; the input reads as it did. -/
def fnExactLevelsOfSpec : ChangeSpec := { name := "fnExactLevelsOf", fn := fun _ => fun
  | [d] => { results := [.lit (.bool true)], args := [d] }
  | _ => none }
def fnExactLevelsOfRow : OpenClaim := { program := "ytfkplibnbljfcaa", sum := "89de8b3556abfa5133ea0692481763abad57a140fadfcf08e76f20b2cb063bc4", func := "loop.example/g01296/laws.FnExactLevelsOf", spec := "fnExactLevelsOf", unfollowed := true, recurses := true, apart := false }
def FnExactLevelsOfSaid : Prop := fnExactLevelsOfRow.holds Try.pinned (OpenSpec.ofChange fnExactLevelsOfSpec)

/-- ITS FALSE NEIGHBOUR: 'it returns false'. Refute it at one input. -/
def fnExactLevelsOfWrong : ChangeSpec := { name := "fnExactLevelsOf", fn := fun _ => fun
  | [d] => { results := [.lit (.bool false)], args := [d] }
  | _ => none }
def FnExactLevelsOfWrongFalsely : Prop := fnExactLevelsOfRow.holds Try.pinned (OpenSpec.ofChange fnExactLevelsOfWrong)

/-- 'laws.FnExactIsBalanced': WHATEVER THE INPUT: true; the input reads as it did. -/
def fnExactIsBalancedSpec : ChangeSpec := { name := "fnExactIsBalanced", fn := fun _ => fun
  | [d1, d2] => { results := [.lit (.bool true)], args := [d1, d2] }
  | _ => none }
def fnExactIsBalancedRow : OpenClaim := { program := "ytfkplibnbljfcaa", sum := "89de8b3556abfa5133ea0692481763abad57a140fadfcf08e76f20b2cb063bc4", func := "loop.example/g01296/laws.FnExactIsBalanced", spec := "fnExactIsBalanced", unfollowed := true, recurses := true, apart := false }
def FnExactIsBalancedSaid : Prop := fnExactIsBalancedRow.holds Try.pinned (OpenSpec.ofChange fnExactIsBalancedSpec)

/-- ITS FALSE NEIGHBOUR: 'it returns false'. Refute it at one input. -/
def fnExactIsBalancedWrong : ChangeSpec := { name := "fnExactIsBalanced", fn := fun _ => fun
  | [d1, d2] => { results := [.lit (.bool false)], args := [d1, d2] }
  | _ => none }
def FnExactIsBalancedWrongFalsely : Prop := fnExactIsBalancedRow.holds Try.pinned (OpenSpec.ofChange fnExactIsBalancedWrong)

/-- 'laws.FnExactCodeOf': WHATEVER THE INPUT: true; the input reads as it did. -/
def fnExactCodeOfSpec : ChangeSpec := { name := "fnExactCodeOf", fn := fun _ => fun
  | [d] => { results := [.lit (.bool true)], args := [d] }
  | _ => none }
def fnExactCodeOfRow : OpenClaim := { program := "ytfkplibnbljfcaa", sum := "89de8b3556abfa5133ea0692481763abad57a140fadfcf08e76f20b2cb063bc4", func := "loop.example/g01296/laws.FnExactCodeOf", spec := "fnExactCodeOf", unfollowed := true, recurses := true, apart := false }
def FnExactCodeOfSaid : Prop := fnExactCodeOfRow.holds Try.pinned (OpenSpec.ofChange fnExactCodeOfSpec)

/-- ITS FALSE NEIGHBOUR: 'it returns false'. Refute it at one input. -/
def fnExactCodeOfWrong : ChangeSpec := { name := "fnExactCodeOf", fn := fun _ => fun
  | [d] => { results := [.lit (.bool false)], args := [d] }
  | _ => none }
def FnExactCodeOfWrongFalsely : Prop := fnExactCodeOfRow.holds Try.pinned (OpenSpec.ofChange fnExactCodeOfWrong)

/-- 'laws.FnExactTreesOf': WHATEVER THE INPUT: true; the input reads as it did. -/
def fnExactTreesOfSpec : ChangeSpec := { name := "fnExactTreesOf", fn := fun _ => fun
  | [d] => { results := [.lit (.bool true)], args := [d] }
  | _ => none }
def fnExactTreesOfRow : OpenClaim := { program := "ytfkplibnbljfcaa", sum := "89de8b3556abfa5133ea0692481763abad57a140fadfcf08e76f20b2cb063bc4", func := "loop.example/g01296/laws.FnExactTreesOf", spec := "fnExactTreesOf", apart := false }
def FnExactTreesOfSaid : Prop := fnExactTreesOfRow.holds Try.pinned (OpenSpec.ofChange fnExactTreesOfSpec)

/-- ITS FALSE NEIGHBOUR: 'it returns false'. Refute it at one input. -/
def fnExactTreesOfWrong : ChangeSpec := { name := "fnExactTreesOf", fn := fun _ => fun
  | [d] => { results := [.lit (.bool false)], args := [d] }
  | _ => none }
def FnExactTreesOfWrongFalsely : Prop := fnExactTreesOfRow.holds Try.pinned (OpenSpec.ofChange fnExactTreesOfWrong)

/-- 'laws.FnExactCrossesOf': WHATEVER THE INPUT: true; the input reads as it did. -/
def fnExactCrossesOfSpec : ChangeSpec := { name := "fnExactCrossesOf", fn := fun _ => fun
  | [d] => { results := [.lit (.bool true)], args := [d] }
  | _ => none }
def fnExactCrossesOfRow : OpenClaim := { program := "ytfkplibnbljfcaa", sum := "89de8b3556abfa5133ea0692481763abad57a140fadfcf08e76f20b2cb063bc4", func := "loop.example/g01296/laws.FnExactCrossesOf", spec := "fnExactCrossesOf", unfollowed := true, recurses := true, apart := false }
def FnExactCrossesOfSaid : Prop := fnExactCrossesOfRow.holds Try.pinned (OpenSpec.ofChange fnExactCrossesOfSpec)

/-- ITS FALSE NEIGHBOUR: 'it returns false'. Refute it at one input. -/
def fnExactCrossesOfWrong : ChangeSpec := { name := "fnExactCrossesOf", fn := fun _ => fun
  | [d] => { results := [.lit (.bool false)], args := [d] }
  | _ => none }
def FnExactCrossesOfWrongFalsely : Prop := fnExactCrossesOfRow.holds Try.pinned (OpenSpec.ofChange fnExactCrossesOfWrong)

/-- 'laws.FnExactLinesOf': WHATEVER THE INPUT: true; the input reads as it did. -/
def fnExactLinesOfSpec : ChangeSpec := { name := "fnExactLinesOf", fn := fun _ => fun
  | [d] => { results := [.lit (.bool true)], args := [d] }
  | _ => none }
def fnExactLinesOfRow : OpenClaim := { program := "ytfkplibnbljfcaa", sum := "89de8b3556abfa5133ea0692481763abad57a140fadfcf08e76f20b2cb063bc4", func := "loop.example/g01296/laws.FnExactLinesOf", spec := "fnExactLinesOf", unfollowed := true, recurses := true, apart := false }
def FnExactLinesOfSaid : Prop := fnExactLinesOfRow.holds Try.pinned (OpenSpec.ofChange fnExactLinesOfSpec)

/-- ITS FALSE NEIGHBOUR: 'it returns false'. Refute it at one input. -/
def fnExactLinesOfWrong : ChangeSpec := { name := "fnExactLinesOf", fn := fun _ => fun
  | [d] => { results := [.lit (.bool false)], args := [d] }
  | _ => none }
def FnExactLinesOfWrongFalsely : Prop := fnExactLinesOfRow.holds Try.pinned (OpenSpec.ofChange fnExactLinesOfWrong)

/-- 'laws.FnExactJoinedTrees': WHATEVER THE INPUT: true; the input reads as it did. -/
def fnExactJoinedTreesSpec : ChangeSpec := { name := "fnExactJoinedTrees", fn := fun _ => fun
  | [d] => { results := [.lit (.bool true)], args := [d] }
  | _ => none }
def fnExactJoinedTreesRow : OpenClaim := { program := "ytfkplibnbljfcaa", sum := "89de8b3556abfa5133ea0692481763abad57a140fadfcf08e76f20b2cb063bc4", func := "loop.example/g01296/laws.FnExactJoinedTrees", spec := "fnExactJoinedTrees", apart := false }
def FnExactJoinedTreesSaid : Prop := fnExactJoinedTreesRow.holds Try.pinned (OpenSpec.ofChange fnExactJoinedTreesSpec)

/-- ITS FALSE NEIGHBOUR: 'it returns false'. Refute it at one input. -/
def fnExactJoinedTreesWrong : ChangeSpec := { name := "fnExactJoinedTrees", fn := fun _ => fun
  | [d] => { results := [.lit (.bool false)], args := [d] }
  | _ => none }
def FnExactJoinedTreesWrongFalsely : Prop := fnExactJoinedTreesRow.holds Try.pinned (OpenSpec.ofChange fnExactJoinedTreesWrong)

/-- 'laws.FnExactOneSquare': WHATEVER THE INPUT: true; the input reads as it did. -/
def fnExactOneSquareSpec : ChangeSpec := { name := "fnExactOneSquare", fn := fun _ => fun
  | [d] => { results := [.lit (.bool true)], args := [d] }
  | _ => none }
def fnExactOneSquareRow : OpenClaim := { program := "ytfkplibnbljfcaa", sum := "89de8b3556abfa5133ea0692481763abad57a140fadfcf08e76f20b2cb063bc4", func := "loop.example/g01296/laws.FnExactOneSquare", spec := "fnExactOneSquare", unfollowed := true, recurses := true, apart := false }
def FnExactOneSquareSaid : Prop := fnExactOneSquareRow.holds Try.pinned (OpenSpec.ofChange fnExactOneSquareSpec)

/-- ITS FALSE NEIGHBOUR: 'it returns false'. Refute it at one input. -/
def fnExactOneSquareWrong : ChangeSpec := { name := "fnExactOneSquare", fn := fun _ => fun
  | [d] => { results := [.lit (.bool false)], args := [d] }
  | _ => none }
def FnExactOneSquareWrongFalsely : Prop := fnExactOneSquareRow.holds Try.pinned (OpenSpec.ofChange fnExactOneSquareWrong)

/-- 'laws.FnExactRatioOfNet': WHATEVER THE INPUT: true; the input reads as it did. -/
def fnExactRatioOfNetSpec : ChangeSpec := { name := "fnExactRatioOfNet", fn := fun _ => fun
  | [d] => { results := [.lit (.bool true)], args := [d] }
  | _ => none }
def fnExactRatioOfNetRow : OpenClaim := { program := "ytfkplibnbljfcaa", sum := "89de8b3556abfa5133ea0692481763abad57a140fadfcf08e76f20b2cb063bc4", func := "loop.example/g01296/laws.FnExactRatioOfNet", spec := "fnExactRatioOfNet", apart := false }
def FnExactRatioOfNetSaid : Prop := fnExactRatioOfNetRow.holds Try.pinned (OpenSpec.ofChange fnExactRatioOfNetSpec)

/-- ITS FALSE NEIGHBOUR: 'it returns false'. Refute it at one input. -/
def fnExactRatioOfNetWrong : ChangeSpec := { name := "fnExactRatioOfNet", fn := fun _ => fun
  | [d] => { results := [.lit (.bool false)], args := [d] }
  | _ => none }
def FnExactRatioOfNetWrongFalsely : Prop := fnExactRatioOfNetRow.holds Try.pinned (OpenSpec.ofChange fnExactRatioOfNetWrong)

/-- 'laws.FnExactPotentialsOf': WHATEVER THE INPUT: true; the input reads as it did. -/
def fnExactPotentialsOfSpec : ChangeSpec := { name := "fnExactPotentialsOf", fn := fun _ => fun
  | [d] => { results := [.lit (.bool true)], args := [d] }
  | _ => none }
def fnExactPotentialsOfRow : OpenClaim := { program := "ytfkplibnbljfcaa", sum := "89de8b3556abfa5133ea0692481763abad57a140fadfcf08e76f20b2cb063bc4", func := "loop.example/g01296/laws.FnExactPotentialsOf", spec := "fnExactPotentialsOf", apart := false }
def FnExactPotentialsOfSaid : Prop := fnExactPotentialsOfRow.holds Try.pinned (OpenSpec.ofChange fnExactPotentialsOfSpec)

/-- ITS FALSE NEIGHBOUR: 'it returns false'. Refute it at one input. -/
def fnExactPotentialsOfWrong : ChangeSpec := { name := "fnExactPotentialsOf", fn := fun _ => fun
  | [d] => { results := [.lit (.bool false)], args := [d] }
  | _ => none }
def FnExactPotentialsOfWrongFalsely : Prop := fnExactPotentialsOfRow.holds Try.pinned (OpenSpec.ofChange fnExactPotentialsOfWrong)

/- THE SECOND FORM. 'bulk': how many values and letters a reading holds, each counted each time it is reached (what is shared counts as often as it is met; a slice's spare places count too). A statement '..UptoSaid' is the law's where the arguments, and the package variables that the reading takes, are together of bulk at most 1048576: NARROWER than '..Said'. Prove '..Said' where nothing that the law and all that it calls make is longer than what came in: it says more and counts as full. Else prove '..UptoSaid'. A law counts once. -/
mutual
def uptoBulk {H : Type} : DataW H → Nat
  | .lit (.string bytes) => bytes.length + 1
  | .lit _ => 1
  | .nil => 1
  | .ptr d => uptoBulk d + 1
  | .slice elems spare => uptoBulkAll elems + uptoBulkAll spare + 1
  | .agg parts => uptoBulkAll parts + 1
  | .iface _ d => uptoBulk d + 1
  | .map entries => uptoBulkEntries entries + 1
  | .held _ => 1
def uptoBulkAll {H : Type} : List (DataW H) → Nat
  | [] => 0
  | d :: r => uptoBulk d + uptoBulkAll r
def uptoBulkEntries {H : Type} : List (Lit × DataW H) → Nat
  | [] => 0
  | x :: r => uptoBulkEntry x + uptoBulkEntries r
def uptoBulkEntry {H : Type} : Lit × DataW H → Nat
  | (.string bytes, d) => bytes.length + uptoBulk d + 1
  | (_, d) => uptoBulk d + 1
 end
def uptoSmall : (H : Type) → List (DataW H) → Bool := fun _ ds => decide (uptoBulkAll ds ≤ 1048576)
def OpenSpec.upto (s : _root_.Go.ChangeSpec) : _root_.Go.OpenSpec := { _root_.Go.OpenSpec.ofChange s with cond := some uptoSmall }

/-- 'laws.FnExactSquaresBeside', WHERE WHAT IT READS IS OF BULK AT MOST 1048576: true; the input reads as it did. -/
def fnExactSquaresBesideUptoRow : OpenClaim := { program := "ytfkplibnbljfcaa", sum := "89de8b3556abfa5133ea0692481763abad57a140fadfcf08e76f20b2cb063bc4", func := "loop.example/g01296/laws.FnExactSquaresBeside", spec := "fnExactSquaresBeside", unfollowed := true, recurses := true, apart := false, narrowed := true }
def FnExactSquaresBesideUptoSaid : Prop := fnExactSquaresBesideUptoRow.holds Try.pinned (OpenSpec.upto fnExactSquaresBesideSpec)

/-- 'laws.FnExactLevelsOf', WHERE WHAT IT READS IS OF BULK AT MOST 1048576: true; the input reads as it did. -/
def fnExactLevelsOfUptoRow : OpenClaim := { program := "ytfkplibnbljfcaa", sum := "89de8b3556abfa5133ea0692481763abad57a140fadfcf08e76f20b2cb063bc4", func := "loop.example/g01296/laws.FnExactLevelsOf", spec := "fnExactLevelsOf", unfollowed := true, recurses := true, apart := false, narrowed := true }
def FnExactLevelsOfUptoSaid : Prop := fnExactLevelsOfUptoRow.holds Try.pinned (OpenSpec.upto fnExactLevelsOfSpec)

/-- 'laws.FnExactIsBalanced', WHERE WHAT IT READS IS OF BULK AT MOST 1048576: true; the input reads as it did. -/
def fnExactIsBalancedUptoRow : OpenClaim := { program := "ytfkplibnbljfcaa", sum := "89de8b3556abfa5133ea0692481763abad57a140fadfcf08e76f20b2cb063bc4", func := "loop.example/g01296/laws.FnExactIsBalanced", spec := "fnExactIsBalanced", unfollowed := true, recurses := true, apart := false, narrowed := true }
def FnExactIsBalancedUptoSaid : Prop := fnExactIsBalancedUptoRow.holds Try.pinned (OpenSpec.upto fnExactIsBalancedSpec)

/-- 'laws.FnExactCodeOf', WHERE WHAT IT READS IS OF BULK AT MOST 1048576: true; the input reads as it did. -/
def fnExactCodeOfUptoRow : OpenClaim := { program := "ytfkplibnbljfcaa", sum := "89de8b3556abfa5133ea0692481763abad57a140fadfcf08e76f20b2cb063bc4", func := "loop.example/g01296/laws.FnExactCodeOf", spec := "fnExactCodeOf", unfollowed := true, recurses := true, apart := false, narrowed := true }
def FnExactCodeOfUptoSaid : Prop := fnExactCodeOfUptoRow.holds Try.pinned (OpenSpec.upto fnExactCodeOfSpec)

/-- 'laws.FnExactTreesOf', WHERE WHAT IT READS IS OF BULK AT MOST 1048576: true; the input reads as it did. -/
def fnExactTreesOfUptoRow : OpenClaim := { program := "ytfkplibnbljfcaa", sum := "89de8b3556abfa5133ea0692481763abad57a140fadfcf08e76f20b2cb063bc4", func := "loop.example/g01296/laws.FnExactTreesOf", spec := "fnExactTreesOf", apart := false, narrowed := true }
def FnExactTreesOfUptoSaid : Prop := fnExactTreesOfUptoRow.holds Try.pinned (OpenSpec.upto fnExactTreesOfSpec)

/-- 'laws.FnExactCrossesOf', WHERE WHAT IT READS IS OF BULK AT MOST 1048576: true; the input reads as it did. -/
def fnExactCrossesOfUptoRow : OpenClaim := { program := "ytfkplibnbljfcaa", sum := "89de8b3556abfa5133ea0692481763abad57a140fadfcf08e76f20b2cb063bc4", func := "loop.example/g01296/laws.FnExactCrossesOf", spec := "fnExactCrossesOf", unfollowed := true, recurses := true, apart := false, narrowed := true }
def FnExactCrossesOfUptoSaid : Prop := fnExactCrossesOfUptoRow.holds Try.pinned (OpenSpec.upto fnExactCrossesOfSpec)

/-- 'laws.FnExactLinesOf', WHERE WHAT IT READS IS OF BULK AT MOST 1048576: true; the input reads as it did. -/
def fnExactLinesOfUptoRow : OpenClaim := { program := "ytfkplibnbljfcaa", sum := "89de8b3556abfa5133ea0692481763abad57a140fadfcf08e76f20b2cb063bc4", func := "loop.example/g01296/laws.FnExactLinesOf", spec := "fnExactLinesOf", unfollowed := true, recurses := true, apart := false, narrowed := true }
def FnExactLinesOfUptoSaid : Prop := fnExactLinesOfUptoRow.holds Try.pinned (OpenSpec.upto fnExactLinesOfSpec)

/-- 'laws.FnExactJoinedTrees', WHERE WHAT IT READS IS OF BULK AT MOST 1048576: true; the input reads as it did. -/
def fnExactJoinedTreesUptoRow : OpenClaim := { program := "ytfkplibnbljfcaa", sum := "89de8b3556abfa5133ea0692481763abad57a140fadfcf08e76f20b2cb063bc4", func := "loop.example/g01296/laws.FnExactJoinedTrees", spec := "fnExactJoinedTrees", apart := false, narrowed := true }
def FnExactJoinedTreesUptoSaid : Prop := fnExactJoinedTreesUptoRow.holds Try.pinned (OpenSpec.upto fnExactJoinedTreesSpec)

/-- 'laws.FnExactOneSquare', WHERE WHAT IT READS IS OF BULK AT MOST 1048576: true; the input reads as it did. -/
def fnExactOneSquareUptoRow : OpenClaim := { program := "ytfkplibnbljfcaa", sum := "89de8b3556abfa5133ea0692481763abad57a140fadfcf08e76f20b2cb063bc4", func := "loop.example/g01296/laws.FnExactOneSquare", spec := "fnExactOneSquare", unfollowed := true, recurses := true, apart := false, narrowed := true }
def FnExactOneSquareUptoSaid : Prop := fnExactOneSquareUptoRow.holds Try.pinned (OpenSpec.upto fnExactOneSquareSpec)

/-- 'laws.FnExactRatioOfNet', WHERE WHAT IT READS IS OF BULK AT MOST 1048576: true; the input reads as it did. -/
def fnExactRatioOfNetUptoRow : OpenClaim := { program := "ytfkplibnbljfcaa", sum := "89de8b3556abfa5133ea0692481763abad57a140fadfcf08e76f20b2cb063bc4", func := "loop.example/g01296/laws.FnExactRatioOfNet", spec := "fnExactRatioOfNet", apart := false, narrowed := true }
def FnExactRatioOfNetUptoSaid : Prop := fnExactRatioOfNetUptoRow.holds Try.pinned (OpenSpec.upto fnExactRatioOfNetSpec)

/-- 'laws.FnExactPotentialsOf', WHERE WHAT IT READS IS OF BULK AT MOST 1048576: true; the input reads as it did. -/
def fnExactPotentialsOfUptoRow : OpenClaim := { program := "ytfkplibnbljfcaa", sum := "89de8b3556abfa5133ea0692481763abad57a140fadfcf08e76f20b2cb063bc4", func := "loop.example/g01296/laws.FnExactPotentialsOf", spec := "fnExactPotentialsOf", apart := false, narrowed := true }
def FnExactPotentialsOfUptoSaid : Prop := fnExactPotentialsOfUptoRow.holds Try.pinned (OpenSpec.upto fnExactPotentialsOfSpec)

end Rows
end Go.Proofs.Ytfkplibnbljfcaa
