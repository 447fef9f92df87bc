/-
  No cell of these rows narrows 'for every input' (looked for: loops, veiled, ifaces, maps, wideKeys, modest, calm, conditions, laid).
  DERIVED. THE GIVEN ROWS OF THIS SEAT. 10 by the template 'for every input the law returns true; each argument reads behind the call as it read before'; 0 by the template 'total and deterministic' (their statements: YtconglobpdgjhaaTotals.lean).
  GIVEN WITH THE SEED: the statements are not yours to turn. If you find one false, say at which input.
  Laid BY PROGRAM, IN A SANDBOX (cutbox-rows.mjs): the forced cells as the released guide's own fill.sh prints them over the translation 6daf3605024a0cdd… (all of the seat's roots in one cut). By AI agents, Wed Nov 11 2026. No macro, syntax, notation, axiom, sorry.
-/
import Derived.Test.YtconglobpdgjhaaChecked
import GoSem.Claim
import GoSem.ClaimJoined
import GoSem.ClaimMapViews
import Derived.JoinedTies
import Derived.KernelRfl
namespace Go.Proofs.Ytconglobpdgjhaa
/- THE CELL 'sum', in the pinned program and in every row, IS THE sha256 OF THE DUMP (.gsa) THAT YtconglobpdgjhaaProg.lean LOADS. Nothing in Lean hashes anything: it is a label: what it is worth is what the hold of that sum in a sandbox is worth. -/
noncomputable def Try.pinned : Pinned := { name := "ytconglobpdgjhaa", sum := "6daf3605024a0cdd844110929e90fe0bcd2c33fc028bbbbdad302525b83a89be", checked := Try.checked }
namespace Rows
def none {H : Type} : Left H := { results := [], args := [] }

/-- 'laws.FnExactIsCut': WHATEVER THE INPUT: true; the input reads as it did. -/
def fnExactIsCutSpec : ChangeSpec := { name := "fnExactIsCut", fn := fun _ => fun
  | [d] => { results := [.lit (.bool true)], args := [d] }
  | _ => none }
def fnExactIsCutRow : OpenClaim := { program := "ytconglobpdgjhaa", sum := "6daf3605024a0cdd844110929e90fe0bcd2c33fc028bbbbdad302525b83a89be", func := "loop.example/g01296/laws.FnExactIsCut", spec := "fnExactIsCut", unfollowed := true, recurses := true, apart := false }
def FnExactIsCutSaid : Prop := fnExactIsCutRow.holds Try.pinned (OpenSpec.ofChange fnExactIsCutSpec)

/-- ITS FALSE NEIGHBOUR: 'it returns false'. Refute it at one input. -/
def fnExactIsCutWrong : ChangeSpec := { name := "fnExactIsCut", fn := fun _ => fun
  | [d] => { results := [.lit (.bool false)], args := [d] }
  | _ => none }
def FnExactIsCutWrongFalsely : Prop := fnExactIsCutRow.holds Try.pinned (OpenSpec.ofChange fnExactIsCutWrong)

/-- 'laws.FnExactIsNet': WHATEVER THE INPUT: true; the input reads as it did. -/
def fnExactIsNetSpec : ChangeSpec := { name := "fnExactIsNet", fn := fun _ => fun
  | [d] => { results := [.lit (.bool true)], args := [d] }
  | _ => none }
def fnExactIsNetRow : OpenClaim := { program := "ytconglobpdgjhaa", sum := "6daf3605024a0cdd844110929e90fe0bcd2c33fc028bbbbdad302525b83a89be", func := "loop.example/g01296/laws.FnExactIsNet", spec := "fnExactIsNet", apart := false }
def FnExactIsNetSaid : Prop := fnExactIsNetRow.holds Try.pinned (OpenSpec.ofChange fnExactIsNetSpec)

/-- ITS FALSE NEIGHBOUR: 'it returns false'. Refute it at one input. -/
def fnExactIsNetWrong : ChangeSpec := { name := "fnExactIsNet", fn := fun _ => fun
  | [d] => { results := [.lit (.bool false)], args := [d] }
  | _ => none }
def FnExactIsNetWrongFalsely : Prop := fnExactIsNetRow.holds Try.pinned (OpenSpec.ofChange fnExactIsNetWrong)

/-- 'laws.FnExactSquareAt': WHATEVER THE INPUT: true; the input reads as it did. -/
def fnExactSquareAtSpec : ChangeSpec := { name := "fnExactSquareAt", fn := fun _ => fun
  | [d1, d2, d3] => { results := [.lit (.bool true)], args := [d1, d2, d3] }
  | _ => none }
def fnExactSquareAtRow : OpenClaim := { program := "ytconglobpdgjhaa", sum := "6daf3605024a0cdd844110929e90fe0bcd2c33fc028bbbbdad302525b83a89be", func := "loop.example/g01296/laws.FnExactSquareAt", spec := "fnExactSquareAt", unfollowed := true, recurses := true, apart := false }
def FnExactSquareAtSaid : Prop := fnExactSquareAtRow.holds Try.pinned (OpenSpec.ofChange fnExactSquareAtSpec)

/-- ITS FALSE NEIGHBOUR: 'it returns false'. Refute it at one input. -/
def fnExactSquareAtWrong : ChangeSpec := { name := "fnExactSquareAt", fn := fun _ => fun
  | [d1, d2, d3] => { results := [.lit (.bool false)], args := [d1, d2, d3] }
  | _ => none }
def FnExactSquareAtWrongFalsely : Prop := fnExactSquareAtRow.holds Try.pinned (OpenSpec.ofChange fnExactSquareAtWrong)

/-- 'laws.FnExactGroupOfSquare': WHATEVER THE INPUT: true; the input reads as it did. -/
def fnExactGroupOfSquareSpec : ChangeSpec := { name := "fnExactGroupOfSquare", fn := fun _ => fun
  | [d1, d2] => { results := [.lit (.bool true)], args := [d1, d2] }
  | _ => none }
def fnExactGroupOfSquareRow : OpenClaim := { program := "ytconglobpdgjhaa", sum := "6daf3605024a0cdd844110929e90fe0bcd2c33fc028bbbbdad302525b83a89be", func := "loop.example/g01296/laws.FnExactGroupOfSquare", spec := "fnExactGroupOfSquare", unfollowed := true, recurses := true, apart := false }
def FnExactGroupOfSquareSaid : Prop := fnExactGroupOfSquareRow.holds Try.pinned (OpenSpec.ofChange fnExactGroupOfSquareSpec)

/-- ITS FALSE NEIGHBOUR: 'it returns false'. Refute it at one input. -/
def fnExactGroupOfSquareWrong : ChangeSpec := { name := "fnExactGroupOfSquare", fn := fun _ => fun
  | [d1, d2] => { results := [.lit (.bool false)], args := [d1, d2] }
  | _ => none }
def FnExactGroupOfSquareWrongFalsely : Prop := fnExactGroupOfSquareRow.holds Try.pinned (OpenSpec.ofChange fnExactGroupOfSquareWrong)

/-- 'laws.FnExactBackNet': WHATEVER THE INPUT: true; the input reads as it did. -/
def fnExactBackNetSpec : ChangeSpec := { name := "fnExactBackNet", fn := fun _ => fun
  | [d] => { results := [.lit (.bool true)], args := [d] }
  | _ => none }
def fnExactBackNetRow : OpenClaim := { program := "ytconglobpdgjhaa", sum := "6daf3605024a0cdd844110929e90fe0bcd2c33fc028bbbbdad302525b83a89be", func := "loop.example/g01296/laws.FnExactBackNet", spec := "fnExactBackNet", apart := false }
def FnExactBackNetSaid : Prop := fnExactBackNetRow.holds Try.pinned (OpenSpec.ofChange fnExactBackNetSpec)

/-- ITS FALSE NEIGHBOUR: 'it returns false'. Refute it at one input. -/
def fnExactBackNetWrong : ChangeSpec := { name := "fnExactBackNet", fn := fun _ => fun
  | [d] => { results := [.lit (.bool false)], args := [d] }
  | _ => none }
def FnExactBackNetWrongFalsely : Prop := fnExactBackNetRow.holds Try.pinned (OpenSpec.ofChange fnExactBackNetWrong)

/-- 'laws.FnExactAddWire': WHATEVER THE INPUT: true; the input reads as it did. -/
def fnExactAddWireSpec : ChangeSpec := { name := "fnExactAddWire", fn := fun _ => fun
  | [d1, d2] => { results := [.lit (.bool true)], args := [d1, d2] }
  | _ => none }
def fnExactAddWireRow : OpenClaim := { program := "ytconglobpdgjhaa", sum := "6daf3605024a0cdd844110929e90fe0bcd2c33fc028bbbbdad302525b83a89be", func := "loop.example/g01296/laws.FnExactAddWire", spec := "fnExactAddWire", apart := false }
def FnExactAddWireSaid : Prop := fnExactAddWireRow.holds Try.pinned (OpenSpec.ofChange fnExactAddWireSpec)

/-- ITS FALSE NEIGHBOUR: 'it returns false'. Refute it at one input. -/
def fnExactAddWireWrong : ChangeSpec := { name := "fnExactAddWire", fn := fun _ => fun
  | [d1, d2] => { results := [.lit (.bool false)], args := [d1, d2] }
  | _ => none }
def FnExactAddWireWrongFalsely : Prop := fnExactAddWireRow.holds Try.pinned (OpenSpec.ofChange fnExactAddWireWrong)

/-- 'laws.FnExactSidesOf': WHATEVER THE INPUT: true; the input reads as it did. -/
def fnExactSidesOfSpec : ChangeSpec := { name := "fnExactSidesOf", fn := fun _ => fun
  | [d] => { results := [.lit (.bool true)], args := [d] }
  | _ => none }
def fnExactSidesOfRow : OpenClaim := { program := "ytconglobpdgjhaa", sum := "6daf3605024a0cdd844110929e90fe0bcd2c33fc028bbbbdad302525b83a89be", func := "loop.example/g01296/laws.FnExactSidesOf", spec := "fnExactSidesOf", unfollowed := true, recurses := true, apart := false }
def FnExactSidesOfSaid : Prop := fnExactSidesOfRow.holds Try.pinned (OpenSpec.ofChange fnExactSidesOfSpec)

/-- ITS FALSE NEIGHBOUR: 'it returns false'. Refute it at one input. -/
def fnExactSidesOfWrong : ChangeSpec := { name := "fnExactSidesOf", fn := fun _ => fun
  | [d] => { results := [.lit (.bool false)], args := [d] }
  | _ => none }
def FnExactSidesOfWrongFalsely : Prop := fnExactSidesOfRow.holds Try.pinned (OpenSpec.ofChange fnExactSidesOfWrong)

/-- 'laws.FnExactIsFlow': WHATEVER THE INPUT: true; the input reads as it did. -/
def fnExactIsFlowSpec : ChangeSpec := { name := "fnExactIsFlow", fn := fun _ => fun
  | [d1, d2] => { results := [.lit (.bool true)], args := [d1, d2] }
  | _ => none }
def fnExactIsFlowRow : OpenClaim := { program := "ytconglobpdgjhaa", sum := "6daf3605024a0cdd844110929e90fe0bcd2c33fc028bbbbdad302525b83a89be", func := "loop.example/g01296/laws.FnExactIsFlow", spec := "fnExactIsFlow", unfollowed := true, recurses := true, apart := false }
def FnExactIsFlowSaid : Prop := fnExactIsFlowRow.holds Try.pinned (OpenSpec.ofChange fnExactIsFlowSpec)

/-- ITS FALSE NEIGHBOUR: 'it returns false'. Refute it at one input. -/
def fnExactIsFlowWrong : ChangeSpec := { name := "fnExactIsFlow", fn := fun _ => fun
  | [d1, d2] => { results := [.lit (.bool false)], args := [d1, d2] }
  | _ => none }
def FnExactIsFlowWrongFalsely : Prop := fnExactIsFlowRow.holds Try.pinned (OpenSpec.ofChange fnExactIsFlowWrong)

/-- 'laws.FnExactDropWire': WHATEVER THE INPUT: true; the input reads as it did. -/
def fnExactDropWireSpec : ChangeSpec := { name := "fnExactDropWire", fn := fun _ => fun
  | [d1, d2] => { results := [.lit (.bool true)], args := [d1, d2] }
  | _ => none }
def fnExactDropWireRow : OpenClaim := { program := "ytconglobpdgjhaa", sum := "6daf3605024a0cdd844110929e90fe0bcd2c33fc028bbbbdad302525b83a89be", func := "loop.example/g01296/laws.FnExactDropWire", spec := "fnExactDropWire", apart := false }
def FnExactDropWireSaid : Prop := fnExactDropWireRow.holds Try.pinned (OpenSpec.ofChange fnExactDropWireSpec)

/-- ITS FALSE NEIGHBOUR: 'it returns false'. Refute it at one input. -/
def fnExactDropWireWrong : ChangeSpec := { name := "fnExactDropWire", fn := fun _ => fun
  | [d1, d2] => { results := [.lit (.bool false)], args := [d1, d2] }
  | _ => none }
def FnExactDropWireWrongFalsely : Prop := fnExactDropWireRow.holds Try.pinned (OpenSpec.ofChange fnExactDropWireWrong)

/-- 'laws.FnExactSquaresAtEdges': WHATEVER THE INPUT: true; the input reads as it did. -/
def fnExactSquaresAtEdgesSpec : ChangeSpec := { name := "fnExactSquaresAtEdges", fn := fun _ => fun
  | [d] => { results := [.lit (.bool true)], args := [d] }
  | _ => none }
def fnExactSquaresAtEdgesRow : OpenClaim := { program := "ytconglobpdgjhaa", sum := "6daf3605024a0cdd844110929e90fe0bcd2c33fc028bbbbdad302525b83a89be", func := "loop.example/g01296/laws.FnExactSquaresAtEdges", spec := "fnExactSquaresAtEdges", unfollowed := true, recurses := true, apart := false }
def FnExactSquaresAtEdgesSaid : Prop := fnExactSquaresAtEdgesRow.holds Try.pinned (OpenSpec.ofChange fnExactSquaresAtEdgesSpec)

/-- ITS FALSE NEIGHBOUR: 'it returns false'. Refute it at one input. -/
def fnExactSquaresAtEdgesWrong : ChangeSpec := { name := "fnExactSquaresAtEdges", fn := fun _ => fun
  | [d] => { results := [.lit (.bool false)], args := [d] }
  | _ => none }
def FnExactSquaresAtEdgesWrongFalsely : Prop := fnExactSquaresAtEdgesRow.holds Try.pinned (OpenSpec.ofChange fnExactSquaresAtEdgesWrong)

/- THE SECOND FORM. 'bulk': how many values and letters a reading holds, each counted each time it is reached (what is shared counts as often as it is met; a slice's spare places count too). A statement '..UptoSaid' is the law's where the arguments, and the package variables that the reading takes, are together of bulk at most 1048576: NARROWER than '..Said'. Prove '..Said' where nothing that the law and all that it calls make is longer than what came in: it says more and counts as full. Else prove '..UptoSaid'. A law counts once. -/
mutual
def uptoBulk {H : Type} : DataW H → Nat
  | .lit (.string bytes) => bytes.length + 1
  | .lit _ => 1
  | .nil => 1
  | .ptr d => uptoBulk d + 1
  | .slice elems spare => uptoBulkAll elems + uptoBulkAll spare + 1
  | .agg parts => uptoBulkAll parts + 1
  | .iface _ d => uptoBulk d + 1
  | .map entries => uptoBulkEntries entries + 1
  | .held _ => 1
def uptoBulkAll {H : Type} : List (DataW H) → Nat
  | [] => 0
  | d :: r => uptoBulk d + uptoBulkAll r
def uptoBulkEntries {H : Type} : List (Lit × DataW H) → Nat
  | [] => 0
  | x :: r => uptoBulkEntry x + uptoBulkEntries r
def uptoBulkEntry {H : Type} : Lit × DataW H → Nat
  | (.string bytes, d) => bytes.length + uptoBulk d + 1
  | (_, d) => uptoBulk d + 1
 end
def uptoSmall : (H : Type) → List (DataW H) → Bool := fun _ ds => decide (uptoBulkAll ds ≤ 1048576)
def OpenSpec.upto (s : _root_.Go.ChangeSpec) : _root_.Go.OpenSpec := { _root_.Go.OpenSpec.ofChange s with cond := some uptoSmall }

/-- 'laws.FnExactIsCut', WHERE WHAT IT READS IS OF BULK AT MOST 1048576: true; the input reads as it did. -/
def fnExactIsCutUptoRow : OpenClaim := { program := "ytconglobpdgjhaa", sum := "6daf3605024a0cdd844110929e90fe0bcd2c33fc028bbbbdad302525b83a89be", func := "loop.example/g01296/laws.FnExactIsCut", spec := "fnExactIsCut", unfollowed := true, recurses := true, apart := false, narrowed := true }
def FnExactIsCutUptoSaid : Prop := fnExactIsCutUptoRow.holds Try.pinned (OpenSpec.upto fnExactIsCutSpec)

/-- 'laws.FnExactIsNet', WHERE WHAT IT READS IS OF BULK AT MOST 1048576: true; the input reads as it did. -/
def fnExactIsNetUptoRow : OpenClaim := { program := "ytconglobpdgjhaa", sum := "6daf3605024a0cdd844110929e90fe0bcd2c33fc028bbbbdad302525b83a89be", func := "loop.example/g01296/laws.FnExactIsNet", spec := "fnExactIsNet", apart := false, narrowed := true }
def FnExactIsNetUptoSaid : Prop := fnExactIsNetUptoRow.holds Try.pinned (OpenSpec.upto fnExactIsNetSpec)

/-- 'laws.FnExactSquareAt', WHERE WHAT IT READS IS OF BULK AT MOST 1048576: true; the input reads as it did. -/
def fnExactSquareAtUptoRow : OpenClaim := { program := "ytconglobpdgjhaa", sum := "6daf3605024a0cdd844110929e90fe0bcd2c33fc028bbbbdad302525b83a89be", func := "loop.example/g01296/laws.FnExactSquareAt", spec := "fnExactSquareAt", unfollowed := true, recurses := true, apart := false, narrowed := true }
def FnExactSquareAtUptoSaid : Prop := fnExactSquareAtUptoRow.holds Try.pinned (OpenSpec.upto fnExactSquareAtSpec)

/-- 'laws.FnExactGroupOfSquare', WHERE WHAT IT READS IS OF BULK AT MOST 1048576: true; the input reads as it did. -/
def fnExactGroupOfSquareUptoRow : OpenClaim := { program := "ytconglobpdgjhaa", sum := "6daf3605024a0cdd844110929e90fe0bcd2c33fc028bbbbdad302525b83a89be", func := "loop.example/g01296/laws.FnExactGroupOfSquare", spec := "fnExactGroupOfSquare", unfollowed := true, recurses := true, apart := false, narrowed := true }
def FnExactGroupOfSquareUptoSaid : Prop := fnExactGroupOfSquareUptoRow.holds Try.pinned (OpenSpec.upto fnExactGroupOfSquareSpec)

/-- 'laws.FnExactBackNet', WHERE WHAT IT READS IS OF BULK AT MOST 1048576: true; the input reads as it did. -/
def fnExactBackNetUptoRow : OpenClaim := { program := "ytconglobpdgjhaa", sum := "6daf3605024a0cdd844110929e90fe0bcd2c33fc028bbbbdad302525b83a89be", func := "loop.example/g01296/laws.FnExactBackNet", spec := "fnExactBackNet", apart := false, narrowed := true }
def FnExactBackNetUptoSaid : Prop := fnExactBackNetUptoRow.holds Try.pinned (OpenSpec.upto fnExactBackNetSpec)

/-- 'laws.FnExactAddWire', WHERE WHAT IT READS IS OF BULK AT MOST 1048576: true; the input reads as it did. -/
def fnExactAddWireUptoRow : OpenClaim := { program := "ytconglobpdgjhaa", sum := "6daf3605024a0cdd844110929e90fe0bcd2c33fc028bbbbdad302525b83a89be", func := "loop.example/g01296/laws.FnExactAddWire", spec := "fnExactAddWire", apart := false, narrowed := true }
def FnExactAddWireUptoSaid : Prop := fnExactAddWireUptoRow.holds Try.pinned (OpenSpec.upto fnExactAddWireSpec)

/-- 'laws.FnExactSidesOf', WHERE WHAT IT READS IS OF BULK AT MOST 1048576: true; the input reads as it did. -/
def fnExactSidesOfUptoRow : OpenClaim := { program := "ytconglobpdgjhaa", sum := "6daf3605024a0cdd844110929e90fe0bcd2c33fc028bbbbdad302525b83a89be", func := "loop.example/g01296/laws.FnExactSidesOf", spec := "fnExactSidesOf", unfollowed := true, recurses := true, apart := false, narrowed := true }
def FnExactSidesOfUptoSaid : Prop := fnExactSidesOfUptoRow.holds Try.pinned (OpenSpec.upto fnExactSidesOfSpec)

/-- 'laws.FnExactIsFlow', WHERE WHAT IT READS IS OF BULK AT MOST 1048576: true; the input reads as it did. -/
def fnExactIsFlowUptoRow : OpenClaim := { program := "ytconglobpdgjhaa", sum := "6daf3605024a0cdd844110929e90fe0bcd2c33fc028bbbbdad302525b83a89be", func := "loop.example/g01296/laws.FnExactIsFlow", spec := "fnExactIsFlow", unfollowed := true, recurses := true, apart := false, narrowed := true }
def FnExactIsFlowUptoSaid : Prop := fnExactIsFlowUptoRow.holds Try.pinned (OpenSpec.upto fnExactIsFlowSpec)

/-- 'laws.FnExactDropWire', WHERE WHAT IT READS IS OF BULK AT MOST 1048576: true; the input reads as it did. -/
def fnExactDropWireUptoRow : OpenClaim := { program := "ytconglobpdgjhaa", sum := "6daf3605024a0cdd844110929e90fe0bcd2c33fc028bbbbdad302525b83a89be", func := "loop.example/g01296/laws.FnExactDropWire", spec := "fnExactDropWire", apart := false, narrowed := true }
def FnExactDropWireUptoSaid : Prop := fnExactDropWireUptoRow.holds Try.pinned (OpenSpec.upto fnExactDropWireSpec)

/-- 'laws.FnExactSquaresAtEdges', WHERE WHAT IT READS IS OF BULK AT MOST 1048576: true; the input reads as it did. -/
def fnExactSquaresAtEdgesUptoRow : OpenClaim := { program := "ytconglobpdgjhaa", sum := "6daf3605024a0cdd844110929e90fe0bcd2c33fc028bbbbdad302525b83a89be", func := "loop.example/g01296/laws.FnExactSquaresAtEdges", spec := "fnExactSquaresAtEdges", unfollowed := true, recurses := true, apart := false, narrowed := true }
def FnExactSquaresAtEdgesUptoSaid : Prop := fnExactSquaresAtEdgesUptoRow.holds Try.pinned (OpenSpec.upto fnExactSquaresAtEdgesSpec)

end Rows
end Go.Proofs.Ytconglobpdgjhaa
