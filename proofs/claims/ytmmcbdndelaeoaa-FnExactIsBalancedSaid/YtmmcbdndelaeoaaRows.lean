/-
  No cell of these rows narrows 'for every input' (looked for: loops, veiled, ifaces, maps, wideKeys, modest, calm, conditions, laid).
  DERIVED. THE GIVEN ROWS OF THIS SEAT. 6 by the template 'for every input the law returns true; each argument reads behind the call as it read before'; 0 by the template 'total and deterministic' (their statements: YtmmcbdndelaeoaaTotals.lean).
  GIVEN WITH THE SEED: the statements are not yours to turn. If you find one false, say at which input.
  Laid BY PROGRAM, IN A SANDBOX (cutbox-rows.mjs): the forced cells as the released guide's own fill.sh prints them over the translation 8de3ccdbc6b83199… (all of the seat's roots in one cut). By AI agents, Wed Nov 11 2026. No macro, syntax, notation, axiom, sorry.
-/
import Derived.Test.YtmmcbdndelaeoaaChecked
import GoSem.Claim
import GoSem.ClaimJoined
import GoSem.ClaimMapViews
import Derived.JoinedTies
import Derived.KernelRfl
namespace Go.Proofs.Ytmmcbdndelaeoaa
/- THE CELL 'sum', in the pinned program and in every row, IS THE sha256 OF THE DUMP (.gsa) THAT YtmmcbdndelaeoaaProg.lean LOADS. Nothing in Lean hashes anything: it is a label: what it is worth is what the hold of that sum in a sandbox is worth. -/
noncomputable def Try.pinned : Pinned := { name := "ytmmcbdndelaeoaa", sum := "8de3ccdbc6b83199a304fc604c4180dfab971c2777a0e6ec25249513935bcda5", checked := Try.checked }
namespace Rows
def none {H : Type} : Left H := { results := [], args := [] }

/-- 'laws.FnExactIsBalanced': WHATEVER THE INPUT: true; the input reads as it did. -/
def fnExactIsBalancedSpec : ChangeSpec := { name := "fnExactIsBalanced", fn := fun _ => fun
  | [d1, d2] => { results := [.lit (.bool true)], args := [d1, d2] }
  | _ => none }
def fnExactIsBalancedRow : OpenClaim := { program := "ytmmcbdndelaeoaa", sum := "8de3ccdbc6b83199a304fc604c4180dfab971c2777a0e6ec25249513935bcda5", func := "loop.example/g01296/laws.FnExactIsBalanced", spec := "fnExactIsBalanced", unfollowed := true, recurses := true, apart := false }
def FnExactIsBalancedSaid : Prop := fnExactIsBalancedRow.holds Try.pinned (OpenSpec.ofChange fnExactIsBalancedSpec)

/-- ITS FALSE NEIGHBOUR: 'it returns false'. Refute it at one input. -/
def fnExactIsBalancedWrong : ChangeSpec := { name := "fnExactIsBalanced", fn := fun _ => fun
  | [d1, d2] => { results := [.lit (.bool false)], args := [d1, d2] }
  | _ => none }
def FnExactIsBalancedWrongFalsely : Prop := fnExactIsBalancedRow.holds Try.pinned (OpenSpec.ofChange fnExactIsBalancedWrong)

/-- 'laws.FnExactFirstTurn': WHATEVER THE INPUT: true; the input reads as it did. -/
def fnExactFirstTurnSpec : ChangeSpec := { name := "fnExactFirstTurn", fn := fun _ => fun
  | [d] => { results := [.lit (.bool true)], args := [d] }
  | _ => none }
def fnExactFirstTurnRow : OpenClaim := { program := "ytmmcbdndelaeoaa", sum := "8de3ccdbc6b83199a304fc604c4180dfab971c2777a0e6ec25249513935bcda5", func := "loop.example/g01296/laws.FnExactFirstTurn", spec := "fnExactFirstTurn", unfollowed := true, recurses := true, apart := false }
def FnExactFirstTurnSaid : Prop := fnExactFirstTurnRow.holds Try.pinned (OpenSpec.ofChange fnExactFirstTurnSpec)

/-- ITS FALSE NEIGHBOUR: 'it returns false'. Refute it at one input. -/
def fnExactFirstTurnWrong : ChangeSpec := { name := "fnExactFirstTurn", fn := fun _ => fun
  | [d] => { results := [.lit (.bool false)], args := [d] }
  | _ => none }
def FnExactFirstTurnWrongFalsely : Prop := fnExactFirstTurnRow.holds Try.pinned (OpenSpec.ofChange fnExactFirstTurnWrong)

/-- 'laws.FnExactFirstCode': WHATEVER THE INPUT: true; the input reads as it did. -/
def fnExactFirstCodeSpec : ChangeSpec := { name := "fnExactFirstCode", fn := fun _ => fun
  | [d] => { results := [.lit (.bool true)], args := [d] }
  | _ => none }
def fnExactFirstCodeRow : OpenClaim := { program := "ytmmcbdndelaeoaa", sum := "8de3ccdbc6b83199a304fc604c4180dfab971c2777a0e6ec25249513935bcda5", func := "loop.example/g01296/laws.FnExactFirstCode", spec := "fnExactFirstCode", unfollowed := true, recurses := true, apart := false }
def FnExactFirstCodeSaid : Prop := fnExactFirstCodeRow.holds Try.pinned (OpenSpec.ofChange fnExactFirstCodeSpec)

/-- ITS FALSE NEIGHBOUR: 'it returns false'. Refute it at one input. -/
def fnExactFirstCodeWrong : ChangeSpec := { name := "fnExactFirstCode", fn := fun _ => fun
  | [d] => { results := [.lit (.bool false)], args := [d] }
  | _ => none }
def FnExactFirstCodeWrongFalsely : Prop := fnExactFirstCodeRow.holds Try.pinned (OpenSpec.ofChange fnExactFirstCodeWrong)

/-- 'laws.FnExactPartsOf': WHATEVER THE INPUT: true; the input reads as it did. -/
def fnExactPartsOfSpec : ChangeSpec := { name := "fnExactPartsOf", fn := fun _ => fun
  | [d] => { results := [.lit (.bool true)], args := [d] }
  | _ => none }
def fnExactPartsOfRow : OpenClaim := { program := "ytmmcbdndelaeoaa", sum := "8de3ccdbc6b83199a304fc604c4180dfab971c2777a0e6ec25249513935bcda5", func := "loop.example/g01296/laws.FnExactPartsOf", spec := "fnExactPartsOf", unfollowed := true, recurses := true, apart := false }
def FnExactPartsOfSaid : Prop := fnExactPartsOfRow.holds Try.pinned (OpenSpec.ofChange fnExactPartsOfSpec)

/-- ITS FALSE NEIGHBOUR: 'it returns false'. Refute it at one input. -/
def fnExactPartsOfWrong : ChangeSpec := { name := "fnExactPartsOf", fn := fun _ => fun
  | [d] => { results := [.lit (.bool false)], args := [d] }
  | _ => none }
def FnExactPartsOfWrongFalsely : Prop := fnExactPartsOfRow.holds Try.pinned (OpenSpec.ofChange fnExactPartsOfWrong)

/-- 'laws.FnExactIsSimple': WHATEVER THE INPUT: true; the input reads as it did. -/
def fnExactIsSimpleSpec : ChangeSpec := { name := "fnExactIsSimple", fn := fun _ => fun
  | [d] => { results := [.lit (.bool true)], args := [d] }
  | _ => none }
def fnExactIsSimpleRow : OpenClaim := { program := "ytmmcbdndelaeoaa", sum := "8de3ccdbc6b83199a304fc604c4180dfab971c2777a0e6ec25249513935bcda5", func := "loop.example/g01296/laws.FnExactIsSimple", spec := "fnExactIsSimple", unfollowed := true, recurses := true, apart := false }
def FnExactIsSimpleSaid : Prop := fnExactIsSimpleRow.holds Try.pinned (OpenSpec.ofChange fnExactIsSimpleSpec)

/-- ITS FALSE NEIGHBOUR: 'it returns false'. Refute it at one input. -/
def fnExactIsSimpleWrong : ChangeSpec := { name := "fnExactIsSimple", fn := fun _ => fun
  | [d] => { results := [.lit (.bool false)], args := [d] }
  | _ => none }
def FnExactIsSimpleWrongFalsely : Prop := fnExactIsSimpleRow.holds Try.pinned (OpenSpec.ofChange fnExactIsSimpleWrong)

/-- 'laws.FnNetsFlowOfAll': WHATEVER THE INPUT: true; the input reads as it did. -/
def fnNetsFlowOfAllSpec : ChangeSpec := { name := "fnNetsFlowOfAll", fn := fun _ => fun
  | [d1, d2] => { results := [.lit (.bool true)], args := [d1, d2] }
  | _ => none }
def fnNetsFlowOfAllRow : OpenClaim := { program := "ytmmcbdndelaeoaa", sum := "8de3ccdbc6b83199a304fc604c4180dfab971c2777a0e6ec25249513935bcda5", func := "loop.example/g01296/laws.FnNetsFlowOfAll", spec := "fnNetsFlowOfAll", unfollowed := true, recurses := true, apart := false }
def FnNetsFlowOfAllSaid : Prop := fnNetsFlowOfAllRow.holds Try.pinned (OpenSpec.ofChange fnNetsFlowOfAllSpec)

/-- ITS FALSE NEIGHBOUR: 'it returns false'. Refute it at one input. -/
def fnNetsFlowOfAllWrong : ChangeSpec := { name := "fnNetsFlowOfAll", fn := fun _ => fun
  | [d1, d2] => { results := [.lit (.bool false)], args := [d1, d2] }
  | _ => none }
def FnNetsFlowOfAllWrongFalsely : Prop := fnNetsFlowOfAllRow.holds Try.pinned (OpenSpec.ofChange fnNetsFlowOfAllWrong)

/- THE SECOND FORM. 'bulk': how many values and letters a reading holds, each counted each time it is reached (what is shared counts as often as it is met; a slice's spare places count too). A statement '..UptoSaid' is the law's where the arguments, and the package variables that the reading takes, are together of bulk at most 1048576: NARROWER than '..Said'. Prove '..Said' where nothing that the law and all that it calls make is longer than what came in: it says more and counts as full. Else prove '..UptoSaid'. A law counts once. -/
mutual
def uptoBulk {H : Type} : DataW H → Nat
  | .lit (.string bytes) => bytes.length + 1
  | .lit _ => 1
  | .nil => 1
  | .ptr d => uptoBulk d + 1
  | .slice elems spare => uptoBulkAll elems + uptoBulkAll spare + 1
  | .agg parts => uptoBulkAll parts + 1
  | .iface _ d => uptoBulk d + 1
  | .map entries => uptoBulkEntries entries + 1
  | .held _ => 1
def uptoBulkAll {H : Type} : List (DataW H) → Nat
  | [] => 0
  | d :: r => uptoBulk d + uptoBulkAll r
def uptoBulkEntries {H : Type} : List (Lit × DataW H) → Nat
  | [] => 0
  | x :: r => uptoBulkEntry x + uptoBulkEntries r
def uptoBulkEntry {H : Type} : Lit × DataW H → Nat
  | (.string bytes, d) => bytes.length + uptoBulk d + 1
  | (_, d) => uptoBulk d + 1
 end
def uptoSmall : (H : Type) → List (DataW H) → Bool := fun _ ds => decide (uptoBulkAll ds ≤ 1048576)
def OpenSpec.upto (s : _root_.Go.ChangeSpec) : _root_.Go.OpenSpec := { _root_.Go.OpenSpec.ofChange s with cond := some uptoSmall }

/-- 'laws.FnExactIsBalanced', WHERE WHAT IT READS IS OF BULK AT MOST 1048576: true; the input reads as it did. -/
def fnExactIsBalancedUptoRow : OpenClaim := { program := "ytmmcbdndelaeoaa", sum := "8de3ccdbc6b83199a304fc604c4180dfab971c2777a0e6ec25249513935bcda5", func := "loop.example/g01296/laws.FnExactIsBalanced", spec := "fnExactIsBalanced", unfollowed := true, recurses := true, apart := false, narrowed := true }
def FnExactIsBalancedUptoSaid : Prop := fnExactIsBalancedUptoRow.holds Try.pinned (OpenSpec.upto fnExactIsBalancedSpec)

/-- 'laws.FnExactFirstTurn', WHERE WHAT IT READS IS OF BULK AT MOST 1048576: true; the input reads as it did. -/
def fnExactFirstTurnUptoRow : OpenClaim := { program := "ytmmcbdndelaeoaa", sum := "8de3ccdbc6b83199a304fc604c4180dfab971c2777a0e6ec25249513935bcda5", func := "loop.example/g01296/laws.FnExactFirstTurn", spec := "fnExactFirstTurn", unfollowed := true, recurses := true, apart := false, narrowed := true }
def FnExactFirstTurnUptoSaid : Prop := fnExactFirstTurnUptoRow.holds Try.pinned (OpenSpec.upto fnExactFirstTurnSpec)

/-- 'laws.FnExactFirstCode', WHERE WHAT IT READS IS OF BULK AT MOST 1048576: true; the input reads as it did. -/
def fnExactFirstCodeUptoRow : OpenClaim := { program := "ytmmcbdndelaeoaa", sum := "8de3ccdbc6b83199a304fc604c4180dfab971c2777a0e6ec25249513935bcda5", func := "loop.example/g01296/laws.FnExactFirstCode", spec := "fnExactFirstCode", unfollowed := true, recurses := true, apart := false, narrowed := true }
def FnExactFirstCodeUptoSaid : Prop := fnExactFirstCodeUptoRow.holds Try.pinned (OpenSpec.upto fnExactFirstCodeSpec)

/-- 'laws.FnExactPartsOf', WHERE WHAT IT READS IS OF BULK AT MOST 1048576: true; the input reads as it did. -/
def fnExactPartsOfUptoRow : OpenClaim := { program := "ytmmcbdndelaeoaa", sum := "8de3ccdbc6b83199a304fc604c4180dfab971c2777a0e6ec25249513935bcda5", func := "loop.example/g01296/laws.FnExactPartsOf", spec := "fnExactPartsOf", unfollowed := true, recurses := true, apart := false, narrowed := true }
def FnExactPartsOfUptoSaid : Prop := fnExactPartsOfUptoRow.holds Try.pinned (OpenSpec.upto fnExactPartsOfSpec)

/-- 'laws.FnExactIsSimple', WHERE WHAT IT READS IS OF BULK AT MOST 1048576: true; the input reads as it did. -/
def fnExactIsSimpleUptoRow : OpenClaim := { program := "ytmmcbdndelaeoaa", sum := "8de3ccdbc6b83199a304fc604c4180dfab971c2777a0e6ec25249513935bcda5", func := "loop.example/g01296/laws.FnExactIsSimple", spec := "fnExactIsSimple", unfollowed := true, recurses := true, apart := false, narrowed := true }
def FnExactIsSimpleUptoSaid : Prop := fnExactIsSimpleUptoRow.holds Try.pinned (OpenSpec.upto fnExactIsSimpleSpec)

/-- 'laws.FnNetsFlowOfAll', WHERE WHAT IT READS IS OF BULK AT MOST 1048576: true; the input reads as it did. -/
def fnNetsFlowOfAllUptoRow : OpenClaim := { program := "ytmmcbdndelaeoaa", sum := "8de3ccdbc6b83199a304fc604c4180dfab971c2777a0e6ec25249513935bcda5", func := "loop.example/g01296/laws.FnNetsFlowOfAll", spec := "fnNetsFlowOfAll", unfollowed := true, recurses := true, apart := false, narrowed := true }
def FnNetsFlowOfAllUptoSaid : Prop := fnNetsFlowOfAllUptoRow.holds Try.pinned (OpenSpec.upto fnNetsFlowOfAllSpec)

end Rows
end Go.Proofs.Ytmmcbdndelaeoaa
