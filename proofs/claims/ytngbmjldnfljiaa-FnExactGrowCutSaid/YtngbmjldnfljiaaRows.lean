/-
  No cell of these rows narrows 'for every input' (looked for: loops, veiled, ifaces, maps, wideKeys, modest, calm, conditions, laid).
  DERIVED. THE GIVEN ROWS OF THIS SEAT. 12 by the template 'for every input the law returns true; each argument reads behind the call as it read before'; 0 by the template 'total and deterministic' (their statements: YtngbmjldnfljiaaTotals.lean).
  GIVEN WITH THE SEED: the statements are not yours to turn. If you find one false, say at which input.
  Laid BY PROGRAM, IN A SANDBOX (cutbox-rows.mjs): the forced cells as the released guide's own fill.sh prints them over the translation af5ab2fd30206d21… (all of the seat's roots in one cut). By AI agents, Wed Nov 11 2026. No macro, syntax, notation, axiom, sorry.
-/
import Derived.Test.YtngbmjldnfljiaaChecked
import GoSem.Claim
import GoSem.ClaimJoined
import GoSem.ClaimMapViews
import Derived.JoinedTies
import Derived.KernelRfl
namespace Go.Proofs.Ytngbmjldnfljiaa
/- THE CELL 'sum', in the pinned program and in every row, IS THE sha256 OF THE DUMP (.gsa) THAT YtngbmjldnfljiaaProg.lean LOADS. Nothing in Lean hashes anything: it is a label: what it is worth is what the hold of that sum in a sandbox is worth. -/
noncomputable def Try.pinned : Pinned := { name := "ytngbmjldnfljiaa", sum := "af5ab2fd30206d21965bc1c37e7b171c7017a79d2ec2898668df11b1442e7ee3", checked := Try.checked }
namespace Rows
def none {H : Type} : Left H := { results := [], args := [] }

/-- 'laws.FnExactTreesOf': WHATEVER THE INPUT: true; the input reads as it did. -/
def fnExactTreesOfSpec : ChangeSpec := { name := "fnExactTreesOf", fn := fun _ => fun
  | [d] => { results := [.lit (.bool true)], args := [d] }
  | _ => none }
def fnExactTreesOfRow : OpenClaim := { program := "ytngbmjldnfljiaa", sum := "af5ab2fd30206d21965bc1c37e7b171c7017a79d2ec2898668df11b1442e7ee3", func := "loop.example/g01296/laws.FnExactTreesOf", spec := "fnExactTreesOf", apart := false }
def FnExactTreesOfSaid : Prop := fnExactTreesOfRow.holds Try.pinned (OpenSpec.ofChange fnExactTreesOfSpec)

/-- ITS FALSE NEIGHBOUR: 'it returns false'. Refute it at one input. -/
def fnExactTreesOfWrong : ChangeSpec := { name := "fnExactTreesOf", fn := fun _ => fun
  | [d] => { results := [.lit (.bool false)], args := [d] }
  | _ => none }
def FnExactTreesOfWrongFalsely : Prop := fnExactTreesOfRow.holds Try.pinned (OpenSpec.ofChange fnExactTreesOfWrong)

/-- 'laws.FnExactJoinedTrees': WHATEVER THE INPUT: true; the input reads as it did. -/
def fnExactJoinedTreesSpec : ChangeSpec := { name := "fnExactJoinedTrees", fn := fun _ => fun
  | [d] => { results := [.lit (.bool true)], args := [d] }
  | _ => none }
def fnExactJoinedTreesRow : OpenClaim := { program := "ytngbmjldnfljiaa", sum := "af5ab2fd30206d21965bc1c37e7b171c7017a79d2ec2898668df11b1442e7ee3", func := "loop.example/g01296/laws.FnExactJoinedTrees", spec := "fnExactJoinedTrees", apart := false }
def FnExactJoinedTreesSaid : Prop := fnExactJoinedTreesRow.holds Try.pinned (OpenSpec.ofChange fnExactJoinedTreesSpec)

/-- ITS FALSE NEIGHBOUR: 'it returns false'. Refute it at one input. -/
def fnExactJoinedTreesWrong : ChangeSpec := { name := "fnExactJoinedTrees", fn := fun _ => fun
  | [d] => { results := [.lit (.bool false)], args := [d] }
  | _ => none }
def FnExactJoinedTreesWrongFalsely : Prop := fnExactJoinedTreesRow.holds Try.pinned (OpenSpec.ofChange fnExactJoinedTreesWrong)

/-- 'laws.FnExactRatioOfNet': WHATEVER THE INPUT: true; the input reads as it did. -/
def fnExactRatioOfNetSpec : ChangeSpec := { name := "fnExactRatioOfNet", fn := fun _ => fun
  | [d] => { results := [.lit (.bool true)], args := [d] }
  | _ => none }
def fnExactRatioOfNetRow : OpenClaim := { program := "ytngbmjldnfljiaa", sum := "af5ab2fd30206d21965bc1c37e7b171c7017a79d2ec2898668df11b1442e7ee3", func := "loop.example/g01296/laws.FnExactRatioOfNet", spec := "fnExactRatioOfNet", apart := false }
def FnExactRatioOfNetSaid : Prop := fnExactRatioOfNetRow.holds Try.pinned (OpenSpec.ofChange fnExactRatioOfNetSpec)

/-- ITS FALSE NEIGHBOUR: 'it returns false'. Refute it at one input. -/
def fnExactRatioOfNetWrong : ChangeSpec := { name := "fnExactRatioOfNet", fn := fun _ => fun
  | [d] => { results := [.lit (.bool false)], args := [d] }
  | _ => none }
def FnExactRatioOfNetWrongFalsely : Prop := fnExactRatioOfNetRow.holds Try.pinned (OpenSpec.ofChange fnExactRatioOfNetWrong)

/-- 'laws.FnExactPotentialsOf': WHATEVER THE INPUT: true; the input reads as it did. -/
def fnExactPotentialsOfSpec : ChangeSpec := { name := "fnExactPotentialsOf", fn := fun _ => fun
  | [d] => { results := [.lit (.bool true)], args := [d] }
  | _ => none }
def fnExactPotentialsOfRow : OpenClaim := { program := "ytngbmjldnfljiaa", sum := "af5ab2fd30206d21965bc1c37e7b171c7017a79d2ec2898668df11b1442e7ee3", func := "loop.example/g01296/laws.FnExactPotentialsOf", spec := "fnExactPotentialsOf", apart := false }
def FnExactPotentialsOfSaid : Prop := fnExactPotentialsOfRow.holds Try.pinned (OpenSpec.ofChange fnExactPotentialsOfSpec)

/-- ITS FALSE NEIGHBOUR: 'it returns false'. Refute it at one input. -/
def fnExactPotentialsOfWrong : ChangeSpec := { name := "fnExactPotentialsOf", fn := fun _ => fun
  | [d] => { results := [.lit (.bool false)], args := [d] }
  | _ => none }
def FnExactPotentialsOfWrongFalsely : Prop := fnExactPotentialsOfRow.holds Try.pinned (OpenSpec.ofChange fnExactPotentialsOfWrong)

/-- 'laws.FnExactCurrentsOf': WHATEVER THE INPUT: true; the input reads as it did. -/
def fnExactCurrentsOfSpec : ChangeSpec := { name := "fnExactCurrentsOf", fn := fun _ => fun
  | [d] => { results := [.lit (.bool true)], args := [d] }
  | _ => none }
def fnExactCurrentsOfRow : OpenClaim := { program := "ytngbmjldnfljiaa", sum := "af5ab2fd30206d21965bc1c37e7b171c7017a79d2ec2898668df11b1442e7ee3", func := "loop.example/g01296/laws.FnExactCurrentsOf", spec := "fnExactCurrentsOf", apart := false }
def FnExactCurrentsOfSaid : Prop := fnExactCurrentsOfRow.holds Try.pinned (OpenSpec.ofChange fnExactCurrentsOfSpec)

/-- ITS FALSE NEIGHBOUR: 'it returns false'. Refute it at one input. -/
def fnExactCurrentsOfWrong : ChangeSpec := { name := "fnExactCurrentsOf", fn := fun _ => fun
  | [d] => { results := [.lit (.bool false)], args := [d] }
  | _ => none }
def FnExactCurrentsOfWrongFalsely : Prop := fnExactCurrentsOfRow.holds Try.pinned (OpenSpec.ofChange fnExactCurrentsOfWrong)

/-- 'laws.FnExactLowCurrents': WHATEVER THE INPUT: true; the input reads as it did. -/
def fnExactLowCurrentsSpec : ChangeSpec := { name := "fnExactLowCurrents", fn := fun _ => fun
  | [d] => { results := [.lit (.bool true)], args := [d] }
  | _ => none }
def fnExactLowCurrentsRow : OpenClaim := { program := "ytngbmjldnfljiaa", sum := "af5ab2fd30206d21965bc1c37e7b171c7017a79d2ec2898668df11b1442e7ee3", func := "loop.example/g01296/laws.FnExactLowCurrents", spec := "fnExactLowCurrents", apart := false }
def FnExactLowCurrentsSaid : Prop := fnExactLowCurrentsRow.holds Try.pinned (OpenSpec.ofChange fnExactLowCurrentsSpec)

/-- ITS FALSE NEIGHBOUR: 'it returns false'. Refute it at one input. -/
def fnExactLowCurrentsWrong : ChangeSpec := { name := "fnExactLowCurrents", fn := fun _ => fun
  | [d] => { results := [.lit (.bool false)], args := [d] }
  | _ => none }
def FnExactLowCurrentsWrongFalsely : Prop := fnExactLowCurrentsRow.holds Try.pinned (OpenSpec.ofChange fnExactLowCurrentsWrong)

/-- 'laws.FnExactMirrorCut': WHATEVER THE INPUT: true; the input reads as it did. -/
def fnExactMirrorCutSpec : ChangeSpec := { name := "fnExactMirrorCut", fn := fun _ => fun
  | [d] => { results := [.lit (.bool true)], args := [d] }
  | _ => none }
def fnExactMirrorCutRow : OpenClaim := { program := "ytngbmjldnfljiaa", sum := "af5ab2fd30206d21965bc1c37e7b171c7017a79d2ec2898668df11b1442e7ee3", func := "loop.example/g01296/laws.FnExactMirrorCut", spec := "fnExactMirrorCut", unfollowed := true, recurses := true, apart := false }
def FnExactMirrorCutSaid : Prop := fnExactMirrorCutRow.holds Try.pinned (OpenSpec.ofChange fnExactMirrorCutSpec)

/-- ITS FALSE NEIGHBOUR: 'it returns false'. Refute it at one input. -/
def fnExactMirrorCutWrong : ChangeSpec := { name := "fnExactMirrorCut", fn := fun _ => fun
  | [d] => { results := [.lit (.bool false)], args := [d] }
  | _ => none }
def FnExactMirrorCutWrongFalsely : Prop := fnExactMirrorCutRow.holds Try.pinned (OpenSpec.ofChange fnExactMirrorCutWrong)

/-- 'laws.FnExactTurnCut': WHATEVER THE INPUT: true; the input reads as it did. -/
def fnExactTurnCutSpec : ChangeSpec := { name := "fnExactTurnCut", fn := fun _ => fun
  | [d] => { results := [.lit (.bool true)], args := [d] }
  | _ => none }
def fnExactTurnCutRow : OpenClaim := { program := "ytngbmjldnfljiaa", sum := "af5ab2fd30206d21965bc1c37e7b171c7017a79d2ec2898668df11b1442e7ee3", func := "loop.example/g01296/laws.FnExactTurnCut", spec := "fnExactTurnCut", unfollowed := true, recurses := true, apart := false }
def FnExactTurnCutSaid : Prop := fnExactTurnCutRow.holds Try.pinned (OpenSpec.ofChange fnExactTurnCutSpec)

/-- ITS FALSE NEIGHBOUR: 'it returns false'. Refute it at one input. -/
def fnExactTurnCutWrong : ChangeSpec := { name := "fnExactTurnCut", fn := fun _ => fun
  | [d] => { results := [.lit (.bool false)], args := [d] }
  | _ => none }
def FnExactTurnCutWrongFalsely : Prop := fnExactTurnCutRow.holds Try.pinned (OpenSpec.ofChange fnExactTurnCutWrong)

/-- 'laws.FnExactLowCut': WHATEVER THE INPUT: true; the input reads as it did. -/
def fnExactLowCutSpec : ChangeSpec := { name := "fnExactLowCut", fn := fun _ => fun
  | [d] => { results := [.lit (.bool true)], args := [d] }
  | _ => none }
def fnExactLowCutRow : OpenClaim := { program := "ytngbmjldnfljiaa", sum := "af5ab2fd30206d21965bc1c37e7b171c7017a79d2ec2898668df11b1442e7ee3", func := "loop.example/g01296/laws.FnExactLowCut", spec := "fnExactLowCut", unfollowed := true, recurses := true, apart := false }
def FnExactLowCutSaid : Prop := fnExactLowCutRow.holds Try.pinned (OpenSpec.ofChange fnExactLowCutSpec)

/-- ITS FALSE NEIGHBOUR: 'it returns false'. Refute it at one input. -/
def fnExactLowCutWrong : ChangeSpec := { name := "fnExactLowCut", fn := fun _ => fun
  | [d] => { results := [.lit (.bool false)], args := [d] }
  | _ => none }
def FnExactLowCutWrongFalsely : Prop := fnExactLowCutRow.holds Try.pinned (OpenSpec.ofChange fnExactLowCutWrong)

/-- 'laws.FnExactGrowCut': WHATEVER THE INPUT: true; the input reads as it did. -/
def fnExactGrowCutSpec : ChangeSpec := { name := "fnExactGrowCut", fn := fun _ => fun
  | [d1, d2] => { results := [.lit (.bool true)], args := [d1, d2] }
  | _ => none }
def fnExactGrowCutRow : OpenClaim := { program := "ytngbmjldnfljiaa", sum := "af5ab2fd30206d21965bc1c37e7b171c7017a79d2ec2898668df11b1442e7ee3", func := "loop.example/g01296/laws.FnExactGrowCut", spec := "fnExactGrowCut", unfollowed := true, recurses := true, apart := false }
def FnExactGrowCutSaid : Prop := fnExactGrowCutRow.holds Try.pinned (OpenSpec.ofChange fnExactGrowCutSpec)

/-- ITS FALSE NEIGHBOUR: 'it returns false'. Refute it at one input. -/
def fnExactGrowCutWrong : ChangeSpec := { name := "fnExactGrowCut", fn := fun _ => fun
  | [d1, d2] => { results := [.lit (.bool false)], args := [d1, d2] }
  | _ => none }
def FnExactGrowCutWrongFalsely : Prop := fnExactGrowCutRow.holds Try.pinned (OpenSpec.ofChange fnExactGrowCutWrong)

/-- 'laws.FnExactDropWire': WHATEVER THE INPUT: true; the input reads as it did. -/
def fnExactDropWireSpec : ChangeSpec := { name := "fnExactDropWire", fn := fun _ => fun
  | [d1, d2] => { results := [.lit (.bool true)], args := [d1, d2] }
  | _ => none }
def fnExactDropWireRow : OpenClaim := { program := "ytngbmjldnfljiaa", sum := "af5ab2fd30206d21965bc1c37e7b171c7017a79d2ec2898668df11b1442e7ee3", func := "loop.example/g01296/laws.FnExactDropWire", spec := "fnExactDropWire", apart := false }
def FnExactDropWireSaid : Prop := fnExactDropWireRow.holds Try.pinned (OpenSpec.ofChange fnExactDropWireSpec)

/-- ITS FALSE NEIGHBOUR: 'it returns false'. Refute it at one input. -/
def fnExactDropWireWrong : ChangeSpec := { name := "fnExactDropWire", fn := fun _ => fun
  | [d1, d2] => { results := [.lit (.bool false)], args := [d1, d2] }
  | _ => none }
def FnExactDropWireWrongFalsely : Prop := fnExactDropWireRow.holds Try.pinned (OpenSpec.ofChange fnExactDropWireWrong)

/-- 'laws.FnExactOneSquare': WHATEVER THE INPUT: true; the input reads as it did. -/
def fnExactOneSquareSpec : ChangeSpec := { name := "fnExactOneSquare", fn := fun _ => fun
  | [d] => { results := [.lit (.bool true)], args := [d] }
  | _ => none }
def fnExactOneSquareRow : OpenClaim := { program := "ytngbmjldnfljiaa", sum := "af5ab2fd30206d21965bc1c37e7b171c7017a79d2ec2898668df11b1442e7ee3", func := "loop.example/g01296/laws.FnExactOneSquare", spec := "fnExactOneSquare", unfollowed := true, recurses := true, apart := false }
def FnExactOneSquareSaid : Prop := fnExactOneSquareRow.holds Try.pinned (OpenSpec.ofChange fnExactOneSquareSpec)

/-- ITS FALSE NEIGHBOUR: 'it returns false'. Refute it at one input. -/
def fnExactOneSquareWrong : ChangeSpec := { name := "fnExactOneSquare", fn := fun _ => fun
  | [d] => { results := [.lit (.bool false)], args := [d] }
  | _ => none }
def FnExactOneSquareWrongFalsely : Prop := fnExactOneSquareRow.holds Try.pinned (OpenSpec.ofChange fnExactOneSquareWrong)

/- THE SECOND FORM. 'bulk': how many values and letters a reading holds, each counted each time it is reached (what is shared counts as often as it is met; a slice's spare places count too). A statement '..UptoSaid' is the law's where the arguments, and the package variables that the reading takes, are together of bulk at most 1048576: NARROWER than '..Said'. Prove '..Said' where nothing that the law and all that it calls make is longer than what came in: it says more and counts as full. Else prove '..UptoSaid'. A law counts once. -/
mutual
def uptoBulk {H : Type} : DataW H → Nat
  | .lit (.string bytes) => bytes.length + 1
  | .lit _ => 1
  | .nil => 1
  | .ptr d => uptoBulk d + 1
  | .slice elems spare => uptoBulkAll elems + uptoBulkAll spare + 1
  | .agg parts => uptoBulkAll parts + 1
  | .iface _ d => uptoBulk d + 1
  | .map entries => uptoBulkEntries entries + 1
  | .held _ => 1
def uptoBulkAll {H : Type} : List (DataW H) → Nat
  | [] => 0
  | d :: r => uptoBulk d + uptoBulkAll r
def uptoBulkEntries {H : Type} : List (Lit × DataW H) → Nat
  | [] => 0
  | x :: r => uptoBulkEntry x + uptoBulkEntries r
def uptoBulkEntry {H : Type} : Lit × DataW H → Nat
  | (.string bytes, d) => bytes.length + uptoBulk d + 1
  | (_, d) => uptoBulk d + 1
 end
def uptoSmall : (H : Type) → List (DataW H) → Bool := fun _ ds => decide (uptoBulkAll ds ≤ 1048576)
def OpenSpec.upto (s : _root_.Go.ChangeSpec) : _root_.Go.OpenSpec := { _root_.Go.OpenSpec.ofChange s with cond := some uptoSmall }

/-- 'laws.FnExactTreesOf', WHERE WHAT IT READS IS OF BULK AT MOST 1048576: true; the input reads as it did. -/
def fnExactTreesOfUptoRow : OpenClaim := { program := "ytngbmjldnfljiaa", sum := "af5ab2fd30206d21965bc1c37e7b171c7017a79d2ec2898668df11b1442e7ee3", func := "loop.example/g01296/laws.FnExactTreesOf", spec := "fnExactTreesOf", apart := false, narrowed := true }
def FnExactTreesOfUptoSaid : Prop := fnExactTreesOfUptoRow.holds Try.pinned (OpenSpec.upto fnExactTreesOfSpec)

/-- 'laws.FnExactJoinedTrees', WHERE WHAT IT READS IS OF BULK AT MOST 1048576: true; the input reads as it did. -/
def fnExactJoinedTreesUptoRow : OpenClaim := { program := "ytngbmjldnfljiaa", sum := "af5ab2fd30206d21965bc1c37e7b171c7017a79d2ec2898668df11b1442e7ee3", func := "loop.example/g01296/laws.FnExactJoinedTrees", spec := "fnExactJoinedTrees", apart := false, narrowed := true }
def FnExactJoinedTreesUptoSaid : Prop := fnExactJoinedTreesUptoRow.holds Try.pinned (OpenSpec.upto fnExactJoinedTreesSpec)

/-- 'laws.FnExactRatioOfNet', WHERE WHAT IT READS IS OF BULK AT MOST 1048576: true; the input reads as it did. -/
def fnExactRatioOfNetUptoRow : OpenClaim := { program := "ytngbmjldnfljiaa", sum := "af5ab2fd30206d21965bc1c37e7b171c7017a79d2ec2898668df11b1442e7ee3", func := "loop.example/g01296/laws.FnExactRatioOfNet", spec := "fnExactRatioOfNet", apart := false, narrowed := true }
def FnExactRatioOfNetUptoSaid : Prop := fnExactRatioOfNetUptoRow.holds Try.pinned (OpenSpec.upto fnExactRatioOfNetSpec)

/-- 'laws.FnExactPotentialsOf', WHERE WHAT IT READS IS OF BULK AT MOST 1048576: true; the input reads as it did. -/
def fnExactPotentialsOfUptoRow : OpenClaim := { program := "ytngbmjldnfljiaa", sum := "af5ab2fd30206d21965bc1c37e7b171c7017a79d2ec2898668df11b1442e7ee3", func := "loop.example/g01296/laws.FnExactPotentialsOf", spec := "fnExactPotentialsOf", apart := false, narrowed := true }
def FnExactPotentialsOfUptoSaid : Prop := fnExactPotentialsOfUptoRow.holds Try.pinned (OpenSpec.upto fnExactPotentialsOfSpec)

/-- 'laws.FnExactCurrentsOf', WHERE WHAT IT READS IS OF BULK AT MOST 1048576: true; the input reads as it did. -/
def fnExactCurrentsOfUptoRow : OpenClaim := { program := "ytngbmjldnfljiaa", sum := "af5ab2fd30206d21965bc1c37e7b171c7017a79d2ec2898668df11b1442e7ee3", func := "loop.example/g01296/laws.FnExactCurrentsOf", spec := "fnExactCurrentsOf", apart := false, narrowed := true }
def FnExactCurrentsOfUptoSaid : Prop := fnExactCurrentsOfUptoRow.holds Try.pinned (OpenSpec.upto fnExactCurrentsOfSpec)

/-- 'laws.FnExactLowCurrents', WHERE WHAT IT READS IS OF BULK AT MOST 1048576: true; the input reads as it did. -/
def fnExactLowCurrentsUptoRow : OpenClaim := { program := "ytngbmjldnfljiaa", sum := "af5ab2fd30206d21965bc1c37e7b171c7017a79d2ec2898668df11b1442e7ee3", func := "loop.example/g01296/laws.FnExactLowCurrents", spec := "fnExactLowCurrents", apart := false, narrowed := true }
def FnExactLowCurrentsUptoSaid : Prop := fnExactLowCurrentsUptoRow.holds Try.pinned (OpenSpec.upto fnExactLowCurrentsSpec)

/-- 'laws.FnExactMirrorCut', WHERE WHAT IT READS IS OF BULK AT MOST 1048576: true; the input reads as it did. -/
def fnExactMirrorCutUptoRow : OpenClaim := { program := "ytngbmjldnfljiaa", sum := "af5ab2fd30206d21965bc1c37e7b171c7017a79d2ec2898668df11b1442e7ee3", func := "loop.example/g01296/laws.FnExactMirrorCut", spec := "fnExactMirrorCut", unfollowed := true, recurses := true, apart := false, narrowed := true }
def FnExactMirrorCutUptoSaid : Prop := fnExactMirrorCutUptoRow.holds Try.pinned (OpenSpec.upto fnExactMirrorCutSpec)

/-- 'laws.FnExactTurnCut', WHERE WHAT IT READS IS OF BULK AT MOST 1048576: true; the input reads as it did. -/
def fnExactTurnCutUptoRow : OpenClaim := { program := "ytngbmjldnfljiaa", sum := "af5ab2fd30206d21965bc1c37e7b171c7017a79d2ec2898668df11b1442e7ee3", func := "loop.example/g01296/laws.FnExactTurnCut", spec := "fnExactTurnCut", unfollowed := true, recurses := true, apart := false, narrowed := true }
def FnExactTurnCutUptoSaid : Prop := fnExactTurnCutUptoRow.holds Try.pinned (OpenSpec.upto fnExactTurnCutSpec)

/-- 'laws.FnExactLowCut', WHERE WHAT IT READS IS OF BULK AT MOST 1048576: true; the input reads as it did. -/
def fnExactLowCutUptoRow : OpenClaim := { program := "ytngbmjldnfljiaa", sum := "af5ab2fd30206d21965bc1c37e7b171c7017a79d2ec2898668df11b1442e7ee3", func := "loop.example/g01296/laws.FnExactLowCut", spec := "fnExactLowCut", unfollowed := true, recurses := true, apart := false, narrowed := true }
def FnExactLowCutUptoSaid : Prop := fnExactLowCutUptoRow.holds Try.pinned (OpenSpec.upto fnExactLowCutSpec)

/-- 'laws.FnExactGrowCut', WHERE WHAT IT READS IS OF BULK AT MOST 1048576: true; the input reads as it did. -/
def fnExactGrowCutUptoRow : OpenClaim := { program := "ytngbmjldnfljiaa", sum := "af5ab2fd30206d21965bc1c37e7b171c7017a79d2ec2898668df11b1442e7ee3", func := "loop.example/g01296/laws.FnExactGrowCut", spec := "fnExactGrowCut", unfollowed := true, recurses := true, apart := false, narrowed := true }
def FnExactGrowCutUptoSaid : Prop := fnExactGrowCutUptoRow.holds Try.pinned (OpenSpec.upto fnExactGrowCutSpec)

/-- 'laws.FnExactDropWire', WHERE WHAT IT READS IS OF BULK AT MOST 1048576: true; the input reads as it did. -/
def fnExactDropWireUptoRow : OpenClaim := { program := "ytngbmjldnfljiaa", sum := "af5ab2fd30206d21965bc1c37e7b171c7017a79d2ec2898668df11b1442e7ee3", func := "loop.example/g01296/laws.FnExactDropWire", spec := "fnExactDropWire", apart := false, narrowed := true }
def FnExactDropWireUptoSaid : Prop := fnExactDropWireUptoRow.holds Try.pinned (OpenSpec.upto fnExactDropWireSpec)

/-- 'laws.FnExactOneSquare', WHERE WHAT IT READS IS OF BULK AT MOST 1048576: true; the input reads as it did. -/
def fnExactOneSquareUptoRow : OpenClaim := { program := "ytngbmjldnfljiaa", sum := "af5ab2fd30206d21965bc1c37e7b171c7017a79d2ec2898668df11b1442e7ee3", func := "loop.example/g01296/laws.FnExactOneSquare", spec := "fnExactOneSquare", unfollowed := true, recurses := true, apart := false, narrowed := true }
def FnExactOneSquareUptoSaid : Prop := fnExactOneSquareUptoRow.holds Try.pinned (OpenSpec.upto fnExactOneSquareSpec)

end Rows
end Go.Proofs.Ytngbmjldnfljiaa
