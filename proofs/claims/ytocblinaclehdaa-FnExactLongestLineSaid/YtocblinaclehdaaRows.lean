/-
  No cell of these rows narrows 'for every input' (looked for: loops, veiled, ifaces, maps, wideKeys, modest, calm, conditions, laid).
  DERIVED. THE GIVEN ROWS OF THIS SEAT. 12 by the template 'for every input the law returns true; each argument reads behind the call as it read before'; 0 by the template 'total and deterministic' (their statements: YtocblinaclehdaaTotals.lean).
  GIVEN WITH THE SEED: the statements are not yours to turn. If you find one false, say at which input.
  Laid BY PROGRAM, IN A SANDBOX (cutbox-rows.mjs): the forced cells as the released guide's own fill.sh prints them over the translation 0e984fe2f590f1e2… (all of the seat's roots in one cut). By AI agents, Wed Nov 11 2026. No macro, syntax, notation, axiom, sorry.
-/
import Derived.Test.YtocblinaclehdaaChecked
import GoSem.Claim
import GoSem.ClaimJoined
import GoSem.ClaimMapViews
import Derived.JoinedTies
import Derived.KernelRfl
namespace Go.Proofs.Ytocblinaclehdaa
/- THE CELL 'sum', in the pinned program and in every row, IS THE sha256 OF THE DUMP (.gsa) THAT YtocblinaclehdaaProg.lean LOADS. Nothing in Lean hashes anything: it is a label: what it is worth is what the hold of that sum in a sandbox is worth. -/
noncomputable def Try.pinned : Pinned := { name := "ytocblinaclehdaa", sum := "0e984fe2f590f1e229e39626ab9652b139e4e18d56aef48af72b20af2e1de927", checked := Try.checked }
namespace Rows
def none {H : Type} : Left H := { results := [], args := [] }

/-- 'laws.FnExactLevelsOf': WHATEVER THE INPUT: true; the input reads as it did. -/
def fnExactLevelsOfSpec : ChangeSpec := { name := "fnExactLevelsOf", fn := fun _ => fun
  | [d] => { results := [.lit (.bool true)], args := [d] }
  | _ => none }
def fnExactLevelsOfRow : OpenClaim := { program := "ytocblinaclehdaa", sum := "0e984fe2f590f1e229e39626ab9652b139e4e18d56aef48af72b20af2e1de927", func := "loop.example/g01296/laws.FnExactLevelsOf", spec := "fnExactLevelsOf", unfollowed := true, recurses := true, apart := false }
def FnExactLevelsOfSaid : Prop := fnExactLevelsOfRow.holds Try.pinned (OpenSpec.ofChange fnExactLevelsOfSpec)

/-- ITS FALSE NEIGHBOUR: 'it returns false'. Refute it at one input. -/
def fnExactLevelsOfWrong : ChangeSpec := { name := "fnExactLevelsOf", fn := fun _ => fun
  | [d] => { results := [.lit (.bool false)], args := [d] }
  | _ => none }
def FnExactLevelsOfWrongFalsely : Prop := fnExactLevelsOfRow.holds Try.pinned (OpenSpec.ofChange fnExactLevelsOfWrong)

/-- 'laws.FnExactLongestLine': WHATEVER THE INPUT: true; the input reads as it did. -/
def fnExactLongestLineSpec : ChangeSpec := { name := "fnExactLongestLine", fn := fun _ => fun
  | [d] => { results := [.lit (.bool true)], args := [d] }
  | _ => none }
def fnExactLongestLineRow : OpenClaim := { program := "ytocblinaclehdaa", sum := "0e984fe2f590f1e229e39626ab9652b139e4e18d56aef48af72b20af2e1de927", func := "loop.example/g01296/laws.FnExactLongestLine", spec := "fnExactLongestLine", unfollowed := true, recurses := true, apart := false }
def FnExactLongestLineSaid : Prop := fnExactLongestLineRow.holds Try.pinned (OpenSpec.ofChange fnExactLongestLineSpec)

/-- ITS FALSE NEIGHBOUR: 'it returns false'. Refute it at one input. -/
def fnExactLongestLineWrong : ChangeSpec := { name := "fnExactLongestLine", fn := fun _ => fun
  | [d] => { results := [.lit (.bool false)], args := [d] }
  | _ => none }
def FnExactLongestLineWrongFalsely : Prop := fnExactLongestLineRow.holds Try.pinned (OpenSpec.ofChange fnExactLongestLineWrong)

/-- 'laws.FnExactIsPerfect': WHATEVER THE INPUT: true; the input reads as it did. -/
def fnExactIsPerfectSpec : ChangeSpec := { name := "fnExactIsPerfect", fn := fun _ => fun
  | [d] => { results := [.lit (.bool true)], args := [d] }
  | _ => none }
def fnExactIsPerfectRow : OpenClaim := { program := "ytocblinaclehdaa", sum := "0e984fe2f590f1e229e39626ab9652b139e4e18d56aef48af72b20af2e1de927", func := "loop.example/g01296/laws.FnExactIsPerfect", spec := "fnExactIsPerfect", unfollowed := true, recurses := true, apart := false }
def FnExactIsPerfectSaid : Prop := fnExactIsPerfectRow.holds Try.pinned (OpenSpec.ofChange fnExactIsPerfectSpec)

/-- ITS FALSE NEIGHBOUR: 'it returns false'. Refute it at one input. -/
def fnExactIsPerfectWrong : ChangeSpec := { name := "fnExactIsPerfect", fn := fun _ => fun
  | [d] => { results := [.lit (.bool false)], args := [d] }
  | _ => none }
def FnExactIsPerfectWrongFalsely : Prop := fnExactIsPerfectRow.holds Try.pinned (OpenSpec.ofChange fnExactIsPerfectWrong)

/-- 'laws.FnExactMirrorCut': WHATEVER THE INPUT: true; the input reads as it did. -/
def fnExactMirrorCutSpec : ChangeSpec := { name := "fnExactMirrorCut", fn := fun _ => fun
  | [d] => { results := [.lit (.bool true)], args := [d] }
  | _ => none }
def fnExactMirrorCutRow : OpenClaim := { program := "ytocblinaclehdaa", sum := "0e984fe2f590f1e229e39626ab9652b139e4e18d56aef48af72b20af2e1de927", func := "loop.example/g01296/laws.FnExactMirrorCut", spec := "fnExactMirrorCut", unfollowed := true, recurses := true, apart := false }
def FnExactMirrorCutSaid : Prop := fnExactMirrorCutRow.holds Try.pinned (OpenSpec.ofChange fnExactMirrorCutSpec)

/-- ITS FALSE NEIGHBOUR: 'it returns false'. Refute it at one input. -/
def fnExactMirrorCutWrong : ChangeSpec := { name := "fnExactMirrorCut", fn := fun _ => fun
  | [d] => { results := [.lit (.bool false)], args := [d] }
  | _ => none }
def FnExactMirrorCutWrongFalsely : Prop := fnExactMirrorCutRow.holds Try.pinned (OpenSpec.ofChange fnExactMirrorCutWrong)

/-- 'laws.FnExactTurnCut': WHATEVER THE INPUT: true; the input reads as it did. -/
def fnExactTurnCutSpec : ChangeSpec := { name := "fnExactTurnCut", fn := fun _ => fun
  | [d] => { results := [.lit (.bool true)], args := [d] }
  | _ => none }
def fnExactTurnCutRow : OpenClaim := { program := "ytocblinaclehdaa", sum := "0e984fe2f590f1e229e39626ab9652b139e4e18d56aef48af72b20af2e1de927", func := "loop.example/g01296/laws.FnExactTurnCut", spec := "fnExactTurnCut", unfollowed := true, recurses := true, apart := false }
def FnExactTurnCutSaid : Prop := fnExactTurnCutRow.holds Try.pinned (OpenSpec.ofChange fnExactTurnCutSpec)

/-- ITS FALSE NEIGHBOUR: 'it returns false'. Refute it at one input. -/
def fnExactTurnCutWrong : ChangeSpec := { name := "fnExactTurnCut", fn := fun _ => fun
  | [d] => { results := [.lit (.bool false)], args := [d] }
  | _ => none }
def FnExactTurnCutWrongFalsely : Prop := fnExactTurnCutRow.holds Try.pinned (OpenSpec.ofChange fnExactTurnCutWrong)

/-- 'laws.FnExactLowCut': WHATEVER THE INPUT: true; the input reads as it did. -/
def fnExactLowCutSpec : ChangeSpec := { name := "fnExactLowCut", fn := fun _ => fun
  | [d] => { results := [.lit (.bool true)], args := [d] }
  | _ => none }
def fnExactLowCutRow : OpenClaim := { program := "ytocblinaclehdaa", sum := "0e984fe2f590f1e229e39626ab9652b139e4e18d56aef48af72b20af2e1de927", func := "loop.example/g01296/laws.FnExactLowCut", spec := "fnExactLowCut", unfollowed := true, recurses := true, apart := false }
def FnExactLowCutSaid : Prop := fnExactLowCutRow.holds Try.pinned (OpenSpec.ofChange fnExactLowCutSpec)

/-- ITS FALSE NEIGHBOUR: 'it returns false'. Refute it at one input. -/
def fnExactLowCutWrong : ChangeSpec := { name := "fnExactLowCut", fn := fun _ => fun
  | [d] => { results := [.lit (.bool false)], args := [d] }
  | _ => none }
def FnExactLowCutWrongFalsely : Prop := fnExactLowCutRow.holds Try.pinned (OpenSpec.ofChange fnExactLowCutWrong)

/-- 'laws.FnExactGrowCut': WHATEVER THE INPUT: true; the input reads as it did. -/
def fnExactGrowCutSpec : ChangeSpec := { name := "fnExactGrowCut", fn := fun _ => fun
  | [d1, d2] => { results := [.lit (.bool true)], args := [d1, d2] }
  | _ => none }
def fnExactGrowCutRow : OpenClaim := { program := "ytocblinaclehdaa", sum := "0e984fe2f590f1e229e39626ab9652b139e4e18d56aef48af72b20af2e1de927", func := "loop.example/g01296/laws.FnExactGrowCut", spec := "fnExactGrowCut", unfollowed := true, recurses := true, apart := false }
def FnExactGrowCutSaid : Prop := fnExactGrowCutRow.holds Try.pinned (OpenSpec.ofChange fnExactGrowCutSpec)

/-- ITS FALSE NEIGHBOUR: 'it returns false'. Refute it at one input. -/
def fnExactGrowCutWrong : ChangeSpec := { name := "fnExactGrowCut", fn := fun _ => fun
  | [d1, d2] => { results := [.lit (.bool false)], args := [d1, d2] }
  | _ => none }
def FnExactGrowCutWrongFalsely : Prop := fnExactGrowCutRow.holds Try.pinned (OpenSpec.ofChange fnExactGrowCutWrong)

/-- 'laws.FnExactIsCutCode': WHATEVER THE INPUT: true; the input reads as it did. -/
def fnExactIsCutCodeSpec : ChangeSpec := { name := "fnExactIsCutCode", fn := fun _ => fun
  | [d] => { results := [.lit (.bool true)], args := [d] }
  | _ => none }
def fnExactIsCutCodeRow : OpenClaim := { program := "ytocblinaclehdaa", sum := "0e984fe2f590f1e229e39626ab9652b139e4e18d56aef48af72b20af2e1de927", func := "loop.example/g01296/laws.FnExactIsCutCode", spec := "fnExactIsCutCode", unfollowed := true, recurses := true, apart := false }
def FnExactIsCutCodeSaid : Prop := fnExactIsCutCodeRow.holds Try.pinned (OpenSpec.ofChange fnExactIsCutCodeSpec)

/-- ITS FALSE NEIGHBOUR: 'it returns false'. Refute it at one input. -/
def fnExactIsCutCodeWrong : ChangeSpec := { name := "fnExactIsCutCode", fn := fun _ => fun
  | [d] => { results := [.lit (.bool false)], args := [d] }
  | _ => none }
def FnExactIsCutCodeWrongFalsely : Prop := fnExactIsCutCodeRow.holds Try.pinned (OpenSpec.ofChange fnExactIsCutCodeWrong)

/-- 'laws.FnExactOrderOfCode': WHATEVER THE INPUT: true; the input reads as it did. -/
def fnExactOrderOfCodeSpec : ChangeSpec := { name := "fnExactOrderOfCode", fn := fun _ => fun
  | [d] => { results := [.lit (.bool true)], args := [d] }
  | _ => none }
def fnExactOrderOfCodeRow : OpenClaim := { program := "ytocblinaclehdaa", sum := "0e984fe2f590f1e229e39626ab9652b139e4e18d56aef48af72b20af2e1de927", func := "loop.example/g01296/laws.FnExactOrderOfCode", spec := "fnExactOrderOfCode", unfollowed := true, recurses := true, apart := false }
def FnExactOrderOfCodeSaid : Prop := fnExactOrderOfCodeRow.holds Try.pinned (OpenSpec.ofChange fnExactOrderOfCodeSpec)

/-- ITS FALSE NEIGHBOUR: 'it returns false'. Refute it at one input. -/
def fnExactOrderOfCodeWrong : ChangeSpec := { name := "fnExactOrderOfCode", fn := fun _ => fun
  | [d] => { results := [.lit (.bool false)], args := [d] }
  | _ => none }
def FnExactOrderOfCodeWrongFalsely : Prop := fnExactOrderOfCodeRow.holds Try.pinned (OpenSpec.ofChange fnExactOrderOfCodeWrong)

/-- 'laws.FnExactWidthOfCode': WHATEVER THE INPUT: true; the input reads as it did. -/
def fnExactWidthOfCodeSpec : ChangeSpec := { name := "fnExactWidthOfCode", fn := fun _ => fun
  | [d] => { results := [.lit (.bool true)], args := [d] }
  | _ => none }
def fnExactWidthOfCodeRow : OpenClaim := { program := "ytocblinaclehdaa", sum := "0e984fe2f590f1e229e39626ab9652b139e4e18d56aef48af72b20af2e1de927", func := "loop.example/g01296/laws.FnExactWidthOfCode", spec := "fnExactWidthOfCode", unfollowed := true, recurses := true, apart := false }
def FnExactWidthOfCodeSaid : Prop := fnExactWidthOfCodeRow.holds Try.pinned (OpenSpec.ofChange fnExactWidthOfCodeSpec)

/-- ITS FALSE NEIGHBOUR: 'it returns false'. Refute it at one input. -/
def fnExactWidthOfCodeWrong : ChangeSpec := { name := "fnExactWidthOfCode", fn := fun _ => fun
  | [d] => { results := [.lit (.bool false)], args := [d] }
  | _ => none }
def FnExactWidthOfCodeWrongFalsely : Prop := fnExactWidthOfCodeRow.holds Try.pinned (OpenSpec.ofChange fnExactWidthOfCodeWrong)

/-- 'laws.FnExactCompareCodes': WHATEVER THE INPUT: true; the input reads as it did. -/
def fnExactCompareCodesSpec : ChangeSpec := { name := "fnExactCompareCodes", fn := fun _ => fun
  | [d1, d2] => { results := [.lit (.bool true)], args := [d1, d2] }
  | _ => none }
def fnExactCompareCodesRow : OpenClaim := { program := "ytocblinaclehdaa", sum := "0e984fe2f590f1e229e39626ab9652b139e4e18d56aef48af72b20af2e1de927", func := "loop.example/g01296/laws.FnExactCompareCodes", spec := "fnExactCompareCodes", unfollowed := true, recurses := true, apart := false }
def FnExactCompareCodesSaid : Prop := fnExactCompareCodesRow.holds Try.pinned (OpenSpec.ofChange fnExactCompareCodesSpec)

/-- ITS FALSE NEIGHBOUR: 'it returns false'. Refute it at one input. -/
def fnExactCompareCodesWrong : ChangeSpec := { name := "fnExactCompareCodes", fn := fun _ => fun
  | [d1, d2] => { results := [.lit (.bool false)], args := [d1, d2] }
  | _ => none }
def FnExactCompareCodesWrongFalsely : Prop := fnExactCompareCodesRow.holds Try.pinned (OpenSpec.ofChange fnExactCompareCodesWrong)

/-- 'laws.FnExactCutOfCode': WHATEVER THE INPUT: true; the input reads as it did. -/
def fnExactCutOfCodeSpec : ChangeSpec := { name := "fnExactCutOfCode", fn := fun _ => fun
  | [d] => { results := [.lit (.bool true)], args := [d] }
  | _ => none }
def fnExactCutOfCodeRow : OpenClaim := { program := "ytocblinaclehdaa", sum := "0e984fe2f590f1e229e39626ab9652b139e4e18d56aef48af72b20af2e1de927", func := "loop.example/g01296/laws.FnExactCutOfCode", spec := "fnExactCutOfCode", unfollowed := true, recurses := true, apart := false }
def FnExactCutOfCodeSaid : Prop := fnExactCutOfCodeRow.holds Try.pinned (OpenSpec.ofChange fnExactCutOfCodeSpec)

/-- ITS FALSE NEIGHBOUR: 'it returns false'. Refute it at one input. -/
def fnExactCutOfCodeWrong : ChangeSpec := { name := "fnExactCutOfCode", fn := fun _ => fun
  | [d] => { results := [.lit (.bool false)], args := [d] }
  | _ => none }
def FnExactCutOfCodeWrongFalsely : Prop := fnExactCutOfCodeRow.holds Try.pinned (OpenSpec.ofChange fnExactCutOfCodeWrong)

/- THE SECOND FORM. 'bulk': how many values and letters a reading holds, each counted each time it is reached (what is shared counts as often as it is met; a slice's spare places count too). A statement '..UptoSaid' is the law's where the arguments, and the package variables that the reading takes, are together of bulk at most 1048576: NARROWER than '..Said'. Prove '..Said' where nothing that the law and all that it calls make is longer than what came in: it says more and counts as full. Else prove '..UptoSaid'. A law counts once. -/
mutual
def uptoBulk {H : Type} : DataW H → Nat
  | .lit (.string bytes) => bytes.length + 1
  | .lit _ => 1
  | .nil => 1
  | .ptr d => uptoBulk d + 1
  | .slice elems spare => uptoBulkAll elems + uptoBulkAll spare + 1
  | .agg parts => uptoBulkAll parts + 1
  | .iface _ d => uptoBulk d + 1
  | .map entries => uptoBulkEntries entries + 1
  | .held _ => 1
def uptoBulkAll {H : Type} : List (DataW H) → Nat
  | [] => 0
  | d :: r => uptoBulk d + uptoBulkAll r
def uptoBulkEntries {H : Type} : List (Lit × DataW H) → Nat
  | [] => 0
  | x :: r => uptoBulkEntry x + uptoBulkEntries r
def uptoBulkEntry {H : Type} : Lit × DataW H → Nat
  | (.string bytes, d) => bytes.length + uptoBulk d + 1
  | (_, d) => uptoBulk d + 1
 end
def uptoSmall : (H : Type) → List (DataW H) → Bool := fun _ ds => decide (uptoBulkAll ds ≤ 1048576)
def OpenSpec.upto (s : _root_.Go.ChangeSpec) : _root_.Go.OpenSpec := { _root_.Go.OpenSpec.ofChange s with cond := some uptoSmall }

/-- 'laws.FnExactLevelsOf', WHERE WHAT IT READS IS OF BULK AT MOST 1048576: true; the input reads as it did. -/
def fnExactLevelsOfUptoRow : OpenClaim := { program := "ytocblinaclehdaa", sum := "0e984fe2f590f1e229e39626ab9652b139e4e18d56aef48af72b20af2e1de927", func := "loop.example/g01296/laws.FnExactLevelsOf", spec := "fnExactLevelsOf", unfollowed := true, recurses := true, apart := false, narrowed := true }
def FnExactLevelsOfUptoSaid : Prop := fnExactLevelsOfUptoRow.holds Try.pinned (OpenSpec.upto fnExactLevelsOfSpec)

/-- 'laws.FnExactLongestLine', WHERE WHAT IT READS IS OF BULK AT MOST 1048576: true; the input reads as it did. -/
def fnExactLongestLineUptoRow : OpenClaim := { program := "ytocblinaclehdaa", sum := "0e984fe2f590f1e229e39626ab9652b139e4e18d56aef48af72b20af2e1de927", func := "loop.example/g01296/laws.FnExactLongestLine", spec := "fnExactLongestLine", unfollowed := true, recurses := true, apart := false, narrowed := true }
def FnExactLongestLineUptoSaid : Prop := fnExactLongestLineUptoRow.holds Try.pinned (OpenSpec.upto fnExactLongestLineSpec)

/-- 'laws.FnExactIsPerfect', WHERE WHAT IT READS IS OF BULK AT MOST 1048576: true; the input reads as it did. -/
def fnExactIsPerfectUptoRow : OpenClaim := { program := "ytocblinaclehdaa", sum := "0e984fe2f590f1e229e39626ab9652b139e4e18d56aef48af72b20af2e1de927", func := "loop.example/g01296/laws.FnExactIsPerfect", spec := "fnExactIsPerfect", unfollowed := true, recurses := true, apart := false, narrowed := true }
def FnExactIsPerfectUptoSaid : Prop := fnExactIsPerfectUptoRow.holds Try.pinned (OpenSpec.upto fnExactIsPerfectSpec)

/-- 'laws.FnExactMirrorCut', WHERE WHAT IT READS IS OF BULK AT MOST 1048576: true; the input reads as it did. -/
def fnExactMirrorCutUptoRow : OpenClaim := { program := "ytocblinaclehdaa", sum := "0e984fe2f590f1e229e39626ab9652b139e4e18d56aef48af72b20af2e1de927", func := "loop.example/g01296/laws.FnExactMirrorCut", spec := "fnExactMirrorCut", unfollowed := true, recurses := true, apart := false, narrowed := true }
def FnExactMirrorCutUptoSaid : Prop := fnExactMirrorCutUptoRow.holds Try.pinned (OpenSpec.upto fnExactMirrorCutSpec)

/-- 'laws.FnExactTurnCut', WHERE WHAT IT READS IS OF BULK AT MOST 1048576: true; the input reads as it did. -/
def fnExactTurnCutUptoRow : OpenClaim := { program := "ytocblinaclehdaa", sum := "0e984fe2f590f1e229e39626ab9652b139e4e18d56aef48af72b20af2e1de927", func := "loop.example/g01296/laws.FnExactTurnCut", spec := "fnExactTurnCut", unfollowed := true, recurses := true, apart := false, narrowed := true }
def FnExactTurnCutUptoSaid : Prop := fnExactTurnCutUptoRow.holds Try.pinned (OpenSpec.upto fnExactTurnCutSpec)

/-- 'laws.FnExactLowCut', WHERE WHAT IT READS IS OF BULK AT MOST 1048576: true; the input reads as it did. -/
def fnExactLowCutUptoRow : OpenClaim := { program := "ytocblinaclehdaa", sum := "0e984fe2f590f1e229e39626ab9652b139e4e18d56aef48af72b20af2e1de927", func := "loop.example/g01296/laws.FnExactLowCut", spec := "fnExactLowCut", unfollowed := true, recurses := true, apart := false, narrowed := true }
def FnExactLowCutUptoSaid : Prop := fnExactLowCutUptoRow.holds Try.pinned (OpenSpec.upto fnExactLowCutSpec)

/-- 'laws.FnExactGrowCut', WHERE WHAT IT READS IS OF BULK AT MOST 1048576: true; the input reads as it did. -/
def fnExactGrowCutUptoRow : OpenClaim := { program := "ytocblinaclehdaa", sum := "0e984fe2f590f1e229e39626ab9652b139e4e18d56aef48af72b20af2e1de927", func := "loop.example/g01296/laws.FnExactGrowCut", spec := "fnExactGrowCut", unfollowed := true, recurses := true, apart := false, narrowed := true }
def FnExactGrowCutUptoSaid : Prop := fnExactGrowCutUptoRow.holds Try.pinned (OpenSpec.upto fnExactGrowCutSpec)

/-- 'laws.FnExactIsCutCode', WHERE WHAT IT READS IS OF BULK AT MOST 1048576: true; the input reads as it did. -/
def fnExactIsCutCodeUptoRow : OpenClaim := { program := "ytocblinaclehdaa", sum := "0e984fe2f590f1e229e39626ab9652b139e4e18d56aef48af72b20af2e1de927", func := "loop.example/g01296/laws.FnExactIsCutCode", spec := "fnExactIsCutCode", unfollowed := true, recurses := true, apart := false, narrowed := true }
def FnExactIsCutCodeUptoSaid : Prop := fnExactIsCutCodeUptoRow.holds Try.pinned (OpenSpec.upto fnExactIsCutCodeSpec)

/-- 'laws.FnExactOrderOfCode', WHERE WHAT IT READS IS OF BULK AT MOST 1048576: true; the input reads as it did. -/
def fnExactOrderOfCodeUptoRow : OpenClaim := { program := "ytocblinaclehdaa", sum := "0e984fe2f590f1e229e39626ab9652b139e4e18d56aef48af72b20af2e1de927", func := "loop.example/g01296/laws.FnExactOrderOfCode", spec := "fnExactOrderOfCode", unfollowed := true, recurses := true, apart := false, narrowed := true }
def FnExactOrderOfCodeUptoSaid : Prop := fnExactOrderOfCodeUptoRow.holds Try.pinned (OpenSpec.upto fnExactOrderOfCodeSpec)

/-- 'laws.FnExactWidthOfCode', WHERE WHAT IT READS IS OF BULK AT MOST 1048576: true; the input reads as it did. -/
def fnExactWidthOfCodeUptoRow : OpenClaim := { program := "ytocblinaclehdaa", sum := "0e984fe2f590f1e229e39626ab9652b139e4e18d56aef48af72b20af2e1de927", func := "loop.example/g01296/laws.FnExactWidthOfCode", spec := "fnExactWidthOfCode", unfollowed := true, recurses := true, apart := false, narrowed := true }
def FnExactWidthOfCodeUptoSaid : Prop := fnExactWidthOfCodeUptoRow.holds Try.pinned (OpenSpec.upto fnExactWidthOfCodeSpec)

/-- 'laws.FnExactCompareCodes', WHERE WHAT IT READS IS OF BULK AT MOST 1048576: true; the input reads as it did. -/
def fnExactCompareCodesUptoRow : OpenClaim := { program := "ytocblinaclehdaa", sum := "0e984fe2f590f1e229e39626ab9652b139e4e18d56aef48af72b20af2e1de927", func := "loop.example/g01296/laws.FnExactCompareCodes", spec := "fnExactCompareCodes", unfollowed := true, recurses := true, apart := false, narrowed := true }
def FnExactCompareCodesUptoSaid : Prop := fnExactCompareCodesUptoRow.holds Try.pinned (OpenSpec.upto fnExactCompareCodesSpec)

/-- 'laws.FnExactCutOfCode', WHERE WHAT IT READS IS OF BULK AT MOST 1048576: true; the input reads as it did. -/
def fnExactCutOfCodeUptoRow : OpenClaim := { program := "ytocblinaclehdaa", sum := "0e984fe2f590f1e229e39626ab9652b139e4e18d56aef48af72b20af2e1de927", func := "loop.example/g01296/laws.FnExactCutOfCode", spec := "fnExactCutOfCode", unfollowed := true, recurses := true, apart := false, narrowed := true }
def FnExactCutOfCodeUptoSaid : Prop := fnExactCutOfCodeUptoRow.holds Try.pinned (OpenSpec.upto fnExactCutOfCodeSpec)

end Rows
end Go.Proofs.Ytocblinaclehdaa
