/-
  No cell of these rows narrows 'for every input' (looked for: loops, veiled, ifaces, maps, wideKeys, modest, calm, conditions, laid).
  DERIVED. THE GIVEN ROWS OF THIS SEAT. 3 by the template 'for every input the law returns true; each argument reads behind the call as it read before'; 0 by the template 'total and deterministic' (their statements: YtpoikgjhdlipdaaTotals.lean).
  GIVEN WITH THE SEED: the statements are not yours to turn. If you find one false, say at which input.
  Laid BY PROGRAM, IN A SANDBOX (cutbox-rows.mjs): the forced cells as the released guide's own fill.sh prints them over the translation b1d5b489fb51c8d9… (all of the seat's roots in one cut). By AI agents, Wed Nov 11 2026. No macro, syntax, notation, axiom, sorry.
-/
import Derived.Test.YtpoikgjhdlipdaaChecked
import GoSem.Claim
import GoSem.ClaimJoined
import GoSem.ClaimMapViews
import Derived.JoinedTies
import Derived.KernelRfl
namespace Go.Proofs.Ytpoikgjhdlipdaa
/- THE CELL 'sum', in the pinned program and in every row, IS THE sha256 OF THE DUMP (.gsa) THAT YtpoikgjhdlipdaaProg.lean LOADS. Nothing in Lean hashes anything: it is a label: what it is worth is what the hold of that sum in a sandbox is worth. -/
noncomputable def Try.pinned : Pinned := { name := "ytpoikgjhdlipdaa", sum := "b1d5b489fb51c8d9ec44fc3da1ba0181c61288acf36d5f3a8177d528f1c4db1d", checked := Try.checked }
namespace Rows
def none {H : Type} : Left H := { results := [], args := [] }

/-- 'laws.FnExactMirrorCode': WHATEVER THE INPUT: true; the input reads as it did. -/
def fnExactMirrorCodeSpec : ChangeSpec := { name := "fnExactMirrorCode", fn := fun _ => fun
  | [d] => { results := [.lit (.bool true)], args := [d] }
  | _ => none }
def fnExactMirrorCodeRow : OpenClaim := { program := "ytpoikgjhdlipdaa", sum := "b1d5b489fb51c8d9ec44fc3da1ba0181c61288acf36d5f3a8177d528f1c4db1d", func := "loop.example/g01296/laws.FnExactMirrorCode", spec := "fnExactMirrorCode", unfollowed := true, recurses := true, apart := false }
def FnExactMirrorCodeSaid : Prop := fnExactMirrorCodeRow.holds Try.pinned (OpenSpec.ofChange fnExactMirrorCodeSpec)

/-- ITS FALSE NEIGHBOUR: 'it returns false'. Refute it at one input. -/
def fnExactMirrorCodeWrong : ChangeSpec := { name := "fnExactMirrorCode", fn := fun _ => fun
  | [d] => { results := [.lit (.bool false)], args := [d] }
  | _ => none }
def FnExactMirrorCodeWrongFalsely : Prop := fnExactMirrorCodeRow.holds Try.pinned (OpenSpec.ofChange fnExactMirrorCodeWrong)

/-- 'laws.FnExactTurnCode': WHATEVER THE INPUT: true; the input reads as it did. -/
def fnExactTurnCodeSpec : ChangeSpec := { name := "fnExactTurnCode", fn := fun _ => fun
  | [d] => { results := [.lit (.bool true)], args := [d] }
  | _ => none }
def fnExactTurnCodeRow : OpenClaim := { program := "ytpoikgjhdlipdaa", sum := "b1d5b489fb51c8d9ec44fc3da1ba0181c61288acf36d5f3a8177d528f1c4db1d", func := "loop.example/g01296/laws.FnExactTurnCode", spec := "fnExactTurnCode", unfollowed := true, recurses := true, apart := false }
def FnExactTurnCodeSaid : Prop := fnExactTurnCodeRow.holds Try.pinned (OpenSpec.ofChange fnExactTurnCodeSpec)

/-- ITS FALSE NEIGHBOUR: 'it returns false'. Refute it at one input. -/
def fnExactTurnCodeWrong : ChangeSpec := { name := "fnExactTurnCode", fn := fun _ => fun
  | [d] => { results := [.lit (.bool false)], args := [d] }
  | _ => none }
def FnExactTurnCodeWrongFalsely : Prop := fnExactTurnCodeRow.holds Try.pinned (OpenSpec.ofChange fnExactTurnCodeWrong)

/-- 'laws.FnExactGrowCode': WHATEVER THE INPUT: true; the input reads as it did. -/
def fnExactGrowCodeSpec : ChangeSpec := { name := "fnExactGrowCode", fn := fun _ => fun
  | [d1, d2] => { results := [.lit (.bool true)], args := [d1, d2] }
  | _ => none }
def fnExactGrowCodeRow : OpenClaim := { program := "ytpoikgjhdlipdaa", sum := "b1d5b489fb51c8d9ec44fc3da1ba0181c61288acf36d5f3a8177d528f1c4db1d", func := "loop.example/g01296/laws.FnExactGrowCode", spec := "fnExactGrowCode", unfollowed := true, recurses := true, apart := false }
def FnExactGrowCodeSaid : Prop := fnExactGrowCodeRow.holds Try.pinned (OpenSpec.ofChange fnExactGrowCodeSpec)

/-- ITS FALSE NEIGHBOUR: 'it returns false'. Refute it at one input. -/
def fnExactGrowCodeWrong : ChangeSpec := { name := "fnExactGrowCode", fn := fun _ => fun
  | [d1, d2] => { results := [.lit (.bool false)], args := [d1, d2] }
  | _ => none }
def FnExactGrowCodeWrongFalsely : Prop := fnExactGrowCodeRow.holds Try.pinned (OpenSpec.ofChange fnExactGrowCodeWrong)

/- THE SECOND FORM. 'bulk': how many values and letters a reading holds, each counted each time it is reached (what is shared counts as often as it is met; a slice's spare places count too). A statement '..UptoSaid' is the law's where the arguments, and the package variables that the reading takes, are together of bulk at most 1048576: NARROWER than '..Said'. Prove '..Said' where nothing that the law and all that it calls make is longer than what came in: it says more and counts as full. Else prove '..UptoSaid'. A law counts once. -/
mutual
def uptoBulk {H : Type} : DataW H → Nat
  | .lit (.string bytes) => bytes.length + 1
  | .lit _ => 1
  | .nil => 1
  | .ptr d => uptoBulk d + 1
  | .slice elems spare => uptoBulkAll elems + uptoBulkAll spare + 1
  | .agg parts => uptoBulkAll parts + 1
  | .iface _ d => uptoBulk d + 1
  | .map entries => uptoBulkEntries entries + 1
  | .held _ => 1
def uptoBulkAll {H : Type} : List (DataW H) → Nat
  | [] => 0
  | d :: r => uptoBulk d + uptoBulkAll r
def uptoBulkEntries {H : Type} : List (Lit × DataW H) → Nat
  | [] => 0
  | x :: r => uptoBulkEntry x + uptoBulkEntries r
def uptoBulkEntry {H : Type} : Lit × DataW H → Nat
  | (.string bytes, d) => bytes.length + uptoBulk d + 1
  | (_, d) => uptoBulk d + 1
 end
def uptoSmall : (H : Type) → List (DataW H) → Bool := fun _ ds => decide (uptoBulkAll ds ≤ 1048576)
def OpenSpec.upto (s : _root_.Go.ChangeSpec) : _root_.Go.OpenSpec := { _root_.Go.OpenSpec.ofChange s with cond := some uptoSmall }

/-- 'laws.FnExactMirrorCode', WHERE WHAT IT READS IS OF BULK AT MOST 1048576: true; the input reads as it did. -/
def fnExactMirrorCodeUptoRow : OpenClaim := { program := "ytpoikgjhdlipdaa", sum := "b1d5b489fb51c8d9ec44fc3da1ba0181c61288acf36d5f3a8177d528f1c4db1d", func := "loop.example/g01296/laws.FnExactMirrorCode", spec := "fnExactMirrorCode", unfollowed := true, recurses := true, apart := false, narrowed := true }
def FnExactMirrorCodeUptoSaid : Prop := fnExactMirrorCodeUptoRow.holds Try.pinned (OpenSpec.upto fnExactMirrorCodeSpec)

/-- 'laws.FnExactTurnCode', WHERE WHAT IT READS IS OF BULK AT MOST 1048576: true; the input reads as it did. -/
def fnExactTurnCodeUptoRow : OpenClaim := { program := "ytpoikgjhdlipdaa", sum := "b1d5b489fb51c8d9ec44fc3da1ba0181c61288acf36d5f3a8177d528f1c4db1d", func := "loop.example/g01296/laws.FnExactTurnCode", spec := "fnExactTurnCode", unfollowed := true, recurses := true, apart := false, narrowed := true }
def FnExactTurnCodeUptoSaid : Prop := fnExactTurnCodeUptoRow.holds Try.pinned (OpenSpec.upto fnExactTurnCodeSpec)

/-- 'laws.FnExactGrowCode', WHERE WHAT IT READS IS OF BULK AT MOST 1048576: true; the input reads as it did. -/
def fnExactGrowCodeUptoRow : OpenClaim := { program := "ytpoikgjhdlipdaa", sum := "b1d5b489fb51c8d9ec44fc3da1ba0181c61288acf36d5f3a8177d528f1c4db1d", func := "loop.example/g01296/laws.FnExactGrowCode", spec := "fnExactGrowCode", unfollowed := true, recurses := true, apart := false, narrowed := true }
def FnExactGrowCodeUptoSaid : Prop := fnExactGrowCodeUptoRow.holds Try.pinned (OpenSpec.upto fnExactGrowCodeSpec)

end Rows
end Go.Proofs.Ytpoikgjhdlipdaa
