/-
  No cell of these rows narrows 'for every input' (looked for: loops, veiled, ifaces, maps, wideKeys, modest, calm, conditions, laid).
  DERIVED. THE GIVEN ROWS OF THIS SEAT. 6 by the template 'for every input the law returns true; each argument reads behind the call as it read before'; 0 by the template 'total and deterministic' (their statements: YtpeldebkflpjbaaTotals.lean).
  GIVEN WITH THE SEED: the statements are not yours to turn. If you find one false, say at which input.
  Laid BY PROGRAM, IN A SANDBOX (cutbox-rows.mjs): the forced cells as the released guide's own fill.sh prints them over the translation 1f1b03ed695daaf6… (all of the seat's roots in one cut). By AI agents, Wed Nov 11 2026. No macro, syntax, notation, axiom, sorry.
-/
import Derived.Test.YtpeldebkflpjbaaChecked
import GoSem.Claim
import GoSem.ClaimJoined
import GoSem.ClaimMapViews
import Derived.JoinedTies
import Derived.KernelRfl
namespace Go.Proofs.Ytpeldebkflpjbaa
/- THE CELL 'sum', in the pinned program and in every row, IS THE sha256 OF THE DUMP (.gsa) THAT YtpeldebkflpjbaaProg.lean LOADS. Nothing in Lean hashes anything: it is a label: what it is worth is what the hold of that sum in a sandbox is worth. -/
noncomputable def Try.pinned : Pinned := { name := "ytpeldebkflpjbaa", sum := "1f1b03ed695daaf6b85dabd9e47284dc8cb489a47039edf54d3f2f0161ad30d3", checked := Try.checked }
namespace Rows
def none {H : Type} : Left H := { results := [], args := [] }

/-- 'laws.FnExactConstants': WHATEVER THE INPUT: true; the input reads as it did. -/
def fnExactConstantsSpec : ChangeSpec := { name := "fnExactConstants", fn := fun _ => fun
  | [] => { results := [.lit (.bool true)], args := [] }
  | _ => none }
def fnExactConstantsRow : OpenClaim := { program := "ytpeldebkflpjbaa", sum := "1f1b03ed695daaf6b85dabd9e47284dc8cb489a47039edf54d3f2f0161ad30d3", func := "loop.example/g01296/laws.FnExactConstants", spec := "fnExactConstants", apart := false }
def FnExactConstantsSaid : Prop := fnExactConstantsRow.holds Try.pinned (OpenSpec.ofChange fnExactConstantsSpec)

/-- ITS FALSE NEIGHBOUR: 'it returns false'. Refute it at one input. -/
def fnExactConstantsWrong : ChangeSpec := { name := "fnExactConstants", fn := fun _ => fun
  | [] => { results := [.lit (.bool false)], args := [] }
  | _ => none }
def FnExactConstantsWrongFalsely : Prop := fnExactConstantsRow.holds Try.pinned (OpenSpec.ofChange fnExactConstantsWrong)

/-- 'laws.FnExactCountRatios': WHATEVER THE INPUT: true; the input reads as it did. -/
def fnExactCountRatiosSpec : ChangeSpec := { name := "fnExactCountRatios", fn := fun _ => fun
  | [d] => { results := [.lit (.bool true)], args := [d] }
  | _ => none }
def fnExactCountRatiosRow : OpenClaim := { program := "ytpeldebkflpjbaa", sum := "1f1b03ed695daaf6b85dabd9e47284dc8cb489a47039edf54d3f2f0161ad30d3", func := "loop.example/g01296/laws.FnExactCountRatios", spec := "fnExactCountRatios", apart := false }
def FnExactCountRatiosSaid : Prop := fnExactCountRatiosRow.holds Try.pinned (OpenSpec.ofChange fnExactCountRatiosSpec)

/-- ITS FALSE NEIGHBOUR: 'it returns false'. Refute it at one input. -/
def fnExactCountRatiosWrong : ChangeSpec := { name := "fnExactCountRatios", fn := fun _ => fun
  | [d] => { results := [.lit (.bool false)], args := [d] }
  | _ => none }
def FnExactCountRatiosWrongFalsely : Prop := fnExactCountRatiosRow.holds Try.pinned (OpenSpec.ofChange fnExactCountRatiosWrong)

/-- 'laws.FnExactGreatestRatio': WHATEVER THE INPUT: true; the input reads as it did. -/
def fnExactGreatestRatioSpec : ChangeSpec := { name := "fnExactGreatestRatio", fn := fun _ => fun
  | [d] => { results := [.lit (.bool true)], args := [d] }
  | _ => none }
def fnExactGreatestRatioRow : OpenClaim := { program := "ytpeldebkflpjbaa", sum := "1f1b03ed695daaf6b85dabd9e47284dc8cb489a47039edf54d3f2f0161ad30d3", func := "loop.example/g01296/laws.FnExactGreatestRatio", spec := "fnExactGreatestRatio", apart := false }
def FnExactGreatestRatioSaid : Prop := fnExactGreatestRatioRow.holds Try.pinned (OpenSpec.ofChange fnExactGreatestRatioSpec)

/-- ITS FALSE NEIGHBOUR: 'it returns false'. Refute it at one input. -/
def fnExactGreatestRatioWrong : ChangeSpec := { name := "fnExactGreatestRatio", fn := fun _ => fun
  | [d] => { results := [.lit (.bool false)], args := [d] }
  | _ => none }
def FnExactGreatestRatioWrongFalsely : Prop := fnExactGreatestRatioRow.holds Try.pinned (OpenSpec.ofChange fnExactGreatestRatioWrong)

/-- 'laws.FnExactWordOfRatio': WHATEVER THE INPUT: true; the input reads as it did. -/
def fnExactWordOfRatioSpec : ChangeSpec := { name := "fnExactWordOfRatio", fn := fun _ => fun
  | [d1, d2] => { results := [.lit (.bool true)], args := [d1, d2] }
  | _ => none }
def fnExactWordOfRatioRow : OpenClaim := { program := "ytpeldebkflpjbaa", sum := "1f1b03ed695daaf6b85dabd9e47284dc8cb489a47039edf54d3f2f0161ad30d3", func := "loop.example/g01296/laws.FnExactWordOfRatio", spec := "fnExactWordOfRatio", apart := false }
def FnExactWordOfRatioSaid : Prop := fnExactWordOfRatioRow.holds Try.pinned (OpenSpec.ofChange fnExactWordOfRatioSpec)

/-- ITS FALSE NEIGHBOUR: 'it returns false'. Refute it at one input. -/
def fnExactWordOfRatioWrong : ChangeSpec := { name := "fnExactWordOfRatio", fn := fun _ => fun
  | [d1, d2] => { results := [.lit (.bool false)], args := [d1, d2] }
  | _ => none }
def FnExactWordOfRatioWrongFalsely : Prop := fnExactWordOfRatioRow.holds Try.pinned (OpenSpec.ofChange fnExactWordOfRatioWrong)

/-- 'laws.FnExactIsSquareRatio': WHATEVER THE INPUT: true; the input reads as it did. -/
def fnExactIsSquareRatioSpec : ChangeSpec := { name := "fnExactIsSquareRatio", fn := fun _ => fun
  | [d1, d2, d3] => { results := [.lit (.bool true)], args := [d1, d2, d3] }
  | _ => none }
def fnExactIsSquareRatioRow : OpenClaim := { program := "ytpeldebkflpjbaa", sum := "1f1b03ed695daaf6b85dabd9e47284dc8cb489a47039edf54d3f2f0161ad30d3", func := "loop.example/g01296/laws.FnExactIsSquareRatio", spec := "fnExactIsSquareRatio", apart := false }
def FnExactIsSquareRatioSaid : Prop := fnExactIsSquareRatioRow.holds Try.pinned (OpenSpec.ofChange fnExactIsSquareRatioSpec)

/-- ITS FALSE NEIGHBOUR: 'it returns false'. Refute it at one input. -/
def fnExactIsSquareRatioWrong : ChangeSpec := { name := "fnExactIsSquareRatio", fn := fun _ => fun
  | [d1, d2, d3] => { results := [.lit (.bool false)], args := [d1, d2, d3] }
  | _ => none }
def FnExactIsSquareRatioWrongFalsely : Prop := fnExactIsSquareRatioRow.holds Try.pinned (OpenSpec.ofChange fnExactIsSquareRatioWrong)

/-- 'laws.FnExactCountGreedy': WHATEVER THE INPUT: true; the input reads as it did. -/
def fnExactCountGreedySpec : ChangeSpec := { name := "fnExactCountGreedy", fn := fun _ => fun
  | [d1, d2] => { results := [.lit (.bool true)], args := [d1, d2] }
  | _ => none }
def fnExactCountGreedyRow : OpenClaim := { program := "ytpeldebkflpjbaa", sum := "1f1b03ed695daaf6b85dabd9e47284dc8cb489a47039edf54d3f2f0161ad30d3", func := "loop.example/g01296/laws.FnExactCountGreedy", spec := "fnExactCountGreedy", apart := false }
def FnExactCountGreedySaid : Prop := fnExactCountGreedyRow.holds Try.pinned (OpenSpec.ofChange fnExactCountGreedySpec)

/-- ITS FALSE NEIGHBOUR: 'it returns false'. Refute it at one input. -/
def fnExactCountGreedyWrong : ChangeSpec := { name := "fnExactCountGreedy", fn := fun _ => fun
  | [d1, d2] => { results := [.lit (.bool false)], args := [d1, d2] }
  | _ => none }
def FnExactCountGreedyWrongFalsely : Prop := fnExactCountGreedyRow.holds Try.pinned (OpenSpec.ofChange fnExactCountGreedyWrong)

/- THE SECOND FORM. 'bulk': how many values and letters a reading holds, each counted each time it is reached (what is shared counts as often as it is met; a slice's spare places count too). A statement '..UptoSaid' is the law's where the arguments, and the package variables that the reading takes, are together of bulk at most 1048576: NARROWER than '..Said'. Prove '..Said' where nothing that the law and all that it calls make is longer than what came in: it says more and counts as full. Else prove '..UptoSaid'. A law counts once. -/
mutual
def uptoBulk {H : Type} : DataW H → Nat
  | .lit (.string bytes) => bytes.length + 1
  | .lit _ => 1
  | .nil => 1
  | .ptr d => uptoBulk d + 1
  | .slice elems spare => uptoBulkAll elems + uptoBulkAll spare + 1
  | .agg parts => uptoBulkAll parts + 1
  | .iface _ d => uptoBulk d + 1
  | .map entries => uptoBulkEntries entries + 1
  | .held _ => 1
def uptoBulkAll {H : Type} : List (DataW H) → Nat
  | [] => 0
  | d :: r => uptoBulk d + uptoBulkAll r
def uptoBulkEntries {H : Type} : List (Lit × DataW H) → Nat
  | [] => 0
  | x :: r => uptoBulkEntry x + uptoBulkEntries r
def uptoBulkEntry {H : Type} : Lit × DataW H → Nat
  | (.string bytes, d) => bytes.length + uptoBulk d + 1
  | (_, d) => uptoBulk d + 1
 end
def uptoSmall : (H : Type) → List (DataW H) → Bool := fun _ ds => decide (uptoBulkAll ds ≤ 1048576)
def OpenSpec.upto (s : _root_.Go.ChangeSpec) : _root_.Go.OpenSpec := { _root_.Go.OpenSpec.ofChange s with cond := some uptoSmall }

/-- 'laws.FnExactConstants', WHERE WHAT IT READS IS OF BULK AT MOST 1048576: true; the input reads as it did. -/
def fnExactConstantsUptoRow : OpenClaim := { program := "ytpeldebkflpjbaa", sum := "1f1b03ed695daaf6b85dabd9e47284dc8cb489a47039edf54d3f2f0161ad30d3", func := "loop.example/g01296/laws.FnExactConstants", spec := "fnExactConstants", apart := false, narrowed := true }
def FnExactConstantsUptoSaid : Prop := fnExactConstantsUptoRow.holds Try.pinned (OpenSpec.upto fnExactConstantsSpec)

/-- 'laws.FnExactCountRatios', WHERE WHAT IT READS IS OF BULK AT MOST 1048576: true; the input reads as it did. -/
def fnExactCountRatiosUptoRow : OpenClaim := { program := "ytpeldebkflpjbaa", sum := "1f1b03ed695daaf6b85dabd9e47284dc8cb489a47039edf54d3f2f0161ad30d3", func := "loop.example/g01296/laws.FnExactCountRatios", spec := "fnExactCountRatios", apart := false, narrowed := true }
def FnExactCountRatiosUptoSaid : Prop := fnExactCountRatiosUptoRow.holds Try.pinned (OpenSpec.upto fnExactCountRatiosSpec)

/-- 'laws.FnExactGreatestRatio', WHERE WHAT IT READS IS OF BULK AT MOST 1048576: true; the input reads as it did. -/
def fnExactGreatestRatioUptoRow : OpenClaim := { program := "ytpeldebkflpjbaa", sum := "1f1b03ed695daaf6b85dabd9e47284dc8cb489a47039edf54d3f2f0161ad30d3", func := "loop.example/g01296/laws.FnExactGreatestRatio", spec := "fnExactGreatestRatio", apart := false, narrowed := true }
def FnExactGreatestRatioUptoSaid : Prop := fnExactGreatestRatioUptoRow.holds Try.pinned (OpenSpec.upto fnExactGreatestRatioSpec)

/-- 'laws.FnExactWordOfRatio', WHERE WHAT IT READS IS OF BULK AT MOST 1048576: true; the input reads as it did. -/
def fnExactWordOfRatioUptoRow : OpenClaim := { program := "ytpeldebkflpjbaa", sum := "1f1b03ed695daaf6b85dabd9e47284dc8cb489a47039edf54d3f2f0161ad30d3", func := "loop.example/g01296/laws.FnExactWordOfRatio", spec := "fnExactWordOfRatio", apart := false, narrowed := true }
def FnExactWordOfRatioUptoSaid : Prop := fnExactWordOfRatioUptoRow.holds Try.pinned (OpenSpec.upto fnExactWordOfRatioSpec)

/-- 'laws.FnExactIsSquareRatio', WHERE WHAT IT READS IS OF BULK AT MOST 1048576: true; the input reads as it did. -/
def fnExactIsSquareRatioUptoRow : OpenClaim := { program := "ytpeldebkflpjbaa", sum := "1f1b03ed695daaf6b85dabd9e47284dc8cb489a47039edf54d3f2f0161ad30d3", func := "loop.example/g01296/laws.FnExactIsSquareRatio", spec := "fnExactIsSquareRatio", apart := false, narrowed := true }
def FnExactIsSquareRatioUptoSaid : Prop := fnExactIsSquareRatioUptoRow.holds Try.pinned (OpenSpec.upto fnExactIsSquareRatioSpec)

/-- 'laws.FnExactCountGreedy', WHERE WHAT IT READS IS OF BULK AT MOST 1048576: true; the input reads as it did. -/
def fnExactCountGreedyUptoRow : OpenClaim := { program := "ytpeldebkflpjbaa", sum := "1f1b03ed695daaf6b85dabd9e47284dc8cb489a47039edf54d3f2f0161ad30d3", func := "loop.example/g01296/laws.FnExactCountGreedy", spec := "fnExactCountGreedy", apart := false, narrowed := true }
def FnExactCountGreedyUptoSaid : Prop := fnExactCountGreedyUptoRow.holds Try.pinned (OpenSpec.upto fnExactCountGreedySpec)

end Rows
end Go.Proofs.Ytpeldebkflpjbaa
