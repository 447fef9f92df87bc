-- made for this claim by a program of this session
import Derived.Test.YtlifiingpggocaaRows
import Derived.Test.YtlifiingpggocaaPFnExactRatioOfNetx9
import Derived.Test.YtlifiingpggocaaPureFnExactRatioOfNet
import Derived.Test.YtlifiingpggocaaWGuardMoreInvWords
import Derived.KernelRfl
import Derived.WalkKit
import Derived.ProofKit
import Derived.OpenShut
import Derived.ShutString
import Derived.ChangeOld
import Derived.Below
import Derived.SizedLaws
import Derived.Carry
namespace Go.Proofs.Ytlifiingpggocaa.fnExactRatioOfNet
open Go.ChangeShapes Go.WideShapes Go.ChangeAt Go.RowKit Go.Proofs.YtlifiingpggocaaW.Opens Go.Proofs.YtlifiingpggocaaW.PrintWords Go.Proofs.Ytlifiingpggocaa.PFnExactRatioOfNet
open Go.ChangeMaps (open_string shut_string)
set_option linter.unusedVariables false
theorem own : ownKnob Try.prog.godebug = none := by kernel_rfl
theorem laidOut : laidOutB Try.prog = true := by kernel_rfl
theorem opens_T113 (W : World) : Opens Try.prog W k113 (fun x : S113 => ((Lit.int .i64 x.f0).wf = true) ∧ ((Lit.int .i64 x.f1).wf = true)) 113 := by
 intro H enc spare held fuel cs x h
 obtain ⟨x0, x1, rfl⟩ := two_cells ((open_len Try.underlying113 h).trans (by kernel_rfl))
 obtain ⟨a0, h0, g0⟩ := open_field Try.underlying113 h 0 _ rfl (o := 0) (n := 1) rfl (by kernel_rfl) (Opens.int Try.underlying3)
 obtain rfl : x0 = Value.int .i64 a0 := by injection h0
 obtain ⟨a1, h1, g1⟩ := open_field Try.underlying113 h 1 _ rfl (o := 1) (n := 1) rfl (by kernel_rfl) (Opens.int Try.underlying3)
 obtain rfl : x1 = Value.int .i64 a1 := by injection h1
 exact ⟨⟨a0, a1⟩, k113_mk W ⟨a0, a1⟩, g0, g1⟩

set_option maxRecDepth 100000 in
theorem open_P32 {H : Type} {enc : TypeId × Value → H} {W : World} {v : Value} {d : DataW H} {p : List MemPlace} (hval : Value.okWide Try.prog W .any 0 32 v) (h : DataW.Trod enc Try.prog W 0 (fun _ => true) true 32 v d p) :
  ∃ (a0_0 : Int) (A0_1 : Option Addr) (c0_1 : Nat) (l0_1 : List (S113)), v = .agg #[.int .i64 a0_0, .slice A0_1 l0_1.length c0_1] ∧ ((Lit.int .i64 a0_0).wf = true) ∧ l0_1.length ≤ c0_1 ∧ Kd.C k113 W A0_1 l0_1.length l0_1 ∧ l0_1.length ≤ maxLen ∧ (∀ q ∈ l0_1, ((Lit.int .i64 q.f0).wf = true) ∧ ((Lit.int .i64 q.f1).wf = true)) := by
 obtain ⟨cs, rfl, hsz⟩ := WideShapes.okWide_struct Try.underlying32 hval
 obtain ⟨fuel, h⟩ := h
 obtain ⟨x0, x1, hcs⟩ := two_cells (show cs.toList.length = 2 from (Array.length_toList).trans (hsz.trans (by kernel_rfl)))
 obtain rfl := arr_of hcs
 replace h : DataW.trod enc Try.prog W 0 (fun _ => true) true fuel 32 [x0, x1] = some (d, p) := h
 obtain ⟨a0_0, h0, g0⟩ := open_field Try.underlying32 h 0 _ rfl (o := 0) (n := 1) rfl (by kernel_rfl) (Opens.int Try.underlying3)
 obtain rfl : x0 = Value.int .i64 a0_0 := by injection h0
 obtain ⟨l0_1, ⟨A0_1, c0_1, h1, hl1, hr1⟩, hm1, hw1⟩ := open_field Try.underlying32 h 1 _ rfl (o := 1) (n := 1) rfl (by kernel_rfl) (Opens.slice (e' := 113) Try.underlying30 (by kernel_rfl) (opens_T113 W))
 obtain rfl : x1 = Value.slice A0_1 l0_1.length c0_1 := by injection h1
 exact ⟨a0_0, A0_1, c0_1, l0_1, rfl, g0, hl1, hr1, hm1, hw1⟩

set_option maxRecDepth 100000 in
theorem lifted (os : Os) (started : os.Started) (H : Type) (enc : TypeId × Value → H) :
  ReturnsInHanded {} Try.checked os 4 .any (Rows.fnExactRatioOfNetSpec.pre6 enc Try.prog Try.f4 Rows.fnExactRatioOfNetRow.domain false) (Rows.fnExactRatioOfNetSpec.post enc Try.prog Try.f4 false true false false) := by
 refine returnsInHanded_of_change_sized (C := Try.checked) own started (by kernel_rfl) Try.func4
  (ChangeSpec.witness6 (enc := enc) (C := Try.checked) false ⟨#[], #[.agg #[.int .i64 0, .slice none 0 0]], []⟩ 8 (by kernel_rfl) (by kernel_rfl) (by kernel_rfl) (by kernel_rfl)) ?_
 intro W base args ds gs before hval0 hW hcnd hsz0 _
 have hsz : (DataW.weightsEach Try.prog (Try.f4.params.toList ++ Rows.fnExactRatioOfNetSpec.plain.varTypes Try.prog) (ds ++ gs)).all (· ≤ reachBytes) = true := hsz0
 have hval : ∀ (j : Nat) t v, Try.f4.params[j]? = some t → args[j]? = some v → Value.okWide Try.prog W .any base t v := hval0
 have hW' := hW
 obtain ⟨p, q, hA0, hV, rfl, hfz, hnd⟩ := hW
 have hA : DataW.TrodAll enc Try.prog W 0 (fun _ => true) true Try.f4.params.toList args.toList ds p := hA0
 rw [Try.params4] at hA hval hsz
 obtain ⟨v0, vs0, d0, ds0, p0, q0, hargs, rfl, rfl, h0, r0⟩ := trodAll_cons hA
 obtain ⟨rfl, rfl, rfl⟩ := trodAll_nil r0
 obtain rfl : args = #[v0] := by cases args; simp_all
 obtain ⟨rfl, rfl⟩ := trodVars_none hV
 have k0 := h0
 have lt0 : ∀ x ∈ p0, x.block < W.heap.size := by obtain ⟨m, hm⟩ := k0; exact DataW.trod_lt m _ _ _ hm
 obtain ⟨a0_0, A0_1, c0_1, l0_1, rfl, wf0_0, hc0_1, hr0_1, wm0_1, wf0_1⟩ := open_P32 (hval 0 32 v0 rfl rfl) h0
 clear hA0 hval0 hsz0 hsz
 refine (PFnExactRatioOfNet.laws_FnExactRatioOfNet.walk Pure.FnExactRatioOfNet a0_0 A0_1 c0_1 l0_1 W hr0_1 hc0_1 wf0_0 wm0_1 wf0_1).mono fun e W' ⟨he, bel⟩ => ?_
 subst he
 exact ⟨_, rfl, _, _, _, [], _, [], hW', trodAll_mk1 (shut_bool Try.underlying4 _), (trodAll_cons_mk (Below.trod laidOut (by kernel_rfl) (of_decide_eq_true (by kernel_rfl)) k0 bel lt0) trodAll_mk0), rfl, bel.frame _, fun h => by cases h⟩
theorem over : Rows.fnExactRatioOfNetRow.holds Try.pinned (OpenSpec.ofChange Rows.fnExactRatioOfNetSpec) :=
 OpenClaim.holds_of_wide 4 Try.f4 rfl rfl rfl rfl rfl rfl rfl ⟨rfl, rfl, rfl, rfl, rfl⟩ rfl rfl rfl rfl rfl (by kernel_rfl) Try.func4 (by kernel_rfl)
  (of_decide_eq_true (by kernel_rfl)) (by unfold Func.isWrapper; first | (rw [if_pos (by decide +kernel)]; kernel_rfl) | (rw [if_neg (by decide +kernel)]; exact ⟨rfl, rfl⟩))
  (fun os started H enc _ => lifted os started H enc)
theorem proved : Rows.FnExactRatioOfNetSaid := over
#print axioms proved
end Go.Proofs.Ytlifiingpggocaa.fnExactRatioOfNet
namespace Go.Proofs.Ytlifiingpggocaa
/-- The row, under a short name, for the claim. -/
theorem fnExactRatioOfNet_holds : Rows.FnExactRatioOfNetSaid := fnExactRatioOfNet.proved
end Go.Proofs.Ytlifiingpggocaa
