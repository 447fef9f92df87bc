-- made for this claim by a program of this session
import Derived.Test.YtmmcbdndelaeoaaRows
import Derived.Test.YtmmcbdndelaeoaaPFnExactIsBalancedx7
import Derived.Test.YtmmcbdndelaeoaaPureFnExactIsBalanced
import Derived.Test.YtmmcbdndelaeoaaWGuardMoreInvWords
import Derived.KernelRfl
import Derived.WalkKit
import Derived.ProofKit
import Derived.OpenShut
import Derived.ShutString
import Derived.ChangeOld
import Derived.Below
import Derived.SizedLaws
import Derived.Carry
namespace Go.Proofs.Ytmmcbdndelaeoaa.fnExactIsBalanced
open Go.ChangeShapes Go.WideShapes Go.ChangeAt Go.RowKit Go.Proofs.YtmmcbdndelaeoaaW.Opens Go.Proofs.YtmmcbdndelaeoaaW.PrintWords Go.Proofs.Ytmmcbdndelaeoaa.PFnExactIsBalanced
open Go.ChangeMaps (open_string shut_string)
set_option linter.unusedVariables false
theorem own : ownKnob Try.prog.godebug = none := by kernel_rfl
theorem laidOut : laidOutB Try.prog = true := by kernel_rfl
theorem opens_T107 (W : World) : Opens Try.prog W k107 (fun x : S107 => ((Lit.int .i64 x.f0).wf = true) ∧ ((Lit.int .i64 x.f1).wf = true)) 107 := by
 intro H enc spare held fuel cs x h
 obtain ⟨x0, x1, rfl⟩ := two_cells ((open_len Try.underlying107 h).trans (by kernel_rfl))
 obtain ⟨a0, h0, g0⟩ := open_field Try.underlying107 h 0 _ rfl (o := 0) (n := 1) rfl (by kernel_rfl) (Opens.int Try.underlying3)
 obtain rfl : x0 = Value.int .i64 a0 := by injection h0
 obtain ⟨a1, h1, g1⟩ := open_field Try.underlying107 h 1 _ rfl (o := 1) (n := 1) rfl (by kernel_rfl) (Opens.int Try.underlying3)
 obtain rfl : x1 = Value.int .i64 a1 := by injection h1
 exact ⟨⟨a0, a1⟩, k107_mk W ⟨a0, a1⟩, g0, g1⟩

set_option maxRecDepth 100000 in
theorem open_P24 {H : Type} {enc : TypeId × Value → H} {W : World} {v : Value} {d : DataW H} {p : List MemPlace} (hval : Value.okWide Try.prog W .any 0 24 v) (h : DataW.Trod enc Try.prog W 0 (fun _ => true) true 24 v d p) :
  ∃ (a0_0 : Int) (A0_1 : Option Addr) (c0_1 : Nat) (l0_1 : List (S107)), v = .agg #[.int .i64 a0_0, .slice A0_1 l0_1.length c0_1] ∧ ((Lit.int .i64 a0_0).wf = true) ∧ l0_1.length ≤ c0_1 ∧ Kd.C k107 W A0_1 l0_1.length l0_1 ∧ l0_1.length ≤ maxLen ∧ (∀ q ∈ l0_1, ((Lit.int .i64 q.f0).wf = true) ∧ ((Lit.int .i64 q.f1).wf = true)) := by
 obtain ⟨cs, rfl, hsz⟩ := WideShapes.okWide_struct Try.underlying24 hval
 obtain ⟨fuel, h⟩ := h
 obtain ⟨x0, x1, hcs⟩ := two_cells (show cs.toList.length = 2 from (Array.length_toList).trans (hsz.trans (by kernel_rfl)))
 obtain rfl := arr_of hcs
 replace h : DataW.trod enc Try.prog W 0 (fun _ => true) true fuel 24 [x0, x1] = some (d, p) := h
 obtain ⟨a0_0, h0, g0⟩ := open_field Try.underlying24 h 0 _ rfl (o := 0) (n := 1) rfl (by kernel_rfl) (Opens.int Try.underlying3)
 obtain rfl : x0 = Value.int .i64 a0_0 := by injection h0
 obtain ⟨l0_1, ⟨A0_1, c0_1, h1, hl1, hr1⟩, hm1, hw1⟩ := open_field Try.underlying24 h 1 _ rfl (o := 1) (n := 1) rfl (by kernel_rfl) (Opens.slice (e' := 107) Try.underlying22 (by kernel_rfl) (opens_T107 W))
 obtain rfl : x1 = Value.slice A0_1 l0_1.length c0_1 := by injection h1
 exact ⟨a0_0, A0_1, c0_1, l0_1, rfl, g0, hl1, hr1, hm1, hw1⟩

set_option maxRecDepth 100000 in
theorem open_P25 {H : Type} {enc : TypeId × Value → H} {W : World} {v : Value} {d : DataW H} {p : List MemPlace} (hval : Value.okWide Try.prog W .any 0 25 v) (h : DataW.Trod enc Try.prog W 0 (fun _ => true) true 25 v d p) :
  ∃ (A0 : Option Addr) (c0 : Nat) (l0 : List Int), v = .slice A0 l0.length c0 ∧ l0.length ≤ c0 ∧ Kd.C (Kd.int .i64) W A0 l0.length l0 ∧ l0.length ≤ maxLen ∧ (∀ q ∈ l0, (Lit.int .i64 q).wf = true) := by
 obtain ⟨a, len, cap, rfl⟩ := okWide_slice Try.underlying25 hval
 obtain ⟨fuel, h⟩ := h
 obtain ⟨l0, ⟨A0, c0, e, hl, hr⟩, hm, hw⟩ := (Opens.slice (e' := 3) Try.underlying25 (by kernel_rfl) (Opens.int Try.underlying3)) _ _ _ _ _ _ _ h
 injection e with e
 exact ⟨A0, c0, l0, e, hl, hr, hm, hw⟩

set_option maxRecDepth 100000 in
theorem lifted (os : Os) (started : os.Started) (H : Type) (enc : TypeId × Value → H) :
  ReturnsInHanded {} Try.checked os 3 .any (Rows.fnExactIsBalancedSpec.pre6 enc Try.prog Try.f3 Rows.fnExactIsBalancedRow.domain false) (Rows.fnExactIsBalancedSpec.post enc Try.prog Try.f3 false true false false) := by
 refine returnsInHanded_of_change_sized (C := Try.checked) own started (by kernel_rfl) Try.func3
  (ChangeSpec.witness6 (enc := enc) (C := Try.checked) false ⟨#[], #[.agg #[.int .i64 0, .slice none 0 0], .slice none 0 0], []⟩ 8 (by kernel_rfl) (by kernel_rfl) (by kernel_rfl) (by kernel_rfl)) ?_
 intro W base args ds gs before hval0 hW hcnd hsz0 _
 have hsz : (DataW.weightsEach Try.prog (Try.f3.params.toList ++ Rows.fnExactIsBalancedSpec.plain.varTypes Try.prog) (ds ++ gs)).all (· ≤ reachBytes) = true := hsz0
 have hval : ∀ (j : Nat) t v, Try.f3.params[j]? = some t → args[j]? = some v → Value.okWide Try.prog W .any base t v := hval0
 have hW' := hW
 obtain ⟨p, q, hA0, hV, rfl, hfz, hnd⟩ := hW
 have hA : DataW.TrodAll enc Try.prog W 0 (fun _ => true) true Try.f3.params.toList args.toList ds p := hA0
 rw [Try.params3] at hA hval hsz
 obtain ⟨v0, vs0, d0, ds0, p0, q0, hargs, rfl, rfl, h0, r0⟩ := trodAll_cons hA
 obtain ⟨v1, vs1, d1, ds1, p1, q1, rfl, rfl, rfl, h1, r1⟩ := trodAll_cons r0
 obtain ⟨rfl, rfl, rfl⟩ := trodAll_nil r1
 obtain rfl : args = #[v0, v1] := by cases args; simp_all
 obtain ⟨rfl, rfl⟩ := trodVars_none hV
 have k0 := h0
 have lt0 : ∀ x ∈ p0, x.block < W.heap.size := by obtain ⟨m, hm⟩ := k0; exact DataW.trod_lt m _ _ _ hm
 obtain ⟨a0_0, A0_1, c0_1, l0_1, rfl, wf0_0, hc0_1, hr0_1, wm0_1, wf0_1⟩ := open_P24 (hval 0 24 v0 rfl rfl) h0
 have k1 := h1
 have lt1 : ∀ x ∈ p1, x.block < W.heap.size := by obtain ⟨m, hm⟩ := k1; exact DataW.trod_lt m _ _ _ hm
 obtain ⟨A1, c1, l1, rfl, hc1, hr1, wm1, wf1⟩ := open_P25 (hval 1 25 v1 rfl rfl) h1
 clear hA0 hval0 hsz0 hsz
 refine (PFnExactIsBalanced.laws_FnExactIsBalanced.walk Pure.FnExactIsBalanced a0_0 A0_1 c0_1 l0_1 A1 c1 l1 W hr0_1 hc0_1 hr1 hc1 wf0_0 wm0_1 wf0_1 wm1 wf1).mono fun e W' ⟨he, bel⟩ => ?_
 subst he
 exact ⟨_, rfl, _, _, _, [], _, [], hW', trodAll_mk1 (shut_bool Try.underlying4 _), (trodAll_cons_mk (Below.trod laidOut (by kernel_rfl) (of_decide_eq_true (by kernel_rfl)) k0 bel lt0) (trodAll_cons_mk (Below.trod laidOut (by kernel_rfl) (of_decide_eq_true (by kernel_rfl)) k1 bel lt1) trodAll_mk0)), rfl, bel.frame _, fun h => by cases h⟩
theorem over : Rows.fnExactIsBalancedRow.holds Try.pinned (OpenSpec.ofChange Rows.fnExactIsBalancedSpec) :=
 OpenClaim.holds_of_wide 3 Try.f3 rfl rfl rfl rfl rfl rfl rfl ⟨rfl, rfl, rfl, rfl, rfl⟩ rfl rfl rfl rfl rfl (by kernel_rfl) Try.func3 (by kernel_rfl)
  (of_decide_eq_true (by kernel_rfl)) (by unfold Func.isWrapper; first | (rw [if_pos (by decide +kernel)]; kernel_rfl) | (rw [if_neg (by decide +kernel)]; exact ⟨rfl, rfl⟩))
  (fun os started H enc _ => lifted os started H enc)
theorem proved : Rows.FnExactIsBalancedSaid := over
#print axioms proved
end Go.Proofs.Ytmmcbdndelaeoaa.fnExactIsBalanced
namespace Go.Proofs.Ytmmcbdndelaeoaa
/-- The row, under a short name, for the claim. -/
theorem fnExactIsBalanced_holds : Rows.FnExactIsBalancedSaid := fnExactIsBalanced.proved
end Go.Proofs.Ytmmcbdndelaeoaa
