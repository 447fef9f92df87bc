-- made for this claim by a program of this session
import Derived.Test.YtocblinaclehdaaRows
import Derived.Test.YtocblinaclehdaaPFnExactCompareCodesx16
import Derived.Test.YtocblinaclehdaaPureFnExactCompareCodes
import Derived.Test.YtocblinaclehdaaWGuardMoreInvWords
import Derived.KernelRfl
import Derived.WalkKit
import Derived.ProofKit
import Derived.OpenShut
import Derived.ShutString
import Derived.ChangeOld
import Derived.Below
import Derived.SizedLaws
import Derived.Carry
namespace Go.Proofs.Ytocblinaclehdaa.fnExactCompareCodes
open Go.ChangeShapes Go.WideShapes Go.ChangeAt Go.RowKit Go.Proofs.YtocblinaclehdaaW.Opens Go.Proofs.YtocblinaclehdaaW.PrintWords Go.Proofs.Ytocblinaclehdaa.PFnExactCompareCodes
open Go.ChangeMaps (open_string shut_string)
set_option linter.unusedVariables false
theorem own : ownKnob Try.prog.godebug = none := by kernel_rfl
theorem laidOut : laidOutB Try.prog = true := by kernel_rfl
set_option maxRecDepth 100000 in
theorem open_P46 {H : Type} {enc : TypeId × Value → H} {W : World} {v : Value} {d : DataW H} {p : List MemPlace} (hval : Value.okWide Try.prog W .any 0 46 v) (h : DataW.Trod enc Try.prog W 0 (fun _ => true) true 46 v d p) :
  ∃ (A0 : Option Addr) (c0 : Nat) (l0 : List (List Int)), v = .slice A0 l0.length c0 ∧ l0.length ≤ c0 ∧ Kd.C (Kd.slice 3 (Kd.int .i64)) W A0 l0.length l0 ∧ l0.length ≤ maxLen ∧ (∀ q ∈ l0, q.length ≤ maxLen ∧ ∀ q0 ∈ q, (Lit.int .i64 q0).wf = true) := by
 obtain ⟨a, len, cap, rfl⟩ := okWide_slice Try.underlying46 hval
 obtain ⟨fuel, h⟩ := h
 obtain ⟨l0, ⟨A0, c0, e, hl, hr⟩, hm, hw⟩ := (Opens.slice (e' := 26) Try.underlying46 (by kernel_rfl) (Opens.slice (e' := 3) Try.underlying26 (by kernel_rfl) (Opens.int Try.underlying3))) _ _ _ _ _ _ _ h
 injection e with e
 exact ⟨A0, c0, l0, e, hl, hr, hm, hw⟩

set_option maxRecDepth 100000 in
theorem lifted (os : Os) (started : os.Started) (H : Type) (enc : TypeId × Value → H) :
  ReturnsInHanded {} Try.checked os 13 .any (Rows.fnExactCompareCodesSpec.pre6 enc Try.prog Try.f13 Rows.fnExactCompareCodesRow.domain false) (Rows.fnExactCompareCodesSpec.post enc Try.prog Try.f13 false true false false) := by
 refine returnsInHanded_of_change_sized (C := Try.checked) own started (by kernel_rfl) Try.func13
  (ChangeSpec.witness6 (enc := enc) (C := Try.checked) false ⟨#[], #[.slice none 0 0, .slice none 0 0], []⟩ 8 (by kernel_rfl) (by kernel_rfl) (by kernel_rfl) (by kernel_rfl)) ?_
 intro W base args ds gs before hval0 hW hcnd hsz0 _
 have hsz : (DataW.weightsEach Try.prog (Try.f13.params.toList ++ Rows.fnExactCompareCodesSpec.plain.varTypes Try.prog) (ds ++ gs)).all (· ≤ reachBytes) = true := hsz0
 have hval : ∀ (j : Nat) t v, Try.f13.params[j]? = some t → args[j]? = some v → Value.okWide Try.prog W .any base t v := hval0
 have hW' := hW
 obtain ⟨p, q, hA0, hV, rfl, hfz, hnd⟩ := hW
 have hA : DataW.TrodAll enc Try.prog W 0 (fun _ => true) true Try.f13.params.toList args.toList ds p := hA0
 rw [Try.params13] at hA hval hsz
 obtain ⟨v0, vs0, d0, ds0, p0, q0, hargs, rfl, rfl, h0, r0⟩ := trodAll_cons hA
 obtain ⟨v1, vs1, d1, ds1, p1, q1, rfl, rfl, rfl, h1, r1⟩ := trodAll_cons r0
 obtain ⟨rfl, rfl, rfl⟩ := trodAll_nil r1
 obtain rfl : args = #[v0, v1] := by cases args; simp_all
 obtain ⟨rfl, rfl⟩ := trodVars_none hV
 have k0 := h0
 have lt0 : ∀ x ∈ p0, x.block < W.heap.size := by obtain ⟨m, hm⟩ := k0; exact DataW.trod_lt m _ _ _ hm
 obtain ⟨A0, c0, l0, rfl, hc0, hr0, wm0, wf0⟩ := open_P46 (hval 0 46 v0 rfl rfl) h0
 have k1 := h1
 have lt1 : ∀ x ∈ p1, x.block < W.heap.size := by obtain ⟨m, hm⟩ := k1; exact DataW.trod_lt m _ _ _ hm
 obtain ⟨A1, c1, l1, rfl, hc1, hr1, wm1, wf1⟩ := open_P46 (hval 1 46 v1 rfl rfl) h1
 clear hA0 hval0 hsz0 hsz
 refine (PFnExactCompareCodes.laws_FnExactCompareCodes.walk Pure.FnExactCompareCodes A0 c0 l0 A1 c1 l1 W hr0 hc0 hr1 hc1 wm0 wf0 wm1 wf1).mono fun e W' ⟨he, bel⟩ => ?_
 subst he
 exact ⟨_, rfl, _, _, _, [], _, [], hW', trodAll_mk1 (shut_bool Try.underlying4 _), (trodAll_cons_mk (Below.trod laidOut (by kernel_rfl) (of_decide_eq_true (by kernel_rfl)) k0 bel lt0) (trodAll_cons_mk (Below.trod laidOut (by kernel_rfl) (of_decide_eq_true (by kernel_rfl)) k1 bel lt1) trodAll_mk0)), rfl, bel.frame _, fun h => by cases h⟩
theorem over : Rows.fnExactCompareCodesRow.holds Try.pinned (OpenSpec.ofChange Rows.fnExactCompareCodesSpec) :=
 OpenClaim.holds_of_wide 13 Try.f13 rfl rfl rfl rfl rfl rfl rfl ⟨rfl, rfl, rfl, rfl, rfl⟩ rfl rfl rfl rfl rfl (by kernel_rfl) Try.func13 (by kernel_rfl)
  (of_decide_eq_true (by kernel_rfl)) (by unfold Func.isWrapper; first | (rw [if_pos (by decide +kernel)]; kernel_rfl) | (rw [if_neg (by decide +kernel)]; exact ⟨rfl, rfl⟩))
  (fun os started H enc _ => lifted os started H enc)
theorem proved : Rows.FnExactCompareCodesSaid := over
#print axioms proved
end Go.Proofs.Ytocblinaclehdaa.fnExactCompareCodes
namespace Go.Proofs.Ytocblinaclehdaa
/-- The row, under a short name, for the claim. -/
theorem fnExactCompareCodes_holds : Rows.FnExactCompareCodesSaid := fnExactCompareCodes.proved
end Go.Proofs.Ytocblinaclehdaa
