-- made for this claim by a program of this session
import Derived.Test.YtnmaeekclpmmnaaRows
import Derived.Test.YtnmaeekclpmmnaaPFnExactCutOfCodex18
import Derived.Test.YtnmaeekclpmmnaaPureFnExactCutOfCode
import Derived.Test.YtnmaeekclpmmnaaWGuardMoreInvWords
import Derived.KernelRfl
import Derived.WalkKit
import Derived.ProofKit
import Derived.OpenShut
import Derived.ShutString
import Derived.ChangeOld
import Derived.Below
import Derived.SizedLaws
import Derived.Carry
namespace Go.Proofs.Ytnmaeekclpmmnaa.fnExactCutOfCode
open Go.ChangeShapes Go.WideShapes Go.ChangeAt Go.RowKit Go.Proofs.YtnmaeekclpmmnaaW.Opens Go.Proofs.YtnmaeekclpmmnaaW.PrintWords Go.Proofs.Ytnmaeekclpmmnaa.PFnExactCutOfCode
open Go.ChangeMaps (open_string shut_string)
set_option linter.unusedVariables false
theorem own : ownKnob Try.prog.godebug = none := by kernel_rfl
theorem laidOut : laidOutB Try.prog = true := by kernel_rfl
set_option maxRecDepth 100000 in
theorem open_P22 {H : Type} {enc : TypeId × Value → H} {W : World} {v : Value} {d : DataW H} {p : List MemPlace} (hval : Value.okWide Try.prog W .any 0 22 v) (h : DataW.Trod enc Try.prog W 0 (fun _ => true) true 22 v d p) :
  ∃ (A0 : Option Addr) (c0 : Nat) (l0 : List (List Int)), v = .slice A0 l0.length c0 ∧ l0.length ≤ c0 ∧ Kd.C (Kd.slice 3 (Kd.int .i64)) W A0 l0.length l0 ∧ l0.length ≤ maxLen ∧ (∀ q ∈ l0, q.length ≤ maxLen ∧ ∀ q0 ∈ q, (Lit.int .i64 q0).wf = true) := by
 obtain ⟨a, len, cap, rfl⟩ := okWide_slice Try.underlying22 hval
 obtain ⟨fuel, h⟩ := h
 obtain ⟨l0, ⟨A0, c0, e, hl, hr⟩, hm, hw⟩ := (Opens.slice (e' := 37) Try.underlying22 (by kernel_rfl) (Opens.slice (e' := 3) Try.underlying37 (by kernel_rfl) (Opens.int Try.underlying3))) _ _ _ _ _ _ _ h
 injection e with e
 exact ⟨A0, c0, l0, e, hl, hr, hm, hw⟩

set_option maxRecDepth 100000 in
theorem lifted (os : Os) (started : os.Started) (H : Type) (enc : TypeId × Value → H) :
  ReturnsInHanded {} Try.checked os 3 .any (Rows.fnExactCutOfCodeSpec.pre6 enc Try.prog Try.f3 Rows.fnExactCutOfCodeRow.domain false) (Rows.fnExactCutOfCodeSpec.post enc Try.prog Try.f3 false true false false) := by
 refine returnsInHanded_of_change_sized (C := Try.checked) own started (by kernel_rfl) Try.func3
  (ChangeSpec.witness6 (enc := enc) (C := Try.checked) false ⟨#[], #[.slice none 0 0], []⟩ 8 (by kernel_rfl) (by kernel_rfl) (by kernel_rfl) (by kernel_rfl)) ?_
 intro W base args ds gs before hval0 hW hcnd hsz0 _
 have hsz : (DataW.weightsEach Try.prog (Try.f3.params.toList ++ Rows.fnExactCutOfCodeSpec.plain.varTypes Try.prog) (ds ++ gs)).all (· ≤ reachBytes) = true := hsz0
 have hval : ∀ (j : Nat) t v, Try.f3.params[j]? = some t → args[j]? = some v → Value.okWide Try.prog W .any base t v := hval0
 have hW' := hW
 obtain ⟨p, q, hA0, hV, rfl, hfz, hnd⟩ := hW
 have hA : DataW.TrodAll enc Try.prog W 0 (fun _ => true) true Try.f3.params.toList args.toList ds p := hA0
 rw [Try.params3] at hA hval hsz
 obtain ⟨v0, vs0, d0, ds0, p0, q0, hargs, rfl, rfl, h0, r0⟩ := trodAll_cons hA
 obtain ⟨rfl, rfl, rfl⟩ := trodAll_nil r0
 obtain rfl : args = #[v0] := by cases args; simp_all
 obtain ⟨rfl, rfl⟩ := trodVars_none hV
 have k0 := h0
 have lt0 : ∀ x ∈ p0, x.block < W.heap.size := by obtain ⟨m, hm⟩ := k0; exact DataW.trod_lt m _ _ _ hm
 obtain ⟨A0, c0, l0, rfl, hc0, hr0, wm0, wf0⟩ := open_P22 (hval 0 22 v0 rfl rfl) h0
 clear hA0 hval0 hsz0 hsz
 refine (PFnExactCutOfCode.laws_FnExactCutOfCode.walk Pure.FnExactCutOfCode A0 c0 l0 W hr0 hc0 wm0 wf0).mono fun e W' ⟨he, bel⟩ => ?_
 subst he
 exact ⟨_, rfl, _, _, _, [], _, [], hW', trodAll_mk1 (shut_bool Try.underlying4 _), (trodAll_cons_mk (Below.trod laidOut (by kernel_rfl) (of_decide_eq_true (by kernel_rfl)) k0 bel lt0) trodAll_mk0), rfl, bel.frame _, fun h => by cases h⟩
theorem over : Rows.fnExactCutOfCodeRow.holds Try.pinned (OpenSpec.ofChange Rows.fnExactCutOfCodeSpec) :=
 OpenClaim.holds_of_wide 3 Try.f3 rfl rfl rfl rfl rfl rfl rfl ⟨rfl, rfl, rfl, rfl, rfl⟩ rfl rfl rfl rfl rfl (by kernel_rfl) Try.func3 (by kernel_rfl)
  (of_decide_eq_true (by kernel_rfl)) (by unfold Func.isWrapper; first | (rw [if_pos (by decide +kernel)]; kernel_rfl) | (rw [if_neg (by decide +kernel)]; exact ⟨rfl, rfl⟩))
  (fun os started H enc _ => lifted os started H enc)
theorem proved : Rows.FnExactCutOfCodeSaid := over
#print axioms proved
end Go.Proofs.Ytnmaeekclpmmnaa.fnExactCutOfCode
namespace Go.Proofs.Ytnmaeekclpmmnaa
/-- The row, under a short name, for the claim. -/
theorem fnExactCutOfCode_holds : Rows.FnExactCutOfCodeSaid := fnExactCutOfCode.proved
end Go.Proofs.Ytnmaeekclpmmnaa
