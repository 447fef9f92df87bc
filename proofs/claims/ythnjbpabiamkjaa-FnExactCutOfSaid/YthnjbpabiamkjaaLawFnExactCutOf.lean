-- made for this claim by a program of this session
import Derived.Test.YthnjbpabiamkjaaRows
import Derived.Test.YthnjbpabiamkjaaPFnExactCutOfx11
import Derived.Test.YthnjbpabiamkjaaPureFnExactCutOf
import Derived.Test.YthnjbpabiamkjaaWGuardMoreInvWords
import Derived.KernelRfl
import Derived.WalkKit
import Derived.ProofKit
import Derived.OpenShut
import Derived.ShutString
import Derived.ChangeOld
import Derived.Below
import Derived.SizedLaws
import Derived.Carry
namespace Go.Proofs.Ythnjbpabiamkjaa.fnExactCutOf
open Go.ChangeShapes Go.WideShapes Go.ChangeAt Go.RowKit Go.Proofs.YthnjbpabiamkjaaW.Opens Go.Proofs.YthnjbpabiamkjaaW.PrintWords Go.Proofs.Ythnjbpabiamkjaa.PFnExactCutOf
open Go.ChangeMaps (open_string shut_string)
set_option linter.unusedVariables false
theorem own : ownKnob Try.prog.godebug = none := by kernel_rfl
theorem laidOut : laidOutB Try.prog = true := by kernel_rfl
theorem opens_T97 (W : World) : Opens Try.prog W k97 (fun x : S97 => ((Lit.int .i64 x.f0).wf = true) ∧ ((Lit.int .i64 x.f1).wf = true) ∧ ((Lit.int .i64 x.f2).wf = true)) 97 := by
 intro H enc spare held fuel cs x h
 obtain ⟨x0, x1, x2, rfl⟩ := three_cells ((open_len Try.underlying97 h).trans (by kernel_rfl))
 obtain ⟨a0, h0, g0⟩ := open_field Try.underlying97 h 0 _ rfl (o := 0) (n := 1) rfl (by kernel_rfl) (Opens.int Try.underlying3)
 obtain rfl : x0 = Value.int .i64 a0 := by injection h0
 obtain ⟨a1, h1, g1⟩ := open_field Try.underlying97 h 1 _ rfl (o := 1) (n := 1) rfl (by kernel_rfl) (Opens.int Try.underlying3)
 obtain rfl : x1 = Value.int .i64 a1 := by injection h1
 obtain ⟨a2, h2, g2⟩ := open_field Try.underlying97 h 2 _ rfl (o := 2) (n := 1) rfl (by kernel_rfl) (Opens.int Try.underlying3)
 obtain rfl : x2 = Value.int .i64 a2 := by injection h2
 exact ⟨⟨a0, a1, a2⟩, k97_mk W ⟨a0, a1, a2⟩, g0, g1, g2⟩

set_option maxRecDepth 100000 in
theorem open_P22 {H : Type} {enc : TypeId × Value → H} {W : World} {v : Value} {d : DataW H} {p : List MemPlace} (hval : Value.okWide Try.prog W .any 0 22 v) (h : DataW.Trod enc Try.prog W 0 (fun _ => true) true 22 v d p) :
  ∃ (A0 : Option Addr) (c0 : Nat) (l0 : List (S97)), v = .slice A0 l0.length c0 ∧ l0.length ≤ c0 ∧ Kd.C k97 W A0 l0.length l0 ∧ l0.length ≤ maxLen ∧ (∀ q ∈ l0, ((Lit.int .i64 q.f0).wf = true) ∧ ((Lit.int .i64 q.f1).wf = true) ∧ ((Lit.int .i64 q.f2).wf = true)) := by
 obtain ⟨a, len, cap, rfl⟩ := okWide_slice Try.underlying22 hval
 obtain ⟨fuel, h⟩ := h
 obtain ⟨l0, ⟨A0, c0, e, hl, hr⟩, hm, hw⟩ := (Opens.slice (e' := 97) Try.underlying22 (by kernel_rfl) (opens_T97 W)) _ _ _ _ _ _ _ h
 injection e with e
 exact ⟨A0, c0, l0, e, hl, hr, hm, hw⟩

set_option maxRecDepth 100000 in
theorem lifted (os : Os) (started : os.Started) (H : Type) (enc : TypeId × Value → H) :
  ReturnsInHanded {} Try.checked os 10 .any (Rows.fnExactCutOfSpec.pre6 enc Try.prog Try.f10 Rows.fnExactCutOfRow.domain false) (Rows.fnExactCutOfSpec.post enc Try.prog Try.f10 false true false false) := by
 refine returnsInHanded_of_change_sized (C := Try.checked) own started (by kernel_rfl) Try.func10
  (ChangeSpec.witness6 (enc := enc) (C := Try.checked) false ⟨#[], #[.int .i64 0, .int .i64 0, .slice none 0 0], []⟩ 8 (by kernel_rfl) (by kernel_rfl) (by kernel_rfl) (by kernel_rfl)) ?_
 intro W base args ds gs before hval0 hW hcnd hsz0 _
 have hsz : (DataW.weightsEach Try.prog (Try.f10.params.toList ++ Rows.fnExactCutOfSpec.plain.varTypes Try.prog) (ds ++ gs)).all (· ≤ reachBytes) = true := hsz0
 have hval : ∀ (j : Nat) t v, Try.f10.params[j]? = some t → args[j]? = some v → Value.okWide Try.prog W .any base t v := hval0
 have hW' := hW
 obtain ⟨p, q, hA0, hV, rfl, hfz, hnd⟩ := hW
 have hA : DataW.TrodAll enc Try.prog W 0 (fun _ => true) true Try.f10.params.toList args.toList ds p := hA0
 rw [Try.params10] at hA hval hsz
 obtain ⟨v0, vs0, d0, ds0, p0, q0, hargs, rfl, rfl, h0, r0⟩ := trodAll_cons hA
 obtain ⟨v1, vs1, d1, ds1, p1, q1, rfl, rfl, rfl, h1, r1⟩ := trodAll_cons r0
 obtain ⟨v2, vs2, d2, ds2, p2, q2, rfl, rfl, rfl, h2, r2⟩ := trodAll_cons r1
 obtain ⟨rfl, rfl, rfl⟩ := trodAll_nil r2
 obtain rfl : args = #[v0, v1, v2] := by cases args; simp_all
 obtain ⟨rfl, rfl⟩ := trodVars_none hV
 obtain ⟨a0, rfl, rfl, rfl, wf0⟩ := open_int Try.underlying3 (hval 0 3 v0 rfl rfl) h0
 obtain ⟨a1, rfl, rfl, rfl, wf1⟩ := open_int Try.underlying3 (hval 1 3 v1 rfl rfl) h1
 have k2 := h2
 have lt2 : ∀ x ∈ p2, x.block < W.heap.size := by obtain ⟨m, hm⟩ := k2; exact DataW.trod_lt m _ _ _ hm
 obtain ⟨A2, c2, l2, rfl, hc2, hr2, wm2, wf2⟩ := open_P22 (hval 2 22 v2 rfl rfl) h2
 clear hA0 hval0 hsz0 hsz
 refine (PFnExactCutOf.laws_FnExactCutOf.walk Pure.FnExactCutOf a0 a1 A2 c2 l2 W hr2 hc2 wf0 wf1 wm2 wf2).mono fun e W' ⟨he, bel⟩ => ?_
 subst he
 exact ⟨_, rfl, _, _, _, [], _, [], hW', trodAll_mk1 (shut_bool Try.underlying4 _), (trodAll_cons_mk (shut_int Try.underlying3 wf0) (trodAll_cons_mk (shut_int Try.underlying3 wf1) (trodAll_cons_mk (Below.trod laidOut (by kernel_rfl) (of_decide_eq_true (by kernel_rfl)) k2 bel lt2) trodAll_mk0))), rfl, bel.frame _, fun h => by cases h⟩
theorem over : Rows.fnExactCutOfRow.holds Try.pinned (OpenSpec.ofChange Rows.fnExactCutOfSpec) :=
 OpenClaim.holds_of_wide 10 Try.f10 rfl rfl rfl rfl rfl rfl rfl ⟨rfl, rfl, rfl, rfl, rfl⟩ rfl rfl rfl rfl rfl (by kernel_rfl) Try.func10 (by kernel_rfl)
  (of_decide_eq_true (by kernel_rfl)) (by unfold Func.isWrapper; first | (rw [if_pos (by decide +kernel)]; kernel_rfl) | (rw [if_neg (by decide +kernel)]; exact ⟨rfl, rfl⟩))
  (fun os started H enc _ => lifted os started H enc)
theorem proved : Rows.FnExactCutOfSaid := over
#print axioms proved
end Go.Proofs.Ythnjbpabiamkjaa.fnExactCutOf
namespace Go.Proofs.Ythnjbpabiamkjaa
/-- The row, under a short name, for the claim. -/
theorem fnExactCutOf_holds : Rows.FnExactCutOfSaid := fnExactCutOf.proved
end Go.Proofs.Ythnjbpabiamkjaa
