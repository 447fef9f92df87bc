-- made for this claim by a program of this session
import Derived.Test.YtmmcbdndelaeoaaDoorCards
import Derived.Test.YtmmcbdndelaeoaaDoorTie
import Derived.Handy
import Derived.Lay
import Derived.SevenTiedAt
import Derived.Test.YtmmcbdndelaeoaaDoorPFnExactNetTextx5
import Derived.Test.YtmmcbdndelaeoaaDoorPureFnExactNetText
import Derived.Test.YtmmcbdndelaeoaaDoorWGuardMoreInvWords
import Derived.KernelRfl
import Derived.WalkKit
import Derived.ProofKit
import Derived.OpenShut
import Derived.ShutString
import Derived.ChangeOld
import Derived.Below
import Derived.SizedLaws
import Derived.Carry
namespace Go.Proofs.YtmmcbdndelaeoaaDoor.fnExactNetText
open Go.ChangeShapes Go.WideShapes Go.ChangeAt Go.RowKit Go.Proofs.YtmmcbdndelaeoaaDoorW.Opens Go.Proofs.YtmmcbdndelaeoaaDoorW.PrintWords Go.Proofs.YtmmcbdndelaeoaaDoor.PFnExactNetText
open Go.ChangeMaps (open_string shut_string)
set_option linter.unusedVariables false
theorem own : ownKnob Tryd.prog.godebug = none := by kernel_rfl
theorem laidOut : laidOutB Tryd.prog = true := by kernel_rfl
theorem opens_T102 (W : World) : Opens Tryd.prog W k102 (fun x : S102 => ((Lit.int .i64 x.f0).wf = true) ∧ ((Lit.int .i64 x.f1).wf = true)) 102 := by
 intro H enc spare held fuel cs x h
 obtain ⟨x0, x1, rfl⟩ := two_cells ((open_len Tryd.underlying102 h).trans (by kernel_rfl))
 obtain ⟨a0, h0, g0⟩ := open_field Tryd.underlying102 h 0 _ rfl (o := 0) (n := 1) rfl (by kernel_rfl) (Opens.int Tryd.underlying3)
 obtain rfl : x0 = Value.int .i64 a0 := by injection h0
 obtain ⟨a1, h1, g1⟩ := open_field Tryd.underlying102 h 1 _ rfl (o := 1) (n := 1) rfl (by kernel_rfl) (Opens.int Tryd.underlying3)
 obtain rfl : x1 = Value.int .i64 a1 := by injection h1
 exact ⟨⟨a0, a1⟩, k102_mk W ⟨a0, a1⟩, g0, g1⟩

set_option maxRecDepth 100000 in
theorem open_P36 {H : Type} {enc : TypeId × Value → H} {W : World} {v : Value} {d : DataW H} {p : List MemPlace} (hval : Value.okWide Tryd.prog W .any 0 36 v) (h : DataW.Trod enc Tryd.prog W 0 (fun _ => true) true 36 v d p) :
  ∃ (a0_0 : Int) (A0_1 : Option Addr) (c0_1 : Nat) (l0_1 : List (S102)), v = .agg #[.int .i64 a0_0, .slice A0_1 l0_1.length c0_1] ∧ ((Lit.int .i64 a0_0).wf = true) ∧ l0_1.length ≤ c0_1 ∧ Kd.C k102 W A0_1 l0_1.length l0_1 ∧ l0_1.length ≤ maxLen ∧ (∀ q ∈ l0_1, ((Lit.int .i64 q.f0).wf = true) ∧ ((Lit.int .i64 q.f1).wf = true)) := by
 obtain ⟨cs, rfl, hsz⟩ := WideShapes.okWide_struct Tryd.underlying36 hval
 obtain ⟨fuel, h⟩ := h
 obtain ⟨x0, x1, hcs⟩ := two_cells (show cs.toList.length = 2 from (Array.length_toList).trans (hsz.trans (by kernel_rfl)))
 obtain rfl := arr_of hcs
 replace h : DataW.trod enc Tryd.prog W 0 (fun _ => true) true fuel 36 [x0, x1] = some (d, p) := h
 obtain ⟨a0_0, h0, g0⟩ := open_field Tryd.underlying36 h 0 _ rfl (o := 0) (n := 1) rfl (by kernel_rfl) (Opens.int Tryd.underlying3)
 obtain rfl : x0 = Value.int .i64 a0_0 := by injection h0
 obtain ⟨l0_1, ⟨A0_1, c0_1, h1, hl1, hr1⟩, hm1, hw1⟩ := open_field Tryd.underlying36 h 1 _ rfl (o := 1) (n := 1) rfl (by kernel_rfl) (Opens.slice (e' := 102) Tryd.underlying34 (by kernel_rfl) (opens_T102 W))
 obtain rfl : x1 = Value.slice A0_1 l0_1.length c0_1 := by injection h1
 exact ⟨a0_0, A0_1, c0_1, l0_1, rfl, g0, hl1, hr1, hm1, hw1⟩

set_option maxRecDepth 100000 in
theorem lifted (os : Os) (started : os.Started) (H : Type) (enc : TypeId × Value → H) :
  ReturnsInHanded {} Tryd.checked os 4 .any (fun w args => (Rows.fnExactNetTextSpec.pre enc Tryd.prog Tryd.f4 [] false w args ∧ laidMetH Tryd.prog Rows.fnExactNetTextRow.laid w) ∧ sizedMet enc Tryd.prog Tryd.f4 (OpenSpec.ofChange Rows.fnExactNetTextSpec) false w args) (Rows.fnExactNetTextSpec.post enc Tryd.prog Tryd.f4 false true false false) := by
 refine returnsInHanded_of_change_and (C := Tryd.checked) (X := fun w _ => laidMetH Tryd.prog Rows.fnExactNetTextRow.laid w) (fun _ _ _ hh h => h.of_heap hh) own started (by kernel_rfl) Tryd.func4
  (ChangeSpec.witness_shaped (enc := enc) (C := Tryd.checked) (os := os) (X := fun w _ => laidMetH Tryd.prog Rows.fnExactNetTextRow.laid w) false (World.laidAll Tryd.prog os Rows.fnExactNetTextRow.laid) #[.agg #[.int .i64 0, .slice none 0 0]] 8 (World.laidAll_os _ _ _)
   (World.shaped_of_ZipB (by kernel_rfl) (by kernel_rfl)) (by kernel_rfl) (by kernel_rfl) (by kernel_rfl)
   (by rw [MakeChecks.laidMetH_plain _ _ _ (by kernel_rfl)]; exact laidMet_laidAll _ (by kernel_rfl) (by kernel_rfl))) ?_
 intro W base args ds gs before hval0 hW hcnd hsz0 hL _
 have hsz : (DataW.weightsEach Tryd.prog (Tryd.f4.params.toList ++ Rows.fnExactNetTextSpec.plain.varTypes Tryd.prog) (ds ++ gs)).all (· ≤ reachBytes) = true := hsz0
 have hval : ∀ (j : Nat) t v, Tryd.f4.params[j]? = some t → args[j]? = some v → Value.okWide Tryd.prog W .any base t v := hval0
 have hW' := hW
 obtain ⟨p, q, hA0, hV, rfl, hfz, hnd⟩ := hW
 have hA : DataW.TrodAll enc Tryd.prog W 0 (fun _ => true) true Tryd.f4.params.toList args.toList ds p := hA0
 rw [Tryd.params4] at hA hval hsz
 obtain ⟨v0, vs0, d0, ds0, p0, q0, hargs, rfl, rfl, h0, r0⟩ := trodAll_cons hA
 obtain ⟨rfl, rfl, rfl⟩ := trodAll_nil r0
 obtain rfl : args = #[v0] := by cases args; simp_all
 obtain ⟨rfl, rfl⟩ := trodVars_none hV
 have k0 := h0
 have lt0 : ∀ x ∈ p0, x.block < W.heap.size := by obtain ⟨m, hm⟩ := k0; exact DataW.trod_lt m _ _ _ hm
 obtain ⟨a0_0, A0_1, c0_1, l0_1, rfl, wf0_0, hc0_1, hr0_1, wm0_1, wf0_1⟩ := open_P36 (hval 0 36 v0 rfl rfl) h0
 clear hA0 hval0 hsz0 hsz
 refine (PFnExactNetText.laws_FnExactNetText.walk Pure.FnExactNetText a0_0 A0_1 c0_1 l0_1 W hr0_1 hc0_1 wf0_0 wm0_1 wf0_1).mono fun e W' ⟨he, bel⟩ => ?_
 subst he
 exact ⟨_, rfl, _, _, _, [], _, [], hW', trodAll_mk1 (shut_bool Tryd.underlying4 _), (trodAll_cons_mk (Below.trod laidOut (by kernel_rfl) (of_decide_eq_true (by kernel_rfl)) k0 bel lt0) trodAll_mk0), rfl, bel.frame _, fun h => by cases h⟩
theorem over : Rows.fnExactNetTextRow.holds Tryd.pinned (OpenSpec.ofChange Rows.fnExactNetTextSpec) :=
 OpenClaim.holds_of_wide 4 Tryd.f4 rfl rfl rfl rfl rfl rfl rfl ⟨rfl, rfl, rfl, rfl, rfl⟩ rfl rfl rfl rfl rfl (by kernel_rfl) Tryd.func4 (by kernel_rfl)
  (of_decide_eq_true (by kernel_rfl)) (by unfold Func.isWrapper; first | (rw [if_pos (by decide +kernel)]; kernel_rfl) | (rw [if_neg (by decide +kernel)]; exact ⟨rfl, rfl⟩))
  (fun os started H enc _ => lifted os started H enc)
theorem proved : Rows.FnExactNetTextCardSaid :=
 Claim7.holds_tied_plain_at .later [] [.data, .data, .data] true (true, "14669f3495236599a6c73706fb32c45dec5532afabbcefd517b891784a262a6c") true over (fun _ h => by cases h) (by kernel_rfl) (fun _ h => by cases h) fnExactNetText_row_tie rfl ⟨rfl, rfl⟩ (by kernel_rfl) rfl
  (fun f fn hf hfn => by
   obtain rfl : f = 4 := Option.some.inj ((show Tryd.prog.funcNamed "loop.example/g01296/laws.FnExactNetText" = some 4 by kernel_rfl).symm.trans hf) |>.symm
   obtain rfl : fn = Tryd.f4 := (Option.some.inj (Tryd.func4.symm.trans hfn)).symm
   exact ⟨by kernel_rfl, fun j t ht => by
    rw [Tryd.params4] at ht
    have hm : t ∈ [36] := by simpa using Array.mem_of_getElem? ht
    have hall : ([36].all fun u => !Tryd.prog.wantsStandIn u) = true := by kernel_rfl
    exact (show Tryd.prog.wantsStandIn t = false by simpa using List.all_eq_true.1 hall t hm)⟩)
  (by kernel_rfl)
#print axioms proved
end Go.Proofs.YtmmcbdndelaeoaaDoor.fnExactNetText
namespace Go.Proofs.YtmmcbdndelaeoaaDoor
/-- The card, under a short name, for the claim. -/
theorem fnExactNetTextCard_holds : Rows.FnExactNetTextCardSaid := fnExactNetText.proved
end Go.Proofs.YtmmcbdndelaeoaaDoor
