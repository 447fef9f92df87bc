-- made for this claim by a program of this session
import Derived.Test.YtmmcbdndelaeoaaDoorCards
import Derived.Test.YtmmcbdndelaeoaaDoorTie
import Derived.Handy
import Derived.Lay
import Derived.Stop.LaidErr
import Derived.Lib.LaidTab
import Derived.SevenTiedAt
import Derived.Test.YtmmcbdndelaeoaaDoorPFnExactCutTextx7
import Derived.Test.YtmmcbdndelaeoaaDoorPureFnExactCutText
import Derived.Test.YtmmcbdndelaeoaaDoorWGuardMoreInvWords
import Derived.KernelRfl
import Derived.WalkKit
import Derived.ProofKit
import Derived.OpenShut
import Derived.ShutString
import Derived.ChangeOld
import Derived.Below
import Derived.SizedLaws
import Derived.Carry
namespace Go.Proofs.YtmmcbdndelaeoaaDoor.fnExactCutText
open Go.ChangeShapes Go.WideShapes Go.ChangeAt Go.RowKit Go.Proofs.YtmmcbdndelaeoaaDoorW.Opens Go.Proofs.YtmmcbdndelaeoaaDoorW.PrintWords Go.Proofs.YtmmcbdndelaeoaaDoor.PFnExactCutText
open Go.ChangeMaps (open_string shut_string)
set_option linter.unusedVariables false
theorem own : ownKnob Tryd.prog.godebug = none := by kernel_rfl
theorem laidOut : laidOutB Tryd.prog = true := by kernel_rfl
theorem opens_T95 (W : World) : Opens Tryd.prog W k95 (fun x : S95 => ((Lit.int .i64 x.f0).wf = true) ∧ ((Lit.int .i64 x.f1).wf = true) ∧ ((Lit.int .i64 x.f2).wf = true)) 95 := by
 intro H enc spare held fuel cs x h
 obtain ⟨x0, x1, x2, rfl⟩ := three_cells ((open_len Tryd.underlying95 h).trans (by kernel_rfl))
 obtain ⟨a0, h0, g0⟩ := open_field Tryd.underlying95 h 0 _ rfl (o := 0) (n := 1) rfl (by kernel_rfl) (Opens.int Tryd.underlying3)
 obtain rfl : x0 = Value.int .i64 a0 := by injection h0
 obtain ⟨a1, h1, g1⟩ := open_field Tryd.underlying95 h 1 _ rfl (o := 1) (n := 1) rfl (by kernel_rfl) (Opens.int Tryd.underlying3)
 obtain rfl : x1 = Value.int .i64 a1 := by injection h1
 obtain ⟨a2, h2, g2⟩ := open_field Tryd.underlying95 h 2 _ rfl (o := 2) (n := 1) rfl (by kernel_rfl) (Opens.int Tryd.underlying3)
 obtain rfl : x2 = Value.int .i64 a2 := by injection h2
 exact ⟨⟨a0, a1, a2⟩, k95_mk W ⟨a0, a1, a2⟩, g0, g1, g2⟩

set_option maxRecDepth 100000 in
theorem open_P24 {H : Type} {enc : TypeId × Value → H} {W : World} {v : Value} {d : DataW H} {p : List MemPlace} (hval : Value.okWide Tryd.prog W .any 0 24 v) (h : DataW.Trod enc Tryd.prog W 0 (fun _ => true) true 24 v d p) :
  ∃ (a0_0 : Int) (a0_1 : Int) (A0_2 : Option Addr) (c0_2 : Nat) (l0_2 : List (S95)), v = .agg #[.int .i64 a0_0, .int .i64 a0_1, .slice A0_2 l0_2.length c0_2] ∧ ((Lit.int .i64 a0_0).wf = true) ∧ ((Lit.int .i64 a0_1).wf = true) ∧ l0_2.length ≤ c0_2 ∧ Kd.C k95 W A0_2 l0_2.length l0_2 ∧ l0_2.length ≤ maxLen ∧ (∀ q ∈ l0_2, ((Lit.int .i64 q.f0).wf = true) ∧ ((Lit.int .i64 q.f1).wf = true) ∧ ((Lit.int .i64 q.f2).wf = true)) := by
 obtain ⟨cs, rfl, hsz⟩ := WideShapes.okWide_struct Tryd.underlying24 hval
 obtain ⟨fuel, h⟩ := h
 obtain ⟨x0, x1, x2, hcs⟩ := three_cells (show cs.toList.length = 3 from (Array.length_toList).trans (hsz.trans (by kernel_rfl)))
 obtain rfl := arr_of hcs
 replace h : DataW.trod enc Tryd.prog W 0 (fun _ => true) true fuel 24 [x0, x1, x2] = some (d, p) := h
 obtain ⟨a0_0, h0, g0⟩ := open_field Tryd.underlying24 h 0 _ rfl (o := 0) (n := 1) rfl (by kernel_rfl) (Opens.int Tryd.underlying3)
 obtain rfl : x0 = Value.int .i64 a0_0 := by injection h0
 obtain ⟨a0_1, h1, g1⟩ := open_field Tryd.underlying24 h 1 _ rfl (o := 1) (n := 1) rfl (by kernel_rfl) (Opens.int Tryd.underlying3)
 obtain rfl : x1 = Value.int .i64 a0_1 := by injection h1
 obtain ⟨l0_2, ⟨A0_2, c0_2, h2, hl2, hr2⟩, hm2, hw2⟩ := open_field Tryd.underlying24 h 2 _ rfl (o := 2) (n := 1) rfl (by kernel_rfl) (Opens.slice (e' := 95) Tryd.underlying22 (by kernel_rfl) (opens_T95 W))
 obtain rfl : x2 = Value.slice A0_2 l0_2.length c0_2 := by injection h2
 exact ⟨a0_0, a0_1, A0_2, c0_2, l0_2, rfl, g0, g1, hl2, hr2, hm2, hw2⟩

theorem tab_of {W : World} (h : laidMetH Tryd.prog Rows.fnExactCutTextRow.laid W) : VT W := by
 rw [MakeChecks.laidMetH_plain _ _ _ (by kernel_rfl)] at h
 have h2 := (laidMet.tail (laidMet.tail h))
 have e : (Rows.laid_internal_strconv_uint64pow10 : DataW Unit) = Lib.tabData .u64 Lib.pow10Tab := by kernel_rfl
 exact Lib.tabIs_of_head (g := 3) (t := 171) (e := 153) (n := 20) vt_g (by kernel_rfl) Tryd.underlying171 Tryd.underlying153 (by kernel_rfl) (by kernel_rfl) (e ▸ h2)
set_option maxRecDepth 100000 in
theorem lifted (os : Os) (started : os.Started) (H : Type) (enc : TypeId × Value → H) :
  ReturnsInHanded {} Tryd.checked os 3 .any (fun w args => (Rows.fnExactCutTextSpec.pre enc Tryd.prog Tryd.f3 [] false w args ∧ laidMetH Tryd.prog Rows.fnExactCutTextRow.laid w) ∧ sizedMet enc Tryd.prog Tryd.f3 (OpenSpec.ofChange Rows.fnExactCutTextSpec) false w args) (Rows.fnExactCutTextSpec.post enc Tryd.prog Tryd.f3 false true false false) := by
 refine returnsInHanded_of_change_and (C := Tryd.checked) (X := fun w _ => laidMetH Tryd.prog Rows.fnExactCutTextRow.laid w) (fun _ _ _ hh h => h.of_heap hh) own started (by kernel_rfl) Tryd.func3
  (ChangeSpec.witness_shaped (enc := enc) (C := Tryd.checked) (os := os) (X := fun w _ => laidMetH Tryd.prog Rows.fnExactCutTextRow.laid w) false (World.laidAll Tryd.prog os Rows.fnExactCutTextRow.laid) #[.agg #[.int .i64 0, .int .i64 0, .slice none 0 0]] 8 (World.laidAll_os _ _ _)
   (World.shaped_of_ZipB (by kernel_rfl) (by kernel_rfl)) (by kernel_rfl) (by kernel_rfl) (by kernel_rfl)
   (by rw [MakeChecks.laidMetH_plain _ _ _ (by kernel_rfl)]; exact laidMet_laidAll _ (by kernel_rfl) (by kernel_rfl))) ?_
 intro W base args ds gs before hval0 hW hcnd hsz0 hL _
 have hsz : (DataW.weightsEach Tryd.prog (Tryd.f3.params.toList ++ Rows.fnExactCutTextSpec.plain.varTypes Tryd.prog) (ds ++ gs)).all (· ≤ reachBytes) = true := hsz0
 have hval : ∀ (j : Nat) t v, Tryd.f3.params[j]? = some t → args[j]? = some v → Value.okWide Tryd.prog W .any base t v := hval0
 have hW' := hW
 obtain ⟨p, q, hA0, hV, rfl, hfz, hnd⟩ := hW
 have hA : DataW.TrodAll enc Tryd.prog W 0 (fun _ => true) true Tryd.f3.params.toList args.toList ds p := hA0
 rw [Tryd.params3] at hA hval hsz
 obtain ⟨v0, vs0, d0, ds0, p0, q0, hargs, rfl, rfl, h0, r0⟩ := trodAll_cons hA
 obtain ⟨rfl, rfl, rfl⟩ := trodAll_nil r0
 obtain rfl : args = #[v0] := by cases args; simp_all
 obtain ⟨rfl, rfl⟩ := trodVars_none hV
 have k0 := h0
 have lt0 : ∀ x ∈ p0, x.block < W.heap.size := by obtain ⟨m, hm⟩ := k0; exact DataW.trod_lt m _ _ _ hm
 obtain ⟨a0_0, a0_1, A0_2, c0_2, l0_2, rfl, wf0_0, wf0_1, hc0_2, hr0_2, wm0_2, wf0_2⟩ := open_P24 (hval 0 24 v0 rfl rfl) h0
 clear hA0 hval0 hsz0 hsz
 refine (PFnExactCutText.laws_FnExactCutText.walk Pure.FnExactCutText a0_0 a0_1 A0_2 c0_2 l0_2 W hr0_2 hc0_2 wf0_0 wf0_1 wm0_2 wf0_2 ⟨tab_of hL⟩).mono fun e W' ⟨he, bel⟩ => ?_
 subst he
 exact ⟨_, rfl, _, _, _, [], _, [], hW', trodAll_mk1 (shut_bool Tryd.underlying4 _), (trodAll_cons_mk (Below.trod laidOut (by kernel_rfl) (of_decide_eq_true (by kernel_rfl)) k0 bel lt0) trodAll_mk0), rfl, bel.frame _, fun h => by cases h⟩
theorem over : Rows.fnExactCutTextRow.holds Tryd.pinned (OpenSpec.ofChange Rows.fnExactCutTextSpec) :=
 OpenClaim.holds_of_wide 3 Tryd.f3 rfl rfl rfl rfl rfl rfl rfl ⟨rfl, rfl, rfl, rfl, rfl⟩ rfl rfl rfl rfl rfl (by kernel_rfl) Tryd.func3 (by kernel_rfl)
  (of_decide_eq_true (by kernel_rfl)) (by unfold Func.isWrapper; first | (rw [if_pos (by decide +kernel)]; kernel_rfl) | (rw [if_neg (by decide +kernel)]; exact ⟨rfl, rfl⟩))
  (fun os started H enc _ => lifted os started H enc)
theorem proved : Rows.FnExactCutTextCardSaid :=
 Claim7.holds_tied_plain_at .later [] [.data, .data, .data] true (true, "14669f3495236599a6c73706fb32c45dec5532afabbcefd517b891784a262a6c") true over (fun _ h => by cases h) (by kernel_rfl) (fun _ h => by cases h) fnExactCutText_row_tie rfl ⟨rfl, rfl⟩ (by kernel_rfl) rfl
  (fun f fn hf hfn => by
   obtain rfl : f = 3 := Option.some.inj ((show Tryd.prog.funcNamed Rows.fnExactCutTextRow.func = some 3 by kernel_rfl).symm.trans hf) |>.symm
   obtain rfl : fn = Tryd.f3 := (Option.some.inj (Tryd.func3.symm.trans hfn)).symm
   exact ⟨by kernel_rfl, fun j t ht => by
    rw [Tryd.params3] at ht
    have hm : t ∈ [24] := by simpa using Array.mem_of_getElem? ht
    have hall : ([24].all fun u => !Tryd.prog.wantsStandIn u) = true := by kernel_rfl
    exact (show Tryd.prog.wantsStandIn t = false by simpa using List.all_eq_true.1 hall t hm)⟩)
  (by kernel_rfl)
#print axioms proved
end Go.Proofs.YtmmcbdndelaeoaaDoor.fnExactCutText
namespace Go.Proofs.YtmmcbdndelaeoaaDoor
/-- The card, under a short name, for the claim. -/
theorem fnExactCutTextCard_holds : Rows.FnExactCutTextCardSaid := fnExactCutText.proved
end Go.Proofs.YtmmcbdndelaeoaaDoor
