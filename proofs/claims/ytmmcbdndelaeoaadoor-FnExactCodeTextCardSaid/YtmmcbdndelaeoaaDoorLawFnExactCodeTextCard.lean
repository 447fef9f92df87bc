-- made for this claim by a program of this session
import Derived.Test.YtmmcbdndelaeoaaDoorCards
import Derived.Test.YtmmcbdndelaeoaaDoorTie
import Derived.Handy
import Derived.Lay
import Derived.Stop.LaidErr
import Derived.Lib.LaidTab
import Derived.SevenTiedAt
import Derived.Test.YtmmcbdndelaeoaaDoorPFnExactCodeTextx17
import Derived.Test.YtmmcbdndelaeoaaDoorPureFnExactCodeText
import Derived.Test.YtmmcbdndelaeoaaDoorWGuardMoreInvWords
import Derived.KernelRfl
import Derived.WalkKit
import Derived.ProofKit
import Derived.OpenShut
import Derived.ShutString
import Derived.ChangeOld
import Derived.Below
import Derived.SizedLaws
import Derived.Carry
namespace Go.Proofs.YtmmcbdndelaeoaaDoor.fnExactCodeText
open Go.ChangeShapes Go.WideShapes Go.ChangeAt Go.RowKit Go.Proofs.YtmmcbdndelaeoaaDoorW.Opens Go.Proofs.YtmmcbdndelaeoaaDoorW.PrintWords Go.Proofs.YtmmcbdndelaeoaaDoor.PFnExactCodeText
open Go.ChangeMaps (open_string shut_string)
set_option linter.unusedVariables false
theorem own : ownKnob Tryd.prog.godebug = none := by kernel_rfl
theorem laidOut : laidOutB Tryd.prog = true := by kernel_rfl
set_option maxRecDepth 100000 in
theorem open_P45 {H : Type} {enc : TypeId × Value → H} {W : World} {v : Value} {d : DataW H} {p : List MemPlace} (hval : Value.okWide Tryd.prog W .any 0 45 v) (h : DataW.Trod enc Tryd.prog W 0 (fun _ => true) true 45 v d p) :
  ∃ (A0 : Option Addr) (c0 : Nat) (l0 : List (List Int)), v = .slice A0 l0.length c0 ∧ l0.length ≤ c0 ∧ Kd.C (Kd.slice 3 (Kd.int .i64)) W A0 l0.length l0 ∧ l0.length ≤ maxLen ∧ (∀ q ∈ l0, q.length ≤ maxLen ∧ ∀ q0 ∈ q, (Lit.int .i64 q0).wf = true) := by
 obtain ⟨a, len, cap, rfl⟩ := okWide_slice Tryd.underlying45 hval
 obtain ⟨fuel, h⟩ := h
 obtain ⟨l0, ⟨A0, c0, e, hl, hr⟩, hm, hw⟩ := (Opens.slice (e' := 74) Tryd.underlying45 (by kernel_rfl) (Opens.slice (e' := 3) Tryd.underlying74 (by kernel_rfl) (Opens.int Tryd.underlying3))) _ _ _ _ _ _ _ h
 injection e with e
 exact ⟨A0, c0, l0, e, hl, hr, hm, hw⟩

theorem tab_of {W : World} (h : laidMetH Tryd.prog Rows.fnExactCodeTextRow.laid W) : VT W := by
 rw [MakeChecks.laidMetH_plain _ _ _ (by kernel_rfl)] at h
 have h2 := (laidMet.tail (laidMet.tail h))
 have e : (Rows.laid_internal_strconv_uint64pow10 : DataW Unit) = Lib.tabData .u64 Lib.pow10Tab := by kernel_rfl
 exact Lib.tabIs_of_head (g := 3) (t := 171) (e := 153) (n := 20) vt_g (by kernel_rfl) Tryd.underlying171 Tryd.underlying153 (by kernel_rfl) (by kernel_rfl) (e ▸ h2)
set_option maxRecDepth 100000 in
theorem lifted (os : Os) (started : os.Started) (H : Type) (enc : TypeId × Value → H) :
  ReturnsInHanded {} Tryd.checked os 5 .any (fun w args => (Rows.fnExactCodeTextSpec.pre enc Tryd.prog Tryd.f5 [] false w args ∧ laidMetH Tryd.prog Rows.fnExactCodeTextRow.laid w) ∧ sizedMet enc Tryd.prog Tryd.f5 (OpenSpec.ofChange Rows.fnExactCodeTextSpec) false w args) (Rows.fnExactCodeTextSpec.post enc Tryd.prog Tryd.f5 false true false false) := by
 refine returnsInHanded_of_change_and (C := Tryd.checked) (X := fun w _ => laidMetH Tryd.prog Rows.fnExactCodeTextRow.laid w) (fun _ _ _ hh h => h.of_heap hh) own started (by kernel_rfl) Tryd.func5
  (ChangeSpec.witness_shaped (enc := enc) (C := Tryd.checked) (os := os) (X := fun w _ => laidMetH Tryd.prog Rows.fnExactCodeTextRow.laid w) false (World.laidAll Tryd.prog os Rows.fnExactCodeTextRow.laid) #[.slice none 0 0] 8 (World.laidAll_os _ _ _)
   (World.shaped_of_ZipB (by kernel_rfl) (by kernel_rfl)) (by kernel_rfl) (by kernel_rfl) (by kernel_rfl)
   (by rw [MakeChecks.laidMetH_plain _ _ _ (by kernel_rfl)]; exact laidMet_laidAll _ (by kernel_rfl) (by kernel_rfl))) ?_
 intro W base args ds gs before hval0 hW hcnd hsz0 hL _
 have hsz : (DataW.weightsEach Tryd.prog (Tryd.f5.params.toList ++ Rows.fnExactCodeTextSpec.plain.varTypes Tryd.prog) (ds ++ gs)).all (· ≤ reachBytes) = true := hsz0
 have hval : ∀ (j : Nat) t v, Tryd.f5.params[j]? = some t → args[j]? = some v → Value.okWide Tryd.prog W .any base t v := hval0
 have hW' := hW
 obtain ⟨p, q, hA0, hV, rfl, hfz, hnd⟩ := hW
 have hA : DataW.TrodAll enc Tryd.prog W 0 (fun _ => true) true Tryd.f5.params.toList args.toList ds p := hA0
 rw [Tryd.params5] at hA hval hsz
 obtain ⟨v0, vs0, d0, ds0, p0, q0, hargs, rfl, rfl, h0, r0⟩ := trodAll_cons hA
 obtain ⟨rfl, rfl, rfl⟩ := trodAll_nil r0
 obtain rfl : args = #[v0] := by cases args; simp_all
 obtain ⟨rfl, rfl⟩ := trodVars_none hV
 have k0 := h0
 have lt0 : ∀ x ∈ p0, x.block < W.heap.size := by obtain ⟨m, hm⟩ := k0; exact DataW.trod_lt m _ _ _ hm
 obtain ⟨A0, c0, l0, rfl, hc0, hr0, wm0, wf0⟩ := open_P45 (hval 0 45 v0 rfl rfl) h0
 clear hA0 hval0 hsz0 hsz
 refine (PFnExactCodeText.laws_FnExactCodeText.walk Pure.FnExactCodeText A0 c0 l0 W hr0 hc0 wm0 wf0 ⟨tab_of hL⟩).mono fun e W' ⟨he, bel⟩ => ?_
 subst he
 exact ⟨_, rfl, _, _, _, [], _, [], hW', trodAll_mk1 (shut_bool Tryd.underlying4 _), (trodAll_cons_mk (Below.trod laidOut (by kernel_rfl) (of_decide_eq_true (by kernel_rfl)) k0 bel lt0) trodAll_mk0), rfl, bel.frame _, fun h => by cases h⟩
theorem over : Rows.fnExactCodeTextRow.holds Tryd.pinned (OpenSpec.ofChange Rows.fnExactCodeTextSpec) :=
 OpenClaim.holds_of_wide 5 Tryd.f5 rfl rfl rfl rfl rfl rfl rfl ⟨rfl, rfl, rfl, rfl, rfl⟩ rfl rfl rfl rfl rfl (by kernel_rfl) Tryd.func5 (by kernel_rfl)
  (of_decide_eq_true (by kernel_rfl)) (by unfold Func.isWrapper; first | (rw [if_pos (by decide +kernel)]; kernel_rfl) | (rw [if_neg (by decide +kernel)]; exact ⟨rfl, rfl⟩))
  (fun os started H enc _ => lifted os started H enc)
theorem proved : Rows.FnExactCodeTextCardSaid :=
 Claim7.holds_tied_plain_at .later [] [.data, .data, .data] true (true, "14669f3495236599a6c73706fb32c45dec5532afabbcefd517b891784a262a6c") true over (fun _ h => by cases h) (by kernel_rfl) (fun _ h => by cases h) fnExactCodeText_row_tie rfl ⟨rfl, rfl⟩ (by kernel_rfl) rfl
  (fun f fn hf hfn => by
   obtain rfl : f = 5 := Option.some.inj ((show Tryd.prog.funcNamed Rows.fnExactCodeTextRow.func = some 5 by kernel_rfl).symm.trans hf) |>.symm
   obtain rfl : fn = Tryd.f5 := (Option.some.inj (Tryd.func5.symm.trans hfn)).symm
   exact ⟨by kernel_rfl, fun j t ht => by
    rw [Tryd.params5] at ht
    have hm : t ∈ [45] := by simpa using Array.mem_of_getElem? ht
    have hall : ([45].all fun u => !Tryd.prog.wantsStandIn u) = true := by kernel_rfl
    exact (show Tryd.prog.wantsStandIn t = false by simpa using List.all_eq_true.1 hall t hm)⟩)
  (by kernel_rfl)
#print axioms proved
end Go.Proofs.YtmmcbdndelaeoaaDoor.fnExactCodeText
namespace Go.Proofs.YtmmcbdndelaeoaaDoor
/-- The card, under a short name, for the claim. -/
theorem fnExactCodeTextCard_holds : Rows.FnExactCodeTextCardSaid := fnExactCodeText.proved
end Go.Proofs.YtmmcbdndelaeoaaDoor
