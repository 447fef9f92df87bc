-- made for this claim by a program of this session
import Derived.Test.YthnjbpabiamkjaaPFnExactCutOfx0
import Derived.Test.YthnjbpabiamkjaaPFnExactCutOfx1
import Derived.Test.YthnjbpabiamkjaaPFnExactCutOfx4
import Derived.Test.YthnjbpabiamkjaaPFnExactCutOfx10
namespace Go.Proofs.Ythnjbpabiamkjaa.PFnExactCutOf
open Go.RowKit Go.Proofs.YthnjbpabiamkjaaW.PrintWords Go.Proofs.YthnjbpabiamkjaaW.PrintLast Go.Proofs.YthnjbpabiamkjaaW.PrintMore
attribute [local go_sem] max2_int min2_int max_two min_two max_three min_three max_four min_four   -- for this text's walks alone
set_option linter.unusedVariables false
set_option linter.unusedSimpArgs false

/-! ### laws_FnExactCutOf: function 10 -/
mutual
def laws_FnExactCutOf.j0 : Nat → Int → Int → List (S97) → Bool → List (S73) → Bool → Bool → Int → Int → List (S73) → Int → Int → List (S73) → Option (Bool)
 | 0, _, _, _, _, _, _, _, _, _, _, _, _, _ => none
 | k + 1, x0, x1, x2, x9, x10, x12, x48, x332000, x332001, x332002, x342000, x342001, x342002 => if x48 = true then (some false) else ((laws_toSquareS.f k x2).bind fun t343 => ((laws_eqSquareS.f k x10 t343).bind fun t346 => (if t346 = true then ((laws_markSquareS.f k x10 1).bind fun bt347 => (if bt347.1 < 0 then (laws_FnExactCutOf.j1 k x0 x1 x2 x9 true x332000 x332001 x332002 x342000 x342001 x342002) else ((laws_eqCut.f k x342000 x342001 x342002 x332000 x332001 x332002).bind fun t349 => (if t349 = true then (laws_FnExactCutOf.j1 k x0 x1 x2 x9 (x12 != x9) x332000 x332001 x332002 x342000 x342001 x342002) else (laws_FnExactCutOf.j1 k x0 x1 x2 x9 true x332000 x332001 x332002 x342000 x342001 x342002))))) else (some false))))
def laws_FnExactCutOf.j1 : Nat → Int → Int → List (S97) → Bool → Bool → Int → Int → List (S73) → Int → Int → List (S73) → Option (Bool)
 | 0, _, _, _, _, _, _, _, _, _, _, _ => none
 | k + 1, x0, x1, x2, x9, x69, x332000, x332001, x332002, x342000, x342001, x342002 => if x69 = true then (some false) else ((laws_markCut.f k x342000 x342001 x342002 1).bind fun bt350 => ((laws_heldCut.f k x342000 x342001 bt350.2 1).bind fun t352 => (if t352 < 0 then (some false) else (if t352 = bt350.1 then ((laws_toSquareS.f k x2).bind fun t353 => ((impl_CutOf.f k x0 x1 t353).bind fun bt356 => ((laws_eqCut.f k bt356.1 bt356.2.1 bt356.2.2.1 x332000 x332001 x332002).bind fun t363 => (if t363 = true then (laws_FnExactCutOf.j2 k bt350.1 (bt356.2.2.2 != x9) x342000 x342001 bt350.2) else (laws_FnExactCutOf.j2 k bt350.1 true x342000 x342001 bt350.2))))) else (some false)))))
def laws_FnExactCutOf.j2 : Nat → Int → Bool → Int → Int → List (S73) → Option (Bool)
 | 0, _, _, _, _, _ => none
 | k + 1, x14, x97, x342000, x342001, x342002 => if x97 = true then (some false) else ((laws_heldCut.f k x342000 x342001 x342002 1).bind fun t364 => (if t364 < 0 then (some false) else (if t364 = x14 then (some true) else (some false))))
end
def laws_FnExactCutOf.f (k : Nat) (a0 : Int) (a1 : Int) (l2 : List (S97)) : Option (Bool) := (laws_szSquareS.f l2 1048576).bind fun t321 => (if t321 < 0 then (some true) else ((laws_toSquareS.f k l2).bind fun t322 => ((spec_CutOf.f k a0 a1 t322).bind fun bt325 => ((laws_toSquareS.f k l2).bind fun t332 => ((impl_CutOf.f k a0 a1 t332).bind fun bt335 => ((laws_eqCut.f k bt335.1 bt335.2.1 bt335.2.2.1 bt325.1 bt325.2.1 bt325.2.2.1).bind fun t342 => (if t342 = true then (laws_FnExactCutOf.j0 k a0 a1 l2 bt325.2.2.2 t332 bt335.2.2.2 (bt335.2.2.2 != bt325.2.2.2) bt325.1 bt325.2.1 bt325.2.2.1 bt335.1 bt335.2.1 bt335.2.2.1) else (laws_FnExactCutOf.j0 k a0 a1 l2 bt325.2.2.2 t332 bt335.2.2.2 true bt325.1 bt325.2.1 bt325.2.2.1 bt335.1 bt335.2.1 bt335.2.2.1))))))))
set_option maxHeartbeats 8000000 in
set_option maxRecDepth 100000 in
theorem laws_FnExactCutOf.calls (k : Nat) (a0 : Int) (a1 : Int) (A2 : Option Addr) (c2 : Nat) (l2 : List (S97)) (r : Bool) (w : World) (hr2 : Kd.C k97 w A2 l2.length l2) (hc2 : l2.length ≤ c2) (h : laws_FnExactCutOf.f k a0 a1 l2 = some r) :
  Calls Try.prog 10 #[.int .i64 a0, .int .i64 a1, .slice A2 l2.length c2] w fun e w' => e = .returned (.bool r) ∧ Below w.heap.size w w' := by
 have hu31 := Try.underlying31
 have HR2 := Aside0.mk hr2
 have HC2 := Aside0.mk hc2
 clear hr2 hc2
 have HB := Aside0.mk (Below.refl w.heap.size w)
 have H : ((laws_szSquareS.f l2 1048576).bind fun t321 => (if t321 < 0 then (some true) else ((laws_toSquareS.f k l2).bind fun t322 => ((spec_CutOf.f k a0 a1 t322).bind fun bt325 => ((laws_toSquareS.f k l2).bind fun t332 => ((impl_CutOf.f k a0 a1 t332).bind fun bt335 => ((laws_eqCut.f k bt335.1 bt335.2.1 bt335.2.2.1 bt325.1 bt325.2.1 bt325.2.2.1).bind fun t342 => (if t342 = true then (laws_FnExactCutOf.j0 k a0 a1 l2 bt325.2.2.2 t332 bt335.2.2.2 (bt335.2.2.2 != bt325.2.2.2) bt325.1 bt325.2.1 bt325.2.2.1 bt335.1 bt335.2.1 bt335.2.2.1) else (laws_FnExactCutOf.j0 k a0 a1 l2 bt325.2.2.2 t332 bt335.2.2.2 true bt325.1 bt325.2.1 bt325.2.2.1 bt335.1 bt335.2.1 bt335.2.2.1))))))))) = some r := h
 clear h
 replace H := Option.bind_eq_some_iff.mp H
 obtain ⟨t321, A40, H⟩ := H
 replace H : (if t321 < 0 then (some true) else ((laws_toSquareS.f k l2).bind fun t322 => ((spec_CutOf.f k a0 a1 t322).bind fun bt325 => ((laws_toSquareS.f k l2).bind fun t332 => ((impl_CutOf.f k a0 a1 t332).bind fun bt335 => ((laws_eqCut.f k bt335.1 bt335.2.1 bt335.2.2.1 bt325.1 bt325.2.1 bt325.2.2.1).bind fun t342 => (if t342 = true then (laws_FnExactCutOf.j0 k a0 a1 l2 bt325.2.2.2 t332 bt335.2.2.2 (bt335.2.2.2 != bt325.2.2.2) bt325.1 bt325.2.1 bt325.2.2.1 bt335.1 bt335.2.1 bt335.2.2.1) else (laws_FnExactCutOf.j0 k a0 a1 l2 bt325.2.2.2 t332 bt335.2.2.2 true bt325.1 bt325.2.1 bt325.2.2.1 bt335.1 bt335.2.1 bt335.2.2.1)))))))) = some r := H
 have A4 := Aside0.mk A40
 clear A40
 by_cases c5 : t321 < 0
 ·rw [if_pos c5] at H
  have c5b0 : decide (t321 < 0) = true := decide_eq_true c5
  clear c5
  obtain rfl := Option.some.inj H
  go_enter Try.func10, Try.ntmps10
  go_wp2_with (first | ((with_reducible refine gate_callee (f := 44) rfl ?_); refine goesL_ (some 20) rfl rfl Try.func44 (by kernel_rfl) rfl #[.slice A2 l2.length c2, .int .i64 1048576] rfl itp ?_; (with_reducible refine (laws_szSquareS.calls _ _ l2 1048576 t321 _ ?side1 ?side2 A4.out).mono ?_); (case side1 => repeat (first | exact HR2.out | (with_reducible refine Kd.C_alloc ?_ _) | (with_reducible refine Kd.C_drewN ?_ _) | (with_reducible refine Kd.C_drew ?_))); (case side2 => exact HC2.out); rintro e w' ⟨rfl, ⟨nd, rfl⟩⟩; refine ⟨_, rfl, ?_⟩))
  go_ret
  exact ⟨by first | rfl | (simp [errW_none, errW_some] <;> rfl) | (simp [*, errW_none, errW_some] <;> rfl), by repeat (first | (with_reducible first | exact HB.out | apply below_alloc | apply pw_below_drewN | apply below_drew1) | exact HB.out)⟩
 ·rw [if_neg c5] at H
  have c5b0 : decide (t321 < 0) = false := decide_eq_false c5
  clear c5
  replace H := Option.bind_eq_some_iff.mp H
  obtain ⟨t322, A60, H⟩ := H
  replace H : ((spec_CutOf.f k a0 a1 t322).bind fun bt325 => ((laws_toSquareS.f k l2).bind fun t332 => ((impl_CutOf.f k a0 a1 t332).bind fun bt335 => ((laws_eqCut.f k bt335.1 bt335.2.1 bt335.2.2.1 bt325.1 bt325.2.1 bt325.2.2.1).bind fun t342 => (if t342 = true then (laws_FnExactCutOf.j0 k a0 a1 l2 bt325.2.2.2 t332 bt335.2.2.2 (bt335.2.2.2 != bt325.2.2.2) bt325.1 bt325.2.1 bt325.2.2.1 bt335.1 bt335.2.1 bt335.2.2.1) else (laws_FnExactCutOf.j0 k a0 a1 l2 bt325.2.2.2 t332 bt335.2.2.2 true bt325.1 bt325.2.1 bt325.2.2.1 bt335.1 bt335.2.1 bt335.2.2.1)))))) = some r := H
  have A6 := Aside0.mk A60
  clear A60
  replace H := Option.bind_eq_some_iff.mp H
  obtain ⟨⟨t325, t326, t327, t330⟩, A70, H⟩ := H
  replace H : ((laws_toSquareS.f k l2).bind fun t332 => ((impl_CutOf.f k a0 a1 t332).bind fun bt335 => ((laws_eqCut.f k bt335.1 bt335.2.1 bt335.2.2.1 t325 t326 t327).bind fun t342 => (if t342 = true then (laws_FnExactCutOf.j0 k a0 a1 l2 t330 t332 bt335.2.2.2 (bt335.2.2.2 != t330) t325 t326 t327 bt335.1 bt335.2.1 bt335.2.2.1) else (laws_FnExactCutOf.j0 k a0 a1 l2 t330 t332 bt335.2.2.2 true t325 t326 t327 bt335.1 bt335.2.1 bt335.2.2.1))))) = some r := H
  have A7 := Aside0.mk A70
  clear A70
  replace H := Option.bind_eq_some_iff.mp H
  obtain ⟨t332, A80, H⟩ := H
  replace H : ((impl_CutOf.f k a0 a1 t332).bind fun bt335 => ((laws_eqCut.f k bt335.1 bt335.2.1 bt335.2.2.1 t325 t326 t327).bind fun t342 => (if t342 = true then (laws_FnExactCutOf.j0 k a0 a1 l2 t330 t332 bt335.2.2.2 (bt335.2.2.2 != t330) t325 t326 t327 bt335.1 bt335.2.1 bt335.2.2.1) else (laws_FnExactCutOf.j0 k a0 a1 l2 t330 t332 bt335.2.2.2 true t325 t326 t327 bt335.1 bt335.2.1 bt335.2.2.1)))) = some r := H
  have A8 := Aside0.mk A80
  clear A80
  replace H := Option.bind_eq_some_iff.mp H
  obtain ⟨⟨t335, t336, t337, t340⟩, A90, H⟩ := H
  replace H : ((laws_eqCut.f k t335 t336 t337 t325 t326 t327).bind fun t342 => (if t342 = true then (laws_FnExactCutOf.j0 k a0 a1 l2 t330 t332 t340 (t340 != t330) t325 t326 t327 t335 t336 t337) else (laws_FnExactCutOf.j0 k a0 a1 l2 t330 t332 t340 true t325 t326 t327 t335 t336 t337))) = some r := H
  have A9 := Aside0.mk A90
  clear A90
  have HC10 := Aside0.mk H
  clear H
  go_enter Try.func10, Try.ntmps10
  go_upto_region 8 with (first | ((with_reducible refine gate_callee (f := 44) rfl ?_); refine goesL_ (some 20) rfl rfl Try.func44 (by kernel_rfl) rfl #[.slice A2 l2.length c2, .int .i64 1048576] rfl itp ?_; (with_reducible refine (laws_szSquareS.calls _ _ l2 1048576 t321 _ ?side1 ?side2 A4.out).mono ?_); (case side1 => repeat (first | exact HR2.out | (with_reducible refine Kd.C_alloc ?_ _) | (with_reducible refine Kd.C_drewN ?_ _) | (with_reducible refine Kd.C_drew ?_))); (case side2 => exact HC2.out); rintro e w' ⟨rfl, ⟨nd, rfl⟩⟩; refine ⟨_, rfl, ?_⟩) | ((with_reducible refine gate_callee (f := 46) rfl ?_); refine goesL_ (some 27) rfl rfl Try.func46 (by kernel_rfl) rfl #[.slice A2 l2.length c2] rfl itp ?_; (with_reducible refine (laws_toSquareS.calls k _ _ l2 t322 _ ?side1 ?side2 A6.out).mono ?_); (case side1 => repeat (first | exact HR2.out | (with_reducible refine Kd.C_alloc ?_ _) | (with_reducible refine Kd.C_drewN ?_ _) | (with_reducible refine Kd.C_drew ?_))); (case side2 => exact HC2.out); rintro e w11 ⟨v323, rfl, ho0, hb⟩; refine ⟨_, rfl, ?_⟩; have n0_ := Aside0.mk (Kd.R_lower ho0 (below_size (upW HB))); have n1_ := Aside0.mk (below_step (upW HB) hb); clear HB; have HO324 := n0_; have HB := n1_; clear n0_ n1_; (try clear hb); (try clear hb2); (try clear hk); (try clear hi); (try clear ho0); obtain ⟨Ao12, co12, eo12⟩ := Kd.R_slice HO324.out; subst eo12) | ((with_reducible refine gate_callee (f := 45) rfl ?_); refine goesL_ (some 28) rfl rfl Try.func45 (by kernel_rfl) rfl #[.int .i64 a0, .int .i64 a1, .slice Ao12 t322.length co12] rfl itp ?_; (with_reducible refine (spec_CutOf.calls k a0 a1 _ _ t322 t325 t326 t327 t330 _ ?side1 ?side2 A7.out).mono ?_); (case side1 => repeat (first | exact (Kd.R_reads' HO324.out).2.2 | (with_reducible refine Kd.C_alloc ?_ _) | (with_reducible refine Kd.C_drewN ?_ _) | (with_reducible refine Kd.C_drew ?_))); (case side2 => exact (Kd.R_reads' HO324.out).2.1); rintro e w13 ⟨v328, rfl, ho0, hb⟩; refine ⟨_, rfl, ?_⟩; have n0_ := Aside0.mk (Kd.R_elder' (upR HO324) (Kd.R_base ho0) hb); have n1_ := Aside0.mk (Kd.R_lower (Kd.R_new' ho0 (Kd.R_lt (upR HO324))) (below_size (upW HB))); have n2_ := Aside0.mk (below_step (upW HB) hb); clear HO324; clear HB; have HO324 := n0_; have HO329 := n1_; have HB := n2_; clear n0_ n1_ n2_; (try clear hb); (try clear hb2); (try clear hk); (try clear hi); (try clear ho0)) | ((with_reducible refine gate_dst (N := 8) rfl ?_); refine box_event ?hg (N := 8) ?hd (cs := #[.int .i64 0, .int .i64 0, .slice none 0 0]) (t := 31) ?hr ?_; (case hd => rfl); (case hg => rfl); (case hr => first | (go_simp; done) | (go_simp; rfl)); intro gb331 hg w14 hbox hb; have n0_ := Aside0.mk (Kd.R_below (upR HO324) hb); have n1_ := Aside0.mk (Kd.R_below (upR HO329) hb); have n2_ := Aside0.mk (below_step (upW HB) hb); have n3_ := Aside0.mk (hbox); have n4_ := Aside0.mk ((by rw [hg]; exact (below_size (upW HB)) : w.heap.size ≤ gb331)); have n5_ := Aside0.mk ((by rw [hg]; exact (below_size (upW HB)) : w.heap.size ≤ gb331)); clear HO324; clear HO329; clear HB; have HO324 := n0_; have HO329 := n1_; have HB := n2_; have BK331 := n3_; have GW331 := n4_; have GE331 := n5_; clear n0_ n1_ n2_ n3_ n4_ n5_; clear hb hbox hg; have hcz15_0 : w14.cell? ⟨gb331, 0, none⟩ = some (.int .i64 0) := (blk_cell BK331.out 0).trans rfl; have hcz15_1 : w14.cell? ⟨gb331, 1, none⟩ = some (.int .i64 0) := (blk_cell BK331.out 1).trans rfl; have hcz15_2 : w14.cell? ⟨gb331, 2, none⟩ = some (.slice none 0 0) := (blk_cell BK331.out 2).trans rfl; have hfz15_0 := blk_frozen BK331.out 0; have hfz15_1 := blk_frozen BK331.out 1; have hfz15_2 := blk_frozen BK331.out 2; obtain ⟨Ao16, co16, eo16⟩ := Kd.R_slice HO329.out; subst eo16) | ((with_reducible refine gate_callee (f := 46) rfl ?_); refine goesL_ (some 32) rfl rfl Try.func46 (by kernel_rfl) rfl #[.slice A2 l2.length c2] rfl itp ?_; (with_reducible refine (laws_toSquareS.calls k _ _ l2 t332 _ ?side1 ?side2 A8.out).mono ?_); (case side1 => exact Kd.C_below HR2.out (upW HB)); (case side2 => exact HC2.out); rintro e w17 ⟨v333, rfl, ho0, hb⟩; refine ⟨_, rfl, ?_⟩; have n0_ := Aside0.mk (Kd.R_elder' (by (with_reducible repeat (first | apply Kd.R_alloc | apply Kd.R_drewN | apply Kd.R_drew)); exact (Kd.R_mono (Kd.R_far (p := ⟨gb331, 2, none⟩) (Kd.R_far (p := ⟨gb331, 1, none⟩) (Kd.R_far (p := ⟨gb331, 0, none⟩) (Kd.R_types HO324.out BK331.out (by decide)) (fun _ hk => hk.2) (.int .i64 t325)) (fun _ hk => hk.2) (.int .i64 t326)) (fun _ hk => hk.2) (.slice Ao16 t327.length co16)) (fun _ h_ => h_.1))) (Kd.R_base ho0) hb); have n1_ := Aside0.mk (Kd.R_elder' (by (with_reducible repeat (first | apply Kd.R_alloc | apply Kd.R_drewN | apply Kd.R_drew)); exact (Kd.R_mono (Kd.R_far (p := ⟨gb331, 2, none⟩) (Kd.R_far (p := ⟨gb331, 1, none⟩) (Kd.R_far (p := ⟨gb331, 0, none⟩) (Kd.R_types HO329.out BK331.out (by decide)) (fun _ hk => hk.2) (.int .i64 t325)) (fun _ hk => hk.2) (.int .i64 t326)) (fun _ hk => hk.2) (.slice Ao16 t327.length co16)) (fun _ h_ => h_.1))) (Kd.R_base ho0) hb); have n2_ := Aside0.mk (Kd.R_lower (Kd.R_new' (Kd.R_new' ho0 (Kd.R_lt (by (with_reducible repeat (first | apply Kd.R_alloc | apply Kd.R_drewN | apply Kd.R_drew)); exact (Kd.R_mono (Kd.R_far (p := ⟨gb331, 2, none⟩) (Kd.R_far (p := ⟨gb331, 1, none⟩) (Kd.R_far (p := ⟨gb331, 0, none⟩) (Kd.R_types HO324.out BK331.out (by decide)) (fun _ hk => hk.2) (.int .i64 t325)) (fun _ hk => hk.2) (.int .i64 t326)) (fun _ hk => hk.2) (.slice Ao16 t327.length co16)) (fun _ h_ => h_.1))))) (Kd.R_lt (by (with_reducible repeat (first | apply Kd.R_alloc | apply Kd.R_drewN | apply Kd.R_drew)); exact (Kd.R_mono (Kd.R_far (p := ⟨gb331, 2, none⟩) (Kd.R_far (p := ⟨gb331, 1, none⟩) (Kd.R_far (p := ⟨gb331, 0, none⟩) (Kd.R_types HO329.out BK331.out (by decide)) (fun _ hk => hk.2) (.int .i64 t325)) (fun _ hk => hk.2) (.int .i64 t326)) (fun _ hk => hk.2) (.slice Ao16 t327.length co16)) (fun _ h_ => h_.1))))) (below_size (upW HB))); have n3_ := Aside0.mk (blk_below (g := gb331) (o := .cells #[.int .i64 t325, .int .i64 t326, .slice Ao16 t327.length co16] 31 (0, 0)) (by (with_reducible repeat (first | refine blk_drewN ?_ _ | refine blk_drew ?_ | refine blk_alloc ?_ _)); refine blk_put (cs := #[.int .i64 t325, .int .i64 t326, .slice none 0 0]) ?_ 2 _ rfl; (with_reducible repeat (first | refine blk_drewN ?_ _ | refine blk_drew ?_ | refine blk_alloc ?_ _)); refine blk_put (cs := #[.int .i64 t325, .int .i64 0, .slice none 0 0]) ?_ 1 _ rfl; (with_reducible repeat (first | refine blk_drewN ?_ _ | refine blk_drew ?_ | refine blk_alloc ?_ _)); refine blk_put (cs := #[.int .i64 0, .int .i64 0, .slice none 0 0]) ?_ 0 _ rfl; (with_reducible repeat (first | refine blk_drewN ?_ _ | refine blk_drew ?_ | refine blk_alloc ?_ _)); exact BK331.out) hb); have n4_ := Aside0.mk (below_step (upW HB) hb); clear HO324; clear HO329; clear BK331; clear HB; have HO324 := n0_; have HO329 := n1_; have HO334 := n2_; have BK331 := n3_; have HB := n4_; clear n0_ n1_ n2_ n3_ n4_; (try clear hb); (try clear hb2); (try clear hk); (try clear hi); (try clear ho0); obtain ⟨Ao18, co18, eo18⟩ := Kd.R_slice HO334.out; subst eo18) | ((with_reducible refine gate_callee (f := 47) rfl ?_); refine goesL_ (some 37) rfl rfl Try.func47 (by kernel_rfl) rfl #[.int .i64 a0, .int .i64 a1, .slice Ao18 t332.length co18] rfl itp ?_; (with_reducible refine (impl_CutOf.calls k a0 a1 _ _ t332 t335 t336 t337 t340 _ ?side1 ?side2 A9.out).mono ?_); (case side1 => repeat (first | exact (Kd.R_reads' HO334.out).2.2 | (with_reducible refine Kd.C_alloc ?_ _) | (with_reducible refine Kd.C_drewN ?_ _) | (with_reducible refine Kd.C_drew ?_))); (case side2 => exact (Kd.R_reads' HO334.out).2.1); rintro e w19 ⟨v338, rfl, ho0, hb⟩; refine ⟨_, rfl, ?_⟩; have n0_ := Aside0.mk (Kd.R_elder' (upR HO324) (Kd.R_base ho0) hb); have n1_ := Aside0.mk (Kd.R_elder' (upR HO329) (Kd.R_base ho0) hb); have n2_ := Aside0.mk (Kd.R_elder' (upR HO334) (Kd.R_base ho0) hb); have n3_ := Aside0.mk (Kd.R_lower (Kd.R_new' (Kd.R_new' (Kd.R_new' ho0 (Kd.R_lt (upR HO324))) (Kd.R_lt (upR HO329))) (Kd.R_lt (upR HO334))) (below_size (upW HB))); have n4_ := Aside0.mk (blk_below (upK BK331) hb); have n5_ := Aside0.mk (below_step (upW HB) hb); clear HO324; clear HO329; clear HO334; clear BK331; clear HB; have HO324 := n0_; have HO329 := n1_; have HO334 := n2_; have HO339 := n3_; have BK331 := n4_; have HB := n5_; clear n0_ n1_ n2_ n3_ n4_ n5_; (try clear hb); (try clear hb2); (try clear hk); (try clear hi); (try clear ho0)) | ((with_reducible refine gate_dst (N := 11) rfl ?_); refine box_event ?hg (N := 11) ?hd (cs := #[.int .i64 0, .int .i64 0, .slice none 0 0]) (t := 31) ?hr ?_; (case hd => rfl); (case hg => rfl); (case hr => first | (go_simp; done) | (go_simp; rfl)); intro gb341 hg w20 hbox hb; have n0_ := Aside0.mk (Kd.R_below (upR HO324) hb); have n1_ := Aside0.mk (Kd.R_below (upR HO329) hb); have n2_ := Aside0.mk (Kd.R_below (upR HO334) hb); have n3_ := Aside0.mk (Kd.R_below (upR HO339) hb); have n4_ := Aside0.mk (blk_below (upK BK331) hb); have n5_ := Aside0.mk (below_step (upW HB) hb); have n6_ := Aside0.mk (hbox); have n7_ := Aside0.mk ((by rw [hg]; exact (below_size (upW HB)) : w.heap.size ≤ gb341)); have n8_ := Aside0.mk ((by rw [hg]; exact (below_size (upW HB)) : w.heap.size ≤ gb341)); have n9_ := Aside0.mk ((by rw [hg]; exact Nat.ne_of_lt (blk_lt (upK BK331)) : gb331 ≠ gb341)); have n10_ := Aside0.mk ((by rw [hg]; exact Nat.ne_of_gt (blk_lt (upK BK331)) : gb341 ≠ gb331)); clear HO324; clear HO329; clear HO334; clear HO339; clear BK331; clear HB; have HO324 := n0_; have HO329 := n1_; have HO334 := n2_; have HO339 := n3_; have BK331 := n4_; have HB := n5_; have BK341 := n6_; have GW341 := n7_; have GE341 := n8_; have NB331_341 := n9_; have NB341_331 := n10_; clear n0_ n1_ n2_ n3_ n4_ n5_ n6_ n7_ n8_ n9_ n10_; clear hb hbox hg; have hnb21 := NB341_331.out; have hnc21 := NB331_341.out; have hcz22_0 : w20.cell? ⟨gb341, 0, none⟩ = some (.int .i64 0) := (blk_cell BK341.out 0).trans rfl; have hcz22_1 : w20.cell? ⟨gb341, 1, none⟩ = some (.int .i64 0) := (blk_cell BK341.out 1).trans rfl; have hcz22_2 : w20.cell? ⟨gb341, 2, none⟩ = some (.slice none 0 0) := (blk_cell BK341.out 2).trans rfl; have hfz22_0 := blk_frozen BK341.out 0; have hfz22_1 := blk_frozen BK341.out 1; have hfz22_2 := blk_frozen BK341.out 2; obtain ⟨Ao23, co23, eo23⟩ := Kd.R_slice HO339.out; subst eo23))
  (try simp only [Act.put, List.setIfInBounds_toArray, List.set_cons_zero, List.set_cons_succ])
  go_cut [48] (fun v48 wc => ∃ (kq : Nat) (x48_9 : Bool), v48 = .bool x48_9 ∧ Aside0 (laws_FnExactCutOf.j0 kq a0 a1 l2 t330 t332 t340 x48_9 t325 t326 t327 t335 t336 t337 = some r) ∧ Aside0 (kq ≤ k) ∧ Aside0 (Kd.R k73 73 wc w.heap.size (fun k_ => some k_ ≠ ((.slice Ao16 t327.length co16) : Value).ownBlock ∧ some k_ ≠ ((.slice Ao23 t337.length co23) : Value).ownBlock) (.slice Ao18 t332.length co18) t332) ∧ Aside0 (Kd.R k73 73 wc w.heap.size (fun k_ => some k_ ≠ ((.slice Ao18 t332.length co18) : Value).ownBlock ∧ some k_ ≠ ((.slice Ao23 t337.length co23) : Value).ownBlock) (.slice Ao16 t327.length co16) t327) ∧ Aside0 (Kd.R k73 73 wc w.heap.size (fun k_ => some k_ ≠ ((.slice Ao18 t332.length co18) : Value).ownBlock ∧ some k_ ≠ ((.slice Ao16 t327.length co16) : Value).ownBlock) (.slice Ao23 t337.length co23) t337) ∧ Aside0 (wc.heap[gb331]? = some (.cells #[.int .i64 t325, .int .i64 t326, (.slice Ao16 t327.length co16)] 31 (0, 0))) ∧ Aside0 (wc.heap[gb341]? = some (.cells #[.int .i64 t335, .int .i64 t336, (.slice Ao23 t337.length co23)] 31 (0, 0))) ∧ Aside0 (Below w.heap.size w wc))
  case first =>
   have H := HC10.out
   clear HC10
   replace H := Option.bind_eq_some_iff.mp H
   obtain ⟨t342, A240, H⟩ := H
   replace H : (if t342 = true then (laws_FnExactCutOf.j0 k a0 a1 l2 t330 t332 t340 (t340 != t330) t325 t326 t327 t335 t336 t337) else (laws_FnExactCutOf.j0 k a0 a1 l2 t330 t332 t340 true t325 t326 t327 t335 t336 t337)) = some r := H
   have A24 := Aside0.mk A240
   clear A240
   by_cases c25 : t342 = true
   ·subst c25
    have H1 : (laws_FnExactCutOf.j0 k a0 a1 l2 t330 t332 t340 (t340 != t330) t325 t326 t327 t335 t336 t337) = some r := by rw [if_pos rfl] at H; exact H
    clear H
    have H := H1
    clear H1
    have H' := Aside0.mk H
    clear H
    have hnb26 := NB341_331.out
    have hnc26 := NB331_341.out
    have hcz27_0 : w20.cell? ⟨gb341, 0, none⟩ = some (.int .i64 0) := (blk_cell BK341.out 0).trans rfl
    have hcz27_1 : w20.cell? ⟨gb341, 1, none⟩ = some (.int .i64 0) := (blk_cell BK341.out 1).trans rfl
    have hcz27_2 : w20.cell? ⟨gb341, 2, none⟩ = some (.slice none 0 0) := (blk_cell BK341.out 2).trans rfl
    have hfz27_0 := blk_frozen BK341.out 0
    have hfz27_1 := blk_frozen BK341.out 1
    have hfz27_2 := blk_frozen BK341.out 2
    have hcz28_0 : w20.cell? ⟨gb331, 0, none⟩ = some (.int .i64 t325) := (blk_cell BK331.out 0).trans rfl
    have hcz28_1 : w20.cell? ⟨gb331, 1, none⟩ = some (.int .i64 t326) := (blk_cell BK331.out 1).trans rfl
    have hcz28_2 : w20.cell? ⟨gb331, 2, none⟩ = some (.slice Ao16 t327.length co16) := (blk_cell BK331.out 2).trans rfl
    have hfz28_0 := blk_frozen BK331.out 0
    have hfz28_1 := blk_frozen BK331.out 1
    have hfz28_2 := blk_frozen BK331.out 2
    go_wp2_with (first | ((with_reducible refine gate_callee (f := 18) rfl ?_); refine goesL_ (some 42) rfl rfl Try.func18 (by kernel_rfl) rfl #[.agg #[.int .i64 t335, .int .i64 t336, .slice Ao23 t337.length co23], .agg #[.int .i64 t325, .int .i64 t326, .slice Ao16 t327.length co16]] rfl itp ?_; (with_reducible refine (laws_eqCut.calls k t335 t336 _ _ t337 t325 t326 _ _ t327 true _ ?side1 ?side2 ?side3 ?side4 A24.out).mono ?_); (case side1 => refine (Kd.R_reads' (e := 73) (base := w.heap.size) (ok := fun k_ => (((True ∧ some k_ ≠ (.slice Ao12 t322.length co12 : Value).ownBlock) ∧ some k_ ≠ (.slice Ao16 t327.length co16 : Value).ownBlock) ∧ some k_ ≠ (.slice Ao18 t332.length co18 : Value).ownBlock)) (n := t337.length) (c := co23) ?_).2.2; exact (by (with_reducible repeat (first | apply Kd.R_alloc | apply Kd.R_drewN | apply Kd.R_drew)); exact (Kd.R_mono (Kd.R_far (p := ⟨gb341, 2, none⟩) (Kd.R_far (p := ⟨gb341, 1, none⟩) (Kd.R_far (p := ⟨gb341, 0, none⟩) (Kd.R_types HO339.out BK341.out (by decide)) (fun _ hk => hk.2) (.int .i64 t335)) (fun _ hk => hk.2) (.int .i64 t336)) (fun _ hk => hk.2) (.slice Ao23 t337.length co23)) (fun _ h_ => h_.1)))); (case side2 => exact (Kd.R_reads' HO339.out).2.1); (case side3 => refine (Kd.R_reads' (e := 73) (base := w.heap.size) (ok := fun k_ => (((True ∧ some k_ ≠ (.slice Ao12 t322.length co12 : Value).ownBlock) ∧ some k_ ≠ (.slice Ao18 t332.length co18 : Value).ownBlock) ∧ some k_ ≠ (.slice Ao23 t337.length co23 : Value).ownBlock)) (n := t327.length) (c := co16) ?_).2.2; exact (by (with_reducible repeat (first | apply Kd.R_alloc | apply Kd.R_drewN | apply Kd.R_drew)); exact (Kd.R_mono (Kd.R_far (p := ⟨gb341, 2, none⟩) (Kd.R_far (p := ⟨gb341, 1, none⟩) (Kd.R_far (p := ⟨gb341, 0, none⟩) (Kd.R_types HO329.out BK341.out (by decide)) (fun _ hk => hk.2) (.int .i64 t335)) (fun _ hk => hk.2) (.int .i64 t336)) (fun _ hk => hk.2) (.slice Ao23 t337.length co23)) (fun _ h_ => h_.1)))); (case side4 => exact (Kd.R_reads' HO329.out).2.1); rintro e w29 ⟨rfl, hb⟩; refine ⟨_, rfl, ?_⟩; have n0_ := Aside0.mk (Kd.R_below (by (with_reducible repeat (first | apply Kd.R_alloc | apply Kd.R_drewN | apply Kd.R_drew)); exact (Kd.R_mono (Kd.R_far (p := ⟨gb341, 2, none⟩) (Kd.R_far (p := ⟨gb341, 1, none⟩) (Kd.R_far (p := ⟨gb341, 0, none⟩) (Kd.R_types HO324.out BK341.out (by decide)) (fun _ hk => hk.2) (.int .i64 t335)) (fun _ hk => hk.2) (.int .i64 t336)) (fun _ hk => hk.2) (.slice Ao23 t337.length co23)) (fun _ h_ => h_.1))) hb); have n1_ := Aside0.mk (Kd.R_below (by (with_reducible repeat (first | apply Kd.R_alloc | apply Kd.R_drewN | apply Kd.R_drew)); exact (Kd.R_mono (Kd.R_far (p := ⟨gb341, 2, none⟩) (Kd.R_far (p := ⟨gb341, 1, none⟩) (Kd.R_far (p := ⟨gb341, 0, none⟩) (Kd.R_types HO329.out BK341.out (by decide)) (fun _ hk => hk.2) (.int .i64 t335)) (fun _ hk => hk.2) (.int .i64 t336)) (fun _ hk => hk.2) (.slice Ao23 t337.length co23)) (fun _ h_ => h_.1))) hb); have n2_ := Aside0.mk (Kd.R_below (by (with_reducible repeat (first | apply Kd.R_alloc | apply Kd.R_drewN | apply Kd.R_drew)); exact (Kd.R_mono (Kd.R_far (p := ⟨gb341, 2, none⟩) (Kd.R_far (p := ⟨gb341, 1, none⟩) (Kd.R_far (p := ⟨gb341, 0, none⟩) (Kd.R_types HO334.out BK341.out (by decide)) (fun _ hk => hk.2) (.int .i64 t335)) (fun _ hk => hk.2) (.int .i64 t336)) (fun _ hk => hk.2) (.slice Ao23 t337.length co23)) (fun _ h_ => h_.1))) hb); have n3_ := Aside0.mk (Kd.R_below (by (with_reducible repeat (first | apply Kd.R_alloc | apply Kd.R_drewN | apply Kd.R_drew)); exact (Kd.R_mono (Kd.R_far (p := ⟨gb341, 2, none⟩) (Kd.R_far (p := ⟨gb341, 1, none⟩) (Kd.R_far (p := ⟨gb341, 0, none⟩) (Kd.R_types HO339.out BK341.out (by decide)) (fun _ hk => hk.2) (.int .i64 t335)) (fun _ hk => hk.2) (.int .i64 t336)) (fun _ hk => hk.2) (.slice Ao23 t337.length co23)) (fun _ h_ => h_.1))) hb); have n4_ := Aside0.mk (blk_below (upF BK331) hb); have n5_ := Aside0.mk (blk_below (g := gb341) (o := .cells #[.int .i64 t335, .int .i64 t336, .slice Ao23 t337.length co23] 31 (0, 0)) (by (with_reducible repeat (first | refine blk_drewN ?_ _ | refine blk_drew ?_ | refine blk_alloc ?_ _)); refine blk_put (cs := #[.int .i64 t335, .int .i64 t336, .slice none 0 0]) ?_ 2 _ rfl; (with_reducible repeat (first | refine blk_drewN ?_ _ | refine blk_drew ?_ | refine blk_alloc ?_ _)); refine blk_put (cs := #[.int .i64 t335, .int .i64 0, .slice none 0 0]) ?_ 1 _ rfl; (with_reducible repeat (first | refine blk_drewN ?_ _ | refine blk_drew ?_ | refine blk_alloc ?_ _)); refine blk_put (cs := #[.int .i64 0, .int .i64 0, .slice none 0 0]) ?_ 0 _ rfl; (with_reducible repeat (first | refine blk_drewN ?_ _ | refine blk_drew ?_ | refine blk_alloc ?_ _)); exact BK341.out) hb); have n6_ := Aside0.mk (below_step (upW HB) hb); clear HO324; clear HO329; clear HO334; clear HO339; clear BK331; clear BK341; clear HB; have HO324 := n0_; have HO329 := n1_; have HO334 := n2_; have HO339 := n3_; have BK331 := n4_; have BK341 := n5_; have HB := n6_; clear n0_ n1_ n2_ n3_ n4_ n5_ n6_; (try clear hb); (try clear hb2); (try clear hk); (try clear hi)))
    go_meet
    case rel => exact ⟨_, ((t340 != t330)), (by first | rfl | (simp; done) | (simp [*]; done)), H', ⟨by first | omega | exact Nat.le_refl _⟩, ⟨by (with_reducible repeat (first | apply Kd.R_alloc | apply Kd.R_drewN | apply Kd.R_drew)); exact Kd.R_mono HO334.out (fun _ hk => ⟨hk.1.2, hk.2⟩)⟩, ⟨by (with_reducible repeat (first | apply Kd.R_alloc | apply Kd.R_drewN | apply Kd.R_drew)); exact Kd.R_mono HO329.out (fun _ hk => ⟨hk.1.2, hk.2⟩)⟩, ⟨by (with_reducible repeat (first | apply Kd.R_alloc | apply Kd.R_drewN | apply Kd.R_drew)); exact Kd.R_mono HO339.out (fun _ hk => ⟨hk.2, hk.1.2⟩)⟩, ⟨upK BK331⟩, ⟨upK BK341⟩, ⟨upW HB⟩⟩
   ·replace c25 := Bool.eq_false_iff.mpr c25
    subst c25
    have H1 : (laws_FnExactCutOf.j0 k a0 a1 l2 t330 t332 t340 true t325 t326 t327 t335 t336 t337) = some r := by rw [if_neg (show ¬ (false = true) by decide)] at H; exact H
    clear H
    have H := H1
    clear H1
    have H' := Aside0.mk H
    clear H
    have hnb30 := NB341_331.out
    have hnc30 := NB331_341.out
    have hcz31_0 : w20.cell? ⟨gb341, 0, none⟩ = some (.int .i64 0) := (blk_cell BK341.out 0).trans rfl
    have hcz31_1 : w20.cell? ⟨gb341, 1, none⟩ = some (.int .i64 0) := (blk_cell BK341.out 1).trans rfl
    have hcz31_2 : w20.cell? ⟨gb341, 2, none⟩ = some (.slice none 0 0) := (blk_cell BK341.out 2).trans rfl
    have hfz31_0 := blk_frozen BK341.out 0
    have hfz31_1 := blk_frozen BK341.out 1
    have hfz31_2 := blk_frozen BK341.out 2
    have hcz32_0 : w20.cell? ⟨gb331, 0, none⟩ = some (.int .i64 t325) := (blk_cell BK331.out 0).trans rfl
    have hcz32_1 : w20.cell? ⟨gb331, 1, none⟩ = some (.int .i64 t326) := (blk_cell BK331.out 1).trans rfl
    have hcz32_2 : w20.cell? ⟨gb331, 2, none⟩ = some (.slice Ao16 t327.length co16) := (blk_cell BK331.out 2).trans rfl
    have hfz32_0 := blk_frozen BK331.out 0
    have hfz32_1 := blk_frozen BK331.out 1
    have hfz32_2 := blk_frozen BK331.out 2
    go_wp2_with (first | ((with_reducible refine gate_callee (f := 18) rfl ?_); refine goesL_ (some 42) rfl rfl Try.func18 (by kernel_rfl) rfl #[.agg #[.int .i64 t335, .int .i64 t336, .slice Ao23 t337.length co23], .agg #[.int .i64 t325, .int .i64 t326, .slice Ao16 t327.length co16]] rfl itp ?_; (with_reducible refine (laws_eqCut.calls k t335 t336 _ _ t337 t325 t326 _ _ t327 false _ ?side1 ?side2 ?side3 ?side4 A24.out).mono ?_); (case side1 => refine (Kd.R_reads' (e := 73) (base := w.heap.size) (ok := fun k_ => (((True ∧ some k_ ≠ (.slice Ao12 t322.length co12 : Value).ownBlock) ∧ some k_ ≠ (.slice Ao16 t327.length co16 : Value).ownBlock) ∧ some k_ ≠ (.slice Ao18 t332.length co18 : Value).ownBlock)) (n := t337.length) (c := co23) ?_).2.2; exact (by (with_reducible repeat (first | apply Kd.R_alloc | apply Kd.R_drewN | apply Kd.R_drew)); exact (Kd.R_mono (Kd.R_far (p := ⟨gb341, 2, none⟩) (Kd.R_far (p := ⟨gb341, 1, none⟩) (Kd.R_far (p := ⟨gb341, 0, none⟩) (Kd.R_types HO339.out BK341.out (by decide)) (fun _ hk => hk.2) (.int .i64 t335)) (fun _ hk => hk.2) (.int .i64 t336)) (fun _ hk => hk.2) (.slice Ao23 t337.length co23)) (fun _ h_ => h_.1)))); (case side2 => exact (Kd.R_reads' HO339.out).2.1); (case side3 => refine (Kd.R_reads' (e := 73) (base := w.heap.size) (ok := fun k_ => (((True ∧ some k_ ≠ (.slice Ao12 t322.length co12 : Value).ownBlock) ∧ some k_ ≠ (.slice Ao18 t332.length co18 : Value).ownBlock) ∧ some k_ ≠ (.slice Ao23 t337.length co23 : Value).ownBlock)) (n := t327.length) (c := co16) ?_).2.2; exact (by (with_reducible repeat (first | apply Kd.R_alloc | apply Kd.R_drewN | apply Kd.R_drew)); exact (Kd.R_mono (Kd.R_far (p := ⟨gb341, 2, none⟩) (Kd.R_far (p := ⟨gb341, 1, none⟩) (Kd.R_far (p := ⟨gb341, 0, none⟩) (Kd.R_types HO329.out BK341.out (by decide)) (fun _ hk => hk.2) (.int .i64 t335)) (fun _ hk => hk.2) (.int .i64 t336)) (fun _ hk => hk.2) (.slice Ao23 t337.length co23)) (fun _ h_ => h_.1)))); (case side4 => exact (Kd.R_reads' HO329.out).2.1); rintro e w33 ⟨rfl, hb⟩; refine ⟨_, rfl, ?_⟩; have n0_ := Aside0.mk (Kd.R_below (by (with_reducible repeat (first | apply Kd.R_alloc | apply Kd.R_drewN | apply Kd.R_drew)); exact (Kd.R_mono (Kd.R_far (p := ⟨gb341, 2, none⟩) (Kd.R_far (p := ⟨gb341, 1, none⟩) (Kd.R_far (p := ⟨gb341, 0, none⟩) (Kd.R_types HO324.out BK341.out (by decide)) (fun _ hk => hk.2) (.int .i64 t335)) (fun _ hk => hk.2) (.int .i64 t336)) (fun _ hk => hk.2) (.slice Ao23 t337.length co23)) (fun _ h_ => h_.1))) hb); have n1_ := Aside0.mk (Kd.R_below (by (with_reducible repeat (first | apply Kd.R_alloc | apply Kd.R_drewN | apply Kd.R_drew)); exact (Kd.R_mono (Kd.R_far (p := ⟨gb341, 2, none⟩) (Kd.R_far (p := ⟨gb341, 1, none⟩) (Kd.R_far (p := ⟨gb341, 0, none⟩) (Kd.R_types HO329.out BK341.out (by decide)) (fun _ hk => hk.2) (.int .i64 t335)) (fun _ hk => hk.2) (.int .i64 t336)) (fun _ hk => hk.2) (.slice Ao23 t337.length co23)) (fun _ h_ => h_.1))) hb); have n2_ := Aside0.mk (Kd.R_below (by (with_reducible repeat (first | apply Kd.R_alloc | apply Kd.R_drewN | apply Kd.R_drew)); exact (Kd.R_mono (Kd.R_far (p := ⟨gb341, 2, none⟩) (Kd.R_far (p := ⟨gb341, 1, none⟩) (Kd.R_far (p := ⟨gb341, 0, none⟩) (Kd.R_types HO334.out BK341.out (by decide)) (fun _ hk => hk.2) (.int .i64 t335)) (fun _ hk => hk.2) (.int .i64 t336)) (fun _ hk => hk.2) (.slice Ao23 t337.length co23)) (fun _ h_ => h_.1))) hb); have n3_ := Aside0.mk (Kd.R_below (by (with_reducible repeat (first | apply Kd.R_alloc | apply Kd.R_drewN | apply Kd.R_drew)); exact (Kd.R_mono (Kd.R_far (p := ⟨gb341, 2, none⟩) (Kd.R_far (p := ⟨gb341, 1, none⟩) (Kd.R_far (p := ⟨gb341, 0, none⟩) (Kd.R_types HO339.out BK341.out (by decide)) (fun _ hk => hk.2) (.int .i64 t335)) (fun _ hk => hk.2) (.int .i64 t336)) (fun _ hk => hk.2) (.slice Ao23 t337.length co23)) (fun _ h_ => h_.1))) hb); have n4_ := Aside0.mk (blk_below (upF BK331) hb); have n5_ := Aside0.mk (blk_below (g := gb341) (o := .cells #[.int .i64 t335, .int .i64 t336, .slice Ao23 t337.length co23] 31 (0, 0)) (by (with_reducible repeat (first | refine blk_drewN ?_ _ | refine blk_drew ?_ | refine blk_alloc ?_ _)); refine blk_put (cs := #[.int .i64 t335, .int .i64 t336, .slice none 0 0]) ?_ 2 _ rfl; (with_reducible repeat (first | refine blk_drewN ?_ _ | refine blk_drew ?_ | refine blk_alloc ?_ _)); refine blk_put (cs := #[.int .i64 t335, .int .i64 0, .slice none 0 0]) ?_ 1 _ rfl; (with_reducible repeat (first | refine blk_drewN ?_ _ | refine blk_drew ?_ | refine blk_alloc ?_ _)); refine blk_put (cs := #[.int .i64 0, .int .i64 0, .slice none 0 0]) ?_ 0 _ rfl; (with_reducible repeat (first | refine blk_drewN ?_ _ | refine blk_drew ?_ | refine blk_alloc ?_ _)); exact BK341.out) hb); have n6_ := Aside0.mk (below_step (upW HB) hb); clear HO324; clear HO329; clear HO334; clear HO339; clear BK331; clear BK341; clear HB; have HO324 := n0_; have HO329 := n1_; have HO334 := n2_; have HO339 := n3_; have BK331 := n4_; have BK341 := n5_; have HB := n6_; clear n0_ n1_ n2_ n3_ n4_ n5_ n6_; (try clear hb); (try clear hb2); (try clear hk); (try clear hi)))
    go_meet
    case rel => exact ⟨_, (true), (by first | rfl | (simp; done) | (simp [*]; done)), H', ⟨by first | omega | exact Nat.le_refl _⟩, ⟨by (with_reducible repeat (first | apply Kd.R_alloc | apply Kd.R_drewN | apply Kd.R_drew)); exact Kd.R_mono HO334.out (fun _ hk => ⟨hk.1.2, hk.2⟩)⟩, ⟨by (with_reducible repeat (first | apply Kd.R_alloc | apply Kd.R_drewN | apply Kd.R_drew)); exact Kd.R_mono HO329.out (fun _ hk => ⟨hk.1.2, hk.2⟩)⟩, ⟨by (with_reducible repeat (first | apply Kd.R_alloc | apply Kd.R_drewN | apply Kd.R_drew)); exact Kd.R_mono HO339.out (fun _ hk => ⟨hk.2, hk.1.2⟩)⟩, ⟨upK BK331⟩, ⟨upK BK341⟩, ⟨upW HB⟩⟩
  case rest =>
   clear HC10
   try clear c1
   try clear c2
   try clear p2
   try clear c3
   try clear c4
   try clear c5
   try clear c5b0
   try clear c10
   try clear c18
   try clear c21
   try clear c25
   try clear c26
   try clear c30
   try clear hcz15_0
   try clear hcz15_1
   try clear hcz15_2
   try clear hcz22_0
   try clear hcz22_1
   try clear hcz22_2
   try clear hcz27_0
   try clear hcz27_1
   try clear hcz27_2
   try clear hcz28_0
   try clear hcz28_1
   try clear hcz28_2
   try clear hcz31_0
   try clear hcz31_1
   try clear hcz31_2
   try clear hcz32_0
   try clear hcz32_1
   try clear hcz32_2
   try clear hfz15_0
   try clear hfz15_1
   try clear hfz15_2
   try clear hfz22_0
   try clear hfz22_1
   try clear hfz22_2
   try clear hfz27_0
   try clear hfz27_1
   try clear hfz27_2
   try clear hfz28_0
   try clear hfz28_1
   try clear hfz28_2
   try clear hfz31_0
   try clear hfz31_1
   try clear hfz31_2
   try clear hfz32_0
   try clear hfz32_1
   try clear hfz32_2
   obtain ⟨kq, x48_9, rfl, HA, HJ9, HO_10, HO_332002, HO_342002, BK331, BK341, HB⟩ := hcut
   cases kq with
   | zero => exact absurd HA.out (by simp [laws_FnExactCutOf.j0])
   | succ kj9 =>
    have H := HA.out
    clear HA
    simp only [laws_FnExactCutOf.j0] at H
    by_cases c34 : x48_9 = true
    ·subst c34
     have H1 : (some false) = some r := by rw [if_pos rfl] at H; exact H
     clear H
     have H := H1
     clear H1
     obtain rfl := Option.some.inj H
     go_wp2
     go_ret
     exact ⟨by first | rfl | (simp [errW_none, errW_some] <;> rfl) | (simp [*, errW_none, errW_some] <;> rfl), by repeat (first | (with_reducible first | exact HB.out | apply below_alloc | apply pw_below_drewN | apply below_drew1 | refine below_set ?_ GE331.out | refine below_set ?_ GE341.out) | exact HB.out)⟩
    ·replace c34 := Bool.eq_false_iff.mpr c34
     subst c34
     have H1 : ((laws_toSquareS.f kj9 l2).bind fun t343 => ((laws_eqSquareS.f kj9 t332 t343).bind fun t346 => (if t346 = true then ((laws_markSquareS.f kj9 t332 1).bind fun bt347 => (if bt347.1 < 0 then (laws_FnExactCutOf.j1 kj9 a0 a1 l2 t330 true t325 t326 t327 t335 t336 t337) else ((laws_eqCut.f kj9 t335 t336 t337 t325 t326 t327).bind fun t349 => (if t349 = true then (laws_FnExactCutOf.j1 kj9 a0 a1 l2 t330 (t340 != t330) t325 t326 t327 t335 t336 t337) else (laws_FnExactCutOf.j1 kj9 a0 a1 l2 t330 true t325 t326 t327 t335 t336 t337))))) else (some false)))) = some r := by rw [if_neg (show ¬ (false = true) by decide)] at H; exact H
     clear H
     have H := H1
     clear H1
     replace H := Option.bind_eq_some_iff.mp H
     obtain ⟨t343, A350, H⟩ := H
     replace H : ((laws_eqSquareS.f kj9 t332 t343).bind fun t346 => (if t346 = true then ((laws_markSquareS.f kj9 t332 1).bind fun bt347 => (if bt347.1 < 0 then (laws_FnExactCutOf.j1 kj9 a0 a1 l2 t330 true t325 t326 t327 t335 t336 t337) else ((laws_eqCut.f kj9 t335 t336 t337 t325 t326 t327).bind fun t349 => (if t349 = true then (laws_FnExactCutOf.j1 kj9 a0 a1 l2 t330 (t340 != t330) t325 t326 t327 t335 t336 t337) else (laws_FnExactCutOf.j1 kj9 a0 a1 l2 t330 true t325 t326 t327 t335 t336 t337))))) else (some false))) = some r := H
     have A35 := Aside0.mk A350
     clear A350
     replace H := Option.bind_eq_some_iff.mp H
     obtain ⟨t346, A360, H⟩ := H
     replace H : (if t346 = true then ((laws_markSquareS.f kj9 t332 1).bind fun bt347 => (if bt347.1 < 0 then (laws_FnExactCutOf.j1 kj9 a0 a1 l2 t330 true t325 t326 t327 t335 t336 t337) else ((laws_eqCut.f kj9 t335 t336 t337 t325 t326 t327).bind fun t349 => (if t349 = true then (laws_FnExactCutOf.j1 kj9 a0 a1 l2 t330 (t340 != t330) t325 t326 t327 t335 t336 t337) else (laws_FnExactCutOf.j1 kj9 a0 a1 l2 t330 true t325 t326 t327 t335 t336 t337))))) else (some false)) = some r := H
     have A36 := Aside0.mk A360
     clear A360
     by_cases c37 : t346 = true
     ·subst c37
      have H1 : ((laws_markSquareS.f kj9 t332 1).bind fun bt347 => (if bt347.1 < 0 then (laws_FnExactCutOf.j1 kj9 a0 a1 l2 t330 true t325 t326 t327 t335 t336 t337) else ((laws_eqCut.f kj9 t335 t336 t337 t325 t326 t327).bind fun t349 => (if t349 = true then (laws_FnExactCutOf.j1 kj9 a0 a1 l2 t330 (t340 != t330) t325 t326 t327 t335 t336 t337) else (laws_FnExactCutOf.j1 kj9 a0 a1 l2 t330 true t325 t326 t327 t335 t336 t337))))) = some r := by rw [if_pos rfl] at H; exact H
      clear H
      have H := H1
      clear H1
      replace H := Option.bind_eq_some_iff.mp H
      obtain ⟨⟨t347, t348⟩, A380, H⟩ := H
      replace H : (if t347 < 0 then (laws_FnExactCutOf.j1 kj9 a0 a1 l2 t330 true t325 t326 t327 t335 t336 t337) else ((laws_eqCut.f kj9 t335 t336 t337 t325 t326 t327).bind fun t349 => (if t349 = true then (laws_FnExactCutOf.j1 kj9 a0 a1 l2 t330 (t340 != t330) t325 t326 t327 t335 t336 t337) else (laws_FnExactCutOf.j1 kj9 a0 a1 l2 t330 true t325 t326 t327 t335 t336 t337)))) = some r := H
      have A38 := Aside0.mk A380
      clear A380
      have HC39 := Aside0.mk H
      clear H
      go_upto_region 14 with (first | ((with_reducible refine gate_callee (f := 46) rfl ?_); refine goesL_ (some 51) rfl rfl Try.func46 (by kernel_rfl) rfl #[.slice A2 l2.length c2] rfl itp ?_; (with_reducible refine (laws_toSquareS.calls kj9 _ _ l2 t343 _ ?side1 ?side2 A35.out).mono ?_); (case side1 => repeat (first | exact (Kd.C_below HR2.out HB.out) | (with_reducible refine Kd.C_alloc ?_ _) | (with_reducible refine Kd.C_drewN ?_ _) | (with_reducible refine Kd.C_drew ?_))); (case side2 => exact HC2.out); rintro e w40 ⟨v344, rfl, ho0, hb⟩; refine ⟨_, rfl, ?_⟩; have n0_ := Aside0.mk (Kd.R_elder' (upR HO_10) (Kd.R_base ho0) hb); have n1_ := Aside0.mk (Kd.R_elder' (upR HO_332002) (Kd.R_base ho0) hb); have n2_ := Aside0.mk (Kd.R_elder' (upR HO_342002) (Kd.R_base ho0) hb); have n3_ := Aside0.mk (Kd.R_lower (Kd.R_new' (Kd.R_new' (Kd.R_new' ho0 (Kd.R_lt (upR HO_10))) (Kd.R_lt (upR HO_332002))) (Kd.R_lt (upR HO_342002))) (below_size (upW HB))); have n4_ := Aside0.mk (blk_below (upK BK331) hb); have n5_ := Aside0.mk (blk_below (upK BK341) hb); have n6_ := Aside0.mk (below_step (upW HB) hb); clear HO_10; clear HO_332002; clear HO_342002; clear BK331; clear BK341; clear HB; have HO_10 := n0_; have HO_332002 := n1_; have HO_342002 := n2_; have HO345 := n3_; have BK331 := n4_; have BK341 := n5_; have HB := n6_; clear n0_ n1_ n2_ n3_ n4_ n5_ n6_; (try clear hb); (try clear hb2); (try clear hk); (try clear hi); (try clear ho0); obtain ⟨Ao41, co41, eo41⟩ := Kd.R_slice HO345.out; subst eo41) | ((with_reducible refine gate_callee (f := 48) rfl ?_); refine goesL_ (some 52) rfl rfl Try.func48 (by kernel_rfl) rfl #[.slice Ao18 t332.length co18, .slice Ao41 t343.length co41] rfl itp ?_; (with_reducible refine (laws_eqSquareS.calls kj9 _ _ t332 _ _ t343 true _ ?side1 ?side2 ?side3 ?side4 A36.out).mono ?_); (case side1 => repeat (first | exact (Kd.R_reads' HO_10.out).2.2 | (with_reducible refine Kd.C_alloc ?_ _) | (with_reducible refine Kd.C_drewN ?_ _) | (with_reducible refine Kd.C_drew ?_))); (case side2 => exact (Kd.R_reads' HO_10.out).2.1); (case side3 => repeat (first | exact (Kd.R_reads' HO345.out).2.2 | (with_reducible refine Kd.C_alloc ?_ _) | (with_reducible refine Kd.C_drewN ?_ _) | (with_reducible refine Kd.C_drew ?_))); (case side4 => exact (Kd.R_reads' HO345.out).2.1); rintro e w42 ⟨rfl, hb⟩; refine ⟨_, rfl, ?_⟩; have n0_ := Aside0.mk (Kd.R_below (upR HO_10) hb); have n1_ := Aside0.mk (Kd.R_below (upR HO_332002) hb); have n2_ := Aside0.mk (Kd.R_below (upR HO_342002) hb); have n3_ := Aside0.mk (Kd.R_below (upR HO345) hb); have n4_ := Aside0.mk (blk_below (upK BK331) hb); have n5_ := Aside0.mk (blk_below (upK BK341) hb); have n6_ := Aside0.mk (below_step (upW HB) hb); clear HO_10; clear HO_332002; clear HO_342002; clear HO345; clear BK331; clear BK341; clear HB; have HO_10 := n0_; have HO_332002 := n1_; have HO_342002 := n2_; have HO345 := n3_; have BK331 := n4_; have BK341 := n5_; have HB := n6_; clear n0_ n1_ n2_ n3_ n4_ n5_ n6_; (try clear hb); (try clear hb2); (try clear hk); (try clear hi)) | ((with_reducible refine gate_callee (f := 49) rfl ?_); refine goesL_ (some 56) rfl rfl Try.func49 (by kernel_rfl) rfl #[.slice Ao18 t332.length co18, .int .i64 1] rfl itp ?_; (with_reducible refine (laws_markSquareS.calls kj9 (fun k_ => some k_ = (.slice Ao18 t332.length co18 : Value).ownBlock) (.slice Ao18 t332.length co18) t332 1 t347 t348 w _ ?side1 ?side2 A38.out).mono ?_); (case side1 => repeat (first | (with_reducible first | exact HB.out | apply below_alloc | apply pw_below_drewN | apply below_drew1 | refine below_set ?_ GE331.out | refine below_set ?_ GE341.out) | exact HB.out)); (case side2 => exact Kd.R_tight rfl HO_10.out); rintro e w43 ⟨rfl, hy0, hb, hkp⟩; refine ⟨_, rfl, ?_⟩; have n0_ := Aside0.mk (Kd.R_reok rfl hy0 (fun k_ e_ => HO_10.out.1 k_ e_)); have n1_ := Aside0.mk (Kd.R_mono (ok' := fun k_ => some k_ ≠ (.slice Ao18 t332.length co18 : Value).ownBlock ∧ some k_ ≠ (.slice Ao23 t337.length co23 : Value).ownBlock ∧ some k_ ≠ (.slice Ao41 t343.length co41 : Value).ownBlock) (Kd.R_keptB (HO_332002.out) hkp (fun k_ hk_ hs_ => (hk_.1.1) hs_)) (fun k_ hk_ => ⟨hk_.1.1.1, hk_.1.1.2, hk_.1.2⟩)); have n2_ := Aside0.mk (Kd.R_mono (ok' := fun k_ => some k_ ≠ (.slice Ao18 t332.length co18 : Value).ownBlock ∧ some k_ ≠ (.slice Ao16 t327.length co16 : Value).ownBlock ∧ some k_ ≠ (.slice Ao41 t343.length co41 : Value).ownBlock) (Kd.R_keptB (HO_342002.out) hkp (fun k_ hk_ hs_ => (hk_.1.1) hs_)) (fun k_ hk_ => ⟨hk_.1.1.1, hk_.1.1.2, hk_.1.2⟩)); have n3_ := Aside0.mk (blk_kept (upK BK331) hkp (fun hs_ => (fun e_ => (Kd.R_ne HO_10.out BK331.out (by decide)) e_) hs_)); have n4_ := Aside0.mk (blk_kept (upK BK341) hkp (fun hs_ => (fun e_ => (Kd.R_ne HO_10.out BK341.out (by decide)) e_) hs_)); have n5_ := Aside0.mk (Kd.R_mono (ok' := fun k_ => some k_ ≠ (.slice Ao18 t332.length co18 : Value).ownBlock ∧ some k_ ≠ (.slice Ao16 t327.length co16 : Value).ownBlock ∧ some k_ ≠ (.slice Ao23 t337.length co23 : Value).ownBlock) (Kd.R_keptB (HO345.out) hkp (fun k_ hk_ hs_ => (hk_.1.1.2) hs_)) (fun k_ hk_ => ⟨hk_.1.1.1.2, hk_.1.1.2, hk_.1.2⟩)); have n6_ := Aside0.mk (hb); clear HO_10; clear HO_332002; clear HO_342002; clear BK331; clear BK341; clear HO345; clear HB; have HO_10 := n0_; have HO_332002 := n1_; have HO_342002 := n2_; have BK331 := n3_; have BK341 := n4_; have HO345 := n5_; have HB := n6_; clear n0_ n1_ n2_ n3_ n4_ n5_ n6_; (try clear hb); (try clear hkp); (try clear hy0)))
      (try simp only [Act.put, List.setIfInBounds_toArray, List.set_cons_zero, List.set_cons_succ])
      go_cut [69] (fun v69 wc => ∃ (kq : Nat) (x69_38 : Bool), v69 = .bool x69_38 ∧ Aside0 (laws_FnExactCutOf.j1 kq a0 a1 l2 t330 x69_38 t325 t326 t327 t335 t336 t337 = some r) ∧ Aside0 (kq ≤ kj9) ∧ Aside0 (Kd.R k73 73 wc w.heap.size (fun k_ => some k_ ≠ ((.slice Ao23 t337.length co23) : Value).ownBlock) (.slice Ao16 t327.length co16) t327) ∧ Aside0 (Kd.R k73 73 wc w.heap.size (fun k_ => some k_ ≠ ((.slice Ao16 t327.length co16) : Value).ownBlock) (.slice Ao23 t337.length co23) t337) ∧ Aside0 (wc.heap[gb331]? = some (.cells #[.int .i64 t325, .int .i64 t326, (.slice Ao16 t327.length co16)] 31 (0, 0))) ∧ Aside0 (wc.heap[gb341]? = some (.cells #[.int .i64 t335, .int .i64 t336, (.slice Ao23 t337.length co23)] 31 (0, 0))) ∧ Aside0 (Below w.heap.size w wc))
      case first =>
       have H := HC39.out
       clear HC39
       by_cases c44 : t347 < 0
       ·rw [if_pos c44] at H
        have c44b0 : decide (t347 < 0) = true := decide_eq_true c44
        clear c44
        (first | rw [c44b0] | (simp only [i64_w, i32_w]; rw [c44b0]) | skip)
        have H' := Aside0.mk H
        clear H
        go_wp2
        go_meet
        case rel => exact ⟨_, (true), (by first | rfl | (simp; done) | (simp [*]; done)), H', ⟨by have := HJ9.out; first | omega | exact Nat.le_refl _⟩, ⟨by (with_reducible repeat (first | apply Kd.R_alloc | apply Kd.R_drewN | apply Kd.R_drew)); exact Kd.R_mono HO_332002.out (fun _ hk => hk.2.1)⟩, ⟨by (with_reducible repeat (first | apply Kd.R_alloc | apply Kd.R_drewN | apply Kd.R_drew)); exact Kd.R_mono HO_342002.out (fun _ hk => hk.2.1)⟩, ⟨upK BK331⟩, ⟨upK BK341⟩, ⟨upW HB⟩⟩
       ·rw [if_neg c44] at H
        have c44b0 : decide (t347 < 0) = false := decide_eq_false c44
        clear c44
        (first | rw [c44b0] | (simp only [i64_w, i32_w]; rw [c44b0]) | skip)
        replace H := Option.bind_eq_some_iff.mp H
        obtain ⟨t349, A450, H⟩ := H
        replace H : (if t349 = true then (laws_FnExactCutOf.j1 kj9 a0 a1 l2 t330 (t340 != t330) t325 t326 t327 t335 t336 t337) else (laws_FnExactCutOf.j1 kj9 a0 a1 l2 t330 true t325 t326 t327 t335 t336 t337)) = some r := H
        have A45 := Aside0.mk A450
        clear A450
        by_cases c46 : t349 = true
        ·subst c46
         have H1 : (laws_FnExactCutOf.j1 kj9 a0 a1 l2 t330 (t340 != t330) t325 t326 t327 t335 t336 t337) = some r := by rw [if_pos rfl] at H; exact H
         clear H
         have H := H1
         clear H1
         have H' := Aside0.mk H
         clear H
         have hnb47 := NB341_331.out
         have hnc47 := NB331_341.out
         have hcz48_0 : w43.cell? ⟨gb341, 0, none⟩ = some (.int .i64 t335) := (blk_cell BK341.out 0).trans rfl
         have hcz48_1 : w43.cell? ⟨gb341, 1, none⟩ = some (.int .i64 t336) := (blk_cell BK341.out 1).trans rfl
         have hcz48_2 : w43.cell? ⟨gb341, 2, none⟩ = some (.slice Ao23 t337.length co23) := (blk_cell BK341.out 2).trans rfl
         have hfz48_0 := blk_frozen BK341.out 0
         have hfz48_1 := blk_frozen BK341.out 1
         have hfz48_2 := blk_frozen BK341.out 2
         have hcz49_0 : w43.cell? ⟨gb331, 0, none⟩ = some (.int .i64 t325) := (blk_cell BK331.out 0).trans rfl
         have hcz49_1 : w43.cell? ⟨gb331, 1, none⟩ = some (.int .i64 t326) := (blk_cell BK331.out 1).trans rfl
         have hcz49_2 : w43.cell? ⟨gb331, 2, none⟩ = some (.slice Ao16 t327.length co16) := (blk_cell BK331.out 2).trans rfl
         have hfz49_0 := blk_frozen BK331.out 0
         have hfz49_1 := blk_frozen BK331.out 1
         have hfz49_2 := blk_frozen BK331.out 2
         go_wp2_with (first | (go_at_call 18; (with_reducible refine (laws_eqCut.calls kj9 t335 t336 _ _ t337 t325 t326 _ _ t327 true _ ?side1 ?side2 ?side3 ?side4 A45.out).mono ?_); (case side1 => repeat (first | exact (Kd.R_reads' HO_342002.out).2.2 | (with_reducible refine Kd.C_alloc ?_ _) | (with_reducible refine Kd.C_drewN ?_ _) | (with_reducible refine Kd.C_drew ?_))); (case side2 => exact (Kd.R_reads' HO_342002.out).2.1); (case side3 => repeat (first | exact (Kd.R_reads' HO_332002.out).2.2 | (with_reducible refine Kd.C_alloc ?_ _) | (with_reducible refine Kd.C_drewN ?_ _) | (with_reducible refine Kd.C_drew ?_))); (case side4 => exact (Kd.R_reads' HO_332002.out).2.1); rintro e w50 ⟨rfl, hb⟩; have n0_ := Aside0.mk (Kd.R_below (upR HO_10) hb); have n1_ := Aside0.mk (Kd.R_below (upR HO_332002) hb); have n2_ := Aside0.mk (Kd.R_below (upR HO_342002) hb); have n3_ := Aside0.mk (Kd.R_below (upR HO345) hb); have n4_ := Aside0.mk (blk_below (upK BK331) hb); have n5_ := Aside0.mk (blk_below (upK BK341) hb); have n6_ := Aside0.mk (below_step (upW HB) hb); clear HO_10; clear HO_332002; clear HO_342002; clear HO345; clear BK331; clear BK341; clear HB; have HO_10 := n0_; have HO_332002 := n1_; have HO_342002 := n2_; have HO345 := n3_; have BK331 := n4_; have BK341 := n5_; have HB := n6_; clear n0_ n1_ n2_ n3_ n4_ n5_ n6_; (try clear hb); (try clear hb2); (try clear hk); (try clear hi)))
         go_meet
         case rel => exact ⟨_, ((t340 != t330)), (by first | rfl | (simp; done) | (simp [*]; done)), H', ⟨by have := HJ9.out; first | omega | exact Nat.le_refl _⟩, ⟨by (with_reducible repeat (first | apply Kd.R_alloc | apply Kd.R_drewN | apply Kd.R_drew)); exact Kd.R_mono HO_332002.out (fun _ hk => hk.2.1)⟩, ⟨by (with_reducible repeat (first | apply Kd.R_alloc | apply Kd.R_drewN | apply Kd.R_drew)); exact Kd.R_mono HO_342002.out (fun _ hk => hk.2.1)⟩, ⟨upK BK331⟩, ⟨upK BK341⟩, ⟨upW HB⟩⟩
        ·replace c46 := Bool.eq_false_iff.mpr c46
         subst c46
         have H1 : (laws_FnExactCutOf.j1 kj9 a0 a1 l2 t330 true t325 t326 t327 t335 t336 t337) = some r := by rw [if_neg (show ¬ (false = true) by decide)] at H; exact H
         clear H
         have H := H1
         clear H1
         have H' := Aside0.mk H
         clear H
         have hnb51 := NB341_331.out
         have hnc51 := NB331_341.out
         have hcz52_0 : w43.cell? ⟨gb341, 0, none⟩ = some (.int .i64 t335) := (blk_cell BK341.out 0).trans rfl
         have hcz52_1 : w43.cell? ⟨gb341, 1, none⟩ = some (.int .i64 t336) := (blk_cell BK341.out 1).trans rfl
         have hcz52_2 : w43.cell? ⟨gb341, 2, none⟩ = some (.slice Ao23 t337.length co23) := (blk_cell BK341.out 2).trans rfl
         have hfz52_0 := blk_frozen BK341.out 0
         have hfz52_1 := blk_frozen BK341.out 1
         have hfz52_2 := blk_frozen BK341.out 2
         have hcz53_0 : w43.cell? ⟨gb331, 0, none⟩ = some (.int .i64 t325) := (blk_cell BK331.out 0).trans rfl
         have hcz53_1 : w43.cell? ⟨gb331, 1, none⟩ = some (.int .i64 t326) := (blk_cell BK331.out 1).trans rfl
         have hcz53_2 : w43.cell? ⟨gb331, 2, none⟩ = some (.slice Ao16 t327.length co16) := (blk_cell BK331.out 2).trans rfl
         have hfz53_0 := blk_frozen BK331.out 0
         have hfz53_1 := blk_frozen BK331.out 1
         have hfz53_2 := blk_frozen BK331.out 2
         go_wp2_with (first | (go_at_call 18; (with_reducible refine (laws_eqCut.calls kj9 t335 t336 _ _ t337 t325 t326 _ _ t327 false _ ?side1 ?side2 ?side3 ?side4 A45.out).mono ?_); (case side1 => repeat (first | exact (Kd.R_reads' HO_342002.out).2.2 | (with_reducible refine Kd.C_alloc ?_ _) | (with_reducible refine Kd.C_drewN ?_ _) | (with_reducible refine Kd.C_drew ?_))); (case side2 => exact (Kd.R_reads' HO_342002.out).2.1); (case side3 => repeat (first | exact (Kd.R_reads' HO_332002.out).2.2 | (with_reducible refine Kd.C_alloc ?_ _) | (with_reducible refine Kd.C_drewN ?_ _) | (with_reducible refine Kd.C_drew ?_))); (case side4 => exact (Kd.R_reads' HO_332002.out).2.1); rintro e w54 ⟨rfl, hb⟩; have n0_ := Aside0.mk (Kd.R_below (upR HO_10) hb); have n1_ := Aside0.mk (Kd.R_below (upR HO_332002) hb); have n2_ := Aside0.mk (Kd.R_below (upR HO_342002) hb); have n3_ := Aside0.mk (Kd.R_below (upR HO345) hb); have n4_ := Aside0.mk (blk_below (upK BK331) hb); have n5_ := Aside0.mk (blk_below (upK BK341) hb); have n6_ := Aside0.mk (below_step (upW HB) hb); clear HO_10; clear HO_332002; clear HO_342002; clear HO345; clear BK331; clear BK341; clear HB; have HO_10 := n0_; have HO_332002 := n1_; have HO_342002 := n2_; have HO345 := n3_; have BK331 := n4_; have BK341 := n5_; have HB := n6_; clear n0_ n1_ n2_ n3_ n4_ n5_ n6_; (try clear hb); (try clear hb2); (try clear hk); (try clear hi)))
         go_meet
         case rel => exact ⟨_, (true), (by first | rfl | (simp; done) | (simp [*]; done)), H', ⟨by have := HJ9.out; first | omega | exact Nat.le_refl _⟩, ⟨by (with_reducible repeat (first | apply Kd.R_alloc | apply Kd.R_drewN | apply Kd.R_drew)); exact Kd.R_mono HO_332002.out (fun _ hk => hk.2.1)⟩, ⟨by (with_reducible repeat (first | apply Kd.R_alloc | apply Kd.R_drewN | apply Kd.R_drew)); exact Kd.R_mono HO_342002.out (fun _ hk => hk.2.1)⟩, ⟨upK BK331⟩, ⟨upK BK341⟩, ⟨upW HB⟩⟩
      case rest =>
       clear HC39
       try clear c1
       try clear c2
       try clear p2
       try clear c3
       try clear c4
       try clear c5
       try clear c5b0
       try clear c10
       try clear c18
       try clear c21
       try clear c25
       try clear c26
       try clear c30
       try clear c34
       try clear c37
       try clear c44
       try clear c44b0
       try clear c45
       try clear c46
       try clear c47
       try clear c48
       try clear c49
       try clear c51
       try clear hcz15_0
       try clear hcz15_1
       try clear hcz15_2
       try clear hcz22_0
       try clear hcz22_1
       try clear hcz22_2
       try clear hcz27_0
       try clear hcz27_1
       try clear hcz27_2
       try clear hcz28_0
       try clear hcz28_1
       try clear hcz28_2
       try clear hcz31_0
       try clear hcz31_1
       try clear hcz31_2
       try clear hcz32_0
       try clear hcz32_1
       try clear hcz32_2
       try clear hcz48_0
       try clear hcz48_1
       try clear hcz48_2
       try clear hcz49_0
       try clear hcz49_1
       try clear hcz49_2
       try clear hcz52_0
       try clear hcz52_1
       try clear hcz52_2
       try clear hcz53_0
       try clear hcz53_1
       try clear hcz53_2
       try clear hfz15_0
       try clear hfz15_1
       try clear hfz15_2
       try clear hfz22_0
       try clear hfz22_1
       try clear hfz22_2
       try clear hfz27_0
       try clear hfz27_1
       try clear hfz27_2
       try clear hfz28_0
       try clear hfz28_1
       try clear hfz28_2
       try clear hfz31_0
       try clear hfz31_1
       try clear hfz31_2
       try clear hfz32_0
       try clear hfz32_1
       try clear hfz32_2
       try clear hfz48_0
       try clear hfz48_1
       try clear hfz48_2
       try clear hfz49_0
       try clear hfz49_1
       try clear hfz49_2
       try clear hfz52_0
       try clear hfz52_1
       try clear hfz52_2
       try clear hfz53_0
       try clear hfz53_1
       try clear hfz53_2
       try clear p2
       obtain ⟨kq, x69_38, rfl, HA, HJ38, HO_332002, HO_342002, BK331, BK341, HB⟩ := hcut
       cases kq with
       | zero => exact absurd HA.out (by simp [laws_FnExactCutOf.j1])
       | succ kj38 =>
        have H := HA.out
        clear HA
        simp only [laws_FnExactCutOf.j1] at H
        by_cases c55 : x69_38 = true
        ·subst c55
         have H1 : (some false) = some r := by rw [if_pos rfl] at H; exact H
         clear H
         have H := H1
         clear H1
         obtain rfl := Option.some.inj H
         go_wp2
         go_ret
         exact ⟨by first | rfl | (simp [errW_none, errW_some] <;> rfl) | (simp [*, errW_none, errW_some] <;> rfl), by repeat (first | (with_reducible first | exact HB.out | apply below_alloc | apply pw_below_drewN | apply below_drew1 | refine below_set ?_ GE331.out | refine below_set ?_ GE341.out) | exact HB.out)⟩
        ·replace c55 := Bool.eq_false_iff.mpr c55
         subst c55
         have H1 : ((laws_markCut.f kj38 t335 t336 t337 1).bind fun bt350 => ((laws_heldCut.f kj38 t335 t336 bt350.2 1).bind fun t352 => (if t352 < 0 then (some false) else (if t352 = bt350.1 then ((laws_toSquareS.f kj38 l2).bind fun t353 => ((impl_CutOf.f kj38 a0 a1 t353).bind fun bt356 => ((laws_eqCut.f kj38 bt356.1 bt356.2.1 bt356.2.2.1 t325 t326 t327).bind fun t363 => (if t363 = true then (laws_FnExactCutOf.j2 kj38 bt350.1 (bt356.2.2.2 != t330) t335 t336 bt350.2) else (laws_FnExactCutOf.j2 kj38 bt350.1 true t335 t336 bt350.2))))) else (some false))))) = some r := by rw [if_neg (show ¬ (false = true) by decide)] at H; exact H
         clear H
         have H := H1
         clear H1
         replace H := Option.bind_eq_some_iff.mp H
         obtain ⟨⟨t350, t351⟩, A560, H⟩ := H
         replace H : ((laws_heldCut.f kj38 t335 t336 t351 1).bind fun t352 => (if t352 < 0 then (some false) else (if t352 = t350 then ((laws_toSquareS.f kj38 l2).bind fun t353 => ((impl_CutOf.f kj38 a0 a1 t353).bind fun bt356 => ((laws_eqCut.f kj38 bt356.1 bt356.2.1 bt356.2.2.1 t325 t326 t327).bind fun t363 => (if t363 = true then (laws_FnExactCutOf.j2 kj38 t350 (bt356.2.2.2 != t330) t335 t336 t351) else (laws_FnExactCutOf.j2 kj38 t350 true t335 t336 t351))))) else (some false)))) = some r := H
         have A56 := Aside0.mk A560
         clear A560
         replace H := Option.bind_eq_some_iff.mp H
         obtain ⟨t352, A570, H⟩ := H
         replace H : (if t352 < 0 then (some false) else (if t352 = t350 then ((laws_toSquareS.f kj38 l2).bind fun t353 => ((impl_CutOf.f kj38 a0 a1 t353).bind fun bt356 => ((laws_eqCut.f kj38 bt356.1 bt356.2.1 bt356.2.2.1 t325 t326 t327).bind fun t363 => (if t363 = true then (laws_FnExactCutOf.j2 kj38 t350 (bt356.2.2.2 != t330) t335 t336 t351) else (laws_FnExactCutOf.j2 kj38 t350 true t335 t336 t351))))) else (some false))) = some r := H
         have A57 := Aside0.mk A570
         clear A570
         by_cases c58 : t352 < 0
         ·rw [if_pos c58] at H
          have c58b0 : decide (t352 < 0) = true := decide_eq_true c58
          clear c58
          obtain rfl := Option.some.inj H
          have hnb59 := NB341_331.out
          have hnc59 := NB331_341.out
          have hcz60_0 : wc.cell? ⟨gb341, 0, none⟩ = some (.int .i64 t335) := (blk_cell BK341.out 0).trans rfl
          have hcz60_1 : wc.cell? ⟨gb341, 1, none⟩ = some (.int .i64 t336) := (blk_cell BK341.out 1).trans rfl
          have hcz60_2 : wc.cell? ⟨gb341, 2, none⟩ = some (.slice Ao23 t337.length co23) := (blk_cell BK341.out 2).trans rfl
          have hfz60_0 := blk_frozen BK341.out 0
          have hfz60_1 := blk_frozen BK341.out 1
          have hfz60_2 := blk_frozen BK341.out 2
          go_wp2_with (first | ((with_reducible refine gate_callee (f := 19) rfl ?_); refine goesL_ (some 72) rfl rfl Try.func19 (by kernel_rfl) rfl #[.agg #[.int .i64 t335, .int .i64 t336, .slice Ao23 t337.length co23], .int .i64 1] rfl itp ?_; (with_reducible refine (laws_markCut.calls kj38 t335 t336 (fun k_ => some k_ = (.slice Ao23 t337.length co23 : Value).ownBlock) (.slice Ao23 t337.length co23) t337 1 t350 t351 w _ ?side1 ?side2 A56.out).mono ?_); (case side1 => repeat (first | (with_reducible first | exact HB.out | apply below_alloc | apply pw_below_drewN | apply below_drew1 | refine below_set ?_ GE331.out | refine below_set ?_ GE341.out) | exact HB.out)); (case side2 => exact Kd.R_tight rfl HO_342002.out); rintro e w61 ⟨rfl, hy0, hb, hkp⟩; refine ⟨_, rfl, ?_⟩; have n0_ := Aside0.mk (Kd.R_mono (ok' := fun k_ => some k_ ≠ (.slice Ao23 t337.length co23 : Value).ownBlock) (Kd.R_keptB (HO_332002.out) hkp (fun k_ hk_ hs_ => (hk_) hs_)) (fun k_ hk_ => hk_.1)); have n1_ := Aside0.mk (Kd.R_reok rfl hy0 (fun k_ e_ => HO_342002.out.1 k_ e_)); have n2_ := Aside0.mk (blk_kept (upK BK331) hkp (fun hs_ => (fun e_ => (Kd.R_ne HO_342002.out BK331.out (by decide)) e_) hs_)); have n3_ := Aside0.mk (blk_kept (upK BK341) hkp (fun hs_ => (fun e_ => (Kd.R_ne HO_342002.out BK341.out (by decide)) e_) hs_)); have n4_ := Aside0.mk (hb); clear HO_332002; clear HO_342002; clear BK331; clear BK341; clear HB; have HO_332002 := n0_; have HO_342002 := n1_; have BK331 := n2_; have BK341 := n3_; have HB := n4_; clear n0_ n1_ n2_ n3_ n4_; (try clear hb); (try clear hkp); (try clear hy0); have hcz62_0 : w61.cell? ⟨gb341, 0, none⟩ = some (.int .i64 t335) := (blk_cell BK341.out 0).trans rfl; have hcz62_1 : w61.cell? ⟨gb341, 1, none⟩ = some (.int .i64 t336) := (blk_cell BK341.out 1).trans rfl; have hcz62_2 : w61.cell? ⟨gb341, 2, none⟩ = some (.slice Ao23 t337.length co23) := (blk_cell BK341.out 2).trans rfl; have hfz62_0 := blk_frozen BK341.out 0; have hfz62_1 := blk_frozen BK341.out 1; have hfz62_2 := blk_frozen BK341.out 2) | ((with_reducible refine gate_callee (f := 38) rfl ?_); refine goesL_ (some 75) rfl rfl Try.func38 (by kernel_rfl) rfl #[.agg #[.int .i64 t335, .int .i64 t336, .slice Ao23 t351.length co23], .int .i64 1] rfl (by (try simp only [List.map_toArray, List.map_cons, List.map_nil]); first | done | (rw [show t351.length = t337.length from (Kd.R_reads' HO_342002.out).1.symm] <;> rfl) | rfl | (simp only [List.length_drop, List.length_take]; rfl)) ?_; (with_reducible refine (laws_heldCut.calls kj38 t335 t336 _ _ t351 1 t352 _ ?side1 ?side2 A57.out).mono ?_); (case side1 => repeat (first | exact (Kd.R_reads' HO_342002.out).2.2 | (with_reducible refine Kd.C_alloc ?_ _) | (with_reducible refine Kd.C_drewN ?_ _) | (with_reducible refine Kd.C_drew ?_))); (case side2 => rw [show t351.length = t337.length from (Kd.R_reads' HO_342002.out).1.symm]; exact (Kd.R_reads' HO_342002.out).2.1); rintro e w63 ⟨rfl, hb⟩; refine ⟨_, rfl, ?_⟩; have n0_ := Aside0.mk (Kd.R_below (upR HO_332002) hb); have n1_ := Aside0.mk (Kd.R_below (upR HO_342002) hb); have n2_ := Aside0.mk (blk_below (upK BK331) hb); have n3_ := Aside0.mk (blk_below (upK BK341) hb); have n4_ := Aside0.mk (below_step (upW HB) hb); clear HO_332002; clear HO_342002; clear BK331; clear BK341; clear HB; have HO_332002 := n0_; have HO_342002 := n1_; have BK331 := n2_; have BK341 := n3_; have HB := n4_; clear n0_ n1_ n2_ n3_ n4_; (try clear hb); (try clear hb2); (try clear hk); (try clear hi)))
          go_ret
          exact ⟨by first | rfl | (simp [errW_none, errW_some] <;> rfl) | (simp [*, errW_none, errW_some] <;> rfl), by repeat (first | (with_reducible first | exact HB.out | apply below_alloc | apply pw_below_drewN | apply below_drew1 | refine below_set ?_ GE331.out | refine below_set ?_ GE341.out) | exact HB.out)⟩
         ·rw [if_neg c58] at H
          have c58b0 : decide (t352 < 0) = false := decide_eq_false c58
          clear c58
          by_cases c64 : t352 = t350
          ·rw [if_pos c64] at H
           have c64b0 : (t352 == t350) = true := beq_iff_eq.mpr c64
           have c64b1 : (t352 != t350) = false := bne_eq_false_iff_eq.mpr c64
           clear c64
           replace H := Option.bind_eq_some_iff.mp H
           obtain ⟨t353, A650, H⟩ := H
           replace H : ((impl_CutOf.f kj38 a0 a1 t353).bind fun bt356 => ((laws_eqCut.f kj38 bt356.1 bt356.2.1 bt356.2.2.1 t325 t326 t327).bind fun t363 => (if t363 = true then (laws_FnExactCutOf.j2 kj38 t350 (bt356.2.2.2 != t330) t335 t336 t351) else (laws_FnExactCutOf.j2 kj38 t350 true t335 t336 t351)))) = some r := H
           have A65 := Aside0.mk A650
           clear A650
           replace H := Option.bind_eq_some_iff.mp H
           obtain ⟨⟨t356, t357, t358, t361⟩, A660, H⟩ := H
           replace H : ((laws_eqCut.f kj38 t356 t357 t358 t325 t326 t327).bind fun t363 => (if t363 = true then (laws_FnExactCutOf.j2 kj38 t350 (t361 != t330) t335 t336 t351) else (laws_FnExactCutOf.j2 kj38 t350 true t335 t336 t351))) = some r := H
           have A66 := Aside0.mk A660
           clear A660
           have HC67 := Aside0.mk H
           clear H
           have hnb68 := NB341_331.out
           have hnc68 := NB331_341.out
           have hcz69_0 : wc.cell? ⟨gb341, 0, none⟩ = some (.int .i64 t335) := (blk_cell BK341.out 0).trans rfl
           have hcz69_1 : wc.cell? ⟨gb341, 1, none⟩ = some (.int .i64 t336) := (blk_cell BK341.out 1).trans rfl
           have hcz69_2 : wc.cell? ⟨gb341, 2, none⟩ = some (.slice Ao23 t337.length co23) := (blk_cell BK341.out 2).trans rfl
           have hfz69_0 := blk_frozen BK341.out 0
           have hfz69_1 := blk_frozen BK341.out 1
           have hfz69_2 := blk_frozen BK341.out 2
           go_upto_region 25 with (first | ((with_reducible refine gate_callee (f := 19) rfl ?_); refine goesL_ (some 72) rfl rfl Try.func19 (by kernel_rfl) rfl #[.agg #[.int .i64 t335, .int .i64 t336, .slice Ao23 t337.length co23], .int .i64 1] rfl itp ?_; (with_reducible refine (laws_markCut.calls kj38 t335 t336 (fun k_ => some k_ = (.slice Ao23 t337.length co23 : Value).ownBlock) (.slice Ao23 t337.length co23) t337 1 t350 t351 w _ ?side1 ?side2 A56.out).mono ?_); (case side1 => repeat (first | (with_reducible first | exact HB.out | apply below_alloc | apply pw_below_drewN | apply below_drew1 | refine below_set ?_ GE331.out | refine below_set ?_ GE341.out) | exact HB.out)); (case side2 => exact Kd.R_tight rfl HO_342002.out); rintro e w70 ⟨rfl, hy0, hb, hkp⟩; refine ⟨_, rfl, ?_⟩; have n0_ := Aside0.mk (Kd.R_mono (ok' := fun k_ => some k_ ≠ (.slice Ao23 t337.length co23 : Value).ownBlock) (Kd.R_keptB (HO_332002.out) hkp (fun k_ hk_ hs_ => (hk_) hs_)) (fun k_ hk_ => hk_.1)); have n1_ := Aside0.mk (Kd.R_reok rfl hy0 (fun k_ e_ => HO_342002.out.1 k_ e_)); have n2_ := Aside0.mk (blk_kept (upK BK331) hkp (fun hs_ => (fun e_ => (Kd.R_ne HO_342002.out BK331.out (by decide)) e_) hs_)); have n3_ := Aside0.mk (blk_kept (upK BK341) hkp (fun hs_ => (fun e_ => (Kd.R_ne HO_342002.out BK341.out (by decide)) e_) hs_)); have n4_ := Aside0.mk (hb); clear HO_332002; clear HO_342002; clear BK331; clear BK341; clear HB; have HO_332002 := n0_; have HO_342002 := n1_; have BK331 := n2_; have BK341 := n3_; have HB := n4_; clear n0_ n1_ n2_ n3_ n4_; (try clear hb); (try clear hkp); (try clear hy0); have hcz71_0 : w70.cell? ⟨gb341, 0, none⟩ = some (.int .i64 t335) := (blk_cell BK341.out 0).trans rfl; have hcz71_1 : w70.cell? ⟨gb341, 1, none⟩ = some (.int .i64 t336) := (blk_cell BK341.out 1).trans rfl; have hcz71_2 : w70.cell? ⟨gb341, 2, none⟩ = some (.slice Ao23 t337.length co23) := (blk_cell BK341.out 2).trans rfl; have hfz71_0 := blk_frozen BK341.out 0; have hfz71_1 := blk_frozen BK341.out 1; have hfz71_2 := blk_frozen BK341.out 2) | ((with_reducible refine gate_callee (f := 38) rfl ?_); refine goesL_ (some 75) rfl rfl Try.func38 (by kernel_rfl) rfl #[.agg #[.int .i64 t335, .int .i64 t336, .slice Ao23 t351.length co23], .int .i64 1] rfl (by (try simp only [List.map_toArray, List.map_cons, List.map_nil]); first | done | (rw [show t351.length = t337.length from (Kd.R_reads' HO_342002.out).1.symm] <;> rfl) | rfl | (simp only [List.length_drop, List.length_take]; rfl)) ?_; (with_reducible refine (laws_heldCut.calls kj38 t335 t336 _ _ t351 1 t352 _ ?side1 ?side2 A57.out).mono ?_); (case side1 => repeat (first | exact (Kd.R_reads' HO_342002.out).2.2 | (with_reducible refine Kd.C_alloc ?_ _) | (with_reducible refine Kd.C_drewN ?_ _) | (with_reducible refine Kd.C_drew ?_))); (case side2 => rw [show t351.length = t337.length from (Kd.R_reads' HO_342002.out).1.symm]; exact (Kd.R_reads' HO_342002.out).2.1); rintro e w72 ⟨rfl, hb⟩; refine ⟨_, rfl, ?_⟩; have n0_ := Aside0.mk (Kd.R_below (upR HO_332002) hb); have n1_ := Aside0.mk (Kd.R_below (upR HO_342002) hb); have n2_ := Aside0.mk (blk_below (upK BK331) hb); have n3_ := Aside0.mk (blk_below (upK BK341) hb); have n4_ := Aside0.mk (below_step (upW HB) hb); clear HO_332002; clear HO_342002; clear BK331; clear BK341; clear HB; have HO_332002 := n0_; have HO_342002 := n1_; have BK331 := n2_; have BK341 := n3_; have HB := n4_; clear n0_ n1_ n2_ n3_ n4_; (try clear hb); (try clear hb2); (try clear hk); (try clear hi)) | ((with_reducible refine gate_callee (f := 46) rfl ?_); refine goesL_ (some 85) rfl rfl Try.func46 (by kernel_rfl) rfl #[.slice A2 l2.length c2] rfl itp ?_; (with_reducible refine (laws_toSquareS.calls kj38 _ _ l2 t353 _ ?side1 ?side2 A65.out).mono ?_); (case side1 => repeat (first | exact (Kd.C_below HR2.out HB.out) | (with_reducible refine Kd.C_alloc ?_ _) | (with_reducible refine Kd.C_drewN ?_ _) | (with_reducible refine Kd.C_drew ?_))); (case side2 => exact HC2.out); rintro e w73 ⟨v354, rfl, ho0, hb⟩; refine ⟨_, rfl, ?_⟩; have n0_ := Aside0.mk (Kd.R_elder' (upR HO_332002) (Kd.R_base ho0) hb); have n1_ := Aside0.mk (Kd.R_elder' (upR HO_342002) (Kd.R_base ho0) hb); have n2_ := Aside0.mk (Kd.R_lower (Kd.R_new' (Kd.R_new' ho0 (Kd.R_lt (upR HO_332002))) (Kd.R_lt (upR HO_342002))) (below_size (upW HB))); have n3_ := Aside0.mk (blk_below (upK BK331) hb); have n4_ := Aside0.mk (blk_below (upK BK341) hb); have n5_ := Aside0.mk (below_step (upW HB) hb); clear HO_332002; clear HO_342002; clear BK331; clear BK341; clear HB; have HO_332002 := n0_; have HO_342002 := n1_; have HO355 := n2_; have BK331 := n3_; have BK341 := n4_; have HB := n5_; clear n0_ n1_ n2_ n3_ n4_ n5_; (try clear hb); (try clear hb2); (try clear hk); (try clear hi); (try clear ho0); obtain ⟨Ao74, co74, eo74⟩ := Kd.R_slice HO355.out; subst eo74) | ((with_reducible refine gate_callee (f := 47) rfl ?_); refine goesL_ (some 86) rfl rfl Try.func47 (by kernel_rfl) rfl #[.int .i64 a0, .int .i64 a1, .slice Ao74 t353.length co74] rfl itp ?_; (with_reducible refine (impl_CutOf.calls kj38 a0 a1 _ _ t353 t356 t357 t358 t361 _ ?side1 ?side2 A66.out).mono ?_); (case side1 => repeat (first | exact (Kd.R_reads' HO355.out).2.2 | (with_reducible refine Kd.C_alloc ?_ _) | (with_reducible refine Kd.C_drewN ?_ _) | (with_reducible refine Kd.C_drew ?_))); (case side2 => exact (Kd.R_reads' HO355.out).2.1); rintro e w75 ⟨v359, rfl, ho0, hb⟩; refine ⟨_, rfl, ?_⟩; have n0_ := Aside0.mk (Kd.R_elder' (upR HO_332002) (Kd.R_base ho0) hb); have n1_ := Aside0.mk (Kd.R_elder' (upR HO_342002) (Kd.R_base ho0) hb); have n2_ := Aside0.mk (Kd.R_elder' (upR HO355) (Kd.R_base ho0) hb); have n3_ := Aside0.mk (Kd.R_lower (Kd.R_new' (Kd.R_new' (Kd.R_new' ho0 (Kd.R_lt (upR HO_332002))) (Kd.R_lt (upR HO_342002))) (Kd.R_lt (upR HO355))) (below_size (upW HB))); have n4_ := Aside0.mk (blk_below (upK BK331) hb); have n5_ := Aside0.mk (blk_below (upK BK341) hb); have n6_ := Aside0.mk (below_step (upW HB) hb); clear HO_332002; clear HO_342002; clear HO355; clear BK331; clear BK341; clear HB; have HO_332002 := n0_; have HO_342002 := n1_; have HO355 := n2_; have HO360 := n3_; have BK331 := n4_; have BK341 := n5_; have HB := n6_; clear n0_ n1_ n2_ n3_ n4_ n5_ n6_; (try clear hb); (try clear hb2); (try clear hk); (try clear hi); (try clear ho0)) | ((with_reducible refine gate_dst (N := 16) rfl ?_); refine box_event ?hg (N := 16) ?hd (cs := #[.int .i64 0, .int .i64 0, .slice none 0 0]) (t := 31) ?hr ?_; (case hd => rfl); (case hg => rfl); (case hr => first | (go_simp; done) | (go_simp; rfl)); intro gb362 hg w76 hbox hb; have n0_ := Aside0.mk (Kd.R_below (upR HO_332002) hb); have n1_ := Aside0.mk (Kd.R_below (upR HO_342002) hb); have n2_ := Aside0.mk (Kd.R_below (upR HO355) hb); have n3_ := Aside0.mk (Kd.R_below (upR HO360) hb); have n4_ := Aside0.mk (blk_below (upK BK331) hb); have n5_ := Aside0.mk (blk_below (upK BK341) hb); have n6_ := Aside0.mk (below_step (upW HB) hb); have n7_ := Aside0.mk (hbox); have n8_ := Aside0.mk ((by rw [hg]; exact (below_size (upW HB)) : w.heap.size ≤ gb362)); have n9_ := Aside0.mk ((by rw [hg]; exact (below_size (upW HB)) : w.heap.size ≤ gb362)); have n10_ := Aside0.mk ((by rw [hg]; exact Nat.ne_of_lt (blk_lt (upK BK331)) : gb331 ≠ gb362)); have n11_ := Aside0.mk ((by rw [hg]; exact Nat.ne_of_gt (blk_lt (upK BK331)) : gb362 ≠ gb331)); have n12_ := Aside0.mk ((by rw [hg]; exact Nat.ne_of_lt (blk_lt (upK BK341)) : gb341 ≠ gb362)); have n13_ := Aside0.mk ((by rw [hg]; exact Nat.ne_of_gt (blk_lt (upK BK341)) : gb362 ≠ gb341)); clear HO_332002; clear HO_342002; clear HO355; clear HO360; clear BK331; clear BK341; clear HB; have HO_332002 := n0_; have HO_342002 := n1_; have HO355 := n2_; have HO360 := n3_; have BK331 := n4_; have BK341 := n5_; have HB := n6_; have BK362 := n7_; have GW362 := n8_; have GE362 := n9_; have NB331_362 := n10_; have NB362_331 := n11_; have NB341_362 := n12_; have NB362_341 := n13_; clear n0_ n1_ n2_ n3_ n4_ n5_ n6_ n7_ n8_ n9_ n10_ n11_ n12_ n13_; clear hb hbox hg; have hnb77 := NB362_331.out; have hnc77 := NB331_362.out; have hnb78 := NB362_341.out; have hnc78 := NB341_362.out; have hcz79_0 : w76.cell? ⟨gb362, 0, none⟩ = some (.int .i64 0) := (blk_cell BK362.out 0).trans rfl; have hcz79_1 : w76.cell? ⟨gb362, 1, none⟩ = some (.int .i64 0) := (blk_cell BK362.out 1).trans rfl; have hcz79_2 : w76.cell? ⟨gb362, 2, none⟩ = some (.slice none 0 0) := (blk_cell BK362.out 2).trans rfl; have hfz79_0 := blk_frozen BK362.out 0; have hfz79_1 := blk_frozen BK362.out 1; have hfz79_2 := blk_frozen BK362.out 2; obtain ⟨Ao80, co80, eo80⟩ := Kd.R_slice HO360.out; subst eo80))
           (try simp only [Act.put, List.setIfInBounds_toArray, List.set_cons_zero, List.set_cons_succ])
           go_cut [97] (fun v97 wc => ∃ (kq : Nat) (x97_66 : Bool), v97 = .bool x97_66 ∧ Aside0 (laws_FnExactCutOf.j2 kq t350 x97_66 t335 t336 t351 = some r) ∧ Aside0 (kq ≤ kj38) ∧ Aside0 (Kd.R k73 73 wc w.heap.size (fun k_ => some k_ ≠ ((.slice Ao23 t337.length co23) : Value).ownBlock ∧ some k_ ≠ ((.slice Ao80 t358.length co80) : Value).ownBlock) (.slice Ao16 t327.length co16) t327) ∧ Aside0 (Kd.R k73 73 wc w.heap.size (fun k_ => some k_ ≠ ((.slice Ao16 t327.length co16) : Value).ownBlock ∧ some k_ ≠ ((.slice Ao80 t358.length co80) : Value).ownBlock) (.slice Ao23 t337.length co23) t351) ∧ Aside0 (Kd.R k73 73 wc w.heap.size (fun k_ => some k_ ≠ ((.slice Ao16 t327.length co16) : Value).ownBlock ∧ some k_ ≠ ((.slice Ao23 t337.length co23) : Value).ownBlock) (.slice Ao80 t358.length co80) t358) ∧ Aside0 (wc.heap[gb331]? = some (.cells #[.int .i64 t325, .int .i64 t326, (.slice Ao16 t327.length co16)] 31 (0, 0))) ∧ Aside0 (wc.heap[gb341]? = some (.cells #[.int .i64 t335, .int .i64 t336, (.slice Ao23 t337.length co23)] 31 (0, 0))) ∧ Aside0 (wc.heap[gb362]? = some (.cells #[.int .i64 t356, .int .i64 t357, (.slice Ao80 t358.length co80)] 31 (0, 0))) ∧ Aside0 (Below w.heap.size w wc))
           case first =>
            have H := HC67.out
            clear HC67
            replace H := Option.bind_eq_some_iff.mp H
            obtain ⟨t363, A810, H⟩ := H
            replace H : (if t363 = true then (laws_FnExactCutOf.j2 kj38 t350 (t361 != t330) t335 t336 t351) else (laws_FnExactCutOf.j2 kj38 t350 true t335 t336 t351)) = some r := H
            have A81 := Aside0.mk A810
            clear A810
            by_cases c82 : t363 = true
            ·subst c82
             have H1 : (laws_FnExactCutOf.j2 kj38 t350 (t361 != t330) t335 t336 t351) = some r := by rw [if_pos rfl] at H; exact H
             clear H
             have H := H1
             clear H1
             have H' := Aside0.mk H
             clear H
             have hnb83 := NB362_331.out
             have hnc83 := NB331_362.out
             have hnb84 := NB362_341.out
             have hnc84 := NB341_362.out
             have hcz85_0 : w76.cell? ⟨gb362, 0, none⟩ = some (.int .i64 0) := (blk_cell BK362.out 0).trans rfl
             have hcz85_1 : w76.cell? ⟨gb362, 1, none⟩ = some (.int .i64 0) := (blk_cell BK362.out 1).trans rfl
             have hcz85_2 : w76.cell? ⟨gb362, 2, none⟩ = some (.slice none 0 0) := (blk_cell BK362.out 2).trans rfl
             have hfz85_0 := blk_frozen BK362.out 0
             have hfz85_1 := blk_frozen BK362.out 1
             have hfz85_2 := blk_frozen BK362.out 2
             have hnb86 := NB331_341.out
             have hnc86 := NB341_331.out
             have hcz87_0 : w76.cell? ⟨gb331, 0, none⟩ = some (.int .i64 t325) := (blk_cell BK331.out 0).trans rfl
             have hcz87_1 : w76.cell? ⟨gb331, 1, none⟩ = some (.int .i64 t326) := (blk_cell BK331.out 1).trans rfl
             have hcz87_2 : w76.cell? ⟨gb331, 2, none⟩ = some (.slice Ao16 t327.length co16) := (blk_cell BK331.out 2).trans rfl
             have hfz87_0 := blk_frozen BK331.out 0
             have hfz87_1 := blk_frozen BK331.out 1
             have hfz87_2 := blk_frozen BK331.out 2
             go_wp2_with (first | ((with_reducible refine gate_callee (f := 18) rfl ?_); refine goesL_ (some 91) rfl rfl Try.func18 (by kernel_rfl) rfl #[.agg #[.int .i64 t356, .int .i64 t357, .slice Ao80 t358.length co80], .agg #[.int .i64 t325, .int .i64 t326, .slice Ao16 t327.length co16]] rfl itp ?_; (with_reducible refine (laws_eqCut.calls kj38 t356 t357 _ _ t358 t325 t326 _ _ t327 true _ ?side1 ?side2 ?side3 ?side4 A81.out).mono ?_); (case side1 => refine (Kd.R_reads' (e := 73) (base := w.heap.size) (ok := fun k_ => (((True ∧ some k_ ≠ (.slice Ao16 t327.length co16 : Value).ownBlock) ∧ some k_ ≠ (.slice Ao23 t337.length co23 : Value).ownBlock) ∧ some k_ ≠ (.slice Ao74 t353.length co74 : Value).ownBlock)) (n := t358.length) (c := co80) ?_).2.2; exact (by (with_reducible repeat (first | apply Kd.R_alloc | apply Kd.R_drewN | apply Kd.R_drew)); exact (Kd.R_mono (Kd.R_far (p := ⟨gb362, 2, none⟩) (Kd.R_far (p := ⟨gb362, 1, none⟩) (Kd.R_far (p := ⟨gb362, 0, none⟩) (Kd.R_types HO360.out BK362.out (by decide)) (fun _ hk => hk.2) (.int .i64 t356)) (fun _ hk => hk.2) (.int .i64 t357)) (fun _ hk => hk.2) (.slice Ao80 t358.length co80)) (fun _ h_ => h_.1)))); (case side2 => exact (Kd.R_reads' HO360.out).2.1); (case side3 => refine (Kd.R_reads' (e := 73) (base := w.heap.size) (ok := fun k_ => ((some k_ ≠ (.slice Ao23 t337.length co23 : Value).ownBlock ∧ some k_ ≠ (.slice Ao74 t353.length co74 : Value).ownBlock) ∧ some k_ ≠ (.slice Ao80 t358.length co80 : Value).ownBlock)) (n := t327.length) (c := co16) ?_).2.2; exact (by (with_reducible repeat (first | apply Kd.R_alloc | apply Kd.R_drewN | apply Kd.R_drew)); exact (Kd.R_mono (Kd.R_far (p := ⟨gb362, 2, none⟩) (Kd.R_far (p := ⟨gb362, 1, none⟩) (Kd.R_far (p := ⟨gb362, 0, none⟩) (Kd.R_types HO_332002.out BK362.out (by decide)) (fun _ hk => hk.2) (.int .i64 t356)) (fun _ hk => hk.2) (.int .i64 t357)) (fun _ hk => hk.2) (.slice Ao80 t358.length co80)) (fun _ h_ => h_.1)))); (case side4 => exact (Kd.R_reads' HO_332002.out).2.1); rintro e w88 ⟨rfl, hb⟩; refine ⟨_, rfl, ?_⟩; have n0_ := Aside0.mk (Kd.R_below (by (with_reducible repeat (first | apply Kd.R_alloc | apply Kd.R_drewN | apply Kd.R_drew)); exact (Kd.R_mono (Kd.R_far (p := ⟨gb362, 2, none⟩) (Kd.R_far (p := ⟨gb362, 1, none⟩) (Kd.R_far (p := ⟨gb362, 0, none⟩) (Kd.R_types HO_332002.out BK362.out (by decide)) (fun _ hk => hk.2) (.int .i64 t356)) (fun _ hk => hk.2) (.int .i64 t357)) (fun _ hk => hk.2) (.slice Ao80 t358.length co80)) (fun _ h_ => h_.1))) hb); have n1_ := Aside0.mk (Kd.R_below (by (with_reducible repeat (first | apply Kd.R_alloc | apply Kd.R_drewN | apply Kd.R_drew)); exact (Kd.R_mono (Kd.R_far (p := ⟨gb362, 2, none⟩) (Kd.R_far (p := ⟨gb362, 1, none⟩) (Kd.R_far (p := ⟨gb362, 0, none⟩) (Kd.R_types HO_342002.out BK362.out (by decide)) (fun _ hk => hk.2) (.int .i64 t356)) (fun _ hk => hk.2) (.int .i64 t357)) (fun _ hk => hk.2) (.slice Ao80 t358.length co80)) (fun _ h_ => h_.1))) hb); have n2_ := Aside0.mk (Kd.R_below (by (with_reducible repeat (first | apply Kd.R_alloc | apply Kd.R_drewN | apply Kd.R_drew)); exact (Kd.R_mono (Kd.R_far (p := ⟨gb362, 2, none⟩) (Kd.R_far (p := ⟨gb362, 1, none⟩) (Kd.R_far (p := ⟨gb362, 0, none⟩) (Kd.R_types HO355.out BK362.out (by decide)) (fun _ hk => hk.2) (.int .i64 t356)) (fun _ hk => hk.2) (.int .i64 t357)) (fun _ hk => hk.2) (.slice Ao80 t358.length co80)) (fun _ h_ => h_.1))) hb); have n3_ := Aside0.mk (Kd.R_below (by (with_reducible repeat (first | apply Kd.R_alloc | apply Kd.R_drewN | apply Kd.R_drew)); exact (Kd.R_mono (Kd.R_far (p := ⟨gb362, 2, none⟩) (Kd.R_far (p := ⟨gb362, 1, none⟩) (Kd.R_far (p := ⟨gb362, 0, none⟩) (Kd.R_types HO360.out BK362.out (by decide)) (fun _ hk => hk.2) (.int .i64 t356)) (fun _ hk => hk.2) (.int .i64 t357)) (fun _ hk => hk.2) (.slice Ao80 t358.length co80)) (fun _ h_ => h_.1))) hb); have n4_ := Aside0.mk (blk_below (upF BK331) hb); have n5_ := Aside0.mk (blk_below (upF BK341) hb); have n6_ := Aside0.mk (blk_below (g := gb362) (o := .cells #[.int .i64 t356, .int .i64 t357, .slice Ao80 t358.length co80] 31 (0, 0)) (by (with_reducible repeat (first | refine blk_drewN ?_ _ | refine blk_drew ?_ | refine blk_alloc ?_ _)); refine blk_put (cs := #[.int .i64 t356, .int .i64 t357, .slice none 0 0]) ?_ 2 _ rfl; (with_reducible repeat (first | refine blk_drewN ?_ _ | refine blk_drew ?_ | refine blk_alloc ?_ _)); refine blk_put (cs := #[.int .i64 t356, .int .i64 0, .slice none 0 0]) ?_ 1 _ rfl; (with_reducible repeat (first | refine blk_drewN ?_ _ | refine blk_drew ?_ | refine blk_alloc ?_ _)); refine blk_put (cs := #[.int .i64 0, .int .i64 0, .slice none 0 0]) ?_ 0 _ rfl; (with_reducible repeat (first | refine blk_drewN ?_ _ | refine blk_drew ?_ | refine blk_alloc ?_ _)); exact BK362.out) hb); have n7_ := Aside0.mk (below_step (upW HB) hb); clear HO_332002; clear HO_342002; clear HO355; clear HO360; clear BK331; clear BK341; clear BK362; clear HB; have HO_332002 := n0_; have HO_342002 := n1_; have HO355 := n2_; have HO360 := n3_; have BK331 := n4_; have BK341 := n5_; have BK362 := n6_; have HB := n7_; clear n0_ n1_ n2_ n3_ n4_ n5_ n6_ n7_; (try clear hb); (try clear hb2); (try clear hk); (try clear hi)))
             go_meet
             case rel => exact ⟨_, ((t361 != t330)), (by first | rfl | (simp; done) | (simp [*]; done)), H', ⟨by have := HJ9.out; have := HJ38.out; first | omega | exact Nat.le_refl _⟩, ⟨by (with_reducible repeat (first | apply Kd.R_alloc | apply Kd.R_drewN | apply Kd.R_drew)); exact Kd.R_mono HO_332002.out (fun _ hk => ⟨hk.1.1, hk.2⟩)⟩, ⟨by (with_reducible repeat (first | apply Kd.R_alloc | apply Kd.R_drewN | apply Kd.R_drew)); exact Kd.R_mono HO_342002.out (fun _ hk => ⟨hk.1.1, hk.2⟩)⟩, ⟨by (with_reducible repeat (first | apply Kd.R_alloc | apply Kd.R_drewN | apply Kd.R_drew)); exact Kd.R_mono HO360.out (fun _ hk => ⟨hk.1.1.2, hk.1.2⟩)⟩, ⟨upK BK331⟩, ⟨upK BK341⟩, ⟨upK BK362⟩, ⟨upW HB⟩⟩
            ·replace c82 := Bool.eq_false_iff.mpr c82
             subst c82
             have H1 : (laws_FnExactCutOf.j2 kj38 t350 true t335 t336 t351) = some r := by rw [if_neg (show ¬ (false = true) by decide)] at H; exact H
             clear H
             have H := H1
             clear H1
             have H' := Aside0.mk H
             clear H
             have hnb89 := NB362_331.out
             have hnc89 := NB331_362.out
             have hnb90 := NB362_341.out
             have hnc90 := NB341_362.out
             have hcz91_0 : w76.cell? ⟨gb362, 0, none⟩ = some (.int .i64 0) := (blk_cell BK362.out 0).trans rfl
             have hcz91_1 : w76.cell? ⟨gb362, 1, none⟩ = some (.int .i64 0) := (blk_cell BK362.out 1).trans rfl
             have hcz91_2 : w76.cell? ⟨gb362, 2, none⟩ = some (.slice none 0 0) := (blk_cell BK362.out 2).trans rfl
             have hfz91_0 := blk_frozen BK362.out 0
             have hfz91_1 := blk_frozen BK362.out 1
             have hfz91_2 := blk_frozen BK362.out 2
             have hnb92 := NB331_341.out
             have hnc92 := NB341_331.out
             have hcz93_0 : w76.cell? ⟨gb331, 0, none⟩ = some (.int .i64 t325) := (blk_cell BK331.out 0).trans rfl
             have hcz93_1 : w76.cell? ⟨gb331, 1, none⟩ = some (.int .i64 t326) := (blk_cell BK331.out 1).trans rfl
             have hcz93_2 : w76.cell? ⟨gb331, 2, none⟩ = some (.slice Ao16 t327.length co16) := (blk_cell BK331.out 2).trans rfl
             have hfz93_0 := blk_frozen BK331.out 0
             have hfz93_1 := blk_frozen BK331.out 1
             have hfz93_2 := blk_frozen BK331.out 2
             go_wp2_with (first | ((with_reducible refine gate_callee (f := 18) rfl ?_); refine goesL_ (some 91) rfl rfl Try.func18 (by kernel_rfl) rfl #[.agg #[.int .i64 t356, .int .i64 t357, .slice Ao80 t358.length co80], .agg #[.int .i64 t325, .int .i64 t326, .slice Ao16 t327.length co16]] rfl itp ?_; (with_reducible refine (laws_eqCut.calls kj38 t356 t357 _ _ t358 t325 t326 _ _ t327 false _ ?side1 ?side2 ?side3 ?side4 A81.out).mono ?_); (case side1 => refine (Kd.R_reads' (e := 73) (base := w.heap.size) (ok := fun k_ => (((True ∧ some k_ ≠ (.slice Ao16 t327.length co16 : Value).ownBlock) ∧ some k_ ≠ (.slice Ao23 t337.length co23 : Value).ownBlock) ∧ some k_ ≠ (.slice Ao74 t353.length co74 : Value).ownBlock)) (n := t358.length) (c := co80) ?_).2.2; exact (by (with_reducible repeat (first | apply Kd.R_alloc | apply Kd.R_drewN | apply Kd.R_drew)); exact (Kd.R_mono (Kd.R_far (p := ⟨gb362, 2, none⟩) (Kd.R_far (p := ⟨gb362, 1, none⟩) (Kd.R_far (p := ⟨gb362, 0, none⟩) (Kd.R_types HO360.out BK362.out (by decide)) (fun _ hk => hk.2) (.int .i64 t356)) (fun _ hk => hk.2) (.int .i64 t357)) (fun _ hk => hk.2) (.slice Ao80 t358.length co80)) (fun _ h_ => h_.1)))); (case side2 => exact (Kd.R_reads' HO360.out).2.1); (case side3 => refine (Kd.R_reads' (e := 73) (base := w.heap.size) (ok := fun k_ => ((some k_ ≠ (.slice Ao23 t337.length co23 : Value).ownBlock ∧ some k_ ≠ (.slice Ao74 t353.length co74 : Value).ownBlock) ∧ some k_ ≠ (.slice Ao80 t358.length co80 : Value).ownBlock)) (n := t327.length) (c := co16) ?_).2.2; exact (by (with_reducible repeat (first | apply Kd.R_alloc | apply Kd.R_drewN | apply Kd.R_drew)); exact (Kd.R_mono (Kd.R_far (p := ⟨gb362, 2, none⟩) (Kd.R_far (p := ⟨gb362, 1, none⟩) (Kd.R_far (p := ⟨gb362, 0, none⟩) (Kd.R_types HO_332002.out BK362.out (by decide)) (fun _ hk => hk.2) (.int .i64 t356)) (fun _ hk => hk.2) (.int .i64 t357)) (fun _ hk => hk.2) (.slice Ao80 t358.length co80)) (fun _ h_ => h_.1)))); (case side4 => exact (Kd.R_reads' HO_332002.out).2.1); rintro e w94 ⟨rfl, hb⟩; refine ⟨_, rfl, ?_⟩; have n0_ := Aside0.mk (Kd.R_below (by (with_reducible repeat (first | apply Kd.R_alloc | apply Kd.R_drewN | apply Kd.R_drew)); exact (Kd.R_mono (Kd.R_far (p := ⟨gb362, 2, none⟩) (Kd.R_far (p := ⟨gb362, 1, none⟩) (Kd.R_far (p := ⟨gb362, 0, none⟩) (Kd.R_types HO_332002.out BK362.out (by decide)) (fun _ hk => hk.2) (.int .i64 t356)) (fun _ hk => hk.2) (.int .i64 t357)) (fun _ hk => hk.2) (.slice Ao80 t358.length co80)) (fun _ h_ => h_.1))) hb); have n1_ := Aside0.mk (Kd.R_below (by (with_reducible repeat (first | apply Kd.R_alloc | apply Kd.R_drewN | apply Kd.R_drew)); exact (Kd.R_mono (Kd.R_far (p := ⟨gb362, 2, none⟩) (Kd.R_far (p := ⟨gb362, 1, none⟩) (Kd.R_far (p := ⟨gb362, 0, none⟩) (Kd.R_types HO_342002.out BK362.out (by decide)) (fun _ hk => hk.2) (.int .i64 t356)) (fun _ hk => hk.2) (.int .i64 t357)) (fun _ hk => hk.2) (.slice Ao80 t358.length co80)) (fun _ h_ => h_.1))) hb); have n2_ := Aside0.mk (Kd.R_below (by (with_reducible repeat (first | apply Kd.R_alloc | apply Kd.R_drewN | apply Kd.R_drew)); exact (Kd.R_mono (Kd.R_far (p := ⟨gb362, 2, none⟩) (Kd.R_far (p := ⟨gb362, 1, none⟩) (Kd.R_far (p := ⟨gb362, 0, none⟩) (Kd.R_types HO355.out BK362.out (by decide)) (fun _ hk => hk.2) (.int .i64 t356)) (fun _ hk => hk.2) (.int .i64 t357)) (fun _ hk => hk.2) (.slice Ao80 t358.length co80)) (fun _ h_ => h_.1))) hb); have n3_ := Aside0.mk (Kd.R_below (by (with_reducible repeat (first | apply Kd.R_alloc | apply Kd.R_drewN | apply Kd.R_drew)); exact (Kd.R_mono (Kd.R_far (p := ⟨gb362, 2, none⟩) (Kd.R_far (p := ⟨gb362, 1, none⟩) (Kd.R_far (p := ⟨gb362, 0, none⟩) (Kd.R_types HO360.out BK362.out (by decide)) (fun _ hk => hk.2) (.int .i64 t356)) (fun _ hk => hk.2) (.int .i64 t357)) (fun _ hk => hk.2) (.slice Ao80 t358.length co80)) (fun _ h_ => h_.1))) hb); have n4_ := Aside0.mk (blk_below (upF BK331) hb); have n5_ := Aside0.mk (blk_below (upF BK341) hb); have n6_ := Aside0.mk (blk_below (g := gb362) (o := .cells #[.int .i64 t356, .int .i64 t357, .slice Ao80 t358.length co80] 31 (0, 0)) (by (with_reducible repeat (first | refine blk_drewN ?_ _ | refine blk_drew ?_ | refine blk_alloc ?_ _)); refine blk_put (cs := #[.int .i64 t356, .int .i64 t357, .slice none 0 0]) ?_ 2 _ rfl; (with_reducible repeat (first | refine blk_drewN ?_ _ | refine blk_drew ?_ | refine blk_alloc ?_ _)); refine blk_put (cs := #[.int .i64 t356, .int .i64 0, .slice none 0 0]) ?_ 1 _ rfl; (with_reducible repeat (first | refine blk_drewN ?_ _ | refine blk_drew ?_ | refine blk_alloc ?_ _)); refine blk_put (cs := #[.int .i64 0, .int .i64 0, .slice none 0 0]) ?_ 0 _ rfl; (with_reducible repeat (first | refine blk_drewN ?_ _ | refine blk_drew ?_ | refine blk_alloc ?_ _)); exact BK362.out) hb); have n7_ := Aside0.mk (below_step (upW HB) hb); clear HO_332002; clear HO_342002; clear HO355; clear HO360; clear BK331; clear BK341; clear BK362; clear HB; have HO_332002 := n0_; have HO_342002 := n1_; have HO355 := n2_; have HO360 := n3_; have BK331 := n4_; have BK341 := n5_; have BK362 := n6_; have HB := n7_; clear n0_ n1_ n2_ n3_ n4_ n5_ n6_ n7_; (try clear hb); (try clear hb2); (try clear hk); (try clear hi)))
             go_meet
             case rel => exact ⟨_, (true), (by first | rfl | (simp; done) | (simp [*]; done)), H', ⟨by have := HJ9.out; have := HJ38.out; first | omega | exact Nat.le_refl _⟩, ⟨by (with_reducible repeat (first | apply Kd.R_alloc | apply Kd.R_drewN | apply Kd.R_drew)); exact Kd.R_mono HO_332002.out (fun _ hk => ⟨hk.1.1, hk.2⟩)⟩, ⟨by (with_reducible repeat (first | apply Kd.R_alloc | apply Kd.R_drewN | apply Kd.R_drew)); exact Kd.R_mono HO_342002.out (fun _ hk => ⟨hk.1.1, hk.2⟩)⟩, ⟨by (with_reducible repeat (first | apply Kd.R_alloc | apply Kd.R_drewN | apply Kd.R_drew)); exact Kd.R_mono HO360.out (fun _ hk => ⟨hk.1.1.2, hk.1.2⟩)⟩, ⟨upK BK331⟩, ⟨upK BK341⟩, ⟨upK BK362⟩, ⟨upW HB⟩⟩
           case rest =>
            clear HC67
            try clear c1
            try clear c2
            try clear p2
            try clear c3
            try clear c4
            try clear c5
            try clear c5b0
            try clear c6
            try clear c7
            try clear c8
            try clear c9
            try clear c10
            try clear c18
            try clear c19
            try clear c21
            try clear c25
            try clear c26
            try clear c30
            try clear c34
            try clear c37
            try clear c38
            try clear c44
            try clear c44b0
            try clear c45
            try clear c46
            try clear c47
            try clear c48
            try clear c49
            try clear c51
            try clear c55
            try clear c58
            try clear c58b0
            try clear c59
            try clear c64
            try clear c64b0
            try clear c64b1
            try clear c68
            try clear c77
            try clear c78
            try clear c82
            try clear c83
            try clear c84
            try clear c86
            try clear c89
            try clear c90
            try clear c92
            try clear hcz15_0
            try clear hcz15_1
            try clear hcz15_2
            try clear hcz22_0
            try clear hcz22_1
            try clear hcz22_2
            try clear hcz27_0
            try clear hcz27_1
            try clear hcz27_2
            try clear hcz28_0
            try clear hcz28_1
            try clear hcz28_2
            try clear hcz31_0
            try clear hcz31_1
            try clear hcz31_2
            try clear hcz32_0
            try clear hcz32_1
            try clear hcz32_2
            try clear hcz48_0
            try clear hcz48_1
            try clear hcz48_2
            try clear hcz49_0
            try clear hcz49_1
            try clear hcz49_2
            try clear hcz52_0
            try clear hcz52_1
            try clear hcz52_2
            try clear hcz53_0
            try clear hcz53_1
            try clear hcz53_2
            try clear hcz60_0
            try clear hcz60_1
            try clear hcz60_2
            try clear hcz62_0
            try clear hcz62_1
            try clear hcz62_2
            try clear hcz69_0
            try clear hcz69_1
            try clear hcz69_2
            try clear hcz71_0
            try clear hcz71_1
            try clear hcz71_2
            try clear hcz79_0
            try clear hcz79_1
            try clear hcz79_2
            try clear hcz85_0
            try clear hcz85_1
            try clear hcz85_2
            try clear hcz87_0
            try clear hcz87_1
            try clear hcz87_2
            try clear hcz91_0
            try clear hcz91_1
            try clear hcz91_2
            try clear hcz93_0
            try clear hcz93_1
            try clear hcz93_2
            try clear hfz15_0
            try clear hfz15_1
            try clear hfz15_2
            try clear hfz22_0
            try clear hfz22_1
            try clear hfz22_2
            try clear hfz27_0
            try clear hfz27_1
            try clear hfz27_2
            try clear hfz28_0
            try clear hfz28_1
            try clear hfz28_2
            try clear hfz31_0
            try clear hfz31_1
            try clear hfz31_2
            try clear hfz32_0
            try clear hfz32_1
            try clear hfz32_2
            try clear hfz48_0
            try clear hfz48_1
            try clear hfz48_2
            try clear hfz49_0
            try clear hfz49_1
            try clear hfz49_2
            try clear hfz52_0
            try clear hfz52_1
            try clear hfz52_2
            try clear hfz53_0
            try clear hfz53_1
            try clear hfz53_2
            try clear hfz60_0
            try clear hfz60_1
            try clear hfz60_2
            try clear hfz62_0
            try clear hfz62_1
            try clear hfz62_2
            try clear hfz69_0
            try clear hfz69_1
            try clear hfz69_2
            try clear hfz71_0
            try clear hfz71_1
            try clear hfz71_2
            try clear hfz79_0
            try clear hfz79_1
            try clear hfz79_2
            try clear hfz85_0
            try clear hfz85_1
            try clear hfz85_2
            try clear hfz87_0
            try clear hfz87_1
            try clear hfz87_2
            try clear hfz91_0
            try clear hfz91_1
            try clear hfz91_2
            try clear hfz93_0
            try clear hfz93_1
            try clear hfz93_2
            try clear p2
            obtain ⟨kq, x97_66, rfl, HA, HJ66, HO_332002, HO_342002, HO_363002, BK331, BK341, BK362, HB⟩ := hcut
            have hl342002_66 := (Kd.R_reads' HO_342002.out).1
            rw [hl342002_66] at HO_342002
            (try simp only [hl342002_66])
            (try simp only [hl342002_66] at BK331)
            (try simp only [hl342002_66] at BK341)
            (try simp only [hl342002_66] at BK362)
            (try simp only [hl342002_66] at HO_332002)
            (try simp only [hl342002_66] at HO_363002)
            cases kq with
            | zero => exact absurd HA.out (by simp [laws_FnExactCutOf.j2])
            | succ kj66 =>
             have H := HA.out
             clear HA
             simp only [laws_FnExactCutOf.j2] at H
             by_cases c95 : x97_66 = true
             ·subst c95
              have H1 : (some false) = some r := by rw [if_pos rfl] at H; exact H
              clear H
              have H := H1
              clear H1
              obtain rfl := Option.some.inj H
              go_wp2
              go_ret
              exact ⟨by first | rfl | (simp [errW_none, errW_some] <;> rfl) | (simp [*, errW_none, errW_some] <;> rfl), by repeat (first | (with_reducible first | exact HB.out | apply below_alloc | apply pw_below_drewN | apply below_drew1 | refine below_set ?_ GE331.out | refine below_set ?_ GE341.out | refine below_set ?_ GE362.out) | exact HB.out)⟩
             ·replace c95 := Bool.eq_false_iff.mpr c95
              subst c95
              have H1 : ((laws_heldCut.f kj66 t335 t336 t351 1).bind fun t364 => (if t364 < 0 then (some false) else (if t364 = t350 then (some true) else (some false)))) = some r := by rw [if_neg (show ¬ (false = true) by decide)] at H; exact H
              clear H
              have H := H1
              clear H1
              replace H := Option.bind_eq_some_iff.mp H
              obtain ⟨t364, A960, H⟩ := H
              replace H : (if t364 < 0 then (some false) else (if t364 = t350 then (some true) else (some false))) = some r := H
              have A96 := Aside0.mk A960
              clear A960
              by_cases c97 : t364 < 0
              ·rw [if_pos c97] at H
               have c97b0 : decide (t364 < 0) = true := decide_eq_true c97
               clear c97
               obtain rfl := Option.some.inj H
               have hnb98 := NB341_331.out
               have hnc98 := NB331_341.out
               have hnb99 := NB341_362.out
               have hnc99 := NB362_341.out
               have hcz100_0 : wc.cell? ⟨gb341, 0, none⟩ = some (.int .i64 t335) := (blk_cell BK341.out 0).trans rfl
               have hcz100_1 : wc.cell? ⟨gb341, 1, none⟩ = some (.int .i64 t336) := (blk_cell BK341.out 1).trans rfl
               have hcz100_2 : wc.cell? ⟨gb341, 2, none⟩ = some (.slice Ao23 t351.length co23) := (blk_cell BK341.out 2).trans rfl
               have hfz100_0 := blk_frozen BK341.out 0
               have hfz100_1 := blk_frozen BK341.out 1
               have hfz100_2 := blk_frozen BK341.out 2
               go_wp2_with (first | ((with_reducible refine gate_callee (f := 38) rfl ?_); refine goesL_ (some 100) rfl rfl Try.func38 (by kernel_rfl) rfl #[.agg #[.int .i64 t335, .int .i64 t336, .slice Ao23 t351.length co23], .int .i64 1] rfl itp ?_; (with_reducible refine (laws_heldCut.calls kj66 t335 t336 _ _ t351 1 t364 _ ?side1 ?side2 A96.out).mono ?_); (case side1 => repeat (first | exact (Kd.R_reads' HO_342002.out).2.2 | (with_reducible refine Kd.C_alloc ?_ _) | (with_reducible refine Kd.C_drewN ?_ _) | (with_reducible refine Kd.C_drew ?_))); (case side2 => exact (Kd.R_reads' HO_342002.out).2.1); rintro e w101 ⟨rfl, hb⟩; refine ⟨_, rfl, ?_⟩; have n0_ := Aside0.mk (Kd.R_below (upR HO_332002) hb); have n1_ := Aside0.mk (Kd.R_below (upR HO_342002) hb); have n2_ := Aside0.mk (Kd.R_below (upR HO_363002) hb); have n3_ := Aside0.mk (blk_below (upK BK331) hb); have n4_ := Aside0.mk (blk_below (upK BK341) hb); have n5_ := Aside0.mk (blk_below (upK BK362) hb); have n6_ := Aside0.mk (below_step (upW HB) hb); clear HO_332002; clear HO_342002; clear HO_363002; clear BK331; clear BK341; clear BK362; clear HB; have HO_332002 := n0_; have HO_342002 := n1_; have HO_363002 := n2_; have BK331 := n3_; have BK341 := n4_; have BK362 := n5_; have HB := n6_; clear n0_ n1_ n2_ n3_ n4_ n5_ n6_; (try clear hb); (try clear hb2); (try clear hk); (try clear hi)))
               go_ret
               exact ⟨by first | rfl | (simp [errW_none, errW_some] <;> rfl) | (simp [*, errW_none, errW_some] <;> rfl), by repeat (first | (with_reducible first | exact HB.out | apply below_alloc | apply pw_below_drewN | apply below_drew1 | refine below_set ?_ GE331.out | refine below_set ?_ GE341.out | refine below_set ?_ GE362.out) | exact HB.out)⟩
              ·rw [if_neg c97] at H
               have c97b0 : decide (t364 < 0) = false := decide_eq_false c97
               clear c97
               by_cases c102 : t364 = t350
               ·rw [if_pos c102] at H
                have c102b0 : (t364 == t350) = true := beq_iff_eq.mpr c102
                have c102b1 : (t364 != t350) = false := bne_eq_false_iff_eq.mpr c102
                clear c102
                obtain rfl := Option.some.inj H
                have hnb103 := NB341_331.out
                have hnc103 := NB331_341.out
                have hnb104 := NB341_362.out
                have hnc104 := NB362_341.out
                have hcz105_0 : wc.cell? ⟨gb341, 0, none⟩ = some (.int .i64 t335) := (blk_cell BK341.out 0).trans rfl
                have hcz105_1 : wc.cell? ⟨gb341, 1, none⟩ = some (.int .i64 t336) := (blk_cell BK341.out 1).trans rfl
                have hcz105_2 : wc.cell? ⟨gb341, 2, none⟩ = some (.slice Ao23 t351.length co23) := (blk_cell BK341.out 2).trans rfl
                have hfz105_0 := blk_frozen BK341.out 0
                have hfz105_1 := blk_frozen BK341.out 1
                have hfz105_2 := blk_frozen BK341.out 2
                go_wp2_with (first | ((with_reducible refine gate_callee (f := 38) rfl ?_); refine goesL_ (some 100) rfl rfl Try.func38 (by kernel_rfl) rfl #[.agg #[.int .i64 t335, .int .i64 t336, .slice Ao23 t351.length co23], .int .i64 1] rfl itp ?_; (with_reducible refine (laws_heldCut.calls kj66 t335 t336 _ _ t351 1 t364 _ ?side1 ?side2 A96.out).mono ?_); (case side1 => repeat (first | exact (Kd.R_reads' HO_342002.out).2.2 | (with_reducible refine Kd.C_alloc ?_ _) | (with_reducible refine Kd.C_drewN ?_ _) | (with_reducible refine Kd.C_drew ?_))); (case side2 => exact (Kd.R_reads' HO_342002.out).2.1); rintro e w106 ⟨rfl, hb⟩; refine ⟨_, rfl, ?_⟩; have n0_ := Aside0.mk (Kd.R_below (upR HO_332002) hb); have n1_ := Aside0.mk (Kd.R_below (upR HO_342002) hb); have n2_ := Aside0.mk (Kd.R_below (upR HO_363002) hb); have n3_ := Aside0.mk (blk_below (upK BK331) hb); have n4_ := Aside0.mk (blk_below (upK BK341) hb); have n5_ := Aside0.mk (blk_below (upK BK362) hb); have n6_ := Aside0.mk (below_step (upW HB) hb); clear HO_332002; clear HO_342002; clear HO_363002; clear BK331; clear BK341; clear BK362; clear HB; have HO_332002 := n0_; have HO_342002 := n1_; have HO_363002 := n2_; have BK331 := n3_; have BK341 := n4_; have BK362 := n5_; have HB := n6_; clear n0_ n1_ n2_ n3_ n4_ n5_ n6_; (try clear hb); (try clear hb2); (try clear hk); (try clear hi)))
                go_ret
                exact ⟨by first | rfl | (simp [errW_none, errW_some] <;> rfl) | (simp [*, errW_none, errW_some] <;> rfl), by repeat (first | (with_reducible first | exact HB.out | apply below_alloc | apply pw_below_drewN | apply below_drew1 | refine below_set ?_ GE331.out | refine below_set ?_ GE341.out | refine below_set ?_ GE362.out) | exact HB.out)⟩
               ·rw [if_neg c102] at H
                have c102b0 : (t364 == t350) = false := beq_eq_false_iff_ne.mpr c102
                have c102b1 : (t364 != t350) = true := bne_iff_ne.mpr c102
                obtain rfl := Option.some.inj H
                have hnb107 := NB341_331.out
                have hnc107 := NB331_341.out
                have hnb108 := NB341_362.out
                have hnc108 := NB362_341.out
                have hcz109_0 : wc.cell? ⟨gb341, 0, none⟩ = some (.int .i64 t335) := (blk_cell BK341.out 0).trans rfl
                have hcz109_1 : wc.cell? ⟨gb341, 1, none⟩ = some (.int .i64 t336) := (blk_cell BK341.out 1).trans rfl
                have hcz109_2 : wc.cell? ⟨gb341, 2, none⟩ = some (.slice Ao23 t351.length co23) := (blk_cell BK341.out 2).trans rfl
                have hfz109_0 := blk_frozen BK341.out 0
                have hfz109_1 := blk_frozen BK341.out 1
                have hfz109_2 := blk_frozen BK341.out 2
                go_wp2_with (first | ((with_reducible refine gate_callee (f := 38) rfl ?_); refine goesL_ (some 100) rfl rfl Try.func38 (by kernel_rfl) rfl #[.agg #[.int .i64 t335, .int .i64 t336, .slice Ao23 t351.length co23], .int .i64 1] rfl itp ?_; (with_reducible refine (laws_heldCut.calls kj66 t335 t336 _ _ t351 1 t364 _ ?side1 ?side2 A96.out).mono ?_); (case side1 => repeat (first | exact (Kd.R_reads' HO_342002.out).2.2 | (with_reducible refine Kd.C_alloc ?_ _) | (with_reducible refine Kd.C_drewN ?_ _) | (with_reducible refine Kd.C_drew ?_))); (case side2 => exact (Kd.R_reads' HO_342002.out).2.1); rintro e w110 ⟨rfl, hb⟩; refine ⟨_, rfl, ?_⟩; have n0_ := Aside0.mk (Kd.R_below (upR HO_332002) hb); have n1_ := Aside0.mk (Kd.R_below (upR HO_342002) hb); have n2_ := Aside0.mk (Kd.R_below (upR HO_363002) hb); have n3_ := Aside0.mk (blk_below (upK BK331) hb); have n4_ := Aside0.mk (blk_below (upK BK341) hb); have n5_ := Aside0.mk (blk_below (upK BK362) hb); have n6_ := Aside0.mk (below_step (upW HB) hb); clear HO_332002; clear HO_342002; clear HO_363002; clear BK331; clear BK341; clear BK362; clear HB; have HO_332002 := n0_; have HO_342002 := n1_; have HO_363002 := n2_; have BK331 := n3_; have BK341 := n4_; have BK362 := n5_; have HB := n6_; clear n0_ n1_ n2_ n3_ n4_ n5_ n6_; (try clear hb); (try clear hb2); (try clear hk); (try clear hi)))
                go_ret
                exact ⟨by first | rfl | (simp [errW_none, errW_some] <;> rfl) | (simp [*, errW_none, errW_some] <;> rfl), by repeat (first | (with_reducible first | exact HB.out | apply below_alloc | apply pw_below_drewN | apply below_drew1 | refine below_set ?_ GE331.out | refine below_set ?_ GE341.out | refine below_set ?_ GE362.out) | exact HB.out)⟩
          ·rw [if_neg c64] at H
           have c64b0 : (t352 == t350) = false := beq_eq_false_iff_ne.mpr c64
           have c64b1 : (t352 != t350) = true := bne_iff_ne.mpr c64
           obtain rfl := Option.some.inj H
           have hnb111 := NB341_331.out
           have hnc111 := NB331_341.out
           have hcz112_0 : wc.cell? ⟨gb341, 0, none⟩ = some (.int .i64 t335) := (blk_cell BK341.out 0).trans rfl
           have hcz112_1 : wc.cell? ⟨gb341, 1, none⟩ = some (.int .i64 t336) := (blk_cell BK341.out 1).trans rfl
           have hcz112_2 : wc.cell? ⟨gb341, 2, none⟩ = some (.slice Ao23 t337.length co23) := (blk_cell BK341.out 2).trans rfl
           have hfz112_0 := blk_frozen BK341.out 0
           have hfz112_1 := blk_frozen BK341.out 1
           have hfz112_2 := blk_frozen BK341.out 2
           go_wp2_with (first | ((with_reducible refine gate_callee (f := 19) rfl ?_); refine goesL_ (some 72) rfl rfl Try.func19 (by kernel_rfl) rfl #[.agg #[.int .i64 t335, .int .i64 t336, .slice Ao23 t337.length co23], .int .i64 1] rfl itp ?_; (with_reducible refine (laws_markCut.calls kj38 t335 t336 (fun k_ => some k_ = (.slice Ao23 t337.length co23 : Value).ownBlock) (.slice Ao23 t337.length co23) t337 1 t350 t351 w _ ?side1 ?side2 A56.out).mono ?_); (case side1 => repeat (first | (with_reducible first | exact HB.out | apply below_alloc | apply pw_below_drewN | apply below_drew1 | refine below_set ?_ GE331.out | refine below_set ?_ GE341.out) | exact HB.out)); (case side2 => exact Kd.R_tight rfl HO_342002.out); rintro e w113 ⟨rfl, hy0, hb, hkp⟩; refine ⟨_, rfl, ?_⟩; have n0_ := Aside0.mk (Kd.R_mono (ok' := fun k_ => some k_ ≠ (.slice Ao23 t337.length co23 : Value).ownBlock) (Kd.R_keptB (HO_332002.out) hkp (fun k_ hk_ hs_ => (hk_) hs_)) (fun k_ hk_ => hk_.1)); have n1_ := Aside0.mk (Kd.R_reok rfl hy0 (fun k_ e_ => HO_342002.out.1 k_ e_)); have n2_ := Aside0.mk (blk_kept (upK BK331) hkp (fun hs_ => (fun e_ => (Kd.R_ne HO_342002.out BK331.out (by decide)) e_) hs_)); have n3_ := Aside0.mk (blk_kept (upK BK341) hkp (fun hs_ => (fun e_ => (Kd.R_ne HO_342002.out BK341.out (by decide)) e_) hs_)); have n4_ := Aside0.mk (hb); clear HO_332002; clear HO_342002; clear BK331; clear BK341; clear HB; have HO_332002 := n0_; have HO_342002 := n1_; have BK331 := n2_; have BK341 := n3_; have HB := n4_; clear n0_ n1_ n2_ n3_ n4_; (try clear hb); (try clear hkp); (try clear hy0); have hcz114_0 : w113.cell? ⟨gb341, 0, none⟩ = some (.int .i64 t335) := (blk_cell BK341.out 0).trans rfl; have hcz114_1 : w113.cell? ⟨gb341, 1, none⟩ = some (.int .i64 t336) := (blk_cell BK341.out 1).trans rfl; have hcz114_2 : w113.cell? ⟨gb341, 2, none⟩ = some (.slice Ao23 t337.length co23) := (blk_cell BK341.out 2).trans rfl; have hfz114_0 := blk_frozen BK341.out 0; have hfz114_1 := blk_frozen BK341.out 1; have hfz114_2 := blk_frozen BK341.out 2) | ((with_reducible refine gate_callee (f := 38) rfl ?_); refine goesL_ (some 75) rfl rfl Try.func38 (by kernel_rfl) rfl #[.agg #[.int .i64 t335, .int .i64 t336, .slice Ao23 t351.length co23], .int .i64 1] rfl (by (try simp only [List.map_toArray, List.map_cons, List.map_nil]); first | done | (rw [show t351.length = t337.length from (Kd.R_reads' HO_342002.out).1.symm] <;> rfl) | rfl | (simp only [List.length_drop, List.length_take]; rfl)) ?_; (with_reducible refine (laws_heldCut.calls kj38 t335 t336 _ _ t351 1 t352 _ ?side1 ?side2 A57.out).mono ?_); (case side1 => repeat (first | exact (Kd.R_reads' HO_342002.out).2.2 | (with_reducible refine Kd.C_alloc ?_ _) | (with_reducible refine Kd.C_drewN ?_ _) | (with_reducible refine Kd.C_drew ?_))); (case side2 => rw [show t351.length = t337.length from (Kd.R_reads' HO_342002.out).1.symm]; exact (Kd.R_reads' HO_342002.out).2.1); rintro e w115 ⟨rfl, hb⟩; refine ⟨_, rfl, ?_⟩; have n0_ := Aside0.mk (Kd.R_below (upR HO_332002) hb); have n1_ := Aside0.mk (Kd.R_below (upR HO_342002) hb); have n2_ := Aside0.mk (blk_below (upK BK331) hb); have n3_ := Aside0.mk (blk_below (upK BK341) hb); have n4_ := Aside0.mk (below_step (upW HB) hb); clear HO_332002; clear HO_342002; clear BK331; clear BK341; clear HB; have HO_332002 := n0_; have HO_342002 := n1_; have BK331 := n2_; have BK341 := n3_; have HB := n4_; clear n0_ n1_ n2_ n3_ n4_; (try clear hb); (try clear hb2); (try clear hk); (try clear hi)))
           go_ret
           exact ⟨by first | rfl | (simp [errW_none, errW_some] <;> rfl) | (simp [*, errW_none, errW_some] <;> rfl), by repeat (first | (with_reducible first | exact HB.out | apply below_alloc | apply pw_below_drewN | apply below_drew1 | refine below_set ?_ GE331.out | refine below_set ?_ GE341.out) | exact HB.out)⟩
     ·replace c37 := Bool.eq_false_iff.mpr c37
      subst c37
      have H1 : (some false) = some r := by rw [if_neg (show ¬ (false = true) by decide)] at H; exact H
      clear H
      have H := H1
      clear H1
      obtain rfl := Option.some.inj H
      go_wp2_with (first | ((with_reducible refine gate_callee (f := 46) rfl ?_); refine goesL_ (some 51) rfl rfl Try.func46 (by kernel_rfl) rfl #[.slice A2 l2.length c2] rfl itp ?_; (with_reducible refine (laws_toSquareS.calls kj9 _ _ l2 t343 _ ?side1 ?side2 A35.out).mono ?_); (case side1 => repeat (first | exact (Kd.C_below HR2.out HB.out) | (with_reducible refine Kd.C_alloc ?_ _) | (with_reducible refine Kd.C_drewN ?_ _) | (with_reducible refine Kd.C_drew ?_))); (case side2 => exact HC2.out); rintro e w116 ⟨v344, rfl, ho0, hb⟩; refine ⟨_, rfl, ?_⟩; have n0_ := Aside0.mk (Kd.R_elder' (upR HO_10) (Kd.R_base ho0) hb); have n1_ := Aside0.mk (Kd.R_elder' (upR HO_332002) (Kd.R_base ho0) hb); have n2_ := Aside0.mk (Kd.R_elder' (upR HO_342002) (Kd.R_base ho0) hb); have n3_ := Aside0.mk (Kd.R_lower (Kd.R_new' (Kd.R_new' (Kd.R_new' ho0 (Kd.R_lt (upR HO_10))) (Kd.R_lt (upR HO_332002))) (Kd.R_lt (upR HO_342002))) (below_size (upW HB))); have n4_ := Aside0.mk (blk_below (upK BK331) hb); have n5_ := Aside0.mk (blk_below (upK BK341) hb); have n6_ := Aside0.mk (below_step (upW HB) hb); clear HO_10; clear HO_332002; clear HO_342002; clear BK331; clear BK341; clear HB; have HO_10 := n0_; have HO_332002 := n1_; have HO_342002 := n2_; have HO345 := n3_; have BK331 := n4_; have BK341 := n5_; have HB := n6_; clear n0_ n1_ n2_ n3_ n4_ n5_ n6_; (try clear hb); (try clear hb2); (try clear hk); (try clear hi); (try clear ho0); obtain ⟨Ao117, co117, eo117⟩ := Kd.R_slice HO345.out; subst eo117) | ((with_reducible refine gate_callee (f := 48) rfl ?_); refine goesL_ (some 52) rfl rfl Try.func48 (by kernel_rfl) rfl #[.slice Ao18 t332.length co18, .slice Ao117 t343.length co117] rfl itp ?_; (with_reducible refine (laws_eqSquareS.calls kj9 _ _ t332 _ _ t343 false _ ?side1 ?side2 ?side3 ?side4 A36.out).mono ?_); (case side1 => repeat (first | exact (Kd.R_reads' HO_10.out).2.2 | (with_reducible refine Kd.C_alloc ?_ _) | (with_reducible refine Kd.C_drewN ?_ _) | (with_reducible refine Kd.C_drew ?_))); (case side2 => exact (Kd.R_reads' HO_10.out).2.1); (case side3 => repeat (first | exact (Kd.R_reads' HO345.out).2.2 | (with_reducible refine Kd.C_alloc ?_ _) | (with_reducible refine Kd.C_drewN ?_ _) | (with_reducible refine Kd.C_drew ?_))); (case side4 => exact (Kd.R_reads' HO345.out).2.1); rintro e w118 ⟨rfl, hb⟩; refine ⟨_, rfl, ?_⟩; have n0_ := Aside0.mk (Kd.R_below (upR HO_10) hb); have n1_ := Aside0.mk (Kd.R_below (upR HO_332002) hb); have n2_ := Aside0.mk (Kd.R_below (upR HO_342002) hb); have n3_ := Aside0.mk (Kd.R_below (upR HO345) hb); have n4_ := Aside0.mk (blk_below (upK BK331) hb); have n5_ := Aside0.mk (blk_below (upK BK341) hb); have n6_ := Aside0.mk (below_step (upW HB) hb); clear HO_10; clear HO_332002; clear HO_342002; clear HO345; clear BK331; clear BK341; clear HB; have HO_10 := n0_; have HO_332002 := n1_; have HO_342002 := n2_; have HO345 := n3_; have BK331 := n4_; have BK341 := n5_; have HB := n6_; clear n0_ n1_ n2_ n3_ n4_ n5_ n6_; (try clear hb); (try clear hb2); (try clear hk); (try clear hi)))
      go_ret
      exact ⟨by first | rfl | (simp [errW_none, errW_some] <;> rfl) | (simp [*, errW_none, errW_some] <;> rfl), by repeat (first | (with_reducible first | exact HB.out | apply below_alloc | apply pw_below_drewN | apply below_drew1 | refine below_set ?_ GE331.out | refine below_set ?_ GE341.out) | exact HB.out)⟩

/-- THE ONE PURE STATEMENT of laws_FnExactCutOf. -/
def laws_FnExactCutOf.Pure : Prop := ∀ (a0 : Int) (a1 : Int) (l2 : List (S97)), (Lit.int .i64 a0).wf = true → (Lit.int .i64 a1).wf = true → l2.length ≤ maxLen → (∀ q ∈ l2, ((Lit.int .i64 q.f0).wf = true) ∧ ((Lit.int .i64 q.f1).wf = true) ∧ ((Lit.int .i64 q.f2).wf = true)) → ∃ k, laws_FnExactCutOf.f k a0 a1 l2 = some true
theorem laws_FnExactCutOf.walk (P : laws_FnExactCutOf.Pure) (a0 : Int) (a1 : Int) (A2 : Option Addr) (c2 : Nat) (l2 : List (S97)) (w : World) (hr2 : Kd.C k97 w A2 l2.length l2) (hc2 : l2.length ≤ c2) (w0_ : (Lit.int .i64 a0).wf = true) (w1_ : (Lit.int .i64 a1).wf = true) (w2_ : l2.length ≤ maxLen) (w3_ : (∀ q ∈ l2, ((Lit.int .i64 q.f0).wf = true) ∧ ((Lit.int .i64 q.f1).wf = true) ∧ ((Lit.int .i64 q.f2).wf = true))) :
  Calls Try.prog 10 #[.int .i64 a0, .int .i64 a1, .slice A2 l2.length c2] w fun e w' => e = .returned (.bool true) ∧ Below w.heap.size w w' := by
 obtain ⟨k, h⟩ := P a0 a1 l2 w0_ w1_ w2_ w3_
 refine (laws_FnExactCutOf.calls k a0 a1 _ _ l2 true w hr2 hc2 h).mono ?_
 rintro e w' ⟨rfl, hd⟩
 exact ⟨rfl, hd⟩

end Go.Proofs.Ythnjbpabiamkjaa.PFnExactCutOf
