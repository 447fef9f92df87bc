-- made for this claim by a program of this session
import Derived.Test.YtngbmjldnfljiaaPFnExactCurrentsOfx0
import Derived.Test.YtngbmjldnfljiaaPFnExactCurrentsOfx1
import Derived.Test.YtngbmjldnfljiaaPFnExactCurrentsOfx2
import Derived.Test.YtngbmjldnfljiaaPFnExactCurrentsOfx6
import Derived.Test.YtngbmjldnfljiaaPFnExactCurrentsOfx10
namespace Go.Proofs.Ytngbmjldnfljiaa.PFnExactCurrentsOf
open Go.RowKit Go.Proofs.YtngbmjldnfljiaaW.PrintWords Go.Proofs.YtngbmjldnfljiaaW.PrintLast Go.Proofs.YtngbmjldnfljiaaW.PrintMore
attribute [local go_sem] max2_int min2_int max_two min_two max_three min_three max_four min_four   -- for this text's walks alone
set_option linter.unusedVariables false
set_option linter.unusedSimpArgs false

/-! ### laws_FnExactCurrentsOf: function 7 -/
mutual
def laws_FnExactCurrentsOf.j0 : Nat → List Int → Bool → List Int → Bool → Bool → Int → List (S94) → Int → List (S73) → Option (Bool)
 | 0, _, _, _, _, _, _, _, _, _ => none
 | k + 1, x4, x5, x7, x8, x40, x319000, x319001, x333000, x333001 => if x40 = true then (some false) else ((laws_toNet.f k x319000 x319001).bind fun bt338 => ((laws_eqNet.f k x333000 x333001 bt338.1 bt338.2).bind fun t342 => (if t342 = true then ((laws_markNet.f k x333000 x333001 1).bind fun bt343 => (if bt343.1 < 0 then (laws_FnExactCurrentsOf.j1 k x4 x5 x7 true x319000 x319001) else ((laws_eqIntS.f k x7 x4).bind fun t345 => (if t345 = true then (laws_FnExactCurrentsOf.j1 k x4 x5 x7 (x8 != x5) x319000 x319001) else (laws_FnExactCurrentsOf.j1 k x4 x5 x7 true x319000 x319001))))) else (some false))))
def laws_FnExactCurrentsOf.j1 : Nat → List Int → Bool → List Int → Bool → Int → List (S94) → Option (Bool)
 | 0, _, _, _, _, _, _ => none
 | k + 1, x4, x5, x7, x61, x319000, x319001 => if x61 = true then (some false) else ((laws_markIntS.f k x7 1).bind fun bt346 => ((laws_heldIntS.f k bt346.2 1).bind fun t348 => (if t348 < 0 then (some false) else (if t348 = bt346.1 then ((laws_toNet.f k x319000 x319001).bind fun bt349 => ((impl_CurrentsOf.f k bt349.1 bt349.2).bind fun bt353 => ((laws_eqIntS.f k bt353.1 x4).bind fun t357 => (if t357 = true then (laws_FnExactCurrentsOf.j2 k bt346.2 bt346.1 (bt353.2 != x5)) else (laws_FnExactCurrentsOf.j2 k bt346.2 bt346.1 true))))) else (some false)))))
def laws_FnExactCurrentsOf.j2 : Nat → List Int → Int → Bool → Option (Bool)
 | 0, _, _, _ => none
 | k + 1, x7, x10, x87 => if x87 = true then (some false) else ((laws_heldIntS.f k x7 1).bind fun t358 => (if t358 < 0 then (some false) else (if t358 = x10 then (some true) else (some false))))
end
def laws_FnExactCurrentsOf.f (k : Nat) (a0_0 : Int) (l0_1 : List (S94)) : Option (Bool) := (laws_szNet.f a0_0 l0_1 1048576).bind fun t319 => (if t319 < 0 then (some true) else ((laws_toNet.f k a0_0 l0_1).bind fun bt320 => ((spec_CurrentsOf.f k bt320.1 bt320.2).bind fun bt324 => ((laws_toNet.f k a0_0 l0_1).bind fun bt328 => ((impl_CurrentsOf.f k bt328.1 bt328.2).bind fun bt333 => ((laws_eqIntS.f k bt333.1 bt324.1).bind fun t337 => (if t337 = true then (laws_FnExactCurrentsOf.j0 k bt324.1 bt324.2 bt333.1 bt333.2 (bt333.2 != bt324.2) a0_0 l0_1 bt328.1 bt328.2) else (laws_FnExactCurrentsOf.j0 k bt324.1 bt324.2 bt333.1 bt333.2 true a0_0 l0_1 bt328.1 bt328.2))))))))
set_option maxHeartbeats 8000000 in
set_option maxRecDepth 100000 in
theorem laws_FnExactCurrentsOf.calls (k : Nat) (a0_0 : Int) (A0_1 : Option Addr) (c0_1 : Nat) (l0_1 : List (S94)) (r : Bool) (w : World) (hr0_1 : Kd.C k94 w A0_1 l0_1.length l0_1) (hc0_1 : l0_1.length ≤ c0_1) (h : laws_FnExactCurrentsOf.f k a0_0 l0_1 = some r) :
  Calls Try.prog 7 #[.agg #[.int .i64 a0_0, .slice A0_1 l0_1.length c0_1]] w fun e w' => e = .returned (.bool r) ∧ Below w.heap.size w w' := by
 have hu24 := Try.underlying24
 have hu30 := Try.underlying30
 have HR0_1 := Aside0.mk hr0_1
 have HC0_1 := Aside0.mk hc0_1
 clear hr0_1 hc0_1
 have HB := Aside0.mk (Below.refl w.heap.size w)
 have H : ((laws_szNet.f a0_0 l0_1 1048576).bind fun t319 => (if t319 < 0 then (some true) else ((laws_toNet.f k a0_0 l0_1).bind fun bt320 => ((spec_CurrentsOf.f k bt320.1 bt320.2).bind fun bt324 => ((laws_toNet.f k a0_0 l0_1).bind fun bt328 => ((impl_CurrentsOf.f k bt328.1 bt328.2).bind fun bt333 => ((laws_eqIntS.f k bt333.1 bt324.1).bind fun t337 => (if t337 = true then (laws_FnExactCurrentsOf.j0 k bt324.1 bt324.2 bt333.1 bt333.2 (bt333.2 != bt324.2) a0_0 l0_1 bt328.1 bt328.2) else (laws_FnExactCurrentsOf.j0 k bt324.1 bt324.2 bt333.1 bt333.2 true a0_0 l0_1 bt328.1 bt328.2))))))))) = some r := h
 clear h
 replace H := Option.bind_eq_some_iff.mp H
 obtain ⟨t319, A20, H⟩ := H
 replace H : (if t319 < 0 then (some true) else ((laws_toNet.f k a0_0 l0_1).bind fun bt320 => ((spec_CurrentsOf.f k bt320.1 bt320.2).bind fun bt324 => ((laws_toNet.f k a0_0 l0_1).bind fun bt328 => ((impl_CurrentsOf.f k bt328.1 bt328.2).bind fun bt333 => ((laws_eqIntS.f k bt333.1 bt324.1).bind fun t337 => (if t337 = true then (laws_FnExactCurrentsOf.j0 k bt324.1 bt324.2 bt333.1 bt333.2 (bt333.2 != bt324.2) a0_0 l0_1 bt328.1 bt328.2) else (laws_FnExactCurrentsOf.j0 k bt324.1 bt324.2 bt333.1 bt333.2 true a0_0 l0_1 bt328.1 bt328.2)))))))) = some r := H
 have A2 := Aside0.mk A20
 clear A20
 by_cases c3 : t319 < 0
 ·rw [if_pos c3] at H
  have c3b0 : decide (t319 < 0) = true := decide_eq_true c3
  clear c3
  obtain rfl := Option.some.inj H
  go_enter Try.func7, Try.ntmps7
  go_wp2_with (first | ((with_reducible refine gate_dst (N := 1) rfl ?_); refine box_event ?hg (N := 1) ?hd (cs := #[.int .i64 a0_0, .slice A0_1 l0_1.length c0_1]) (t := 24) ?hr ?_; (case hd => rfl); (case hg => rfl); (case hr => first | (go_simp; done) | (go_simp; rfl)); intro gb318 hg w4 hbox hb; have n0_ := Aside0.mk (below_step (upW HB) hb); have n1_ := Aside0.mk (hbox); have n2_ := Aside0.mk ((by rw [hg]; exact (below_size (upW HB)) : w.heap.size ≤ gb318)); have n3_ := Aside0.mk ((by rw [hg]; exact (below_size (upW HB)) : w.heap.size ≤ gb318)); clear HB; have HB := n0_; have BK318 := n1_; have GW318 := n2_; have GE318 := n3_; clear n0_ n1_ n2_ n3_; clear hb hbox hg; have hcz5_0 : w4.cell? ⟨gb318, 0, none⟩ = some (.int .i64 a0_0) := (blk_cell BK318.out 0).trans rfl; have hcz5_1 : w4.cell? ⟨gb318, 1, none⟩ = some (.slice A0_1 l0_1.length c0_1) := (blk_cell BK318.out 1).trans rfl; have hfz5_0 := blk_frozen BK318.out 0; have hfz5_1 := blk_frozen BK318.out 1) | ((with_reducible refine gate_callee (f := 15) rfl ?_); refine goesL_ (some 16) rfl rfl Try.func15 (by kernel_rfl) rfl #[.agg #[.int .i64 a0_0, .slice A0_1 l0_1.length c0_1], .int .i64 1048576] rfl itp ?_; (with_reducible refine (laws_szNet.calls a0_0 _ _ l0_1 1048576 t319 _ ?side1 ?side2 A2.out).mono ?_); (case side1 => repeat (first | exact (Kd.C_below HR0_1.out HB.out) | (with_reducible refine Kd.C_alloc ?_ _) | (with_reducible refine Kd.C_drewN ?_ _) | (with_reducible refine Kd.C_drew ?_))); (case side2 => exact HC0_1.out); rintro e w6 ⟨rfl, hb⟩; refine ⟨_, rfl, ?_⟩; have n0_ := Aside0.mk (blk_below (upK BK318) hb); have n1_ := Aside0.mk (below_step (upW HB) hb); clear BK318; clear HB; have BK318 := n0_; have HB := n1_; clear n0_ n1_; (try clear hb); (try clear hb2); (try clear hk); (try clear hi)))
  go_ret
  exact ⟨by first | rfl | (simp [errW_none, errW_some] <;> rfl) | (simp [*, errW_none, errW_some] <;> rfl), by repeat (first | (with_reducible first | exact HB.out | apply below_alloc | apply pw_below_drewN | apply below_drew1 | refine below_set ?_ GE318.out) | exact HB.out)⟩
 ·rw [if_neg c3] at H
  have c3b0 : decide (t319 < 0) = false := decide_eq_false c3
  clear c3
  replace H := Option.bind_eq_some_iff.mp H
  obtain ⟨⟨t320, t321⟩, A70, H⟩ := H
  replace H : ((spec_CurrentsOf.f k t320 t321).bind fun bt324 => ((laws_toNet.f k a0_0 l0_1).bind fun bt328 => ((impl_CurrentsOf.f k bt328.1 bt328.2).bind fun bt333 => ((laws_eqIntS.f k bt333.1 bt324.1).bind fun t337 => (if t337 = true then (laws_FnExactCurrentsOf.j0 k bt324.1 bt324.2 bt333.1 bt333.2 (bt333.2 != bt324.2) a0_0 l0_1 bt328.1 bt328.2) else (laws_FnExactCurrentsOf.j0 k bt324.1 bt324.2 bt333.1 bt333.2 true a0_0 l0_1 bt328.1 bt328.2)))))) = some r := H
  have A7 := Aside0.mk A70
  clear A70
  replace H := Option.bind_eq_some_iff.mp H
  obtain ⟨⟨t324, t327⟩, A80, H⟩ := H
  replace H : ((laws_toNet.f k a0_0 l0_1).bind fun bt328 => ((impl_CurrentsOf.f k bt328.1 bt328.2).bind fun bt333 => ((laws_eqIntS.f k bt333.1 t324).bind fun t337 => (if t337 = true then (laws_FnExactCurrentsOf.j0 k t324 t327 bt333.1 bt333.2 (bt333.2 != t327) a0_0 l0_1 bt328.1 bt328.2) else (laws_FnExactCurrentsOf.j0 k t324 t327 bt333.1 bt333.2 true a0_0 l0_1 bt328.1 bt328.2))))) = some r := H
  have A8 := Aside0.mk A80
  clear A80
  replace H := Option.bind_eq_some_iff.mp H
  obtain ⟨⟨t328, t329⟩, A90, H⟩ := H
  replace H : ((impl_CurrentsOf.f k t328 t329).bind fun bt333 => ((laws_eqIntS.f k bt333.1 t324).bind fun t337 => (if t337 = true then (laws_FnExactCurrentsOf.j0 k t324 t327 bt333.1 bt333.2 (bt333.2 != t327) a0_0 l0_1 t328 t329) else (laws_FnExactCurrentsOf.j0 k t324 t327 bt333.1 bt333.2 true a0_0 l0_1 t328 t329)))) = some r := H
  have A9 := Aside0.mk A90
  clear A90
  replace H := Option.bind_eq_some_iff.mp H
  obtain ⟨⟨t333, t336⟩, A100, H⟩ := H
  replace H : ((laws_eqIntS.f k t333 t324).bind fun t337 => (if t337 = true then (laws_FnExactCurrentsOf.j0 k t324 t327 t333 t336 (t336 != t327) a0_0 l0_1 t328 t329) else (laws_FnExactCurrentsOf.j0 k t324 t327 t333 t336 true a0_0 l0_1 t328 t329))) = some r := H
  have A10 := Aside0.mk A100
  clear A100
  have HC11 := Aside0.mk H
  clear H
  go_enter Try.func7, Try.ntmps7
  go_upto_region 8 with (first | ((with_reducible refine gate_dst (N := 1) rfl ?_); refine box_event ?hg (N := 1) ?hd (cs := #[.int .i64 a0_0, .slice A0_1 l0_1.length c0_1]) (t := 24) ?hr ?_; (case hd => rfl); (case hg => rfl); (case hr => first | (go_simp; done) | (go_simp; rfl)); intro gb318 hg w12 hbox hb; have n0_ := Aside0.mk (below_step (upW HB) hb); have n1_ := Aside0.mk (hbox); have n2_ := Aside0.mk ((by rw [hg]; exact (below_size (upW HB)) : w.heap.size ≤ gb318)); have n3_ := Aside0.mk ((by rw [hg]; exact (below_size (upW HB)) : w.heap.size ≤ gb318)); clear HB; have HB := n0_; have BK318 := n1_; have GW318 := n2_; have GE318 := n3_; clear n0_ n1_ n2_ n3_; clear hb hbox hg; have hcz13_0 : w12.cell? ⟨gb318, 0, none⟩ = some (.int .i64 a0_0) := (blk_cell BK318.out 0).trans rfl; have hcz13_1 : w12.cell? ⟨gb318, 1, none⟩ = some (.slice A0_1 l0_1.length c0_1) := (blk_cell BK318.out 1).trans rfl; have hfz13_0 := blk_frozen BK318.out 0; have hfz13_1 := blk_frozen BK318.out 1) | ((with_reducible refine gate_callee (f := 15) rfl ?_); refine goesL_ (some 16) rfl rfl Try.func15 (by kernel_rfl) rfl #[.agg #[.int .i64 a0_0, .slice A0_1 l0_1.length c0_1], .int .i64 1048576] rfl itp ?_; (with_reducible refine (laws_szNet.calls a0_0 _ _ l0_1 1048576 t319 _ ?side1 ?side2 A2.out).mono ?_); (case side1 => repeat (first | exact (Kd.C_below HR0_1.out HB.out) | (with_reducible refine Kd.C_alloc ?_ _) | (with_reducible refine Kd.C_drewN ?_ _) | (with_reducible refine Kd.C_drew ?_))); (case side2 => exact HC0_1.out); rintro e w14 ⟨rfl, hb⟩; refine ⟨_, rfl, ?_⟩; have n0_ := Aside0.mk (blk_below (upK BK318) hb); have n1_ := Aside0.mk (below_step (upW HB) hb); clear BK318; clear HB; have BK318 := n0_; have HB := n1_; clear n0_ n1_; (try clear hb); (try clear hb2); (try clear hk); (try clear hi); have hcz15_0 : w14.cell? ⟨gb318, 0, none⟩ = some (.int .i64 a0_0) := (blk_cell BK318.out 0).trans rfl; have hcz15_1 : w14.cell? ⟨gb318, 1, none⟩ = some (.slice A0_1 l0_1.length c0_1) := (blk_cell BK318.out 1).trans rfl; have hfz15_0 := blk_frozen BK318.out 0; have hfz15_1 := blk_frozen BK318.out 1) | ((with_reducible refine gate_callee (f := 17) rfl ?_); refine goesL_ (some 21) rfl rfl Try.func17 (by kernel_rfl) rfl #[.agg #[.int .i64 a0_0, .slice A0_1 l0_1.length c0_1]] rfl itp ?_; (with_reducible refine (laws_toNet.calls k a0_0 _ _ l0_1 t320 t321 _ ?side1 ?side2 A7.out).mono ?_); (case side1 => repeat (first | exact (Kd.C_below HR0_1.out HB.out) | (with_reducible refine Kd.C_alloc ?_ _) | (with_reducible refine Kd.C_drewN ?_ _) | (with_reducible refine Kd.C_drew ?_))); (case side2 => exact HC0_1.out); rintro e w16 ⟨v322, rfl, ho0, hb⟩; refine ⟨_, rfl, ?_⟩; have n0_ := Aside0.mk (Kd.R_lower ho0 (below_size (upW HB))); have n1_ := Aside0.mk (blk_below (upK BK318) hb); have n2_ := Aside0.mk (below_step (upW HB) hb); clear BK318; clear HB; have HO323 := n0_; have BK318 := n1_; have HB := n2_; clear n0_ n1_ n2_; (try clear hb); (try clear hb2); (try clear hk); (try clear hi); (try clear ho0); obtain ⟨Ao17, co17, eo17⟩ := Kd.R_slice HO323.out; subst eo17) | ((with_reducible refine gate_callee (f := 30) rfl ?_); refine goesL_ (some 22) rfl rfl Try.func30 (by kernel_rfl) rfl #[.agg #[.int .i64 t320, .slice Ao17 t321.length co17]] rfl itp ?_; (with_reducible refine (spec_CurrentsOf.calls k t320 _ _ t321 t324 t327 _ ?side1 ?side2 A8.out).mono ?_); (case side1 => repeat (first | exact (Kd.R_reads' HO323.out).2.2 | (with_reducible refine Kd.C_alloc ?_ _) | (with_reducible refine Kd.C_drewN ?_ _) | (with_reducible refine Kd.C_drew ?_))); (case side2 => exact (Kd.R_reads' HO323.out).2.1); rintro e w18 ⟨v325, rfl, ho0, hb⟩; refine ⟨_, rfl, ?_⟩; have n0_ := Aside0.mk (Kd.R_below (upR HO323) hb); have n1_ := Aside0.mk (Kd.R_lower ho0 (below_size (upW HB))); have n2_ := Aside0.mk (blk_below (upK BK318) hb); have n3_ := Aside0.mk (below_step (upW HB) hb); clear HO323; clear BK318; clear HB; have HO323 := n0_; have HO326 := n1_; have BK318 := n2_; have HB := n3_; clear n0_ n1_ n2_ n3_; (try clear hb); (try clear hb2); (try clear hk); (try clear hi); (try clear ho0); have hcz19_0 : w18.cell? ⟨gb318, 0, none⟩ = some (.int .i64 a0_0) := (blk_cell BK318.out 0).trans rfl; have hcz19_1 : w18.cell? ⟨gb318, 1, none⟩ = some (.slice A0_1 l0_1.length c0_1) := (blk_cell BK318.out 1).trans rfl; have hfz19_0 := blk_frozen BK318.out 0; have hfz19_1 := blk_frozen BK318.out 1) | ((with_reducible refine gate_callee (f := 17) rfl ?_); refine goesL_ (some 26) rfl rfl Try.func17 (by kernel_rfl) rfl #[.agg #[.int .i64 a0_0, .slice A0_1 l0_1.length c0_1]] rfl itp ?_; (with_reducible refine (laws_toNet.calls k a0_0 _ _ l0_1 t328 t329 _ ?side1 ?side2 A9.out).mono ?_); (case side1 => repeat (first | exact (Kd.C_below HR0_1.out HB.out) | (with_reducible refine Kd.C_alloc ?_ _) | (with_reducible refine Kd.C_drewN ?_ _) | (with_reducible refine Kd.C_drew ?_))); (case side2 => exact HC0_1.out); rintro e w20 ⟨v330, rfl, ho0, hb⟩; refine ⟨_, rfl, ?_⟩; have n0_ := Aside0.mk (Kd.R_elder' (upR HO323) (Kd.R_base ho0) hb); have n1_ := Aside0.mk (Kd.R_below (upR HO326) hb); have n2_ := Aside0.mk (Kd.R_lower (Kd.R_new' ho0 (Kd.R_lt (upR HO323))) (below_size (upW HB))); have n3_ := Aside0.mk (blk_below (upK BK318) hb); have n4_ := Aside0.mk (below_step (upW HB) hb); clear HO323; clear HO326; clear BK318; clear HB; have HO323 := n0_; have HO326 := n1_; have HO331 := n2_; have BK318 := n3_; have HB := n4_; clear n0_ n1_ n2_ n3_ n4_; (try clear hb); (try clear hb2); (try clear hk); (try clear hi); (try clear ho0)) | ((with_reducible refine gate_dst (N := 6) rfl ?_); refine box_event ?hg (N := 6) ?hd (cs := #[.int .i64 0, .slice none 0 0]) (t := 30) ?hr ?_; (case hd => rfl); (case hg => rfl); (case hr => first | (go_simp; done) | (go_simp; rfl)); intro gb332 hg w21 hbox hb; have n0_ := Aside0.mk (Kd.R_below (upR HO323) hb); have n1_ := Aside0.mk (Kd.R_below (upR HO326) hb); have n2_ := Aside0.mk (Kd.R_below (upR HO331) hb); have n3_ := Aside0.mk (blk_below (upK BK318) hb); have n4_ := Aside0.mk (below_step (upW HB) hb); have n5_ := Aside0.mk (hbox); have n6_ := Aside0.mk ((by rw [hg]; exact (below_size (upW HB)) : w.heap.size ≤ gb332)); have n7_ := Aside0.mk ((by rw [hg]; exact (below_size (upW HB)) : w.heap.size ≤ gb332)); have n8_ := Aside0.mk ((by rw [hg]; exact Nat.ne_of_lt (blk_lt (upK BK318)) : gb318 ≠ gb332)); have n9_ := Aside0.mk ((by rw [hg]; exact Nat.ne_of_gt (blk_lt (upK BK318)) : gb332 ≠ gb318)); clear HO323; clear HO326; clear HO331; clear BK318; clear HB; have HO323 := n0_; have HO326 := n1_; have HO331 := n2_; have BK318 := n3_; have HB := n4_; have BK332 := n5_; have GW332 := n6_; have GE332 := n7_; have NB318_332 := n8_; have NB332_318 := n9_; clear n0_ n1_ n2_ n3_ n4_ n5_ n6_ n7_ n8_ n9_; clear hb hbox hg; have hnb22 := NB332_318.out; have hnc22 := NB318_332.out; have hcz23_0 : w21.cell? ⟨gb332, 0, none⟩ = some (.int .i64 0) := (blk_cell BK332.out 0).trans rfl; have hcz23_1 : w21.cell? ⟨gb332, 1, none⟩ = some (.slice none 0 0) := (blk_cell BK332.out 1).trans rfl; have hfz23_0 := blk_frozen BK332.out 0; have hfz23_1 := blk_frozen BK332.out 1; obtain ⟨Ao24, co24, eo24⟩ := Kd.R_slice HO331.out; subst eo24) | ((with_reducible refine gate_callee (f := 31) rfl ?_); refine goesL_ (some 29) rfl rfl Try.func31 (by kernel_rfl) rfl #[.agg #[.int .i64 t328, .slice Ao24 t329.length co24]] rfl itp ?_; (with_reducible refine (impl_CurrentsOf.calls k t328 _ _ t329 t333 t336 _ ?side1 ?side2 A10.out).mono ?_); (case side1 => refine (Kd.R_reads' (e := 73) (base := w.heap.size) (ok := fun k_ => (True ∧ some k_ ≠ (.slice Ao17 t321.length co17 : Value).ownBlock)) (n := t329.length) (c := co24) ?_).2.2; exact (by (with_reducible repeat (first | apply Kd.R_alloc | apply Kd.R_drewN | apply Kd.R_drew)); exact (Kd.R_mono (Kd.R_far (p := ⟨gb332, 1, none⟩) (Kd.R_far (p := ⟨gb332, 0, none⟩) (Kd.R_types HO331.out BK332.out (by decide)) (fun _ hk => hk.2) (.int .i64 t328)) (fun _ hk => hk.2) (.slice Ao24 t329.length co24)) (fun _ h_ => h_.1)))); (case side2 => exact (Kd.R_reads' HO331.out).2.1); rintro e w25 ⟨v334, rfl, ho0, hb⟩; refine ⟨_, rfl, ?_⟩; have n0_ := Aside0.mk (Kd.R_below (by (with_reducible repeat (first | apply Kd.R_alloc | apply Kd.R_drewN | apply Kd.R_drew)); exact (Kd.R_mono (Kd.R_far (p := ⟨gb332, 1, none⟩) (Kd.R_far (p := ⟨gb332, 0, none⟩) (Kd.R_types HO323.out BK332.out (by decide)) (fun _ hk => hk.2) (.int .i64 t328)) (fun _ hk => hk.2) (.slice Ao24 t329.length co24)) (fun _ h_ => h_.1))) hb); have n1_ := Aside0.mk (Kd.R_elder' (by (with_reducible repeat (first | apply Kd.R_alloc | apply Kd.R_drewN | apply Kd.R_drew)); exact (Kd.R_mono (Kd.R_far (p := ⟨gb332, 1, none⟩) (Kd.R_far (p := ⟨gb332, 0, none⟩) (Kd.R_types HO326.out BK332.out (by decide)) (fun _ hk => hk.2) (.int .i64 t328)) (fun _ hk => hk.2) (.slice Ao24 t329.length co24)) (fun _ h_ => h_.1))) (Kd.R_base ho0) hb); have n2_ := Aside0.mk (Kd.R_below (by (with_reducible repeat (first | apply Kd.R_alloc | apply Kd.R_drewN | apply Kd.R_drew)); exact (Kd.R_mono (Kd.R_far (p := ⟨gb332, 1, none⟩) (Kd.R_far (p := ⟨gb332, 0, none⟩) (Kd.R_types HO331.out BK332.out (by decide)) (fun _ hk => hk.2) (.int .i64 t328)) (fun _ hk => hk.2) (.slice Ao24 t329.length co24)) (fun _ h_ => h_.1))) hb); have n3_ := Aside0.mk (Kd.R_lower (Kd.R_new' ho0 (Kd.R_lt (by (with_reducible repeat (first | apply Kd.R_alloc | apply Kd.R_drewN | apply Kd.R_drew)); exact (Kd.R_mono (Kd.R_far (p := ⟨gb332, 1, none⟩) (Kd.R_far (p := ⟨gb332, 0, none⟩) (Kd.R_types HO326.out BK332.out (by decide)) (fun _ hk => hk.2) (.int .i64 t328)) (fun _ hk => hk.2) (.slice Ao24 t329.length co24)) (fun _ h_ => h_.1))))) (below_size (upW HB))); have n4_ := Aside0.mk (blk_below (upF BK318) hb); have n5_ := Aside0.mk (blk_below (g := gb332) (o := .cells #[.int .i64 t328, .slice Ao24 t329.length co24] 30 (0, 0)) (by (with_reducible repeat (first | refine blk_drewN ?_ _ | refine blk_drew ?_ | refine blk_alloc ?_ _)); refine blk_put (cs := #[.int .i64 t328, .slice none 0 0]) ?_ 1 _ rfl; (with_reducible repeat (first | refine blk_drewN ?_ _ | refine blk_drew ?_ | refine blk_alloc ?_ _)); refine blk_put (cs := #[.int .i64 0, .slice none 0 0]) ?_ 0 _ rfl; (with_reducible repeat (first | refine blk_drewN ?_ _ | refine blk_drew ?_ | refine blk_alloc ?_ _)); exact BK332.out) hb); have n6_ := Aside0.mk (below_step (upW HB) hb); clear HO323; clear HO326; clear HO331; clear BK318; clear BK332; clear HB; have HO323 := n0_; have HO326 := n1_; have HO331 := n2_; have HO335 := n3_; have BK318 := n4_; have BK332 := n5_; have HB := n6_; clear n0_ n1_ n2_ n3_ n4_ n5_ n6_; (try clear hb); (try clear hb2); (try clear hk); (try clear hi); (try clear ho0)))
  (try simp only [Act.put, List.setIfInBounds_toArray, List.set_cons_zero, List.set_cons_succ])
  go_cut [40] (fun v40 wc => ∃ (kq : Nat) (x40_10 : Bool), v40 = .bool x40_10 ∧ Aside0 (laws_FnExactCurrentsOf.j0 kq t324 t327 t333 t336 x40_10 a0_0 l0_1 t328 t329 = some r) ∧ Aside0 (kq ≤ k) ∧ Aside0 (Kd.R (Kd.int .i64) 3 wc w.heap.size (fun k_ => some k_ ≠ (v334 : Value).ownBlock) v325 t324) ∧ Aside0 (Kd.R (Kd.int .i64) 3 wc w.heap.size (fun k_ => some k_ ≠ (v325 : Value).ownBlock) v334 t333) ∧ Aside0 (Kd.R k73 73 wc w.heap.size (fun _ => True) (.slice Ao24 t329.length co24) t329) ∧ Aside0 (wc.heap[gb318]? = some (.cells #[.int .i64 a0_0, (.slice A0_1 l0_1.length c0_1)] 24 (0, 0))) ∧ Aside0 (wc.heap[gb332]? = some (.cells #[.int .i64 t328, (.slice Ao24 t329.length co24)] 30 (0, 0))) ∧ Aside0 (Below w.heap.size w wc))
  case first =>
   have H := HC11.out
   clear HC11
   replace H := Option.bind_eq_some_iff.mp H
   obtain ⟨t337, A260, H⟩ := H
   replace H : (if t337 = true then (laws_FnExactCurrentsOf.j0 k t324 t327 t333 t336 (t336 != t327) a0_0 l0_1 t328 t329) else (laws_FnExactCurrentsOf.j0 k t324 t327 t333 t336 true a0_0 l0_1 t328 t329)) = some r := H
   have A26 := Aside0.mk A260
   clear A260
   by_cases c27 : t337 = true
   ·subst c27
    have H1 : (laws_FnExactCurrentsOf.j0 k t324 t327 t333 t336 (t336 != t327) a0_0 l0_1 t328 t329) = some r := by rw [if_pos rfl] at H; exact H
    clear H
    have H := H1
    clear H1
    have H' := Aside0.mk H
    clear H
    obtain ⟨Ao28, co28, eo28⟩ := Kd.R_slice HO335.out
    subst eo28
    obtain ⟨Ao29, co29, eo29⟩ := Kd.R_slice HO326.out
    subst eo29
    go_wp2_with (first | ((with_reducible refine gate_callee (f := 26) rfl ?_); refine goesL_ (some 34) rfl rfl Try.func26 (by kernel_rfl) rfl #[.slice Ao28 t333.length co28, .slice Ao29 t324.length co29] rfl itp ?_; (with_reducible refine (laws_eqIntS.calls k _ _ t333 _ _ t324 true _ ?side1 ?side2 ?side3 ?side4 A26.out).mono ?_); (case side1 => repeat (first | exact (Kd.R_reads' HO335.out).2.2 | (with_reducible refine Kd.C_alloc ?_ _) | (with_reducible refine Kd.C_drewN ?_ _) | (with_reducible refine Kd.C_drew ?_))); (case side2 => exact (Kd.R_reads' HO335.out).2.1); (case side3 => repeat (first | exact (Kd.R_reads' HO326.out).2.2 | (with_reducible refine Kd.C_alloc ?_ _) | (with_reducible refine Kd.C_drewN ?_ _) | (with_reducible refine Kd.C_drew ?_))); (case side4 => exact (Kd.R_reads' HO326.out).2.1); rintro e w' ⟨rfl, ⟨nd, rfl⟩⟩; refine ⟨_, rfl, ?_⟩))
    go_meet
    case rel => exact ⟨_, ((t336 != t327)), (by first | rfl | (simp; done) | (simp [*]; done)), H', ⟨by first | omega | exact Nat.le_refl _⟩, ⟨by (with_reducible repeat (first | apply Kd.R_alloc | apply Kd.R_drewN | apply Kd.R_drew)); exact Kd.R_mono HO326.out (fun _ hk => hk.2)⟩, ⟨by (with_reducible repeat (first | apply Kd.R_alloc | apply Kd.R_drewN | apply Kd.R_drew)); exact Kd.R_mono HO335.out (fun _ hk => hk.2)⟩, ⟨by (with_reducible repeat (first | apply Kd.R_alloc | apply Kd.R_drewN | apply Kd.R_drew)); exact Kd.R_mono HO331.out (fun _ hk => trivial)⟩, ⟨upK BK318⟩, ⟨upK BK332⟩, ⟨upW HB⟩⟩
   ·replace c27 := Bool.eq_false_iff.mpr c27
    subst c27
    have H1 : (laws_FnExactCurrentsOf.j0 k t324 t327 t333 t336 true a0_0 l0_1 t328 t329) = some r := by rw [if_neg (show ¬ (false = true) by decide)] at H; exact H
    clear H
    have H := H1
    clear H1
    have H' := Aside0.mk H
    clear H
    obtain ⟨Ao30, co30, eo30⟩ := Kd.R_slice HO335.out
    subst eo30
    obtain ⟨Ao31, co31, eo31⟩ := Kd.R_slice HO326.out
    subst eo31
    go_wp2_with (first | ((with_reducible refine gate_callee (f := 26) rfl ?_); refine goesL_ (some 34) rfl rfl Try.func26 (by kernel_rfl) rfl #[.slice Ao30 t333.length co30, .slice Ao31 t324.length co31] rfl itp ?_; (with_reducible refine (laws_eqIntS.calls k _ _ t333 _ _ t324 false _ ?side1 ?side2 ?side3 ?side4 A26.out).mono ?_); (case side1 => repeat (first | exact (Kd.R_reads' HO335.out).2.2 | (with_reducible refine Kd.C_alloc ?_ _) | (with_reducible refine Kd.C_drewN ?_ _) | (with_reducible refine Kd.C_drew ?_))); (case side2 => exact (Kd.R_reads' HO335.out).2.1); (case side3 => repeat (first | exact (Kd.R_reads' HO326.out).2.2 | (with_reducible refine Kd.C_alloc ?_ _) | (with_reducible refine Kd.C_drewN ?_ _) | (with_reducible refine Kd.C_drew ?_))); (case side4 => exact (Kd.R_reads' HO326.out).2.1); rintro e w' ⟨rfl, ⟨nd, rfl⟩⟩; refine ⟨_, rfl, ?_⟩))
    go_meet
    case rel => exact ⟨_, (true), (by first | rfl | (simp; done) | (simp [*]; done)), H', ⟨by first | omega | exact Nat.le_refl _⟩, ⟨by (with_reducible repeat (first | apply Kd.R_alloc | apply Kd.R_drewN | apply Kd.R_drew)); exact Kd.R_mono HO326.out (fun _ hk => hk.2)⟩, ⟨by (with_reducible repeat (first | apply Kd.R_alloc | apply Kd.R_drewN | apply Kd.R_drew)); exact Kd.R_mono HO335.out (fun _ hk => hk.2)⟩, ⟨by (with_reducible repeat (first | apply Kd.R_alloc | apply Kd.R_drewN | apply Kd.R_drew)); exact Kd.R_mono HO331.out (fun _ hk => trivial)⟩, ⟨upK BK318⟩, ⟨upK BK332⟩, ⟨upW HB⟩⟩
  case rest =>
   clear HC11
   try clear c1
   try clear c2
   try clear p2
   try clear c3
   try clear c3b0
   try clear c7
   try clear c15
   try clear c17
   try clear c22
   try clear c26
   try clear c27
   try clear c30
   try clear c31
   try clear hcz13_0
   try clear hcz13_1
   try clear hcz15_0
   try clear hcz15_1
   try clear hcz19_0
   try clear hcz19_1
   try clear hcz23_0
   try clear hcz23_1
   try clear hcz5_0
   try clear hcz5_1
   try clear hfz13_0
   try clear hfz13_1
   try clear hfz15_0
   try clear hfz15_1
   try clear hfz19_0
   try clear hfz19_1
   try clear hfz23_0
   try clear hfz23_1
   try clear hfz5_0
   try clear hfz5_1
   obtain ⟨kq, x40_10, rfl, HA, HJ10, HO_4, HO_7, HO_333001, BK318, BK332, HB⟩ := hcut
   cases kq with
   | zero => exact absurd HA.out (by simp [laws_FnExactCurrentsOf.j0])
   | succ kj10 =>
    have H := HA.out
    clear HA
    simp only [laws_FnExactCurrentsOf.j0] at H
    by_cases c32 : x40_10 = true
    ·subst c32
     have H1 : (some false) = some r := by rw [if_pos rfl] at H; exact H
     clear H
     have H := H1
     clear H1
     obtain rfl := Option.some.inj H
     go_wp2
     go_ret
     exact ⟨by first | rfl | (simp [errW_none, errW_some] <;> rfl) | (simp [*, errW_none, errW_some] <;> rfl), by repeat (first | (with_reducible first | exact HB.out | apply below_alloc | apply pw_below_drewN | apply below_drew1 | refine below_set ?_ GE318.out | refine below_set ?_ GE332.out) | exact HB.out)⟩
    ·replace c32 := Bool.eq_false_iff.mpr c32
     subst c32
     have H1 : ((laws_toNet.f kj10 a0_0 l0_1).bind fun bt338 => ((laws_eqNet.f kj10 t328 t329 bt338.1 bt338.2).bind fun t342 => (if t342 = true then ((laws_markNet.f kj10 t328 t329 1).bind fun bt343 => (if bt343.1 < 0 then (laws_FnExactCurrentsOf.j1 kj10 t324 t327 t333 true a0_0 l0_1) else ((laws_eqIntS.f kj10 t333 t324).bind fun t345 => (if t345 = true then (laws_FnExactCurrentsOf.j1 kj10 t324 t327 t333 (t336 != t327) a0_0 l0_1) else (laws_FnExactCurrentsOf.j1 kj10 t324 t327 t333 true a0_0 l0_1))))) else (some false)))) = some r := by rw [if_neg (show ¬ (false = true) by decide)] at H; exact H
     clear H
     have H := H1
     clear H1
     replace H := Option.bind_eq_some_iff.mp H
     obtain ⟨⟨t338, t339⟩, A330, H⟩ := H
     replace H : ((laws_eqNet.f kj10 t328 t329 t338 t339).bind fun t342 => (if t342 = true then ((laws_markNet.f kj10 t328 t329 1).bind fun bt343 => (if bt343.1 < 0 then (laws_FnExactCurrentsOf.j1 kj10 t324 t327 t333 true a0_0 l0_1) else ((laws_eqIntS.f kj10 t333 t324).bind fun t345 => (if t345 = true then (laws_FnExactCurrentsOf.j1 kj10 t324 t327 t333 (t336 != t327) a0_0 l0_1) else (laws_FnExactCurrentsOf.j1 kj10 t324 t327 t333 true a0_0 l0_1))))) else (some false))) = some r := H
     have A33 := Aside0.mk A330
     clear A330
     replace H := Option.bind_eq_some_iff.mp H
     obtain ⟨t342, A340, H⟩ := H
     replace H : (if t342 = true then ((laws_markNet.f kj10 t328 t329 1).bind fun bt343 => (if bt343.1 < 0 then (laws_FnExactCurrentsOf.j1 kj10 t324 t327 t333 true a0_0 l0_1) else ((laws_eqIntS.f kj10 t333 t324).bind fun t345 => (if t345 = true then (laws_FnExactCurrentsOf.j1 kj10 t324 t327 t333 (t336 != t327) a0_0 l0_1) else (laws_FnExactCurrentsOf.j1 kj10 t324 t327 t333 true a0_0 l0_1))))) else (some false)) = some r := H
     have A34 := Aside0.mk A340
     clear A340
     by_cases c35 : t342 = true
     ·subst c35
      have H1 : ((laws_markNet.f kj10 t328 t329 1).bind fun bt343 => (if bt343.1 < 0 then (laws_FnExactCurrentsOf.j1 kj10 t324 t327 t333 true a0_0 l0_1) else ((laws_eqIntS.f kj10 t333 t324).bind fun t345 => (if t345 = true then (laws_FnExactCurrentsOf.j1 kj10 t324 t327 t333 (t336 != t327) a0_0 l0_1) else (laws_FnExactCurrentsOf.j1 kj10 t324 t327 t333 true a0_0 l0_1))))) = some r := by rw [if_pos rfl] at H; exact H
      clear H
      have H := H1
      clear H1
      replace H := Option.bind_eq_some_iff.mp H
      obtain ⟨⟨t343, t344⟩, A360, H⟩ := H
      replace H : (if t343 < 0 then (laws_FnExactCurrentsOf.j1 kj10 t324 t327 t333 true a0_0 l0_1) else ((laws_eqIntS.f kj10 t333 t324).bind fun t345 => (if t345 = true then (laws_FnExactCurrentsOf.j1 kj10 t324 t327 t333 (t336 != t327) a0_0 l0_1) else (laws_FnExactCurrentsOf.j1 kj10 t324 t327 t333 true a0_0 l0_1)))) = some r := H
      have A36 := Aside0.mk A360
      clear A360
      have HC37 := Aside0.mk H
      clear H
      try go_wp2
      have n0_ := Aside0.mk (Kd.R_drew HO_4.out)
      have n1_ := Aside0.mk (Kd.R_drew HO_7.out)
      have n2_ := Aside0.mk (Kd.R_drew HO_333001.out)
      have n3_ := Aside0.mk (blk_drew BK318.out)
      have n4_ := Aside0.mk (blk_drew BK332.out)
      have n5_ := Aside0.mk (below_drew1 HB.out)
      clear HO_4
      clear HO_7
      clear HO_333001
      clear BK318
      clear BK332
      clear HB
      have HO_4 := n0_
      have HO_7 := n1_
      have HO_333001 := n2_
      have BK318 := n3_
      have BK332 := n4_
      have HB := n5_
      clear n0_ n1_ n2_ n3_ n4_ n5_
      refine start_ (n := 5) (S := fun w' => w'.cell? ⟨gb332, 0, none⟩ = some (.int .i64 t328) ∧ w'.cell? ⟨gb332, 1, none⟩ = some (.slice Ao24 t329.length co24) ∧ w'.cell? ⟨gb318, 0, none⟩ = some (.int .i64 a0_0) ∧ w'.cell? ⟨gb318, 1, none⟩ = some (.slice A0_1 l0_1.length c0_1)) (ds := []) #[false, false, false, false, false] (by kernel_rfl) rfl rfl ⟨(blk_cell BK332.out 0).trans rfl, (blk_cell BK332.out 1).trans rfl, (blk_cell BK318.out 0).trans rfl, (blk_cell BK318.out 1).trans rfl⟩ (fun hHeld => ?_)
      generalize wc.drew = w38 at HO_4 HO_7 HO_333001 BK318 BK332 HB hHeld ⊢
      refine take_ (i := 0) (N := some 41) (v := ?_) (a' := ?_) #[true, false, false, false, false] rfl rfl (by kernel_rfl) (fun _ _ _ h => h) (Or.inl ⟨by rfl, ?_⟩) hHeld ?_ ?_
      rotate_left
      ·rintro w' ⟨s0, s1, s2, s3⟩
       go_simp
       with_reducible rfl
      rotate_left
      ·simp only [Act.put, List.setIfInBounds_toArray, List.set_cons_zero, List.set_cons_succ, i64_w, i32_w]
       rfl
      refine take_ (i := 1) (N := some 42) (v := ?_) (a' := ?_) #[true, true, false, false, false] rfl rfl (by kernel_rfl) (fun _ _ _ h => h) (Or.inl ⟨by rfl, ?_⟩) hHeld ?_ ?_
      rotate_left
      ·rintro w' ⟨s0, s1, s2, s3⟩
       go_simp
       with_reducible rfl
      rotate_left
      ·simp only [Act.put, List.setIfInBounds_toArray, List.set_cons_zero, List.set_cons_succ, i64_w, i32_w]
       rfl
      refine one_ (i := 2) (N := some 43) #[true, true, true, false, false] rfl rfl (by kernel_rfl) (by decide) (fun K hK => ?_)
      refine goes_ Try.func17 (by kernel_rfl) rfl #[.agg #[.int .i64 a0_0, .slice A0_1 l0_1.length c0_1]] (by rfl) rfl rfl itp ?_
      with_reducible refine (laws_toNet.calls kj10 a0_0 _ _ l0_1 t338 t339 _ ?side1 ?side2 A33.out).mono ?_
      (case side1 => repeat (first | exact (Kd.C_below HR0_1.out HB.out) | (with_reducible refine Kd.C_alloc ?_ _) | (with_reducible refine Kd.C_drewN ?_ _) | (with_reducible refine Kd.C_drew ?_)))
      (case side2 => exact HC0_1.out)
      rintro e w39 ⟨v340, rfl, ho0, hb⟩
      refine ⟨_, rfl, ?_⟩
      have n0_ := Aside0.mk (Kd.R_below (upR HO_4) hb)
      have n1_ := Aside0.mk (Kd.R_below (upR HO_7) hb)
      have n2_ := Aside0.mk (Kd.R_elder' (upR HO_333001) (Kd.R_base ho0) hb)
      have n3_ := Aside0.mk (Kd.R_lower (Kd.R_new' ho0 (Kd.R_lt (upR HO_333001))) (below_size (upW HB)))
      have n4_ := Aside0.mk (blk_below (upK BK318) hb)
      have n5_ := Aside0.mk (blk_below (upK BK332) hb)
      have n6_ := Aside0.mk (below_step (upW HB) hb)
      clear HO_4
      clear HO_7
      clear HO_333001
      clear BK318
      clear BK332
      clear HB
      have HO_4 := n0_
      have HO_7 := n1_
      have HO_333001 := n2_
      have HO341 := n3_
      have BK318 := n4_
      have BK332 := n5_
      have HB := n6_
      clear n0_ n1_ n2_ n3_ n4_ n5_ n6_
      (try clear hb)
      (try clear hb2)
      (try clear hk)
      (try clear hi)
      (try clear ho0)
      obtain ⟨Ao40, co40, eo40⟩ := Kd.R_slice HO341.out
      (first | subst eo40 | (injection eo40 with f1_ f2_ f3_; have f4_ := f1_.symm; have f5_ := f3_.symm; clear f1_ f2_ f3_; subst f4_; subst f5_))
      refine hK.out _ _ ⟨(blk_cell BK332.out 0).trans rfl, (blk_cell BK332.out 1).trans rfl, (blk_cell BK318.out 0).trans rfl, (blk_cell BK318.out 1).trans rfl⟩ (fun hHeld => ?_)
      clear hK K
      refine norm_ (a' := ?_) ?_ ?_
      rotate_left
      ·show Act.put _ (some 43) _ = _
       simp only [Act.put, List.setIfInBounds_toArray, List.set_cons_zero, List.set_cons_succ, i64_w, i32_w]
       rfl
      refine one_ (i := 3) (N := some 44) #[true, true, true, true, false] rfl rfl (by kernel_rfl) (by decide) (fun K hK => ?_)
      refine goes_ Try.func19 (by kernel_rfl) rfl #[.agg #[.int .i64 t328, .slice Ao24 t329.length co24], .agg #[.int .i64 t338, .slice Ao40 t339.length co40]] (by rfl) rfl rfl itp ?_
      with_reducible refine (laws_eqNet.calls kj10 t328 _ _ t329 t338 _ _ t339 true _ ?side1 ?side2 ?side3 ?side4 A34.out).mono ?_
      (case side1 => repeat (first | exact (Kd.R_reads' HO_333001.out).2.2 | (with_reducible refine Kd.C_alloc ?_ _) | (with_reducible refine Kd.C_drewN ?_ _) | (with_reducible refine Kd.C_drew ?_)))
      (case side2 => exact (Kd.R_reads' HO_333001.out).2.1)
      (case side3 => repeat (first | exact (Kd.R_reads' HO341.out).2.2 | (with_reducible refine Kd.C_alloc ?_ _) | (with_reducible refine Kd.C_drewN ?_ _) | (with_reducible refine Kd.C_drew ?_)))
      (case side4 => exact (Kd.R_reads' HO341.out).2.1)
      rintro e w41 ⟨rfl, hb⟩
      refine ⟨_, rfl, ?_⟩
      have n0_ := Aside0.mk (Kd.R_below (upR HO_4) hb)
      have n1_ := Aside0.mk (Kd.R_below (upR HO_7) hb)
      have n2_ := Aside0.mk (Kd.R_below (upR HO_333001) hb)
      have n3_ := Aside0.mk (Kd.R_below (upR HO341) hb)
      have n4_ := Aside0.mk (blk_below (upK BK318) hb)
      have n5_ := Aside0.mk (blk_below (upK BK332) hb)
      have n6_ := Aside0.mk (below_step (upW HB) hb)
      clear HO_4
      clear HO_7
      clear HO_333001
      clear HO341
      clear BK318
      clear BK332
      clear HB
      have HO_4 := n0_
      have HO_7 := n1_
      have HO_333001 := n2_
      have HO341 := n3_
      have BK318 := n4_
      have BK332 := n5_
      have HB := n6_
      clear n0_ n1_ n2_ n3_ n4_ n5_ n6_
      (try clear hb)
      (try clear hb2)
      (try clear hk)
      (try clear hi)
      refine hK.out _ _ ⟨(blk_cell BK332.out 0).trans rfl, (blk_cell BK332.out 1).trans rfl, (blk_cell BK318.out 0).trans rfl, (blk_cell BK318.out 1).trans rfl⟩ (fun hHeld => ?_)
      clear hK K
      refine norm_ (a' := ?_) ?_ ?_
      rotate_left
      ·show Act.put _ (some 44) _ = _
       simp only [Act.put, List.setIfInBounds_toArray, List.set_cons_zero, List.set_cons_succ, i64_w, i32_w]
       rfl
      refine pure_ (i := 4) (N := some 45) (v := ?_) (a' := ?_) #[true, true, true, true, true] rfl rfl (by kernel_rfl) (fun _ _ _ h => h) (Or.inl ⟨by rfl, ?_⟩) ?_ ?_
      rotate_left
      ·intro w'
       go_simp
       with_reducible rfl
      rotate_left
      ·simp only [Act.put, List.setIfInBounds_toArray, List.set_cons_zero, List.set_cons_succ, i64_w, i32_w]
       rfl
      refine done_ (by kernel_rfl) ?_
      have hnb42 := NB332_318.out
      have hnc42 := NB318_332.out
      have hcz43_0 : w41.cell? ⟨gb332, 0, none⟩ = some (.int .i64 t328) := (blk_cell BK332.out 0).trans rfl
      have hcz43_1 : w41.cell? ⟨gb332, 1, none⟩ = some (.slice Ao24 t329.length co24) := (blk_cell BK332.out 1).trans rfl
      have hfz43_0 := blk_frozen BK332.out 0
      have hfz43_1 := blk_frozen BK332.out 1
      go_upto_region 14 with (first | ((with_reducible refine gate_callee (f := 27) rfl ?_); refine goesL_ (some 48) rfl rfl Try.func27 (by kernel_rfl) rfl #[.agg #[.int .i64 t328, .slice Ao24 t329.length co24], .int .i64 1] rfl itp ?_; (with_reducible refine (laws_markNet.calls kj10 t328 (fun k_ => some k_ = (.slice Ao24 t329.length co24 : Value).ownBlock) (.slice Ao24 t329.length co24) t329 1 t343 t344 w _ ?side1 ?side2 A36.out).mono ?_); (case side1 => repeat (first | (with_reducible first | exact HB.out | apply below_alloc | apply pw_below_drewN | apply below_drew1 | refine below_set ?_ GE318.out | refine below_set ?_ GE332.out) | exact HB.out)); (case side2 => exact Kd.R_tight rfl HO_333001.out); rintro e w44 ⟨rfl, hy0, hb, hkp⟩; refine ⟨_, rfl, ?_⟩; have n0_ := Aside0.mk (Kd.R_mono (ok' := fun k_ => some k_ ≠ (v334 : Value).ownBlock) (Kd.R_keptB ((Kd.R_apart' HO_4.out (Kd.R_typed HO_333001.out) (by decide))) hkp (fun k_ hk_ hs_ => (hk_.2) hs_)) (fun k_ hk_ => hk_.1.1)); have n1_ := Aside0.mk (Kd.R_mono (ok' := fun k_ => some k_ ≠ (v325 : Value).ownBlock) (Kd.R_keptB ((Kd.R_apart' HO_7.out (Kd.R_typed HO_333001.out) (by decide))) hkp (fun k_ hk_ hs_ => (hk_.2) hs_)) (fun k_ hk_ => hk_.1.1)); have n2_ := Aside0.mk (Kd.R_reok rfl hy0 (fun k_ e_ => HO_333001.out.1 k_ e_)); have n3_ := Aside0.mk (blk_kept (upK BK318) hkp (fun hs_ => (fun e_ => (Kd.R_ne HO_333001.out BK318.out (by decide)) e_) hs_)); have n4_ := Aside0.mk (blk_kept (upK BK332) hkp (fun hs_ => (fun e_ => (Kd.R_ne HO_333001.out BK332.out (by decide)) e_) hs_)); have n5_ := Aside0.mk (Kd.R_mono (ok' := fun k_ => some k_ ≠ (.slice Ao24 t329.length co24 : Value).ownBlock) (Kd.R_keptB (HO341.out) hkp (fun k_ hk_ hs_ => (hk_.2) hs_)) (fun k_ hk_ => hk_.1.2)); have n6_ := Aside0.mk (hb); clear HO_4; clear HO_7; clear HO_333001; clear BK318; clear BK332; clear HO341; clear HB; have HO_4 := n0_; have HO_7 := n1_; have HO_333001 := n2_; have BK318 := n3_; have BK332 := n4_; have HO341 := n5_; have HB := n6_; clear n0_ n1_ n2_ n3_ n4_ n5_ n6_; (try clear hb); (try clear hkp); (try clear hy0)))
      (try simp only [Act.put, List.setIfInBounds_toArray, List.set_cons_zero, List.set_cons_succ])
      go_cut [61] (fun v61 wc => ∃ (kq : Nat) (x61_36 : Bool), v61 = .bool x61_36 ∧ Aside0 (laws_FnExactCurrentsOf.j1 kq t324 t327 t333 x61_36 a0_0 l0_1 = some r) ∧ Aside0 (kq ≤ kj10) ∧ Aside0 (Kd.R (Kd.int .i64) 3 wc w.heap.size (fun k_ => some k_ ≠ (v334 : Value).ownBlock) v325 t324) ∧ Aside0 (Kd.R (Kd.int .i64) 3 wc w.heap.size (fun k_ => some k_ ≠ (v325 : Value).ownBlock) v334 t333) ∧ Aside0 (Kd.R k73 73 wc w.heap.size (fun _ => True) (.slice Ao24 t329.length co24) t344) ∧ Aside0 (wc.heap[gb318]? = some (.cells #[.int .i64 a0_0, (.slice A0_1 l0_1.length c0_1)] 24 (0, 0))) ∧ Aside0 (wc.heap[gb332]? = some (.cells #[.int .i64 t328, (.slice Ao24 t329.length co24)] 30 (0, 0))) ∧ Aside0 (Below w.heap.size w wc))
      case first =>
       have H := HC37.out
       clear HC37
       by_cases c45 : t343 < 0
       ·rw [if_pos c45] at H
        have c45b0 : decide (t343 < 0) = true := decide_eq_true c45
        clear c45
        (first | rw [c45b0] | (simp only [i64_w, i32_w]; rw [c45b0]) | skip)
        have H' := Aside0.mk H
        clear H
        go_wp2
        go_meet
        case rel => exact ⟨_, (true), (by first | rfl | (simp; done) | (simp [*]; done)), H', ⟨by have := HJ10.out; first | omega | exact Nat.le_refl _⟩, ⟨upR HO_4⟩, ⟨upR HO_7⟩, ⟨by (with_reducible repeat (first | apply Kd.R_alloc | apply Kd.R_drewN | apply Kd.R_drew)); exact Kd.R_mono HO_333001.out (fun _ hk => trivial)⟩, ⟨upK BK318⟩, ⟨upK BK332⟩, ⟨upW HB⟩⟩
       ·rw [if_neg c45] at H
        have c45b0 : decide (t343 < 0) = false := decide_eq_false c45
        clear c45
        (first | rw [c45b0] | (simp only [i64_w, i32_w]; rw [c45b0]) | skip)
        replace H := Option.bind_eq_some_iff.mp H
        obtain ⟨t345, A460, H⟩ := H
        replace H : (if t345 = true then (laws_FnExactCurrentsOf.j1 kj10 t324 t327 t333 (t336 != t327) a0_0 l0_1) else (laws_FnExactCurrentsOf.j1 kj10 t324 t327 t333 true a0_0 l0_1)) = some r := H
        have A46 := Aside0.mk A460
        clear A460
        by_cases c47 : t345 = true
        ·subst c47
         have H1 : (laws_FnExactCurrentsOf.j1 kj10 t324 t327 t333 (t336 != t327) a0_0 l0_1) = some r := by rw [if_pos rfl] at H; exact H
         clear H
         have H := H1
         clear H1
         have H' := Aside0.mk H
         clear H
         obtain ⟨Ao48, co48, eo48⟩ := Kd.R_slice HO_7.out
         subst eo48
         obtain ⟨Ao49, co49, eo49⟩ := Kd.R_slice HO_4.out
         subst eo49
         go_wp2_with (first | (go_at_call 26; (with_reducible refine (laws_eqIntS.calls kj10 _ _ t333 _ _ t324 true _ ?side1 ?side2 ?side3 ?side4 A46.out).mono ?_); (case side1 => repeat (first | exact (Kd.R_reads' HO_7.out).2.2 | (with_reducible refine Kd.C_alloc ?_ _) | (with_reducible refine Kd.C_drewN ?_ _) | (with_reducible refine Kd.C_drew ?_))); (case side2 => exact (Kd.R_reads' HO_7.out).2.1); (case side3 => repeat (first | exact (Kd.R_reads' HO_4.out).2.2 | (with_reducible refine Kd.C_alloc ?_ _) | (with_reducible refine Kd.C_drewN ?_ _) | (with_reducible refine Kd.C_drew ?_))); (case side4 => exact (Kd.R_reads' HO_4.out).2.1); rintro e w' ⟨rfl, ⟨nd, rfl⟩⟩))
         go_meet
         case rel => exact ⟨_, ((t336 != t327)), (by first | rfl | (simp; done) | (simp [*]; done)), H', ⟨by have := HJ10.out; first | omega | exact Nat.le_refl _⟩, ⟨upR HO_4⟩, ⟨upR HO_7⟩, ⟨by (with_reducible repeat (first | apply Kd.R_alloc | apply Kd.R_drewN | apply Kd.R_drew)); exact Kd.R_mono HO_333001.out (fun _ hk => trivial)⟩, ⟨upK BK318⟩, ⟨upK BK332⟩, ⟨upW HB⟩⟩
        ·replace c47 := Bool.eq_false_iff.mpr c47
         subst c47
         have H1 : (laws_FnExactCurrentsOf.j1 kj10 t324 t327 t333 true a0_0 l0_1) = some r := by rw [if_neg (show ¬ (false = true) by decide)] at H; exact H
         clear H
         have H := H1
         clear H1
         have H' := Aside0.mk H
         clear H
         obtain ⟨Ao50, co50, eo50⟩ := Kd.R_slice HO_7.out
         subst eo50
         obtain ⟨Ao51, co51, eo51⟩ := Kd.R_slice HO_4.out
         subst eo51
         go_wp2_with (first | (go_at_call 26; (with_reducible refine (laws_eqIntS.calls kj10 _ _ t333 _ _ t324 false _ ?side1 ?side2 ?side3 ?side4 A46.out).mono ?_); (case side1 => repeat (first | exact (Kd.R_reads' HO_7.out).2.2 | (with_reducible refine Kd.C_alloc ?_ _) | (with_reducible refine Kd.C_drewN ?_ _) | (with_reducible refine Kd.C_drew ?_))); (case side2 => exact (Kd.R_reads' HO_7.out).2.1); (case side3 => repeat (first | exact (Kd.R_reads' HO_4.out).2.2 | (with_reducible refine Kd.C_alloc ?_ _) | (with_reducible refine Kd.C_drewN ?_ _) | (with_reducible refine Kd.C_drew ?_))); (case side4 => exact (Kd.R_reads' HO_4.out).2.1); rintro e w' ⟨rfl, ⟨nd, rfl⟩⟩))
         go_meet
         case rel => exact ⟨_, (true), (by first | rfl | (simp; done) | (simp [*]; done)), H', ⟨by have := HJ10.out; first | omega | exact Nat.le_refl _⟩, ⟨upR HO_4⟩, ⟨upR HO_7⟩, ⟨by (with_reducible repeat (first | apply Kd.R_alloc | apply Kd.R_drewN | apply Kd.R_drew)); exact Kd.R_mono HO_333001.out (fun _ hk => trivial)⟩, ⟨upK BK318⟩, ⟨upK BK332⟩, ⟨upW HB⟩⟩
      case rest =>
       clear HC37
       try clear c1
       try clear c2
       try clear p2
       try clear c3
       try clear c3b0
       try clear c4
       try clear c7
       try clear c15
       try clear c17
       try clear c19
       try clear c22
       try clear c26
       try clear c27
       try clear c30
       try clear c31
       try clear c32
       try clear c35
       try clear c42
       try clear c45
       try clear c45b0
       try clear c47
       try clear hcz13_0
       try clear hcz13_1
       try clear hcz15_0
       try clear hcz15_1
       try clear hcz19_0
       try clear hcz19_1
       try clear hcz23_0
       try clear hcz23_1
       try clear hcz43_0
       try clear hcz43_1
       try clear hcz5_0
       try clear hcz5_1
       try clear hfz13_0
       try clear hfz13_1
       try clear hfz15_0
       try clear hfz15_1
       try clear hfz19_0
       try clear hfz19_1
       try clear hfz23_0
       try clear hfz23_1
       try clear hfz43_0
       try clear hfz43_1
       try clear hfz5_0
       try clear hfz5_1
       try clear p2
       obtain ⟨kq, x61_36, rfl, HA, HJ36, HO_4, HO_7, HO_333001, BK318, BK332, HB⟩ := hcut
       have hl333001_36 := (Kd.R_reads' HO_333001.out).1
       rw [hl333001_36] at HO_333001
       (try simp only [hl333001_36])
       (try simp only [hl333001_36] at BK318)
       (try simp only [hl333001_36] at BK332)
       (try simp only [hl333001_36] at HO_4)
       (try simp only [hl333001_36] at HO_7)
       cases kq with
       | zero => exact absurd HA.out (by simp [laws_FnExactCurrentsOf.j1])
       | succ kj36 =>
        have H := HA.out
        clear HA
        simp only [laws_FnExactCurrentsOf.j1] at H
        by_cases c52 : x61_36 = true
        ·subst c52
         have H1 : (some false) = some r := by rw [if_pos rfl] at H; exact H
         clear H
         have H := H1
         clear H1
         obtain rfl := Option.some.inj H
         go_wp2
         go_ret
         exact ⟨by first | rfl | (simp [errW_none, errW_some] <;> rfl) | (simp [*, errW_none, errW_some] <;> rfl), by repeat (first | (with_reducible first | exact HB.out | apply below_alloc | apply pw_below_drewN | apply below_drew1 | refine below_set ?_ GE318.out | refine below_set ?_ GE332.out) | exact HB.out)⟩
        ·replace c52 := Bool.eq_false_iff.mpr c52
         subst c52
         have H1 : ((laws_markIntS.f kj36 t333 1).bind fun bt346 => ((laws_heldIntS.f kj36 bt346.2 1).bind fun t348 => (if t348 < 0 then (some false) else (if t348 = bt346.1 then ((laws_toNet.f kj36 a0_0 l0_1).bind fun bt349 => ((impl_CurrentsOf.f kj36 bt349.1 bt349.2).bind fun bt353 => ((laws_eqIntS.f kj36 bt353.1 t324).bind fun t357 => (if t357 = true then (laws_FnExactCurrentsOf.j2 kj36 bt346.2 bt346.1 (bt353.2 != t327)) else (laws_FnExactCurrentsOf.j2 kj36 bt346.2 bt346.1 true))))) else (some false))))) = some r := by rw [if_neg (show ¬ (false = true) by decide)] at H; exact H
         clear H
         have H := H1
         clear H1
         replace H := Option.bind_eq_some_iff.mp H
         obtain ⟨⟨t346, t347⟩, A530, H⟩ := H
         replace H : ((laws_heldIntS.f kj36 t347 1).bind fun t348 => (if t348 < 0 then (some false) else (if t348 = t346 then ((laws_toNet.f kj36 a0_0 l0_1).bind fun bt349 => ((impl_CurrentsOf.f kj36 bt349.1 bt349.2).bind fun bt353 => ((laws_eqIntS.f kj36 bt353.1 t324).bind fun t357 => (if t357 = true then (laws_FnExactCurrentsOf.j2 kj36 t347 t346 (bt353.2 != t327)) else (laws_FnExactCurrentsOf.j2 kj36 t347 t346 true))))) else (some false)))) = some r := H
         have A53 := Aside0.mk A530
         clear A530
         replace H := Option.bind_eq_some_iff.mp H
         obtain ⟨t348, A540, H⟩ := H
         replace H : (if t348 < 0 then (some false) else (if t348 = t346 then ((laws_toNet.f kj36 a0_0 l0_1).bind fun bt349 => ((impl_CurrentsOf.f kj36 bt349.1 bt349.2).bind fun bt353 => ((laws_eqIntS.f kj36 bt353.1 t324).bind fun t357 => (if t357 = true then (laws_FnExactCurrentsOf.j2 kj36 t347 t346 (bt353.2 != t327)) else (laws_FnExactCurrentsOf.j2 kj36 t347 t346 true))))) else (some false))) = some r := H
         have A54 := Aside0.mk A540
         clear A540
         by_cases c55 : t348 < 0
         ·rw [if_pos c55] at H
          have c55b0 : decide (t348 < 0) = true := decide_eq_true c55
          clear c55
          obtain rfl := Option.some.inj H
          obtain ⟨Ao56, co56, eo56⟩ := Kd.R_slice HO_7.out
          subst eo56
          go_wp2_with (first | ((with_reducible refine gate_callee (f := 28) rfl ?_); refine goesL_ (some 64) rfl rfl Try.func28 (by kernel_rfl) rfl #[.slice Ao56 t333.length co56, .int .i64 1] rfl itp ?_; (with_reducible refine (laws_markIntS.calls kj36 (fun k_ => some k_ = (.slice Ao56 t333.length co56 : Value).ownBlock) (.slice Ao56 t333.length co56) t333 1 t346 t347 w _ ?side1 ?side2 A53.out).mono ?_); (case side1 => repeat (first | (with_reducible first | exact HB.out | apply below_alloc | apply pw_below_drewN | apply below_drew1 | refine below_set ?_ GE318.out | refine below_set ?_ GE332.out) | exact HB.out)); (case side2 => exact Kd.R_tight rfl HO_7.out); rintro e w57 ⟨rfl, hy0, hb, hkp⟩; refine ⟨_, rfl, ?_⟩; have n0_ := Aside0.mk (Kd.R_mono (ok' := fun k_ => some k_ ≠ (.slice Ao56 t333.length co56 : Value).ownBlock) (Kd.R_keptB (HO_4.out) hkp (fun k_ hk_ hs_ => (hk_) hs_)) (fun k_ hk_ => hk_.1)); have n1_ := Aside0.mk (Kd.R_reok rfl hy0 (fun k_ e_ => HO_7.out.1 k_ e_)); have n2_ := Aside0.mk (Kd.R_mono (ok' := fun k_ => True) (Kd.R_keptB ((Kd.R_apart' HO_333001.out (Kd.R_typed HO_7.out) (by decide))) hkp (fun k_ hk_ hs_ => (hk_.2) hs_)) (fun k_ hk_ => trivial)); have n3_ := Aside0.mk (blk_kept (upK BK318) hkp (fun hs_ => (fun e_ => (Kd.R_ne HO_7.out BK318.out (by decide)) e_) hs_)); have n4_ := Aside0.mk (blk_kept (upK BK332) hkp (fun hs_ => (fun e_ => (Kd.R_ne HO_7.out BK332.out (by decide)) e_) hs_)); have n5_ := Aside0.mk (hb); clear HO_4; clear HO_7; clear HO_333001; clear BK318; clear BK332; clear HB; have HO_4 := n0_; have HO_7 := n1_; have HO_333001 := n2_; have BK318 := n3_; have BK332 := n4_; have HB := n5_; clear n0_ n1_ n2_ n3_ n4_ n5_; (try clear hb); (try clear hkp); (try clear hy0)) | ((with_reducible refine gate_callee (f := 29) rfl ?_); refine goesL_ (some 67) rfl rfl Try.func29 (by kernel_rfl) rfl #[.slice Ao56 t347.length co56, .int .i64 1] rfl (by (try simp only [List.map_toArray, List.map_cons, List.map_nil]); first | done | (rw [show t347.length = t333.length from (Kd.R_reads' HO_7.out).1.symm] <;> rfl) | rfl | (simp only [List.length_drop, List.length_take]; rfl)) ?_; (with_reducible refine (laws_heldIntS.calls kj36 _ _ t347 1 t348 _ ?side1 ?side2 A54.out).mono ?_); (case side1 => repeat (first | exact (Kd.R_reads' HO_7.out).2.2 | (with_reducible refine Kd.C_alloc ?_ _) | (with_reducible refine Kd.C_drewN ?_ _) | (with_reducible refine Kd.C_drew ?_))); (case side2 => rw [show t347.length = t333.length from (Kd.R_reads' HO_7.out).1.symm]; exact (Kd.R_reads' HO_7.out).2.1); rintro e w' ⟨rfl, ⟨nd, rfl⟩⟩; refine ⟨_, rfl, ?_⟩))
          go_ret
          exact ⟨by first | rfl | (simp [errW_none, errW_some] <;> rfl) | (simp [*, errW_none, errW_some] <;> rfl), by repeat (first | (with_reducible first | exact HB.out | apply below_alloc | apply pw_below_drewN | apply below_drew1 | refine below_set ?_ GE318.out | refine below_set ?_ GE332.out) | exact HB.out)⟩
         ·rw [if_neg c55] at H
          have c55b0 : decide (t348 < 0) = false := decide_eq_false c55
          clear c55
          by_cases c58 : t348 = t346
          ·rw [if_pos c58] at H
           have c58b0 : (t348 == t346) = true := beq_iff_eq.mpr c58
           have c58b1 : (t348 != t346) = false := bne_eq_false_iff_eq.mpr c58
           clear c58
           replace H := Option.bind_eq_some_iff.mp H
           obtain ⟨⟨t349, t350⟩, A590, H⟩ := H
           replace H : ((impl_CurrentsOf.f kj36 t349 t350).bind fun bt353 => ((laws_eqIntS.f kj36 bt353.1 t324).bind fun t357 => (if t357 = true then (laws_FnExactCurrentsOf.j2 kj36 t347 t346 (bt353.2 != t327)) else (laws_FnExactCurrentsOf.j2 kj36 t347 t346 true)))) = some r := H
           have A59 := Aside0.mk A590
           clear A590
           replace H := Option.bind_eq_some_iff.mp H
           obtain ⟨⟨t353, t356⟩, A600, H⟩ := H
           replace H : ((laws_eqIntS.f kj36 t353 t324).bind fun t357 => (if t357 = true then (laws_FnExactCurrentsOf.j2 kj36 t347 t346 (t356 != t327)) else (laws_FnExactCurrentsOf.j2 kj36 t347 t346 true))) = some r := H
           have A60 := Aside0.mk A600
           clear A600
           have HC61 := Aside0.mk H
           clear H
           obtain ⟨Ao62, co62, eo62⟩ := Kd.R_slice HO_7.out
           subst eo62
           go_upto_region 25 with (first | ((with_reducible refine gate_callee (f := 28) rfl ?_); refine goesL_ (some 64) rfl rfl Try.func28 (by kernel_rfl) rfl #[.slice Ao62 t333.length co62, .int .i64 1] rfl itp ?_; (with_reducible refine (laws_markIntS.calls kj36 (fun k_ => some k_ = (.slice Ao62 t333.length co62 : Value).ownBlock) (.slice Ao62 t333.length co62) t333 1 t346 t347 w _ ?side1 ?side2 A53.out).mono ?_); (case side1 => repeat (first | (with_reducible first | exact HB.out | apply below_alloc | apply pw_below_drewN | apply below_drew1 | refine below_set ?_ GE318.out | refine below_set ?_ GE332.out) | exact HB.out)); (case side2 => exact Kd.R_tight rfl HO_7.out); rintro e w63 ⟨rfl, hy0, hb, hkp⟩; refine ⟨_, rfl, ?_⟩; have n0_ := Aside0.mk (Kd.R_mono (ok' := fun k_ => some k_ ≠ (.slice Ao62 t333.length co62 : Value).ownBlock) (Kd.R_keptB (HO_4.out) hkp (fun k_ hk_ hs_ => (hk_) hs_)) (fun k_ hk_ => hk_.1)); have n1_ := Aside0.mk (Kd.R_reok rfl hy0 (fun k_ e_ => HO_7.out.1 k_ e_)); have n2_ := Aside0.mk (Kd.R_mono (ok' := fun k_ => True) (Kd.R_keptB ((Kd.R_apart' HO_333001.out (Kd.R_typed HO_7.out) (by decide))) hkp (fun k_ hk_ hs_ => (hk_.2) hs_)) (fun k_ hk_ => trivial)); have n3_ := Aside0.mk (blk_kept (upK BK318) hkp (fun hs_ => (fun e_ => (Kd.R_ne HO_7.out BK318.out (by decide)) e_) hs_)); have n4_ := Aside0.mk (blk_kept (upK BK332) hkp (fun hs_ => (fun e_ => (Kd.R_ne HO_7.out BK332.out (by decide)) e_) hs_)); have n5_ := Aside0.mk (hb); clear HO_4; clear HO_7; clear HO_333001; clear BK318; clear BK332; clear HB; have HO_4 := n0_; have HO_7 := n1_; have HO_333001 := n2_; have BK318 := n3_; have BK332 := n4_; have HB := n5_; clear n0_ n1_ n2_ n3_ n4_ n5_; (try clear hb); (try clear hkp); (try clear hy0)) | ((with_reducible refine gate_callee (f := 29) rfl ?_); refine goesL_ (some 67) rfl rfl Try.func29 (by kernel_rfl) rfl #[.slice Ao62 t347.length co62, .int .i64 1] rfl (by (try simp only [List.map_toArray, List.map_cons, List.map_nil]); first | done | (rw [show t347.length = t333.length from (Kd.R_reads' HO_7.out).1.symm] <;> rfl) | rfl | (simp only [List.length_drop, List.length_take]; rfl)) ?_; (with_reducible refine (laws_heldIntS.calls kj36 _ _ t347 1 t348 _ ?side1 ?side2 A54.out).mono ?_); (case side1 => repeat (first | exact (Kd.R_reads' HO_7.out).2.2 | (with_reducible refine Kd.C_alloc ?_ _) | (with_reducible refine Kd.C_drewN ?_ _) | (with_reducible refine Kd.C_drew ?_))); (case side2 => rw [show t347.length = t333.length from (Kd.R_reads' HO_7.out).1.symm]; exact (Kd.R_reads' HO_7.out).2.1); rintro e w' ⟨rfl, ⟨nd, rfl⟩⟩; refine ⟨_, rfl, ?_⟩; have hnb64 := NB318_332.out; have hnc64 := NB332_318.out; have hcz65_0 : w63.cell? ⟨gb318, 0, none⟩ = some (.int .i64 a0_0) := (blk_cell BK318.out 0).trans rfl; have hcz65_1 : w63.cell? ⟨gb318, 1, none⟩ = some (.slice A0_1 l0_1.length c0_1) := (blk_cell BK318.out 1).trans rfl; have hfz65_0 := blk_frozen BK318.out 0; have hfz65_1 := blk_frozen BK318.out 1) | ((with_reducible refine gate_callee (f := 17) rfl ?_); refine goesL_ (some 75) rfl rfl Try.func17 (by kernel_rfl) rfl #[.agg #[.int .i64 a0_0, .slice A0_1 l0_1.length c0_1]] rfl itp ?_; (with_reducible refine (laws_toNet.calls kj36 a0_0 _ _ l0_1 t349 t350 _ ?side1 ?side2 A59.out).mono ?_); (case side1 => repeat (first | exact (Kd.C_below HR0_1.out (upW HB)) | (with_reducible refine Kd.C_alloc ?_ _) | (with_reducible refine Kd.C_drewN ?_ _) | (with_reducible refine Kd.C_drew ?_))); (case side2 => exact HC0_1.out); rintro e w66 ⟨v351, rfl, ho0, hb⟩; refine ⟨_, rfl, ?_⟩; have n0_ := Aside0.mk (Kd.R_below (upR HO_4) hb); have n1_ := Aside0.mk (Kd.R_below (upR HO_7) hb); have n2_ := Aside0.mk (Kd.R_elder' (upR HO_333001) (Kd.R_base ho0) hb); have n3_ := Aside0.mk (Kd.R_lower (Kd.R_new' ho0 (Kd.R_lt (upR HO_333001))) (below_size (upW HB))); have n4_ := Aside0.mk (blk_below (upK BK318) hb); have n5_ := Aside0.mk (blk_below (upK BK332) hb); have n6_ := Aside0.mk (below_step (upW HB) hb); clear HO_4; clear HO_7; clear HO_333001; clear BK318; clear BK332; clear HB; have HO_4 := n0_; have HO_7 := n1_; have HO_333001 := n2_; have HO352 := n3_; have BK318 := n4_; have BK332 := n5_; have HB := n6_; clear n0_ n1_ n2_ n3_ n4_ n5_ n6_; (try clear hb); (try clear hb2); (try clear hk); (try clear hi); (try clear ho0); obtain ⟨Ao67, co67, eo67⟩ := Kd.R_slice HO352.out; subst eo67) | ((with_reducible refine gate_callee (f := 31) rfl ?_); refine goesL_ (some 76) rfl rfl Try.func31 (by kernel_rfl) rfl #[.agg #[.int .i64 t349, .slice Ao67 t350.length co67]] rfl itp ?_; (with_reducible refine (impl_CurrentsOf.calls kj36 t349 _ _ t350 t353 t356 _ ?side1 ?side2 A60.out).mono ?_); (case side1 => repeat (first | exact (Kd.R_reads' HO352.out).2.2 | (with_reducible refine Kd.C_alloc ?_ _) | (with_reducible refine Kd.C_drewN ?_ _) | (with_reducible refine Kd.C_drew ?_))); (case side2 => exact (Kd.R_reads' HO352.out).2.1); rintro e w68 ⟨v354, rfl, ho0, hb⟩; refine ⟨_, rfl, ?_⟩; have n0_ := Aside0.mk (Kd.R_elder' (upR HO_4) (Kd.R_base ho0) hb); have n1_ := Aside0.mk (Kd.R_elder' (upR HO_7) (Kd.R_base ho0) hb); have n2_ := Aside0.mk (Kd.R_below (upR HO_333001) hb); have n3_ := Aside0.mk (Kd.R_below (upR HO352) hb); have n4_ := Aside0.mk (Kd.R_lower (Kd.R_new' (Kd.R_new' ho0 (Kd.R_lt (upR HO_4))) (Kd.R_lt (upR HO_7))) (below_size (upW HB))); have n5_ := Aside0.mk (blk_below (upK BK318) hb); have n6_ := Aside0.mk (blk_below (upK BK332) hb); have n7_ := Aside0.mk (below_step (upW HB) hb); clear HO_4; clear HO_7; clear HO_333001; clear HO352; clear BK318; clear BK332; clear HB; have HO_4 := n0_; have HO_7 := n1_; have HO_333001 := n2_; have HO352 := n3_; have HO355 := n4_; have BK318 := n5_; have BK332 := n6_; have HB := n7_; clear n0_ n1_ n2_ n3_ n4_ n5_ n6_ n7_; (try clear hb); (try clear hb2); (try clear hk); (try clear hi); (try clear ho0)))
           (try simp only [Act.put, List.setIfInBounds_toArray, List.set_cons_zero, List.set_cons_succ])
           go_cut [87] (fun v87 wc => ∃ (kq : Nat) (x87_60 : Bool), v87 = .bool x87_60 ∧ Aside0 (laws_FnExactCurrentsOf.j2 kq t347 t346 x87_60 = some r) ∧ Aside0 (kq ≤ kj36) ∧ Aside0 (Kd.R (Kd.int .i64) 3 wc w.heap.size (fun _ => True) (.slice Ao62 t333.length co62) t347) ∧ Aside0 (Kd.R k73 73 wc w.heap.size (fun _ => True) (.slice Ao24 t344.length co24) t344) ∧ Aside0 (wc.heap[gb318]? = some (.cells #[.int .i64 a0_0, (.slice A0_1 l0_1.length c0_1)] 24 (0, 0))) ∧ Aside0 (wc.heap[gb332]? = some (.cells #[.int .i64 t328, (.slice Ao24 t344.length co24)] 30 (0, 0))) ∧ Aside0 (Below w.heap.size w wc))
           case first =>
            have H := HC61.out
            clear HC61
            replace H := Option.bind_eq_some_iff.mp H
            obtain ⟨t357, A690, H⟩ := H
            replace H : (if t357 = true then (laws_FnExactCurrentsOf.j2 kj36 t347 t346 (t356 != t327)) else (laws_FnExactCurrentsOf.j2 kj36 t347 t346 true)) = some r := H
            have A69 := Aside0.mk A690
            clear A690
            by_cases c70 : t357 = true
            ·subst c70
             have H1 : (laws_FnExactCurrentsOf.j2 kj36 t347 t346 (t356 != t327)) = some r := by rw [if_pos rfl] at H; exact H
             clear H
             have H := H1
             clear H1
             have H' := Aside0.mk H
             clear H
             obtain ⟨Ao71, co71, eo71⟩ := Kd.R_slice HO355.out
             subst eo71
             obtain ⟨Ao72, co72, eo72⟩ := Kd.R_slice HO_4.out
             subst eo72
             go_wp2_with (first | ((with_reducible refine gate_callee (f := 26) rfl ?_); refine goesL_ (some 81) rfl rfl Try.func26 (by kernel_rfl) rfl #[.slice Ao71 t353.length co71, .slice Ao72 t324.length co72] rfl itp ?_; (with_reducible refine (laws_eqIntS.calls kj36 _ _ t353 _ _ t324 true _ ?side1 ?side2 ?side3 ?side4 A69.out).mono ?_); (case side1 => repeat (first | exact (Kd.R_reads' HO355.out).2.2 | (with_reducible refine Kd.C_alloc ?_ _) | (with_reducible refine Kd.C_drewN ?_ _) | (with_reducible refine Kd.C_drew ?_))); (case side2 => exact (Kd.R_reads' HO355.out).2.1); (case side3 => repeat (first | exact (Kd.R_reads' HO_4.out).2.2 | (with_reducible refine Kd.C_alloc ?_ _) | (with_reducible refine Kd.C_drewN ?_ _) | (with_reducible refine Kd.C_drew ?_))); (case side4 => exact (Kd.R_reads' HO_4.out).2.1); rintro e w' ⟨rfl, ⟨nd, rfl⟩⟩; refine ⟨_, rfl, ?_⟩))
             go_meet
             case rel => exact ⟨_, ((t356 != t327)), (by first | rfl | (simp; done) | (simp [*]; done)), H', ⟨by have := HJ10.out; have := HJ36.out; first | omega | exact Nat.le_refl _⟩, ⟨by (try simp only [hl333001_36]); (with_reducible repeat (first | apply Kd.R_alloc | apply Kd.R_drewN | apply Kd.R_drew)); exact Kd.R_mono HO_7.out (fun _ hk => trivial)⟩, ⟨by (try simp only [hl333001_36]); (with_reducible repeat (first | apply Kd.R_alloc | apply Kd.R_drewN | apply Kd.R_drew)); exact Kd.R_mono HO_333001.out (fun _ hk => trivial)⟩, ⟨by (try simp only [hl333001_36]); (with_reducible repeat (first | refine blk_drewN ?_ _ | refine blk_drew ?_ | refine blk_alloc ?_ _)); exact BK318.out⟩, ⟨by (try simp only [hl333001_36]); (with_reducible repeat (first | refine blk_drewN ?_ _ | refine blk_drew ?_ | refine blk_alloc ?_ _)); exact BK332.out⟩, ⟨upW HB⟩⟩
            ·replace c70 := Bool.eq_false_iff.mpr c70
             subst c70
             have H1 : (laws_FnExactCurrentsOf.j2 kj36 t347 t346 true) = some r := by rw [if_neg (show ¬ (false = true) by decide)] at H; exact H
             clear H
             have H := H1
             clear H1
             have H' := Aside0.mk H
             clear H
             obtain ⟨Ao73, co73, eo73⟩ := Kd.R_slice HO355.out
             subst eo73
             obtain ⟨Ao74, co74, eo74⟩ := Kd.R_slice HO_4.out
             subst eo74
             go_wp2_with (first | ((with_reducible refine gate_callee (f := 26) rfl ?_); refine goesL_ (some 81) rfl rfl Try.func26 (by kernel_rfl) rfl #[.slice Ao73 t353.length co73, .slice Ao74 t324.length co74] rfl itp ?_; (with_reducible refine (laws_eqIntS.calls kj36 _ _ t353 _ _ t324 false _ ?side1 ?side2 ?side3 ?side4 A69.out).mono ?_); (case side1 => repeat (first | exact (Kd.R_reads' HO355.out).2.2 | (with_reducible refine Kd.C_alloc ?_ _) | (with_reducible refine Kd.C_drewN ?_ _) | (with_reducible refine Kd.C_drew ?_))); (case side2 => exact (Kd.R_reads' HO355.out).2.1); (case side3 => repeat (first | exact (Kd.R_reads' HO_4.out).2.2 | (with_reducible refine Kd.C_alloc ?_ _) | (with_reducible refine Kd.C_drewN ?_ _) | (with_reducible refine Kd.C_drew ?_))); (case side4 => exact (Kd.R_reads' HO_4.out).2.1); rintro e w' ⟨rfl, ⟨nd, rfl⟩⟩; refine ⟨_, rfl, ?_⟩))
             go_meet
             case rel => exact ⟨_, (true), (by first | rfl | (simp; done) | (simp [*]; done)), H', ⟨by have := HJ10.out; have := HJ36.out; first | omega | exact Nat.le_refl _⟩, ⟨by (try simp only [hl333001_36]); (with_reducible repeat (first | apply Kd.R_alloc | apply Kd.R_drewN | apply Kd.R_drew)); exact Kd.R_mono HO_7.out (fun _ hk => trivial)⟩, ⟨by (try simp only [hl333001_36]); (with_reducible repeat (first | apply Kd.R_alloc | apply Kd.R_drewN | apply Kd.R_drew)); exact Kd.R_mono HO_333001.out (fun _ hk => trivial)⟩, ⟨by (try simp only [hl333001_36]); (with_reducible repeat (first | refine blk_drewN ?_ _ | refine blk_drew ?_ | refine blk_alloc ?_ _)); exact BK318.out⟩, ⟨by (try simp only [hl333001_36]); (with_reducible repeat (first | refine blk_drewN ?_ _ | refine blk_drew ?_ | refine blk_alloc ?_ _)); exact BK332.out⟩, ⟨upW HB⟩⟩
           case rest =>
            clear HC61
            try clear c1
            try clear c2
            try clear p2
            try clear c3
            try clear c3b0
            try clear c4
            try clear c5
            try clear c6
            try clear c7
            try clear c15
            try clear c17
            try clear c19
            try clear c22
            try clear c26
            try clear c27
            try clear c28
            try clear c29
            try clear c30
            try clear c31
            try clear c32
            try clear c35
            try clear c42
            try clear c45
            try clear c45b0
            try clear c47
            try clear c52
            try clear c55
            try clear c55b0
            try clear c58
            try clear c58b0
            try clear c58b1
            try clear c64
            try clear c70
            try clear hcz13_0
            try clear hcz13_1
            try clear hcz15_0
            try clear hcz15_1
            try clear hcz19_0
            try clear hcz19_1
            try clear hcz23_0
            try clear hcz23_1
            try clear hcz43_0
            try clear hcz43_1
            try clear hcz5_0
            try clear hcz5_1
            try clear hcz65_0
            try clear hcz65_1
            try clear hfz13_0
            try clear hfz13_1
            try clear hfz15_0
            try clear hfz15_1
            try clear hfz19_0
            try clear hfz19_1
            try clear hfz23_0
            try clear hfz23_1
            try clear hfz43_0
            try clear hfz43_1
            try clear hfz5_0
            try clear hfz5_1
            try clear hfz65_0
            try clear hfz65_1
            try clear p2
            obtain ⟨kq, x87_60, rfl, HA, HJ60, HO_7, HO_333001, BK318, BK332, HB⟩ := hcut
            have hl7_60 := (Kd.R_reads' HO_7.out).1
            rw [hl7_60] at HO_7
            (try simp only [hl7_60])
            (try simp only [hl7_60] at BK318)
            (try simp only [hl7_60] at BK332)
            (try simp only [hl7_60] at HO_333001)
            cases kq with
            | zero => exact absurd HA.out (by simp [laws_FnExactCurrentsOf.j2])
            | succ kj60 =>
             have H := HA.out
             clear HA
             simp only [laws_FnExactCurrentsOf.j2] at H
             by_cases c75 : x87_60 = true
             ·subst c75
              have H1 : (some false) = some r := by rw [if_pos rfl] at H; exact H
              clear H
              have H := H1
              clear H1
              obtain rfl := Option.some.inj H
              go_wp2
              go_ret
              exact ⟨by first | rfl | (simp [errW_none, errW_some] <;> rfl) | (simp [*, errW_none, errW_some] <;> rfl), by repeat (first | (with_reducible first | exact HB.out | apply below_alloc | apply pw_below_drewN | apply below_drew1 | refine below_set ?_ GE318.out | refine below_set ?_ GE332.out) | exact HB.out)⟩
             ·replace c75 := Bool.eq_false_iff.mpr c75
              subst c75
              have H1 : ((laws_heldIntS.f kj60 t347 1).bind fun t358 => (if t358 < 0 then (some false) else (if t358 = t346 then (some true) else (some false)))) = some r := by rw [if_neg (show ¬ (false = true) by decide)] at H; exact H
              clear H
              have H := H1
              clear H1
              replace H := Option.bind_eq_some_iff.mp H
              obtain ⟨t358, A760, H⟩ := H
              replace H : (if t358 < 0 then (some false) else (if t358 = t346 then (some true) else (some false))) = some r := H
              have A76 := Aside0.mk A760
              clear A760
              by_cases c77 : t358 < 0
              ·rw [if_pos c77] at H
               have c77b0 : decide (t358 < 0) = true := decide_eq_true c77
               clear c77
               obtain rfl := Option.some.inj H
               go_wp2_with (first | ((with_reducible refine gate_callee (f := 29) rfl ?_); refine goesL_ (some 90) rfl rfl Try.func29 (by kernel_rfl) rfl #[.slice Ao62 t347.length co62, .int .i64 1] rfl itp ?_; (with_reducible refine (laws_heldIntS.calls kj60 _ _ t347 1 t358 _ ?side1 ?side2 A76.out).mono ?_); (case side1 => repeat (first | exact (Kd.R_reads' HO_7.out).2.2 | (with_reducible refine Kd.C_alloc ?_ _) | (with_reducible refine Kd.C_drewN ?_ _) | (with_reducible refine Kd.C_drew ?_))); (case side2 => exact (Kd.R_reads' HO_7.out).2.1); rintro e w' ⟨rfl, ⟨nd, rfl⟩⟩; refine ⟨_, rfl, ?_⟩))
               go_ret
               exact ⟨by first | rfl | (simp [errW_none, errW_some] <;> rfl) | (simp [*, errW_none, errW_some] <;> rfl), by repeat (first | (with_reducible first | exact HB.out | apply below_alloc | apply pw_below_drewN | apply below_drew1 | refine below_set ?_ GE318.out | refine below_set ?_ GE332.out) | exact HB.out)⟩
              ·rw [if_neg c77] at H
               have c77b0 : decide (t358 < 0) = false := decide_eq_false c77
               clear c77
               by_cases c78 : t358 = t346
               ·rw [if_pos c78] at H
                have c78b0 : (t358 == t346) = true := beq_iff_eq.mpr c78
                have c78b1 : (t358 != t346) = false := bne_eq_false_iff_eq.mpr c78
                clear c78
                obtain rfl := Option.some.inj H
                go_wp2_with (first | ((with_reducible refine gate_callee (f := 29) rfl ?_); refine goesL_ (some 90) rfl rfl Try.func29 (by kernel_rfl) rfl #[.slice Ao62 t347.length co62, .int .i64 1] rfl itp ?_; (with_reducible refine (laws_heldIntS.calls kj60 _ _ t347 1 t358 _ ?side1 ?side2 A76.out).mono ?_); (case side1 => repeat (first | exact (Kd.R_reads' HO_7.out).2.2 | (with_reducible refine Kd.C_alloc ?_ _) | (with_reducible refine Kd.C_drewN ?_ _) | (with_reducible refine Kd.C_drew ?_))); (case side2 => exact (Kd.R_reads' HO_7.out).2.1); rintro e w' ⟨rfl, ⟨nd, rfl⟩⟩; refine ⟨_, rfl, ?_⟩))
                go_ret
                exact ⟨by first | rfl | (simp [errW_none, errW_some] <;> rfl) | (simp [*, errW_none, errW_some] <;> rfl), by repeat (first | (with_reducible first | exact HB.out | apply below_alloc | apply pw_below_drewN | apply below_drew1 | refine below_set ?_ GE318.out | refine below_set ?_ GE332.out) | exact HB.out)⟩
               ·rw [if_neg c78] at H
                have c78b0 : (t358 == t346) = false := beq_eq_false_iff_ne.mpr c78
                have c78b1 : (t358 != t346) = true := bne_iff_ne.mpr c78
                obtain rfl := Option.some.inj H
                go_wp2_with (first | ((with_reducible refine gate_callee (f := 29) rfl ?_); refine goesL_ (some 90) rfl rfl Try.func29 (by kernel_rfl) rfl #[.slice Ao62 t347.length co62, .int .i64 1] rfl itp ?_; (with_reducible refine (laws_heldIntS.calls kj60 _ _ t347 1 t358 _ ?side1 ?side2 A76.out).mono ?_); (case side1 => repeat (first | exact (Kd.R_reads' HO_7.out).2.2 | (with_reducible refine Kd.C_alloc ?_ _) | (with_reducible refine Kd.C_drewN ?_ _) | (with_reducible refine Kd.C_drew ?_))); (case side2 => exact (Kd.R_reads' HO_7.out).2.1); rintro e w' ⟨rfl, ⟨nd, rfl⟩⟩; refine ⟨_, rfl, ?_⟩))
                go_ret
                exact ⟨by first | rfl | (simp [errW_none, errW_some] <;> rfl) | (simp [*, errW_none, errW_some] <;> rfl), by repeat (first | (with_reducible first | exact HB.out | apply below_alloc | apply pw_below_drewN | apply below_drew1 | refine below_set ?_ GE318.out | refine below_set ?_ GE332.out) | exact HB.out)⟩
          ·rw [if_neg c58] at H
           have c58b0 : (t348 == t346) = false := beq_eq_false_iff_ne.mpr c58
           have c58b1 : (t348 != t346) = true := bne_iff_ne.mpr c58
           obtain rfl := Option.some.inj H
           obtain ⟨Ao79, co79, eo79⟩ := Kd.R_slice HO_7.out
           subst eo79
           go_wp2_with (first | ((with_reducible refine gate_callee (f := 28) rfl ?_); refine goesL_ (some 64) rfl rfl Try.func28 (by kernel_rfl) rfl #[.slice Ao79 t333.length co79, .int .i64 1] rfl itp ?_; (with_reducible refine (laws_markIntS.calls kj36 (fun k_ => some k_ = (.slice Ao79 t333.length co79 : Value).ownBlock) (.slice Ao79 t333.length co79) t333 1 t346 t347 w _ ?side1 ?side2 A53.out).mono ?_); (case side1 => repeat (first | (with_reducible first | exact HB.out | apply below_alloc | apply pw_below_drewN | apply below_drew1 | refine below_set ?_ GE318.out | refine below_set ?_ GE332.out) | exact HB.out)); (case side2 => exact Kd.R_tight rfl HO_7.out); rintro e w80 ⟨rfl, hy0, hb, hkp⟩; refine ⟨_, rfl, ?_⟩; have n0_ := Aside0.mk (Kd.R_mono (ok' := fun k_ => some k_ ≠ (.slice Ao79 t333.length co79 : Value).ownBlock) (Kd.R_keptB (HO_4.out) hkp (fun k_ hk_ hs_ => (hk_) hs_)) (fun k_ hk_ => hk_.1)); have n1_ := Aside0.mk (Kd.R_reok rfl hy0 (fun k_ e_ => HO_7.out.1 k_ e_)); have n2_ := Aside0.mk (Kd.R_mono (ok' := fun k_ => True) (Kd.R_keptB ((Kd.R_apart' HO_333001.out (Kd.R_typed HO_7.out) (by decide))) hkp (fun k_ hk_ hs_ => (hk_.2) hs_)) (fun k_ hk_ => trivial)); have n3_ := Aside0.mk (blk_kept (upK BK318) hkp (fun hs_ => (fun e_ => (Kd.R_ne HO_7.out BK318.out (by decide)) e_) hs_)); have n4_ := Aside0.mk (blk_kept (upK BK332) hkp (fun hs_ => (fun e_ => (Kd.R_ne HO_7.out BK332.out (by decide)) e_) hs_)); have n5_ := Aside0.mk (hb); clear HO_4; clear HO_7; clear HO_333001; clear BK318; clear BK332; clear HB; have HO_4 := n0_; have HO_7 := n1_; have HO_333001 := n2_; have BK318 := n3_; have BK332 := n4_; have HB := n5_; clear n0_ n1_ n2_ n3_ n4_ n5_; (try clear hb); (try clear hkp); (try clear hy0)) | ((with_reducible refine gate_callee (f := 29) rfl ?_); refine goesL_ (some 67) rfl rfl Try.func29 (by kernel_rfl) rfl #[.slice Ao79 t347.length co79, .int .i64 1] rfl (by (try simp only [List.map_toArray, List.map_cons, List.map_nil]); first | done | (rw [show t347.length = t333.length from (Kd.R_reads' HO_7.out).1.symm] <;> rfl) | rfl | (simp only [List.length_drop, List.length_take]; rfl)) ?_; (with_reducible refine (laws_heldIntS.calls kj36 _ _ t347 1 t348 _ ?side1 ?side2 A54.out).mono ?_); (case side1 => repeat (first | exact (Kd.R_reads' HO_7.out).2.2 | (with_reducible refine Kd.C_alloc ?_ _) | (with_reducible refine Kd.C_drewN ?_ _) | (with_reducible refine Kd.C_drew ?_))); (case side2 => rw [show t347.length = t333.length from (Kd.R_reads' HO_7.out).1.symm]; exact (Kd.R_reads' HO_7.out).2.1); rintro e w' ⟨rfl, ⟨nd, rfl⟩⟩; refine ⟨_, rfl, ?_⟩))
           go_ret
           exact ⟨by first | rfl | (simp [errW_none, errW_some] <;> rfl) | (simp [*, errW_none, errW_some] <;> rfl), by repeat (first | (with_reducible first | exact HB.out | apply below_alloc | apply pw_below_drewN | apply below_drew1 | refine below_set ?_ GE318.out | refine below_set ?_ GE332.out) | exact HB.out)⟩
     ·replace c35 := Bool.eq_false_iff.mpr c35
      subst c35
      have H1 : (some false) = some r := by rw [if_neg (show ¬ (false = true) by decide)] at H; exact H
      clear H
      have H := H1
      clear H1
      obtain rfl := Option.some.inj H
      try go_wp2
      have n0_ := Aside0.mk (Kd.R_drew HO_4.out)
      have n1_ := Aside0.mk (Kd.R_drew HO_7.out)
      have n2_ := Aside0.mk (Kd.R_drew HO_333001.out)
      have n3_ := Aside0.mk (blk_drew BK318.out)
      have n4_ := Aside0.mk (blk_drew BK332.out)
      have n5_ := Aside0.mk (below_drew1 HB.out)
      clear HO_4
      clear HO_7
      clear HO_333001
      clear BK318
      clear BK332
      clear HB
      have HO_4 := n0_
      have HO_7 := n1_
      have HO_333001 := n2_
      have BK318 := n3_
      have BK332 := n4_
      have HB := n5_
      clear n0_ n1_ n2_ n3_ n4_ n5_
      refine start_ (n := 5) (S := fun w' => w'.cell? ⟨gb332, 0, none⟩ = some (.int .i64 t328) ∧ w'.cell? ⟨gb332, 1, none⟩ = some (.slice Ao24 t329.length co24) ∧ w'.cell? ⟨gb318, 0, none⟩ = some (.int .i64 a0_0) ∧ w'.cell? ⟨gb318, 1, none⟩ = some (.slice A0_1 l0_1.length c0_1)) (ds := []) #[false, false, false, false, false] (by kernel_rfl) rfl rfl ⟨(blk_cell BK332.out 0).trans rfl, (blk_cell BK332.out 1).trans rfl, (blk_cell BK318.out 0).trans rfl, (blk_cell BK318.out 1).trans rfl⟩ (fun hHeld => ?_)
      generalize wc.drew = w81 at HO_4 HO_7 HO_333001 BK318 BK332 HB hHeld ⊢
      refine take_ (i := 0) (N := some 41) (v := ?_) (a' := ?_) #[true, false, false, false, false] rfl rfl (by kernel_rfl) (fun _ _ _ h => h) (Or.inl ⟨by rfl, ?_⟩) hHeld ?_ ?_
      rotate_left
      ·rintro w' ⟨s0, s1, s2, s3⟩
       go_simp
       with_reducible rfl
      rotate_left
      ·simp only [Act.put, List.setIfInBounds_toArray, List.set_cons_zero, List.set_cons_succ, i64_w, i32_w]
       rfl
      refine take_ (i := 1) (N := some 42) (v := ?_) (a' := ?_) #[true, true, false, false, false] rfl rfl (by kernel_rfl) (fun _ _ _ h => h) (Or.inl ⟨by rfl, ?_⟩) hHeld ?_ ?_
      rotate_left
      ·rintro w' ⟨s0, s1, s2, s3⟩
       go_simp
       with_reducible rfl
      rotate_left
      ·simp only [Act.put, List.setIfInBounds_toArray, List.set_cons_zero, List.set_cons_succ, i64_w, i32_w]
       rfl
      refine one_ (i := 2) (N := some 43) #[true, true, true, false, false] rfl rfl (by kernel_rfl) (by decide) (fun K hK => ?_)
      refine goes_ Try.func17 (by kernel_rfl) rfl #[.agg #[.int .i64 a0_0, .slice A0_1 l0_1.length c0_1]] (by rfl) rfl rfl itp ?_
      with_reducible refine (laws_toNet.calls kj10 a0_0 _ _ l0_1 t338 t339 _ ?side1 ?side2 A33.out).mono ?_
      (case side1 => repeat (first | exact (Kd.C_below HR0_1.out HB.out) | (with_reducible refine Kd.C_alloc ?_ _) | (with_reducible refine Kd.C_drewN ?_ _) | (with_reducible refine Kd.C_drew ?_)))
      (case side2 => exact HC0_1.out)
      rintro e w82 ⟨v340, rfl, ho0, hb⟩
      refine ⟨_, rfl, ?_⟩
      have n0_ := Aside0.mk (Kd.R_below (upR HO_4) hb)
      have n1_ := Aside0.mk (Kd.R_below (upR HO_7) hb)
      have n2_ := Aside0.mk (Kd.R_elder' (upR HO_333001) (Kd.R_base ho0) hb)
      have n3_ := Aside0.mk (Kd.R_lower (Kd.R_new' ho0 (Kd.R_lt (upR HO_333001))) (below_size (upW HB)))
      have n4_ := Aside0.mk (blk_below (upK BK318) hb)
      have n5_ := Aside0.mk (blk_below (upK BK332) hb)
      have n6_ := Aside0.mk (below_step (upW HB) hb)
      clear HO_4
      clear HO_7
      clear HO_333001
      clear BK318
      clear BK332
      clear HB
      have HO_4 := n0_
      have HO_7 := n1_
      have HO_333001 := n2_
      have HO341 := n3_
      have BK318 := n4_
      have BK332 := n5_
      have HB := n6_
      clear n0_ n1_ n2_ n3_ n4_ n5_ n6_
      (try clear hb)
      (try clear hb2)
      (try clear hk)
      (try clear hi)
      (try clear ho0)
      obtain ⟨Ao83, co83, eo83⟩ := Kd.R_slice HO341.out
      (first | subst eo83 | (injection eo83 with f1_ f2_ f3_; have f4_ := f1_.symm; have f5_ := f3_.symm; clear f1_ f2_ f3_; subst f4_; subst f5_))
      refine hK.out _ _ ⟨(blk_cell BK332.out 0).trans rfl, (blk_cell BK332.out 1).trans rfl, (blk_cell BK318.out 0).trans rfl, (blk_cell BK318.out 1).trans rfl⟩ (fun hHeld => ?_)
      clear hK K
      refine norm_ (a' := ?_) ?_ ?_
      rotate_left
      ·show Act.put _ (some 43) _ = _
       simp only [Act.put, List.setIfInBounds_toArray, List.set_cons_zero, List.set_cons_succ, i64_w, i32_w]
       rfl
      refine one_ (i := 3) (N := some 44) #[true, true, true, true, false] rfl rfl (by kernel_rfl) (by decide) (fun K hK => ?_)
      refine goes_ Try.func19 (by kernel_rfl) rfl #[.agg #[.int .i64 t328, .slice Ao24 t329.length co24], .agg #[.int .i64 t338, .slice Ao83 t339.length co83]] (by rfl) rfl rfl itp ?_
      with_reducible refine (laws_eqNet.calls kj10 t328 _ _ t329 t338 _ _ t339 false _ ?side1 ?side2 ?side3 ?side4 A34.out).mono ?_
      (case side1 => repeat (first | exact (Kd.R_reads' HO_333001.out).2.2 | (with_reducible refine Kd.C_alloc ?_ _) | (with_reducible refine Kd.C_drewN ?_ _) | (with_reducible refine Kd.C_drew ?_)))
      (case side2 => exact (Kd.R_reads' HO_333001.out).2.1)
      (case side3 => repeat (first | exact (Kd.R_reads' HO341.out).2.2 | (with_reducible refine Kd.C_alloc ?_ _) | (with_reducible refine Kd.C_drewN ?_ _) | (with_reducible refine Kd.C_drew ?_)))
      (case side4 => exact (Kd.R_reads' HO341.out).2.1)
      rintro e w84 ⟨rfl, hb⟩
      refine ⟨_, rfl, ?_⟩
      have n0_ := Aside0.mk (Kd.R_below (upR HO_4) hb)
      have n1_ := Aside0.mk (Kd.R_below (upR HO_7) hb)
      have n2_ := Aside0.mk (Kd.R_below (upR HO_333001) hb)
      have n3_ := Aside0.mk (Kd.R_below (upR HO341) hb)
      have n4_ := Aside0.mk (blk_below (upK BK318) hb)
      have n5_ := Aside0.mk (blk_below (upK BK332) hb)
      have n6_ := Aside0.mk (below_step (upW HB) hb)
      clear HO_4
      clear HO_7
      clear HO_333001
      clear HO341
      clear BK318
      clear BK332
      clear HB
      have HO_4 := n0_
      have HO_7 := n1_
      have HO_333001 := n2_
      have HO341 := n3_
      have BK318 := n4_
      have BK332 := n5_
      have HB := n6_
      clear n0_ n1_ n2_ n3_ n4_ n5_ n6_
      (try clear hb)
      (try clear hb2)
      (try clear hk)
      (try clear hi)
      refine hK.out _ _ ⟨(blk_cell BK332.out 0).trans rfl, (blk_cell BK332.out 1).trans rfl, (blk_cell BK318.out 0).trans rfl, (blk_cell BK318.out 1).trans rfl⟩ (fun hHeld => ?_)
      clear hK K
      refine norm_ (a' := ?_) ?_ ?_
      rotate_left
      ·show Act.put _ (some 44) _ = _
       simp only [Act.put, List.setIfInBounds_toArray, List.set_cons_zero, List.set_cons_succ, i64_w, i32_w]
       rfl
      refine pure_ (i := 4) (N := some 45) (v := ?_) (a' := ?_) #[true, true, true, true, true] rfl rfl (by kernel_rfl) (fun _ _ _ h => h) (Or.inl ⟨by rfl, ?_⟩) ?_ ?_
      rotate_left
      ·intro w'
       go_simp
       with_reducible rfl
      rotate_left
      ·simp only [Act.put, List.setIfInBounds_toArray, List.set_cons_zero, List.set_cons_succ, i64_w, i32_w]
       rfl
      refine done_ (by kernel_rfl) ?_
      try go_wp2
      go_ret
      exact ⟨by first | rfl | (simp [errW_none, errW_some] <;> rfl) | (simp [*, errW_none, errW_some] <;> rfl), by repeat (first | (with_reducible first | exact HB.out | apply below_alloc | apply pw_below_drewN | apply below_drew1 | refine below_set ?_ GE318.out | refine below_set ?_ GE332.out) | exact HB.out)⟩

/-- THE ONE PURE STATEMENT of laws_FnExactCurrentsOf. -/
def laws_FnExactCurrentsOf.Pure : Prop := ∀ (a0_0 : Int) (l0_1 : List (S94)), (Lit.int .i64 a0_0).wf = true → l0_1.length ≤ maxLen → (∀ q ∈ l0_1, ((Lit.int .i64 q.f0).wf = true) ∧ ((Lit.int .i64 q.f1).wf = true)) → ∃ k, laws_FnExactCurrentsOf.f k a0_0 l0_1 = some true
theorem laws_FnExactCurrentsOf.walk (P : laws_FnExactCurrentsOf.Pure) (a0_0 : Int) (A0_1 : Option Addr) (c0_1 : Nat) (l0_1 : List (S94)) (w : World) (hr0_1 : Kd.C k94 w A0_1 l0_1.length l0_1) (hc0_1 : l0_1.length ≤ c0_1) (w0_ : (Lit.int .i64 a0_0).wf = true) (w1_ : l0_1.length ≤ maxLen) (w2_ : (∀ q ∈ l0_1, ((Lit.int .i64 q.f0).wf = true) ∧ ((Lit.int .i64 q.f1).wf = true))) :
  Calls Try.prog 7 #[.agg #[.int .i64 a0_0, .slice A0_1 l0_1.length c0_1]] w fun e w' => e = .returned (.bool true) ∧ Below w.heap.size w w' := by
 obtain ⟨k, h⟩ := P a0_0 l0_1 w0_ w1_ w2_
 refine (laws_FnExactCurrentsOf.calls k a0_0 _ _ l0_1 true w hr0_1 hc0_1 h).mono ?_
 rintro e w' ⟨rfl, hd⟩
 exact ⟨rfl, hd⟩

end Go.Proofs.Ytngbmjldnfljiaa.PFnExactCurrentsOf
