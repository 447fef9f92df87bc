-- made for this claim by a program of this session
import Derived.Test.YtngbmjldnfljiaaPFnExactGrowCutx0
import Derived.Test.YtngbmjldnfljiaaPFnExactGrowCutx1
import Derived.Test.YtngbmjldnfljiaaPFnExactGrowCutx2
import Derived.Test.YtngbmjldnfljiaaPFnExactGrowCutx5
import Derived.Test.YtngbmjldnfljiaaPFnExactGrowCutx7
namespace Go.Proofs.Ytngbmjldnfljiaa.PFnExactGrowCut
open Go.RowKit Go.Proofs.YtngbmjldnfljiaaW.PrintWords Go.Proofs.YtngbmjldnfljiaaW.PrintLast Go.Proofs.YtngbmjldnfljiaaW.PrintMore
attribute [local go_sem] max2_int min2_int max_two min_two max_three min_three max_four min_four   -- for this text's walks alone
set_option linter.unusedVariables false
set_option linter.unusedSimpArgs false

/-! ### laws_FnExactGrowCut: function 12 -/
mutual
def laws_FnExactGrowCut.j0 : Nat → Int → Bool → Bool → Bool → Int → Int → List (S102) → Int → Int → List (S83) → Int → Int → List (S83) → Int → Int → List (S83) → Option (Bool)
 | 0, _, _, _, _, _, _, _, _, _, _, _, _, _, _, _, _ => none
 | k + 1, x1, x7, x10, x44, x298000, x298001, x298002, x311000, x311001, x311002, x317000, x317001, x317002, x324000, x324001, x324002 => if x44 = true then (some false) else ((laws_toCut.f k x298000 x298001 x298002).bind fun bt325 => ((laws_eqCut.f k x317000 x317001 x317002 bt325.1 bt325.2.1 bt325.2.2).bind fun t330 => (if t330 = true then ((laws_markCut.f k x317000 x317001 x317002 1).bind fun bt331 => (if bt331.1 < 0 then (laws_FnExactGrowCut.j1 k x1 x7 true x298000 x298001 x298002 x311000 x311001 x311002 x324000 x324001 x324002) else ((laws_eqCut.f k x324000 x324001 x324002 x311000 x311001 x311002).bind fun t333 => (if t333 = true then (laws_FnExactGrowCut.j1 k x1 x7 (x10 != x7) x298000 x298001 x298002 x311000 x311001 x311002 x324000 x324001 x324002) else (laws_FnExactGrowCut.j1 k x1 x7 true x298000 x298001 x298002 x311000 x311001 x311002 x324000 x324001 x324002))))) else (some false))))
def laws_FnExactGrowCut.j1 : Nat → Int → Bool → Bool → Int → Int → List (S102) → Int → Int → List (S83) → Int → Int → List (S83) → Option (Bool)
 | 0, _, _, _, _, _, _, _, _, _, _, _, _ => none
 | k + 1, x1, x7, x65, x298000, x298001, x298002, x311000, x311001, x311002, x324000, x324001, x324002 => if x65 = true then (some false) else ((laws_markCut.f k x324000 x324001 x324002 1).bind fun bt334 => ((laws_heldCut.f k x324000 x324001 bt334.2 1).bind fun t336 => (if t336 < 0 then (some false) else (if t336 = bt334.1 then ((laws_toCut.f k x298000 x298001 x298002).bind fun bt337 => ((impl_GrowCut.f k bt337.1 bt337.2.1 bt337.2.2 x1).bind fun bt342 => ((laws_eqCut.f k bt342.1 bt342.2.1 bt342.2.2.1 x311000 x311001 x311002).bind fun t349 => (if t349 = true then (laws_FnExactGrowCut.j2 k bt334.1 (bt342.2.2.2 != x7) x324000 x324001 bt334.2) else (laws_FnExactGrowCut.j2 k bt334.1 true x324000 x324001 bt334.2))))) else (some false)))))
def laws_FnExactGrowCut.j2 : Nat → Int → Bool → Int → Int → List (S83) → Option (Bool)
 | 0, _, _, _, _, _ => none
 | k + 1, x12, x92, x324000, x324001, x324002 => if x92 = true then (some false) else ((laws_heldCut.f k x324000 x324001 x324002 1).bind fun t350 => (if t350 < 0 then (some false) else (if t350 = x12 then (some true) else (some false))))
end
def laws_FnExactGrowCut.f (k : Nat) (a0_0 : Int) (a0_1 : Int) (l0_2 : List (S102)) (a1 : Int) : Option (Bool) := (laws_szCut.f a0_0 a0_1 l0_2 1048576).bind fun t298 => (if t298 < 0 then (some true) else ((laws_toCut.f k a0_0 a0_1 l0_2).bind fun bt299 => ((spec_GrowCut.f k bt299.1 bt299.2.1 bt299.2.2 a1).bind fun bt304 => ((laws_toCut.f k a0_0 a0_1 l0_2).bind fun bt311 => ((impl_GrowCut.f k bt311.1 bt311.2.1 bt311.2.2 a1).bind fun bt317 => ((laws_eqCut.f k bt317.1 bt317.2.1 bt317.2.2.1 bt304.1 bt304.2.1 bt304.2.2.1).bind fun t324 => (if t324 = true then (laws_FnExactGrowCut.j0 k a1 bt304.2.2.2 bt317.2.2.2 (bt317.2.2.2 != bt304.2.2.2) a0_0 a0_1 l0_2 bt304.1 bt304.2.1 bt304.2.2.1 bt311.1 bt311.2.1 bt311.2.2 bt317.1 bt317.2.1 bt317.2.2.1) else (laws_FnExactGrowCut.j0 k a1 bt304.2.2.2 bt317.2.2.2 true a0_0 a0_1 l0_2 bt304.1 bt304.2.1 bt304.2.2.1 bt311.1 bt311.2.1 bt311.2.2 bt317.1 bt317.2.1 bt317.2.2.1))))))))
set_option maxHeartbeats 8000000 in
set_option maxRecDepth 100000 in
theorem laws_FnExactGrowCut.calls (k : Nat) (a0_0 : Int) (a0_1 : Int) (A0_2 : Option Addr) (c0_2 : Nat) (l0_2 : List (S102)) (a1 : Int) (r : Bool) (w : World) (hr0_2 : Kd.C k102 w A0_2 l0_2.length l0_2) (hc0_2 : l0_2.length ≤ c0_2) (h : laws_FnExactGrowCut.f k a0_0 a0_1 l0_2 a1 = some r) :
  Calls Try.prog 12 #[.agg #[.int .i64 a0_0, .int .i64 a0_1, .slice A0_2 l0_2.length c0_2], .int .i64 a1] w fun e w' => e = .returned (.bool r) ∧ Below w.heap.size w w' := by
 have hu44 := Try.underlying44
 have hu48 := Try.underlying48
 have HR0_2 := Aside0.mk hr0_2
 have HC0_2 := Aside0.mk hc0_2
 clear hr0_2 hc0_2
 have HB := Aside0.mk (Below.refl w.heap.size w)
 have H : ((laws_szCut.f a0_0 a0_1 l0_2 1048576).bind fun t298 => (if t298 < 0 then (some true) else ((laws_toCut.f k a0_0 a0_1 l0_2).bind fun bt299 => ((spec_GrowCut.f k bt299.1 bt299.2.1 bt299.2.2 a1).bind fun bt304 => ((laws_toCut.f k a0_0 a0_1 l0_2).bind fun bt311 => ((impl_GrowCut.f k bt311.1 bt311.2.1 bt311.2.2 a1).bind fun bt317 => ((laws_eqCut.f k bt317.1 bt317.2.1 bt317.2.2.1 bt304.1 bt304.2.1 bt304.2.2.1).bind fun t324 => (if t324 = true then (laws_FnExactGrowCut.j0 k a1 bt304.2.2.2 bt317.2.2.2 (bt317.2.2.2 != bt304.2.2.2) a0_0 a0_1 l0_2 bt304.1 bt304.2.1 bt304.2.2.1 bt311.1 bt311.2.1 bt311.2.2 bt317.1 bt317.2.1 bt317.2.2.1) else (laws_FnExactGrowCut.j0 k a1 bt304.2.2.2 bt317.2.2.2 true a0_0 a0_1 l0_2 bt304.1 bt304.2.1 bt304.2.2.1 bt311.1 bt311.2.1 bt311.2.2 bt317.1 bt317.2.1 bt317.2.2.1))))))))) = some r := h
 clear h
 replace H := Option.bind_eq_some_iff.mp H
 obtain ⟨t298, A30, H⟩ := H
 replace H : (if t298 < 0 then (some true) else ((laws_toCut.f k a0_0 a0_1 l0_2).bind fun bt299 => ((spec_GrowCut.f k bt299.1 bt299.2.1 bt299.2.2 a1).bind fun bt304 => ((laws_toCut.f k a0_0 a0_1 l0_2).bind fun bt311 => ((impl_GrowCut.f k bt311.1 bt311.2.1 bt311.2.2 a1).bind fun bt317 => ((laws_eqCut.f k bt317.1 bt317.2.1 bt317.2.2.1 bt304.1 bt304.2.1 bt304.2.2.1).bind fun t324 => (if t324 = true then (laws_FnExactGrowCut.j0 k a1 bt304.2.2.2 bt317.2.2.2 (bt317.2.2.2 != bt304.2.2.2) a0_0 a0_1 l0_2 bt304.1 bt304.2.1 bt304.2.2.1 bt311.1 bt311.2.1 bt311.2.2 bt317.1 bt317.2.1 bt317.2.2.1) else (laws_FnExactGrowCut.j0 k a1 bt304.2.2.2 bt317.2.2.2 true a0_0 a0_1 l0_2 bt304.1 bt304.2.1 bt304.2.2.1 bt311.1 bt311.2.1 bt311.2.2 bt317.1 bt317.2.1 bt317.2.2.1)))))))) = some r := H
 have A3 := Aside0.mk A30
 clear A30
 by_cases c4 : t298 < 0
 ·rw [if_pos c4] at H
  have c4b0 : decide (t298 < 0) = true := decide_eq_true c4
  clear c4
  obtain rfl := Option.some.inj H
  go_enter Try.func12, Try.ntmps12
  go_wp2_with (first | ((with_reducible refine gate_dst (N := 2) rfl ?_); refine box_event ?hg (N := 2) ?hd (cs := #[.int .i64 a0_0, .int .i64 a0_1, .slice A0_2 l0_2.length c0_2]) (t := 44) ?hr ?_; (case hd => rfl); (case hg => rfl); (case hr => first | (go_simp; done) | (go_simp; rfl)); intro gb297 hg w5 hbox hb; have n0_ := Aside0.mk (below_step (upW HB) hb); have n1_ := Aside0.mk (hbox); have n2_ := Aside0.mk ((by rw [hg]; exact (below_size (upW HB)) : w.heap.size ≤ gb297)); have n3_ := Aside0.mk ((by rw [hg]; exact (below_size (upW HB)) : w.heap.size ≤ gb297)); clear HB; have HB := n0_; have BK297 := n1_; have GW297 := n2_; have GE297 := n3_; clear n0_ n1_ n2_ n3_; clear hb hbox hg; have hcz6_0 : w5.cell? ⟨gb297, 0, none⟩ = some (.int .i64 a0_0) := (blk_cell BK297.out 0).trans rfl; have hcz6_1 : w5.cell? ⟨gb297, 1, none⟩ = some (.int .i64 a0_1) := (blk_cell BK297.out 1).trans rfl; have hcz6_2 : w5.cell? ⟨gb297, 2, none⟩ = some (.slice A0_2 l0_2.length c0_2) := (blk_cell BK297.out 2).trans rfl; have hfz6_0 := blk_frozen BK297.out 0; have hfz6_1 := blk_frozen BK297.out 1; have hfz6_2 := blk_frozen BK297.out 2) | ((with_reducible refine gate_callee (f := 34) rfl ?_); refine goesL_ (some 18) rfl rfl Try.func34 (by kernel_rfl) rfl #[.agg #[.int .i64 a0_0, .int .i64 a0_1, .slice A0_2 l0_2.length c0_2], .int .i64 1048576] rfl itp ?_; (with_reducible refine (laws_szCut.calls a0_0 a0_1 _ _ l0_2 1048576 t298 _ ?side1 ?side2 A3.out).mono ?_); (case side1 => repeat (first | exact (Kd.C_below HR0_2.out HB.out) | (with_reducible refine Kd.C_alloc ?_ _) | (with_reducible refine Kd.C_drewN ?_ _) | (with_reducible refine Kd.C_drew ?_))); (case side2 => exact HC0_2.out); rintro e w7 ⟨rfl, hb⟩; refine ⟨_, rfl, ?_⟩; have n0_ := Aside0.mk (blk_below (upK BK297) hb); have n1_ := Aside0.mk (below_step (upW HB) hb); clear BK297; clear HB; have BK297 := n0_; have HB := n1_; clear n0_ n1_; (try clear hb); (try clear hb2); (try clear hk); (try clear hi)))
  go_ret
  exact ⟨by first | rfl | (simp [errW_none, errW_some] <;> rfl) | (simp [*, errW_none, errW_some] <;> rfl), by repeat (first | (with_reducible first | exact HB.out | apply below_alloc | apply pw_below_drewN | apply below_drew1 | refine below_set ?_ GE297.out) | exact HB.out)⟩
 ·rw [if_neg c4] at H
  have c4b0 : decide (t298 < 0) = false := decide_eq_false c4
  clear c4
  replace H := Option.bind_eq_some_iff.mp H
  obtain ⟨⟨t299, t300, t301⟩, A80, H⟩ := H
  replace H : ((spec_GrowCut.f k t299 t300 t301 a1).bind fun bt304 => ((laws_toCut.f k a0_0 a0_1 l0_2).bind fun bt311 => ((impl_GrowCut.f k bt311.1 bt311.2.1 bt311.2.2 a1).bind fun bt317 => ((laws_eqCut.f k bt317.1 bt317.2.1 bt317.2.2.1 bt304.1 bt304.2.1 bt304.2.2.1).bind fun t324 => (if t324 = true then (laws_FnExactGrowCut.j0 k a1 bt304.2.2.2 bt317.2.2.2 (bt317.2.2.2 != bt304.2.2.2) a0_0 a0_1 l0_2 bt304.1 bt304.2.1 bt304.2.2.1 bt311.1 bt311.2.1 bt311.2.2 bt317.1 bt317.2.1 bt317.2.2.1) else (laws_FnExactGrowCut.j0 k a1 bt304.2.2.2 bt317.2.2.2 true a0_0 a0_1 l0_2 bt304.1 bt304.2.1 bt304.2.2.1 bt311.1 bt311.2.1 bt311.2.2 bt317.1 bt317.2.1 bt317.2.2.1)))))) = some r := H
  have A8 := Aside0.mk A80
  clear A80
  replace H := Option.bind_eq_some_iff.mp H
  obtain ⟨⟨t304, t305, t306, t309⟩, A90, H⟩ := H
  replace H : ((laws_toCut.f k a0_0 a0_1 l0_2).bind fun bt311 => ((impl_GrowCut.f k bt311.1 bt311.2.1 bt311.2.2 a1).bind fun bt317 => ((laws_eqCut.f k bt317.1 bt317.2.1 bt317.2.2.1 t304 t305 t306).bind fun t324 => (if t324 = true then (laws_FnExactGrowCut.j0 k a1 t309 bt317.2.2.2 (bt317.2.2.2 != t309) a0_0 a0_1 l0_2 t304 t305 t306 bt311.1 bt311.2.1 bt311.2.2 bt317.1 bt317.2.1 bt317.2.2.1) else (laws_FnExactGrowCut.j0 k a1 t309 bt317.2.2.2 true a0_0 a0_1 l0_2 t304 t305 t306 bt311.1 bt311.2.1 bt311.2.2 bt317.1 bt317.2.1 bt317.2.2.1))))) = some r := H
  have A9 := Aside0.mk A90
  clear A90
  replace H := Option.bind_eq_some_iff.mp H
  obtain ⟨⟨t311, t312, t313⟩, A100, H⟩ := H
  replace H : ((impl_GrowCut.f k t311 t312 t313 a1).bind fun bt317 => ((laws_eqCut.f k bt317.1 bt317.2.1 bt317.2.2.1 t304 t305 t306).bind fun t324 => (if t324 = true then (laws_FnExactGrowCut.j0 k a1 t309 bt317.2.2.2 (bt317.2.2.2 != t309) a0_0 a0_1 l0_2 t304 t305 t306 t311 t312 t313 bt317.1 bt317.2.1 bt317.2.2.1) else (laws_FnExactGrowCut.j0 k a1 t309 bt317.2.2.2 true a0_0 a0_1 l0_2 t304 t305 t306 t311 t312 t313 bt317.1 bt317.2.1 bt317.2.2.1)))) = some r := H
  have A10 := Aside0.mk A100
  clear A100
  replace H := Option.bind_eq_some_iff.mp H
  obtain ⟨⟨t317, t318, t319, t322⟩, A110, H⟩ := H
  replace H : ((laws_eqCut.f k t317 t318 t319 t304 t305 t306).bind fun t324 => (if t324 = true then (laws_FnExactGrowCut.j0 k a1 t309 t322 (t322 != t309) a0_0 a0_1 l0_2 t304 t305 t306 t311 t312 t313 t317 t318 t319) else (laws_FnExactGrowCut.j0 k a1 t309 t322 true a0_0 a0_1 l0_2 t304 t305 t306 t311 t312 t313 t317 t318 t319))) = some r := H
  have A11 := Aside0.mk A110
  clear A110
  have HC12 := Aside0.mk H
  clear H
  go_enter Try.func12, Try.ntmps12
  go_upto_region 8 with (first | ((with_reducible refine gate_dst (N := 2) rfl ?_); refine box_event ?hg (N := 2) ?hd (cs := #[.int .i64 a0_0, .int .i64 a0_1, .slice A0_2 l0_2.length c0_2]) (t := 44) ?hr ?_; (case hd => rfl); (case hg => rfl); (case hr => first | (go_simp; done) | (go_simp; rfl)); intro gb297 hg w13 hbox hb; have n0_ := Aside0.mk (below_step (upW HB) hb); have n1_ := Aside0.mk (hbox); have n2_ := Aside0.mk ((by rw [hg]; exact (below_size (upW HB)) : w.heap.size ≤ gb297)); have n3_ := Aside0.mk ((by rw [hg]; exact (below_size (upW HB)) : w.heap.size ≤ gb297)); clear HB; have HB := n0_; have BK297 := n1_; have GW297 := n2_; have GE297 := n3_; clear n0_ n1_ n2_ n3_; clear hb hbox hg; have hcz14_0 : w13.cell? ⟨gb297, 0, none⟩ = some (.int .i64 a0_0) := (blk_cell BK297.out 0).trans rfl; have hcz14_1 : w13.cell? ⟨gb297, 1, none⟩ = some (.int .i64 a0_1) := (blk_cell BK297.out 1).trans rfl; have hcz14_2 : w13.cell? ⟨gb297, 2, none⟩ = some (.slice A0_2 l0_2.length c0_2) := (blk_cell BK297.out 2).trans rfl; have hfz14_0 := blk_frozen BK297.out 0; have hfz14_1 := blk_frozen BK297.out 1; have hfz14_2 := blk_frozen BK297.out 2) | ((with_reducible refine gate_callee (f := 34) rfl ?_); refine goesL_ (some 18) rfl rfl Try.func34 (by kernel_rfl) rfl #[.agg #[.int .i64 a0_0, .int .i64 a0_1, .slice A0_2 l0_2.length c0_2], .int .i64 1048576] rfl itp ?_; (with_reducible refine (laws_szCut.calls a0_0 a0_1 _ _ l0_2 1048576 t298 _ ?side1 ?side2 A3.out).mono ?_); (case side1 => repeat (first | exact (Kd.C_below HR0_2.out HB.out) | (with_reducible refine Kd.C_alloc ?_ _) | (with_reducible refine Kd.C_drewN ?_ _) | (with_reducible refine Kd.C_drew ?_))); (case side2 => exact HC0_2.out); rintro e w15 ⟨rfl, hb⟩; refine ⟨_, rfl, ?_⟩; have n0_ := Aside0.mk (blk_below (upK BK297) hb); have n1_ := Aside0.mk (below_step (upW HB) hb); clear BK297; clear HB; have BK297 := n0_; have HB := n1_; clear n0_ n1_; (try clear hb); (try clear hb2); (try clear hk); (try clear hi); have hcz16_0 : w15.cell? ⟨gb297, 0, none⟩ = some (.int .i64 a0_0) := (blk_cell BK297.out 0).trans rfl; have hcz16_1 : w15.cell? ⟨gb297, 1, none⟩ = some (.int .i64 a0_1) := (blk_cell BK297.out 1).trans rfl; have hcz16_2 : w15.cell? ⟨gb297, 2, none⟩ = some (.slice A0_2 l0_2.length c0_2) := (blk_cell BK297.out 2).trans rfl; have hfz16_0 := blk_frozen BK297.out 0; have hfz16_1 := blk_frozen BK297.out 1; have hfz16_2 := blk_frozen BK297.out 2) | ((with_reducible refine gate_callee (f := 36) rfl ?_); refine goesL_ (some 23) rfl rfl Try.func36 (by kernel_rfl) rfl #[.agg #[.int .i64 a0_0, .int .i64 a0_1, .slice A0_2 l0_2.length c0_2]] rfl itp ?_; (with_reducible refine (laws_toCut.calls k a0_0 a0_1 _ _ l0_2 t299 t300 t301 _ ?side1 ?side2 A8.out).mono ?_); (case side1 => repeat (first | exact (Kd.C_below HR0_2.out HB.out) | (with_reducible refine Kd.C_alloc ?_ _) | (with_reducible refine Kd.C_drewN ?_ _) | (with_reducible refine Kd.C_drew ?_))); (case side2 => exact HC0_2.out); rintro e w17 ⟨v302, rfl, ho0, hb⟩; refine ⟨_, rfl, ?_⟩; have n0_ := Aside0.mk (Kd.R_lower ho0 (below_size (upW HB))); have n1_ := Aside0.mk (blk_below (upK BK297) hb); have n2_ := Aside0.mk (below_step (upW HB) hb); clear BK297; clear HB; have HO303 := n0_; have BK297 := n1_; have HB := n2_; clear n0_ n1_ n2_; (try clear hb); (try clear hb2); (try clear hk); (try clear hi); (try clear ho0); obtain ⟨Ao18, co18, eo18⟩ := Kd.R_slice HO303.out; subst eo18) | ((with_reducible refine gate_callee (f := 45) rfl ?_); refine goesL_ (some 25) rfl rfl Try.func45 (by kernel_rfl) rfl #[.agg #[.int .i64 t299, .int .i64 t300, .slice Ao18 t301.length co18], .int .i64 a1] rfl itp ?_; (with_reducible refine (spec_GrowCut.calls k t299 t300 _ _ t301 a1 t304 t305 t306 t309 _ ?side1 ?side2 A9.out).mono ?_); (case side1 => repeat (first | exact (Kd.R_reads' HO303.out).2.2 | (with_reducible refine Kd.C_alloc ?_ _) | (with_reducible refine Kd.C_drewN ?_ _) | (with_reducible refine Kd.C_drew ?_))); (case side2 => exact (Kd.R_reads' HO303.out).2.1); rintro e w19 ⟨v307, rfl, ho0, hb⟩; refine ⟨_, rfl, ?_⟩; have n0_ := Aside0.mk (Kd.R_elder' (upR HO303) (Kd.R_base ho0) hb); have n1_ := Aside0.mk (Kd.R_lower (Kd.R_new' ho0 (Kd.R_lt (upR HO303))) (below_size (upW HB))); have n2_ := Aside0.mk (blk_below (upK BK297) hb); have n3_ := Aside0.mk (below_step (upW HB) hb); clear HO303; clear BK297; clear HB; have HO303 := n0_; have HO308 := n1_; have BK297 := n2_; have HB := n3_; clear n0_ n1_ n2_ n3_; (try clear hb); (try clear hb2); (try clear hk); (try clear hi); (try clear ho0)) | ((with_reducible refine gate_dst (N := 6) rfl ?_); refine box_event ?hg (N := 6) ?hd (cs := #[.int .i64 0, .int .i64 0, .slice none 0 0]) (t := 48) ?hr ?_; (case hd => rfl); (case hg => rfl); (case hr => first | (go_simp; done) | (go_simp; rfl)); intro gb310 hg w20 hbox hb; have n0_ := Aside0.mk (Kd.R_below (upR HO303) hb); have n1_ := Aside0.mk (Kd.R_below (upR HO308) hb); have n2_ := Aside0.mk (blk_below (upK BK297) hb); have n3_ := Aside0.mk (below_step (upW HB) hb); have n4_ := Aside0.mk (hbox); have n5_ := Aside0.mk ((by rw [hg]; exact (below_size (upW HB)) : w.heap.size ≤ gb310)); have n6_ := Aside0.mk ((by rw [hg]; exact (below_size (upW HB)) : w.heap.size ≤ gb310)); have n7_ := Aside0.mk ((by rw [hg]; exact Nat.ne_of_lt (blk_lt (upK BK297)) : gb297 ≠ gb310)); have n8_ := Aside0.mk ((by rw [hg]; exact Nat.ne_of_gt (blk_lt (upK BK297)) : gb310 ≠ gb297)); clear HO303; clear HO308; clear BK297; clear HB; have HO303 := n0_; have HO308 := n1_; have BK297 := n2_; have HB := n3_; have BK310 := n4_; have GW310 := n5_; have GE310 := n6_; have NB297_310 := n7_; have NB310_297 := n8_; clear n0_ n1_ n2_ n3_ n4_ n5_ n6_ n7_ n8_; clear hb hbox hg; have hnb21 := NB310_297.out; have hnc21 := NB297_310.out; have hcz22_0 : w20.cell? ⟨gb310, 0, none⟩ = some (.int .i64 0) := (blk_cell BK310.out 0).trans rfl; have hcz22_1 : w20.cell? ⟨gb310, 1, none⟩ = some (.int .i64 0) := (blk_cell BK310.out 1).trans rfl; have hcz22_2 : w20.cell? ⟨gb310, 2, none⟩ = some (.slice none 0 0) := (blk_cell BK310.out 2).trans rfl; have hfz22_0 := blk_frozen BK310.out 0; have hfz22_1 := blk_frozen BK310.out 1; have hfz22_2 := blk_frozen BK310.out 2; obtain ⟨Ao23, co23, eo23⟩ := Kd.R_slice HO308.out; subst eo23; have hcz24_0 : w20.cell? ⟨gb297, 0, none⟩ = some (.int .i64 a0_0) := (blk_cell BK297.out 0).trans rfl; have hcz24_1 : w20.cell? ⟨gb297, 1, none⟩ = some (.int .i64 a0_1) := (blk_cell BK297.out 1).trans rfl; have hcz24_2 : w20.cell? ⟨gb297, 2, none⟩ = some (.slice A0_2 l0_2.length c0_2) := (blk_cell BK297.out 2).trans rfl; have hfz24_0 := blk_frozen BK297.out 0; have hfz24_1 := blk_frozen BK297.out 1; have hfz24_2 := blk_frozen BK297.out 2) | ((with_reducible refine gate_callee (f := 36) rfl ?_); refine goesL_ (some 29) rfl rfl Try.func36 (by kernel_rfl) rfl #[.agg #[.int .i64 a0_0, .int .i64 a0_1, .slice A0_2 l0_2.length c0_2]] rfl itp ?_; (with_reducible refine (laws_toCut.calls k a0_0 a0_1 _ _ l0_2 t311 t312 t313 _ ?side1 ?side2 A10.out).mono ?_); (case side1 => exact Kd.C_below HR0_2.out (upW HB)); (case side2 => exact HC0_2.out); rintro e w25 ⟨v314, rfl, ho0, hb⟩; refine ⟨_, rfl, ?_⟩; have n0_ := Aside0.mk (Kd.R_elder' (by (with_reducible repeat (first | apply Kd.R_alloc | apply Kd.R_drewN | apply Kd.R_drew)); exact (Kd.R_mono (Kd.R_far (p := ⟨gb310, 2, none⟩) (Kd.R_far (p := ⟨gb310, 1, none⟩) (Kd.R_far (p := ⟨gb310, 0, none⟩) (Kd.R_types HO303.out BK310.out (by decide)) (fun _ hk => hk.2) (.int .i64 t304)) (fun _ hk => hk.2) (.int .i64 t305)) (fun _ hk => hk.2) (.slice Ao23 t306.length co23)) (fun _ h_ => h_.1))) (Kd.R_base ho0) hb); have n1_ := Aside0.mk (Kd.R_elder' (by (with_reducible repeat (first | apply Kd.R_alloc | apply Kd.R_drewN | apply Kd.R_drew)); exact (Kd.R_mono (Kd.R_far (p := ⟨gb310, 2, none⟩) (Kd.R_far (p := ⟨gb310, 1, none⟩) (Kd.R_far (p := ⟨gb310, 0, none⟩) (Kd.R_types HO308.out BK310.out (by decide)) (fun _ hk => hk.2) (.int .i64 t304)) (fun _ hk => hk.2) (.int .i64 t305)) (fun _ hk => hk.2) (.slice Ao23 t306.length co23)) (fun _ h_ => h_.1))) (Kd.R_base ho0) hb); have n2_ := Aside0.mk (Kd.R_lower (Kd.R_new' (Kd.R_new' ho0 (Kd.R_lt (by (with_reducible repeat (first | apply Kd.R_alloc | apply Kd.R_drewN | apply Kd.R_drew)); exact (Kd.R_mono (Kd.R_far (p := ⟨gb310, 2, none⟩) (Kd.R_far (p := ⟨gb310, 1, none⟩) (Kd.R_far (p := ⟨gb310, 0, none⟩) (Kd.R_types HO303.out BK310.out (by decide)) (fun _ hk => hk.2) (.int .i64 t304)) (fun _ hk => hk.2) (.int .i64 t305)) (fun _ hk => hk.2) (.slice Ao23 t306.length co23)) (fun _ h_ => h_.1))))) (Kd.R_lt (by (with_reducible repeat (first | apply Kd.R_alloc | apply Kd.R_drewN | apply Kd.R_drew)); exact (Kd.R_mono (Kd.R_far (p := ⟨gb310, 2, none⟩) (Kd.R_far (p := ⟨gb310, 1, none⟩) (Kd.R_far (p := ⟨gb310, 0, none⟩) (Kd.R_types HO308.out BK310.out (by decide)) (fun _ hk => hk.2) (.int .i64 t304)) (fun _ hk => hk.2) (.int .i64 t305)) (fun _ hk => hk.2) (.slice Ao23 t306.length co23)) (fun _ h_ => h_.1))))) (below_size (upW HB))); have n3_ := Aside0.mk (blk_below (upF BK297) hb); have n4_ := Aside0.mk (blk_below (g := gb310) (o := .cells #[.int .i64 t304, .int .i64 t305, .slice Ao23 t306.length co23] 48 (0, 0)) (by (with_reducible repeat (first | refine blk_drewN ?_ _ | refine blk_drew ?_ | refine blk_alloc ?_ _)); refine blk_put (cs := #[.int .i64 t304, .int .i64 t305, .slice none 0 0]) ?_ 2 _ rfl; (with_reducible repeat (first | refine blk_drewN ?_ _ | refine blk_drew ?_ | refine blk_alloc ?_ _)); refine blk_put (cs := #[.int .i64 t304, .int .i64 0, .slice none 0 0]) ?_ 1 _ rfl; (with_reducible repeat (first | refine blk_drewN ?_ _ | refine blk_drew ?_ | refine blk_alloc ?_ _)); refine blk_put (cs := #[.int .i64 0, .int .i64 0, .slice none 0 0]) ?_ 0 _ rfl; (with_reducible repeat (first | refine blk_drewN ?_ _ | refine blk_drew ?_ | refine blk_alloc ?_ _)); exact BK310.out) hb); have n5_ := Aside0.mk (below_step (upW HB) hb); clear HO303; clear HO308; clear BK297; clear BK310; clear HB; have HO303 := n0_; have HO308 := n1_; have HO315 := n2_; have BK297 := n3_; have BK310 := n4_; have HB := n5_; clear n0_ n1_ n2_ n3_ n4_ n5_; (try clear hb); (try clear hb2); (try clear hk); (try clear hi); (try clear ho0)) | ((with_reducible refine gate_dst (N := 8) rfl ?_); refine box_event ?hg (N := 8) ?hd (cs := #[.int .i64 0, .int .i64 0, .slice none 0 0]) (t := 48) ?hr ?_; (case hd => rfl); (case hg => rfl); (case hr => first | (go_simp; done) | (go_simp; rfl)); intro gb316 hg w26 hbox hb; have n0_ := Aside0.mk (Kd.R_below (upR HO303) hb); have n1_ := Aside0.mk (Kd.R_below (upR HO308) hb); have n2_ := Aside0.mk (Kd.R_below (upR HO315) hb); have n3_ := Aside0.mk (blk_below (upK BK297) hb); have n4_ := Aside0.mk (blk_below (upK BK310) hb); have n5_ := Aside0.mk (below_step (upW HB) hb); have n6_ := Aside0.mk (hbox); have n7_ := Aside0.mk ((by rw [hg]; exact (below_size (upW HB)) : w.heap.size ≤ gb316)); have n8_ := Aside0.mk ((by rw [hg]; exact (below_size (upW HB)) : w.heap.size ≤ gb316)); have n9_ := Aside0.mk ((by rw [hg]; exact Nat.ne_of_lt (blk_lt (upK BK297)) : gb297 ≠ gb316)); have n10_ := Aside0.mk ((by rw [hg]; exact Nat.ne_of_gt (blk_lt (upK BK297)) : gb316 ≠ gb297)); have n11_ := Aside0.mk ((by rw [hg]; exact Nat.ne_of_lt (blk_lt (upK BK310)) : gb310 ≠ gb316)); have n12_ := Aside0.mk ((by rw [hg]; exact Nat.ne_of_gt (blk_lt (upK BK310)) : gb316 ≠ gb310)); clear HO303; clear HO308; clear HO315; clear BK297; clear BK310; clear HB; have HO303 := n0_; have HO308 := n1_; have HO315 := n2_; have BK297 := n3_; have BK310 := n4_; have HB := n5_; have BK316 := n6_; have GW316 := n7_; have GE316 := n8_; have NB297_316 := n9_; have NB316_297 := n10_; have NB310_316 := n11_; have NB316_310 := n12_; clear n0_ n1_ n2_ n3_ n4_ n5_ n6_ n7_ n8_ n9_ n10_ n11_ n12_; clear hb hbox hg; have hnb27 := NB316_297.out; have hnc27 := NB297_316.out; have hnb28 := NB316_310.out; have hnc28 := NB310_316.out; have hcz29_0 : w26.cell? ⟨gb316, 0, none⟩ = some (.int .i64 0) := (blk_cell BK316.out 0).trans rfl; have hcz29_1 : w26.cell? ⟨gb316, 1, none⟩ = some (.int .i64 0) := (blk_cell BK316.out 1).trans rfl; have hcz29_2 : w26.cell? ⟨gb316, 2, none⟩ = some (.slice none 0 0) := (blk_cell BK316.out 2).trans rfl; have hfz29_0 := blk_frozen BK316.out 0; have hfz29_1 := blk_frozen BK316.out 1; have hfz29_2 := blk_frozen BK316.out 2; obtain ⟨Ao30, co30, eo30⟩ := Kd.R_slice HO315.out; subst eo30) | ((with_reducible refine gate_callee (f := 46) rfl ?_); refine goesL_ (some 33) rfl rfl Try.func46 (by kernel_rfl) rfl #[.agg #[.int .i64 t311, .int .i64 t312, .slice Ao30 t313.length co30], .int .i64 a1] rfl itp ?_; (with_reducible refine (impl_GrowCut.calls k t311 t312 _ _ t313 a1 t317 t318 t319 t322 _ ?side1 ?side2 A11.out).mono ?_); (case side1 => refine (Kd.R_reads' (e := 83) (base := w.heap.size) (ok := fun k_ => ((True ∧ some k_ ≠ (.slice Ao18 t301.length co18 : Value).ownBlock) ∧ some k_ ≠ (.slice Ao23 t306.length co23 : Value).ownBlock)) (n := t313.length) (c := co30) ?_).2.2; exact (by (with_reducible repeat (first | apply Kd.R_alloc | apply Kd.R_drewN | apply Kd.R_drew)); exact (Kd.R_mono (Kd.R_far (p := ⟨gb316, 2, none⟩) (Kd.R_far (p := ⟨gb316, 1, none⟩) (Kd.R_far (p := ⟨gb316, 0, none⟩) (Kd.R_types HO315.out BK316.out (by decide)) (fun _ hk => hk.2) (.int .i64 t311)) (fun _ hk => hk.2) (.int .i64 t312)) (fun _ hk => hk.2) (.slice Ao30 t313.length co30)) (fun _ h_ => h_.1)))); (case side2 => exact (Kd.R_reads' HO315.out).2.1); rintro e w31 ⟨v320, rfl, ho0, hb⟩; refine ⟨_, rfl, ?_⟩; have n0_ := Aside0.mk (Kd.R_elder' (by (with_reducible repeat (first | apply Kd.R_alloc | apply Kd.R_drewN | apply Kd.R_drew)); exact (Kd.R_mono (Kd.R_far (p := ⟨gb316, 2, none⟩) (Kd.R_far (p := ⟨gb316, 1, none⟩) (Kd.R_far (p := ⟨gb316, 0, none⟩) (Kd.R_types HO303.out BK316.out (by decide)) (fun _ hk => hk.2) (.int .i64 t311)) (fun _ hk => hk.2) (.int .i64 t312)) (fun _ hk => hk.2) (.slice Ao30 t313.length co30)) (fun _ h_ => h_.1))) (Kd.R_base ho0) hb); have n1_ := Aside0.mk (Kd.R_elder' (by (with_reducible repeat (first | apply Kd.R_alloc | apply Kd.R_drewN | apply Kd.R_drew)); exact (Kd.R_mono (Kd.R_far (p := ⟨gb316, 2, none⟩) (Kd.R_far (p := ⟨gb316, 1, none⟩) (Kd.R_far (p := ⟨gb316, 0, none⟩) (Kd.R_types HO308.out BK316.out (by decide)) (fun _ hk => hk.2) (.int .i64 t311)) (fun _ hk => hk.2) (.int .i64 t312)) (fun _ hk => hk.2) (.slice Ao30 t313.length co30)) (fun _ h_ => h_.1))) (Kd.R_base ho0) hb); have n2_ := Aside0.mk (Kd.R_elder' (by (with_reducible repeat (first | apply Kd.R_alloc | apply Kd.R_drewN | apply Kd.R_drew)); exact (Kd.R_mono (Kd.R_far (p := ⟨gb316, 2, none⟩) (Kd.R_far (p := ⟨gb316, 1, none⟩) (Kd.R_far (p := ⟨gb316, 0, none⟩) (Kd.R_types HO315.out BK316.out (by decide)) (fun _ hk => hk.2) (.int .i64 t311)) (fun _ hk => hk.2) (.int .i64 t312)) (fun _ hk => hk.2) (.slice Ao30 t313.length co30)) (fun _ h_ => h_.1))) (Kd.R_base ho0) hb); have n3_ := Aside0.mk (Kd.R_lower (Kd.R_new' (Kd.R_new' (Kd.R_new' ho0 (Kd.R_lt (by (with_reducible repeat (first | apply Kd.R_alloc | apply Kd.R_drewN | apply Kd.R_drew)); exact (Kd.R_mono (Kd.R_far (p := ⟨gb316, 2, none⟩) (Kd.R_far (p := ⟨gb316, 1, none⟩) (Kd.R_far (p := ⟨gb316, 0, none⟩) (Kd.R_types HO303.out BK316.out (by decide)) (fun _ hk => hk.2) (.int .i64 t311)) (fun _ hk => hk.2) (.int .i64 t312)) (fun _ hk => hk.2) (.slice Ao30 t313.length co30)) (fun _ h_ => h_.1))))) (Kd.R_lt (by (with_reducible repeat (first | apply Kd.R_alloc | apply Kd.R_drewN | apply Kd.R_drew)); exact (Kd.R_mono (Kd.R_far (p := ⟨gb316, 2, none⟩) (Kd.R_far (p := ⟨gb316, 1, none⟩) (Kd.R_far (p := ⟨gb316, 0, none⟩) (Kd.R_types HO308.out BK316.out (by decide)) (fun _ hk => hk.2) (.int .i64 t311)) (fun _ hk => hk.2) (.int .i64 t312)) (fun _ hk => hk.2) (.slice Ao30 t313.length co30)) (fun _ h_ => h_.1))))) (Kd.R_lt (by (with_reducible repeat (first | apply Kd.R_alloc | apply Kd.R_drewN | apply Kd.R_drew)); exact (Kd.R_mono (Kd.R_far (p := ⟨gb316, 2, none⟩) (Kd.R_far (p := ⟨gb316, 1, none⟩) (Kd.R_far (p := ⟨gb316, 0, none⟩) (Kd.R_types HO315.out BK316.out (by decide)) (fun _ hk => hk.2) (.int .i64 t311)) (fun _ hk => hk.2) (.int .i64 t312)) (fun _ hk => hk.2) (.slice Ao30 t313.length co30)) (fun _ h_ => h_.1))))) (below_size (upW HB))); have n4_ := Aside0.mk (blk_below (upF BK297) hb); have n5_ := Aside0.mk (blk_below (upF BK310) hb); have n6_ := Aside0.mk (blk_below (g := gb316) (o := .cells #[.int .i64 t311, .int .i64 t312, .slice Ao30 t313.length co30] 48 (0, 0)) (by (with_reducible repeat (first | refine blk_drewN ?_ _ | refine blk_drew ?_ | refine blk_alloc ?_ _)); refine blk_put (cs := #[.int .i64 t311, .int .i64 t312, .slice none 0 0]) ?_ 2 _ rfl; (with_reducible repeat (first | refine blk_drewN ?_ _ | refine blk_drew ?_ | refine blk_alloc ?_ _)); refine blk_put (cs := #[.int .i64 t311, .int .i64 0, .slice none 0 0]) ?_ 1 _ rfl; (with_reducible repeat (first | refine blk_drewN ?_ _ | refine blk_drew ?_ | refine blk_alloc ?_ _)); refine blk_put (cs := #[.int .i64 0, .int .i64 0, .slice none 0 0]) ?_ 0 _ rfl; (with_reducible repeat (first | refine blk_drewN ?_ _ | refine blk_drew ?_ | refine blk_alloc ?_ _)); exact BK316.out) hb); have n7_ := Aside0.mk (below_step (upW HB) hb); clear HO303; clear HO308; clear HO315; clear BK297; clear BK310; clear BK316; clear HB; have HO303 := n0_; have HO308 := n1_; have HO315 := n2_; have HO321 := n3_; have BK297 := n4_; have BK310 := n5_; have BK316 := n6_; have HB := n7_; clear n0_ n1_ n2_ n3_ n4_ n5_ n6_ n7_; (try clear hb); (try clear hb2); (try clear hk); (try clear hi); (try clear ho0)) | ((with_reducible refine gate_dst (N := 9) rfl ?_); refine box_event ?hg (N := 9) ?hd (cs := #[.int .i64 0, .int .i64 0, .slice none 0 0]) (t := 48) ?hr ?_; (case hd => rfl); (case hg => rfl); (case hr => first | (go_simp; done) | (go_simp; rfl)); intro gb323 hg w32 hbox hb; have n0_ := Aside0.mk (Kd.R_below (upR HO303) hb); have n1_ := Aside0.mk (Kd.R_below (upR HO308) hb); have n2_ := Aside0.mk (Kd.R_below (upR HO315) hb); have n3_ := Aside0.mk (Kd.R_below (upR HO321) hb); have n4_ := Aside0.mk (blk_below (upK BK297) hb); have n5_ := Aside0.mk (blk_below (upK BK310) hb); have n6_ := Aside0.mk (blk_below (upK BK316) hb); have n7_ := Aside0.mk (below_step (upW HB) hb); have n8_ := Aside0.mk (hbox); have n9_ := Aside0.mk ((by rw [hg]; exact (below_size (upW HB)) : w.heap.size ≤ gb323)); have n10_ := Aside0.mk ((by rw [hg]; exact (below_size (upW HB)) : w.heap.size ≤ gb323)); have n11_ := Aside0.mk ((by rw [hg]; exact Nat.ne_of_lt (blk_lt (upK BK297)) : gb297 ≠ gb323)); have n12_ := Aside0.mk ((by rw [hg]; exact Nat.ne_of_gt (blk_lt (upK BK297)) : gb323 ≠ gb297)); have n13_ := Aside0.mk ((by rw [hg]; exact Nat.ne_of_lt (blk_lt (upK BK310)) : gb310 ≠ gb323)); have n14_ := Aside0.mk ((by rw [hg]; exact Nat.ne_of_gt (blk_lt (upK BK310)) : gb323 ≠ gb310)); have n15_ := Aside0.mk ((by rw [hg]; exact Nat.ne_of_lt (blk_lt (upK BK316)) : gb316 ≠ gb323)); have n16_ := Aside0.mk ((by rw [hg]; exact Nat.ne_of_gt (blk_lt (upK BK316)) : gb323 ≠ gb316)); clear HO303; clear HO308; clear HO315; clear HO321; clear BK297; clear BK310; clear BK316; clear HB; have HO303 := n0_; have HO308 := n1_; have HO315 := n2_; have HO321 := n3_; have BK297 := n4_; have BK310 := n5_; have BK316 := n6_; have HB := n7_; have BK323 := n8_; have GW323 := n9_; have GE323 := n10_; have NB297_323 := n11_; have NB323_297 := n12_; have NB310_323 := n13_; have NB323_310 := n14_; have NB316_323 := n15_; have NB323_316 := n16_; clear n0_ n1_ n2_ n3_ n4_ n5_ n6_ n7_ n8_ n9_ n10_ n11_ n12_ n13_ n14_ n15_ n16_; clear hb hbox hg; have hnb33 := NB323_297.out; have hnc33 := NB297_323.out; have hnb34 := NB323_310.out; have hnc34 := NB310_323.out; have hnb35 := NB323_316.out; have hnc35 := NB316_323.out; have hcz36_0 : w32.cell? ⟨gb323, 0, none⟩ = some (.int .i64 0) := (blk_cell BK323.out 0).trans rfl; have hcz36_1 : w32.cell? ⟨gb323, 1, none⟩ = some (.int .i64 0) := (blk_cell BK323.out 1).trans rfl; have hcz36_2 : w32.cell? ⟨gb323, 2, none⟩ = some (.slice none 0 0) := (blk_cell BK323.out 2).trans rfl; have hfz36_0 := blk_frozen BK323.out 0; have hfz36_1 := blk_frozen BK323.out 1; have hfz36_2 := blk_frozen BK323.out 2; obtain ⟨Ao37, co37, eo37⟩ := Kd.R_slice HO321.out; subst eo37))
  (try simp only [Act.put, List.setIfInBounds_toArray, List.set_cons_zero, List.set_cons_succ])
  go_cut [44] (fun v44 wc => ∃ (kq : Nat) (x44_11 : Bool), v44 = .bool x44_11 ∧ Aside0 (laws_FnExactGrowCut.j0 kq a1 t309 t322 x44_11 a0_0 a0_1 l0_2 t304 t305 t306 t311 t312 t313 t317 t318 t319 = some r) ∧ Aside0 (kq ≤ k) ∧ Aside0 (Kd.R k83 83 wc w.heap.size (fun k_ => some k_ ≠ ((.slice Ao30 t313.length co30) : Value).ownBlock ∧ some k_ ≠ ((.slice Ao37 t319.length co37) : Value).ownBlock) (.slice Ao23 t306.length co23) t306) ∧ Aside0 (Kd.R k83 83 wc w.heap.size (fun k_ => some k_ ≠ ((.slice Ao23 t306.length co23) : Value).ownBlock ∧ some k_ ≠ ((.slice Ao37 t319.length co37) : Value).ownBlock) (.slice Ao30 t313.length co30) t313) ∧ Aside0 (Kd.R k83 83 wc w.heap.size (fun k_ => some k_ ≠ ((.slice Ao23 t306.length co23) : Value).ownBlock ∧ some k_ ≠ ((.slice Ao30 t313.length co30) : Value).ownBlock) (.slice Ao37 t319.length co37) t319) ∧ Aside0 (wc.heap[gb297]? = some (.cells #[.int .i64 a0_0, .int .i64 a0_1, (.slice A0_2 l0_2.length c0_2)] 44 (0, 0))) ∧ Aside0 (wc.heap[gb310]? = some (.cells #[.int .i64 t304, .int .i64 t305, (.slice Ao23 t306.length co23)] 48 (0, 0))) ∧ Aside0 (wc.heap[gb316]? = some (.cells #[.int .i64 t311, .int .i64 t312, (.slice Ao30 t313.length co30)] 48 (0, 0))) ∧ Aside0 (wc.heap[gb323]? = some (.cells #[.int .i64 t317, .int .i64 t318, (.slice Ao37 t319.length co37)] 48 (0, 0))) ∧ Aside0 (Below w.heap.size w wc))
  case first =>
   have H := HC12.out
   clear HC12
   replace H := Option.bind_eq_some_iff.mp H
   obtain ⟨t324, A380, H⟩ := H
   replace H : (if t324 = true then (laws_FnExactGrowCut.j0 k a1 t309 t322 (t322 != t309) a0_0 a0_1 l0_2 t304 t305 t306 t311 t312 t313 t317 t318 t319) else (laws_FnExactGrowCut.j0 k a1 t309 t322 true a0_0 a0_1 l0_2 t304 t305 t306 t311 t312 t313 t317 t318 t319)) = some r := H
   have A38 := Aside0.mk A380
   clear A380
   by_cases c39 : t324 = true
   ·subst c39
    have H1 : (laws_FnExactGrowCut.j0 k a1 t309 t322 (t322 != t309) a0_0 a0_1 l0_2 t304 t305 t306 t311 t312 t313 t317 t318 t319) = some r := by rw [if_pos rfl] at H; exact H
    clear H
    have H := H1
    clear H1
    have H' := Aside0.mk H
    clear H
    have hnb40 := NB323_297.out
    have hnc40 := NB297_323.out
    have hnb41 := NB323_310.out
    have hnc41 := NB310_323.out
    have hnb42 := NB323_316.out
    have hnc42 := NB316_323.out
    have hcz43_0 : w32.cell? ⟨gb323, 0, none⟩ = some (.int .i64 0) := (blk_cell BK323.out 0).trans rfl
    have hcz43_1 : w32.cell? ⟨gb323, 1, none⟩ = some (.int .i64 0) := (blk_cell BK323.out 1).trans rfl
    have hcz43_2 : w32.cell? ⟨gb323, 2, none⟩ = some (.slice none 0 0) := (blk_cell BK323.out 2).trans rfl
    have hfz43_0 := blk_frozen BK323.out 0
    have hfz43_1 := blk_frozen BK323.out 1
    have hfz43_2 := blk_frozen BK323.out 2
    have hnb44 := NB310_297.out
    have hnc44 := NB297_310.out
    have hnb45 := NB310_316.out
    have hnc45 := NB316_310.out
    have hcz46_0 : w32.cell? ⟨gb310, 0, none⟩ = some (.int .i64 t304) := (blk_cell BK310.out 0).trans rfl
    have hcz46_1 : w32.cell? ⟨gb310, 1, none⟩ = some (.int .i64 t305) := (blk_cell BK310.out 1).trans rfl
    have hcz46_2 : w32.cell? ⟨gb310, 2, none⟩ = some (.slice Ao23 t306.length co23) := (blk_cell BK310.out 2).trans rfl
    have hfz46_0 := blk_frozen BK310.out 0
    have hfz46_1 := blk_frozen BK310.out 1
    have hfz46_2 := blk_frozen BK310.out 2
    go_wp2_with (first | ((with_reducible refine gate_callee (f := 38) rfl ?_); refine goesL_ (some 38) rfl rfl Try.func38 (by kernel_rfl) rfl #[.agg #[.int .i64 t317, .int .i64 t318, .slice Ao37 t319.length co37], .agg #[.int .i64 t304, .int .i64 t305, .slice Ao23 t306.length co23]] rfl itp ?_; (with_reducible refine (laws_eqCut.calls k t317 t318 _ _ t319 t304 t305 _ _ t306 true _ ?side1 ?side2 ?side3 ?side4 A38.out).mono ?_); (case side1 => refine (Kd.R_reads' (e := 83) (base := w.heap.size) (ok := fun k_ => (((True ∧ some k_ ≠ (.slice Ao18 t301.length co18 : Value).ownBlock) ∧ some k_ ≠ (.slice Ao23 t306.length co23 : Value).ownBlock) ∧ some k_ ≠ (.slice Ao30 t313.length co30 : Value).ownBlock)) (n := t319.length) (c := co37) ?_).2.2; exact (by (with_reducible repeat (first | apply Kd.R_alloc | apply Kd.R_drewN | apply Kd.R_drew)); exact (Kd.R_mono (Kd.R_far (p := ⟨gb323, 2, none⟩) (Kd.R_far (p := ⟨gb323, 1, none⟩) (Kd.R_far (p := ⟨gb323, 0, none⟩) (Kd.R_types HO321.out BK323.out (by decide)) (fun _ hk => hk.2) (.int .i64 t317)) (fun _ hk => hk.2) (.int .i64 t318)) (fun _ hk => hk.2) (.slice Ao37 t319.length co37)) (fun _ h_ => h_.1)))); (case side2 => exact (Kd.R_reads' HO321.out).2.1); (case side3 => refine (Kd.R_reads' (e := 83) (base := w.heap.size) (ok := fun k_ => (((True ∧ some k_ ≠ (.slice Ao18 t301.length co18 : Value).ownBlock) ∧ some k_ ≠ (.slice Ao30 t313.length co30 : Value).ownBlock) ∧ some k_ ≠ (.slice Ao37 t319.length co37 : Value).ownBlock)) (n := t306.length) (c := co23) ?_).2.2; exact (by (with_reducible repeat (first | apply Kd.R_alloc | apply Kd.R_drewN | apply Kd.R_drew)); exact (Kd.R_mono (Kd.R_far (p := ⟨gb323, 2, none⟩) (Kd.R_far (p := ⟨gb323, 1, none⟩) (Kd.R_far (p := ⟨gb323, 0, none⟩) (Kd.R_types HO308.out BK323.out (by decide)) (fun _ hk => hk.2) (.int .i64 t317)) (fun _ hk => hk.2) (.int .i64 t318)) (fun _ hk => hk.2) (.slice Ao37 t319.length co37)) (fun _ h_ => h_.1)))); (case side4 => exact (Kd.R_reads' HO308.out).2.1); rintro e w47 ⟨rfl, hb⟩; refine ⟨_, rfl, ?_⟩; have n0_ := Aside0.mk (Kd.R_below (by (with_reducible repeat (first | apply Kd.R_alloc | apply Kd.R_drewN | apply Kd.R_drew)); exact (Kd.R_mono (Kd.R_far (p := ⟨gb323, 2, none⟩) (Kd.R_far (p := ⟨gb323, 1, none⟩) (Kd.R_far (p := ⟨gb323, 0, none⟩) (Kd.R_types HO303.out BK323.out (by decide)) (fun _ hk => hk.2) (.int .i64 t317)) (fun _ hk => hk.2) (.int .i64 t318)) (fun _ hk => hk.2) (.slice Ao37 t319.length co37)) (fun _ h_ => h_.1))) hb); have n1_ := Aside0.mk (Kd.R_below (by (with_reducible repeat (first | apply Kd.R_alloc | apply Kd.R_drewN | apply Kd.R_drew)); exact (Kd.R_mono (Kd.R_far (p := ⟨gb323, 2, none⟩) (Kd.R_far (p := ⟨gb323, 1, none⟩) (Kd.R_far (p := ⟨gb323, 0, none⟩) (Kd.R_types HO308.out BK323.out (by decide)) (fun _ hk => hk.2) (.int .i64 t317)) (fun _ hk => hk.2) (.int .i64 t318)) (fun _ hk => hk.2) (.slice Ao37 t319.length co37)) (fun _ h_ => h_.1))) hb); have n2_ := Aside0.mk (Kd.R_below (by (with_reducible repeat (first | apply Kd.R_alloc | apply Kd.R_drewN | apply Kd.R_drew)); exact (Kd.R_mono (Kd.R_far (p := ⟨gb323, 2, none⟩) (Kd.R_far (p := ⟨gb323, 1, none⟩) (Kd.R_far (p := ⟨gb323, 0, none⟩) (Kd.R_types HO315.out BK323.out (by decide)) (fun _ hk => hk.2) (.int .i64 t317)) (fun _ hk => hk.2) (.int .i64 t318)) (fun _ hk => hk.2) (.slice Ao37 t319.length co37)) (fun _ h_ => h_.1))) hb); have n3_ := Aside0.mk (Kd.R_below (by (with_reducible repeat (first | apply Kd.R_alloc | apply Kd.R_drewN | apply Kd.R_drew)); exact (Kd.R_mono (Kd.R_far (p := ⟨gb323, 2, none⟩) (Kd.R_far (p := ⟨gb323, 1, none⟩) (Kd.R_far (p := ⟨gb323, 0, none⟩) (Kd.R_types HO321.out BK323.out (by decide)) (fun _ hk => hk.2) (.int .i64 t317)) (fun _ hk => hk.2) (.int .i64 t318)) (fun _ hk => hk.2) (.slice Ao37 t319.length co37)) (fun _ h_ => h_.1))) hb); have n4_ := Aside0.mk (blk_below (upF BK297) hb); have n5_ := Aside0.mk (blk_below (upF BK310) hb); have n6_ := Aside0.mk (blk_below (upF BK316) hb); have n7_ := Aside0.mk (blk_below (g := gb323) (o := .cells #[.int .i64 t317, .int .i64 t318, .slice Ao37 t319.length co37] 48 (0, 0)) (by (with_reducible repeat (first | refine blk_drewN ?_ _ | refine blk_drew ?_ | refine blk_alloc ?_ _)); refine blk_put (cs := #[.int .i64 t317, .int .i64 t318, .slice none 0 0]) ?_ 2 _ rfl; (with_reducible repeat (first | refine blk_drewN ?_ _ | refine blk_drew ?_ | refine blk_alloc ?_ _)); refine blk_put (cs := #[.int .i64 t317, .int .i64 0, .slice none 0 0]) ?_ 1 _ rfl; (with_reducible repeat (first | refine blk_drewN ?_ _ | refine blk_drew ?_ | refine blk_alloc ?_ _)); refine blk_put (cs := #[.int .i64 0, .int .i64 0, .slice none 0 0]) ?_ 0 _ rfl; (with_reducible repeat (first | refine blk_drewN ?_ _ | refine blk_drew ?_ | refine blk_alloc ?_ _)); exact BK323.out) hb); have n8_ := Aside0.mk (below_step (upW HB) hb); clear HO303; clear HO308; clear HO315; clear HO321; clear BK297; clear BK310; clear BK316; clear BK323; clear HB; have HO303 := n0_; have HO308 := n1_; have HO315 := n2_; have HO321 := n3_; have BK297 := n4_; have BK310 := n5_; have BK316 := n6_; have BK323 := n7_; have HB := n8_; clear n0_ n1_ n2_ n3_ n4_ n5_ n6_ n7_ n8_; (try clear hb); (try clear hb2); (try clear hk); (try clear hi)))
    go_meet
    case rel => exact ⟨_, ((t322 != t309)), (by first | rfl | (simp; done) | (simp [*]; done)), H', ⟨by first | omega | exact Nat.le_refl _⟩, ⟨by (with_reducible repeat (first | apply Kd.R_alloc | apply Kd.R_drewN | apply Kd.R_drew)); exact Kd.R_mono HO308.out (fun _ hk => ⟨hk.1.2, hk.2⟩)⟩, ⟨by (with_reducible repeat (first | apply Kd.R_alloc | apply Kd.R_drewN | apply Kd.R_drew)); exact Kd.R_mono HO315.out (fun _ hk => ⟨hk.1.2, hk.2⟩)⟩, ⟨by (with_reducible repeat (first | apply Kd.R_alloc | apply Kd.R_drewN | apply Kd.R_drew)); exact Kd.R_mono HO321.out (fun _ hk => ⟨hk.1.2, hk.2⟩)⟩, ⟨upK BK297⟩, ⟨upK BK310⟩, ⟨upK BK316⟩, ⟨upK BK323⟩, ⟨upW HB⟩⟩
   ·replace c39 := Bool.eq_false_iff.mpr c39
    subst c39
    have H1 : (laws_FnExactGrowCut.j0 k a1 t309 t322 true a0_0 a0_1 l0_2 t304 t305 t306 t311 t312 t313 t317 t318 t319) = some r := by rw [if_neg (show ¬ (false = true) by decide)] at H; exact H
    clear H
    have H := H1
    clear H1
    have H' := Aside0.mk H
    clear H
    have hnb48 := NB323_297.out
    have hnc48 := NB297_323.out
    have hnb49 := NB323_310.out
    have hnc49 := NB310_323.out
    have hnb50 := NB323_316.out
    have hnc50 := NB316_323.out
    have hcz51_0 : w32.cell? ⟨gb323, 0, none⟩ = some (.int .i64 0) := (blk_cell BK323.out 0).trans rfl
    have hcz51_1 : w32.cell? ⟨gb323, 1, none⟩ = some (.int .i64 0) := (blk_cell BK323.out 1).trans rfl
    have hcz51_2 : w32.cell? ⟨gb323, 2, none⟩ = some (.slice none 0 0) := (blk_cell BK323.out 2).trans rfl
    have hfz51_0 := blk_frozen BK323.out 0
    have hfz51_1 := blk_frozen BK323.out 1
    have hfz51_2 := blk_frozen BK323.out 2
    have hnb52 := NB310_297.out
    have hnc52 := NB297_310.out
    have hnb53 := NB310_316.out
    have hnc53 := NB316_310.out
    have hcz54_0 : w32.cell? ⟨gb310, 0, none⟩ = some (.int .i64 t304) := (blk_cell BK310.out 0).trans rfl
    have hcz54_1 : w32.cell? ⟨gb310, 1, none⟩ = some (.int .i64 t305) := (blk_cell BK310.out 1).trans rfl
    have hcz54_2 : w32.cell? ⟨gb310, 2, none⟩ = some (.slice Ao23 t306.length co23) := (blk_cell BK310.out 2).trans rfl
    have hfz54_0 := blk_frozen BK310.out 0
    have hfz54_1 := blk_frozen BK310.out 1
    have hfz54_2 := blk_frozen BK310.out 2
    go_wp2_with (first | ((with_reducible refine gate_callee (f := 38) rfl ?_); refine goesL_ (some 38) rfl rfl Try.func38 (by kernel_rfl) rfl #[.agg #[.int .i64 t317, .int .i64 t318, .slice Ao37 t319.length co37], .agg #[.int .i64 t304, .int .i64 t305, .slice Ao23 t306.length co23]] rfl itp ?_; (with_reducible refine (laws_eqCut.calls k t317 t318 _ _ t319 t304 t305 _ _ t306 false _ ?side1 ?side2 ?side3 ?side4 A38.out).mono ?_); (case side1 => refine (Kd.R_reads' (e := 83) (base := w.heap.size) (ok := fun k_ => (((True ∧ some k_ ≠ (.slice Ao18 t301.length co18 : Value).ownBlock) ∧ some k_ ≠ (.slice Ao23 t306.length co23 : Value).ownBlock) ∧ some k_ ≠ (.slice Ao30 t313.length co30 : Value).ownBlock)) (n := t319.length) (c := co37) ?_).2.2; exact (by (with_reducible repeat (first | apply Kd.R_alloc | apply Kd.R_drewN | apply Kd.R_drew)); exact (Kd.R_mono (Kd.R_far (p := ⟨gb323, 2, none⟩) (Kd.R_far (p := ⟨gb323, 1, none⟩) (Kd.R_far (p := ⟨gb323, 0, none⟩) (Kd.R_types HO321.out BK323.out (by decide)) (fun _ hk => hk.2) (.int .i64 t317)) (fun _ hk => hk.2) (.int .i64 t318)) (fun _ hk => hk.2) (.slice Ao37 t319.length co37)) (fun _ h_ => h_.1)))); (case side2 => exact (Kd.R_reads' HO321.out).2.1); (case side3 => refine (Kd.R_reads' (e := 83) (base := w.heap.size) (ok := fun k_ => (((True ∧ some k_ ≠ (.slice Ao18 t301.length co18 : Value).ownBlock) ∧ some k_ ≠ (.slice Ao30 t313.length co30 : Value).ownBlock) ∧ some k_ ≠ (.slice Ao37 t319.length co37 : Value).ownBlock)) (n := t306.length) (c := co23) ?_).2.2; exact (by (with_reducible repeat (first | apply Kd.R_alloc | apply Kd.R_drewN | apply Kd.R_drew)); exact (Kd.R_mono (Kd.R_far (p := ⟨gb323, 2, none⟩) (Kd.R_far (p := ⟨gb323, 1, none⟩) (Kd.R_far (p := ⟨gb323, 0, none⟩) (Kd.R_types HO308.out BK323.out (by decide)) (fun _ hk => hk.2) (.int .i64 t317)) (fun _ hk => hk.2) (.int .i64 t318)) (fun _ hk => hk.2) (.slice Ao37 t319.length co37)) (fun _ h_ => h_.1)))); (case side4 => exact (Kd.R_reads' HO308.out).2.1); rintro e w55 ⟨rfl, hb⟩; refine ⟨_, rfl, ?_⟩; have n0_ := Aside0.mk (Kd.R_below (by (with_reducible repeat (first | apply Kd.R_alloc | apply Kd.R_drewN | apply Kd.R_drew)); exact (Kd.R_mono (Kd.R_far (p := ⟨gb323, 2, none⟩) (Kd.R_far (p := ⟨gb323, 1, none⟩) (Kd.R_far (p := ⟨gb323, 0, none⟩) (Kd.R_types HO303.out BK323.out (by decide)) (fun _ hk => hk.2) (.int .i64 t317)) (fun _ hk => hk.2) (.int .i64 t318)) (fun _ hk => hk.2) (.slice Ao37 t319.length co37)) (fun _ h_ => h_.1))) hb); have n1_ := Aside0.mk (Kd.R_below (by (with_reducible repeat (first | apply Kd.R_alloc | apply Kd.R_drewN | apply Kd.R_drew)); exact (Kd.R_mono (Kd.R_far (p := ⟨gb323, 2, none⟩) (Kd.R_far (p := ⟨gb323, 1, none⟩) (Kd.R_far (p := ⟨gb323, 0, none⟩) (Kd.R_types HO308.out BK323.out (by decide)) (fun _ hk => hk.2) (.int .i64 t317)) (fun _ hk => hk.2) (.int .i64 t318)) (fun _ hk => hk.2) (.slice Ao37 t319.length co37)) (fun _ h_ => h_.1))) hb); have n2_ := Aside0.mk (Kd.R_below (by (with_reducible repeat (first | apply Kd.R_alloc | apply Kd.R_drewN | apply Kd.R_drew)); exact (Kd.R_mono (Kd.R_far (p := ⟨gb323, 2, none⟩) (Kd.R_far (p := ⟨gb323, 1, none⟩) (Kd.R_far (p := ⟨gb323, 0, none⟩) (Kd.R_types HO315.out BK323.out (by decide)) (fun _ hk => hk.2) (.int .i64 t317)) (fun _ hk => hk.2) (.int .i64 t318)) (fun _ hk => hk.2) (.slice Ao37 t319.length co37)) (fun _ h_ => h_.1))) hb); have n3_ := Aside0.mk (Kd.R_below (by (with_reducible repeat (first | apply Kd.R_alloc | apply Kd.R_drewN | apply Kd.R_drew)); exact (Kd.R_mono (Kd.R_far (p := ⟨gb323, 2, none⟩) (Kd.R_far (p := ⟨gb323, 1, none⟩) (Kd.R_far (p := ⟨gb323, 0, none⟩) (Kd.R_types HO321.out BK323.out (by decide)) (fun _ hk => hk.2) (.int .i64 t317)) (fun _ hk => hk.2) (.int .i64 t318)) (fun _ hk => hk.2) (.slice Ao37 t319.length co37)) (fun _ h_ => h_.1))) hb); have n4_ := Aside0.mk (blk_below (upF BK297) hb); have n5_ := Aside0.mk (blk_below (upF BK310) hb); have n6_ := Aside0.mk (blk_below (upF BK316) hb); have n7_ := Aside0.mk (blk_below (g := gb323) (o := .cells #[.int .i64 t317, .int .i64 t318, .slice Ao37 t319.length co37] 48 (0, 0)) (by (with_reducible repeat (first | refine blk_drewN ?_ _ | refine blk_drew ?_ | refine blk_alloc ?_ _)); refine blk_put (cs := #[.int .i64 t317, .int .i64 t318, .slice none 0 0]) ?_ 2 _ rfl; (with_reducible repeat (first | refine blk_drewN ?_ _ | refine blk_drew ?_ | refine blk_alloc ?_ _)); refine blk_put (cs := #[.int .i64 t317, .int .i64 0, .slice none 0 0]) ?_ 1 _ rfl; (with_reducible repeat (first | refine blk_drewN ?_ _ | refine blk_drew ?_ | refine blk_alloc ?_ _)); refine blk_put (cs := #[.int .i64 0, .int .i64 0, .slice none 0 0]) ?_ 0 _ rfl; (with_reducible repeat (first | refine blk_drewN ?_ _ | refine blk_drew ?_ | refine blk_alloc ?_ _)); exact BK323.out) hb); have n8_ := Aside0.mk (below_step (upW HB) hb); clear HO303; clear HO308; clear HO315; clear HO321; clear BK297; clear BK310; clear BK316; clear BK323; clear HB; have HO303 := n0_; have HO308 := n1_; have HO315 := n2_; have HO321 := n3_; have BK297 := n4_; have BK310 := n5_; have BK316 := n6_; have BK323 := n7_; have HB := n8_; clear n0_ n1_ n2_ n3_ n4_ n5_ n6_ n7_ n8_; (try clear hb); (try clear hb2); (try clear hk); (try clear hi)))
    go_meet
    case rel => exact ⟨_, (true), (by first | rfl | (simp; done) | (simp [*]; done)), H', ⟨by first | omega | exact Nat.le_refl _⟩, ⟨by (with_reducible repeat (first | apply Kd.R_alloc | apply Kd.R_drewN | apply Kd.R_drew)); exact Kd.R_mono HO308.out (fun _ hk => ⟨hk.1.2, hk.2⟩)⟩, ⟨by (with_reducible repeat (first | apply Kd.R_alloc | apply Kd.R_drewN | apply Kd.R_drew)); exact Kd.R_mono HO315.out (fun _ hk => ⟨hk.1.2, hk.2⟩)⟩, ⟨by (with_reducible repeat (first | apply Kd.R_alloc | apply Kd.R_drewN | apply Kd.R_drew)); exact Kd.R_mono HO321.out (fun _ hk => ⟨hk.1.2, hk.2⟩)⟩, ⟨upK BK297⟩, ⟨upK BK310⟩, ⟨upK BK316⟩, ⟨upK BK323⟩, ⟨upW HB⟩⟩
  case rest =>
   clear HC12
   try clear c1
   try clear c2
   try clear p2
   try clear c3
   try clear c4
   try clear c4b0
   try clear c5
   try clear c12
   try clear c21
   try clear c27
   try clear c28
   try clear c33
   try clear c34
   try clear c35
   try clear c36
   try clear c38
   try clear c39
   try clear c40
   try clear c41
   try clear c42
   try clear c44
   try clear c45
   try clear c46
   try clear c48
   try clear c49
   try clear c50
   try clear c52
   try clear c53
   try clear hcz14_0
   try clear hcz14_1
   try clear hcz14_2
   try clear hcz16_0
   try clear hcz16_1
   try clear hcz16_2
   try clear hcz22_0
   try clear hcz22_1
   try clear hcz22_2
   try clear hcz24_0
   try clear hcz24_1
   try clear hcz24_2
   try clear hcz29_0
   try clear hcz29_1
   try clear hcz29_2
   try clear hcz36_0
   try clear hcz36_1
   try clear hcz36_2
   try clear hcz43_0
   try clear hcz43_1
   try clear hcz43_2
   try clear hcz46_0
   try clear hcz46_1
   try clear hcz46_2
   try clear hcz51_0
   try clear hcz51_1
   try clear hcz51_2
   try clear hcz54_0
   try clear hcz54_1
   try clear hcz54_2
   try clear hcz6_0
   try clear hcz6_1
   try clear hcz6_2
   try clear hfz14_0
   try clear hfz14_1
   try clear hfz14_2
   try clear hfz16_0
   try clear hfz16_1
   try clear hfz16_2
   try clear hfz22_0
   try clear hfz22_1
   try clear hfz22_2
   try clear hfz24_0
   try clear hfz24_1
   try clear hfz24_2
   try clear hfz29_0
   try clear hfz29_1
   try clear hfz29_2
   try clear hfz36_0
   try clear hfz36_1
   try clear hfz36_2
   try clear hfz43_0
   try clear hfz43_1
   try clear hfz43_2
   try clear hfz46_0
   try clear hfz46_1
   try clear hfz46_2
   try clear hfz51_0
   try clear hfz51_1
   try clear hfz51_2
   try clear hfz54_0
   try clear hfz54_1
   try clear hfz54_2
   try clear hfz6_0
   try clear hfz6_1
   try clear hfz6_2
   obtain ⟨kq, x44_11, rfl, HA, HJ11, HO_311002, HO_317002, HO_324002, BK297, BK310, BK316, BK323, HB⟩ := hcut
   cases kq with
   | zero => exact absurd HA.out (by simp [laws_FnExactGrowCut.j0])
   | succ kj11 =>
    have H := HA.out
    clear HA
    simp only [laws_FnExactGrowCut.j0] at H
    by_cases c56 : x44_11 = true
    ·subst c56
     have H1 : (some false) = some r := by rw [if_pos rfl] at H; exact H
     clear H
     have H := H1
     clear H1
     obtain rfl := Option.some.inj H
     go_wp2
     go_ret
     exact ⟨by first | rfl | (simp [errW_none, errW_some] <;> rfl) | (simp [*, errW_none, errW_some] <;> rfl), by repeat (first | (with_reducible first | exact HB.out | apply below_alloc | apply pw_below_drewN | apply below_drew1 | refine below_set ?_ GE297.out | refine below_set ?_ GE310.out | refine below_set ?_ GE316.out | refine below_set ?_ GE323.out) | exact HB.out)⟩
    ·replace c56 := Bool.eq_false_iff.mpr c56
     subst c56
     have H1 : ((laws_toCut.f kj11 a0_0 a0_1 l0_2).bind fun bt325 => ((laws_eqCut.f kj11 t311 t312 t313 bt325.1 bt325.2.1 bt325.2.2).bind fun t330 => (if t330 = true then ((laws_markCut.f kj11 t311 t312 t313 1).bind fun bt331 => (if bt331.1 < 0 then (laws_FnExactGrowCut.j1 kj11 a1 t309 true a0_0 a0_1 l0_2 t304 t305 t306 t317 t318 t319) else ((laws_eqCut.f kj11 t317 t318 t319 t304 t305 t306).bind fun t333 => (if t333 = true then (laws_FnExactGrowCut.j1 kj11 a1 t309 (t322 != t309) a0_0 a0_1 l0_2 t304 t305 t306 t317 t318 t319) else (laws_FnExactGrowCut.j1 kj11 a1 t309 true a0_0 a0_1 l0_2 t304 t305 t306 t317 t318 t319))))) else (some false)))) = some r := by rw [if_neg (show ¬ (false = true) by decide)] at H; exact H
     clear H
     have H := H1
     clear H1
     replace H := Option.bind_eq_some_iff.mp H
     obtain ⟨⟨t325, t326, t327⟩, A570, H⟩ := H
     replace H : ((laws_eqCut.f kj11 t311 t312 t313 t325 t326 t327).bind fun t330 => (if t330 = true then ((laws_markCut.f kj11 t311 t312 t313 1).bind fun bt331 => (if bt331.1 < 0 then (laws_FnExactGrowCut.j1 kj11 a1 t309 true a0_0 a0_1 l0_2 t304 t305 t306 t317 t318 t319) else ((laws_eqCut.f kj11 t317 t318 t319 t304 t305 t306).bind fun t333 => (if t333 = true then (laws_FnExactGrowCut.j1 kj11 a1 t309 (t322 != t309) a0_0 a0_1 l0_2 t304 t305 t306 t317 t318 t319) else (laws_FnExactGrowCut.j1 kj11 a1 t309 true a0_0 a0_1 l0_2 t304 t305 t306 t317 t318 t319))))) else (some false))) = some r := H
     have A57 := Aside0.mk A570
     clear A570
     replace H := Option.bind_eq_some_iff.mp H
     obtain ⟨t330, A580, H⟩ := H
     replace H : (if t330 = true then ((laws_markCut.f kj11 t311 t312 t313 1).bind fun bt331 => (if bt331.1 < 0 then (laws_FnExactGrowCut.j1 kj11 a1 t309 true a0_0 a0_1 l0_2 t304 t305 t306 t317 t318 t319) else ((laws_eqCut.f kj11 t317 t318 t319 t304 t305 t306).bind fun t333 => (if t333 = true then (laws_FnExactGrowCut.j1 kj11 a1 t309 (t322 != t309) a0_0 a0_1 l0_2 t304 t305 t306 t317 t318 t319) else (laws_FnExactGrowCut.j1 kj11 a1 t309 true a0_0 a0_1 l0_2 t304 t305 t306 t317 t318 t319))))) else (some false)) = some r := H
     have A58 := Aside0.mk A580
     clear A580
     by_cases c59 : t330 = true
     ·subst c59
      have H1 : ((laws_markCut.f kj11 t311 t312 t313 1).bind fun bt331 => (if bt331.1 < 0 then (laws_FnExactGrowCut.j1 kj11 a1 t309 true a0_0 a0_1 l0_2 t304 t305 t306 t317 t318 t319) else ((laws_eqCut.f kj11 t317 t318 t319 t304 t305 t306).bind fun t333 => (if t333 = true then (laws_FnExactGrowCut.j1 kj11 a1 t309 (t322 != t309) a0_0 a0_1 l0_2 t304 t305 t306 t317 t318 t319) else (laws_FnExactGrowCut.j1 kj11 a1 t309 true a0_0 a0_1 l0_2 t304 t305 t306 t317 t318 t319))))) = some r := by rw [if_pos rfl] at H; exact H
      clear H
      have H := H1
      clear H1
      replace H := Option.bind_eq_some_iff.mp H
      obtain ⟨⟨t331, t332⟩, A600, H⟩ := H
      replace H : (if t331 < 0 then (laws_FnExactGrowCut.j1 kj11 a1 t309 true a0_0 a0_1 l0_2 t304 t305 t306 t317 t318 t319) else ((laws_eqCut.f kj11 t317 t318 t319 t304 t305 t306).bind fun t333 => (if t333 = true then (laws_FnExactGrowCut.j1 kj11 a1 t309 (t322 != t309) a0_0 a0_1 l0_2 t304 t305 t306 t317 t318 t319) else (laws_FnExactGrowCut.j1 kj11 a1 t309 true a0_0 a0_1 l0_2 t304 t305 t306 t317 t318 t319)))) = some r := H
      have A60 := Aside0.mk A600
      clear A600
      have HC61 := Aside0.mk H
      clear H
      try go_wp2
      have n0_ := Aside0.mk (Kd.R_drew HO_311002.out)
      have n1_ := Aside0.mk (Kd.R_drew HO_317002.out)
      have n2_ := Aside0.mk (Kd.R_drew HO_324002.out)
      have n3_ := Aside0.mk (blk_drew BK297.out)
      have n4_ := Aside0.mk (blk_drew BK310.out)
      have n5_ := Aside0.mk (blk_drew BK316.out)
      have n6_ := Aside0.mk (blk_drew BK323.out)
      have n7_ := Aside0.mk (below_drew1 HB.out)
      clear HO_311002
      clear HO_317002
      clear HO_324002
      clear BK297
      clear BK310
      clear BK316
      clear BK323
      clear HB
      have HO_311002 := n0_
      have HO_317002 := n1_
      have HO_324002 := n2_
      have BK297 := n3_
      have BK310 := n4_
      have BK316 := n5_
      have BK323 := n6_
      have HB := n7_
      clear n0_ n1_ n2_ n3_ n4_ n5_ n6_ n7_
      refine start_ (n := 5) (S := fun w' => w'.cell? ⟨gb316, 0, none⟩ = some (.int .i64 t311) ∧ w'.cell? ⟨gb316, 1, none⟩ = some (.int .i64 t312) ∧ w'.cell? ⟨gb316, 2, none⟩ = some (.slice Ao30 t313.length co30) ∧ w'.cell? ⟨gb297, 0, none⟩ = some (.int .i64 a0_0) ∧ w'.cell? ⟨gb297, 1, none⟩ = some (.int .i64 a0_1) ∧ w'.cell? ⟨gb297, 2, none⟩ = some (.slice A0_2 l0_2.length c0_2)) (ds := []) #[false, false, false, false, false] (by kernel_rfl) rfl rfl ⟨(blk_cell BK316.out 0).trans rfl, (blk_cell BK316.out 1).trans rfl, (blk_cell BK316.out 2).trans rfl, (blk_cell BK297.out 0).trans rfl, (blk_cell BK297.out 1).trans rfl, (blk_cell BK297.out 2).trans rfl⟩ (fun hHeld => ?_)
      generalize wc.drew = w62 at HO_311002 HO_317002 HO_324002 BK297 BK310 BK316 BK323 HB hHeld ⊢
      refine take_ (i := 0) (N := some 45) (v := ?_) (a' := ?_) #[true, false, false, false, false] rfl rfl (by kernel_rfl) (fun _ _ _ h => h) (Or.inl ⟨by rfl, ?_⟩) hHeld ?_ ?_
      rotate_left
      ·rintro w' ⟨s0, s1, s2, s3, s4, s5⟩
       go_simp
       with_reducible rfl
      rotate_left
      ·simp only [Act.put, List.setIfInBounds_toArray, List.set_cons_zero, List.set_cons_succ, i64_w, i32_w]
       rfl
      refine take_ (i := 1) (N := some 46) (v := ?_) (a' := ?_) #[true, true, false, false, false] rfl rfl (by kernel_rfl) (fun _ _ _ h => h) (Or.inl ⟨by rfl, ?_⟩) hHeld ?_ ?_
      rotate_left
      ·rintro w' ⟨s0, s1, s2, s3, s4, s5⟩
       go_simp
       with_reducible rfl
      rotate_left
      ·simp only [Act.put, List.setIfInBounds_toArray, List.set_cons_zero, List.set_cons_succ, i64_w, i32_w]
       rfl
      refine one_ (i := 2) (N := some 47) #[true, true, true, false, false] rfl rfl (by kernel_rfl) (by decide) (fun K hK => ?_)
      refine goes_ Try.func36 (by kernel_rfl) rfl #[.agg #[.int .i64 a0_0, .int .i64 a0_1, .slice A0_2 l0_2.length c0_2]] (by rfl) rfl rfl itp ?_
      with_reducible refine (laws_toCut.calls kj11 a0_0 a0_1 _ _ l0_2 t325 t326 t327 _ ?side1 ?side2 A57.out).mono ?_
      (case side1 => repeat (first | exact (Kd.C_below HR0_2.out HB.out) | (with_reducible refine Kd.C_alloc ?_ _) | (with_reducible refine Kd.C_drewN ?_ _) | (with_reducible refine Kd.C_drew ?_)))
      (case side2 => exact HC0_2.out)
      rintro e w63 ⟨v328, rfl, ho0, hb⟩
      refine ⟨_, rfl, ?_⟩
      have n0_ := Aside0.mk (Kd.R_elder' (upR HO_311002) (Kd.R_base ho0) hb)
      have n1_ := Aside0.mk (Kd.R_elder' (upR HO_317002) (Kd.R_base ho0) hb)
      have n2_ := Aside0.mk (Kd.R_elder' (upR HO_324002) (Kd.R_base ho0) hb)
      have n3_ := Aside0.mk (Kd.R_lower (Kd.R_new' (Kd.R_new' (Kd.R_new' ho0 (Kd.R_lt (upR HO_311002))) (Kd.R_lt (upR HO_317002))) (Kd.R_lt (upR HO_324002))) (below_size (upW HB)))
      have n4_ := Aside0.mk (blk_below (upK BK297) hb)
      have n5_ := Aside0.mk (blk_below (upK BK310) hb)
      have n6_ := Aside0.mk (blk_below (upK BK316) hb)
      have n7_ := Aside0.mk (blk_below (upK BK323) hb)
      have n8_ := Aside0.mk (below_step (upW HB) hb)
      clear HO_311002
      clear HO_317002
      clear HO_324002
      clear BK297
      clear BK310
      clear BK316
      clear BK323
      clear HB
      have HO_311002 := n0_
      have HO_317002 := n1_
      have HO_324002 := n2_
      have HO329 := n3_
      have BK297 := n4_
      have BK310 := n5_
      have BK316 := n6_
      have BK323 := n7_
      have HB := n8_
      clear n0_ n1_ n2_ n3_ n4_ n5_ n6_ n7_ n8_
      (try clear hb)
      (try clear hb2)
      (try clear hk)
      (try clear hi)
      (try clear ho0)
      obtain ⟨Ao64, co64, eo64⟩ := Kd.R_slice HO329.out
      (first | subst eo64 | (injection eo64 with f1_ f2_ f3_; have f4_ := f1_.symm; have f5_ := f3_.symm; clear f1_ f2_ f3_; subst f4_; subst f5_))
      refine hK.out _ _ ⟨(blk_cell BK316.out 0).trans rfl, (blk_cell BK316.out 1).trans rfl, (blk_cell BK316.out 2).trans rfl, (blk_cell BK297.out 0).trans rfl, (blk_cell BK297.out 1).trans rfl, (blk_cell BK297.out 2).trans rfl⟩ (fun hHeld => ?_)
      clear hK K
      refine norm_ (a' := ?_) ?_ ?_
      rotate_left
      ·show Act.put _ (some 47) _ = _
       simp only [Act.put, List.setIfInBounds_toArray, List.set_cons_zero, List.set_cons_succ, i64_w, i32_w]
       rfl
      refine one_ (i := 3) (N := some 48) #[true, true, true, true, false] rfl rfl (by kernel_rfl) (by decide) (fun K hK => ?_)
      refine goes_ Try.func38 (by kernel_rfl) rfl #[.agg #[.int .i64 t311, .int .i64 t312, .slice Ao30 t313.length co30], .agg #[.int .i64 t325, .int .i64 t326, .slice Ao64 t327.length co64]] (by rfl) rfl rfl itp ?_
      with_reducible refine (laws_eqCut.calls kj11 t311 t312 _ _ t313 t325 t326 _ _ t327 true _ ?side1 ?side2 ?side3 ?side4 A58.out).mono ?_
      (case side1 => repeat (first | exact (Kd.R_reads' HO_317002.out).2.2 | (with_reducible refine Kd.C_alloc ?_ _) | (with_reducible refine Kd.C_drewN ?_ _) | (with_reducible refine Kd.C_drew ?_)))
      (case side2 => exact (Kd.R_reads' HO_317002.out).2.1)
      (case side3 => repeat (first | exact (Kd.R_reads' HO329.out).2.2 | (with_reducible refine Kd.C_alloc ?_ _) | (with_reducible refine Kd.C_drewN ?_ _) | (with_reducible refine Kd.C_drew ?_)))
      (case side4 => exact (Kd.R_reads' HO329.out).2.1)
      rintro e w65 ⟨rfl, hb⟩
      refine ⟨_, rfl, ?_⟩
      have n0_ := Aside0.mk (Kd.R_below (upR HO_311002) hb)
      have n1_ := Aside0.mk (Kd.R_below (upR HO_317002) hb)
      have n2_ := Aside0.mk (Kd.R_below (upR HO_324002) hb)
      have n3_ := Aside0.mk (Kd.R_below (upR HO329) hb)
      have n4_ := Aside0.mk (blk_below (upK BK297) hb)
      have n5_ := Aside0.mk (blk_below (upK BK310) hb)
      have n6_ := Aside0.mk (blk_below (upK BK316) hb)
      have n7_ := Aside0.mk (blk_below (upK BK323) hb)
      have n8_ := Aside0.mk (below_step (upW HB) hb)
      clear HO_311002
      clear HO_317002
      clear HO_324002
      clear HO329
      clear BK297
      clear BK310
      clear BK316
      clear BK323
      clear HB
      have HO_311002 := n0_
      have HO_317002 := n1_
      have HO_324002 := n2_
      have HO329 := n3_
      have BK297 := n4_
      have BK310 := n5_
      have BK316 := n6_
      have BK323 := n7_
      have HB := n8_
      clear n0_ n1_ n2_ n3_ n4_ n5_ n6_ n7_ n8_
      (try clear hb)
      (try clear hb2)
      (try clear hk)
      (try clear hi)
      refine hK.out _ _ ⟨(blk_cell BK316.out 0).trans rfl, (blk_cell BK316.out 1).trans rfl, (blk_cell BK316.out 2).trans rfl, (blk_cell BK297.out 0).trans rfl, (blk_cell BK297.out 1).trans rfl, (blk_cell BK297.out 2).trans rfl⟩ (fun hHeld => ?_)
      clear hK K
      refine norm_ (a' := ?_) ?_ ?_
      rotate_left
      ·show Act.put _ (some 48) _ = _
       simp only [Act.put, List.setIfInBounds_toArray, List.set_cons_zero, List.set_cons_succ, i64_w, i32_w]
       rfl
      refine pure_ (i := 4) (N := some 49) (v := ?_) (a' := ?_) #[true, true, true, true, true] rfl rfl (by kernel_rfl) (fun _ _ _ h => h) (Or.inl ⟨by rfl, ?_⟩) ?_ ?_
      rotate_left
      ·intro w'
       go_simp
       with_reducible rfl
      rotate_left
      ·simp only [Act.put, List.setIfInBounds_toArray, List.set_cons_zero, List.set_cons_succ, i64_w, i32_w]
       rfl
      refine done_ (by kernel_rfl) ?_
      have hnb66 := NB316_297.out
      have hnc66 := NB297_316.out
      have hnb67 := NB316_310.out
      have hnc67 := NB310_316.out
      have hnb68 := NB316_323.out
      have hnc68 := NB323_316.out
      have hcz69_0 : w65.cell? ⟨gb316, 0, none⟩ = some (.int .i64 t311) := (blk_cell BK316.out 0).trans rfl
      have hcz69_1 : w65.cell? ⟨gb316, 1, none⟩ = some (.int .i64 t312) := (blk_cell BK316.out 1).trans rfl
      have hcz69_2 : w65.cell? ⟨gb316, 2, none⟩ = some (.slice Ao30 t313.length co30) := (blk_cell BK316.out 2).trans rfl
      have hfz69_0 := blk_frozen BK316.out 0
      have hfz69_1 := blk_frozen BK316.out 1
      have hfz69_2 := blk_frozen BK316.out 2
      go_upto_region 14 with (first | ((with_reducible refine gate_callee (f := 39) rfl ?_); refine goesL_ (some 52) rfl rfl Try.func39 (by kernel_rfl) rfl #[.agg #[.int .i64 t311, .int .i64 t312, .slice Ao30 t313.length co30], .int .i64 1] rfl itp ?_; (with_reducible refine (laws_markCut.calls kj11 t311 t312 (fun k_ => some k_ = (.slice Ao30 t313.length co30 : Value).ownBlock) (.slice Ao30 t313.length co30) t313 1 t331 t332 w _ ?side1 ?side2 A60.out).mono ?_); (case side1 => repeat (first | (with_reducible first | exact HB.out | apply below_alloc | apply pw_below_drewN | apply below_drew1 | refine below_set ?_ GE297.out | refine below_set ?_ GE310.out | refine below_set ?_ GE316.out | refine below_set ?_ GE323.out) | exact HB.out)); (case side2 => exact Kd.R_tight rfl HO_317002.out); rintro e w70 ⟨rfl, hy0, hb, hkp⟩; refine ⟨_, rfl, ?_⟩; have n0_ := Aside0.mk (Kd.R_mono (ok' := fun k_ => some k_ ≠ (.slice Ao30 t313.length co30 : Value).ownBlock ∧ some k_ ≠ (.slice Ao37 t319.length co37 : Value).ownBlock ∧ some k_ ≠ (.slice Ao64 t327.length co64 : Value).ownBlock) (Kd.R_keptB (HO_311002.out) hkp (fun k_ hk_ hs_ => (hk_.1.1) hs_)) (fun k_ hk_ => ⟨hk_.1.1.1, hk_.1.1.2, hk_.1.2⟩)); have n1_ := Aside0.mk (Kd.R_reok rfl hy0 (fun k_ e_ => HO_317002.out.1 k_ e_)); have n2_ := Aside0.mk (Kd.R_mono (ok' := fun k_ => some k_ ≠ (.slice Ao23 t306.length co23 : Value).ownBlock ∧ some k_ ≠ (.slice Ao30 t313.length co30 : Value).ownBlock ∧ some k_ ≠ (.slice Ao64 t327.length co64 : Value).ownBlock) (Kd.R_keptB (HO_324002.out) hkp (fun k_ hk_ hs_ => (hk_.1.2) hs_)) (fun k_ hk_ => ⟨hk_.1.1.1, hk_.1.1.2, hk_.1.2⟩)); have n3_ := Aside0.mk (blk_kept (upK BK297) hkp (fun hs_ => (fun e_ => (Kd.R_ne HO_317002.out BK297.out (by decide)) e_) hs_)); have n4_ := Aside0.mk (blk_kept (upK BK310) hkp (fun hs_ => (fun e_ => (Kd.R_ne HO_317002.out BK310.out (by decide)) e_) hs_)); have n5_ := Aside0.mk (blk_kept (upK BK316) hkp (fun hs_ => (fun e_ => (Kd.R_ne HO_317002.out BK316.out (by decide)) e_) hs_)); have n6_ := Aside0.mk (blk_kept (upK BK323) hkp (fun hs_ => (fun e_ => (Kd.R_ne HO_317002.out BK323.out (by decide)) e_) hs_)); have n7_ := Aside0.mk (Kd.R_mono (ok' := fun k_ => some k_ ≠ (.slice Ao23 t306.length co23 : Value).ownBlock ∧ some k_ ≠ (.slice Ao30 t313.length co30 : Value).ownBlock ∧ some k_ ≠ (.slice Ao37 t319.length co37 : Value).ownBlock) (Kd.R_keptB (HO329.out) hkp (fun k_ hk_ hs_ => (hk_.1.2) hs_)) (fun k_ hk_ => ⟨hk_.1.1.1.2, hk_.1.1.2, hk_.1.2⟩)); have n8_ := Aside0.mk (hb); clear HO_311002; clear HO_317002; clear HO_324002; clear BK297; clear BK310; clear BK316; clear BK323; clear HO329; clear HB; have HO_311002 := n0_; have HO_317002 := n1_; have HO_324002 := n2_; have BK297 := n3_; have BK310 := n4_; have BK316 := n5_; have BK323 := n6_; have HO329 := n7_; have HB := n8_; clear n0_ n1_ n2_ n3_ n4_ n5_ n6_ n7_ n8_; (try clear hb); (try clear hkp); (try clear hy0)))
      (try simp only [Act.put, List.setIfInBounds_toArray, List.set_cons_zero, List.set_cons_succ])
      go_cut [65] (fun v65 wc => ∃ (kq : Nat) (x65_60 : Bool), v65 = .bool x65_60 ∧ Aside0 (laws_FnExactGrowCut.j1 kq a1 t309 x65_60 a0_0 a0_1 l0_2 t304 t305 t306 t317 t318 t319 = some r) ∧ Aside0 (kq ≤ kj11) ∧ Aside0 (Kd.R k83 83 wc w.heap.size (fun k_ => some k_ ≠ ((.slice Ao30 t313.length co30) : Value).ownBlock ∧ some k_ ≠ ((.slice Ao37 t319.length co37) : Value).ownBlock) (.slice Ao23 t306.length co23) t306) ∧ Aside0 (Kd.R k83 83 wc w.heap.size (fun k_ => some k_ ≠ ((.slice Ao23 t306.length co23) : Value).ownBlock ∧ some k_ ≠ ((.slice Ao37 t319.length co37) : Value).ownBlock) (.slice Ao30 t313.length co30) t332) ∧ Aside0 (Kd.R k83 83 wc w.heap.size (fun k_ => some k_ ≠ ((.slice Ao23 t306.length co23) : Value).ownBlock ∧ some k_ ≠ ((.slice Ao30 t313.length co30) : Value).ownBlock) (.slice Ao37 t319.length co37) t319) ∧ Aside0 (wc.heap[gb297]? = some (.cells #[.int .i64 a0_0, .int .i64 a0_1, (.slice A0_2 l0_2.length c0_2)] 44 (0, 0))) ∧ Aside0 (wc.heap[gb310]? = some (.cells #[.int .i64 t304, .int .i64 t305, (.slice Ao23 t306.length co23)] 48 (0, 0))) ∧ Aside0 (wc.heap[gb316]? = some (.cells #[.int .i64 t311, .int .i64 t312, (.slice Ao30 t313.length co30)] 48 (0, 0))) ∧ Aside0 (wc.heap[gb323]? = some (.cells #[.int .i64 t317, .int .i64 t318, (.slice Ao37 t319.length co37)] 48 (0, 0))) ∧ Aside0 (Below w.heap.size w wc))
      case first =>
       have H := HC61.out
       clear HC61
       by_cases c71 : t331 < 0
       ·rw [if_pos c71] at H
        have c71b0 : decide (t331 < 0) = true := decide_eq_true c71
        clear c71
        (first | rw [c71b0] | (simp only [i64_w, i32_w]; rw [c71b0]) | skip)
        have H' := Aside0.mk H
        clear H
        go_wp2
        go_meet
        case rel => exact ⟨_, (true), (by first | rfl | (simp; done) | (simp [*]; done)), H', ⟨by have := HJ11.out; first | omega | exact Nat.le_refl _⟩, ⟨by (with_reducible repeat (first | apply Kd.R_alloc | apply Kd.R_drewN | apply Kd.R_drew)); exact Kd.R_mono HO_311002.out (fun _ hk => ⟨hk.1, hk.2.1⟩)⟩, ⟨by (with_reducible repeat (first | apply Kd.R_alloc | apply Kd.R_drewN | apply Kd.R_drew)); exact Kd.R_mono HO_317002.out (fun _ hk => ⟨hk.1.1, hk.1.2⟩)⟩, ⟨by (with_reducible repeat (first | apply Kd.R_alloc | apply Kd.R_drewN | apply Kd.R_drew)); exact Kd.R_mono HO_324002.out (fun _ hk => ⟨hk.1, hk.2.1⟩)⟩, ⟨upK BK297⟩, ⟨upK BK310⟩, ⟨upK BK316⟩, ⟨upK BK323⟩, ⟨upW HB⟩⟩
       ·rw [if_neg c71] at H
        have c71b0 : decide (t331 < 0) = false := decide_eq_false c71
        clear c71
        (first | rw [c71b0] | (simp only [i64_w, i32_w]; rw [c71b0]) | skip)
        replace H := Option.bind_eq_some_iff.mp H
        obtain ⟨t333, A720, H⟩ := H
        replace H : (if t333 = true then (laws_FnExactGrowCut.j1 kj11 a1 t309 (t322 != t309) a0_0 a0_1 l0_2 t304 t305 t306 t317 t318 t319) else (laws_FnExactGrowCut.j1 kj11 a1 t309 true a0_0 a0_1 l0_2 t304 t305 t306 t317 t318 t319)) = some r := H
        have A72 := Aside0.mk A720
        clear A720
        by_cases c73 : t333 = true
        ·subst c73
         have H1 : (laws_FnExactGrowCut.j1 kj11 a1 t309 (t322 != t309) a0_0 a0_1 l0_2 t304 t305 t306 t317 t318 t319) = some r := by rw [if_pos rfl] at H; exact H
         clear H
         have H := H1
         clear H1
         have H' := Aside0.mk H
         clear H
         have hnb74 := NB323_297.out
         have hnc74 := NB297_323.out
         have hnb75 := NB323_310.out
         have hnc75 := NB310_323.out
         have hnb76 := NB323_316.out
         have hnc76 := NB316_323.out
         have hcz77_0 : w70.cell? ⟨gb323, 0, none⟩ = some (.int .i64 t317) := (blk_cell BK323.out 0).trans rfl
         have hcz77_1 : w70.cell? ⟨gb323, 1, none⟩ = some (.int .i64 t318) := (blk_cell BK323.out 1).trans rfl
         have hcz77_2 : w70.cell? ⟨gb323, 2, none⟩ = some (.slice Ao37 t319.length co37) := (blk_cell BK323.out 2).trans rfl
         have hfz77_0 := blk_frozen BK323.out 0
         have hfz77_1 := blk_frozen BK323.out 1
         have hfz77_2 := blk_frozen BK323.out 2
         have hnb78 := NB310_297.out
         have hnc78 := NB297_310.out
         have hnb79 := NB310_316.out
         have hnc79 := NB316_310.out
         have hcz80_0 : w70.cell? ⟨gb310, 0, none⟩ = some (.int .i64 t304) := (blk_cell BK310.out 0).trans rfl
         have hcz80_1 : w70.cell? ⟨gb310, 1, none⟩ = some (.int .i64 t305) := (blk_cell BK310.out 1).trans rfl
         have hcz80_2 : w70.cell? ⟨gb310, 2, none⟩ = some (.slice Ao23 t306.length co23) := (blk_cell BK310.out 2).trans rfl
         have hfz80_0 := blk_frozen BK310.out 0
         have hfz80_1 := blk_frozen BK310.out 1
         have hfz80_2 := blk_frozen BK310.out 2
         go_wp2_with (first | (go_at_call 38; (with_reducible refine (laws_eqCut.calls kj11 t317 t318 _ _ t319 t304 t305 _ _ t306 true _ ?side1 ?side2 ?side3 ?side4 A72.out).mono ?_); (case side1 => repeat (first | exact (Kd.R_reads' HO_324002.out).2.2 | (with_reducible refine Kd.C_alloc ?_ _) | (with_reducible refine Kd.C_drewN ?_ _) | (with_reducible refine Kd.C_drew ?_))); (case side2 => exact (Kd.R_reads' HO_324002.out).2.1); (case side3 => repeat (first | exact (Kd.R_reads' HO_311002.out).2.2 | (with_reducible refine Kd.C_alloc ?_ _) | (with_reducible refine Kd.C_drewN ?_ _) | (with_reducible refine Kd.C_drew ?_))); (case side4 => exact (Kd.R_reads' HO_311002.out).2.1); rintro e w81 ⟨rfl, hb⟩; have n0_ := Aside0.mk (Kd.R_below (upR HO_311002) hb); have n1_ := Aside0.mk (Kd.R_below (upR HO_317002) hb); have n2_ := Aside0.mk (Kd.R_below (upR HO_324002) hb); have n3_ := Aside0.mk (Kd.R_below (upR HO329) hb); have n4_ := Aside0.mk (blk_below (upK BK297) hb); have n5_ := Aside0.mk (blk_below (upK BK310) hb); have n6_ := Aside0.mk (blk_below (upK BK316) hb); have n7_ := Aside0.mk (blk_below (upK BK323) hb); have n8_ := Aside0.mk (below_step (upW HB) hb); clear HO_311002; clear HO_317002; clear HO_324002; clear HO329; clear BK297; clear BK310; clear BK316; clear BK323; clear HB; have HO_311002 := n0_; have HO_317002 := n1_; have HO_324002 := n2_; have HO329 := n3_; have BK297 := n4_; have BK310 := n5_; have BK316 := n6_; have BK323 := n7_; have HB := n8_; clear n0_ n1_ n2_ n3_ n4_ n5_ n6_ n7_ n8_; (try clear hb); (try clear hb2); (try clear hk); (try clear hi)))
         go_meet
         case rel => exact ⟨_, ((t322 != t309)), (by first | rfl | (simp; done) | (simp [*]; done)), H', ⟨by have := HJ11.out; first | omega | exact Nat.le_refl _⟩, ⟨by (with_reducible repeat (first | apply Kd.R_alloc | apply Kd.R_drewN | apply Kd.R_drew)); exact Kd.R_mono HO_311002.out (fun _ hk => ⟨hk.1, hk.2.1⟩)⟩, ⟨by (with_reducible repeat (first | apply Kd.R_alloc | apply Kd.R_drewN | apply Kd.R_drew)); exact Kd.R_mono HO_317002.out (fun _ hk => ⟨hk.1.1, hk.1.2⟩)⟩, ⟨by (with_reducible repeat (first | apply Kd.R_alloc | apply Kd.R_drewN | apply Kd.R_drew)); exact Kd.R_mono HO_324002.out (fun _ hk => ⟨hk.1, hk.2.1⟩)⟩, ⟨upK BK297⟩, ⟨upK BK310⟩, ⟨upK BK316⟩, ⟨upK BK323⟩, ⟨upW HB⟩⟩
        ·replace c73 := Bool.eq_false_iff.mpr c73
         subst c73
         have H1 : (laws_FnExactGrowCut.j1 kj11 a1 t309 true a0_0 a0_1 l0_2 t304 t305 t306 t317 t318 t319) = some r := by rw [if_neg (show ¬ (false = true) by decide)] at H; exact H
         clear H
         have H := H1
         clear H1
         have H' := Aside0.mk H
         clear H
         have hnb82 := NB323_297.out
         have hnc82 := NB297_323.out
         have hnb83 := NB323_310.out
         have hnc83 := NB310_323.out
         have hnb84 := NB323_316.out
         have hnc84 := NB316_323.out
         have hcz85_0 : w70.cell? ⟨gb323, 0, none⟩ = some (.int .i64 t317) := (blk_cell BK323.out 0).trans rfl
         have hcz85_1 : w70.cell? ⟨gb323, 1, none⟩ = some (.int .i64 t318) := (blk_cell BK323.out 1).trans rfl
         have hcz85_2 : w70.cell? ⟨gb323, 2, none⟩ = some (.slice Ao37 t319.length co37) := (blk_cell BK323.out 2).trans rfl
         have hfz85_0 := blk_frozen BK323.out 0
         have hfz85_1 := blk_frozen BK323.out 1
         have hfz85_2 := blk_frozen BK323.out 2
         have hnb86 := NB310_297.out
         have hnc86 := NB297_310.out
         have hnb87 := NB310_316.out
         have hnc87 := NB316_310.out
         have hcz88_0 : w70.cell? ⟨gb310, 0, none⟩ = some (.int .i64 t304) := (blk_cell BK310.out 0).trans rfl
         have hcz88_1 : w70.cell? ⟨gb310, 1, none⟩ = some (.int .i64 t305) := (blk_cell BK310.out 1).trans rfl
         have hcz88_2 : w70.cell? ⟨gb310, 2, none⟩ = some (.slice Ao23 t306.length co23) := (blk_cell BK310.out 2).trans rfl
         have hfz88_0 := blk_frozen BK310.out 0
         have hfz88_1 := blk_frozen BK310.out 1
         have hfz88_2 := blk_frozen BK310.out 2
         go_wp2_with (first | (go_at_call 38; (with_reducible refine (laws_eqCut.calls kj11 t317 t318 _ _ t319 t304 t305 _ _ t306 false _ ?side1 ?side2 ?side3 ?side4 A72.out).mono ?_); (case side1 => repeat (first | exact (Kd.R_reads' HO_324002.out).2.2 | (with_reducible refine Kd.C_alloc ?_ _) | (with_reducible refine Kd.C_drewN ?_ _) | (with_reducible refine Kd.C_drew ?_))); (case side2 => exact (Kd.R_reads' HO_324002.out).2.1); (case side3 => repeat (first | exact (Kd.R_reads' HO_311002.out).2.2 | (with_reducible refine Kd.C_alloc ?_ _) | (with_reducible refine Kd.C_drewN ?_ _) | (with_reducible refine Kd.C_drew ?_))); (case side4 => exact (Kd.R_reads' HO_311002.out).2.1); rintro e w89 ⟨rfl, hb⟩; have n0_ := Aside0.mk (Kd.R_below (upR HO_311002) hb); have n1_ := Aside0.mk (Kd.R_below (upR HO_317002) hb); have n2_ := Aside0.mk (Kd.R_below (upR HO_324002) hb); have n3_ := Aside0.mk (Kd.R_below (upR HO329) hb); have n4_ := Aside0.mk (blk_below (upK BK297) hb); have n5_ := Aside0.mk (blk_below (upK BK310) hb); have n6_ := Aside0.mk (blk_below (upK BK316) hb); have n7_ := Aside0.mk (blk_below (upK BK323) hb); have n8_ := Aside0.mk (below_step (upW HB) hb); clear HO_311002; clear HO_317002; clear HO_324002; clear HO329; clear BK297; clear BK310; clear BK316; clear BK323; clear HB; have HO_311002 := n0_; have HO_317002 := n1_; have HO_324002 := n2_; have HO329 := n3_; have BK297 := n4_; have BK310 := n5_; have BK316 := n6_; have BK323 := n7_; have HB := n8_; clear n0_ n1_ n2_ n3_ n4_ n5_ n6_ n7_ n8_; (try clear hb); (try clear hb2); (try clear hk); (try clear hi)))
         go_meet
         case rel => exact ⟨_, (true), (by first | rfl | (simp; done) | (simp [*]; done)), H', ⟨by have := HJ11.out; first | omega | exact Nat.le_refl _⟩, ⟨by (with_reducible repeat (first | apply Kd.R_alloc | apply Kd.R_drewN | apply Kd.R_drew)); exact Kd.R_mono HO_311002.out (fun _ hk => ⟨hk.1, hk.2.1⟩)⟩, ⟨by (with_reducible repeat (first | apply Kd.R_alloc | apply Kd.R_drewN | apply Kd.R_drew)); exact Kd.R_mono HO_317002.out (fun _ hk => ⟨hk.1.1, hk.1.2⟩)⟩, ⟨by (with_reducible repeat (first | apply Kd.R_alloc | apply Kd.R_drewN | apply Kd.R_drew)); exact Kd.R_mono HO_324002.out (fun _ hk => ⟨hk.1, hk.2.1⟩)⟩, ⟨upK BK297⟩, ⟨upK BK310⟩, ⟨upK BK316⟩, ⟨upK BK323⟩, ⟨upW HB⟩⟩
      case rest =>
       clear HC61
       try clear c1
       try clear c2
       try clear p2
       try clear c3
       try clear c4
       try clear c4b0
       try clear c5
       try clear c6
       try clear c7
       try clear c8
       try clear c12
       try clear c21
       try clear c27
       try clear c28
       try clear c33
       try clear c34
       try clear c35
       try clear c36
       try clear c38
       try clear c39
       try clear c40
       try clear c41
       try clear c42
       try clear c44
       try clear c45
       try clear c46
       try clear c48
       try clear c49
       try clear c50
       try clear c52
       try clear c53
       try clear c56
       try clear c59
       try clear c66
       try clear c67
       try clear c68
       try clear c71
       try clear c71b0
       try clear c73
       try clear c74
       try clear c75
       try clear c76
       try clear c78
       try clear c79
       try clear c82
       try clear c83
       try clear c84
       try clear c86
       try clear c87
       try clear hcz14_0
       try clear hcz14_1
       try clear hcz14_2
       try clear hcz16_0
       try clear hcz16_1
       try clear hcz16_2
       try clear hcz22_0
       try clear hcz22_1
       try clear hcz22_2
       try clear hcz24_0
       try clear hcz24_1
       try clear hcz24_2
       try clear hcz29_0
       try clear hcz29_1
       try clear hcz29_2
       try clear hcz36_0
       try clear hcz36_1
       try clear hcz36_2
       try clear hcz43_0
       try clear hcz43_1
       try clear hcz43_2
       try clear hcz46_0
       try clear hcz46_1
       try clear hcz46_2
       try clear hcz51_0
       try clear hcz51_1
       try clear hcz51_2
       try clear hcz54_0
       try clear hcz54_1
       try clear hcz54_2
       try clear hcz69_0
       try clear hcz69_1
       try clear hcz69_2
       try clear hcz6_0
       try clear hcz6_1
       try clear hcz6_2
       try clear hcz77_0
       try clear hcz77_1
       try clear hcz77_2
       try clear hcz80_0
       try clear hcz80_1
       try clear hcz80_2
       try clear hcz85_0
       try clear hcz85_1
       try clear hcz85_2
       try clear hcz88_0
       try clear hcz88_1
       try clear hcz88_2
       try clear hfz14_0
       try clear hfz14_1
       try clear hfz14_2
       try clear hfz16_0
       try clear hfz16_1
       try clear hfz16_2
       try clear hfz22_0
       try clear hfz22_1
       try clear hfz22_2
       try clear hfz24_0
       try clear hfz24_1
       try clear hfz24_2
       try clear hfz29_0
       try clear hfz29_1
       try clear hfz29_2
       try clear hfz36_0
       try clear hfz36_1
       try clear hfz36_2
       try clear hfz43_0
       try clear hfz43_1
       try clear hfz43_2
       try clear hfz46_0
       try clear hfz46_1
       try clear hfz46_2
       try clear hfz51_0
       try clear hfz51_1
       try clear hfz51_2
       try clear hfz54_0
       try clear hfz54_1
       try clear hfz54_2
       try clear hfz69_0
       try clear hfz69_1
       try clear hfz69_2
       try clear hfz6_0
       try clear hfz6_1
       try clear hfz6_2
       try clear hfz77_0
       try clear hfz77_1
       try clear hfz77_2
       try clear hfz80_0
       try clear hfz80_1
       try clear hfz80_2
       try clear hfz85_0
       try clear hfz85_1
       try clear hfz85_2
       try clear hfz88_0
       try clear hfz88_1
       try clear hfz88_2
       try clear p2
       obtain ⟨kq, x65_60, rfl, HA, HJ60, HO_311002, HO_317002, HO_324002, BK297, BK310, BK316, BK323, HB⟩ := hcut
       have hl317002_60 := (Kd.R_reads' HO_317002.out).1
       rw [hl317002_60] at HO_317002
       (try simp only [hl317002_60])
       (try simp only [hl317002_60] at BK297)
       (try simp only [hl317002_60] at BK310)
       (try simp only [hl317002_60] at BK316)
       (try simp only [hl317002_60] at BK323)
       (try simp only [hl317002_60] at HO_311002)
       (try simp only [hl317002_60] at HO_324002)
       cases kq with
       | zero => exact absurd HA.out (by simp [laws_FnExactGrowCut.j1])
       | succ kj60 =>
        have H := HA.out
        clear HA
        simp only [laws_FnExactGrowCut.j1] at H
        by_cases c90 : x65_60 = true
        ·subst c90
         have H1 : (some false) = some r := by rw [if_pos rfl] at H; exact H
         clear H
         have H := H1
         clear H1
         obtain rfl := Option.some.inj H
         go_wp2
         go_ret
         exact ⟨by first | rfl | (simp [errW_none, errW_some] <;> rfl) | (simp [*, errW_none, errW_some] <;> rfl), by repeat (first | (with_reducible first | exact HB.out | apply below_alloc | apply pw_below_drewN | apply below_drew1 | refine below_set ?_ GE297.out | refine below_set ?_ GE310.out | refine below_set ?_ GE316.out | refine below_set ?_ GE323.out) | exact HB.out)⟩
        ·replace c90 := Bool.eq_false_iff.mpr c90
         subst c90
         have H1 : ((laws_markCut.f kj60 t317 t318 t319 1).bind fun bt334 => ((laws_heldCut.f kj60 t317 t318 bt334.2 1).bind fun t336 => (if t336 < 0 then (some false) else (if t336 = bt334.1 then ((laws_toCut.f kj60 a0_0 a0_1 l0_2).bind fun bt337 => ((impl_GrowCut.f kj60 bt337.1 bt337.2.1 bt337.2.2 a1).bind fun bt342 => ((laws_eqCut.f kj60 bt342.1 bt342.2.1 bt342.2.2.1 t304 t305 t306).bind fun t349 => (if t349 = true then (laws_FnExactGrowCut.j2 kj60 bt334.1 (bt342.2.2.2 != t309) t317 t318 bt334.2) else (laws_FnExactGrowCut.j2 kj60 bt334.1 true t317 t318 bt334.2))))) else (some false))))) = some r := by rw [if_neg (show ¬ (false = true) by decide)] at H; exact H
         clear H
         have H := H1
         clear H1
         replace H := Option.bind_eq_some_iff.mp H
         obtain ⟨⟨t334, t335⟩, A910, H⟩ := H
         replace H : ((laws_heldCut.f kj60 t317 t318 t335 1).bind fun t336 => (if t336 < 0 then (some false) else (if t336 = t334 then ((laws_toCut.f kj60 a0_0 a0_1 l0_2).bind fun bt337 => ((impl_GrowCut.f kj60 bt337.1 bt337.2.1 bt337.2.2 a1).bind fun bt342 => ((laws_eqCut.f kj60 bt342.1 bt342.2.1 bt342.2.2.1 t304 t305 t306).bind fun t349 => (if t349 = true then (laws_FnExactGrowCut.j2 kj60 t334 (bt342.2.2.2 != t309) t317 t318 t335) else (laws_FnExactGrowCut.j2 kj60 t334 true t317 t318 t335))))) else (some false)))) = some r := H
         have A91 := Aside0.mk A910
         clear A910
         replace H := Option.bind_eq_some_iff.mp H
         obtain ⟨t336, A920, H⟩ := H
         replace H : (if t336 < 0 then (some false) else (if t336 = t334 then ((laws_toCut.f kj60 a0_0 a0_1 l0_2).bind fun bt337 => ((impl_GrowCut.f kj60 bt337.1 bt337.2.1 bt337.2.2 a1).bind fun bt342 => ((laws_eqCut.f kj60 bt342.1 bt342.2.1 bt342.2.2.1 t304 t305 t306).bind fun t349 => (if t349 = true then (laws_FnExactGrowCut.j2 kj60 t334 (bt342.2.2.2 != t309) t317 t318 t335) else (laws_FnExactGrowCut.j2 kj60 t334 true t317 t318 t335))))) else (some false))) = some r := H
         have A92 := Aside0.mk A920
         clear A920
         by_cases c93 : t336 < 0
         ·rw [if_pos c93] at H
          have c93b0 : decide (t336 < 0) = true := decide_eq_true c93
          clear c93
          obtain rfl := Option.some.inj H
          have hnb94 := NB323_297.out
          have hnc94 := NB297_323.out
          have hnb95 := NB323_310.out
          have hnc95 := NB310_323.out
          have hnb96 := NB323_316.out
          have hnc96 := NB316_323.out
          have hcz97_0 : wc.cell? ⟨gb323, 0, none⟩ = some (.int .i64 t317) := (blk_cell BK323.out 0).trans rfl
          have hcz97_1 : wc.cell? ⟨gb323, 1, none⟩ = some (.int .i64 t318) := (blk_cell BK323.out 1).trans rfl
          have hcz97_2 : wc.cell? ⟨gb323, 2, none⟩ = some (.slice Ao37 t319.length co37) := (blk_cell BK323.out 2).trans rfl
          have hfz97_0 := blk_frozen BK323.out 0
          have hfz97_1 := blk_frozen BK323.out 1
          have hfz97_2 := blk_frozen BK323.out 2
          go_wp2_with (first | ((with_reducible refine gate_callee (f := 39) rfl ?_); refine goesL_ (some 68) rfl rfl Try.func39 (by kernel_rfl) rfl #[.agg #[.int .i64 t317, .int .i64 t318, .slice Ao37 t319.length co37], .int .i64 1] rfl itp ?_; (with_reducible refine (laws_markCut.calls kj60 t317 t318 (fun k_ => some k_ = (.slice Ao37 t319.length co37 : Value).ownBlock) (.slice Ao37 t319.length co37) t319 1 t334 t335 w _ ?side1 ?side2 A91.out).mono ?_); (case side1 => repeat (first | (with_reducible first | exact HB.out | apply below_alloc | apply pw_below_drewN | apply below_drew1 | refine below_set ?_ GE297.out | refine below_set ?_ GE310.out | refine below_set ?_ GE316.out | refine below_set ?_ GE323.out) | exact HB.out)); (case side2 => exact Kd.R_tight rfl HO_324002.out); rintro e w98 ⟨rfl, hy0, hb, hkp⟩; refine ⟨_, rfl, ?_⟩; have n0_ := Aside0.mk (Kd.R_mono (ok' := fun k_ => some k_ ≠ (.slice Ao30 t332.length co30 : Value).ownBlock ∧ some k_ ≠ (.slice Ao37 t319.length co37 : Value).ownBlock) (Kd.R_keptB (HO_311002.out) hkp (fun k_ hk_ hs_ => (hk_.2) hs_)) (fun k_ hk_ => ⟨hk_.1.1, hk_.1.2⟩)); have n1_ := Aside0.mk (Kd.R_mono (ok' := fun k_ => some k_ ≠ (.slice Ao23 t306.length co23 : Value).ownBlock ∧ some k_ ≠ (.slice Ao37 t319.length co37 : Value).ownBlock) (Kd.R_keptB (HO_317002.out) hkp (fun k_ hk_ hs_ => (hk_.2) hs_)) (fun k_ hk_ => ⟨hk_.1.1, hk_.1.2⟩)); have n2_ := Aside0.mk (Kd.R_reok rfl hy0 (fun k_ e_ => HO_324002.out.1 k_ e_)); have n3_ := Aside0.mk (blk_kept (upK BK297) hkp (fun hs_ => (fun e_ => (Kd.R_ne HO_324002.out BK297.out (by decide)) e_) hs_)); have n4_ := Aside0.mk (blk_kept (upK BK310) hkp (fun hs_ => (fun e_ => (Kd.R_ne HO_324002.out BK310.out (by decide)) e_) hs_)); have n5_ := Aside0.mk (blk_kept (upK BK316) hkp (fun hs_ => (fun e_ => (Kd.R_ne HO_324002.out BK316.out (by decide)) e_) hs_)); have n6_ := Aside0.mk (blk_kept (upK BK323) hkp (fun hs_ => (fun e_ => (Kd.R_ne HO_324002.out BK323.out (by decide)) e_) hs_)); have n7_ := Aside0.mk (hb); clear HO_311002; clear HO_317002; clear HO_324002; clear BK297; clear BK310; clear BK316; clear BK323; clear HB; have HO_311002 := n0_; have HO_317002 := n1_; have HO_324002 := n2_; have BK297 := n3_; have BK310 := n4_; have BK316 := n5_; have BK323 := n6_; have HB := n7_; clear n0_ n1_ n2_ n3_ n4_ n5_ n6_ n7_; (try clear hb); (try clear hkp); (try clear hy0); have hcz99_0 : w98.cell? ⟨gb323, 0, none⟩ = some (.int .i64 t317) := (blk_cell BK323.out 0).trans rfl; have hcz99_1 : w98.cell? ⟨gb323, 1, none⟩ = some (.int .i64 t318) := (blk_cell BK323.out 1).trans rfl; have hcz99_2 : w98.cell? ⟨gb323, 2, none⟩ = some (.slice Ao37 t319.length co37) := (blk_cell BK323.out 2).trans rfl; have hfz99_0 := blk_frozen BK323.out 0; have hfz99_1 := blk_frozen BK323.out 1; have hfz99_2 := blk_frozen BK323.out 2) | ((with_reducible refine gate_callee (f := 40) rfl ?_); refine goesL_ (some 71) rfl rfl Try.func40 (by kernel_rfl) rfl #[.agg #[.int .i64 t317, .int .i64 t318, .slice Ao37 t335.length co37], .int .i64 1] rfl (by (try simp only [List.map_toArray, List.map_cons, List.map_nil]); first | done | (rw [show t335.length = t319.length from (Kd.R_reads' HO_324002.out).1.symm] <;> rfl) | rfl | (simp only [List.length_drop, List.length_take]; rfl)) ?_; (with_reducible refine (laws_heldCut.calls kj60 t317 t318 _ _ t335 1 t336 _ ?side1 ?side2 A92.out).mono ?_); (case side1 => repeat (first | exact (Kd.R_reads' HO_324002.out).2.2 | (with_reducible refine Kd.C_alloc ?_ _) | (with_reducible refine Kd.C_drewN ?_ _) | (with_reducible refine Kd.C_drew ?_))); (case side2 => rw [show t335.length = t319.length from (Kd.R_reads' HO_324002.out).1.symm]; exact (Kd.R_reads' HO_324002.out).2.1); rintro e w100 ⟨rfl, hb⟩; refine ⟨_, rfl, ?_⟩; have n0_ := Aside0.mk (Kd.R_below (upR HO_311002) hb); have n1_ := Aside0.mk (Kd.R_below (upR HO_317002) hb); have n2_ := Aside0.mk (Kd.R_below (upR HO_324002) hb); have n3_ := Aside0.mk (blk_below (upK BK297) hb); have n4_ := Aside0.mk (blk_below (upK BK310) hb); have n5_ := Aside0.mk (blk_below (upK BK316) hb); have n6_ := Aside0.mk (blk_below (upK BK323) hb); have n7_ := Aside0.mk (below_step (upW HB) hb); clear HO_311002; clear HO_317002; clear HO_324002; clear BK297; clear BK310; clear BK316; clear BK323; clear HB; have HO_311002 := n0_; have HO_317002 := n1_; have HO_324002 := n2_; have BK297 := n3_; have BK310 := n4_; have BK316 := n5_; have BK323 := n6_; have HB := n7_; clear n0_ n1_ n2_ n3_ n4_ n5_ n6_ n7_; (try clear hb); (try clear hb2); (try clear hk); (try clear hi)))
          go_ret
          exact ⟨by first | rfl | (simp [errW_none, errW_some] <;> rfl) | (simp [*, errW_none, errW_some] <;> rfl), by repeat (first | (with_reducible first | exact HB.out | apply below_alloc | apply pw_below_drewN | apply below_drew1 | refine below_set ?_ GE297.out | refine below_set ?_ GE310.out | refine below_set ?_ GE316.out | refine below_set ?_ GE323.out) | exact HB.out)⟩
         ·rw [if_neg c93] at H
          have c93b0 : decide (t336 < 0) = false := decide_eq_false c93
          clear c93
          by_cases c101 : t336 = t334
          ·rw [if_pos c101] at H
           have c101b0 : (t336 == t334) = true := beq_iff_eq.mpr c101
           have c101b1 : (t336 != t334) = false := bne_eq_false_iff_eq.mpr c101
           clear c101
           replace H := Option.bind_eq_some_iff.mp H
           obtain ⟨⟨t337, t338, t339⟩, A1020, H⟩ := H
           replace H : ((impl_GrowCut.f kj60 t337 t338 t339 a1).bind fun bt342 => ((laws_eqCut.f kj60 bt342.1 bt342.2.1 bt342.2.2.1 t304 t305 t306).bind fun t349 => (if t349 = true then (laws_FnExactGrowCut.j2 kj60 t334 (bt342.2.2.2 != t309) t317 t318 t335) else (laws_FnExactGrowCut.j2 kj60 t334 true t317 t318 t335)))) = some r := H
           have A102 := Aside0.mk A1020
           clear A1020
           replace H := Option.bind_eq_some_iff.mp H
           obtain ⟨⟨t342, t343, t344, t347⟩, A1030, H⟩ := H
           replace H : ((laws_eqCut.f kj60 t342 t343 t344 t304 t305 t306).bind fun t349 => (if t349 = true then (laws_FnExactGrowCut.j2 kj60 t334 (t347 != t309) t317 t318 t335) else (laws_FnExactGrowCut.j2 kj60 t334 true t317 t318 t335))) = some r := H
           have A103 := Aside0.mk A1030
           clear A1030
           have HC104 := Aside0.mk H
           clear H
           have hnb105 := NB323_297.out
           have hnc105 := NB297_323.out
           have hnb106 := NB323_310.out
           have hnc106 := NB310_323.out
           have hnb107 := NB323_316.out
           have hnc107 := NB316_323.out
           have hcz108_0 : wc.cell? ⟨gb323, 0, none⟩ = some (.int .i64 t317) := (blk_cell BK323.out 0).trans rfl
           have hcz108_1 : wc.cell? ⟨gb323, 1, none⟩ = some (.int .i64 t318) := (blk_cell BK323.out 1).trans rfl
           have hcz108_2 : wc.cell? ⟨gb323, 2, none⟩ = some (.slice Ao37 t319.length co37) := (blk_cell BK323.out 2).trans rfl
           have hfz108_0 := blk_frozen BK323.out 0
           have hfz108_1 := blk_frozen BK323.out 1
           have hfz108_2 := blk_frozen BK323.out 2
           go_upto_region 25 with (first | ((with_reducible refine gate_callee (f := 39) rfl ?_); refine goesL_ (some 68) rfl rfl Try.func39 (by kernel_rfl) rfl #[.agg #[.int .i64 t317, .int .i64 t318, .slice Ao37 t319.length co37], .int .i64 1] rfl itp ?_; (with_reducible refine (laws_markCut.calls kj60 t317 t318 (fun k_ => some k_ = (.slice Ao37 t319.length co37 : Value).ownBlock) (.slice Ao37 t319.length co37) t319 1 t334 t335 w _ ?side1 ?side2 A91.out).mono ?_); (case side1 => repeat (first | (with_reducible first | exact HB.out | apply below_alloc | apply pw_below_drewN | apply below_drew1 | refine below_set ?_ GE297.out | refine below_set ?_ GE310.out | refine below_set ?_ GE316.out | refine below_set ?_ GE323.out) | exact HB.out)); (case side2 => exact Kd.R_tight rfl HO_324002.out); rintro e w109 ⟨rfl, hy0, hb, hkp⟩; refine ⟨_, rfl, ?_⟩; have n0_ := Aside0.mk (Kd.R_mono (ok' := fun k_ => some k_ ≠ (.slice Ao30 t332.length co30 : Value).ownBlock ∧ some k_ ≠ (.slice Ao37 t319.length co37 : Value).ownBlock) (Kd.R_keptB (HO_311002.out) hkp (fun k_ hk_ hs_ => (hk_.2) hs_)) (fun k_ hk_ => ⟨hk_.1.1, hk_.1.2⟩)); have n1_ := Aside0.mk (Kd.R_mono (ok' := fun k_ => some k_ ≠ (.slice Ao23 t306.length co23 : Value).ownBlock ∧ some k_ ≠ (.slice Ao37 t319.length co37 : Value).ownBlock) (Kd.R_keptB (HO_317002.out) hkp (fun k_ hk_ hs_ => (hk_.2) hs_)) (fun k_ hk_ => ⟨hk_.1.1, hk_.1.2⟩)); have n2_ := Aside0.mk (Kd.R_reok rfl hy0 (fun k_ e_ => HO_324002.out.1 k_ e_)); have n3_ := Aside0.mk (blk_kept (upK BK297) hkp (fun hs_ => (fun e_ => (Kd.R_ne HO_324002.out BK297.out (by decide)) e_) hs_)); have n4_ := Aside0.mk (blk_kept (upK BK310) hkp (fun hs_ => (fun e_ => (Kd.R_ne HO_324002.out BK310.out (by decide)) e_) hs_)); have n5_ := Aside0.mk (blk_kept (upK BK316) hkp (fun hs_ => (fun e_ => (Kd.R_ne HO_324002.out BK316.out (by decide)) e_) hs_)); have n6_ := Aside0.mk (blk_kept (upK BK323) hkp (fun hs_ => (fun e_ => (Kd.R_ne HO_324002.out BK323.out (by decide)) e_) hs_)); have n7_ := Aside0.mk (hb); clear HO_311002; clear HO_317002; clear HO_324002; clear BK297; clear BK310; clear BK316; clear BK323; clear HB; have HO_311002 := n0_; have HO_317002 := n1_; have HO_324002 := n2_; have BK297 := n3_; have BK310 := n4_; have BK316 := n5_; have BK323 := n6_; have HB := n7_; clear n0_ n1_ n2_ n3_ n4_ n5_ n6_ n7_; (try clear hb); (try clear hkp); (try clear hy0); have hcz110_0 : w109.cell? ⟨gb323, 0, none⟩ = some (.int .i64 t317) := (blk_cell BK323.out 0).trans rfl; have hcz110_1 : w109.cell? ⟨gb323, 1, none⟩ = some (.int .i64 t318) := (blk_cell BK323.out 1).trans rfl; have hcz110_2 : w109.cell? ⟨gb323, 2, none⟩ = some (.slice Ao37 t319.length co37) := (blk_cell BK323.out 2).trans rfl; have hfz110_0 := blk_frozen BK323.out 0; have hfz110_1 := blk_frozen BK323.out 1; have hfz110_2 := blk_frozen BK323.out 2) | ((with_reducible refine gate_callee (f := 40) rfl ?_); refine goesL_ (some 71) rfl rfl Try.func40 (by kernel_rfl) rfl #[.agg #[.int .i64 t317, .int .i64 t318, .slice Ao37 t335.length co37], .int .i64 1] rfl (by (try simp only [List.map_toArray, List.map_cons, List.map_nil]); first | done | (rw [show t335.length = t319.length from (Kd.R_reads' HO_324002.out).1.symm] <;> rfl) | rfl | (simp only [List.length_drop, List.length_take]; rfl)) ?_; (with_reducible refine (laws_heldCut.calls kj60 t317 t318 _ _ t335 1 t336 _ ?side1 ?side2 A92.out).mono ?_); (case side1 => repeat (first | exact (Kd.R_reads' HO_324002.out).2.2 | (with_reducible refine Kd.C_alloc ?_ _) | (with_reducible refine Kd.C_drewN ?_ _) | (with_reducible refine Kd.C_drew ?_))); (case side2 => rw [show t335.length = t319.length from (Kd.R_reads' HO_324002.out).1.symm]; exact (Kd.R_reads' HO_324002.out).2.1); rintro e w111 ⟨rfl, hb⟩; refine ⟨_, rfl, ?_⟩; have n0_ := Aside0.mk (Kd.R_below (upR HO_311002) hb); have n1_ := Aside0.mk (Kd.R_below (upR HO_317002) hb); have n2_ := Aside0.mk (Kd.R_below (upR HO_324002) hb); have n3_ := Aside0.mk (blk_below (upK BK297) hb); have n4_ := Aside0.mk (blk_below (upK BK310) hb); have n5_ := Aside0.mk (blk_below (upK BK316) hb); have n6_ := Aside0.mk (blk_below (upK BK323) hb); have n7_ := Aside0.mk (below_step (upW HB) hb); clear HO_311002; clear HO_317002; clear HO_324002; clear BK297; clear BK310; clear BK316; clear BK323; clear HB; have HO_311002 := n0_; have HO_317002 := n1_; have HO_324002 := n2_; have BK297 := n3_; have BK310 := n4_; have BK316 := n5_; have BK323 := n6_; have HB := n7_; clear n0_ n1_ n2_ n3_ n4_ n5_ n6_ n7_; (try clear hb); (try clear hb2); (try clear hk); (try clear hi); have hnb112 := NB297_310.out; have hnc112 := NB310_297.out; have hnb113 := NB297_316.out; have hnc113 := NB316_297.out; have hcz114_0 : w111.cell? ⟨gb297, 0, none⟩ = some (.int .i64 a0_0) := (blk_cell BK297.out 0).trans rfl; have hcz114_1 : w111.cell? ⟨gb297, 1, none⟩ = some (.int .i64 a0_1) := (blk_cell BK297.out 1).trans rfl; have hcz114_2 : w111.cell? ⟨gb297, 2, none⟩ = some (.slice A0_2 l0_2.length c0_2) := (blk_cell BK297.out 2).trans rfl; have hfz114_0 := blk_frozen BK297.out 0; have hfz114_1 := blk_frozen BK297.out 1; have hfz114_2 := blk_frozen BK297.out 2) | ((with_reducible refine gate_callee (f := 36) rfl ?_); refine goesL_ (some 79) rfl rfl Try.func36 (by kernel_rfl) rfl #[.agg #[.int .i64 a0_0, .int .i64 a0_1, .slice A0_2 l0_2.length c0_2]] rfl itp ?_; (with_reducible refine (laws_toCut.calls kj60 a0_0 a0_1 _ _ l0_2 t337 t338 t339 _ ?side1 ?side2 A102.out).mono ?_); (case side1 => repeat (first | exact (Kd.C_below HR0_2.out HB.out) | (with_reducible refine Kd.C_alloc ?_ _) | (with_reducible refine Kd.C_drewN ?_ _) | (with_reducible refine Kd.C_drew ?_))); (case side2 => exact HC0_2.out); rintro e w115 ⟨v340, rfl, ho0, hb⟩; refine ⟨_, rfl, ?_⟩; have n0_ := Aside0.mk (Kd.R_elder' (upR HO_311002) (Kd.R_base ho0) hb); have n1_ := Aside0.mk (Kd.R_elder' (upR HO_317002) (Kd.R_base ho0) hb); have n2_ := Aside0.mk (Kd.R_elder' (upR HO_324002) (Kd.R_base ho0) hb); have n3_ := Aside0.mk (Kd.R_lower (Kd.R_new' (Kd.R_new' (Kd.R_new' ho0 (Kd.R_lt (upR HO_311002))) (Kd.R_lt (upR HO_317002))) (Kd.R_lt (upR HO_324002))) (below_size (upW HB))); have n4_ := Aside0.mk (blk_below (upK BK297) hb); have n5_ := Aside0.mk (blk_below (upK BK310) hb); have n6_ := Aside0.mk (blk_below (upK BK316) hb); have n7_ := Aside0.mk (blk_below (upK BK323) hb); have n8_ := Aside0.mk (below_step (upW HB) hb); clear HO_311002; clear HO_317002; clear HO_324002; clear BK297; clear BK310; clear BK316; clear BK323; clear HB; have HO_311002 := n0_; have HO_317002 := n1_; have HO_324002 := n2_; have HO341 := n3_; have BK297 := n4_; have BK310 := n5_; have BK316 := n6_; have BK323 := n7_; have HB := n8_; clear n0_ n1_ n2_ n3_ n4_ n5_ n6_ n7_ n8_; (try clear hb); (try clear hb2); (try clear hk); (try clear hi); (try clear ho0); obtain ⟨Ao116, co116, eo116⟩ := Kd.R_slice HO341.out; subst eo116) | ((with_reducible refine gate_callee (f := 46) rfl ?_); refine goesL_ (some 81) rfl rfl Try.func46 (by kernel_rfl) rfl #[.agg #[.int .i64 t337, .int .i64 t338, .slice Ao116 t339.length co116], .int .i64 a1] rfl itp ?_; (with_reducible refine (impl_GrowCut.calls kj60 t337 t338 _ _ t339 a1 t342 t343 t344 t347 _ ?side1 ?side2 A103.out).mono ?_); (case side1 => repeat (first | exact (Kd.R_reads' HO341.out).2.2 | (with_reducible refine Kd.C_alloc ?_ _) | (with_reducible refine Kd.C_drewN ?_ _) | (with_reducible refine Kd.C_drew ?_))); (case side2 => exact (Kd.R_reads' HO341.out).2.1); rintro e w117 ⟨v345, rfl, ho0, hb⟩; refine ⟨_, rfl, ?_⟩; have n0_ := Aside0.mk (Kd.R_elder' (upR HO_311002) (Kd.R_base ho0) hb); have n1_ := Aside0.mk (Kd.R_elder' (upR HO_317002) (Kd.R_base ho0) hb); have n2_ := Aside0.mk (Kd.R_elder' (upR HO_324002) (Kd.R_base ho0) hb); have n3_ := Aside0.mk (Kd.R_elder' (upR HO341) (Kd.R_base ho0) hb); have n4_ := Aside0.mk (Kd.R_lower (Kd.R_new' (Kd.R_new' (Kd.R_new' (Kd.R_new' ho0 (Kd.R_lt (upR HO_311002))) (Kd.R_lt (upR HO_317002))) (Kd.R_lt (upR HO_324002))) (Kd.R_lt (upR HO341))) (below_size (upW HB))); have n5_ := Aside0.mk (blk_below (upK BK297) hb); have n6_ := Aside0.mk (blk_below (upK BK310) hb); have n7_ := Aside0.mk (blk_below (upK BK316) hb); have n8_ := Aside0.mk (blk_below (upK BK323) hb); have n9_ := Aside0.mk (below_step (upW HB) hb); clear HO_311002; clear HO_317002; clear HO_324002; clear HO341; clear BK297; clear BK310; clear BK316; clear BK323; clear HB; have HO_311002 := n0_; have HO_317002 := n1_; have HO_324002 := n2_; have HO341 := n3_; have HO346 := n4_; have BK297 := n5_; have BK310 := n6_; have BK316 := n7_; have BK323 := n8_; have HB := n9_; clear n0_ n1_ n2_ n3_ n4_ n5_ n6_ n7_ n8_ n9_; (try clear hb); (try clear hb2); (try clear hk); (try clear hi); (try clear ho0)) | ((with_reducible refine gate_dst (N := 14) rfl ?_); refine box_event ?hg (N := 14) ?hd (cs := #[.int .i64 0, .int .i64 0, .slice none 0 0]) (t := 48) ?hr ?_; (case hd => rfl); (case hg => rfl); (case hr => first | (go_simp; done) | (go_simp; rfl)); intro gb348 hg w118 hbox hb; have n0_ := Aside0.mk (Kd.R_below (upR HO_311002) hb); have n1_ := Aside0.mk (Kd.R_below (upR HO_317002) hb); have n2_ := Aside0.mk (Kd.R_below (upR HO_324002) hb); have n3_ := Aside0.mk (Kd.R_below (upR HO341) hb); have n4_ := Aside0.mk (Kd.R_below (upR HO346) hb); have n5_ := Aside0.mk (blk_below (upK BK297) hb); have n6_ := Aside0.mk (blk_below (upK BK310) hb); have n7_ := Aside0.mk (blk_below (upK BK316) hb); have n8_ := Aside0.mk (blk_below (upK BK323) hb); have n9_ := Aside0.mk (below_step (upW HB) hb); have n10_ := Aside0.mk (hbox); have n11_ := Aside0.mk ((by rw [hg]; exact (below_size (upW HB)) : w.heap.size ≤ gb348)); have n12_ := Aside0.mk ((by rw [hg]; exact (below_size (upW HB)) : w.heap.size ≤ gb348)); have n13_ := Aside0.mk ((by rw [hg]; exact Nat.ne_of_lt (blk_lt (upK BK297)) : gb297 ≠ gb348)); have n14_ := Aside0.mk ((by rw [hg]; exact Nat.ne_of_gt (blk_lt (upK BK297)) : gb348 ≠ gb297)); have n15_ := Aside0.mk ((by rw [hg]; exact Nat.ne_of_lt (blk_lt (upK BK310)) : gb310 ≠ gb348)); have n16_ := Aside0.mk ((by rw [hg]; exact Nat.ne_of_gt (blk_lt (upK BK310)) : gb348 ≠ gb310)); have n17_ := Aside0.mk ((by rw [hg]; exact Nat.ne_of_lt (blk_lt (upK BK316)) : gb316 ≠ gb348)); have n18_ := Aside0.mk ((by rw [hg]; exact Nat.ne_of_gt (blk_lt (upK BK316)) : gb348 ≠ gb316)); have n19_ := Aside0.mk ((by rw [hg]; exact Nat.ne_of_lt (blk_lt (upK BK323)) : gb323 ≠ gb348)); have n20_ := Aside0.mk ((by rw [hg]; exact Nat.ne_of_gt (blk_lt (upK BK323)) : gb348 ≠ gb323)); clear HO_311002; clear HO_317002; clear HO_324002; clear HO341; clear HO346; clear BK297; clear BK310; clear BK316; clear BK323; clear HB; have HO_311002 := n0_; have HO_317002 := n1_; have HO_324002 := n2_; have HO341 := n3_; have HO346 := n4_; have BK297 := n5_; have BK310 := n6_; have BK316 := n7_; have BK323 := n8_; have HB := n9_; have BK348 := n10_; have GW348 := n11_; have GE348 := n12_; have NB297_348 := n13_; have NB348_297 := n14_; have NB310_348 := n15_; have NB348_310 := n16_; have NB316_348 := n17_; have NB348_316 := n18_; have NB323_348 := n19_; have NB348_323 := n20_; clear n0_ n1_ n2_ n3_ n4_ n5_ n6_ n7_ n8_ n9_ n10_ n11_ n12_ n13_ n14_ n15_ n16_ n17_ n18_ n19_ n20_; clear hb hbox hg; have hnb119 := NB348_297.out; have hnc119 := NB297_348.out; have hnb120 := NB348_310.out; have hnc120 := NB310_348.out; have hnb121 := NB348_316.out; have hnc121 := NB316_348.out; have hnb122 := NB348_323.out; have hnc122 := NB323_348.out; have hcz123_0 : w118.cell? ⟨gb348, 0, none⟩ = some (.int .i64 0) := (blk_cell BK348.out 0).trans rfl; have hcz123_1 : w118.cell? ⟨gb348, 1, none⟩ = some (.int .i64 0) := (blk_cell BK348.out 1).trans rfl; have hcz123_2 : w118.cell? ⟨gb348, 2, none⟩ = some (.slice none 0 0) := (blk_cell BK348.out 2).trans rfl; have hfz123_0 := blk_frozen BK348.out 0; have hfz123_1 := blk_frozen BK348.out 1; have hfz123_2 := blk_frozen BK348.out 2; obtain ⟨Ao124, co124, eo124⟩ := Kd.R_slice HO346.out; subst eo124))
           (try simp only [Act.put, List.setIfInBounds_toArray, List.set_cons_zero, List.set_cons_succ])
           go_cut [92] (fun v92 wc => ∃ (kq : Nat) (x92_103 : Bool), v92 = .bool x92_103 ∧ Aside0 (laws_FnExactGrowCut.j2 kq t334 x92_103 t317 t318 t335 = some r) ∧ Aside0 (kq ≤ kj60) ∧ Aside0 (Kd.R k83 83 wc w.heap.size (fun k_ => some k_ ≠ ((.slice Ao30 t332.length co30) : Value).ownBlock ∧ some k_ ≠ ((.slice Ao37 t319.length co37) : Value).ownBlock ∧ some k_ ≠ ((.slice Ao124 t344.length co124) : Value).ownBlock) (.slice Ao23 t306.length co23) t306) ∧ Aside0 (Kd.R k83 83 wc w.heap.size (fun k_ => some k_ ≠ ((.slice Ao23 t306.length co23) : Value).ownBlock ∧ some k_ ≠ ((.slice Ao37 t319.length co37) : Value).ownBlock ∧ some k_ ≠ ((.slice Ao124 t344.length co124) : Value).ownBlock) (.slice Ao30 t332.length co30) t332) ∧ Aside0 (Kd.R k83 83 wc w.heap.size (fun k_ => some k_ ≠ ((.slice Ao23 t306.length co23) : Value).ownBlock ∧ some k_ ≠ ((.slice Ao30 t332.length co30) : Value).ownBlock ∧ some k_ ≠ ((.slice Ao124 t344.length co124) : Value).ownBlock) (.slice Ao37 t319.length co37) t335) ∧ Aside0 (Kd.R k83 83 wc w.heap.size (fun k_ => some k_ ≠ ((.slice Ao23 t306.length co23) : Value).ownBlock ∧ some k_ ≠ ((.slice Ao30 t332.length co30) : Value).ownBlock ∧ some k_ ≠ ((.slice Ao37 t319.length co37) : Value).ownBlock) (.slice Ao124 t344.length co124) t344) ∧ Aside0 (wc.heap[gb297]? = some (.cells #[.int .i64 a0_0, .int .i64 a0_1, (.slice A0_2 l0_2.length c0_2)] 44 (0, 0))) ∧ Aside0 (wc.heap[gb310]? = some (.cells #[.int .i64 t304, .int .i64 t305, (.slice Ao23 t306.length co23)] 48 (0, 0))) ∧ Aside0 (wc.heap[gb316]? = some (.cells #[.int .i64 t311, .int .i64 t312, (.slice Ao30 t332.length co30)] 48 (0, 0))) ∧ Aside0 (wc.heap[gb323]? = some (.cells #[.int .i64 t317, .int .i64 t318, (.slice Ao37 t319.length co37)] 48 (0, 0))) ∧ Aside0 (wc.heap[gb348]? = some (.cells #[.int .i64 t342, .int .i64 t343, (.slice Ao124 t344.length co124)] 48 (0, 0))) ∧ Aside0 (Below w.heap.size w wc))
           case first =>
            have H := HC104.out
            clear HC104
            replace H := Option.bind_eq_some_iff.mp H
            obtain ⟨t349, A1250, H⟩ := H
            replace H : (if t349 = true then (laws_FnExactGrowCut.j2 kj60 t334 (t347 != t309) t317 t318 t335) else (laws_FnExactGrowCut.j2 kj60 t334 true t317 t318 t335)) = some r := H
            have A125 := Aside0.mk A1250
            clear A1250
            by_cases c126 : t349 = true
            ·subst c126
             have H1 : (laws_FnExactGrowCut.j2 kj60 t334 (t347 != t309) t317 t318 t335) = some r := by rw [if_pos rfl] at H; exact H
             clear H
             have H := H1
             clear H1
             have H' := Aside0.mk H
             clear H
             have hnb127 := NB348_297.out
             have hnc127 := NB297_348.out
             have hnb128 := NB348_310.out
             have hnc128 := NB310_348.out
             have hnb129 := NB348_316.out
             have hnc129 := NB316_348.out
             have hnb130 := NB348_323.out
             have hnc130 := NB323_348.out
             have hcz131_0 : w118.cell? ⟨gb348, 0, none⟩ = some (.int .i64 0) := (blk_cell BK348.out 0).trans rfl
             have hcz131_1 : w118.cell? ⟨gb348, 1, none⟩ = some (.int .i64 0) := (blk_cell BK348.out 1).trans rfl
             have hcz131_2 : w118.cell? ⟨gb348, 2, none⟩ = some (.slice none 0 0) := (blk_cell BK348.out 2).trans rfl
             have hfz131_0 := blk_frozen BK348.out 0
             have hfz131_1 := blk_frozen BK348.out 1
             have hfz131_2 := blk_frozen BK348.out 2
             have hnb132 := NB310_297.out
             have hnc132 := NB297_310.out
             have hnb133 := NB310_316.out
             have hnc133 := NB316_310.out
             have hnb134 := NB310_323.out
             have hnc134 := NB323_310.out
             have hcz135_0 : w118.cell? ⟨gb310, 0, none⟩ = some (.int .i64 t304) := (blk_cell BK310.out 0).trans rfl
             have hcz135_1 : w118.cell? ⟨gb310, 1, none⟩ = some (.int .i64 t305) := (blk_cell BK310.out 1).trans rfl
             have hcz135_2 : w118.cell? ⟨gb310, 2, none⟩ = some (.slice Ao23 t306.length co23) := (blk_cell BK310.out 2).trans rfl
             have hfz135_0 := blk_frozen BK310.out 0
             have hfz135_1 := blk_frozen BK310.out 1
             have hfz135_2 := blk_frozen BK310.out 2
             go_wp2_with (first | ((with_reducible refine gate_callee (f := 38) rfl ?_); refine goesL_ (some 86) rfl rfl Try.func38 (by kernel_rfl) rfl #[.agg #[.int .i64 t342, .int .i64 t343, .slice Ao124 t344.length co124], .agg #[.int .i64 t304, .int .i64 t305, .slice Ao23 t306.length co23]] rfl itp ?_; (with_reducible refine (laws_eqCut.calls kj60 t342 t343 _ _ t344 t304 t305 _ _ t306 true _ ?side1 ?side2 ?side3 ?side4 A125.out).mono ?_); (case side1 => refine (Kd.R_reads' (e := 83) (base := w.heap.size) (ok := fun k_ => ((((True ∧ some k_ ≠ (.slice Ao23 t306.length co23 : Value).ownBlock) ∧ some k_ ≠ (.slice Ao30 t332.length co30 : Value).ownBlock) ∧ some k_ ≠ (.slice Ao37 t319.length co37 : Value).ownBlock) ∧ some k_ ≠ (.slice Ao116 t339.length co116 : Value).ownBlock)) (n := t344.length) (c := co124) ?_).2.2; exact (by (with_reducible repeat (first | apply Kd.R_alloc | apply Kd.R_drewN | apply Kd.R_drew)); exact (Kd.R_mono (Kd.R_far (p := ⟨gb348, 2, none⟩) (Kd.R_far (p := ⟨gb348, 1, none⟩) (Kd.R_far (p := ⟨gb348, 0, none⟩) (Kd.R_types HO346.out BK348.out (by decide)) (fun _ hk => hk.2) (.int .i64 t342)) (fun _ hk => hk.2) (.int .i64 t343)) (fun _ hk => hk.2) (.slice Ao124 t344.length co124)) (fun _ h_ => h_.1)))); (case side2 => exact (Kd.R_reads' HO346.out).2.1); (case side3 => refine (Kd.R_reads' (e := 83) (base := w.heap.size) (ok := fun k_ => (((some k_ ≠ (.slice Ao30 t332.length co30 : Value).ownBlock ∧ some k_ ≠ (.slice Ao37 t319.length co37 : Value).ownBlock) ∧ some k_ ≠ (.slice Ao116 t339.length co116 : Value).ownBlock) ∧ some k_ ≠ (.slice Ao124 t344.length co124 : Value).ownBlock)) (n := t306.length) (c := co23) ?_).2.2; exact (by (with_reducible repeat (first | apply Kd.R_alloc | apply Kd.R_drewN | apply Kd.R_drew)); exact (Kd.R_mono (Kd.R_far (p := ⟨gb348, 2, none⟩) (Kd.R_far (p := ⟨gb348, 1, none⟩) (Kd.R_far (p := ⟨gb348, 0, none⟩) (Kd.R_types HO_311002.out BK348.out (by decide)) (fun _ hk => hk.2) (.int .i64 t342)) (fun _ hk => hk.2) (.int .i64 t343)) (fun _ hk => hk.2) (.slice Ao124 t344.length co124)) (fun _ h_ => h_.1)))); (case side4 => exact (Kd.R_reads' HO_311002.out).2.1); rintro e w136 ⟨rfl, hb⟩; refine ⟨_, rfl, ?_⟩; have n0_ := Aside0.mk (Kd.R_below (by (with_reducible repeat (first | apply Kd.R_alloc | apply Kd.R_drewN | apply Kd.R_drew)); exact (Kd.R_mono (Kd.R_far (p := ⟨gb348, 2, none⟩) (Kd.R_far (p := ⟨gb348, 1, none⟩) (Kd.R_far (p := ⟨gb348, 0, none⟩) (Kd.R_types HO_311002.out BK348.out (by decide)) (fun _ hk => hk.2) (.int .i64 t342)) (fun _ hk => hk.2) (.int .i64 t343)) (fun _ hk => hk.2) (.slice Ao124 t344.length co124)) (fun _ h_ => h_.1))) hb); have n1_ := Aside0.mk (Kd.R_below (by (with_reducible repeat (first | apply Kd.R_alloc | apply Kd.R_drewN | apply Kd.R_drew)); exact (Kd.R_mono (Kd.R_far (p := ⟨gb348, 2, none⟩) (Kd.R_far (p := ⟨gb348, 1, none⟩) (Kd.R_far (p := ⟨gb348, 0, none⟩) (Kd.R_types HO_317002.out BK348.out (by decide)) (fun _ hk => hk.2) (.int .i64 t342)) (fun _ hk => hk.2) (.int .i64 t343)) (fun _ hk => hk.2) (.slice Ao124 t344.length co124)) (fun _ h_ => h_.1))) hb); have n2_ := Aside0.mk (Kd.R_below (by (with_reducible repeat (first | apply Kd.R_alloc | apply Kd.R_drewN | apply Kd.R_drew)); exact (Kd.R_mono (Kd.R_far (p := ⟨gb348, 2, none⟩) (Kd.R_far (p := ⟨gb348, 1, none⟩) (Kd.R_far (p := ⟨gb348, 0, none⟩) (Kd.R_types HO_324002.out BK348.out (by decide)) (fun _ hk => hk.2) (.int .i64 t342)) (fun _ hk => hk.2) (.int .i64 t343)) (fun _ hk => hk.2) (.slice Ao124 t344.length co124)) (fun _ h_ => h_.1))) hb); have n3_ := Aside0.mk (Kd.R_below (by (with_reducible repeat (first | apply Kd.R_alloc | apply Kd.R_drewN | apply Kd.R_drew)); exact (Kd.R_mono (Kd.R_far (p := ⟨gb348, 2, none⟩) (Kd.R_far (p := ⟨gb348, 1, none⟩) (Kd.R_far (p := ⟨gb348, 0, none⟩) (Kd.R_types HO341.out BK348.out (by decide)) (fun _ hk => hk.2) (.int .i64 t342)) (fun _ hk => hk.2) (.int .i64 t343)) (fun _ hk => hk.2) (.slice Ao124 t344.length co124)) (fun _ h_ => h_.1))) hb); have n4_ := Aside0.mk (Kd.R_below (by (with_reducible repeat (first | apply Kd.R_alloc | apply Kd.R_drewN | apply Kd.R_drew)); exact (Kd.R_mono (Kd.R_far (p := ⟨gb348, 2, none⟩) (Kd.R_far (p := ⟨gb348, 1, none⟩) (Kd.R_far (p := ⟨gb348, 0, none⟩) (Kd.R_types HO346.out BK348.out (by decide)) (fun _ hk => hk.2) (.int .i64 t342)) (fun _ hk => hk.2) (.int .i64 t343)) (fun _ hk => hk.2) (.slice Ao124 t344.length co124)) (fun _ h_ => h_.1))) hb); have n5_ := Aside0.mk (blk_below (upF BK297) hb); have n6_ := Aside0.mk (blk_below (upF BK310) hb); have n7_ := Aside0.mk (blk_below (upF BK316) hb); have n8_ := Aside0.mk (blk_below (upF BK323) hb); have n9_ := Aside0.mk (blk_below (g := gb348) (o := .cells #[.int .i64 t342, .int .i64 t343, .slice Ao124 t344.length co124] 48 (0, 0)) (by (with_reducible repeat (first | refine blk_drewN ?_ _ | refine blk_drew ?_ | refine blk_alloc ?_ _)); refine blk_put (cs := #[.int .i64 t342, .int .i64 t343, .slice none 0 0]) ?_ 2 _ rfl; (with_reducible repeat (first | refine blk_drewN ?_ _ | refine blk_drew ?_ | refine blk_alloc ?_ _)); refine blk_put (cs := #[.int .i64 t342, .int .i64 0, .slice none 0 0]) ?_ 1 _ rfl; (with_reducible repeat (first | refine blk_drewN ?_ _ | refine blk_drew ?_ | refine blk_alloc ?_ _)); refine blk_put (cs := #[.int .i64 0, .int .i64 0, .slice none 0 0]) ?_ 0 _ rfl; (with_reducible repeat (first | refine blk_drewN ?_ _ | refine blk_drew ?_ | refine blk_alloc ?_ _)); exact BK348.out) hb); have n10_ := Aside0.mk (below_step (upW HB) hb); clear HO_311002; clear HO_317002; clear HO_324002; clear HO341; clear HO346; clear BK297; clear BK310; clear BK316; clear BK323; clear BK348; clear HB; have HO_311002 := n0_; have HO_317002 := n1_; have HO_324002 := n2_; have HO341 := n3_; have HO346 := n4_; have BK297 := n5_; have BK310 := n6_; have BK316 := n7_; have BK323 := n8_; have BK348 := n9_; have HB := n10_; clear n0_ n1_ n2_ n3_ n4_ n5_ n6_ n7_ n8_ n9_ n10_; (try clear hb); (try clear hb2); (try clear hk); (try clear hi)))
             go_meet
             case rel => exact ⟨_, ((t347 != t309)), (by first | rfl | (simp; done) | (simp [*]; done)), H', ⟨by have := HJ11.out; have := HJ60.out; first | omega | exact Nat.le_refl _⟩, ⟨by (try simp only [hl317002_60]); (with_reducible repeat (first | apply Kd.R_alloc | apply Kd.R_drewN | apply Kd.R_drew)); exact Kd.R_mono HO_311002.out (fun _ hk => ⟨hk.1.1.1, ⟨hk.1.1.2, hk.2⟩⟩)⟩, ⟨by (try simp only [hl317002_60]); (with_reducible repeat (first | apply Kd.R_alloc | apply Kd.R_drewN | apply Kd.R_drew)); exact Kd.R_mono HO_317002.out (fun _ hk => ⟨hk.1.1.1, ⟨hk.1.1.2, hk.2⟩⟩)⟩, ⟨by (try simp only [hl317002_60]); (with_reducible repeat (first | apply Kd.R_alloc | apply Kd.R_drewN | apply Kd.R_drew)); exact Kd.R_mono HO_324002.out (fun _ hk => ⟨hk.1.1.1, ⟨hk.1.1.2, hk.2⟩⟩)⟩, ⟨by (try simp only [hl317002_60]); (with_reducible repeat (first | apply Kd.R_alloc | apply Kd.R_drewN | apply Kd.R_drew)); exact Kd.R_mono HO346.out (fun _ hk => ⟨hk.1.1.1.2, ⟨hk.1.1.2, hk.1.2⟩⟩)⟩, ⟨by (try simp only [hl317002_60]); (with_reducible repeat (first | refine blk_drewN ?_ _ | refine blk_drew ?_ | refine blk_alloc ?_ _)); exact BK297.out⟩, ⟨by (try simp only [hl317002_60]); (with_reducible repeat (first | refine blk_drewN ?_ _ | refine blk_drew ?_ | refine blk_alloc ?_ _)); exact BK310.out⟩, ⟨by (try simp only [hl317002_60]); (with_reducible repeat (first | refine blk_drewN ?_ _ | refine blk_drew ?_ | refine blk_alloc ?_ _)); exact BK316.out⟩, ⟨by (try simp only [hl317002_60]); (with_reducible repeat (first | refine blk_drewN ?_ _ | refine blk_drew ?_ | refine blk_alloc ?_ _)); exact BK323.out⟩, ⟨by (try simp only [hl317002_60]); (with_reducible repeat (first | refine blk_drewN ?_ _ | refine blk_drew ?_ | refine blk_alloc ?_ _)); exact BK348.out⟩, ⟨upW HB⟩⟩
            ·replace c126 := Bool.eq_false_iff.mpr c126
             subst c126
             have H1 : (laws_FnExactGrowCut.j2 kj60 t334 true t317 t318 t335) = some r := by rw [if_neg (show ¬ (false = true) by decide)] at H; exact H
             clear H
             have H := H1
             clear H1
             have H' := Aside0.mk H
             clear H
             have hnb137 := NB348_297.out
             have hnc137 := NB297_348.out
             have hnb138 := NB348_310.out
             have hnc138 := NB310_348.out
             have hnb139 := NB348_316.out
             have hnc139 := NB316_348.out
             have hnb140 := NB348_323.out
             have hnc140 := NB323_348.out
             have hcz141_0 : w118.cell? ⟨gb348, 0, none⟩ = some (.int .i64 0) := (blk_cell BK348.out 0).trans rfl
             have hcz141_1 : w118.cell? ⟨gb348, 1, none⟩ = some (.int .i64 0) := (blk_cell BK348.out 1).trans rfl
             have hcz141_2 : w118.cell? ⟨gb348, 2, none⟩ = some (.slice none 0 0) := (blk_cell BK348.out 2).trans rfl
             have hfz141_0 := blk_frozen BK348.out 0
             have hfz141_1 := blk_frozen BK348.out 1
             have hfz141_2 := blk_frozen BK348.out 2
             have hnb142 := NB310_297.out
             have hnc142 := NB297_310.out
             have hnb143 := NB310_316.out
             have hnc143 := NB316_310.out
             have hnb144 := NB310_323.out
             have hnc144 := NB323_310.out
             have hcz145_0 : w118.cell? ⟨gb310, 0, none⟩ = some (.int .i64 t304) := (blk_cell BK310.out 0).trans rfl
             have hcz145_1 : w118.cell? ⟨gb310, 1, none⟩ = some (.int .i64 t305) := (blk_cell BK310.out 1).trans rfl
             have hcz145_2 : w118.cell? ⟨gb310, 2, none⟩ = some (.slice Ao23 t306.length co23) := (blk_cell BK310.out 2).trans rfl
             have hfz145_0 := blk_frozen BK310.out 0
             have hfz145_1 := blk_frozen BK310.out 1
             have hfz145_2 := blk_frozen BK310.out 2
             go_wp2_with (first | ((with_reducible refine gate_callee (f := 38) rfl ?_); refine goesL_ (some 86) rfl rfl Try.func38 (by kernel_rfl) rfl #[.agg #[.int .i64 t342, .int .i64 t343, .slice Ao124 t344.length co124], .agg #[.int .i64 t304, .int .i64 t305, .slice Ao23 t306.length co23]] rfl itp ?_; (with_reducible refine (laws_eqCut.calls kj60 t342 t343 _ _ t344 t304 t305 _ _ t306 false _ ?side1 ?side2 ?side3 ?side4 A125.out).mono ?_); (case side1 => refine (Kd.R_reads' (e := 83) (base := w.heap.size) (ok := fun k_ => ((((True ∧ some k_ ≠ (.slice Ao23 t306.length co23 : Value).ownBlock) ∧ some k_ ≠ (.slice Ao30 t332.length co30 : Value).ownBlock) ∧ some k_ ≠ (.slice Ao37 t319.length co37 : Value).ownBlock) ∧ some k_ ≠ (.slice Ao116 t339.length co116 : Value).ownBlock)) (n := t344.length) (c := co124) ?_).2.2; exact (by (with_reducible repeat (first | apply Kd.R_alloc | apply Kd.R_drewN | apply Kd.R_drew)); exact (Kd.R_mono (Kd.R_far (p := ⟨gb348, 2, none⟩) (Kd.R_far (p := ⟨gb348, 1, none⟩) (Kd.R_far (p := ⟨gb348, 0, none⟩) (Kd.R_types HO346.out BK348.out (by decide)) (fun _ hk => hk.2) (.int .i64 t342)) (fun _ hk => hk.2) (.int .i64 t343)) (fun _ hk => hk.2) (.slice Ao124 t344.length co124)) (fun _ h_ => h_.1)))); (case side2 => exact (Kd.R_reads' HO346.out).2.1); (case side3 => refine (Kd.R_reads' (e := 83) (base := w.heap.size) (ok := fun k_ => (((some k_ ≠ (.slice Ao30 t332.length co30 : Value).ownBlock ∧ some k_ ≠ (.slice Ao37 t319.length co37 : Value).ownBlock) ∧ some k_ ≠ (.slice Ao116 t339.length co116 : Value).ownBlock) ∧ some k_ ≠ (.slice Ao124 t344.length co124 : Value).ownBlock)) (n := t306.length) (c := co23) ?_).2.2; exact (by (with_reducible repeat (first | apply Kd.R_alloc | apply Kd.R_drewN | apply Kd.R_drew)); exact (Kd.R_mono (Kd.R_far (p := ⟨gb348, 2, none⟩) (Kd.R_far (p := ⟨gb348, 1, none⟩) (Kd.R_far (p := ⟨gb348, 0, none⟩) (Kd.R_types HO_311002.out BK348.out (by decide)) (fun _ hk => hk.2) (.int .i64 t342)) (fun _ hk => hk.2) (.int .i64 t343)) (fun _ hk => hk.2) (.slice Ao124 t344.length co124)) (fun _ h_ => h_.1)))); (case side4 => exact (Kd.R_reads' HO_311002.out).2.1); rintro e w146 ⟨rfl, hb⟩; refine ⟨_, rfl, ?_⟩; have n0_ := Aside0.mk (Kd.R_below (by (with_reducible repeat (first | apply Kd.R_alloc | apply Kd.R_drewN | apply Kd.R_drew)); exact (Kd.R_mono (Kd.R_far (p := ⟨gb348, 2, none⟩) (Kd.R_far (p := ⟨gb348, 1, none⟩) (Kd.R_far (p := ⟨gb348, 0, none⟩) (Kd.R_types HO_311002.out BK348.out (by decide)) (fun _ hk => hk.2) (.int .i64 t342)) (fun _ hk => hk.2) (.int .i64 t343)) (fun _ hk => hk.2) (.slice Ao124 t344.length co124)) (fun _ h_ => h_.1))) hb); have n1_ := Aside0.mk (Kd.R_below (by (with_reducible repeat (first | apply Kd.R_alloc | apply Kd.R_drewN | apply Kd.R_drew)); exact (Kd.R_mono (Kd.R_far (p := ⟨gb348, 2, none⟩) (Kd.R_far (p := ⟨gb348, 1, none⟩) (Kd.R_far (p := ⟨gb348, 0, none⟩) (Kd.R_types HO_317002.out BK348.out (by decide)) (fun _ hk => hk.2) (.int .i64 t342)) (fun _ hk => hk.2) (.int .i64 t343)) (fun _ hk => hk.2) (.slice Ao124 t344.length co124)) (fun _ h_ => h_.1))) hb); have n2_ := Aside0.mk (Kd.R_below (by (with_reducible repeat (first | apply Kd.R_alloc | apply Kd.R_drewN | apply Kd.R_drew)); exact (Kd.R_mono (Kd.R_far (p := ⟨gb348, 2, none⟩) (Kd.R_far (p := ⟨gb348, 1, none⟩) (Kd.R_far (p := ⟨gb348, 0, none⟩) (Kd.R_types HO_324002.out BK348.out (by decide)) (fun _ hk => hk.2) (.int .i64 t342)) (fun _ hk => hk.2) (.int .i64 t343)) (fun _ hk => hk.2) (.slice Ao124 t344.length co124)) (fun _ h_ => h_.1))) hb); have n3_ := Aside0.mk (Kd.R_below (by (with_reducible repeat (first | apply Kd.R_alloc | apply Kd.R_drewN | apply Kd.R_drew)); exact (Kd.R_mono (Kd.R_far (p := ⟨gb348, 2, none⟩) (Kd.R_far (p := ⟨gb348, 1, none⟩) (Kd.R_far (p := ⟨gb348, 0, none⟩) (Kd.R_types HO341.out BK348.out (by decide)) (fun _ hk => hk.2) (.int .i64 t342)) (fun _ hk => hk.2) (.int .i64 t343)) (fun _ hk => hk.2) (.slice Ao124 t344.length co124)) (fun _ h_ => h_.1))) hb); have n4_ := Aside0.mk (Kd.R_below (by (with_reducible repeat (first | apply Kd.R_alloc | apply Kd.R_drewN | apply Kd.R_drew)); exact (Kd.R_mono (Kd.R_far (p := ⟨gb348, 2, none⟩) (Kd.R_far (p := ⟨gb348, 1, none⟩) (Kd.R_far (p := ⟨gb348, 0, none⟩) (Kd.R_types HO346.out BK348.out (by decide)) (fun _ hk => hk.2) (.int .i64 t342)) (fun _ hk => hk.2) (.int .i64 t343)) (fun _ hk => hk.2) (.slice Ao124 t344.length co124)) (fun _ h_ => h_.1))) hb); have n5_ := Aside0.mk (blk_below (upF BK297) hb); have n6_ := Aside0.mk (blk_below (upF BK310) hb); have n7_ := Aside0.mk (blk_below (upF BK316) hb); have n8_ := Aside0.mk (blk_below (upF BK323) hb); have n9_ := Aside0.mk (blk_below (g := gb348) (o := .cells #[.int .i64 t342, .int .i64 t343, .slice Ao124 t344.length co124] 48 (0, 0)) (by (with_reducible repeat (first | refine blk_drewN ?_ _ | refine blk_drew ?_ | refine blk_alloc ?_ _)); refine blk_put (cs := #[.int .i64 t342, .int .i64 t343, .slice none 0 0]) ?_ 2 _ rfl; (with_reducible repeat (first | refine blk_drewN ?_ _ | refine blk_drew ?_ | refine blk_alloc ?_ _)); refine blk_put (cs := #[.int .i64 t342, .int .i64 0, .slice none 0 0]) ?_ 1 _ rfl; (with_reducible repeat (first | refine blk_drewN ?_ _ | refine blk_drew ?_ | refine blk_alloc ?_ _)); refine blk_put (cs := #[.int .i64 0, .int .i64 0, .slice none 0 0]) ?_ 0 _ rfl; (with_reducible repeat (first | refine blk_drewN ?_ _ | refine blk_drew ?_ | refine blk_alloc ?_ _)); exact BK348.out) hb); have n10_ := Aside0.mk (below_step (upW HB) hb); clear HO_311002; clear HO_317002; clear HO_324002; clear HO341; clear HO346; clear BK297; clear BK310; clear BK316; clear BK323; clear BK348; clear HB; have HO_311002 := n0_; have HO_317002 := n1_; have HO_324002 := n2_; have HO341 := n3_; have HO346 := n4_; have BK297 := n5_; have BK310 := n6_; have BK316 := n7_; have BK323 := n8_; have BK348 := n9_; have HB := n10_; clear n0_ n1_ n2_ n3_ n4_ n5_ n6_ n7_ n8_ n9_ n10_; (try clear hb); (try clear hb2); (try clear hk); (try clear hi)))
             go_meet
             case rel => exact ⟨_, (true), (by first | rfl | (simp; done) | (simp [*]; done)), H', ⟨by have := HJ11.out; have := HJ60.out; first | omega | exact Nat.le_refl _⟩, ⟨by (try simp only [hl317002_60]); (with_reducible repeat (first | apply Kd.R_alloc | apply Kd.R_drewN | apply Kd.R_drew)); exact Kd.R_mono HO_311002.out (fun _ hk => ⟨hk.1.1.1, ⟨hk.1.1.2, hk.2⟩⟩)⟩, ⟨by (try simp only [hl317002_60]); (with_reducible repeat (first | apply Kd.R_alloc | apply Kd.R_drewN | apply Kd.R_drew)); exact Kd.R_mono HO_317002.out (fun _ hk => ⟨hk.1.1.1, ⟨hk.1.1.2, hk.2⟩⟩)⟩, ⟨by (try simp only [hl317002_60]); (with_reducible repeat (first | apply Kd.R_alloc | apply Kd.R_drewN | apply Kd.R_drew)); exact Kd.R_mono HO_324002.out (fun _ hk => ⟨hk.1.1.1, ⟨hk.1.1.2, hk.2⟩⟩)⟩, ⟨by (try simp only [hl317002_60]); (with_reducible repeat (first | apply Kd.R_alloc | apply Kd.R_drewN | apply Kd.R_drew)); exact Kd.R_mono HO346.out (fun _ hk => ⟨hk.1.1.1.2, ⟨hk.1.1.2, hk.1.2⟩⟩)⟩, ⟨by (try simp only [hl317002_60]); (with_reducible repeat (first | refine blk_drewN ?_ _ | refine blk_drew ?_ | refine blk_alloc ?_ _)); exact BK297.out⟩, ⟨by (try simp only [hl317002_60]); (with_reducible repeat (first | refine blk_drewN ?_ _ | refine blk_drew ?_ | refine blk_alloc ?_ _)); exact BK310.out⟩, ⟨by (try simp only [hl317002_60]); (with_reducible repeat (first | refine blk_drewN ?_ _ | refine blk_drew ?_ | refine blk_alloc ?_ _)); exact BK316.out⟩, ⟨by (try simp only [hl317002_60]); (with_reducible repeat (first | refine blk_drewN ?_ _ | refine blk_drew ?_ | refine blk_alloc ?_ _)); exact BK323.out⟩, ⟨by (try simp only [hl317002_60]); (with_reducible repeat (first | refine blk_drewN ?_ _ | refine blk_drew ?_ | refine blk_alloc ?_ _)); exact BK348.out⟩, ⟨upW HB⟩⟩
           case rest =>
            clear HC104
            try clear c1
            try clear c2
            try clear p2
            try clear c3
            try clear c4
            try clear c4b0
            try clear c5
            try clear c6
            try clear c7
            try clear c8
            try clear c9
            try clear c10
            try clear c11
            try clear c12
            try clear c13
            try clear c14
            try clear c21
            try clear c27
            try clear c28
            try clear c33
            try clear c34
            try clear c35
            try clear c36
            try clear c38
            try clear c39
            try clear c40
            try clear c41
            try clear c42
            try clear c44
            try clear c45
            try clear c46
            try clear c48
            try clear c49
            try clear c50
            try clear c52
            try clear c53
            try clear c56
            try clear c59
            try clear c66
            try clear c67
            try clear c68
            try clear c71
            try clear c71b0
            try clear c73
            try clear c74
            try clear c75
            try clear c76
            try clear c78
            try clear c79
            try clear c82
            try clear c83
            try clear c84
            try clear c86
            try clear c87
            try clear c90
            try clear c93
            try clear c93b0
            try clear c94
            try clear c95
            try clear c96
            try clear c101
            try clear c101b0
            try clear c101b1
            try clear c105
            try clear c106
            try clear c107
            try clear c112
            try clear c113
            try clear c119
            try clear c120
            try clear c121
            try clear c122
            try clear c126
            try clear c127
            try clear c128
            try clear c129
            try clear c130
            try clear c132
            try clear c133
            try clear c134
            try clear c137
            try clear c138
            try clear c139
            try clear c140
            try clear c142
            try clear c143
            try clear c144
            try clear hcz108_0
            try clear hcz108_1
            try clear hcz108_2
            try clear hcz110_0
            try clear hcz110_1
            try clear hcz110_2
            try clear hcz114_0
            try clear hcz114_1
            try clear hcz114_2
            try clear hcz123_0
            try clear hcz123_1
            try clear hcz123_2
            try clear hcz131_0
            try clear hcz131_1
            try clear hcz131_2
            try clear hcz135_0
            try clear hcz135_1
            try clear hcz135_2
            try clear hcz141_0
            try clear hcz141_1
            try clear hcz141_2
            try clear hcz145_0
            try clear hcz145_1
            try clear hcz145_2
            try clear hcz14_0
            try clear hcz14_1
            try clear hcz14_2
            try clear hcz16_0
            try clear hcz16_1
            try clear hcz16_2
            try clear hcz22_0
            try clear hcz22_1
            try clear hcz22_2
            try clear hcz24_0
            try clear hcz24_1
            try clear hcz24_2
            try clear hcz29_0
            try clear hcz29_1
            try clear hcz29_2
            try clear hcz36_0
            try clear hcz36_1
            try clear hcz36_2
            try clear hcz43_0
            try clear hcz43_1
            try clear hcz43_2
            try clear hcz46_0
            try clear hcz46_1
            try clear hcz46_2
            try clear hcz51_0
            try clear hcz51_1
            try clear hcz51_2
            try clear hcz54_0
            try clear hcz54_1
            try clear hcz54_2
            try clear hcz69_0
            try clear hcz69_1
            try clear hcz69_2
            try clear hcz6_0
            try clear hcz6_1
            try clear hcz6_2
            try clear hcz77_0
            try clear hcz77_1
            try clear hcz77_2
            try clear hcz80_0
            try clear hcz80_1
            try clear hcz80_2
            try clear hcz85_0
            try clear hcz85_1
            try clear hcz85_2
            try clear hcz88_0
            try clear hcz88_1
            try clear hcz88_2
            try clear hcz97_0
            try clear hcz97_1
            try clear hcz97_2
            try clear hcz99_0
            try clear hcz99_1
            try clear hcz99_2
            try clear hfz108_0
            try clear hfz108_1
            try clear hfz108_2
            try clear hfz110_0
            try clear hfz110_1
            try clear hfz110_2
            try clear hfz114_0
            try clear hfz114_1
            try clear hfz114_2
            try clear hfz123_0
            try clear hfz123_1
            try clear hfz123_2
            try clear hfz131_0
            try clear hfz131_1
            try clear hfz131_2
            try clear hfz135_0
            try clear hfz135_1
            try clear hfz135_2
            try clear hfz141_0
            try clear hfz141_1
            try clear hfz141_2
            try clear hfz145_0
            try clear hfz145_1
            try clear hfz145_2
            try clear hfz14_0
            try clear hfz14_1
            try clear hfz14_2
            try clear hfz16_0
            try clear hfz16_1
            try clear hfz16_2
            try clear hfz22_0
            try clear hfz22_1
            try clear hfz22_2
            try clear hfz24_0
            try clear hfz24_1
            try clear hfz24_2
            try clear hfz29_0
            try clear hfz29_1
            try clear hfz29_2
            try clear hfz36_0
            try clear hfz36_1
            try clear hfz36_2
            try clear hfz43_0
            try clear hfz43_1
            try clear hfz43_2
            try clear hfz46_0
            try clear hfz46_1
            try clear hfz46_2
            try clear hfz51_0
            try clear hfz51_1
            try clear hfz51_2
            try clear hfz54_0
            try clear hfz54_1
            try clear hfz54_2
            try clear hfz69_0
            try clear hfz69_1
            try clear hfz69_2
            try clear hfz6_0
            try clear hfz6_1
            try clear hfz6_2
            try clear hfz77_0
            try clear hfz77_1
            try clear hfz77_2
            try clear hfz80_0
            try clear hfz80_1
            try clear hfz80_2
            try clear hfz85_0
            try clear hfz85_1
            try clear hfz85_2
            try clear hfz88_0
            try clear hfz88_1
            try clear hfz88_2
            try clear hfz97_0
            try clear hfz97_1
            try clear hfz97_2
            try clear hfz99_0
            try clear hfz99_1
            try clear hfz99_2
            try clear p2
            obtain ⟨kq, x92_103, rfl, HA, HJ103, HO_311002, HO_317002, HO_324002, HO_349002, BK297, BK310, BK316, BK323, BK348, HB⟩ := hcut
            have hl324002_103 := (Kd.R_reads' HO_324002.out).1
            rw [hl324002_103] at HO_324002
            (try simp only [hl324002_103])
            (try simp only [hl324002_103] at BK297)
            (try simp only [hl324002_103] at BK310)
            (try simp only [hl324002_103] at BK316)
            (try simp only [hl324002_103] at BK323)
            (try simp only [hl324002_103] at BK348)
            (try simp only [hl324002_103] at HO_311002)
            (try simp only [hl324002_103] at HO_317002)
            (try simp only [hl324002_103] at HO_349002)
            cases kq with
            | zero => exact absurd HA.out (by simp [laws_FnExactGrowCut.j2])
            | succ kj103 =>
             have H := HA.out
             clear HA
             simp only [laws_FnExactGrowCut.j2] at H
             by_cases c147 : x92_103 = true
             ·subst c147
              have H1 : (some false) = some r := by rw [if_pos rfl] at H; exact H
              clear H
              have H := H1
              clear H1
              obtain rfl := Option.some.inj H
              go_wp2
              go_ret
              exact ⟨by first | rfl | (simp [errW_none, errW_some] <;> rfl) | (simp [*, errW_none, errW_some] <;> rfl), by repeat (first | (with_reducible first | exact HB.out | apply below_alloc | apply pw_below_drewN | apply below_drew1 | refine below_set ?_ GE297.out | refine below_set ?_ GE310.out | refine below_set ?_ GE316.out | refine below_set ?_ GE323.out | refine below_set ?_ GE348.out) | exact HB.out)⟩
             ·replace c147 := Bool.eq_false_iff.mpr c147
              subst c147
              have H1 : ((laws_heldCut.f kj103 t317 t318 t335 1).bind fun t350 => (if t350 < 0 then (some false) else (if t350 = t334 then (some true) else (some false)))) = some r := by rw [if_neg (show ¬ (false = true) by decide)] at H; exact H
              clear H
              have H := H1
              clear H1
              replace H := Option.bind_eq_some_iff.mp H
              obtain ⟨t350, A1480, H⟩ := H
              replace H : (if t350 < 0 then (some false) else (if t350 = t334 then (some true) else (some false))) = some r := H
              have A148 := Aside0.mk A1480
              clear A1480
              by_cases c149 : t350 < 0
              ·rw [if_pos c149] at H
               have c149b0 : decide (t350 < 0) = true := decide_eq_true c149
               clear c149
               obtain rfl := Option.some.inj H
               have hnb150 := NB323_297.out
               have hnc150 := NB297_323.out
               have hnb151 := NB323_310.out
               have hnc151 := NB310_323.out
               have hnb152 := NB323_316.out
               have hnc152 := NB316_323.out
               have hnb153 := NB323_348.out
               have hnc153 := NB348_323.out
               have hcz154_0 : wc.cell? ⟨gb323, 0, none⟩ = some (.int .i64 t317) := (blk_cell BK323.out 0).trans rfl
               have hcz154_1 : wc.cell? ⟨gb323, 1, none⟩ = some (.int .i64 t318) := (blk_cell BK323.out 1).trans rfl
               have hcz154_2 : wc.cell? ⟨gb323, 2, none⟩ = some (.slice Ao37 t335.length co37) := (blk_cell BK323.out 2).trans rfl
               have hfz154_0 := blk_frozen BK323.out 0
               have hfz154_1 := blk_frozen BK323.out 1
               have hfz154_2 := blk_frozen BK323.out 2
               go_wp2_with (first | ((with_reducible refine gate_callee (f := 40) rfl ?_); refine goesL_ (some 95) rfl rfl Try.func40 (by kernel_rfl) rfl #[.agg #[.int .i64 t317, .int .i64 t318, .slice Ao37 t335.length co37], .int .i64 1] rfl itp ?_; (with_reducible refine (laws_heldCut.calls kj103 t317 t318 _ _ t335 1 t350 _ ?side1 ?side2 A148.out).mono ?_); (case side1 => repeat (first | exact (Kd.R_reads' HO_324002.out).2.2 | (with_reducible refine Kd.C_alloc ?_ _) | (with_reducible refine Kd.C_drewN ?_ _) | (with_reducible refine Kd.C_drew ?_))); (case side2 => exact (Kd.R_reads' HO_324002.out).2.1); rintro e w155 ⟨rfl, hb⟩; refine ⟨_, rfl, ?_⟩; have n0_ := Aside0.mk (Kd.R_below (upR HO_311002) hb); have n1_ := Aside0.mk (Kd.R_below (upR HO_317002) hb); have n2_ := Aside0.mk (Kd.R_below (upR HO_324002) hb); have n3_ := Aside0.mk (Kd.R_below (upR HO_349002) hb); have n4_ := Aside0.mk (blk_below (upK BK297) hb); have n5_ := Aside0.mk (blk_below (upK BK310) hb); have n6_ := Aside0.mk (blk_below (upK BK316) hb); have n7_ := Aside0.mk (blk_below (upK BK323) hb); have n8_ := Aside0.mk (blk_below (upK BK348) hb); have n9_ := Aside0.mk (below_step (upW HB) hb); clear HO_311002; clear HO_317002; clear HO_324002; clear HO_349002; clear BK297; clear BK310; clear BK316; clear BK323; clear BK348; clear HB; have HO_311002 := n0_; have HO_317002 := n1_; have HO_324002 := n2_; have HO_349002 := n3_; have BK297 := n4_; have BK310 := n5_; have BK316 := n6_; have BK323 := n7_; have BK348 := n8_; have HB := n9_; clear n0_ n1_ n2_ n3_ n4_ n5_ n6_ n7_ n8_ n9_; (try clear hb); (try clear hb2); (try clear hk); (try clear hi)))
               go_ret
               exact ⟨by first | rfl | (simp [errW_none, errW_some] <;> rfl) | (simp [*, errW_none, errW_some] <;> rfl), by repeat (first | (with_reducible first | exact HB.out | apply below_alloc | apply pw_below_drewN | apply below_drew1 | refine below_set ?_ GE297.out | refine below_set ?_ GE310.out | refine below_set ?_ GE316.out | refine below_set ?_ GE323.out | refine below_set ?_ GE348.out) | exact HB.out)⟩
              ·rw [if_neg c149] at H
               have c149b0 : decide (t350 < 0) = false := decide_eq_false c149
               clear c149
               by_cases c156 : t350 = t334
               ·rw [if_pos c156] at H
                have c156b0 : (t350 == t334) = true := beq_iff_eq.mpr c156
                have c156b1 : (t350 != t334) = false := bne_eq_false_iff_eq.mpr c156
                clear c156
                obtain rfl := Option.some.inj H
                have hnb157 := NB323_297.out
                have hnc157 := NB297_323.out
                have hnb158 := NB323_310.out
                have hnc158 := NB310_323.out
                have hnb159 := NB323_316.out
                have hnc159 := NB316_323.out
                have hnb160 := NB323_348.out
                have hnc160 := NB348_323.out
                have hcz161_0 : wc.cell? ⟨gb323, 0, none⟩ = some (.int .i64 t317) := (blk_cell BK323.out 0).trans rfl
                have hcz161_1 : wc.cell? ⟨gb323, 1, none⟩ = some (.int .i64 t318) := (blk_cell BK323.out 1).trans rfl
                have hcz161_2 : wc.cell? ⟨gb323, 2, none⟩ = some (.slice Ao37 t335.length co37) := (blk_cell BK323.out 2).trans rfl
                have hfz161_0 := blk_frozen BK323.out 0
                have hfz161_1 := blk_frozen BK323.out 1
                have hfz161_2 := blk_frozen BK323.out 2
                go_wp2_with (first | ((with_reducible refine gate_callee (f := 40) rfl ?_); refine goesL_ (some 95) rfl rfl Try.func40 (by kernel_rfl) rfl #[.agg #[.int .i64 t317, .int .i64 t318, .slice Ao37 t335.length co37], .int .i64 1] rfl itp ?_; (with_reducible refine (laws_heldCut.calls kj103 t317 t318 _ _ t335 1 t350 _ ?side1 ?side2 A148.out).mono ?_); (case side1 => repeat (first | exact (Kd.R_reads' HO_324002.out).2.2 | (with_reducible refine Kd.C_alloc ?_ _) | (with_reducible refine Kd.C_drewN ?_ _) | (with_reducible refine Kd.C_drew ?_))); (case side2 => exact (Kd.R_reads' HO_324002.out).2.1); rintro e w162 ⟨rfl, hb⟩; refine ⟨_, rfl, ?_⟩; have n0_ := Aside0.mk (Kd.R_below (upR HO_311002) hb); have n1_ := Aside0.mk (Kd.R_below (upR HO_317002) hb); have n2_ := Aside0.mk (Kd.R_below (upR HO_324002) hb); have n3_ := Aside0.mk (Kd.R_below (upR HO_349002) hb); have n4_ := Aside0.mk (blk_below (upK BK297) hb); have n5_ := Aside0.mk (blk_below (upK BK310) hb); have n6_ := Aside0.mk (blk_below (upK BK316) hb); have n7_ := Aside0.mk (blk_below (upK BK323) hb); have n8_ := Aside0.mk (blk_below (upK BK348) hb); have n9_ := Aside0.mk (below_step (upW HB) hb); clear HO_311002; clear HO_317002; clear HO_324002; clear HO_349002; clear BK297; clear BK310; clear BK316; clear BK323; clear BK348; clear HB; have HO_311002 := n0_; have HO_317002 := n1_; have HO_324002 := n2_; have HO_349002 := n3_; have BK297 := n4_; have BK310 := n5_; have BK316 := n6_; have BK323 := n7_; have BK348 := n8_; have HB := n9_; clear n0_ n1_ n2_ n3_ n4_ n5_ n6_ n7_ n8_ n9_; (try clear hb); (try clear hb2); (try clear hk); (try clear hi)))
                go_ret
                exact ⟨by first | rfl | (simp [errW_none, errW_some] <;> rfl) | (simp [*, errW_none, errW_some] <;> rfl), by repeat (first | (with_reducible first | exact HB.out | apply below_alloc | apply pw_below_drewN | apply below_drew1 | refine below_set ?_ GE297.out | refine below_set ?_ GE310.out | refine below_set ?_ GE316.out | refine below_set ?_ GE323.out | refine below_set ?_ GE348.out) | exact HB.out)⟩
               ·rw [if_neg c156] at H
                have c156b0 : (t350 == t334) = false := beq_eq_false_iff_ne.mpr c156
                have c156b1 : (t350 != t334) = true := bne_iff_ne.mpr c156
                obtain rfl := Option.some.inj H
                have hnb163 := NB323_297.out
                have hnc163 := NB297_323.out
                have hnb164 := NB323_310.out
                have hnc164 := NB310_323.out
                have hnb165 := NB323_316.out
                have hnc165 := NB316_323.out
                have hnb166 := NB323_348.out
                have hnc166 := NB348_323.out
                have hcz167_0 : wc.cell? ⟨gb323, 0, none⟩ = some (.int .i64 t317) := (blk_cell BK323.out 0).trans rfl
                have hcz167_1 : wc.cell? ⟨gb323, 1, none⟩ = some (.int .i64 t318) := (blk_cell BK323.out 1).trans rfl
                have hcz167_2 : wc.cell? ⟨gb323, 2, none⟩ = some (.slice Ao37 t335.length co37) := (blk_cell BK323.out 2).trans rfl
                have hfz167_0 := blk_frozen BK323.out 0
                have hfz167_1 := blk_frozen BK323.out 1
                have hfz167_2 := blk_frozen BK323.out 2
                go_wp2_with (first | ((with_reducible refine gate_callee (f := 40) rfl ?_); refine goesL_ (some 95) rfl rfl Try.func40 (by kernel_rfl) rfl #[.agg #[.int .i64 t317, .int .i64 t318, .slice Ao37 t335.length co37], .int .i64 1] rfl itp ?_; (with_reducible refine (laws_heldCut.calls kj103 t317 t318 _ _ t335 1 t350 _ ?side1 ?side2 A148.out).mono ?_); (case side1 => repeat (first | exact (Kd.R_reads' HO_324002.out).2.2 | (with_reducible refine Kd.C_alloc ?_ _) | (with_reducible refine Kd.C_drewN ?_ _) | (with_reducible refine Kd.C_drew ?_))); (case side2 => exact (Kd.R_reads' HO_324002.out).2.1); rintro e w168 ⟨rfl, hb⟩; refine ⟨_, rfl, ?_⟩; have n0_ := Aside0.mk (Kd.R_below (upR HO_311002) hb); have n1_ := Aside0.mk (Kd.R_below (upR HO_317002) hb); have n2_ := Aside0.mk (Kd.R_below (upR HO_324002) hb); have n3_ := Aside0.mk (Kd.R_below (upR HO_349002) hb); have n4_ := Aside0.mk (blk_below (upK BK297) hb); have n5_ := Aside0.mk (blk_below (upK BK310) hb); have n6_ := Aside0.mk (blk_below (upK BK316) hb); have n7_ := Aside0.mk (blk_below (upK BK323) hb); have n8_ := Aside0.mk (blk_below (upK BK348) hb); have n9_ := Aside0.mk (below_step (upW HB) hb); clear HO_311002; clear HO_317002; clear HO_324002; clear HO_349002; clear BK297; clear BK310; clear BK316; clear BK323; clear BK348; clear HB; have HO_311002 := n0_; have HO_317002 := n1_; have HO_324002 := n2_; have HO_349002 := n3_; have BK297 := n4_; have BK310 := n5_; have BK316 := n6_; have BK323 := n7_; have BK348 := n8_; have HB := n9_; clear n0_ n1_ n2_ n3_ n4_ n5_ n6_ n7_ n8_ n9_; (try clear hb); (try clear hb2); (try clear hk); (try clear hi)))
                go_ret
                exact ⟨by first | rfl | (simp [errW_none, errW_some] <;> rfl) | (simp [*, errW_none, errW_some] <;> rfl), by repeat (first | (with_reducible first | exact HB.out | apply below_alloc | apply pw_below_drewN | apply below_drew1 | refine below_set ?_ GE297.out | refine below_set ?_ GE310.out | refine below_set ?_ GE316.out | refine below_set ?_ GE323.out | refine below_set ?_ GE348.out) | exact HB.out)⟩
          ·rw [if_neg c101] at H
           have c101b0 : (t336 == t334) = false := beq_eq_false_iff_ne.mpr c101
           have c101b1 : (t336 != t334) = true := bne_iff_ne.mpr c101
           obtain rfl := Option.some.inj H
           have hnb169 := NB323_297.out
           have hnc169 := NB297_323.out
           have hnb170 := NB323_310.out
           have hnc170 := NB310_323.out
           have hnb171 := NB323_316.out
           have hnc171 := NB316_323.out
           have hcz172_0 : wc.cell? ⟨gb323, 0, none⟩ = some (.int .i64 t317) := (blk_cell BK323.out 0).trans rfl
           have hcz172_1 : wc.cell? ⟨gb323, 1, none⟩ = some (.int .i64 t318) := (blk_cell BK323.out 1).trans rfl
           have hcz172_2 : wc.cell? ⟨gb323, 2, none⟩ = some (.slice Ao37 t319.length co37) := (blk_cell BK323.out 2).trans rfl
           have hfz172_0 := blk_frozen BK323.out 0
           have hfz172_1 := blk_frozen BK323.out 1
           have hfz172_2 := blk_frozen BK323.out 2
           go_wp2_with (first | ((with_reducible refine gate_callee (f := 39) rfl ?_); refine goesL_ (some 68) rfl rfl Try.func39 (by kernel_rfl) rfl #[.agg #[.int .i64 t317, .int .i64 t318, .slice Ao37 t319.length co37], .int .i64 1] rfl itp ?_; (with_reducible refine (laws_markCut.calls kj60 t317 t318 (fun k_ => some k_ = (.slice Ao37 t319.length co37 : Value).ownBlock) (.slice Ao37 t319.length co37) t319 1 t334 t335 w _ ?side1 ?side2 A91.out).mono ?_); (case side1 => repeat (first | (with_reducible first | exact HB.out | apply below_alloc | apply pw_below_drewN | apply below_drew1 | refine below_set ?_ GE297.out | refine below_set ?_ GE310.out | refine below_set ?_ GE316.out | refine below_set ?_ GE323.out) | exact HB.out)); (case side2 => exact Kd.R_tight rfl HO_324002.out); rintro e w173 ⟨rfl, hy0, hb, hkp⟩; refine ⟨_, rfl, ?_⟩; have n0_ := Aside0.mk (Kd.R_mono (ok' := fun k_ => some k_ ≠ (.slice Ao30 t332.length co30 : Value).ownBlock ∧ some k_ ≠ (.slice Ao37 t319.length co37 : Value).ownBlock) (Kd.R_keptB (HO_311002.out) hkp (fun k_ hk_ hs_ => (hk_.2) hs_)) (fun k_ hk_ => ⟨hk_.1.1, hk_.1.2⟩)); have n1_ := Aside0.mk (Kd.R_mono (ok' := fun k_ => some k_ ≠ (.slice Ao23 t306.length co23 : Value).ownBlock ∧ some k_ ≠ (.slice Ao37 t319.length co37 : Value).ownBlock) (Kd.R_keptB (HO_317002.out) hkp (fun k_ hk_ hs_ => (hk_.2) hs_)) (fun k_ hk_ => ⟨hk_.1.1, hk_.1.2⟩)); have n2_ := Aside0.mk (Kd.R_reok rfl hy0 (fun k_ e_ => HO_324002.out.1 k_ e_)); have n3_ := Aside0.mk (blk_kept (upK BK297) hkp (fun hs_ => (fun e_ => (Kd.R_ne HO_324002.out BK297.out (by decide)) e_) hs_)); have n4_ := Aside0.mk (blk_kept (upK BK310) hkp (fun hs_ => (fun e_ => (Kd.R_ne HO_324002.out BK310.out (by decide)) e_) hs_)); have n5_ := Aside0.mk (blk_kept (upK BK316) hkp (fun hs_ => (fun e_ => (Kd.R_ne HO_324002.out BK316.out (by decide)) e_) hs_)); have n6_ := Aside0.mk (blk_kept (upK BK323) hkp (fun hs_ => (fun e_ => (Kd.R_ne HO_324002.out BK323.out (by decide)) e_) hs_)); have n7_ := Aside0.mk (hb); clear HO_311002; clear HO_317002; clear HO_324002; clear BK297; clear BK310; clear BK316; clear BK323; clear HB; have HO_311002 := n0_; have HO_317002 := n1_; have HO_324002 := n2_; have BK297 := n3_; have BK310 := n4_; have BK316 := n5_; have BK323 := n6_; have HB := n7_; clear n0_ n1_ n2_ n3_ n4_ n5_ n6_ n7_; (try clear hb); (try clear hkp); (try clear hy0); have hcz174_0 : w173.cell? ⟨gb323, 0, none⟩ = some (.int .i64 t317) := (blk_cell BK323.out 0).trans rfl; have hcz174_1 : w173.cell? ⟨gb323, 1, none⟩ = some (.int .i64 t318) := (blk_cell BK323.out 1).trans rfl; have hcz174_2 : w173.cell? ⟨gb323, 2, none⟩ = some (.slice Ao37 t319.length co37) := (blk_cell BK323.out 2).trans rfl; have hfz174_0 := blk_frozen BK323.out 0; have hfz174_1 := blk_frozen BK323.out 1; have hfz174_2 := blk_frozen BK323.out 2) | ((with_reducible refine gate_callee (f := 40) rfl ?_); refine goesL_ (some 71) rfl rfl Try.func40 (by kernel_rfl) rfl #[.agg #[.int .i64 t317, .int .i64 t318, .slice Ao37 t335.length co37], .int .i64 1] rfl (by (try simp only [List.map_toArray, List.map_cons, List.map_nil]); first | done | (rw [show t335.length = t319.length from (Kd.R_reads' HO_324002.out).1.symm] <;> rfl) | rfl | (simp only [List.length_drop, List.length_take]; rfl)) ?_; (with_reducible refine (laws_heldCut.calls kj60 t317 t318 _ _ t335 1 t336 _ ?side1 ?side2 A92.out).mono ?_); (case side1 => repeat (first | exact (Kd.R_reads' HO_324002.out).2.2 | (with_reducible refine Kd.C_alloc ?_ _) | (with_reducible refine Kd.C_drewN ?_ _) | (with_reducible refine Kd.C_drew ?_))); (case side2 => rw [show t335.length = t319.length from (Kd.R_reads' HO_324002.out).1.symm]; exact (Kd.R_reads' HO_324002.out).2.1); rintro e w175 ⟨rfl, hb⟩; refine ⟨_, rfl, ?_⟩; have n0_ := Aside0.mk (Kd.R_below (upR HO_311002) hb); have n1_ := Aside0.mk (Kd.R_below (upR HO_317002) hb); have n2_ := Aside0.mk (Kd.R_below (upR HO_324002) hb); have n3_ := Aside0.mk (blk_below (upK BK297) hb); have n4_ := Aside0.mk (blk_below (upK BK310) hb); have n5_ := Aside0.mk (blk_below (upK BK316) hb); have n6_ := Aside0.mk (blk_below (upK BK323) hb); have n7_ := Aside0.mk (below_step (upW HB) hb); clear HO_311002; clear HO_317002; clear HO_324002; clear BK297; clear BK310; clear BK316; clear BK323; clear HB; have HO_311002 := n0_; have HO_317002 := n1_; have HO_324002 := n2_; have BK297 := n3_; have BK310 := n4_; have BK316 := n5_; have BK323 := n6_; have HB := n7_; clear n0_ n1_ n2_ n3_ n4_ n5_ n6_ n7_; (try clear hb); (try clear hb2); (try clear hk); (try clear hi)))
           go_ret
           exact ⟨by first | rfl | (simp [errW_none, errW_some] <;> rfl) | (simp [*, errW_none, errW_some] <;> rfl), by repeat (first | (with_reducible first | exact HB.out | apply below_alloc | apply pw_below_drewN | apply below_drew1 | refine below_set ?_ GE297.out | refine below_set ?_ GE310.out | refine below_set ?_ GE316.out | refine below_set ?_ GE323.out) | exact HB.out)⟩
     ·replace c59 := Bool.eq_false_iff.mpr c59
      subst c59
      have H1 : (some false) = some r := by rw [if_neg (show ¬ (false = true) by decide)] at H; exact H
      clear H
      have H := H1
      clear H1
      obtain rfl := Option.some.inj H
      try go_wp2
      have n0_ := Aside0.mk (Kd.R_drew HO_311002.out)
      have n1_ := Aside0.mk (Kd.R_drew HO_317002.out)
      have n2_ := Aside0.mk (Kd.R_drew HO_324002.out)
      have n3_ := Aside0.mk (blk_drew BK297.out)
      have n4_ := Aside0.mk (blk_drew BK310.out)
      have n5_ := Aside0.mk (blk_drew BK316.out)
      have n6_ := Aside0.mk (blk_drew BK323.out)
      have n7_ := Aside0.mk (below_drew1 HB.out)
      clear HO_311002
      clear HO_317002
      clear HO_324002
      clear BK297
      clear BK310
      clear BK316
      clear BK323
      clear HB
      have HO_311002 := n0_
      have HO_317002 := n1_
      have HO_324002 := n2_
      have BK297 := n3_
      have BK310 := n4_
      have BK316 := n5_
      have BK323 := n6_
      have HB := n7_
      clear n0_ n1_ n2_ n3_ n4_ n5_ n6_ n7_
      refine start_ (n := 5) (S := fun w' => w'.cell? ⟨gb316, 0, none⟩ = some (.int .i64 t311) ∧ w'.cell? ⟨gb316, 1, none⟩ = some (.int .i64 t312) ∧ w'.cell? ⟨gb316, 2, none⟩ = some (.slice Ao30 t313.length co30) ∧ w'.cell? ⟨gb297, 0, none⟩ = some (.int .i64 a0_0) ∧ w'.cell? ⟨gb297, 1, none⟩ = some (.int .i64 a0_1) ∧ w'.cell? ⟨gb297, 2, none⟩ = some (.slice A0_2 l0_2.length c0_2)) (ds := []) #[false, false, false, false, false] (by kernel_rfl) rfl rfl ⟨(blk_cell BK316.out 0).trans rfl, (blk_cell BK316.out 1).trans rfl, (blk_cell BK316.out 2).trans rfl, (blk_cell BK297.out 0).trans rfl, (blk_cell BK297.out 1).trans rfl, (blk_cell BK297.out 2).trans rfl⟩ (fun hHeld => ?_)
      generalize wc.drew = w176 at HO_311002 HO_317002 HO_324002 BK297 BK310 BK316 BK323 HB hHeld ⊢
      refine take_ (i := 0) (N := some 45) (v := ?_) (a' := ?_) #[true, false, false, false, false] rfl rfl (by kernel_rfl) (fun _ _ _ h => h) (Or.inl ⟨by rfl, ?_⟩) hHeld ?_ ?_
      rotate_left
      ·rintro w' ⟨s0, s1, s2, s3, s4, s5⟩
       go_simp
       with_reducible rfl
      rotate_left
      ·simp only [Act.put, List.setIfInBounds_toArray, List.set_cons_zero, List.set_cons_succ, i64_w, i32_w]
       rfl
      refine take_ (i := 1) (N := some 46) (v := ?_) (a' := ?_) #[true, true, false, false, false] rfl rfl (by kernel_rfl) (fun _ _ _ h => h) (Or.inl ⟨by rfl, ?_⟩) hHeld ?_ ?_
      rotate_left
      ·rintro w' ⟨s0, s1, s2, s3, s4, s5⟩
       go_simp
       with_reducible rfl
      rotate_left
      ·simp only [Act.put, List.setIfInBounds_toArray, List.set_cons_zero, List.set_cons_succ, i64_w, i32_w]
       rfl
      refine one_ (i := 2) (N := some 47) #[true, true, true, false, false] rfl rfl (by kernel_rfl) (by decide) (fun K hK => ?_)
      refine goes_ Try.func36 (by kernel_rfl) rfl #[.agg #[.int .i64 a0_0, .int .i64 a0_1, .slice A0_2 l0_2.length c0_2]] (by rfl) rfl rfl itp ?_
      with_reducible refine (laws_toCut.calls kj11 a0_0 a0_1 _ _ l0_2 t325 t326 t327 _ ?side1 ?side2 A57.out).mono ?_
      (case side1 => repeat (first | exact (Kd.C_below HR0_2.out HB.out) | (with_reducible refine Kd.C_alloc ?_ _) | (with_reducible refine Kd.C_drewN ?_ _) | (with_reducible refine Kd.C_drew ?_)))
      (case side2 => exact HC0_2.out)
      rintro e w177 ⟨v328, rfl, ho0, hb⟩
      refine ⟨_, rfl, ?_⟩
      have n0_ := Aside0.mk (Kd.R_elder' (upR HO_311002) (Kd.R_base ho0) hb)
      have n1_ := Aside0.mk (Kd.R_elder' (upR HO_317002) (Kd.R_base ho0) hb)
      have n2_ := Aside0.mk (Kd.R_elder' (upR HO_324002) (Kd.R_base ho0) hb)
      have n3_ := Aside0.mk (Kd.R_lower (Kd.R_new' (Kd.R_new' (Kd.R_new' ho0 (Kd.R_lt (upR HO_311002))) (Kd.R_lt (upR HO_317002))) (Kd.R_lt (upR HO_324002))) (below_size (upW HB)))
      have n4_ := Aside0.mk (blk_below (upK BK297) hb)
      have n5_ := Aside0.mk (blk_below (upK BK310) hb)
      have n6_ := Aside0.mk (blk_below (upK BK316) hb)
      have n7_ := Aside0.mk (blk_below (upK BK323) hb)
      have n8_ := Aside0.mk (below_step (upW HB) hb)
      clear HO_311002
      clear HO_317002
      clear HO_324002
      clear BK297
      clear BK310
      clear BK316
      clear BK323
      clear HB
      have HO_311002 := n0_
      have HO_317002 := n1_
      have HO_324002 := n2_
      have HO329 := n3_
      have BK297 := n4_
      have BK310 := n5_
      have BK316 := n6_
      have BK323 := n7_
      have HB := n8_
      clear n0_ n1_ n2_ n3_ n4_ n5_ n6_ n7_ n8_
      (try clear hb)
      (try clear hb2)
      (try clear hk)
      (try clear hi)
      (try clear ho0)
      obtain ⟨Ao178, co178, eo178⟩ := Kd.R_slice HO329.out
      (first | subst eo178 | (injection eo178 with f1_ f2_ f3_; have f4_ := f1_.symm; have f5_ := f3_.symm; clear f1_ f2_ f3_; subst f4_; subst f5_))
      refine hK.out _ _ ⟨(blk_cell BK316.out 0).trans rfl, (blk_cell BK316.out 1).trans rfl, (blk_cell BK316.out 2).trans rfl, (blk_cell BK297.out 0).trans rfl, (blk_cell BK297.out 1).trans rfl, (blk_cell BK297.out 2).trans rfl⟩ (fun hHeld => ?_)
      clear hK K
      refine norm_ (a' := ?_) ?_ ?_
      rotate_left
      ·show Act.put _ (some 47) _ = _
       simp only [Act.put, List.setIfInBounds_toArray, List.set_cons_zero, List.set_cons_succ, i64_w, i32_w]
       rfl
      refine one_ (i := 3) (N := some 48) #[true, true, true, true, false] rfl rfl (by kernel_rfl) (by decide) (fun K hK => ?_)
      refine goes_ Try.func38 (by kernel_rfl) rfl #[.agg #[.int .i64 t311, .int .i64 t312, .slice Ao30 t313.length co30], .agg #[.int .i64 t325, .int .i64 t326, .slice Ao178 t327.length co178]] (by rfl) rfl rfl itp ?_
      with_reducible refine (laws_eqCut.calls kj11 t311 t312 _ _ t313 t325 t326 _ _ t327 false _ ?side1 ?side2 ?side3 ?side4 A58.out).mono ?_
      (case side1 => repeat (first | exact (Kd.R_reads' HO_317002.out).2.2 | (with_reducible refine Kd.C_alloc ?_ _) | (with_reducible refine Kd.C_drewN ?_ _) | (with_reducible refine Kd.C_drew ?_)))
      (case side2 => exact (Kd.R_reads' HO_317002.out).2.1)
      (case side3 => repeat (first | exact (Kd.R_reads' HO329.out).2.2 | (with_reducible refine Kd.C_alloc ?_ _) | (with_reducible refine Kd.C_drewN ?_ _) | (with_reducible refine Kd.C_drew ?_)))
      (case side4 => exact (Kd.R_reads' HO329.out).2.1)
      rintro e w179 ⟨rfl, hb⟩
      refine ⟨_, rfl, ?_⟩
      have n0_ := Aside0.mk (Kd.R_below (upR HO_311002) hb)
      have n1_ := Aside0.mk (Kd.R_below (upR HO_317002) hb)
      have n2_ := Aside0.mk (Kd.R_below (upR HO_324002) hb)
      have n3_ := Aside0.mk (Kd.R_below (upR HO329) hb)
      have n4_ := Aside0.mk (blk_below (upK BK297) hb)
      have n5_ := Aside0.mk (blk_below (upK BK310) hb)
      have n6_ := Aside0.mk (blk_below (upK BK316) hb)
      have n7_ := Aside0.mk (blk_below (upK BK323) hb)
      have n8_ := Aside0.mk (below_step (upW HB) hb)
      clear HO_311002
      clear HO_317002
      clear HO_324002
      clear HO329
      clear BK297
      clear BK310
      clear BK316
      clear BK323
      clear HB
      have HO_311002 := n0_
      have HO_317002 := n1_
      have HO_324002 := n2_
      have HO329 := n3_
      have BK297 := n4_
      have BK310 := n5_
      have BK316 := n6_
      have BK323 := n7_
      have HB := n8_
      clear n0_ n1_ n2_ n3_ n4_ n5_ n6_ n7_ n8_
      (try clear hb)
      (try clear hb2)
      (try clear hk)
      (try clear hi)
      refine hK.out _ _ ⟨(blk_cell BK316.out 0).trans rfl, (blk_cell BK316.out 1).trans rfl, (blk_cell BK316.out 2).trans rfl, (blk_cell BK297.out 0).trans rfl, (blk_cell BK297.out 1).trans rfl, (blk_cell BK297.out 2).trans rfl⟩ (fun hHeld => ?_)
      clear hK K
      refine norm_ (a' := ?_) ?_ ?_
      rotate_left
      ·show Act.put _ (some 48) _ = _
       simp only [Act.put, List.setIfInBounds_toArray, List.set_cons_zero, List.set_cons_succ, i64_w, i32_w]
       rfl
      refine pure_ (i := 4) (N := some 49) (v := ?_) (a' := ?_) #[true, true, true, true, true] rfl rfl (by kernel_rfl) (fun _ _ _ h => h) (Or.inl ⟨by rfl, ?_⟩) ?_ ?_
      rotate_left
      ·intro w'
       go_simp
       with_reducible rfl
      rotate_left
      ·simp only [Act.put, List.setIfInBounds_toArray, List.set_cons_zero, List.set_cons_succ, i64_w, i32_w]
       rfl
      refine done_ (by kernel_rfl) ?_
      try go_wp2
      go_ret
      exact ⟨by first | rfl | (simp [errW_none, errW_some] <;> rfl) | (simp [*, errW_none, errW_some] <;> rfl), by repeat (first | (with_reducible first | exact HB.out | apply below_alloc | apply pw_below_drewN | apply below_drew1 | refine below_set ?_ GE297.out | refine below_set ?_ GE310.out | refine below_set ?_ GE316.out | refine below_set ?_ GE323.out) | exact HB.out)⟩

/-- THE ONE PURE STATEMENT of laws_FnExactGrowCut. -/
def laws_FnExactGrowCut.Pure : Prop := ∀ (a0_0 : Int) (a0_1 : Int) (l0_2 : List (S102)) (a1 : Int), (Lit.int .i64 a0_0).wf = true → (Lit.int .i64 a0_1).wf = true → l0_2.length ≤ maxLen → (∀ q ∈ l0_2, ((Lit.int .i64 q.f0).wf = true) ∧ ((Lit.int .i64 q.f1).wf = true) ∧ ((Lit.int .i64 q.f2).wf = true)) → (Lit.int .i64 a1).wf = true → ∃ k, laws_FnExactGrowCut.f k a0_0 a0_1 l0_2 a1 = some true
theorem laws_FnExactGrowCut.walk (P : laws_FnExactGrowCut.Pure) (a0_0 : Int) (a0_1 : Int) (A0_2 : Option Addr) (c0_2 : Nat) (l0_2 : List (S102)) (a1 : Int) (w : World) (hr0_2 : Kd.C k102 w A0_2 l0_2.length l0_2) (hc0_2 : l0_2.length ≤ c0_2) (w0_ : (Lit.int .i64 a0_0).wf = true) (w1_ : (Lit.int .i64 a0_1).wf = true) (w2_ : l0_2.length ≤ maxLen) (w3_ : (∀ q ∈ l0_2, ((Lit.int .i64 q.f0).wf = true) ∧ ((Lit.int .i64 q.f1).wf = true) ∧ ((Lit.int .i64 q.f2).wf = true))) (w4_ : (Lit.int .i64 a1).wf = true) :
  Calls Try.prog 12 #[.agg #[.int .i64 a0_0, .int .i64 a0_1, .slice A0_2 l0_2.length c0_2], .int .i64 a1] w fun e w' => e = .returned (.bool true) ∧ Below w.heap.size w w' := by
 obtain ⟨k, h⟩ := P a0_0 a0_1 l0_2 a1 w0_ w1_ w2_ w3_ w4_
 refine (laws_FnExactGrowCut.calls k a0_0 a0_1 _ _ l0_2 a1 true w hr0_2 hc0_2 h).mono ?_
 rintro e w' ⟨rfl, hd⟩
 exact ⟨rfl, hd⟩

end Go.Proofs.Ytngbmjldnfljiaa.PFnExactGrowCut
