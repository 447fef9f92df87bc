-- made for this claim by a program of this session
import Derived.Test.YtngbmjldnfljiaaPFnExactTurnCutx0
import Derived.Test.YtngbmjldnfljiaaPFnExactTurnCutx1
import Derived.Test.YtngbmjldnfljiaaPFnExactTurnCutx2
import Derived.Test.YtngbmjldnfljiaaPFnExactTurnCutx5
import Derived.Test.YtngbmjldnfljiaaPFnExactTurnCutx7
namespace Go.Proofs.Ytngbmjldnfljiaa.PFnExactTurnCut
open Go.RowKit Go.Proofs.YtngbmjldnfljiaaW.PrintWords Go.Proofs.YtngbmjldnfljiaaW.PrintLast Go.Proofs.YtngbmjldnfljiaaW.PrintMore
attribute [local go_sem] max2_int min2_int max_two min_two max_three min_three max_four min_four   -- for this text's walks alone
set_option linter.unusedVariables false
set_option linter.unusedSimpArgs false

/-! ### laws_FnExactTurnCut: function 10 -/
mutual
def laws_FnExactTurnCut.j0 : Nat → Bool → Bool → Bool → Int → Int → List (S102) → Int → Int → List (S83) → Int → Int → List (S83) → Int → Int → List (S83) → Option (Bool)
 | 0, _, _, _, _, _, _, _, _, _, _, _, _, _, _, _ => none
 | k + 1, x5, x8, x40, x290000, x290001, x290002, x303000, x303001, x303002, x309000, x309001, x309002, x316000, x316001, x316002 => if x40 = true then (some false) else ((laws_toCut.f k x290000 x290001 x290002).bind fun bt317 => ((laws_eqCut.f k x309000 x309001 x309002 bt317.1 bt317.2.1 bt317.2.2).bind fun t322 => (if t322 = true then ((laws_markCut.f k x309000 x309001 x309002 1).bind fun bt323 => (if bt323.1 < 0 then (laws_FnExactTurnCut.j1 k x5 true x290000 x290001 x290002 x303000 x303001 x303002 x316000 x316001 x316002) else ((laws_eqCut.f k x316000 x316001 x316002 x303000 x303001 x303002).bind fun t325 => (if t325 = true then (laws_FnExactTurnCut.j1 k x5 (x8 != x5) x290000 x290001 x290002 x303000 x303001 x303002 x316000 x316001 x316002) else (laws_FnExactTurnCut.j1 k x5 true x290000 x290001 x290002 x303000 x303001 x303002 x316000 x316001 x316002))))) else (some false))))
def laws_FnExactTurnCut.j1 : Nat → Bool → Bool → Int → Int → List (S102) → Int → Int → List (S83) → Int → Int → List (S83) → Option (Bool)
 | 0, _, _, _, _, _, _, _, _, _, _, _ => none
 | k + 1, x5, x61, x290000, x290001, x290002, x303000, x303001, x303002, x316000, x316001, x316002 => if x61 = true then (some false) else ((laws_markCut.f k x316000 x316001 x316002 1).bind fun bt326 => ((laws_heldCut.f k x316000 x316001 bt326.2 1).bind fun t328 => (if t328 < 0 then (some false) else (if t328 = bt326.1 then ((laws_toCut.f k x290000 x290001 x290002).bind fun bt329 => ((impl_TurnCut.f k bt329.1 bt329.2.1 bt329.2.2).bind fun bt334 => ((laws_eqCut.f k bt334.1 bt334.2.1 bt334.2.2.1 x303000 x303001 x303002).bind fun t341 => (if t341 = true then (laws_FnExactTurnCut.j2 k bt326.1 (bt334.2.2.2 != x5) x316000 x316001 bt326.2) else (laws_FnExactTurnCut.j2 k bt326.1 true x316000 x316001 bt326.2))))) else (some false)))))
def laws_FnExactTurnCut.j2 : Nat → Int → Bool → Int → Int → List (S83) → Option (Bool)
 | 0, _, _, _, _, _ => none
 | k + 1, x10, x87, x316000, x316001, x316002 => if x87 = true then (some false) else ((laws_heldCut.f k x316000 x316001 x316002 1).bind fun t342 => (if t342 < 0 then (some false) else (if t342 = x10 then (some true) else (some false))))
end
def laws_FnExactTurnCut.f (k : Nat) (a0_0 : Int) (a0_1 : Int) (l0_2 : List (S102)) : Option (Bool) := (laws_szCut.f a0_0 a0_1 l0_2 1048576).bind fun t290 => (if t290 < 0 then (some true) else ((laws_toCut.f k a0_0 a0_1 l0_2).bind fun bt291 => ((spec_TurnCut.f k bt291.1 bt291.2.1 bt291.2.2).bind fun bt296 => ((laws_toCut.f k a0_0 a0_1 l0_2).bind fun bt303 => ((impl_TurnCut.f k bt303.1 bt303.2.1 bt303.2.2).bind fun bt309 => ((laws_eqCut.f k bt309.1 bt309.2.1 bt309.2.2.1 bt296.1 bt296.2.1 bt296.2.2.1).bind fun t316 => (if t316 = true then (laws_FnExactTurnCut.j0 k bt296.2.2.2 bt309.2.2.2 (bt309.2.2.2 != bt296.2.2.2) a0_0 a0_1 l0_2 bt296.1 bt296.2.1 bt296.2.2.1 bt303.1 bt303.2.1 bt303.2.2 bt309.1 bt309.2.1 bt309.2.2.1) else (laws_FnExactTurnCut.j0 k bt296.2.2.2 bt309.2.2.2 true a0_0 a0_1 l0_2 bt296.1 bt296.2.1 bt296.2.2.1 bt303.1 bt303.2.1 bt303.2.2 bt309.1 bt309.2.1 bt309.2.2.1))))))))
set_option maxHeartbeats 8000000 in
set_option maxRecDepth 100000 in
theorem laws_FnExactTurnCut.calls (k : Nat) (a0_0 : Int) (a0_1 : Int) (A0_2 : Option Addr) (c0_2 : Nat) (l0_2 : List (S102)) (r : Bool) (w : World) (hr0_2 : Kd.C k102 w A0_2 l0_2.length l0_2) (hc0_2 : l0_2.length ≤ c0_2) (h : laws_FnExactTurnCut.f k a0_0 a0_1 l0_2 = some r) :
  Calls Try.prog 10 #[.agg #[.int .i64 a0_0, .int .i64 a0_1, .slice A0_2 l0_2.length c0_2]] w fun e w' => e = .returned (.bool r) ∧ Below w.heap.size w w' := by
 have hu44 := Try.underlying44
 have hu48 := Try.underlying48
 have HR0_2 := Aside0.mk hr0_2
 have HC0_2 := Aside0.mk hc0_2
 clear hr0_2 hc0_2
 have HB := Aside0.mk (Below.refl w.heap.size w)
 have H : ((laws_szCut.f a0_0 a0_1 l0_2 1048576).bind fun t290 => (if t290 < 0 then (some true) else ((laws_toCut.f k a0_0 a0_1 l0_2).bind fun bt291 => ((spec_TurnCut.f k bt291.1 bt291.2.1 bt291.2.2).bind fun bt296 => ((laws_toCut.f k a0_0 a0_1 l0_2).bind fun bt303 => ((impl_TurnCut.f k bt303.1 bt303.2.1 bt303.2.2).bind fun bt309 => ((laws_eqCut.f k bt309.1 bt309.2.1 bt309.2.2.1 bt296.1 bt296.2.1 bt296.2.2.1).bind fun t316 => (if t316 = true then (laws_FnExactTurnCut.j0 k bt296.2.2.2 bt309.2.2.2 (bt309.2.2.2 != bt296.2.2.2) a0_0 a0_1 l0_2 bt296.1 bt296.2.1 bt296.2.2.1 bt303.1 bt303.2.1 bt303.2.2 bt309.1 bt309.2.1 bt309.2.2.1) else (laws_FnExactTurnCut.j0 k bt296.2.2.2 bt309.2.2.2 true a0_0 a0_1 l0_2 bt296.1 bt296.2.1 bt296.2.2.1 bt303.1 bt303.2.1 bt303.2.2 bt309.1 bt309.2.1 bt309.2.2.1))))))))) = some r := h
 clear h
 replace H := Option.bind_eq_some_iff.mp H
 obtain ⟨t290, A20, H⟩ := H
 replace H : (if t290 < 0 then (some true) else ((laws_toCut.f k a0_0 a0_1 l0_2).bind fun bt291 => ((spec_TurnCut.f k bt291.1 bt291.2.1 bt291.2.2).bind fun bt296 => ((laws_toCut.f k a0_0 a0_1 l0_2).bind fun bt303 => ((impl_TurnCut.f k bt303.1 bt303.2.1 bt303.2.2).bind fun bt309 => ((laws_eqCut.f k bt309.1 bt309.2.1 bt309.2.2.1 bt296.1 bt296.2.1 bt296.2.2.1).bind fun t316 => (if t316 = true then (laws_FnExactTurnCut.j0 k bt296.2.2.2 bt309.2.2.2 (bt309.2.2.2 != bt296.2.2.2) a0_0 a0_1 l0_2 bt296.1 bt296.2.1 bt296.2.2.1 bt303.1 bt303.2.1 bt303.2.2 bt309.1 bt309.2.1 bt309.2.2.1) else (laws_FnExactTurnCut.j0 k bt296.2.2.2 bt309.2.2.2 true a0_0 a0_1 l0_2 bt296.1 bt296.2.1 bt296.2.2.1 bt303.1 bt303.2.1 bt303.2.2 bt309.1 bt309.2.1 bt309.2.2.1)))))))) = some r := H
 have A2 := Aside0.mk A20
 clear A20
 by_cases c3 : t290 < 0
 ·rw [if_pos c3] at H
  have c3b0 : decide (t290 < 0) = true := decide_eq_true c3
  clear c3
  obtain rfl := Option.some.inj H
  go_enter Try.func10, Try.ntmps10
  go_wp2_with (first | ((with_reducible refine gate_dst (N := 1) rfl ?_); refine box_event ?hg (N := 1) ?hd (cs := #[.int .i64 a0_0, .int .i64 a0_1, .slice A0_2 l0_2.length c0_2]) (t := 44) ?hr ?_; (case hd => rfl); (case hg => rfl); (case hr => first | (go_simp; done) | (go_simp; rfl)); intro gb289 hg w4 hbox hb; have n0_ := Aside0.mk (below_step (upW HB) hb); have n1_ := Aside0.mk (hbox); have n2_ := Aside0.mk ((by rw [hg]; exact (below_size (upW HB)) : w.heap.size ≤ gb289)); have n3_ := Aside0.mk ((by rw [hg]; exact (below_size (upW HB)) : w.heap.size ≤ gb289)); clear HB; have HB := n0_; have BK289 := n1_; have GW289 := n2_; have GE289 := n3_; clear n0_ n1_ n2_ n3_; clear hb hbox hg; have hcz5_0 : w4.cell? ⟨gb289, 0, none⟩ = some (.int .i64 a0_0) := (blk_cell BK289.out 0).trans rfl; have hcz5_1 : w4.cell? ⟨gb289, 1, none⟩ = some (.int .i64 a0_1) := (blk_cell BK289.out 1).trans rfl; have hcz5_2 : w4.cell? ⟨gb289, 2, none⟩ = some (.slice A0_2 l0_2.length c0_2) := (blk_cell BK289.out 2).trans rfl; have hfz5_0 := blk_frozen BK289.out 0; have hfz5_1 := blk_frozen BK289.out 1; have hfz5_2 := blk_frozen BK289.out 2) | ((with_reducible refine gate_callee (f := 34) rfl ?_); refine goesL_ (some 16) rfl rfl Try.func34 (by kernel_rfl) rfl #[.agg #[.int .i64 a0_0, .int .i64 a0_1, .slice A0_2 l0_2.length c0_2], .int .i64 1048576] rfl itp ?_; (with_reducible refine (laws_szCut.calls a0_0 a0_1 _ _ l0_2 1048576 t290 _ ?side1 ?side2 A2.out).mono ?_); (case side1 => repeat (first | exact (Kd.C_below HR0_2.out HB.out) | (with_reducible refine Kd.C_alloc ?_ _) | (with_reducible refine Kd.C_drewN ?_ _) | (with_reducible refine Kd.C_drew ?_))); (case side2 => exact HC0_2.out); rintro e w6 ⟨rfl, hb⟩; refine ⟨_, rfl, ?_⟩; have n0_ := Aside0.mk (blk_below (upK BK289) hb); have n1_ := Aside0.mk (below_step (upW HB) hb); clear BK289; clear HB; have BK289 := n0_; have HB := n1_; clear n0_ n1_; (try clear hb); (try clear hb2); (try clear hk); (try clear hi)))
  go_ret
  exact ⟨by first | rfl | (simp [errW_none, errW_some] <;> rfl) | (simp [*, errW_none, errW_some] <;> rfl), by repeat (first | (with_reducible first | exact HB.out | apply below_alloc | apply pw_below_drewN | apply below_drew1 | refine below_set ?_ GE289.out) | exact HB.out)⟩
 ·rw [if_neg c3] at H
  have c3b0 : decide (t290 < 0) = false := decide_eq_false c3
  clear c3
  replace H := Option.bind_eq_some_iff.mp H
  obtain ⟨⟨t291, t292, t293⟩, A70, H⟩ := H
  replace H : ((spec_TurnCut.f k t291 t292 t293).bind fun bt296 => ((laws_toCut.f k a0_0 a0_1 l0_2).bind fun bt303 => ((impl_TurnCut.f k bt303.1 bt303.2.1 bt303.2.2).bind fun bt309 => ((laws_eqCut.f k bt309.1 bt309.2.1 bt309.2.2.1 bt296.1 bt296.2.1 bt296.2.2.1).bind fun t316 => (if t316 = true then (laws_FnExactTurnCut.j0 k bt296.2.2.2 bt309.2.2.2 (bt309.2.2.2 != bt296.2.2.2) a0_0 a0_1 l0_2 bt296.1 bt296.2.1 bt296.2.2.1 bt303.1 bt303.2.1 bt303.2.2 bt309.1 bt309.2.1 bt309.2.2.1) else (laws_FnExactTurnCut.j0 k bt296.2.2.2 bt309.2.2.2 true a0_0 a0_1 l0_2 bt296.1 bt296.2.1 bt296.2.2.1 bt303.1 bt303.2.1 bt303.2.2 bt309.1 bt309.2.1 bt309.2.2.1)))))) = some r := H
  have A7 := Aside0.mk A70
  clear A70
  replace H := Option.bind_eq_some_iff.mp H
  obtain ⟨⟨t296, t297, t298, t301⟩, A80, H⟩ := H
  replace H : ((laws_toCut.f k a0_0 a0_1 l0_2).bind fun bt303 => ((impl_TurnCut.f k bt303.1 bt303.2.1 bt303.2.2).bind fun bt309 => ((laws_eqCut.f k bt309.1 bt309.2.1 bt309.2.2.1 t296 t297 t298).bind fun t316 => (if t316 = true then (laws_FnExactTurnCut.j0 k t301 bt309.2.2.2 (bt309.2.2.2 != t301) a0_0 a0_1 l0_2 t296 t297 t298 bt303.1 bt303.2.1 bt303.2.2 bt309.1 bt309.2.1 bt309.2.2.1) else (laws_FnExactTurnCut.j0 k t301 bt309.2.2.2 true a0_0 a0_1 l0_2 t296 t297 t298 bt303.1 bt303.2.1 bt303.2.2 bt309.1 bt309.2.1 bt309.2.2.1))))) = some r := H
  have A8 := Aside0.mk A80
  clear A80
  replace H := Option.bind_eq_some_iff.mp H
  obtain ⟨⟨t303, t304, t305⟩, A90, H⟩ := H
  replace H : ((impl_TurnCut.f k t303 t304 t305).bind fun bt309 => ((laws_eqCut.f k bt309.1 bt309.2.1 bt309.2.2.1 t296 t297 t298).bind fun t316 => (if t316 = true then (laws_FnExactTurnCut.j0 k t301 bt309.2.2.2 (bt309.2.2.2 != t301) a0_0 a0_1 l0_2 t296 t297 t298 t303 t304 t305 bt309.1 bt309.2.1 bt309.2.2.1) else (laws_FnExactTurnCut.j0 k t301 bt309.2.2.2 true a0_0 a0_1 l0_2 t296 t297 t298 t303 t304 t305 bt309.1 bt309.2.1 bt309.2.2.1)))) = some r := H
  have A9 := Aside0.mk A90
  clear A90
  replace H := Option.bind_eq_some_iff.mp H
  obtain ⟨⟨t309, t310, t311, t314⟩, A100, H⟩ := H
  replace H : ((laws_eqCut.f k t309 t310 t311 t296 t297 t298).bind fun t316 => (if t316 = true then (laws_FnExactTurnCut.j0 k t301 t314 (t314 != t301) a0_0 a0_1 l0_2 t296 t297 t298 t303 t304 t305 t309 t310 t311) else (laws_FnExactTurnCut.j0 k t301 t314 true a0_0 a0_1 l0_2 t296 t297 t298 t303 t304 t305 t309 t310 t311))) = some r := H
  have A10 := Aside0.mk A100
  clear A100
  have HC11 := Aside0.mk H
  clear H
  go_enter Try.func10, Try.ntmps10
  go_upto_region 8 with (first | ((with_reducible refine gate_dst (N := 1) rfl ?_); refine box_event ?hg (N := 1) ?hd (cs := #[.int .i64 a0_0, .int .i64 a0_1, .slice A0_2 l0_2.length c0_2]) (t := 44) ?hr ?_; (case hd => rfl); (case hg => rfl); (case hr => first | (go_simp; done) | (go_simp; rfl)); intro gb289 hg w12 hbox hb; have n0_ := Aside0.mk (below_step (upW HB) hb); have n1_ := Aside0.mk (hbox); have n2_ := Aside0.mk ((by rw [hg]; exact (below_size (upW HB)) : w.heap.size ≤ gb289)); have n3_ := Aside0.mk ((by rw [hg]; exact (below_size (upW HB)) : w.heap.size ≤ gb289)); clear HB; have HB := n0_; have BK289 := n1_; have GW289 := n2_; have GE289 := n3_; clear n0_ n1_ n2_ n3_; clear hb hbox hg; have hcz13_0 : w12.cell? ⟨gb289, 0, none⟩ = some (.int .i64 a0_0) := (blk_cell BK289.out 0).trans rfl; have hcz13_1 : w12.cell? ⟨gb289, 1, none⟩ = some (.int .i64 a0_1) := (blk_cell BK289.out 1).trans rfl; have hcz13_2 : w12.cell? ⟨gb289, 2, none⟩ = some (.slice A0_2 l0_2.length c0_2) := (blk_cell BK289.out 2).trans rfl; have hfz13_0 := blk_frozen BK289.out 0; have hfz13_1 := blk_frozen BK289.out 1; have hfz13_2 := blk_frozen BK289.out 2) | ((with_reducible refine gate_callee (f := 34) rfl ?_); refine goesL_ (some 16) rfl rfl Try.func34 (by kernel_rfl) rfl #[.agg #[.int .i64 a0_0, .int .i64 a0_1, .slice A0_2 l0_2.length c0_2], .int .i64 1048576] rfl itp ?_; (with_reducible refine (laws_szCut.calls a0_0 a0_1 _ _ l0_2 1048576 t290 _ ?side1 ?side2 A2.out).mono ?_); (case side1 => repeat (first | exact (Kd.C_below HR0_2.out HB.out) | (with_reducible refine Kd.C_alloc ?_ _) | (with_reducible refine Kd.C_drewN ?_ _) | (with_reducible refine Kd.C_drew ?_))); (case side2 => exact HC0_2.out); rintro e w14 ⟨rfl, hb⟩; refine ⟨_, rfl, ?_⟩; have n0_ := Aside0.mk (blk_below (upK BK289) hb); have n1_ := Aside0.mk (below_step (upW HB) hb); clear BK289; clear HB; have BK289 := n0_; have HB := n1_; clear n0_ n1_; (try clear hb); (try clear hb2); (try clear hk); (try clear hi); have hcz15_0 : w14.cell? ⟨gb289, 0, none⟩ = some (.int .i64 a0_0) := (blk_cell BK289.out 0).trans rfl; have hcz15_1 : w14.cell? ⟨gb289, 1, none⟩ = some (.int .i64 a0_1) := (blk_cell BK289.out 1).trans rfl; have hcz15_2 : w14.cell? ⟨gb289, 2, none⟩ = some (.slice A0_2 l0_2.length c0_2) := (blk_cell BK289.out 2).trans rfl; have hfz15_0 := blk_frozen BK289.out 0; have hfz15_1 := blk_frozen BK289.out 1; have hfz15_2 := blk_frozen BK289.out 2) | ((with_reducible refine gate_callee (f := 36) rfl ?_); refine goesL_ (some 21) rfl rfl Try.func36 (by kernel_rfl) rfl #[.agg #[.int .i64 a0_0, .int .i64 a0_1, .slice A0_2 l0_2.length c0_2]] rfl itp ?_; (with_reducible refine (laws_toCut.calls k a0_0 a0_1 _ _ l0_2 t291 t292 t293 _ ?side1 ?side2 A7.out).mono ?_); (case side1 => repeat (first | exact (Kd.C_below HR0_2.out HB.out) | (with_reducible refine Kd.C_alloc ?_ _) | (with_reducible refine Kd.C_drewN ?_ _) | (with_reducible refine Kd.C_drew ?_))); (case side2 => exact HC0_2.out); rintro e w16 ⟨v294, rfl, ho0, hb⟩; refine ⟨_, rfl, ?_⟩; have n0_ := Aside0.mk (Kd.R_lower ho0 (below_size (upW HB))); have n1_ := Aside0.mk (blk_below (upK BK289) hb); have n2_ := Aside0.mk (below_step (upW HB) hb); clear BK289; clear HB; have HO295 := n0_; have BK289 := n1_; have HB := n2_; clear n0_ n1_ n2_; (try clear hb); (try clear hb2); (try clear hk); (try clear hi); (try clear ho0); obtain ⟨Ao17, co17, eo17⟩ := Kd.R_slice HO295.out; subst eo17) | ((with_reducible refine gate_callee (f := 41) rfl ?_); refine goesL_ (some 22) rfl rfl Try.func41 (by kernel_rfl) rfl #[.agg #[.int .i64 t291, .int .i64 t292, .slice Ao17 t293.length co17]] rfl itp ?_; (with_reducible refine (spec_TurnCut.calls k t291 t292 _ _ t293 t296 t297 t298 t301 _ ?side1 ?side2 A8.out).mono ?_); (case side1 => repeat (first | exact (Kd.R_reads' HO295.out).2.2 | (with_reducible refine Kd.C_alloc ?_ _) | (with_reducible refine Kd.C_drewN ?_ _) | (with_reducible refine Kd.C_drew ?_))); (case side2 => exact (Kd.R_reads' HO295.out).2.1); rintro e w18 ⟨v299, rfl, ho0, hb⟩; refine ⟨_, rfl, ?_⟩; have n0_ := Aside0.mk (Kd.R_elder' (upR HO295) (Kd.R_base ho0) hb); have n1_ := Aside0.mk (Kd.R_lower (Kd.R_new' ho0 (Kd.R_lt (upR HO295))) (below_size (upW HB))); have n2_ := Aside0.mk (blk_below (upK BK289) hb); have n3_ := Aside0.mk (below_step (upW HB) hb); clear HO295; clear BK289; clear HB; have HO295 := n0_; have HO300 := n1_; have BK289 := n2_; have HB := n3_; clear n0_ n1_ n2_ n3_; (try clear hb); (try clear hb2); (try clear hk); (try clear hi); (try clear ho0)) | ((with_reducible refine gate_dst (N := 4) rfl ?_); refine box_event ?hg (N := 4) ?hd (cs := #[.int .i64 0, .int .i64 0, .slice none 0 0]) (t := 48) ?hr ?_; (case hd => rfl); (case hg => rfl); (case hr => first | (go_simp; done) | (go_simp; rfl)); intro gb302 hg w19 hbox hb; have n0_ := Aside0.mk (Kd.R_below (upR HO295) hb); have n1_ := Aside0.mk (Kd.R_below (upR HO300) hb); have n2_ := Aside0.mk (blk_below (upK BK289) hb); have n3_ := Aside0.mk (below_step (upW HB) hb); have n4_ := Aside0.mk (hbox); have n5_ := Aside0.mk ((by rw [hg]; exact (below_size (upW HB)) : w.heap.size ≤ gb302)); have n6_ := Aside0.mk ((by rw [hg]; exact (below_size (upW HB)) : w.heap.size ≤ gb302)); have n7_ := Aside0.mk ((by rw [hg]; exact Nat.ne_of_lt (blk_lt (upK BK289)) : gb289 ≠ gb302)); have n8_ := Aside0.mk ((by rw [hg]; exact Nat.ne_of_gt (blk_lt (upK BK289)) : gb302 ≠ gb289)); clear HO295; clear HO300; clear BK289; clear HB; have HO295 := n0_; have HO300 := n1_; have BK289 := n2_; have HB := n3_; have BK302 := n4_; have GW302 := n5_; have GE302 := n6_; have NB289_302 := n7_; have NB302_289 := n8_; clear n0_ n1_ n2_ n3_ n4_ n5_ n6_ n7_ n8_; clear hb hbox hg; have hnb20 := NB302_289.out; have hnc20 := NB289_302.out; have hcz21_0 : w19.cell? ⟨gb302, 0, none⟩ = some (.int .i64 0) := (blk_cell BK302.out 0).trans rfl; have hcz21_1 : w19.cell? ⟨gb302, 1, none⟩ = some (.int .i64 0) := (blk_cell BK302.out 1).trans rfl; have hcz21_2 : w19.cell? ⟨gb302, 2, none⟩ = some (.slice none 0 0) := (blk_cell BK302.out 2).trans rfl; have hfz21_0 := blk_frozen BK302.out 0; have hfz21_1 := blk_frozen BK302.out 1; have hfz21_2 := blk_frozen BK302.out 2; obtain ⟨Ao22, co22, eo22⟩ := Kd.R_slice HO300.out; subst eo22; have hcz23_0 : w19.cell? ⟨gb289, 0, none⟩ = some (.int .i64 a0_0) := (blk_cell BK289.out 0).trans rfl; have hcz23_1 : w19.cell? ⟨gb289, 1, none⟩ = some (.int .i64 a0_1) := (blk_cell BK289.out 1).trans rfl; have hcz23_2 : w19.cell? ⟨gb289, 2, none⟩ = some (.slice A0_2 l0_2.length c0_2) := (blk_cell BK289.out 2).trans rfl; have hfz23_0 := blk_frozen BK289.out 0; have hfz23_1 := blk_frozen BK289.out 1; have hfz23_2 := blk_frozen BK289.out 2) | ((with_reducible refine gate_callee (f := 36) rfl ?_); refine goesL_ (some 26) rfl rfl Try.func36 (by kernel_rfl) rfl #[.agg #[.int .i64 a0_0, .int .i64 a0_1, .slice A0_2 l0_2.length c0_2]] rfl itp ?_; (with_reducible refine (laws_toCut.calls k a0_0 a0_1 _ _ l0_2 t303 t304 t305 _ ?side1 ?side2 A9.out).mono ?_); (case side1 => exact Kd.C_below HR0_2.out (upW HB)); (case side2 => exact HC0_2.out); rintro e w24 ⟨v306, rfl, ho0, hb⟩; refine ⟨_, rfl, ?_⟩; have n0_ := Aside0.mk (Kd.R_elder' (by (with_reducible repeat (first | apply Kd.R_alloc | apply Kd.R_drewN | apply Kd.R_drew)); exact (Kd.R_mono (Kd.R_far (p := ⟨gb302, 2, none⟩) (Kd.R_far (p := ⟨gb302, 1, none⟩) (Kd.R_far (p := ⟨gb302, 0, none⟩) (Kd.R_types HO295.out BK302.out (by decide)) (fun _ hk => hk.2) (.int .i64 t296)) (fun _ hk => hk.2) (.int .i64 t297)) (fun _ hk => hk.2) (.slice Ao22 t298.length co22)) (fun _ h_ => h_.1))) (Kd.R_base ho0) hb); have n1_ := Aside0.mk (Kd.R_elder' (by (with_reducible repeat (first | apply Kd.R_alloc | apply Kd.R_drewN | apply Kd.R_drew)); exact (Kd.R_mono (Kd.R_far (p := ⟨gb302, 2, none⟩) (Kd.R_far (p := ⟨gb302, 1, none⟩) (Kd.R_far (p := ⟨gb302, 0, none⟩) (Kd.R_types HO300.out BK302.out (by decide)) (fun _ hk => hk.2) (.int .i64 t296)) (fun _ hk => hk.2) (.int .i64 t297)) (fun _ hk => hk.2) (.slice Ao22 t298.length co22)) (fun _ h_ => h_.1))) (Kd.R_base ho0) hb); have n2_ := Aside0.mk (Kd.R_lower (Kd.R_new' (Kd.R_new' ho0 (Kd.R_lt (by (with_reducible repeat (first | apply Kd.R_alloc | apply Kd.R_drewN | apply Kd.R_drew)); exact (Kd.R_mono (Kd.R_far (p := ⟨gb302, 2, none⟩) (Kd.R_far (p := ⟨gb302, 1, none⟩) (Kd.R_far (p := ⟨gb302, 0, none⟩) (Kd.R_types HO295.out BK302.out (by decide)) (fun _ hk => hk.2) (.int .i64 t296)) (fun _ hk => hk.2) (.int .i64 t297)) (fun _ hk => hk.2) (.slice Ao22 t298.length co22)) (fun _ h_ => h_.1))))) (Kd.R_lt (by (with_reducible repeat (first | apply Kd.R_alloc | apply Kd.R_drewN | apply Kd.R_drew)); exact (Kd.R_mono (Kd.R_far (p := ⟨gb302, 2, none⟩) (Kd.R_far (p := ⟨gb302, 1, none⟩) (Kd.R_far (p := ⟨gb302, 0, none⟩) (Kd.R_types HO300.out BK302.out (by decide)) (fun _ hk => hk.2) (.int .i64 t296)) (fun _ hk => hk.2) (.int .i64 t297)) (fun _ hk => hk.2) (.slice Ao22 t298.length co22)) (fun _ h_ => h_.1))))) (below_size (upW HB))); have n3_ := Aside0.mk (blk_below (upF BK289) hb); have n4_ := Aside0.mk (blk_below (g := gb302) (o := .cells #[.int .i64 t296, .int .i64 t297, .slice Ao22 t298.length co22] 48 (0, 0)) (by (with_reducible repeat (first | refine blk_drewN ?_ _ | refine blk_drew ?_ | refine blk_alloc ?_ _)); refine blk_put (cs := #[.int .i64 t296, .int .i64 t297, .slice none 0 0]) ?_ 2 _ rfl; (with_reducible repeat (first | refine blk_drewN ?_ _ | refine blk_drew ?_ | refine blk_alloc ?_ _)); refine blk_put (cs := #[.int .i64 t296, .int .i64 0, .slice none 0 0]) ?_ 1 _ rfl; (with_reducible repeat (first | refine blk_drewN ?_ _ | refine blk_drew ?_ | refine blk_alloc ?_ _)); refine blk_put (cs := #[.int .i64 0, .int .i64 0, .slice none 0 0]) ?_ 0 _ rfl; (with_reducible repeat (first | refine blk_drewN ?_ _ | refine blk_drew ?_ | refine blk_alloc ?_ _)); exact BK302.out) hb); have n5_ := Aside0.mk (below_step (upW HB) hb); clear HO295; clear HO300; clear BK289; clear BK302; clear HB; have HO295 := n0_; have HO300 := n1_; have HO307 := n2_; have BK289 := n3_; have BK302 := n4_; have HB := n5_; clear n0_ n1_ n2_ n3_ n4_ n5_; (try clear hb); (try clear hb2); (try clear hk); (try clear hi); (try clear ho0)) | ((with_reducible refine gate_dst (N := 6) rfl ?_); refine box_event ?hg (N := 6) ?hd (cs := #[.int .i64 0, .int .i64 0, .slice none 0 0]) (t := 48) ?hr ?_; (case hd => rfl); (case hg => rfl); (case hr => first | (go_simp; done) | (go_simp; rfl)); intro gb308 hg w25 hbox hb; have n0_ := Aside0.mk (Kd.R_below (upR HO295) hb); have n1_ := Aside0.mk (Kd.R_below (upR HO300) hb); have n2_ := Aside0.mk (Kd.R_below (upR HO307) hb); have n3_ := Aside0.mk (blk_below (upK BK289) hb); have n4_ := Aside0.mk (blk_below (upK BK302) hb); have n5_ := Aside0.mk (below_step (upW HB) hb); have n6_ := Aside0.mk (hbox); have n7_ := Aside0.mk ((by rw [hg]; exact (below_size (upW HB)) : w.heap.size ≤ gb308)); have n8_ := Aside0.mk ((by rw [hg]; exact (below_size (upW HB)) : w.heap.size ≤ gb308)); have n9_ := Aside0.mk ((by rw [hg]; exact Nat.ne_of_lt (blk_lt (upK BK289)) : gb289 ≠ gb308)); have n10_ := Aside0.mk ((by rw [hg]; exact Nat.ne_of_gt (blk_lt (upK BK289)) : gb308 ≠ gb289)); have n11_ := Aside0.mk ((by rw [hg]; exact Nat.ne_of_lt (blk_lt (upK BK302)) : gb302 ≠ gb308)); have n12_ := Aside0.mk ((by rw [hg]; exact Nat.ne_of_gt (blk_lt (upK BK302)) : gb308 ≠ gb302)); clear HO295; clear HO300; clear HO307; clear BK289; clear BK302; clear HB; have HO295 := n0_; have HO300 := n1_; have HO307 := n2_; have BK289 := n3_; have BK302 := n4_; have HB := n5_; have BK308 := n6_; have GW308 := n7_; have GE308 := n8_; have NB289_308 := n9_; have NB308_289 := n10_; have NB302_308 := n11_; have NB308_302 := n12_; clear n0_ n1_ n2_ n3_ n4_ n5_ n6_ n7_ n8_ n9_ n10_ n11_ n12_; clear hb hbox hg; have hnb26 := NB308_289.out; have hnc26 := NB289_308.out; have hnb27 := NB308_302.out; have hnc27 := NB302_308.out; have hcz28_0 : w25.cell? ⟨gb308, 0, none⟩ = some (.int .i64 0) := (blk_cell BK308.out 0).trans rfl; have hcz28_1 : w25.cell? ⟨gb308, 1, none⟩ = some (.int .i64 0) := (blk_cell BK308.out 1).trans rfl; have hcz28_2 : w25.cell? ⟨gb308, 2, none⟩ = some (.slice none 0 0) := (blk_cell BK308.out 2).trans rfl; have hfz28_0 := blk_frozen BK308.out 0; have hfz28_1 := blk_frozen BK308.out 1; have hfz28_2 := blk_frozen BK308.out 2; obtain ⟨Ao29, co29, eo29⟩ := Kd.R_slice HO307.out; subst eo29) | ((with_reducible refine gate_callee (f := 42) rfl ?_); refine goesL_ (some 29) rfl rfl Try.func42 (by kernel_rfl) rfl #[.agg #[.int .i64 t303, .int .i64 t304, .slice Ao29 t305.length co29]] rfl itp ?_; (with_reducible refine (impl_TurnCut.calls k t303 t304 _ _ t305 t309 t310 t311 t314 _ ?side1 ?side2 A10.out).mono ?_); (case side1 => refine (Kd.R_reads' (e := 83) (base := w.heap.size) (ok := fun k_ => ((True ∧ some k_ ≠ (.slice Ao17 t293.length co17 : Value).ownBlock) ∧ some k_ ≠ (.slice Ao22 t298.length co22 : Value).ownBlock)) (n := t305.length) (c := co29) ?_).2.2; exact (by (with_reducible repeat (first | apply Kd.R_alloc | apply Kd.R_drewN | apply Kd.R_drew)); exact (Kd.R_mono (Kd.R_far (p := ⟨gb308, 2, none⟩) (Kd.R_far (p := ⟨gb308, 1, none⟩) (Kd.R_far (p := ⟨gb308, 0, none⟩) (Kd.R_types HO307.out BK308.out (by decide)) (fun _ hk => hk.2) (.int .i64 t303)) (fun _ hk => hk.2) (.int .i64 t304)) (fun _ hk => hk.2) (.slice Ao29 t305.length co29)) (fun _ h_ => h_.1)))); (case side2 => exact (Kd.R_reads' HO307.out).2.1); rintro e w30 ⟨v312, rfl, ho0, hb⟩; refine ⟨_, rfl, ?_⟩; have n0_ := Aside0.mk (Kd.R_elder' (by (with_reducible repeat (first | apply Kd.R_alloc | apply Kd.R_drewN | apply Kd.R_drew)); exact (Kd.R_mono (Kd.R_far (p := ⟨gb308, 2, none⟩) (Kd.R_far (p := ⟨gb308, 1, none⟩) (Kd.R_far (p := ⟨gb308, 0, none⟩) (Kd.R_types HO295.out BK308.out (by decide)) (fun _ hk => hk.2) (.int .i64 t303)) (fun _ hk => hk.2) (.int .i64 t304)) (fun _ hk => hk.2) (.slice Ao29 t305.length co29)) (fun _ h_ => h_.1))) (Kd.R_base ho0) hb); have n1_ := Aside0.mk (Kd.R_elder' (by (with_reducible repeat (first | apply Kd.R_alloc | apply Kd.R_drewN | apply Kd.R_drew)); exact (Kd.R_mono (Kd.R_far (p := ⟨gb308, 2, none⟩) (Kd.R_far (p := ⟨gb308, 1, none⟩) (Kd.R_far (p := ⟨gb308, 0, none⟩) (Kd.R_types HO300.out BK308.out (by decide)) (fun _ hk => hk.2) (.int .i64 t303)) (fun _ hk => hk.2) (.int .i64 t304)) (fun _ hk => hk.2) (.slice Ao29 t305.length co29)) (fun _ h_ => h_.1))) (Kd.R_base ho0) hb); have n2_ := Aside0.mk (Kd.R_elder' (by (with_reducible repeat (first | apply Kd.R_alloc | apply Kd.R_drewN | apply Kd.R_drew)); exact (Kd.R_mono (Kd.R_far (p := ⟨gb308, 2, none⟩) (Kd.R_far (p := ⟨gb308, 1, none⟩) (Kd.R_far (p := ⟨gb308, 0, none⟩) (Kd.R_types HO307.out BK308.out (by decide)) (fun _ hk => hk.2) (.int .i64 t303)) (fun _ hk => hk.2) (.int .i64 t304)) (fun _ hk => hk.2) (.slice Ao29 t305.length co29)) (fun _ h_ => h_.1))) (Kd.R_base ho0) hb); have n3_ := Aside0.mk (Kd.R_lower (Kd.R_new' (Kd.R_new' (Kd.R_new' ho0 (Kd.R_lt (by (with_reducible repeat (first | apply Kd.R_alloc | apply Kd.R_drewN | apply Kd.R_drew)); exact (Kd.R_mono (Kd.R_far (p := ⟨gb308, 2, none⟩) (Kd.R_far (p := ⟨gb308, 1, none⟩) (Kd.R_far (p := ⟨gb308, 0, none⟩) (Kd.R_types HO295.out BK308.out (by decide)) (fun _ hk => hk.2) (.int .i64 t303)) (fun _ hk => hk.2) (.int .i64 t304)) (fun _ hk => hk.2) (.slice Ao29 t305.length co29)) (fun _ h_ => h_.1))))) (Kd.R_lt (by (with_reducible repeat (first | apply Kd.R_alloc | apply Kd.R_drewN | apply Kd.R_drew)); exact (Kd.R_mono (Kd.R_far (p := ⟨gb308, 2, none⟩) (Kd.R_far (p := ⟨gb308, 1, none⟩) (Kd.R_far (p := ⟨gb308, 0, none⟩) (Kd.R_types HO300.out BK308.out (by decide)) (fun _ hk => hk.2) (.int .i64 t303)) (fun _ hk => hk.2) (.int .i64 t304)) (fun _ hk => hk.2) (.slice Ao29 t305.length co29)) (fun _ h_ => h_.1))))) (Kd.R_lt (by (with_reducible repeat (first | apply Kd.R_alloc | apply Kd.R_drewN | apply Kd.R_drew)); exact (Kd.R_mono (Kd.R_far (p := ⟨gb308, 2, none⟩) (Kd.R_far (p := ⟨gb308, 1, none⟩) (Kd.R_far (p := ⟨gb308, 0, none⟩) (Kd.R_types HO307.out BK308.out (by decide)) (fun _ hk => hk.2) (.int .i64 t303)) (fun _ hk => hk.2) (.int .i64 t304)) (fun _ hk => hk.2) (.slice Ao29 t305.length co29)) (fun _ h_ => h_.1))))) (below_size (upW HB))); have n4_ := Aside0.mk (blk_below (upF BK289) hb); have n5_ := Aside0.mk (blk_below (upF BK302) hb); have n6_ := Aside0.mk (blk_below (g := gb308) (o := .cells #[.int .i64 t303, .int .i64 t304, .slice Ao29 t305.length co29] 48 (0, 0)) (by (with_reducible repeat (first | refine blk_drewN ?_ _ | refine blk_drew ?_ | refine blk_alloc ?_ _)); refine blk_put (cs := #[.int .i64 t303, .int .i64 t304, .slice none 0 0]) ?_ 2 _ rfl; (with_reducible repeat (first | refine blk_drewN ?_ _ | refine blk_drew ?_ | refine blk_alloc ?_ _)); refine blk_put (cs := #[.int .i64 t303, .int .i64 0, .slice none 0 0]) ?_ 1 _ rfl; (with_reducible repeat (first | refine blk_drewN ?_ _ | refine blk_drew ?_ | refine blk_alloc ?_ _)); refine blk_put (cs := #[.int .i64 0, .int .i64 0, .slice none 0 0]) ?_ 0 _ rfl; (with_reducible repeat (first | refine blk_drewN ?_ _ | refine blk_drew ?_ | refine blk_alloc ?_ _)); exact BK308.out) hb); have n7_ := Aside0.mk (below_step (upW HB) hb); clear HO295; clear HO300; clear HO307; clear BK289; clear BK302; clear BK308; clear HB; have HO295 := n0_; have HO300 := n1_; have HO307 := n2_; have HO313 := n3_; have BK289 := n4_; have BK302 := n5_; have BK308 := n6_; have HB := n7_; clear n0_ n1_ n2_ n3_ n4_ n5_ n6_ n7_; (try clear hb); (try clear hb2); (try clear hk); (try clear hi); (try clear ho0)) | ((with_reducible refine gate_dst (N := 7) rfl ?_); refine box_event ?hg (N := 7) ?hd (cs := #[.int .i64 0, .int .i64 0, .slice none 0 0]) (t := 48) ?hr ?_; (case hd => rfl); (case hg => rfl); (case hr => first | (go_simp; done) | (go_simp; rfl)); intro gb315 hg w31 hbox hb; have n0_ := Aside0.mk (Kd.R_below (upR HO295) hb); have n1_ := Aside0.mk (Kd.R_below (upR HO300) hb); have n2_ := Aside0.mk (Kd.R_below (upR HO307) hb); have n3_ := Aside0.mk (Kd.R_below (upR HO313) hb); have n4_ := Aside0.mk (blk_below (upK BK289) hb); have n5_ := Aside0.mk (blk_below (upK BK302) hb); have n6_ := Aside0.mk (blk_below (upK BK308) hb); have n7_ := Aside0.mk (below_step (upW HB) hb); have n8_ := Aside0.mk (hbox); have n9_ := Aside0.mk ((by rw [hg]; exact (below_size (upW HB)) : w.heap.size ≤ gb315)); have n10_ := Aside0.mk ((by rw [hg]; exact (below_size (upW HB)) : w.heap.size ≤ gb315)); have n11_ := Aside0.mk ((by rw [hg]; exact Nat.ne_of_lt (blk_lt (upK BK289)) : gb289 ≠ gb315)); have n12_ := Aside0.mk ((by rw [hg]; exact Nat.ne_of_gt (blk_lt (upK BK289)) : gb315 ≠ gb289)); have n13_ := Aside0.mk ((by rw [hg]; exact Nat.ne_of_lt (blk_lt (upK BK302)) : gb302 ≠ gb315)); have n14_ := Aside0.mk ((by rw [hg]; exact Nat.ne_of_gt (blk_lt (upK BK302)) : gb315 ≠ gb302)); have n15_ := Aside0.mk ((by rw [hg]; exact Nat.ne_of_lt (blk_lt (upK BK308)) : gb308 ≠ gb315)); have n16_ := Aside0.mk ((by rw [hg]; exact Nat.ne_of_gt (blk_lt (upK BK308)) : gb315 ≠ gb308)); clear HO295; clear HO300; clear HO307; clear HO313; clear BK289; clear BK302; clear BK308; clear HB; have HO295 := n0_; have HO300 := n1_; have HO307 := n2_; have HO313 := n3_; have BK289 := n4_; have BK302 := n5_; have BK308 := n6_; have HB := n7_; have BK315 := n8_; have GW315 := n9_; have GE315 := n10_; have NB289_315 := n11_; have NB315_289 := n12_; have NB302_315 := n13_; have NB315_302 := n14_; have NB308_315 := n15_; have NB315_308 := n16_; clear n0_ n1_ n2_ n3_ n4_ n5_ n6_ n7_ n8_ n9_ n10_ n11_ n12_ n13_ n14_ n15_ n16_; clear hb hbox hg; have hnb32 := NB315_289.out; have hnc32 := NB289_315.out; have hnb33 := NB315_302.out; have hnc33 := NB302_315.out; have hnb34 := NB315_308.out; have hnc34 := NB308_315.out; have hcz35_0 : w31.cell? ⟨gb315, 0, none⟩ = some (.int .i64 0) := (blk_cell BK315.out 0).trans rfl; have hcz35_1 : w31.cell? ⟨gb315, 1, none⟩ = some (.int .i64 0) := (blk_cell BK315.out 1).trans rfl; have hcz35_2 : w31.cell? ⟨gb315, 2, none⟩ = some (.slice none 0 0) := (blk_cell BK315.out 2).trans rfl; have hfz35_0 := blk_frozen BK315.out 0; have hfz35_1 := blk_frozen BK315.out 1; have hfz35_2 := blk_frozen BK315.out 2; obtain ⟨Ao36, co36, eo36⟩ := Kd.R_slice HO313.out; subst eo36))
  (try simp only [Act.put, List.setIfInBounds_toArray, List.set_cons_zero, List.set_cons_succ])
  go_cut [40] (fun v40 wc => ∃ (kq : Nat) (x40_10 : Bool), v40 = .bool x40_10 ∧ Aside0 (laws_FnExactTurnCut.j0 kq t301 t314 x40_10 a0_0 a0_1 l0_2 t296 t297 t298 t303 t304 t305 t309 t310 t311 = some r) ∧ Aside0 (kq ≤ k) ∧ Aside0 (Kd.R k83 83 wc w.heap.size (fun k_ => some k_ ≠ ((.slice Ao29 t305.length co29) : Value).ownBlock ∧ some k_ ≠ ((.slice Ao36 t311.length co36) : Value).ownBlock) (.slice Ao22 t298.length co22) t298) ∧ Aside0 (Kd.R k83 83 wc w.heap.size (fun k_ => some k_ ≠ ((.slice Ao22 t298.length co22) : Value).ownBlock ∧ some k_ ≠ ((.slice Ao36 t311.length co36) : Value).ownBlock) (.slice Ao29 t305.length co29) t305) ∧ Aside0 (Kd.R k83 83 wc w.heap.size (fun k_ => some k_ ≠ ((.slice Ao22 t298.length co22) : Value).ownBlock ∧ some k_ ≠ ((.slice Ao29 t305.length co29) : Value).ownBlock) (.slice Ao36 t311.length co36) t311) ∧ Aside0 (wc.heap[gb289]? = some (.cells #[.int .i64 a0_0, .int .i64 a0_1, (.slice A0_2 l0_2.length c0_2)] 44 (0, 0))) ∧ Aside0 (wc.heap[gb302]? = some (.cells #[.int .i64 t296, .int .i64 t297, (.slice Ao22 t298.length co22)] 48 (0, 0))) ∧ Aside0 (wc.heap[gb308]? = some (.cells #[.int .i64 t303, .int .i64 t304, (.slice Ao29 t305.length co29)] 48 (0, 0))) ∧ Aside0 (wc.heap[gb315]? = some (.cells #[.int .i64 t309, .int .i64 t310, (.slice Ao36 t311.length co36)] 48 (0, 0))) ∧ Aside0 (Below w.heap.size w wc))
  case first =>
   have H := HC11.out
   clear HC11
   replace H := Option.bind_eq_some_iff.mp H
   obtain ⟨t316, A370, H⟩ := H
   replace H : (if t316 = true then (laws_FnExactTurnCut.j0 k t301 t314 (t314 != t301) a0_0 a0_1 l0_2 t296 t297 t298 t303 t304 t305 t309 t310 t311) else (laws_FnExactTurnCut.j0 k t301 t314 true a0_0 a0_1 l0_2 t296 t297 t298 t303 t304 t305 t309 t310 t311)) = some r := H
   have A37 := Aside0.mk A370
   clear A370
   by_cases c38 : t316 = true
   ·subst c38
    have H1 : (laws_FnExactTurnCut.j0 k t301 t314 (t314 != t301) a0_0 a0_1 l0_2 t296 t297 t298 t303 t304 t305 t309 t310 t311) = some r := by rw [if_pos rfl] at H; exact H
    clear H
    have H := H1
    clear H1
    have H' := Aside0.mk H
    clear H
    have hnb39 := NB315_289.out
    have hnc39 := NB289_315.out
    have hnb40 := NB315_302.out
    have hnc40 := NB302_315.out
    have hnb41 := NB315_308.out
    have hnc41 := NB308_315.out
    have hcz42_0 : w31.cell? ⟨gb315, 0, none⟩ = some (.int .i64 0) := (blk_cell BK315.out 0).trans rfl
    have hcz42_1 : w31.cell? ⟨gb315, 1, none⟩ = some (.int .i64 0) := (blk_cell BK315.out 1).trans rfl
    have hcz42_2 : w31.cell? ⟨gb315, 2, none⟩ = some (.slice none 0 0) := (blk_cell BK315.out 2).trans rfl
    have hfz42_0 := blk_frozen BK315.out 0
    have hfz42_1 := blk_frozen BK315.out 1
    have hfz42_2 := blk_frozen BK315.out 2
    have hnb43 := NB302_289.out
    have hnc43 := NB289_302.out
    have hnb44 := NB302_308.out
    have hnc44 := NB308_302.out
    have hcz45_0 : w31.cell? ⟨gb302, 0, none⟩ = some (.int .i64 t296) := (blk_cell BK302.out 0).trans rfl
    have hcz45_1 : w31.cell? ⟨gb302, 1, none⟩ = some (.int .i64 t297) := (blk_cell BK302.out 1).trans rfl
    have hcz45_2 : w31.cell? ⟨gb302, 2, none⟩ = some (.slice Ao22 t298.length co22) := (blk_cell BK302.out 2).trans rfl
    have hfz45_0 := blk_frozen BK302.out 0
    have hfz45_1 := blk_frozen BK302.out 1
    have hfz45_2 := blk_frozen BK302.out 2
    go_wp2_with (first | ((with_reducible refine gate_callee (f := 38) rfl ?_); refine goesL_ (some 34) rfl rfl Try.func38 (by kernel_rfl) rfl #[.agg #[.int .i64 t309, .int .i64 t310, .slice Ao36 t311.length co36], .agg #[.int .i64 t296, .int .i64 t297, .slice Ao22 t298.length co22]] rfl itp ?_; (with_reducible refine (laws_eqCut.calls k t309 t310 _ _ t311 t296 t297 _ _ t298 true _ ?side1 ?side2 ?side3 ?side4 A37.out).mono ?_); (case side1 => refine (Kd.R_reads' (e := 83) (base := w.heap.size) (ok := fun k_ => (((True ∧ some k_ ≠ (.slice Ao17 t293.length co17 : Value).ownBlock) ∧ some k_ ≠ (.slice Ao22 t298.length co22 : Value).ownBlock) ∧ some k_ ≠ (.slice Ao29 t305.length co29 : Value).ownBlock)) (n := t311.length) (c := co36) ?_).2.2; exact (by (with_reducible repeat (first | apply Kd.R_alloc | apply Kd.R_drewN | apply Kd.R_drew)); exact (Kd.R_mono (Kd.R_far (p := ⟨gb315, 2, none⟩) (Kd.R_far (p := ⟨gb315, 1, none⟩) (Kd.R_far (p := ⟨gb315, 0, none⟩) (Kd.R_types HO313.out BK315.out (by decide)) (fun _ hk => hk.2) (.int .i64 t309)) (fun _ hk => hk.2) (.int .i64 t310)) (fun _ hk => hk.2) (.slice Ao36 t311.length co36)) (fun _ h_ => h_.1)))); (case side2 => exact (Kd.R_reads' HO313.out).2.1); (case side3 => refine (Kd.R_reads' (e := 83) (base := w.heap.size) (ok := fun k_ => (((True ∧ some k_ ≠ (.slice Ao17 t293.length co17 : Value).ownBlock) ∧ some k_ ≠ (.slice Ao29 t305.length co29 : Value).ownBlock) ∧ some k_ ≠ (.slice Ao36 t311.length co36 : Value).ownBlock)) (n := t298.length) (c := co22) ?_).2.2; exact (by (with_reducible repeat (first | apply Kd.R_alloc | apply Kd.R_drewN | apply Kd.R_drew)); exact (Kd.R_mono (Kd.R_far (p := ⟨gb315, 2, none⟩) (Kd.R_far (p := ⟨gb315, 1, none⟩) (Kd.R_far (p := ⟨gb315, 0, none⟩) (Kd.R_types HO300.out BK315.out (by decide)) (fun _ hk => hk.2) (.int .i64 t309)) (fun _ hk => hk.2) (.int .i64 t310)) (fun _ hk => hk.2) (.slice Ao36 t311.length co36)) (fun _ h_ => h_.1)))); (case side4 => exact (Kd.R_reads' HO300.out).2.1); rintro e w46 ⟨rfl, hb⟩; refine ⟨_, rfl, ?_⟩; have n0_ := Aside0.mk (Kd.R_below (by (with_reducible repeat (first | apply Kd.R_alloc | apply Kd.R_drewN | apply Kd.R_drew)); exact (Kd.R_mono (Kd.R_far (p := ⟨gb315, 2, none⟩) (Kd.R_far (p := ⟨gb315, 1, none⟩) (Kd.R_far (p := ⟨gb315, 0, none⟩) (Kd.R_types HO295.out BK315.out (by decide)) (fun _ hk => hk.2) (.int .i64 t309)) (fun _ hk => hk.2) (.int .i64 t310)) (fun _ hk => hk.2) (.slice Ao36 t311.length co36)) (fun _ h_ => h_.1))) hb); have n1_ := Aside0.mk (Kd.R_below (by (with_reducible repeat (first | apply Kd.R_alloc | apply Kd.R_drewN | apply Kd.R_drew)); exact (Kd.R_mono (Kd.R_far (p := ⟨gb315, 2, none⟩) (Kd.R_far (p := ⟨gb315, 1, none⟩) (Kd.R_far (p := ⟨gb315, 0, none⟩) (Kd.R_types HO300.out BK315.out (by decide)) (fun _ hk => hk.2) (.int .i64 t309)) (fun _ hk => hk.2) (.int .i64 t310)) (fun _ hk => hk.2) (.slice Ao36 t311.length co36)) (fun _ h_ => h_.1))) hb); have n2_ := Aside0.mk (Kd.R_below (by (with_reducible repeat (first | apply Kd.R_alloc | apply Kd.R_drewN | apply Kd.R_drew)); exact (Kd.R_mono (Kd.R_far (p := ⟨gb315, 2, none⟩) (Kd.R_far (p := ⟨gb315, 1, none⟩) (Kd.R_far (p := ⟨gb315, 0, none⟩) (Kd.R_types HO307.out BK315.out (by decide)) (fun _ hk => hk.2) (.int .i64 t309)) (fun _ hk => hk.2) (.int .i64 t310)) (fun _ hk => hk.2) (.slice Ao36 t311.length co36)) (fun _ h_ => h_.1))) hb); have n3_ := Aside0.mk (Kd.R_below (by (with_reducible repeat (first | apply Kd.R_alloc | apply Kd.R_drewN | apply Kd.R_drew)); exact (Kd.R_mono (Kd.R_far (p := ⟨gb315, 2, none⟩) (Kd.R_far (p := ⟨gb315, 1, none⟩) (Kd.R_far (p := ⟨gb315, 0, none⟩) (Kd.R_types HO313.out BK315.out (by decide)) (fun _ hk => hk.2) (.int .i64 t309)) (fun _ hk => hk.2) (.int .i64 t310)) (fun _ hk => hk.2) (.slice Ao36 t311.length co36)) (fun _ h_ => h_.1))) hb); have n4_ := Aside0.mk (blk_below (upF BK289) hb); have n5_ := Aside0.mk (blk_below (upF BK302) hb); have n6_ := Aside0.mk (blk_below (upF BK308) hb); have n7_ := Aside0.mk (blk_below (g := gb315) (o := .cells #[.int .i64 t309, .int .i64 t310, .slice Ao36 t311.length co36] 48 (0, 0)) (by (with_reducible repeat (first | refine blk_drewN ?_ _ | refine blk_drew ?_ | refine blk_alloc ?_ _)); refine blk_put (cs := #[.int .i64 t309, .int .i64 t310, .slice none 0 0]) ?_ 2 _ rfl; (with_reducible repeat (first | refine blk_drewN ?_ _ | refine blk_drew ?_ | refine blk_alloc ?_ _)); refine blk_put (cs := #[.int .i64 t309, .int .i64 0, .slice none 0 0]) ?_ 1 _ rfl; (with_reducible repeat (first | refine blk_drewN ?_ _ | refine blk_drew ?_ | refine blk_alloc ?_ _)); refine blk_put (cs := #[.int .i64 0, .int .i64 0, .slice none 0 0]) ?_ 0 _ rfl; (with_reducible repeat (first | refine blk_drewN ?_ _ | refine blk_drew ?_ | refine blk_alloc ?_ _)); exact BK315.out) hb); have n8_ := Aside0.mk (below_step (upW HB) hb); clear HO295; clear HO300; clear HO307; clear HO313; clear BK289; clear BK302; clear BK308; clear BK315; clear HB; have HO295 := n0_; have HO300 := n1_; have HO307 := n2_; have HO313 := n3_; have BK289 := n4_; have BK302 := n5_; have BK308 := n6_; have BK315 := n7_; have HB := n8_; clear n0_ n1_ n2_ n3_ n4_ n5_ n6_ n7_ n8_; (try clear hb); (try clear hb2); (try clear hk); (try clear hi)))
    go_meet
    case rel => exact ⟨_, ((t314 != t301)), (by first | rfl | (simp; done) | (simp [*]; done)), H', ⟨by first | omega | exact Nat.le_refl _⟩, ⟨by (with_reducible repeat (first | apply Kd.R_alloc | apply Kd.R_drewN | apply Kd.R_drew)); exact Kd.R_mono HO300.out (fun _ hk => ⟨hk.1.2, hk.2⟩)⟩, ⟨by (with_reducible repeat (first | apply Kd.R_alloc | apply Kd.R_drewN | apply Kd.R_drew)); exact Kd.R_mono HO307.out (fun _ hk => ⟨hk.1.2, hk.2⟩)⟩, ⟨by (with_reducible repeat (first | apply Kd.R_alloc | apply Kd.R_drewN | apply Kd.R_drew)); exact Kd.R_mono HO313.out (fun _ hk => ⟨hk.1.2, hk.2⟩)⟩, ⟨upK BK289⟩, ⟨upK BK302⟩, ⟨upK BK308⟩, ⟨upK BK315⟩, ⟨upW HB⟩⟩
   ·replace c38 := Bool.eq_false_iff.mpr c38
    subst c38
    have H1 : (laws_FnExactTurnCut.j0 k t301 t314 true a0_0 a0_1 l0_2 t296 t297 t298 t303 t304 t305 t309 t310 t311) = some r := by rw [if_neg (show ¬ (false = true) by decide)] at H; exact H
    clear H
    have H := H1
    clear H1
    have H' := Aside0.mk H
    clear H
    have hnb47 := NB315_289.out
    have hnc47 := NB289_315.out
    have hnb48 := NB315_302.out
    have hnc48 := NB302_315.out
    have hnb49 := NB315_308.out
    have hnc49 := NB308_315.out
    have hcz50_0 : w31.cell? ⟨gb315, 0, none⟩ = some (.int .i64 0) := (blk_cell BK315.out 0).trans rfl
    have hcz50_1 : w31.cell? ⟨gb315, 1, none⟩ = some (.int .i64 0) := (blk_cell BK315.out 1).trans rfl
    have hcz50_2 : w31.cell? ⟨gb315, 2, none⟩ = some (.slice none 0 0) := (blk_cell BK315.out 2).trans rfl
    have hfz50_0 := blk_frozen BK315.out 0
    have hfz50_1 := blk_frozen BK315.out 1
    have hfz50_2 := blk_frozen BK315.out 2
    have hnb51 := NB302_289.out
    have hnc51 := NB289_302.out
    have hnb52 := NB302_308.out
    have hnc52 := NB308_302.out
    have hcz53_0 : w31.cell? ⟨gb302, 0, none⟩ = some (.int .i64 t296) := (blk_cell BK302.out 0).trans rfl
    have hcz53_1 : w31.cell? ⟨gb302, 1, none⟩ = some (.int .i64 t297) := (blk_cell BK302.out 1).trans rfl
    have hcz53_2 : w31.cell? ⟨gb302, 2, none⟩ = some (.slice Ao22 t298.length co22) := (blk_cell BK302.out 2).trans rfl
    have hfz53_0 := blk_frozen BK302.out 0
    have hfz53_1 := blk_frozen BK302.out 1
    have hfz53_2 := blk_frozen BK302.out 2
    go_wp2_with (first | ((with_reducible refine gate_callee (f := 38) rfl ?_); refine goesL_ (some 34) rfl rfl Try.func38 (by kernel_rfl) rfl #[.agg #[.int .i64 t309, .int .i64 t310, .slice Ao36 t311.length co36], .agg #[.int .i64 t296, .int .i64 t297, .slice Ao22 t298.length co22]] rfl itp ?_; (with_reducible refine (laws_eqCut.calls k t309 t310 _ _ t311 t296 t297 _ _ t298 false _ ?side1 ?side2 ?side3 ?side4 A37.out).mono ?_); (case side1 => refine (Kd.R_reads' (e := 83) (base := w.heap.size) (ok := fun k_ => (((True ∧ some k_ ≠ (.slice Ao17 t293.length co17 : Value).ownBlock) ∧ some k_ ≠ (.slice Ao22 t298.length co22 : Value).ownBlock) ∧ some k_ ≠ (.slice Ao29 t305.length co29 : Value).ownBlock)) (n := t311.length) (c := co36) ?_).2.2; exact (by (with_reducible repeat (first | apply Kd.R_alloc | apply Kd.R_drewN | apply Kd.R_drew)); exact (Kd.R_mono (Kd.R_far (p := ⟨gb315, 2, none⟩) (Kd.R_far (p := ⟨gb315, 1, none⟩) (Kd.R_far (p := ⟨gb315, 0, none⟩) (Kd.R_types HO313.out BK315.out (by decide)) (fun _ hk => hk.2) (.int .i64 t309)) (fun _ hk => hk.2) (.int .i64 t310)) (fun _ hk => hk.2) (.slice Ao36 t311.length co36)) (fun _ h_ => h_.1)))); (case side2 => exact (Kd.R_reads' HO313.out).2.1); (case side3 => refine (Kd.R_reads' (e := 83) (base := w.heap.size) (ok := fun k_ => (((True ∧ some k_ ≠ (.slice Ao17 t293.length co17 : Value).ownBlock) ∧ some k_ ≠ (.slice Ao29 t305.length co29 : Value).ownBlock) ∧ some k_ ≠ (.slice Ao36 t311.length co36 : Value).ownBlock)) (n := t298.length) (c := co22) ?_).2.2; exact (by (with_reducible repeat (first | apply Kd.R_alloc | apply Kd.R_drewN | apply Kd.R_drew)); exact (Kd.R_mono (Kd.R_far (p := ⟨gb315, 2, none⟩) (Kd.R_far (p := ⟨gb315, 1, none⟩) (Kd.R_far (p := ⟨gb315, 0, none⟩) (Kd.R_types HO300.out BK315.out (by decide)) (fun _ hk => hk.2) (.int .i64 t309)) (fun _ hk => hk.2) (.int .i64 t310)) (fun _ hk => hk.2) (.slice Ao36 t311.length co36)) (fun _ h_ => h_.1)))); (case side4 => exact (Kd.R_reads' HO300.out).2.1); rintro e w54 ⟨rfl, hb⟩; refine ⟨_, rfl, ?_⟩; have n0_ := Aside0.mk (Kd.R_below (by (with_reducible repeat (first | apply Kd.R_alloc | apply Kd.R_drewN | apply Kd.R_drew)); exact (Kd.R_mono (Kd.R_far (p := ⟨gb315, 2, none⟩) (Kd.R_far (p := ⟨gb315, 1, none⟩) (Kd.R_far (p := ⟨gb315, 0, none⟩) (Kd.R_types HO295.out BK315.out (by decide)) (fun _ hk => hk.2) (.int .i64 t309)) (fun _ hk => hk.2) (.int .i64 t310)) (fun _ hk => hk.2) (.slice Ao36 t311.length co36)) (fun _ h_ => h_.1))) hb); have n1_ := Aside0.mk (Kd.R_below (by (with_reducible repeat (first | apply Kd.R_alloc | apply Kd.R_drewN | apply Kd.R_drew)); exact (Kd.R_mono (Kd.R_far (p := ⟨gb315, 2, none⟩) (Kd.R_far (p := ⟨gb315, 1, none⟩) (Kd.R_far (p := ⟨gb315, 0, none⟩) (Kd.R_types HO300.out BK315.out (by decide)) (fun _ hk => hk.2) (.int .i64 t309)) (fun _ hk => hk.2) (.int .i64 t310)) (fun _ hk => hk.2) (.slice Ao36 t311.length co36)) (fun _ h_ => h_.1))) hb); have n2_ := Aside0.mk (Kd.R_below (by (with_reducible repeat (first | apply Kd.R_alloc | apply Kd.R_drewN | apply Kd.R_drew)); exact (Kd.R_mono (Kd.R_far (p := ⟨gb315, 2, none⟩) (Kd.R_far (p := ⟨gb315, 1, none⟩) (Kd.R_far (p := ⟨gb315, 0, none⟩) (Kd.R_types HO307.out BK315.out (by decide)) (fun _ hk => hk.2) (.int .i64 t309)) (fun _ hk => hk.2) (.int .i64 t310)) (fun _ hk => hk.2) (.slice Ao36 t311.length co36)) (fun _ h_ => h_.1))) hb); have n3_ := Aside0.mk (Kd.R_below (by (with_reducible repeat (first | apply Kd.R_alloc | apply Kd.R_drewN | apply Kd.R_drew)); exact (Kd.R_mono (Kd.R_far (p := ⟨gb315, 2, none⟩) (Kd.R_far (p := ⟨gb315, 1, none⟩) (Kd.R_far (p := ⟨gb315, 0, none⟩) (Kd.R_types HO313.out BK315.out (by decide)) (fun _ hk => hk.2) (.int .i64 t309)) (fun _ hk => hk.2) (.int .i64 t310)) (fun _ hk => hk.2) (.slice Ao36 t311.length co36)) (fun _ h_ => h_.1))) hb); have n4_ := Aside0.mk (blk_below (upF BK289) hb); have n5_ := Aside0.mk (blk_below (upF BK302) hb); have n6_ := Aside0.mk (blk_below (upF BK308) hb); have n7_ := Aside0.mk (blk_below (g := gb315) (o := .cells #[.int .i64 t309, .int .i64 t310, .slice Ao36 t311.length co36] 48 (0, 0)) (by (with_reducible repeat (first | refine blk_drewN ?_ _ | refine blk_drew ?_ | refine blk_alloc ?_ _)); refine blk_put (cs := #[.int .i64 t309, .int .i64 t310, .slice none 0 0]) ?_ 2 _ rfl; (with_reducible repeat (first | refine blk_drewN ?_ _ | refine blk_drew ?_ | refine blk_alloc ?_ _)); refine blk_put (cs := #[.int .i64 t309, .int .i64 0, .slice none 0 0]) ?_ 1 _ rfl; (with_reducible repeat (first | refine blk_drewN ?_ _ | refine blk_drew ?_ | refine blk_alloc ?_ _)); refine blk_put (cs := #[.int .i64 0, .int .i64 0, .slice none 0 0]) ?_ 0 _ rfl; (with_reducible repeat (first | refine blk_drewN ?_ _ | refine blk_drew ?_ | refine blk_alloc ?_ _)); exact BK315.out) hb); have n8_ := Aside0.mk (below_step (upW HB) hb); clear HO295; clear HO300; clear HO307; clear HO313; clear BK289; clear BK302; clear BK308; clear BK315; clear HB; have HO295 := n0_; have HO300 := n1_; have HO307 := n2_; have HO313 := n3_; have BK289 := n4_; have BK302 := n5_; have BK308 := n6_; have BK315 := n7_; have HB := n8_; clear n0_ n1_ n2_ n3_ n4_ n5_ n6_ n7_ n8_; (try clear hb); (try clear hb2); (try clear hk); (try clear hi)))
    go_meet
    case rel => exact ⟨_, (true), (by first | rfl | (simp; done) | (simp [*]; done)), H', ⟨by first | omega | exact Nat.le_refl _⟩, ⟨by (with_reducible repeat (first | apply Kd.R_alloc | apply Kd.R_drewN | apply Kd.R_drew)); exact Kd.R_mono HO300.out (fun _ hk => ⟨hk.1.2, hk.2⟩)⟩, ⟨by (with_reducible repeat (first | apply Kd.R_alloc | apply Kd.R_drewN | apply Kd.R_drew)); exact Kd.R_mono HO307.out (fun _ hk => ⟨hk.1.2, hk.2⟩)⟩, ⟨by (with_reducible repeat (first | apply Kd.R_alloc | apply Kd.R_drewN | apply Kd.R_drew)); exact Kd.R_mono HO313.out (fun _ hk => ⟨hk.1.2, hk.2⟩)⟩, ⟨upK BK289⟩, ⟨upK BK302⟩, ⟨upK BK308⟩, ⟨upK BK315⟩, ⟨upW HB⟩⟩
  case rest =>
   clear HC11
   try clear c1
   try clear c2
   try clear p2
   try clear c3
   try clear c3b0
   try clear c4
   try clear c5
   try clear c10
   try clear c20
   try clear c26
   try clear c27
   try clear c32
   try clear c33
   try clear c34
   try clear c36
   try clear c38
   try clear c39
   try clear c40
   try clear c41
   try clear c42
   try clear c43
   try clear c44
   try clear c47
   try clear c48
   try clear c49
   try clear c51
   try clear c52
   try clear hcz13_0
   try clear hcz13_1
   try clear hcz13_2
   try clear hcz15_0
   try clear hcz15_1
   try clear hcz15_2
   try clear hcz21_0
   try clear hcz21_1
   try clear hcz21_2
   try clear hcz23_0
   try clear hcz23_1
   try clear hcz23_2
   try clear hcz28_0
   try clear hcz28_1
   try clear hcz28_2
   try clear hcz35_0
   try clear hcz35_1
   try clear hcz35_2
   try clear hcz42_0
   try clear hcz42_1
   try clear hcz42_2
   try clear hcz45_0
   try clear hcz45_1
   try clear hcz45_2
   try clear hcz50_0
   try clear hcz50_1
   try clear hcz50_2
   try clear hcz53_0
   try clear hcz53_1
   try clear hcz53_2
   try clear hcz5_0
   try clear hcz5_1
   try clear hcz5_2
   try clear hfz13_0
   try clear hfz13_1
   try clear hfz13_2
   try clear hfz15_0
   try clear hfz15_1
   try clear hfz15_2
   try clear hfz21_0
   try clear hfz21_1
   try clear hfz21_2
   try clear hfz23_0
   try clear hfz23_1
   try clear hfz23_2
   try clear hfz28_0
   try clear hfz28_1
   try clear hfz28_2
   try clear hfz35_0
   try clear hfz35_1
   try clear hfz35_2
   try clear hfz42_0
   try clear hfz42_1
   try clear hfz42_2
   try clear hfz45_0
   try clear hfz45_1
   try clear hfz45_2
   try clear hfz50_0
   try clear hfz50_1
   try clear hfz50_2
   try clear hfz53_0
   try clear hfz53_1
   try clear hfz53_2
   try clear hfz5_0
   try clear hfz5_1
   try clear hfz5_2
   obtain ⟨kq, x40_10, rfl, HA, HJ10, HO_303002, HO_309002, HO_316002, BK289, BK302, BK308, BK315, HB⟩ := hcut
   cases kq with
   | zero => exact absurd HA.out (by simp [laws_FnExactTurnCut.j0])
   | succ kj10 =>
    have H := HA.out
    clear HA
    simp only [laws_FnExactTurnCut.j0] at H
    by_cases c55 : x40_10 = true
    ·subst c55
     have H1 : (some false) = some r := by rw [if_pos rfl] at H; exact H
     clear H
     have H := H1
     clear H1
     obtain rfl := Option.some.inj H
     go_wp2
     go_ret
     exact ⟨by first | rfl | (simp [errW_none, errW_some] <;> rfl) | (simp [*, errW_none, errW_some] <;> rfl), by repeat (first | (with_reducible first | exact HB.out | apply below_alloc | apply pw_below_drewN | apply below_drew1 | refine below_set ?_ GE289.out | refine below_set ?_ GE302.out | refine below_set ?_ GE308.out | refine below_set ?_ GE315.out) | exact HB.out)⟩
    ·replace c55 := Bool.eq_false_iff.mpr c55
     subst c55
     have H1 : ((laws_toCut.f kj10 a0_0 a0_1 l0_2).bind fun bt317 => ((laws_eqCut.f kj10 t303 t304 t305 bt317.1 bt317.2.1 bt317.2.2).bind fun t322 => (if t322 = true then ((laws_markCut.f kj10 t303 t304 t305 1).bind fun bt323 => (if bt323.1 < 0 then (laws_FnExactTurnCut.j1 kj10 t301 true a0_0 a0_1 l0_2 t296 t297 t298 t309 t310 t311) else ((laws_eqCut.f kj10 t309 t310 t311 t296 t297 t298).bind fun t325 => (if t325 = true then (laws_FnExactTurnCut.j1 kj10 t301 (t314 != t301) a0_0 a0_1 l0_2 t296 t297 t298 t309 t310 t311) else (laws_FnExactTurnCut.j1 kj10 t301 true a0_0 a0_1 l0_2 t296 t297 t298 t309 t310 t311))))) else (some false)))) = some r := by rw [if_neg (show ¬ (false = true) by decide)] at H; exact H
     clear H
     have H := H1
     clear H1
     replace H := Option.bind_eq_some_iff.mp H
     obtain ⟨⟨t317, t318, t319⟩, A560, H⟩ := H
     replace H : ((laws_eqCut.f kj10 t303 t304 t305 t317 t318 t319).bind fun t322 => (if t322 = true then ((laws_markCut.f kj10 t303 t304 t305 1).bind fun bt323 => (if bt323.1 < 0 then (laws_FnExactTurnCut.j1 kj10 t301 true a0_0 a0_1 l0_2 t296 t297 t298 t309 t310 t311) else ((laws_eqCut.f kj10 t309 t310 t311 t296 t297 t298).bind fun t325 => (if t325 = true then (laws_FnExactTurnCut.j1 kj10 t301 (t314 != t301) a0_0 a0_1 l0_2 t296 t297 t298 t309 t310 t311) else (laws_FnExactTurnCut.j1 kj10 t301 true a0_0 a0_1 l0_2 t296 t297 t298 t309 t310 t311))))) else (some false))) = some r := H
     have A56 := Aside0.mk A560
     clear A560
     replace H := Option.bind_eq_some_iff.mp H
     obtain ⟨t322, A570, H⟩ := H
     replace H : (if t322 = true then ((laws_markCut.f kj10 t303 t304 t305 1).bind fun bt323 => (if bt323.1 < 0 then (laws_FnExactTurnCut.j1 kj10 t301 true a0_0 a0_1 l0_2 t296 t297 t298 t309 t310 t311) else ((laws_eqCut.f kj10 t309 t310 t311 t296 t297 t298).bind fun t325 => (if t325 = true then (laws_FnExactTurnCut.j1 kj10 t301 (t314 != t301) a0_0 a0_1 l0_2 t296 t297 t298 t309 t310 t311) else (laws_FnExactTurnCut.j1 kj10 t301 true a0_0 a0_1 l0_2 t296 t297 t298 t309 t310 t311))))) else (some false)) = some r := H
     have A57 := Aside0.mk A570
     clear A570
     by_cases c58 : t322 = true
     ·subst c58
      have H1 : ((laws_markCut.f kj10 t303 t304 t305 1).bind fun bt323 => (if bt323.1 < 0 then (laws_FnExactTurnCut.j1 kj10 t301 true a0_0 a0_1 l0_2 t296 t297 t298 t309 t310 t311) else ((laws_eqCut.f kj10 t309 t310 t311 t296 t297 t298).bind fun t325 => (if t325 = true then (laws_FnExactTurnCut.j1 kj10 t301 (t314 != t301) a0_0 a0_1 l0_2 t296 t297 t298 t309 t310 t311) else (laws_FnExactTurnCut.j1 kj10 t301 true a0_0 a0_1 l0_2 t296 t297 t298 t309 t310 t311))))) = some r := by rw [if_pos rfl] at H; exact H
      clear H
      have H := H1
      clear H1
      replace H := Option.bind_eq_some_iff.mp H
      obtain ⟨⟨t323, t324⟩, A590, H⟩ := H
      replace H : (if t323 < 0 then (laws_FnExactTurnCut.j1 kj10 t301 true a0_0 a0_1 l0_2 t296 t297 t298 t309 t310 t311) else ((laws_eqCut.f kj10 t309 t310 t311 t296 t297 t298).bind fun t325 => (if t325 = true then (laws_FnExactTurnCut.j1 kj10 t301 (t314 != t301) a0_0 a0_1 l0_2 t296 t297 t298 t309 t310 t311) else (laws_FnExactTurnCut.j1 kj10 t301 true a0_0 a0_1 l0_2 t296 t297 t298 t309 t310 t311)))) = some r := H
      have A59 := Aside0.mk A590
      clear A590
      have HC60 := Aside0.mk H
      clear H
      try go_wp2
      have n0_ := Aside0.mk (Kd.R_drew HO_303002.out)
      have n1_ := Aside0.mk (Kd.R_drew HO_309002.out)
      have n2_ := Aside0.mk (Kd.R_drew HO_316002.out)
      have n3_ := Aside0.mk (blk_drew BK289.out)
      have n4_ := Aside0.mk (blk_drew BK302.out)
      have n5_ := Aside0.mk (blk_drew BK308.out)
      have n6_ := Aside0.mk (blk_drew BK315.out)
      have n7_ := Aside0.mk (below_drew1 HB.out)
      clear HO_303002
      clear HO_309002
      clear HO_316002
      clear BK289
      clear BK302
      clear BK308
      clear BK315
      clear HB
      have HO_303002 := n0_
      have HO_309002 := n1_
      have HO_316002 := n2_
      have BK289 := n3_
      have BK302 := n4_
      have BK308 := n5_
      have BK315 := n6_
      have HB := n7_
      clear n0_ n1_ n2_ n3_ n4_ n5_ n6_ n7_
      refine start_ (n := 5) (S := fun w' => w'.cell? ⟨gb308, 0, none⟩ = some (.int .i64 t303) ∧ w'.cell? ⟨gb308, 1, none⟩ = some (.int .i64 t304) ∧ w'.cell? ⟨gb308, 2, none⟩ = some (.slice Ao29 t305.length co29) ∧ w'.cell? ⟨gb289, 0, none⟩ = some (.int .i64 a0_0) ∧ w'.cell? ⟨gb289, 1, none⟩ = some (.int .i64 a0_1) ∧ w'.cell? ⟨gb289, 2, none⟩ = some (.slice A0_2 l0_2.length c0_2)) (ds := []) #[false, false, false, false, false] (by kernel_rfl) rfl rfl ⟨(blk_cell BK308.out 0).trans rfl, (blk_cell BK308.out 1).trans rfl, (blk_cell BK308.out 2).trans rfl, (blk_cell BK289.out 0).trans rfl, (blk_cell BK289.out 1).trans rfl, (blk_cell BK289.out 2).trans rfl⟩ (fun hHeld => ?_)
      generalize wc.drew = w61 at HO_303002 HO_309002 HO_316002 BK289 BK302 BK308 BK315 HB hHeld ⊢
      refine take_ (i := 0) (N := some 41) (v := ?_) (a' := ?_) #[true, false, false, false, false] rfl rfl (by kernel_rfl) (fun _ _ _ h => h) (Or.inl ⟨by rfl, ?_⟩) hHeld ?_ ?_
      rotate_left
      ·rintro w' ⟨s0, s1, s2, s3, s4, s5⟩
       go_simp
       with_reducible rfl
      rotate_left
      ·simp only [Act.put, List.setIfInBounds_toArray, List.set_cons_zero, List.set_cons_succ, i64_w, i32_w]
       rfl
      refine take_ (i := 1) (N := some 42) (v := ?_) (a' := ?_) #[true, true, false, false, false] rfl rfl (by kernel_rfl) (fun _ _ _ h => h) (Or.inl ⟨by rfl, ?_⟩) hHeld ?_ ?_
      rotate_left
      ·rintro w' ⟨s0, s1, s2, s3, s4, s5⟩
       go_simp
       with_reducible rfl
      rotate_left
      ·simp only [Act.put, List.setIfInBounds_toArray, List.set_cons_zero, List.set_cons_succ, i64_w, i32_w]
       rfl
      refine one_ (i := 2) (N := some 43) #[true, true, true, false, false] rfl rfl (by kernel_rfl) (by decide) (fun K hK => ?_)
      refine goes_ Try.func36 (by kernel_rfl) rfl #[.agg #[.int .i64 a0_0, .int .i64 a0_1, .slice A0_2 l0_2.length c0_2]] (by rfl) rfl rfl itp ?_
      with_reducible refine (laws_toCut.calls kj10 a0_0 a0_1 _ _ l0_2 t317 t318 t319 _ ?side1 ?side2 A56.out).mono ?_
      (case side1 => repeat (first | exact (Kd.C_below HR0_2.out HB.out) | (with_reducible refine Kd.C_alloc ?_ _) | (with_reducible refine Kd.C_drewN ?_ _) | (with_reducible refine Kd.C_drew ?_)))
      (case side2 => exact HC0_2.out)
      rintro e w62 ⟨v320, rfl, ho0, hb⟩
      refine ⟨_, rfl, ?_⟩
      have n0_ := Aside0.mk (Kd.R_elder' (upR HO_303002) (Kd.R_base ho0) hb)
      have n1_ := Aside0.mk (Kd.R_elder' (upR HO_309002) (Kd.R_base ho0) hb)
      have n2_ := Aside0.mk (Kd.R_elder' (upR HO_316002) (Kd.R_base ho0) hb)
      have n3_ := Aside0.mk (Kd.R_lower (Kd.R_new' (Kd.R_new' (Kd.R_new' ho0 (Kd.R_lt (upR HO_303002))) (Kd.R_lt (upR HO_309002))) (Kd.R_lt (upR HO_316002))) (below_size (upW HB)))
      have n4_ := Aside0.mk (blk_below (upK BK289) hb)
      have n5_ := Aside0.mk (blk_below (upK BK302) hb)
      have n6_ := Aside0.mk (blk_below (upK BK308) hb)
      have n7_ := Aside0.mk (blk_below (upK BK315) hb)
      have n8_ := Aside0.mk (below_step (upW HB) hb)
      clear HO_303002
      clear HO_309002
      clear HO_316002
      clear BK289
      clear BK302
      clear BK308
      clear BK315
      clear HB
      have HO_303002 := n0_
      have HO_309002 := n1_
      have HO_316002 := n2_
      have HO321 := n3_
      have BK289 := n4_
      have BK302 := n5_
      have BK308 := n6_
      have BK315 := n7_
      have HB := n8_
      clear n0_ n1_ n2_ n3_ n4_ n5_ n6_ n7_ n8_
      (try clear hb)
      (try clear hb2)
      (try clear hk)
      (try clear hi)
      (try clear ho0)
      obtain ⟨Ao63, co63, eo63⟩ := Kd.R_slice HO321.out
      (first | subst eo63 | (injection eo63 with f1_ f2_ f3_; have f4_ := f1_.symm; have f5_ := f3_.symm; clear f1_ f2_ f3_; subst f4_; subst f5_))
      refine hK.out _ _ ⟨(blk_cell BK308.out 0).trans rfl, (blk_cell BK308.out 1).trans rfl, (blk_cell BK308.out 2).trans rfl, (blk_cell BK289.out 0).trans rfl, (blk_cell BK289.out 1).trans rfl, (blk_cell BK289.out 2).trans rfl⟩ (fun hHeld => ?_)
      clear hK K
      refine norm_ (a' := ?_) ?_ ?_
      rotate_left
      ·show Act.put _ (some 43) _ = _
       simp only [Act.put, List.setIfInBounds_toArray, List.set_cons_zero, List.set_cons_succ, i64_w, i32_w]
       rfl
      refine one_ (i := 3) (N := some 44) #[true, true, true, true, false] rfl rfl (by kernel_rfl) (by decide) (fun K hK => ?_)
      refine goes_ Try.func38 (by kernel_rfl) rfl #[.agg #[.int .i64 t303, .int .i64 t304, .slice Ao29 t305.length co29], .agg #[.int .i64 t317, .int .i64 t318, .slice Ao63 t319.length co63]] (by rfl) rfl rfl itp ?_
      with_reducible refine (laws_eqCut.calls kj10 t303 t304 _ _ t305 t317 t318 _ _ t319 true _ ?side1 ?side2 ?side3 ?side4 A57.out).mono ?_
      (case side1 => repeat (first | exact (Kd.R_reads' HO_309002.out).2.2 | (with_reducible refine Kd.C_alloc ?_ _) | (with_reducible refine Kd.C_drewN ?_ _) | (with_reducible refine Kd.C_drew ?_)))
      (case side2 => exact (Kd.R_reads' HO_309002.out).2.1)
      (case side3 => repeat (first | exact (Kd.R_reads' HO321.out).2.2 | (with_reducible refine Kd.C_alloc ?_ _) | (with_reducible refine Kd.C_drewN ?_ _) | (with_reducible refine Kd.C_drew ?_)))
      (case side4 => exact (Kd.R_reads' HO321.out).2.1)
      rintro e w64 ⟨rfl, hb⟩
      refine ⟨_, rfl, ?_⟩
      have n0_ := Aside0.mk (Kd.R_below (upR HO_303002) hb)
      have n1_ := Aside0.mk (Kd.R_below (upR HO_309002) hb)
      have n2_ := Aside0.mk (Kd.R_below (upR HO_316002) hb)
      have n3_ := Aside0.mk (Kd.R_below (upR HO321) hb)
      have n4_ := Aside0.mk (blk_below (upK BK289) hb)
      have n5_ := Aside0.mk (blk_below (upK BK302) hb)
      have n6_ := Aside0.mk (blk_below (upK BK308) hb)
      have n7_ := Aside0.mk (blk_below (upK BK315) hb)
      have n8_ := Aside0.mk (below_step (upW HB) hb)
      clear HO_303002
      clear HO_309002
      clear HO_316002
      clear HO321
      clear BK289
      clear BK302
      clear BK308
      clear BK315
      clear HB
      have HO_303002 := n0_
      have HO_309002 := n1_
      have HO_316002 := n2_
      have HO321 := n3_
      have BK289 := n4_
      have BK302 := n5_
      have BK308 := n6_
      have BK315 := n7_
      have HB := n8_
      clear n0_ n1_ n2_ n3_ n4_ n5_ n6_ n7_ n8_
      (try clear hb)
      (try clear hb2)
      (try clear hk)
      (try clear hi)
      refine hK.out _ _ ⟨(blk_cell BK308.out 0).trans rfl, (blk_cell BK308.out 1).trans rfl, (blk_cell BK308.out 2).trans rfl, (blk_cell BK289.out 0).trans rfl, (blk_cell BK289.out 1).trans rfl, (blk_cell BK289.out 2).trans rfl⟩ (fun hHeld => ?_)
      clear hK K
      refine norm_ (a' := ?_) ?_ ?_
      rotate_left
      ·show Act.put _ (some 44) _ = _
       simp only [Act.put, List.setIfInBounds_toArray, List.set_cons_zero, List.set_cons_succ, i64_w, i32_w]
       rfl
      refine pure_ (i := 4) (N := some 45) (v := ?_) (a' := ?_) #[true, true, true, true, true] rfl rfl (by kernel_rfl) (fun _ _ _ h => h) (Or.inl ⟨by rfl, ?_⟩) ?_ ?_
      rotate_left
      ·intro w'
       go_simp
       with_reducible rfl
      rotate_left
      ·simp only [Act.put, List.setIfInBounds_toArray, List.set_cons_zero, List.set_cons_succ, i64_w, i32_w]
       rfl
      refine done_ (by kernel_rfl) ?_
      have hnb65 := NB308_289.out
      have hnc65 := NB289_308.out
      have hnb66 := NB308_302.out
      have hnc66 := NB302_308.out
      have hnb67 := NB308_315.out
      have hnc67 := NB315_308.out
      have hcz68_0 : w64.cell? ⟨gb308, 0, none⟩ = some (.int .i64 t303) := (blk_cell BK308.out 0).trans rfl
      have hcz68_1 : w64.cell? ⟨gb308, 1, none⟩ = some (.int .i64 t304) := (blk_cell BK308.out 1).trans rfl
      have hcz68_2 : w64.cell? ⟨gb308, 2, none⟩ = some (.slice Ao29 t305.length co29) := (blk_cell BK308.out 2).trans rfl
      have hfz68_0 := blk_frozen BK308.out 0
      have hfz68_1 := blk_frozen BK308.out 1
      have hfz68_2 := blk_frozen BK308.out 2
      go_upto_region 14 with (first | ((with_reducible refine gate_callee (f := 39) rfl ?_); refine goesL_ (some 48) rfl rfl Try.func39 (by kernel_rfl) rfl #[.agg #[.int .i64 t303, .int .i64 t304, .slice Ao29 t305.length co29], .int .i64 1] rfl itp ?_; (with_reducible refine (laws_markCut.calls kj10 t303 t304 (fun k_ => some k_ = (.slice Ao29 t305.length co29 : Value).ownBlock) (.slice Ao29 t305.length co29) t305 1 t323 t324 w _ ?side1 ?side2 A59.out).mono ?_); (case side1 => repeat (first | (with_reducible first | exact HB.out | apply below_alloc | apply pw_below_drewN | apply below_drew1 | refine below_set ?_ GE289.out | refine below_set ?_ GE302.out | refine below_set ?_ GE308.out | refine below_set ?_ GE315.out) | exact HB.out)); (case side2 => exact Kd.R_tight rfl HO_309002.out); rintro e w69 ⟨rfl, hy0, hb, hkp⟩; refine ⟨_, rfl, ?_⟩; have n0_ := Aside0.mk (Kd.R_mono (ok' := fun k_ => some k_ ≠ (.slice Ao29 t305.length co29 : Value).ownBlock ∧ some k_ ≠ (.slice Ao36 t311.length co36 : Value).ownBlock ∧ some k_ ≠ (.slice Ao63 t319.length co63 : Value).ownBlock) (Kd.R_keptB (HO_303002.out) hkp (fun k_ hk_ hs_ => (hk_.1.1) hs_)) (fun k_ hk_ => ⟨hk_.1.1.1, hk_.1.1.2, hk_.1.2⟩)); have n1_ := Aside0.mk (Kd.R_reok rfl hy0 (fun k_ e_ => HO_309002.out.1 k_ e_)); have n2_ := Aside0.mk (Kd.R_mono (ok' := fun k_ => some k_ ≠ (.slice Ao22 t298.length co22 : Value).ownBlock ∧ some k_ ≠ (.slice Ao29 t305.length co29 : Value).ownBlock ∧ some k_ ≠ (.slice Ao63 t319.length co63 : Value).ownBlock) (Kd.R_keptB (HO_316002.out) hkp (fun k_ hk_ hs_ => (hk_.1.2) hs_)) (fun k_ hk_ => ⟨hk_.1.1.1, hk_.1.1.2, hk_.1.2⟩)); have n3_ := Aside0.mk (blk_kept (upK BK289) hkp (fun hs_ => (fun e_ => (Kd.R_ne HO_309002.out BK289.out (by decide)) e_) hs_)); have n4_ := Aside0.mk (blk_kept (upK BK302) hkp (fun hs_ => (fun e_ => (Kd.R_ne HO_309002.out BK302.out (by decide)) e_) hs_)); have n5_ := Aside0.mk (blk_kept (upK BK308) hkp (fun hs_ => (fun e_ => (Kd.R_ne HO_309002.out BK308.out (by decide)) e_) hs_)); have n6_ := Aside0.mk (blk_kept (upK BK315) hkp (fun hs_ => (fun e_ => (Kd.R_ne HO_309002.out BK315.out (by decide)) e_) hs_)); have n7_ := Aside0.mk (Kd.R_mono (ok' := fun k_ => some k_ ≠ (.slice Ao22 t298.length co22 : Value).ownBlock ∧ some k_ ≠ (.slice Ao29 t305.length co29 : Value).ownBlock ∧ some k_ ≠ (.slice Ao36 t311.length co36 : Value).ownBlock) (Kd.R_keptB (HO321.out) hkp (fun k_ hk_ hs_ => (hk_.1.2) hs_)) (fun k_ hk_ => ⟨hk_.1.1.1.2, hk_.1.1.2, hk_.1.2⟩)); have n8_ := Aside0.mk (hb); clear HO_303002; clear HO_309002; clear HO_316002; clear BK289; clear BK302; clear BK308; clear BK315; clear HO321; clear HB; have HO_303002 := n0_; have HO_309002 := n1_; have HO_316002 := n2_; have BK289 := n3_; have BK302 := n4_; have BK308 := n5_; have BK315 := n6_; have HO321 := n7_; have HB := n8_; clear n0_ n1_ n2_ n3_ n4_ n5_ n6_ n7_ n8_; (try clear hb); (try clear hkp); (try clear hy0)))
      (try simp only [Act.put, List.setIfInBounds_toArray, List.set_cons_zero, List.set_cons_succ])
      go_cut [61] (fun v61 wc => ∃ (kq : Nat) (x61_59 : Bool), v61 = .bool x61_59 ∧ Aside0 (laws_FnExactTurnCut.j1 kq t301 x61_59 a0_0 a0_1 l0_2 t296 t297 t298 t309 t310 t311 = some r) ∧ Aside0 (kq ≤ kj10) ∧ Aside0 (Kd.R k83 83 wc w.heap.size (fun k_ => some k_ ≠ ((.slice Ao29 t305.length co29) : Value).ownBlock ∧ some k_ ≠ ((.slice Ao36 t311.length co36) : Value).ownBlock) (.slice Ao22 t298.length co22) t298) ∧ Aside0 (Kd.R k83 83 wc w.heap.size (fun k_ => some k_ ≠ ((.slice Ao22 t298.length co22) : Value).ownBlock ∧ some k_ ≠ ((.slice Ao36 t311.length co36) : Value).ownBlock) (.slice Ao29 t305.length co29) t324) ∧ Aside0 (Kd.R k83 83 wc w.heap.size (fun k_ => some k_ ≠ ((.slice Ao22 t298.length co22) : Value).ownBlock ∧ some k_ ≠ ((.slice Ao29 t305.length co29) : Value).ownBlock) (.slice Ao36 t311.length co36) t311) ∧ Aside0 (wc.heap[gb289]? = some (.cells #[.int .i64 a0_0, .int .i64 a0_1, (.slice A0_2 l0_2.length c0_2)] 44 (0, 0))) ∧ Aside0 (wc.heap[gb302]? = some (.cells #[.int .i64 t296, .int .i64 t297, (.slice Ao22 t298.length co22)] 48 (0, 0))) ∧ Aside0 (wc.heap[gb308]? = some (.cells #[.int .i64 t303, .int .i64 t304, (.slice Ao29 t305.length co29)] 48 (0, 0))) ∧ Aside0 (wc.heap[gb315]? = some (.cells #[.int .i64 t309, .int .i64 t310, (.slice Ao36 t311.length co36)] 48 (0, 0))) ∧ Aside0 (Below w.heap.size w wc))
      case first =>
       have H := HC60.out
       clear HC60
       by_cases c70 : t323 < 0
       ·rw [if_pos c70] at H
        have c70b0 : decide (t323 < 0) = true := decide_eq_true c70
        clear c70
        (first | rw [c70b0] | (simp only [i64_w, i32_w]; rw [c70b0]) | skip)
        have H' := Aside0.mk H
        clear H
        go_wp2
        go_meet
        case rel => exact ⟨_, (true), (by first | rfl | (simp; done) | (simp [*]; done)), H', ⟨by have := HJ10.out; first | omega | exact Nat.le_refl _⟩, ⟨by (with_reducible repeat (first | apply Kd.R_alloc | apply Kd.R_drewN | apply Kd.R_drew)); exact Kd.R_mono HO_303002.out (fun _ hk => ⟨hk.1, hk.2.1⟩)⟩, ⟨by (with_reducible repeat (first | apply Kd.R_alloc | apply Kd.R_drewN | apply Kd.R_drew)); exact Kd.R_mono HO_309002.out (fun _ hk => ⟨hk.1.1, hk.1.2⟩)⟩, ⟨by (with_reducible repeat (first | apply Kd.R_alloc | apply Kd.R_drewN | apply Kd.R_drew)); exact Kd.R_mono HO_316002.out (fun _ hk => ⟨hk.1, hk.2.1⟩)⟩, ⟨upK BK289⟩, ⟨upK BK302⟩, ⟨upK BK308⟩, ⟨upK BK315⟩, ⟨upW HB⟩⟩
       ·rw [if_neg c70] at H
        have c70b0 : decide (t323 < 0) = false := decide_eq_false c70
        clear c70
        (first | rw [c70b0] | (simp only [i64_w, i32_w]; rw [c70b0]) | skip)
        replace H := Option.bind_eq_some_iff.mp H
        obtain ⟨t325, A710, H⟩ := H
        replace H : (if t325 = true then (laws_FnExactTurnCut.j1 kj10 t301 (t314 != t301) a0_0 a0_1 l0_2 t296 t297 t298 t309 t310 t311) else (laws_FnExactTurnCut.j1 kj10 t301 true a0_0 a0_1 l0_2 t296 t297 t298 t309 t310 t311)) = some r := H
        have A71 := Aside0.mk A710
        clear A710
        by_cases c72 : t325 = true
        ·subst c72
         have H1 : (laws_FnExactTurnCut.j1 kj10 t301 (t314 != t301) a0_0 a0_1 l0_2 t296 t297 t298 t309 t310 t311) = some r := by rw [if_pos rfl] at H; exact H
         clear H
         have H := H1
         clear H1
         have H' := Aside0.mk H
         clear H
         have hnb73 := NB315_289.out
         have hnc73 := NB289_315.out
         have hnb74 := NB315_302.out
         have hnc74 := NB302_315.out
         have hnb75 := NB315_308.out
         have hnc75 := NB308_315.out
         have hcz76_0 : w69.cell? ⟨gb315, 0, none⟩ = some (.int .i64 t309) := (blk_cell BK315.out 0).trans rfl
         have hcz76_1 : w69.cell? ⟨gb315, 1, none⟩ = some (.int .i64 t310) := (blk_cell BK315.out 1).trans rfl
         have hcz76_2 : w69.cell? ⟨gb315, 2, none⟩ = some (.slice Ao36 t311.length co36) := (blk_cell BK315.out 2).trans rfl
         have hfz76_0 := blk_frozen BK315.out 0
         have hfz76_1 := blk_frozen BK315.out 1
         have hfz76_2 := blk_frozen BK315.out 2
         have hnb77 := NB302_289.out
         have hnc77 := NB289_302.out
         have hnb78 := NB302_308.out
         have hnc78 := NB308_302.out
         have hcz79_0 : w69.cell? ⟨gb302, 0, none⟩ = some (.int .i64 t296) := (blk_cell BK302.out 0).trans rfl
         have hcz79_1 : w69.cell? ⟨gb302, 1, none⟩ = some (.int .i64 t297) := (blk_cell BK302.out 1).trans rfl
         have hcz79_2 : w69.cell? ⟨gb302, 2, none⟩ = some (.slice Ao22 t298.length co22) := (blk_cell BK302.out 2).trans rfl
         have hfz79_0 := blk_frozen BK302.out 0
         have hfz79_1 := blk_frozen BK302.out 1
         have hfz79_2 := blk_frozen BK302.out 2
         go_wp2_with (first | (go_at_call 38; (with_reducible refine (laws_eqCut.calls kj10 t309 t310 _ _ t311 t296 t297 _ _ t298 true _ ?side1 ?side2 ?side3 ?side4 A71.out).mono ?_); (case side1 => repeat (first | exact (Kd.R_reads' HO_316002.out).2.2 | (with_reducible refine Kd.C_alloc ?_ _) | (with_reducible refine Kd.C_drewN ?_ _) | (with_reducible refine Kd.C_drew ?_))); (case side2 => exact (Kd.R_reads' HO_316002.out).2.1); (case side3 => repeat (first | exact (Kd.R_reads' HO_303002.out).2.2 | (with_reducible refine Kd.C_alloc ?_ _) | (with_reducible refine Kd.C_drewN ?_ _) | (with_reducible refine Kd.C_drew ?_))); (case side4 => exact (Kd.R_reads' HO_303002.out).2.1); rintro e w80 ⟨rfl, hb⟩; have n0_ := Aside0.mk (Kd.R_below (upR HO_303002) hb); have n1_ := Aside0.mk (Kd.R_below (upR HO_309002) hb); have n2_ := Aside0.mk (Kd.R_below (upR HO_316002) hb); have n3_ := Aside0.mk (Kd.R_below (upR HO321) hb); have n4_ := Aside0.mk (blk_below (upK BK289) hb); have n5_ := Aside0.mk (blk_below (upK BK302) hb); have n6_ := Aside0.mk (blk_below (upK BK308) hb); have n7_ := Aside0.mk (blk_below (upK BK315) hb); have n8_ := Aside0.mk (below_step (upW HB) hb); clear HO_303002; clear HO_309002; clear HO_316002; clear HO321; clear BK289; clear BK302; clear BK308; clear BK315; clear HB; have HO_303002 := n0_; have HO_309002 := n1_; have HO_316002 := n2_; have HO321 := n3_; have BK289 := n4_; have BK302 := n5_; have BK308 := n6_; have BK315 := n7_; have HB := n8_; clear n0_ n1_ n2_ n3_ n4_ n5_ n6_ n7_ n8_; (try clear hb); (try clear hb2); (try clear hk); (try clear hi)))
         go_meet
         case rel => exact ⟨_, ((t314 != t301)), (by first | rfl | (simp; done) | (simp [*]; done)), H', ⟨by have := HJ10.out; first | omega | exact Nat.le_refl _⟩, ⟨by (with_reducible repeat (first | apply Kd.R_alloc | apply Kd.R_drewN | apply Kd.R_drew)); exact Kd.R_mono HO_303002.out (fun _ hk => ⟨hk.1, hk.2.1⟩)⟩, ⟨by (with_reducible repeat (first | apply Kd.R_alloc | apply Kd.R_drewN | apply Kd.R_drew)); exact Kd.R_mono HO_309002.out (fun _ hk => ⟨hk.1.1, hk.1.2⟩)⟩, ⟨by (with_reducible repeat (first | apply Kd.R_alloc | apply Kd.R_drewN | apply Kd.R_drew)); exact Kd.R_mono HO_316002.out (fun _ hk => ⟨hk.1, hk.2.1⟩)⟩, ⟨upK BK289⟩, ⟨upK BK302⟩, ⟨upK BK308⟩, ⟨upK BK315⟩, ⟨upW HB⟩⟩
        ·replace c72 := Bool.eq_false_iff.mpr c72
         subst c72
         have H1 : (laws_FnExactTurnCut.j1 kj10 t301 true a0_0 a0_1 l0_2 t296 t297 t298 t309 t310 t311) = some r := by rw [if_neg (show ¬ (false = true) by decide)] at H; exact H
         clear H
         have H := H1
         clear H1
         have H' := Aside0.mk H
         clear H
         have hnb81 := NB315_289.out
         have hnc81 := NB289_315.out
         have hnb82 := NB315_302.out
         have hnc82 := NB302_315.out
         have hnb83 := NB315_308.out
         have hnc83 := NB308_315.out
         have hcz84_0 : w69.cell? ⟨gb315, 0, none⟩ = some (.int .i64 t309) := (blk_cell BK315.out 0).trans rfl
         have hcz84_1 : w69.cell? ⟨gb315, 1, none⟩ = some (.int .i64 t310) := (blk_cell BK315.out 1).trans rfl
         have hcz84_2 : w69.cell? ⟨gb315, 2, none⟩ = some (.slice Ao36 t311.length co36) := (blk_cell BK315.out 2).trans rfl
         have hfz84_0 := blk_frozen BK315.out 0
         have hfz84_1 := blk_frozen BK315.out 1
         have hfz84_2 := blk_frozen BK315.out 2
         have hnb85 := NB302_289.out
         have hnc85 := NB289_302.out
         have hnb86 := NB302_308.out
         have hnc86 := NB308_302.out
         have hcz87_0 : w69.cell? ⟨gb302, 0, none⟩ = some (.int .i64 t296) := (blk_cell BK302.out 0).trans rfl
         have hcz87_1 : w69.cell? ⟨gb302, 1, none⟩ = some (.int .i64 t297) := (blk_cell BK302.out 1).trans rfl
         have hcz87_2 : w69.cell? ⟨gb302, 2, none⟩ = some (.slice Ao22 t298.length co22) := (blk_cell BK302.out 2).trans rfl
         have hfz87_0 := blk_frozen BK302.out 0
         have hfz87_1 := blk_frozen BK302.out 1
         have hfz87_2 := blk_frozen BK302.out 2
         go_wp2_with (first | (go_at_call 38; (with_reducible refine (laws_eqCut.calls kj10 t309 t310 _ _ t311 t296 t297 _ _ t298 false _ ?side1 ?side2 ?side3 ?side4 A71.out).mono ?_); (case side1 => repeat (first | exact (Kd.R_reads' HO_316002.out).2.2 | (with_reducible refine Kd.C_alloc ?_ _) | (with_reducible refine Kd.C_drewN ?_ _) | (with_reducible refine Kd.C_drew ?_))); (case side2 => exact (Kd.R_reads' HO_316002.out).2.1); (case side3 => repeat (first | exact (Kd.R_reads' HO_303002.out).2.2 | (with_reducible refine Kd.C_alloc ?_ _) | (with_reducible refine Kd.C_drewN ?_ _) | (with_reducible refine Kd.C_drew ?_))); (case side4 => exact (Kd.R_reads' HO_303002.out).2.1); rintro e w88 ⟨rfl, hb⟩; have n0_ := Aside0.mk (Kd.R_below (upR HO_303002) hb); have n1_ := Aside0.mk (Kd.R_below (upR HO_309002) hb); have n2_ := Aside0.mk (Kd.R_below (upR HO_316002) hb); have n3_ := Aside0.mk (Kd.R_below (upR HO321) hb); have n4_ := Aside0.mk (blk_below (upK BK289) hb); have n5_ := Aside0.mk (blk_below (upK BK302) hb); have n6_ := Aside0.mk (blk_below (upK BK308) hb); have n7_ := Aside0.mk (blk_below (upK BK315) hb); have n8_ := Aside0.mk (below_step (upW HB) hb); clear HO_303002; clear HO_309002; clear HO_316002; clear HO321; clear BK289; clear BK302; clear BK308; clear BK315; clear HB; have HO_303002 := n0_; have HO_309002 := n1_; have HO_316002 := n2_; have HO321 := n3_; have BK289 := n4_; have BK302 := n5_; have BK308 := n6_; have BK315 := n7_; have HB := n8_; clear n0_ n1_ n2_ n3_ n4_ n5_ n6_ n7_ n8_; (try clear hb); (try clear hb2); (try clear hk); (try clear hi)))
         go_meet
         case rel => exact ⟨_, (true), (by first | rfl | (simp; done) | (simp [*]; done)), H', ⟨by have := HJ10.out; first | omega | exact Nat.le_refl _⟩, ⟨by (with_reducible repeat (first | apply Kd.R_alloc | apply Kd.R_drewN | apply Kd.R_drew)); exact Kd.R_mono HO_303002.out (fun _ hk => ⟨hk.1, hk.2.1⟩)⟩, ⟨by (with_reducible repeat (first | apply Kd.R_alloc | apply Kd.R_drewN | apply Kd.R_drew)); exact Kd.R_mono HO_309002.out (fun _ hk => ⟨hk.1.1, hk.1.2⟩)⟩, ⟨by (with_reducible repeat (first | apply Kd.R_alloc | apply Kd.R_drewN | apply Kd.R_drew)); exact Kd.R_mono HO_316002.out (fun _ hk => ⟨hk.1, hk.2.1⟩)⟩, ⟨upK BK289⟩, ⟨upK BK302⟩, ⟨upK BK308⟩, ⟨upK BK315⟩, ⟨upW HB⟩⟩
      case rest =>
       clear HC60
       try clear c1
       try clear c2
       try clear p2
       try clear c3
       try clear c3b0
       try clear c4
       try clear c5
       try clear c6
       try clear c7
       try clear c8
       try clear c10
       try clear c20
       try clear c26
       try clear c27
       try clear c32
       try clear c33
       try clear c34
       try clear c36
       try clear c38
       try clear c39
       try clear c40
       try clear c41
       try clear c42
       try clear c43
       try clear c44
       try clear c47
       try clear c48
       try clear c49
       try clear c51
       try clear c52
       try clear c55
       try clear c58
       try clear c65
       try clear c66
       try clear c67
       try clear c70
       try clear c70b0
       try clear c72
       try clear c73
       try clear c74
       try clear c75
       try clear c77
       try clear c78
       try clear c81
       try clear c82
       try clear c83
       try clear c85
       try clear c86
       try clear hcz13_0
       try clear hcz13_1
       try clear hcz13_2
       try clear hcz15_0
       try clear hcz15_1
       try clear hcz15_2
       try clear hcz21_0
       try clear hcz21_1
       try clear hcz21_2
       try clear hcz23_0
       try clear hcz23_1
       try clear hcz23_2
       try clear hcz28_0
       try clear hcz28_1
       try clear hcz28_2
       try clear hcz35_0
       try clear hcz35_1
       try clear hcz35_2
       try clear hcz42_0
       try clear hcz42_1
       try clear hcz42_2
       try clear hcz45_0
       try clear hcz45_1
       try clear hcz45_2
       try clear hcz50_0
       try clear hcz50_1
       try clear hcz50_2
       try clear hcz53_0
       try clear hcz53_1
       try clear hcz53_2
       try clear hcz5_0
       try clear hcz5_1
       try clear hcz5_2
       try clear hcz68_0
       try clear hcz68_1
       try clear hcz68_2
       try clear hcz76_0
       try clear hcz76_1
       try clear hcz76_2
       try clear hcz79_0
       try clear hcz79_1
       try clear hcz79_2
       try clear hcz84_0
       try clear hcz84_1
       try clear hcz84_2
       try clear hcz87_0
       try clear hcz87_1
       try clear hcz87_2
       try clear hfz13_0
       try clear hfz13_1
       try clear hfz13_2
       try clear hfz15_0
       try clear hfz15_1
       try clear hfz15_2
       try clear hfz21_0
       try clear hfz21_1
       try clear hfz21_2
       try clear hfz23_0
       try clear hfz23_1
       try clear hfz23_2
       try clear hfz28_0
       try clear hfz28_1
       try clear hfz28_2
       try clear hfz35_0
       try clear hfz35_1
       try clear hfz35_2
       try clear hfz42_0
       try clear hfz42_1
       try clear hfz42_2
       try clear hfz45_0
       try clear hfz45_1
       try clear hfz45_2
       try clear hfz50_0
       try clear hfz50_1
       try clear hfz50_2
       try clear hfz53_0
       try clear hfz53_1
       try clear hfz53_2
       try clear hfz5_0
       try clear hfz5_1
       try clear hfz5_2
       try clear hfz68_0
       try clear hfz68_1
       try clear hfz68_2
       try clear hfz76_0
       try clear hfz76_1
       try clear hfz76_2
       try clear hfz79_0
       try clear hfz79_1
       try clear hfz79_2
       try clear hfz84_0
       try clear hfz84_1
       try clear hfz84_2
       try clear hfz87_0
       try clear hfz87_1
       try clear hfz87_2
       try clear p2
       obtain ⟨kq, x61_59, rfl, HA, HJ59, HO_303002, HO_309002, HO_316002, BK289, BK302, BK308, BK315, HB⟩ := hcut
       have hl309002_59 := (Kd.R_reads' HO_309002.out).1
       rw [hl309002_59] at HO_309002
       (try simp only [hl309002_59])
       (try simp only [hl309002_59] at BK289)
       (try simp only [hl309002_59] at BK302)
       (try simp only [hl309002_59] at BK308)
       (try simp only [hl309002_59] at BK315)
       (try simp only [hl309002_59] at HO_303002)
       (try simp only [hl309002_59] at HO_316002)
       cases kq with
       | zero => exact absurd HA.out (by simp [laws_FnExactTurnCut.j1])
       | succ kj59 =>
        have H := HA.out
        clear HA
        simp only [laws_FnExactTurnCut.j1] at H
        by_cases c89 : x61_59 = true
        ·subst c89
         have H1 : (some false) = some r := by rw [if_pos rfl] at H; exact H
         clear H
         have H := H1
         clear H1
         obtain rfl := Option.some.inj H
         go_wp2
         go_ret
         exact ⟨by first | rfl | (simp [errW_none, errW_some] <;> rfl) | (simp [*, errW_none, errW_some] <;> rfl), by repeat (first | (with_reducible first | exact HB.out | apply below_alloc | apply pw_below_drewN | apply below_drew1 | refine below_set ?_ GE289.out | refine below_set ?_ GE302.out | refine below_set ?_ GE308.out | refine below_set ?_ GE315.out) | exact HB.out)⟩
        ·replace c89 := Bool.eq_false_iff.mpr c89
         subst c89
         have H1 : ((laws_markCut.f kj59 t309 t310 t311 1).bind fun bt326 => ((laws_heldCut.f kj59 t309 t310 bt326.2 1).bind fun t328 => (if t328 < 0 then (some false) else (if t328 = bt326.1 then ((laws_toCut.f kj59 a0_0 a0_1 l0_2).bind fun bt329 => ((impl_TurnCut.f kj59 bt329.1 bt329.2.1 bt329.2.2).bind fun bt334 => ((laws_eqCut.f kj59 bt334.1 bt334.2.1 bt334.2.2.1 t296 t297 t298).bind fun t341 => (if t341 = true then (laws_FnExactTurnCut.j2 kj59 bt326.1 (bt334.2.2.2 != t301) t309 t310 bt326.2) else (laws_FnExactTurnCut.j2 kj59 bt326.1 true t309 t310 bt326.2))))) else (some false))))) = some r := by rw [if_neg (show ¬ (false = true) by decide)] at H; exact H
         clear H
         have H := H1
         clear H1
         replace H := Option.bind_eq_some_iff.mp H
         obtain ⟨⟨t326, t327⟩, A900, H⟩ := H
         replace H : ((laws_heldCut.f kj59 t309 t310 t327 1).bind fun t328 => (if t328 < 0 then (some false) else (if t328 = t326 then ((laws_toCut.f kj59 a0_0 a0_1 l0_2).bind fun bt329 => ((impl_TurnCut.f kj59 bt329.1 bt329.2.1 bt329.2.2).bind fun bt334 => ((laws_eqCut.f kj59 bt334.1 bt334.2.1 bt334.2.2.1 t296 t297 t298).bind fun t341 => (if t341 = true then (laws_FnExactTurnCut.j2 kj59 t326 (bt334.2.2.2 != t301) t309 t310 t327) else (laws_FnExactTurnCut.j2 kj59 t326 true t309 t310 t327))))) else (some false)))) = some r := H
         have A90 := Aside0.mk A900
         clear A900
         replace H := Option.bind_eq_some_iff.mp H
         obtain ⟨t328, A910, H⟩ := H
         replace H : (if t328 < 0 then (some false) else (if t328 = t326 then ((laws_toCut.f kj59 a0_0 a0_1 l0_2).bind fun bt329 => ((impl_TurnCut.f kj59 bt329.1 bt329.2.1 bt329.2.2).bind fun bt334 => ((laws_eqCut.f kj59 bt334.1 bt334.2.1 bt334.2.2.1 t296 t297 t298).bind fun t341 => (if t341 = true then (laws_FnExactTurnCut.j2 kj59 t326 (bt334.2.2.2 != t301) t309 t310 t327) else (laws_FnExactTurnCut.j2 kj59 t326 true t309 t310 t327))))) else (some false))) = some r := H
         have A91 := Aside0.mk A910
         clear A910
         by_cases c92 : t328 < 0
         ·rw [if_pos c92] at H
          have c92b0 : decide (t328 < 0) = true := decide_eq_true c92
          clear c92
          obtain rfl := Option.some.inj H
          have hnb93 := NB315_289.out
          have hnc93 := NB289_315.out
          have hnb94 := NB315_302.out
          have hnc94 := NB302_315.out
          have hnb95 := NB315_308.out
          have hnc95 := NB308_315.out
          have hcz96_0 : wc.cell? ⟨gb315, 0, none⟩ = some (.int .i64 t309) := (blk_cell BK315.out 0).trans rfl
          have hcz96_1 : wc.cell? ⟨gb315, 1, none⟩ = some (.int .i64 t310) := (blk_cell BK315.out 1).trans rfl
          have hcz96_2 : wc.cell? ⟨gb315, 2, none⟩ = some (.slice Ao36 t311.length co36) := (blk_cell BK315.out 2).trans rfl
          have hfz96_0 := blk_frozen BK315.out 0
          have hfz96_1 := blk_frozen BK315.out 1
          have hfz96_2 := blk_frozen BK315.out 2
          go_wp2_with (first | ((with_reducible refine gate_callee (f := 39) rfl ?_); refine goesL_ (some 64) rfl rfl Try.func39 (by kernel_rfl) rfl #[.agg #[.int .i64 t309, .int .i64 t310, .slice Ao36 t311.length co36], .int .i64 1] rfl itp ?_; (with_reducible refine (laws_markCut.calls kj59 t309 t310 (fun k_ => some k_ = (.slice Ao36 t311.length co36 : Value).ownBlock) (.slice Ao36 t311.length co36) t311 1 t326 t327 w _ ?side1 ?side2 A90.out).mono ?_); (case side1 => repeat (first | (with_reducible first | exact HB.out | apply below_alloc | apply pw_below_drewN | apply below_drew1 | refine below_set ?_ GE289.out | refine below_set ?_ GE302.out | refine below_set ?_ GE308.out | refine below_set ?_ GE315.out) | exact HB.out)); (case side2 => exact Kd.R_tight rfl HO_316002.out); rintro e w97 ⟨rfl, hy0, hb, hkp⟩; refine ⟨_, rfl, ?_⟩; have n0_ := Aside0.mk (Kd.R_mono (ok' := fun k_ => some k_ ≠ (.slice Ao29 t324.length co29 : Value).ownBlock ∧ some k_ ≠ (.slice Ao36 t311.length co36 : Value).ownBlock) (Kd.R_keptB (HO_303002.out) hkp (fun k_ hk_ hs_ => (hk_.2) hs_)) (fun k_ hk_ => ⟨hk_.1.1, hk_.1.2⟩)); have n1_ := Aside0.mk (Kd.R_mono (ok' := fun k_ => some k_ ≠ (.slice Ao22 t298.length co22 : Value).ownBlock ∧ some k_ ≠ (.slice Ao36 t311.length co36 : Value).ownBlock) (Kd.R_keptB (HO_309002.out) hkp (fun k_ hk_ hs_ => (hk_.2) hs_)) (fun k_ hk_ => ⟨hk_.1.1, hk_.1.2⟩)); have n2_ := Aside0.mk (Kd.R_reok rfl hy0 (fun k_ e_ => HO_316002.out.1 k_ e_)); have n3_ := Aside0.mk (blk_kept (upK BK289) hkp (fun hs_ => (fun e_ => (Kd.R_ne HO_316002.out BK289.out (by decide)) e_) hs_)); have n4_ := Aside0.mk (blk_kept (upK BK302) hkp (fun hs_ => (fun e_ => (Kd.R_ne HO_316002.out BK302.out (by decide)) e_) hs_)); have n5_ := Aside0.mk (blk_kept (upK BK308) hkp (fun hs_ => (fun e_ => (Kd.R_ne HO_316002.out BK308.out (by decide)) e_) hs_)); have n6_ := Aside0.mk (blk_kept (upK BK315) hkp (fun hs_ => (fun e_ => (Kd.R_ne HO_316002.out BK315.out (by decide)) e_) hs_)); have n7_ := Aside0.mk (hb); clear HO_303002; clear HO_309002; clear HO_316002; clear BK289; clear BK302; clear BK308; clear BK315; clear HB; have HO_303002 := n0_; have HO_309002 := n1_; have HO_316002 := n2_; have BK289 := n3_; have BK302 := n4_; have BK308 := n5_; have BK315 := n6_; have HB := n7_; clear n0_ n1_ n2_ n3_ n4_ n5_ n6_ n7_; (try clear hb); (try clear hkp); (try clear hy0); have hcz98_0 : w97.cell? ⟨gb315, 0, none⟩ = some (.int .i64 t309) := (blk_cell BK315.out 0).trans rfl; have hcz98_1 : w97.cell? ⟨gb315, 1, none⟩ = some (.int .i64 t310) := (blk_cell BK315.out 1).trans rfl; have hcz98_2 : w97.cell? ⟨gb315, 2, none⟩ = some (.slice Ao36 t311.length co36) := (blk_cell BK315.out 2).trans rfl; have hfz98_0 := blk_frozen BK315.out 0; have hfz98_1 := blk_frozen BK315.out 1; have hfz98_2 := blk_frozen BK315.out 2) | ((with_reducible refine gate_callee (f := 40) rfl ?_); refine goesL_ (some 67) rfl rfl Try.func40 (by kernel_rfl) rfl #[.agg #[.int .i64 t309, .int .i64 t310, .slice Ao36 t327.length co36], .int .i64 1] rfl (by (try simp only [List.map_toArray, List.map_cons, List.map_nil]); first | done | (rw [show t327.length = t311.length from (Kd.R_reads' HO_316002.out).1.symm] <;> rfl) | rfl | (simp only [List.length_drop, List.length_take]; rfl)) ?_; (with_reducible refine (laws_heldCut.calls kj59 t309 t310 _ _ t327 1 t328 _ ?side1 ?side2 A91.out).mono ?_); (case side1 => repeat (first | exact (Kd.R_reads' HO_316002.out).2.2 | (with_reducible refine Kd.C_alloc ?_ _) | (with_reducible refine Kd.C_drewN ?_ _) | (with_reducible refine Kd.C_drew ?_))); (case side2 => rw [show t327.length = t311.length from (Kd.R_reads' HO_316002.out).1.symm]; exact (Kd.R_reads' HO_316002.out).2.1); rintro e w99 ⟨rfl, hb⟩; refine ⟨_, rfl, ?_⟩; have n0_ := Aside0.mk (Kd.R_below (upR HO_303002) hb); have n1_ := Aside0.mk (Kd.R_below (upR HO_309002) hb); have n2_ := Aside0.mk (Kd.R_below (upR HO_316002) hb); have n3_ := Aside0.mk (blk_below (upK BK289) hb); have n4_ := Aside0.mk (blk_below (upK BK302) hb); have n5_ := Aside0.mk (blk_below (upK BK308) hb); have n6_ := Aside0.mk (blk_below (upK BK315) hb); have n7_ := Aside0.mk (below_step (upW HB) hb); clear HO_303002; clear HO_309002; clear HO_316002; clear BK289; clear BK302; clear BK308; clear BK315; clear HB; have HO_303002 := n0_; have HO_309002 := n1_; have HO_316002 := n2_; have BK289 := n3_; have BK302 := n4_; have BK308 := n5_; have BK315 := n6_; have HB := n7_; clear n0_ n1_ n2_ n3_ n4_ n5_ n6_ n7_; (try clear hb); (try clear hb2); (try clear hk); (try clear hi)))
          go_ret
          exact ⟨by first | rfl | (simp [errW_none, errW_some] <;> rfl) | (simp [*, errW_none, errW_some] <;> rfl), by repeat (first | (with_reducible first | exact HB.out | apply below_alloc | apply pw_below_drewN | apply below_drew1 | refine below_set ?_ GE289.out | refine below_set ?_ GE302.out | refine below_set ?_ GE308.out | refine below_set ?_ GE315.out) | exact HB.out)⟩
         ·rw [if_neg c92] at H
          have c92b0 : decide (t328 < 0) = false := decide_eq_false c92
          clear c92
          by_cases c100 : t328 = t326
          ·rw [if_pos c100] at H
           have c100b0 : (t328 == t326) = true := beq_iff_eq.mpr c100
           have c100b1 : (t328 != t326) = false := bne_eq_false_iff_eq.mpr c100
           clear c100
           replace H := Option.bind_eq_some_iff.mp H
           obtain ⟨⟨t329, t330, t331⟩, A1010, H⟩ := H
           replace H : ((impl_TurnCut.f kj59 t329 t330 t331).bind fun bt334 => ((laws_eqCut.f kj59 bt334.1 bt334.2.1 bt334.2.2.1 t296 t297 t298).bind fun t341 => (if t341 = true then (laws_FnExactTurnCut.j2 kj59 t326 (bt334.2.2.2 != t301) t309 t310 t327) else (laws_FnExactTurnCut.j2 kj59 t326 true t309 t310 t327)))) = some r := H
           have A101 := Aside0.mk A1010
           clear A1010
           replace H := Option.bind_eq_some_iff.mp H
           obtain ⟨⟨t334, t335, t336, t339⟩, A1020, H⟩ := H
           replace H : ((laws_eqCut.f kj59 t334 t335 t336 t296 t297 t298).bind fun t341 => (if t341 = true then (laws_FnExactTurnCut.j2 kj59 t326 (t339 != t301) t309 t310 t327) else (laws_FnExactTurnCut.j2 kj59 t326 true t309 t310 t327))) = some r := H
           have A102 := Aside0.mk A1020
           clear A1020
           have HC103 := Aside0.mk H
           clear H
           have hnb104 := NB315_289.out
           have hnc104 := NB289_315.out
           have hnb105 := NB315_302.out
           have hnc105 := NB302_315.out
           have hnb106 := NB315_308.out
           have hnc106 := NB308_315.out
           have hcz107_0 : wc.cell? ⟨gb315, 0, none⟩ = some (.int .i64 t309) := (blk_cell BK315.out 0).trans rfl
           have hcz107_1 : wc.cell? ⟨gb315, 1, none⟩ = some (.int .i64 t310) := (blk_cell BK315.out 1).trans rfl
           have hcz107_2 : wc.cell? ⟨gb315, 2, none⟩ = some (.slice Ao36 t311.length co36) := (blk_cell BK315.out 2).trans rfl
           have hfz107_0 := blk_frozen BK315.out 0
           have hfz107_1 := blk_frozen BK315.out 1
           have hfz107_2 := blk_frozen BK315.out 2
           go_upto_region 25 with (first | ((with_reducible refine gate_callee (f := 39) rfl ?_); refine goesL_ (some 64) rfl rfl Try.func39 (by kernel_rfl) rfl #[.agg #[.int .i64 t309, .int .i64 t310, .slice Ao36 t311.length co36], .int .i64 1] rfl itp ?_; (with_reducible refine (laws_markCut.calls kj59 t309 t310 (fun k_ => some k_ = (.slice Ao36 t311.length co36 : Value).ownBlock) (.slice Ao36 t311.length co36) t311 1 t326 t327 w _ ?side1 ?side2 A90.out).mono ?_); (case side1 => repeat (first | (with_reducible first | exact HB.out | apply below_alloc | apply pw_below_drewN | apply below_drew1 | refine below_set ?_ GE289.out | refine below_set ?_ GE302.out | refine below_set ?_ GE308.out | refine below_set ?_ GE315.out) | exact HB.out)); (case side2 => exact Kd.R_tight rfl HO_316002.out); rintro e w108 ⟨rfl, hy0, hb, hkp⟩; refine ⟨_, rfl, ?_⟩; have n0_ := Aside0.mk (Kd.R_mono (ok' := fun k_ => some k_ ≠ (.slice Ao29 t324.length co29 : Value).ownBlock ∧ some k_ ≠ (.slice Ao36 t311.length co36 : Value).ownBlock) (Kd.R_keptB (HO_303002.out) hkp (fun k_ hk_ hs_ => (hk_.2) hs_)) (fun k_ hk_ => ⟨hk_.1.1, hk_.1.2⟩)); have n1_ := Aside0.mk (Kd.R_mono (ok' := fun k_ => some k_ ≠ (.slice Ao22 t298.length co22 : Value).ownBlock ∧ some k_ ≠ (.slice Ao36 t311.length co36 : Value).ownBlock) (Kd.R_keptB (HO_309002.out) hkp (fun k_ hk_ hs_ => (hk_.2) hs_)) (fun k_ hk_ => ⟨hk_.1.1, hk_.1.2⟩)); have n2_ := Aside0.mk (Kd.R_reok rfl hy0 (fun k_ e_ => HO_316002.out.1 k_ e_)); have n3_ := Aside0.mk (blk_kept (upK BK289) hkp (fun hs_ => (fun e_ => (Kd.R_ne HO_316002.out BK289.out (by decide)) e_) hs_)); have n4_ := Aside0.mk (blk_kept (upK BK302) hkp (fun hs_ => (fun e_ => (Kd.R_ne HO_316002.out BK302.out (by decide)) e_) hs_)); have n5_ := Aside0.mk (blk_kept (upK BK308) hkp (fun hs_ => (fun e_ => (Kd.R_ne HO_316002.out BK308.out (by decide)) e_) hs_)); have n6_ := Aside0.mk (blk_kept (upK BK315) hkp (fun hs_ => (fun e_ => (Kd.R_ne HO_316002.out BK315.out (by decide)) e_) hs_)); have n7_ := Aside0.mk (hb); clear HO_303002; clear HO_309002; clear HO_316002; clear BK289; clear BK302; clear BK308; clear BK315; clear HB; have HO_303002 := n0_; have HO_309002 := n1_; have HO_316002 := n2_; have BK289 := n3_; have BK302 := n4_; have BK308 := n5_; have BK315 := n6_; have HB := n7_; clear n0_ n1_ n2_ n3_ n4_ n5_ n6_ n7_; (try clear hb); (try clear hkp); (try clear hy0); have hcz109_0 : w108.cell? ⟨gb315, 0, none⟩ = some (.int .i64 t309) := (blk_cell BK315.out 0).trans rfl; have hcz109_1 : w108.cell? ⟨gb315, 1, none⟩ = some (.int .i64 t310) := (blk_cell BK315.out 1).trans rfl; have hcz109_2 : w108.cell? ⟨gb315, 2, none⟩ = some (.slice Ao36 t311.length co36) := (blk_cell BK315.out 2).trans rfl; have hfz109_0 := blk_frozen BK315.out 0; have hfz109_1 := blk_frozen BK315.out 1; have hfz109_2 := blk_frozen BK315.out 2) | ((with_reducible refine gate_callee (f := 40) rfl ?_); refine goesL_ (some 67) rfl rfl Try.func40 (by kernel_rfl) rfl #[.agg #[.int .i64 t309, .int .i64 t310, .slice Ao36 t327.length co36], .int .i64 1] rfl (by (try simp only [List.map_toArray, List.map_cons, List.map_nil]); first | done | (rw [show t327.length = t311.length from (Kd.R_reads' HO_316002.out).1.symm] <;> rfl) | rfl | (simp only [List.length_drop, List.length_take]; rfl)) ?_; (with_reducible refine (laws_heldCut.calls kj59 t309 t310 _ _ t327 1 t328 _ ?side1 ?side2 A91.out).mono ?_); (case side1 => repeat (first | exact (Kd.R_reads' HO_316002.out).2.2 | (with_reducible refine Kd.C_alloc ?_ _) | (with_reducible refine Kd.C_drewN ?_ _) | (with_reducible refine Kd.C_drew ?_))); (case side2 => rw [show t327.length = t311.length from (Kd.R_reads' HO_316002.out).1.symm]; exact (Kd.R_reads' HO_316002.out).2.1); rintro e w110 ⟨rfl, hb⟩; refine ⟨_, rfl, ?_⟩; have n0_ := Aside0.mk (Kd.R_below (upR HO_303002) hb); have n1_ := Aside0.mk (Kd.R_below (upR HO_309002) hb); have n2_ := Aside0.mk (Kd.R_below (upR HO_316002) hb); have n3_ := Aside0.mk (blk_below (upK BK289) hb); have n4_ := Aside0.mk (blk_below (upK BK302) hb); have n5_ := Aside0.mk (blk_below (upK BK308) hb); have n6_ := Aside0.mk (blk_below (upK BK315) hb); have n7_ := Aside0.mk (below_step (upW HB) hb); clear HO_303002; clear HO_309002; clear HO_316002; clear BK289; clear BK302; clear BK308; clear BK315; clear HB; have HO_303002 := n0_; have HO_309002 := n1_; have HO_316002 := n2_; have BK289 := n3_; have BK302 := n4_; have BK308 := n5_; have BK315 := n6_; have HB := n7_; clear n0_ n1_ n2_ n3_ n4_ n5_ n6_ n7_; (try clear hb); (try clear hb2); (try clear hk); (try clear hi); have hnb111 := NB289_302.out; have hnc111 := NB302_289.out; have hnb112 := NB289_308.out; have hnc112 := NB308_289.out; have hcz113_0 : w110.cell? ⟨gb289, 0, none⟩ = some (.int .i64 a0_0) := (blk_cell BK289.out 0).trans rfl; have hcz113_1 : w110.cell? ⟨gb289, 1, none⟩ = some (.int .i64 a0_1) := (blk_cell BK289.out 1).trans rfl; have hcz113_2 : w110.cell? ⟨gb289, 2, none⟩ = some (.slice A0_2 l0_2.length c0_2) := (blk_cell BK289.out 2).trans rfl; have hfz113_0 := blk_frozen BK289.out 0; have hfz113_1 := blk_frozen BK289.out 1; have hfz113_2 := blk_frozen BK289.out 2) | ((with_reducible refine gate_callee (f := 36) rfl ?_); refine goesL_ (some 75) rfl rfl Try.func36 (by kernel_rfl) rfl #[.agg #[.int .i64 a0_0, .int .i64 a0_1, .slice A0_2 l0_2.length c0_2]] rfl itp ?_; (with_reducible refine (laws_toCut.calls kj59 a0_0 a0_1 _ _ l0_2 t329 t330 t331 _ ?side1 ?side2 A101.out).mono ?_); (case side1 => repeat (first | exact (Kd.C_below HR0_2.out HB.out) | (with_reducible refine Kd.C_alloc ?_ _) | (with_reducible refine Kd.C_drewN ?_ _) | (with_reducible refine Kd.C_drew ?_))); (case side2 => exact HC0_2.out); rintro e w114 ⟨v332, rfl, ho0, hb⟩; refine ⟨_, rfl, ?_⟩; have n0_ := Aside0.mk (Kd.R_elder' (upR HO_303002) (Kd.R_base ho0) hb); have n1_ := Aside0.mk (Kd.R_elder' (upR HO_309002) (Kd.R_base ho0) hb); have n2_ := Aside0.mk (Kd.R_elder' (upR HO_316002) (Kd.R_base ho0) hb); have n3_ := Aside0.mk (Kd.R_lower (Kd.R_new' (Kd.R_new' (Kd.R_new' ho0 (Kd.R_lt (upR HO_303002))) (Kd.R_lt (upR HO_309002))) (Kd.R_lt (upR HO_316002))) (below_size (upW HB))); have n4_ := Aside0.mk (blk_below (upK BK289) hb); have n5_ := Aside0.mk (blk_below (upK BK302) hb); have n6_ := Aside0.mk (blk_below (upK BK308) hb); have n7_ := Aside0.mk (blk_below (upK BK315) hb); have n8_ := Aside0.mk (below_step (upW HB) hb); clear HO_303002; clear HO_309002; clear HO_316002; clear BK289; clear BK302; clear BK308; clear BK315; clear HB; have HO_303002 := n0_; have HO_309002 := n1_; have HO_316002 := n2_; have HO333 := n3_; have BK289 := n4_; have BK302 := n5_; have BK308 := n6_; have BK315 := n7_; have HB := n8_; clear n0_ n1_ n2_ n3_ n4_ n5_ n6_ n7_ n8_; (try clear hb); (try clear hb2); (try clear hk); (try clear hi); (try clear ho0); obtain ⟨Ao115, co115, eo115⟩ := Kd.R_slice HO333.out; subst eo115) | ((with_reducible refine gate_callee (f := 42) rfl ?_); refine goesL_ (some 76) rfl rfl Try.func42 (by kernel_rfl) rfl #[.agg #[.int .i64 t329, .int .i64 t330, .slice Ao115 t331.length co115]] rfl itp ?_; (with_reducible refine (impl_TurnCut.calls kj59 t329 t330 _ _ t331 t334 t335 t336 t339 _ ?side1 ?side2 A102.out).mono ?_); (case side1 => repeat (first | exact (Kd.R_reads' HO333.out).2.2 | (with_reducible refine Kd.C_alloc ?_ _) | (with_reducible refine Kd.C_drewN ?_ _) | (with_reducible refine Kd.C_drew ?_))); (case side2 => exact (Kd.R_reads' HO333.out).2.1); rintro e w116 ⟨v337, rfl, ho0, hb⟩; refine ⟨_, rfl, ?_⟩; have n0_ := Aside0.mk (Kd.R_elder' (upR HO_303002) (Kd.R_base ho0) hb); have n1_ := Aside0.mk (Kd.R_elder' (upR HO_309002) (Kd.R_base ho0) hb); have n2_ := Aside0.mk (Kd.R_elder' (upR HO_316002) (Kd.R_base ho0) hb); have n3_ := Aside0.mk (Kd.R_elder' (upR HO333) (Kd.R_base ho0) hb); have n4_ := Aside0.mk (Kd.R_lower (Kd.R_new' (Kd.R_new' (Kd.R_new' (Kd.R_new' ho0 (Kd.R_lt (upR HO_303002))) (Kd.R_lt (upR HO_309002))) (Kd.R_lt (upR HO_316002))) (Kd.R_lt (upR HO333))) (below_size (upW HB))); have n5_ := Aside0.mk (blk_below (upK BK289) hb); have n6_ := Aside0.mk (blk_below (upK BK302) hb); have n7_ := Aside0.mk (blk_below (upK BK308) hb); have n8_ := Aside0.mk (blk_below (upK BK315) hb); have n9_ := Aside0.mk (below_step (upW HB) hb); clear HO_303002; clear HO_309002; clear HO_316002; clear HO333; clear BK289; clear BK302; clear BK308; clear BK315; clear HB; have HO_303002 := n0_; have HO_309002 := n1_; have HO_316002 := n2_; have HO333 := n3_; have HO338 := n4_; have BK289 := n5_; have BK302 := n6_; have BK308 := n7_; have BK315 := n8_; have HB := n9_; clear n0_ n1_ n2_ n3_ n4_ n5_ n6_ n7_ n8_ n9_; (try clear hb); (try clear hb2); (try clear hk); (try clear hi); (try clear ho0)) | ((with_reducible refine gate_dst (N := 12) rfl ?_); refine box_event ?hg (N := 12) ?hd (cs := #[.int .i64 0, .int .i64 0, .slice none 0 0]) (t := 48) ?hr ?_; (case hd => rfl); (case hg => rfl); (case hr => first | (go_simp; done) | (go_simp; rfl)); intro gb340 hg w117 hbox hb; have n0_ := Aside0.mk (Kd.R_below (upR HO_303002) hb); have n1_ := Aside0.mk (Kd.R_below (upR HO_309002) hb); have n2_ := Aside0.mk (Kd.R_below (upR HO_316002) hb); have n3_ := Aside0.mk (Kd.R_below (upR HO333) hb); have n4_ := Aside0.mk (Kd.R_below (upR HO338) hb); have n5_ := Aside0.mk (blk_below (upK BK289) hb); have n6_ := Aside0.mk (blk_below (upK BK302) hb); have n7_ := Aside0.mk (blk_below (upK BK308) hb); have n8_ := Aside0.mk (blk_below (upK BK315) hb); have n9_ := Aside0.mk (below_step (upW HB) hb); have n10_ := Aside0.mk (hbox); have n11_ := Aside0.mk ((by rw [hg]; exact (below_size (upW HB)) : w.heap.size ≤ gb340)); have n12_ := Aside0.mk ((by rw [hg]; exact (below_size (upW HB)) : w.heap.size ≤ gb340)); have n13_ := Aside0.mk ((by rw [hg]; exact Nat.ne_of_lt (blk_lt (upK BK289)) : gb289 ≠ gb340)); have n14_ := Aside0.mk ((by rw [hg]; exact Nat.ne_of_gt (blk_lt (upK BK289)) : gb340 ≠ gb289)); have n15_ := Aside0.mk ((by rw [hg]; exact Nat.ne_of_lt (blk_lt (upK BK302)) : gb302 ≠ gb340)); have n16_ := Aside0.mk ((by rw [hg]; exact Nat.ne_of_gt (blk_lt (upK BK302)) : gb340 ≠ gb302)); have n17_ := Aside0.mk ((by rw [hg]; exact Nat.ne_of_lt (blk_lt (upK BK308)) : gb308 ≠ gb340)); have n18_ := Aside0.mk ((by rw [hg]; exact Nat.ne_of_gt (blk_lt (upK BK308)) : gb340 ≠ gb308)); have n19_ := Aside0.mk ((by rw [hg]; exact Nat.ne_of_lt (blk_lt (upK BK315)) : gb315 ≠ gb340)); have n20_ := Aside0.mk ((by rw [hg]; exact Nat.ne_of_gt (blk_lt (upK BK315)) : gb340 ≠ gb315)); clear HO_303002; clear HO_309002; clear HO_316002; clear HO333; clear HO338; clear BK289; clear BK302; clear BK308; clear BK315; clear HB; have HO_303002 := n0_; have HO_309002 := n1_; have HO_316002 := n2_; have HO333 := n3_; have HO338 := n4_; have BK289 := n5_; have BK302 := n6_; have BK308 := n7_; have BK315 := n8_; have HB := n9_; have BK340 := n10_; have GW340 := n11_; have GE340 := n12_; have NB289_340 := n13_; have NB340_289 := n14_; have NB302_340 := n15_; have NB340_302 := n16_; have NB308_340 := n17_; have NB340_308 := n18_; have NB315_340 := n19_; have NB340_315 := n20_; clear n0_ n1_ n2_ n3_ n4_ n5_ n6_ n7_ n8_ n9_ n10_ n11_ n12_ n13_ n14_ n15_ n16_ n17_ n18_ n19_ n20_; clear hb hbox hg; have hnb118 := NB340_289.out; have hnc118 := NB289_340.out; have hnb119 := NB340_302.out; have hnc119 := NB302_340.out; have hnb120 := NB340_308.out; have hnc120 := NB308_340.out; have hnb121 := NB340_315.out; have hnc121 := NB315_340.out; have hcz122_0 : w117.cell? ⟨gb340, 0, none⟩ = some (.int .i64 0) := (blk_cell BK340.out 0).trans rfl; have hcz122_1 : w117.cell? ⟨gb340, 1, none⟩ = some (.int .i64 0) := (blk_cell BK340.out 1).trans rfl; have hcz122_2 : w117.cell? ⟨gb340, 2, none⟩ = some (.slice none 0 0) := (blk_cell BK340.out 2).trans rfl; have hfz122_0 := blk_frozen BK340.out 0; have hfz122_1 := blk_frozen BK340.out 1; have hfz122_2 := blk_frozen BK340.out 2; obtain ⟨Ao123, co123, eo123⟩ := Kd.R_slice HO338.out; subst eo123))
           (try simp only [Act.put, List.setIfInBounds_toArray, List.set_cons_zero, List.set_cons_succ])
           go_cut [87] (fun v87 wc => ∃ (kq : Nat) (x87_102 : Bool), v87 = .bool x87_102 ∧ Aside0 (laws_FnExactTurnCut.j2 kq t326 x87_102 t309 t310 t327 = some r) ∧ Aside0 (kq ≤ kj59) ∧ Aside0 (Kd.R k83 83 wc w.heap.size (fun k_ => some k_ ≠ ((.slice Ao29 t324.length co29) : Value).ownBlock ∧ some k_ ≠ ((.slice Ao36 t311.length co36) : Value).ownBlock ∧ some k_ ≠ ((.slice Ao123 t336.length co123) : Value).ownBlock) (.slice Ao22 t298.length co22) t298) ∧ Aside0 (Kd.R k83 83 wc w.heap.size (fun k_ => some k_ ≠ ((.slice Ao22 t298.length co22) : Value).ownBlock ∧ some k_ ≠ ((.slice Ao36 t311.length co36) : Value).ownBlock ∧ some k_ ≠ ((.slice Ao123 t336.length co123) : Value).ownBlock) (.slice Ao29 t324.length co29) t324) ∧ Aside0 (Kd.R k83 83 wc w.heap.size (fun k_ => some k_ ≠ ((.slice Ao22 t298.length co22) : Value).ownBlock ∧ some k_ ≠ ((.slice Ao29 t324.length co29) : Value).ownBlock ∧ some k_ ≠ ((.slice Ao123 t336.length co123) : Value).ownBlock) (.slice Ao36 t311.length co36) t327) ∧ Aside0 (Kd.R k83 83 wc w.heap.size (fun k_ => some k_ ≠ ((.slice Ao22 t298.length co22) : Value).ownBlock ∧ some k_ ≠ ((.slice Ao29 t324.length co29) : Value).ownBlock ∧ some k_ ≠ ((.slice Ao36 t311.length co36) : Value).ownBlock) (.slice Ao123 t336.length co123) t336) ∧ Aside0 (wc.heap[gb289]? = some (.cells #[.int .i64 a0_0, .int .i64 a0_1, (.slice A0_2 l0_2.length c0_2)] 44 (0, 0))) ∧ Aside0 (wc.heap[gb302]? = some (.cells #[.int .i64 t296, .int .i64 t297, (.slice Ao22 t298.length co22)] 48 (0, 0))) ∧ Aside0 (wc.heap[gb308]? = some (.cells #[.int .i64 t303, .int .i64 t304, (.slice Ao29 t324.length co29)] 48 (0, 0))) ∧ Aside0 (wc.heap[gb315]? = some (.cells #[.int .i64 t309, .int .i64 t310, (.slice Ao36 t311.length co36)] 48 (0, 0))) ∧ Aside0 (wc.heap[gb340]? = some (.cells #[.int .i64 t334, .int .i64 t335, (.slice Ao123 t336.length co123)] 48 (0, 0))) ∧ Aside0 (Below w.heap.size w wc))
           case first =>
            have H := HC103.out
            clear HC103
            replace H := Option.bind_eq_some_iff.mp H
            obtain ⟨t341, A1240, H⟩ := H
            replace H : (if t341 = true then (laws_FnExactTurnCut.j2 kj59 t326 (t339 != t301) t309 t310 t327) else (laws_FnExactTurnCut.j2 kj59 t326 true t309 t310 t327)) = some r := H
            have A124 := Aside0.mk A1240
            clear A1240
            by_cases c125 : t341 = true
            ·subst c125
             have H1 : (laws_FnExactTurnCut.j2 kj59 t326 (t339 != t301) t309 t310 t327) = some r := by rw [if_pos rfl] at H; exact H
             clear H
             have H := H1
             clear H1
             have H' := Aside0.mk H
             clear H
             have hnb126 := NB340_289.out
             have hnc126 := NB289_340.out
             have hnb127 := NB340_302.out
             have hnc127 := NB302_340.out
             have hnb128 := NB340_308.out
             have hnc128 := NB308_340.out
             have hnb129 := NB340_315.out
             have hnc129 := NB315_340.out
             have hcz130_0 : w117.cell? ⟨gb340, 0, none⟩ = some (.int .i64 0) := (blk_cell BK340.out 0).trans rfl
             have hcz130_1 : w117.cell? ⟨gb340, 1, none⟩ = some (.int .i64 0) := (blk_cell BK340.out 1).trans rfl
             have hcz130_2 : w117.cell? ⟨gb340, 2, none⟩ = some (.slice none 0 0) := (blk_cell BK340.out 2).trans rfl
             have hfz130_0 := blk_frozen BK340.out 0
             have hfz130_1 := blk_frozen BK340.out 1
             have hfz130_2 := blk_frozen BK340.out 2
             have hnb131 := NB302_289.out
             have hnc131 := NB289_302.out
             have hnb132 := NB302_308.out
             have hnc132 := NB308_302.out
             have hnb133 := NB302_315.out
             have hnc133 := NB315_302.out
             have hcz134_0 : w117.cell? ⟨gb302, 0, none⟩ = some (.int .i64 t296) := (blk_cell BK302.out 0).trans rfl
             have hcz134_1 : w117.cell? ⟨gb302, 1, none⟩ = some (.int .i64 t297) := (blk_cell BK302.out 1).trans rfl
             have hcz134_2 : w117.cell? ⟨gb302, 2, none⟩ = some (.slice Ao22 t298.length co22) := (blk_cell BK302.out 2).trans rfl
             have hfz134_0 := blk_frozen BK302.out 0
             have hfz134_1 := blk_frozen BK302.out 1
             have hfz134_2 := blk_frozen BK302.out 2
             go_wp2_with (first | ((with_reducible refine gate_callee (f := 38) rfl ?_); refine goesL_ (some 81) rfl rfl Try.func38 (by kernel_rfl) rfl #[.agg #[.int .i64 t334, .int .i64 t335, .slice Ao123 t336.length co123], .agg #[.int .i64 t296, .int .i64 t297, .slice Ao22 t298.length co22]] rfl itp ?_; (with_reducible refine (laws_eqCut.calls kj59 t334 t335 _ _ t336 t296 t297 _ _ t298 true _ ?side1 ?side2 ?side3 ?side4 A124.out).mono ?_); (case side1 => refine (Kd.R_reads' (e := 83) (base := w.heap.size) (ok := fun k_ => ((((True ∧ some k_ ≠ (.slice Ao22 t298.length co22 : Value).ownBlock) ∧ some k_ ≠ (.slice Ao29 t324.length co29 : Value).ownBlock) ∧ some k_ ≠ (.slice Ao36 t311.length co36 : Value).ownBlock) ∧ some k_ ≠ (.slice Ao115 t331.length co115 : Value).ownBlock)) (n := t336.length) (c := co123) ?_).2.2; exact (by (with_reducible repeat (first | apply Kd.R_alloc | apply Kd.R_drewN | apply Kd.R_drew)); exact (Kd.R_mono (Kd.R_far (p := ⟨gb340, 2, none⟩) (Kd.R_far (p := ⟨gb340, 1, none⟩) (Kd.R_far (p := ⟨gb340, 0, none⟩) (Kd.R_types HO338.out BK340.out (by decide)) (fun _ hk => hk.2) (.int .i64 t334)) (fun _ hk => hk.2) (.int .i64 t335)) (fun _ hk => hk.2) (.slice Ao123 t336.length co123)) (fun _ h_ => h_.1)))); (case side2 => exact (Kd.R_reads' HO338.out).2.1); (case side3 => refine (Kd.R_reads' (e := 83) (base := w.heap.size) (ok := fun k_ => (((some k_ ≠ (.slice Ao29 t324.length co29 : Value).ownBlock ∧ some k_ ≠ (.slice Ao36 t311.length co36 : Value).ownBlock) ∧ some k_ ≠ (.slice Ao115 t331.length co115 : Value).ownBlock) ∧ some k_ ≠ (.slice Ao123 t336.length co123 : Value).ownBlock)) (n := t298.length) (c := co22) ?_).2.2; exact (by (with_reducible repeat (first | apply Kd.R_alloc | apply Kd.R_drewN | apply Kd.R_drew)); exact (Kd.R_mono (Kd.R_far (p := ⟨gb340, 2, none⟩) (Kd.R_far (p := ⟨gb340, 1, none⟩) (Kd.R_far (p := ⟨gb340, 0, none⟩) (Kd.R_types HO_303002.out BK340.out (by decide)) (fun _ hk => hk.2) (.int .i64 t334)) (fun _ hk => hk.2) (.int .i64 t335)) (fun _ hk => hk.2) (.slice Ao123 t336.length co123)) (fun _ h_ => h_.1)))); (case side4 => exact (Kd.R_reads' HO_303002.out).2.1); rintro e w135 ⟨rfl, hb⟩; refine ⟨_, rfl, ?_⟩; have n0_ := Aside0.mk (Kd.R_below (by (with_reducible repeat (first | apply Kd.R_alloc | apply Kd.R_drewN | apply Kd.R_drew)); exact (Kd.R_mono (Kd.R_far (p := ⟨gb340, 2, none⟩) (Kd.R_far (p := ⟨gb340, 1, none⟩) (Kd.R_far (p := ⟨gb340, 0, none⟩) (Kd.R_types HO_303002.out BK340.out (by decide)) (fun _ hk => hk.2) (.int .i64 t334)) (fun _ hk => hk.2) (.int .i64 t335)) (fun _ hk => hk.2) (.slice Ao123 t336.length co123)) (fun _ h_ => h_.1))) hb); have n1_ := Aside0.mk (Kd.R_below (by (with_reducible repeat (first | apply Kd.R_alloc | apply Kd.R_drewN | apply Kd.R_drew)); exact (Kd.R_mono (Kd.R_far (p := ⟨gb340, 2, none⟩) (Kd.R_far (p := ⟨gb340, 1, none⟩) (Kd.R_far (p := ⟨gb340, 0, none⟩) (Kd.R_types HO_309002.out BK340.out (by decide)) (fun _ hk => hk.2) (.int .i64 t334)) (fun _ hk => hk.2) (.int .i64 t335)) (fun _ hk => hk.2) (.slice Ao123 t336.length co123)) (fun _ h_ => h_.1))) hb); have n2_ := Aside0.mk (Kd.R_below (by (with_reducible repeat (first | apply Kd.R_alloc | apply Kd.R_drewN | apply Kd.R_drew)); exact (Kd.R_mono (Kd.R_far (p := ⟨gb340, 2, none⟩) (Kd.R_far (p := ⟨gb340, 1, none⟩) (Kd.R_far (p := ⟨gb340, 0, none⟩) (Kd.R_types HO_316002.out BK340.out (by decide)) (fun _ hk => hk.2) (.int .i64 t334)) (fun _ hk => hk.2) (.int .i64 t335)) (fun _ hk => hk.2) (.slice Ao123 t336.length co123)) (fun _ h_ => h_.1))) hb); have n3_ := Aside0.mk (Kd.R_below (by (with_reducible repeat (first | apply Kd.R_alloc | apply Kd.R_drewN | apply Kd.R_drew)); exact (Kd.R_mono (Kd.R_far (p := ⟨gb340, 2, none⟩) (Kd.R_far (p := ⟨gb340, 1, none⟩) (Kd.R_far (p := ⟨gb340, 0, none⟩) (Kd.R_types HO333.out BK340.out (by decide)) (fun _ hk => hk.2) (.int .i64 t334)) (fun _ hk => hk.2) (.int .i64 t335)) (fun _ hk => hk.2) (.slice Ao123 t336.length co123)) (fun _ h_ => h_.1))) hb); have n4_ := Aside0.mk (Kd.R_below (by (with_reducible repeat (first | apply Kd.R_alloc | apply Kd.R_drewN | apply Kd.R_drew)); exact (Kd.R_mono (Kd.R_far (p := ⟨gb340, 2, none⟩) (Kd.R_far (p := ⟨gb340, 1, none⟩) (Kd.R_far (p := ⟨gb340, 0, none⟩) (Kd.R_types HO338.out BK340.out (by decide)) (fun _ hk => hk.2) (.int .i64 t334)) (fun _ hk => hk.2) (.int .i64 t335)) (fun _ hk => hk.2) (.slice Ao123 t336.length co123)) (fun _ h_ => h_.1))) hb); have n5_ := Aside0.mk (blk_below (upF BK289) hb); have n6_ := Aside0.mk (blk_below (upF BK302) hb); have n7_ := Aside0.mk (blk_below (upF BK308) hb); have n8_ := Aside0.mk (blk_below (upF BK315) hb); have n9_ := Aside0.mk (blk_below (g := gb340) (o := .cells #[.int .i64 t334, .int .i64 t335, .slice Ao123 t336.length co123] 48 (0, 0)) (by (with_reducible repeat (first | refine blk_drewN ?_ _ | refine blk_drew ?_ | refine blk_alloc ?_ _)); refine blk_put (cs := #[.int .i64 t334, .int .i64 t335, .slice none 0 0]) ?_ 2 _ rfl; (with_reducible repeat (first | refine blk_drewN ?_ _ | refine blk_drew ?_ | refine blk_alloc ?_ _)); refine blk_put (cs := #[.int .i64 t334, .int .i64 0, .slice none 0 0]) ?_ 1 _ rfl; (with_reducible repeat (first | refine blk_drewN ?_ _ | refine blk_drew ?_ | refine blk_alloc ?_ _)); refine blk_put (cs := #[.int .i64 0, .int .i64 0, .slice none 0 0]) ?_ 0 _ rfl; (with_reducible repeat (first | refine blk_drewN ?_ _ | refine blk_drew ?_ | refine blk_alloc ?_ _)); exact BK340.out) hb); have n10_ := Aside0.mk (below_step (upW HB) hb); clear HO_303002; clear HO_309002; clear HO_316002; clear HO333; clear HO338; clear BK289; clear BK302; clear BK308; clear BK315; clear BK340; clear HB; have HO_303002 := n0_; have HO_309002 := n1_; have HO_316002 := n2_; have HO333 := n3_; have HO338 := n4_; have BK289 := n5_; have BK302 := n6_; have BK308 := n7_; have BK315 := n8_; have BK340 := n9_; have HB := n10_; clear n0_ n1_ n2_ n3_ n4_ n5_ n6_ n7_ n8_ n9_ n10_; (try clear hb); (try clear hb2); (try clear hk); (try clear hi)))
             go_meet
             case rel => exact ⟨_, ((t339 != t301)), (by first | rfl | (simp; done) | (simp [*]; done)), H', ⟨by have := HJ10.out; have := HJ59.out; first | omega | exact Nat.le_refl _⟩, ⟨by (try simp only [hl309002_59]); (with_reducible repeat (first | apply Kd.R_alloc | apply Kd.R_drewN | apply Kd.R_drew)); exact Kd.R_mono HO_303002.out (fun _ hk => ⟨hk.1.1.1, ⟨hk.1.1.2, hk.2⟩⟩)⟩, ⟨by (try simp only [hl309002_59]); (with_reducible repeat (first | apply Kd.R_alloc | apply Kd.R_drewN | apply Kd.R_drew)); exact Kd.R_mono HO_309002.out (fun _ hk => ⟨hk.1.1.1, ⟨hk.1.1.2, hk.2⟩⟩)⟩, ⟨by (try simp only [hl309002_59]); (with_reducible repeat (first | apply Kd.R_alloc | apply Kd.R_drewN | apply Kd.R_drew)); exact Kd.R_mono HO_316002.out (fun _ hk => ⟨hk.1.1.1, ⟨hk.1.1.2, hk.2⟩⟩)⟩, ⟨by (try simp only [hl309002_59]); (with_reducible repeat (first | apply Kd.R_alloc | apply Kd.R_drewN | apply Kd.R_drew)); exact Kd.R_mono HO338.out (fun _ hk => ⟨hk.1.1.1.2, ⟨hk.1.1.2, hk.1.2⟩⟩)⟩, ⟨by (try simp only [hl309002_59]); (with_reducible repeat (first | refine blk_drewN ?_ _ | refine blk_drew ?_ | refine blk_alloc ?_ _)); exact BK289.out⟩, ⟨by (try simp only [hl309002_59]); (with_reducible repeat (first | refine blk_drewN ?_ _ | refine blk_drew ?_ | refine blk_alloc ?_ _)); exact BK302.out⟩, ⟨by (try simp only [hl309002_59]); (with_reducible repeat (first | refine blk_drewN ?_ _ | refine blk_drew ?_ | refine blk_alloc ?_ _)); exact BK308.out⟩, ⟨by (try simp only [hl309002_59]); (with_reducible repeat (first | refine blk_drewN ?_ _ | refine blk_drew ?_ | refine blk_alloc ?_ _)); exact BK315.out⟩, ⟨by (try simp only [hl309002_59]); (with_reducible repeat (first | refine blk_drewN ?_ _ | refine blk_drew ?_ | refine blk_alloc ?_ _)); exact BK340.out⟩, ⟨upW HB⟩⟩
            ·replace c125 := Bool.eq_false_iff.mpr c125
             subst c125
             have H1 : (laws_FnExactTurnCut.j2 kj59 t326 true t309 t310 t327) = some r := by rw [if_neg (show ¬ (false = true) by decide)] at H; exact H
             clear H
             have H := H1
             clear H1
             have H' := Aside0.mk H
             clear H
             have hnb136 := NB340_289.out
             have hnc136 := NB289_340.out
             have hnb137 := NB340_302.out
             have hnc137 := NB302_340.out
             have hnb138 := NB340_308.out
             have hnc138 := NB308_340.out
             have hnb139 := NB340_315.out
             have hnc139 := NB315_340.out
             have hcz140_0 : w117.cell? ⟨gb340, 0, none⟩ = some (.int .i64 0) := (blk_cell BK340.out 0).trans rfl
             have hcz140_1 : w117.cell? ⟨gb340, 1, none⟩ = some (.int .i64 0) := (blk_cell BK340.out 1).trans rfl
             have hcz140_2 : w117.cell? ⟨gb340, 2, none⟩ = some (.slice none 0 0) := (blk_cell BK340.out 2).trans rfl
             have hfz140_0 := blk_frozen BK340.out 0
             have hfz140_1 := blk_frozen BK340.out 1
             have hfz140_2 := blk_frozen BK340.out 2
             have hnb141 := NB302_289.out
             have hnc141 := NB289_302.out
             have hnb142 := NB302_308.out
             have hnc142 := NB308_302.out
             have hnb143 := NB302_315.out
             have hnc143 := NB315_302.out
             have hcz144_0 : w117.cell? ⟨gb302, 0, none⟩ = some (.int .i64 t296) := (blk_cell BK302.out 0).trans rfl
             have hcz144_1 : w117.cell? ⟨gb302, 1, none⟩ = some (.int .i64 t297) := (blk_cell BK302.out 1).trans rfl
             have hcz144_2 : w117.cell? ⟨gb302, 2, none⟩ = some (.slice Ao22 t298.length co22) := (blk_cell BK302.out 2).trans rfl
             have hfz144_0 := blk_frozen BK302.out 0
             have hfz144_1 := blk_frozen BK302.out 1
             have hfz144_2 := blk_frozen BK302.out 2
             go_wp2_with (first | ((with_reducible refine gate_callee (f := 38) rfl ?_); refine goesL_ (some 81) rfl rfl Try.func38 (by kernel_rfl) rfl #[.agg #[.int .i64 t334, .int .i64 t335, .slice Ao123 t336.length co123], .agg #[.int .i64 t296, .int .i64 t297, .slice Ao22 t298.length co22]] rfl itp ?_; (with_reducible refine (laws_eqCut.calls kj59 t334 t335 _ _ t336 t296 t297 _ _ t298 false _ ?side1 ?side2 ?side3 ?side4 A124.out).mono ?_); (case side1 => refine (Kd.R_reads' (e := 83) (base := w.heap.size) (ok := fun k_ => ((((True ∧ some k_ ≠ (.slice Ao22 t298.length co22 : Value).ownBlock) ∧ some k_ ≠ (.slice Ao29 t324.length co29 : Value).ownBlock) ∧ some k_ ≠ (.slice Ao36 t311.length co36 : Value).ownBlock) ∧ some k_ ≠ (.slice Ao115 t331.length co115 : Value).ownBlock)) (n := t336.length) (c := co123) ?_).2.2; exact (by (with_reducible repeat (first | apply Kd.R_alloc | apply Kd.R_drewN | apply Kd.R_drew)); exact (Kd.R_mono (Kd.R_far (p := ⟨gb340, 2, none⟩) (Kd.R_far (p := ⟨gb340, 1, none⟩) (Kd.R_far (p := ⟨gb340, 0, none⟩) (Kd.R_types HO338.out BK340.out (by decide)) (fun _ hk => hk.2) (.int .i64 t334)) (fun _ hk => hk.2) (.int .i64 t335)) (fun _ hk => hk.2) (.slice Ao123 t336.length co123)) (fun _ h_ => h_.1)))); (case side2 => exact (Kd.R_reads' HO338.out).2.1); (case side3 => refine (Kd.R_reads' (e := 83) (base := w.heap.size) (ok := fun k_ => (((some k_ ≠ (.slice Ao29 t324.length co29 : Value).ownBlock ∧ some k_ ≠ (.slice Ao36 t311.length co36 : Value).ownBlock) ∧ some k_ ≠ (.slice Ao115 t331.length co115 : Value).ownBlock) ∧ some k_ ≠ (.slice Ao123 t336.length co123 : Value).ownBlock)) (n := t298.length) (c := co22) ?_).2.2; exact (by (with_reducible repeat (first | apply Kd.R_alloc | apply Kd.R_drewN | apply Kd.R_drew)); exact (Kd.R_mono (Kd.R_far (p := ⟨gb340, 2, none⟩) (Kd.R_far (p := ⟨gb340, 1, none⟩) (Kd.R_far (p := ⟨gb340, 0, none⟩) (Kd.R_types HO_303002.out BK340.out (by decide)) (fun _ hk => hk.2) (.int .i64 t334)) (fun _ hk => hk.2) (.int .i64 t335)) (fun _ hk => hk.2) (.slice Ao123 t336.length co123)) (fun _ h_ => h_.1)))); (case side4 => exact (Kd.R_reads' HO_303002.out).2.1); rintro e w145 ⟨rfl, hb⟩; refine ⟨_, rfl, ?_⟩; have n0_ := Aside0.mk (Kd.R_below (by (with_reducible repeat (first | apply Kd.R_alloc | apply Kd.R_drewN | apply Kd.R_drew)); exact (Kd.R_mono (Kd.R_far (p := ⟨gb340, 2, none⟩) (Kd.R_far (p := ⟨gb340, 1, none⟩) (Kd.R_far (p := ⟨gb340, 0, none⟩) (Kd.R_types HO_303002.out BK340.out (by decide)) (fun _ hk => hk.2) (.int .i64 t334)) (fun _ hk => hk.2) (.int .i64 t335)) (fun _ hk => hk.2) (.slice Ao123 t336.length co123)) (fun _ h_ => h_.1))) hb); have n1_ := Aside0.mk (Kd.R_below (by (with_reducible repeat (first | apply Kd.R_alloc | apply Kd.R_drewN | apply Kd.R_drew)); exact (Kd.R_mono (Kd.R_far (p := ⟨gb340, 2, none⟩) (Kd.R_far (p := ⟨gb340, 1, none⟩) (Kd.R_far (p := ⟨gb340, 0, none⟩) (Kd.R_types HO_309002.out BK340.out (by decide)) (fun _ hk => hk.2) (.int .i64 t334)) (fun _ hk => hk.2) (.int .i64 t335)) (fun _ hk => hk.2) (.slice Ao123 t336.length co123)) (fun _ h_ => h_.1))) hb); have n2_ := Aside0.mk (Kd.R_below (by (with_reducible repeat (first | apply Kd.R_alloc | apply Kd.R_drewN | apply Kd.R_drew)); exact (Kd.R_mono (Kd.R_far (p := ⟨gb340, 2, none⟩) (Kd.R_far (p := ⟨gb340, 1, none⟩) (Kd.R_far (p := ⟨gb340, 0, none⟩) (Kd.R_types HO_316002.out BK340.out (by decide)) (fun _ hk => hk.2) (.int .i64 t334)) (fun _ hk => hk.2) (.int .i64 t335)) (fun _ hk => hk.2) (.slice Ao123 t336.length co123)) (fun _ h_ => h_.1))) hb); have n3_ := Aside0.mk (Kd.R_below (by (with_reducible repeat (first | apply Kd.R_alloc | apply Kd.R_drewN | apply Kd.R_drew)); exact (Kd.R_mono (Kd.R_far (p := ⟨gb340, 2, none⟩) (Kd.R_far (p := ⟨gb340, 1, none⟩) (Kd.R_far (p := ⟨gb340, 0, none⟩) (Kd.R_types HO333.out BK340.out (by decide)) (fun _ hk => hk.2) (.int .i64 t334)) (fun _ hk => hk.2) (.int .i64 t335)) (fun _ hk => hk.2) (.slice Ao123 t336.length co123)) (fun _ h_ => h_.1))) hb); have n4_ := Aside0.mk (Kd.R_below (by (with_reducible repeat (first | apply Kd.R_alloc | apply Kd.R_drewN | apply Kd.R_drew)); exact (Kd.R_mono (Kd.R_far (p := ⟨gb340, 2, none⟩) (Kd.R_far (p := ⟨gb340, 1, none⟩) (Kd.R_far (p := ⟨gb340, 0, none⟩) (Kd.R_types HO338.out BK340.out (by decide)) (fun _ hk => hk.2) (.int .i64 t334)) (fun _ hk => hk.2) (.int .i64 t335)) (fun _ hk => hk.2) (.slice Ao123 t336.length co123)) (fun _ h_ => h_.1))) hb); have n5_ := Aside0.mk (blk_below (upF BK289) hb); have n6_ := Aside0.mk (blk_below (upF BK302) hb); have n7_ := Aside0.mk (blk_below (upF BK308) hb); have n8_ := Aside0.mk (blk_below (upF BK315) hb); have n9_ := Aside0.mk (blk_below (g := gb340) (o := .cells #[.int .i64 t334, .int .i64 t335, .slice Ao123 t336.length co123] 48 (0, 0)) (by (with_reducible repeat (first | refine blk_drewN ?_ _ | refine blk_drew ?_ | refine blk_alloc ?_ _)); refine blk_put (cs := #[.int .i64 t334, .int .i64 t335, .slice none 0 0]) ?_ 2 _ rfl; (with_reducible repeat (first | refine blk_drewN ?_ _ | refine blk_drew ?_ | refine blk_alloc ?_ _)); refine blk_put (cs := #[.int .i64 t334, .int .i64 0, .slice none 0 0]) ?_ 1 _ rfl; (with_reducible repeat (first | refine blk_drewN ?_ _ | refine blk_drew ?_ | refine blk_alloc ?_ _)); refine blk_put (cs := #[.int .i64 0, .int .i64 0, .slice none 0 0]) ?_ 0 _ rfl; (with_reducible repeat (first | refine blk_drewN ?_ _ | refine blk_drew ?_ | refine blk_alloc ?_ _)); exact BK340.out) hb); have n10_ := Aside0.mk (below_step (upW HB) hb); clear HO_303002; clear HO_309002; clear HO_316002; clear HO333; clear HO338; clear BK289; clear BK302; clear BK308; clear BK315; clear BK340; clear HB; have HO_303002 := n0_; have HO_309002 := n1_; have HO_316002 := n2_; have HO333 := n3_; have HO338 := n4_; have BK289 := n5_; have BK302 := n6_; have BK308 := n7_; have BK315 := n8_; have BK340 := n9_; have HB := n10_; clear n0_ n1_ n2_ n3_ n4_ n5_ n6_ n7_ n8_ n9_ n10_; (try clear hb); (try clear hb2); (try clear hk); (try clear hi)))
             go_meet
             case rel => exact ⟨_, (true), (by first | rfl | (simp; done) | (simp [*]; done)), H', ⟨by have := HJ10.out; have := HJ59.out; first | omega | exact Nat.le_refl _⟩, ⟨by (try simp only [hl309002_59]); (with_reducible repeat (first | apply Kd.R_alloc | apply Kd.R_drewN | apply Kd.R_drew)); exact Kd.R_mono HO_303002.out (fun _ hk => ⟨hk.1.1.1, ⟨hk.1.1.2, hk.2⟩⟩)⟩, ⟨by (try simp only [hl309002_59]); (with_reducible repeat (first | apply Kd.R_alloc | apply Kd.R_drewN | apply Kd.R_drew)); exact Kd.R_mono HO_309002.out (fun _ hk => ⟨hk.1.1.1, ⟨hk.1.1.2, hk.2⟩⟩)⟩, ⟨by (try simp only [hl309002_59]); (with_reducible repeat (first | apply Kd.R_alloc | apply Kd.R_drewN | apply Kd.R_drew)); exact Kd.R_mono HO_316002.out (fun _ hk => ⟨hk.1.1.1, ⟨hk.1.1.2, hk.2⟩⟩)⟩, ⟨by (try simp only [hl309002_59]); (with_reducible repeat (first | apply Kd.R_alloc | apply Kd.R_drewN | apply Kd.R_drew)); exact Kd.R_mono HO338.out (fun _ hk => ⟨hk.1.1.1.2, ⟨hk.1.1.2, hk.1.2⟩⟩)⟩, ⟨by (try simp only [hl309002_59]); (with_reducible repeat (first | refine blk_drewN ?_ _ | refine blk_drew ?_ | refine blk_alloc ?_ _)); exact BK289.out⟩, ⟨by (try simp only [hl309002_59]); (with_reducible repeat (first | refine blk_drewN ?_ _ | refine blk_drew ?_ | refine blk_alloc ?_ _)); exact BK302.out⟩, ⟨by (try simp only [hl309002_59]); (with_reducible repeat (first | refine blk_drewN ?_ _ | refine blk_drew ?_ | refine blk_alloc ?_ _)); exact BK308.out⟩, ⟨by (try simp only [hl309002_59]); (with_reducible repeat (first | refine blk_drewN ?_ _ | refine blk_drew ?_ | refine blk_alloc ?_ _)); exact BK315.out⟩, ⟨by (try simp only [hl309002_59]); (with_reducible repeat (first | refine blk_drewN ?_ _ | refine blk_drew ?_ | refine blk_alloc ?_ _)); exact BK340.out⟩, ⟨upW HB⟩⟩
           case rest =>
            clear HC103
            try clear c1
            try clear c2
            try clear p2
            try clear c3
            try clear c3b0
            try clear c4
            try clear c5
            try clear c6
            try clear c7
            try clear c8
            try clear c9
            try clear c10
            try clear c11
            try clear c12
            try clear c13
            try clear c14
            try clear c20
            try clear c26
            try clear c27
            try clear c32
            try clear c33
            try clear c34
            try clear c36
            try clear c38
            try clear c39
            try clear c40
            try clear c41
            try clear c42
            try clear c43
            try clear c44
            try clear c47
            try clear c48
            try clear c49
            try clear c51
            try clear c52
            try clear c55
            try clear c58
            try clear c65
            try clear c66
            try clear c67
            try clear c70
            try clear c70b0
            try clear c72
            try clear c73
            try clear c74
            try clear c75
            try clear c77
            try clear c78
            try clear c81
            try clear c82
            try clear c83
            try clear c85
            try clear c86
            try clear c89
            try clear c92
            try clear c92b0
            try clear c93
            try clear c94
            try clear c95
            try clear c100
            try clear c100b0
            try clear c100b1
            try clear c104
            try clear c105
            try clear c106
            try clear c111
            try clear c112
            try clear c118
            try clear c119
            try clear c120
            try clear c121
            try clear c125
            try clear c126
            try clear c127
            try clear c128
            try clear c129
            try clear c131
            try clear c132
            try clear c133
            try clear c136
            try clear c137
            try clear c138
            try clear c139
            try clear c141
            try clear c142
            try clear c143
            try clear hcz107_0
            try clear hcz107_1
            try clear hcz107_2
            try clear hcz109_0
            try clear hcz109_1
            try clear hcz109_2
            try clear hcz113_0
            try clear hcz113_1
            try clear hcz113_2
            try clear hcz122_0
            try clear hcz122_1
            try clear hcz122_2
            try clear hcz130_0
            try clear hcz130_1
            try clear hcz130_2
            try clear hcz134_0
            try clear hcz134_1
            try clear hcz134_2
            try clear hcz13_0
            try clear hcz13_1
            try clear hcz13_2
            try clear hcz140_0
            try clear hcz140_1
            try clear hcz140_2
            try clear hcz144_0
            try clear hcz144_1
            try clear hcz144_2
            try clear hcz15_0
            try clear hcz15_1
            try clear hcz15_2
            try clear hcz21_0
            try clear hcz21_1
            try clear hcz21_2
            try clear hcz23_0
            try clear hcz23_1
            try clear hcz23_2
            try clear hcz28_0
            try clear hcz28_1
            try clear hcz28_2
            try clear hcz35_0
            try clear hcz35_1
            try clear hcz35_2
            try clear hcz42_0
            try clear hcz42_1
            try clear hcz42_2
            try clear hcz45_0
            try clear hcz45_1
            try clear hcz45_2
            try clear hcz50_0
            try clear hcz50_1
            try clear hcz50_2
            try clear hcz53_0
            try clear hcz53_1
            try clear hcz53_2
            try clear hcz5_0
            try clear hcz5_1
            try clear hcz5_2
            try clear hcz68_0
            try clear hcz68_1
            try clear hcz68_2
            try clear hcz76_0
            try clear hcz76_1
            try clear hcz76_2
            try clear hcz79_0
            try clear hcz79_1
            try clear hcz79_2
            try clear hcz84_0
            try clear hcz84_1
            try clear hcz84_2
            try clear hcz87_0
            try clear hcz87_1
            try clear hcz87_2
            try clear hcz96_0
            try clear hcz96_1
            try clear hcz96_2
            try clear hcz98_0
            try clear hcz98_1
            try clear hcz98_2
            try clear hfz107_0
            try clear hfz107_1
            try clear hfz107_2
            try clear hfz109_0
            try clear hfz109_1
            try clear hfz109_2
            try clear hfz113_0
            try clear hfz113_1
            try clear hfz113_2
            try clear hfz122_0
            try clear hfz122_1
            try clear hfz122_2
            try clear hfz130_0
            try clear hfz130_1
            try clear hfz130_2
            try clear hfz134_0
            try clear hfz134_1
            try clear hfz134_2
            try clear hfz13_0
            try clear hfz13_1
            try clear hfz13_2
            try clear hfz140_0
            try clear hfz140_1
            try clear hfz140_2
            try clear hfz144_0
            try clear hfz144_1
            try clear hfz144_2
            try clear hfz15_0
            try clear hfz15_1
            try clear hfz15_2
            try clear hfz21_0
            try clear hfz21_1
            try clear hfz21_2
            try clear hfz23_0
            try clear hfz23_1
            try clear hfz23_2
            try clear hfz28_0
            try clear hfz28_1
            try clear hfz28_2
            try clear hfz35_0
            try clear hfz35_1
            try clear hfz35_2
            try clear hfz42_0
            try clear hfz42_1
            try clear hfz42_2
            try clear hfz45_0
            try clear hfz45_1
            try clear hfz45_2
            try clear hfz50_0
            try clear hfz50_1
            try clear hfz50_2
            try clear hfz53_0
            try clear hfz53_1
            try clear hfz53_2
            try clear hfz5_0
            try clear hfz5_1
            try clear hfz5_2
            try clear hfz68_0
            try clear hfz68_1
            try clear hfz68_2
            try clear hfz76_0
            try clear hfz76_1
            try clear hfz76_2
            try clear hfz79_0
            try clear hfz79_1
            try clear hfz79_2
            try clear hfz84_0
            try clear hfz84_1
            try clear hfz84_2
            try clear hfz87_0
            try clear hfz87_1
            try clear hfz87_2
            try clear hfz96_0
            try clear hfz96_1
            try clear hfz96_2
            try clear hfz98_0
            try clear hfz98_1
            try clear hfz98_2
            try clear p2
            obtain ⟨kq, x87_102, rfl, HA, HJ102, HO_303002, HO_309002, HO_316002, HO_341002, BK289, BK302, BK308, BK315, BK340, HB⟩ := hcut
            have hl316002_102 := (Kd.R_reads' HO_316002.out).1
            rw [hl316002_102] at HO_316002
            (try simp only [hl316002_102])
            (try simp only [hl316002_102] at BK289)
            (try simp only [hl316002_102] at BK302)
            (try simp only [hl316002_102] at BK308)
            (try simp only [hl316002_102] at BK315)
            (try simp only [hl316002_102] at BK340)
            (try simp only [hl316002_102] at HO_303002)
            (try simp only [hl316002_102] at HO_309002)
            (try simp only [hl316002_102] at HO_341002)
            cases kq with
            | zero => exact absurd HA.out (by simp [laws_FnExactTurnCut.j2])
            | succ kj102 =>
             have H := HA.out
             clear HA
             simp only [laws_FnExactTurnCut.j2] at H
             by_cases c146 : x87_102 = true
             ·subst c146
              have H1 : (some false) = some r := by rw [if_pos rfl] at H; exact H
              clear H
              have H := H1
              clear H1
              obtain rfl := Option.some.inj H
              go_wp2
              go_ret
              exact ⟨by first | rfl | (simp [errW_none, errW_some] <;> rfl) | (simp [*, errW_none, errW_some] <;> rfl), by repeat (first | (with_reducible first | exact HB.out | apply below_alloc | apply pw_below_drewN | apply below_drew1 | refine below_set ?_ GE289.out | refine below_set ?_ GE302.out | refine below_set ?_ GE308.out | refine below_set ?_ GE315.out | refine below_set ?_ GE340.out) | exact HB.out)⟩
             ·replace c146 := Bool.eq_false_iff.mpr c146
              subst c146
              have H1 : ((laws_heldCut.f kj102 t309 t310 t327 1).bind fun t342 => (if t342 < 0 then (some false) else (if t342 = t326 then (some true) else (some false)))) = some r := by rw [if_neg (show ¬ (false = true) by decide)] at H; exact H
              clear H
              have H := H1
              clear H1
              replace H := Option.bind_eq_some_iff.mp H
              obtain ⟨t342, A1470, H⟩ := H
              replace H : (if t342 < 0 then (some false) else (if t342 = t326 then (some true) else (some false))) = some r := H
              have A147 := Aside0.mk A1470
              clear A1470
              by_cases c148 : t342 < 0
              ·rw [if_pos c148] at H
               have c148b0 : decide (t342 < 0) = true := decide_eq_true c148
               clear c148
               obtain rfl := Option.some.inj H
               have hnb149 := NB315_289.out
               have hnc149 := NB289_315.out
               have hnb150 := NB315_302.out
               have hnc150 := NB302_315.out
               have hnb151 := NB315_308.out
               have hnc151 := NB308_315.out
               have hnb152 := NB315_340.out
               have hnc152 := NB340_315.out
               have hcz153_0 : wc.cell? ⟨gb315, 0, none⟩ = some (.int .i64 t309) := (blk_cell BK315.out 0).trans rfl
               have hcz153_1 : wc.cell? ⟨gb315, 1, none⟩ = some (.int .i64 t310) := (blk_cell BK315.out 1).trans rfl
               have hcz153_2 : wc.cell? ⟨gb315, 2, none⟩ = some (.slice Ao36 t327.length co36) := (blk_cell BK315.out 2).trans rfl
               have hfz153_0 := blk_frozen BK315.out 0
               have hfz153_1 := blk_frozen BK315.out 1
               have hfz153_2 := blk_frozen BK315.out 2
               go_wp2_with (first | ((with_reducible refine gate_callee (f := 40) rfl ?_); refine goesL_ (some 90) rfl rfl Try.func40 (by kernel_rfl) rfl #[.agg #[.int .i64 t309, .int .i64 t310, .slice Ao36 t327.length co36], .int .i64 1] rfl itp ?_; (with_reducible refine (laws_heldCut.calls kj102 t309 t310 _ _ t327 1 t342 _ ?side1 ?side2 A147.out).mono ?_); (case side1 => repeat (first | exact (Kd.R_reads' HO_316002.out).2.2 | (with_reducible refine Kd.C_alloc ?_ _) | (with_reducible refine Kd.C_drewN ?_ _) | (with_reducible refine Kd.C_drew ?_))); (case side2 => exact (Kd.R_reads' HO_316002.out).2.1); rintro e w154 ⟨rfl, hb⟩; refine ⟨_, rfl, ?_⟩; have n0_ := Aside0.mk (Kd.R_below (upR HO_303002) hb); have n1_ := Aside0.mk (Kd.R_below (upR HO_309002) hb); have n2_ := Aside0.mk (Kd.R_below (upR HO_316002) hb); have n3_ := Aside0.mk (Kd.R_below (upR HO_341002) hb); have n4_ := Aside0.mk (blk_below (upK BK289) hb); have n5_ := Aside0.mk (blk_below (upK BK302) hb); have n6_ := Aside0.mk (blk_below (upK BK308) hb); have n7_ := Aside0.mk (blk_below (upK BK315) hb); have n8_ := Aside0.mk (blk_below (upK BK340) hb); have n9_ := Aside0.mk (below_step (upW HB) hb); clear HO_303002; clear HO_309002; clear HO_316002; clear HO_341002; clear BK289; clear BK302; clear BK308; clear BK315; clear BK340; clear HB; have HO_303002 := n0_; have HO_309002 := n1_; have HO_316002 := n2_; have HO_341002 := n3_; have BK289 := n4_; have BK302 := n5_; have BK308 := n6_; have BK315 := n7_; have BK340 := n8_; have HB := n9_; clear n0_ n1_ n2_ n3_ n4_ n5_ n6_ n7_ n8_ n9_; (try clear hb); (try clear hb2); (try clear hk); (try clear hi)))
               go_ret
               exact ⟨by first | rfl | (simp [errW_none, errW_some] <;> rfl) | (simp [*, errW_none, errW_some] <;> rfl), by repeat (first | (with_reducible first | exact HB.out | apply below_alloc | apply pw_below_drewN | apply below_drew1 | refine below_set ?_ GE289.out | refine below_set ?_ GE302.out | refine below_set ?_ GE308.out | refine below_set ?_ GE315.out | refine below_set ?_ GE340.out) | exact HB.out)⟩
              ·rw [if_neg c148] at H
               have c148b0 : decide (t342 < 0) = false := decide_eq_false c148
               clear c148
               by_cases c155 : t342 = t326
               ·rw [if_pos c155] at H
                have c155b0 : (t342 == t326) = true := beq_iff_eq.mpr c155
                have c155b1 : (t342 != t326) = false := bne_eq_false_iff_eq.mpr c155
                clear c155
                obtain rfl := Option.some.inj H
                have hnb156 := NB315_289.out
                have hnc156 := NB289_315.out
                have hnb157 := NB315_302.out
                have hnc157 := NB302_315.out
                have hnb158 := NB315_308.out
                have hnc158 := NB308_315.out
                have hnb159 := NB315_340.out
                have hnc159 := NB340_315.out
                have hcz160_0 : wc.cell? ⟨gb315, 0, none⟩ = some (.int .i64 t309) := (blk_cell BK315.out 0).trans rfl
                have hcz160_1 : wc.cell? ⟨gb315, 1, none⟩ = some (.int .i64 t310) := (blk_cell BK315.out 1).trans rfl
                have hcz160_2 : wc.cell? ⟨gb315, 2, none⟩ = some (.slice Ao36 t327.length co36) := (blk_cell BK315.out 2).trans rfl
                have hfz160_0 := blk_frozen BK315.out 0
                have hfz160_1 := blk_frozen BK315.out 1
                have hfz160_2 := blk_frozen BK315.out 2
                go_wp2_with (first | ((with_reducible refine gate_callee (f := 40) rfl ?_); refine goesL_ (some 90) rfl rfl Try.func40 (by kernel_rfl) rfl #[.agg #[.int .i64 t309, .int .i64 t310, .slice Ao36 t327.length co36], .int .i64 1] rfl itp ?_; (with_reducible refine (laws_heldCut.calls kj102 t309 t310 _ _ t327 1 t342 _ ?side1 ?side2 A147.out).mono ?_); (case side1 => repeat (first | exact (Kd.R_reads' HO_316002.out).2.2 | (with_reducible refine Kd.C_alloc ?_ _) | (with_reducible refine Kd.C_drewN ?_ _) | (with_reducible refine Kd.C_drew ?_))); (case side2 => exact (Kd.R_reads' HO_316002.out).2.1); rintro e w161 ⟨rfl, hb⟩; refine ⟨_, rfl, ?_⟩; have n0_ := Aside0.mk (Kd.R_below (upR HO_303002) hb); have n1_ := Aside0.mk (Kd.R_below (upR HO_309002) hb); have n2_ := Aside0.mk (Kd.R_below (upR HO_316002) hb); have n3_ := Aside0.mk (Kd.R_below (upR HO_341002) hb); have n4_ := Aside0.mk (blk_below (upK BK289) hb); have n5_ := Aside0.mk (blk_below (upK BK302) hb); have n6_ := Aside0.mk (blk_below (upK BK308) hb); have n7_ := Aside0.mk (blk_below (upK BK315) hb); have n8_ := Aside0.mk (blk_below (upK BK340) hb); have n9_ := Aside0.mk (below_step (upW HB) hb); clear HO_303002; clear HO_309002; clear HO_316002; clear HO_341002; clear BK289; clear BK302; clear BK308; clear BK315; clear BK340; clear HB; have HO_303002 := n0_; have HO_309002 := n1_; have HO_316002 := n2_; have HO_341002 := n3_; have BK289 := n4_; have BK302 := n5_; have BK308 := n6_; have BK315 := n7_; have BK340 := n8_; have HB := n9_; clear n0_ n1_ n2_ n3_ n4_ n5_ n6_ n7_ n8_ n9_; (try clear hb); (try clear hb2); (try clear hk); (try clear hi)))
                go_ret
                exact ⟨by first | rfl | (simp [errW_none, errW_some] <;> rfl) | (simp [*, errW_none, errW_some] <;> rfl), by repeat (first | (with_reducible first | exact HB.out | apply below_alloc | apply pw_below_drewN | apply below_drew1 | refine below_set ?_ GE289.out | refine below_set ?_ GE302.out | refine below_set ?_ GE308.out | refine below_set ?_ GE315.out | refine below_set ?_ GE340.out) | exact HB.out)⟩
               ·rw [if_neg c155] at H
                have c155b0 : (t342 == t326) = false := beq_eq_false_iff_ne.mpr c155
                have c155b1 : (t342 != t326) = true := bne_iff_ne.mpr c155
                obtain rfl := Option.some.inj H
                have hnb162 := NB315_289.out
                have hnc162 := NB289_315.out
                have hnb163 := NB315_302.out
                have hnc163 := NB302_315.out
                have hnb164 := NB315_308.out
                have hnc164 := NB308_315.out
                have hnb165 := NB315_340.out
                have hnc165 := NB340_315.out
                have hcz166_0 : wc.cell? ⟨gb315, 0, none⟩ = some (.int .i64 t309) := (blk_cell BK315.out 0).trans rfl
                have hcz166_1 : wc.cell? ⟨gb315, 1, none⟩ = some (.int .i64 t310) := (blk_cell BK315.out 1).trans rfl
                have hcz166_2 : wc.cell? ⟨gb315, 2, none⟩ = some (.slice Ao36 t327.length co36) := (blk_cell BK315.out 2).trans rfl
                have hfz166_0 := blk_frozen BK315.out 0
                have hfz166_1 := blk_frozen BK315.out 1
                have hfz166_2 := blk_frozen BK315.out 2
                go_wp2_with (first | ((with_reducible refine gate_callee (f := 40) rfl ?_); refine goesL_ (some 90) rfl rfl Try.func40 (by kernel_rfl) rfl #[.agg #[.int .i64 t309, .int .i64 t310, .slice Ao36 t327.length co36], .int .i64 1] rfl itp ?_; (with_reducible refine (laws_heldCut.calls kj102 t309 t310 _ _ t327 1 t342 _ ?side1 ?side2 A147.out).mono ?_); (case side1 => repeat (first | exact (Kd.R_reads' HO_316002.out).2.2 | (with_reducible refine Kd.C_alloc ?_ _) | (with_reducible refine Kd.C_drewN ?_ _) | (with_reducible refine Kd.C_drew ?_))); (case side2 => exact (Kd.R_reads' HO_316002.out).2.1); rintro e w167 ⟨rfl, hb⟩; refine ⟨_, rfl, ?_⟩; have n0_ := Aside0.mk (Kd.R_below (upR HO_303002) hb); have n1_ := Aside0.mk (Kd.R_below (upR HO_309002) hb); have n2_ := Aside0.mk (Kd.R_below (upR HO_316002) hb); have n3_ := Aside0.mk (Kd.R_below (upR HO_341002) hb); have n4_ := Aside0.mk (blk_below (upK BK289) hb); have n5_ := Aside0.mk (blk_below (upK BK302) hb); have n6_ := Aside0.mk (blk_below (upK BK308) hb); have n7_ := Aside0.mk (blk_below (upK BK315) hb); have n8_ := Aside0.mk (blk_below (upK BK340) hb); have n9_ := Aside0.mk (below_step (upW HB) hb); clear HO_303002; clear HO_309002; clear HO_316002; clear HO_341002; clear BK289; clear BK302; clear BK308; clear BK315; clear BK340; clear HB; have HO_303002 := n0_; have HO_309002 := n1_; have HO_316002 := n2_; have HO_341002 := n3_; have BK289 := n4_; have BK302 := n5_; have BK308 := n6_; have BK315 := n7_; have BK340 := n8_; have HB := n9_; clear n0_ n1_ n2_ n3_ n4_ n5_ n6_ n7_ n8_ n9_; (try clear hb); (try clear hb2); (try clear hk); (try clear hi)))
                go_ret
                exact ⟨by first | rfl | (simp [errW_none, errW_some] <;> rfl) | (simp [*, errW_none, errW_some] <;> rfl), by repeat (first | (with_reducible first | exact HB.out | apply below_alloc | apply pw_below_drewN | apply below_drew1 | refine below_set ?_ GE289.out | refine below_set ?_ GE302.out | refine below_set ?_ GE308.out | refine below_set ?_ GE315.out | refine below_set ?_ GE340.out) | exact HB.out)⟩
          ·rw [if_neg c100] at H
           have c100b0 : (t328 == t326) = false := beq_eq_false_iff_ne.mpr c100
           have c100b1 : (t328 != t326) = true := bne_iff_ne.mpr c100
           obtain rfl := Option.some.inj H
           have hnb168 := NB315_289.out
           have hnc168 := NB289_315.out
           have hnb169 := NB315_302.out
           have hnc169 := NB302_315.out
           have hnb170 := NB315_308.out
           have hnc170 := NB308_315.out
           have hcz171_0 : wc.cell? ⟨gb315, 0, none⟩ = some (.int .i64 t309) := (blk_cell BK315.out 0).trans rfl
           have hcz171_1 : wc.cell? ⟨gb315, 1, none⟩ = some (.int .i64 t310) := (blk_cell BK315.out 1).trans rfl
           have hcz171_2 : wc.cell? ⟨gb315, 2, none⟩ = some (.slice Ao36 t311.length co36) := (blk_cell BK315.out 2).trans rfl
           have hfz171_0 := blk_frozen BK315.out 0
           have hfz171_1 := blk_frozen BK315.out 1
           have hfz171_2 := blk_frozen BK315.out 2
           go_wp2_with (first | ((with_reducible refine gate_callee (f := 39) rfl ?_); refine goesL_ (some 64) rfl rfl Try.func39 (by kernel_rfl) rfl #[.agg #[.int .i64 t309, .int .i64 t310, .slice Ao36 t311.length co36], .int .i64 1] rfl itp ?_; (with_reducible refine (laws_markCut.calls kj59 t309 t310 (fun k_ => some k_ = (.slice Ao36 t311.length co36 : Value).ownBlock) (.slice Ao36 t311.length co36) t311 1 t326 t327 w _ ?side1 ?side2 A90.out).mono ?_); (case side1 => repeat (first | (with_reducible first | exact HB.out | apply below_alloc | apply pw_below_drewN | apply below_drew1 | refine below_set ?_ GE289.out | refine below_set ?_ GE302.out | refine below_set ?_ GE308.out | refine below_set ?_ GE315.out) | exact HB.out)); (case side2 => exact Kd.R_tight rfl HO_316002.out); rintro e w172 ⟨rfl, hy0, hb, hkp⟩; refine ⟨_, rfl, ?_⟩; have n0_ := Aside0.mk (Kd.R_mono (ok' := fun k_ => some k_ ≠ (.slice Ao29 t324.length co29 : Value).ownBlock ∧ some k_ ≠ (.slice Ao36 t311.length co36 : Value).ownBlock) (Kd.R_keptB (HO_303002.out) hkp (fun k_ hk_ hs_ => (hk_.2) hs_)) (fun k_ hk_ => ⟨hk_.1.1, hk_.1.2⟩)); have n1_ := Aside0.mk (Kd.R_mono (ok' := fun k_ => some k_ ≠ (.slice Ao22 t298.length co22 : Value).ownBlock ∧ some k_ ≠ (.slice Ao36 t311.length co36 : Value).ownBlock) (Kd.R_keptB (HO_309002.out) hkp (fun k_ hk_ hs_ => (hk_.2) hs_)) (fun k_ hk_ => ⟨hk_.1.1, hk_.1.2⟩)); have n2_ := Aside0.mk (Kd.R_reok rfl hy0 (fun k_ e_ => HO_316002.out.1 k_ e_)); have n3_ := Aside0.mk (blk_kept (upK BK289) hkp (fun hs_ => (fun e_ => (Kd.R_ne HO_316002.out BK289.out (by decide)) e_) hs_)); have n4_ := Aside0.mk (blk_kept (upK BK302) hkp (fun hs_ => (fun e_ => (Kd.R_ne HO_316002.out BK302.out (by decide)) e_) hs_)); have n5_ := Aside0.mk (blk_kept (upK BK308) hkp (fun hs_ => (fun e_ => (Kd.R_ne HO_316002.out BK308.out (by decide)) e_) hs_)); have n6_ := Aside0.mk (blk_kept (upK BK315) hkp (fun hs_ => (fun e_ => (Kd.R_ne HO_316002.out BK315.out (by decide)) e_) hs_)); have n7_ := Aside0.mk (hb); clear HO_303002; clear HO_309002; clear HO_316002; clear BK289; clear BK302; clear BK308; clear BK315; clear HB; have HO_303002 := n0_; have HO_309002 := n1_; have HO_316002 := n2_; have BK289 := n3_; have BK302 := n4_; have BK308 := n5_; have BK315 := n6_; have HB := n7_; clear n0_ n1_ n2_ n3_ n4_ n5_ n6_ n7_; (try clear hb); (try clear hkp); (try clear hy0); have hcz173_0 : w172.cell? ⟨gb315, 0, none⟩ = some (.int .i64 t309) := (blk_cell BK315.out 0).trans rfl; have hcz173_1 : w172.cell? ⟨gb315, 1, none⟩ = some (.int .i64 t310) := (blk_cell BK315.out 1).trans rfl; have hcz173_2 : w172.cell? ⟨gb315, 2, none⟩ = some (.slice Ao36 t311.length co36) := (blk_cell BK315.out 2).trans rfl; have hfz173_0 := blk_frozen BK315.out 0; have hfz173_1 := blk_frozen BK315.out 1; have hfz173_2 := blk_frozen BK315.out 2) | ((with_reducible refine gate_callee (f := 40) rfl ?_); refine goesL_ (some 67) rfl rfl Try.func40 (by kernel_rfl) rfl #[.agg #[.int .i64 t309, .int .i64 t310, .slice Ao36 t327.length co36], .int .i64 1] rfl (by (try simp only [List.map_toArray, List.map_cons, List.map_nil]); first | done | (rw [show t327.length = t311.length from (Kd.R_reads' HO_316002.out).1.symm] <;> rfl) | rfl | (simp only [List.length_drop, List.length_take]; rfl)) ?_; (with_reducible refine (laws_heldCut.calls kj59 t309 t310 _ _ t327 1 t328 _ ?side1 ?side2 A91.out).mono ?_); (case side1 => repeat (first | exact (Kd.R_reads' HO_316002.out).2.2 | (with_reducible refine Kd.C_alloc ?_ _) | (with_reducible refine Kd.C_drewN ?_ _) | (with_reducible refine Kd.C_drew ?_))); (case side2 => rw [show t327.length = t311.length from (Kd.R_reads' HO_316002.out).1.symm]; exact (Kd.R_reads' HO_316002.out).2.1); rintro e w174 ⟨rfl, hb⟩; refine ⟨_, rfl, ?_⟩; have n0_ := Aside0.mk (Kd.R_below (upR HO_303002) hb); have n1_ := Aside0.mk (Kd.R_below (upR HO_309002) hb); have n2_ := Aside0.mk (Kd.R_below (upR HO_316002) hb); have n3_ := Aside0.mk (blk_below (upK BK289) hb); have n4_ := Aside0.mk (blk_below (upK BK302) hb); have n5_ := Aside0.mk (blk_below (upK BK308) hb); have n6_ := Aside0.mk (blk_below (upK BK315) hb); have n7_ := Aside0.mk (below_step (upW HB) hb); clear HO_303002; clear HO_309002; clear HO_316002; clear BK289; clear BK302; clear BK308; clear BK315; clear HB; have HO_303002 := n0_; have HO_309002 := n1_; have HO_316002 := n2_; have BK289 := n3_; have BK302 := n4_; have BK308 := n5_; have BK315 := n6_; have HB := n7_; clear n0_ n1_ n2_ n3_ n4_ n5_ n6_ n7_; (try clear hb); (try clear hb2); (try clear hk); (try clear hi)))
           go_ret
           exact ⟨by first | rfl | (simp [errW_none, errW_some] <;> rfl) | (simp [*, errW_none, errW_some] <;> rfl), by repeat (first | (with_reducible first | exact HB.out | apply below_alloc | apply pw_below_drewN | apply below_drew1 | refine below_set ?_ GE289.out | refine below_set ?_ GE302.out | refine below_set ?_ GE308.out | refine below_set ?_ GE315.out) | exact HB.out)⟩
     ·replace c58 := Bool.eq_false_iff.mpr c58
      subst c58
      have H1 : (some false) = some r := by rw [if_neg (show ¬ (false = true) by decide)] at H; exact H
      clear H
      have H := H1
      clear H1
      obtain rfl := Option.some.inj H
      try go_wp2
      have n0_ := Aside0.mk (Kd.R_drew HO_303002.out)
      have n1_ := Aside0.mk (Kd.R_drew HO_309002.out)
      have n2_ := Aside0.mk (Kd.R_drew HO_316002.out)
      have n3_ := Aside0.mk (blk_drew BK289.out)
      have n4_ := Aside0.mk (blk_drew BK302.out)
      have n5_ := Aside0.mk (blk_drew BK308.out)
      have n6_ := Aside0.mk (blk_drew BK315.out)
      have n7_ := Aside0.mk (below_drew1 HB.out)
      clear HO_303002
      clear HO_309002
      clear HO_316002
      clear BK289
      clear BK302
      clear BK308
      clear BK315
      clear HB
      have HO_303002 := n0_
      have HO_309002 := n1_
      have HO_316002 := n2_
      have BK289 := n3_
      have BK302 := n4_
      have BK308 := n5_
      have BK315 := n6_
      have HB := n7_
      clear n0_ n1_ n2_ n3_ n4_ n5_ n6_ n7_
      refine start_ (n := 5) (S := fun w' => w'.cell? ⟨gb308, 0, none⟩ = some (.int .i64 t303) ∧ w'.cell? ⟨gb308, 1, none⟩ = some (.int .i64 t304) ∧ w'.cell? ⟨gb308, 2, none⟩ = some (.slice Ao29 t305.length co29) ∧ w'.cell? ⟨gb289, 0, none⟩ = some (.int .i64 a0_0) ∧ w'.cell? ⟨gb289, 1, none⟩ = some (.int .i64 a0_1) ∧ w'.cell? ⟨gb289, 2, none⟩ = some (.slice A0_2 l0_2.length c0_2)) (ds := []) #[false, false, false, false, false] (by kernel_rfl) rfl rfl ⟨(blk_cell BK308.out 0).trans rfl, (blk_cell BK308.out 1).trans rfl, (blk_cell BK308.out 2).trans rfl, (blk_cell BK289.out 0).trans rfl, (blk_cell BK289.out 1).trans rfl, (blk_cell BK289.out 2).trans rfl⟩ (fun hHeld => ?_)
      generalize wc.drew = w175 at HO_303002 HO_309002 HO_316002 BK289 BK302 BK308 BK315 HB hHeld ⊢
      refine take_ (i := 0) (N := some 41) (v := ?_) (a' := ?_) #[true, false, false, false, false] rfl rfl (by kernel_rfl) (fun _ _ _ h => h) (Or.inl ⟨by rfl, ?_⟩) hHeld ?_ ?_
      rotate_left
      ·rintro w' ⟨s0, s1, s2, s3, s4, s5⟩
       go_simp
       with_reducible rfl
      rotate_left
      ·simp only [Act.put, List.setIfInBounds_toArray, List.set_cons_zero, List.set_cons_succ, i64_w, i32_w]
       rfl
      refine take_ (i := 1) (N := some 42) (v := ?_) (a' := ?_) #[true, true, false, false, false] rfl rfl (by kernel_rfl) (fun _ _ _ h => h) (Or.inl ⟨by rfl, ?_⟩) hHeld ?_ ?_
      rotate_left
      ·rintro w' ⟨s0, s1, s2, s3, s4, s5⟩
       go_simp
       with_reducible rfl
      rotate_left
      ·simp only [Act.put, List.setIfInBounds_toArray, List.set_cons_zero, List.set_cons_succ, i64_w, i32_w]
       rfl
      refine one_ (i := 2) (N := some 43) #[true, true, true, false, false] rfl rfl (by kernel_rfl) (by decide) (fun K hK => ?_)
      refine goes_ Try.func36 (by kernel_rfl) rfl #[.agg #[.int .i64 a0_0, .int .i64 a0_1, .slice A0_2 l0_2.length c0_2]] (by rfl) rfl rfl itp ?_
      with_reducible refine (laws_toCut.calls kj10 a0_0 a0_1 _ _ l0_2 t317 t318 t319 _ ?side1 ?side2 A56.out).mono ?_
      (case side1 => repeat (first | exact (Kd.C_below HR0_2.out HB.out) | (with_reducible refine Kd.C_alloc ?_ _) | (with_reducible refine Kd.C_drewN ?_ _) | (with_reducible refine Kd.C_drew ?_)))
      (case side2 => exact HC0_2.out)
      rintro e w176 ⟨v320, rfl, ho0, hb⟩
      refine ⟨_, rfl, ?_⟩
      have n0_ := Aside0.mk (Kd.R_elder' (upR HO_303002) (Kd.R_base ho0) hb)
      have n1_ := Aside0.mk (Kd.R_elder' (upR HO_309002) (Kd.R_base ho0) hb)
      have n2_ := Aside0.mk (Kd.R_elder' (upR HO_316002) (Kd.R_base ho0) hb)
      have n3_ := Aside0.mk (Kd.R_lower (Kd.R_new' (Kd.R_new' (Kd.R_new' ho0 (Kd.R_lt (upR HO_303002))) (Kd.R_lt (upR HO_309002))) (Kd.R_lt (upR HO_316002))) (below_size (upW HB)))
      have n4_ := Aside0.mk (blk_below (upK BK289) hb)
      have n5_ := Aside0.mk (blk_below (upK BK302) hb)
      have n6_ := Aside0.mk (blk_below (upK BK308) hb)
      have n7_ := Aside0.mk (blk_below (upK BK315) hb)
      have n8_ := Aside0.mk (below_step (upW HB) hb)
      clear HO_303002
      clear HO_309002
      clear HO_316002
      clear BK289
      clear BK302
      clear BK308
      clear BK315
      clear HB
      have HO_303002 := n0_
      have HO_309002 := n1_
      have HO_316002 := n2_
      have HO321 := n3_
      have BK289 := n4_
      have BK302 := n5_
      have BK308 := n6_
      have BK315 := n7_
      have HB := n8_
      clear n0_ n1_ n2_ n3_ n4_ n5_ n6_ n7_ n8_
      (try clear hb)
      (try clear hb2)
      (try clear hk)
      (try clear hi)
      (try clear ho0)
      obtain ⟨Ao177, co177, eo177⟩ := Kd.R_slice HO321.out
      (first | subst eo177 | (injection eo177 with f1_ f2_ f3_; have f4_ := f1_.symm; have f5_ := f3_.symm; clear f1_ f2_ f3_; subst f4_; subst f5_))
      refine hK.out _ _ ⟨(blk_cell BK308.out 0).trans rfl, (blk_cell BK308.out 1).trans rfl, (blk_cell BK308.out 2).trans rfl, (blk_cell BK289.out 0).trans rfl, (blk_cell BK289.out 1).trans rfl, (blk_cell BK289.out 2).trans rfl⟩ (fun hHeld => ?_)
      clear hK K
      refine norm_ (a' := ?_) ?_ ?_
      rotate_left
      ·show Act.put _ (some 43) _ = _
       simp only [Act.put, List.setIfInBounds_toArray, List.set_cons_zero, List.set_cons_succ, i64_w, i32_w]
       rfl
      refine one_ (i := 3) (N := some 44) #[true, true, true, true, false] rfl rfl (by kernel_rfl) (by decide) (fun K hK => ?_)
      refine goes_ Try.func38 (by kernel_rfl) rfl #[.agg #[.int .i64 t303, .int .i64 t304, .slice Ao29 t305.length co29], .agg #[.int .i64 t317, .int .i64 t318, .slice Ao177 t319.length co177]] (by rfl) rfl rfl itp ?_
      with_reducible refine (laws_eqCut.calls kj10 t303 t304 _ _ t305 t317 t318 _ _ t319 false _ ?side1 ?side2 ?side3 ?side4 A57.out).mono ?_
      (case side1 => repeat (first | exact (Kd.R_reads' HO_309002.out).2.2 | (with_reducible refine Kd.C_alloc ?_ _) | (with_reducible refine Kd.C_drewN ?_ _) | (with_reducible refine Kd.C_drew ?_)))
      (case side2 => exact (Kd.R_reads' HO_309002.out).2.1)
      (case side3 => repeat (first | exact (Kd.R_reads' HO321.out).2.2 | (with_reducible refine Kd.C_alloc ?_ _) | (with_reducible refine Kd.C_drewN ?_ _) | (with_reducible refine Kd.C_drew ?_)))
      (case side4 => exact (Kd.R_reads' HO321.out).2.1)
      rintro e w178 ⟨rfl, hb⟩
      refine ⟨_, rfl, ?_⟩
      have n0_ := Aside0.mk (Kd.R_below (upR HO_303002) hb)
      have n1_ := Aside0.mk (Kd.R_below (upR HO_309002) hb)
      have n2_ := Aside0.mk (Kd.R_below (upR HO_316002) hb)
      have n3_ := Aside0.mk (Kd.R_below (upR HO321) hb)
      have n4_ := Aside0.mk (blk_below (upK BK289) hb)
      have n5_ := Aside0.mk (blk_below (upK BK302) hb)
      have n6_ := Aside0.mk (blk_below (upK BK308) hb)
      have n7_ := Aside0.mk (blk_below (upK BK315) hb)
      have n8_ := Aside0.mk (below_step (upW HB) hb)
      clear HO_303002
      clear HO_309002
      clear HO_316002
      clear HO321
      clear BK289
      clear BK302
      clear BK308
      clear BK315
      clear HB
      have HO_303002 := n0_
      have HO_309002 := n1_
      have HO_316002 := n2_
      have HO321 := n3_
      have BK289 := n4_
      have BK302 := n5_
      have BK308 := n6_
      have BK315 := n7_
      have HB := n8_
      clear n0_ n1_ n2_ n3_ n4_ n5_ n6_ n7_ n8_
      (try clear hb)
      (try clear hb2)
      (try clear hk)
      (try clear hi)
      refine hK.out _ _ ⟨(blk_cell BK308.out 0).trans rfl, (blk_cell BK308.out 1).trans rfl, (blk_cell BK308.out 2).trans rfl, (blk_cell BK289.out 0).trans rfl, (blk_cell BK289.out 1).trans rfl, (blk_cell BK289.out 2).trans rfl⟩ (fun hHeld => ?_)
      clear hK K
      refine norm_ (a' := ?_) ?_ ?_
      rotate_left
      ·show Act.put _ (some 44) _ = _
       simp only [Act.put, List.setIfInBounds_toArray, List.set_cons_zero, List.set_cons_succ, i64_w, i32_w]
       rfl
      refine pure_ (i := 4) (N := some 45) (v := ?_) (a' := ?_) #[true, true, true, true, true] rfl rfl (by kernel_rfl) (fun _ _ _ h => h) (Or.inl ⟨by rfl, ?_⟩) ?_ ?_
      rotate_left
      ·intro w'
       go_simp
       with_reducible rfl
      rotate_left
      ·simp only [Act.put, List.setIfInBounds_toArray, List.set_cons_zero, List.set_cons_succ, i64_w, i32_w]
       rfl
      refine done_ (by kernel_rfl) ?_
      try go_wp2
      go_ret
      exact ⟨by first | rfl | (simp [errW_none, errW_some] <;> rfl) | (simp [*, errW_none, errW_some] <;> rfl), by repeat (first | (with_reducible first | exact HB.out | apply below_alloc | apply pw_below_drewN | apply below_drew1 | refine below_set ?_ GE289.out | refine below_set ?_ GE302.out | refine below_set ?_ GE308.out | refine below_set ?_ GE315.out) | exact HB.out)⟩

/-- THE ONE PURE STATEMENT of laws_FnExactTurnCut. -/
def laws_FnExactTurnCut.Pure : Prop := ∀ (a0_0 : Int) (a0_1 : Int) (l0_2 : List (S102)), (Lit.int .i64 a0_0).wf = true → (Lit.int .i64 a0_1).wf = true → l0_2.length ≤ maxLen → (∀ q ∈ l0_2, ((Lit.int .i64 q.f0).wf = true) ∧ ((Lit.int .i64 q.f1).wf = true) ∧ ((Lit.int .i64 q.f2).wf = true)) → ∃ k, laws_FnExactTurnCut.f k a0_0 a0_1 l0_2 = some true
theorem laws_FnExactTurnCut.walk (P : laws_FnExactTurnCut.Pure) (a0_0 : Int) (a0_1 : Int) (A0_2 : Option Addr) (c0_2 : Nat) (l0_2 : List (S102)) (w : World) (hr0_2 : Kd.C k102 w A0_2 l0_2.length l0_2) (hc0_2 : l0_2.length ≤ c0_2) (w0_ : (Lit.int .i64 a0_0).wf = true) (w1_ : (Lit.int .i64 a0_1).wf = true) (w2_ : l0_2.length ≤ maxLen) (w3_ : (∀ q ∈ l0_2, ((Lit.int .i64 q.f0).wf = true) ∧ ((Lit.int .i64 q.f1).wf = true) ∧ ((Lit.int .i64 q.f2).wf = true))) :
  Calls Try.prog 10 #[.agg #[.int .i64 a0_0, .int .i64 a0_1, .slice A0_2 l0_2.length c0_2]] w fun e w' => e = .returned (.bool true) ∧ Below w.heap.size w w' := by
 obtain ⟨k, h⟩ := P a0_0 a0_1 l0_2 w0_ w1_ w2_ w3_
 refine (laws_FnExactTurnCut.calls k a0_0 a0_1 _ _ l0_2 true w hr0_2 hc0_2 h).mono ?_
 rintro e w' ⟨rfl, hd⟩
 exact ⟨rfl, hd⟩

end Go.Proofs.Ytngbmjldnfljiaa.PFnExactTurnCut
