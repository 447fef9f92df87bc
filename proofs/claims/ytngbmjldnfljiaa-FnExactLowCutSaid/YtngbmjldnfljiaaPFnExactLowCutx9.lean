-- made for this claim by a program of this session
import Derived.Test.YtngbmjldnfljiaaPFnExactLowCutx0
import Derived.Test.YtngbmjldnfljiaaPFnExactLowCutx1
import Derived.Test.YtngbmjldnfljiaaPFnExactLowCutx2
import Derived.Test.YtngbmjldnfljiaaPFnExactLowCutx4
import Derived.Test.YtngbmjldnfljiaaPFnExactLowCutx8
namespace Go.Proofs.Ytngbmjldnfljiaa.PFnExactLowCut
open Go.RowKit Go.Proofs.YtngbmjldnfljiaaW.PrintWords Go.Proofs.YtngbmjldnfljiaaW.PrintLast Go.Proofs.YtngbmjldnfljiaaW.PrintMore
attribute [local go_sem] max2_int min2_int max_two min_two max_three min_three max_four min_four   -- for this text's walks alone
set_option linter.unusedVariables false
set_option linter.unusedSimpArgs false

/-! ### laws_FnExactLowCut: function 11 -/
mutual
def laws_FnExactLowCut.j0 : Nat → Bool → Bool → Bool → Int → Int → List (S102) → Int → Int → List (S83) → Int → Int → List (S83) → Int → Int → List (S83) → Option (Bool)
 | 0, _, _, _, _, _, _, _, _, _, _, _, _, _, _, _ => none
 | k + 1, x5, x8, x40, x242000, x242001, x242002, x255000, x255001, x255002, x261000, x261001, x261002, x268000, x268001, x268002 => if x40 = true then (some false) else ((laws_toCut.f k x242000 x242001 x242002).bind fun bt269 => ((laws_eqCut.f k x261000 x261001 x261002 bt269.1 bt269.2.1 bt269.2.2).bind fun t274 => (if t274 = true then ((laws_markCut.f k x261000 x261001 x261002 1).bind fun bt275 => (if bt275.1 < 0 then (laws_FnExactLowCut.j1 k x5 true x242000 x242001 x242002 x255000 x255001 x255002 x268000 x268001 x268002) else ((laws_eqCut.f k x268000 x268001 x268002 x255000 x255001 x255002).bind fun t277 => (if t277 = true then (laws_FnExactLowCut.j1 k x5 (x8 != x5) x242000 x242001 x242002 x255000 x255001 x255002 x268000 x268001 x268002) else (laws_FnExactLowCut.j1 k x5 true x242000 x242001 x242002 x255000 x255001 x255002 x268000 x268001 x268002))))) else (some false))))
def laws_FnExactLowCut.j1 : Nat → Bool → Bool → Int → Int → List (S102) → Int → Int → List (S83) → Int → Int → List (S83) → Option (Bool)
 | 0, _, _, _, _, _, _, _, _, _, _, _ => none
 | k + 1, x5, x61, x242000, x242001, x242002, x255000, x255001, x255002, x268000, x268001, x268002 => if x61 = true then (some false) else ((laws_markCut.f k x268000 x268001 x268002 1).bind fun bt278 => ((laws_heldCut.f k x268000 x268001 bt278.2 1).bind fun t280 => (if t280 < 0 then (some false) else (if t280 = bt278.1 then ((laws_toCut.f k x242000 x242001 x242002).bind fun bt281 => ((impl_LowCut.f k bt281.1 bt281.2.1 bt281.2.2).bind fun bt286 => ((laws_eqCut.f k bt286.1 bt286.2.1 bt286.2.2.1 x255000 x255001 x255002).bind fun t293 => (if t293 = true then (laws_FnExactLowCut.j2 k bt278.1 (bt286.2.2.2 != x5) x268000 x268001 bt278.2) else (laws_FnExactLowCut.j2 k bt278.1 true x268000 x268001 bt278.2))))) else (some false)))))
def laws_FnExactLowCut.j2 : Nat → Int → Bool → Int → Int → List (S83) → Option (Bool)
 | 0, _, _, _, _, _ => none
 | k + 1, x10, x87, x268000, x268001, x268002 => if x87 = true then (some false) else ((laws_heldCut.f k x268000 x268001 x268002 1).bind fun t294 => (if t294 < 0 then (some false) else (if t294 = x10 then (some true) else (some false))))
end
def laws_FnExactLowCut.f (k : Nat) (a0_0 : Int) (a0_1 : Int) (l0_2 : List (S102)) : Option (Bool) := (laws_szCut.f a0_0 a0_1 l0_2 1048576).bind fun t242 => (if t242 < 0 then (some true) else ((laws_toCut.f k a0_0 a0_1 l0_2).bind fun bt243 => ((spec_LowCut.f k bt243.1 bt243.2.1 bt243.2.2).bind fun bt248 => ((laws_toCut.f k a0_0 a0_1 l0_2).bind fun bt255 => ((impl_LowCut.f k bt255.1 bt255.2.1 bt255.2.2).bind fun bt261 => ((laws_eqCut.f k bt261.1 bt261.2.1 bt261.2.2.1 bt248.1 bt248.2.1 bt248.2.2.1).bind fun t268 => (if t268 = true then (laws_FnExactLowCut.j0 k bt248.2.2.2 bt261.2.2.2 (bt261.2.2.2 != bt248.2.2.2) a0_0 a0_1 l0_2 bt248.1 bt248.2.1 bt248.2.2.1 bt255.1 bt255.2.1 bt255.2.2 bt261.1 bt261.2.1 bt261.2.2.1) else (laws_FnExactLowCut.j0 k bt248.2.2.2 bt261.2.2.2 true a0_0 a0_1 l0_2 bt248.1 bt248.2.1 bt248.2.2.1 bt255.1 bt255.2.1 bt255.2.2 bt261.1 bt261.2.1 bt261.2.2.1))))))))
set_option maxHeartbeats 8000000 in
set_option maxRecDepth 100000 in
theorem laws_FnExactLowCut.calls (k : Nat) (a0_0 : Int) (a0_1 : Int) (A0_2 : Option Addr) (c0_2 : Nat) (l0_2 : List (S102)) (r : Bool) (w : World) (hr0_2 : Kd.C k102 w A0_2 l0_2.length l0_2) (hc0_2 : l0_2.length ≤ c0_2) (h : laws_FnExactLowCut.f k a0_0 a0_1 l0_2 = some r) :
  Calls Try.prog 11 #[.agg #[.int .i64 a0_0, .int .i64 a0_1, .slice A0_2 l0_2.length c0_2]] w fun e w' => e = .returned (.bool r) ∧ Below w.heap.size w w' := by
 have hu44 := Try.underlying44
 have hu48 := Try.underlying48
 have HR0_2 := Aside0.mk hr0_2
 have HC0_2 := Aside0.mk hc0_2
 clear hr0_2 hc0_2
 have HB := Aside0.mk (Below.refl w.heap.size w)
 have H : ((laws_szCut.f a0_0 a0_1 l0_2 1048576).bind fun t242 => (if t242 < 0 then (some true) else ((laws_toCut.f k a0_0 a0_1 l0_2).bind fun bt243 => ((spec_LowCut.f k bt243.1 bt243.2.1 bt243.2.2).bind fun bt248 => ((laws_toCut.f k a0_0 a0_1 l0_2).bind fun bt255 => ((impl_LowCut.f k bt255.1 bt255.2.1 bt255.2.2).bind fun bt261 => ((laws_eqCut.f k bt261.1 bt261.2.1 bt261.2.2.1 bt248.1 bt248.2.1 bt248.2.2.1).bind fun t268 => (if t268 = true then (laws_FnExactLowCut.j0 k bt248.2.2.2 bt261.2.2.2 (bt261.2.2.2 != bt248.2.2.2) a0_0 a0_1 l0_2 bt248.1 bt248.2.1 bt248.2.2.1 bt255.1 bt255.2.1 bt255.2.2 bt261.1 bt261.2.1 bt261.2.2.1) else (laws_FnExactLowCut.j0 k bt248.2.2.2 bt261.2.2.2 true a0_0 a0_1 l0_2 bt248.1 bt248.2.1 bt248.2.2.1 bt255.1 bt255.2.1 bt255.2.2 bt261.1 bt261.2.1 bt261.2.2.1))))))))) = some r := h
 clear h
 replace H := Option.bind_eq_some_iff.mp H
 obtain ⟨t242, A20, H⟩ := H
 replace H : (if t242 < 0 then (some true) else ((laws_toCut.f k a0_0 a0_1 l0_2).bind fun bt243 => ((spec_LowCut.f k bt243.1 bt243.2.1 bt243.2.2).bind fun bt248 => ((laws_toCut.f k a0_0 a0_1 l0_2).bind fun bt255 => ((impl_LowCut.f k bt255.1 bt255.2.1 bt255.2.2).bind fun bt261 => ((laws_eqCut.f k bt261.1 bt261.2.1 bt261.2.2.1 bt248.1 bt248.2.1 bt248.2.2.1).bind fun t268 => (if t268 = true then (laws_FnExactLowCut.j0 k bt248.2.2.2 bt261.2.2.2 (bt261.2.2.2 != bt248.2.2.2) a0_0 a0_1 l0_2 bt248.1 bt248.2.1 bt248.2.2.1 bt255.1 bt255.2.1 bt255.2.2 bt261.1 bt261.2.1 bt261.2.2.1) else (laws_FnExactLowCut.j0 k bt248.2.2.2 bt261.2.2.2 true a0_0 a0_1 l0_2 bt248.1 bt248.2.1 bt248.2.2.1 bt255.1 bt255.2.1 bt255.2.2 bt261.1 bt261.2.1 bt261.2.2.1)))))))) = some r := H
 have A2 := Aside0.mk A20
 clear A20
 by_cases c3 : t242 < 0
 ·rw [if_pos c3] at H
  have c3b0 : decide (t242 < 0) = true := decide_eq_true c3
  clear c3
  obtain rfl := Option.some.inj H
  go_enter Try.func11, Try.ntmps11
  go_wp2_with (first | ((with_reducible refine gate_dst (N := 1) rfl ?_); refine box_event ?hg (N := 1) ?hd (cs := #[.int .i64 a0_0, .int .i64 a0_1, .slice A0_2 l0_2.length c0_2]) (t := 44) ?hr ?_; (case hd => rfl); (case hg => rfl); (case hr => first | (go_simp; done) | (go_simp; rfl)); intro gb241 hg w4 hbox hb; have n0_ := Aside0.mk (below_step (upW HB) hb); have n1_ := Aside0.mk (hbox); have n2_ := Aside0.mk ((by rw [hg]; exact (below_size (upW HB)) : w.heap.size ≤ gb241)); have n3_ := Aside0.mk ((by rw [hg]; exact (below_size (upW HB)) : w.heap.size ≤ gb241)); clear HB; have HB := n0_; have BK241 := n1_; have GW241 := n2_; have GE241 := n3_; clear n0_ n1_ n2_ n3_; clear hb hbox hg; have hcz5_0 : w4.cell? ⟨gb241, 0, none⟩ = some (.int .i64 a0_0) := (blk_cell BK241.out 0).trans rfl; have hcz5_1 : w4.cell? ⟨gb241, 1, none⟩ = some (.int .i64 a0_1) := (blk_cell BK241.out 1).trans rfl; have hcz5_2 : w4.cell? ⟨gb241, 2, none⟩ = some (.slice A0_2 l0_2.length c0_2) := (blk_cell BK241.out 2).trans rfl; have hfz5_0 := blk_frozen BK241.out 0; have hfz5_1 := blk_frozen BK241.out 1; have hfz5_2 := blk_frozen BK241.out 2) | ((with_reducible refine gate_callee (f := 34) rfl ?_); refine goesL_ (some 16) rfl rfl Try.func34 (by kernel_rfl) rfl #[.agg #[.int .i64 a0_0, .int .i64 a0_1, .slice A0_2 l0_2.length c0_2], .int .i64 1048576] rfl itp ?_; (with_reducible refine (laws_szCut.calls a0_0 a0_1 _ _ l0_2 1048576 t242 _ ?side1 ?side2 A2.out).mono ?_); (case side1 => repeat (first | exact (Kd.C_below HR0_2.out HB.out) | (with_reducible refine Kd.C_alloc ?_ _) | (with_reducible refine Kd.C_drewN ?_ _) | (with_reducible refine Kd.C_drew ?_))); (case side2 => exact HC0_2.out); rintro e w6 ⟨rfl, hb⟩; refine ⟨_, rfl, ?_⟩; have n0_ := Aside0.mk (blk_below (upK BK241) hb); have n1_ := Aside0.mk (below_step (upW HB) hb); clear BK241; clear HB; have BK241 := n0_; have HB := n1_; clear n0_ n1_; (try clear hb); (try clear hb2); (try clear hk); (try clear hi)))
  go_ret
  exact ⟨by first | rfl | (simp [errW_none, errW_some] <;> rfl) | (simp [*, errW_none, errW_some] <;> rfl), by repeat (first | (with_reducible first | exact HB.out | apply below_alloc | apply pw_below_drewN | apply below_drew1 | refine below_set ?_ GE241.out) | exact HB.out)⟩
 ·rw [if_neg c3] at H
  have c3b0 : decide (t242 < 0) = false := decide_eq_false c3
  clear c3
  replace H := Option.bind_eq_some_iff.mp H
  obtain ⟨⟨t243, t244, t245⟩, A70, H⟩ := H
  replace H : ((spec_LowCut.f k t243 t244 t245).bind fun bt248 => ((laws_toCut.f k a0_0 a0_1 l0_2).bind fun bt255 => ((impl_LowCut.f k bt255.1 bt255.2.1 bt255.2.2).bind fun bt261 => ((laws_eqCut.f k bt261.1 bt261.2.1 bt261.2.2.1 bt248.1 bt248.2.1 bt248.2.2.1).bind fun t268 => (if t268 = true then (laws_FnExactLowCut.j0 k bt248.2.2.2 bt261.2.2.2 (bt261.2.2.2 != bt248.2.2.2) a0_0 a0_1 l0_2 bt248.1 bt248.2.1 bt248.2.2.1 bt255.1 bt255.2.1 bt255.2.2 bt261.1 bt261.2.1 bt261.2.2.1) else (laws_FnExactLowCut.j0 k bt248.2.2.2 bt261.2.2.2 true a0_0 a0_1 l0_2 bt248.1 bt248.2.1 bt248.2.2.1 bt255.1 bt255.2.1 bt255.2.2 bt261.1 bt261.2.1 bt261.2.2.1)))))) = some r := H
  have A7 := Aside0.mk A70
  clear A70
  replace H := Option.bind_eq_some_iff.mp H
  obtain ⟨⟨t248, t249, t250, t253⟩, A80, H⟩ := H
  replace H : ((laws_toCut.f k a0_0 a0_1 l0_2).bind fun bt255 => ((impl_LowCut.f k bt255.1 bt255.2.1 bt255.2.2).bind fun bt261 => ((laws_eqCut.f k bt261.1 bt261.2.1 bt261.2.2.1 t248 t249 t250).bind fun t268 => (if t268 = true then (laws_FnExactLowCut.j0 k t253 bt261.2.2.2 (bt261.2.2.2 != t253) a0_0 a0_1 l0_2 t248 t249 t250 bt255.1 bt255.2.1 bt255.2.2 bt261.1 bt261.2.1 bt261.2.2.1) else (laws_FnExactLowCut.j0 k t253 bt261.2.2.2 true a0_0 a0_1 l0_2 t248 t249 t250 bt255.1 bt255.2.1 bt255.2.2 bt261.1 bt261.2.1 bt261.2.2.1))))) = some r := H
  have A8 := Aside0.mk A80
  clear A80
  replace H := Option.bind_eq_some_iff.mp H
  obtain ⟨⟨t255, t256, t257⟩, A90, H⟩ := H
  replace H : ((impl_LowCut.f k t255 t256 t257).bind fun bt261 => ((laws_eqCut.f k bt261.1 bt261.2.1 bt261.2.2.1 t248 t249 t250).bind fun t268 => (if t268 = true then (laws_FnExactLowCut.j0 k t253 bt261.2.2.2 (bt261.2.2.2 != t253) a0_0 a0_1 l0_2 t248 t249 t250 t255 t256 t257 bt261.1 bt261.2.1 bt261.2.2.1) else (laws_FnExactLowCut.j0 k t253 bt261.2.2.2 true a0_0 a0_1 l0_2 t248 t249 t250 t255 t256 t257 bt261.1 bt261.2.1 bt261.2.2.1)))) = some r := H
  have A9 := Aside0.mk A90
  clear A90
  replace H := Option.bind_eq_some_iff.mp H
  obtain ⟨⟨t261, t262, t263, t266⟩, A100, H⟩ := H
  replace H : ((laws_eqCut.f k t261 t262 t263 t248 t249 t250).bind fun t268 => (if t268 = true then (laws_FnExactLowCut.j0 k t253 t266 (t266 != t253) a0_0 a0_1 l0_2 t248 t249 t250 t255 t256 t257 t261 t262 t263) else (laws_FnExactLowCut.j0 k t253 t266 true a0_0 a0_1 l0_2 t248 t249 t250 t255 t256 t257 t261 t262 t263))) = some r := H
  have A10 := Aside0.mk A100
  clear A100
  have HC11 := Aside0.mk H
  clear H
  go_enter Try.func11, Try.ntmps11
  go_upto_region 8 with (first | ((with_reducible refine gate_dst (N := 1) rfl ?_); refine box_event ?hg (N := 1) ?hd (cs := #[.int .i64 a0_0, .int .i64 a0_1, .slice A0_2 l0_2.length c0_2]) (t := 44) ?hr ?_; (case hd => rfl); (case hg => rfl); (case hr => first | (go_simp; done) | (go_simp; rfl)); intro gb241 hg w12 hbox hb; have n0_ := Aside0.mk (below_step (upW HB) hb); have n1_ := Aside0.mk (hbox); have n2_ := Aside0.mk ((by rw [hg]; exact (below_size (upW HB)) : w.heap.size ≤ gb241)); have n3_ := Aside0.mk ((by rw [hg]; exact (below_size (upW HB)) : w.heap.size ≤ gb241)); clear HB; have HB := n0_; have BK241 := n1_; have GW241 := n2_; have GE241 := n3_; clear n0_ n1_ n2_ n3_; clear hb hbox hg; have hcz13_0 : w12.cell? ⟨gb241, 0, none⟩ = some (.int .i64 a0_0) := (blk_cell BK241.out 0).trans rfl; have hcz13_1 : w12.cell? ⟨gb241, 1, none⟩ = some (.int .i64 a0_1) := (blk_cell BK241.out 1).trans rfl; have hcz13_2 : w12.cell? ⟨gb241, 2, none⟩ = some (.slice A0_2 l0_2.length c0_2) := (blk_cell BK241.out 2).trans rfl; have hfz13_0 := blk_frozen BK241.out 0; have hfz13_1 := blk_frozen BK241.out 1; have hfz13_2 := blk_frozen BK241.out 2) | ((with_reducible refine gate_callee (f := 34) rfl ?_); refine goesL_ (some 16) rfl rfl Try.func34 (by kernel_rfl) rfl #[.agg #[.int .i64 a0_0, .int .i64 a0_1, .slice A0_2 l0_2.length c0_2], .int .i64 1048576] rfl itp ?_; (with_reducible refine (laws_szCut.calls a0_0 a0_1 _ _ l0_2 1048576 t242 _ ?side1 ?side2 A2.out).mono ?_); (case side1 => repeat (first | exact (Kd.C_below HR0_2.out HB.out) | (with_reducible refine Kd.C_alloc ?_ _) | (with_reducible refine Kd.C_drewN ?_ _) | (with_reducible refine Kd.C_drew ?_))); (case side2 => exact HC0_2.out); rintro e w14 ⟨rfl, hb⟩; refine ⟨_, rfl, ?_⟩; have n0_ := Aside0.mk (blk_below (upK BK241) hb); have n1_ := Aside0.mk (below_step (upW HB) hb); clear BK241; clear HB; have BK241 := n0_; have HB := n1_; clear n0_ n1_; (try clear hb); (try clear hb2); (try clear hk); (try clear hi); have hcz15_0 : w14.cell? ⟨gb241, 0, none⟩ = some (.int .i64 a0_0) := (blk_cell BK241.out 0).trans rfl; have hcz15_1 : w14.cell? ⟨gb241, 1, none⟩ = some (.int .i64 a0_1) := (blk_cell BK241.out 1).trans rfl; have hcz15_2 : w14.cell? ⟨gb241, 2, none⟩ = some (.slice A0_2 l0_2.length c0_2) := (blk_cell BK241.out 2).trans rfl; have hfz15_0 := blk_frozen BK241.out 0; have hfz15_1 := blk_frozen BK241.out 1; have hfz15_2 := blk_frozen BK241.out 2) | ((with_reducible refine gate_callee (f := 36) rfl ?_); refine goesL_ (some 21) rfl rfl Try.func36 (by kernel_rfl) rfl #[.agg #[.int .i64 a0_0, .int .i64 a0_1, .slice A0_2 l0_2.length c0_2]] rfl itp ?_; (with_reducible refine (laws_toCut.calls k a0_0 a0_1 _ _ l0_2 t243 t244 t245 _ ?side1 ?side2 A7.out).mono ?_); (case side1 => repeat (first | exact (Kd.C_below HR0_2.out HB.out) | (with_reducible refine Kd.C_alloc ?_ _) | (with_reducible refine Kd.C_drewN ?_ _) | (with_reducible refine Kd.C_drew ?_))); (case side2 => exact HC0_2.out); rintro e w16 ⟨v246, rfl, ho0, hb⟩; refine ⟨_, rfl, ?_⟩; have n0_ := Aside0.mk (Kd.R_lower ho0 (below_size (upW HB))); have n1_ := Aside0.mk (blk_below (upK BK241) hb); have n2_ := Aside0.mk (below_step (upW HB) hb); clear BK241; clear HB; have HO247 := n0_; have BK241 := n1_; have HB := n2_; clear n0_ n1_ n2_; (try clear hb); (try clear hb2); (try clear hk); (try clear hi); (try clear ho0); obtain ⟨Ao17, co17, eo17⟩ := Kd.R_slice HO247.out; subst eo17) | ((with_reducible refine gate_callee (f := 43) rfl ?_); refine goesL_ (some 22) rfl rfl Try.func43 (by kernel_rfl) rfl #[.agg #[.int .i64 t243, .int .i64 t244, .slice Ao17 t245.length co17]] rfl itp ?_; (with_reducible refine (spec_LowCut.calls k t243 t244 _ _ t245 t248 t249 t250 t253 _ ?side1 ?side2 A8.out).mono ?_); (case side1 => repeat (first | exact (Kd.R_reads' HO247.out).2.2 | (with_reducible refine Kd.C_alloc ?_ _) | (with_reducible refine Kd.C_drewN ?_ _) | (with_reducible refine Kd.C_drew ?_))); (case side2 => exact (Kd.R_reads' HO247.out).2.1); rintro e w18 ⟨v251, rfl, ho0, hb⟩; refine ⟨_, rfl, ?_⟩; have n0_ := Aside0.mk (Kd.R_elder' (upR HO247) (Kd.R_base ho0) hb); have n1_ := Aside0.mk (Kd.R_lower (Kd.R_new' ho0 (Kd.R_lt (upR HO247))) (below_size (upW HB))); have n2_ := Aside0.mk (blk_below (upK BK241) hb); have n3_ := Aside0.mk (below_step (upW HB) hb); clear HO247; clear BK241; clear HB; have HO247 := n0_; have HO252 := n1_; have BK241 := n2_; have HB := n3_; clear n0_ n1_ n2_ n3_; (try clear hb); (try clear hb2); (try clear hk); (try clear hi); (try clear ho0)) | ((with_reducible refine gate_dst (N := 4) rfl ?_); refine box_event ?hg (N := 4) ?hd (cs := #[.int .i64 0, .int .i64 0, .slice none 0 0]) (t := 48) ?hr ?_; (case hd => rfl); (case hg => rfl); (case hr => first | (go_simp; done) | (go_simp; rfl)); intro gb254 hg w19 hbox hb; have n0_ := Aside0.mk (Kd.R_below (upR HO247) hb); have n1_ := Aside0.mk (Kd.R_below (upR HO252) hb); have n2_ := Aside0.mk (blk_below (upK BK241) hb); have n3_ := Aside0.mk (below_step (upW HB) hb); have n4_ := Aside0.mk (hbox); have n5_ := Aside0.mk ((by rw [hg]; exact (below_size (upW HB)) : w.heap.size ≤ gb254)); have n6_ := Aside0.mk ((by rw [hg]; exact (below_size (upW HB)) : w.heap.size ≤ gb254)); have n7_ := Aside0.mk ((by rw [hg]; exact Nat.ne_of_lt (blk_lt (upK BK241)) : gb241 ≠ gb254)); have n8_ := Aside0.mk ((by rw [hg]; exact Nat.ne_of_gt (blk_lt (upK BK241)) : gb254 ≠ gb241)); clear HO247; clear HO252; clear BK241; clear HB; have HO247 := n0_; have HO252 := n1_; have BK241 := n2_; have HB := n3_; have BK254 := n4_; have GW254 := n5_; have GE254 := n6_; have NB241_254 := n7_; have NB254_241 := n8_; clear n0_ n1_ n2_ n3_ n4_ n5_ n6_ n7_ n8_; clear hb hbox hg; have hnb20 := NB254_241.out; have hnc20 := NB241_254.out; have hcz21_0 : w19.cell? ⟨gb254, 0, none⟩ = some (.int .i64 0) := (blk_cell BK254.out 0).trans rfl; have hcz21_1 : w19.cell? ⟨gb254, 1, none⟩ = some (.int .i64 0) := (blk_cell BK254.out 1).trans rfl; have hcz21_2 : w19.cell? ⟨gb254, 2, none⟩ = some (.slice none 0 0) := (blk_cell BK254.out 2).trans rfl; have hfz21_0 := blk_frozen BK254.out 0; have hfz21_1 := blk_frozen BK254.out 1; have hfz21_2 := blk_frozen BK254.out 2; obtain ⟨Ao22, co22, eo22⟩ := Kd.R_slice HO252.out; subst eo22; have hcz23_0 : w19.cell? ⟨gb241, 0, none⟩ = some (.int .i64 a0_0) := (blk_cell BK241.out 0).trans rfl; have hcz23_1 : w19.cell? ⟨gb241, 1, none⟩ = some (.int .i64 a0_1) := (blk_cell BK241.out 1).trans rfl; have hcz23_2 : w19.cell? ⟨gb241, 2, none⟩ = some (.slice A0_2 l0_2.length c0_2) := (blk_cell BK241.out 2).trans rfl; have hfz23_0 := blk_frozen BK241.out 0; have hfz23_1 := blk_frozen BK241.out 1; have hfz23_2 := blk_frozen BK241.out 2) | ((with_reducible refine gate_callee (f := 36) rfl ?_); refine goesL_ (some 26) rfl rfl Try.func36 (by kernel_rfl) rfl #[.agg #[.int .i64 a0_0, .int .i64 a0_1, .slice A0_2 l0_2.length c0_2]] rfl itp ?_; (with_reducible refine (laws_toCut.calls k a0_0 a0_1 _ _ l0_2 t255 t256 t257 _ ?side1 ?side2 A9.out).mono ?_); (case side1 => exact Kd.C_below HR0_2.out (upW HB)); (case side2 => exact HC0_2.out); rintro e w24 ⟨v258, rfl, ho0, hb⟩; refine ⟨_, rfl, ?_⟩; have n0_ := Aside0.mk (Kd.R_elder' (by (with_reducible repeat (first | apply Kd.R_alloc | apply Kd.R_drewN | apply Kd.R_drew)); exact (Kd.R_mono (Kd.R_far (p := ⟨gb254, 2, none⟩) (Kd.R_far (p := ⟨gb254, 1, none⟩) (Kd.R_far (p := ⟨gb254, 0, none⟩) (Kd.R_types HO247.out BK254.out (by decide)) (fun _ hk => hk.2) (.int .i64 t248)) (fun _ hk => hk.2) (.int .i64 t249)) (fun _ hk => hk.2) (.slice Ao22 t250.length co22)) (fun _ h_ => h_.1))) (Kd.R_base ho0) hb); have n1_ := Aside0.mk (Kd.R_elder' (by (with_reducible repeat (first | apply Kd.R_alloc | apply Kd.R_drewN | apply Kd.R_drew)); exact (Kd.R_mono (Kd.R_far (p := ⟨gb254, 2, none⟩) (Kd.R_far (p := ⟨gb254, 1, none⟩) (Kd.R_far (p := ⟨gb254, 0, none⟩) (Kd.R_types HO252.out BK254.out (by decide)) (fun _ hk => hk.2) (.int .i64 t248)) (fun _ hk => hk.2) (.int .i64 t249)) (fun _ hk => hk.2) (.slice Ao22 t250.length co22)) (fun _ h_ => h_.1))) (Kd.R_base ho0) hb); have n2_ := Aside0.mk (Kd.R_lower (Kd.R_new' (Kd.R_new' ho0 (Kd.R_lt (by (with_reducible repeat (first | apply Kd.R_alloc | apply Kd.R_drewN | apply Kd.R_drew)); exact (Kd.R_mono (Kd.R_far (p := ⟨gb254, 2, none⟩) (Kd.R_far (p := ⟨gb254, 1, none⟩) (Kd.R_far (p := ⟨gb254, 0, none⟩) (Kd.R_types HO247.out BK254.out (by decide)) (fun _ hk => hk.2) (.int .i64 t248)) (fun _ hk => hk.2) (.int .i64 t249)) (fun _ hk => hk.2) (.slice Ao22 t250.length co22)) (fun _ h_ => h_.1))))) (Kd.R_lt (by (with_reducible repeat (first | apply Kd.R_alloc | apply Kd.R_drewN | apply Kd.R_drew)); exact (Kd.R_mono (Kd.R_far (p := ⟨gb254, 2, none⟩) (Kd.R_far (p := ⟨gb254, 1, none⟩) (Kd.R_far (p := ⟨gb254, 0, none⟩) (Kd.R_types HO252.out BK254.out (by decide)) (fun _ hk => hk.2) (.int .i64 t248)) (fun _ hk => hk.2) (.int .i64 t249)) (fun _ hk => hk.2) (.slice Ao22 t250.length co22)) (fun _ h_ => h_.1))))) (below_size (upW HB))); have n3_ := Aside0.mk (blk_below (upF BK241) hb); have n4_ := Aside0.mk (blk_below (g := gb254) (o := .cells #[.int .i64 t248, .int .i64 t249, .slice Ao22 t250.length co22] 48 (0, 0)) (by (with_reducible repeat (first | refine blk_drewN ?_ _ | refine blk_drew ?_ | refine blk_alloc ?_ _)); refine blk_put (cs := #[.int .i64 t248, .int .i64 t249, .slice none 0 0]) ?_ 2 _ rfl; (with_reducible repeat (first | refine blk_drewN ?_ _ | refine blk_drew ?_ | refine blk_alloc ?_ _)); refine blk_put (cs := #[.int .i64 t248, .int .i64 0, .slice none 0 0]) ?_ 1 _ rfl; (with_reducible repeat (first | refine blk_drewN ?_ _ | refine blk_drew ?_ | refine blk_alloc ?_ _)); refine blk_put (cs := #[.int .i64 0, .int .i64 0, .slice none 0 0]) ?_ 0 _ rfl; (with_reducible repeat (first | refine blk_drewN ?_ _ | refine blk_drew ?_ | refine blk_alloc ?_ _)); exact BK254.out) hb); have n5_ := Aside0.mk (below_step (upW HB) hb); clear HO247; clear HO252; clear BK241; clear BK254; clear HB; have HO247 := n0_; have HO252 := n1_; have HO259 := n2_; have BK241 := n3_; have BK254 := n4_; have HB := n5_; clear n0_ n1_ n2_ n3_ n4_ n5_; (try clear hb); (try clear hb2); (try clear hk); (try clear hi); (try clear ho0)) | ((with_reducible refine gate_dst (N := 6) rfl ?_); refine box_event ?hg (N := 6) ?hd (cs := #[.int .i64 0, .int .i64 0, .slice none 0 0]) (t := 48) ?hr ?_; (case hd => rfl); (case hg => rfl); (case hr => first | (go_simp; done) | (go_simp; rfl)); intro gb260 hg w25 hbox hb; have n0_ := Aside0.mk (Kd.R_below (upR HO247) hb); have n1_ := Aside0.mk (Kd.R_below (upR HO252) hb); have n2_ := Aside0.mk (Kd.R_below (upR HO259) hb); have n3_ := Aside0.mk (blk_below (upK BK241) hb); have n4_ := Aside0.mk (blk_below (upK BK254) hb); have n5_ := Aside0.mk (below_step (upW HB) hb); have n6_ := Aside0.mk (hbox); have n7_ := Aside0.mk ((by rw [hg]; exact (below_size (upW HB)) : w.heap.size ≤ gb260)); have n8_ := Aside0.mk ((by rw [hg]; exact (below_size (upW HB)) : w.heap.size ≤ gb260)); have n9_ := Aside0.mk ((by rw [hg]; exact Nat.ne_of_lt (blk_lt (upK BK241)) : gb241 ≠ gb260)); have n10_ := Aside0.mk ((by rw [hg]; exact Nat.ne_of_gt (blk_lt (upK BK241)) : gb260 ≠ gb241)); have n11_ := Aside0.mk ((by rw [hg]; exact Nat.ne_of_lt (blk_lt (upK BK254)) : gb254 ≠ gb260)); have n12_ := Aside0.mk ((by rw [hg]; exact Nat.ne_of_gt (blk_lt (upK BK254)) : gb260 ≠ gb254)); clear HO247; clear HO252; clear HO259; clear BK241; clear BK254; clear HB; have HO247 := n0_; have HO252 := n1_; have HO259 := n2_; have BK241 := n3_; have BK254 := n4_; have HB := n5_; have BK260 := n6_; have GW260 := n7_; have GE260 := n8_; have NB241_260 := n9_; have NB260_241 := n10_; have NB254_260 := n11_; have NB260_254 := n12_; clear n0_ n1_ n2_ n3_ n4_ n5_ n6_ n7_ n8_ n9_ n10_ n11_ n12_; clear hb hbox hg; have hnb26 := NB260_241.out; have hnc26 := NB241_260.out; have hnb27 := NB260_254.out; have hnc27 := NB254_260.out; have hcz28_0 : w25.cell? ⟨gb260, 0, none⟩ = some (.int .i64 0) := (blk_cell BK260.out 0).trans rfl; have hcz28_1 : w25.cell? ⟨gb260, 1, none⟩ = some (.int .i64 0) := (blk_cell BK260.out 1).trans rfl; have hcz28_2 : w25.cell? ⟨gb260, 2, none⟩ = some (.slice none 0 0) := (blk_cell BK260.out 2).trans rfl; have hfz28_0 := blk_frozen BK260.out 0; have hfz28_1 := blk_frozen BK260.out 1; have hfz28_2 := blk_frozen BK260.out 2; obtain ⟨Ao29, co29, eo29⟩ := Kd.R_slice HO259.out; subst eo29) | ((with_reducible refine gate_callee (f := 44) rfl ?_); refine goesL_ (some 29) rfl rfl Try.func44 (by kernel_rfl) rfl #[.agg #[.int .i64 t255, .int .i64 t256, .slice Ao29 t257.length co29]] rfl itp ?_; (with_reducible refine (impl_LowCut.calls k t255 t256 _ _ t257 t261 t262 t263 t266 _ ?side1 ?side2 A10.out).mono ?_); (case side1 => refine (Kd.R_reads' (e := 83) (base := w.heap.size) (ok := fun k_ => ((True ∧ some k_ ≠ (.slice Ao17 t245.length co17 : Value).ownBlock) ∧ some k_ ≠ (.slice Ao22 t250.length co22 : Value).ownBlock)) (n := t257.length) (c := co29) ?_).2.2; exact (by (with_reducible repeat (first | apply Kd.R_alloc | apply Kd.R_drewN | apply Kd.R_drew)); exact (Kd.R_mono (Kd.R_far (p := ⟨gb260, 2, none⟩) (Kd.R_far (p := ⟨gb260, 1, none⟩) (Kd.R_far (p := ⟨gb260, 0, none⟩) (Kd.R_types HO259.out BK260.out (by decide)) (fun _ hk => hk.2) (.int .i64 t255)) (fun _ hk => hk.2) (.int .i64 t256)) (fun _ hk => hk.2) (.slice Ao29 t257.length co29)) (fun _ h_ => h_.1)))); (case side2 => exact (Kd.R_reads' HO259.out).2.1); rintro e w30 ⟨v264, rfl, ho0, hb⟩; refine ⟨_, rfl, ?_⟩; have n0_ := Aside0.mk (Kd.R_elder' (by (with_reducible repeat (first | apply Kd.R_alloc | apply Kd.R_drewN | apply Kd.R_drew)); exact (Kd.R_mono (Kd.R_far (p := ⟨gb260, 2, none⟩) (Kd.R_far (p := ⟨gb260, 1, none⟩) (Kd.R_far (p := ⟨gb260, 0, none⟩) (Kd.R_types HO247.out BK260.out (by decide)) (fun _ hk => hk.2) (.int .i64 t255)) (fun _ hk => hk.2) (.int .i64 t256)) (fun _ hk => hk.2) (.slice Ao29 t257.length co29)) (fun _ h_ => h_.1))) (Kd.R_base ho0) hb); have n1_ := Aside0.mk (Kd.R_elder' (by (with_reducible repeat (first | apply Kd.R_alloc | apply Kd.R_drewN | apply Kd.R_drew)); exact (Kd.R_mono (Kd.R_far (p := ⟨gb260, 2, none⟩) (Kd.R_far (p := ⟨gb260, 1, none⟩) (Kd.R_far (p := ⟨gb260, 0, none⟩) (Kd.R_types HO252.out BK260.out (by decide)) (fun _ hk => hk.2) (.int .i64 t255)) (fun _ hk => hk.2) (.int .i64 t256)) (fun _ hk => hk.2) (.slice Ao29 t257.length co29)) (fun _ h_ => h_.1))) (Kd.R_base ho0) hb); have n2_ := Aside0.mk (Kd.R_elder' (by (with_reducible repeat (first | apply Kd.R_alloc | apply Kd.R_drewN | apply Kd.R_drew)); exact (Kd.R_mono (Kd.R_far (p := ⟨gb260, 2, none⟩) (Kd.R_far (p := ⟨gb260, 1, none⟩) (Kd.R_far (p := ⟨gb260, 0, none⟩) (Kd.R_types HO259.out BK260.out (by decide)) (fun _ hk => hk.2) (.int .i64 t255)) (fun _ hk => hk.2) (.int .i64 t256)) (fun _ hk => hk.2) (.slice Ao29 t257.length co29)) (fun _ h_ => h_.1))) (Kd.R_base ho0) hb); have n3_ := Aside0.mk (Kd.R_lower (Kd.R_new' (Kd.R_new' (Kd.R_new' ho0 (Kd.R_lt (by (with_reducible repeat (first | apply Kd.R_alloc | apply Kd.R_drewN | apply Kd.R_drew)); exact (Kd.R_mono (Kd.R_far (p := ⟨gb260, 2, none⟩) (Kd.R_far (p := ⟨gb260, 1, none⟩) (Kd.R_far (p := ⟨gb260, 0, none⟩) (Kd.R_types HO247.out BK260.out (by decide)) (fun _ hk => hk.2) (.int .i64 t255)) (fun _ hk => hk.2) (.int .i64 t256)) (fun _ hk => hk.2) (.slice Ao29 t257.length co29)) (fun _ h_ => h_.1))))) (Kd.R_lt (by (with_reducible repeat (first | apply Kd.R_alloc | apply Kd.R_drewN | apply Kd.R_drew)); exact (Kd.R_mono (Kd.R_far (p := ⟨gb260, 2, none⟩) (Kd.R_far (p := ⟨gb260, 1, none⟩) (Kd.R_far (p := ⟨gb260, 0, none⟩) (Kd.R_types HO252.out BK260.out (by decide)) (fun _ hk => hk.2) (.int .i64 t255)) (fun _ hk => hk.2) (.int .i64 t256)) (fun _ hk => hk.2) (.slice Ao29 t257.length co29)) (fun _ h_ => h_.1))))) (Kd.R_lt (by (with_reducible repeat (first | apply Kd.R_alloc | apply Kd.R_drewN | apply Kd.R_drew)); exact (Kd.R_mono (Kd.R_far (p := ⟨gb260, 2, none⟩) (Kd.R_far (p := ⟨gb260, 1, none⟩) (Kd.R_far (p := ⟨gb260, 0, none⟩) (Kd.R_types HO259.out BK260.out (by decide)) (fun _ hk => hk.2) (.int .i64 t255)) (fun _ hk => hk.2) (.int .i64 t256)) (fun _ hk => hk.2) (.slice Ao29 t257.length co29)) (fun _ h_ => h_.1))))) (below_size (upW HB))); have n4_ := Aside0.mk (blk_below (upF BK241) hb); have n5_ := Aside0.mk (blk_below (upF BK254) hb); have n6_ := Aside0.mk (blk_below (g := gb260) (o := .cells #[.int .i64 t255, .int .i64 t256, .slice Ao29 t257.length co29] 48 (0, 0)) (by (with_reducible repeat (first | refine blk_drewN ?_ _ | refine blk_drew ?_ | refine blk_alloc ?_ _)); refine blk_put (cs := #[.int .i64 t255, .int .i64 t256, .slice none 0 0]) ?_ 2 _ rfl; (with_reducible repeat (first | refine blk_drewN ?_ _ | refine blk_drew ?_ | refine blk_alloc ?_ _)); refine blk_put (cs := #[.int .i64 t255, .int .i64 0, .slice none 0 0]) ?_ 1 _ rfl; (with_reducible repeat (first | refine blk_drewN ?_ _ | refine blk_drew ?_ | refine blk_alloc ?_ _)); refine blk_put (cs := #[.int .i64 0, .int .i64 0, .slice none 0 0]) ?_ 0 _ rfl; (with_reducible repeat (first | refine blk_drewN ?_ _ | refine blk_drew ?_ | refine blk_alloc ?_ _)); exact BK260.out) hb); have n7_ := Aside0.mk (below_step (upW HB) hb); clear HO247; clear HO252; clear HO259; clear BK241; clear BK254; clear BK260; clear HB; have HO247 := n0_; have HO252 := n1_; have HO259 := n2_; have HO265 := n3_; have BK241 := n4_; have BK254 := n5_; have BK260 := n6_; have HB := n7_; clear n0_ n1_ n2_ n3_ n4_ n5_ n6_ n7_; (try clear hb); (try clear hb2); (try clear hk); (try clear hi); (try clear ho0)) | ((with_reducible refine gate_dst (N := 7) rfl ?_); refine box_event ?hg (N := 7) ?hd (cs := #[.int .i64 0, .int .i64 0, .slice none 0 0]) (t := 48) ?hr ?_; (case hd => rfl); (case hg => rfl); (case hr => first | (go_simp; done) | (go_simp; rfl)); intro gb267 hg w31 hbox hb; have n0_ := Aside0.mk (Kd.R_below (upR HO247) hb); have n1_ := Aside0.mk (Kd.R_below (upR HO252) hb); have n2_ := Aside0.mk (Kd.R_below (upR HO259) hb); have n3_ := Aside0.mk (Kd.R_below (upR HO265) hb); have n4_ := Aside0.mk (blk_below (upK BK241) hb); have n5_ := Aside0.mk (blk_below (upK BK254) hb); have n6_ := Aside0.mk (blk_below (upK BK260) hb); have n7_ := Aside0.mk (below_step (upW HB) hb); have n8_ := Aside0.mk (hbox); have n9_ := Aside0.mk ((by rw [hg]; exact (below_size (upW HB)) : w.heap.size ≤ gb267)); have n10_ := Aside0.mk ((by rw [hg]; exact (below_size (upW HB)) : w.heap.size ≤ gb267)); have n11_ := Aside0.mk ((by rw [hg]; exact Nat.ne_of_lt (blk_lt (upK BK241)) : gb241 ≠ gb267)); have n12_ := Aside0.mk ((by rw [hg]; exact Nat.ne_of_gt (blk_lt (upK BK241)) : gb267 ≠ gb241)); have n13_ := Aside0.mk ((by rw [hg]; exact Nat.ne_of_lt (blk_lt (upK BK254)) : gb254 ≠ gb267)); have n14_ := Aside0.mk ((by rw [hg]; exact Nat.ne_of_gt (blk_lt (upK BK254)) : gb267 ≠ gb254)); have n15_ := Aside0.mk ((by rw [hg]; exact Nat.ne_of_lt (blk_lt (upK BK260)) : gb260 ≠ gb267)); have n16_ := Aside0.mk ((by rw [hg]; exact Nat.ne_of_gt (blk_lt (upK BK260)) : gb267 ≠ gb260)); clear HO247; clear HO252; clear HO259; clear HO265; clear BK241; clear BK254; clear BK260; clear HB; have HO247 := n0_; have HO252 := n1_; have HO259 := n2_; have HO265 := n3_; have BK241 := n4_; have BK254 := n5_; have BK260 := n6_; have HB := n7_; have BK267 := n8_; have GW267 := n9_; have GE267 := n10_; have NB241_267 := n11_; have NB267_241 := n12_; have NB254_267 := n13_; have NB267_254 := n14_; have NB260_267 := n15_; have NB267_260 := n16_; clear n0_ n1_ n2_ n3_ n4_ n5_ n6_ n7_ n8_ n9_ n10_ n11_ n12_ n13_ n14_ n15_ n16_; clear hb hbox hg; have hnb32 := NB267_241.out; have hnc32 := NB241_267.out; have hnb33 := NB267_254.out; have hnc33 := NB254_267.out; have hnb34 := NB267_260.out; have hnc34 := NB260_267.out; have hcz35_0 : w31.cell? ⟨gb267, 0, none⟩ = some (.int .i64 0) := (blk_cell BK267.out 0).trans rfl; have hcz35_1 : w31.cell? ⟨gb267, 1, none⟩ = some (.int .i64 0) := (blk_cell BK267.out 1).trans rfl; have hcz35_2 : w31.cell? ⟨gb267, 2, none⟩ = some (.slice none 0 0) := (blk_cell BK267.out 2).trans rfl; have hfz35_0 := blk_frozen BK267.out 0; have hfz35_1 := blk_frozen BK267.out 1; have hfz35_2 := blk_frozen BK267.out 2; obtain ⟨Ao36, co36, eo36⟩ := Kd.R_slice HO265.out; subst eo36))
  (try simp only [Act.put, List.setIfInBounds_toArray, List.set_cons_zero, List.set_cons_succ])
  go_cut [40] (fun v40 wc => ∃ (kq : Nat) (x40_10 : Bool), v40 = .bool x40_10 ∧ Aside0 (laws_FnExactLowCut.j0 kq t253 t266 x40_10 a0_0 a0_1 l0_2 t248 t249 t250 t255 t256 t257 t261 t262 t263 = some r) ∧ Aside0 (kq ≤ k) ∧ Aside0 (Kd.R k83 83 wc w.heap.size (fun k_ => some k_ ≠ ((.slice Ao29 t257.length co29) : Value).ownBlock ∧ some k_ ≠ ((.slice Ao36 t263.length co36) : Value).ownBlock) (.slice Ao22 t250.length co22) t250) ∧ Aside0 (Kd.R k83 83 wc w.heap.size (fun k_ => some k_ ≠ ((.slice Ao22 t250.length co22) : Value).ownBlock ∧ some k_ ≠ ((.slice Ao36 t263.length co36) : Value).ownBlock) (.slice Ao29 t257.length co29) t257) ∧ Aside0 (Kd.R k83 83 wc w.heap.size (fun k_ => some k_ ≠ ((.slice Ao22 t250.length co22) : Value).ownBlock ∧ some k_ ≠ ((.slice Ao29 t257.length co29) : Value).ownBlock) (.slice Ao36 t263.length co36) t263) ∧ Aside0 (wc.heap[gb241]? = some (.cells #[.int .i64 a0_0, .int .i64 a0_1, (.slice A0_2 l0_2.length c0_2)] 44 (0, 0))) ∧ Aside0 (wc.heap[gb254]? = some (.cells #[.int .i64 t248, .int .i64 t249, (.slice Ao22 t250.length co22)] 48 (0, 0))) ∧ Aside0 (wc.heap[gb260]? = some (.cells #[.int .i64 t255, .int .i64 t256, (.slice Ao29 t257.length co29)] 48 (0, 0))) ∧ Aside0 (wc.heap[gb267]? = some (.cells #[.int .i64 t261, .int .i64 t262, (.slice Ao36 t263.length co36)] 48 (0, 0))) ∧ Aside0 (Below w.heap.size w wc))
  case first =>
   have H := HC11.out
   clear HC11
   replace H := Option.bind_eq_some_iff.mp H
   obtain ⟨t268, A370, H⟩ := H
   replace H : (if t268 = true then (laws_FnExactLowCut.j0 k t253 t266 (t266 != t253) a0_0 a0_1 l0_2 t248 t249 t250 t255 t256 t257 t261 t262 t263) else (laws_FnExactLowCut.j0 k t253 t266 true a0_0 a0_1 l0_2 t248 t249 t250 t255 t256 t257 t261 t262 t263)) = some r := H
   have A37 := Aside0.mk A370
   clear A370
   by_cases c38 : t268 = true
   ·subst c38
    have H1 : (laws_FnExactLowCut.j0 k t253 t266 (t266 != t253) a0_0 a0_1 l0_2 t248 t249 t250 t255 t256 t257 t261 t262 t263) = some r := by rw [if_pos rfl] at H; exact H
    clear H
    have H := H1
    clear H1
    have H' := Aside0.mk H
    clear H
    have hnb39 := NB267_241.out
    have hnc39 := NB241_267.out
    have hnb40 := NB267_254.out
    have hnc40 := NB254_267.out
    have hnb41 := NB267_260.out
    have hnc41 := NB260_267.out
    have hcz42_0 : w31.cell? ⟨gb267, 0, none⟩ = some (.int .i64 0) := (blk_cell BK267.out 0).trans rfl
    have hcz42_1 : w31.cell? ⟨gb267, 1, none⟩ = some (.int .i64 0) := (blk_cell BK267.out 1).trans rfl
    have hcz42_2 : w31.cell? ⟨gb267, 2, none⟩ = some (.slice none 0 0) := (blk_cell BK267.out 2).trans rfl
    have hfz42_0 := blk_frozen BK267.out 0
    have hfz42_1 := blk_frozen BK267.out 1
    have hfz42_2 := blk_frozen BK267.out 2
    have hnb43 := NB254_241.out
    have hnc43 := NB241_254.out
    have hnb44 := NB254_260.out
    have hnc44 := NB260_254.out
    have hcz45_0 : w31.cell? ⟨gb254, 0, none⟩ = some (.int .i64 t248) := (blk_cell BK254.out 0).trans rfl
    have hcz45_1 : w31.cell? ⟨gb254, 1, none⟩ = some (.int .i64 t249) := (blk_cell BK254.out 1).trans rfl
    have hcz45_2 : w31.cell? ⟨gb254, 2, none⟩ = some (.slice Ao22 t250.length co22) := (blk_cell BK254.out 2).trans rfl
    have hfz45_0 := blk_frozen BK254.out 0
    have hfz45_1 := blk_frozen BK254.out 1
    have hfz45_2 := blk_frozen BK254.out 2
    go_wp2_with (first | ((with_reducible refine gate_callee (f := 38) rfl ?_); refine goesL_ (some 34) rfl rfl Try.func38 (by kernel_rfl) rfl #[.agg #[.int .i64 t261, .int .i64 t262, .slice Ao36 t263.length co36], .agg #[.int .i64 t248, .int .i64 t249, .slice Ao22 t250.length co22]] rfl itp ?_; (with_reducible refine (laws_eqCut.calls k t261 t262 _ _ t263 t248 t249 _ _ t250 true _ ?side1 ?side2 ?side3 ?side4 A37.out).mono ?_); (case side1 => refine (Kd.R_reads' (e := 83) (base := w.heap.size) (ok := fun k_ => (((True ∧ some k_ ≠ (.slice Ao17 t245.length co17 : Value).ownBlock) ∧ some k_ ≠ (.slice Ao22 t250.length co22 : Value).ownBlock) ∧ some k_ ≠ (.slice Ao29 t257.length co29 : Value).ownBlock)) (n := t263.length) (c := co36) ?_).2.2; exact (by (with_reducible repeat (first | apply Kd.R_alloc | apply Kd.R_drewN | apply Kd.R_drew)); exact (Kd.R_mono (Kd.R_far (p := ⟨gb267, 2, none⟩) (Kd.R_far (p := ⟨gb267, 1, none⟩) (Kd.R_far (p := ⟨gb267, 0, none⟩) (Kd.R_types HO265.out BK267.out (by decide)) (fun _ hk => hk.2) (.int .i64 t261)) (fun _ hk => hk.2) (.int .i64 t262)) (fun _ hk => hk.2) (.slice Ao36 t263.length co36)) (fun _ h_ => h_.1)))); (case side2 => exact (Kd.R_reads' HO265.out).2.1); (case side3 => refine (Kd.R_reads' (e := 83) (base := w.heap.size) (ok := fun k_ => (((True ∧ some k_ ≠ (.slice Ao17 t245.length co17 : Value).ownBlock) ∧ some k_ ≠ (.slice Ao29 t257.length co29 : Value).ownBlock) ∧ some k_ ≠ (.slice Ao36 t263.length co36 : Value).ownBlock)) (n := t250.length) (c := co22) ?_).2.2; exact (by (with_reducible repeat (first | apply Kd.R_alloc | apply Kd.R_drewN | apply Kd.R_drew)); exact (Kd.R_mono (Kd.R_far (p := ⟨gb267, 2, none⟩) (Kd.R_far (p := ⟨gb267, 1, none⟩) (Kd.R_far (p := ⟨gb267, 0, none⟩) (Kd.R_types HO252.out BK267.out (by decide)) (fun _ hk => hk.2) (.int .i64 t261)) (fun _ hk => hk.2) (.int .i64 t262)) (fun _ hk => hk.2) (.slice Ao36 t263.length co36)) (fun _ h_ => h_.1)))); (case side4 => exact (Kd.R_reads' HO252.out).2.1); rintro e w46 ⟨rfl, hb⟩; refine ⟨_, rfl, ?_⟩; have n0_ := Aside0.mk (Kd.R_below (by (with_reducible repeat (first | apply Kd.R_alloc | apply Kd.R_drewN | apply Kd.R_drew)); exact (Kd.R_mono (Kd.R_far (p := ⟨gb267, 2, none⟩) (Kd.R_far (p := ⟨gb267, 1, none⟩) (Kd.R_far (p := ⟨gb267, 0, none⟩) (Kd.R_types HO247.out BK267.out (by decide)) (fun _ hk => hk.2) (.int .i64 t261)) (fun _ hk => hk.2) (.int .i64 t262)) (fun _ hk => hk.2) (.slice Ao36 t263.length co36)) (fun _ h_ => h_.1))) hb); have n1_ := Aside0.mk (Kd.R_below (by (with_reducible repeat (first | apply Kd.R_alloc | apply Kd.R_drewN | apply Kd.R_drew)); exact (Kd.R_mono (Kd.R_far (p := ⟨gb267, 2, none⟩) (Kd.R_far (p := ⟨gb267, 1, none⟩) (Kd.R_far (p := ⟨gb267, 0, none⟩) (Kd.R_types HO252.out BK267.out (by decide)) (fun _ hk => hk.2) (.int .i64 t261)) (fun _ hk => hk.2) (.int .i64 t262)) (fun _ hk => hk.2) (.slice Ao36 t263.length co36)) (fun _ h_ => h_.1))) hb); have n2_ := Aside0.mk (Kd.R_below (by (with_reducible repeat (first | apply Kd.R_alloc | apply Kd.R_drewN | apply Kd.R_drew)); exact (Kd.R_mono (Kd.R_far (p := ⟨gb267, 2, none⟩) (Kd.R_far (p := ⟨gb267, 1, none⟩) (Kd.R_far (p := ⟨gb267, 0, none⟩) (Kd.R_types HO259.out BK267.out (by decide)) (fun _ hk => hk.2) (.int .i64 t261)) (fun _ hk => hk.2) (.int .i64 t262)) (fun _ hk => hk.2) (.slice Ao36 t263.length co36)) (fun _ h_ => h_.1))) hb); have n3_ := Aside0.mk (Kd.R_below (by (with_reducible repeat (first | apply Kd.R_alloc | apply Kd.R_drewN | apply Kd.R_drew)); exact (Kd.R_mono (Kd.R_far (p := ⟨gb267, 2, none⟩) (Kd.R_far (p := ⟨gb267, 1, none⟩) (Kd.R_far (p := ⟨gb267, 0, none⟩) (Kd.R_types HO265.out BK267.out (by decide)) (fun _ hk => hk.2) (.int .i64 t261)) (fun _ hk => hk.2) (.int .i64 t262)) (fun _ hk => hk.2) (.slice Ao36 t263.length co36)) (fun _ h_ => h_.1))) hb); have n4_ := Aside0.mk (blk_below (upF BK241) hb); have n5_ := Aside0.mk (blk_below (upF BK254) hb); have n6_ := Aside0.mk (blk_below (upF BK260) hb); have n7_ := Aside0.mk (blk_below (g := gb267) (o := .cells #[.int .i64 t261, .int .i64 t262, .slice Ao36 t263.length co36] 48 (0, 0)) (by (with_reducible repeat (first | refine blk_drewN ?_ _ | refine blk_drew ?_ | refine blk_alloc ?_ _)); refine blk_put (cs := #[.int .i64 t261, .int .i64 t262, .slice none 0 0]) ?_ 2 _ rfl; (with_reducible repeat (first | refine blk_drewN ?_ _ | refine blk_drew ?_ | refine blk_alloc ?_ _)); refine blk_put (cs := #[.int .i64 t261, .int .i64 0, .slice none 0 0]) ?_ 1 _ rfl; (with_reducible repeat (first | refine blk_drewN ?_ _ | refine blk_drew ?_ | refine blk_alloc ?_ _)); refine blk_put (cs := #[.int .i64 0, .int .i64 0, .slice none 0 0]) ?_ 0 _ rfl; (with_reducible repeat (first | refine blk_drewN ?_ _ | refine blk_drew ?_ | refine blk_alloc ?_ _)); exact BK267.out) hb); have n8_ := Aside0.mk (below_step (upW HB) hb); clear HO247; clear HO252; clear HO259; clear HO265; clear BK241; clear BK254; clear BK260; clear BK267; clear HB; have HO247 := n0_; have HO252 := n1_; have HO259 := n2_; have HO265 := n3_; have BK241 := n4_; have BK254 := n5_; have BK260 := n6_; have BK267 := n7_; have HB := n8_; clear n0_ n1_ n2_ n3_ n4_ n5_ n6_ n7_ n8_; (try clear hb); (try clear hb2); (try clear hk); (try clear hi)))
    go_meet
    case rel => exact ⟨_, ((t266 != t253)), (by first | rfl | (simp; done) | (simp [*]; done)), H', ⟨by first | omega | exact Nat.le_refl _⟩, ⟨by (with_reducible repeat (first | apply Kd.R_alloc | apply Kd.R_drewN | apply Kd.R_drew)); exact Kd.R_mono HO252.out (fun _ hk => ⟨hk.1.2, hk.2⟩)⟩, ⟨by (with_reducible repeat (first | apply Kd.R_alloc | apply Kd.R_drewN | apply Kd.R_drew)); exact Kd.R_mono HO259.out (fun _ hk => ⟨hk.1.2, hk.2⟩)⟩, ⟨by (with_reducible repeat (first | apply Kd.R_alloc | apply Kd.R_drewN | apply Kd.R_drew)); exact Kd.R_mono HO265.out (fun _ hk => ⟨hk.1.2, hk.2⟩)⟩, ⟨upK BK241⟩, ⟨upK BK254⟩, ⟨upK BK260⟩, ⟨upK BK267⟩, ⟨upW HB⟩⟩
   ·replace c38 := Bool.eq_false_iff.mpr c38
    subst c38
    have H1 : (laws_FnExactLowCut.j0 k t253 t266 true a0_0 a0_1 l0_2 t248 t249 t250 t255 t256 t257 t261 t262 t263) = some r := by rw [if_neg (show ¬ (false = true) by decide)] at H; exact H
    clear H
    have H := H1
    clear H1
    have H' := Aside0.mk H
    clear H
    have hnb47 := NB267_241.out
    have hnc47 := NB241_267.out
    have hnb48 := NB267_254.out
    have hnc48 := NB254_267.out
    have hnb49 := NB267_260.out
    have hnc49 := NB260_267.out
    have hcz50_0 : w31.cell? ⟨gb267, 0, none⟩ = some (.int .i64 0) := (blk_cell BK267.out 0).trans rfl
    have hcz50_1 : w31.cell? ⟨gb267, 1, none⟩ = some (.int .i64 0) := (blk_cell BK267.out 1).trans rfl
    have hcz50_2 : w31.cell? ⟨gb267, 2, none⟩ = some (.slice none 0 0) := (blk_cell BK267.out 2).trans rfl
    have hfz50_0 := blk_frozen BK267.out 0
    have hfz50_1 := blk_frozen BK267.out 1
    have hfz50_2 := blk_frozen BK267.out 2
    have hnb51 := NB254_241.out
    have hnc51 := NB241_254.out
    have hnb52 := NB254_260.out
    have hnc52 := NB260_254.out
    have hcz53_0 : w31.cell? ⟨gb254, 0, none⟩ = some (.int .i64 t248) := (blk_cell BK254.out 0).trans rfl
    have hcz53_1 : w31.cell? ⟨gb254, 1, none⟩ = some (.int .i64 t249) := (blk_cell BK254.out 1).trans rfl
    have hcz53_2 : w31.cell? ⟨gb254, 2, none⟩ = some (.slice Ao22 t250.length co22) := (blk_cell BK254.out 2).trans rfl
    have hfz53_0 := blk_frozen BK254.out 0
    have hfz53_1 := blk_frozen BK254.out 1
    have hfz53_2 := blk_frozen BK254.out 2
    go_wp2_with (first | ((with_reducible refine gate_callee (f := 38) rfl ?_); refine goesL_ (some 34) rfl rfl Try.func38 (by kernel_rfl) rfl #[.agg #[.int .i64 t261, .int .i64 t262, .slice Ao36 t263.length co36], .agg #[.int .i64 t248, .int .i64 t249, .slice Ao22 t250.length co22]] rfl itp ?_; (with_reducible refine (laws_eqCut.calls k t261 t262 _ _ t263 t248 t249 _ _ t250 false _ ?side1 ?side2 ?side3 ?side4 A37.out).mono ?_); (case side1 => refine (Kd.R_reads' (e := 83) (base := w.heap.size) (ok := fun k_ => (((True ∧ some k_ ≠ (.slice Ao17 t245.length co17 : Value).ownBlock) ∧ some k_ ≠ (.slice Ao22 t250.length co22 : Value).ownBlock) ∧ some k_ ≠ (.slice Ao29 t257.length co29 : Value).ownBlock)) (n := t263.length) (c := co36) ?_).2.2; exact (by (with_reducible repeat (first | apply Kd.R_alloc | apply Kd.R_drewN | apply Kd.R_drew)); exact (Kd.R_mono (Kd.R_far (p := ⟨gb267, 2, none⟩) (Kd.R_far (p := ⟨gb267, 1, none⟩) (Kd.R_far (p := ⟨gb267, 0, none⟩) (Kd.R_types HO265.out BK267.out (by decide)) (fun _ hk => hk.2) (.int .i64 t261)) (fun _ hk => hk.2) (.int .i64 t262)) (fun _ hk => hk.2) (.slice Ao36 t263.length co36)) (fun _ h_ => h_.1)))); (case side2 => exact (Kd.R_reads' HO265.out).2.1); (case side3 => refine (Kd.R_reads' (e := 83) (base := w.heap.size) (ok := fun k_ => (((True ∧ some k_ ≠ (.slice Ao17 t245.length co17 : Value).ownBlock) ∧ some k_ ≠ (.slice Ao29 t257.length co29 : Value).ownBlock) ∧ some k_ ≠ (.slice Ao36 t263.length co36 : Value).ownBlock)) (n := t250.length) (c := co22) ?_).2.2; exact (by (with_reducible repeat (first | apply Kd.R_alloc | apply Kd.R_drewN | apply Kd.R_drew)); exact (Kd.R_mono (Kd.R_far (p := ⟨gb267, 2, none⟩) (Kd.R_far (p := ⟨gb267, 1, none⟩) (Kd.R_far (p := ⟨gb267, 0, none⟩) (Kd.R_types HO252.out BK267.out (by decide)) (fun _ hk => hk.2) (.int .i64 t261)) (fun _ hk => hk.2) (.int .i64 t262)) (fun _ hk => hk.2) (.slice Ao36 t263.length co36)) (fun _ h_ => h_.1)))); (case side4 => exact (Kd.R_reads' HO252.out).2.1); rintro e w54 ⟨rfl, hb⟩; refine ⟨_, rfl, ?_⟩; have n0_ := Aside0.mk (Kd.R_below (by (with_reducible repeat (first | apply Kd.R_alloc | apply Kd.R_drewN | apply Kd.R_drew)); exact (Kd.R_mono (Kd.R_far (p := ⟨gb267, 2, none⟩) (Kd.R_far (p := ⟨gb267, 1, none⟩) (Kd.R_far (p := ⟨gb267, 0, none⟩) (Kd.R_types HO247.out BK267.out (by decide)) (fun _ hk => hk.2) (.int .i64 t261)) (fun _ hk => hk.2) (.int .i64 t262)) (fun _ hk => hk.2) (.slice Ao36 t263.length co36)) (fun _ h_ => h_.1))) hb); have n1_ := Aside0.mk (Kd.R_below (by (with_reducible repeat (first | apply Kd.R_alloc | apply Kd.R_drewN | apply Kd.R_drew)); exact (Kd.R_mono (Kd.R_far (p := ⟨gb267, 2, none⟩) (Kd.R_far (p := ⟨gb267, 1, none⟩) (Kd.R_far (p := ⟨gb267, 0, none⟩) (Kd.R_types HO252.out BK267.out (by decide)) (fun _ hk => hk.2) (.int .i64 t261)) (fun _ hk => hk.2) (.int .i64 t262)) (fun _ hk => hk.2) (.slice Ao36 t263.length co36)) (fun _ h_ => h_.1))) hb); have n2_ := Aside0.mk (Kd.R_below (by (with_reducible repeat (first | apply Kd.R_alloc | apply Kd.R_drewN | apply Kd.R_drew)); exact (Kd.R_mono (Kd.R_far (p := ⟨gb267, 2, none⟩) (Kd.R_far (p := ⟨gb267, 1, none⟩) (Kd.R_far (p := ⟨gb267, 0, none⟩) (Kd.R_types HO259.out BK267.out (by decide)) (fun _ hk => hk.2) (.int .i64 t261)) (fun _ hk => hk.2) (.int .i64 t262)) (fun _ hk => hk.2) (.slice Ao36 t263.length co36)) (fun _ h_ => h_.1))) hb); have n3_ := Aside0.mk (Kd.R_below (by (with_reducible repeat (first | apply Kd.R_alloc | apply Kd.R_drewN | apply Kd.R_drew)); exact (Kd.R_mono (Kd.R_far (p := ⟨gb267, 2, none⟩) (Kd.R_far (p := ⟨gb267, 1, none⟩) (Kd.R_far (p := ⟨gb267, 0, none⟩) (Kd.R_types HO265.out BK267.out (by decide)) (fun _ hk => hk.2) (.int .i64 t261)) (fun _ hk => hk.2) (.int .i64 t262)) (fun _ hk => hk.2) (.slice Ao36 t263.length co36)) (fun _ h_ => h_.1))) hb); have n4_ := Aside0.mk (blk_below (upF BK241) hb); have n5_ := Aside0.mk (blk_below (upF BK254) hb); have n6_ := Aside0.mk (blk_below (upF BK260) hb); have n7_ := Aside0.mk (blk_below (g := gb267) (o := .cells #[.int .i64 t261, .int .i64 t262, .slice Ao36 t263.length co36] 48 (0, 0)) (by (with_reducible repeat (first | refine blk_drewN ?_ _ | refine blk_drew ?_ | refine blk_alloc ?_ _)); refine blk_put (cs := #[.int .i64 t261, .int .i64 t262, .slice none 0 0]) ?_ 2 _ rfl; (with_reducible repeat (first | refine blk_drewN ?_ _ | refine blk_drew ?_ | refine blk_alloc ?_ _)); refine blk_put (cs := #[.int .i64 t261, .int .i64 0, .slice none 0 0]) ?_ 1 _ rfl; (with_reducible repeat (first | refine blk_drewN ?_ _ | refine blk_drew ?_ | refine blk_alloc ?_ _)); refine blk_put (cs := #[.int .i64 0, .int .i64 0, .slice none 0 0]) ?_ 0 _ rfl; (with_reducible repeat (first | refine blk_drewN ?_ _ | refine blk_drew ?_ | refine blk_alloc ?_ _)); exact BK267.out) hb); have n8_ := Aside0.mk (below_step (upW HB) hb); clear HO247; clear HO252; clear HO259; clear HO265; clear BK241; clear BK254; clear BK260; clear BK267; clear HB; have HO247 := n0_; have HO252 := n1_; have HO259 := n2_; have HO265 := n3_; have BK241 := n4_; have BK254 := n5_; have BK260 := n6_; have BK267 := n7_; have HB := n8_; clear n0_ n1_ n2_ n3_ n4_ n5_ n6_ n7_ n8_; (try clear hb); (try clear hb2); (try clear hk); (try clear hi)))
    go_meet
    case rel => exact ⟨_, (true), (by first | rfl | (simp; done) | (simp [*]; done)), H', ⟨by first | omega | exact Nat.le_refl _⟩, ⟨by (with_reducible repeat (first | apply Kd.R_alloc | apply Kd.R_drewN | apply Kd.R_drew)); exact Kd.R_mono HO252.out (fun _ hk => ⟨hk.1.2, hk.2⟩)⟩, ⟨by (with_reducible repeat (first | apply Kd.R_alloc | apply Kd.R_drewN | apply Kd.R_drew)); exact Kd.R_mono HO259.out (fun _ hk => ⟨hk.1.2, hk.2⟩)⟩, ⟨by (with_reducible repeat (first | apply Kd.R_alloc | apply Kd.R_drewN | apply Kd.R_drew)); exact Kd.R_mono HO265.out (fun _ hk => ⟨hk.1.2, hk.2⟩)⟩, ⟨upK BK241⟩, ⟨upK BK254⟩, ⟨upK BK260⟩, ⟨upK BK267⟩, ⟨upW HB⟩⟩
  case rest =>
   clear HC11
   try clear c1
   try clear c2
   try clear p2
   try clear c3
   try clear c3b0
   try clear c4
   try clear c5
   try clear c11
   try clear c20
   try clear c26
   try clear c27
   try clear c32
   try clear c33
   try clear c34
   try clear c36
   try clear c38
   try clear c39
   try clear c40
   try clear c41
   try clear c43
   try clear c44
   try clear c47
   try clear c48
   try clear c49
   try clear c51
   try clear c52
   try clear hcz13_0
   try clear hcz13_1
   try clear hcz13_2
   try clear hcz15_0
   try clear hcz15_1
   try clear hcz15_2
   try clear hcz21_0
   try clear hcz21_1
   try clear hcz21_2
   try clear hcz23_0
   try clear hcz23_1
   try clear hcz23_2
   try clear hcz28_0
   try clear hcz28_1
   try clear hcz28_2
   try clear hcz35_0
   try clear hcz35_1
   try clear hcz35_2
   try clear hcz42_0
   try clear hcz42_1
   try clear hcz42_2
   try clear hcz45_0
   try clear hcz45_1
   try clear hcz45_2
   try clear hcz50_0
   try clear hcz50_1
   try clear hcz50_2
   try clear hcz53_0
   try clear hcz53_1
   try clear hcz53_2
   try clear hcz5_0
   try clear hcz5_1
   try clear hcz5_2
   try clear hfz13_0
   try clear hfz13_1
   try clear hfz13_2
   try clear hfz15_0
   try clear hfz15_1
   try clear hfz15_2
   try clear hfz21_0
   try clear hfz21_1
   try clear hfz21_2
   try clear hfz23_0
   try clear hfz23_1
   try clear hfz23_2
   try clear hfz28_0
   try clear hfz28_1
   try clear hfz28_2
   try clear hfz35_0
   try clear hfz35_1
   try clear hfz35_2
   try clear hfz42_0
   try clear hfz42_1
   try clear hfz42_2
   try clear hfz45_0
   try clear hfz45_1
   try clear hfz45_2
   try clear hfz50_0
   try clear hfz50_1
   try clear hfz50_2
   try clear hfz53_0
   try clear hfz53_1
   try clear hfz53_2
   try clear hfz5_0
   try clear hfz5_1
   try clear hfz5_2
   obtain ⟨kq, x40_10, rfl, HA, HJ10, HO_255002, HO_261002, HO_268002, BK241, BK254, BK260, BK267, HB⟩ := hcut
   cases kq with
   | zero => exact absurd HA.out (by simp [laws_FnExactLowCut.j0])
   | succ kj10 =>
    have H := HA.out
    clear HA
    simp only [laws_FnExactLowCut.j0] at H
    by_cases c55 : x40_10 = true
    ·subst c55
     have H1 : (some false) = some r := by rw [if_pos rfl] at H; exact H
     clear H
     have H := H1
     clear H1
     obtain rfl := Option.some.inj H
     go_wp2
     go_ret
     exact ⟨by first | rfl | (simp [errW_none, errW_some] <;> rfl) | (simp [*, errW_none, errW_some] <;> rfl), by repeat (first | (with_reducible first | exact HB.out | apply below_alloc | apply pw_below_drewN | apply below_drew1 | refine below_set ?_ GE241.out | refine below_set ?_ GE254.out | refine below_set ?_ GE260.out | refine below_set ?_ GE267.out) | exact HB.out)⟩
    ·replace c55 := Bool.eq_false_iff.mpr c55
     subst c55
     have H1 : ((laws_toCut.f kj10 a0_0 a0_1 l0_2).bind fun bt269 => ((laws_eqCut.f kj10 t255 t256 t257 bt269.1 bt269.2.1 bt269.2.2).bind fun t274 => (if t274 = true then ((laws_markCut.f kj10 t255 t256 t257 1).bind fun bt275 => (if bt275.1 < 0 then (laws_FnExactLowCut.j1 kj10 t253 true a0_0 a0_1 l0_2 t248 t249 t250 t261 t262 t263) else ((laws_eqCut.f kj10 t261 t262 t263 t248 t249 t250).bind fun t277 => (if t277 = true then (laws_FnExactLowCut.j1 kj10 t253 (t266 != t253) a0_0 a0_1 l0_2 t248 t249 t250 t261 t262 t263) else (laws_FnExactLowCut.j1 kj10 t253 true a0_0 a0_1 l0_2 t248 t249 t250 t261 t262 t263))))) else (some false)))) = some r := by rw [if_neg (show ¬ (false = true) by decide)] at H; exact H
     clear H
     have H := H1
     clear H1
     replace H := Option.bind_eq_some_iff.mp H
     obtain ⟨⟨t269, t270, t271⟩, A560, H⟩ := H
     replace H : ((laws_eqCut.f kj10 t255 t256 t257 t269 t270 t271).bind fun t274 => (if t274 = true then ((laws_markCut.f kj10 t255 t256 t257 1).bind fun bt275 => (if bt275.1 < 0 then (laws_FnExactLowCut.j1 kj10 t253 true a0_0 a0_1 l0_2 t248 t249 t250 t261 t262 t263) else ((laws_eqCut.f kj10 t261 t262 t263 t248 t249 t250).bind fun t277 => (if t277 = true then (laws_FnExactLowCut.j1 kj10 t253 (t266 != t253) a0_0 a0_1 l0_2 t248 t249 t250 t261 t262 t263) else (laws_FnExactLowCut.j1 kj10 t253 true a0_0 a0_1 l0_2 t248 t249 t250 t261 t262 t263))))) else (some false))) = some r := H
     have A56 := Aside0.mk A560
     clear A560
     replace H := Option.bind_eq_some_iff.mp H
     obtain ⟨t274, A570, H⟩ := H
     replace H : (if t274 = true then ((laws_markCut.f kj10 t255 t256 t257 1).bind fun bt275 => (if bt275.1 < 0 then (laws_FnExactLowCut.j1 kj10 t253 true a0_0 a0_1 l0_2 t248 t249 t250 t261 t262 t263) else ((laws_eqCut.f kj10 t261 t262 t263 t248 t249 t250).bind fun t277 => (if t277 = true then (laws_FnExactLowCut.j1 kj10 t253 (t266 != t253) a0_0 a0_1 l0_2 t248 t249 t250 t261 t262 t263) else (laws_FnExactLowCut.j1 kj10 t253 true a0_0 a0_1 l0_2 t248 t249 t250 t261 t262 t263))))) else (some false)) = some r := H
     have A57 := Aside0.mk A570
     clear A570
     by_cases c58 : t274 = true
     ·subst c58
      have H1 : ((laws_markCut.f kj10 t255 t256 t257 1).bind fun bt275 => (if bt275.1 < 0 then (laws_FnExactLowCut.j1 kj10 t253 true a0_0 a0_1 l0_2 t248 t249 t250 t261 t262 t263) else ((laws_eqCut.f kj10 t261 t262 t263 t248 t249 t250).bind fun t277 => (if t277 = true then (laws_FnExactLowCut.j1 kj10 t253 (t266 != t253) a0_0 a0_1 l0_2 t248 t249 t250 t261 t262 t263) else (laws_FnExactLowCut.j1 kj10 t253 true a0_0 a0_1 l0_2 t248 t249 t250 t261 t262 t263))))) = some r := by rw [if_pos rfl] at H; exact H
      clear H
      have H := H1
      clear H1
      replace H := Option.bind_eq_some_iff.mp H
      obtain ⟨⟨t275, t276⟩, A590, H⟩ := H
      replace H : (if t275 < 0 then (laws_FnExactLowCut.j1 kj10 t253 true a0_0 a0_1 l0_2 t248 t249 t250 t261 t262 t263) else ((laws_eqCut.f kj10 t261 t262 t263 t248 t249 t250).bind fun t277 => (if t277 = true then (laws_FnExactLowCut.j1 kj10 t253 (t266 != t253) a0_0 a0_1 l0_2 t248 t249 t250 t261 t262 t263) else (laws_FnExactLowCut.j1 kj10 t253 true a0_0 a0_1 l0_2 t248 t249 t250 t261 t262 t263)))) = some r := H
      have A59 := Aside0.mk A590
      clear A590
      have HC60 := Aside0.mk H
      clear H
      try go_wp2
      have n0_ := Aside0.mk (Kd.R_drew HO_255002.out)
      have n1_ := Aside0.mk (Kd.R_drew HO_261002.out)
      have n2_ := Aside0.mk (Kd.R_drew HO_268002.out)
      have n3_ := Aside0.mk (blk_drew BK241.out)
      have n4_ := Aside0.mk (blk_drew BK254.out)
      have n5_ := Aside0.mk (blk_drew BK260.out)
      have n6_ := Aside0.mk (blk_drew BK267.out)
      have n7_ := Aside0.mk (below_drew1 HB.out)
      clear HO_255002
      clear HO_261002
      clear HO_268002
      clear BK241
      clear BK254
      clear BK260
      clear BK267
      clear HB
      have HO_255002 := n0_
      have HO_261002 := n1_
      have HO_268002 := n2_
      have BK241 := n3_
      have BK254 := n4_
      have BK260 := n5_
      have BK267 := n6_
      have HB := n7_
      clear n0_ n1_ n2_ n3_ n4_ n5_ n6_ n7_
      refine start_ (n := 5) (S := fun w' => w'.cell? ⟨gb260, 0, none⟩ = some (.int .i64 t255) ∧ w'.cell? ⟨gb260, 1, none⟩ = some (.int .i64 t256) ∧ w'.cell? ⟨gb260, 2, none⟩ = some (.slice Ao29 t257.length co29) ∧ w'.cell? ⟨gb241, 0, none⟩ = some (.int .i64 a0_0) ∧ w'.cell? ⟨gb241, 1, none⟩ = some (.int .i64 a0_1) ∧ w'.cell? ⟨gb241, 2, none⟩ = some (.slice A0_2 l0_2.length c0_2)) (ds := []) #[false, false, false, false, false] (by kernel_rfl) rfl rfl ⟨(blk_cell BK260.out 0).trans rfl, (blk_cell BK260.out 1).trans rfl, (blk_cell BK260.out 2).trans rfl, (blk_cell BK241.out 0).trans rfl, (blk_cell BK241.out 1).trans rfl, (blk_cell BK241.out 2).trans rfl⟩ (fun hHeld => ?_)
      generalize wc.drew = w61 at HO_255002 HO_261002 HO_268002 BK241 BK254 BK260 BK267 HB hHeld ⊢
      refine take_ (i := 0) (N := some 41) (v := ?_) (a' := ?_) #[true, false, false, false, false] rfl rfl (by kernel_rfl) (fun _ _ _ h => h) (Or.inl ⟨by rfl, ?_⟩) hHeld ?_ ?_
      rotate_left
      ·rintro w' ⟨s0, s1, s2, s3, s4, s5⟩
       go_simp
       with_reducible rfl
      rotate_left
      ·simp only [Act.put, List.setIfInBounds_toArray, List.set_cons_zero, List.set_cons_succ, i64_w, i32_w]
       rfl
      refine take_ (i := 1) (N := some 42) (v := ?_) (a' := ?_) #[true, true, false, false, false] rfl rfl (by kernel_rfl) (fun _ _ _ h => h) (Or.inl ⟨by rfl, ?_⟩) hHeld ?_ ?_
      rotate_left
      ·rintro w' ⟨s0, s1, s2, s3, s4, s5⟩
       go_simp
       with_reducible rfl
      rotate_left
      ·simp only [Act.put, List.setIfInBounds_toArray, List.set_cons_zero, List.set_cons_succ, i64_w, i32_w]
       rfl
      refine one_ (i := 2) (N := some 43) #[true, true, true, false, false] rfl rfl (by kernel_rfl) (by decide) (fun K hK => ?_)
      refine goes_ Try.func36 (by kernel_rfl) rfl #[.agg #[.int .i64 a0_0, .int .i64 a0_1, .slice A0_2 l0_2.length c0_2]] (by rfl) rfl rfl itp ?_
      with_reducible refine (laws_toCut.calls kj10 a0_0 a0_1 _ _ l0_2 t269 t270 t271 _ ?side1 ?side2 A56.out).mono ?_
      (case side1 => repeat (first | exact (Kd.C_below HR0_2.out HB.out) | (with_reducible refine Kd.C_alloc ?_ _) | (with_reducible refine Kd.C_drewN ?_ _) | (with_reducible refine Kd.C_drew ?_)))
      (case side2 => exact HC0_2.out)
      rintro e w62 ⟨v272, rfl, ho0, hb⟩
      refine ⟨_, rfl, ?_⟩
      have n0_ := Aside0.mk (Kd.R_elder' (upR HO_255002) (Kd.R_base ho0) hb)
      have n1_ := Aside0.mk (Kd.R_elder' (upR HO_261002) (Kd.R_base ho0) hb)
      have n2_ := Aside0.mk (Kd.R_elder' (upR HO_268002) (Kd.R_base ho0) hb)
      have n3_ := Aside0.mk (Kd.R_lower (Kd.R_new' (Kd.R_new' (Kd.R_new' ho0 (Kd.R_lt (upR HO_255002))) (Kd.R_lt (upR HO_261002))) (Kd.R_lt (upR HO_268002))) (below_size (upW HB)))
      have n4_ := Aside0.mk (blk_below (upK BK241) hb)
      have n5_ := Aside0.mk (blk_below (upK BK254) hb)
      have n6_ := Aside0.mk (blk_below (upK BK260) hb)
      have n7_ := Aside0.mk (blk_below (upK BK267) hb)
      have n8_ := Aside0.mk (below_step (upW HB) hb)
      clear HO_255002
      clear HO_261002
      clear HO_268002
      clear BK241
      clear BK254
      clear BK260
      clear BK267
      clear HB
      have HO_255002 := n0_
      have HO_261002 := n1_
      have HO_268002 := n2_
      have HO273 := n3_
      have BK241 := n4_
      have BK254 := n5_
      have BK260 := n6_
      have BK267 := n7_
      have HB := n8_
      clear n0_ n1_ n2_ n3_ n4_ n5_ n6_ n7_ n8_
      (try clear hb)
      (try clear hb2)
      (try clear hk)
      (try clear hi)
      (try clear ho0)
      obtain ⟨Ao63, co63, eo63⟩ := Kd.R_slice HO273.out
      (first | subst eo63 | (injection eo63 with f1_ f2_ f3_; have f4_ := f1_.symm; have f5_ := f3_.symm; clear f1_ f2_ f3_; subst f4_; subst f5_))
      refine hK.out _ _ ⟨(blk_cell BK260.out 0).trans rfl, (blk_cell BK260.out 1).trans rfl, (blk_cell BK260.out 2).trans rfl, (blk_cell BK241.out 0).trans rfl, (blk_cell BK241.out 1).trans rfl, (blk_cell BK241.out 2).trans rfl⟩ (fun hHeld => ?_)
      clear hK K
      refine norm_ (a' := ?_) ?_ ?_
      rotate_left
      ·show Act.put _ (some 43) _ = _
       simp only [Act.put, List.setIfInBounds_toArray, List.set_cons_zero, List.set_cons_succ, i64_w, i32_w]
       rfl
      refine one_ (i := 3) (N := some 44) #[true, true, true, true, false] rfl rfl (by kernel_rfl) (by decide) (fun K hK => ?_)
      refine goes_ Try.func38 (by kernel_rfl) rfl #[.agg #[.int .i64 t255, .int .i64 t256, .slice Ao29 t257.length co29], .agg #[.int .i64 t269, .int .i64 t270, .slice Ao63 t271.length co63]] (by rfl) rfl rfl itp ?_
      with_reducible refine (laws_eqCut.calls kj10 t255 t256 _ _ t257 t269 t270 _ _ t271 true _ ?side1 ?side2 ?side3 ?side4 A57.out).mono ?_
      (case side1 => repeat (first | exact (Kd.R_reads' HO_261002.out).2.2 | (with_reducible refine Kd.C_alloc ?_ _) | (with_reducible refine Kd.C_drewN ?_ _) | (with_reducible refine Kd.C_drew ?_)))
      (case side2 => exact (Kd.R_reads' HO_261002.out).2.1)
      (case side3 => repeat (first | exact (Kd.R_reads' HO273.out).2.2 | (with_reducible refine Kd.C_alloc ?_ _) | (with_reducible refine Kd.C_drewN ?_ _) | (with_reducible refine Kd.C_drew ?_)))
      (case side4 => exact (Kd.R_reads' HO273.out).2.1)
      rintro e w64 ⟨rfl, hb⟩
      refine ⟨_, rfl, ?_⟩
      have n0_ := Aside0.mk (Kd.R_below (upR HO_255002) hb)
      have n1_ := Aside0.mk (Kd.R_below (upR HO_261002) hb)
      have n2_ := Aside0.mk (Kd.R_below (upR HO_268002) hb)
      have n3_ := Aside0.mk (Kd.R_below (upR HO273) hb)
      have n4_ := Aside0.mk (blk_below (upK BK241) hb)
      have n5_ := Aside0.mk (blk_below (upK BK254) hb)
      have n6_ := Aside0.mk (blk_below (upK BK260) hb)
      have n7_ := Aside0.mk (blk_below (upK BK267) hb)
      have n8_ := Aside0.mk (below_step (upW HB) hb)
      clear HO_255002
      clear HO_261002
      clear HO_268002
      clear HO273
      clear BK241
      clear BK254
      clear BK260
      clear BK267
      clear HB
      have HO_255002 := n0_
      have HO_261002 := n1_
      have HO_268002 := n2_
      have HO273 := n3_
      have BK241 := n4_
      have BK254 := n5_
      have BK260 := n6_
      have BK267 := n7_
      have HB := n8_
      clear n0_ n1_ n2_ n3_ n4_ n5_ n6_ n7_ n8_
      (try clear hb)
      (try clear hb2)
      (try clear hk)
      (try clear hi)
      refine hK.out _ _ ⟨(blk_cell BK260.out 0).trans rfl, (blk_cell BK260.out 1).trans rfl, (blk_cell BK260.out 2).trans rfl, (blk_cell BK241.out 0).trans rfl, (blk_cell BK241.out 1).trans rfl, (blk_cell BK241.out 2).trans rfl⟩ (fun hHeld => ?_)
      clear hK K
      refine norm_ (a' := ?_) ?_ ?_
      rotate_left
      ·show Act.put _ (some 44) _ = _
       simp only [Act.put, List.setIfInBounds_toArray, List.set_cons_zero, List.set_cons_succ, i64_w, i32_w]
       rfl
      refine pure_ (i := 4) (N := some 45) (v := ?_) (a' := ?_) #[true, true, true, true, true] rfl rfl (by kernel_rfl) (fun _ _ _ h => h) (Or.inl ⟨by rfl, ?_⟩) ?_ ?_
      rotate_left
      ·intro w'
       go_simp
       with_reducible rfl
      rotate_left
      ·simp only [Act.put, List.setIfInBounds_toArray, List.set_cons_zero, List.set_cons_succ, i64_w, i32_w]
       rfl
      refine done_ (by kernel_rfl) ?_
      have hnb65 := NB260_241.out
      have hnc65 := NB241_260.out
      have hnb66 := NB260_254.out
      have hnc66 := NB254_260.out
      have hnb67 := NB260_267.out
      have hnc67 := NB267_260.out
      have hcz68_0 : w64.cell? ⟨gb260, 0, none⟩ = some (.int .i64 t255) := (blk_cell BK260.out 0).trans rfl
      have hcz68_1 : w64.cell? ⟨gb260, 1, none⟩ = some (.int .i64 t256) := (blk_cell BK260.out 1).trans rfl
      have hcz68_2 : w64.cell? ⟨gb260, 2, none⟩ = some (.slice Ao29 t257.length co29) := (blk_cell BK260.out 2).trans rfl
      have hfz68_0 := blk_frozen BK260.out 0
      have hfz68_1 := blk_frozen BK260.out 1
      have hfz68_2 := blk_frozen BK260.out 2
      go_upto_region 14 with (first | ((with_reducible refine gate_callee (f := 39) rfl ?_); refine goesL_ (some 48) rfl rfl Try.func39 (by kernel_rfl) rfl #[.agg #[.int .i64 t255, .int .i64 t256, .slice Ao29 t257.length co29], .int .i64 1] rfl itp ?_; (with_reducible refine (laws_markCut.calls kj10 t255 t256 (fun k_ => some k_ = (.slice Ao29 t257.length co29 : Value).ownBlock) (.slice Ao29 t257.length co29) t257 1 t275 t276 w _ ?side1 ?side2 A59.out).mono ?_); (case side1 => repeat (first | (with_reducible first | exact HB.out | apply below_alloc | apply pw_below_drewN | apply below_drew1 | refine below_set ?_ GE241.out | refine below_set ?_ GE254.out | refine below_set ?_ GE260.out | refine below_set ?_ GE267.out) | exact HB.out)); (case side2 => exact Kd.R_tight rfl HO_261002.out); rintro e w69 ⟨rfl, hy0, hb, hkp⟩; refine ⟨_, rfl, ?_⟩; have n0_ := Aside0.mk (Kd.R_mono (ok' := fun k_ => some k_ ≠ (.slice Ao29 t257.length co29 : Value).ownBlock ∧ some k_ ≠ (.slice Ao36 t263.length co36 : Value).ownBlock ∧ some k_ ≠ (.slice Ao63 t271.length co63 : Value).ownBlock) (Kd.R_keptB (HO_255002.out) hkp (fun k_ hk_ hs_ => (hk_.1.1) hs_)) (fun k_ hk_ => ⟨hk_.1.1.1, hk_.1.1.2, hk_.1.2⟩)); have n1_ := Aside0.mk (Kd.R_reok rfl hy0 (fun k_ e_ => HO_261002.out.1 k_ e_)); have n2_ := Aside0.mk (Kd.R_mono (ok' := fun k_ => some k_ ≠ (.slice Ao22 t250.length co22 : Value).ownBlock ∧ some k_ ≠ (.slice Ao29 t257.length co29 : Value).ownBlock ∧ some k_ ≠ (.slice Ao63 t271.length co63 : Value).ownBlock) (Kd.R_keptB (HO_268002.out) hkp (fun k_ hk_ hs_ => (hk_.1.2) hs_)) (fun k_ hk_ => ⟨hk_.1.1.1, hk_.1.1.2, hk_.1.2⟩)); have n3_ := Aside0.mk (blk_kept (upK BK241) hkp (fun hs_ => (fun e_ => (Kd.R_ne HO_261002.out BK241.out (by decide)) e_) hs_)); have n4_ := Aside0.mk (blk_kept (upK BK254) hkp (fun hs_ => (fun e_ => (Kd.R_ne HO_261002.out BK254.out (by decide)) e_) hs_)); have n5_ := Aside0.mk (blk_kept (upK BK260) hkp (fun hs_ => (fun e_ => (Kd.R_ne HO_261002.out BK260.out (by decide)) e_) hs_)); have n6_ := Aside0.mk (blk_kept (upK BK267) hkp (fun hs_ => (fun e_ => (Kd.R_ne HO_261002.out BK267.out (by decide)) e_) hs_)); have n7_ := Aside0.mk (Kd.R_mono (ok' := fun k_ => some k_ ≠ (.slice Ao22 t250.length co22 : Value).ownBlock ∧ some k_ ≠ (.slice Ao29 t257.length co29 : Value).ownBlock ∧ some k_ ≠ (.slice Ao36 t263.length co36 : Value).ownBlock) (Kd.R_keptB (HO273.out) hkp (fun k_ hk_ hs_ => (hk_.1.2) hs_)) (fun k_ hk_ => ⟨hk_.1.1.1.2, hk_.1.1.2, hk_.1.2⟩)); have n8_ := Aside0.mk (hb); clear HO_255002; clear HO_261002; clear HO_268002; clear BK241; clear BK254; clear BK260; clear BK267; clear HO273; clear HB; have HO_255002 := n0_; have HO_261002 := n1_; have HO_268002 := n2_; have BK241 := n3_; have BK254 := n4_; have BK260 := n5_; have BK267 := n6_; have HO273 := n7_; have HB := n8_; clear n0_ n1_ n2_ n3_ n4_ n5_ n6_ n7_ n8_; (try clear hb); (try clear hkp); (try clear hy0)))
      (try simp only [Act.put, List.setIfInBounds_toArray, List.set_cons_zero, List.set_cons_succ])
      go_cut [61] (fun v61 wc => ∃ (kq : Nat) (x61_59 : Bool), v61 = .bool x61_59 ∧ Aside0 (laws_FnExactLowCut.j1 kq t253 x61_59 a0_0 a0_1 l0_2 t248 t249 t250 t261 t262 t263 = some r) ∧ Aside0 (kq ≤ kj10) ∧ Aside0 (Kd.R k83 83 wc w.heap.size (fun k_ => some k_ ≠ ((.slice Ao29 t257.length co29) : Value).ownBlock ∧ some k_ ≠ ((.slice Ao36 t263.length co36) : Value).ownBlock) (.slice Ao22 t250.length co22) t250) ∧ Aside0 (Kd.R k83 83 wc w.heap.size (fun k_ => some k_ ≠ ((.slice Ao22 t250.length co22) : Value).ownBlock ∧ some k_ ≠ ((.slice Ao36 t263.length co36) : Value).ownBlock) (.slice Ao29 t257.length co29) t276) ∧ Aside0 (Kd.R k83 83 wc w.heap.size (fun k_ => some k_ ≠ ((.slice Ao22 t250.length co22) : Value).ownBlock ∧ some k_ ≠ ((.slice Ao29 t257.length co29) : Value).ownBlock) (.slice Ao36 t263.length co36) t263) ∧ Aside0 (wc.heap[gb241]? = some (.cells #[.int .i64 a0_0, .int .i64 a0_1, (.slice A0_2 l0_2.length c0_2)] 44 (0, 0))) ∧ Aside0 (wc.heap[gb254]? = some (.cells #[.int .i64 t248, .int .i64 t249, (.slice Ao22 t250.length co22)] 48 (0, 0))) ∧ Aside0 (wc.heap[gb260]? = some (.cells #[.int .i64 t255, .int .i64 t256, (.slice Ao29 t257.length co29)] 48 (0, 0))) ∧ Aside0 (wc.heap[gb267]? = some (.cells #[.int .i64 t261, .int .i64 t262, (.slice Ao36 t263.length co36)] 48 (0, 0))) ∧ Aside0 (Below w.heap.size w wc))
      case first =>
       have H := HC60.out
       clear HC60
       by_cases c70 : t275 < 0
       ·rw [if_pos c70] at H
        have c70b0 : decide (t275 < 0) = true := decide_eq_true c70
        clear c70
        (first | rw [c70b0] | (simp only [i64_w, i32_w]; rw [c70b0]) | skip)
        have H' := Aside0.mk H
        clear H
        go_wp2
        go_meet
        case rel => exact ⟨_, (true), (by first | rfl | (simp; done) | (simp [*]; done)), H', ⟨by have := HJ10.out; first | omega | exact Nat.le_refl _⟩, ⟨by (with_reducible repeat (first | apply Kd.R_alloc | apply Kd.R_drewN | apply Kd.R_drew)); exact Kd.R_mono HO_255002.out (fun _ hk => ⟨hk.1, hk.2.1⟩)⟩, ⟨by (with_reducible repeat (first | apply Kd.R_alloc | apply Kd.R_drewN | apply Kd.R_drew)); exact Kd.R_mono HO_261002.out (fun _ hk => ⟨hk.1.1, hk.1.2⟩)⟩, ⟨by (with_reducible repeat (first | apply Kd.R_alloc | apply Kd.R_drewN | apply Kd.R_drew)); exact Kd.R_mono HO_268002.out (fun _ hk => ⟨hk.1, hk.2.1⟩)⟩, ⟨upK BK241⟩, ⟨upK BK254⟩, ⟨upK BK260⟩, ⟨upK BK267⟩, ⟨upW HB⟩⟩
       ·rw [if_neg c70] at H
        have c70b0 : decide (t275 < 0) = false := decide_eq_false c70
        clear c70
        (first | rw [c70b0] | (simp only [i64_w, i32_w]; rw [c70b0]) | skip)
        replace H := Option.bind_eq_some_iff.mp H
        obtain ⟨t277, A710, H⟩ := H
        replace H : (if t277 = true then (laws_FnExactLowCut.j1 kj10 t253 (t266 != t253) a0_0 a0_1 l0_2 t248 t249 t250 t261 t262 t263) else (laws_FnExactLowCut.j1 kj10 t253 true a0_0 a0_1 l0_2 t248 t249 t250 t261 t262 t263)) = some r := H
        have A71 := Aside0.mk A710
        clear A710
        by_cases c72 : t277 = true
        ·subst c72
         have H1 : (laws_FnExactLowCut.j1 kj10 t253 (t266 != t253) a0_0 a0_1 l0_2 t248 t249 t250 t261 t262 t263) = some r := by rw [if_pos rfl] at H; exact H
         clear H
         have H := H1
         clear H1
         have H' := Aside0.mk H
         clear H
         have hnb73 := NB267_241.out
         have hnc73 := NB241_267.out
         have hnb74 := NB267_254.out
         have hnc74 := NB254_267.out
         have hnb75 := NB267_260.out
         have hnc75 := NB260_267.out
         have hcz76_0 : w69.cell? ⟨gb267, 0, none⟩ = some (.int .i64 t261) := (blk_cell BK267.out 0).trans rfl
         have hcz76_1 : w69.cell? ⟨gb267, 1, none⟩ = some (.int .i64 t262) := (blk_cell BK267.out 1).trans rfl
         have hcz76_2 : w69.cell? ⟨gb267, 2, none⟩ = some (.slice Ao36 t263.length co36) := (blk_cell BK267.out 2).trans rfl
         have hfz76_0 := blk_frozen BK267.out 0
         have hfz76_1 := blk_frozen BK267.out 1
         have hfz76_2 := blk_frozen BK267.out 2
         have hnb77 := NB254_241.out
         have hnc77 := NB241_254.out
         have hnb78 := NB254_260.out
         have hnc78 := NB260_254.out
         have hcz79_0 : w69.cell? ⟨gb254, 0, none⟩ = some (.int .i64 t248) := (blk_cell BK254.out 0).trans rfl
         have hcz79_1 : w69.cell? ⟨gb254, 1, none⟩ = some (.int .i64 t249) := (blk_cell BK254.out 1).trans rfl
         have hcz79_2 : w69.cell? ⟨gb254, 2, none⟩ = some (.slice Ao22 t250.length co22) := (blk_cell BK254.out 2).trans rfl
         have hfz79_0 := blk_frozen BK254.out 0
         have hfz79_1 := blk_frozen BK254.out 1
         have hfz79_2 := blk_frozen BK254.out 2
         go_wp2_with (first | (go_at_call 38; (with_reducible refine (laws_eqCut.calls kj10 t261 t262 _ _ t263 t248 t249 _ _ t250 true _ ?side1 ?side2 ?side3 ?side4 A71.out).mono ?_); (case side1 => repeat (first | exact (Kd.R_reads' HO_268002.out).2.2 | (with_reducible refine Kd.C_alloc ?_ _) | (with_reducible refine Kd.C_drewN ?_ _) | (with_reducible refine Kd.C_drew ?_))); (case side2 => exact (Kd.R_reads' HO_268002.out).2.1); (case side3 => repeat (first | exact (Kd.R_reads' HO_255002.out).2.2 | (with_reducible refine Kd.C_alloc ?_ _) | (with_reducible refine Kd.C_drewN ?_ _) | (with_reducible refine Kd.C_drew ?_))); (case side4 => exact (Kd.R_reads' HO_255002.out).2.1); rintro e w80 ⟨rfl, hb⟩; have n0_ := Aside0.mk (Kd.R_below (upR HO_255002) hb); have n1_ := Aside0.mk (Kd.R_below (upR HO_261002) hb); have n2_ := Aside0.mk (Kd.R_below (upR HO_268002) hb); have n3_ := Aside0.mk (Kd.R_below (upR HO273) hb); have n4_ := Aside0.mk (blk_below (upK BK241) hb); have n5_ := Aside0.mk (blk_below (upK BK254) hb); have n6_ := Aside0.mk (blk_below (upK BK260) hb); have n7_ := Aside0.mk (blk_below (upK BK267) hb); have n8_ := Aside0.mk (below_step (upW HB) hb); clear HO_255002; clear HO_261002; clear HO_268002; clear HO273; clear BK241; clear BK254; clear BK260; clear BK267; clear HB; have HO_255002 := n0_; have HO_261002 := n1_; have HO_268002 := n2_; have HO273 := n3_; have BK241 := n4_; have BK254 := n5_; have BK260 := n6_; have BK267 := n7_; have HB := n8_; clear n0_ n1_ n2_ n3_ n4_ n5_ n6_ n7_ n8_; (try clear hb); (try clear hb2); (try clear hk); (try clear hi)))
         go_meet
         case rel => exact ⟨_, ((t266 != t253)), (by first | rfl | (simp; done) | (simp [*]; done)), H', ⟨by have := HJ10.out; first | omega | exact Nat.le_refl _⟩, ⟨by (with_reducible repeat (first | apply Kd.R_alloc | apply Kd.R_drewN | apply Kd.R_drew)); exact Kd.R_mono HO_255002.out (fun _ hk => ⟨hk.1, hk.2.1⟩)⟩, ⟨by (with_reducible repeat (first | apply Kd.R_alloc | apply Kd.R_drewN | apply Kd.R_drew)); exact Kd.R_mono HO_261002.out (fun _ hk => ⟨hk.1.1, hk.1.2⟩)⟩, ⟨by (with_reducible repeat (first | apply Kd.R_alloc | apply Kd.R_drewN | apply Kd.R_drew)); exact Kd.R_mono HO_268002.out (fun _ hk => ⟨hk.1, hk.2.1⟩)⟩, ⟨upK BK241⟩, ⟨upK BK254⟩, ⟨upK BK260⟩, ⟨upK BK267⟩, ⟨upW HB⟩⟩
        ·replace c72 := Bool.eq_false_iff.mpr c72
         subst c72
         have H1 : (laws_FnExactLowCut.j1 kj10 t253 true a0_0 a0_1 l0_2 t248 t249 t250 t261 t262 t263) = some r := by rw [if_neg (show ¬ (false = true) by decide)] at H; exact H
         clear H
         have H := H1
         clear H1
         have H' := Aside0.mk H
         clear H
         have hnb81 := NB267_241.out
         have hnc81 := NB241_267.out
         have hnb82 := NB267_254.out
         have hnc82 := NB254_267.out
         have hnb83 := NB267_260.out
         have hnc83 := NB260_267.out
         have hcz84_0 : w69.cell? ⟨gb267, 0, none⟩ = some (.int .i64 t261) := (blk_cell BK267.out 0).trans rfl
         have hcz84_1 : w69.cell? ⟨gb267, 1, none⟩ = some (.int .i64 t262) := (blk_cell BK267.out 1).trans rfl
         have hcz84_2 : w69.cell? ⟨gb267, 2, none⟩ = some (.slice Ao36 t263.length co36) := (blk_cell BK267.out 2).trans rfl
         have hfz84_0 := blk_frozen BK267.out 0
         have hfz84_1 := blk_frozen BK267.out 1
         have hfz84_2 := blk_frozen BK267.out 2
         have hnb85 := NB254_241.out
         have hnc85 := NB241_254.out
         have hnb86 := NB254_260.out
         have hnc86 := NB260_254.out
         have hcz87_0 : w69.cell? ⟨gb254, 0, none⟩ = some (.int .i64 t248) := (blk_cell BK254.out 0).trans rfl
         have hcz87_1 : w69.cell? ⟨gb254, 1, none⟩ = some (.int .i64 t249) := (blk_cell BK254.out 1).trans rfl
         have hcz87_2 : w69.cell? ⟨gb254, 2, none⟩ = some (.slice Ao22 t250.length co22) := (blk_cell BK254.out 2).trans rfl
         have hfz87_0 := blk_frozen BK254.out 0
         have hfz87_1 := blk_frozen BK254.out 1
         have hfz87_2 := blk_frozen BK254.out 2
         go_wp2_with (first | (go_at_call 38; (with_reducible refine (laws_eqCut.calls kj10 t261 t262 _ _ t263 t248 t249 _ _ t250 false _ ?side1 ?side2 ?side3 ?side4 A71.out).mono ?_); (case side1 => repeat (first | exact (Kd.R_reads' HO_268002.out).2.2 | (with_reducible refine Kd.C_alloc ?_ _) | (with_reducible refine Kd.C_drewN ?_ _) | (with_reducible refine Kd.C_drew ?_))); (case side2 => exact (Kd.R_reads' HO_268002.out).2.1); (case side3 => repeat (first | exact (Kd.R_reads' HO_255002.out).2.2 | (with_reducible refine Kd.C_alloc ?_ _) | (with_reducible refine Kd.C_drewN ?_ _) | (with_reducible refine Kd.C_drew ?_))); (case side4 => exact (Kd.R_reads' HO_255002.out).2.1); rintro e w88 ⟨rfl, hb⟩; have n0_ := Aside0.mk (Kd.R_below (upR HO_255002) hb); have n1_ := Aside0.mk (Kd.R_below (upR HO_261002) hb); have n2_ := Aside0.mk (Kd.R_below (upR HO_268002) hb); have n3_ := Aside0.mk (Kd.R_below (upR HO273) hb); have n4_ := Aside0.mk (blk_below (upK BK241) hb); have n5_ := Aside0.mk (blk_below (upK BK254) hb); have n6_ := Aside0.mk (blk_below (upK BK260) hb); have n7_ := Aside0.mk (blk_below (upK BK267) hb); have n8_ := Aside0.mk (below_step (upW HB) hb); clear HO_255002; clear HO_261002; clear HO_268002; clear HO273; clear BK241; clear BK254; clear BK260; clear BK267; clear HB; have HO_255002 := n0_; have HO_261002 := n1_; have HO_268002 := n2_; have HO273 := n3_; have BK241 := n4_; have BK254 := n5_; have BK260 := n6_; have BK267 := n7_; have HB := n8_; clear n0_ n1_ n2_ n3_ n4_ n5_ n6_ n7_ n8_; (try clear hb); (try clear hb2); (try clear hk); (try clear hi)))
         go_meet
         case rel => exact ⟨_, (true), (by first | rfl | (simp; done) | (simp [*]; done)), H', ⟨by have := HJ10.out; first | omega | exact Nat.le_refl _⟩, ⟨by (with_reducible repeat (first | apply Kd.R_alloc | apply Kd.R_drewN | apply Kd.R_drew)); exact Kd.R_mono HO_255002.out (fun _ hk => ⟨hk.1, hk.2.1⟩)⟩, ⟨by (with_reducible repeat (first | apply Kd.R_alloc | apply Kd.R_drewN | apply Kd.R_drew)); exact Kd.R_mono HO_261002.out (fun _ hk => ⟨hk.1.1, hk.1.2⟩)⟩, ⟨by (with_reducible repeat (first | apply Kd.R_alloc | apply Kd.R_drewN | apply Kd.R_drew)); exact Kd.R_mono HO_268002.out (fun _ hk => ⟨hk.1, hk.2.1⟩)⟩, ⟨upK BK241⟩, ⟨upK BK254⟩, ⟨upK BK260⟩, ⟨upK BK267⟩, ⟨upW HB⟩⟩
      case rest =>
       clear HC60
       try clear c1
       try clear c2
       try clear p2
       try clear c3
       try clear c3b0
       try clear c4
       try clear c5
       try clear c6
       try clear c7
       try clear c8
       try clear c11
       try clear c20
       try clear c26
       try clear c27
       try clear c32
       try clear c33
       try clear c34
       try clear c36
       try clear c38
       try clear c39
       try clear c40
       try clear c41
       try clear c43
       try clear c44
       try clear c47
       try clear c48
       try clear c49
       try clear c51
       try clear c52
       try clear c55
       try clear c58
       try clear c65
       try clear c66
       try clear c67
       try clear c70
       try clear c70b0
       try clear c72
       try clear c73
       try clear c74
       try clear c75
       try clear c77
       try clear c78
       try clear c81
       try clear c82
       try clear c83
       try clear c85
       try clear c86
       try clear hcz13_0
       try clear hcz13_1
       try clear hcz13_2
       try clear hcz15_0
       try clear hcz15_1
       try clear hcz15_2
       try clear hcz21_0
       try clear hcz21_1
       try clear hcz21_2
       try clear hcz23_0
       try clear hcz23_1
       try clear hcz23_2
       try clear hcz28_0
       try clear hcz28_1
       try clear hcz28_2
       try clear hcz35_0
       try clear hcz35_1
       try clear hcz35_2
       try clear hcz42_0
       try clear hcz42_1
       try clear hcz42_2
       try clear hcz45_0
       try clear hcz45_1
       try clear hcz45_2
       try clear hcz50_0
       try clear hcz50_1
       try clear hcz50_2
       try clear hcz53_0
       try clear hcz53_1
       try clear hcz53_2
       try clear hcz5_0
       try clear hcz5_1
       try clear hcz5_2
       try clear hcz68_0
       try clear hcz68_1
       try clear hcz68_2
       try clear hcz76_0
       try clear hcz76_1
       try clear hcz76_2
       try clear hcz79_0
       try clear hcz79_1
       try clear hcz79_2
       try clear hcz84_0
       try clear hcz84_1
       try clear hcz84_2
       try clear hcz87_0
       try clear hcz87_1
       try clear hcz87_2
       try clear hfz13_0
       try clear hfz13_1
       try clear hfz13_2
       try clear hfz15_0
       try clear hfz15_1
       try clear hfz15_2
       try clear hfz21_0
       try clear hfz21_1
       try clear hfz21_2
       try clear hfz23_0
       try clear hfz23_1
       try clear hfz23_2
       try clear hfz28_0
       try clear hfz28_1
       try clear hfz28_2
       try clear hfz35_0
       try clear hfz35_1
       try clear hfz35_2
       try clear hfz42_0
       try clear hfz42_1
       try clear hfz42_2
       try clear hfz45_0
       try clear hfz45_1
       try clear hfz45_2
       try clear hfz50_0
       try clear hfz50_1
       try clear hfz50_2
       try clear hfz53_0
       try clear hfz53_1
       try clear hfz53_2
       try clear hfz5_0
       try clear hfz5_1
       try clear hfz5_2
       try clear hfz68_0
       try clear hfz68_1
       try clear hfz68_2
       try clear hfz76_0
       try clear hfz76_1
       try clear hfz76_2
       try clear hfz79_0
       try clear hfz79_1
       try clear hfz79_2
       try clear hfz84_0
       try clear hfz84_1
       try clear hfz84_2
       try clear hfz87_0
       try clear hfz87_1
       try clear hfz87_2
       try clear p2
       obtain ⟨kq, x61_59, rfl, HA, HJ59, HO_255002, HO_261002, HO_268002, BK241, BK254, BK260, BK267, HB⟩ := hcut
       have hl261002_59 := (Kd.R_reads' HO_261002.out).1
       rw [hl261002_59] at HO_261002
       (try simp only [hl261002_59])
       (try simp only [hl261002_59] at BK241)
       (try simp only [hl261002_59] at BK254)
       (try simp only [hl261002_59] at BK260)
       (try simp only [hl261002_59] at BK267)
       (try simp only [hl261002_59] at HO_255002)
       (try simp only [hl261002_59] at HO_268002)
       cases kq with
       | zero => exact absurd HA.out (by simp [laws_FnExactLowCut.j1])
       | succ kj59 =>
        have H := HA.out
        clear HA
        simp only [laws_FnExactLowCut.j1] at H
        by_cases c89 : x61_59 = true
        ·subst c89
         have H1 : (some false) = some r := by rw [if_pos rfl] at H; exact H
         clear H
         have H := H1
         clear H1
         obtain rfl := Option.some.inj H
         go_wp2
         go_ret
         exact ⟨by first | rfl | (simp [errW_none, errW_some] <;> rfl) | (simp [*, errW_none, errW_some] <;> rfl), by repeat (first | (with_reducible first | exact HB.out | apply below_alloc | apply pw_below_drewN | apply below_drew1 | refine below_set ?_ GE241.out | refine below_set ?_ GE254.out | refine below_set ?_ GE260.out | refine below_set ?_ GE267.out) | exact HB.out)⟩
        ·replace c89 := Bool.eq_false_iff.mpr c89
         subst c89
         have H1 : ((laws_markCut.f kj59 t261 t262 t263 1).bind fun bt278 => ((laws_heldCut.f kj59 t261 t262 bt278.2 1).bind fun t280 => (if t280 < 0 then (some false) else (if t280 = bt278.1 then ((laws_toCut.f kj59 a0_0 a0_1 l0_2).bind fun bt281 => ((impl_LowCut.f kj59 bt281.1 bt281.2.1 bt281.2.2).bind fun bt286 => ((laws_eqCut.f kj59 bt286.1 bt286.2.1 bt286.2.2.1 t248 t249 t250).bind fun t293 => (if t293 = true then (laws_FnExactLowCut.j2 kj59 bt278.1 (bt286.2.2.2 != t253) t261 t262 bt278.2) else (laws_FnExactLowCut.j2 kj59 bt278.1 true t261 t262 bt278.2))))) else (some false))))) = some r := by rw [if_neg (show ¬ (false = true) by decide)] at H; exact H
         clear H
         have H := H1
         clear H1
         replace H := Option.bind_eq_some_iff.mp H
         obtain ⟨⟨t278, t279⟩, A900, H⟩ := H
         replace H : ((laws_heldCut.f kj59 t261 t262 t279 1).bind fun t280 => (if t280 < 0 then (some false) else (if t280 = t278 then ((laws_toCut.f kj59 a0_0 a0_1 l0_2).bind fun bt281 => ((impl_LowCut.f kj59 bt281.1 bt281.2.1 bt281.2.2).bind fun bt286 => ((laws_eqCut.f kj59 bt286.1 bt286.2.1 bt286.2.2.1 t248 t249 t250).bind fun t293 => (if t293 = true then (laws_FnExactLowCut.j2 kj59 t278 (bt286.2.2.2 != t253) t261 t262 t279) else (laws_FnExactLowCut.j2 kj59 t278 true t261 t262 t279))))) else (some false)))) = some r := H
         have A90 := Aside0.mk A900
         clear A900
         replace H := Option.bind_eq_some_iff.mp H
         obtain ⟨t280, A910, H⟩ := H
         replace H : (if t280 < 0 then (some false) else (if t280 = t278 then ((laws_toCut.f kj59 a0_0 a0_1 l0_2).bind fun bt281 => ((impl_LowCut.f kj59 bt281.1 bt281.2.1 bt281.2.2).bind fun bt286 => ((laws_eqCut.f kj59 bt286.1 bt286.2.1 bt286.2.2.1 t248 t249 t250).bind fun t293 => (if t293 = true then (laws_FnExactLowCut.j2 kj59 t278 (bt286.2.2.2 != t253) t261 t262 t279) else (laws_FnExactLowCut.j2 kj59 t278 true t261 t262 t279))))) else (some false))) = some r := H
         have A91 := Aside0.mk A910
         clear A910
         by_cases c92 : t280 < 0
         ·rw [if_pos c92] at H
          have c92b0 : decide (t280 < 0) = true := decide_eq_true c92
          clear c92
          obtain rfl := Option.some.inj H
          have hnb93 := NB267_241.out
          have hnc93 := NB241_267.out
          have hnb94 := NB267_254.out
          have hnc94 := NB254_267.out
          have hnb95 := NB267_260.out
          have hnc95 := NB260_267.out
          have hcz96_0 : wc.cell? ⟨gb267, 0, none⟩ = some (.int .i64 t261) := (blk_cell BK267.out 0).trans rfl
          have hcz96_1 : wc.cell? ⟨gb267, 1, none⟩ = some (.int .i64 t262) := (blk_cell BK267.out 1).trans rfl
          have hcz96_2 : wc.cell? ⟨gb267, 2, none⟩ = some (.slice Ao36 t263.length co36) := (blk_cell BK267.out 2).trans rfl
          have hfz96_0 := blk_frozen BK267.out 0
          have hfz96_1 := blk_frozen BK267.out 1
          have hfz96_2 := blk_frozen BK267.out 2
          go_wp2_with (first | ((with_reducible refine gate_callee (f := 39) rfl ?_); refine goesL_ (some 64) rfl rfl Try.func39 (by kernel_rfl) rfl #[.agg #[.int .i64 t261, .int .i64 t262, .slice Ao36 t263.length co36], .int .i64 1] rfl itp ?_; (with_reducible refine (laws_markCut.calls kj59 t261 t262 (fun k_ => some k_ = (.slice Ao36 t263.length co36 : Value).ownBlock) (.slice Ao36 t263.length co36) t263 1 t278 t279 w _ ?side1 ?side2 A90.out).mono ?_); (case side1 => repeat (first | (with_reducible first | exact HB.out | apply below_alloc | apply pw_below_drewN | apply below_drew1 | refine below_set ?_ GE241.out | refine below_set ?_ GE254.out | refine below_set ?_ GE260.out | refine below_set ?_ GE267.out) | exact HB.out)); (case side2 => exact Kd.R_tight rfl HO_268002.out); rintro e w97 ⟨rfl, hy0, hb, hkp⟩; refine ⟨_, rfl, ?_⟩; have n0_ := Aside0.mk (Kd.R_mono (ok' := fun k_ => some k_ ≠ (.slice Ao29 t276.length co29 : Value).ownBlock ∧ some k_ ≠ (.slice Ao36 t263.length co36 : Value).ownBlock) (Kd.R_keptB (HO_255002.out) hkp (fun k_ hk_ hs_ => (hk_.2) hs_)) (fun k_ hk_ => ⟨hk_.1.1, hk_.1.2⟩)); have n1_ := Aside0.mk (Kd.R_mono (ok' := fun k_ => some k_ ≠ (.slice Ao22 t250.length co22 : Value).ownBlock ∧ some k_ ≠ (.slice Ao36 t263.length co36 : Value).ownBlock) (Kd.R_keptB (HO_261002.out) hkp (fun k_ hk_ hs_ => (hk_.2) hs_)) (fun k_ hk_ => ⟨hk_.1.1, hk_.1.2⟩)); have n2_ := Aside0.mk (Kd.R_reok rfl hy0 (fun k_ e_ => HO_268002.out.1 k_ e_)); have n3_ := Aside0.mk (blk_kept (upK BK241) hkp (fun hs_ => (fun e_ => (Kd.R_ne HO_268002.out BK241.out (by decide)) e_) hs_)); have n4_ := Aside0.mk (blk_kept (upK BK254) hkp (fun hs_ => (fun e_ => (Kd.R_ne HO_268002.out BK254.out (by decide)) e_) hs_)); have n5_ := Aside0.mk (blk_kept (upK BK260) hkp (fun hs_ => (fun e_ => (Kd.R_ne HO_268002.out BK260.out (by decide)) e_) hs_)); have n6_ := Aside0.mk (blk_kept (upK BK267) hkp (fun hs_ => (fun e_ => (Kd.R_ne HO_268002.out BK267.out (by decide)) e_) hs_)); have n7_ := Aside0.mk (hb); clear HO_255002; clear HO_261002; clear HO_268002; clear BK241; clear BK254; clear BK260; clear BK267; clear HB; have HO_255002 := n0_; have HO_261002 := n1_; have HO_268002 := n2_; have BK241 := n3_; have BK254 := n4_; have BK260 := n5_; have BK267 := n6_; have HB := n7_; clear n0_ n1_ n2_ n3_ n4_ n5_ n6_ n7_; (try clear hb); (try clear hkp); (try clear hy0); have hcz98_0 : w97.cell? ⟨gb267, 0, none⟩ = some (.int .i64 t261) := (blk_cell BK267.out 0).trans rfl; have hcz98_1 : w97.cell? ⟨gb267, 1, none⟩ = some (.int .i64 t262) := (blk_cell BK267.out 1).trans rfl; have hcz98_2 : w97.cell? ⟨gb267, 2, none⟩ = some (.slice Ao36 t263.length co36) := (blk_cell BK267.out 2).trans rfl; have hfz98_0 := blk_frozen BK267.out 0; have hfz98_1 := blk_frozen BK267.out 1; have hfz98_2 := blk_frozen BK267.out 2) | ((with_reducible refine gate_callee (f := 40) rfl ?_); refine goesL_ (some 67) rfl rfl Try.func40 (by kernel_rfl) rfl #[.agg #[.int .i64 t261, .int .i64 t262, .slice Ao36 t279.length co36], .int .i64 1] rfl (by (try simp only [List.map_toArray, List.map_cons, List.map_nil]); first | done | (rw [show t279.length = t263.length from (Kd.R_reads' HO_268002.out).1.symm] <;> rfl) | rfl | (simp only [List.length_drop, List.length_take]; rfl)) ?_; (with_reducible refine (laws_heldCut.calls kj59 t261 t262 _ _ t279 1 t280 _ ?side1 ?side2 A91.out).mono ?_); (case side1 => repeat (first | exact (Kd.R_reads' HO_268002.out).2.2 | (with_reducible refine Kd.C_alloc ?_ _) | (with_reducible refine Kd.C_drewN ?_ _) | (with_reducible refine Kd.C_drew ?_))); (case side2 => rw [show t279.length = t263.length from (Kd.R_reads' HO_268002.out).1.symm]; exact (Kd.R_reads' HO_268002.out).2.1); rintro e w99 ⟨rfl, hb⟩; refine ⟨_, rfl, ?_⟩; have n0_ := Aside0.mk (Kd.R_below (upR HO_255002) hb); have n1_ := Aside0.mk (Kd.R_below (upR HO_261002) hb); have n2_ := Aside0.mk (Kd.R_below (upR HO_268002) hb); have n3_ := Aside0.mk (blk_below (upK BK241) hb); have n4_ := Aside0.mk (blk_below (upK BK254) hb); have n5_ := Aside0.mk (blk_below (upK BK260) hb); have n6_ := Aside0.mk (blk_below (upK BK267) hb); have n7_ := Aside0.mk (below_step (upW HB) hb); clear HO_255002; clear HO_261002; clear HO_268002; clear BK241; clear BK254; clear BK260; clear BK267; clear HB; have HO_255002 := n0_; have HO_261002 := n1_; have HO_268002 := n2_; have BK241 := n3_; have BK254 := n4_; have BK260 := n5_; have BK267 := n6_; have HB := n7_; clear n0_ n1_ n2_ n3_ n4_ n5_ n6_ n7_; (try clear hb); (try clear hb2); (try clear hk); (try clear hi)))
          go_ret
          exact ⟨by first | rfl | (simp [errW_none, errW_some] <;> rfl) | (simp [*, errW_none, errW_some] <;> rfl), by repeat (first | (with_reducible first | exact HB.out | apply below_alloc | apply pw_below_drewN | apply below_drew1 | refine below_set ?_ GE241.out | refine below_set ?_ GE254.out | refine below_set ?_ GE260.out | refine below_set ?_ GE267.out) | exact HB.out)⟩
         ·rw [if_neg c92] at H
          have c92b0 : decide (t280 < 0) = false := decide_eq_false c92
          clear c92
          by_cases c100 : t280 = t278
          ·rw [if_pos c100] at H
           have c100b0 : (t280 == t278) = true := beq_iff_eq.mpr c100
           have c100b1 : (t280 != t278) = false := bne_eq_false_iff_eq.mpr c100
           clear c100
           replace H := Option.bind_eq_some_iff.mp H
           obtain ⟨⟨t281, t282, t283⟩, A1010, H⟩ := H
           replace H : ((impl_LowCut.f kj59 t281 t282 t283).bind fun bt286 => ((laws_eqCut.f kj59 bt286.1 bt286.2.1 bt286.2.2.1 t248 t249 t250).bind fun t293 => (if t293 = true then (laws_FnExactLowCut.j2 kj59 t278 (bt286.2.2.2 != t253) t261 t262 t279) else (laws_FnExactLowCut.j2 kj59 t278 true t261 t262 t279)))) = some r := H
           have A101 := Aside0.mk A1010
           clear A1010
           replace H := Option.bind_eq_some_iff.mp H
           obtain ⟨⟨t286, t287, t288, t291⟩, A1020, H⟩ := H
           replace H : ((laws_eqCut.f kj59 t286 t287 t288 t248 t249 t250).bind fun t293 => (if t293 = true then (laws_FnExactLowCut.j2 kj59 t278 (t291 != t253) t261 t262 t279) else (laws_FnExactLowCut.j2 kj59 t278 true t261 t262 t279))) = some r := H
           have A102 := Aside0.mk A1020
           clear A1020
           have HC103 := Aside0.mk H
           clear H
           have hnb104 := NB267_241.out
           have hnc104 := NB241_267.out
           have hnb105 := NB267_254.out
           have hnc105 := NB254_267.out
           have hnb106 := NB267_260.out
           have hnc106 := NB260_267.out
           have hcz107_0 : wc.cell? ⟨gb267, 0, none⟩ = some (.int .i64 t261) := (blk_cell BK267.out 0).trans rfl
           have hcz107_1 : wc.cell? ⟨gb267, 1, none⟩ = some (.int .i64 t262) := (blk_cell BK267.out 1).trans rfl
           have hcz107_2 : wc.cell? ⟨gb267, 2, none⟩ = some (.slice Ao36 t263.length co36) := (blk_cell BK267.out 2).trans rfl
           have hfz107_0 := blk_frozen BK267.out 0
           have hfz107_1 := blk_frozen BK267.out 1
           have hfz107_2 := blk_frozen BK267.out 2
           go_upto_region 25 with (first | ((with_reducible refine gate_callee (f := 39) rfl ?_); refine goesL_ (some 64) rfl rfl Try.func39 (by kernel_rfl) rfl #[.agg #[.int .i64 t261, .int .i64 t262, .slice Ao36 t263.length co36], .int .i64 1] rfl itp ?_; (with_reducible refine (laws_markCut.calls kj59 t261 t262 (fun k_ => some k_ = (.slice Ao36 t263.length co36 : Value).ownBlock) (.slice Ao36 t263.length co36) t263 1 t278 t279 w _ ?side1 ?side2 A90.out).mono ?_); (case side1 => repeat (first | (with_reducible first | exact HB.out | apply below_alloc | apply pw_below_drewN | apply below_drew1 | refine below_set ?_ GE241.out | refine below_set ?_ GE254.out | refine below_set ?_ GE260.out | refine below_set ?_ GE267.out) | exact HB.out)); (case side2 => exact Kd.R_tight rfl HO_268002.out); rintro e w108 ⟨rfl, hy0, hb, hkp⟩; refine ⟨_, rfl, ?_⟩; have n0_ := Aside0.mk (Kd.R_mono (ok' := fun k_ => some k_ ≠ (.slice Ao29 t276.length co29 : Value).ownBlock ∧ some k_ ≠ (.slice Ao36 t263.length co36 : Value).ownBlock) (Kd.R_keptB (HO_255002.out) hkp (fun k_ hk_ hs_ => (hk_.2) hs_)) (fun k_ hk_ => ⟨hk_.1.1, hk_.1.2⟩)); have n1_ := Aside0.mk (Kd.R_mono (ok' := fun k_ => some k_ ≠ (.slice Ao22 t250.length co22 : Value).ownBlock ∧ some k_ ≠ (.slice Ao36 t263.length co36 : Value).ownBlock) (Kd.R_keptB (HO_261002.out) hkp (fun k_ hk_ hs_ => (hk_.2) hs_)) (fun k_ hk_ => ⟨hk_.1.1, hk_.1.2⟩)); have n2_ := Aside0.mk (Kd.R_reok rfl hy0 (fun k_ e_ => HO_268002.out.1 k_ e_)); have n3_ := Aside0.mk (blk_kept (upK BK241) hkp (fun hs_ => (fun e_ => (Kd.R_ne HO_268002.out BK241.out (by decide)) e_) hs_)); have n4_ := Aside0.mk (blk_kept (upK BK254) hkp (fun hs_ => (fun e_ => (Kd.R_ne HO_268002.out BK254.out (by decide)) e_) hs_)); have n5_ := Aside0.mk (blk_kept (upK BK260) hkp (fun hs_ => (fun e_ => (Kd.R_ne HO_268002.out BK260.out (by decide)) e_) hs_)); have n6_ := Aside0.mk (blk_kept (upK BK267) hkp (fun hs_ => (fun e_ => (Kd.R_ne HO_268002.out BK267.out (by decide)) e_) hs_)); have n7_ := Aside0.mk (hb); clear HO_255002; clear HO_261002; clear HO_268002; clear BK241; clear BK254; clear BK260; clear BK267; clear HB; have HO_255002 := n0_; have HO_261002 := n1_; have HO_268002 := n2_; have BK241 := n3_; have BK254 := n4_; have BK260 := n5_; have BK267 := n6_; have HB := n7_; clear n0_ n1_ n2_ n3_ n4_ n5_ n6_ n7_; (try clear hb); (try clear hkp); (try clear hy0); have hcz109_0 : w108.cell? ⟨gb267, 0, none⟩ = some (.int .i64 t261) := (blk_cell BK267.out 0).trans rfl; have hcz109_1 : w108.cell? ⟨gb267, 1, none⟩ = some (.int .i64 t262) := (blk_cell BK267.out 1).trans rfl; have hcz109_2 : w108.cell? ⟨gb267, 2, none⟩ = some (.slice Ao36 t263.length co36) := (blk_cell BK267.out 2).trans rfl; have hfz109_0 := blk_frozen BK267.out 0; have hfz109_1 := blk_frozen BK267.out 1; have hfz109_2 := blk_frozen BK267.out 2) | ((with_reducible refine gate_callee (f := 40) rfl ?_); refine goesL_ (some 67) rfl rfl Try.func40 (by kernel_rfl) rfl #[.agg #[.int .i64 t261, .int .i64 t262, .slice Ao36 t279.length co36], .int .i64 1] rfl (by (try simp only [List.map_toArray, List.map_cons, List.map_nil]); first | done | (rw [show t279.length = t263.length from (Kd.R_reads' HO_268002.out).1.symm] <;> rfl) | rfl | (simp only [List.length_drop, List.length_take]; rfl)) ?_; (with_reducible refine (laws_heldCut.calls kj59 t261 t262 _ _ t279 1 t280 _ ?side1 ?side2 A91.out).mono ?_); (case side1 => repeat (first | exact (Kd.R_reads' HO_268002.out).2.2 | (with_reducible refine Kd.C_alloc ?_ _) | (with_reducible refine Kd.C_drewN ?_ _) | (with_reducible refine Kd.C_drew ?_))); (case side2 => rw [show t279.length = t263.length from (Kd.R_reads' HO_268002.out).1.symm]; exact (Kd.R_reads' HO_268002.out).2.1); rintro e w110 ⟨rfl, hb⟩; refine ⟨_, rfl, ?_⟩; have n0_ := Aside0.mk (Kd.R_below (upR HO_255002) hb); have n1_ := Aside0.mk (Kd.R_below (upR HO_261002) hb); have n2_ := Aside0.mk (Kd.R_below (upR HO_268002) hb); have n3_ := Aside0.mk (blk_below (upK BK241) hb); have n4_ := Aside0.mk (blk_below (upK BK254) hb); have n5_ := Aside0.mk (blk_below (upK BK260) hb); have n6_ := Aside0.mk (blk_below (upK BK267) hb); have n7_ := Aside0.mk (below_step (upW HB) hb); clear HO_255002; clear HO_261002; clear HO_268002; clear BK241; clear BK254; clear BK260; clear BK267; clear HB; have HO_255002 := n0_; have HO_261002 := n1_; have HO_268002 := n2_; have BK241 := n3_; have BK254 := n4_; have BK260 := n5_; have BK267 := n6_; have HB := n7_; clear n0_ n1_ n2_ n3_ n4_ n5_ n6_ n7_; (try clear hb); (try clear hb2); (try clear hk); (try clear hi); have hnb111 := NB241_254.out; have hnc111 := NB254_241.out; have hnb112 := NB241_260.out; have hnc112 := NB260_241.out; have hcz113_0 : w110.cell? ⟨gb241, 0, none⟩ = some (.int .i64 a0_0) := (blk_cell BK241.out 0).trans rfl; have hcz113_1 : w110.cell? ⟨gb241, 1, none⟩ = some (.int .i64 a0_1) := (blk_cell BK241.out 1).trans rfl; have hcz113_2 : w110.cell? ⟨gb241, 2, none⟩ = some (.slice A0_2 l0_2.length c0_2) := (blk_cell BK241.out 2).trans rfl; have hfz113_0 := blk_frozen BK241.out 0; have hfz113_1 := blk_frozen BK241.out 1; have hfz113_2 := blk_frozen BK241.out 2) | ((with_reducible refine gate_callee (f := 36) rfl ?_); refine goesL_ (some 75) rfl rfl Try.func36 (by kernel_rfl) rfl #[.agg #[.int .i64 a0_0, .int .i64 a0_1, .slice A0_2 l0_2.length c0_2]] rfl itp ?_; (with_reducible refine (laws_toCut.calls kj59 a0_0 a0_1 _ _ l0_2 t281 t282 t283 _ ?side1 ?side2 A101.out).mono ?_); (case side1 => repeat (first | exact (Kd.C_below HR0_2.out HB.out) | (with_reducible refine Kd.C_alloc ?_ _) | (with_reducible refine Kd.C_drewN ?_ _) | (with_reducible refine Kd.C_drew ?_))); (case side2 => exact HC0_2.out); rintro e w114 ⟨v284, rfl, ho0, hb⟩; refine ⟨_, rfl, ?_⟩; have n0_ := Aside0.mk (Kd.R_elder' (upR HO_255002) (Kd.R_base ho0) hb); have n1_ := Aside0.mk (Kd.R_elder' (upR HO_261002) (Kd.R_base ho0) hb); have n2_ := Aside0.mk (Kd.R_elder' (upR HO_268002) (Kd.R_base ho0) hb); have n3_ := Aside0.mk (Kd.R_lower (Kd.R_new' (Kd.R_new' (Kd.R_new' ho0 (Kd.R_lt (upR HO_255002))) (Kd.R_lt (upR HO_261002))) (Kd.R_lt (upR HO_268002))) (below_size (upW HB))); have n4_ := Aside0.mk (blk_below (upK BK241) hb); have n5_ := Aside0.mk (blk_below (upK BK254) hb); have n6_ := Aside0.mk (blk_below (upK BK260) hb); have n7_ := Aside0.mk (blk_below (upK BK267) hb); have n8_ := Aside0.mk (below_step (upW HB) hb); clear HO_255002; clear HO_261002; clear HO_268002; clear BK241; clear BK254; clear BK260; clear BK267; clear HB; have HO_255002 := n0_; have HO_261002 := n1_; have HO_268002 := n2_; have HO285 := n3_; have BK241 := n4_; have BK254 := n5_; have BK260 := n6_; have BK267 := n7_; have HB := n8_; clear n0_ n1_ n2_ n3_ n4_ n5_ n6_ n7_ n8_; (try clear hb); (try clear hb2); (try clear hk); (try clear hi); (try clear ho0); obtain ⟨Ao115, co115, eo115⟩ := Kd.R_slice HO285.out; subst eo115) | ((with_reducible refine gate_callee (f := 44) rfl ?_); refine goesL_ (some 76) rfl rfl Try.func44 (by kernel_rfl) rfl #[.agg #[.int .i64 t281, .int .i64 t282, .slice Ao115 t283.length co115]] rfl itp ?_; (with_reducible refine (impl_LowCut.calls kj59 t281 t282 _ _ t283 t286 t287 t288 t291 _ ?side1 ?side2 A102.out).mono ?_); (case side1 => repeat (first | exact (Kd.R_reads' HO285.out).2.2 | (with_reducible refine Kd.C_alloc ?_ _) | (with_reducible refine Kd.C_drewN ?_ _) | (with_reducible refine Kd.C_drew ?_))); (case side2 => exact (Kd.R_reads' HO285.out).2.1); rintro e w116 ⟨v289, rfl, ho0, hb⟩; refine ⟨_, rfl, ?_⟩; have n0_ := Aside0.mk (Kd.R_elder' (upR HO_255002) (Kd.R_base ho0) hb); have n1_ := Aside0.mk (Kd.R_elder' (upR HO_261002) (Kd.R_base ho0) hb); have n2_ := Aside0.mk (Kd.R_elder' (upR HO_268002) (Kd.R_base ho0) hb); have n3_ := Aside0.mk (Kd.R_elder' (upR HO285) (Kd.R_base ho0) hb); have n4_ := Aside0.mk (Kd.R_lower (Kd.R_new' (Kd.R_new' (Kd.R_new' (Kd.R_new' ho0 (Kd.R_lt (upR HO_255002))) (Kd.R_lt (upR HO_261002))) (Kd.R_lt (upR HO_268002))) (Kd.R_lt (upR HO285))) (below_size (upW HB))); have n5_ := Aside0.mk (blk_below (upK BK241) hb); have n6_ := Aside0.mk (blk_below (upK BK254) hb); have n7_ := Aside0.mk (blk_below (upK BK260) hb); have n8_ := Aside0.mk (blk_below (upK BK267) hb); have n9_ := Aside0.mk (below_step (upW HB) hb); clear HO_255002; clear HO_261002; clear HO_268002; clear HO285; clear BK241; clear BK254; clear BK260; clear BK267; clear HB; have HO_255002 := n0_; have HO_261002 := n1_; have HO_268002 := n2_; have HO285 := n3_; have HO290 := n4_; have BK241 := n5_; have BK254 := n6_; have BK260 := n7_; have BK267 := n8_; have HB := n9_; clear n0_ n1_ n2_ n3_ n4_ n5_ n6_ n7_ n8_ n9_; (try clear hb); (try clear hb2); (try clear hk); (try clear hi); (try clear ho0)) | ((with_reducible refine gate_dst (N := 12) rfl ?_); refine box_event ?hg (N := 12) ?hd (cs := #[.int .i64 0, .int .i64 0, .slice none 0 0]) (t := 48) ?hr ?_; (case hd => rfl); (case hg => rfl); (case hr => first | (go_simp; done) | (go_simp; rfl)); intro gb292 hg w117 hbox hb; have n0_ := Aside0.mk (Kd.R_below (upR HO_255002) hb); have n1_ := Aside0.mk (Kd.R_below (upR HO_261002) hb); have n2_ := Aside0.mk (Kd.R_below (upR HO_268002) hb); have n3_ := Aside0.mk (Kd.R_below (upR HO285) hb); have n4_ := Aside0.mk (Kd.R_below (upR HO290) hb); have n5_ := Aside0.mk (blk_below (upK BK241) hb); have n6_ := Aside0.mk (blk_below (upK BK254) hb); have n7_ := Aside0.mk (blk_below (upK BK260) hb); have n8_ := Aside0.mk (blk_below (upK BK267) hb); have n9_ := Aside0.mk (below_step (upW HB) hb); have n10_ := Aside0.mk (hbox); have n11_ := Aside0.mk ((by rw [hg]; exact (below_size (upW HB)) : w.heap.size ≤ gb292)); have n12_ := Aside0.mk ((by rw [hg]; exact (below_size (upW HB)) : w.heap.size ≤ gb292)); have n13_ := Aside0.mk ((by rw [hg]; exact Nat.ne_of_lt (blk_lt (upK BK241)) : gb241 ≠ gb292)); have n14_ := Aside0.mk ((by rw [hg]; exact Nat.ne_of_gt (blk_lt (upK BK241)) : gb292 ≠ gb241)); have n15_ := Aside0.mk ((by rw [hg]; exact Nat.ne_of_lt (blk_lt (upK BK254)) : gb254 ≠ gb292)); have n16_ := Aside0.mk ((by rw [hg]; exact Nat.ne_of_gt (blk_lt (upK BK254)) : gb292 ≠ gb254)); have n17_ := Aside0.mk ((by rw [hg]; exact Nat.ne_of_lt (blk_lt (upK BK260)) : gb260 ≠ gb292)); have n18_ := Aside0.mk ((by rw [hg]; exact Nat.ne_of_gt (blk_lt (upK BK260)) : gb292 ≠ gb260)); have n19_ := Aside0.mk ((by rw [hg]; exact Nat.ne_of_lt (blk_lt (upK BK267)) : gb267 ≠ gb292)); have n20_ := Aside0.mk ((by rw [hg]; exact Nat.ne_of_gt (blk_lt (upK BK267)) : gb292 ≠ gb267)); clear HO_255002; clear HO_261002; clear HO_268002; clear HO285; clear HO290; clear BK241; clear BK254; clear BK260; clear BK267; clear HB; have HO_255002 := n0_; have HO_261002 := n1_; have HO_268002 := n2_; have HO285 := n3_; have HO290 := n4_; have BK241 := n5_; have BK254 := n6_; have BK260 := n7_; have BK267 := n8_; have HB := n9_; have BK292 := n10_; have GW292 := n11_; have GE292 := n12_; have NB241_292 := n13_; have NB292_241 := n14_; have NB254_292 := n15_; have NB292_254 := n16_; have NB260_292 := n17_; have NB292_260 := n18_; have NB267_292 := n19_; have NB292_267 := n20_; clear n0_ n1_ n2_ n3_ n4_ n5_ n6_ n7_ n8_ n9_ n10_ n11_ n12_ n13_ n14_ n15_ n16_ n17_ n18_ n19_ n20_; clear hb hbox hg; have hnb118 := NB292_241.out; have hnc118 := NB241_292.out; have hnb119 := NB292_254.out; have hnc119 := NB254_292.out; have hnb120 := NB292_260.out; have hnc120 := NB260_292.out; have hnb121 := NB292_267.out; have hnc121 := NB267_292.out; have hcz122_0 : w117.cell? ⟨gb292, 0, none⟩ = some (.int .i64 0) := (blk_cell BK292.out 0).trans rfl; have hcz122_1 : w117.cell? ⟨gb292, 1, none⟩ = some (.int .i64 0) := (blk_cell BK292.out 1).trans rfl; have hcz122_2 : w117.cell? ⟨gb292, 2, none⟩ = some (.slice none 0 0) := (blk_cell BK292.out 2).trans rfl; have hfz122_0 := blk_frozen BK292.out 0; have hfz122_1 := blk_frozen BK292.out 1; have hfz122_2 := blk_frozen BK292.out 2; obtain ⟨Ao123, co123, eo123⟩ := Kd.R_slice HO290.out; subst eo123))
           (try simp only [Act.put, List.setIfInBounds_toArray, List.set_cons_zero, List.set_cons_succ])
           go_cut [87] (fun v87 wc => ∃ (kq : Nat) (x87_102 : Bool), v87 = .bool x87_102 ∧ Aside0 (laws_FnExactLowCut.j2 kq t278 x87_102 t261 t262 t279 = some r) ∧ Aside0 (kq ≤ kj59) ∧ Aside0 (Kd.R k83 83 wc w.heap.size (fun k_ => some k_ ≠ ((.slice Ao29 t276.length co29) : Value).ownBlock ∧ some k_ ≠ ((.slice Ao36 t263.length co36) : Value).ownBlock ∧ some k_ ≠ ((.slice Ao123 t288.length co123) : Value).ownBlock) (.slice Ao22 t250.length co22) t250) ∧ Aside0 (Kd.R k83 83 wc w.heap.size (fun k_ => some k_ ≠ ((.slice Ao22 t250.length co22) : Value).ownBlock ∧ some k_ ≠ ((.slice Ao36 t263.length co36) : Value).ownBlock ∧ some k_ ≠ ((.slice Ao123 t288.length co123) : Value).ownBlock) (.slice Ao29 t276.length co29) t276) ∧ Aside0 (Kd.R k83 83 wc w.heap.size (fun k_ => some k_ ≠ ((.slice Ao22 t250.length co22) : Value).ownBlock ∧ some k_ ≠ ((.slice Ao29 t276.length co29) : Value).ownBlock ∧ some k_ ≠ ((.slice Ao123 t288.length co123) : Value).ownBlock) (.slice Ao36 t263.length co36) t279) ∧ Aside0 (Kd.R k83 83 wc w.heap.size (fun k_ => some k_ ≠ ((.slice Ao22 t250.length co22) : Value).ownBlock ∧ some k_ ≠ ((.slice Ao29 t276.length co29) : Value).ownBlock ∧ some k_ ≠ ((.slice Ao36 t263.length co36) : Value).ownBlock) (.slice Ao123 t288.length co123) t288) ∧ Aside0 (wc.heap[gb241]? = some (.cells #[.int .i64 a0_0, .int .i64 a0_1, (.slice A0_2 l0_2.length c0_2)] 44 (0, 0))) ∧ Aside0 (wc.heap[gb254]? = some (.cells #[.int .i64 t248, .int .i64 t249, (.slice Ao22 t250.length co22)] 48 (0, 0))) ∧ Aside0 (wc.heap[gb260]? = some (.cells #[.int .i64 t255, .int .i64 t256, (.slice Ao29 t276.length co29)] 48 (0, 0))) ∧ Aside0 (wc.heap[gb267]? = some (.cells #[.int .i64 t261, .int .i64 t262, (.slice Ao36 t263.length co36)] 48 (0, 0))) ∧ Aside0 (wc.heap[gb292]? = some (.cells #[.int .i64 t286, .int .i64 t287, (.slice Ao123 t288.length co123)] 48 (0, 0))) ∧ Aside0 (Below w.heap.size w wc))
           case first =>
            have H := HC103.out
            clear HC103
            replace H := Option.bind_eq_some_iff.mp H
            obtain ⟨t293, A1240, H⟩ := H
            replace H : (if t293 = true then (laws_FnExactLowCut.j2 kj59 t278 (t291 != t253) t261 t262 t279) else (laws_FnExactLowCut.j2 kj59 t278 true t261 t262 t279)) = some r := H
            have A124 := Aside0.mk A1240
            clear A1240
            by_cases c125 : t293 = true
            ·subst c125
             have H1 : (laws_FnExactLowCut.j2 kj59 t278 (t291 != t253) t261 t262 t279) = some r := by rw [if_pos rfl] at H; exact H
             clear H
             have H := H1
             clear H1
             have H' := Aside0.mk H
             clear H
             have hnb126 := NB292_241.out
             have hnc126 := NB241_292.out
             have hnb127 := NB292_254.out
             have hnc127 := NB254_292.out
             have hnb128 := NB292_260.out
             have hnc128 := NB260_292.out
             have hnb129 := NB292_267.out
             have hnc129 := NB267_292.out
             have hcz130_0 : w117.cell? ⟨gb292, 0, none⟩ = some (.int .i64 0) := (blk_cell BK292.out 0).trans rfl
             have hcz130_1 : w117.cell? ⟨gb292, 1, none⟩ = some (.int .i64 0) := (blk_cell BK292.out 1).trans rfl
             have hcz130_2 : w117.cell? ⟨gb292, 2, none⟩ = some (.slice none 0 0) := (blk_cell BK292.out 2).trans rfl
             have hfz130_0 := blk_frozen BK292.out 0
             have hfz130_1 := blk_frozen BK292.out 1
             have hfz130_2 := blk_frozen BK292.out 2
             have hnb131 := NB254_241.out
             have hnc131 := NB241_254.out
             have hnb132 := NB254_260.out
             have hnc132 := NB260_254.out
             have hnb133 := NB254_267.out
             have hnc133 := NB267_254.out
             have hcz134_0 : w117.cell? ⟨gb254, 0, none⟩ = some (.int .i64 t248) := (blk_cell BK254.out 0).trans rfl
             have hcz134_1 : w117.cell? ⟨gb254, 1, none⟩ = some (.int .i64 t249) := (blk_cell BK254.out 1).trans rfl
             have hcz134_2 : w117.cell? ⟨gb254, 2, none⟩ = some (.slice Ao22 t250.length co22) := (blk_cell BK254.out 2).trans rfl
             have hfz134_0 := blk_frozen BK254.out 0
             have hfz134_1 := blk_frozen BK254.out 1
             have hfz134_2 := blk_frozen BK254.out 2
             go_wp2_with (first | ((with_reducible refine gate_callee (f := 38) rfl ?_); refine goesL_ (some 81) rfl rfl Try.func38 (by kernel_rfl) rfl #[.agg #[.int .i64 t286, .int .i64 t287, .slice Ao123 t288.length co123], .agg #[.int .i64 t248, .int .i64 t249, .slice Ao22 t250.length co22]] rfl itp ?_; (with_reducible refine (laws_eqCut.calls kj59 t286 t287 _ _ t288 t248 t249 _ _ t250 true _ ?side1 ?side2 ?side3 ?side4 A124.out).mono ?_); (case side1 => refine (Kd.R_reads' (e := 83) (base := w.heap.size) (ok := fun k_ => ((((True ∧ some k_ ≠ (.slice Ao22 t250.length co22 : Value).ownBlock) ∧ some k_ ≠ (.slice Ao29 t276.length co29 : Value).ownBlock) ∧ some k_ ≠ (.slice Ao36 t263.length co36 : Value).ownBlock) ∧ some k_ ≠ (.slice Ao115 t283.length co115 : Value).ownBlock)) (n := t288.length) (c := co123) ?_).2.2; exact (by (with_reducible repeat (first | apply Kd.R_alloc | apply Kd.R_drewN | apply Kd.R_drew)); exact (Kd.R_mono (Kd.R_far (p := ⟨gb292, 2, none⟩) (Kd.R_far (p := ⟨gb292, 1, none⟩) (Kd.R_far (p := ⟨gb292, 0, none⟩) (Kd.R_types HO290.out BK292.out (by decide)) (fun _ hk => hk.2) (.int .i64 t286)) (fun _ hk => hk.2) (.int .i64 t287)) (fun _ hk => hk.2) (.slice Ao123 t288.length co123)) (fun _ h_ => h_.1)))); (case side2 => exact (Kd.R_reads' HO290.out).2.1); (case side3 => refine (Kd.R_reads' (e := 83) (base := w.heap.size) (ok := fun k_ => (((some k_ ≠ (.slice Ao29 t276.length co29 : Value).ownBlock ∧ some k_ ≠ (.slice Ao36 t263.length co36 : Value).ownBlock) ∧ some k_ ≠ (.slice Ao115 t283.length co115 : Value).ownBlock) ∧ some k_ ≠ (.slice Ao123 t288.length co123 : Value).ownBlock)) (n := t250.length) (c := co22) ?_).2.2; exact (by (with_reducible repeat (first | apply Kd.R_alloc | apply Kd.R_drewN | apply Kd.R_drew)); exact (Kd.R_mono (Kd.R_far (p := ⟨gb292, 2, none⟩) (Kd.R_far (p := ⟨gb292, 1, none⟩) (Kd.R_far (p := ⟨gb292, 0, none⟩) (Kd.R_types HO_255002.out BK292.out (by decide)) (fun _ hk => hk.2) (.int .i64 t286)) (fun _ hk => hk.2) (.int .i64 t287)) (fun _ hk => hk.2) (.slice Ao123 t288.length co123)) (fun _ h_ => h_.1)))); (case side4 => exact (Kd.R_reads' HO_255002.out).2.1); rintro e w135 ⟨rfl, hb⟩; refine ⟨_, rfl, ?_⟩; have n0_ := Aside0.mk (Kd.R_below (by (with_reducible repeat (first | apply Kd.R_alloc | apply Kd.R_drewN | apply Kd.R_drew)); exact (Kd.R_mono (Kd.R_far (p := ⟨gb292, 2, none⟩) (Kd.R_far (p := ⟨gb292, 1, none⟩) (Kd.R_far (p := ⟨gb292, 0, none⟩) (Kd.R_types HO_255002.out BK292.out (by decide)) (fun _ hk => hk.2) (.int .i64 t286)) (fun _ hk => hk.2) (.int .i64 t287)) (fun _ hk => hk.2) (.slice Ao123 t288.length co123)) (fun _ h_ => h_.1))) hb); have n1_ := Aside0.mk (Kd.R_below (by (with_reducible repeat (first | apply Kd.R_alloc | apply Kd.R_drewN | apply Kd.R_drew)); exact (Kd.R_mono (Kd.R_far (p := ⟨gb292, 2, none⟩) (Kd.R_far (p := ⟨gb292, 1, none⟩) (Kd.R_far (p := ⟨gb292, 0, none⟩) (Kd.R_types HO_261002.out BK292.out (by decide)) (fun _ hk => hk.2) (.int .i64 t286)) (fun _ hk => hk.2) (.int .i64 t287)) (fun _ hk => hk.2) (.slice Ao123 t288.length co123)) (fun _ h_ => h_.1))) hb); have n2_ := Aside0.mk (Kd.R_below (by (with_reducible repeat (first | apply Kd.R_alloc | apply Kd.R_drewN | apply Kd.R_drew)); exact (Kd.R_mono (Kd.R_far (p := ⟨gb292, 2, none⟩) (Kd.R_far (p := ⟨gb292, 1, none⟩) (Kd.R_far (p := ⟨gb292, 0, none⟩) (Kd.R_types HO_268002.out BK292.out (by decide)) (fun _ hk => hk.2) (.int .i64 t286)) (fun _ hk => hk.2) (.int .i64 t287)) (fun _ hk => hk.2) (.slice Ao123 t288.length co123)) (fun _ h_ => h_.1))) hb); have n3_ := Aside0.mk (Kd.R_below (by (with_reducible repeat (first | apply Kd.R_alloc | apply Kd.R_drewN | apply Kd.R_drew)); exact (Kd.R_mono (Kd.R_far (p := ⟨gb292, 2, none⟩) (Kd.R_far (p := ⟨gb292, 1, none⟩) (Kd.R_far (p := ⟨gb292, 0, none⟩) (Kd.R_types HO285.out BK292.out (by decide)) (fun _ hk => hk.2) (.int .i64 t286)) (fun _ hk => hk.2) (.int .i64 t287)) (fun _ hk => hk.2) (.slice Ao123 t288.length co123)) (fun _ h_ => h_.1))) hb); have n4_ := Aside0.mk (Kd.R_below (by (with_reducible repeat (first | apply Kd.R_alloc | apply Kd.R_drewN | apply Kd.R_drew)); exact (Kd.R_mono (Kd.R_far (p := ⟨gb292, 2, none⟩) (Kd.R_far (p := ⟨gb292, 1, none⟩) (Kd.R_far (p := ⟨gb292, 0, none⟩) (Kd.R_types HO290.out BK292.out (by decide)) (fun _ hk => hk.2) (.int .i64 t286)) (fun _ hk => hk.2) (.int .i64 t287)) (fun _ hk => hk.2) (.slice Ao123 t288.length co123)) (fun _ h_ => h_.1))) hb); have n5_ := Aside0.mk (blk_below (upF BK241) hb); have n6_ := Aside0.mk (blk_below (upF BK254) hb); have n7_ := Aside0.mk (blk_below (upF BK260) hb); have n8_ := Aside0.mk (blk_below (upF BK267) hb); have n9_ := Aside0.mk (blk_below (g := gb292) (o := .cells #[.int .i64 t286, .int .i64 t287, .slice Ao123 t288.length co123] 48 (0, 0)) (by (with_reducible repeat (first | refine blk_drewN ?_ _ | refine blk_drew ?_ | refine blk_alloc ?_ _)); refine blk_put (cs := #[.int .i64 t286, .int .i64 t287, .slice none 0 0]) ?_ 2 _ rfl; (with_reducible repeat (first | refine blk_drewN ?_ _ | refine blk_drew ?_ | refine blk_alloc ?_ _)); refine blk_put (cs := #[.int .i64 t286, .int .i64 0, .slice none 0 0]) ?_ 1 _ rfl; (with_reducible repeat (first | refine blk_drewN ?_ _ | refine blk_drew ?_ | refine blk_alloc ?_ _)); refine blk_put (cs := #[.int .i64 0, .int .i64 0, .slice none 0 0]) ?_ 0 _ rfl; (with_reducible repeat (first | refine blk_drewN ?_ _ | refine blk_drew ?_ | refine blk_alloc ?_ _)); exact BK292.out) hb); have n10_ := Aside0.mk (below_step (upW HB) hb); clear HO_255002; clear HO_261002; clear HO_268002; clear HO285; clear HO290; clear BK241; clear BK254; clear BK260; clear BK267; clear BK292; clear HB; have HO_255002 := n0_; have HO_261002 := n1_; have HO_268002 := n2_; have HO285 := n3_; have HO290 := n4_; have BK241 := n5_; have BK254 := n6_; have BK260 := n7_; have BK267 := n8_; have BK292 := n9_; have HB := n10_; clear n0_ n1_ n2_ n3_ n4_ n5_ n6_ n7_ n8_ n9_ n10_; (try clear hb); (try clear hb2); (try clear hk); (try clear hi)))
             go_meet
             case rel => exact ⟨_, ((t291 != t253)), (by first | rfl | (simp; done) | (simp [*]; done)), H', ⟨by have := HJ10.out; have := HJ59.out; first | omega | exact Nat.le_refl _⟩, ⟨by (try simp only [hl261002_59]); (with_reducible repeat (first | apply Kd.R_alloc | apply Kd.R_drewN | apply Kd.R_drew)); exact Kd.R_mono HO_255002.out (fun _ hk => ⟨hk.1.1.1, ⟨hk.1.1.2, hk.2⟩⟩)⟩, ⟨by (try simp only [hl261002_59]); (with_reducible repeat (first | apply Kd.R_alloc | apply Kd.R_drewN | apply Kd.R_drew)); exact Kd.R_mono HO_261002.out (fun _ hk => ⟨hk.1.1.1, ⟨hk.1.1.2, hk.2⟩⟩)⟩, ⟨by (try simp only [hl261002_59]); (with_reducible repeat (first | apply Kd.R_alloc | apply Kd.R_drewN | apply Kd.R_drew)); exact Kd.R_mono HO_268002.out (fun _ hk => ⟨hk.1.1.1, ⟨hk.1.1.2, hk.2⟩⟩)⟩, ⟨by (try simp only [hl261002_59]); (with_reducible repeat (first | apply Kd.R_alloc | apply Kd.R_drewN | apply Kd.R_drew)); exact Kd.R_mono HO290.out (fun _ hk => ⟨hk.1.1.1.2, ⟨hk.1.1.2, hk.1.2⟩⟩)⟩, ⟨by (try simp only [hl261002_59]); (with_reducible repeat (first | refine blk_drewN ?_ _ | refine blk_drew ?_ | refine blk_alloc ?_ _)); exact BK241.out⟩, ⟨by (try simp only [hl261002_59]); (with_reducible repeat (first | refine blk_drewN ?_ _ | refine blk_drew ?_ | refine blk_alloc ?_ _)); exact BK254.out⟩, ⟨by (try simp only [hl261002_59]); (with_reducible repeat (first | refine blk_drewN ?_ _ | refine blk_drew ?_ | refine blk_alloc ?_ _)); exact BK260.out⟩, ⟨by (try simp only [hl261002_59]); (with_reducible repeat (first | refine blk_drewN ?_ _ | refine blk_drew ?_ | refine blk_alloc ?_ _)); exact BK267.out⟩, ⟨by (try simp only [hl261002_59]); (with_reducible repeat (first | refine blk_drewN ?_ _ | refine blk_drew ?_ | refine blk_alloc ?_ _)); exact BK292.out⟩, ⟨upW HB⟩⟩
            ·replace c125 := Bool.eq_false_iff.mpr c125
             subst c125
             have H1 : (laws_FnExactLowCut.j2 kj59 t278 true t261 t262 t279) = some r := by rw [if_neg (show ¬ (false = true) by decide)] at H; exact H
             clear H
             have H := H1
             clear H1
             have H' := Aside0.mk H
             clear H
             have hnb136 := NB292_241.out
             have hnc136 := NB241_292.out
             have hnb137 := NB292_254.out
             have hnc137 := NB254_292.out
             have hnb138 := NB292_260.out
             have hnc138 := NB260_292.out
             have hnb139 := NB292_267.out
             have hnc139 := NB267_292.out
             have hcz140_0 : w117.cell? ⟨gb292, 0, none⟩ = some (.int .i64 0) := (blk_cell BK292.out 0).trans rfl
             have hcz140_1 : w117.cell? ⟨gb292, 1, none⟩ = some (.int .i64 0) := (blk_cell BK292.out 1).trans rfl
             have hcz140_2 : w117.cell? ⟨gb292, 2, none⟩ = some (.slice none 0 0) := (blk_cell BK292.out 2).trans rfl
             have hfz140_0 := blk_frozen BK292.out 0
             have hfz140_1 := blk_frozen BK292.out 1
             have hfz140_2 := blk_frozen BK292.out 2
             have hnb141 := NB254_241.out
             have hnc141 := NB241_254.out
             have hnb142 := NB254_260.out
             have hnc142 := NB260_254.out
             have hnb143 := NB254_267.out
             have hnc143 := NB267_254.out
             have hcz144_0 : w117.cell? ⟨gb254, 0, none⟩ = some (.int .i64 t248) := (blk_cell BK254.out 0).trans rfl
             have hcz144_1 : w117.cell? ⟨gb254, 1, none⟩ = some (.int .i64 t249) := (blk_cell BK254.out 1).trans rfl
             have hcz144_2 : w117.cell? ⟨gb254, 2, none⟩ = some (.slice Ao22 t250.length co22) := (blk_cell BK254.out 2).trans rfl
             have hfz144_0 := blk_frozen BK254.out 0
             have hfz144_1 := blk_frozen BK254.out 1
             have hfz144_2 := blk_frozen BK254.out 2
             go_wp2_with (first | ((with_reducible refine gate_callee (f := 38) rfl ?_); refine goesL_ (some 81) rfl rfl Try.func38 (by kernel_rfl) rfl #[.agg #[.int .i64 t286, .int .i64 t287, .slice Ao123 t288.length co123], .agg #[.int .i64 t248, .int .i64 t249, .slice Ao22 t250.length co22]] rfl itp ?_; (with_reducible refine (laws_eqCut.calls kj59 t286 t287 _ _ t288 t248 t249 _ _ t250 false _ ?side1 ?side2 ?side3 ?side4 A124.out).mono ?_); (case side1 => refine (Kd.R_reads' (e := 83) (base := w.heap.size) (ok := fun k_ => ((((True ∧ some k_ ≠ (.slice Ao22 t250.length co22 : Value).ownBlock) ∧ some k_ ≠ (.slice Ao29 t276.length co29 : Value).ownBlock) ∧ some k_ ≠ (.slice Ao36 t263.length co36 : Value).ownBlock) ∧ some k_ ≠ (.slice Ao115 t283.length co115 : Value).ownBlock)) (n := t288.length) (c := co123) ?_).2.2; exact (by (with_reducible repeat (first | apply Kd.R_alloc | apply Kd.R_drewN | apply Kd.R_drew)); exact (Kd.R_mono (Kd.R_far (p := ⟨gb292, 2, none⟩) (Kd.R_far (p := ⟨gb292, 1, none⟩) (Kd.R_far (p := ⟨gb292, 0, none⟩) (Kd.R_types HO290.out BK292.out (by decide)) (fun _ hk => hk.2) (.int .i64 t286)) (fun _ hk => hk.2) (.int .i64 t287)) (fun _ hk => hk.2) (.slice Ao123 t288.length co123)) (fun _ h_ => h_.1)))); (case side2 => exact (Kd.R_reads' HO290.out).2.1); (case side3 => refine (Kd.R_reads' (e := 83) (base := w.heap.size) (ok := fun k_ => (((some k_ ≠ (.slice Ao29 t276.length co29 : Value).ownBlock ∧ some k_ ≠ (.slice Ao36 t263.length co36 : Value).ownBlock) ∧ some k_ ≠ (.slice Ao115 t283.length co115 : Value).ownBlock) ∧ some k_ ≠ (.slice Ao123 t288.length co123 : Value).ownBlock)) (n := t250.length) (c := co22) ?_).2.2; exact (by (with_reducible repeat (first | apply Kd.R_alloc | apply Kd.R_drewN | apply Kd.R_drew)); exact (Kd.R_mono (Kd.R_far (p := ⟨gb292, 2, none⟩) (Kd.R_far (p := ⟨gb292, 1, none⟩) (Kd.R_far (p := ⟨gb292, 0, none⟩) (Kd.R_types HO_255002.out BK292.out (by decide)) (fun _ hk => hk.2) (.int .i64 t286)) (fun _ hk => hk.2) (.int .i64 t287)) (fun _ hk => hk.2) (.slice Ao123 t288.length co123)) (fun _ h_ => h_.1)))); (case side4 => exact (Kd.R_reads' HO_255002.out).2.1); rintro e w145 ⟨rfl, hb⟩; refine ⟨_, rfl, ?_⟩; have n0_ := Aside0.mk (Kd.R_below (by (with_reducible repeat (first | apply Kd.R_alloc | apply Kd.R_drewN | apply Kd.R_drew)); exact (Kd.R_mono (Kd.R_far (p := ⟨gb292, 2, none⟩) (Kd.R_far (p := ⟨gb292, 1, none⟩) (Kd.R_far (p := ⟨gb292, 0, none⟩) (Kd.R_types HO_255002.out BK292.out (by decide)) (fun _ hk => hk.2) (.int .i64 t286)) (fun _ hk => hk.2) (.int .i64 t287)) (fun _ hk => hk.2) (.slice Ao123 t288.length co123)) (fun _ h_ => h_.1))) hb); have n1_ := Aside0.mk (Kd.R_below (by (with_reducible repeat (first | apply Kd.R_alloc | apply Kd.R_drewN | apply Kd.R_drew)); exact (Kd.R_mono (Kd.R_far (p := ⟨gb292, 2, none⟩) (Kd.R_far (p := ⟨gb292, 1, none⟩) (Kd.R_far (p := ⟨gb292, 0, none⟩) (Kd.R_types HO_261002.out BK292.out (by decide)) (fun _ hk => hk.2) (.int .i64 t286)) (fun _ hk => hk.2) (.int .i64 t287)) (fun _ hk => hk.2) (.slice Ao123 t288.length co123)) (fun _ h_ => h_.1))) hb); have n2_ := Aside0.mk (Kd.R_below (by (with_reducible repeat (first | apply Kd.R_alloc | apply Kd.R_drewN | apply Kd.R_drew)); exact (Kd.R_mono (Kd.R_far (p := ⟨gb292, 2, none⟩) (Kd.R_far (p := ⟨gb292, 1, none⟩) (Kd.R_far (p := ⟨gb292, 0, none⟩) (Kd.R_types HO_268002.out BK292.out (by decide)) (fun _ hk => hk.2) (.int .i64 t286)) (fun _ hk => hk.2) (.int .i64 t287)) (fun _ hk => hk.2) (.slice Ao123 t288.length co123)) (fun _ h_ => h_.1))) hb); have n3_ := Aside0.mk (Kd.R_below (by (with_reducible repeat (first | apply Kd.R_alloc | apply Kd.R_drewN | apply Kd.R_drew)); exact (Kd.R_mono (Kd.R_far (p := ⟨gb292, 2, none⟩) (Kd.R_far (p := ⟨gb292, 1, none⟩) (Kd.R_far (p := ⟨gb292, 0, none⟩) (Kd.R_types HO285.out BK292.out (by decide)) (fun _ hk => hk.2) (.int .i64 t286)) (fun _ hk => hk.2) (.int .i64 t287)) (fun _ hk => hk.2) (.slice Ao123 t288.length co123)) (fun _ h_ => h_.1))) hb); have n4_ := Aside0.mk (Kd.R_below (by (with_reducible repeat (first | apply Kd.R_alloc | apply Kd.R_drewN | apply Kd.R_drew)); exact (Kd.R_mono (Kd.R_far (p := ⟨gb292, 2, none⟩) (Kd.R_far (p := ⟨gb292, 1, none⟩) (Kd.R_far (p := ⟨gb292, 0, none⟩) (Kd.R_types HO290.out BK292.out (by decide)) (fun _ hk => hk.2) (.int .i64 t286)) (fun _ hk => hk.2) (.int .i64 t287)) (fun _ hk => hk.2) (.slice Ao123 t288.length co123)) (fun _ h_ => h_.1))) hb); have n5_ := Aside0.mk (blk_below (upF BK241) hb); have n6_ := Aside0.mk (blk_below (upF BK254) hb); have n7_ := Aside0.mk (blk_below (upF BK260) hb); have n8_ := Aside0.mk (blk_below (upF BK267) hb); have n9_ := Aside0.mk (blk_below (g := gb292) (o := .cells #[.int .i64 t286, .int .i64 t287, .slice Ao123 t288.length co123] 48 (0, 0)) (by (with_reducible repeat (first | refine blk_drewN ?_ _ | refine blk_drew ?_ | refine blk_alloc ?_ _)); refine blk_put (cs := #[.int .i64 t286, .int .i64 t287, .slice none 0 0]) ?_ 2 _ rfl; (with_reducible repeat (first | refine blk_drewN ?_ _ | refine blk_drew ?_ | refine blk_alloc ?_ _)); refine blk_put (cs := #[.int .i64 t286, .int .i64 0, .slice none 0 0]) ?_ 1 _ rfl; (with_reducible repeat (first | refine blk_drewN ?_ _ | refine blk_drew ?_ | refine blk_alloc ?_ _)); refine blk_put (cs := #[.int .i64 0, .int .i64 0, .slice none 0 0]) ?_ 0 _ rfl; (with_reducible repeat (first | refine blk_drewN ?_ _ | refine blk_drew ?_ | refine blk_alloc ?_ _)); exact BK292.out) hb); have n10_ := Aside0.mk (below_step (upW HB) hb); clear HO_255002; clear HO_261002; clear HO_268002; clear HO285; clear HO290; clear BK241; clear BK254; clear BK260; clear BK267; clear BK292; clear HB; have HO_255002 := n0_; have HO_261002 := n1_; have HO_268002 := n2_; have HO285 := n3_; have HO290 := n4_; have BK241 := n5_; have BK254 := n6_; have BK260 := n7_; have BK267 := n8_; have BK292 := n9_; have HB := n10_; clear n0_ n1_ n2_ n3_ n4_ n5_ n6_ n7_ n8_ n9_ n10_; (try clear hb); (try clear hb2); (try clear hk); (try clear hi)))
             go_meet
             case rel => exact ⟨_, (true), (by first | rfl | (simp; done) | (simp [*]; done)), H', ⟨by have := HJ10.out; have := HJ59.out; first | omega | exact Nat.le_refl _⟩, ⟨by (try simp only [hl261002_59]); (with_reducible repeat (first | apply Kd.R_alloc | apply Kd.R_drewN | apply Kd.R_drew)); exact Kd.R_mono HO_255002.out (fun _ hk => ⟨hk.1.1.1, ⟨hk.1.1.2, hk.2⟩⟩)⟩, ⟨by (try simp only [hl261002_59]); (with_reducible repeat (first | apply Kd.R_alloc | apply Kd.R_drewN | apply Kd.R_drew)); exact Kd.R_mono HO_261002.out (fun _ hk => ⟨hk.1.1.1, ⟨hk.1.1.2, hk.2⟩⟩)⟩, ⟨by (try simp only [hl261002_59]); (with_reducible repeat (first | apply Kd.R_alloc | apply Kd.R_drewN | apply Kd.R_drew)); exact Kd.R_mono HO_268002.out (fun _ hk => ⟨hk.1.1.1, ⟨hk.1.1.2, hk.2⟩⟩)⟩, ⟨by (try simp only [hl261002_59]); (with_reducible repeat (first | apply Kd.R_alloc | apply Kd.R_drewN | apply Kd.R_drew)); exact Kd.R_mono HO290.out (fun _ hk => ⟨hk.1.1.1.2, ⟨hk.1.1.2, hk.1.2⟩⟩)⟩, ⟨by (try simp only [hl261002_59]); (with_reducible repeat (first | refine blk_drewN ?_ _ | refine blk_drew ?_ | refine blk_alloc ?_ _)); exact BK241.out⟩, ⟨by (try simp only [hl261002_59]); (with_reducible repeat (first | refine blk_drewN ?_ _ | refine blk_drew ?_ | refine blk_alloc ?_ _)); exact BK254.out⟩, ⟨by (try simp only [hl261002_59]); (with_reducible repeat (first | refine blk_drewN ?_ _ | refine blk_drew ?_ | refine blk_alloc ?_ _)); exact BK260.out⟩, ⟨by (try simp only [hl261002_59]); (with_reducible repeat (first | refine blk_drewN ?_ _ | refine blk_drew ?_ | refine blk_alloc ?_ _)); exact BK267.out⟩, ⟨by (try simp only [hl261002_59]); (with_reducible repeat (first | refine blk_drewN ?_ _ | refine blk_drew ?_ | refine blk_alloc ?_ _)); exact BK292.out⟩, ⟨upW HB⟩⟩
           case rest =>
            clear HC103
            try clear c1
            try clear c2
            try clear p2
            try clear c3
            try clear c3b0
            try clear c4
            try clear c5
            try clear c6
            try clear c7
            try clear c8
            try clear c9
            try clear c10
            try clear c11
            try clear c12
            try clear c13
            try clear c14
            try clear c20
            try clear c26
            try clear c27
            try clear c32
            try clear c33
            try clear c34
            try clear c36
            try clear c38
            try clear c39
            try clear c40
            try clear c41
            try clear c43
            try clear c44
            try clear c47
            try clear c48
            try clear c49
            try clear c51
            try clear c52
            try clear c55
            try clear c58
            try clear c65
            try clear c66
            try clear c67
            try clear c70
            try clear c70b0
            try clear c72
            try clear c73
            try clear c74
            try clear c75
            try clear c77
            try clear c78
            try clear c81
            try clear c82
            try clear c83
            try clear c85
            try clear c86
            try clear c89
            try clear c92
            try clear c92b0
            try clear c93
            try clear c94
            try clear c95
            try clear c100
            try clear c100b0
            try clear c100b1
            try clear c104
            try clear c105
            try clear c106
            try clear c111
            try clear c112
            try clear c118
            try clear c119
            try clear c120
            try clear c121
            try clear c125
            try clear c126
            try clear c127
            try clear c128
            try clear c129
            try clear c131
            try clear c132
            try clear c133
            try clear c136
            try clear c137
            try clear c138
            try clear c139
            try clear c141
            try clear c142
            try clear c143
            try clear hcz107_0
            try clear hcz107_1
            try clear hcz107_2
            try clear hcz109_0
            try clear hcz109_1
            try clear hcz109_2
            try clear hcz113_0
            try clear hcz113_1
            try clear hcz113_2
            try clear hcz122_0
            try clear hcz122_1
            try clear hcz122_2
            try clear hcz130_0
            try clear hcz130_1
            try clear hcz130_2
            try clear hcz134_0
            try clear hcz134_1
            try clear hcz134_2
            try clear hcz13_0
            try clear hcz13_1
            try clear hcz13_2
            try clear hcz140_0
            try clear hcz140_1
            try clear hcz140_2
            try clear hcz144_0
            try clear hcz144_1
            try clear hcz144_2
            try clear hcz15_0
            try clear hcz15_1
            try clear hcz15_2
            try clear hcz21_0
            try clear hcz21_1
            try clear hcz21_2
            try clear hcz23_0
            try clear hcz23_1
            try clear hcz23_2
            try clear hcz28_0
            try clear hcz28_1
            try clear hcz28_2
            try clear hcz35_0
            try clear hcz35_1
            try clear hcz35_2
            try clear hcz42_0
            try clear hcz42_1
            try clear hcz42_2
            try clear hcz45_0
            try clear hcz45_1
            try clear hcz45_2
            try clear hcz50_0
            try clear hcz50_1
            try clear hcz50_2
            try clear hcz53_0
            try clear hcz53_1
            try clear hcz53_2
            try clear hcz5_0
            try clear hcz5_1
            try clear hcz5_2
            try clear hcz68_0
            try clear hcz68_1
            try clear hcz68_2
            try clear hcz76_0
            try clear hcz76_1
            try clear hcz76_2
            try clear hcz79_0
            try clear hcz79_1
            try clear hcz79_2
            try clear hcz84_0
            try clear hcz84_1
            try clear hcz84_2
            try clear hcz87_0
            try clear hcz87_1
            try clear hcz87_2
            try clear hcz96_0
            try clear hcz96_1
            try clear hcz96_2
            try clear hcz98_0
            try clear hcz98_1
            try clear hcz98_2
            try clear hfz107_0
            try clear hfz107_1
            try clear hfz107_2
            try clear hfz109_0
            try clear hfz109_1
            try clear hfz109_2
            try clear hfz113_0
            try clear hfz113_1
            try clear hfz113_2
            try clear hfz122_0
            try clear hfz122_1
            try clear hfz122_2
            try clear hfz130_0
            try clear hfz130_1
            try clear hfz130_2
            try clear hfz134_0
            try clear hfz134_1
            try clear hfz134_2
            try clear hfz13_0
            try clear hfz13_1
            try clear hfz13_2
            try clear hfz140_0
            try clear hfz140_1
            try clear hfz140_2
            try clear hfz144_0
            try clear hfz144_1
            try clear hfz144_2
            try clear hfz15_0
            try clear hfz15_1
            try clear hfz15_2
            try clear hfz21_0
            try clear hfz21_1
            try clear hfz21_2
            try clear hfz23_0
            try clear hfz23_1
            try clear hfz23_2
            try clear hfz28_0
            try clear hfz28_1
            try clear hfz28_2
            try clear hfz35_0
            try clear hfz35_1
            try clear hfz35_2
            try clear hfz42_0
            try clear hfz42_1
            try clear hfz42_2
            try clear hfz45_0
            try clear hfz45_1
            try clear hfz45_2
            try clear hfz50_0
            try clear hfz50_1
            try clear hfz50_2
            try clear hfz53_0
            try clear hfz53_1
            try clear hfz53_2
            try clear hfz5_0
            try clear hfz5_1
            try clear hfz5_2
            try clear hfz68_0
            try clear hfz68_1
            try clear hfz68_2
            try clear hfz76_0
            try clear hfz76_1
            try clear hfz76_2
            try clear hfz79_0
            try clear hfz79_1
            try clear hfz79_2
            try clear hfz84_0
            try clear hfz84_1
            try clear hfz84_2
            try clear hfz87_0
            try clear hfz87_1
            try clear hfz87_2
            try clear hfz96_0
            try clear hfz96_1
            try clear hfz96_2
            try clear hfz98_0
            try clear hfz98_1
            try clear hfz98_2
            try clear p2
            obtain ⟨kq, x87_102, rfl, HA, HJ102, HO_255002, HO_261002, HO_268002, HO_293002, BK241, BK254, BK260, BK267, BK292, HB⟩ := hcut
            have hl268002_102 := (Kd.R_reads' HO_268002.out).1
            rw [hl268002_102] at HO_268002
            (try simp only [hl268002_102])
            (try simp only [hl268002_102] at BK241)
            (try simp only [hl268002_102] at BK254)
            (try simp only [hl268002_102] at BK260)
            (try simp only [hl268002_102] at BK267)
            (try simp only [hl268002_102] at BK292)
            (try simp only [hl268002_102] at HO_255002)
            (try simp only [hl268002_102] at HO_261002)
            (try simp only [hl268002_102] at HO_293002)
            cases kq with
            | zero => exact absurd HA.out (by simp [laws_FnExactLowCut.j2])
            | succ kj102 =>
             have H := HA.out
             clear HA
             simp only [laws_FnExactLowCut.j2] at H
             by_cases c146 : x87_102 = true
             ·subst c146
              have H1 : (some false) = some r := by rw [if_pos rfl] at H; exact H
              clear H
              have H := H1
              clear H1
              obtain rfl := Option.some.inj H
              go_wp2
              go_ret
              exact ⟨by first | rfl | (simp [errW_none, errW_some] <;> rfl) | (simp [*, errW_none, errW_some] <;> rfl), by repeat (first | (with_reducible first | exact HB.out | apply below_alloc | apply pw_below_drewN | apply below_drew1 | refine below_set ?_ GE241.out | refine below_set ?_ GE254.out | refine below_set ?_ GE260.out | refine below_set ?_ GE267.out | refine below_set ?_ GE292.out) | exact HB.out)⟩
             ·replace c146 := Bool.eq_false_iff.mpr c146
              subst c146
              have H1 : ((laws_heldCut.f kj102 t261 t262 t279 1).bind fun t294 => (if t294 < 0 then (some false) else (if t294 = t278 then (some true) else (some false)))) = some r := by rw [if_neg (show ¬ (false = true) by decide)] at H; exact H
              clear H
              have H := H1
              clear H1
              replace H := Option.bind_eq_some_iff.mp H
              obtain ⟨t294, A1470, H⟩ := H
              replace H : (if t294 < 0 then (some false) else (if t294 = t278 then (some true) else (some false))) = some r := H
              have A147 := Aside0.mk A1470
              clear A1470
              by_cases c148 : t294 < 0
              ·rw [if_pos c148] at H
               have c148b0 : decide (t294 < 0) = true := decide_eq_true c148
               clear c148
               obtain rfl := Option.some.inj H
               have hnb149 := NB267_241.out
               have hnc149 := NB241_267.out
               have hnb150 := NB267_254.out
               have hnc150 := NB254_267.out
               have hnb151 := NB267_260.out
               have hnc151 := NB260_267.out
               have hnb152 := NB267_292.out
               have hnc152 := NB292_267.out
               have hcz153_0 : wc.cell? ⟨gb267, 0, none⟩ = some (.int .i64 t261) := (blk_cell BK267.out 0).trans rfl
               have hcz153_1 : wc.cell? ⟨gb267, 1, none⟩ = some (.int .i64 t262) := (blk_cell BK267.out 1).trans rfl
               have hcz153_2 : wc.cell? ⟨gb267, 2, none⟩ = some (.slice Ao36 t279.length co36) := (blk_cell BK267.out 2).trans rfl
               have hfz153_0 := blk_frozen BK267.out 0
               have hfz153_1 := blk_frozen BK267.out 1
               have hfz153_2 := blk_frozen BK267.out 2
               go_wp2_with (first | ((with_reducible refine gate_callee (f := 40) rfl ?_); refine goesL_ (some 90) rfl rfl Try.func40 (by kernel_rfl) rfl #[.agg #[.int .i64 t261, .int .i64 t262, .slice Ao36 t279.length co36], .int .i64 1] rfl itp ?_; (with_reducible refine (laws_heldCut.calls kj102 t261 t262 _ _ t279 1 t294 _ ?side1 ?side2 A147.out).mono ?_); (case side1 => repeat (first | exact (Kd.R_reads' HO_268002.out).2.2 | (with_reducible refine Kd.C_alloc ?_ _) | (with_reducible refine Kd.C_drewN ?_ _) | (with_reducible refine Kd.C_drew ?_))); (case side2 => exact (Kd.R_reads' HO_268002.out).2.1); rintro e w154 ⟨rfl, hb⟩; refine ⟨_, rfl, ?_⟩; have n0_ := Aside0.mk (Kd.R_below (upR HO_255002) hb); have n1_ := Aside0.mk (Kd.R_below (upR HO_261002) hb); have n2_ := Aside0.mk (Kd.R_below (upR HO_268002) hb); have n3_ := Aside0.mk (Kd.R_below (upR HO_293002) hb); have n4_ := Aside0.mk (blk_below (upK BK241) hb); have n5_ := Aside0.mk (blk_below (upK BK254) hb); have n6_ := Aside0.mk (blk_below (upK BK260) hb); have n7_ := Aside0.mk (blk_below (upK BK267) hb); have n8_ := Aside0.mk (blk_below (upK BK292) hb); have n9_ := Aside0.mk (below_step (upW HB) hb); clear HO_255002; clear HO_261002; clear HO_268002; clear HO_293002; clear BK241; clear BK254; clear BK260; clear BK267; clear BK292; clear HB; have HO_255002 := n0_; have HO_261002 := n1_; have HO_268002 := n2_; have HO_293002 := n3_; have BK241 := n4_; have BK254 := n5_; have BK260 := n6_; have BK267 := n7_; have BK292 := n8_; have HB := n9_; clear n0_ n1_ n2_ n3_ n4_ n5_ n6_ n7_ n8_ n9_; (try clear hb); (try clear hb2); (try clear hk); (try clear hi)))
               go_ret
               exact ⟨by first | rfl | (simp [errW_none, errW_some] <;> rfl) | (simp [*, errW_none, errW_some] <;> rfl), by repeat (first | (with_reducible first | exact HB.out | apply below_alloc | apply pw_below_drewN | apply below_drew1 | refine below_set ?_ GE241.out | refine below_set ?_ GE254.out | refine below_set ?_ GE260.out | refine below_set ?_ GE267.out | refine below_set ?_ GE292.out) | exact HB.out)⟩
              ·rw [if_neg c148] at H
               have c148b0 : decide (t294 < 0) = false := decide_eq_false c148
               clear c148
               by_cases c155 : t294 = t278
               ·rw [if_pos c155] at H
                have c155b0 : (t294 == t278) = true := beq_iff_eq.mpr c155
                have c155b1 : (t294 != t278) = false := bne_eq_false_iff_eq.mpr c155
                clear c155
                obtain rfl := Option.some.inj H
                have hnb156 := NB267_241.out
                have hnc156 := NB241_267.out
                have hnb157 := NB267_254.out
                have hnc157 := NB254_267.out
                have hnb158 := NB267_260.out
                have hnc158 := NB260_267.out
                have hnb159 := NB267_292.out
                have hnc159 := NB292_267.out
                have hcz160_0 : wc.cell? ⟨gb267, 0, none⟩ = some (.int .i64 t261) := (blk_cell BK267.out 0).trans rfl
                have hcz160_1 : wc.cell? ⟨gb267, 1, none⟩ = some (.int .i64 t262) := (blk_cell BK267.out 1).trans rfl
                have hcz160_2 : wc.cell? ⟨gb267, 2, none⟩ = some (.slice Ao36 t279.length co36) := (blk_cell BK267.out 2).trans rfl
                have hfz160_0 := blk_frozen BK267.out 0
                have hfz160_1 := blk_frozen BK267.out 1
                have hfz160_2 := blk_frozen BK267.out 2
                go_wp2_with (first | ((with_reducible refine gate_callee (f := 40) rfl ?_); refine goesL_ (some 90) rfl rfl Try.func40 (by kernel_rfl) rfl #[.agg #[.int .i64 t261, .int .i64 t262, .slice Ao36 t279.length co36], .int .i64 1] rfl itp ?_; (with_reducible refine (laws_heldCut.calls kj102 t261 t262 _ _ t279 1 t294 _ ?side1 ?side2 A147.out).mono ?_); (case side1 => repeat (first | exact (Kd.R_reads' HO_268002.out).2.2 | (with_reducible refine Kd.C_alloc ?_ _) | (with_reducible refine Kd.C_drewN ?_ _) | (with_reducible refine Kd.C_drew ?_))); (case side2 => exact (Kd.R_reads' HO_268002.out).2.1); rintro e w161 ⟨rfl, hb⟩; refine ⟨_, rfl, ?_⟩; have n0_ := Aside0.mk (Kd.R_below (upR HO_255002) hb); have n1_ := Aside0.mk (Kd.R_below (upR HO_261002) hb); have n2_ := Aside0.mk (Kd.R_below (upR HO_268002) hb); have n3_ := Aside0.mk (Kd.R_below (upR HO_293002) hb); have n4_ := Aside0.mk (blk_below (upK BK241) hb); have n5_ := Aside0.mk (blk_below (upK BK254) hb); have n6_ := Aside0.mk (blk_below (upK BK260) hb); have n7_ := Aside0.mk (blk_below (upK BK267) hb); have n8_ := Aside0.mk (blk_below (upK BK292) hb); have n9_ := Aside0.mk (below_step (upW HB) hb); clear HO_255002; clear HO_261002; clear HO_268002; clear HO_293002; clear BK241; clear BK254; clear BK260; clear BK267; clear BK292; clear HB; have HO_255002 := n0_; have HO_261002 := n1_; have HO_268002 := n2_; have HO_293002 := n3_; have BK241 := n4_; have BK254 := n5_; have BK260 := n6_; have BK267 := n7_; have BK292 := n8_; have HB := n9_; clear n0_ n1_ n2_ n3_ n4_ n5_ n6_ n7_ n8_ n9_; (try clear hb); (try clear hb2); (try clear hk); (try clear hi)))
                go_ret
                exact ⟨by first | rfl | (simp [errW_none, errW_some] <;> rfl) | (simp [*, errW_none, errW_some] <;> rfl), by repeat (first | (with_reducible first | exact HB.out | apply below_alloc | apply pw_below_drewN | apply below_drew1 | refine below_set ?_ GE241.out | refine below_set ?_ GE254.out | refine below_set ?_ GE260.out | refine below_set ?_ GE267.out | refine below_set ?_ GE292.out) | exact HB.out)⟩
               ·rw [if_neg c155] at H
                have c155b0 : (t294 == t278) = false := beq_eq_false_iff_ne.mpr c155
                have c155b1 : (t294 != t278) = true := bne_iff_ne.mpr c155
                obtain rfl := Option.some.inj H
                have hnb162 := NB267_241.out
                have hnc162 := NB241_267.out
                have hnb163 := NB267_254.out
                have hnc163 := NB254_267.out
                have hnb164 := NB267_260.out
                have hnc164 := NB260_267.out
                have hnb165 := NB267_292.out
                have hnc165 := NB292_267.out
                have hcz166_0 : wc.cell? ⟨gb267, 0, none⟩ = some (.int .i64 t261) := (blk_cell BK267.out 0).trans rfl
                have hcz166_1 : wc.cell? ⟨gb267, 1, none⟩ = some (.int .i64 t262) := (blk_cell BK267.out 1).trans rfl
                have hcz166_2 : wc.cell? ⟨gb267, 2, none⟩ = some (.slice Ao36 t279.length co36) := (blk_cell BK267.out 2).trans rfl
                have hfz166_0 := blk_frozen BK267.out 0
                have hfz166_1 := blk_frozen BK267.out 1
                have hfz166_2 := blk_frozen BK267.out 2
                go_wp2_with (first | ((with_reducible refine gate_callee (f := 40) rfl ?_); refine goesL_ (some 90) rfl rfl Try.func40 (by kernel_rfl) rfl #[.agg #[.int .i64 t261, .int .i64 t262, .slice Ao36 t279.length co36], .int .i64 1] rfl itp ?_; (with_reducible refine (laws_heldCut.calls kj102 t261 t262 _ _ t279 1 t294 _ ?side1 ?side2 A147.out).mono ?_); (case side1 => repeat (first | exact (Kd.R_reads' HO_268002.out).2.2 | (with_reducible refine Kd.C_alloc ?_ _) | (with_reducible refine Kd.C_drewN ?_ _) | (with_reducible refine Kd.C_drew ?_))); (case side2 => exact (Kd.R_reads' HO_268002.out).2.1); rintro e w167 ⟨rfl, hb⟩; refine ⟨_, rfl, ?_⟩; have n0_ := Aside0.mk (Kd.R_below (upR HO_255002) hb); have n1_ := Aside0.mk (Kd.R_below (upR HO_261002) hb); have n2_ := Aside0.mk (Kd.R_below (upR HO_268002) hb); have n3_ := Aside0.mk (Kd.R_below (upR HO_293002) hb); have n4_ := Aside0.mk (blk_below (upK BK241) hb); have n5_ := Aside0.mk (blk_below (upK BK254) hb); have n6_ := Aside0.mk (blk_below (upK BK260) hb); have n7_ := Aside0.mk (blk_below (upK BK267) hb); have n8_ := Aside0.mk (blk_below (upK BK292) hb); have n9_ := Aside0.mk (below_step (upW HB) hb); clear HO_255002; clear HO_261002; clear HO_268002; clear HO_293002; clear BK241; clear BK254; clear BK260; clear BK267; clear BK292; clear HB; have HO_255002 := n0_; have HO_261002 := n1_; have HO_268002 := n2_; have HO_293002 := n3_; have BK241 := n4_; have BK254 := n5_; have BK260 := n6_; have BK267 := n7_; have BK292 := n8_; have HB := n9_; clear n0_ n1_ n2_ n3_ n4_ n5_ n6_ n7_ n8_ n9_; (try clear hb); (try clear hb2); (try clear hk); (try clear hi)))
                go_ret
                exact ⟨by first | rfl | (simp [errW_none, errW_some] <;> rfl) | (simp [*, errW_none, errW_some] <;> rfl), by repeat (first | (with_reducible first | exact HB.out | apply below_alloc | apply pw_below_drewN | apply below_drew1 | refine below_set ?_ GE241.out | refine below_set ?_ GE254.out | refine below_set ?_ GE260.out | refine below_set ?_ GE267.out | refine below_set ?_ GE292.out) | exact HB.out)⟩
          ·rw [if_neg c100] at H
           have c100b0 : (t280 == t278) = false := beq_eq_false_iff_ne.mpr c100
           have c100b1 : (t280 != t278) = true := bne_iff_ne.mpr c100
           obtain rfl := Option.some.inj H
           have hnb168 := NB267_241.out
           have hnc168 := NB241_267.out
           have hnb169 := NB267_254.out
           have hnc169 := NB254_267.out
           have hnb170 := NB267_260.out
           have hnc170 := NB260_267.out
           have hcz171_0 : wc.cell? ⟨gb267, 0, none⟩ = some (.int .i64 t261) := (blk_cell BK267.out 0).trans rfl
           have hcz171_1 : wc.cell? ⟨gb267, 1, none⟩ = some (.int .i64 t262) := (blk_cell BK267.out 1).trans rfl
           have hcz171_2 : wc.cell? ⟨gb267, 2, none⟩ = some (.slice Ao36 t263.length co36) := (blk_cell BK267.out 2).trans rfl
           have hfz171_0 := blk_frozen BK267.out 0
           have hfz171_1 := blk_frozen BK267.out 1
           have hfz171_2 := blk_frozen BK267.out 2
           go_wp2_with (first | ((with_reducible refine gate_callee (f := 39) rfl ?_); refine goesL_ (some 64) rfl rfl Try.func39 (by kernel_rfl) rfl #[.agg #[.int .i64 t261, .int .i64 t262, .slice Ao36 t263.length co36], .int .i64 1] rfl itp ?_; (with_reducible refine (laws_markCut.calls kj59 t261 t262 (fun k_ => some k_ = (.slice Ao36 t263.length co36 : Value).ownBlock) (.slice Ao36 t263.length co36) t263 1 t278 t279 w _ ?side1 ?side2 A90.out).mono ?_); (case side1 => repeat (first | (with_reducible first | exact HB.out | apply below_alloc | apply pw_below_drewN | apply below_drew1 | refine below_set ?_ GE241.out | refine below_set ?_ GE254.out | refine below_set ?_ GE260.out | refine below_set ?_ GE267.out) | exact HB.out)); (case side2 => exact Kd.R_tight rfl HO_268002.out); rintro e w172 ⟨rfl, hy0, hb, hkp⟩; refine ⟨_, rfl, ?_⟩; have n0_ := Aside0.mk (Kd.R_mono (ok' := fun k_ => some k_ ≠ (.slice Ao29 t276.length co29 : Value).ownBlock ∧ some k_ ≠ (.slice Ao36 t263.length co36 : Value).ownBlock) (Kd.R_keptB (HO_255002.out) hkp (fun k_ hk_ hs_ => (hk_.2) hs_)) (fun k_ hk_ => ⟨hk_.1.1, hk_.1.2⟩)); have n1_ := Aside0.mk (Kd.R_mono (ok' := fun k_ => some k_ ≠ (.slice Ao22 t250.length co22 : Value).ownBlock ∧ some k_ ≠ (.slice Ao36 t263.length co36 : Value).ownBlock) (Kd.R_keptB (HO_261002.out) hkp (fun k_ hk_ hs_ => (hk_.2) hs_)) (fun k_ hk_ => ⟨hk_.1.1, hk_.1.2⟩)); have n2_ := Aside0.mk (Kd.R_reok rfl hy0 (fun k_ e_ => HO_268002.out.1 k_ e_)); have n3_ := Aside0.mk (blk_kept (upK BK241) hkp (fun hs_ => (fun e_ => (Kd.R_ne HO_268002.out BK241.out (by decide)) e_) hs_)); have n4_ := Aside0.mk (blk_kept (upK BK254) hkp (fun hs_ => (fun e_ => (Kd.R_ne HO_268002.out BK254.out (by decide)) e_) hs_)); have n5_ := Aside0.mk (blk_kept (upK BK260) hkp (fun hs_ => (fun e_ => (Kd.R_ne HO_268002.out BK260.out (by decide)) e_) hs_)); have n6_ := Aside0.mk (blk_kept (upK BK267) hkp (fun hs_ => (fun e_ => (Kd.R_ne HO_268002.out BK267.out (by decide)) e_) hs_)); have n7_ := Aside0.mk (hb); clear HO_255002; clear HO_261002; clear HO_268002; clear BK241; clear BK254; clear BK260; clear BK267; clear HB; have HO_255002 := n0_; have HO_261002 := n1_; have HO_268002 := n2_; have BK241 := n3_; have BK254 := n4_; have BK260 := n5_; have BK267 := n6_; have HB := n7_; clear n0_ n1_ n2_ n3_ n4_ n5_ n6_ n7_; (try clear hb); (try clear hkp); (try clear hy0); have hcz173_0 : w172.cell? ⟨gb267, 0, none⟩ = some (.int .i64 t261) := (blk_cell BK267.out 0).trans rfl; have hcz173_1 : w172.cell? ⟨gb267, 1, none⟩ = some (.int .i64 t262) := (blk_cell BK267.out 1).trans rfl; have hcz173_2 : w172.cell? ⟨gb267, 2, none⟩ = some (.slice Ao36 t263.length co36) := (blk_cell BK267.out 2).trans rfl; have hfz173_0 := blk_frozen BK267.out 0; have hfz173_1 := blk_frozen BK267.out 1; have hfz173_2 := blk_frozen BK267.out 2) | ((with_reducible refine gate_callee (f := 40) rfl ?_); refine goesL_ (some 67) rfl rfl Try.func40 (by kernel_rfl) rfl #[.agg #[.int .i64 t261, .int .i64 t262, .slice Ao36 t279.length co36], .int .i64 1] rfl (by (try simp only [List.map_toArray, List.map_cons, List.map_nil]); first | done | (rw [show t279.length = t263.length from (Kd.R_reads' HO_268002.out).1.symm] <;> rfl) | rfl | (simp only [List.length_drop, List.length_take]; rfl)) ?_; (with_reducible refine (laws_heldCut.calls kj59 t261 t262 _ _ t279 1 t280 _ ?side1 ?side2 A91.out).mono ?_); (case side1 => repeat (first | exact (Kd.R_reads' HO_268002.out).2.2 | (with_reducible refine Kd.C_alloc ?_ _) | (with_reducible refine Kd.C_drewN ?_ _) | (with_reducible refine Kd.C_drew ?_))); (case side2 => rw [show t279.length = t263.length from (Kd.R_reads' HO_268002.out).1.symm]; exact (Kd.R_reads' HO_268002.out).2.1); rintro e w174 ⟨rfl, hb⟩; refine ⟨_, rfl, ?_⟩; have n0_ := Aside0.mk (Kd.R_below (upR HO_255002) hb); have n1_ := Aside0.mk (Kd.R_below (upR HO_261002) hb); have n2_ := Aside0.mk (Kd.R_below (upR HO_268002) hb); have n3_ := Aside0.mk (blk_below (upK BK241) hb); have n4_ := Aside0.mk (blk_below (upK BK254) hb); have n5_ := Aside0.mk (blk_below (upK BK260) hb); have n6_ := Aside0.mk (blk_below (upK BK267) hb); have n7_ := Aside0.mk (below_step (upW HB) hb); clear HO_255002; clear HO_261002; clear HO_268002; clear BK241; clear BK254; clear BK260; clear BK267; clear HB; have HO_255002 := n0_; have HO_261002 := n1_; have HO_268002 := n2_; have BK241 := n3_; have BK254 := n4_; have BK260 := n5_; have BK267 := n6_; have HB := n7_; clear n0_ n1_ n2_ n3_ n4_ n5_ n6_ n7_; (try clear hb); (try clear hb2); (try clear hk); (try clear hi)))
           go_ret
           exact ⟨by first | rfl | (simp [errW_none, errW_some] <;> rfl) | (simp [*, errW_none, errW_some] <;> rfl), by repeat (first | (with_reducible first | exact HB.out | apply below_alloc | apply pw_below_drewN | apply below_drew1 | refine below_set ?_ GE241.out | refine below_set ?_ GE254.out | refine below_set ?_ GE260.out | refine below_set ?_ GE267.out) | exact HB.out)⟩
     ·replace c58 := Bool.eq_false_iff.mpr c58
      subst c58
      have H1 : (some false) = some r := by rw [if_neg (show ¬ (false = true) by decide)] at H; exact H
      clear H
      have H := H1
      clear H1
      obtain rfl := Option.some.inj H
      try go_wp2
      have n0_ := Aside0.mk (Kd.R_drew HO_255002.out)
      have n1_ := Aside0.mk (Kd.R_drew HO_261002.out)
      have n2_ := Aside0.mk (Kd.R_drew HO_268002.out)
      have n3_ := Aside0.mk (blk_drew BK241.out)
      have n4_ := Aside0.mk (blk_drew BK254.out)
      have n5_ := Aside0.mk (blk_drew BK260.out)
      have n6_ := Aside0.mk (blk_drew BK267.out)
      have n7_ := Aside0.mk (below_drew1 HB.out)
      clear HO_255002
      clear HO_261002
      clear HO_268002
      clear BK241
      clear BK254
      clear BK260
      clear BK267
      clear HB
      have HO_255002 := n0_
      have HO_261002 := n1_
      have HO_268002 := n2_
      have BK241 := n3_
      have BK254 := n4_
      have BK260 := n5_
      have BK267 := n6_
      have HB := n7_
      clear n0_ n1_ n2_ n3_ n4_ n5_ n6_ n7_
      refine start_ (n := 5) (S := fun w' => w'.cell? ⟨gb260, 0, none⟩ = some (.int .i64 t255) ∧ w'.cell? ⟨gb260, 1, none⟩ = some (.int .i64 t256) ∧ w'.cell? ⟨gb260, 2, none⟩ = some (.slice Ao29 t257.length co29) ∧ w'.cell? ⟨gb241, 0, none⟩ = some (.int .i64 a0_0) ∧ w'.cell? ⟨gb241, 1, none⟩ = some (.int .i64 a0_1) ∧ w'.cell? ⟨gb241, 2, none⟩ = some (.slice A0_2 l0_2.length c0_2)) (ds := []) #[false, false, false, false, false] (by kernel_rfl) rfl rfl ⟨(blk_cell BK260.out 0).trans rfl, (blk_cell BK260.out 1).trans rfl, (blk_cell BK260.out 2).trans rfl, (blk_cell BK241.out 0).trans rfl, (blk_cell BK241.out 1).trans rfl, (blk_cell BK241.out 2).trans rfl⟩ (fun hHeld => ?_)
      generalize wc.drew = w175 at HO_255002 HO_261002 HO_268002 BK241 BK254 BK260 BK267 HB hHeld ⊢
      refine take_ (i := 0) (N := some 41) (v := ?_) (a' := ?_) #[true, false, false, false, false] rfl rfl (by kernel_rfl) (fun _ _ _ h => h) (Or.inl ⟨by rfl, ?_⟩) hHeld ?_ ?_
      rotate_left
      ·rintro w' ⟨s0, s1, s2, s3, s4, s5⟩
       go_simp
       with_reducible rfl
      rotate_left
      ·simp only [Act.put, List.setIfInBounds_toArray, List.set_cons_zero, List.set_cons_succ, i64_w, i32_w]
       rfl
      refine take_ (i := 1) (N := some 42) (v := ?_) (a' := ?_) #[true, true, false, false, false] rfl rfl (by kernel_rfl) (fun _ _ _ h => h) (Or.inl ⟨by rfl, ?_⟩) hHeld ?_ ?_
      rotate_left
      ·rintro w' ⟨s0, s1, s2, s3, s4, s5⟩
       go_simp
       with_reducible rfl
      rotate_left
      ·simp only [Act.put, List.setIfInBounds_toArray, List.set_cons_zero, List.set_cons_succ, i64_w, i32_w]
       rfl
      refine one_ (i := 2) (N := some 43) #[true, true, true, false, false] rfl rfl (by kernel_rfl) (by decide) (fun K hK => ?_)
      refine goes_ Try.func36 (by kernel_rfl) rfl #[.agg #[.int .i64 a0_0, .int .i64 a0_1, .slice A0_2 l0_2.length c0_2]] (by rfl) rfl rfl itp ?_
      with_reducible refine (laws_toCut.calls kj10 a0_0 a0_1 _ _ l0_2 t269 t270 t271 _ ?side1 ?side2 A56.out).mono ?_
      (case side1 => repeat (first | exact (Kd.C_below HR0_2.out HB.out) | (with_reducible refine Kd.C_alloc ?_ _) | (with_reducible refine Kd.C_drewN ?_ _) | (with_reducible refine Kd.C_drew ?_)))
      (case side2 => exact HC0_2.out)
      rintro e w176 ⟨v272, rfl, ho0, hb⟩
      refine ⟨_, rfl, ?_⟩
      have n0_ := Aside0.mk (Kd.R_elder' (upR HO_255002) (Kd.R_base ho0) hb)
      have n1_ := Aside0.mk (Kd.R_elder' (upR HO_261002) (Kd.R_base ho0) hb)
      have n2_ := Aside0.mk (Kd.R_elder' (upR HO_268002) (Kd.R_base ho0) hb)
      have n3_ := Aside0.mk (Kd.R_lower (Kd.R_new' (Kd.R_new' (Kd.R_new' ho0 (Kd.R_lt (upR HO_255002))) (Kd.R_lt (upR HO_261002))) (Kd.R_lt (upR HO_268002))) (below_size (upW HB)))
      have n4_ := Aside0.mk (blk_below (upK BK241) hb)
      have n5_ := Aside0.mk (blk_below (upK BK254) hb)
      have n6_ := Aside0.mk (blk_below (upK BK260) hb)
      have n7_ := Aside0.mk (blk_below (upK BK267) hb)
      have n8_ := Aside0.mk (below_step (upW HB) hb)
      clear HO_255002
      clear HO_261002
      clear HO_268002
      clear BK241
      clear BK254
      clear BK260
      clear BK267
      clear HB
      have HO_255002 := n0_
      have HO_261002 := n1_
      have HO_268002 := n2_
      have HO273 := n3_
      have BK241 := n4_
      have BK254 := n5_
      have BK260 := n6_
      have BK267 := n7_
      have HB := n8_
      clear n0_ n1_ n2_ n3_ n4_ n5_ n6_ n7_ n8_
      (try clear hb)
      (try clear hb2)
      (try clear hk)
      (try clear hi)
      (try clear ho0)
      obtain ⟨Ao177, co177, eo177⟩ := Kd.R_slice HO273.out
      (first | subst eo177 | (injection eo177 with f1_ f2_ f3_; have f4_ := f1_.symm; have f5_ := f3_.symm; clear f1_ f2_ f3_; subst f4_; subst f5_))
      refine hK.out _ _ ⟨(blk_cell BK260.out 0).trans rfl, (blk_cell BK260.out 1).trans rfl, (blk_cell BK260.out 2).trans rfl, (blk_cell BK241.out 0).trans rfl, (blk_cell BK241.out 1).trans rfl, (blk_cell BK241.out 2).trans rfl⟩ (fun hHeld => ?_)
      clear hK K
      refine norm_ (a' := ?_) ?_ ?_
      rotate_left
      ·show Act.put _ (some 43) _ = _
       simp only [Act.put, List.setIfInBounds_toArray, List.set_cons_zero, List.set_cons_succ, i64_w, i32_w]
       rfl
      refine one_ (i := 3) (N := some 44) #[true, true, true, true, false] rfl rfl (by kernel_rfl) (by decide) (fun K hK => ?_)
      refine goes_ Try.func38 (by kernel_rfl) rfl #[.agg #[.int .i64 t255, .int .i64 t256, .slice Ao29 t257.length co29], .agg #[.int .i64 t269, .int .i64 t270, .slice Ao177 t271.length co177]] (by rfl) rfl rfl itp ?_
      with_reducible refine (laws_eqCut.calls kj10 t255 t256 _ _ t257 t269 t270 _ _ t271 false _ ?side1 ?side2 ?side3 ?side4 A57.out).mono ?_
      (case side1 => repeat (first | exact (Kd.R_reads' HO_261002.out).2.2 | (with_reducible refine Kd.C_alloc ?_ _) | (with_reducible refine Kd.C_drewN ?_ _) | (with_reducible refine Kd.C_drew ?_)))
      (case side2 => exact (Kd.R_reads' HO_261002.out).2.1)
      (case side3 => repeat (first | exact (Kd.R_reads' HO273.out).2.2 | (with_reducible refine Kd.C_alloc ?_ _) | (with_reducible refine Kd.C_drewN ?_ _) | (with_reducible refine Kd.C_drew ?_)))
      (case side4 => exact (Kd.R_reads' HO273.out).2.1)
      rintro e w178 ⟨rfl, hb⟩
      refine ⟨_, rfl, ?_⟩
      have n0_ := Aside0.mk (Kd.R_below (upR HO_255002) hb)
      have n1_ := Aside0.mk (Kd.R_below (upR HO_261002) hb)
      have n2_ := Aside0.mk (Kd.R_below (upR HO_268002) hb)
      have n3_ := Aside0.mk (Kd.R_below (upR HO273) hb)
      have n4_ := Aside0.mk (blk_below (upK BK241) hb)
      have n5_ := Aside0.mk (blk_below (upK BK254) hb)
      have n6_ := Aside0.mk (blk_below (upK BK260) hb)
      have n7_ := Aside0.mk (blk_below (upK BK267) hb)
      have n8_ := Aside0.mk (below_step (upW HB) hb)
      clear HO_255002
      clear HO_261002
      clear HO_268002
      clear HO273
      clear BK241
      clear BK254
      clear BK260
      clear BK267
      clear HB
      have HO_255002 := n0_
      have HO_261002 := n1_
      have HO_268002 := n2_
      have HO273 := n3_
      have BK241 := n4_
      have BK254 := n5_
      have BK260 := n6_
      have BK267 := n7_
      have HB := n8_
      clear n0_ n1_ n2_ n3_ n4_ n5_ n6_ n7_ n8_
      (try clear hb)
      (try clear hb2)
      (try clear hk)
      (try clear hi)
      refine hK.out _ _ ⟨(blk_cell BK260.out 0).trans rfl, (blk_cell BK260.out 1).trans rfl, (blk_cell BK260.out 2).trans rfl, (blk_cell BK241.out 0).trans rfl, (blk_cell BK241.out 1).trans rfl, (blk_cell BK241.out 2).trans rfl⟩ (fun hHeld => ?_)
      clear hK K
      refine norm_ (a' := ?_) ?_ ?_
      rotate_left
      ·show Act.put _ (some 44) _ = _
       simp only [Act.put, List.setIfInBounds_toArray, List.set_cons_zero, List.set_cons_succ, i64_w, i32_w]
       rfl
      refine pure_ (i := 4) (N := some 45) (v := ?_) (a' := ?_) #[true, true, true, true, true] rfl rfl (by kernel_rfl) (fun _ _ _ h => h) (Or.inl ⟨by rfl, ?_⟩) ?_ ?_
      rotate_left
      ·intro w'
       go_simp
       with_reducible rfl
      rotate_left
      ·simp only [Act.put, List.setIfInBounds_toArray, List.set_cons_zero, List.set_cons_succ, i64_w, i32_w]
       rfl
      refine done_ (by kernel_rfl) ?_
      try go_wp2
      go_ret
      exact ⟨by first | rfl | (simp [errW_none, errW_some] <;> rfl) | (simp [*, errW_none, errW_some] <;> rfl), by repeat (first | (with_reducible first | exact HB.out | apply below_alloc | apply pw_below_drewN | apply below_drew1 | refine below_set ?_ GE241.out | refine below_set ?_ GE254.out | refine below_set ?_ GE260.out | refine below_set ?_ GE267.out) | exact HB.out)⟩

/-- THE ONE PURE STATEMENT of laws_FnExactLowCut. -/
def laws_FnExactLowCut.Pure : Prop := ∀ (a0_0 : Int) (a0_1 : Int) (l0_2 : List (S102)), (Lit.int .i64 a0_0).wf = true → (Lit.int .i64 a0_1).wf = true → l0_2.length ≤ maxLen → (∀ q ∈ l0_2, ((Lit.int .i64 q.f0).wf = true) ∧ ((Lit.int .i64 q.f1).wf = true) ∧ ((Lit.int .i64 q.f2).wf = true)) → ∃ k, laws_FnExactLowCut.f k a0_0 a0_1 l0_2 = some true
theorem laws_FnExactLowCut.walk (P : laws_FnExactLowCut.Pure) (a0_0 : Int) (a0_1 : Int) (A0_2 : Option Addr) (c0_2 : Nat) (l0_2 : List (S102)) (w : World) (hr0_2 : Kd.C k102 w A0_2 l0_2.length l0_2) (hc0_2 : l0_2.length ≤ c0_2) (w0_ : (Lit.int .i64 a0_0).wf = true) (w1_ : (Lit.int .i64 a0_1).wf = true) (w2_ : l0_2.length ≤ maxLen) (w3_ : (∀ q ∈ l0_2, ((Lit.int .i64 q.f0).wf = true) ∧ ((Lit.int .i64 q.f1).wf = true) ∧ ((Lit.int .i64 q.f2).wf = true))) :
  Calls Try.prog 11 #[.agg #[.int .i64 a0_0, .int .i64 a0_1, .slice A0_2 l0_2.length c0_2]] w fun e w' => e = .returned (.bool true) ∧ Below w.heap.size w w' := by
 obtain ⟨k, h⟩ := P a0_0 a0_1 l0_2 w0_ w1_ w2_ w3_
 refine (laws_FnExactLowCut.calls k a0_0 a0_1 _ _ l0_2 true w hr0_2 hc0_2 h).mono ?_
 rintro e w' ⟨rfl, hd⟩
 exact ⟨rfl, hd⟩

end Go.Proofs.Ytngbmjldnfljiaa.PFnExactLowCut
