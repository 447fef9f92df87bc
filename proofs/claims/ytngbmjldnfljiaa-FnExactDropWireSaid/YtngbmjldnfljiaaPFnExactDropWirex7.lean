-- made for this claim by a program of this session
import Derived.Test.YtngbmjldnfljiaaPFnExactDropWirex0
import Derived.Test.YtngbmjldnfljiaaPFnExactDropWirex1
import Derived.Test.YtngbmjldnfljiaaPFnExactDropWirex3
import Derived.Test.YtngbmjldnfljiaaPFnExactDropWirex5
import Derived.Test.YtngbmjldnfljiaaPFnExactDropWirex6
namespace Go.Proofs.Ytngbmjldnfljiaa.PFnExactDropWire
open Go.RowKit Go.Proofs.YtngbmjldnfljiaaW.PrintWords Go.Proofs.YtngbmjldnfljiaaW.PrintLast Go.Proofs.YtngbmjldnfljiaaW.PrintMore
attribute [local go_sem] max2_int min2_int max_two min_two max_three min_three max_four min_four   -- for this text's walks alone
set_option linter.unusedVariables false
set_option linter.unusedSimpArgs false

/-! ### laws_FnExactDropWire: function 13 -/
mutual
def laws_FnExactDropWire.j0 : Nat → Int → Bool → Bool → Bool → Int → List (S94) → Int → List (S73) → Int → List (S73) → Int → List (S73) → Option (Bool)
 | 0, _, _, _, _, _, _, _, _, _, _, _, _ => none
 | k + 1, x1, x7, x10, x44, x230000, x230001, x241000, x241001, x246000, x246001, x252000, x252001 => if x44 = true then (some false) else ((laws_toNet.f k x230000 x230001).bind fun bt253 => ((laws_eqNet.f k x246000 x246001 bt253.1 bt253.2).bind fun t257 => (if t257 = true then ((laws_markNet.f k x246000 x246001 1).bind fun bt258 => (if bt258.1 < 0 then (laws_FnExactDropWire.j1 k x1 x7 true x230000 x230001 x241000 x241001 x252000 x252001) else ((laws_eqNet.f k x252000 x252001 x241000 x241001).bind fun t260 => (if t260 = true then (laws_FnExactDropWire.j1 k x1 x7 (x10 != x7) x230000 x230001 x241000 x241001 x252000 x252001) else (laws_FnExactDropWire.j1 k x1 x7 true x230000 x230001 x241000 x241001 x252000 x252001))))) else (some false))))
def laws_FnExactDropWire.j1 : Nat → Int → Bool → Bool → Int → List (S94) → Int → List (S73) → Int → List (S73) → Option (Bool)
 | 0, _, _, _, _, _, _, _, _, _ => none
 | k + 1, x1, x7, x65, x230000, x230001, x241000, x241001, x252000, x252001 => if x65 = true then (some false) else ((laws_markNet.f k x252000 x252001 1).bind fun bt261 => ((laws_heldNet.f k x252000 bt261.2 1).bind fun t263 => (if t263 < 0 then (some false) else (if t263 = bt261.1 then ((laws_toNet.f k x230000 x230001).bind fun bt264 => ((impl_DropWire.f k bt264.1 bt264.2 x1).bind fun bt268 => ((laws_eqNet.f k bt268.1 bt268.2.1 x241000 x241001).bind fun t274 => (if t274 = true then (laws_FnExactDropWire.j2 k bt261.1 (bt268.2.2 != x7) x252000 bt261.2) else (laws_FnExactDropWire.j2 k bt261.1 true x252000 bt261.2))))) else (some false)))))
def laws_FnExactDropWire.j2 : Nat → Int → Bool → Int → List (S73) → Option (Bool)
 | 0, _, _, _, _ => none
 | k + 1, x12, x92, x252000, x252001 => if x92 = true then (some false) else ((laws_heldNet.f k x252000 x252001 1).bind fun t275 => (if t275 < 0 then (some false) else (if t275 = x12 then (some true) else (some false))))
end
def laws_FnExactDropWire.f (k : Nat) (a0_0 : Int) (l0_1 : List (S94)) (a1 : Int) : Option (Bool) := (laws_szNet.f a0_0 l0_1 1048576).bind fun t230 => (if t230 < 0 then (some true) else ((laws_toNet.f k a0_0 l0_1).bind fun bt231 => ((spec_DropWire.f k bt231.1 bt231.2 a1).bind fun bt235 => ((laws_toNet.f k a0_0 l0_1).bind fun bt241 => ((impl_DropWire.f k bt241.1 bt241.2 a1).bind fun bt246 => ((laws_eqNet.f k bt246.1 bt246.2.1 bt235.1 bt235.2.1).bind fun t252 => (if t252 = true then (laws_FnExactDropWire.j0 k a1 bt235.2.2 bt246.2.2 (bt246.2.2 != bt235.2.2) a0_0 l0_1 bt235.1 bt235.2.1 bt241.1 bt241.2 bt246.1 bt246.2.1) else (laws_FnExactDropWire.j0 k a1 bt235.2.2 bt246.2.2 true a0_0 l0_1 bt235.1 bt235.2.1 bt241.1 bt241.2 bt246.1 bt246.2.1))))))))
set_option maxHeartbeats 8000000 in
set_option maxRecDepth 100000 in
theorem laws_FnExactDropWire.calls (k : Nat) (a0_0 : Int) (A0_1 : Option Addr) (c0_1 : Nat) (l0_1 : List (S94)) (a1 : Int) (r : Bool) (w : World) (hr0_1 : Kd.C k94 w A0_1 l0_1.length l0_1) (hc0_1 : l0_1.length ≤ c0_1) (h : laws_FnExactDropWire.f k a0_0 l0_1 a1 = some r) :
  Calls Try.prog 13 #[.agg #[.int .i64 a0_0, .slice A0_1 l0_1.length c0_1], .int .i64 a1] w fun e w' => e = .returned (.bool r) ∧ Below w.heap.size w w' := by
 have hu24 := Try.underlying24
 have hu30 := Try.underlying30
 have HR0_1 := Aside0.mk hr0_1
 have HC0_1 := Aside0.mk hc0_1
 clear hr0_1 hc0_1
 have HB := Aside0.mk (Below.refl w.heap.size w)
 have H : ((laws_szNet.f a0_0 l0_1 1048576).bind fun t230 => (if t230 < 0 then (some true) else ((laws_toNet.f k a0_0 l0_1).bind fun bt231 => ((spec_DropWire.f k bt231.1 bt231.2 a1).bind fun bt235 => ((laws_toNet.f k a0_0 l0_1).bind fun bt241 => ((impl_DropWire.f k bt241.1 bt241.2 a1).bind fun bt246 => ((laws_eqNet.f k bt246.1 bt246.2.1 bt235.1 bt235.2.1).bind fun t252 => (if t252 = true then (laws_FnExactDropWire.j0 k a1 bt235.2.2 bt246.2.2 (bt246.2.2 != bt235.2.2) a0_0 l0_1 bt235.1 bt235.2.1 bt241.1 bt241.2 bt246.1 bt246.2.1) else (laws_FnExactDropWire.j0 k a1 bt235.2.2 bt246.2.2 true a0_0 l0_1 bt235.1 bt235.2.1 bt241.1 bt241.2 bt246.1 bt246.2.1))))))))) = some r := h
 clear h
 replace H := Option.bind_eq_some_iff.mp H
 obtain ⟨t230, A30, H⟩ := H
 replace H : (if t230 < 0 then (some true) else ((laws_toNet.f k a0_0 l0_1).bind fun bt231 => ((spec_DropWire.f k bt231.1 bt231.2 a1).bind fun bt235 => ((laws_toNet.f k a0_0 l0_1).bind fun bt241 => ((impl_DropWire.f k bt241.1 bt241.2 a1).bind fun bt246 => ((laws_eqNet.f k bt246.1 bt246.2.1 bt235.1 bt235.2.1).bind fun t252 => (if t252 = true then (laws_FnExactDropWire.j0 k a1 bt235.2.2 bt246.2.2 (bt246.2.2 != bt235.2.2) a0_0 l0_1 bt235.1 bt235.2.1 bt241.1 bt241.2 bt246.1 bt246.2.1) else (laws_FnExactDropWire.j0 k a1 bt235.2.2 bt246.2.2 true a0_0 l0_1 bt235.1 bt235.2.1 bt241.1 bt241.2 bt246.1 bt246.2.1)))))))) = some r := H
 have A3 := Aside0.mk A30
 clear A30
 by_cases c4 : t230 < 0
 ·rw [if_pos c4] at H
  have c4b0 : decide (t230 < 0) = true := decide_eq_true c4
  clear c4
  obtain rfl := Option.some.inj H
  go_enter Try.func13, Try.ntmps13
  go_wp2_with (first | ((with_reducible refine gate_dst (N := 2) rfl ?_); refine box_event ?hg (N := 2) ?hd (cs := #[.int .i64 a0_0, .slice A0_1 l0_1.length c0_1]) (t := 24) ?hr ?_; (case hd => rfl); (case hg => rfl); (case hr => first | (go_simp; done) | (go_simp; rfl)); intro gb229 hg w5 hbox hb; have n0_ := Aside0.mk (below_step (upW HB) hb); have n1_ := Aside0.mk (hbox); have n2_ := Aside0.mk ((by rw [hg]; exact (below_size (upW HB)) : w.heap.size ≤ gb229)); have n3_ := Aside0.mk ((by rw [hg]; exact (below_size (upW HB)) : w.heap.size ≤ gb229)); clear HB; have HB := n0_; have BK229 := n1_; have GW229 := n2_; have GE229 := n3_; clear n0_ n1_ n2_ n3_; clear hb hbox hg; have hcz6_0 : w5.cell? ⟨gb229, 0, none⟩ = some (.int .i64 a0_0) := (blk_cell BK229.out 0).trans rfl; have hcz6_1 : w5.cell? ⟨gb229, 1, none⟩ = some (.slice A0_1 l0_1.length c0_1) := (blk_cell BK229.out 1).trans rfl; have hfz6_0 := blk_frozen BK229.out 0; have hfz6_1 := blk_frozen BK229.out 1) | ((with_reducible refine gate_callee (f := 15) rfl ?_); refine goesL_ (some 18) rfl rfl Try.func15 (by kernel_rfl) rfl #[.agg #[.int .i64 a0_0, .slice A0_1 l0_1.length c0_1], .int .i64 1048576] rfl itp ?_; (with_reducible refine (laws_szNet.calls a0_0 _ _ l0_1 1048576 t230 _ ?side1 ?side2 A3.out).mono ?_); (case side1 => repeat (first | exact (Kd.C_below HR0_1.out HB.out) | (with_reducible refine Kd.C_alloc ?_ _) | (with_reducible refine Kd.C_drewN ?_ _) | (with_reducible refine Kd.C_drew ?_))); (case side2 => exact HC0_1.out); rintro e w7 ⟨rfl, hb⟩; refine ⟨_, rfl, ?_⟩; have n0_ := Aside0.mk (blk_below (upK BK229) hb); have n1_ := Aside0.mk (below_step (upW HB) hb); clear BK229; clear HB; have BK229 := n0_; have HB := n1_; clear n0_ n1_; (try clear hb); (try clear hb2); (try clear hk); (try clear hi)))
  go_ret
  exact ⟨by first | rfl | (simp [errW_none, errW_some] <;> rfl) | (simp [*, errW_none, errW_some] <;> rfl), by repeat (first | (with_reducible first | exact HB.out | apply below_alloc | apply pw_below_drewN | apply below_drew1 | refine below_set ?_ GE229.out) | exact HB.out)⟩
 ·rw [if_neg c4] at H
  have c4b0 : decide (t230 < 0) = false := decide_eq_false c4
  clear c4
  replace H := Option.bind_eq_some_iff.mp H
  obtain ⟨⟨t231, t232⟩, A80, H⟩ := H
  replace H : ((spec_DropWire.f k t231 t232 a1).bind fun bt235 => ((laws_toNet.f k a0_0 l0_1).bind fun bt241 => ((impl_DropWire.f k bt241.1 bt241.2 a1).bind fun bt246 => ((laws_eqNet.f k bt246.1 bt246.2.1 bt235.1 bt235.2.1).bind fun t252 => (if t252 = true then (laws_FnExactDropWire.j0 k a1 bt235.2.2 bt246.2.2 (bt246.2.2 != bt235.2.2) a0_0 l0_1 bt235.1 bt235.2.1 bt241.1 bt241.2 bt246.1 bt246.2.1) else (laws_FnExactDropWire.j0 k a1 bt235.2.2 bt246.2.2 true a0_0 l0_1 bt235.1 bt235.2.1 bt241.1 bt241.2 bt246.1 bt246.2.1)))))) = some r := H
  have A8 := Aside0.mk A80
  clear A80
  replace H := Option.bind_eq_some_iff.mp H
  obtain ⟨⟨t235, t236, t239⟩, A90, H⟩ := H
  replace H : ((laws_toNet.f k a0_0 l0_1).bind fun bt241 => ((impl_DropWire.f k bt241.1 bt241.2 a1).bind fun bt246 => ((laws_eqNet.f k bt246.1 bt246.2.1 t235 t236).bind fun t252 => (if t252 = true then (laws_FnExactDropWire.j0 k a1 t239 bt246.2.2 (bt246.2.2 != t239) a0_0 l0_1 t235 t236 bt241.1 bt241.2 bt246.1 bt246.2.1) else (laws_FnExactDropWire.j0 k a1 t239 bt246.2.2 true a0_0 l0_1 t235 t236 bt241.1 bt241.2 bt246.1 bt246.2.1))))) = some r := H
  have A9 := Aside0.mk A90
  clear A90
  replace H := Option.bind_eq_some_iff.mp H
  obtain ⟨⟨t241, t242⟩, A100, H⟩ := H
  replace H : ((impl_DropWire.f k t241 t242 a1).bind fun bt246 => ((laws_eqNet.f k bt246.1 bt246.2.1 t235 t236).bind fun t252 => (if t252 = true then (laws_FnExactDropWire.j0 k a1 t239 bt246.2.2 (bt246.2.2 != t239) a0_0 l0_1 t235 t236 t241 t242 bt246.1 bt246.2.1) else (laws_FnExactDropWire.j0 k a1 t239 bt246.2.2 true a0_0 l0_1 t235 t236 t241 t242 bt246.1 bt246.2.1)))) = some r := H
  have A10 := Aside0.mk A100
  clear A100
  replace H := Option.bind_eq_some_iff.mp H
  obtain ⟨⟨t246, t247, t250⟩, A110, H⟩ := H
  replace H : ((laws_eqNet.f k t246 t247 t235 t236).bind fun t252 => (if t252 = true then (laws_FnExactDropWire.j0 k a1 t239 t250 (t250 != t239) a0_0 l0_1 t235 t236 t241 t242 t246 t247) else (laws_FnExactDropWire.j0 k a1 t239 t250 true a0_0 l0_1 t235 t236 t241 t242 t246 t247))) = some r := H
  have A11 := Aside0.mk A110
  clear A110
  have HC12 := Aside0.mk H
  clear H
  go_enter Try.func13, Try.ntmps13
  go_upto_region 8 with (first | ((with_reducible refine gate_dst (N := 2) rfl ?_); refine box_event ?hg (N := 2) ?hd (cs := #[.int .i64 a0_0, .slice A0_1 l0_1.length c0_1]) (t := 24) ?hr ?_; (case hd => rfl); (case hg => rfl); (case hr => first | (go_simp; done) | (go_simp; rfl)); intro gb229 hg w13 hbox hb; have n0_ := Aside0.mk (below_step (upW HB) hb); have n1_ := Aside0.mk (hbox); have n2_ := Aside0.mk ((by rw [hg]; exact (below_size (upW HB)) : w.heap.size ≤ gb229)); have n3_ := Aside0.mk ((by rw [hg]; exact (below_size (upW HB)) : w.heap.size ≤ gb229)); clear HB; have HB := n0_; have BK229 := n1_; have GW229 := n2_; have GE229 := n3_; clear n0_ n1_ n2_ n3_; clear hb hbox hg; have hcz14_0 : w13.cell? ⟨gb229, 0, none⟩ = some (.int .i64 a0_0) := (blk_cell BK229.out 0).trans rfl; have hcz14_1 : w13.cell? ⟨gb229, 1, none⟩ = some (.slice A0_1 l0_1.length c0_1) := (blk_cell BK229.out 1).trans rfl; have hfz14_0 := blk_frozen BK229.out 0; have hfz14_1 := blk_frozen BK229.out 1) | ((with_reducible refine gate_callee (f := 15) rfl ?_); refine goesL_ (some 18) rfl rfl Try.func15 (by kernel_rfl) rfl #[.agg #[.int .i64 a0_0, .slice A0_1 l0_1.length c0_1], .int .i64 1048576] rfl itp ?_; (with_reducible refine (laws_szNet.calls a0_0 _ _ l0_1 1048576 t230 _ ?side1 ?side2 A3.out).mono ?_); (case side1 => repeat (first | exact (Kd.C_below HR0_1.out HB.out) | (with_reducible refine Kd.C_alloc ?_ _) | (with_reducible refine Kd.C_drewN ?_ _) | (with_reducible refine Kd.C_drew ?_))); (case side2 => exact HC0_1.out); rintro e w15 ⟨rfl, hb⟩; refine ⟨_, rfl, ?_⟩; have n0_ := Aside0.mk (blk_below (upK BK229) hb); have n1_ := Aside0.mk (below_step (upW HB) hb); clear BK229; clear HB; have BK229 := n0_; have HB := n1_; clear n0_ n1_; (try clear hb); (try clear hb2); (try clear hk); (try clear hi); have hcz16_0 : w15.cell? ⟨gb229, 0, none⟩ = some (.int .i64 a0_0) := (blk_cell BK229.out 0).trans rfl; have hcz16_1 : w15.cell? ⟨gb229, 1, none⟩ = some (.slice A0_1 l0_1.length c0_1) := (blk_cell BK229.out 1).trans rfl; have hfz16_0 := blk_frozen BK229.out 0; have hfz16_1 := blk_frozen BK229.out 1) | ((with_reducible refine gate_callee (f := 17) rfl ?_); refine goesL_ (some 23) rfl rfl Try.func17 (by kernel_rfl) rfl #[.agg #[.int .i64 a0_0, .slice A0_1 l0_1.length c0_1]] rfl itp ?_; (with_reducible refine (laws_toNet.calls k a0_0 _ _ l0_1 t231 t232 _ ?side1 ?side2 A8.out).mono ?_); (case side1 => repeat (first | exact (Kd.C_below HR0_1.out HB.out) | (with_reducible refine Kd.C_alloc ?_ _) | (with_reducible refine Kd.C_drewN ?_ _) | (with_reducible refine Kd.C_drew ?_))); (case side2 => exact HC0_1.out); rintro e w17 ⟨v233, rfl, ho0, hb⟩; refine ⟨_, rfl, ?_⟩; have n0_ := Aside0.mk (Kd.R_lower ho0 (below_size (upW HB))); have n1_ := Aside0.mk (blk_below (upK BK229) hb); have n2_ := Aside0.mk (below_step (upW HB) hb); clear BK229; clear HB; have HO234 := n0_; have BK229 := n1_; have HB := n2_; clear n0_ n1_ n2_; (try clear hb); (try clear hb2); (try clear hk); (try clear hi); (try clear ho0); obtain ⟨Ao18, co18, eo18⟩ := Kd.R_slice HO234.out; subst eo18) | ((with_reducible refine gate_callee (f := 47) rfl ?_); refine goesL_ (some 25) rfl rfl Try.func47 (by kernel_rfl) rfl #[.agg #[.int .i64 t231, .slice Ao18 t232.length co18], .int .i64 a1] rfl itp ?_; (with_reducible refine (spec_DropWire.calls k t231 _ _ t232 a1 t235 t236 t239 _ ?side1 ?side2 A9.out).mono ?_); (case side1 => repeat (first | exact (Kd.R_reads' HO234.out).2.2 | (with_reducible refine Kd.C_alloc ?_ _) | (with_reducible refine Kd.C_drewN ?_ _) | (with_reducible refine Kd.C_drew ?_))); (case side2 => exact (Kd.R_reads' HO234.out).2.1); rintro e w19 ⟨v237, rfl, ho0, hb⟩; refine ⟨_, rfl, ?_⟩; have n0_ := Aside0.mk (Kd.R_elder' (upR HO234) (Kd.R_base ho0) hb); have n1_ := Aside0.mk (Kd.R_lower (Kd.R_new' ho0 (Kd.R_lt (upR HO234))) (below_size (upW HB))); have n2_ := Aside0.mk (blk_below (upK BK229) hb); have n3_ := Aside0.mk (below_step (upW HB) hb); clear HO234; clear BK229; clear HB; have HO234 := n0_; have HO238 := n1_; have BK229 := n2_; have HB := n3_; clear n0_ n1_ n2_ n3_; (try clear hb); (try clear hb2); (try clear hk); (try clear hi); (try clear ho0)) | ((with_reducible refine gate_dst (N := 6) rfl ?_); refine box_event ?hg (N := 6) ?hd (cs := #[.int .i64 0, .slice none 0 0]) (t := 30) ?hr ?_; (case hd => rfl); (case hg => rfl); (case hr => first | (go_simp; done) | (go_simp; rfl)); intro gb240 hg w20 hbox hb; have n0_ := Aside0.mk (Kd.R_below (upR HO234) hb); have n1_ := Aside0.mk (Kd.R_below (upR HO238) hb); have n2_ := Aside0.mk (blk_below (upK BK229) hb); have n3_ := Aside0.mk (below_step (upW HB) hb); have n4_ := Aside0.mk (hbox); have n5_ := Aside0.mk ((by rw [hg]; exact (below_size (upW HB)) : w.heap.size ≤ gb240)); have n6_ := Aside0.mk ((by rw [hg]; exact (below_size (upW HB)) : w.heap.size ≤ gb240)); have n7_ := Aside0.mk ((by rw [hg]; exact Nat.ne_of_lt (blk_lt (upK BK229)) : gb229 ≠ gb240)); have n8_ := Aside0.mk ((by rw [hg]; exact Nat.ne_of_gt (blk_lt (upK BK229)) : gb240 ≠ gb229)); clear HO234; clear HO238; clear BK229; clear HB; have HO234 := n0_; have HO238 := n1_; have BK229 := n2_; have HB := n3_; have BK240 := n4_; have GW240 := n5_; have GE240 := n6_; have NB229_240 := n7_; have NB240_229 := n8_; clear n0_ n1_ n2_ n3_ n4_ n5_ n6_ n7_ n8_; clear hb hbox hg; have hnb21 := NB240_229.out; have hnc21 := NB229_240.out; have hcz22_0 : w20.cell? ⟨gb240, 0, none⟩ = some (.int .i64 0) := (blk_cell BK240.out 0).trans rfl; have hcz22_1 : w20.cell? ⟨gb240, 1, none⟩ = some (.slice none 0 0) := (blk_cell BK240.out 1).trans rfl; have hfz22_0 := blk_frozen BK240.out 0; have hfz22_1 := blk_frozen BK240.out 1; obtain ⟨Ao23, co23, eo23⟩ := Kd.R_slice HO238.out; subst eo23; have hcz24_0 : w20.cell? ⟨gb229, 0, none⟩ = some (.int .i64 a0_0) := (blk_cell BK229.out 0).trans rfl; have hcz24_1 : w20.cell? ⟨gb229, 1, none⟩ = some (.slice A0_1 l0_1.length c0_1) := (blk_cell BK229.out 1).trans rfl; have hfz24_0 := blk_frozen BK229.out 0; have hfz24_1 := blk_frozen BK229.out 1) | ((with_reducible refine gate_callee (f := 17) rfl ?_); refine goesL_ (some 29) rfl rfl Try.func17 (by kernel_rfl) rfl #[.agg #[.int .i64 a0_0, .slice A0_1 l0_1.length c0_1]] rfl itp ?_; (with_reducible refine (laws_toNet.calls k a0_0 _ _ l0_1 t241 t242 _ ?side1 ?side2 A10.out).mono ?_); (case side1 => exact Kd.C_below HR0_1.out (upW HB)); (case side2 => exact HC0_1.out); rintro e w25 ⟨v243, rfl, ho0, hb⟩; refine ⟨_, rfl, ?_⟩; have n0_ := Aside0.mk (Kd.R_elder' (by (with_reducible repeat (first | apply Kd.R_alloc | apply Kd.R_drewN | apply Kd.R_drew)); exact (Kd.R_mono (Kd.R_far (p := ⟨gb240, 1, none⟩) (Kd.R_far (p := ⟨gb240, 0, none⟩) (Kd.R_types HO234.out BK240.out (by decide)) (fun _ hk => hk.2) (.int .i64 t235)) (fun _ hk => hk.2) (.slice Ao23 t236.length co23)) (fun _ h_ => h_.1))) (Kd.R_base ho0) hb); have n1_ := Aside0.mk (Kd.R_elder' (by (with_reducible repeat (first | apply Kd.R_alloc | apply Kd.R_drewN | apply Kd.R_drew)); exact (Kd.R_mono (Kd.R_far (p := ⟨gb240, 1, none⟩) (Kd.R_far (p := ⟨gb240, 0, none⟩) (Kd.R_types HO238.out BK240.out (by decide)) (fun _ hk => hk.2) (.int .i64 t235)) (fun _ hk => hk.2) (.slice Ao23 t236.length co23)) (fun _ h_ => h_.1))) (Kd.R_base ho0) hb); have n2_ := Aside0.mk (Kd.R_lower (Kd.R_new' (Kd.R_new' ho0 (Kd.R_lt (by (with_reducible repeat (first | apply Kd.R_alloc | apply Kd.R_drewN | apply Kd.R_drew)); exact (Kd.R_mono (Kd.R_far (p := ⟨gb240, 1, none⟩) (Kd.R_far (p := ⟨gb240, 0, none⟩) (Kd.R_types HO234.out BK240.out (by decide)) (fun _ hk => hk.2) (.int .i64 t235)) (fun _ hk => hk.2) (.slice Ao23 t236.length co23)) (fun _ h_ => h_.1))))) (Kd.R_lt (by (with_reducible repeat (first | apply Kd.R_alloc | apply Kd.R_drewN | apply Kd.R_drew)); exact (Kd.R_mono (Kd.R_far (p := ⟨gb240, 1, none⟩) (Kd.R_far (p := ⟨gb240, 0, none⟩) (Kd.R_types HO238.out BK240.out (by decide)) (fun _ hk => hk.2) (.int .i64 t235)) (fun _ hk => hk.2) (.slice Ao23 t236.length co23)) (fun _ h_ => h_.1))))) (below_size (upW HB))); have n3_ := Aside0.mk (blk_below (upF BK229) hb); have n4_ := Aside0.mk (blk_below (g := gb240) (o := .cells #[.int .i64 t235, .slice Ao23 t236.length co23] 30 (0, 0)) (by (with_reducible repeat (first | refine blk_drewN ?_ _ | refine blk_drew ?_ | refine blk_alloc ?_ _)); refine blk_put (cs := #[.int .i64 t235, .slice none 0 0]) ?_ 1 _ rfl; (with_reducible repeat (first | refine blk_drewN ?_ _ | refine blk_drew ?_ | refine blk_alloc ?_ _)); refine blk_put (cs := #[.int .i64 0, .slice none 0 0]) ?_ 0 _ rfl; (with_reducible repeat (first | refine blk_drewN ?_ _ | refine blk_drew ?_ | refine blk_alloc ?_ _)); exact BK240.out) hb); have n5_ := Aside0.mk (below_step (upW HB) hb); clear HO234; clear HO238; clear BK229; clear BK240; clear HB; have HO234 := n0_; have HO238 := n1_; have HO244 := n2_; have BK229 := n3_; have BK240 := n4_; have HB := n5_; clear n0_ n1_ n2_ n3_ n4_ n5_; (try clear hb); (try clear hb2); (try clear hk); (try clear hi); (try clear ho0)) | ((with_reducible refine gate_dst (N := 8) rfl ?_); refine box_event ?hg (N := 8) ?hd (cs := #[.int .i64 0, .slice none 0 0]) (t := 30) ?hr ?_; (case hd => rfl); (case hg => rfl); (case hr => first | (go_simp; done) | (go_simp; rfl)); intro gb245 hg w26 hbox hb; have n0_ := Aside0.mk (Kd.R_below (upR HO234) hb); have n1_ := Aside0.mk (Kd.R_below (upR HO238) hb); have n2_ := Aside0.mk (Kd.R_below (upR HO244) hb); have n3_ := Aside0.mk (blk_below (upK BK229) hb); have n4_ := Aside0.mk (blk_below (upK BK240) hb); have n5_ := Aside0.mk (below_step (upW HB) hb); have n6_ := Aside0.mk (hbox); have n7_ := Aside0.mk ((by rw [hg]; exact (below_size (upW HB)) : w.heap.size ≤ gb245)); have n8_ := Aside0.mk ((by rw [hg]; exact (below_size (upW HB)) : w.heap.size ≤ gb245)); have n9_ := Aside0.mk ((by rw [hg]; exact Nat.ne_of_lt (blk_lt (upK BK229)) : gb229 ≠ gb245)); have n10_ := Aside0.mk ((by rw [hg]; exact Nat.ne_of_gt (blk_lt (upK BK229)) : gb245 ≠ gb229)); have n11_ := Aside0.mk ((by rw [hg]; exact Nat.ne_of_lt (blk_lt (upK BK240)) : gb240 ≠ gb245)); have n12_ := Aside0.mk ((by rw [hg]; exact Nat.ne_of_gt (blk_lt (upK BK240)) : gb245 ≠ gb240)); clear HO234; clear HO238; clear HO244; clear BK229; clear BK240; clear HB; have HO234 := n0_; have HO238 := n1_; have HO244 := n2_; have BK229 := n3_; have BK240 := n4_; have HB := n5_; have BK245 := n6_; have GW245 := n7_; have GE245 := n8_; have NB229_245 := n9_; have NB245_229 := n10_; have NB240_245 := n11_; have NB245_240 := n12_; clear n0_ n1_ n2_ n3_ n4_ n5_ n6_ n7_ n8_ n9_ n10_ n11_ n12_; clear hb hbox hg; have hnb27 := NB245_229.out; have hnc27 := NB229_245.out; have hnb28 := NB245_240.out; have hnc28 := NB240_245.out; have hcz29_0 : w26.cell? ⟨gb245, 0, none⟩ = some (.int .i64 0) := (blk_cell BK245.out 0).trans rfl; have hcz29_1 : w26.cell? ⟨gb245, 1, none⟩ = some (.slice none 0 0) := (blk_cell BK245.out 1).trans rfl; have hfz29_0 := blk_frozen BK245.out 0; have hfz29_1 := blk_frozen BK245.out 1; obtain ⟨Ao30, co30, eo30⟩ := Kd.R_slice HO244.out; subst eo30) | ((with_reducible refine gate_callee (f := 48) rfl ?_); refine goesL_ (some 33) rfl rfl Try.func48 (by kernel_rfl) rfl #[.agg #[.int .i64 t241, .slice Ao30 t242.length co30], .int .i64 a1] rfl itp ?_; (with_reducible refine (impl_DropWire.calls k t241 _ _ t242 a1 t246 t247 t250 _ ?side1 ?side2 A11.out).mono ?_); (case side1 => refine (Kd.R_reads' (e := 73) (base := w.heap.size) (ok := fun k_ => ((True ∧ some k_ ≠ (.slice Ao18 t232.length co18 : Value).ownBlock) ∧ some k_ ≠ (.slice Ao23 t236.length co23 : Value).ownBlock)) (n := t242.length) (c := co30) ?_).2.2; exact (by (with_reducible repeat (first | apply Kd.R_alloc | apply Kd.R_drewN | apply Kd.R_drew)); exact (Kd.R_mono (Kd.R_far (p := ⟨gb245, 1, none⟩) (Kd.R_far (p := ⟨gb245, 0, none⟩) (Kd.R_types HO244.out BK245.out (by decide)) (fun _ hk => hk.2) (.int .i64 t241)) (fun _ hk => hk.2) (.slice Ao30 t242.length co30)) (fun _ h_ => h_.1)))); (case side2 => exact (Kd.R_reads' HO244.out).2.1); rintro e w31 ⟨v248, rfl, ho0, hb⟩; refine ⟨_, rfl, ?_⟩; have n0_ := Aside0.mk (Kd.R_elder' (by (with_reducible repeat (first | apply Kd.R_alloc | apply Kd.R_drewN | apply Kd.R_drew)); exact (Kd.R_mono (Kd.R_far (p := ⟨gb245, 1, none⟩) (Kd.R_far (p := ⟨gb245, 0, none⟩) (Kd.R_types HO234.out BK245.out (by decide)) (fun _ hk => hk.2) (.int .i64 t241)) (fun _ hk => hk.2) (.slice Ao30 t242.length co30)) (fun _ h_ => h_.1))) (Kd.R_base ho0) hb); have n1_ := Aside0.mk (Kd.R_elder' (by (with_reducible repeat (first | apply Kd.R_alloc | apply Kd.R_drewN | apply Kd.R_drew)); exact (Kd.R_mono (Kd.R_far (p := ⟨gb245, 1, none⟩) (Kd.R_far (p := ⟨gb245, 0, none⟩) (Kd.R_types HO238.out BK245.out (by decide)) (fun _ hk => hk.2) (.int .i64 t241)) (fun _ hk => hk.2) (.slice Ao30 t242.length co30)) (fun _ h_ => h_.1))) (Kd.R_base ho0) hb); have n2_ := Aside0.mk (Kd.R_elder' (by (with_reducible repeat (first | apply Kd.R_alloc | apply Kd.R_drewN | apply Kd.R_drew)); exact (Kd.R_mono (Kd.R_far (p := ⟨gb245, 1, none⟩) (Kd.R_far (p := ⟨gb245, 0, none⟩) (Kd.R_types HO244.out BK245.out (by decide)) (fun _ hk => hk.2) (.int .i64 t241)) (fun _ hk => hk.2) (.slice Ao30 t242.length co30)) (fun _ h_ => h_.1))) (Kd.R_base ho0) hb); have n3_ := Aside0.mk (Kd.R_lower (Kd.R_new' (Kd.R_new' (Kd.R_new' ho0 (Kd.R_lt (by (with_reducible repeat (first | apply Kd.R_alloc | apply Kd.R_drewN | apply Kd.R_drew)); exact (Kd.R_mono (Kd.R_far (p := ⟨gb245, 1, none⟩) (Kd.R_far (p := ⟨gb245, 0, none⟩) (Kd.R_types HO234.out BK245.out (by decide)) (fun _ hk => hk.2) (.int .i64 t241)) (fun _ hk => hk.2) (.slice Ao30 t242.length co30)) (fun _ h_ => h_.1))))) (Kd.R_lt (by (with_reducible repeat (first | apply Kd.R_alloc | apply Kd.R_drewN | apply Kd.R_drew)); exact (Kd.R_mono (Kd.R_far (p := ⟨gb245, 1, none⟩) (Kd.R_far (p := ⟨gb245, 0, none⟩) (Kd.R_types HO238.out BK245.out (by decide)) (fun _ hk => hk.2) (.int .i64 t241)) (fun _ hk => hk.2) (.slice Ao30 t242.length co30)) (fun _ h_ => h_.1))))) (Kd.R_lt (by (with_reducible repeat (first | apply Kd.R_alloc | apply Kd.R_drewN | apply Kd.R_drew)); exact (Kd.R_mono (Kd.R_far (p := ⟨gb245, 1, none⟩) (Kd.R_far (p := ⟨gb245, 0, none⟩) (Kd.R_types HO244.out BK245.out (by decide)) (fun _ hk => hk.2) (.int .i64 t241)) (fun _ hk => hk.2) (.slice Ao30 t242.length co30)) (fun _ h_ => h_.1))))) (below_size (upW HB))); have n4_ := Aside0.mk (blk_below (upF BK229) hb); have n5_ := Aside0.mk (blk_below (upF BK240) hb); have n6_ := Aside0.mk (blk_below (g := gb245) (o := .cells #[.int .i64 t241, .slice Ao30 t242.length co30] 30 (0, 0)) (by (with_reducible repeat (first | refine blk_drewN ?_ _ | refine blk_drew ?_ | refine blk_alloc ?_ _)); refine blk_put (cs := #[.int .i64 t241, .slice none 0 0]) ?_ 1 _ rfl; (with_reducible repeat (first | refine blk_drewN ?_ _ | refine blk_drew ?_ | refine blk_alloc ?_ _)); refine blk_put (cs := #[.int .i64 0, .slice none 0 0]) ?_ 0 _ rfl; (with_reducible repeat (first | refine blk_drewN ?_ _ | refine blk_drew ?_ | refine blk_alloc ?_ _)); exact BK245.out) hb); have n7_ := Aside0.mk (below_step (upW HB) hb); clear HO234; clear HO238; clear HO244; clear BK229; clear BK240; clear BK245; clear HB; have HO234 := n0_; have HO238 := n1_; have HO244 := n2_; have HO249 := n3_; have BK229 := n4_; have BK240 := n5_; have BK245 := n6_; have HB := n7_; clear n0_ n1_ n2_ n3_ n4_ n5_ n6_ n7_; (try clear hb); (try clear hb2); (try clear hk); (try clear hi); (try clear ho0)) | ((with_reducible refine gate_dst (N := 9) rfl ?_); refine box_event ?hg (N := 9) ?hd (cs := #[.int .i64 0, .slice none 0 0]) (t := 30) ?hr ?_; (case hd => rfl); (case hg => rfl); (case hr => first | (go_simp; done) | (go_simp; rfl)); intro gb251 hg w32 hbox hb; have n0_ := Aside0.mk (Kd.R_below (upR HO234) hb); have n1_ := Aside0.mk (Kd.R_below (upR HO238) hb); have n2_ := Aside0.mk (Kd.R_below (upR HO244) hb); have n3_ := Aside0.mk (Kd.R_below (upR HO249) hb); have n4_ := Aside0.mk (blk_below (upK BK229) hb); have n5_ := Aside0.mk (blk_below (upK BK240) hb); have n6_ := Aside0.mk (blk_below (upK BK245) hb); have n7_ := Aside0.mk (below_step (upW HB) hb); have n8_ := Aside0.mk (hbox); have n9_ := Aside0.mk ((by rw [hg]; exact (below_size (upW HB)) : w.heap.size ≤ gb251)); have n10_ := Aside0.mk ((by rw [hg]; exact (below_size (upW HB)) : w.heap.size ≤ gb251)); have n11_ := Aside0.mk ((by rw [hg]; exact Nat.ne_of_lt (blk_lt (upK BK229)) : gb229 ≠ gb251)); have n12_ := Aside0.mk ((by rw [hg]; exact Nat.ne_of_gt (blk_lt (upK BK229)) : gb251 ≠ gb229)); have n13_ := Aside0.mk ((by rw [hg]; exact Nat.ne_of_lt (blk_lt (upK BK240)) : gb240 ≠ gb251)); have n14_ := Aside0.mk ((by rw [hg]; exact Nat.ne_of_gt (blk_lt (upK BK240)) : gb251 ≠ gb240)); have n15_ := Aside0.mk ((by rw [hg]; exact Nat.ne_of_lt (blk_lt (upK BK245)) : gb245 ≠ gb251)); have n16_ := Aside0.mk ((by rw [hg]; exact Nat.ne_of_gt (blk_lt (upK BK245)) : gb251 ≠ gb245)); clear HO234; clear HO238; clear HO244; clear HO249; clear BK229; clear BK240; clear BK245; clear HB; have HO234 := n0_; have HO238 := n1_; have HO244 := n2_; have HO249 := n3_; have BK229 := n4_; have BK240 := n5_; have BK245 := n6_; have HB := n7_; have BK251 := n8_; have GW251 := n9_; have GE251 := n10_; have NB229_251 := n11_; have NB251_229 := n12_; have NB240_251 := n13_; have NB251_240 := n14_; have NB245_251 := n15_; have NB251_245 := n16_; clear n0_ n1_ n2_ n3_ n4_ n5_ n6_ n7_ n8_ n9_ n10_ n11_ n12_ n13_ n14_ n15_ n16_; clear hb hbox hg; have hnb33 := NB251_229.out; have hnc33 := NB229_251.out; have hnb34 := NB251_240.out; have hnc34 := NB240_251.out; have hnb35 := NB251_245.out; have hnc35 := NB245_251.out; have hcz36_0 : w32.cell? ⟨gb251, 0, none⟩ = some (.int .i64 0) := (blk_cell BK251.out 0).trans rfl; have hcz36_1 : w32.cell? ⟨gb251, 1, none⟩ = some (.slice none 0 0) := (blk_cell BK251.out 1).trans rfl; have hfz36_0 := blk_frozen BK251.out 0; have hfz36_1 := blk_frozen BK251.out 1; obtain ⟨Ao37, co37, eo37⟩ := Kd.R_slice HO249.out; subst eo37))
  (try simp only [Act.put, List.setIfInBounds_toArray, List.set_cons_zero, List.set_cons_succ])
  go_cut [44] (fun v44 wc => ∃ (kq : Nat) (x44_11 : Bool), v44 = .bool x44_11 ∧ Aside0 (laws_FnExactDropWire.j0 kq a1 t239 t250 x44_11 a0_0 l0_1 t235 t236 t241 t242 t246 t247 = some r) ∧ Aside0 (kq ≤ k) ∧ Aside0 (Kd.R k73 73 wc w.heap.size (fun k_ => some k_ ≠ ((.slice Ao30 t242.length co30) : Value).ownBlock ∧ some k_ ≠ ((.slice Ao37 t247.length co37) : Value).ownBlock) (.slice Ao23 t236.length co23) t236) ∧ Aside0 (Kd.R k73 73 wc w.heap.size (fun k_ => some k_ ≠ ((.slice Ao23 t236.length co23) : Value).ownBlock ∧ some k_ ≠ ((.slice Ao37 t247.length co37) : Value).ownBlock) (.slice Ao30 t242.length co30) t242) ∧ Aside0 (Kd.R k73 73 wc w.heap.size (fun k_ => some k_ ≠ ((.slice Ao23 t236.length co23) : Value).ownBlock ∧ some k_ ≠ ((.slice Ao30 t242.length co30) : Value).ownBlock) (.slice Ao37 t247.length co37) t247) ∧ Aside0 (wc.heap[gb229]? = some (.cells #[.int .i64 a0_0, (.slice A0_1 l0_1.length c0_1)] 24 (0, 0))) ∧ Aside0 (wc.heap[gb240]? = some (.cells #[.int .i64 t235, (.slice Ao23 t236.length co23)] 30 (0, 0))) ∧ Aside0 (wc.heap[gb245]? = some (.cells #[.int .i64 t241, (.slice Ao30 t242.length co30)] 30 (0, 0))) ∧ Aside0 (wc.heap[gb251]? = some (.cells #[.int .i64 t246, (.slice Ao37 t247.length co37)] 30 (0, 0))) ∧ Aside0 (Below w.heap.size w wc))
  case first =>
   have H := HC12.out
   clear HC12
   replace H := Option.bind_eq_some_iff.mp H
   obtain ⟨t252, A380, H⟩ := H
   replace H : (if t252 = true then (laws_FnExactDropWire.j0 k a1 t239 t250 (t250 != t239) a0_0 l0_1 t235 t236 t241 t242 t246 t247) else (laws_FnExactDropWire.j0 k a1 t239 t250 true a0_0 l0_1 t235 t236 t241 t242 t246 t247)) = some r := H
   have A38 := Aside0.mk A380
   clear A380
   by_cases c39 : t252 = true
   ·subst c39
    have H1 : (laws_FnExactDropWire.j0 k a1 t239 t250 (t250 != t239) a0_0 l0_1 t235 t236 t241 t242 t246 t247) = some r := by rw [if_pos rfl] at H; exact H
    clear H
    have H := H1
    clear H1
    have H' := Aside0.mk H
    clear H
    have hnb40 := NB251_229.out
    have hnc40 := NB229_251.out
    have hnb41 := NB251_240.out
    have hnc41 := NB240_251.out
    have hnb42 := NB251_245.out
    have hnc42 := NB245_251.out
    have hcz43_0 : w32.cell? ⟨gb251, 0, none⟩ = some (.int .i64 0) := (blk_cell BK251.out 0).trans rfl
    have hcz43_1 : w32.cell? ⟨gb251, 1, none⟩ = some (.slice none 0 0) := (blk_cell BK251.out 1).trans rfl
    have hfz43_0 := blk_frozen BK251.out 0
    have hfz43_1 := blk_frozen BK251.out 1
    have hnb44 := NB240_229.out
    have hnc44 := NB229_240.out
    have hnb45 := NB240_245.out
    have hnc45 := NB245_240.out
    have hcz46_0 : w32.cell? ⟨gb240, 0, none⟩ = some (.int .i64 t235) := (blk_cell BK240.out 0).trans rfl
    have hcz46_1 : w32.cell? ⟨gb240, 1, none⟩ = some (.slice Ao23 t236.length co23) := (blk_cell BK240.out 1).trans rfl
    have hfz46_0 := blk_frozen BK240.out 0
    have hfz46_1 := blk_frozen BK240.out 1
    go_wp2_with (first | ((with_reducible refine gate_callee (f := 19) rfl ?_); refine goesL_ (some 38) rfl rfl Try.func19 (by kernel_rfl) rfl #[.agg #[.int .i64 t246, .slice Ao37 t247.length co37], .agg #[.int .i64 t235, .slice Ao23 t236.length co23]] rfl itp ?_; (with_reducible refine (laws_eqNet.calls k t246 _ _ t247 t235 _ _ t236 true _ ?side1 ?side2 ?side3 ?side4 A38.out).mono ?_); (case side1 => refine (Kd.R_reads' (e := 73) (base := w.heap.size) (ok := fun k_ => (((True ∧ some k_ ≠ (.slice Ao18 t232.length co18 : Value).ownBlock) ∧ some k_ ≠ (.slice Ao23 t236.length co23 : Value).ownBlock) ∧ some k_ ≠ (.slice Ao30 t242.length co30 : Value).ownBlock)) (n := t247.length) (c := co37) ?_).2.2; exact (by (with_reducible repeat (first | apply Kd.R_alloc | apply Kd.R_drewN | apply Kd.R_drew)); exact (Kd.R_mono (Kd.R_far (p := ⟨gb251, 1, none⟩) (Kd.R_far (p := ⟨gb251, 0, none⟩) (Kd.R_types HO249.out BK251.out (by decide)) (fun _ hk => hk.2) (.int .i64 t246)) (fun _ hk => hk.2) (.slice Ao37 t247.length co37)) (fun _ h_ => h_.1)))); (case side2 => exact (Kd.R_reads' HO249.out).2.1); (case side3 => refine (Kd.R_reads' (e := 73) (base := w.heap.size) (ok := fun k_ => (((True ∧ some k_ ≠ (.slice Ao18 t232.length co18 : Value).ownBlock) ∧ some k_ ≠ (.slice Ao30 t242.length co30 : Value).ownBlock) ∧ some k_ ≠ (.slice Ao37 t247.length co37 : Value).ownBlock)) (n := t236.length) (c := co23) ?_).2.2; exact (by (with_reducible repeat (first | apply Kd.R_alloc | apply Kd.R_drewN | apply Kd.R_drew)); exact (Kd.R_mono (Kd.R_far (p := ⟨gb251, 1, none⟩) (Kd.R_far (p := ⟨gb251, 0, none⟩) (Kd.R_types HO238.out BK251.out (by decide)) (fun _ hk => hk.2) (.int .i64 t246)) (fun _ hk => hk.2) (.slice Ao37 t247.length co37)) (fun _ h_ => h_.1)))); (case side4 => exact (Kd.R_reads' HO238.out).2.1); rintro e w47 ⟨rfl, hb⟩; refine ⟨_, rfl, ?_⟩; have n0_ := Aside0.mk (Kd.R_below (by (with_reducible repeat (first | apply Kd.R_alloc | apply Kd.R_drewN | apply Kd.R_drew)); exact (Kd.R_mono (Kd.R_far (p := ⟨gb251, 1, none⟩) (Kd.R_far (p := ⟨gb251, 0, none⟩) (Kd.R_types HO234.out BK251.out (by decide)) (fun _ hk => hk.2) (.int .i64 t246)) (fun _ hk => hk.2) (.slice Ao37 t247.length co37)) (fun _ h_ => h_.1))) hb); have n1_ := Aside0.mk (Kd.R_below (by (with_reducible repeat (first | apply Kd.R_alloc | apply Kd.R_drewN | apply Kd.R_drew)); exact (Kd.R_mono (Kd.R_far (p := ⟨gb251, 1, none⟩) (Kd.R_far (p := ⟨gb251, 0, none⟩) (Kd.R_types HO238.out BK251.out (by decide)) (fun _ hk => hk.2) (.int .i64 t246)) (fun _ hk => hk.2) (.slice Ao37 t247.length co37)) (fun _ h_ => h_.1))) hb); have n2_ := Aside0.mk (Kd.R_below (by (with_reducible repeat (first | apply Kd.R_alloc | apply Kd.R_drewN | apply Kd.R_drew)); exact (Kd.R_mono (Kd.R_far (p := ⟨gb251, 1, none⟩) (Kd.R_far (p := ⟨gb251, 0, none⟩) (Kd.R_types HO244.out BK251.out (by decide)) (fun _ hk => hk.2) (.int .i64 t246)) (fun _ hk => hk.2) (.slice Ao37 t247.length co37)) (fun _ h_ => h_.1))) hb); have n3_ := Aside0.mk (Kd.R_below (by (with_reducible repeat (first | apply Kd.R_alloc | apply Kd.R_drewN | apply Kd.R_drew)); exact (Kd.R_mono (Kd.R_far (p := ⟨gb251, 1, none⟩) (Kd.R_far (p := ⟨gb251, 0, none⟩) (Kd.R_types HO249.out BK251.out (by decide)) (fun _ hk => hk.2) (.int .i64 t246)) (fun _ hk => hk.2) (.slice Ao37 t247.length co37)) (fun _ h_ => h_.1))) hb); have n4_ := Aside0.mk (blk_below (upF BK229) hb); have n5_ := Aside0.mk (blk_below (upF BK240) hb); have n6_ := Aside0.mk (blk_below (upF BK245) hb); have n7_ := Aside0.mk (blk_below (g := gb251) (o := .cells #[.int .i64 t246, .slice Ao37 t247.length co37] 30 (0, 0)) (by (with_reducible repeat (first | refine blk_drewN ?_ _ | refine blk_drew ?_ | refine blk_alloc ?_ _)); refine blk_put (cs := #[.int .i64 t246, .slice none 0 0]) ?_ 1 _ rfl; (with_reducible repeat (first | refine blk_drewN ?_ _ | refine blk_drew ?_ | refine blk_alloc ?_ _)); refine blk_put (cs := #[.int .i64 0, .slice none 0 0]) ?_ 0 _ rfl; (with_reducible repeat (first | refine blk_drewN ?_ _ | refine blk_drew ?_ | refine blk_alloc ?_ _)); exact BK251.out) hb); have n8_ := Aside0.mk (below_step (upW HB) hb); clear HO234; clear HO238; clear HO244; clear HO249; clear BK229; clear BK240; clear BK245; clear BK251; clear HB; have HO234 := n0_; have HO238 := n1_; have HO244 := n2_; have HO249 := n3_; have BK229 := n4_; have BK240 := n5_; have BK245 := n6_; have BK251 := n7_; have HB := n8_; clear n0_ n1_ n2_ n3_ n4_ n5_ n6_ n7_ n8_; (try clear hb); (try clear hb2); (try clear hk); (try clear hi)))
    go_meet
    case rel => exact ⟨_, ((t250 != t239)), (by first | rfl | (simp; done) | (simp [*]; done)), H', ⟨by first | omega | exact Nat.le_refl _⟩, ⟨by (with_reducible repeat (first | apply Kd.R_alloc | apply Kd.R_drewN | apply Kd.R_drew)); exact Kd.R_mono HO238.out (fun _ hk => ⟨hk.1.2, hk.2⟩)⟩, ⟨by (with_reducible repeat (first | apply Kd.R_alloc | apply Kd.R_drewN | apply Kd.R_drew)); exact Kd.R_mono HO244.out (fun _ hk => ⟨hk.1.2, hk.2⟩)⟩, ⟨by (with_reducible repeat (first | apply Kd.R_alloc | apply Kd.R_drewN | apply Kd.R_drew)); exact Kd.R_mono HO249.out (fun _ hk => ⟨hk.1.2, hk.2⟩)⟩, ⟨upK BK229⟩, ⟨upK BK240⟩, ⟨upK BK245⟩, ⟨upK BK251⟩, ⟨upW HB⟩⟩
   ·replace c39 := Bool.eq_false_iff.mpr c39
    subst c39
    have H1 : (laws_FnExactDropWire.j0 k a1 t239 t250 true a0_0 l0_1 t235 t236 t241 t242 t246 t247) = some r := by rw [if_neg (show ¬ (false = true) by decide)] at H; exact H
    clear H
    have H := H1
    clear H1
    have H' := Aside0.mk H
    clear H
    have hnb48 := NB251_229.out
    have hnc48 := NB229_251.out
    have hnb49 := NB251_240.out
    have hnc49 := NB240_251.out
    have hnb50 := NB251_245.out
    have hnc50 := NB245_251.out
    have hcz51_0 : w32.cell? ⟨gb251, 0, none⟩ = some (.int .i64 0) := (blk_cell BK251.out 0).trans rfl
    have hcz51_1 : w32.cell? ⟨gb251, 1, none⟩ = some (.slice none 0 0) := (blk_cell BK251.out 1).trans rfl
    have hfz51_0 := blk_frozen BK251.out 0
    have hfz51_1 := blk_frozen BK251.out 1
    have hnb52 := NB240_229.out
    have hnc52 := NB229_240.out
    have hnb53 := NB240_245.out
    have hnc53 := NB245_240.out
    have hcz54_0 : w32.cell? ⟨gb240, 0, none⟩ = some (.int .i64 t235) := (blk_cell BK240.out 0).trans rfl
    have hcz54_1 : w32.cell? ⟨gb240, 1, none⟩ = some (.slice Ao23 t236.length co23) := (blk_cell BK240.out 1).trans rfl
    have hfz54_0 := blk_frozen BK240.out 0
    have hfz54_1 := blk_frozen BK240.out 1
    go_wp2_with (first | ((with_reducible refine gate_callee (f := 19) rfl ?_); refine goesL_ (some 38) rfl rfl Try.func19 (by kernel_rfl) rfl #[.agg #[.int .i64 t246, .slice Ao37 t247.length co37], .agg #[.int .i64 t235, .slice Ao23 t236.length co23]] rfl itp ?_; (with_reducible refine (laws_eqNet.calls k t246 _ _ t247 t235 _ _ t236 false _ ?side1 ?side2 ?side3 ?side4 A38.out).mono ?_); (case side1 => refine (Kd.R_reads' (e := 73) (base := w.heap.size) (ok := fun k_ => (((True ∧ some k_ ≠ (.slice Ao18 t232.length co18 : Value).ownBlock) ∧ some k_ ≠ (.slice Ao23 t236.length co23 : Value).ownBlock) ∧ some k_ ≠ (.slice Ao30 t242.length co30 : Value).ownBlock)) (n := t247.length) (c := co37) ?_).2.2; exact (by (with_reducible repeat (first | apply Kd.R_alloc | apply Kd.R_drewN | apply Kd.R_drew)); exact (Kd.R_mono (Kd.R_far (p := ⟨gb251, 1, none⟩) (Kd.R_far (p := ⟨gb251, 0, none⟩) (Kd.R_types HO249.out BK251.out (by decide)) (fun _ hk => hk.2) (.int .i64 t246)) (fun _ hk => hk.2) (.slice Ao37 t247.length co37)) (fun _ h_ => h_.1)))); (case side2 => exact (Kd.R_reads' HO249.out).2.1); (case side3 => refine (Kd.R_reads' (e := 73) (base := w.heap.size) (ok := fun k_ => (((True ∧ some k_ ≠ (.slice Ao18 t232.length co18 : Value).ownBlock) ∧ some k_ ≠ (.slice Ao30 t242.length co30 : Value).ownBlock) ∧ some k_ ≠ (.slice Ao37 t247.length co37 : Value).ownBlock)) (n := t236.length) (c := co23) ?_).2.2; exact (by (with_reducible repeat (first | apply Kd.R_alloc | apply Kd.R_drewN | apply Kd.R_drew)); exact (Kd.R_mono (Kd.R_far (p := ⟨gb251, 1, none⟩) (Kd.R_far (p := ⟨gb251, 0, none⟩) (Kd.R_types HO238.out BK251.out (by decide)) (fun _ hk => hk.2) (.int .i64 t246)) (fun _ hk => hk.2) (.slice Ao37 t247.length co37)) (fun _ h_ => h_.1)))); (case side4 => exact (Kd.R_reads' HO238.out).2.1); rintro e w55 ⟨rfl, hb⟩; refine ⟨_, rfl, ?_⟩; have n0_ := Aside0.mk (Kd.R_below (by (with_reducible repeat (first | apply Kd.R_alloc | apply Kd.R_drewN | apply Kd.R_drew)); exact (Kd.R_mono (Kd.R_far (p := ⟨gb251, 1, none⟩) (Kd.R_far (p := ⟨gb251, 0, none⟩) (Kd.R_types HO234.out BK251.out (by decide)) (fun _ hk => hk.2) (.int .i64 t246)) (fun _ hk => hk.2) (.slice Ao37 t247.length co37)) (fun _ h_ => h_.1))) hb); have n1_ := Aside0.mk (Kd.R_below (by (with_reducible repeat (first | apply Kd.R_alloc | apply Kd.R_drewN | apply Kd.R_drew)); exact (Kd.R_mono (Kd.R_far (p := ⟨gb251, 1, none⟩) (Kd.R_far (p := ⟨gb251, 0, none⟩) (Kd.R_types HO238.out BK251.out (by decide)) (fun _ hk => hk.2) (.int .i64 t246)) (fun _ hk => hk.2) (.slice Ao37 t247.length co37)) (fun _ h_ => h_.1))) hb); have n2_ := Aside0.mk (Kd.R_below (by (with_reducible repeat (first | apply Kd.R_alloc | apply Kd.R_drewN | apply Kd.R_drew)); exact (Kd.R_mono (Kd.R_far (p := ⟨gb251, 1, none⟩) (Kd.R_far (p := ⟨gb251, 0, none⟩) (Kd.R_types HO244.out BK251.out (by decide)) (fun _ hk => hk.2) (.int .i64 t246)) (fun _ hk => hk.2) (.slice Ao37 t247.length co37)) (fun _ h_ => h_.1))) hb); have n3_ := Aside0.mk (Kd.R_below (by (with_reducible repeat (first | apply Kd.R_alloc | apply Kd.R_drewN | apply Kd.R_drew)); exact (Kd.R_mono (Kd.R_far (p := ⟨gb251, 1, none⟩) (Kd.R_far (p := ⟨gb251, 0, none⟩) (Kd.R_types HO249.out BK251.out (by decide)) (fun _ hk => hk.2) (.int .i64 t246)) (fun _ hk => hk.2) (.slice Ao37 t247.length co37)) (fun _ h_ => h_.1))) hb); have n4_ := Aside0.mk (blk_below (upF BK229) hb); have n5_ := Aside0.mk (blk_below (upF BK240) hb); have n6_ := Aside0.mk (blk_below (upF BK245) hb); have n7_ := Aside0.mk (blk_below (g := gb251) (o := .cells #[.int .i64 t246, .slice Ao37 t247.length co37] 30 (0, 0)) (by (with_reducible repeat (first | refine blk_drewN ?_ _ | refine blk_drew ?_ | refine blk_alloc ?_ _)); refine blk_put (cs := #[.int .i64 t246, .slice none 0 0]) ?_ 1 _ rfl; (with_reducible repeat (first | refine blk_drewN ?_ _ | refine blk_drew ?_ | refine blk_alloc ?_ _)); refine blk_put (cs := #[.int .i64 0, .slice none 0 0]) ?_ 0 _ rfl; (with_reducible repeat (first | refine blk_drewN ?_ _ | refine blk_drew ?_ | refine blk_alloc ?_ _)); exact BK251.out) hb); have n8_ := Aside0.mk (below_step (upW HB) hb); clear HO234; clear HO238; clear HO244; clear HO249; clear BK229; clear BK240; clear BK245; clear BK251; clear HB; have HO234 := n0_; have HO238 := n1_; have HO244 := n2_; have HO249 := n3_; have BK229 := n4_; have BK240 := n5_; have BK245 := n6_; have BK251 := n7_; have HB := n8_; clear n0_ n1_ n2_ n3_ n4_ n5_ n6_ n7_ n8_; (try clear hb); (try clear hb2); (try clear hk); (try clear hi)))
    go_meet
    case rel => exact ⟨_, (true), (by first | rfl | (simp; done) | (simp [*]; done)), H', ⟨by first | omega | exact Nat.le_refl _⟩, ⟨by (with_reducible repeat (first | apply Kd.R_alloc | apply Kd.R_drewN | apply Kd.R_drew)); exact Kd.R_mono HO238.out (fun _ hk => ⟨hk.1.2, hk.2⟩)⟩, ⟨by (with_reducible repeat (first | apply Kd.R_alloc | apply Kd.R_drewN | apply Kd.R_drew)); exact Kd.R_mono HO244.out (fun _ hk => ⟨hk.1.2, hk.2⟩)⟩, ⟨by (with_reducible repeat (first | apply Kd.R_alloc | apply Kd.R_drewN | apply Kd.R_drew)); exact Kd.R_mono HO249.out (fun _ hk => ⟨hk.1.2, hk.2⟩)⟩, ⟨upK BK229⟩, ⟨upK BK240⟩, ⟨upK BK245⟩, ⟨upK BK251⟩, ⟨upW HB⟩⟩
  case rest =>
   clear HC12
   try clear c1
   try clear c2
   try clear p2
   try clear c3
   try clear c4
   try clear c4b0
   try clear c5
   try clear c13
   try clear c15
   try clear c17
   try clear c19
   try clear c21
   try clear c27
   try clear c28
   try clear c33
   try clear c34
   try clear c35
   try clear c39
   try clear c40
   try clear c41
   try clear c42
   try clear c44
   try clear c45
   try clear c47
   try clear c48
   try clear c49
   try clear c50
   try clear c52
   try clear c53
   try clear hcz14_0
   try clear hcz14_1
   try clear hcz16_0
   try clear hcz16_1
   try clear hcz22_0
   try clear hcz22_1
   try clear hcz24_0
   try clear hcz24_1
   try clear hcz29_0
   try clear hcz29_1
   try clear hcz36_0
   try clear hcz36_1
   try clear hcz43_0
   try clear hcz43_1
   try clear hcz46_0
   try clear hcz46_1
   try clear hcz51_0
   try clear hcz51_1
   try clear hcz54_0
   try clear hcz54_1
   try clear hcz6_0
   try clear hcz6_1
   try clear hfz14_0
   try clear hfz14_1
   try clear hfz16_0
   try clear hfz16_1
   try clear hfz22_0
   try clear hfz22_1
   try clear hfz24_0
   try clear hfz24_1
   try clear hfz29_0
   try clear hfz29_1
   try clear hfz36_0
   try clear hfz36_1
   try clear hfz43_0
   try clear hfz43_1
   try clear hfz46_0
   try clear hfz46_1
   try clear hfz51_0
   try clear hfz51_1
   try clear hfz54_0
   try clear hfz54_1
   try clear hfz6_0
   try clear hfz6_1
   obtain ⟨kq, x44_11, rfl, HA, HJ11, HO_241001, HO_246001, HO_252001, BK229, BK240, BK245, BK251, HB⟩ := hcut
   cases kq with
   | zero => exact absurd HA.out (by simp [laws_FnExactDropWire.j0])
   | succ kj11 =>
    have H := HA.out
    clear HA
    simp only [laws_FnExactDropWire.j0] at H
    by_cases c56 : x44_11 = true
    ·subst c56
     have H1 : (some false) = some r := by rw [if_pos rfl] at H; exact H
     clear H
     have H := H1
     clear H1
     obtain rfl := Option.some.inj H
     go_wp2
     go_ret
     exact ⟨by first | rfl | (simp [errW_none, errW_some] <;> rfl) | (simp [*, errW_none, errW_some] <;> rfl), by repeat (first | (with_reducible first | exact HB.out | apply below_alloc | apply pw_below_drewN | apply below_drew1 | refine below_set ?_ GE229.out | refine below_set ?_ GE240.out | refine below_set ?_ GE245.out | refine below_set ?_ GE251.out) | exact HB.out)⟩
    ·replace c56 := Bool.eq_false_iff.mpr c56
     subst c56
     have H1 : ((laws_toNet.f kj11 a0_0 l0_1).bind fun bt253 => ((laws_eqNet.f kj11 t241 t242 bt253.1 bt253.2).bind fun t257 => (if t257 = true then ((laws_markNet.f kj11 t241 t242 1).bind fun bt258 => (if bt258.1 < 0 then (laws_FnExactDropWire.j1 kj11 a1 t239 true a0_0 l0_1 t235 t236 t246 t247) else ((laws_eqNet.f kj11 t246 t247 t235 t236).bind fun t260 => (if t260 = true then (laws_FnExactDropWire.j1 kj11 a1 t239 (t250 != t239) a0_0 l0_1 t235 t236 t246 t247) else (laws_FnExactDropWire.j1 kj11 a1 t239 true a0_0 l0_1 t235 t236 t246 t247))))) else (some false)))) = some r := by rw [if_neg (show ¬ (false = true) by decide)] at H; exact H
     clear H
     have H := H1
     clear H1
     replace H := Option.bind_eq_some_iff.mp H
     obtain ⟨⟨t253, t254⟩, A570, H⟩ := H
     replace H : ((laws_eqNet.f kj11 t241 t242 t253 t254).bind fun t257 => (if t257 = true then ((laws_markNet.f kj11 t241 t242 1).bind fun bt258 => (if bt258.1 < 0 then (laws_FnExactDropWire.j1 kj11 a1 t239 true a0_0 l0_1 t235 t236 t246 t247) else ((laws_eqNet.f kj11 t246 t247 t235 t236).bind fun t260 => (if t260 = true then (laws_FnExactDropWire.j1 kj11 a1 t239 (t250 != t239) a0_0 l0_1 t235 t236 t246 t247) else (laws_FnExactDropWire.j1 kj11 a1 t239 true a0_0 l0_1 t235 t236 t246 t247))))) else (some false))) = some r := H
     have A57 := Aside0.mk A570
     clear A570
     replace H := Option.bind_eq_some_iff.mp H
     obtain ⟨t257, A580, H⟩ := H
     replace H : (if t257 = true then ((laws_markNet.f kj11 t241 t242 1).bind fun bt258 => (if bt258.1 < 0 then (laws_FnExactDropWire.j1 kj11 a1 t239 true a0_0 l0_1 t235 t236 t246 t247) else ((laws_eqNet.f kj11 t246 t247 t235 t236).bind fun t260 => (if t260 = true then (laws_FnExactDropWire.j1 kj11 a1 t239 (t250 != t239) a0_0 l0_1 t235 t236 t246 t247) else (laws_FnExactDropWire.j1 kj11 a1 t239 true a0_0 l0_1 t235 t236 t246 t247))))) else (some false)) = some r := H
     have A58 := Aside0.mk A580
     clear A580
     by_cases c59 : t257 = true
     ·subst c59
      have H1 : ((laws_markNet.f kj11 t241 t242 1).bind fun bt258 => (if bt258.1 < 0 then (laws_FnExactDropWire.j1 kj11 a1 t239 true a0_0 l0_1 t235 t236 t246 t247) else ((laws_eqNet.f kj11 t246 t247 t235 t236).bind fun t260 => (if t260 = true then (laws_FnExactDropWire.j1 kj11 a1 t239 (t250 != t239) a0_0 l0_1 t235 t236 t246 t247) else (laws_FnExactDropWire.j1 kj11 a1 t239 true a0_0 l0_1 t235 t236 t246 t247))))) = some r := by rw [if_pos rfl] at H; exact H
      clear H
      have H := H1
      clear H1
      replace H := Option.bind_eq_some_iff.mp H
      obtain ⟨⟨t258, t259⟩, A600, H⟩ := H
      replace H : (if t258 < 0 then (laws_FnExactDropWire.j1 kj11 a1 t239 true a0_0 l0_1 t235 t236 t246 t247) else ((laws_eqNet.f kj11 t246 t247 t235 t236).bind fun t260 => (if t260 = true then (laws_FnExactDropWire.j1 kj11 a1 t239 (t250 != t239) a0_0 l0_1 t235 t236 t246 t247) else (laws_FnExactDropWire.j1 kj11 a1 t239 true a0_0 l0_1 t235 t236 t246 t247)))) = some r := H
      have A60 := Aside0.mk A600
      clear A600
      have HC61 := Aside0.mk H
      clear H
      try go_wp2
      have n0_ := Aside0.mk (Kd.R_drew HO_241001.out)
      have n1_ := Aside0.mk (Kd.R_drew HO_246001.out)
      have n2_ := Aside0.mk (Kd.R_drew HO_252001.out)
      have n3_ := Aside0.mk (blk_drew BK229.out)
      have n4_ := Aside0.mk (blk_drew BK240.out)
      have n5_ := Aside0.mk (blk_drew BK245.out)
      have n6_ := Aside0.mk (blk_drew BK251.out)
      have n7_ := Aside0.mk (below_drew1 HB.out)
      clear HO_241001
      clear HO_246001
      clear HO_252001
      clear BK229
      clear BK240
      clear BK245
      clear BK251
      clear HB
      have HO_241001 := n0_
      have HO_246001 := n1_
      have HO_252001 := n2_
      have BK229 := n3_
      have BK240 := n4_
      have BK245 := n5_
      have BK251 := n6_
      have HB := n7_
      clear n0_ n1_ n2_ n3_ n4_ n5_ n6_ n7_
      refine start_ (n := 5) (S := fun w' => w'.cell? ⟨gb245, 0, none⟩ = some (.int .i64 t241) ∧ w'.cell? ⟨gb245, 1, none⟩ = some (.slice Ao30 t242.length co30) ∧ w'.cell? ⟨gb229, 0, none⟩ = some (.int .i64 a0_0) ∧ w'.cell? ⟨gb229, 1, none⟩ = some (.slice A0_1 l0_1.length c0_1)) (ds := []) #[false, false, false, false, false] (by kernel_rfl) rfl rfl ⟨(blk_cell BK245.out 0).trans rfl, (blk_cell BK245.out 1).trans rfl, (blk_cell BK229.out 0).trans rfl, (blk_cell BK229.out 1).trans rfl⟩ (fun hHeld => ?_)
      generalize wc.drew = w62 at HO_241001 HO_246001 HO_252001 BK229 BK240 BK245 BK251 HB hHeld ⊢
      refine take_ (i := 0) (N := some 45) (v := ?_) (a' := ?_) #[true, false, false, false, false] rfl rfl (by kernel_rfl) (fun _ _ _ h => h) (Or.inl ⟨by rfl, ?_⟩) hHeld ?_ ?_
      rotate_left
      ·rintro w' ⟨s0, s1, s2, s3⟩
       go_simp
       with_reducible rfl
      rotate_left
      ·simp only [Act.put, List.setIfInBounds_toArray, List.set_cons_zero, List.set_cons_succ, i64_w, i32_w]
       rfl
      refine take_ (i := 1) (N := some 46) (v := ?_) (a' := ?_) #[true, true, false, false, false] rfl rfl (by kernel_rfl) (fun _ _ _ h => h) (Or.inl ⟨by rfl, ?_⟩) hHeld ?_ ?_
      rotate_left
      ·rintro w' ⟨s0, s1, s2, s3⟩
       go_simp
       with_reducible rfl
      rotate_left
      ·simp only [Act.put, List.setIfInBounds_toArray, List.set_cons_zero, List.set_cons_succ, i64_w, i32_w]
       rfl
      refine one_ (i := 2) (N := some 47) #[true, true, true, false, false] rfl rfl (by kernel_rfl) (by decide) (fun K hK => ?_)
      refine goes_ Try.func17 (by kernel_rfl) rfl #[.agg #[.int .i64 a0_0, .slice A0_1 l0_1.length c0_1]] (by rfl) rfl rfl itp ?_
      with_reducible refine (laws_toNet.calls kj11 a0_0 _ _ l0_1 t253 t254 _ ?side1 ?side2 A57.out).mono ?_
      (case side1 => repeat (first | exact (Kd.C_below HR0_1.out HB.out) | (with_reducible refine Kd.C_alloc ?_ _) | (with_reducible refine Kd.C_drewN ?_ _) | (with_reducible refine Kd.C_drew ?_)))
      (case side2 => exact HC0_1.out)
      rintro e w63 ⟨v255, rfl, ho0, hb⟩
      refine ⟨_, rfl, ?_⟩
      have n0_ := Aside0.mk (Kd.R_elder' (upR HO_241001) (Kd.R_base ho0) hb)
      have n1_ := Aside0.mk (Kd.R_elder' (upR HO_246001) (Kd.R_base ho0) hb)
      have n2_ := Aside0.mk (Kd.R_elder' (upR HO_252001) (Kd.R_base ho0) hb)
      have n3_ := Aside0.mk (Kd.R_lower (Kd.R_new' (Kd.R_new' (Kd.R_new' ho0 (Kd.R_lt (upR HO_241001))) (Kd.R_lt (upR HO_246001))) (Kd.R_lt (upR HO_252001))) (below_size (upW HB)))
      have n4_ := Aside0.mk (blk_below (upK BK229) hb)
      have n5_ := Aside0.mk (blk_below (upK BK240) hb)
      have n6_ := Aside0.mk (blk_below (upK BK245) hb)
      have n7_ := Aside0.mk (blk_below (upK BK251) hb)
      have n8_ := Aside0.mk (below_step (upW HB) hb)
      clear HO_241001
      clear HO_246001
      clear HO_252001
      clear BK229
      clear BK240
      clear BK245
      clear BK251
      clear HB
      have HO_241001 := n0_
      have HO_246001 := n1_
      have HO_252001 := n2_
      have HO256 := n3_
      have BK229 := n4_
      have BK240 := n5_
      have BK245 := n6_
      have BK251 := n7_
      have HB := n8_
      clear n0_ n1_ n2_ n3_ n4_ n5_ n6_ n7_ n8_
      (try clear hb)
      (try clear hb2)
      (try clear hk)
      (try clear hi)
      (try clear ho0)
      obtain ⟨Ao64, co64, eo64⟩ := Kd.R_slice HO256.out
      (first | subst eo64 | (injection eo64 with f1_ f2_ f3_; have f4_ := f1_.symm; have f5_ := f3_.symm; clear f1_ f2_ f3_; subst f4_; subst f5_))
      refine hK.out _ _ ⟨(blk_cell BK245.out 0).trans rfl, (blk_cell BK245.out 1).trans rfl, (blk_cell BK229.out 0).trans rfl, (blk_cell BK229.out 1).trans rfl⟩ (fun hHeld => ?_)
      clear hK K
      refine norm_ (a' := ?_) ?_ ?_
      rotate_left
      ·show Act.put _ (some 47) _ = _
       simp only [Act.put, List.setIfInBounds_toArray, List.set_cons_zero, List.set_cons_succ, i64_w, i32_w]
       rfl
      refine one_ (i := 3) (N := some 48) #[true, true, true, true, false] rfl rfl (by kernel_rfl) (by decide) (fun K hK => ?_)
      refine goes_ Try.func19 (by kernel_rfl) rfl #[.agg #[.int .i64 t241, .slice Ao30 t242.length co30], .agg #[.int .i64 t253, .slice Ao64 t254.length co64]] (by rfl) rfl rfl itp ?_
      with_reducible refine (laws_eqNet.calls kj11 t241 _ _ t242 t253 _ _ t254 true _ ?side1 ?side2 ?side3 ?side4 A58.out).mono ?_
      (case side1 => repeat (first | exact (Kd.R_reads' HO_246001.out).2.2 | (with_reducible refine Kd.C_alloc ?_ _) | (with_reducible refine Kd.C_drewN ?_ _) | (with_reducible refine Kd.C_drew ?_)))
      (case side2 => exact (Kd.R_reads' HO_246001.out).2.1)
      (case side3 => repeat (first | exact (Kd.R_reads' HO256.out).2.2 | (with_reducible refine Kd.C_alloc ?_ _) | (with_reducible refine Kd.C_drewN ?_ _) | (with_reducible refine Kd.C_drew ?_)))
      (case side4 => exact (Kd.R_reads' HO256.out).2.1)
      rintro e w65 ⟨rfl, hb⟩
      refine ⟨_, rfl, ?_⟩
      have n0_ := Aside0.mk (Kd.R_below (upR HO_241001) hb)
      have n1_ := Aside0.mk (Kd.R_below (upR HO_246001) hb)
      have n2_ := Aside0.mk (Kd.R_below (upR HO_252001) hb)
      have n3_ := Aside0.mk (Kd.R_below (upR HO256) hb)
      have n4_ := Aside0.mk (blk_below (upK BK229) hb)
      have n5_ := Aside0.mk (blk_below (upK BK240) hb)
      have n6_ := Aside0.mk (blk_below (upK BK245) hb)
      have n7_ := Aside0.mk (blk_below (upK BK251) hb)
      have n8_ := Aside0.mk (below_step (upW HB) hb)
      clear HO_241001
      clear HO_246001
      clear HO_252001
      clear HO256
      clear BK229
      clear BK240
      clear BK245
      clear BK251
      clear HB
      have HO_241001 := n0_
      have HO_246001 := n1_
      have HO_252001 := n2_
      have HO256 := n3_
      have BK229 := n4_
      have BK240 := n5_
      have BK245 := n6_
      have BK251 := n7_
      have HB := n8_
      clear n0_ n1_ n2_ n3_ n4_ n5_ n6_ n7_ n8_
      (try clear hb)
      (try clear hb2)
      (try clear hk)
      (try clear hi)
      refine hK.out _ _ ⟨(blk_cell BK245.out 0).trans rfl, (blk_cell BK245.out 1).trans rfl, (blk_cell BK229.out 0).trans rfl, (blk_cell BK229.out 1).trans rfl⟩ (fun hHeld => ?_)
      clear hK K
      refine norm_ (a' := ?_) ?_ ?_
      rotate_left
      ·show Act.put _ (some 48) _ = _
       simp only [Act.put, List.setIfInBounds_toArray, List.set_cons_zero, List.set_cons_succ, i64_w, i32_w]
       rfl
      refine pure_ (i := 4) (N := some 49) (v := ?_) (a' := ?_) #[true, true, true, true, true] rfl rfl (by kernel_rfl) (fun _ _ _ h => h) (Or.inl ⟨by rfl, ?_⟩) ?_ ?_
      rotate_left
      ·intro w'
       go_simp
       with_reducible rfl
      rotate_left
      ·simp only [Act.put, List.setIfInBounds_toArray, List.set_cons_zero, List.set_cons_succ, i64_w, i32_w]
       rfl
      refine done_ (by kernel_rfl) ?_
      have hnb66 := NB245_229.out
      have hnc66 := NB229_245.out
      have hnb67 := NB245_240.out
      have hnc67 := NB240_245.out
      have hnb68 := NB245_251.out
      have hnc68 := NB251_245.out
      have hcz69_0 : w65.cell? ⟨gb245, 0, none⟩ = some (.int .i64 t241) := (blk_cell BK245.out 0).trans rfl
      have hcz69_1 : w65.cell? ⟨gb245, 1, none⟩ = some (.slice Ao30 t242.length co30) := (blk_cell BK245.out 1).trans rfl
      have hfz69_0 := blk_frozen BK245.out 0
      have hfz69_1 := blk_frozen BK245.out 1
      go_upto_region 14 with (first | ((with_reducible refine gate_callee (f := 27) rfl ?_); refine goesL_ (some 52) rfl rfl Try.func27 (by kernel_rfl) rfl #[.agg #[.int .i64 t241, .slice Ao30 t242.length co30], .int .i64 1] rfl itp ?_; (with_reducible refine (laws_markNet.calls kj11 t241 (fun k_ => some k_ = (.slice Ao30 t242.length co30 : Value).ownBlock) (.slice Ao30 t242.length co30) t242 1 t258 t259 w _ ?side1 ?side2 A60.out).mono ?_); (case side1 => repeat (first | (with_reducible first | exact HB.out | apply below_alloc | apply pw_below_drewN | apply below_drew1 | refine below_set ?_ GE229.out | refine below_set ?_ GE240.out | refine below_set ?_ GE245.out | refine below_set ?_ GE251.out) | exact HB.out)); (case side2 => exact Kd.R_tight rfl HO_246001.out); rintro e w70 ⟨rfl, hy0, hb, hkp⟩; refine ⟨_, rfl, ?_⟩; have n0_ := Aside0.mk (Kd.R_mono (ok' := fun k_ => some k_ ≠ (.slice Ao30 t242.length co30 : Value).ownBlock ∧ some k_ ≠ (.slice Ao37 t247.length co37 : Value).ownBlock ∧ some k_ ≠ (.slice Ao64 t254.length co64 : Value).ownBlock) (Kd.R_keptB (HO_241001.out) hkp (fun k_ hk_ hs_ => (hk_.1.1) hs_)) (fun k_ hk_ => ⟨hk_.1.1.1, hk_.1.1.2, hk_.1.2⟩)); have n1_ := Aside0.mk (Kd.R_reok rfl hy0 (fun k_ e_ => HO_246001.out.1 k_ e_)); have n2_ := Aside0.mk (Kd.R_mono (ok' := fun k_ => some k_ ≠ (.slice Ao23 t236.length co23 : Value).ownBlock ∧ some k_ ≠ (.slice Ao30 t242.length co30 : Value).ownBlock ∧ some k_ ≠ (.slice Ao64 t254.length co64 : Value).ownBlock) (Kd.R_keptB (HO_252001.out) hkp (fun k_ hk_ hs_ => (hk_.1.2) hs_)) (fun k_ hk_ => ⟨hk_.1.1.1, hk_.1.1.2, hk_.1.2⟩)); have n3_ := Aside0.mk (blk_kept (upK BK229) hkp (fun hs_ => (fun e_ => (Kd.R_ne HO_246001.out BK229.out (by decide)) e_) hs_)); have n4_ := Aside0.mk (blk_kept (upK BK240) hkp (fun hs_ => (fun e_ => (Kd.R_ne HO_246001.out BK240.out (by decide)) e_) hs_)); have n5_ := Aside0.mk (blk_kept (upK BK245) hkp (fun hs_ => (fun e_ => (Kd.R_ne HO_246001.out BK245.out (by decide)) e_) hs_)); have n6_ := Aside0.mk (blk_kept (upK BK251) hkp (fun hs_ => (fun e_ => (Kd.R_ne HO_246001.out BK251.out (by decide)) e_) hs_)); have n7_ := Aside0.mk (Kd.R_mono (ok' := fun k_ => some k_ ≠ (.slice Ao23 t236.length co23 : Value).ownBlock ∧ some k_ ≠ (.slice Ao30 t242.length co30 : Value).ownBlock ∧ some k_ ≠ (.slice Ao37 t247.length co37 : Value).ownBlock) (Kd.R_keptB (HO256.out) hkp (fun k_ hk_ hs_ => (hk_.1.2) hs_)) (fun k_ hk_ => ⟨hk_.1.1.1.2, hk_.1.1.2, hk_.1.2⟩)); have n8_ := Aside0.mk (hb); clear HO_241001; clear HO_246001; clear HO_252001; clear BK229; clear BK240; clear BK245; clear BK251; clear HO256; clear HB; have HO_241001 := n0_; have HO_246001 := n1_; have HO_252001 := n2_; have BK229 := n3_; have BK240 := n4_; have BK245 := n5_; have BK251 := n6_; have HO256 := n7_; have HB := n8_; clear n0_ n1_ n2_ n3_ n4_ n5_ n6_ n7_ n8_; (try clear hb); (try clear hkp); (try clear hy0)))
      (try simp only [Act.put, List.setIfInBounds_toArray, List.set_cons_zero, List.set_cons_succ])
      go_cut [65] (fun v65 wc => ∃ (kq : Nat) (x65_60 : Bool), v65 = .bool x65_60 ∧ Aside0 (laws_FnExactDropWire.j1 kq a1 t239 x65_60 a0_0 l0_1 t235 t236 t246 t247 = some r) ∧ Aside0 (kq ≤ kj11) ∧ Aside0 (Kd.R k73 73 wc w.heap.size (fun k_ => some k_ ≠ ((.slice Ao30 t242.length co30) : Value).ownBlock ∧ some k_ ≠ ((.slice Ao37 t247.length co37) : Value).ownBlock) (.slice Ao23 t236.length co23) t236) ∧ Aside0 (Kd.R k73 73 wc w.heap.size (fun k_ => some k_ ≠ ((.slice Ao23 t236.length co23) : Value).ownBlock ∧ some k_ ≠ ((.slice Ao37 t247.length co37) : Value).ownBlock) (.slice Ao30 t242.length co30) t259) ∧ Aside0 (Kd.R k73 73 wc w.heap.size (fun k_ => some k_ ≠ ((.slice Ao23 t236.length co23) : Value).ownBlock ∧ some k_ ≠ ((.slice Ao30 t242.length co30) : Value).ownBlock) (.slice Ao37 t247.length co37) t247) ∧ Aside0 (wc.heap[gb229]? = some (.cells #[.int .i64 a0_0, (.slice A0_1 l0_1.length c0_1)] 24 (0, 0))) ∧ Aside0 (wc.heap[gb240]? = some (.cells #[.int .i64 t235, (.slice Ao23 t236.length co23)] 30 (0, 0))) ∧ Aside0 (wc.heap[gb245]? = some (.cells #[.int .i64 t241, (.slice Ao30 t242.length co30)] 30 (0, 0))) ∧ Aside0 (wc.heap[gb251]? = some (.cells #[.int .i64 t246, (.slice Ao37 t247.length co37)] 30 (0, 0))) ∧ Aside0 (Below w.heap.size w wc))
      case first =>
       have H := HC61.out
       clear HC61
       by_cases c71 : t258 < 0
       ·rw [if_pos c71] at H
        have c71b0 : decide (t258 < 0) = true := decide_eq_true c71
        clear c71
        (first | rw [c71b0] | (simp only [i64_w, i32_w]; rw [c71b0]) | skip)
        have H' := Aside0.mk H
        clear H
        go_wp2
        go_meet
        case rel => exact ⟨_, (true), (by first | rfl | (simp; done) | (simp [*]; done)), H', ⟨by have := HJ11.out; first | omega | exact Nat.le_refl _⟩, ⟨by (with_reducible repeat (first | apply Kd.R_alloc | apply Kd.R_drewN | apply Kd.R_drew)); exact Kd.R_mono HO_241001.out (fun _ hk => ⟨hk.1, hk.2.1⟩)⟩, ⟨by (with_reducible repeat (first | apply Kd.R_alloc | apply Kd.R_drewN | apply Kd.R_drew)); exact Kd.R_mono HO_246001.out (fun _ hk => ⟨hk.1.1, hk.1.2⟩)⟩, ⟨by (with_reducible repeat (first | apply Kd.R_alloc | apply Kd.R_drewN | apply Kd.R_drew)); exact Kd.R_mono HO_252001.out (fun _ hk => ⟨hk.1, hk.2.1⟩)⟩, ⟨upK BK229⟩, ⟨upK BK240⟩, ⟨upK BK245⟩, ⟨upK BK251⟩, ⟨upW HB⟩⟩
       ·rw [if_neg c71] at H
        have c71b0 : decide (t258 < 0) = false := decide_eq_false c71
        clear c71
        (first | rw [c71b0] | (simp only [i64_w, i32_w]; rw [c71b0]) | skip)
        replace H := Option.bind_eq_some_iff.mp H
        obtain ⟨t260, A720, H⟩ := H
        replace H : (if t260 = true then (laws_FnExactDropWire.j1 kj11 a1 t239 (t250 != t239) a0_0 l0_1 t235 t236 t246 t247) else (laws_FnExactDropWire.j1 kj11 a1 t239 true a0_0 l0_1 t235 t236 t246 t247)) = some r := H
        have A72 := Aside0.mk A720
        clear A720
        by_cases c73 : t260 = true
        ·subst c73
         have H1 : (laws_FnExactDropWire.j1 kj11 a1 t239 (t250 != t239) a0_0 l0_1 t235 t236 t246 t247) = some r := by rw [if_pos rfl] at H; exact H
         clear H
         have H := H1
         clear H1
         have H' := Aside0.mk H
         clear H
         have hnb74 := NB251_229.out
         have hnc74 := NB229_251.out
         have hnb75 := NB251_240.out
         have hnc75 := NB240_251.out
         have hnb76 := NB251_245.out
         have hnc76 := NB245_251.out
         have hcz77_0 : w70.cell? ⟨gb251, 0, none⟩ = some (.int .i64 t246) := (blk_cell BK251.out 0).trans rfl
         have hcz77_1 : w70.cell? ⟨gb251, 1, none⟩ = some (.slice Ao37 t247.length co37) := (blk_cell BK251.out 1).trans rfl
         have hfz77_0 := blk_frozen BK251.out 0
         have hfz77_1 := blk_frozen BK251.out 1
         have hnb78 := NB240_229.out
         have hnc78 := NB229_240.out
         have hnb79 := NB240_245.out
         have hnc79 := NB245_240.out
         have hcz80_0 : w70.cell? ⟨gb240, 0, none⟩ = some (.int .i64 t235) := (blk_cell BK240.out 0).trans rfl
         have hcz80_1 : w70.cell? ⟨gb240, 1, none⟩ = some (.slice Ao23 t236.length co23) := (blk_cell BK240.out 1).trans rfl
         have hfz80_0 := blk_frozen BK240.out 0
         have hfz80_1 := blk_frozen BK240.out 1
         go_wp2_with (first | (go_at_call 19; (with_reducible refine (laws_eqNet.calls kj11 t246 _ _ t247 t235 _ _ t236 true _ ?side1 ?side2 ?side3 ?side4 A72.out).mono ?_); (case side1 => repeat (first | exact (Kd.R_reads' HO_252001.out).2.2 | (with_reducible refine Kd.C_alloc ?_ _) | (with_reducible refine Kd.C_drewN ?_ _) | (with_reducible refine Kd.C_drew ?_))); (case side2 => exact (Kd.R_reads' HO_252001.out).2.1); (case side3 => repeat (first | exact (Kd.R_reads' HO_241001.out).2.2 | (with_reducible refine Kd.C_alloc ?_ _) | (with_reducible refine Kd.C_drewN ?_ _) | (with_reducible refine Kd.C_drew ?_))); (case side4 => exact (Kd.R_reads' HO_241001.out).2.1); rintro e w81 ⟨rfl, hb⟩; have n0_ := Aside0.mk (Kd.R_below (upR HO_241001) hb); have n1_ := Aside0.mk (Kd.R_below (upR HO_246001) hb); have n2_ := Aside0.mk (Kd.R_below (upR HO_252001) hb); have n3_ := Aside0.mk (Kd.R_below (upR HO256) hb); have n4_ := Aside0.mk (blk_below (upK BK229) hb); have n5_ := Aside0.mk (blk_below (upK BK240) hb); have n6_ := Aside0.mk (blk_below (upK BK245) hb); have n7_ := Aside0.mk (blk_below (upK BK251) hb); have n8_ := Aside0.mk (below_step (upW HB) hb); clear HO_241001; clear HO_246001; clear HO_252001; clear HO256; clear BK229; clear BK240; clear BK245; clear BK251; clear HB; have HO_241001 := n0_; have HO_246001 := n1_; have HO_252001 := n2_; have HO256 := n3_; have BK229 := n4_; have BK240 := n5_; have BK245 := n6_; have BK251 := n7_; have HB := n8_; clear n0_ n1_ n2_ n3_ n4_ n5_ n6_ n7_ n8_; (try clear hb); (try clear hb2); (try clear hk); (try clear hi)))
         go_meet
         case rel => exact ⟨_, ((t250 != t239)), (by first | rfl | (simp; done) | (simp [*]; done)), H', ⟨by have := HJ11.out; first | omega | exact Nat.le_refl _⟩, ⟨by (with_reducible repeat (first | apply Kd.R_alloc | apply Kd.R_drewN | apply Kd.R_drew)); exact Kd.R_mono HO_241001.out (fun _ hk => ⟨hk.1, hk.2.1⟩)⟩, ⟨by (with_reducible repeat (first | apply Kd.R_alloc | apply Kd.R_drewN | apply Kd.R_drew)); exact Kd.R_mono HO_246001.out (fun _ hk => ⟨hk.1.1, hk.1.2⟩)⟩, ⟨by (with_reducible repeat (first | apply Kd.R_alloc | apply Kd.R_drewN | apply Kd.R_drew)); exact Kd.R_mono HO_252001.out (fun _ hk => ⟨hk.1, hk.2.1⟩)⟩, ⟨upK BK229⟩, ⟨upK BK240⟩, ⟨upK BK245⟩, ⟨upK BK251⟩, ⟨upW HB⟩⟩
        ·replace c73 := Bool.eq_false_iff.mpr c73
         subst c73
         have H1 : (laws_FnExactDropWire.j1 kj11 a1 t239 true a0_0 l0_1 t235 t236 t246 t247) = some r := by rw [if_neg (show ¬ (false = true) by decide)] at H; exact H
         clear H
         have H := H1
         clear H1
         have H' := Aside0.mk H
         clear H
         have hnb82 := NB251_229.out
         have hnc82 := NB229_251.out
         have hnb83 := NB251_240.out
         have hnc83 := NB240_251.out
         have hnb84 := NB251_245.out
         have hnc84 := NB245_251.out
         have hcz85_0 : w70.cell? ⟨gb251, 0, none⟩ = some (.int .i64 t246) := (blk_cell BK251.out 0).trans rfl
         have hcz85_1 : w70.cell? ⟨gb251, 1, none⟩ = some (.slice Ao37 t247.length co37) := (blk_cell BK251.out 1).trans rfl
         have hfz85_0 := blk_frozen BK251.out 0
         have hfz85_1 := blk_frozen BK251.out 1
         have hnb86 := NB240_229.out
         have hnc86 := NB229_240.out
         have hnb87 := NB240_245.out
         have hnc87 := NB245_240.out
         have hcz88_0 : w70.cell? ⟨gb240, 0, none⟩ = some (.int .i64 t235) := (blk_cell BK240.out 0).trans rfl
         have hcz88_1 : w70.cell? ⟨gb240, 1, none⟩ = some (.slice Ao23 t236.length co23) := (blk_cell BK240.out 1).trans rfl
         have hfz88_0 := blk_frozen BK240.out 0
         have hfz88_1 := blk_frozen BK240.out 1
         go_wp2_with (first | (go_at_call 19; (with_reducible refine (laws_eqNet.calls kj11 t246 _ _ t247 t235 _ _ t236 false _ ?side1 ?side2 ?side3 ?side4 A72.out).mono ?_); (case side1 => repeat (first | exact (Kd.R_reads' HO_252001.out).2.2 | (with_reducible refine Kd.C_alloc ?_ _) | (with_reducible refine Kd.C_drewN ?_ _) | (with_reducible refine Kd.C_drew ?_))); (case side2 => exact (Kd.R_reads' HO_252001.out).2.1); (case side3 => repeat (first | exact (Kd.R_reads' HO_241001.out).2.2 | (with_reducible refine Kd.C_alloc ?_ _) | (with_reducible refine Kd.C_drewN ?_ _) | (with_reducible refine Kd.C_drew ?_))); (case side4 => exact (Kd.R_reads' HO_241001.out).2.1); rintro e w89 ⟨rfl, hb⟩; have n0_ := Aside0.mk (Kd.R_below (upR HO_241001) hb); have n1_ := Aside0.mk (Kd.R_below (upR HO_246001) hb); have n2_ := Aside0.mk (Kd.R_below (upR HO_252001) hb); have n3_ := Aside0.mk (Kd.R_below (upR HO256) hb); have n4_ := Aside0.mk (blk_below (upK BK229) hb); have n5_ := Aside0.mk (blk_below (upK BK240) hb); have n6_ := Aside0.mk (blk_below (upK BK245) hb); have n7_ := Aside0.mk (blk_below (upK BK251) hb); have n8_ := Aside0.mk (below_step (upW HB) hb); clear HO_241001; clear HO_246001; clear HO_252001; clear HO256; clear BK229; clear BK240; clear BK245; clear BK251; clear HB; have HO_241001 := n0_; have HO_246001 := n1_; have HO_252001 := n2_; have HO256 := n3_; have BK229 := n4_; have BK240 := n5_; have BK245 := n6_; have BK251 := n7_; have HB := n8_; clear n0_ n1_ n2_ n3_ n4_ n5_ n6_ n7_ n8_; (try clear hb); (try clear hb2); (try clear hk); (try clear hi)))
         go_meet
         case rel => exact ⟨_, (true), (by first | rfl | (simp; done) | (simp [*]; done)), H', ⟨by have := HJ11.out; first | omega | exact Nat.le_refl _⟩, ⟨by (with_reducible repeat (first | apply Kd.R_alloc | apply Kd.R_drewN | apply Kd.R_drew)); exact Kd.R_mono HO_241001.out (fun _ hk => ⟨hk.1, hk.2.1⟩)⟩, ⟨by (with_reducible repeat (first | apply Kd.R_alloc | apply Kd.R_drewN | apply Kd.R_drew)); exact Kd.R_mono HO_246001.out (fun _ hk => ⟨hk.1.1, hk.1.2⟩)⟩, ⟨by (with_reducible repeat (first | apply Kd.R_alloc | apply Kd.R_drewN | apply Kd.R_drew)); exact Kd.R_mono HO_252001.out (fun _ hk => ⟨hk.1, hk.2.1⟩)⟩, ⟨upK BK229⟩, ⟨upK BK240⟩, ⟨upK BK245⟩, ⟨upK BK251⟩, ⟨upW HB⟩⟩
      case rest =>
       clear HC61
       try clear c1
       try clear c2
       try clear p2
       try clear c3
       try clear c4
       try clear c4b0
       try clear c5
       try clear c6
       try clear c7
       try clear c8
       try clear c13
       try clear c15
       try clear c17
       try clear c19
       try clear c21
       try clear c27
       try clear c28
       try clear c33
       try clear c34
       try clear c35
       try clear c39
       try clear c40
       try clear c41
       try clear c42
       try clear c44
       try clear c45
       try clear c47
       try clear c48
       try clear c49
       try clear c50
       try clear c52
       try clear c53
       try clear c56
       try clear c59
       try clear c66
       try clear c67
       try clear c68
       try clear c71
       try clear c71b0
       try clear c73
       try clear c74
       try clear c75
       try clear c76
       try clear c78
       try clear c79
       try clear c82
       try clear c83
       try clear c84
       try clear c86
       try clear c87
       try clear hcz14_0
       try clear hcz14_1
       try clear hcz16_0
       try clear hcz16_1
       try clear hcz22_0
       try clear hcz22_1
       try clear hcz24_0
       try clear hcz24_1
       try clear hcz29_0
       try clear hcz29_1
       try clear hcz36_0
       try clear hcz36_1
       try clear hcz43_0
       try clear hcz43_1
       try clear hcz46_0
       try clear hcz46_1
       try clear hcz51_0
       try clear hcz51_1
       try clear hcz54_0
       try clear hcz54_1
       try clear hcz69_0
       try clear hcz69_1
       try clear hcz6_0
       try clear hcz6_1
       try clear hcz77_0
       try clear hcz77_1
       try clear hcz80_0
       try clear hcz80_1
       try clear hcz85_0
       try clear hcz85_1
       try clear hcz88_0
       try clear hcz88_1
       try clear hfz14_0
       try clear hfz14_1
       try clear hfz16_0
       try clear hfz16_1
       try clear hfz22_0
       try clear hfz22_1
       try clear hfz24_0
       try clear hfz24_1
       try clear hfz29_0
       try clear hfz29_1
       try clear hfz36_0
       try clear hfz36_1
       try clear hfz43_0
       try clear hfz43_1
       try clear hfz46_0
       try clear hfz46_1
       try clear hfz51_0
       try clear hfz51_1
       try clear hfz54_0
       try clear hfz54_1
       try clear hfz69_0
       try clear hfz69_1
       try clear hfz6_0
       try clear hfz6_1
       try clear hfz77_0
       try clear hfz77_1
       try clear hfz80_0
       try clear hfz80_1
       try clear hfz85_0
       try clear hfz85_1
       try clear hfz88_0
       try clear hfz88_1
       try clear p2
       obtain ⟨kq, x65_60, rfl, HA, HJ60, HO_241001, HO_246001, HO_252001, BK229, BK240, BK245, BK251, HB⟩ := hcut
       have hl246001_60 := (Kd.R_reads' HO_246001.out).1
       rw [hl246001_60] at HO_246001
       (try simp only [hl246001_60])
       (try simp only [hl246001_60] at BK229)
       (try simp only [hl246001_60] at BK240)
       (try simp only [hl246001_60] at BK245)
       (try simp only [hl246001_60] at BK251)
       (try simp only [hl246001_60] at HO_241001)
       (try simp only [hl246001_60] at HO_252001)
       cases kq with
       | zero => exact absurd HA.out (by simp [laws_FnExactDropWire.j1])
       | succ kj60 =>
        have H := HA.out
        clear HA
        simp only [laws_FnExactDropWire.j1] at H
        by_cases c90 : x65_60 = true
        ·subst c90
         have H1 : (some false) = some r := by rw [if_pos rfl] at H; exact H
         clear H
         have H := H1
         clear H1
         obtain rfl := Option.some.inj H
         go_wp2
         go_ret
         exact ⟨by first | rfl | (simp [errW_none, errW_some] <;> rfl) | (simp [*, errW_none, errW_some] <;> rfl), by repeat (first | (with_reducible first | exact HB.out | apply below_alloc | apply pw_below_drewN | apply below_drew1 | refine below_set ?_ GE229.out | refine below_set ?_ GE240.out | refine below_set ?_ GE245.out | refine below_set ?_ GE251.out) | exact HB.out)⟩
        ·replace c90 := Bool.eq_false_iff.mpr c90
         subst c90
         have H1 : ((laws_markNet.f kj60 t246 t247 1).bind fun bt261 => ((laws_heldNet.f kj60 t246 bt261.2 1).bind fun t263 => (if t263 < 0 then (some false) else (if t263 = bt261.1 then ((laws_toNet.f kj60 a0_0 l0_1).bind fun bt264 => ((impl_DropWire.f kj60 bt264.1 bt264.2 a1).bind fun bt268 => ((laws_eqNet.f kj60 bt268.1 bt268.2.1 t235 t236).bind fun t274 => (if t274 = true then (laws_FnExactDropWire.j2 kj60 bt261.1 (bt268.2.2 != t239) t246 bt261.2) else (laws_FnExactDropWire.j2 kj60 bt261.1 true t246 bt261.2))))) else (some false))))) = some r := by rw [if_neg (show ¬ (false = true) by decide)] at H; exact H
         clear H
         have H := H1
         clear H1
         replace H := Option.bind_eq_some_iff.mp H
         obtain ⟨⟨t261, t262⟩, A910, H⟩ := H
         replace H : ((laws_heldNet.f kj60 t246 t262 1).bind fun t263 => (if t263 < 0 then (some false) else (if t263 = t261 then ((laws_toNet.f kj60 a0_0 l0_1).bind fun bt264 => ((impl_DropWire.f kj60 bt264.1 bt264.2 a1).bind fun bt268 => ((laws_eqNet.f kj60 bt268.1 bt268.2.1 t235 t236).bind fun t274 => (if t274 = true then (laws_FnExactDropWire.j2 kj60 t261 (bt268.2.2 != t239) t246 t262) else (laws_FnExactDropWire.j2 kj60 t261 true t246 t262))))) else (some false)))) = some r := H
         have A91 := Aside0.mk A910
         clear A910
         replace H := Option.bind_eq_some_iff.mp H
         obtain ⟨t263, A920, H⟩ := H
         replace H : (if t263 < 0 then (some false) else (if t263 = t261 then ((laws_toNet.f kj60 a0_0 l0_1).bind fun bt264 => ((impl_DropWire.f kj60 bt264.1 bt264.2 a1).bind fun bt268 => ((laws_eqNet.f kj60 bt268.1 bt268.2.1 t235 t236).bind fun t274 => (if t274 = true then (laws_FnExactDropWire.j2 kj60 t261 (bt268.2.2 != t239) t246 t262) else (laws_FnExactDropWire.j2 kj60 t261 true t246 t262))))) else (some false))) = some r := H
         have A92 := Aside0.mk A920
         clear A920
         by_cases c93 : t263 < 0
         ·rw [if_pos c93] at H
          have c93b0 : decide (t263 < 0) = true := decide_eq_true c93
          clear c93
          obtain rfl := Option.some.inj H
          have hnb94 := NB251_229.out
          have hnc94 := NB229_251.out
          have hnb95 := NB251_240.out
          have hnc95 := NB240_251.out
          have hnb96 := NB251_245.out
          have hnc96 := NB245_251.out
          have hcz97_0 : wc.cell? ⟨gb251, 0, none⟩ = some (.int .i64 t246) := (blk_cell BK251.out 0).trans rfl
          have hcz97_1 : wc.cell? ⟨gb251, 1, none⟩ = some (.slice Ao37 t247.length co37) := (blk_cell BK251.out 1).trans rfl
          have hfz97_0 := blk_frozen BK251.out 0
          have hfz97_1 := blk_frozen BK251.out 1
          go_wp2_with (first | ((with_reducible refine gate_callee (f := 27) rfl ?_); refine goesL_ (some 68) rfl rfl Try.func27 (by kernel_rfl) rfl #[.agg #[.int .i64 t246, .slice Ao37 t247.length co37], .int .i64 1] rfl itp ?_; (with_reducible refine (laws_markNet.calls kj60 t246 (fun k_ => some k_ = (.slice Ao37 t247.length co37 : Value).ownBlock) (.slice Ao37 t247.length co37) t247 1 t261 t262 w _ ?side1 ?side2 A91.out).mono ?_); (case side1 => repeat (first | (with_reducible first | exact HB.out | apply below_alloc | apply pw_below_drewN | apply below_drew1 | refine below_set ?_ GE229.out | refine below_set ?_ GE240.out | refine below_set ?_ GE245.out | refine below_set ?_ GE251.out) | exact HB.out)); (case side2 => exact Kd.R_tight rfl HO_252001.out); rintro e w98 ⟨rfl, hy0, hb, hkp⟩; refine ⟨_, rfl, ?_⟩; have n0_ := Aside0.mk (Kd.R_mono (ok' := fun k_ => some k_ ≠ (.slice Ao30 t259.length co30 : Value).ownBlock ∧ some k_ ≠ (.slice Ao37 t247.length co37 : Value).ownBlock) (Kd.R_keptB (HO_241001.out) hkp (fun k_ hk_ hs_ => (hk_.2) hs_)) (fun k_ hk_ => ⟨hk_.1.1, hk_.1.2⟩)); have n1_ := Aside0.mk (Kd.R_mono (ok' := fun k_ => some k_ ≠ (.slice Ao23 t236.length co23 : Value).ownBlock ∧ some k_ ≠ (.slice Ao37 t247.length co37 : Value).ownBlock) (Kd.R_keptB (HO_246001.out) hkp (fun k_ hk_ hs_ => (hk_.2) hs_)) (fun k_ hk_ => ⟨hk_.1.1, hk_.1.2⟩)); have n2_ := Aside0.mk (Kd.R_reok rfl hy0 (fun k_ e_ => HO_252001.out.1 k_ e_)); have n3_ := Aside0.mk (blk_kept (upK BK229) hkp (fun hs_ => (fun e_ => (Kd.R_ne HO_252001.out BK229.out (by decide)) e_) hs_)); have n4_ := Aside0.mk (blk_kept (upK BK240) hkp (fun hs_ => (fun e_ => (Kd.R_ne HO_252001.out BK240.out (by decide)) e_) hs_)); have n5_ := Aside0.mk (blk_kept (upK BK245) hkp (fun hs_ => (fun e_ => (Kd.R_ne HO_252001.out BK245.out (by decide)) e_) hs_)); have n6_ := Aside0.mk (blk_kept (upK BK251) hkp (fun hs_ => (fun e_ => (Kd.R_ne HO_252001.out BK251.out (by decide)) e_) hs_)); have n7_ := Aside0.mk (hb); clear HO_241001; clear HO_246001; clear HO_252001; clear BK229; clear BK240; clear BK245; clear BK251; clear HB; have HO_241001 := n0_; have HO_246001 := n1_; have HO_252001 := n2_; have BK229 := n3_; have BK240 := n4_; have BK245 := n5_; have BK251 := n6_; have HB := n7_; clear n0_ n1_ n2_ n3_ n4_ n5_ n6_ n7_; (try clear hb); (try clear hkp); (try clear hy0); have hcz99_0 : w98.cell? ⟨gb251, 0, none⟩ = some (.int .i64 t246) := (blk_cell BK251.out 0).trans rfl; have hcz99_1 : w98.cell? ⟨gb251, 1, none⟩ = some (.slice Ao37 t247.length co37) := (blk_cell BK251.out 1).trans rfl; have hfz99_0 := blk_frozen BK251.out 0; have hfz99_1 := blk_frozen BK251.out 1) | ((with_reducible refine gate_callee (f := 49) rfl ?_); refine goesL_ (some 71) rfl rfl Try.func49 (by kernel_rfl) rfl #[.agg #[.int .i64 t246, .slice Ao37 t262.length co37], .int .i64 1] rfl (by (try simp only [List.map_toArray, List.map_cons, List.map_nil]); first | done | (rw [show t262.length = t247.length from (Kd.R_reads' HO_252001.out).1.symm] <;> rfl) | rfl | (simp only [List.length_drop, List.length_take]; rfl)) ?_; (with_reducible refine (laws_heldNet.calls kj60 t246 _ _ t262 1 t263 _ ?side1 ?side2 A92.out).mono ?_); (case side1 => repeat (first | exact (Kd.R_reads' HO_252001.out).2.2 | (with_reducible refine Kd.C_alloc ?_ _) | (with_reducible refine Kd.C_drewN ?_ _) | (with_reducible refine Kd.C_drew ?_))); (case side2 => rw [show t262.length = t247.length from (Kd.R_reads' HO_252001.out).1.symm]; exact (Kd.R_reads' HO_252001.out).2.1); rintro e w100 ⟨rfl, hb⟩; refine ⟨_, rfl, ?_⟩; have n0_ := Aside0.mk (Kd.R_below (upR HO_241001) hb); have n1_ := Aside0.mk (Kd.R_below (upR HO_246001) hb); have n2_ := Aside0.mk (Kd.R_below (upR HO_252001) hb); have n3_ := Aside0.mk (blk_below (upK BK229) hb); have n4_ := Aside0.mk (blk_below (upK BK240) hb); have n5_ := Aside0.mk (blk_below (upK BK245) hb); have n6_ := Aside0.mk (blk_below (upK BK251) hb); have n7_ := Aside0.mk (below_step (upW HB) hb); clear HO_241001; clear HO_246001; clear HO_252001; clear BK229; clear BK240; clear BK245; clear BK251; clear HB; have HO_241001 := n0_; have HO_246001 := n1_; have HO_252001 := n2_; have BK229 := n3_; have BK240 := n4_; have BK245 := n5_; have BK251 := n6_; have HB := n7_; clear n0_ n1_ n2_ n3_ n4_ n5_ n6_ n7_; (try clear hb); (try clear hb2); (try clear hk); (try clear hi)))
          go_ret
          exact ⟨by first | rfl | (simp [errW_none, errW_some] <;> rfl) | (simp [*, errW_none, errW_some] <;> rfl), by repeat (first | (with_reducible first | exact HB.out | apply below_alloc | apply pw_below_drewN | apply below_drew1 | refine below_set ?_ GE229.out | refine below_set ?_ GE240.out | refine below_set ?_ GE245.out | refine below_set ?_ GE251.out) | exact HB.out)⟩
         ·rw [if_neg c93] at H
          have c93b0 : decide (t263 < 0) = false := decide_eq_false c93
          clear c93
          by_cases c101 : t263 = t261
          ·rw [if_pos c101] at H
           have c101b0 : (t263 == t261) = true := beq_iff_eq.mpr c101
           have c101b1 : (t263 != t261) = false := bne_eq_false_iff_eq.mpr c101
           clear c101
           replace H := Option.bind_eq_some_iff.mp H
           obtain ⟨⟨t264, t265⟩, A1020, H⟩ := H
           replace H : ((impl_DropWire.f kj60 t264 t265 a1).bind fun bt268 => ((laws_eqNet.f kj60 bt268.1 bt268.2.1 t235 t236).bind fun t274 => (if t274 = true then (laws_FnExactDropWire.j2 kj60 t261 (bt268.2.2 != t239) t246 t262) else (laws_FnExactDropWire.j2 kj60 t261 true t246 t262)))) = some r := H
           have A102 := Aside0.mk A1020
           clear A1020
           replace H := Option.bind_eq_some_iff.mp H
           obtain ⟨⟨t268, t269, t272⟩, A1030, H⟩ := H
           replace H : ((laws_eqNet.f kj60 t268 t269 t235 t236).bind fun t274 => (if t274 = true then (laws_FnExactDropWire.j2 kj60 t261 (t272 != t239) t246 t262) else (laws_FnExactDropWire.j2 kj60 t261 true t246 t262))) = some r := H
           have A103 := Aside0.mk A1030
           clear A1030
           have HC104 := Aside0.mk H
           clear H
           have hnb105 := NB251_229.out
           have hnc105 := NB229_251.out
           have hnb106 := NB251_240.out
           have hnc106 := NB240_251.out
           have hnb107 := NB251_245.out
           have hnc107 := NB245_251.out
           have hcz108_0 : wc.cell? ⟨gb251, 0, none⟩ = some (.int .i64 t246) := (blk_cell BK251.out 0).trans rfl
           have hcz108_1 : wc.cell? ⟨gb251, 1, none⟩ = some (.slice Ao37 t247.length co37) := (blk_cell BK251.out 1).trans rfl
           have hfz108_0 := blk_frozen BK251.out 0
           have hfz108_1 := blk_frozen BK251.out 1
           go_upto_region 25 with (first | ((with_reducible refine gate_callee (f := 27) rfl ?_); refine goesL_ (some 68) rfl rfl Try.func27 (by kernel_rfl) rfl #[.agg #[.int .i64 t246, .slice Ao37 t247.length co37], .int .i64 1] rfl itp ?_; (with_reducible refine (laws_markNet.calls kj60 t246 (fun k_ => some k_ = (.slice Ao37 t247.length co37 : Value).ownBlock) (.slice Ao37 t247.length co37) t247 1 t261 t262 w _ ?side1 ?side2 A91.out).mono ?_); (case side1 => repeat (first | (with_reducible first | exact HB.out | apply below_alloc | apply pw_below_drewN | apply below_drew1 | refine below_set ?_ GE229.out | refine below_set ?_ GE240.out | refine below_set ?_ GE245.out | refine below_set ?_ GE251.out) | exact HB.out)); (case side2 => exact Kd.R_tight rfl HO_252001.out); rintro e w109 ⟨rfl, hy0, hb, hkp⟩; refine ⟨_, rfl, ?_⟩; have n0_ := Aside0.mk (Kd.R_mono (ok' := fun k_ => some k_ ≠ (.slice Ao30 t259.length co30 : Value).ownBlock ∧ some k_ ≠ (.slice Ao37 t247.length co37 : Value).ownBlock) (Kd.R_keptB (HO_241001.out) hkp (fun k_ hk_ hs_ => (hk_.2) hs_)) (fun k_ hk_ => ⟨hk_.1.1, hk_.1.2⟩)); have n1_ := Aside0.mk (Kd.R_mono (ok' := fun k_ => some k_ ≠ (.slice Ao23 t236.length co23 : Value).ownBlock ∧ some k_ ≠ (.slice Ao37 t247.length co37 : Value).ownBlock) (Kd.R_keptB (HO_246001.out) hkp (fun k_ hk_ hs_ => (hk_.2) hs_)) (fun k_ hk_ => ⟨hk_.1.1, hk_.1.2⟩)); have n2_ := Aside0.mk (Kd.R_reok rfl hy0 (fun k_ e_ => HO_252001.out.1 k_ e_)); have n3_ := Aside0.mk (blk_kept (upK BK229) hkp (fun hs_ => (fun e_ => (Kd.R_ne HO_252001.out BK229.out (by decide)) e_) hs_)); have n4_ := Aside0.mk (blk_kept (upK BK240) hkp (fun hs_ => (fun e_ => (Kd.R_ne HO_252001.out BK240.out (by decide)) e_) hs_)); have n5_ := Aside0.mk (blk_kept (upK BK245) hkp (fun hs_ => (fun e_ => (Kd.R_ne HO_252001.out BK245.out (by decide)) e_) hs_)); have n6_ := Aside0.mk (blk_kept (upK BK251) hkp (fun hs_ => (fun e_ => (Kd.R_ne HO_252001.out BK251.out (by decide)) e_) hs_)); have n7_ := Aside0.mk (hb); clear HO_241001; clear HO_246001; clear HO_252001; clear BK229; clear BK240; clear BK245; clear BK251; clear HB; have HO_241001 := n0_; have HO_246001 := n1_; have HO_252001 := n2_; have BK229 := n3_; have BK240 := n4_; have BK245 := n5_; have BK251 := n6_; have HB := n7_; clear n0_ n1_ n2_ n3_ n4_ n5_ n6_ n7_; (try clear hb); (try clear hkp); (try clear hy0); have hcz110_0 : w109.cell? ⟨gb251, 0, none⟩ = some (.int .i64 t246) := (blk_cell BK251.out 0).trans rfl; have hcz110_1 : w109.cell? ⟨gb251, 1, none⟩ = some (.slice Ao37 t247.length co37) := (blk_cell BK251.out 1).trans rfl; have hfz110_0 := blk_frozen BK251.out 0; have hfz110_1 := blk_frozen BK251.out 1) | ((with_reducible refine gate_callee (f := 49) rfl ?_); refine goesL_ (some 71) rfl rfl Try.func49 (by kernel_rfl) rfl #[.agg #[.int .i64 t246, .slice Ao37 t262.length co37], .int .i64 1] rfl (by (try simp only [List.map_toArray, List.map_cons, List.map_nil]); first | done | (rw [show t262.length = t247.length from (Kd.R_reads' HO_252001.out).1.symm] <;> rfl) | rfl | (simp only [List.length_drop, List.length_take]; rfl)) ?_; (with_reducible refine (laws_heldNet.calls kj60 t246 _ _ t262 1 t263 _ ?side1 ?side2 A92.out).mono ?_); (case side1 => repeat (first | exact (Kd.R_reads' HO_252001.out).2.2 | (with_reducible refine Kd.C_alloc ?_ _) | (with_reducible refine Kd.C_drewN ?_ _) | (with_reducible refine Kd.C_drew ?_))); (case side2 => rw [show t262.length = t247.length from (Kd.R_reads' HO_252001.out).1.symm]; exact (Kd.R_reads' HO_252001.out).2.1); rintro e w111 ⟨rfl, hb⟩; refine ⟨_, rfl, ?_⟩; have n0_ := Aside0.mk (Kd.R_below (upR HO_241001) hb); have n1_ := Aside0.mk (Kd.R_below (upR HO_246001) hb); have n2_ := Aside0.mk (Kd.R_below (upR HO_252001) hb); have n3_ := Aside0.mk (blk_below (upK BK229) hb); have n4_ := Aside0.mk (blk_below (upK BK240) hb); have n5_ := Aside0.mk (blk_below (upK BK245) hb); have n6_ := Aside0.mk (blk_below (upK BK251) hb); have n7_ := Aside0.mk (below_step (upW HB) hb); clear HO_241001; clear HO_246001; clear HO_252001; clear BK229; clear BK240; clear BK245; clear BK251; clear HB; have HO_241001 := n0_; have HO_246001 := n1_; have HO_252001 := n2_; have BK229 := n3_; have BK240 := n4_; have BK245 := n5_; have BK251 := n6_; have HB := n7_; clear n0_ n1_ n2_ n3_ n4_ n5_ n6_ n7_; (try clear hb); (try clear hb2); (try clear hk); (try clear hi); have hnb112 := NB229_240.out; have hnc112 := NB240_229.out; have hnb113 := NB229_245.out; have hnc113 := NB245_229.out; have hcz114_0 : w111.cell? ⟨gb229, 0, none⟩ = some (.int .i64 a0_0) := (blk_cell BK229.out 0).trans rfl; have hcz114_1 : w111.cell? ⟨gb229, 1, none⟩ = some (.slice A0_1 l0_1.length c0_1) := (blk_cell BK229.out 1).trans rfl; have hfz114_0 := blk_frozen BK229.out 0; have hfz114_1 := blk_frozen BK229.out 1) | ((with_reducible refine gate_callee (f := 17) rfl ?_); refine goesL_ (some 79) rfl rfl Try.func17 (by kernel_rfl) rfl #[.agg #[.int .i64 a0_0, .slice A0_1 l0_1.length c0_1]] rfl itp ?_; (with_reducible refine (laws_toNet.calls kj60 a0_0 _ _ l0_1 t264 t265 _ ?side1 ?side2 A102.out).mono ?_); (case side1 => repeat (first | exact (Kd.C_below HR0_1.out HB.out) | (with_reducible refine Kd.C_alloc ?_ _) | (with_reducible refine Kd.C_drewN ?_ _) | (with_reducible refine Kd.C_drew ?_))); (case side2 => exact HC0_1.out); rintro e w115 ⟨v266, rfl, ho0, hb⟩; refine ⟨_, rfl, ?_⟩; have n0_ := Aside0.mk (Kd.R_elder' (upR HO_241001) (Kd.R_base ho0) hb); have n1_ := Aside0.mk (Kd.R_elder' (upR HO_246001) (Kd.R_base ho0) hb); have n2_ := Aside0.mk (Kd.R_elder' (upR HO_252001) (Kd.R_base ho0) hb); have n3_ := Aside0.mk (Kd.R_lower (Kd.R_new' (Kd.R_new' (Kd.R_new' ho0 (Kd.R_lt (upR HO_241001))) (Kd.R_lt (upR HO_246001))) (Kd.R_lt (upR HO_252001))) (below_size (upW HB))); have n4_ := Aside0.mk (blk_below (upK BK229) hb); have n5_ := Aside0.mk (blk_below (upK BK240) hb); have n6_ := Aside0.mk (blk_below (upK BK245) hb); have n7_ := Aside0.mk (blk_below (upK BK251) hb); have n8_ := Aside0.mk (below_step (upW HB) hb); clear HO_241001; clear HO_246001; clear HO_252001; clear BK229; clear BK240; clear BK245; clear BK251; clear HB; have HO_241001 := n0_; have HO_246001 := n1_; have HO_252001 := n2_; have HO267 := n3_; have BK229 := n4_; have BK240 := n5_; have BK245 := n6_; have BK251 := n7_; have HB := n8_; clear n0_ n1_ n2_ n3_ n4_ n5_ n6_ n7_ n8_; (try clear hb); (try clear hb2); (try clear hk); (try clear hi); (try clear ho0); obtain ⟨Ao116, co116, eo116⟩ := Kd.R_slice HO267.out; subst eo116) | ((with_reducible refine gate_callee (f := 48) rfl ?_); refine goesL_ (some 81) rfl rfl Try.func48 (by kernel_rfl) rfl #[.agg #[.int .i64 t264, .slice Ao116 t265.length co116], .int .i64 a1] rfl itp ?_; (with_reducible refine (impl_DropWire.calls kj60 t264 _ _ t265 a1 t268 t269 t272 _ ?side1 ?side2 A103.out).mono ?_); (case side1 => repeat (first | exact (Kd.R_reads' HO267.out).2.2 | (with_reducible refine Kd.C_alloc ?_ _) | (with_reducible refine Kd.C_drewN ?_ _) | (with_reducible refine Kd.C_drew ?_))); (case side2 => exact (Kd.R_reads' HO267.out).2.1); rintro e w117 ⟨v270, rfl, ho0, hb⟩; refine ⟨_, rfl, ?_⟩; have n0_ := Aside0.mk (Kd.R_elder' (upR HO_241001) (Kd.R_base ho0) hb); have n1_ := Aside0.mk (Kd.R_elder' (upR HO_246001) (Kd.R_base ho0) hb); have n2_ := Aside0.mk (Kd.R_elder' (upR HO_252001) (Kd.R_base ho0) hb); have n3_ := Aside0.mk (Kd.R_elder' (upR HO267) (Kd.R_base ho0) hb); have n4_ := Aside0.mk (Kd.R_lower (Kd.R_new' (Kd.R_new' (Kd.R_new' (Kd.R_new' ho0 (Kd.R_lt (upR HO_241001))) (Kd.R_lt (upR HO_246001))) (Kd.R_lt (upR HO_252001))) (Kd.R_lt (upR HO267))) (below_size (upW HB))); have n5_ := Aside0.mk (blk_below (upK BK229) hb); have n6_ := Aside0.mk (blk_below (upK BK240) hb); have n7_ := Aside0.mk (blk_below (upK BK245) hb); have n8_ := Aside0.mk (blk_below (upK BK251) hb); have n9_ := Aside0.mk (below_step (upW HB) hb); clear HO_241001; clear HO_246001; clear HO_252001; clear HO267; clear BK229; clear BK240; clear BK245; clear BK251; clear HB; have HO_241001 := n0_; have HO_246001 := n1_; have HO_252001 := n2_; have HO267 := n3_; have HO271 := n4_; have BK229 := n5_; have BK240 := n6_; have BK245 := n7_; have BK251 := n8_; have HB := n9_; clear n0_ n1_ n2_ n3_ n4_ n5_ n6_ n7_ n8_ n9_; (try clear hb); (try clear hb2); (try clear hk); (try clear hi); (try clear ho0)) | ((with_reducible refine gate_dst (N := 14) rfl ?_); refine box_event ?hg (N := 14) ?hd (cs := #[.int .i64 0, .slice none 0 0]) (t := 30) ?hr ?_; (case hd => rfl); (case hg => rfl); (case hr => first | (go_simp; done) | (go_simp; rfl)); intro gb273 hg w118 hbox hb; have n0_ := Aside0.mk (Kd.R_below (upR HO_241001) hb); have n1_ := Aside0.mk (Kd.R_below (upR HO_246001) hb); have n2_ := Aside0.mk (Kd.R_below (upR HO_252001) hb); have n3_ := Aside0.mk (Kd.R_below (upR HO267) hb); have n4_ := Aside0.mk (Kd.R_below (upR HO271) hb); have n5_ := Aside0.mk (blk_below (upK BK229) hb); have n6_ := Aside0.mk (blk_below (upK BK240) hb); have n7_ := Aside0.mk (blk_below (upK BK245) hb); have n8_ := Aside0.mk (blk_below (upK BK251) hb); have n9_ := Aside0.mk (below_step (upW HB) hb); have n10_ := Aside0.mk (hbox); have n11_ := Aside0.mk ((by rw [hg]; exact (below_size (upW HB)) : w.heap.size ≤ gb273)); have n12_ := Aside0.mk ((by rw [hg]; exact (below_size (upW HB)) : w.heap.size ≤ gb273)); have n13_ := Aside0.mk ((by rw [hg]; exact Nat.ne_of_lt (blk_lt (upK BK229)) : gb229 ≠ gb273)); have n14_ := Aside0.mk ((by rw [hg]; exact Nat.ne_of_gt (blk_lt (upK BK229)) : gb273 ≠ gb229)); have n15_ := Aside0.mk ((by rw [hg]; exact Nat.ne_of_lt (blk_lt (upK BK240)) : gb240 ≠ gb273)); have n16_ := Aside0.mk ((by rw [hg]; exact Nat.ne_of_gt (blk_lt (upK BK240)) : gb273 ≠ gb240)); have n17_ := Aside0.mk ((by rw [hg]; exact Nat.ne_of_lt (blk_lt (upK BK245)) : gb245 ≠ gb273)); have n18_ := Aside0.mk ((by rw [hg]; exact Nat.ne_of_gt (blk_lt (upK BK245)) : gb273 ≠ gb245)); have n19_ := Aside0.mk ((by rw [hg]; exact Nat.ne_of_lt (blk_lt (upK BK251)) : gb251 ≠ gb273)); have n20_ := Aside0.mk ((by rw [hg]; exact Nat.ne_of_gt (blk_lt (upK BK251)) : gb273 ≠ gb251)); clear HO_241001; clear HO_246001; clear HO_252001; clear HO267; clear HO271; clear BK229; clear BK240; clear BK245; clear BK251; clear HB; have HO_241001 := n0_; have HO_246001 := n1_; have HO_252001 := n2_; have HO267 := n3_; have HO271 := n4_; have BK229 := n5_; have BK240 := n6_; have BK245 := n7_; have BK251 := n8_; have HB := n9_; have BK273 := n10_; have GW273 := n11_; have GE273 := n12_; have NB229_273 := n13_; have NB273_229 := n14_; have NB240_273 := n15_; have NB273_240 := n16_; have NB245_273 := n17_; have NB273_245 := n18_; have NB251_273 := n19_; have NB273_251 := n20_; clear n0_ n1_ n2_ n3_ n4_ n5_ n6_ n7_ n8_ n9_ n10_ n11_ n12_ n13_ n14_ n15_ n16_ n17_ n18_ n19_ n20_; clear hb hbox hg; have hnb119 := NB273_229.out; have hnc119 := NB229_273.out; have hnb120 := NB273_240.out; have hnc120 := NB240_273.out; have hnb121 := NB273_245.out; have hnc121 := NB245_273.out; have hnb122 := NB273_251.out; have hnc122 := NB251_273.out; have hcz123_0 : w118.cell? ⟨gb273, 0, none⟩ = some (.int .i64 0) := (blk_cell BK273.out 0).trans rfl; have hcz123_1 : w118.cell? ⟨gb273, 1, none⟩ = some (.slice none 0 0) := (blk_cell BK273.out 1).trans rfl; have hfz123_0 := blk_frozen BK273.out 0; have hfz123_1 := blk_frozen BK273.out 1; obtain ⟨Ao124, co124, eo124⟩ := Kd.R_slice HO271.out; subst eo124))
           (try simp only [Act.put, List.setIfInBounds_toArray, List.set_cons_zero, List.set_cons_succ])
           go_cut [92] (fun v92 wc => ∃ (kq : Nat) (x92_103 : Bool), v92 = .bool x92_103 ∧ Aside0 (laws_FnExactDropWire.j2 kq t261 x92_103 t246 t262 = some r) ∧ Aside0 (kq ≤ kj60) ∧ Aside0 (Kd.R k73 73 wc w.heap.size (fun k_ => some k_ ≠ ((.slice Ao30 t259.length co30) : Value).ownBlock ∧ some k_ ≠ ((.slice Ao37 t247.length co37) : Value).ownBlock ∧ some k_ ≠ ((.slice Ao124 t269.length co124) : Value).ownBlock) (.slice Ao23 t236.length co23) t236) ∧ Aside0 (Kd.R k73 73 wc w.heap.size (fun k_ => some k_ ≠ ((.slice Ao23 t236.length co23) : Value).ownBlock ∧ some k_ ≠ ((.slice Ao37 t247.length co37) : Value).ownBlock ∧ some k_ ≠ ((.slice Ao124 t269.length co124) : Value).ownBlock) (.slice Ao30 t259.length co30) t259) ∧ Aside0 (Kd.R k73 73 wc w.heap.size (fun k_ => some k_ ≠ ((.slice Ao23 t236.length co23) : Value).ownBlock ∧ some k_ ≠ ((.slice Ao30 t259.length co30) : Value).ownBlock ∧ some k_ ≠ ((.slice Ao124 t269.length co124) : Value).ownBlock) (.slice Ao37 t247.length co37) t262) ∧ Aside0 (Kd.R k73 73 wc w.heap.size (fun k_ => some k_ ≠ ((.slice Ao23 t236.length co23) : Value).ownBlock ∧ some k_ ≠ ((.slice Ao30 t259.length co30) : Value).ownBlock ∧ some k_ ≠ ((.slice Ao37 t247.length co37) : Value).ownBlock) (.slice Ao124 t269.length co124) t269) ∧ Aside0 (wc.heap[gb229]? = some (.cells #[.int .i64 a0_0, (.slice A0_1 l0_1.length c0_1)] 24 (0, 0))) ∧ Aside0 (wc.heap[gb240]? = some (.cells #[.int .i64 t235, (.slice Ao23 t236.length co23)] 30 (0, 0))) ∧ Aside0 (wc.heap[gb245]? = some (.cells #[.int .i64 t241, (.slice Ao30 t259.length co30)] 30 (0, 0))) ∧ Aside0 (wc.heap[gb251]? = some (.cells #[.int .i64 t246, (.slice Ao37 t247.length co37)] 30 (0, 0))) ∧ Aside0 (wc.heap[gb273]? = some (.cells #[.int .i64 t268, (.slice Ao124 t269.length co124)] 30 (0, 0))) ∧ Aside0 (Below w.heap.size w wc))
           case first =>
            have H := HC104.out
            clear HC104
            replace H := Option.bind_eq_some_iff.mp H
            obtain ⟨t274, A1250, H⟩ := H
            replace H : (if t274 = true then (laws_FnExactDropWire.j2 kj60 t261 (t272 != t239) t246 t262) else (laws_FnExactDropWire.j2 kj60 t261 true t246 t262)) = some r := H
            have A125 := Aside0.mk A1250
            clear A1250
            by_cases c126 : t274 = true
            ·subst c126
             have H1 : (laws_FnExactDropWire.j2 kj60 t261 (t272 != t239) t246 t262) = some r := by rw [if_pos rfl] at H; exact H
             clear H
             have H := H1
             clear H1
             have H' := Aside0.mk H
             clear H
             have hnb127 := NB273_229.out
             have hnc127 := NB229_273.out
             have hnb128 := NB273_240.out
             have hnc128 := NB240_273.out
             have hnb129 := NB273_245.out
             have hnc129 := NB245_273.out
             have hnb130 := NB273_251.out
             have hnc130 := NB251_273.out
             have hcz131_0 : w118.cell? ⟨gb273, 0, none⟩ = some (.int .i64 0) := (blk_cell BK273.out 0).trans rfl
             have hcz131_1 : w118.cell? ⟨gb273, 1, none⟩ = some (.slice none 0 0) := (blk_cell BK273.out 1).trans rfl
             have hfz131_0 := blk_frozen BK273.out 0
             have hfz131_1 := blk_frozen BK273.out 1
             have hnb132 := NB240_229.out
             have hnc132 := NB229_240.out
             have hnb133 := NB240_245.out
             have hnc133 := NB245_240.out
             have hnb134 := NB240_251.out
             have hnc134 := NB251_240.out
             have hcz135_0 : w118.cell? ⟨gb240, 0, none⟩ = some (.int .i64 t235) := (blk_cell BK240.out 0).trans rfl
             have hcz135_1 : w118.cell? ⟨gb240, 1, none⟩ = some (.slice Ao23 t236.length co23) := (blk_cell BK240.out 1).trans rfl
             have hfz135_0 := blk_frozen BK240.out 0
             have hfz135_1 := blk_frozen BK240.out 1
             go_wp2_with (first | ((with_reducible refine gate_callee (f := 19) rfl ?_); refine goesL_ (some 86) rfl rfl Try.func19 (by kernel_rfl) rfl #[.agg #[.int .i64 t268, .slice Ao124 t269.length co124], .agg #[.int .i64 t235, .slice Ao23 t236.length co23]] rfl itp ?_; (with_reducible refine (laws_eqNet.calls kj60 t268 _ _ t269 t235 _ _ t236 true _ ?side1 ?side2 ?side3 ?side4 A125.out).mono ?_); (case side1 => refine (Kd.R_reads' (e := 73) (base := w.heap.size) (ok := fun k_ => ((((True ∧ some k_ ≠ (.slice Ao23 t236.length co23 : Value).ownBlock) ∧ some k_ ≠ (.slice Ao30 t259.length co30 : Value).ownBlock) ∧ some k_ ≠ (.slice Ao37 t247.length co37 : Value).ownBlock) ∧ some k_ ≠ (.slice Ao116 t265.length co116 : Value).ownBlock)) (n := t269.length) (c := co124) ?_).2.2; exact (by (with_reducible repeat (first | apply Kd.R_alloc | apply Kd.R_drewN | apply Kd.R_drew)); exact (Kd.R_mono (Kd.R_far (p := ⟨gb273, 1, none⟩) (Kd.R_far (p := ⟨gb273, 0, none⟩) (Kd.R_types HO271.out BK273.out (by decide)) (fun _ hk => hk.2) (.int .i64 t268)) (fun _ hk => hk.2) (.slice Ao124 t269.length co124)) (fun _ h_ => h_.1)))); (case side2 => exact (Kd.R_reads' HO271.out).2.1); (case side3 => refine (Kd.R_reads' (e := 73) (base := w.heap.size) (ok := fun k_ => (((some k_ ≠ (.slice Ao30 t259.length co30 : Value).ownBlock ∧ some k_ ≠ (.slice Ao37 t247.length co37 : Value).ownBlock) ∧ some k_ ≠ (.slice Ao116 t265.length co116 : Value).ownBlock) ∧ some k_ ≠ (.slice Ao124 t269.length co124 : Value).ownBlock)) (n := t236.length) (c := co23) ?_).2.2; exact (by (with_reducible repeat (first | apply Kd.R_alloc | apply Kd.R_drewN | apply Kd.R_drew)); exact (Kd.R_mono (Kd.R_far (p := ⟨gb273, 1, none⟩) (Kd.R_far (p := ⟨gb273, 0, none⟩) (Kd.R_types HO_241001.out BK273.out (by decide)) (fun _ hk => hk.2) (.int .i64 t268)) (fun _ hk => hk.2) (.slice Ao124 t269.length co124)) (fun _ h_ => h_.1)))); (case side4 => exact (Kd.R_reads' HO_241001.out).2.1); rintro e w136 ⟨rfl, hb⟩; refine ⟨_, rfl, ?_⟩; have n0_ := Aside0.mk (Kd.R_below (by (with_reducible repeat (first | apply Kd.R_alloc | apply Kd.R_drewN | apply Kd.R_drew)); exact (Kd.R_mono (Kd.R_far (p := ⟨gb273, 1, none⟩) (Kd.R_far (p := ⟨gb273, 0, none⟩) (Kd.R_types HO_241001.out BK273.out (by decide)) (fun _ hk => hk.2) (.int .i64 t268)) (fun _ hk => hk.2) (.slice Ao124 t269.length co124)) (fun _ h_ => h_.1))) hb); have n1_ := Aside0.mk (Kd.R_below (by (with_reducible repeat (first | apply Kd.R_alloc | apply Kd.R_drewN | apply Kd.R_drew)); exact (Kd.R_mono (Kd.R_far (p := ⟨gb273, 1, none⟩) (Kd.R_far (p := ⟨gb273, 0, none⟩) (Kd.R_types HO_246001.out BK273.out (by decide)) (fun _ hk => hk.2) (.int .i64 t268)) (fun _ hk => hk.2) (.slice Ao124 t269.length co124)) (fun _ h_ => h_.1))) hb); have n2_ := Aside0.mk (Kd.R_below (by (with_reducible repeat (first | apply Kd.R_alloc | apply Kd.R_drewN | apply Kd.R_drew)); exact (Kd.R_mono (Kd.R_far (p := ⟨gb273, 1, none⟩) (Kd.R_far (p := ⟨gb273, 0, none⟩) (Kd.R_types HO_252001.out BK273.out (by decide)) (fun _ hk => hk.2) (.int .i64 t268)) (fun _ hk => hk.2) (.slice Ao124 t269.length co124)) (fun _ h_ => h_.1))) hb); have n3_ := Aside0.mk (Kd.R_below (by (with_reducible repeat (first | apply Kd.R_alloc | apply Kd.R_drewN | apply Kd.R_drew)); exact (Kd.R_mono (Kd.R_far (p := ⟨gb273, 1, none⟩) (Kd.R_far (p := ⟨gb273, 0, none⟩) (Kd.R_types HO267.out BK273.out (by decide)) (fun _ hk => hk.2) (.int .i64 t268)) (fun _ hk => hk.2) (.slice Ao124 t269.length co124)) (fun _ h_ => h_.1))) hb); have n4_ := Aside0.mk (Kd.R_below (by (with_reducible repeat (first | apply Kd.R_alloc | apply Kd.R_drewN | apply Kd.R_drew)); exact (Kd.R_mono (Kd.R_far (p := ⟨gb273, 1, none⟩) (Kd.R_far (p := ⟨gb273, 0, none⟩) (Kd.R_types HO271.out BK273.out (by decide)) (fun _ hk => hk.2) (.int .i64 t268)) (fun _ hk => hk.2) (.slice Ao124 t269.length co124)) (fun _ h_ => h_.1))) hb); have n5_ := Aside0.mk (blk_below (upF BK229) hb); have n6_ := Aside0.mk (blk_below (upF BK240) hb); have n7_ := Aside0.mk (blk_below (upF BK245) hb); have n8_ := Aside0.mk (blk_below (upF BK251) hb); have n9_ := Aside0.mk (blk_below (g := gb273) (o := .cells #[.int .i64 t268, .slice Ao124 t269.length co124] 30 (0, 0)) (by (with_reducible repeat (first | refine blk_drewN ?_ _ | refine blk_drew ?_ | refine blk_alloc ?_ _)); refine blk_put (cs := #[.int .i64 t268, .slice none 0 0]) ?_ 1 _ rfl; (with_reducible repeat (first | refine blk_drewN ?_ _ | refine blk_drew ?_ | refine blk_alloc ?_ _)); refine blk_put (cs := #[.int .i64 0, .slice none 0 0]) ?_ 0 _ rfl; (with_reducible repeat (first | refine blk_drewN ?_ _ | refine blk_drew ?_ | refine blk_alloc ?_ _)); exact BK273.out) hb); have n10_ := Aside0.mk (below_step (upW HB) hb); clear HO_241001; clear HO_246001; clear HO_252001; clear HO267; clear HO271; clear BK229; clear BK240; clear BK245; clear BK251; clear BK273; clear HB; have HO_241001 := n0_; have HO_246001 := n1_; have HO_252001 := n2_; have HO267 := n3_; have HO271 := n4_; have BK229 := n5_; have BK240 := n6_; have BK245 := n7_; have BK251 := n8_; have BK273 := n9_; have HB := n10_; clear n0_ n1_ n2_ n3_ n4_ n5_ n6_ n7_ n8_ n9_ n10_; (try clear hb); (try clear hb2); (try clear hk); (try clear hi)))
             go_meet
             case rel => exact ⟨_, ((t272 != t239)), (by first | rfl | (simp; done) | (simp [*]; done)), H', ⟨by have := HJ11.out; have := HJ60.out; first | omega | exact Nat.le_refl _⟩, ⟨by (try simp only [hl246001_60]); (with_reducible repeat (first | apply Kd.R_alloc | apply Kd.R_drewN | apply Kd.R_drew)); exact Kd.R_mono HO_241001.out (fun _ hk => ⟨hk.1.1.1, ⟨hk.1.1.2, hk.2⟩⟩)⟩, ⟨by (try simp only [hl246001_60]); (with_reducible repeat (first | apply Kd.R_alloc | apply Kd.R_drewN | apply Kd.R_drew)); exact Kd.R_mono HO_246001.out (fun _ hk => ⟨hk.1.1.1, ⟨hk.1.1.2, hk.2⟩⟩)⟩, ⟨by (try simp only [hl246001_60]); (with_reducible repeat (first | apply Kd.R_alloc | apply Kd.R_drewN | apply Kd.R_drew)); exact Kd.R_mono HO_252001.out (fun _ hk => ⟨hk.1.1.1, ⟨hk.1.1.2, hk.2⟩⟩)⟩, ⟨by (try simp only [hl246001_60]); (with_reducible repeat (first | apply Kd.R_alloc | apply Kd.R_drewN | apply Kd.R_drew)); exact Kd.R_mono HO271.out (fun _ hk => ⟨hk.1.1.1.2, ⟨hk.1.1.2, hk.1.2⟩⟩)⟩, ⟨by (try simp only [hl246001_60]); (with_reducible repeat (first | refine blk_drewN ?_ _ | refine blk_drew ?_ | refine blk_alloc ?_ _)); exact BK229.out⟩, ⟨by (try simp only [hl246001_60]); (with_reducible repeat (first | refine blk_drewN ?_ _ | refine blk_drew ?_ | refine blk_alloc ?_ _)); exact BK240.out⟩, ⟨by (try simp only [hl246001_60]); (with_reducible repeat (first | refine blk_drewN ?_ _ | refine blk_drew ?_ | refine blk_alloc ?_ _)); exact BK245.out⟩, ⟨by (try simp only [hl246001_60]); (with_reducible repeat (first | refine blk_drewN ?_ _ | refine blk_drew ?_ | refine blk_alloc ?_ _)); exact BK251.out⟩, ⟨by (try simp only [hl246001_60]); (with_reducible repeat (first | refine blk_drewN ?_ _ | refine blk_drew ?_ | refine blk_alloc ?_ _)); exact BK273.out⟩, ⟨upW HB⟩⟩
            ·replace c126 := Bool.eq_false_iff.mpr c126
             subst c126
             have H1 : (laws_FnExactDropWire.j2 kj60 t261 true t246 t262) = some r := by rw [if_neg (show ¬ (false = true) by decide)] at H; exact H
             clear H
             have H := H1
             clear H1
             have H' := Aside0.mk H
             clear H
             have hnb137 := NB273_229.out
             have hnc137 := NB229_273.out
             have hnb138 := NB273_240.out
             have hnc138 := NB240_273.out
             have hnb139 := NB273_245.out
             have hnc139 := NB245_273.out
             have hnb140 := NB273_251.out
             have hnc140 := NB251_273.out
             have hcz141_0 : w118.cell? ⟨gb273, 0, none⟩ = some (.int .i64 0) := (blk_cell BK273.out 0).trans rfl
             have hcz141_1 : w118.cell? ⟨gb273, 1, none⟩ = some (.slice none 0 0) := (blk_cell BK273.out 1).trans rfl
             have hfz141_0 := blk_frozen BK273.out 0
             have hfz141_1 := blk_frozen BK273.out 1
             have hnb142 := NB240_229.out
             have hnc142 := NB229_240.out
             have hnb143 := NB240_245.out
             have hnc143 := NB245_240.out
             have hnb144 := NB240_251.out
             have hnc144 := NB251_240.out
             have hcz145_0 : w118.cell? ⟨gb240, 0, none⟩ = some (.int .i64 t235) := (blk_cell BK240.out 0).trans rfl
             have hcz145_1 : w118.cell? ⟨gb240, 1, none⟩ = some (.slice Ao23 t236.length co23) := (blk_cell BK240.out 1).trans rfl
             have hfz145_0 := blk_frozen BK240.out 0
             have hfz145_1 := blk_frozen BK240.out 1
             go_wp2_with (first | ((with_reducible refine gate_callee (f := 19) rfl ?_); refine goesL_ (some 86) rfl rfl Try.func19 (by kernel_rfl) rfl #[.agg #[.int .i64 t268, .slice Ao124 t269.length co124], .agg #[.int .i64 t235, .slice Ao23 t236.length co23]] rfl itp ?_; (with_reducible refine (laws_eqNet.calls kj60 t268 _ _ t269 t235 _ _ t236 false _ ?side1 ?side2 ?side3 ?side4 A125.out).mono ?_); (case side1 => refine (Kd.R_reads' (e := 73) (base := w.heap.size) (ok := fun k_ => ((((True ∧ some k_ ≠ (.slice Ao23 t236.length co23 : Value).ownBlock) ∧ some k_ ≠ (.slice Ao30 t259.length co30 : Value).ownBlock) ∧ some k_ ≠ (.slice Ao37 t247.length co37 : Value).ownBlock) ∧ some k_ ≠ (.slice Ao116 t265.length co116 : Value).ownBlock)) (n := t269.length) (c := co124) ?_).2.2; exact (by (with_reducible repeat (first | apply Kd.R_alloc | apply Kd.R_drewN | apply Kd.R_drew)); exact (Kd.R_mono (Kd.R_far (p := ⟨gb273, 1, none⟩) (Kd.R_far (p := ⟨gb273, 0, none⟩) (Kd.R_types HO271.out BK273.out (by decide)) (fun _ hk => hk.2) (.int .i64 t268)) (fun _ hk => hk.2) (.slice Ao124 t269.length co124)) (fun _ h_ => h_.1)))); (case side2 => exact (Kd.R_reads' HO271.out).2.1); (case side3 => refine (Kd.R_reads' (e := 73) (base := w.heap.size) (ok := fun k_ => (((some k_ ≠ (.slice Ao30 t259.length co30 : Value).ownBlock ∧ some k_ ≠ (.slice Ao37 t247.length co37 : Value).ownBlock) ∧ some k_ ≠ (.slice Ao116 t265.length co116 : Value).ownBlock) ∧ some k_ ≠ (.slice Ao124 t269.length co124 : Value).ownBlock)) (n := t236.length) (c := co23) ?_).2.2; exact (by (with_reducible repeat (first | apply Kd.R_alloc | apply Kd.R_drewN | apply Kd.R_drew)); exact (Kd.R_mono (Kd.R_far (p := ⟨gb273, 1, none⟩) (Kd.R_far (p := ⟨gb273, 0, none⟩) (Kd.R_types HO_241001.out BK273.out (by decide)) (fun _ hk => hk.2) (.int .i64 t268)) (fun _ hk => hk.2) (.slice Ao124 t269.length co124)) (fun _ h_ => h_.1)))); (case side4 => exact (Kd.R_reads' HO_241001.out).2.1); rintro e w146 ⟨rfl, hb⟩; refine ⟨_, rfl, ?_⟩; have n0_ := Aside0.mk (Kd.R_below (by (with_reducible repeat (first | apply Kd.R_alloc | apply Kd.R_drewN | apply Kd.R_drew)); exact (Kd.R_mono (Kd.R_far (p := ⟨gb273, 1, none⟩) (Kd.R_far (p := ⟨gb273, 0, none⟩) (Kd.R_types HO_241001.out BK273.out (by decide)) (fun _ hk => hk.2) (.int .i64 t268)) (fun _ hk => hk.2) (.slice Ao124 t269.length co124)) (fun _ h_ => h_.1))) hb); have n1_ := Aside0.mk (Kd.R_below (by (with_reducible repeat (first | apply Kd.R_alloc | apply Kd.R_drewN | apply Kd.R_drew)); exact (Kd.R_mono (Kd.R_far (p := ⟨gb273, 1, none⟩) (Kd.R_far (p := ⟨gb273, 0, none⟩) (Kd.R_types HO_246001.out BK273.out (by decide)) (fun _ hk => hk.2) (.int .i64 t268)) (fun _ hk => hk.2) (.slice Ao124 t269.length co124)) (fun _ h_ => h_.1))) hb); have n2_ := Aside0.mk (Kd.R_below (by (with_reducible repeat (first | apply Kd.R_alloc | apply Kd.R_drewN | apply Kd.R_drew)); exact (Kd.R_mono (Kd.R_far (p := ⟨gb273, 1, none⟩) (Kd.R_far (p := ⟨gb273, 0, none⟩) (Kd.R_types HO_252001.out BK273.out (by decide)) (fun _ hk => hk.2) (.int .i64 t268)) (fun _ hk => hk.2) (.slice Ao124 t269.length co124)) (fun _ h_ => h_.1))) hb); have n3_ := Aside0.mk (Kd.R_below (by (with_reducible repeat (first | apply Kd.R_alloc | apply Kd.R_drewN | apply Kd.R_drew)); exact (Kd.R_mono (Kd.R_far (p := ⟨gb273, 1, none⟩) (Kd.R_far (p := ⟨gb273, 0, none⟩) (Kd.R_types HO267.out BK273.out (by decide)) (fun _ hk => hk.2) (.int .i64 t268)) (fun _ hk => hk.2) (.slice Ao124 t269.length co124)) (fun _ h_ => h_.1))) hb); have n4_ := Aside0.mk (Kd.R_below (by (with_reducible repeat (first | apply Kd.R_alloc | apply Kd.R_drewN | apply Kd.R_drew)); exact (Kd.R_mono (Kd.R_far (p := ⟨gb273, 1, none⟩) (Kd.R_far (p := ⟨gb273, 0, none⟩) (Kd.R_types HO271.out BK273.out (by decide)) (fun _ hk => hk.2) (.int .i64 t268)) (fun _ hk => hk.2) (.slice Ao124 t269.length co124)) (fun _ h_ => h_.1))) hb); have n5_ := Aside0.mk (blk_below (upF BK229) hb); have n6_ := Aside0.mk (blk_below (upF BK240) hb); have n7_ := Aside0.mk (blk_below (upF BK245) hb); have n8_ := Aside0.mk (blk_below (upF BK251) hb); have n9_ := Aside0.mk (blk_below (g := gb273) (o := .cells #[.int .i64 t268, .slice Ao124 t269.length co124] 30 (0, 0)) (by (with_reducible repeat (first | refine blk_drewN ?_ _ | refine blk_drew ?_ | refine blk_alloc ?_ _)); refine blk_put (cs := #[.int .i64 t268, .slice none 0 0]) ?_ 1 _ rfl; (with_reducible repeat (first | refine blk_drewN ?_ _ | refine blk_drew ?_ | refine blk_alloc ?_ _)); refine blk_put (cs := #[.int .i64 0, .slice none 0 0]) ?_ 0 _ rfl; (with_reducible repeat (first | refine blk_drewN ?_ _ | refine blk_drew ?_ | refine blk_alloc ?_ _)); exact BK273.out) hb); have n10_ := Aside0.mk (below_step (upW HB) hb); clear HO_241001; clear HO_246001; clear HO_252001; clear HO267; clear HO271; clear BK229; clear BK240; clear BK245; clear BK251; clear BK273; clear HB; have HO_241001 := n0_; have HO_246001 := n1_; have HO_252001 := n2_; have HO267 := n3_; have HO271 := n4_; have BK229 := n5_; have BK240 := n6_; have BK245 := n7_; have BK251 := n8_; have BK273 := n9_; have HB := n10_; clear n0_ n1_ n2_ n3_ n4_ n5_ n6_ n7_ n8_ n9_ n10_; (try clear hb); (try clear hb2); (try clear hk); (try clear hi)))
             go_meet
             case rel => exact ⟨_, (true), (by first | rfl | (simp; done) | (simp [*]; done)), H', ⟨by have := HJ11.out; have := HJ60.out; first | omega | exact Nat.le_refl _⟩, ⟨by (try simp only [hl246001_60]); (with_reducible repeat (first | apply Kd.R_alloc | apply Kd.R_drewN | apply Kd.R_drew)); exact Kd.R_mono HO_241001.out (fun _ hk => ⟨hk.1.1.1, ⟨hk.1.1.2, hk.2⟩⟩)⟩, ⟨by (try simp only [hl246001_60]); (with_reducible repeat (first | apply Kd.R_alloc | apply Kd.R_drewN | apply Kd.R_drew)); exact Kd.R_mono HO_246001.out (fun _ hk => ⟨hk.1.1.1, ⟨hk.1.1.2, hk.2⟩⟩)⟩, ⟨by (try simp only [hl246001_60]); (with_reducible repeat (first | apply Kd.R_alloc | apply Kd.R_drewN | apply Kd.R_drew)); exact Kd.R_mono HO_252001.out (fun _ hk => ⟨hk.1.1.1, ⟨hk.1.1.2, hk.2⟩⟩)⟩, ⟨by (try simp only [hl246001_60]); (with_reducible repeat (first | apply Kd.R_alloc | apply Kd.R_drewN | apply Kd.R_drew)); exact Kd.R_mono HO271.out (fun _ hk => ⟨hk.1.1.1.2, ⟨hk.1.1.2, hk.1.2⟩⟩)⟩, ⟨by (try simp only [hl246001_60]); (with_reducible repeat (first | refine blk_drewN ?_ _ | refine blk_drew ?_ | refine blk_alloc ?_ _)); exact BK229.out⟩, ⟨by (try simp only [hl246001_60]); (with_reducible repeat (first | refine blk_drewN ?_ _ | refine blk_drew ?_ | refine blk_alloc ?_ _)); exact BK240.out⟩, ⟨by (try simp only [hl246001_60]); (with_reducible repeat (first | refine blk_drewN ?_ _ | refine blk_drew ?_ | refine blk_alloc ?_ _)); exact BK245.out⟩, ⟨by (try simp only [hl246001_60]); (with_reducible repeat (first | refine blk_drewN ?_ _ | refine blk_drew ?_ | refine blk_alloc ?_ _)); exact BK251.out⟩, ⟨by (try simp only [hl246001_60]); (with_reducible repeat (first | refine blk_drewN ?_ _ | refine blk_drew ?_ | refine blk_alloc ?_ _)); exact BK273.out⟩, ⟨upW HB⟩⟩
           case rest =>
            clear HC104
            try clear c1
            try clear c2
            try clear p2
            try clear c3
            try clear c4
            try clear c4b0
            try clear c5
            try clear c6
            try clear c7
            try clear c8
            try clear c9
            try clear c10
            try clear c11
            try clear c12
            try clear c13
            try clear c14
            try clear c15
            try clear c17
            try clear c19
            try clear c21
            try clear c27
            try clear c28
            try clear c33
            try clear c34
            try clear c35
            try clear c39
            try clear c40
            try clear c41
            try clear c42
            try clear c44
            try clear c45
            try clear c47
            try clear c48
            try clear c49
            try clear c50
            try clear c52
            try clear c53
            try clear c56
            try clear c59
            try clear c66
            try clear c67
            try clear c68
            try clear c71
            try clear c71b0
            try clear c73
            try clear c74
            try clear c75
            try clear c76
            try clear c78
            try clear c79
            try clear c82
            try clear c83
            try clear c84
            try clear c86
            try clear c87
            try clear c90
            try clear c93
            try clear c93b0
            try clear c94
            try clear c95
            try clear c96
            try clear c101
            try clear c101b0
            try clear c101b1
            try clear c105
            try clear c106
            try clear c107
            try clear c112
            try clear c113
            try clear c119
            try clear c120
            try clear c121
            try clear c122
            try clear c126
            try clear c127
            try clear c128
            try clear c129
            try clear c130
            try clear c132
            try clear c133
            try clear c134
            try clear c137
            try clear c138
            try clear c139
            try clear c140
            try clear c142
            try clear c143
            try clear c144
            try clear hcz108_0
            try clear hcz108_1
            try clear hcz110_0
            try clear hcz110_1
            try clear hcz114_0
            try clear hcz114_1
            try clear hcz123_0
            try clear hcz123_1
            try clear hcz131_0
            try clear hcz131_1
            try clear hcz135_0
            try clear hcz135_1
            try clear hcz141_0
            try clear hcz141_1
            try clear hcz145_0
            try clear hcz145_1
            try clear hcz14_0
            try clear hcz14_1
            try clear hcz16_0
            try clear hcz16_1
            try clear hcz22_0
            try clear hcz22_1
            try clear hcz24_0
            try clear hcz24_1
            try clear hcz29_0
            try clear hcz29_1
            try clear hcz36_0
            try clear hcz36_1
            try clear hcz43_0
            try clear hcz43_1
            try clear hcz46_0
            try clear hcz46_1
            try clear hcz51_0
            try clear hcz51_1
            try clear hcz54_0
            try clear hcz54_1
            try clear hcz69_0
            try clear hcz69_1
            try clear hcz6_0
            try clear hcz6_1
            try clear hcz77_0
            try clear hcz77_1
            try clear hcz80_0
            try clear hcz80_1
            try clear hcz85_0
            try clear hcz85_1
            try clear hcz88_0
            try clear hcz88_1
            try clear hcz97_0
            try clear hcz97_1
            try clear hcz99_0
            try clear hcz99_1
            try clear hfz108_0
            try clear hfz108_1
            try clear hfz110_0
            try clear hfz110_1
            try clear hfz114_0
            try clear hfz114_1
            try clear hfz123_0
            try clear hfz123_1
            try clear hfz131_0
            try clear hfz131_1
            try clear hfz135_0
            try clear hfz135_1
            try clear hfz141_0
            try clear hfz141_1
            try clear hfz145_0
            try clear hfz145_1
            try clear hfz14_0
            try clear hfz14_1
            try clear hfz16_0
            try clear hfz16_1
            try clear hfz22_0
            try clear hfz22_1
            try clear hfz24_0
            try clear hfz24_1
            try clear hfz29_0
            try clear hfz29_1
            try clear hfz36_0
            try clear hfz36_1
            try clear hfz43_0
            try clear hfz43_1
            try clear hfz46_0
            try clear hfz46_1
            try clear hfz51_0
            try clear hfz51_1
            try clear hfz54_0
            try clear hfz54_1
            try clear hfz69_0
            try clear hfz69_1
            try clear hfz6_0
            try clear hfz6_1
            try clear hfz77_0
            try clear hfz77_1
            try clear hfz80_0
            try clear hfz80_1
            try clear hfz85_0
            try clear hfz85_1
            try clear hfz88_0
            try clear hfz88_1
            try clear hfz97_0
            try clear hfz97_1
            try clear hfz99_0
            try clear hfz99_1
            try clear p2
            obtain ⟨kq, x92_103, rfl, HA, HJ103, HO_241001, HO_246001, HO_252001, HO_274001, BK229, BK240, BK245, BK251, BK273, HB⟩ := hcut
            have hl252001_103 := (Kd.R_reads' HO_252001.out).1
            rw [hl252001_103] at HO_252001
            (try simp only [hl252001_103])
            (try simp only [hl252001_103] at BK229)
            (try simp only [hl252001_103] at BK240)
            (try simp only [hl252001_103] at BK245)
            (try simp only [hl252001_103] at BK251)
            (try simp only [hl252001_103] at BK273)
            (try simp only [hl252001_103] at HO_241001)
            (try simp only [hl252001_103] at HO_246001)
            (try simp only [hl252001_103] at HO_274001)
            cases kq with
            | zero => exact absurd HA.out (by simp [laws_FnExactDropWire.j2])
            | succ kj103 =>
             have H := HA.out
             clear HA
             simp only [laws_FnExactDropWire.j2] at H
             by_cases c147 : x92_103 = true
             ·subst c147
              have H1 : (some false) = some r := by rw [if_pos rfl] at H; exact H
              clear H
              have H := H1
              clear H1
              obtain rfl := Option.some.inj H
              go_wp2
              go_ret
              exact ⟨by first | rfl | (simp [errW_none, errW_some] <;> rfl) | (simp [*, errW_none, errW_some] <;> rfl), by repeat (first | (with_reducible first | exact HB.out | apply below_alloc | apply pw_below_drewN | apply below_drew1 | refine below_set ?_ GE229.out | refine below_set ?_ GE240.out | refine below_set ?_ GE245.out | refine below_set ?_ GE251.out | refine below_set ?_ GE273.out) | exact HB.out)⟩
             ·replace c147 := Bool.eq_false_iff.mpr c147
              subst c147
              have H1 : ((laws_heldNet.f kj103 t246 t262 1).bind fun t275 => (if t275 < 0 then (some false) else (if t275 = t261 then (some true) else (some false)))) = some r := by rw [if_neg (show ¬ (false = true) by decide)] at H; exact H
              clear H
              have H := H1
              clear H1
              replace H := Option.bind_eq_some_iff.mp H
              obtain ⟨t275, A1480, H⟩ := H
              replace H : (if t275 < 0 then (some false) else (if t275 = t261 then (some true) else (some false))) = some r := H
              have A148 := Aside0.mk A1480
              clear A1480
              by_cases c149 : t275 < 0
              ·rw [if_pos c149] at H
               have c149b0 : decide (t275 < 0) = true := decide_eq_true c149
               clear c149
               obtain rfl := Option.some.inj H
               have hnb150 := NB251_229.out
               have hnc150 := NB229_251.out
               have hnb151 := NB251_240.out
               have hnc151 := NB240_251.out
               have hnb152 := NB251_245.out
               have hnc152 := NB245_251.out
               have hnb153 := NB251_273.out
               have hnc153 := NB273_251.out
               have hcz154_0 : wc.cell? ⟨gb251, 0, none⟩ = some (.int .i64 t246) := (blk_cell BK251.out 0).trans rfl
               have hcz154_1 : wc.cell? ⟨gb251, 1, none⟩ = some (.slice Ao37 t262.length co37) := (blk_cell BK251.out 1).trans rfl
               have hfz154_0 := blk_frozen BK251.out 0
               have hfz154_1 := blk_frozen BK251.out 1
               go_wp2_with (first | ((with_reducible refine gate_callee (f := 49) rfl ?_); refine goesL_ (some 95) rfl rfl Try.func49 (by kernel_rfl) rfl #[.agg #[.int .i64 t246, .slice Ao37 t262.length co37], .int .i64 1] rfl itp ?_; (with_reducible refine (laws_heldNet.calls kj103 t246 _ _ t262 1 t275 _ ?side1 ?side2 A148.out).mono ?_); (case side1 => repeat (first | exact (Kd.R_reads' HO_252001.out).2.2 | (with_reducible refine Kd.C_alloc ?_ _) | (with_reducible refine Kd.C_drewN ?_ _) | (with_reducible refine Kd.C_drew ?_))); (case side2 => exact (Kd.R_reads' HO_252001.out).2.1); rintro e w155 ⟨rfl, hb⟩; refine ⟨_, rfl, ?_⟩; have n0_ := Aside0.mk (Kd.R_below (upR HO_241001) hb); have n1_ := Aside0.mk (Kd.R_below (upR HO_246001) hb); have n2_ := Aside0.mk (Kd.R_below (upR HO_252001) hb); have n3_ := Aside0.mk (Kd.R_below (upR HO_274001) hb); have n4_ := Aside0.mk (blk_below (upK BK229) hb); have n5_ := Aside0.mk (blk_below (upK BK240) hb); have n6_ := Aside0.mk (blk_below (upK BK245) hb); have n7_ := Aside0.mk (blk_below (upK BK251) hb); have n8_ := Aside0.mk (blk_below (upK BK273) hb); have n9_ := Aside0.mk (below_step (upW HB) hb); clear HO_241001; clear HO_246001; clear HO_252001; clear HO_274001; clear BK229; clear BK240; clear BK245; clear BK251; clear BK273; clear HB; have HO_241001 := n0_; have HO_246001 := n1_; have HO_252001 := n2_; have HO_274001 := n3_; have BK229 := n4_; have BK240 := n5_; have BK245 := n6_; have BK251 := n7_; have BK273 := n8_; have HB := n9_; clear n0_ n1_ n2_ n3_ n4_ n5_ n6_ n7_ n8_ n9_; (try clear hb); (try clear hb2); (try clear hk); (try clear hi)))
               go_ret
               exact ⟨by first | rfl | (simp [errW_none, errW_some] <;> rfl) | (simp [*, errW_none, errW_some] <;> rfl), by repeat (first | (with_reducible first | exact HB.out | apply below_alloc | apply pw_below_drewN | apply below_drew1 | refine below_set ?_ GE229.out | refine below_set ?_ GE240.out | refine below_set ?_ GE245.out | refine below_set ?_ GE251.out | refine below_set ?_ GE273.out) | exact HB.out)⟩
              ·rw [if_neg c149] at H
               have c149b0 : decide (t275 < 0) = false := decide_eq_false c149
               clear c149
               by_cases c156 : t275 = t261
               ·rw [if_pos c156] at H
                have c156b0 : (t275 == t261) = true := beq_iff_eq.mpr c156
                have c156b1 : (t275 != t261) = false := bne_eq_false_iff_eq.mpr c156
                clear c156
                obtain rfl := Option.some.inj H
                have hnb157 := NB251_229.out
                have hnc157 := NB229_251.out
                have hnb158 := NB251_240.out
                have hnc158 := NB240_251.out
                have hnb159 := NB251_245.out
                have hnc159 := NB245_251.out
                have hnb160 := NB251_273.out
                have hnc160 := NB273_251.out
                have hcz161_0 : wc.cell? ⟨gb251, 0, none⟩ = some (.int .i64 t246) := (blk_cell BK251.out 0).trans rfl
                have hcz161_1 : wc.cell? ⟨gb251, 1, none⟩ = some (.slice Ao37 t262.length co37) := (blk_cell BK251.out 1).trans rfl
                have hfz161_0 := blk_frozen BK251.out 0
                have hfz161_1 := blk_frozen BK251.out 1
                go_wp2_with (first | ((with_reducible refine gate_callee (f := 49) rfl ?_); refine goesL_ (some 95) rfl rfl Try.func49 (by kernel_rfl) rfl #[.agg #[.int .i64 t246, .slice Ao37 t262.length co37], .int .i64 1] rfl itp ?_; (with_reducible refine (laws_heldNet.calls kj103 t246 _ _ t262 1 t275 _ ?side1 ?side2 A148.out).mono ?_); (case side1 => repeat (first | exact (Kd.R_reads' HO_252001.out).2.2 | (with_reducible refine Kd.C_alloc ?_ _) | (with_reducible refine Kd.C_drewN ?_ _) | (with_reducible refine Kd.C_drew ?_))); (case side2 => exact (Kd.R_reads' HO_252001.out).2.1); rintro e w162 ⟨rfl, hb⟩; refine ⟨_, rfl, ?_⟩; have n0_ := Aside0.mk (Kd.R_below (upR HO_241001) hb); have n1_ := Aside0.mk (Kd.R_below (upR HO_246001) hb); have n2_ := Aside0.mk (Kd.R_below (upR HO_252001) hb); have n3_ := Aside0.mk (Kd.R_below (upR HO_274001) hb); have n4_ := Aside0.mk (blk_below (upK BK229) hb); have n5_ := Aside0.mk (blk_below (upK BK240) hb); have n6_ := Aside0.mk (blk_below (upK BK245) hb); have n7_ := Aside0.mk (blk_below (upK BK251) hb); have n8_ := Aside0.mk (blk_below (upK BK273) hb); have n9_ := Aside0.mk (below_step (upW HB) hb); clear HO_241001; clear HO_246001; clear HO_252001; clear HO_274001; clear BK229; clear BK240; clear BK245; clear BK251; clear BK273; clear HB; have HO_241001 := n0_; have HO_246001 := n1_; have HO_252001 := n2_; have HO_274001 := n3_; have BK229 := n4_; have BK240 := n5_; have BK245 := n6_; have BK251 := n7_; have BK273 := n8_; have HB := n9_; clear n0_ n1_ n2_ n3_ n4_ n5_ n6_ n7_ n8_ n9_; (try clear hb); (try clear hb2); (try clear hk); (try clear hi)))
                go_ret
                exact ⟨by first | rfl | (simp [errW_none, errW_some] <;> rfl) | (simp [*, errW_none, errW_some] <;> rfl), by repeat (first | (with_reducible first | exact HB.out | apply below_alloc | apply pw_below_drewN | apply below_drew1 | refine below_set ?_ GE229.out | refine below_set ?_ GE240.out | refine below_set ?_ GE245.out | refine below_set ?_ GE251.out | refine below_set ?_ GE273.out) | exact HB.out)⟩
               ·rw [if_neg c156] at H
                have c156b0 : (t275 == t261) = false := beq_eq_false_iff_ne.mpr c156
                have c156b1 : (t275 != t261) = true := bne_iff_ne.mpr c156
                obtain rfl := Option.some.inj H
                have hnb163 := NB251_229.out
                have hnc163 := NB229_251.out
                have hnb164 := NB251_240.out
                have hnc164 := NB240_251.out
                have hnb165 := NB251_245.out
                have hnc165 := NB245_251.out
                have hnb166 := NB251_273.out
                have hnc166 := NB273_251.out
                have hcz167_0 : wc.cell? ⟨gb251, 0, none⟩ = some (.int .i64 t246) := (blk_cell BK251.out 0).trans rfl
                have hcz167_1 : wc.cell? ⟨gb251, 1, none⟩ = some (.slice Ao37 t262.length co37) := (blk_cell BK251.out 1).trans rfl
                have hfz167_0 := blk_frozen BK251.out 0
                have hfz167_1 := blk_frozen BK251.out 1
                go_wp2_with (first | ((with_reducible refine gate_callee (f := 49) rfl ?_); refine goesL_ (some 95) rfl rfl Try.func49 (by kernel_rfl) rfl #[.agg #[.int .i64 t246, .slice Ao37 t262.length co37], .int .i64 1] rfl itp ?_; (with_reducible refine (laws_heldNet.calls kj103 t246 _ _ t262 1 t275 _ ?side1 ?side2 A148.out).mono ?_); (case side1 => repeat (first | exact (Kd.R_reads' HO_252001.out).2.2 | (with_reducible refine Kd.C_alloc ?_ _) | (with_reducible refine Kd.C_drewN ?_ _) | (with_reducible refine Kd.C_drew ?_))); (case side2 => exact (Kd.R_reads' HO_252001.out).2.1); rintro e w168 ⟨rfl, hb⟩; refine ⟨_, rfl, ?_⟩; have n0_ := Aside0.mk (Kd.R_below (upR HO_241001) hb); have n1_ := Aside0.mk (Kd.R_below (upR HO_246001) hb); have n2_ := Aside0.mk (Kd.R_below (upR HO_252001) hb); have n3_ := Aside0.mk (Kd.R_below (upR HO_274001) hb); have n4_ := Aside0.mk (blk_below (upK BK229) hb); have n5_ := Aside0.mk (blk_below (upK BK240) hb); have n6_ := Aside0.mk (blk_below (upK BK245) hb); have n7_ := Aside0.mk (blk_below (upK BK251) hb); have n8_ := Aside0.mk (blk_below (upK BK273) hb); have n9_ := Aside0.mk (below_step (upW HB) hb); clear HO_241001; clear HO_246001; clear HO_252001; clear HO_274001; clear BK229; clear BK240; clear BK245; clear BK251; clear BK273; clear HB; have HO_241001 := n0_; have HO_246001 := n1_; have HO_252001 := n2_; have HO_274001 := n3_; have BK229 := n4_; have BK240 := n5_; have BK245 := n6_; have BK251 := n7_; have BK273 := n8_; have HB := n9_; clear n0_ n1_ n2_ n3_ n4_ n5_ n6_ n7_ n8_ n9_; (try clear hb); (try clear hb2); (try clear hk); (try clear hi)))
                go_ret
                exact ⟨by first | rfl | (simp [errW_none, errW_some] <;> rfl) | (simp [*, errW_none, errW_some] <;> rfl), by repeat (first | (with_reducible first | exact HB.out | apply below_alloc | apply pw_below_drewN | apply below_drew1 | refine below_set ?_ GE229.out | refine below_set ?_ GE240.out | refine below_set ?_ GE245.out | refine below_set ?_ GE251.out | refine below_set ?_ GE273.out) | exact HB.out)⟩
          ·rw [if_neg c101] at H
           have c101b0 : (t263 == t261) = false := beq_eq_false_iff_ne.mpr c101
           have c101b1 : (t263 != t261) = true := bne_iff_ne.mpr c101
           obtain rfl := Option.some.inj H
           have hnb169 := NB251_229.out
           have hnc169 := NB229_251.out
           have hnb170 := NB251_240.out
           have hnc170 := NB240_251.out
           have hnb171 := NB251_245.out
           have hnc171 := NB245_251.out
           have hcz172_0 : wc.cell? ⟨gb251, 0, none⟩ = some (.int .i64 t246) := (blk_cell BK251.out 0).trans rfl
           have hcz172_1 : wc.cell? ⟨gb251, 1, none⟩ = some (.slice Ao37 t247.length co37) := (blk_cell BK251.out 1).trans rfl
           have hfz172_0 := blk_frozen BK251.out 0
           have hfz172_1 := blk_frozen BK251.out 1
           go_wp2_with (first | ((with_reducible refine gate_callee (f := 27) rfl ?_); refine goesL_ (some 68) rfl rfl Try.func27 (by kernel_rfl) rfl #[.agg #[.int .i64 t246, .slice Ao37 t247.length co37], .int .i64 1] rfl itp ?_; (with_reducible refine (laws_markNet.calls kj60 t246 (fun k_ => some k_ = (.slice Ao37 t247.length co37 : Value).ownBlock) (.slice Ao37 t247.length co37) t247 1 t261 t262 w _ ?side1 ?side2 A91.out).mono ?_); (case side1 => repeat (first | (with_reducible first | exact HB.out | apply below_alloc | apply pw_below_drewN | apply below_drew1 | refine below_set ?_ GE229.out | refine below_set ?_ GE240.out | refine below_set ?_ GE245.out | refine below_set ?_ GE251.out) | exact HB.out)); (case side2 => exact Kd.R_tight rfl HO_252001.out); rintro e w173 ⟨rfl, hy0, hb, hkp⟩; refine ⟨_, rfl, ?_⟩; have n0_ := Aside0.mk (Kd.R_mono (ok' := fun k_ => some k_ ≠ (.slice Ao30 t259.length co30 : Value).ownBlock ∧ some k_ ≠ (.slice Ao37 t247.length co37 : Value).ownBlock) (Kd.R_keptB (HO_241001.out) hkp (fun k_ hk_ hs_ => (hk_.2) hs_)) (fun k_ hk_ => ⟨hk_.1.1, hk_.1.2⟩)); have n1_ := Aside0.mk (Kd.R_mono (ok' := fun k_ => some k_ ≠ (.slice Ao23 t236.length co23 : Value).ownBlock ∧ some k_ ≠ (.slice Ao37 t247.length co37 : Value).ownBlock) (Kd.R_keptB (HO_246001.out) hkp (fun k_ hk_ hs_ => (hk_.2) hs_)) (fun k_ hk_ => ⟨hk_.1.1, hk_.1.2⟩)); have n2_ := Aside0.mk (Kd.R_reok rfl hy0 (fun k_ e_ => HO_252001.out.1 k_ e_)); have n3_ := Aside0.mk (blk_kept (upK BK229) hkp (fun hs_ => (fun e_ => (Kd.R_ne HO_252001.out BK229.out (by decide)) e_) hs_)); have n4_ := Aside0.mk (blk_kept (upK BK240) hkp (fun hs_ => (fun e_ => (Kd.R_ne HO_252001.out BK240.out (by decide)) e_) hs_)); have n5_ := Aside0.mk (blk_kept (upK BK245) hkp (fun hs_ => (fun e_ => (Kd.R_ne HO_252001.out BK245.out (by decide)) e_) hs_)); have n6_ := Aside0.mk (blk_kept (upK BK251) hkp (fun hs_ => (fun e_ => (Kd.R_ne HO_252001.out BK251.out (by decide)) e_) hs_)); have n7_ := Aside0.mk (hb); clear HO_241001; clear HO_246001; clear HO_252001; clear BK229; clear BK240; clear BK245; clear BK251; clear HB; have HO_241001 := n0_; have HO_246001 := n1_; have HO_252001 := n2_; have BK229 := n3_; have BK240 := n4_; have BK245 := n5_; have BK251 := n6_; have HB := n7_; clear n0_ n1_ n2_ n3_ n4_ n5_ n6_ n7_; (try clear hb); (try clear hkp); (try clear hy0); have hcz174_0 : w173.cell? ⟨gb251, 0, none⟩ = some (.int .i64 t246) := (blk_cell BK251.out 0).trans rfl; have hcz174_1 : w173.cell? ⟨gb251, 1, none⟩ = some (.slice Ao37 t247.length co37) := (blk_cell BK251.out 1).trans rfl; have hfz174_0 := blk_frozen BK251.out 0; have hfz174_1 := blk_frozen BK251.out 1) | ((with_reducible refine gate_callee (f := 49) rfl ?_); refine goesL_ (some 71) rfl rfl Try.func49 (by kernel_rfl) rfl #[.agg #[.int .i64 t246, .slice Ao37 t262.length co37], .int .i64 1] rfl (by (try simp only [List.map_toArray, List.map_cons, List.map_nil]); first | done | (rw [show t262.length = t247.length from (Kd.R_reads' HO_252001.out).1.symm] <;> rfl) | rfl | (simp only [List.length_drop, List.length_take]; rfl)) ?_; (with_reducible refine (laws_heldNet.calls kj60 t246 _ _ t262 1 t263 _ ?side1 ?side2 A92.out).mono ?_); (case side1 => repeat (first | exact (Kd.R_reads' HO_252001.out).2.2 | (with_reducible refine Kd.C_alloc ?_ _) | (with_reducible refine Kd.C_drewN ?_ _) | (with_reducible refine Kd.C_drew ?_))); (case side2 => rw [show t262.length = t247.length from (Kd.R_reads' HO_252001.out).1.symm]; exact (Kd.R_reads' HO_252001.out).2.1); rintro e w175 ⟨rfl, hb⟩; refine ⟨_, rfl, ?_⟩; have n0_ := Aside0.mk (Kd.R_below (upR HO_241001) hb); have n1_ := Aside0.mk (Kd.R_below (upR HO_246001) hb); have n2_ := Aside0.mk (Kd.R_below (upR HO_252001) hb); have n3_ := Aside0.mk (blk_below (upK BK229) hb); have n4_ := Aside0.mk (blk_below (upK BK240) hb); have n5_ := Aside0.mk (blk_below (upK BK245) hb); have n6_ := Aside0.mk (blk_below (upK BK251) hb); have n7_ := Aside0.mk (below_step (upW HB) hb); clear HO_241001; clear HO_246001; clear HO_252001; clear BK229; clear BK240; clear BK245; clear BK251; clear HB; have HO_241001 := n0_; have HO_246001 := n1_; have HO_252001 := n2_; have BK229 := n3_; have BK240 := n4_; have BK245 := n5_; have BK251 := n6_; have HB := n7_; clear n0_ n1_ n2_ n3_ n4_ n5_ n6_ n7_; (try clear hb); (try clear hb2); (try clear hk); (try clear hi)))
           go_ret
           exact ⟨by first | rfl | (simp [errW_none, errW_some] <;> rfl) | (simp [*, errW_none, errW_some] <;> rfl), by repeat (first | (with_reducible first | exact HB.out | apply below_alloc | apply pw_below_drewN | apply below_drew1 | refine below_set ?_ GE229.out | refine below_set ?_ GE240.out | refine below_set ?_ GE245.out | refine below_set ?_ GE251.out) | exact HB.out)⟩
     ·replace c59 := Bool.eq_false_iff.mpr c59
      subst c59
      have H1 : (some false) = some r := by rw [if_neg (show ¬ (false = true) by decide)] at H; exact H
      clear H
      have H := H1
      clear H1
      obtain rfl := Option.some.inj H
      try go_wp2
      have n0_ := Aside0.mk (Kd.R_drew HO_241001.out)
      have n1_ := Aside0.mk (Kd.R_drew HO_246001.out)
      have n2_ := Aside0.mk (Kd.R_drew HO_252001.out)
      have n3_ := Aside0.mk (blk_drew BK229.out)
      have n4_ := Aside0.mk (blk_drew BK240.out)
      have n5_ := Aside0.mk (blk_drew BK245.out)
      have n6_ := Aside0.mk (blk_drew BK251.out)
      have n7_ := Aside0.mk (below_drew1 HB.out)
      clear HO_241001
      clear HO_246001
      clear HO_252001
      clear BK229
      clear BK240
      clear BK245
      clear BK251
      clear HB
      have HO_241001 := n0_
      have HO_246001 := n1_
      have HO_252001 := n2_
      have BK229 := n3_
      have BK240 := n4_
      have BK245 := n5_
      have BK251 := n6_
      have HB := n7_
      clear n0_ n1_ n2_ n3_ n4_ n5_ n6_ n7_
      refine start_ (n := 5) (S := fun w' => w'.cell? ⟨gb245, 0, none⟩ = some (.int .i64 t241) ∧ w'.cell? ⟨gb245, 1, none⟩ = some (.slice Ao30 t242.length co30) ∧ w'.cell? ⟨gb229, 0, none⟩ = some (.int .i64 a0_0) ∧ w'.cell? ⟨gb229, 1, none⟩ = some (.slice A0_1 l0_1.length c0_1)) (ds := []) #[false, false, false, false, false] (by kernel_rfl) rfl rfl ⟨(blk_cell BK245.out 0).trans rfl, (blk_cell BK245.out 1).trans rfl, (blk_cell BK229.out 0).trans rfl, (blk_cell BK229.out 1).trans rfl⟩ (fun hHeld => ?_)
      generalize wc.drew = w176 at HO_241001 HO_246001 HO_252001 BK229 BK240 BK245 BK251 HB hHeld ⊢
      refine take_ (i := 0) (N := some 45) (v := ?_) (a' := ?_) #[true, false, false, false, false] rfl rfl (by kernel_rfl) (fun _ _ _ h => h) (Or.inl ⟨by rfl, ?_⟩) hHeld ?_ ?_
      rotate_left
      ·rintro w' ⟨s0, s1, s2, s3⟩
       go_simp
       with_reducible rfl
      rotate_left
      ·simp only [Act.put, List.setIfInBounds_toArray, List.set_cons_zero, List.set_cons_succ, i64_w, i32_w]
       rfl
      refine take_ (i := 1) (N := some 46) (v := ?_) (a' := ?_) #[true, true, false, false, false] rfl rfl (by kernel_rfl) (fun _ _ _ h => h) (Or.inl ⟨by rfl, ?_⟩) hHeld ?_ ?_
      rotate_left
      ·rintro w' ⟨s0, s1, s2, s3⟩
       go_simp
       with_reducible rfl
      rotate_left
      ·simp only [Act.put, List.setIfInBounds_toArray, List.set_cons_zero, List.set_cons_succ, i64_w, i32_w]
       rfl
      refine one_ (i := 2) (N := some 47) #[true, true, true, false, false] rfl rfl (by kernel_rfl) (by decide) (fun K hK => ?_)
      refine goes_ Try.func17 (by kernel_rfl) rfl #[.agg #[.int .i64 a0_0, .slice A0_1 l0_1.length c0_1]] (by rfl) rfl rfl itp ?_
      with_reducible refine (laws_toNet.calls kj11 a0_0 _ _ l0_1 t253 t254 _ ?side1 ?side2 A57.out).mono ?_
      (case side1 => repeat (first | exact (Kd.C_below HR0_1.out HB.out) | (with_reducible refine Kd.C_alloc ?_ _) | (with_reducible refine Kd.C_drewN ?_ _) | (with_reducible refine Kd.C_drew ?_)))
      (case side2 => exact HC0_1.out)
      rintro e w177 ⟨v255, rfl, ho0, hb⟩
      refine ⟨_, rfl, ?_⟩
      have n0_ := Aside0.mk (Kd.R_elder' (upR HO_241001) (Kd.R_base ho0) hb)
      have n1_ := Aside0.mk (Kd.R_elder' (upR HO_246001) (Kd.R_base ho0) hb)
      have n2_ := Aside0.mk (Kd.R_elder' (upR HO_252001) (Kd.R_base ho0) hb)
      have n3_ := Aside0.mk (Kd.R_lower (Kd.R_new' (Kd.R_new' (Kd.R_new' ho0 (Kd.R_lt (upR HO_241001))) (Kd.R_lt (upR HO_246001))) (Kd.R_lt (upR HO_252001))) (below_size (upW HB)))
      have n4_ := Aside0.mk (blk_below (upK BK229) hb)
      have n5_ := Aside0.mk (blk_below (upK BK240) hb)
      have n6_ := Aside0.mk (blk_below (upK BK245) hb)
      have n7_ := Aside0.mk (blk_below (upK BK251) hb)
      have n8_ := Aside0.mk (below_step (upW HB) hb)
      clear HO_241001
      clear HO_246001
      clear HO_252001
      clear BK229
      clear BK240
      clear BK245
      clear BK251
      clear HB
      have HO_241001 := n0_
      have HO_246001 := n1_
      have HO_252001 := n2_
      have HO256 := n3_
      have BK229 := n4_
      have BK240 := n5_
      have BK245 := n6_
      have BK251 := n7_
      have HB := n8_
      clear n0_ n1_ n2_ n3_ n4_ n5_ n6_ n7_ n8_
      (try clear hb)
      (try clear hb2)
      (try clear hk)
      (try clear hi)
      (try clear ho0)
      obtain ⟨Ao178, co178, eo178⟩ := Kd.R_slice HO256.out
      (first | subst eo178 | (injection eo178 with f1_ f2_ f3_; have f4_ := f1_.symm; have f5_ := f3_.symm; clear f1_ f2_ f3_; subst f4_; subst f5_))
      refine hK.out _ _ ⟨(blk_cell BK245.out 0).trans rfl, (blk_cell BK245.out 1).trans rfl, (blk_cell BK229.out 0).trans rfl, (blk_cell BK229.out 1).trans rfl⟩ (fun hHeld => ?_)
      clear hK K
      refine norm_ (a' := ?_) ?_ ?_
      rotate_left
      ·show Act.put _ (some 47) _ = _
       simp only [Act.put, List.setIfInBounds_toArray, List.set_cons_zero, List.set_cons_succ, i64_w, i32_w]
       rfl
      refine one_ (i := 3) (N := some 48) #[true, true, true, true, false] rfl rfl (by kernel_rfl) (by decide) (fun K hK => ?_)
      refine goes_ Try.func19 (by kernel_rfl) rfl #[.agg #[.int .i64 t241, .slice Ao30 t242.length co30], .agg #[.int .i64 t253, .slice Ao178 t254.length co178]] (by rfl) rfl rfl itp ?_
      with_reducible refine (laws_eqNet.calls kj11 t241 _ _ t242 t253 _ _ t254 false _ ?side1 ?side2 ?side3 ?side4 A58.out).mono ?_
      (case side1 => repeat (first | exact (Kd.R_reads' HO_246001.out).2.2 | (with_reducible refine Kd.C_alloc ?_ _) | (with_reducible refine Kd.C_drewN ?_ _) | (with_reducible refine Kd.C_drew ?_)))
      (case side2 => exact (Kd.R_reads' HO_246001.out).2.1)
      (case side3 => repeat (first | exact (Kd.R_reads' HO256.out).2.2 | (with_reducible refine Kd.C_alloc ?_ _) | (with_reducible refine Kd.C_drewN ?_ _) | (with_reducible refine Kd.C_drew ?_)))
      (case side4 => exact (Kd.R_reads' HO256.out).2.1)
      rintro e w179 ⟨rfl, hb⟩
      refine ⟨_, rfl, ?_⟩
      have n0_ := Aside0.mk (Kd.R_below (upR HO_241001) hb)
      have n1_ := Aside0.mk (Kd.R_below (upR HO_246001) hb)
      have n2_ := Aside0.mk (Kd.R_below (upR HO_252001) hb)
      have n3_ := Aside0.mk (Kd.R_below (upR HO256) hb)
      have n4_ := Aside0.mk (blk_below (upK BK229) hb)
      have n5_ := Aside0.mk (blk_below (upK BK240) hb)
      have n6_ := Aside0.mk (blk_below (upK BK245) hb)
      have n7_ := Aside0.mk (blk_below (upK BK251) hb)
      have n8_ := Aside0.mk (below_step (upW HB) hb)
      clear HO_241001
      clear HO_246001
      clear HO_252001
      clear HO256
      clear BK229
      clear BK240
      clear BK245
      clear BK251
      clear HB
      have HO_241001 := n0_
      have HO_246001 := n1_
      have HO_252001 := n2_
      have HO256 := n3_
      have BK229 := n4_
      have BK240 := n5_
      have BK245 := n6_
      have BK251 := n7_
      have HB := n8_
      clear n0_ n1_ n2_ n3_ n4_ n5_ n6_ n7_ n8_
      (try clear hb)
      (try clear hb2)
      (try clear hk)
      (try clear hi)
      refine hK.out _ _ ⟨(blk_cell BK245.out 0).trans rfl, (blk_cell BK245.out 1).trans rfl, (blk_cell BK229.out 0).trans rfl, (blk_cell BK229.out 1).trans rfl⟩ (fun hHeld => ?_)
      clear hK K
      refine norm_ (a' := ?_) ?_ ?_
      rotate_left
      ·show Act.put _ (some 48) _ = _
       simp only [Act.put, List.setIfInBounds_toArray, List.set_cons_zero, List.set_cons_succ, i64_w, i32_w]
       rfl
      refine pure_ (i := 4) (N := some 49) (v := ?_) (a' := ?_) #[true, true, true, true, true] rfl rfl (by kernel_rfl) (fun _ _ _ h => h) (Or.inl ⟨by rfl, ?_⟩) ?_ ?_
      rotate_left
      ·intro w'
       go_simp
       with_reducible rfl
      rotate_left
      ·simp only [Act.put, List.setIfInBounds_toArray, List.set_cons_zero, List.set_cons_succ, i64_w, i32_w]
       rfl
      refine done_ (by kernel_rfl) ?_
      try go_wp2
      go_ret
      exact ⟨by first | rfl | (simp [errW_none, errW_some] <;> rfl) | (simp [*, errW_none, errW_some] <;> rfl), by repeat (first | (with_reducible first | exact HB.out | apply below_alloc | apply pw_below_drewN | apply below_drew1 | refine below_set ?_ GE229.out | refine below_set ?_ GE240.out | refine below_set ?_ GE245.out | refine below_set ?_ GE251.out) | exact HB.out)⟩

/-- THE ONE PURE STATEMENT of laws_FnExactDropWire. -/
def laws_FnExactDropWire.Pure : Prop := ∀ (a0_0 : Int) (l0_1 : List (S94)) (a1 : Int), (Lit.int .i64 a0_0).wf = true → l0_1.length ≤ maxLen → (∀ q ∈ l0_1, ((Lit.int .i64 q.f0).wf = true) ∧ ((Lit.int .i64 q.f1).wf = true)) → (Lit.int .i64 a1).wf = true → ∃ k, laws_FnExactDropWire.f k a0_0 l0_1 a1 = some true
theorem laws_FnExactDropWire.walk (P : laws_FnExactDropWire.Pure) (a0_0 : Int) (A0_1 : Option Addr) (c0_1 : Nat) (l0_1 : List (S94)) (a1 : Int) (w : World) (hr0_1 : Kd.C k94 w A0_1 l0_1.length l0_1) (hc0_1 : l0_1.length ≤ c0_1) (w0_ : (Lit.int .i64 a0_0).wf = true) (w1_ : l0_1.length ≤ maxLen) (w2_ : (∀ q ∈ l0_1, ((Lit.int .i64 q.f0).wf = true) ∧ ((Lit.int .i64 q.f1).wf = true))) (w3_ : (Lit.int .i64 a1).wf = true) :
  Calls Try.prog 13 #[.agg #[.int .i64 a0_0, .slice A0_1 l0_1.length c0_1], .int .i64 a1] w fun e w' => e = .returned (.bool true) ∧ Below w.heap.size w w' := by
 obtain ⟨k, h⟩ := P a0_0 l0_1 a1 w0_ w1_ w2_ w3_
 refine (laws_FnExactDropWire.calls k a0_0 _ _ l0_1 a1 true w hr0_1 hc0_1 h).mono ?_
 rintro e w' ⟨rfl, hd⟩
 exact ⟨rfl, hd⟩

end Go.Proofs.Ytngbmjldnfljiaa.PFnExactDropWire
