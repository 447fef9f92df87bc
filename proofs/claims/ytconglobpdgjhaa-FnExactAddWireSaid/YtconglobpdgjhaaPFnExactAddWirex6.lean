-- made for this claim by a program of this session
import Derived.Test.YtconglobpdgjhaaPFnExactAddWirex0
import Derived.Test.YtconglobpdgjhaaPFnExactAddWirex1
import Derived.Test.YtconglobpdgjhaaPFnExactAddWirex2
import Derived.Test.YtconglobpdgjhaaPFnExactAddWirex3
import Derived.Test.YtconglobpdgjhaaPFnExactAddWirex5
namespace Go.Proofs.Ytconglobpdgjhaa.PFnExactAddWire
open Go.RowKit Go.Proofs.YtconglobpdgjhaaW.PrintWords Go.Proofs.YtconglobpdgjhaaW.PrintLast Go.Proofs.YtconglobpdgjhaaW.PrintMore
attribute [local go_sem] max2_int min2_int max_two min_two max_three min_three max_four min_four   -- for this text's walks alone
set_option linter.unusedVariables false
set_option linter.unusedSimpArgs false

/-! ### laws_FnExactAddWire: function 8 -/
mutual
def laws_FnExactAddWire.j0 : Nat → Bool → Bool → Bool → Int → List (S53) → Int → Int → Int → List (S55) → Int → List (S55) → Int → List (S55) → Option (Bool)
 | 0, _, _, _, _, _, _, _, _, _, _, _, _, _ => none
 | k + 1, x7, x10, x46, x227000, x227001, x228000, x228001, x241000, x241001, x246000, x246001, x254000, x254001 => if x46 = true then (some false) else ((laws_toNet.f k x227000 x227001).bind fun bt255 => ((laws_eqNet.f k x246000 x246001 bt255.1 bt255.2).bind fun t259 => (if t259 = true then ((laws_markNet.f k x246000 x246001 1).bind fun bt260 => (if bt260.1 < 0 then (laws_FnExactAddWire.j1 k x7 true x227000 x227001 x228000 x228001 x241000 x241001 x254000 x254001) else ((laws_eqNet.f k x254000 x254001 x241000 x241001).bind fun t262 => (if t262 = true then (laws_FnExactAddWire.j1 k x7 (x10 != x7) x227000 x227001 x228000 x228001 x241000 x241001 x254000 x254001) else (laws_FnExactAddWire.j1 k x7 true x227000 x227001 x228000 x228001 x241000 x241001 x254000 x254001))))) else (some false))))
def laws_FnExactAddWire.j1 : Nat → Bool → Bool → Int → List (S53) → Int → Int → Int → List (S55) → Int → List (S55) → Option (Bool)
 | 0, _, _, _, _, _, _, _, _, _, _ => none
 | k + 1, x7, x67, x227000, x227001, x228000, x228001, x241000, x241001, x254000, x254001 => if x67 = true then (some false) else ((laws_markNet.f k x254000 x254001 1).bind fun bt263 => ((laws_heldNet.f k x254000 bt263.2 1).bind fun t265 => (if t265 < 0 then (some false) else (if t265 = bt263.1 then ((laws_toNet.f k x227000 x227001).bind fun bt266 => ((laws_toWire.f x228000 x228001).bind fun bt270 => ((impl_AddWire.f k bt266.1 bt266.2 bt270.1 bt270.2).bind fun bt272 => ((laws_eqNet.f k bt272.1 bt272.2.1 x241000 x241001).bind fun t278 => (if t278 = true then (laws_FnExactAddWire.j2 k bt263.1 (bt272.2.2 != x7) x254000 bt263.2) else (laws_FnExactAddWire.j2 k bt263.1 true x254000 bt263.2)))))) else (some false)))))
def laws_FnExactAddWire.j2 : Nat → Int → Bool → Int → List (S55) → Option (Bool)
 | 0, _, _, _, _ => none
 | k + 1, x12, x95, x254000, x254001 => if x95 = true then (some false) else ((laws_heldNet.f k x254000 x254001 1).bind fun t279 => (if t279 < 0 then (some false) else (if t279 = x12 then (some true) else (some false))))
end
def laws_FnExactAddWire.f (k : Nat) (a0_0 : Int) (l0_1 : List (S53)) (a1_0 : Int) (a1_1 : Int) : Option (Bool) := (laws_szNet.f a0_0 l0_1 1048576).bind fun t228 => (if t228 < 0 then (some true) else ((laws_toNet.f k a0_0 l0_1).bind fun bt229 => ((laws_toWire.f a1_0 a1_1).bind fun bt233 => ((spec_AddWire.f k bt229.1 bt229.2 bt233.1 bt233.2).bind fun bt235 => ((laws_toNet.f k a0_0 l0_1).bind fun bt241 => ((laws_toWire.f a1_0 a1_1).bind fun bt246 => ((impl_AddWire.f k bt241.1 bt241.2 bt246.1 bt246.2).bind fun bt248 => ((laws_eqNet.f k bt248.1 bt248.2.1 bt235.1 bt235.2.1).bind fun t254 => (if t254 = true then (laws_FnExactAddWire.j0 k bt235.2.2 bt248.2.2 (bt248.2.2 != bt235.2.2) a0_0 l0_1 a1_0 a1_1 bt235.1 bt235.2.1 bt241.1 bt241.2 bt248.1 bt248.2.1) else (laws_FnExactAddWire.j0 k bt235.2.2 bt248.2.2 true a0_0 l0_1 a1_0 a1_1 bt235.1 bt235.2.1 bt241.1 bt241.2 bt248.1 bt248.2.1))))))))))
def laws_FnExactAddWire.T5 : Bool × List (List Nat × List Nat) := (true, [([], []), ([0], [0]), ([], []), ([2, 1], [2]), ([1, 3, 3], [1, 3]), ([4], [4]), ([5], [5]), ([5], [5]), ([], []), ([8, 6, 4, 0, 1, 2, 3, 4, 5, 6, 8], [6, 8]), ([7, 9, 0, 1, 2, 3, 4, 5, 6, 7, 8, 9], [7])])
def laws_FnExactAddWire.B5 : List Nat := [0, 1, 0, 7, 15, 31, 63, 63, 0, 383, 1023]
theorem laws_FnExactAddWire.tab5 : rtab .any (opsOf Try.f8 5) = laws_FnExactAddWire.T5 := by kernel_rfl
theorem laws_FnExactAddWire.bits5 : waitsOk laws_FnExactAddWire.T5.2 laws_FnExactAddWire.B5 = true := by kernel_rfl
def laws_FnExactAddWire.T7 : Bool × List (List Nat × List Nat) := (true, [([], []), ([], []), ([1], [1]), ([0, 2, 2], [0, 2]), ([3], [3]), ([4], [4]), ([4], [4]), ([], []), ([7, 5, 3, 0, 1, 2, 3, 4, 5, 7], [5, 7]), ([6, 8, 0, 1, 2, 3, 4, 5, 6, 7, 8], [6])])
def laws_FnExactAddWire.B7 : List Nat := [0, 0, 2, 7, 15, 31, 31, 0, 191, 511]
theorem laws_FnExactAddWire.tab7 : rtab .any (opsOf Try.f8 7) = laws_FnExactAddWire.T7 := by kernel_rfl
theorem laws_FnExactAddWire.bits7 : waitsOk laws_FnExactAddWire.T7.2 laws_FnExactAddWire.B7 = true := by kernel_rfl
def laws_FnExactAddWire.T24 : Bool × List (List Nat × List Nat) := (true, [([], []), ([0], [0]), ([], []), ([2, 1], [2]), ([1, 3, 3], [1, 3]), ([4], [4]), ([5], [5]), ([5], [5]), ([], []), ([8, 6, 4, 0, 1, 2, 3, 4, 5, 6, 8], [6, 8]), ([7, 9, 0, 1, 2, 3, 4, 5, 6, 7, 8, 9], [7])])
def laws_FnExactAddWire.B24 : List Nat := [0, 1, 0, 7, 15, 31, 63, 63, 0, 383, 1023]
theorem laws_FnExactAddWire.tab24 : rtab .any (opsOf Try.f8 24) = laws_FnExactAddWire.T24 := by kernel_rfl
theorem laws_FnExactAddWire.bits24 : waitsOk laws_FnExactAddWire.T24.2 laws_FnExactAddWire.B24 = true := by kernel_rfl
set_option maxHeartbeats 8000000 in
set_option maxRecDepth 100000 in
theorem laws_FnExactAddWire.calls (k : Nat) (a0_0 : Int) (A0_1 : Option Addr) (c0_1 : Nat) (l0_1 : List (S53)) (a1_0 : Int) (a1_1 : Int) (r : Bool) (w : World) (hr0_1 : Kd.C k53 w A0_1 l0_1.length l0_1) (hc0_1 : l0_1.length ≤ c0_1) (h : laws_FnExactAddWire.f k a0_0 l0_1 a1_0 a1_1 = some r) :
  Calls Try.prog 8 #[.agg #[.int .i64 a0_0, .slice A0_1 l0_1.length c0_1], .agg #[.int .i64 a1_0, .int .i64 a1_1]] w fun e w' => e = .returned (.bool r) ∧ Below w.heap.size w w' := by
 have hu35 := Try.underlying35
 have hu53 := Try.underlying53
 have hu40 := Try.underlying40
 have HR0_1 := Aside0.mk hr0_1
 have HC0_1 := Aside0.mk hc0_1
 clear hr0_1 hc0_1
 have HB := Aside0.mk (Below.refl w.heap.size w)
 have H : ((laws_szNet.f a0_0 l0_1 1048576).bind fun t228 => (if t228 < 0 then (some true) else ((laws_toNet.f k a0_0 l0_1).bind fun bt229 => ((laws_toWire.f a1_0 a1_1).bind fun bt233 => ((spec_AddWire.f k bt229.1 bt229.2 bt233.1 bt233.2).bind fun bt235 => ((laws_toNet.f k a0_0 l0_1).bind fun bt241 => ((laws_toWire.f a1_0 a1_1).bind fun bt246 => ((impl_AddWire.f k bt241.1 bt241.2 bt246.1 bt246.2).bind fun bt248 => ((laws_eqNet.f k bt248.1 bt248.2.1 bt235.1 bt235.2.1).bind fun t254 => (if t254 = true then (laws_FnExactAddWire.j0 k bt235.2.2 bt248.2.2 (bt248.2.2 != bt235.2.2) a0_0 l0_1 a1_0 a1_1 bt235.1 bt235.2.1 bt241.1 bt241.2 bt248.1 bt248.2.1) else (laws_FnExactAddWire.j0 k bt235.2.2 bt248.2.2 true a0_0 l0_1 a1_0 a1_1 bt235.1 bt235.2.1 bt241.1 bt241.2 bt248.1 bt248.2.1))))))))))) = some r := h
 clear h
 replace H := Option.bind_eq_some_iff.mp H
 obtain ⟨t228, A30, H⟩ := H
 replace H : (if t228 < 0 then (some true) else ((laws_toNet.f k a0_0 l0_1).bind fun bt229 => ((laws_toWire.f a1_0 a1_1).bind fun bt233 => ((spec_AddWire.f k bt229.1 bt229.2 bt233.1 bt233.2).bind fun bt235 => ((laws_toNet.f k a0_0 l0_1).bind fun bt241 => ((laws_toWire.f a1_0 a1_1).bind fun bt246 => ((impl_AddWire.f k bt241.1 bt241.2 bt246.1 bt246.2).bind fun bt248 => ((laws_eqNet.f k bt248.1 bt248.2.1 bt235.1 bt235.2.1).bind fun t254 => (if t254 = true then (laws_FnExactAddWire.j0 k bt235.2.2 bt248.2.2 (bt248.2.2 != bt235.2.2) a0_0 l0_1 a1_0 a1_1 bt235.1 bt235.2.1 bt241.1 bt241.2 bt248.1 bt248.2.1) else (laws_FnExactAddWire.j0 k bt235.2.2 bt248.2.2 true a0_0 l0_1 a1_0 a1_1 bt235.1 bt235.2.1 bt241.1 bt241.2 bt248.1 bt248.2.1)))))))))) = some r := H
 have A3 := Aside0.mk A30
 clear A30
 by_cases c4 : t228 < 0
 ·rw [if_pos c4] at H
  have c4b0 : decide (t228 < 0) = true := decide_eq_true c4
  clear c4
  obtain rfl := Option.some.inj H
  go_enter Try.func8, Try.ntmps8
  go_wp2_with (first | ((with_reducible refine gate_dst (N := 2) rfl ?_); refine box_event ?hg (N := 2) ?hd (cs := #[.int .i64 a0_0, .slice A0_1 l0_1.length c0_1]) (t := 35) ?hr ?_; (case hd => rfl); (case hg => rfl); (case hr => first | (go_simp; done) | (go_simp; rfl)); intro gb226 hg w5 hbox hb; have n0_ := Aside0.mk (below_step (upW HB) hb); have n1_ := Aside0.mk (hbox); have n2_ := Aside0.mk ((by rw [hg]; exact (below_size (upW HB)) : w.heap.size ≤ gb226)); have n3_ := Aside0.mk ((by rw [hg]; exact (below_size (upW HB)) : w.heap.size ≤ gb226)); clear HB; have HB := n0_; have BK226 := n1_; have GW226 := n2_; have GE226 := n3_; clear n0_ n1_ n2_ n3_; clear hb hbox hg) | ((with_reducible refine gate_dst (N := 3) rfl ?_); refine box_event ?hg (N := 3) ?hd (cs := #[.int .i64 a1_0, .int .i64 a1_1]) (t := 53) ?hr ?_; (case hd => rfl); (case hg => rfl); (case hr => first | (go_simp; done) | (go_simp; rfl)); intro gb227 hg w6 hbox hb; have n0_ := Aside0.mk (blk_below (upK BK226) hb); have n1_ := Aside0.mk (below_step (upW HB) hb); have n2_ := Aside0.mk (hbox); have n3_ := Aside0.mk ((by rw [hg]; exact (below_size (upW HB)) : w.heap.size ≤ gb227)); have n4_ := Aside0.mk ((by rw [hg]; exact (below_size (upW HB)) : w.heap.size ≤ gb227)); have n5_ := Aside0.mk ((by rw [hg]; exact Nat.ne_of_lt (blk_lt (upK BK226)) : gb226 ≠ gb227)); have n6_ := Aside0.mk ((by rw [hg]; exact Nat.ne_of_gt (blk_lt (upK BK226)) : gb227 ≠ gb226)); clear BK226; clear HB; have BK226 := n0_; have HB := n1_; have BK227 := n2_; have GW227 := n3_; have GE227 := n4_; have NB226_227 := n5_; have NB227_226 := n6_; clear n0_ n1_ n2_ n3_ n4_ n5_ n6_; clear hb hbox hg; have hnb7 := NB226_227.out; have hnc7 := NB227_226.out; have hcz8_0 : w6.cell? ⟨gb226, 0, none⟩ = some (.int .i64 a0_0) := (blk_cell BK226.out 0).trans rfl; have hcz8_1 : w6.cell? ⟨gb226, 1, none⟩ = some (.slice A0_1 l0_1.length c0_1) := (blk_cell BK226.out 1).trans rfl; have hfz8_0 := blk_frozen BK226.out 0; have hfz8_1 := blk_frozen BK226.out 1) | ((with_reducible refine gate_callee (f := 18) rfl ?_); refine goesL_ (some 18) rfl rfl Try.func18 (by kernel_rfl) rfl #[.agg #[.int .i64 a0_0, .slice A0_1 l0_1.length c0_1], .int .i64 1048576] rfl itp ?_; (with_reducible refine (laws_szNet.calls a0_0 _ _ l0_1 1048576 t228 _ ?side1 ?side2 A3.out).mono ?_); (case side1 => repeat (first | exact (Kd.C_below HR0_1.out HB.out) | (with_reducible refine Kd.C_alloc ?_ _) | (with_reducible refine Kd.C_drewN ?_ _) | (with_reducible refine Kd.C_drew ?_))); (case side2 => exact HC0_1.out); rintro e w9 ⟨rfl, hb⟩; refine ⟨_, rfl, ?_⟩; have n0_ := Aside0.mk (blk_below (upK BK226) hb); have n1_ := Aside0.mk (blk_below (upK BK227) hb); have n2_ := Aside0.mk (below_step (upW HB) hb); clear BK226; clear BK227; clear HB; have BK226 := n0_; have BK227 := n1_; have HB := n2_; clear n0_ n1_ n2_; (try clear hb); (try clear hb2); (try clear hk); (try clear hi)))
  go_ret
  exact ⟨by first | rfl | (simp [errW_none, errW_some] <;> rfl) | (simp [*, errW_none, errW_some] <;> rfl), by repeat (first | (with_reducible first | exact HB.out | apply below_alloc | apply pw_below_drewN | apply below_drew1 | refine below_set ?_ GE226.out | refine below_set ?_ GE227.out) | exact HB.out)⟩
 ·rw [if_neg c4] at H
  have c4b0 : decide (t228 < 0) = false := decide_eq_false c4
  clear c4
  replace H := Option.bind_eq_some_iff.mp H
  obtain ⟨⟨t229, t230⟩, A100, H⟩ := H
  replace H : ((laws_toWire.f a1_0 a1_1).bind fun bt233 => ((spec_AddWire.f k t229 t230 bt233.1 bt233.2).bind fun bt235 => ((laws_toNet.f k a0_0 l0_1).bind fun bt241 => ((laws_toWire.f a1_0 a1_1).bind fun bt246 => ((impl_AddWire.f k bt241.1 bt241.2 bt246.1 bt246.2).bind fun bt248 => ((laws_eqNet.f k bt248.1 bt248.2.1 bt235.1 bt235.2.1).bind fun t254 => (if t254 = true then (laws_FnExactAddWire.j0 k bt235.2.2 bt248.2.2 (bt248.2.2 != bt235.2.2) a0_0 l0_1 a1_0 a1_1 bt235.1 bt235.2.1 bt241.1 bt241.2 bt248.1 bt248.2.1) else (laws_FnExactAddWire.j0 k bt235.2.2 bt248.2.2 true a0_0 l0_1 a1_0 a1_1 bt235.1 bt235.2.1 bt241.1 bt241.2 bt248.1 bt248.2.1)))))))) = some r := H
  have A10 := Aside0.mk A100
  clear A100
  replace H := Option.bind_eq_some_iff.mp H
  obtain ⟨⟨t233, t234⟩, A110, H⟩ := H
  replace H : ((spec_AddWire.f k t229 t230 t233 t234).bind fun bt235 => ((laws_toNet.f k a0_0 l0_1).bind fun bt241 => ((laws_toWire.f a1_0 a1_1).bind fun bt246 => ((impl_AddWire.f k bt241.1 bt241.2 bt246.1 bt246.2).bind fun bt248 => ((laws_eqNet.f k bt248.1 bt248.2.1 bt235.1 bt235.2.1).bind fun t254 => (if t254 = true then (laws_FnExactAddWire.j0 k bt235.2.2 bt248.2.2 (bt248.2.2 != bt235.2.2) a0_0 l0_1 a1_0 a1_1 bt235.1 bt235.2.1 bt241.1 bt241.2 bt248.1 bt248.2.1) else (laws_FnExactAddWire.j0 k bt235.2.2 bt248.2.2 true a0_0 l0_1 a1_0 a1_1 bt235.1 bt235.2.1 bt241.1 bt241.2 bt248.1 bt248.2.1))))))) = some r := H
  have A11 := Aside0.mk A110
  clear A110
  replace H := Option.bind_eq_some_iff.mp H
  obtain ⟨⟨t235, t236, t239⟩, A120, H⟩ := H
  replace H : ((laws_toNet.f k a0_0 l0_1).bind fun bt241 => ((laws_toWire.f a1_0 a1_1).bind fun bt246 => ((impl_AddWire.f k bt241.1 bt241.2 bt246.1 bt246.2).bind fun bt248 => ((laws_eqNet.f k bt248.1 bt248.2.1 t235 t236).bind fun t254 => (if t254 = true then (laws_FnExactAddWire.j0 k t239 bt248.2.2 (bt248.2.2 != t239) a0_0 l0_1 a1_0 a1_1 t235 t236 bt241.1 bt241.2 bt248.1 bt248.2.1) else (laws_FnExactAddWire.j0 k t239 bt248.2.2 true a0_0 l0_1 a1_0 a1_1 t235 t236 bt241.1 bt241.2 bt248.1 bt248.2.1)))))) = some r := H
  have A12 := Aside0.mk A120
  clear A120
  replace H := Option.bind_eq_some_iff.mp H
  obtain ⟨⟨t241, t242⟩, A130, H⟩ := H
  replace H : ((laws_toWire.f a1_0 a1_1).bind fun bt246 => ((impl_AddWire.f k t241 t242 bt246.1 bt246.2).bind fun bt248 => ((laws_eqNet.f k bt248.1 bt248.2.1 t235 t236).bind fun t254 => (if t254 = true then (laws_FnExactAddWire.j0 k t239 bt248.2.2 (bt248.2.2 != t239) a0_0 l0_1 a1_0 a1_1 t235 t236 t241 t242 bt248.1 bt248.2.1) else (laws_FnExactAddWire.j0 k t239 bt248.2.2 true a0_0 l0_1 a1_0 a1_1 t235 t236 t241 t242 bt248.1 bt248.2.1))))) = some r := H
  have A13 := Aside0.mk A130
  clear A130
  replace H := Option.bind_eq_some_iff.mp H
  obtain ⟨⟨t246, t247⟩, A140, H⟩ := H
  replace H : ((impl_AddWire.f k t241 t242 t246 t247).bind fun bt248 => ((laws_eqNet.f k bt248.1 bt248.2.1 t235 t236).bind fun t254 => (if t254 = true then (laws_FnExactAddWire.j0 k t239 bt248.2.2 (bt248.2.2 != t239) a0_0 l0_1 a1_0 a1_1 t235 t236 t241 t242 bt248.1 bt248.2.1) else (laws_FnExactAddWire.j0 k t239 bt248.2.2 true a0_0 l0_1 a1_0 a1_1 t235 t236 t241 t242 bt248.1 bt248.2.1)))) = some r := H
  have A14 := Aside0.mk A140
  clear A140
  replace H := Option.bind_eq_some_iff.mp H
  obtain ⟨⟨t248, t249, t252⟩, A150, H⟩ := H
  replace H : ((laws_eqNet.f k t248 t249 t235 t236).bind fun t254 => (if t254 = true then (laws_FnExactAddWire.j0 k t239 t252 (t252 != t239) a0_0 l0_1 a1_0 a1_1 t235 t236 t241 t242 t248 t249) else (laws_FnExactAddWire.j0 k t239 t252 true a0_0 l0_1 a1_0 a1_1 t235 t236 t241 t242 t248 t249))) = some r := H
  have A15 := Aside0.mk A150
  clear A150
  have HC16 := Aside0.mk H
  clear H
  go_enter Try.func8, Try.ntmps8
  try go_wp2_with (first | ((with_reducible refine gate_dst (N := 2) rfl ?_); refine box_event ?hg (N := 2) ?hd (cs := #[.int .i64 a0_0, .slice A0_1 l0_1.length c0_1]) (t := 35) ?hr ?_; (case hd => rfl); (case hg => rfl); (case hr => first | (go_simp; done) | (go_simp; rfl)); intro gb226 hg w17 hbox hb; have n0_ := Aside0.mk (below_step (upW HB) hb); have n1_ := Aside0.mk (hbox); have n2_ := Aside0.mk ((by rw [hg]; exact (below_size (upW HB)) : w.heap.size ≤ gb226)); have n3_ := Aside0.mk ((by rw [hg]; exact (below_size (upW HB)) : w.heap.size ≤ gb226)); clear HB; have HB := n0_; have BK226 := n1_; have GW226 := n2_; have GE226 := n3_; clear n0_ n1_ n2_ n3_; clear hb hbox hg) | ((with_reducible refine gate_dst (N := 3) rfl ?_); refine box_event ?hg (N := 3) ?hd (cs := #[.int .i64 a1_0, .int .i64 a1_1]) (t := 53) ?hr ?_; (case hd => rfl); (case hg => rfl); (case hr => first | (go_simp; done) | (go_simp; rfl)); intro gb227 hg w18 hbox hb; have n0_ := Aside0.mk (blk_below (upK BK226) hb); have n1_ := Aside0.mk (below_step (upW HB) hb); have n2_ := Aside0.mk (hbox); have n3_ := Aside0.mk ((by rw [hg]; exact (below_size (upW HB)) : w.heap.size ≤ gb227)); have n4_ := Aside0.mk ((by rw [hg]; exact (below_size (upW HB)) : w.heap.size ≤ gb227)); have n5_ := Aside0.mk ((by rw [hg]; exact Nat.ne_of_lt (blk_lt (upK BK226)) : gb226 ≠ gb227)); have n6_ := Aside0.mk ((by rw [hg]; exact Nat.ne_of_gt (blk_lt (upK BK226)) : gb227 ≠ gb226)); clear BK226; clear HB; have BK226 := n0_; have HB := n1_; have BK227 := n2_; have GW227 := n3_; have GE227 := n4_; have NB226_227 := n5_; have NB227_226 := n6_; clear n0_ n1_ n2_ n3_ n4_ n5_ n6_; clear hb hbox hg; have hnb19 := NB226_227.out; have hnc19 := NB227_226.out; have hcz20_0 : w18.cell? ⟨gb226, 0, none⟩ = some (.int .i64 a0_0) := (blk_cell BK226.out 0).trans rfl; have hcz20_1 : w18.cell? ⟨gb226, 1, none⟩ = some (.slice A0_1 l0_1.length c0_1) := (blk_cell BK226.out 1).trans rfl; have hfz20_0 := blk_frozen BK226.out 0; have hfz20_1 := blk_frozen BK226.out 1) | ((with_reducible refine gate_callee (f := 18) rfl ?_); refine goesL_ (some 18) rfl rfl Try.func18 (by kernel_rfl) rfl #[.agg #[.int .i64 a0_0, .slice A0_1 l0_1.length c0_1], .int .i64 1048576] rfl itp ?_; (with_reducible refine (laws_szNet.calls a0_0 _ _ l0_1 1048576 t228 _ ?side1 ?side2 A3.out).mono ?_); (case side1 => repeat (first | exact (Kd.C_below HR0_1.out HB.out) | (with_reducible refine Kd.C_alloc ?_ _) | (with_reducible refine Kd.C_drewN ?_ _) | (with_reducible refine Kd.C_drew ?_))); (case side2 => exact HC0_1.out); rintro e w21 ⟨rfl, hb⟩; refine ⟨_, rfl, ?_⟩; have n0_ := Aside0.mk (blk_below (upK BK226) hb); have n1_ := Aside0.mk (blk_below (upK BK227) hb); have n2_ := Aside0.mk (below_step (upW HB) hb); clear BK226; clear BK227; clear HB; have BK226 := n0_; have BK227 := n1_; have HB := n2_; clear n0_ n1_ n2_; (try clear hb); (try clear hb2); (try clear hk); (try clear hi)))
  have n0_ := Aside0.mk (blk_drew BK226.out)
  have n1_ := Aside0.mk (blk_drew BK227.out)
  have n2_ := Aside0.mk (below_drew1 HB.out)
  clear BK226
  clear BK227
  clear HB
  have BK226 := n0_
  have BK227 := n1_
  have HB := n2_
  clear n0_ n1_ n2_
  refine start_ (n := 11) (S := fun w' => w'.cell? ⟨gb226, 0, none⟩ = some (.int .i64 a0_0) ∧ w'.cell? ⟨gb226, 1, none⟩ = some (.slice A0_1 l0_1.length c0_1) ∧ w'.cell? ⟨gb227, 0, none⟩ = some (.int .i64 a1_0) ∧ w'.cell? ⟨gb227, 1, none⟩ = some (.int .i64 a1_1)) (ds := []) #[false, false, false, false, false, false, false, false, false, false, false] (by kernel_rfl) rfl rfl ⟨(blk_cell BK226.out 0).trans rfl, (blk_cell BK226.out 1).trans rfl, (blk_cell BK227.out 0).trans rfl, (blk_cell BK227.out 1).trans rfl⟩ (fun hHeld => ?_); refine with_tabW laws_FnExactAddWire.tab5 laws_FnExactAddWire.bits5 (fun HT_ HW_ => ?_)
  generalize w21.drew = w22 at BK226 BK227 HB hHeld ⊢
  refine take_ (i := 0) (N := some 22) (v := ?_) (a' := ?_) #[true, false, false, false, false, false, false, false, false, false, false] rfl rfl (take_ofW HT_.out HW_.out (by kernel_rfl)) (fun _ _ _ h => h) (Or.inl ⟨by rfl, ?_⟩) hHeld ?_ ?_
  rotate_left
  ·rintro w' ⟨s0, s1, s2, s3⟩
   go_simp
   with_reducible rfl
  rotate_left
  ·simp only [Act.put, List.setIfInBounds_toArray, List.set_cons_zero, List.set_cons_succ, i64_w, i32_w]
   rfl
  refine take_ (i := 2) (N := some 24) (v := ?_) (a' := ?_) #[true, false, true, false, false, false, false, false, false, false, false] rfl rfl (take_ofW HT_.out HW_.out (by kernel_rfl)) (fun _ _ _ h => h) (Or.inl ⟨by rfl, ?_⟩) hHeld ?_ ?_
  rotate_left
  ·rintro w' ⟨s0, s1, s2, s3⟩
   go_simp
   with_reducible rfl
  rotate_left
  ·simp only [Act.put, List.setIfInBounds_toArray, List.set_cons_zero, List.set_cons_succ, i64_w, i32_w]
   rfl
  refine join_ (σ := Value × Value × Nat) 2 #[true, true, true, true, true, true, true, true, true, false, false] (fun s_ => [(23, .agg #[.int .i64 t229, s_.1]), (25, .agg #[.int .i64 t233, .int .i64 t234]), (26, .tuple #[.agg #[.int .i64 t235, s_.2.1], .bool t239]), (6, .pointer (some ⟨s_.2.2, 0, none⟩)), (21, .tuple #[.agg #[.int .i64 t235, s_.2.1], .bool t239]), (27, .agg #[.int .i64 t235, s_.2.1]), (28, .bool t239)]) (fun s_ w' => (w'.cell? ⟨gb226, 0, none⟩ = some (.int .i64 a0_0) ∧ w'.cell? ⟨gb226, 1, none⟩ = some (.slice A0_1 l0_1.length c0_1) ∧ w'.cell? ⟨gb227, 0, none⟩ = some (.int .i64 a1_0) ∧ w'.cell? ⟨gb227, 1, none⟩ = some (.int .i64 a1_1)) ∧ (Kd.R k55 55 w' w.heap.size (fun k_ => some k_ ≠ (s_.2.1 : Value).ownBlock) s_.1 t230) ∧ (Kd.R k55 55 w' w.heap.size (fun k_ => some k_ ≠ (s_.1 : Value).ownBlock) s_.2.1 t236) ∧ (w'.heap[gb226]? = some (.cells #[.int .i64 a0_0, .slice A0_1 l0_1.length c0_1] 35 (0, 0))) ∧ (w'.heap[gb227]? = some (.cells #[.int .i64 a1_0, .int .i64 a1_1] 53 (0, 0))) ∧ (w'.heap[s_.2.2]? = some (.cells #[.int .i64 0, .slice none 0 0] 40 (0, 0))) ∧ (w.heap.size ≤ s_.2.2) ∧ (w.heap.size ≤ s_.2.2) ∧ (gb226 ≠ s_.2.2) ∧ (s_.2.2 ≠ gb226) ∧ (gb227 ≠ s_.2.2) ∧ (s_.2.2 ≠ gb227) ∧ (Below w.heap.size w w')) ?_ ?_
  rotate_left
  ·intro hCont
   refine two_ (i := 1) (j := 8) (Ni := some 23) (Nj := some 6) #[true, true, true, false, false, false, false, false, false, false, false] #[true, false, true, false, false, false, false, false, true, false, false] rfl rfl rfl rfl (two_of HT_.out (by kernel_rfl)) (by decide) (by decide) (fun K hK => ?_) (fun K hK => ?_)
   ·skip
    refine goes_ Try.func20 (by kernel_rfl) rfl #[.agg #[.int .i64 a0_0, .slice A0_1 l0_1.length c0_1]] (by rfl) rfl rfl itp ?_
    with_reducible refine (laws_toNet.calls k a0_0 _ _ l0_1 t229 t230 _ ?side1 ?side2 A10.out).mono ?_
    (case side1 => repeat (first | exact (Kd.C_below HR0_1.out HB.out) | (with_reducible refine Kd.C_alloc ?_ _) | (with_reducible refine Kd.C_drewN ?_ _) | (with_reducible refine Kd.C_drew ?_)))
    (case side2 => exact HC0_1.out)
    rintro e w23 ⟨v231, rfl, ho0, hb⟩
    refine ⟨_, rfl, ?_⟩
    have n0_ := Aside0.mk (Kd.R_lower ho0 (below_size (upW HB)))
    have n1_ := Aside0.mk (blk_below (upK BK226) hb)
    have n2_ := Aside0.mk (blk_below (upK BK227) hb)
    have n3_ := Aside0.mk (below_step (upW HB) hb)
    clear BK226
    clear BK227
    clear HB
    have HO232 := n0_
    have BK226 := n1_
    have BK227 := n2_
    have HB := n3_
    clear n0_ n1_ n2_ n3_
    (try clear hb)
    (try clear hb2)
    (try clear hk)
    (try clear hi)
    (try clear ho0)
    refine hK.out _ _ ⟨(blk_cell BK226.out 0).trans rfl, (blk_cell BK226.out 1).trans rfl, (blk_cell BK227.out 0).trans rfl, (blk_cell BK227.out 1).trans rfl⟩ (fun hHeld => ?_)
    clear hK K
    refine norm_ (a' := ?_) ?_ ?_
    rotate_left
    ·show Act.put _ (some 23) _ = _
     simp only [Act.put, List.setIfInBounds_toArray, List.set_cons_zero, List.set_cons_succ, i64_w, i32_w]
     rfl
    refine two_ (i := 3) (j := 8) (Ni := some 25) (Nj := some 6) #[true, true, true, true, false, false, false, false, false, false, false] #[true, true, true, false, false, false, false, false, true, false, false] rfl rfl rfl rfl (two_of HT_.out (by kernel_rfl)) (by decide) (by decide) (fun K hK => ?_) (fun K hK => ?_)
    ·skip
     refine goes_ Try.func32 (by kernel_rfl) rfl #[.agg #[.int .i64 a1_0, .int .i64 a1_1]] (by rfl) rfl rfl itp ?_
     with_reducible refine (laws_toWire.calls a1_0 a1_1 t233 t234 _ A11.out).mono ?_
     rintro e w24 ⟨rfl, hb⟩
     refine ⟨_, rfl, ?_⟩
     have n0_ := Aside0.mk (Kd.R_below (upR HO232) hb)
     have n1_ := Aside0.mk (blk_below (upK BK226) hb)
     have n2_ := Aside0.mk (blk_below (upK BK227) hb)
     have n3_ := Aside0.mk (below_step (upW HB) hb)
     clear HO232
     clear BK226
     clear BK227
     clear HB
     have HO232 := n0_
     have BK226 := n1_
     have BK227 := n2_
     have HB := n3_
     clear n0_ n1_ n2_ n3_
     (try clear hb)
     (try clear hb2)
     (try clear hk)
     (try clear hi)
     obtain ⟨Ao25, co25, eo25⟩ := Kd.R_slice HO232.out
     (first | subst eo25 | (injection eo25 with f1_ f2_ f3_; have f4_ := f1_.symm; have f5_ := f3_.symm; clear f1_ f2_ f3_; subst f4_; subst f5_))
     refine hK.out _ _ ⟨(blk_cell BK226.out 0).trans rfl, (blk_cell BK226.out 1).trans rfl, (blk_cell BK227.out 0).trans rfl, (blk_cell BK227.out 1).trans rfl⟩ (fun hHeld => ?_)
     clear hK K
     refine norm_ (a' := ?_) ?_ ?_
     rotate_left
     ·show Act.put _ (some 25) _ = _
      simp only [Act.put, List.setIfInBounds_toArray, List.set_cons_zero, List.set_cons_succ, i64_w, i32_w]
      rfl
     refine two_ (i := 4) (j := 8) (Ni := some 26) (Nj := some 6) #[true, true, true, true, true, false, false, false, false, false, false] #[true, true, true, true, false, false, false, false, true, false, false] rfl rfl rfl rfl (two_of HT_.out (by kernel_rfl)) (by decide) (by decide) (fun K hK => ?_) (fun K hK => ?_)
     ·skip
      refine goes_ Try.func31 (by kernel_rfl) rfl #[.agg #[.int .i64 t229, .slice Ao25 t230.length co25], .agg #[.int .i64 t233, .int .i64 t234]] (by rfl) rfl rfl itp ?_
      with_reducible refine (spec_AddWire.calls k t229 _ _ t230 t233 t234 t235 t236 t239 _ ?side1 ?side2 A12.out).mono ?_
      (case side1 => repeat (first | exact (Kd.R_reads' HO232.out).2.2 | (with_reducible refine Kd.C_alloc ?_ _) | (with_reducible refine Kd.C_drewN ?_ _) | (with_reducible refine Kd.C_drew ?_)))
      (case side2 => exact (Kd.R_reads' HO232.out).2.1)
      rintro e w26 ⟨v237, rfl, ho0, hb⟩
      refine ⟨_, rfl, ?_⟩
      have n0_ := Aside0.mk (Kd.R_elder' (upR HO232) (Kd.R_base ho0) hb)
      have n1_ := Aside0.mk (Kd.R_lower (Kd.R_new' ho0 (Kd.R_lt (upR HO232))) (below_size (upW HB)))
      have n2_ := Aside0.mk (blk_below (upK BK226) hb)
      have n3_ := Aside0.mk (blk_below (upK BK227) hb)
      have n4_ := Aside0.mk (below_step (upW HB) hb)
      clear HO232
      clear BK226
      clear BK227
      clear HB
      have HO232 := n0_
      have HO238 := n1_
      have BK226 := n2_
      have BK227 := n3_
      have HB := n4_
      clear n0_ n1_ n2_ n3_ n4_
      (try clear hb)
      (try clear hb2)
      (try clear hk)
      (try clear hi)
      (try clear ho0)
      refine hK.out _ _ ⟨(blk_cell BK226.out 0).trans rfl, (blk_cell BK226.out 1).trans rfl, (blk_cell BK227.out 0).trans rfl, (blk_cell BK227.out 1).trans rfl⟩ (fun hHeld => ?_)
      clear hK K
      refine norm_ (a' := ?_) ?_ ?_
      rotate_left
      ·show Act.put _ (some 26) _ = _
       simp only [Act.put, List.setIfInBounds_toArray, List.set_cons_zero, List.set_cons_succ, i64_w, i32_w]
       rfl
      refine pure_ (i := 5) (N := some 21) (v := ?_) (a' := ?_) #[true, true, true, true, true, true, false, false, false, false, false] rfl rfl (any_of HT_.out (by kernel_rfl)) (fun _ _ _ h => h) (Or.inl ⟨by rfl, ?_⟩) ?_ ?_
      rotate_left
      ·intro w'
       go_simp
       with_reducible rfl
      rotate_left
      ·simp only [Act.put, List.setIfInBounds_toArray, List.set_cons_zero, List.set_cons_succ, i64_w, i32_w]
       rfl
      refine pure_ (i := 6) (N := some 27) (v := ?_) (a' := ?_) #[true, true, true, true, true, true, true, false, false, false, false] rfl rfl (any_of HT_.out (by kernel_rfl)) (fun _ _ _ h => h) (Or.inl ⟨by rfl, ?_⟩) ?_ ?_
      rotate_left
      ·intro w'
       go_simp
       with_reducible rfl
      rotate_left
      ·simp only [Act.put, List.setIfInBounds_toArray, List.set_cons_zero, List.set_cons_succ, i64_w, i32_w]
       rfl
      refine pure_ (i := 7) (N := some 28) (v := ?_) (a' := ?_) #[true, true, true, true, true, true, true, true, false, false, false] rfl rfl (any_of HT_.out (by kernel_rfl)) (fun _ _ _ h => h) (Or.inl ⟨by rfl, ?_⟩) ?_ ?_
      rotate_left
      ·intro w'
       go_simp
       with_reducible rfl
      rotate_left
      ·simp only [Act.put, List.setIfInBounds_toArray, List.set_cons_zero, List.set_cons_succ, i64_w, i32_w]
       rfl
      refine one_ (i := 8) (N := some 6) #[true, true, true, true, true, true, true, true, true, false, false] rfl rfl (one_of HT_.out (by kernel_rfl)) (by decide) (fun K hK => ?_)
      refine box_step ?hg (N := 6) ?hd (cs := #[.int .i64 0, .slice none 0 0]) (t := 40) ?hr ?_; (case hd => rfl); (case hg => rfl); (case hr => first | (go_simp; done) | (go_simp; rfl))
      intro gb240 hg w27 hbox hb
      have n0_ := Aside0.mk (Kd.R_below (upR HO232) hb)
      have n1_ := Aside0.mk (Kd.R_below (upR HO238) hb)
      have n2_ := Aside0.mk (blk_below (upK BK226) hb)
      have n3_ := Aside0.mk (blk_below (upK BK227) hb)
      have n4_ := Aside0.mk (below_step (upW HB) hb)
      have n5_ := Aside0.mk (hbox)
      have n6_ := Aside0.mk ((by rw [hg]; exact (below_size (upW HB)) : w.heap.size ≤ gb240))
      have n7_ := Aside0.mk ((by rw [hg]; exact (below_size (upW HB)) : w.heap.size ≤ gb240))
      have n8_ := Aside0.mk ((by rw [hg]; exact Nat.ne_of_lt (blk_lt (upK BK226)) : gb226 ≠ gb240))
      have n9_ := Aside0.mk ((by rw [hg]; exact Nat.ne_of_gt (blk_lt (upK BK226)) : gb240 ≠ gb226))
      have n10_ := Aside0.mk ((by rw [hg]; exact Nat.ne_of_lt (blk_lt (upK BK227)) : gb227 ≠ gb240))
      have n11_ := Aside0.mk ((by rw [hg]; exact Nat.ne_of_gt (blk_lt (upK BK227)) : gb240 ≠ gb227))
      clear HO232
      clear HO238
      clear BK226
      clear BK227
      clear HB
      have HO232 := n0_
      have HO238 := n1_
      have BK226 := n2_
      have BK227 := n3_
      have HB := n4_
      have BK240 := n5_
      have GW240 := n6_
      have GE240 := n7_
      have NB226_240 := n8_
      have NB240_226 := n9_
      have NB227_240 := n10_
      have NB240_227 := n11_
      clear n0_ n1_ n2_ n3_ n4_ n5_ n6_ n7_ n8_ n9_ n10_ n11_
      clear hb hbox hg
      refine hK.out _ _ ⟨(blk_cell BK226.out 0).trans rfl, (blk_cell BK226.out 1).trans rfl, (blk_cell BK227.out 0).trans rfl, (blk_cell BK227.out 1).trans rfl⟩ (fun hHeld => ?_)
      clear hK K
      refine norm_ (a' := ?_) ?_ ?_
      rotate_left
      ·show Act.put _ (some 6) _ = _
       simp only [Act.put, List.setIfInBounds_toArray, List.set_cons_zero, List.set_cons_succ, i64_w, i32_w]
       rfl
      exact norm_ (by simp only [putAll, Act.put, List.setIfInBounds_toArray, List.set_cons_zero, List.set_cons_succ]) (hCont (.slice Ao25 t230.length co25, v237, gb240) _ ⟨hHeld, (by (with_reducible repeat (first | apply Kd.R_alloc | apply Kd.R_drewN | apply Kd.R_drew)); exact Kd.R_mono HO232.out (fun _ hk => hk.2)), (by (with_reducible repeat (first | apply Kd.R_alloc | apply Kd.R_drewN | apply Kd.R_drew)); exact Kd.R_mono HO238.out (fun _ hk => hk.2)), (upK BK226), (upK BK227), (upK BK240), GW240.out, GE240.out, NB226_240.out, NB240_226.out, NB227_240.out, NB240_227.out, (upW HB)⟩)
     ·skip
      refine box_step ?hg (N := 6) ?hd (cs := #[.int .i64 0, .slice none 0 0]) (t := 40) ?hr ?_; (case hd => rfl); (case hg => rfl); (case hr => first | (go_simp; done) | (go_simp; rfl))
      intro gb240 hg w25 hbox hb
      have n0_ := Aside0.mk (Kd.R_below (upR HO232) hb)
      have n1_ := Aside0.mk (blk_below (upK BK226) hb)
      have n2_ := Aside0.mk (blk_below (upK BK227) hb)
      have n3_ := Aside0.mk (below_step (upW HB) hb)
      have n4_ := Aside0.mk (hbox)
      have n5_ := Aside0.mk ((by rw [hg]; exact (below_size (upW HB)) : w.heap.size ≤ gb240))
      have n6_ := Aside0.mk ((by rw [hg]; exact (below_size (upW HB)) : w.heap.size ≤ gb240))
      have n7_ := Aside0.mk ((by rw [hg]; exact Nat.ne_of_lt (blk_lt (upK BK226)) : gb226 ≠ gb240))
      have n8_ := Aside0.mk ((by rw [hg]; exact Nat.ne_of_gt (blk_lt (upK BK226)) : gb240 ≠ gb226))
      have n9_ := Aside0.mk ((by rw [hg]; exact Nat.ne_of_lt (blk_lt (upK BK227)) : gb227 ≠ gb240))
      have n10_ := Aside0.mk ((by rw [hg]; exact Nat.ne_of_gt (blk_lt (upK BK227)) : gb240 ≠ gb227))
      clear HO232
      clear BK226
      clear BK227
      clear HB
      have HO232 := n0_
      have BK226 := n1_
      have BK227 := n2_
      have HB := n3_
      have BK240 := n4_
      have GW240 := n5_
      have GE240 := n6_
      have NB226_240 := n7_
      have NB240_226 := n8_
      have NB227_240 := n9_
      have NB240_227 := n10_
      clear n0_ n1_ n2_ n3_ n4_ n5_ n6_ n7_ n8_ n9_ n10_
      clear hb hbox hg
      obtain ⟨Ao26, co26, eo26⟩ := Kd.R_slice HO232.out
      (first | subst eo26 | (injection eo26 with f1_ f2_ f3_; have f4_ := f1_.symm; have f5_ := f3_.symm; clear f1_ f2_ f3_; subst f4_; subst f5_))
      refine hK.out _ _ ⟨(blk_cell BK226.out 0).trans rfl, (blk_cell BK226.out 1).trans rfl, (blk_cell BK227.out 0).trans rfl, (blk_cell BK227.out 1).trans rfl⟩ (fun hHeld => ?_)
      clear hK K
      refine norm_ (a' := ?_) ?_ ?_
      rotate_left
      ·show Act.put _ (some 6) _ = _
       simp only [Act.put, List.setIfInBounds_toArray, List.set_cons_zero, List.set_cons_succ, i64_w, i32_w]
       rfl
      refine one_ (i := 4) (N := some 26) #[true, true, true, true, true, false, false, false, true, false, false] rfl rfl (one_of HT_.out (by kernel_rfl)) (by decide) (fun K hK => ?_)
      refine goes_ Try.func31 (by kernel_rfl) rfl #[.agg #[.int .i64 t229, .slice Ao26 t230.length co26], .agg #[.int .i64 t233, .int .i64 t234]] (by rfl) rfl rfl itp ?_
      with_reducible refine (spec_AddWire.calls k t229 _ _ t230 t233 t234 t235 t236 t239 _ ?side1 ?side2 A12.out).mono ?_
      (case side1 => repeat (first | exact (Kd.R_reads' HO232.out).2.2 | (with_reducible refine Kd.C_alloc ?_ _) | (with_reducible refine Kd.C_drewN ?_ _) | (with_reducible refine Kd.C_drew ?_)))
      (case side2 => exact (Kd.R_reads' HO232.out).2.1)
      rintro e w27 ⟨v237, rfl, ho0, hb⟩
      refine ⟨_, rfl, ?_⟩
      have n0_ := Aside0.mk (Kd.R_elder' (upR HO232) (Kd.R_base ho0) hb)
      have n1_ := Aside0.mk (Kd.R_lower (Kd.R_new' ho0 (Kd.R_lt (upR HO232))) (below_size (upW HB)))
      have n2_ := Aside0.mk (blk_below (upK BK226) hb)
      have n3_ := Aside0.mk (blk_below (upK BK227) hb)
      have n4_ := Aside0.mk (blk_below (upK BK240) hb)
      have n5_ := Aside0.mk (below_step (upW HB) hb)
      clear HO232
      clear BK226
      clear BK227
      clear BK240
      clear HB
      have HO232 := n0_
      have HO238 := n1_
      have BK226 := n2_
      have BK227 := n3_
      have BK240 := n4_
      have HB := n5_
      clear n0_ n1_ n2_ n3_ n4_ n5_
      (try clear hb)
      (try clear hb2)
      (try clear hk)
      (try clear hi)
      (try clear ho0)
      refine hK.out _ _ ⟨(blk_cell BK226.out 0).trans rfl, (blk_cell BK226.out 1).trans rfl, (blk_cell BK227.out 0).trans rfl, (blk_cell BK227.out 1).trans rfl⟩ (fun hHeld => ?_)
      clear hK K
      refine norm_ (a' := ?_) ?_ ?_
      rotate_left
      ·show Act.put _ (some 26) _ = _
       simp only [Act.put, List.setIfInBounds_toArray, List.set_cons_zero, List.set_cons_succ, i64_w, i32_w]
       rfl
      refine pure_ (i := 5) (N := some 21) (v := ?_) (a' := ?_) #[true, true, true, true, true, true, false, false, true, false, false] rfl rfl (any_of HT_.out (by kernel_rfl)) (fun _ _ _ h => h) (Or.inl ⟨by rfl, ?_⟩) ?_ ?_
      rotate_left
      ·intro w'
       go_simp
       with_reducible rfl
      rotate_left
      ·simp only [Act.put, List.setIfInBounds_toArray, List.set_cons_zero, List.set_cons_succ, i64_w, i32_w]
       rfl
      refine pure_ (i := 6) (N := some 27) (v := ?_) (a' := ?_) #[true, true, true, true, true, true, true, false, true, false, false] rfl rfl (any_of HT_.out (by kernel_rfl)) (fun _ _ _ h => h) (Or.inl ⟨by rfl, ?_⟩) ?_ ?_
      rotate_left
      ·intro w'
       go_simp
       with_reducible rfl
      rotate_left
      ·simp only [Act.put, List.setIfInBounds_toArray, List.set_cons_zero, List.set_cons_succ, i64_w, i32_w]
       rfl
      refine pure_ (i := 7) (N := some 28) (v := ?_) (a' := ?_) #[true, true, true, true, true, true, true, true, true, false, false] rfl rfl (any_of HT_.out (by kernel_rfl)) (fun _ _ _ h => h) (Or.inl ⟨by rfl, ?_⟩) ?_ ?_
      rotate_left
      ·intro w'
       go_simp
       with_reducible rfl
      rotate_left
      ·simp only [Act.put, List.setIfInBounds_toArray, List.set_cons_zero, List.set_cons_succ, i64_w, i32_w]
       rfl
      exact norm_ (by simp only [putAll, Act.put, List.setIfInBounds_toArray, List.set_cons_zero, List.set_cons_succ]) (hCont (.slice Ao26 t230.length co26, v237, gb240) _ ⟨hHeld, (by (with_reducible repeat (first | apply Kd.R_alloc | apply Kd.R_drewN | apply Kd.R_drew)); exact Kd.R_mono HO232.out (fun _ hk => hk.2)), (by (with_reducible repeat (first | apply Kd.R_alloc | apply Kd.R_drewN | apply Kd.R_drew)); exact Kd.R_mono HO238.out (fun _ hk => hk.2)), (upK BK226), (upK BK227), (upK BK240), GW240.out, GE240.out, NB226_240.out, NB240_226.out, NB227_240.out, NB240_227.out, (upW HB)⟩)
    ·skip
     refine box_step ?hg (N := 6) ?hd (cs := #[.int .i64 0, .slice none 0 0]) (t := 40) ?hr ?_; (case hd => rfl); (case hg => rfl); (case hr => first | (go_simp; done) | (go_simp; rfl))
     intro gb240 hg w24 hbox hb
     have n0_ := Aside0.mk (Kd.R_below (upR HO232) hb)
     have n1_ := Aside0.mk (blk_below (upK BK226) hb)
     have n2_ := Aside0.mk (blk_below (upK BK227) hb)
     have n3_ := Aside0.mk (below_step (upW HB) hb)
     have n4_ := Aside0.mk (hbox)
     have n5_ := Aside0.mk ((by rw [hg]; exact (below_size (upW HB)) : w.heap.size ≤ gb240))
     have n6_ := Aside0.mk ((by rw [hg]; exact (below_size (upW HB)) : w.heap.size ≤ gb240))
     have n7_ := Aside0.mk ((by rw [hg]; exact Nat.ne_of_lt (blk_lt (upK BK226)) : gb226 ≠ gb240))
     have n8_ := Aside0.mk ((by rw [hg]; exact Nat.ne_of_gt (blk_lt (upK BK226)) : gb240 ≠ gb226))
     have n9_ := Aside0.mk ((by rw [hg]; exact Nat.ne_of_lt (blk_lt (upK BK227)) : gb227 ≠ gb240))
     have n10_ := Aside0.mk ((by rw [hg]; exact Nat.ne_of_gt (blk_lt (upK BK227)) : gb240 ≠ gb227))
     clear HO232
     clear BK226
     clear BK227
     clear HB
     have HO232 := n0_
     have BK226 := n1_
     have BK227 := n2_
     have HB := n3_
     have BK240 := n4_
     have GW240 := n5_
     have GE240 := n6_
     have NB226_240 := n7_
     have NB240_226 := n8_
     have NB227_240 := n9_
     have NB240_227 := n10_
     clear n0_ n1_ n2_ n3_ n4_ n5_ n6_ n7_ n8_ n9_ n10_
     clear hb hbox hg
     refine hK.out _ _ ⟨(blk_cell BK226.out 0).trans rfl, (blk_cell BK226.out 1).trans rfl, (blk_cell BK227.out 0).trans rfl, (blk_cell BK227.out 1).trans rfl⟩ (fun hHeld => ?_)
     clear hK K
     refine norm_ (a' := ?_) ?_ ?_
     rotate_left
     ·show Act.put _ (some 6) _ = _
      simp only [Act.put, List.setIfInBounds_toArray, List.set_cons_zero, List.set_cons_succ, i64_w, i32_w]
      rfl
     refine one_ (i := 3) (N := some 25) #[true, true, true, true, false, false, false, false, true, false, false] rfl rfl (one_of HT_.out (by kernel_rfl)) (by decide) (fun K hK => ?_)
     refine goes_ Try.func32 (by kernel_rfl) rfl #[.agg #[.int .i64 a1_0, .int .i64 a1_1]] (by rfl) rfl rfl itp ?_
     with_reducible refine (laws_toWire.calls a1_0 a1_1 t233 t234 _ A11.out).mono ?_
     rintro e w25 ⟨rfl, hb⟩
     refine ⟨_, rfl, ?_⟩
     have n0_ := Aside0.mk (Kd.R_below (upR HO232) hb)
     have n1_ := Aside0.mk (blk_below (upK BK226) hb)
     have n2_ := Aside0.mk (blk_below (upK BK227) hb)
     have n3_ := Aside0.mk (blk_below (upK BK240) hb)
     have n4_ := Aside0.mk (below_step (upW HB) hb)
     clear HO232
     clear BK226
     clear BK227
     clear BK240
     clear HB
     have HO232 := n0_
     have BK226 := n1_
     have BK227 := n2_
     have BK240 := n3_
     have HB := n4_
     clear n0_ n1_ n2_ n3_ n4_
     (try clear hb)
     (try clear hb2)
     (try clear hk)
     (try clear hi)
     obtain ⟨Ao26, co26, eo26⟩ := Kd.R_slice HO232.out
     (first | subst eo26 | (injection eo26 with f1_ f2_ f3_; have f4_ := f1_.symm; have f5_ := f3_.symm; clear f1_ f2_ f3_; subst f4_; subst f5_))
     refine hK.out _ _ ⟨(blk_cell BK226.out 0).trans rfl, (blk_cell BK226.out 1).trans rfl, (blk_cell BK227.out 0).trans rfl, (blk_cell BK227.out 1).trans rfl⟩ (fun hHeld => ?_)
     clear hK K
     refine norm_ (a' := ?_) ?_ ?_
     rotate_left
     ·show Act.put _ (some 25) _ = _
      simp only [Act.put, List.setIfInBounds_toArray, List.set_cons_zero, List.set_cons_succ, i64_w, i32_w]
      rfl
     refine one_ (i := 4) (N := some 26) #[true, true, true, true, true, false, false, false, true, false, false] rfl rfl (one_of HT_.out (by kernel_rfl)) (by decide) (fun K hK => ?_)
     refine goes_ Try.func31 (by kernel_rfl) rfl #[.agg #[.int .i64 t229, .slice Ao26 t230.length co26], .agg #[.int .i64 t233, .int .i64 t234]] (by rfl) rfl rfl itp ?_
     with_reducible refine (spec_AddWire.calls k t229 _ _ t230 t233 t234 t235 t236 t239 _ ?side1 ?side2 A12.out).mono ?_
     (case side1 => repeat (first | exact (Kd.R_reads' HO232.out).2.2 | (with_reducible refine Kd.C_alloc ?_ _) | (with_reducible refine Kd.C_drewN ?_ _) | (with_reducible refine Kd.C_drew ?_)))
     (case side2 => exact (Kd.R_reads' HO232.out).2.1)
     rintro e w27 ⟨v237, rfl, ho0, hb⟩
     refine ⟨_, rfl, ?_⟩
     have n0_ := Aside0.mk (Kd.R_elder' (upR HO232) (Kd.R_base ho0) hb)
     have n1_ := Aside0.mk (Kd.R_lower (Kd.R_new' ho0 (Kd.R_lt (upR HO232))) (below_size (upW HB)))
     have n2_ := Aside0.mk (blk_below (upK BK226) hb)
     have n3_ := Aside0.mk (blk_below (upK BK227) hb)
     have n4_ := Aside0.mk (blk_below (upK BK240) hb)
     have n5_ := Aside0.mk (below_step (upW HB) hb)
     clear HO232
     clear BK226
     clear BK227
     clear BK240
     clear HB
     have HO232 := n0_
     have HO238 := n1_
     have BK226 := n2_
     have BK227 := n3_
     have BK240 := n4_
     have HB := n5_
     clear n0_ n1_ n2_ n3_ n4_ n5_
     (try clear hb)
     (try clear hb2)
     (try clear hk)
     (try clear hi)
     (try clear ho0)
     refine hK.out _ _ ⟨(blk_cell BK226.out 0).trans rfl, (blk_cell BK226.out 1).trans rfl, (blk_cell BK227.out 0).trans rfl, (blk_cell BK227.out 1).trans rfl⟩ (fun hHeld => ?_)
     clear hK K
     refine norm_ (a' := ?_) ?_ ?_
     rotate_left
     ·show Act.put _ (some 26) _ = _
      simp only [Act.put, List.setIfInBounds_toArray, List.set_cons_zero, List.set_cons_succ, i64_w, i32_w]
      rfl
     refine pure_ (i := 5) (N := some 21) (v := ?_) (a' := ?_) #[true, true, true, true, true, true, false, false, true, false, false] rfl rfl (any_of HT_.out (by kernel_rfl)) (fun _ _ _ h => h) (Or.inl ⟨by rfl, ?_⟩) ?_ ?_
     rotate_left
     ·intro w'
      go_simp
      with_reducible rfl
     rotate_left
     ·simp only [Act.put, List.setIfInBounds_toArray, List.set_cons_zero, List.set_cons_succ, i64_w, i32_w]
      rfl
     refine pure_ (i := 6) (N := some 27) (v := ?_) (a' := ?_) #[true, true, true, true, true, true, true, false, true, false, false] rfl rfl (any_of HT_.out (by kernel_rfl)) (fun _ _ _ h => h) (Or.inl ⟨by rfl, ?_⟩) ?_ ?_
     rotate_left
     ·intro w'
      go_simp
      with_reducible rfl
     rotate_left
     ·simp only [Act.put, List.setIfInBounds_toArray, List.set_cons_zero, List.set_cons_succ, i64_w, i32_w]
      rfl
     refine pure_ (i := 7) (N := some 28) (v := ?_) (a' := ?_) #[true, true, true, true, true, true, true, true, true, false, false] rfl rfl (any_of HT_.out (by kernel_rfl)) (fun _ _ _ h => h) (Or.inl ⟨by rfl, ?_⟩) ?_ ?_
     rotate_left
     ·intro w'
      go_simp
      with_reducible rfl
     rotate_left
     ·simp only [Act.put, List.setIfInBounds_toArray, List.set_cons_zero, List.set_cons_succ, i64_w, i32_w]
      rfl
     exact norm_ (by simp only [putAll, Act.put, List.setIfInBounds_toArray, List.set_cons_zero, List.set_cons_succ]) (hCont (.slice Ao26 t230.length co26, v237, gb240) _ ⟨hHeld, (by (with_reducible repeat (first | apply Kd.R_alloc | apply Kd.R_drewN | apply Kd.R_drew)); exact Kd.R_mono HO232.out (fun _ hk => hk.2)), (by (with_reducible repeat (first | apply Kd.R_alloc | apply Kd.R_drewN | apply Kd.R_drew)); exact Kd.R_mono HO238.out (fun _ hk => hk.2)), (upK BK226), (upK BK227), (upK BK240), GW240.out, GE240.out, NB226_240.out, NB240_226.out, NB227_240.out, NB240_227.out, (upW HB)⟩)
   ·skip
    refine box_step ?hg (N := 6) ?hd (cs := #[.int .i64 0, .slice none 0 0]) (t := 40) ?hr ?_; (case hd => rfl); (case hg => rfl); (case hr => first | (go_simp; done) | (go_simp; rfl))
    intro gb240 hg w23 hbox hb
    have n0_ := Aside0.mk (blk_below (upK BK226) hb)
    have n1_ := Aside0.mk (blk_below (upK BK227) hb)
    have n2_ := Aside0.mk (below_step (upW HB) hb)
    have n3_ := Aside0.mk (hbox)
    have n4_ := Aside0.mk ((by rw [hg]; exact (below_size (upW HB)) : w.heap.size ≤ gb240))
    have n5_ := Aside0.mk ((by rw [hg]; exact (below_size (upW HB)) : w.heap.size ≤ gb240))
    have n6_ := Aside0.mk ((by rw [hg]; exact Nat.ne_of_lt (blk_lt (upK BK226)) : gb226 ≠ gb240))
    have n7_ := Aside0.mk ((by rw [hg]; exact Nat.ne_of_gt (blk_lt (upK BK226)) : gb240 ≠ gb226))
    have n8_ := Aside0.mk ((by rw [hg]; exact Nat.ne_of_lt (blk_lt (upK BK227)) : gb227 ≠ gb240))
    have n9_ := Aside0.mk ((by rw [hg]; exact Nat.ne_of_gt (blk_lt (upK BK227)) : gb240 ≠ gb227))
    clear BK226
    clear BK227
    clear HB
    have BK226 := n0_
    have BK227 := n1_
    have HB := n2_
    have BK240 := n3_
    have GW240 := n4_
    have GE240 := n5_
    have NB226_240 := n6_
    have NB240_226 := n7_
    have NB227_240 := n8_
    have NB240_227 := n9_
    clear n0_ n1_ n2_ n3_ n4_ n5_ n6_ n7_ n8_ n9_
    clear hb hbox hg
    refine hK.out _ _ ⟨(blk_cell BK226.out 0).trans rfl, (blk_cell BK226.out 1).trans rfl, (blk_cell BK227.out 0).trans rfl, (blk_cell BK227.out 1).trans rfl⟩ (fun hHeld => ?_)
    clear hK K
    refine norm_ (a' := ?_) ?_ ?_
    rotate_left
    ·show Act.put _ (some 6) _ = _
     simp only [Act.put, List.setIfInBounds_toArray, List.set_cons_zero, List.set_cons_succ, i64_w, i32_w]
     rfl
    refine one_ (i := 1) (N := some 23) #[true, true, true, false, false, false, false, false, true, false, false] rfl rfl (one_of HT_.out (by kernel_rfl)) (by decide) (fun K hK => ?_)
    refine goes_ Try.func20 (by kernel_rfl) rfl #[.agg #[.int .i64 a0_0, .slice A0_1 l0_1.length c0_1]] (by rfl) rfl rfl itp ?_
    with_reducible refine (laws_toNet.calls k a0_0 _ _ l0_1 t229 t230 _ ?side1 ?side2 A10.out).mono ?_
    (case side1 => repeat (first | exact (Kd.C_below HR0_1.out HB.out) | (with_reducible refine Kd.C_alloc ?_ _) | (with_reducible refine Kd.C_drewN ?_ _) | (with_reducible refine Kd.C_drew ?_)))
    (case side2 => exact HC0_1.out)
    rintro e w24 ⟨v231, rfl, ho0, hb⟩
    refine ⟨_, rfl, ?_⟩
    have n0_ := Aside0.mk (Kd.R_lower ho0 (below_size (upW HB)))
    have n1_ := Aside0.mk (blk_below (upK BK226) hb)
    have n2_ := Aside0.mk (blk_below (upK BK227) hb)
    have n3_ := Aside0.mk (blk_below (upK BK240) hb)
    have n4_ := Aside0.mk (below_step (upW HB) hb)
    clear BK226
    clear BK227
    clear BK240
    clear HB
    have HO232 := n0_
    have BK226 := n1_
    have BK227 := n2_
    have BK240 := n3_
    have HB := n4_
    clear n0_ n1_ n2_ n3_ n4_
    (try clear hb)
    (try clear hb2)
    (try clear hk)
    (try clear hi)
    (try clear ho0)
    refine hK.out _ _ ⟨(blk_cell BK226.out 0).trans rfl, (blk_cell BK226.out 1).trans rfl, (blk_cell BK227.out 0).trans rfl, (blk_cell BK227.out 1).trans rfl⟩ (fun hHeld => ?_)
    clear hK K
    refine norm_ (a' := ?_) ?_ ?_
    rotate_left
    ·show Act.put _ (some 23) _ = _
     simp only [Act.put, List.setIfInBounds_toArray, List.set_cons_zero, List.set_cons_succ, i64_w, i32_w]
     rfl
    refine one_ (i := 3) (N := some 25) #[true, true, true, true, false, false, false, false, true, false, false] rfl rfl (one_of HT_.out (by kernel_rfl)) (by decide) (fun K hK => ?_)
    refine goes_ Try.func32 (by kernel_rfl) rfl #[.agg #[.int .i64 a1_0, .int .i64 a1_1]] (by rfl) rfl rfl itp ?_
    with_reducible refine (laws_toWire.calls a1_0 a1_1 t233 t234 _ A11.out).mono ?_
    rintro e w25 ⟨rfl, hb⟩
    refine ⟨_, rfl, ?_⟩
    have n0_ := Aside0.mk (Kd.R_below (upR HO232) hb)
    have n1_ := Aside0.mk (blk_below (upK BK226) hb)
    have n2_ := Aside0.mk (blk_below (upK BK227) hb)
    have n3_ := Aside0.mk (blk_below (upK BK240) hb)
    have n4_ := Aside0.mk (below_step (upW HB) hb)
    clear HO232
    clear BK226
    clear BK227
    clear BK240
    clear HB
    have HO232 := n0_
    have BK226 := n1_
    have BK227 := n2_
    have BK240 := n3_
    have HB := n4_
    clear n0_ n1_ n2_ n3_ n4_
    (try clear hb)
    (try clear hb2)
    (try clear hk)
    (try clear hi)
    obtain ⟨Ao26, co26, eo26⟩ := Kd.R_slice HO232.out
    (first | subst eo26 | (injection eo26 with f1_ f2_ f3_; have f4_ := f1_.symm; have f5_ := f3_.symm; clear f1_ f2_ f3_; subst f4_; subst f5_))
    refine hK.out _ _ ⟨(blk_cell BK226.out 0).trans rfl, (blk_cell BK226.out 1).trans rfl, (blk_cell BK227.out 0).trans rfl, (blk_cell BK227.out 1).trans rfl⟩ (fun hHeld => ?_)
    clear hK K
    refine norm_ (a' := ?_) ?_ ?_
    rotate_left
    ·show Act.put _ (some 25) _ = _
     simp only [Act.put, List.setIfInBounds_toArray, List.set_cons_zero, List.set_cons_succ, i64_w, i32_w]
     rfl
    refine one_ (i := 4) (N := some 26) #[true, true, true, true, true, false, false, false, true, false, false] rfl rfl (one_of HT_.out (by kernel_rfl)) (by decide) (fun K hK => ?_)
    refine goes_ Try.func31 (by kernel_rfl) rfl #[.agg #[.int .i64 t229, .slice Ao26 t230.length co26], .agg #[.int .i64 t233, .int .i64 t234]] (by rfl) rfl rfl itp ?_
    with_reducible refine (spec_AddWire.calls k t229 _ _ t230 t233 t234 t235 t236 t239 _ ?side1 ?side2 A12.out).mono ?_
    (case side1 => repeat (first | exact (Kd.R_reads' HO232.out).2.2 | (with_reducible refine Kd.C_alloc ?_ _) | (with_reducible refine Kd.C_drewN ?_ _) | (with_reducible refine Kd.C_drew ?_)))
    (case side2 => exact (Kd.R_reads' HO232.out).2.1)
    rintro e w27 ⟨v237, rfl, ho0, hb⟩
    refine ⟨_, rfl, ?_⟩
    have n0_ := Aside0.mk (Kd.R_elder' (upR HO232) (Kd.R_base ho0) hb)
    have n1_ := Aside0.mk (Kd.R_lower (Kd.R_new' ho0 (Kd.R_lt (upR HO232))) (below_size (upW HB)))
    have n2_ := Aside0.mk (blk_below (upK BK226) hb)
    have n3_ := Aside0.mk (blk_below (upK BK227) hb)
    have n4_ := Aside0.mk (blk_below (upK BK240) hb)
    have n5_ := Aside0.mk (below_step (upW HB) hb)
    clear HO232
    clear BK226
    clear BK227
    clear BK240
    clear HB
    have HO232 := n0_
    have HO238 := n1_
    have BK226 := n2_
    have BK227 := n3_
    have BK240 := n4_
    have HB := n5_
    clear n0_ n1_ n2_ n3_ n4_ n5_
    (try clear hb)
    (try clear hb2)
    (try clear hk)
    (try clear hi)
    (try clear ho0)
    refine hK.out _ _ ⟨(blk_cell BK226.out 0).trans rfl, (blk_cell BK226.out 1).trans rfl, (blk_cell BK227.out 0).trans rfl, (blk_cell BK227.out 1).trans rfl⟩ (fun hHeld => ?_)
    clear hK K
    refine norm_ (a' := ?_) ?_ ?_
    rotate_left
    ·show Act.put _ (some 26) _ = _
     simp only [Act.put, List.setIfInBounds_toArray, List.set_cons_zero, List.set_cons_succ, i64_w, i32_w]
     rfl
    refine pure_ (i := 5) (N := some 21) (v := ?_) (a' := ?_) #[true, true, true, true, true, true, false, false, true, false, false] rfl rfl (any_of HT_.out (by kernel_rfl)) (fun _ _ _ h => h) (Or.inl ⟨by rfl, ?_⟩) ?_ ?_
    rotate_left
    ·intro w'
     go_simp
     with_reducible rfl
    rotate_left
    ·simp only [Act.put, List.setIfInBounds_toArray, List.set_cons_zero, List.set_cons_succ, i64_w, i32_w]
     rfl
    refine pure_ (i := 6) (N := some 27) (v := ?_) (a' := ?_) #[true, true, true, true, true, true, true, false, true, false, false] rfl rfl (any_of HT_.out (by kernel_rfl)) (fun _ _ _ h => h) (Or.inl ⟨by rfl, ?_⟩) ?_ ?_
    rotate_left
    ·intro w'
     go_simp
     with_reducible rfl
    rotate_left
    ·simp only [Act.put, List.setIfInBounds_toArray, List.set_cons_zero, List.set_cons_succ, i64_w, i32_w]
     rfl
    refine pure_ (i := 7) (N := some 28) (v := ?_) (a' := ?_) #[true, true, true, true, true, true, true, true, true, false, false] rfl rfl (any_of HT_.out (by kernel_rfl)) (fun _ _ _ h => h) (Or.inl ⟨by rfl, ?_⟩) ?_ ?_
    rotate_left
    ·intro w'
     go_simp
     with_reducible rfl
    rotate_left
    ·simp only [Act.put, List.setIfInBounds_toArray, List.set_cons_zero, List.set_cons_succ, i64_w, i32_w]
     rfl
    exact norm_ (by simp only [putAll, Act.put, List.setIfInBounds_toArray, List.set_cons_zero, List.set_cons_succ]) (hCont (.slice Ao26 t230.length co26, v237, gb240) _ ⟨hHeld, (by (with_reducible repeat (first | apply Kd.R_alloc | apply Kd.R_drewN | apply Kd.R_drew)); exact Kd.R_mono HO232.out (fun _ hk => hk.2)), (by (with_reducible repeat (first | apply Kd.R_alloc | apply Kd.R_drewN | apply Kd.R_drew)); exact Kd.R_mono HO238.out (fun _ hk => hk.2)), (upK BK226), (upK BK227), (upK BK240), GW240.out, GE240.out, NB226_240.out, NB240_226.out, NB227_240.out, NB240_227.out, (upW HB)⟩)
  rintro ⟨v231, v237, gb240⟩ w28 ⟨hS_, h0_, h1_, h2_, h3_, h4_, h5_, h6_, h7_, h8_, h9_, h10_, h11_⟩
  have n0_ : Aside0 (Kd.R k55 55 w28 w.heap.size (fun k_ => some k_ ≠ (v237 : Value).ownBlock) v231 t230) := ⟨h0_⟩
  have n1_ : Aside0 (Kd.R k55 55 w28 w.heap.size (fun k_ => some k_ ≠ (v231 : Value).ownBlock) v237 t236) := ⟨h1_⟩
  have n2_ : Aside0 (w28.heap[gb226]? = some (.cells #[.int .i64 a0_0, .slice A0_1 l0_1.length c0_1] 35 (0, 0))) := ⟨h2_⟩
  have n3_ : Aside0 (w28.heap[gb227]? = some (.cells #[.int .i64 a1_0, .int .i64 a1_1] 53 (0, 0))) := ⟨h3_⟩
  have n4_ : Aside0 (w28.heap[gb240]? = some (.cells #[.int .i64 0, .slice none 0 0] 40 (0, 0))) := ⟨h4_⟩
  have n5_ : Aside0 (w.heap.size ≤ gb240) := ⟨h5_⟩
  have n6_ : Aside0 (w.heap.size ≤ gb240) := ⟨h6_⟩
  have n7_ : Aside0 (gb226 ≠ gb240) := ⟨h7_⟩
  have n8_ : Aside0 (gb240 ≠ gb226) := ⟨h8_⟩
  have n9_ : Aside0 (gb227 ≠ gb240) := ⟨h9_⟩
  have n10_ : Aside0 (gb240 ≠ gb227) := ⟨h10_⟩
  have n11_ : Aside0 (Below w.heap.size w w28) := ⟨h11_⟩
  clear BK226
  clear BK227
  clear HB
  clear h0_ h1_ h2_ h3_ h4_ h5_ h6_ h7_ h8_ h9_ h10_ h11_
  have HO232 := n0_
  have HO238 := n1_
  have BK226 := n2_
  have BK227 := n3_
  have BK240 := n4_
  have GW240 := n5_
  have GE240 := n6_
  have NB226_240 := n7_
  have NB240_226 := n8_
  have NB227_240 := n9_
  have NB240_227 := n10_
  have HB := n11_
  clear n0_ n1_ n2_ n3_ n4_ n5_ n6_ n7_ n8_ n9_ n10_ n11_
  have hHeld : w28.cell? ⟨gb226, 0, none⟩ = some (.int .i64 a0_0) ∧ w28.cell? ⟨gb226, 1, none⟩ = some (.slice A0_1 l0_1.length c0_1) ∧ w28.cell? ⟨gb227, 0, none⟩ = some (.int .i64 a1_0) ∧ w28.cell? ⟨gb227, 1, none⟩ = some (.int .i64 a1_1) := hS_
  obtain ⟨Ao30, co30, eo30⟩ := Kd.R_slice HO238.out
  (first | subst eo30 | (injection eo30 with f1_ f2_ f3_; have f4_ := f1_.symm; have f5_ := f3_.symm; clear f1_ f2_ f3_; subst f4_; subst f5_))
  refine norm_ (a' := ?_) ?_ ?_
  rotate_left
  ·simp only [putAll, Act.put, List.setIfInBounds_toArray, List.set_cons_zero, List.set_cons_succ]
   rfl
  refine one_ (i := 9) (N := none) #[true, true, true, true, true, true, true, true, true, true, false] rfl rfl (one_of HT_.out (by kernel_rfl)) (by decide) (fun K hK => ?_)
  have hs29 : w28.cell? ⟨gb240, 0, none⟩ = some (.int .i64 0) := (blk_cell BK240.out 0).trans rfl
  have hfs29 := blk_frozen BK240.out 0
  have hns29_0 := NB226_240.out
  have hns29_1 := NB227_240.out
  have hms29_0 := NB240_226.out
  have hms29_1 := NB240_227.out
  have hs31 : w28.cell? ⟨gb240, 1, none⟩ = some (.slice none 0 0) := (blk_cell BK240.out 1).trans rfl
  have hfs31 := blk_frozen BK240.out 1
  have hns31_0 := NB226_240.out
  have hns31_1 := NB227_240.out
  have hms31_0 := NB240_226.out
  have hms31_1 := NB240_227.out
  refine skip_ (w1 := ?_) (by rfl) rfl ?_ ?_
  rotate_left
  ·go_simp
   rfl
  refine hK.out _ _ ⟨((cell_far (p := ⟨gb240, _, none⟩) NB226_240.out _).trans (((cell_far (p := ⟨gb240, _, none⟩) NB226_240.out _).trans (hHeld.1)))), ((cell_far (p := ⟨gb240, _, none⟩) NB226_240.out _).trans (((cell_far (p := ⟨gb240, _, none⟩) NB226_240.out _).trans (hHeld.2.1)))), ((cell_far (p := ⟨gb240, _, none⟩) NB227_240.out _).trans (((cell_far (p := ⟨gb240, _, none⟩) NB227_240.out _).trans (hHeld.2.2.1)))), ((cell_far (p := ⟨gb240, _, none⟩) NB227_240.out _).trans (((cell_far (p := ⟨gb240, _, none⟩) NB227_240.out _).trans (hHeld.2.2.2))))⟩ (fun hHeld => ?_)
  clear hK K
  refine pure_ (i := 10) (N := some 7) (v := ?_) (a' := ?_) #[true, true, true, true, true, true, true, true, true, true, true] rfl rfl (any_of HT_.out (by kernel_rfl)) (fun _ _ _ h => h) (Or.inl ⟨by rfl, ?_⟩) ?_ ?_
  rotate_left
  ·intro w'
   go_simp
   with_reducible rfl
  rotate_left
  ·simp only [Act.put, List.setIfInBounds_toArray, List.set_cons_zero, List.set_cons_succ, i64_w, i32_w]
   rfl
  refine done_ (done_of HT_.out (by kernel_rfl)) ?_
  have hnb32 := NB226_240.out
  have hnc32 := NB240_226.out
  have hcz33_0 : w28.cell? ⟨gb226, 0, none⟩ = some (.int .i64 a0_0) := (blk_cell BK226.out 0).trans rfl
  have hcz33_1 : w28.cell? ⟨gb226, 1, none⟩ = some (.slice A0_1 l0_1.length c0_1) := (blk_cell BK226.out 1).trans rfl
  have hfz33_0 := blk_frozen BK226.out 0
  have hfz33_1 := blk_frozen BK226.out 1
  try go_wp2_with (first | ((with_reducible refine gate_callee (f := 20) rfl ?_); refine goesL_ (some 30) rfl rfl Try.func20 (by kernel_rfl) rfl #[.agg #[.int .i64 a0_0, .slice A0_1 l0_1.length c0_1]] rfl itp ?_; (with_reducible refine (laws_toNet.calls k a0_0 _ _ l0_1 t241 t242 _ ?side1 ?side2 A13.out).mono ?_); (case side1 => exact Kd.C_below HR0_1.out (upW HB)); (case side2 => exact HC0_1.out); rintro e w34 ⟨v243, rfl, ho0, hb⟩; refine ⟨_, rfl, ?_⟩; have n0_ := Aside0.mk (Kd.R_elder' (by (with_reducible repeat (first | apply Kd.R_alloc | apply Kd.R_drewN | apply Kd.R_drew)); exact (Kd.R_mono (Kd.R_far (p := ⟨gb240, 1, none⟩) (Kd.R_far (p := ⟨gb240, 0, none⟩) (Kd.R_types HO232.out BK240.out (by decide)) (fun _ hk => hk.2) (.int .i64 t235)) (fun _ hk => hk.2) (.slice Ao30 t236.length co30)) (fun _ h_ => h_.1))) (Kd.R_base ho0) hb); have n1_ := Aside0.mk (Kd.R_elder' (by (with_reducible repeat (first | apply Kd.R_alloc | apply Kd.R_drewN | apply Kd.R_drew)); exact (Kd.R_mono (Kd.R_far (p := ⟨gb240, 1, none⟩) (Kd.R_far (p := ⟨gb240, 0, none⟩) (Kd.R_types HO238.out BK240.out (by decide)) (fun _ hk => hk.2) (.int .i64 t235)) (fun _ hk => hk.2) (.slice Ao30 t236.length co30)) (fun _ h_ => h_.1))) (Kd.R_base ho0) hb); have n2_ := Aside0.mk (Kd.R_lower (Kd.R_new' (Kd.R_new' ho0 (Kd.R_lt (by (with_reducible repeat (first | apply Kd.R_alloc | apply Kd.R_drewN | apply Kd.R_drew)); exact (Kd.R_mono (Kd.R_far (p := ⟨gb240, 1, none⟩) (Kd.R_far (p := ⟨gb240, 0, none⟩) (Kd.R_types HO232.out BK240.out (by decide)) (fun _ hk => hk.2) (.int .i64 t235)) (fun _ hk => hk.2) (.slice Ao30 t236.length co30)) (fun _ h_ => h_.1))))) (Kd.R_lt (by (with_reducible repeat (first | apply Kd.R_alloc | apply Kd.R_drewN | apply Kd.R_drew)); exact (Kd.R_mono (Kd.R_far (p := ⟨gb240, 1, none⟩) (Kd.R_far (p := ⟨gb240, 0, none⟩) (Kd.R_types HO238.out BK240.out (by decide)) (fun _ hk => hk.2) (.int .i64 t235)) (fun _ hk => hk.2) (.slice Ao30 t236.length co30)) (fun _ h_ => h_.1))))) (below_size (upW HB))); have n3_ := Aside0.mk (blk_below (upF BK226) hb); have n4_ := Aside0.mk (blk_below (upF BK227) hb); have n5_ := Aside0.mk (blk_below (g := gb240) (o := .cells #[.int .i64 t235, .slice Ao30 t236.length co30] 40 (0, 0)) (by (with_reducible repeat (first | refine blk_drewN ?_ _ | refine blk_drew ?_ | refine blk_alloc ?_ _)); refine blk_put (cs := #[.int .i64 t235, .slice none 0 0]) ?_ 1 _ rfl; (with_reducible repeat (first | refine blk_drewN ?_ _ | refine blk_drew ?_ | refine blk_alloc ?_ _)); refine blk_put (cs := #[.int .i64 0, .slice none 0 0]) ?_ 0 _ rfl; (with_reducible repeat (first | refine blk_drewN ?_ _ | refine blk_drew ?_ | refine blk_alloc ?_ _)); exact BK240.out) hb); have n6_ := Aside0.mk (below_step (upW HB) hb); clear HO232; clear HO238; clear BK226; clear BK227; clear BK240; clear HB; have HO232 := n0_; have HO238 := n1_; have HO244 := n2_; have BK226 := n3_; have BK227 := n4_; have BK240 := n5_; have HB := n6_; clear n0_ n1_ n2_ n3_ n4_ n5_ n6_; (try clear hb); (try clear hb2); (try clear hk); (try clear hi); (try clear ho0)) | ((with_reducible refine gate_dst (N := 8) rfl ?_); refine box_event ?hg (N := 8) ?hd (cs := #[.int .i64 0, .slice none 0 0]) (t := 40) ?hr ?_; (case hd => rfl); (case hg => rfl); (case hr => first | (go_simp; done) | (go_simp; rfl)); intro gb245 hg w35 hbox hb; have n0_ := Aside0.mk (Kd.R_below (upR HO232) hb); have n1_ := Aside0.mk (Kd.R_below (upR HO238) hb); have n2_ := Aside0.mk (Kd.R_below (upR HO244) hb); have n3_ := Aside0.mk (blk_below (upK BK226) hb); have n4_ := Aside0.mk (blk_below (upK BK227) hb); have n5_ := Aside0.mk (blk_below (upK BK240) hb); have n6_ := Aside0.mk (below_step (upW HB) hb); have n7_ := Aside0.mk (hbox); have n8_ := Aside0.mk ((by rw [hg]; exact (below_size (upW HB)) : w.heap.size ≤ gb245)); have n9_ := Aside0.mk ((by rw [hg]; exact (below_size (upW HB)) : w.heap.size ≤ gb245)); have n10_ := Aside0.mk ((by rw [hg]; exact Nat.ne_of_lt (blk_lt (upK BK226)) : gb226 ≠ gb245)); have n11_ := Aside0.mk ((by rw [hg]; exact Nat.ne_of_gt (blk_lt (upK BK226)) : gb245 ≠ gb226)); have n12_ := Aside0.mk ((by rw [hg]; exact Nat.ne_of_lt (blk_lt (upK BK227)) : gb227 ≠ gb245)); have n13_ := Aside0.mk ((by rw [hg]; exact Nat.ne_of_gt (blk_lt (upK BK227)) : gb245 ≠ gb227)); have n14_ := Aside0.mk ((by rw [hg]; exact Nat.ne_of_lt (blk_lt (upK BK240)) : gb240 ≠ gb245)); have n15_ := Aside0.mk ((by rw [hg]; exact Nat.ne_of_gt (blk_lt (upK BK240)) : gb245 ≠ gb240)); clear HO232; clear HO238; clear HO244; clear BK226; clear BK227; clear BK240; clear HB; have HO232 := n0_; have HO238 := n1_; have HO244 := n2_; have BK226 := n3_; have BK227 := n4_; have BK240 := n5_; have HB := n6_; have BK245 := n7_; have GW245 := n8_; have GE245 := n9_; have NB226_245 := n10_; have NB245_226 := n11_; have NB227_245 := n12_; have NB245_227 := n13_; have NB240_245 := n14_; have NB245_240 := n15_; clear n0_ n1_ n2_ n3_ n4_ n5_ n6_ n7_ n8_ n9_ n10_ n11_ n12_ n13_ n14_ n15_; clear hb hbox hg; have hnb36 := NB245_226.out; have hnc36 := NB226_245.out; have hnb37 := NB245_227.out; have hnc37 := NB227_245.out; have hnb38 := NB245_240.out; have hnc38 := NB240_245.out; have hcz39_0 : w35.cell? ⟨gb245, 0, none⟩ = some (.int .i64 0) := (blk_cell BK245.out 0).trans rfl; have hcz39_1 : w35.cell? ⟨gb245, 1, none⟩ = some (.slice none 0 0) := (blk_cell BK245.out 1).trans rfl; have hfz39_0 := blk_frozen BK245.out 0; have hfz39_1 := blk_frozen BK245.out 1; obtain ⟨Ao40, co40, eo40⟩ := Kd.R_slice HO244.out; subst eo40))
  have n0_ : Aside0 (Kd.R k55 55 ((w35.setCell ⟨gb245, 0, none⟩ (.int .i64 t241)).setCell ⟨gb245, 1, none⟩ (.slice Ao40 t242.length co40)) w.heap.size (fun k_ => some k_ ≠ (.slice Ao30 t236.length co30 : Value).ownBlock ∧ some k_ ≠ (.slice Ao40 t242.length co40 : Value).ownBlock) v231 t230) := ⟨by (with_reducible repeat (first | apply Kd.R_alloc | apply Kd.R_drewN | apply Kd.R_drew)); exact Kd.R_mono (Kd.R_far (p := ⟨gb245, 1, none⟩) (Kd.R_far (p := ⟨gb245, 0, none⟩) (Kd.R_types HO232.out BK245.out (by decide)) (fun _ hk => hk.2) (.int .i64 t241)) (fun _ hk => hk.2) (.slice Ao40 t242.length co40)) (fun _ hk => ⟨hk.1.1, hk.1.2⟩)⟩
  have n1_ : Aside0 (Kd.R k55 55 ((w35.setCell ⟨gb245, 0, none⟩ (.int .i64 t241)).setCell ⟨gb245, 1, none⟩ (.slice Ao40 t242.length co40)) w.heap.size (fun k_ => some k_ ≠ (v231 : Value).ownBlock ∧ some k_ ≠ (.slice Ao40 t242.length co40 : Value).ownBlock) (.slice Ao30 t236.length co30) t236) := ⟨by (with_reducible repeat (first | apply Kd.R_alloc | apply Kd.R_drewN | apply Kd.R_drew)); exact Kd.R_mono (Kd.R_far (p := ⟨gb245, 1, none⟩) (Kd.R_far (p := ⟨gb245, 0, none⟩) (Kd.R_types HO238.out BK245.out (by decide)) (fun _ hk => hk.2) (.int .i64 t241)) (fun _ hk => hk.2) (.slice Ao40 t242.length co40)) (fun _ hk => ⟨hk.1.1, hk.1.2⟩)⟩
  have n2_ : Aside0 (Kd.R k55 55 ((w35.setCell ⟨gb245, 0, none⟩ (.int .i64 t241)).setCell ⟨gb245, 1, none⟩ (.slice Ao40 t242.length co40)) w.heap.size (fun k_ => some k_ ≠ (v231 : Value).ownBlock ∧ some k_ ≠ (.slice Ao30 t236.length co30 : Value).ownBlock) (.slice Ao40 t242.length co40) t242) := ⟨by (with_reducible repeat (first | apply Kd.R_alloc | apply Kd.R_drewN | apply Kd.R_drew)); exact Kd.R_mono (Kd.R_far (p := ⟨gb245, 1, none⟩) (Kd.R_far (p := ⟨gb245, 0, none⟩) (Kd.R_types HO244.out BK245.out (by decide)) (fun _ hk => hk.2) (.int .i64 t241)) (fun _ hk => hk.2) (.slice Ao40 t242.length co40)) (fun _ hk => ⟨hk.1.1.2, hk.1.2⟩)⟩
  have n3_ : Aside0 (((w35.setCell ⟨gb245, 0, none⟩ (.int .i64 t241)).setCell ⟨gb245, 1, none⟩ (.slice Ao40 t242.length co40)).heap[gb226]? = some (.cells #[.int .i64 a0_0, .slice A0_1 l0_1.length c0_1] 35 (0, 0))) := ⟨upF BK226⟩
  have n4_ : Aside0 (((w35.setCell ⟨gb245, 0, none⟩ (.int .i64 t241)).setCell ⟨gb245, 1, none⟩ (.slice Ao40 t242.length co40)).heap[gb227]? = some (.cells #[.int .i64 a1_0, .int .i64 a1_1] 53 (0, 0))) := ⟨upF BK227⟩
  have n5_ : Aside0 (((w35.setCell ⟨gb245, 0, none⟩ (.int .i64 t241)).setCell ⟨gb245, 1, none⟩ (.slice Ao40 t242.length co40)).heap[gb240]? = some (.cells #[.int .i64 t235, .slice Ao30 t236.length co30] 40 (0, 0))) := ⟨upF BK240⟩
  have n6_ : Aside0 (((w35.setCell ⟨gb245, 0, none⟩ (.int .i64 t241)).setCell ⟨gb245, 1, none⟩ (.slice Ao40 t242.length co40)).heap[gb245]? = some (.cells #[.int .i64 t241, .slice Ao40 t242.length co40] 40 (0, 0))) := ⟨by (with_reducible repeat (first | refine blk_drewN ?_ _ | refine blk_drew ?_ | refine blk_alloc ?_ _)); refine blk_put (cs := #[.int .i64 t241, .slice none 0 0]) ?_ 1 _ rfl; (with_reducible repeat (first | refine blk_drewN ?_ _ | refine blk_drew ?_ | refine blk_alloc ?_ _)); refine blk_put (cs := #[.int .i64 0, .slice none 0 0]) ?_ 0 _ rfl; (with_reducible repeat (first | refine blk_drewN ?_ _ | refine blk_drew ?_ | refine blk_alloc ?_ _)); exact BK245.out⟩
  have n7_ : Aside0 (Below w.heap.size w ((w35.setCell ⟨gb245, 0, none⟩ (.int .i64 t241)).setCell ⟨gb245, 1, none⟩ (.slice Ao40 t242.length co40))) := ⟨upW HB⟩
  (try clear HO232)
  (try clear HO238)
  (try clear HO244)
  (try clear BK226)
  (try clear BK227)
  (try clear BK240)
  (try clear BK245)
  (try clear HB)
  generalize ((w35.setCell ⟨gb245, 0, none⟩ (.int .i64 t241)).setCell ⟨gb245, 1, none⟩ (.slice Ao40 t242.length co40)) = w41 at n0_ n1_ n2_ n3_ n4_ n5_ n6_ n7_ ⊢
  have HO232 := n0_
  have HO238 := n1_
  have HO244 := n2_
  have BK226 := n3_
  have BK227 := n4_
  have BK240 := n5_
  have BK245 := n6_
  have HB := n7_
  clear n0_ n1_ n2_ n3_ n4_ n5_ n6_ n7_
  have n0_ := Aside0.mk (Kd.R_drew HO232.out)
  have n1_ := Aside0.mk (Kd.R_drew HO238.out)
  have n2_ := Aside0.mk (Kd.R_drew HO244.out)
  have n3_ := Aside0.mk (blk_drew BK226.out)
  have n4_ := Aside0.mk (blk_drew BK227.out)
  have n5_ := Aside0.mk (blk_drew BK240.out)
  have n6_ := Aside0.mk (blk_drew BK245.out)
  have n7_ := Aside0.mk (below_drew1 HB.out)
  clear HO232
  clear HO238
  clear HO244
  clear BK226
  clear BK227
  clear BK240
  clear BK245
  clear HB
  have HO232 := n0_
  have HO238 := n1_
  have HO244 := n2_
  have BK226 := n3_
  have BK227 := n4_
  have BK240 := n5_
  have BK245 := n6_
  have HB := n7_
  clear n0_ n1_ n2_ n3_ n4_ n5_ n6_ n7_
  refine start_ (n := 10) (S := fun w' => w'.cell? ⟨gb245, 0, none⟩ = some (.int .i64 t241) ∧ w'.cell? ⟨gb245, 1, none⟩ = some (.slice Ao40 t242.length co40) ∧ w'.cell? ⟨gb227, 0, none⟩ = some (.int .i64 a1_0) ∧ w'.cell? ⟨gb227, 1, none⟩ = some (.int .i64 a1_1)) (ds := []) #[false, false, false, false, false, false, false, false, false, false] (by kernel_rfl) rfl rfl ⟨(blk_cell BK245.out 0).trans rfl, (blk_cell BK245.out 1).trans rfl, (blk_cell BK227.out 0).trans rfl, (blk_cell BK227.out 1).trans rfl⟩ (fun hHeld => ?_); refine with_tabW laws_FnExactAddWire.tab7 laws_FnExactAddWire.bits7 (fun HT_ HW_ => ?_)
  generalize w41.drew = w42 at HO232 HO238 HO244 BK226 BK227 BK240 BK245 HB hHeld ⊢
  refine take_ (i := 0) (N := some 32) (v := ?_) (a' := ?_) #[true, false, false, false, false, false, false, false, false, false] rfl rfl (take_ofW HT_.out HW_.out (by kernel_rfl)) (fun _ _ _ h => h) (Or.inl ⟨by rfl, ?_⟩) hHeld ?_ ?_
  rotate_left
  ·rintro w' ⟨s0, s1, s2, s3⟩
   go_simp
   with_reducible rfl
  rotate_left
  ·simp only [Act.put, List.setIfInBounds_toArray, List.set_cons_zero, List.set_cons_succ, i64_w, i32_w]
   rfl
  refine take_ (i := 1) (N := some 33) (v := ?_) (a' := ?_) #[true, true, false, false, false, false, false, false, false, false] rfl rfl (take_ofW HT_.out HW_.out (by kernel_rfl)) (fun _ _ _ h => h) (Or.inl ⟨by rfl, ?_⟩) hHeld ?_ ?_
  rotate_left
  ·rintro w' ⟨s0, s1, s2, s3⟩
   go_simp
   with_reducible rfl
  rotate_left
  ·simp only [Act.put, List.setIfInBounds_toArray, List.set_cons_zero, List.set_cons_succ, i64_w, i32_w]
   rfl
  refine join_ (σ := Value × Nat) 2 #[true, true, true, true, true, true, true, true, false, false] (fun s_ => [(34, .agg #[.int .i64 t246, .int .i64 t247]), (35, .tuple #[.agg #[.int .i64 t248, s_.1], .bool t252]), (9, .pointer (some ⟨s_.2, 0, none⟩)), (31, .tuple #[.agg #[.int .i64 t248, s_.1], .bool t252]), (36, .agg #[.int .i64 t248, s_.1]), (37, .bool t252)]) (fun s_ w' => (w'.cell? ⟨gb245, 0, none⟩ = some (.int .i64 t241) ∧ w'.cell? ⟨gb245, 1, none⟩ = some (.slice Ao40 t242.length co40) ∧ w'.cell? ⟨gb227, 0, none⟩ = some (.int .i64 a1_0) ∧ w'.cell? ⟨gb227, 1, none⟩ = some (.int .i64 a1_1)) ∧ (Kd.R k55 55 w' w.heap.size (fun k_ => some k_ ≠ (.slice Ao30 t236.length co30 : Value).ownBlock ∧ some k_ ≠ (.slice Ao40 t242.length co40 : Value).ownBlock ∧ some k_ ≠ (s_.1 : Value).ownBlock) v231 t230) ∧ (Kd.R k55 55 w' w.heap.size (fun k_ => some k_ ≠ (v231 : Value).ownBlock ∧ some k_ ≠ (.slice Ao40 t242.length co40 : Value).ownBlock ∧ some k_ ≠ (s_.1 : Value).ownBlock) (.slice Ao30 t236.length co30) t236) ∧ (Kd.R k55 55 w' w.heap.size (fun k_ => some k_ ≠ (v231 : Value).ownBlock ∧ some k_ ≠ (.slice Ao30 t236.length co30 : Value).ownBlock ∧ some k_ ≠ (s_.1 : Value).ownBlock) (.slice Ao40 t242.length co40) t242) ∧ (Kd.R k55 55 w' w.heap.size (fun k_ => some k_ ≠ (v231 : Value).ownBlock ∧ some k_ ≠ (.slice Ao30 t236.length co30 : Value).ownBlock ∧ some k_ ≠ (.slice Ao40 t242.length co40 : Value).ownBlock) s_.1 t249) ∧ (w'.heap[gb226]? = some (.cells #[.int .i64 a0_0, .slice A0_1 l0_1.length c0_1] 35 (0, 0))) ∧ (w'.heap[gb227]? = some (.cells #[.int .i64 a1_0, .int .i64 a1_1] 53 (0, 0))) ∧ (w'.heap[gb240]? = some (.cells #[.int .i64 t235, .slice Ao30 t236.length co30] 40 (0, 0))) ∧ (w'.heap[gb245]? = some (.cells #[.int .i64 t241, .slice Ao40 t242.length co40] 40 (0, 0))) ∧ (w'.heap[s_.2]? = some (.cells #[.int .i64 0, .slice none 0 0] 40 (0, 0))) ∧ (w.heap.size ≤ s_.2) ∧ (w.heap.size ≤ s_.2) ∧ (gb226 ≠ s_.2) ∧ (s_.2 ≠ gb226) ∧ (gb227 ≠ s_.2) ∧ (s_.2 ≠ gb227) ∧ (gb240 ≠ s_.2) ∧ (s_.2 ≠ gb240) ∧ (gb245 ≠ s_.2) ∧ (s_.2 ≠ gb245) ∧ (Below w.heap.size w w')) ?_ ?_
  rotate_left
  ·intro hCont
   refine two_ (i := 2) (j := 7) (Ni := some 34) (Nj := some 9) #[true, true, true, false, false, false, false, false, false, false] #[true, true, false, false, false, false, false, true, false, false] rfl rfl rfl rfl (two_of HT_.out (by kernel_rfl)) (by decide) (by decide) (fun K hK => ?_) (fun K hK => ?_)
   ·skip
    refine goes_ Try.func32 (by kernel_rfl) rfl #[.agg #[.int .i64 a1_0, .int .i64 a1_1]] (by rfl) rfl rfl itp ?_
    with_reducible refine (laws_toWire.calls a1_0 a1_1 t246 t247 _ A14.out).mono ?_
    rintro e w43 ⟨rfl, hb⟩
    refine ⟨_, rfl, ?_⟩
    have n0_ := Aside0.mk (Kd.R_below (upR HO232) hb)
    have n1_ := Aside0.mk (Kd.R_below (upR HO238) hb)
    have n2_ := Aside0.mk (Kd.R_below (upR HO244) hb)
    have n3_ := Aside0.mk (blk_below (upK BK226) hb)
    have n4_ := Aside0.mk (blk_below (upK BK227) hb)
    have n5_ := Aside0.mk (blk_below (upK BK240) hb)
    have n6_ := Aside0.mk (blk_below (upK BK245) hb)
    have n7_ := Aside0.mk (below_step (upW HB) hb)
    clear HO232
    clear HO238
    clear HO244
    clear BK226
    clear BK227
    clear BK240
    clear BK245
    clear HB
    have HO232 := n0_
    have HO238 := n1_
    have HO244 := n2_
    have BK226 := n3_
    have BK227 := n4_
    have BK240 := n5_
    have BK245 := n6_
    have HB := n7_
    clear n0_ n1_ n2_ n3_ n4_ n5_ n6_ n7_
    (try clear hb)
    (try clear hb2)
    (try clear hk)
    (try clear hi)
    refine hK.out _ _ ⟨(blk_cell BK245.out 0).trans rfl, (blk_cell BK245.out 1).trans rfl, (blk_cell BK227.out 0).trans rfl, (blk_cell BK227.out 1).trans rfl⟩ (fun hHeld => ?_)
    clear hK K
    refine norm_ (a' := ?_) ?_ ?_
    rotate_left
    ·show Act.put _ (some 34) _ = _
     simp only [Act.put, List.setIfInBounds_toArray, List.set_cons_zero, List.set_cons_succ, i64_w, i32_w]
     rfl
    refine two_ (i := 3) (j := 7) (Ni := some 35) (Nj := some 9) #[true, true, true, true, false, false, false, false, false, false] #[true, true, true, false, false, false, false, true, false, false] rfl rfl rfl rfl (two_of HT_.out (by kernel_rfl)) (by decide) (by decide) (fun K hK => ?_) (fun K hK => ?_)
    ·skip
     refine goes_ Try.func33 (by kernel_rfl) rfl #[.agg #[.int .i64 t241, .slice Ao40 t242.length co40], .agg #[.int .i64 t246, .int .i64 t247]] (by rfl) rfl rfl itp ?_
     with_reducible refine (impl_AddWire.calls k t241 _ _ t242 t246 t247 t248 t249 t252 _ ?side1 ?side2 A15.out).mono ?_
     (case side1 => repeat (first | exact (Kd.R_reads' HO244.out).2.2 | (with_reducible refine Kd.C_alloc ?_ _) | (with_reducible refine Kd.C_drewN ?_ _) | (with_reducible refine Kd.C_drew ?_)))
     (case side2 => exact (Kd.R_reads' HO244.out).2.1)
     rintro e w44 ⟨v250, rfl, ho0, hb⟩
     refine ⟨_, rfl, ?_⟩
     have n0_ := Aside0.mk (Kd.R_elder' (upR HO232) (Kd.R_base ho0) hb)
     have n1_ := Aside0.mk (Kd.R_elder' (upR HO238) (Kd.R_base ho0) hb)
     have n2_ := Aside0.mk (Kd.R_elder' (upR HO244) (Kd.R_base ho0) hb)
     have n3_ := Aside0.mk (Kd.R_lower (Kd.R_new' (Kd.R_new' (Kd.R_new' ho0 (Kd.R_lt (upR HO232))) (Kd.R_lt (upR HO238))) (Kd.R_lt (upR HO244))) (below_size (upW HB)))
     have n4_ := Aside0.mk (blk_below (upK BK226) hb)
     have n5_ := Aside0.mk (blk_below (upK BK227) hb)
     have n6_ := Aside0.mk (blk_below (upK BK240) hb)
     have n7_ := Aside0.mk (blk_below (upK BK245) hb)
     have n8_ := Aside0.mk (below_step (upW HB) hb)
     clear HO232
     clear HO238
     clear HO244
     clear BK226
     clear BK227
     clear BK240
     clear BK245
     clear HB
     have HO232 := n0_
     have HO238 := n1_
     have HO244 := n2_
     have HO251 := n3_
     have BK226 := n4_
     have BK227 := n5_
     have BK240 := n6_
     have BK245 := n7_
     have HB := n8_
     clear n0_ n1_ n2_ n3_ n4_ n5_ n6_ n7_ n8_
     (try clear hb)
     (try clear hb2)
     (try clear hk)
     (try clear hi)
     (try clear ho0)
     refine hK.out _ _ ⟨(blk_cell BK245.out 0).trans rfl, (blk_cell BK245.out 1).trans rfl, (blk_cell BK227.out 0).trans rfl, (blk_cell BK227.out 1).trans rfl⟩ (fun hHeld => ?_)
     clear hK K
     refine norm_ (a' := ?_) ?_ ?_
     rotate_left
     ·show Act.put _ (some 35) _ = _
      simp only [Act.put, List.setIfInBounds_toArray, List.set_cons_zero, List.set_cons_succ, i64_w, i32_w]
      rfl
     refine pure_ (i := 4) (N := some 31) (v := ?_) (a' := ?_) #[true, true, true, true, true, false, false, false, false, false] rfl rfl (any_of HT_.out (by kernel_rfl)) (fun _ _ _ h => h) (Or.inl ⟨by rfl, ?_⟩) ?_ ?_
     rotate_left
     ·intro w'
      go_simp
      with_reducible rfl
     rotate_left
     ·simp only [Act.put, List.setIfInBounds_toArray, List.set_cons_zero, List.set_cons_succ, i64_w, i32_w]
      rfl
     refine pure_ (i := 5) (N := some 36) (v := ?_) (a' := ?_) #[true, true, true, true, true, true, false, false, false, false] rfl rfl (any_of HT_.out (by kernel_rfl)) (fun _ _ _ h => h) (Or.inl ⟨by rfl, ?_⟩) ?_ ?_
     rotate_left
     ·intro w'
      go_simp
      with_reducible rfl
     rotate_left
     ·simp only [Act.put, List.setIfInBounds_toArray, List.set_cons_zero, List.set_cons_succ, i64_w, i32_w]
      rfl
     refine pure_ (i := 6) (N := some 37) (v := ?_) (a' := ?_) #[true, true, true, true, true, true, true, false, false, false] rfl rfl (any_of HT_.out (by kernel_rfl)) (fun _ _ _ h => h) (Or.inl ⟨by rfl, ?_⟩) ?_ ?_
     rotate_left
     ·intro w'
      go_simp
      with_reducible rfl
     rotate_left
     ·simp only [Act.put, List.setIfInBounds_toArray, List.set_cons_zero, List.set_cons_succ, i64_w, i32_w]
      rfl
     refine one_ (i := 7) (N := some 9) #[true, true, true, true, true, true, true, true, false, false] rfl rfl (one_of HT_.out (by kernel_rfl)) (by decide) (fun K hK => ?_)
     refine box_step ?hg (N := 9) ?hd (cs := #[.int .i64 0, .slice none 0 0]) (t := 40) ?hr ?_; (case hd => rfl); (case hg => rfl); (case hr => first | (go_simp; done) | (go_simp; rfl))
     intro gb253 hg w45 hbox hb
     have n0_ := Aside0.mk (Kd.R_below (upR HO232) hb)
     have n1_ := Aside0.mk (Kd.R_below (upR HO238) hb)
     have n2_ := Aside0.mk (Kd.R_below (upR HO244) hb)
     have n3_ := Aside0.mk (Kd.R_below (upR HO251) hb)
     have n4_ := Aside0.mk (blk_below (upK BK226) hb)
     have n5_ := Aside0.mk (blk_below (upK BK227) hb)
     have n6_ := Aside0.mk (blk_below (upK BK240) hb)
     have n7_ := Aside0.mk (blk_below (upK BK245) hb)
     have n8_ := Aside0.mk (below_step (upW HB) hb)
     have n9_ := Aside0.mk (hbox)
     have n10_ := Aside0.mk ((by rw [hg]; exact (below_size (upW HB)) : w.heap.size ≤ gb253))
     have n11_ := Aside0.mk ((by rw [hg]; exact (below_size (upW HB)) : w.heap.size ≤ gb253))
     have n12_ := Aside0.mk ((by rw [hg]; exact Nat.ne_of_lt (blk_lt (upK BK226)) : gb226 ≠ gb253))
     have n13_ := Aside0.mk ((by rw [hg]; exact Nat.ne_of_gt (blk_lt (upK BK226)) : gb253 ≠ gb226))
     have n14_ := Aside0.mk ((by rw [hg]; exact Nat.ne_of_lt (blk_lt (upK BK227)) : gb227 ≠ gb253))
     have n15_ := Aside0.mk ((by rw [hg]; exact Nat.ne_of_gt (blk_lt (upK BK227)) : gb253 ≠ gb227))
     have n16_ := Aside0.mk ((by rw [hg]; exact Nat.ne_of_lt (blk_lt (upK BK240)) : gb240 ≠ gb253))
     have n17_ := Aside0.mk ((by rw [hg]; exact Nat.ne_of_gt (blk_lt (upK BK240)) : gb253 ≠ gb240))
     have n18_ := Aside0.mk ((by rw [hg]; exact Nat.ne_of_lt (blk_lt (upK BK245)) : gb245 ≠ gb253))
     have n19_ := Aside0.mk ((by rw [hg]; exact Nat.ne_of_gt (blk_lt (upK BK245)) : gb253 ≠ gb245))
     clear HO232
     clear HO238
     clear HO244
     clear HO251
     clear BK226
     clear BK227
     clear BK240
     clear BK245
     clear HB
     have HO232 := n0_
     have HO238 := n1_
     have HO244 := n2_
     have HO251 := n3_
     have BK226 := n4_
     have BK227 := n5_
     have BK240 := n6_
     have BK245 := n7_
     have HB := n8_
     have BK253 := n9_
     have GW253 := n10_
     have GE253 := n11_
     have NB226_253 := n12_
     have NB253_226 := n13_
     have NB227_253 := n14_
     have NB253_227 := n15_
     have NB240_253 := n16_
     have NB253_240 := n17_
     have NB245_253 := n18_
     have NB253_245 := n19_
     clear n0_ n1_ n2_ n3_ n4_ n5_ n6_ n7_ n8_ n9_ n10_ n11_ n12_ n13_ n14_ n15_ n16_ n17_ n18_ n19_
     clear hb hbox hg
     refine hK.out _ _ ⟨(blk_cell BK245.out 0).trans rfl, (blk_cell BK245.out 1).trans rfl, (blk_cell BK227.out 0).trans rfl, (blk_cell BK227.out 1).trans rfl⟩ (fun hHeld => ?_)
     clear hK K
     refine norm_ (a' := ?_) ?_ ?_
     rotate_left
     ·show Act.put _ (some 9) _ = _
      simp only [Act.put, List.setIfInBounds_toArray, List.set_cons_zero, List.set_cons_succ, i64_w, i32_w]
      rfl
     exact norm_ (by simp only [putAll, Act.put, List.setIfInBounds_toArray, List.set_cons_zero, List.set_cons_succ]) (hCont (v250, gb253) _ ⟨hHeld, (by (with_reducible repeat (first | apply Kd.R_alloc | apply Kd.R_drewN | apply Kd.R_drew)); exact Kd.R_mono HO232.out (fun _ hk => ⟨hk.1.1, ⟨hk.1.2, hk.2⟩⟩)), (by (with_reducible repeat (first | apply Kd.R_alloc | apply Kd.R_drewN | apply Kd.R_drew)); exact Kd.R_mono HO238.out (fun _ hk => ⟨hk.1.1, ⟨hk.1.2, hk.2⟩⟩)), (by (with_reducible repeat (first | apply Kd.R_alloc | apply Kd.R_drewN | apply Kd.R_drew)); exact Kd.R_mono HO244.out (fun _ hk => ⟨hk.1.1, ⟨hk.1.2, hk.2⟩⟩)), (by (with_reducible repeat (first | apply Kd.R_alloc | apply Kd.R_drewN | apply Kd.R_drew)); exact Kd.R_mono HO251.out (fun _ hk => ⟨hk.1.1.2, ⟨hk.1.2, hk.2⟩⟩)), (upK BK226), (upK BK227), (upK BK240), (upK BK245), (upK BK253), GW253.out, GE253.out, NB226_253.out, NB253_226.out, NB227_253.out, NB253_227.out, NB240_253.out, NB253_240.out, NB245_253.out, NB253_245.out, (upW HB)⟩)
    ·skip
     refine box_step ?hg (N := 9) ?hd (cs := #[.int .i64 0, .slice none 0 0]) (t := 40) ?hr ?_; (case hd => rfl); (case hg => rfl); (case hr => first | (go_simp; done) | (go_simp; rfl))
     intro gb253 hg w44 hbox hb
     have n0_ := Aside0.mk (Kd.R_below (upR HO232) hb)
     have n1_ := Aside0.mk (Kd.R_below (upR HO238) hb)
     have n2_ := Aside0.mk (Kd.R_below (upR HO244) hb)
     have n3_ := Aside0.mk (blk_below (upK BK226) hb)
     have n4_ := Aside0.mk (blk_below (upK BK227) hb)
     have n5_ := Aside0.mk (blk_below (upK BK240) hb)
     have n6_ := Aside0.mk (blk_below (upK BK245) hb)
     have n7_ := Aside0.mk (below_step (upW HB) hb)
     have n8_ := Aside0.mk (hbox)
     have n9_ := Aside0.mk ((by rw [hg]; exact (below_size (upW HB)) : w.heap.size ≤ gb253))
     have n10_ := Aside0.mk ((by rw [hg]; exact (below_size (upW HB)) : w.heap.size ≤ gb253))
     have n11_ := Aside0.mk ((by rw [hg]; exact Nat.ne_of_lt (blk_lt (upK BK226)) : gb226 ≠ gb253))
     have n12_ := Aside0.mk ((by rw [hg]; exact Nat.ne_of_gt (blk_lt (upK BK226)) : gb253 ≠ gb226))
     have n13_ := Aside0.mk ((by rw [hg]; exact Nat.ne_of_lt (blk_lt (upK BK227)) : gb227 ≠ gb253))
     have n14_ := Aside0.mk ((by rw [hg]; exact Nat.ne_of_gt (blk_lt (upK BK227)) : gb253 ≠ gb227))
     have n15_ := Aside0.mk ((by rw [hg]; exact Nat.ne_of_lt (blk_lt (upK BK240)) : gb240 ≠ gb253))
     have n16_ := Aside0.mk ((by rw [hg]; exact Nat.ne_of_gt (blk_lt (upK BK240)) : gb253 ≠ gb240))
     have n17_ := Aside0.mk ((by rw [hg]; exact Nat.ne_of_lt (blk_lt (upK BK245)) : gb245 ≠ gb253))
     have n18_ := Aside0.mk ((by rw [hg]; exact Nat.ne_of_gt (blk_lt (upK BK245)) : gb253 ≠ gb245))
     clear HO232
     clear HO238
     clear HO244
     clear BK226
     clear BK227
     clear BK240
     clear BK245
     clear HB
     have HO232 := n0_
     have HO238 := n1_
     have HO244 := n2_
     have BK226 := n3_
     have BK227 := n4_
     have BK240 := n5_
     have BK245 := n6_
     have HB := n7_
     have BK253 := n8_
     have GW253 := n9_
     have GE253 := n10_
     have NB226_253 := n11_
     have NB253_226 := n12_
     have NB227_253 := n13_
     have NB253_227 := n14_
     have NB240_253 := n15_
     have NB253_240 := n16_
     have NB245_253 := n17_
     have NB253_245 := n18_
     clear n0_ n1_ n2_ n3_ n4_ n5_ n6_ n7_ n8_ n9_ n10_ n11_ n12_ n13_ n14_ n15_ n16_ n17_ n18_
     clear hb hbox hg
     refine hK.out _ _ ⟨(blk_cell BK245.out 0).trans rfl, (blk_cell BK245.out 1).trans rfl, (blk_cell BK227.out 0).trans rfl, (blk_cell BK227.out 1).trans rfl⟩ (fun hHeld => ?_)
     clear hK K
     refine norm_ (a' := ?_) ?_ ?_
     rotate_left
     ·show Act.put _ (some 9) _ = _
      simp only [Act.put, List.setIfInBounds_toArray, List.set_cons_zero, List.set_cons_succ, i64_w, i32_w]
      rfl
     refine one_ (i := 3) (N := some 35) #[true, true, true, true, false, false, false, true, false, false] rfl rfl (one_of HT_.out (by kernel_rfl)) (by decide) (fun K hK => ?_)
     refine goes_ Try.func33 (by kernel_rfl) rfl #[.agg #[.int .i64 t241, .slice Ao40 t242.length co40], .agg #[.int .i64 t246, .int .i64 t247]] (by rfl) rfl rfl itp ?_
     with_reducible refine (impl_AddWire.calls k t241 _ _ t242 t246 t247 t248 t249 t252 _ ?side1 ?side2 A15.out).mono ?_
     (case side1 => repeat (first | exact (Kd.R_reads' HO244.out).2.2 | (with_reducible refine Kd.C_alloc ?_ _) | (with_reducible refine Kd.C_drewN ?_ _) | (with_reducible refine Kd.C_drew ?_)))
     (case side2 => exact (Kd.R_reads' HO244.out).2.1)
     rintro e w45 ⟨v250, rfl, ho0, hb⟩
     refine ⟨_, rfl, ?_⟩
     have n0_ := Aside0.mk (Kd.R_elder' (upR HO232) (Kd.R_base ho0) hb)
     have n1_ := Aside0.mk (Kd.R_elder' (upR HO238) (Kd.R_base ho0) hb)
     have n2_ := Aside0.mk (Kd.R_elder' (upR HO244) (Kd.R_base ho0) hb)
     have n3_ := Aside0.mk (Kd.R_lower (Kd.R_new' (Kd.R_new' (Kd.R_new' ho0 (Kd.R_lt (upR HO232))) (Kd.R_lt (upR HO238))) (Kd.R_lt (upR HO244))) (below_size (upW HB)))
     have n4_ := Aside0.mk (blk_below (upK BK226) hb)
     have n5_ := Aside0.mk (blk_below (upK BK227) hb)
     have n6_ := Aside0.mk (blk_below (upK BK240) hb)
     have n7_ := Aside0.mk (blk_below (upK BK245) hb)
     have n8_ := Aside0.mk (blk_below (upK BK253) hb)
     have n9_ := Aside0.mk (below_step (upW HB) hb)
     clear HO232
     clear HO238
     clear HO244
     clear BK226
     clear BK227
     clear BK240
     clear BK245
     clear BK253
     clear HB
     have HO232 := n0_
     have HO238 := n1_
     have HO244 := n2_
     have HO251 := n3_
     have BK226 := n4_
     have BK227 := n5_
     have BK240 := n6_
     have BK245 := n7_
     have BK253 := n8_
     have HB := n9_
     clear n0_ n1_ n2_ n3_ n4_ n5_ n6_ n7_ n8_ n9_
     (try clear hb)
     (try clear hb2)
     (try clear hk)
     (try clear hi)
     (try clear ho0)
     refine hK.out _ _ ⟨(blk_cell BK245.out 0).trans rfl, (blk_cell BK245.out 1).trans rfl, (blk_cell BK227.out 0).trans rfl, (blk_cell BK227.out 1).trans rfl⟩ (fun hHeld => ?_)
     clear hK K
     refine norm_ (a' := ?_) ?_ ?_
     rotate_left
     ·show Act.put _ (some 35) _ = _
      simp only [Act.put, List.setIfInBounds_toArray, List.set_cons_zero, List.set_cons_succ, i64_w, i32_w]
      rfl
     refine pure_ (i := 4) (N := some 31) (v := ?_) (a' := ?_) #[true, true, true, true, true, false, false, true, false, false] rfl rfl (any_of HT_.out (by kernel_rfl)) (fun _ _ _ h => h) (Or.inl ⟨by rfl, ?_⟩) ?_ ?_
     rotate_left
     ·intro w'
      go_simp
      with_reducible rfl
     rotate_left
     ·simp only [Act.put, List.setIfInBounds_toArray, List.set_cons_zero, List.set_cons_succ, i64_w, i32_w]
      rfl
     refine pure_ (i := 5) (N := some 36) (v := ?_) (a' := ?_) #[true, true, true, true, true, true, false, true, false, false] rfl rfl (any_of HT_.out (by kernel_rfl)) (fun _ _ _ h => h) (Or.inl ⟨by rfl, ?_⟩) ?_ ?_
     rotate_left
     ·intro w'
      go_simp
      with_reducible rfl
     rotate_left
     ·simp only [Act.put, List.setIfInBounds_toArray, List.set_cons_zero, List.set_cons_succ, i64_w, i32_w]
      rfl
     refine pure_ (i := 6) (N := some 37) (v := ?_) (a' := ?_) #[true, true, true, true, true, true, true, true, false, false] rfl rfl (any_of HT_.out (by kernel_rfl)) (fun _ _ _ h => h) (Or.inl ⟨by rfl, ?_⟩) ?_ ?_
     rotate_left
     ·intro w'
      go_simp
      with_reducible rfl
     rotate_left
     ·simp only [Act.put, List.setIfInBounds_toArray, List.set_cons_zero, List.set_cons_succ, i64_w, i32_w]
      rfl
     exact norm_ (by simp only [putAll, Act.put, List.setIfInBounds_toArray, List.set_cons_zero, List.set_cons_succ]) (hCont (v250, gb253) _ ⟨hHeld, (by (with_reducible repeat (first | apply Kd.R_alloc | apply Kd.R_drewN | apply Kd.R_drew)); exact Kd.R_mono HO232.out (fun _ hk => ⟨hk.1.1, ⟨hk.1.2, hk.2⟩⟩)), (by (with_reducible repeat (first | apply Kd.R_alloc | apply Kd.R_drewN | apply Kd.R_drew)); exact Kd.R_mono HO238.out (fun _ hk => ⟨hk.1.1, ⟨hk.1.2, hk.2⟩⟩)), (by (with_reducible repeat (first | apply Kd.R_alloc | apply Kd.R_drewN | apply Kd.R_drew)); exact Kd.R_mono HO244.out (fun _ hk => ⟨hk.1.1, ⟨hk.1.2, hk.2⟩⟩)), (by (with_reducible repeat (first | apply Kd.R_alloc | apply Kd.R_drewN | apply Kd.R_drew)); exact Kd.R_mono HO251.out (fun _ hk => ⟨hk.1.1.2, ⟨hk.1.2, hk.2⟩⟩)), (upK BK226), (upK BK227), (upK BK240), (upK BK245), (upK BK253), GW253.out, GE253.out, NB226_253.out, NB253_226.out, NB227_253.out, NB253_227.out, NB240_253.out, NB253_240.out, NB245_253.out, NB253_245.out, (upW HB)⟩)
   ·skip
    refine box_step ?hg (N := 9) ?hd (cs := #[.int .i64 0, .slice none 0 0]) (t := 40) ?hr ?_; (case hd => rfl); (case hg => rfl); (case hr => first | (go_simp; done) | (go_simp; rfl))
    intro gb253 hg w43 hbox hb
    have n0_ := Aside0.mk (Kd.R_below (upR HO232) hb)
    have n1_ := Aside0.mk (Kd.R_below (upR HO238) hb)
    have n2_ := Aside0.mk (Kd.R_below (upR HO244) hb)
    have n3_ := Aside0.mk (blk_below (upK BK226) hb)
    have n4_ := Aside0.mk (blk_below (upK BK227) hb)
    have n5_ := Aside0.mk (blk_below (upK BK240) hb)
    have n6_ := Aside0.mk (blk_below (upK BK245) hb)
    have n7_ := Aside0.mk (below_step (upW HB) hb)
    have n8_ := Aside0.mk (hbox)
    have n9_ := Aside0.mk ((by rw [hg]; exact (below_size (upW HB)) : w.heap.size ≤ gb253))
    have n10_ := Aside0.mk ((by rw [hg]; exact (below_size (upW HB)) : w.heap.size ≤ gb253))
    have n11_ := Aside0.mk ((by rw [hg]; exact Nat.ne_of_lt (blk_lt (upK BK226)) : gb226 ≠ gb253))
    have n12_ := Aside0.mk ((by rw [hg]; exact Nat.ne_of_gt (blk_lt (upK BK226)) : gb253 ≠ gb226))
    have n13_ := Aside0.mk ((by rw [hg]; exact Nat.ne_of_lt (blk_lt (upK BK227)) : gb227 ≠ gb253))
    have n14_ := Aside0.mk ((by rw [hg]; exact Nat.ne_of_gt (blk_lt (upK BK227)) : gb253 ≠ gb227))
    have n15_ := Aside0.mk ((by rw [hg]; exact Nat.ne_of_lt (blk_lt (upK BK240)) : gb240 ≠ gb253))
    have n16_ := Aside0.mk ((by rw [hg]; exact Nat.ne_of_gt (blk_lt (upK BK240)) : gb253 ≠ gb240))
    have n17_ := Aside0.mk ((by rw [hg]; exact Nat.ne_of_lt (blk_lt (upK BK245)) : gb245 ≠ gb253))
    have n18_ := Aside0.mk ((by rw [hg]; exact Nat.ne_of_gt (blk_lt (upK BK245)) : gb253 ≠ gb245))
    clear HO232
    clear HO238
    clear HO244
    clear BK226
    clear BK227
    clear BK240
    clear BK245
    clear HB
    have HO232 := n0_
    have HO238 := n1_
    have HO244 := n2_
    have BK226 := n3_
    have BK227 := n4_
    have BK240 := n5_
    have BK245 := n6_
    have HB := n7_
    have BK253 := n8_
    have GW253 := n9_
    have GE253 := n10_
    have NB226_253 := n11_
    have NB253_226 := n12_
    have NB227_253 := n13_
    have NB253_227 := n14_
    have NB240_253 := n15_
    have NB253_240 := n16_
    have NB245_253 := n17_
    have NB253_245 := n18_
    clear n0_ n1_ n2_ n3_ n4_ n5_ n6_ n7_ n8_ n9_ n10_ n11_ n12_ n13_ n14_ n15_ n16_ n17_ n18_
    clear hb hbox hg
    refine hK.out _ _ ⟨(blk_cell BK245.out 0).trans rfl, (blk_cell BK245.out 1).trans rfl, (blk_cell BK227.out 0).trans rfl, (blk_cell BK227.out 1).trans rfl⟩ (fun hHeld => ?_)
    clear hK K
    refine norm_ (a' := ?_) ?_ ?_
    rotate_left
    ·show Act.put _ (some 9) _ = _
     simp only [Act.put, List.setIfInBounds_toArray, List.set_cons_zero, List.set_cons_succ, i64_w, i32_w]
     rfl
    refine one_ (i := 2) (N := some 34) #[true, true, true, false, false, false, false, true, false, false] rfl rfl (one_of HT_.out (by kernel_rfl)) (by decide) (fun K hK => ?_)
    refine goes_ Try.func32 (by kernel_rfl) rfl #[.agg #[.int .i64 a1_0, .int .i64 a1_1]] (by rfl) rfl rfl itp ?_
    with_reducible refine (laws_toWire.calls a1_0 a1_1 t246 t247 _ A14.out).mono ?_
    rintro e w44 ⟨rfl, hb⟩
    refine ⟨_, rfl, ?_⟩
    have n0_ := Aside0.mk (Kd.R_below (upR HO232) hb)
    have n1_ := Aside0.mk (Kd.R_below (upR HO238) hb)
    have n2_ := Aside0.mk (Kd.R_below (upR HO244) hb)
    have n3_ := Aside0.mk (blk_below (upK BK226) hb)
    have n4_ := Aside0.mk (blk_below (upK BK227) hb)
    have n5_ := Aside0.mk (blk_below (upK BK240) hb)
    have n6_ := Aside0.mk (blk_below (upK BK245) hb)
    have n7_ := Aside0.mk (blk_below (upK BK253) hb)
    have n8_ := Aside0.mk (below_step (upW HB) hb)
    clear HO232
    clear HO238
    clear HO244
    clear BK226
    clear BK227
    clear BK240
    clear BK245
    clear BK253
    clear HB
    have HO232 := n0_
    have HO238 := n1_
    have HO244 := n2_
    have BK226 := n3_
    have BK227 := n4_
    have BK240 := n5_
    have BK245 := n6_
    have BK253 := n7_
    have HB := n8_
    clear n0_ n1_ n2_ n3_ n4_ n5_ n6_ n7_ n8_
    (try clear hb)
    (try clear hb2)
    (try clear hk)
    (try clear hi)
    refine hK.out _ _ ⟨(blk_cell BK245.out 0).trans rfl, (blk_cell BK245.out 1).trans rfl, (blk_cell BK227.out 0).trans rfl, (blk_cell BK227.out 1).trans rfl⟩ (fun hHeld => ?_)
    clear hK K
    refine norm_ (a' := ?_) ?_ ?_
    rotate_left
    ·show Act.put _ (some 34) _ = _
     simp only [Act.put, List.setIfInBounds_toArray, List.set_cons_zero, List.set_cons_succ, i64_w, i32_w]
     rfl
    refine one_ (i := 3) (N := some 35) #[true, true, true, true, false, false, false, true, false, false] rfl rfl (one_of HT_.out (by kernel_rfl)) (by decide) (fun K hK => ?_)
    refine goes_ Try.func33 (by kernel_rfl) rfl #[.agg #[.int .i64 t241, .slice Ao40 t242.length co40], .agg #[.int .i64 t246, .int .i64 t247]] (by rfl) rfl rfl itp ?_
    with_reducible refine (impl_AddWire.calls k t241 _ _ t242 t246 t247 t248 t249 t252 _ ?side1 ?side2 A15.out).mono ?_
    (case side1 => repeat (first | exact (Kd.R_reads' HO244.out).2.2 | (with_reducible refine Kd.C_alloc ?_ _) | (with_reducible refine Kd.C_drewN ?_ _) | (with_reducible refine Kd.C_drew ?_)))
    (case side2 => exact (Kd.R_reads' HO244.out).2.1)
    rintro e w45 ⟨v250, rfl, ho0, hb⟩
    refine ⟨_, rfl, ?_⟩
    have n0_ := Aside0.mk (Kd.R_elder' (upR HO232) (Kd.R_base ho0) hb)
    have n1_ := Aside0.mk (Kd.R_elder' (upR HO238) (Kd.R_base ho0) hb)
    have n2_ := Aside0.mk (Kd.R_elder' (upR HO244) (Kd.R_base ho0) hb)
    have n3_ := Aside0.mk (Kd.R_lower (Kd.R_new' (Kd.R_new' (Kd.R_new' ho0 (Kd.R_lt (upR HO232))) (Kd.R_lt (upR HO238))) (Kd.R_lt (upR HO244))) (below_size (upW HB)))
    have n4_ := Aside0.mk (blk_below (upK BK226) hb)
    have n5_ := Aside0.mk (blk_below (upK BK227) hb)
    have n6_ := Aside0.mk (blk_below (upK BK240) hb)
    have n7_ := Aside0.mk (blk_below (upK BK245) hb)
    have n8_ := Aside0.mk (blk_below (upK BK253) hb)
    have n9_ := Aside0.mk (below_step (upW HB) hb)
    clear HO232
    clear HO238
    clear HO244
    clear BK226
    clear BK227
    clear BK240
    clear BK245
    clear BK253
    clear HB
    have HO232 := n0_
    have HO238 := n1_
    have HO244 := n2_
    have HO251 := n3_
    have BK226 := n4_
    have BK227 := n5_
    have BK240 := n6_
    have BK245 := n7_
    have BK253 := n8_
    have HB := n9_
    clear n0_ n1_ n2_ n3_ n4_ n5_ n6_ n7_ n8_ n9_
    (try clear hb)
    (try clear hb2)
    (try clear hk)
    (try clear hi)
    (try clear ho0)
    refine hK.out _ _ ⟨(blk_cell BK245.out 0).trans rfl, (blk_cell BK245.out 1).trans rfl, (blk_cell BK227.out 0).trans rfl, (blk_cell BK227.out 1).trans rfl⟩ (fun hHeld => ?_)
    clear hK K
    refine norm_ (a' := ?_) ?_ ?_
    rotate_left
    ·show Act.put _ (some 35) _ = _
     simp only [Act.put, List.setIfInBounds_toArray, List.set_cons_zero, List.set_cons_succ, i64_w, i32_w]
     rfl
    refine pure_ (i := 4) (N := some 31) (v := ?_) (a' := ?_) #[true, true, true, true, true, false, false, true, false, false] rfl rfl (any_of HT_.out (by kernel_rfl)) (fun _ _ _ h => h) (Or.inl ⟨by rfl, ?_⟩) ?_ ?_
    rotate_left
    ·intro w'
     go_simp
     with_reducible rfl
    rotate_left
    ·simp only [Act.put, List.setIfInBounds_toArray, List.set_cons_zero, List.set_cons_succ, i64_w, i32_w]
     rfl
    refine pure_ (i := 5) (N := some 36) (v := ?_) (a' := ?_) #[true, true, true, true, true, true, false, true, false, false] rfl rfl (any_of HT_.out (by kernel_rfl)) (fun _ _ _ h => h) (Or.inl ⟨by rfl, ?_⟩) ?_ ?_
    rotate_left
    ·intro w'
     go_simp
     with_reducible rfl
    rotate_left
    ·simp only [Act.put, List.setIfInBounds_toArray, List.set_cons_zero, List.set_cons_succ, i64_w, i32_w]
     rfl
    refine pure_ (i := 6) (N := some 37) (v := ?_) (a' := ?_) #[true, true, true, true, true, true, true, true, false, false] rfl rfl (any_of HT_.out (by kernel_rfl)) (fun _ _ _ h => h) (Or.inl ⟨by rfl, ?_⟩) ?_ ?_
    rotate_left
    ·intro w'
     go_simp
     with_reducible rfl
    rotate_left
    ·simp only [Act.put, List.setIfInBounds_toArray, List.set_cons_zero, List.set_cons_succ, i64_w, i32_w]
     rfl
    exact norm_ (by simp only [putAll, Act.put, List.setIfInBounds_toArray, List.set_cons_zero, List.set_cons_succ]) (hCont (v250, gb253) _ ⟨hHeld, (by (with_reducible repeat (first | apply Kd.R_alloc | apply Kd.R_drewN | apply Kd.R_drew)); exact Kd.R_mono HO232.out (fun _ hk => ⟨hk.1.1, ⟨hk.1.2, hk.2⟩⟩)), (by (with_reducible repeat (first | apply Kd.R_alloc | apply Kd.R_drewN | apply Kd.R_drew)); exact Kd.R_mono HO238.out (fun _ hk => ⟨hk.1.1, ⟨hk.1.2, hk.2⟩⟩)), (by (with_reducible repeat (first | apply Kd.R_alloc | apply Kd.R_drewN | apply Kd.R_drew)); exact Kd.R_mono HO244.out (fun _ hk => ⟨hk.1.1, ⟨hk.1.2, hk.2⟩⟩)), (by (with_reducible repeat (first | apply Kd.R_alloc | apply Kd.R_drewN | apply Kd.R_drew)); exact Kd.R_mono HO251.out (fun _ hk => ⟨hk.1.1.2, ⟨hk.1.2, hk.2⟩⟩)), (upK BK226), (upK BK227), (upK BK240), (upK BK245), (upK BK253), GW253.out, GE253.out, NB226_253.out, NB253_226.out, NB227_253.out, NB253_227.out, NB240_253.out, NB253_240.out, NB245_253.out, NB253_245.out, (upW HB)⟩)
  rintro ⟨v250, gb253⟩ w46 ⟨hS_, h0_, h1_, h2_, h3_, h4_, h5_, h6_, h7_, h8_, h9_, h10_, h11_, h12_, h13_, h14_, h15_, h16_, h17_, h18_, h19_⟩
  have n0_ : Aside0 (Kd.R k55 55 w46 w.heap.size (fun k_ => some k_ ≠ (.slice Ao30 t236.length co30 : Value).ownBlock ∧ some k_ ≠ (.slice Ao40 t242.length co40 : Value).ownBlock ∧ some k_ ≠ (v250 : Value).ownBlock) v231 t230) := ⟨h0_⟩
  have n1_ : Aside0 (Kd.R k55 55 w46 w.heap.size (fun k_ => some k_ ≠ (v231 : Value).ownBlock ∧ some k_ ≠ (.slice Ao40 t242.length co40 : Value).ownBlock ∧ some k_ ≠ (v250 : Value).ownBlock) (.slice Ao30 t236.length co30) t236) := ⟨h1_⟩
  have n2_ : Aside0 (Kd.R k55 55 w46 w.heap.size (fun k_ => some k_ ≠ (v231 : Value).ownBlock ∧ some k_ ≠ (.slice Ao30 t236.length co30 : Value).ownBlock ∧ some k_ ≠ (v250 : Value).ownBlock) (.slice Ao40 t242.length co40) t242) := ⟨h2_⟩
  have n3_ : Aside0 (Kd.R k55 55 w46 w.heap.size (fun k_ => some k_ ≠ (v231 : Value).ownBlock ∧ some k_ ≠ (.slice Ao30 t236.length co30 : Value).ownBlock ∧ some k_ ≠ (.slice Ao40 t242.length co40 : Value).ownBlock) v250 t249) := ⟨h3_⟩
  have n4_ : Aside0 (w46.heap[gb226]? = some (.cells #[.int .i64 a0_0, .slice A0_1 l0_1.length c0_1] 35 (0, 0))) := ⟨h4_⟩
  have n5_ : Aside0 (w46.heap[gb227]? = some (.cells #[.int .i64 a1_0, .int .i64 a1_1] 53 (0, 0))) := ⟨h5_⟩
  have n6_ : Aside0 (w46.heap[gb240]? = some (.cells #[.int .i64 t235, .slice Ao30 t236.length co30] 40 (0, 0))) := ⟨h6_⟩
  have n7_ : Aside0 (w46.heap[gb245]? = some (.cells #[.int .i64 t241, .slice Ao40 t242.length co40] 40 (0, 0))) := ⟨h7_⟩
  have n8_ : Aside0 (w46.heap[gb253]? = some (.cells #[.int .i64 0, .slice none 0 0] 40 (0, 0))) := ⟨h8_⟩
  have n9_ : Aside0 (w.heap.size ≤ gb253) := ⟨h9_⟩
  have n10_ : Aside0 (w.heap.size ≤ gb253) := ⟨h10_⟩
  have n11_ : Aside0 (gb226 ≠ gb253) := ⟨h11_⟩
  have n12_ : Aside0 (gb253 ≠ gb226) := ⟨h12_⟩
  have n13_ : Aside0 (gb227 ≠ gb253) := ⟨h13_⟩
  have n14_ : Aside0 (gb253 ≠ gb227) := ⟨h14_⟩
  have n15_ : Aside0 (gb240 ≠ gb253) := ⟨h15_⟩
  have n16_ : Aside0 (gb253 ≠ gb240) := ⟨h16_⟩
  have n17_ : Aside0 (gb245 ≠ gb253) := ⟨h17_⟩
  have n18_ : Aside0 (gb253 ≠ gb245) := ⟨h18_⟩
  have n19_ : Aside0 (Below w.heap.size w w46) := ⟨h19_⟩
  clear HO232
  clear HO238
  clear HO244
  clear BK226
  clear BK227
  clear BK240
  clear BK245
  clear HB
  clear h0_ h1_ h2_ h3_ h4_ h5_ h6_ h7_ h8_ h9_ h10_ h11_ h12_ h13_ h14_ h15_ h16_ h17_ h18_ h19_
  have HO232 := n0_
  have HO238 := n1_
  have HO244 := n2_
  have HO251 := n3_
  have BK226 := n4_
  have BK227 := n5_
  have BK240 := n6_
  have BK245 := n7_
  have BK253 := n8_
  have GW253 := n9_
  have GE253 := n10_
  have NB226_253 := n11_
  have NB253_226 := n12_
  have NB227_253 := n13_
  have NB253_227 := n14_
  have NB240_253 := n15_
  have NB253_240 := n16_
  have NB245_253 := n17_
  have NB253_245 := n18_
  have HB := n19_
  clear n0_ n1_ n2_ n3_ n4_ n5_ n6_ n7_ n8_ n9_ n10_ n11_ n12_ n13_ n14_ n15_ n16_ n17_ n18_ n19_
  have hHeld : w46.cell? ⟨gb245, 0, none⟩ = some (.int .i64 t241) ∧ w46.cell? ⟨gb245, 1, none⟩ = some (.slice Ao40 t242.length co40) ∧ w46.cell? ⟨gb227, 0, none⟩ = some (.int .i64 a1_0) ∧ w46.cell? ⟨gb227, 1, none⟩ = some (.int .i64 a1_1) := hS_
  obtain ⟨Ao48, co48, eo48⟩ := Kd.R_slice HO251.out
  (first | subst eo48 | (injection eo48 with f1_ f2_ f3_; have f4_ := f1_.symm; have f5_ := f3_.symm; clear f1_ f2_ f3_; subst f4_; subst f5_))
  refine norm_ (a' := ?_) ?_ ?_
  rotate_left
  ·simp only [putAll, Act.put, List.setIfInBounds_toArray, List.set_cons_zero, List.set_cons_succ]
   rfl
  refine one_ (i := 8) (N := none) #[true, true, true, true, true, true, true, true, true, false] rfl rfl (one_of HT_.out (by kernel_rfl)) (by decide) (fun K hK => ?_)
  have hs47 : w46.cell? ⟨gb253, 0, none⟩ = some (.int .i64 0) := (blk_cell BK253.out 0).trans rfl
  have hfs47 := blk_frozen BK253.out 0
  have hns47_0 := NB226_253.out
  have hns47_1 := NB227_253.out
  have hns47_2 := NB240_253.out
  have hns47_3 := NB245_253.out
  have hms47_0 := NB253_226.out
  have hms47_1 := NB253_227.out
  have hms47_2 := NB253_240.out
  have hms47_3 := NB253_245.out
  have hs49 : w46.cell? ⟨gb253, 1, none⟩ = some (.slice none 0 0) := (blk_cell BK253.out 1).trans rfl
  have hfs49 := blk_frozen BK253.out 1
  have hns49_0 := NB226_253.out
  have hns49_1 := NB227_253.out
  have hns49_2 := NB240_253.out
  have hns49_3 := NB245_253.out
  have hms49_0 := NB253_226.out
  have hms49_1 := NB253_227.out
  have hms49_2 := NB253_240.out
  have hms49_3 := NB253_245.out
  refine skip_ (w1 := ?_) (by rfl) rfl ?_ ?_
  rotate_left
  ·go_simp
   rfl
  refine hK.out _ _ ⟨((cell_far (p := ⟨gb253, _, none⟩) NB245_253.out _).trans (((cell_far (p := ⟨gb253, _, none⟩) NB245_253.out _).trans (hHeld.1)))), ((cell_far (p := ⟨gb253, _, none⟩) NB245_253.out _).trans (((cell_far (p := ⟨gb253, _, none⟩) NB245_253.out _).trans (hHeld.2.1)))), ((cell_far (p := ⟨gb253, _, none⟩) NB227_253.out _).trans (((cell_far (p := ⟨gb253, _, none⟩) NB227_253.out _).trans (hHeld.2.2.1)))), ((cell_far (p := ⟨gb253, _, none⟩) NB227_253.out _).trans (((cell_far (p := ⟨gb253, _, none⟩) NB227_253.out _).trans (hHeld.2.2.2))))⟩ (fun hHeld => ?_)
  clear hK K
  refine pure_ (i := 9) (N := some 10) (v := ?_) (a' := ?_) #[true, true, true, true, true, true, true, true, true, true] rfl rfl (any_of HT_.out (by kernel_rfl)) (fun _ _ _ h => h) (Or.inl ⟨by rfl, ?_⟩) ?_ ?_
  rotate_left
  ·intro w'
   go_simp
   with_reducible rfl
  rotate_left
  ·simp only [Act.put, List.setIfInBounds_toArray, List.set_cons_zero, List.set_cons_succ, i64_w, i32_w]
   rfl
  refine done_ (done_of HT_.out (by kernel_rfl)) ?_
  go_upto_region 8 with (fail)
  go_cut [46] (fun v46 wc => ∃ (kq : Nat) (x46_15 : Bool), v46 = .bool x46_15 ∧ Aside0 (laws_FnExactAddWire.j0 kq t239 t252 x46_15 a0_0 l0_1 a1_0 a1_1 t235 t236 t241 t242 t248 t249 = some r) ∧ Aside0 (kq ≤ k) ∧ Aside0 (Kd.R k55 55 wc w.heap.size (fun k_ => some k_ ≠ ((.slice Ao40 t242.length co40) : Value).ownBlock ∧ some k_ ≠ ((.slice Ao48 t249.length co48) : Value).ownBlock) (.slice Ao30 t236.length co30) t236) ∧ Aside0 (Kd.R k55 55 wc w.heap.size (fun k_ => some k_ ≠ ((.slice Ao30 t236.length co30) : Value).ownBlock ∧ some k_ ≠ ((.slice Ao48 t249.length co48) : Value).ownBlock) (.slice Ao40 t242.length co40) t242) ∧ Aside0 (Kd.R k55 55 wc w.heap.size (fun k_ => some k_ ≠ ((.slice Ao30 t236.length co30) : Value).ownBlock ∧ some k_ ≠ ((.slice Ao40 t242.length co40) : Value).ownBlock) (.slice Ao48 t249.length co48) t249) ∧ Aside0 (wc.heap[gb226]? = some (.cells #[.int .i64 a0_0, (.slice A0_1 l0_1.length c0_1)] 35 (0, 0))) ∧ Aside0 (wc.heap[gb227]? = some (.cells #[.int .i64 a1_0, .int .i64 a1_1] 53 (0, 0))) ∧ Aside0 (wc.heap[gb240]? = some (.cells #[.int .i64 t235, (.slice Ao30 t236.length co30)] 40 (0, 0))) ∧ Aside0 (wc.heap[gb245]? = some (.cells #[.int .i64 t241, (.slice Ao40 t242.length co40)] 40 (0, 0))) ∧ Aside0 (wc.heap[gb253]? = some (.cells #[.int .i64 t248, (.slice Ao48 t249.length co48)] 40 (0, 0))) ∧ Aside0 (Below w.heap.size w wc))
  case first =>
   have H := HC16.out
   clear HC16
   replace H := Option.bind_eq_some_iff.mp H
   obtain ⟨t254, A500, H⟩ := H
   replace H : (if t254 = true then (laws_FnExactAddWire.j0 k t239 t252 (t252 != t239) a0_0 l0_1 a1_0 a1_1 t235 t236 t241 t242 t248 t249) else (laws_FnExactAddWire.j0 k t239 t252 true a0_0 l0_1 a1_0 a1_1 t235 t236 t241 t242 t248 t249)) = some r := H
   have A50 := Aside0.mk A500
   clear A500
   by_cases c51 : t254 = true
   ·subst c51
    have H1 : (laws_FnExactAddWire.j0 k t239 t252 (t252 != t239) a0_0 l0_1 a1_0 a1_1 t235 t236 t241 t242 t248 t249) = some r := by rw [if_pos rfl] at H; exact H
    clear H
    have H := H1
    clear H1
    have H' := Aside0.mk H
    clear H
    have hnb52 := NB253_226.out
    have hnc52 := NB226_253.out
    have hnb53 := NB253_227.out
    have hnc53 := NB227_253.out
    have hnb54 := NB253_240.out
    have hnc54 := NB240_253.out
    have hnb55 := NB253_245.out
    have hnc55 := NB245_253.out
    have hcz56_0 : w46.cell? ⟨gb253, 0, none⟩ = some (.int .i64 0) := (blk_cell BK253.out 0).trans rfl
    have hcz56_1 : w46.cell? ⟨gb253, 1, none⟩ = some (.slice none 0 0) := (blk_cell BK253.out 1).trans rfl
    have hfz56_0 := blk_frozen BK253.out 0
    have hfz56_1 := blk_frozen BK253.out 1
    have hnb57 := NB240_226.out
    have hnc57 := NB226_240.out
    have hnb58 := NB240_227.out
    have hnc58 := NB227_240.out
    have hnb59 := NB240_245.out
    have hnc59 := NB245_240.out
    have hcz60_0 : w46.cell? ⟨gb240, 0, none⟩ = some (.int .i64 t235) := (blk_cell BK240.out 0).trans rfl
    have hcz60_1 : w46.cell? ⟨gb240, 1, none⟩ = some (.slice Ao30 t236.length co30) := (blk_cell BK240.out 1).trans rfl
    have hfz60_0 := blk_frozen BK240.out 0
    have hfz60_1 := blk_frozen BK240.out 1
    go_wp2_with (first | ((with_reducible refine gate_callee (f := 22) rfl ?_); refine goesL_ (some 40) rfl rfl Try.func22 (by kernel_rfl) rfl #[.agg #[.int .i64 t248, .slice Ao48 t249.length co48], .agg #[.int .i64 t235, .slice Ao30 t236.length co30]] rfl itp ?_; (with_reducible refine (laws_eqNet.calls k t248 _ _ t249 t235 _ _ t236 true _ ?side1 ?side2 ?side3 ?side4 A50.out).mono ?_); (case side1 => refine (Kd.R_reads' (e := 55) (base := w.heap.size) (ok := fun k_ => (some k_ ≠ (v231 : Value).ownBlock ∧ (some k_ ≠ (.slice Ao30 t236.length co30 : Value).ownBlock ∧ some k_ ≠ (.slice Ao40 t242.length co40 : Value).ownBlock))) (n := t249.length) (c := co48) ?_).2.2; exact (by (with_reducible repeat (first | apply Kd.R_alloc | apply Kd.R_drewN | apply Kd.R_drew)); exact (Kd.R_mono (Kd.R_far (p := ⟨gb253, 1, none⟩) (Kd.R_far (p := ⟨gb253, 0, none⟩) (Kd.R_types HO251.out BK253.out (by decide)) (fun _ hk => hk.2) (.int .i64 t248)) (fun _ hk => hk.2) (.slice Ao48 t249.length co48)) (fun _ h_ => h_.1)))); (case side2 => exact (Kd.R_reads' HO251.out).2.1); (case side3 => refine (Kd.R_reads' (e := 55) (base := w.heap.size) (ok := fun k_ => (some k_ ≠ (v231 : Value).ownBlock ∧ (some k_ ≠ (.slice Ao40 t242.length co40 : Value).ownBlock ∧ some k_ ≠ (.slice Ao48 t249.length co48 : Value).ownBlock))) (n := t236.length) (c := co30) ?_).2.2; exact (by (with_reducible repeat (first | apply Kd.R_alloc | apply Kd.R_drewN | apply Kd.R_drew)); exact (Kd.R_mono (Kd.R_far (p := ⟨gb253, 1, none⟩) (Kd.R_far (p := ⟨gb253, 0, none⟩) (Kd.R_types HO238.out BK253.out (by decide)) (fun _ hk => hk.2) (.int .i64 t248)) (fun _ hk => hk.2) (.slice Ao48 t249.length co48)) (fun _ h_ => h_.1)))); (case side4 => exact (Kd.R_reads' HO238.out).2.1); rintro e w61 ⟨rfl, hb⟩; refine ⟨_, rfl, ?_⟩; have n0_ := Aside0.mk (Kd.R_below (by (with_reducible repeat (first | apply Kd.R_alloc | apply Kd.R_drewN | apply Kd.R_drew)); exact (Kd.R_mono (Kd.R_far (p := ⟨gb253, 1, none⟩) (Kd.R_far (p := ⟨gb253, 0, none⟩) (Kd.R_types HO232.out BK253.out (by decide)) (fun _ hk => hk.2) (.int .i64 t248)) (fun _ hk => hk.2) (.slice Ao48 t249.length co48)) (fun _ h_ => h_.1))) hb); have n1_ := Aside0.mk (Kd.R_below (by (with_reducible repeat (first | apply Kd.R_alloc | apply Kd.R_drewN | apply Kd.R_drew)); exact (Kd.R_mono (Kd.R_far (p := ⟨gb253, 1, none⟩) (Kd.R_far (p := ⟨gb253, 0, none⟩) (Kd.R_types HO238.out BK253.out (by decide)) (fun _ hk => hk.2) (.int .i64 t248)) (fun _ hk => hk.2) (.slice Ao48 t249.length co48)) (fun _ h_ => h_.1))) hb); have n2_ := Aside0.mk (Kd.R_below (by (with_reducible repeat (first | apply Kd.R_alloc | apply Kd.R_drewN | apply Kd.R_drew)); exact (Kd.R_mono (Kd.R_far (p := ⟨gb253, 1, none⟩) (Kd.R_far (p := ⟨gb253, 0, none⟩) (Kd.R_types HO244.out BK253.out (by decide)) (fun _ hk => hk.2) (.int .i64 t248)) (fun _ hk => hk.2) (.slice Ao48 t249.length co48)) (fun _ h_ => h_.1))) hb); have n3_ := Aside0.mk (Kd.R_below (by (with_reducible repeat (first | apply Kd.R_alloc | apply Kd.R_drewN | apply Kd.R_drew)); exact (Kd.R_mono (Kd.R_far (p := ⟨gb253, 1, none⟩) (Kd.R_far (p := ⟨gb253, 0, none⟩) (Kd.R_types HO251.out BK253.out (by decide)) (fun _ hk => hk.2) (.int .i64 t248)) (fun _ hk => hk.2) (.slice Ao48 t249.length co48)) (fun _ h_ => h_.1))) hb); have n4_ := Aside0.mk (blk_below (upF BK226) hb); have n5_ := Aside0.mk (blk_below (upF BK227) hb); have n6_ := Aside0.mk (blk_below (upF BK240) hb); have n7_ := Aside0.mk (blk_below (upF BK245) hb); have n8_ := Aside0.mk (blk_below (g := gb253) (o := .cells #[.int .i64 t248, .slice Ao48 t249.length co48] 40 (0, 0)) (by (with_reducible repeat (first | refine blk_drewN ?_ _ | refine blk_drew ?_ | refine blk_alloc ?_ _)); refine blk_put (cs := #[.int .i64 t248, .slice none 0 0]) ?_ 1 _ rfl; (with_reducible repeat (first | refine blk_drewN ?_ _ | refine blk_drew ?_ | refine blk_alloc ?_ _)); refine blk_put (cs := #[.int .i64 0, .slice none 0 0]) ?_ 0 _ rfl; (with_reducible repeat (first | refine blk_drewN ?_ _ | refine blk_drew ?_ | refine blk_alloc ?_ _)); exact BK253.out) hb); have n9_ := Aside0.mk (below_step (upW HB) hb); clear HO232; clear HO238; clear HO244; clear HO251; clear BK226; clear BK227; clear BK240; clear BK245; clear BK253; clear HB; have HO232 := n0_; have HO238 := n1_; have HO244 := n2_; have HO251 := n3_; have BK226 := n4_; have BK227 := n5_; have BK240 := n6_; have BK245 := n7_; have BK253 := n8_; have HB := n9_; clear n0_ n1_ n2_ n3_ n4_ n5_ n6_ n7_ n8_ n9_; (try clear hb); (try clear hb2); (try clear hk); (try clear hi)))
    go_meet
    case rel => exact ⟨_, ((t252 != t239)), (by first | rfl | (simp; done) | (simp [*]; done)), H', ⟨by first | omega | exact Nat.le_refl _⟩, ⟨by (with_reducible repeat (first | apply Kd.R_alloc | apply Kd.R_drewN | apply Kd.R_drew)); exact Kd.R_mono HO238.out (fun _ hk => ⟨hk.2.1, hk.2.2⟩)⟩, ⟨by (with_reducible repeat (first | apply Kd.R_alloc | apply Kd.R_drewN | apply Kd.R_drew)); exact Kd.R_mono HO244.out (fun _ hk => ⟨hk.2.1, hk.2.2⟩)⟩, ⟨by (with_reducible repeat (first | apply Kd.R_alloc | apply Kd.R_drewN | apply Kd.R_drew)); exact Kd.R_mono HO251.out (fun _ hk => ⟨hk.2.1, hk.2.2⟩)⟩, ⟨upK BK226⟩, ⟨upK BK227⟩, ⟨upK BK240⟩, ⟨upK BK245⟩, ⟨upK BK253⟩, ⟨upW HB⟩⟩
   ·replace c51 := Bool.eq_false_iff.mpr c51
    subst c51
    have H1 : (laws_FnExactAddWire.j0 k t239 t252 true a0_0 l0_1 a1_0 a1_1 t235 t236 t241 t242 t248 t249) = some r := by rw [if_neg (show ¬ (false = true) by decide)] at H; exact H
    clear H
    have H := H1
    clear H1
    have H' := Aside0.mk H
    clear H
    have hnb62 := NB253_226.out
    have hnc62 := NB226_253.out
    have hnb63 := NB253_227.out
    have hnc63 := NB227_253.out
    have hnb64 := NB253_240.out
    have hnc64 := NB240_253.out
    have hnb65 := NB253_245.out
    have hnc65 := NB245_253.out
    have hcz66_0 : w46.cell? ⟨gb253, 0, none⟩ = some (.int .i64 0) := (blk_cell BK253.out 0).trans rfl
    have hcz66_1 : w46.cell? ⟨gb253, 1, none⟩ = some (.slice none 0 0) := (blk_cell BK253.out 1).trans rfl
    have hfz66_0 := blk_frozen BK253.out 0
    have hfz66_1 := blk_frozen BK253.out 1
    have hnb67 := NB240_226.out
    have hnc67 := NB226_240.out
    have hnb68 := NB240_227.out
    have hnc68 := NB227_240.out
    have hnb69 := NB240_245.out
    have hnc69 := NB245_240.out
    have hcz70_0 : w46.cell? ⟨gb240, 0, none⟩ = some (.int .i64 t235) := (blk_cell BK240.out 0).trans rfl
    have hcz70_1 : w46.cell? ⟨gb240, 1, none⟩ = some (.slice Ao30 t236.length co30) := (blk_cell BK240.out 1).trans rfl
    have hfz70_0 := blk_frozen BK240.out 0
    have hfz70_1 := blk_frozen BK240.out 1
    go_wp2_with (first | ((with_reducible refine gate_callee (f := 22) rfl ?_); refine goesL_ (some 40) rfl rfl Try.func22 (by kernel_rfl) rfl #[.agg #[.int .i64 t248, .slice Ao48 t249.length co48], .agg #[.int .i64 t235, .slice Ao30 t236.length co30]] rfl itp ?_; (with_reducible refine (laws_eqNet.calls k t248 _ _ t249 t235 _ _ t236 false _ ?side1 ?side2 ?side3 ?side4 A50.out).mono ?_); (case side1 => refine (Kd.R_reads' (e := 55) (base := w.heap.size) (ok := fun k_ => (some k_ ≠ (v231 : Value).ownBlock ∧ (some k_ ≠ (.slice Ao30 t236.length co30 : Value).ownBlock ∧ some k_ ≠ (.slice Ao40 t242.length co40 : Value).ownBlock))) (n := t249.length) (c := co48) ?_).2.2; exact (by (with_reducible repeat (first | apply Kd.R_alloc | apply Kd.R_drewN | apply Kd.R_drew)); exact (Kd.R_mono (Kd.R_far (p := ⟨gb253, 1, none⟩) (Kd.R_far (p := ⟨gb253, 0, none⟩) (Kd.R_types HO251.out BK253.out (by decide)) (fun _ hk => hk.2) (.int .i64 t248)) (fun _ hk => hk.2) (.slice Ao48 t249.length co48)) (fun _ h_ => h_.1)))); (case side2 => exact (Kd.R_reads' HO251.out).2.1); (case side3 => refine (Kd.R_reads' (e := 55) (base := w.heap.size) (ok := fun k_ => (some k_ ≠ (v231 : Value).ownBlock ∧ (some k_ ≠ (.slice Ao40 t242.length co40 : Value).ownBlock ∧ some k_ ≠ (.slice Ao48 t249.length co48 : Value).ownBlock))) (n := t236.length) (c := co30) ?_).2.2; exact (by (with_reducible repeat (first | apply Kd.R_alloc | apply Kd.R_drewN | apply Kd.R_drew)); exact (Kd.R_mono (Kd.R_far (p := ⟨gb253, 1, none⟩) (Kd.R_far (p := ⟨gb253, 0, none⟩) (Kd.R_types HO238.out BK253.out (by decide)) (fun _ hk => hk.2) (.int .i64 t248)) (fun _ hk => hk.2) (.slice Ao48 t249.length co48)) (fun _ h_ => h_.1)))); (case side4 => exact (Kd.R_reads' HO238.out).2.1); rintro e w71 ⟨rfl, hb⟩; refine ⟨_, rfl, ?_⟩; have n0_ := Aside0.mk (Kd.R_below (by (with_reducible repeat (first | apply Kd.R_alloc | apply Kd.R_drewN | apply Kd.R_drew)); exact (Kd.R_mono (Kd.R_far (p := ⟨gb253, 1, none⟩) (Kd.R_far (p := ⟨gb253, 0, none⟩) (Kd.R_types HO232.out BK253.out (by decide)) (fun _ hk => hk.2) (.int .i64 t248)) (fun _ hk => hk.2) (.slice Ao48 t249.length co48)) (fun _ h_ => h_.1))) hb); have n1_ := Aside0.mk (Kd.R_below (by (with_reducible repeat (first | apply Kd.R_alloc | apply Kd.R_drewN | apply Kd.R_drew)); exact (Kd.R_mono (Kd.R_far (p := ⟨gb253, 1, none⟩) (Kd.R_far (p := ⟨gb253, 0, none⟩) (Kd.R_types HO238.out BK253.out (by decide)) (fun _ hk => hk.2) (.int .i64 t248)) (fun _ hk => hk.2) (.slice Ao48 t249.length co48)) (fun _ h_ => h_.1))) hb); have n2_ := Aside0.mk (Kd.R_below (by (with_reducible repeat (first | apply Kd.R_alloc | apply Kd.R_drewN | apply Kd.R_drew)); exact (Kd.R_mono (Kd.R_far (p := ⟨gb253, 1, none⟩) (Kd.R_far (p := ⟨gb253, 0, none⟩) (Kd.R_types HO244.out BK253.out (by decide)) (fun _ hk => hk.2) (.int .i64 t248)) (fun _ hk => hk.2) (.slice Ao48 t249.length co48)) (fun _ h_ => h_.1))) hb); have n3_ := Aside0.mk (Kd.R_below (by (with_reducible repeat (first | apply Kd.R_alloc | apply Kd.R_drewN | apply Kd.R_drew)); exact (Kd.R_mono (Kd.R_far (p := ⟨gb253, 1, none⟩) (Kd.R_far (p := ⟨gb253, 0, none⟩) (Kd.R_types HO251.out BK253.out (by decide)) (fun _ hk => hk.2) (.int .i64 t248)) (fun _ hk => hk.2) (.slice Ao48 t249.length co48)) (fun _ h_ => h_.1))) hb); have n4_ := Aside0.mk (blk_below (upF BK226) hb); have n5_ := Aside0.mk (blk_below (upF BK227) hb); have n6_ := Aside0.mk (blk_below (upF BK240) hb); have n7_ := Aside0.mk (blk_below (upF BK245) hb); have n8_ := Aside0.mk (blk_below (g := gb253) (o := .cells #[.int .i64 t248, .slice Ao48 t249.length co48] 40 (0, 0)) (by (with_reducible repeat (first | refine blk_drewN ?_ _ | refine blk_drew ?_ | refine blk_alloc ?_ _)); refine blk_put (cs := #[.int .i64 t248, .slice none 0 0]) ?_ 1 _ rfl; (with_reducible repeat (first | refine blk_drewN ?_ _ | refine blk_drew ?_ | refine blk_alloc ?_ _)); refine blk_put (cs := #[.int .i64 0, .slice none 0 0]) ?_ 0 _ rfl; (with_reducible repeat (first | refine blk_drewN ?_ _ | refine blk_drew ?_ | refine blk_alloc ?_ _)); exact BK253.out) hb); have n9_ := Aside0.mk (below_step (upW HB) hb); clear HO232; clear HO238; clear HO244; clear HO251; clear BK226; clear BK227; clear BK240; clear BK245; clear BK253; clear HB; have HO232 := n0_; have HO238 := n1_; have HO244 := n2_; have HO251 := n3_; have BK226 := n4_; have BK227 := n5_; have BK240 := n6_; have BK245 := n7_; have BK253 := n8_; have HB := n9_; clear n0_ n1_ n2_ n3_ n4_ n5_ n6_ n7_ n8_ n9_; (try clear hb); (try clear hb2); (try clear hk); (try clear hi)))
    go_meet
    case rel => exact ⟨_, (true), (by first | rfl | (simp; done) | (simp [*]; done)), H', ⟨by first | omega | exact Nat.le_refl _⟩, ⟨by (with_reducible repeat (first | apply Kd.R_alloc | apply Kd.R_drewN | apply Kd.R_drew)); exact Kd.R_mono HO238.out (fun _ hk => ⟨hk.2.1, hk.2.2⟩)⟩, ⟨by (with_reducible repeat (first | apply Kd.R_alloc | apply Kd.R_drewN | apply Kd.R_drew)); exact Kd.R_mono HO244.out (fun _ hk => ⟨hk.2.1, hk.2.2⟩)⟩, ⟨by (with_reducible repeat (first | apply Kd.R_alloc | apply Kd.R_drewN | apply Kd.R_drew)); exact Kd.R_mono HO251.out (fun _ hk => ⟨hk.2.1, hk.2.2⟩)⟩, ⟨upK BK226⟩, ⟨upK BK227⟩, ⟨upK BK240⟩, ⟨upK BK245⟩, ⟨upK BK253⟩, ⟨upW HB⟩⟩
  case rest =>
   clear HC16
   try clear c2
   try clear p2
   try clear c3
   try clear c5
   try clear c6
   try clear c22
   try clear c32
   try clear c33
   try clear c51
   try clear c52
   try clear c53
   try clear c54
   try clear c55
   try clear c57
   try clear c58
   try clear c59
   try clear c62
   try clear c63
   try clear c64
   try clear c65
   try clear c67
   try clear c68
   try clear c69
   try clear hcz56_0
   try clear hcz56_1
   try clear hcz60_0
   try clear hcz60_1
   try clear hcz66_0
   try clear hcz66_1
   try clear hcz70_0
   try clear hcz70_1
   try clear hfz56_0
   try clear hfz56_1
   try clear hfz60_0
   try clear hfz60_1
   try clear hfz66_0
   try clear hfz66_1
   try clear hfz70_0
   try clear hfz70_1
   obtain ⟨kq, x46_15, rfl, HA, HJ15, HO_241001, HO_246001, HO_254001, BK226, BK227, BK240, BK245, BK253, HB⟩ := hcut
   cases kq with
   | zero => exact absurd HA.out (by simp [laws_FnExactAddWire.j0])
   | succ kj15 =>
    have H := HA.out
    clear HA
    simp only [laws_FnExactAddWire.j0] at H
    by_cases c72 : x46_15 = true
    ·subst c72
     have H1 : (some false) = some r := by rw [if_pos rfl] at H; exact H
     clear H
     have H := H1
     clear H1
     obtain rfl := Option.some.inj H
     go_wp2
     go_ret
     exact ⟨by first | rfl | (simp [errW_none, errW_some] <;> rfl) | (simp [*, errW_none, errW_some] <;> rfl), by repeat (first | (with_reducible first | exact HB.out | apply below_alloc | apply pw_below_drewN | apply below_drew1 | refine below_set ?_ GE226.out | refine below_set ?_ GE227.out | refine below_set ?_ GE240.out | refine below_set ?_ GE245.out | refine below_set ?_ GE253.out) | exact HB.out)⟩
    ·replace c72 := Bool.eq_false_iff.mpr c72
     subst c72
     have H1 : ((laws_toNet.f kj15 a0_0 l0_1).bind fun bt255 => ((laws_eqNet.f kj15 t241 t242 bt255.1 bt255.2).bind fun t259 => (if t259 = true then ((laws_markNet.f kj15 t241 t242 1).bind fun bt260 => (if bt260.1 < 0 then (laws_FnExactAddWire.j1 kj15 t239 true a0_0 l0_1 a1_0 a1_1 t235 t236 t248 t249) else ((laws_eqNet.f kj15 t248 t249 t235 t236).bind fun t262 => (if t262 = true then (laws_FnExactAddWire.j1 kj15 t239 (t252 != t239) a0_0 l0_1 a1_0 a1_1 t235 t236 t248 t249) else (laws_FnExactAddWire.j1 kj15 t239 true a0_0 l0_1 a1_0 a1_1 t235 t236 t248 t249))))) else (some false)))) = some r := by rw [if_neg (show ¬ (false = true) by decide)] at H; exact H
     clear H
     have H := H1
     clear H1
     replace H := Option.bind_eq_some_iff.mp H
     obtain ⟨⟨t255, t256⟩, A730, H⟩ := H
     replace H : ((laws_eqNet.f kj15 t241 t242 t255 t256).bind fun t259 => (if t259 = true then ((laws_markNet.f kj15 t241 t242 1).bind fun bt260 => (if bt260.1 < 0 then (laws_FnExactAddWire.j1 kj15 t239 true a0_0 l0_1 a1_0 a1_1 t235 t236 t248 t249) else ((laws_eqNet.f kj15 t248 t249 t235 t236).bind fun t262 => (if t262 = true then (laws_FnExactAddWire.j1 kj15 t239 (t252 != t239) a0_0 l0_1 a1_0 a1_1 t235 t236 t248 t249) else (laws_FnExactAddWire.j1 kj15 t239 true a0_0 l0_1 a1_0 a1_1 t235 t236 t248 t249))))) else (some false))) = some r := H
     have A73 := Aside0.mk A730
     clear A730
     replace H := Option.bind_eq_some_iff.mp H
     obtain ⟨t259, A740, H⟩ := H
     replace H : (if t259 = true then ((laws_markNet.f kj15 t241 t242 1).bind fun bt260 => (if bt260.1 < 0 then (laws_FnExactAddWire.j1 kj15 t239 true a0_0 l0_1 a1_0 a1_1 t235 t236 t248 t249) else ((laws_eqNet.f kj15 t248 t249 t235 t236).bind fun t262 => (if t262 = true then (laws_FnExactAddWire.j1 kj15 t239 (t252 != t239) a0_0 l0_1 a1_0 a1_1 t235 t236 t248 t249) else (laws_FnExactAddWire.j1 kj15 t239 true a0_0 l0_1 a1_0 a1_1 t235 t236 t248 t249))))) else (some false)) = some r := H
     have A74 := Aside0.mk A740
     clear A740
     by_cases c75 : t259 = true
     ·subst c75
      have H1 : ((laws_markNet.f kj15 t241 t242 1).bind fun bt260 => (if bt260.1 < 0 then (laws_FnExactAddWire.j1 kj15 t239 true a0_0 l0_1 a1_0 a1_1 t235 t236 t248 t249) else ((laws_eqNet.f kj15 t248 t249 t235 t236).bind fun t262 => (if t262 = true then (laws_FnExactAddWire.j1 kj15 t239 (t252 != t239) a0_0 l0_1 a1_0 a1_1 t235 t236 t248 t249) else (laws_FnExactAddWire.j1 kj15 t239 true a0_0 l0_1 a1_0 a1_1 t235 t236 t248 t249))))) = some r := by rw [if_pos rfl] at H; exact H
      clear H
      have H := H1
      clear H1
      replace H := Option.bind_eq_some_iff.mp H
      obtain ⟨⟨t260, t261⟩, A760, H⟩ := H
      replace H : (if t260 < 0 then (laws_FnExactAddWire.j1 kj15 t239 true a0_0 l0_1 a1_0 a1_1 t235 t236 t248 t249) else ((laws_eqNet.f kj15 t248 t249 t235 t236).bind fun t262 => (if t262 = true then (laws_FnExactAddWire.j1 kj15 t239 (t252 != t239) a0_0 l0_1 a1_0 a1_1 t235 t236 t248 t249) else (laws_FnExactAddWire.j1 kj15 t239 true a0_0 l0_1 a1_0 a1_1 t235 t236 t248 t249)))) = some r := H
      have A76 := Aside0.mk A760
      clear A760
      have HC77 := Aside0.mk H
      clear H
      try go_wp2
      have n0_ := Aside0.mk (Kd.R_drew HO_241001.out)
      have n1_ := Aside0.mk (Kd.R_drew HO_246001.out)
      have n2_ := Aside0.mk (Kd.R_drew HO_254001.out)
      have n3_ := Aside0.mk (blk_drew BK226.out)
      have n4_ := Aside0.mk (blk_drew BK227.out)
      have n5_ := Aside0.mk (blk_drew BK240.out)
      have n6_ := Aside0.mk (blk_drew BK245.out)
      have n7_ := Aside0.mk (blk_drew BK253.out)
      have n8_ := Aside0.mk (below_drew1 HB.out)
      clear HO_241001
      clear HO_246001
      clear HO_254001
      clear BK226
      clear BK227
      clear BK240
      clear BK245
      clear BK253
      clear HB
      have HO_241001 := n0_
      have HO_246001 := n1_
      have HO_254001 := n2_
      have BK226 := n3_
      have BK227 := n4_
      have BK240 := n5_
      have BK245 := n6_
      have BK253 := n7_
      have HB := n8_
      clear n0_ n1_ n2_ n3_ n4_ n5_ n6_ n7_ n8_
      refine start_ (n := 5) (S := fun w' => w'.cell? ⟨gb245, 0, none⟩ = some (.int .i64 t241) ∧ w'.cell? ⟨gb245, 1, none⟩ = some (.slice Ao40 t242.length co40) ∧ w'.cell? ⟨gb226, 0, none⟩ = some (.int .i64 a0_0) ∧ w'.cell? ⟨gb226, 1, none⟩ = some (.slice A0_1 l0_1.length c0_1)) (ds := []) #[false, false, false, false, false] (by kernel_rfl) rfl rfl ⟨(blk_cell BK245.out 0).trans rfl, (blk_cell BK245.out 1).trans rfl, (blk_cell BK226.out 0).trans rfl, (blk_cell BK226.out 1).trans rfl⟩ (fun hHeld => ?_)
      generalize wc.drew = w78 at HO_241001 HO_246001 HO_254001 BK226 BK227 BK240 BK245 BK253 HB hHeld ⊢
      refine take_ (i := 0) (N := some 47) (v := ?_) (a' := ?_) #[true, false, false, false, false] rfl rfl (by kernel_rfl) (fun _ _ _ h => h) (Or.inl ⟨by rfl, ?_⟩) hHeld ?_ ?_
      rotate_left
      ·rintro w' ⟨s0, s1, s2, s3⟩
       go_simp
       with_reducible rfl
      rotate_left
      ·simp only [Act.put, List.setIfInBounds_toArray, List.set_cons_zero, List.set_cons_succ, i64_w, i32_w]
       rfl
      refine take_ (i := 1) (N := some 48) (v := ?_) (a' := ?_) #[true, true, false, false, false] rfl rfl (by kernel_rfl) (fun _ _ _ h => h) (Or.inl ⟨by rfl, ?_⟩) hHeld ?_ ?_
      rotate_left
      ·rintro w' ⟨s0, s1, s2, s3⟩
       go_simp
       with_reducible rfl
      rotate_left
      ·simp only [Act.put, List.setIfInBounds_toArray, List.set_cons_zero, List.set_cons_succ, i64_w, i32_w]
       rfl
      refine one_ (i := 2) (N := some 49) #[true, true, true, false, false] rfl rfl (by kernel_rfl) (by decide) (fun K hK => ?_)
      refine goes_ Try.func20 (by kernel_rfl) rfl #[.agg #[.int .i64 a0_0, .slice A0_1 l0_1.length c0_1]] (by rfl) rfl rfl itp ?_
      with_reducible refine (laws_toNet.calls kj15 a0_0 _ _ l0_1 t255 t256 _ ?side1 ?side2 A73.out).mono ?_
      (case side1 => repeat (first | exact (Kd.C_below HR0_1.out HB.out) | (with_reducible refine Kd.C_alloc ?_ _) | (with_reducible refine Kd.C_drewN ?_ _) | (with_reducible refine Kd.C_drew ?_)))
      (case side2 => exact HC0_1.out)
      rintro e w79 ⟨v257, rfl, ho0, hb⟩
      refine ⟨_, rfl, ?_⟩
      have n0_ := Aside0.mk (Kd.R_elder' (upR HO_241001) (Kd.R_base ho0) hb)
      have n1_ := Aside0.mk (Kd.R_elder' (upR HO_246001) (Kd.R_base ho0) hb)
      have n2_ := Aside0.mk (Kd.R_elder' (upR HO_254001) (Kd.R_base ho0) hb)
      have n3_ := Aside0.mk (Kd.R_lower (Kd.R_new' (Kd.R_new' (Kd.R_new' ho0 (Kd.R_lt (upR HO_241001))) (Kd.R_lt (upR HO_246001))) (Kd.R_lt (upR HO_254001))) (below_size (upW HB)))
      have n4_ := Aside0.mk (blk_below (upK BK226) hb)
      have n5_ := Aside0.mk (blk_below (upK BK227) hb)
      have n6_ := Aside0.mk (blk_below (upK BK240) hb)
      have n7_ := Aside0.mk (blk_below (upK BK245) hb)
      have n8_ := Aside0.mk (blk_below (upK BK253) hb)
      have n9_ := Aside0.mk (below_step (upW HB) hb)
      clear HO_241001
      clear HO_246001
      clear HO_254001
      clear BK226
      clear BK227
      clear BK240
      clear BK245
      clear BK253
      clear HB
      have HO_241001 := n0_
      have HO_246001 := n1_
      have HO_254001 := n2_
      have HO258 := n3_
      have BK226 := n4_
      have BK227 := n5_
      have BK240 := n6_
      have BK245 := n7_
      have BK253 := n8_
      have HB := n9_
      clear n0_ n1_ n2_ n3_ n4_ n5_ n6_ n7_ n8_ n9_
      (try clear hb)
      (try clear hb2)
      (try clear hk)
      (try clear hi)
      (try clear ho0)
      obtain ⟨Ao80, co80, eo80⟩ := Kd.R_slice HO258.out
      (first | subst eo80 | (injection eo80 with f1_ f2_ f3_; have f4_ := f1_.symm; have f5_ := f3_.symm; clear f1_ f2_ f3_; subst f4_; subst f5_))
      refine hK.out _ _ ⟨(blk_cell BK245.out 0).trans rfl, (blk_cell BK245.out 1).trans rfl, (blk_cell BK226.out 0).trans rfl, (blk_cell BK226.out 1).trans rfl⟩ (fun hHeld => ?_)
      clear hK K
      refine norm_ (a' := ?_) ?_ ?_
      rotate_left
      ·show Act.put _ (some 49) _ = _
       simp only [Act.put, List.setIfInBounds_toArray, List.set_cons_zero, List.set_cons_succ, i64_w, i32_w]
       rfl
      refine one_ (i := 3) (N := some 50) #[true, true, true, true, false] rfl rfl (by kernel_rfl) (by decide) (fun K hK => ?_)
      refine goes_ Try.func22 (by kernel_rfl) rfl #[.agg #[.int .i64 t241, .slice Ao40 t242.length co40], .agg #[.int .i64 t255, .slice Ao80 t256.length co80]] (by rfl) rfl rfl itp ?_
      with_reducible refine (laws_eqNet.calls kj15 t241 _ _ t242 t255 _ _ t256 true _ ?side1 ?side2 ?side3 ?side4 A74.out).mono ?_
      (case side1 => repeat (first | exact (Kd.R_reads' HO_246001.out).2.2 | (with_reducible refine Kd.C_alloc ?_ _) | (with_reducible refine Kd.C_drewN ?_ _) | (with_reducible refine Kd.C_drew ?_)))
      (case side2 => exact (Kd.R_reads' HO_246001.out).2.1)
      (case side3 => repeat (first | exact (Kd.R_reads' HO258.out).2.2 | (with_reducible refine Kd.C_alloc ?_ _) | (with_reducible refine Kd.C_drewN ?_ _) | (with_reducible refine Kd.C_drew ?_)))
      (case side4 => exact (Kd.R_reads' HO258.out).2.1)
      rintro e w81 ⟨rfl, hb⟩
      refine ⟨_, rfl, ?_⟩
      have n0_ := Aside0.mk (Kd.R_below (upR HO_241001) hb)
      have n1_ := Aside0.mk (Kd.R_below (upR HO_246001) hb)
      have n2_ := Aside0.mk (Kd.R_below (upR HO_254001) hb)
      have n3_ := Aside0.mk (Kd.R_below (upR HO258) hb)
      have n4_ := Aside0.mk (blk_below (upK BK226) hb)
      have n5_ := Aside0.mk (blk_below (upK BK227) hb)
      have n6_ := Aside0.mk (blk_below (upK BK240) hb)
      have n7_ := Aside0.mk (blk_below (upK BK245) hb)
      have n8_ := Aside0.mk (blk_below (upK BK253) hb)
      have n9_ := Aside0.mk (below_step (upW HB) hb)
      clear HO_241001
      clear HO_246001
      clear HO_254001
      clear HO258
      clear BK226
      clear BK227
      clear BK240
      clear BK245
      clear BK253
      clear HB
      have HO_241001 := n0_
      have HO_246001 := n1_
      have HO_254001 := n2_
      have HO258 := n3_
      have BK226 := n4_
      have BK227 := n5_
      have BK240 := n6_
      have BK245 := n7_
      have BK253 := n8_
      have HB := n9_
      clear n0_ n1_ n2_ n3_ n4_ n5_ n6_ n7_ n8_ n9_
      (try clear hb)
      (try clear hb2)
      (try clear hk)
      (try clear hi)
      refine hK.out _ _ ⟨(blk_cell BK245.out 0).trans rfl, (blk_cell BK245.out 1).trans rfl, (blk_cell BK226.out 0).trans rfl, (blk_cell BK226.out 1).trans rfl⟩ (fun hHeld => ?_)
      clear hK K
      refine norm_ (a' := ?_) ?_ ?_
      rotate_left
      ·show Act.put _ (some 50) _ = _
       simp only [Act.put, List.setIfInBounds_toArray, List.set_cons_zero, List.set_cons_succ, i64_w, i32_w]
       rfl
      refine pure_ (i := 4) (N := some 51) (v := ?_) (a' := ?_) #[true, true, true, true, true] rfl rfl (by kernel_rfl) (fun _ _ _ h => h) (Or.inl ⟨by rfl, ?_⟩) ?_ ?_
      rotate_left
      ·intro w'
       go_simp
       with_reducible rfl
      rotate_left
      ·simp only [Act.put, List.setIfInBounds_toArray, List.set_cons_zero, List.set_cons_succ, i64_w, i32_w]
       rfl
      refine done_ (by kernel_rfl) ?_
      have hnb82 := NB245_226.out
      have hnc82 := NB226_245.out
      have hnb83 := NB245_227.out
      have hnc83 := NB227_245.out
      have hnb84 := NB245_240.out
      have hnc84 := NB240_245.out
      have hnb85 := NB245_253.out
      have hnc85 := NB253_245.out
      have hcz86_0 : w81.cell? ⟨gb245, 0, none⟩ = some (.int .i64 t241) := (blk_cell BK245.out 0).trans rfl
      have hcz86_1 : w81.cell? ⟨gb245, 1, none⟩ = some (.slice Ao40 t242.length co40) := (blk_cell BK245.out 1).trans rfl
      have hfz86_0 := blk_frozen BK245.out 0
      have hfz86_1 := blk_frozen BK245.out 1
      go_upto_region 14 with (first | ((with_reducible refine gate_callee (f := 29) rfl ?_); refine goesL_ (some 54) rfl rfl Try.func29 (by kernel_rfl) rfl #[.agg #[.int .i64 t241, .slice Ao40 t242.length co40], .int .i64 1] rfl itp ?_; (with_reducible refine (laws_markNet.calls kj15 t241 (fun k_ => some k_ = (.slice Ao40 t242.length co40 : Value).ownBlock) (.slice Ao40 t242.length co40) t242 1 t260 t261 w _ ?side1 ?side2 A76.out).mono ?_); (case side1 => repeat (first | (with_reducible first | exact HB.out | apply below_alloc | apply pw_below_drewN | apply below_drew1 | refine below_set ?_ GE226.out | refine below_set ?_ GE227.out | refine below_set ?_ GE240.out | refine below_set ?_ GE245.out | refine below_set ?_ GE253.out) | exact HB.out)); (case side2 => exact Kd.R_tight rfl HO_246001.out); rintro e w87 ⟨rfl, hy0, hb, hkp⟩; refine ⟨_, rfl, ?_⟩; have n0_ := Aside0.mk (Kd.R_mono (ok' := fun k_ => some k_ ≠ (.slice Ao40 t242.length co40 : Value).ownBlock ∧ some k_ ≠ (.slice Ao48 t249.length co48 : Value).ownBlock ∧ some k_ ≠ (.slice Ao80 t256.length co80 : Value).ownBlock) (Kd.R_keptB (HO_241001.out) hkp (fun k_ hk_ hs_ => (hk_.1.1) hs_)) (fun k_ hk_ => ⟨hk_.1.1.1, hk_.1.1.2, hk_.1.2⟩)); have n1_ := Aside0.mk (Kd.R_reok rfl hy0 (fun k_ e_ => HO_246001.out.1 k_ e_)); have n2_ := Aside0.mk (Kd.R_mono (ok' := fun k_ => some k_ ≠ (.slice Ao30 t236.length co30 : Value).ownBlock ∧ some k_ ≠ (.slice Ao40 t242.length co40 : Value).ownBlock ∧ some k_ ≠ (.slice Ao80 t256.length co80 : Value).ownBlock) (Kd.R_keptB (HO_254001.out) hkp (fun k_ hk_ hs_ => (hk_.1.2) hs_)) (fun k_ hk_ => ⟨hk_.1.1.1, hk_.1.1.2, hk_.1.2⟩)); have n3_ := Aside0.mk (blk_kept (upK BK226) hkp (fun hs_ => (fun e_ => (Kd.R_ne HO_246001.out BK226.out (by decide)) e_) hs_)); have n4_ := Aside0.mk (blk_kept (upK BK227) hkp (fun hs_ => (fun e_ => (Kd.R_ne HO_246001.out BK227.out (by decide)) e_) hs_)); have n5_ := Aside0.mk (blk_kept (upK BK240) hkp (fun hs_ => (fun e_ => (Kd.R_ne HO_246001.out BK240.out (by decide)) e_) hs_)); have n6_ := Aside0.mk (blk_kept (upK BK245) hkp (fun hs_ => (fun e_ => (Kd.R_ne HO_246001.out BK245.out (by decide)) e_) hs_)); have n7_ := Aside0.mk (blk_kept (upK BK253) hkp (fun hs_ => (fun e_ => (Kd.R_ne HO_246001.out BK253.out (by decide)) e_) hs_)); have n8_ := Aside0.mk (Kd.R_mono (ok' := fun k_ => some k_ ≠ (.slice Ao30 t236.length co30 : Value).ownBlock ∧ some k_ ≠ (.slice Ao40 t242.length co40 : Value).ownBlock ∧ some k_ ≠ (.slice Ao48 t249.length co48 : Value).ownBlock) (Kd.R_keptB (HO258.out) hkp (fun k_ hk_ hs_ => (hk_.1.2) hs_)) (fun k_ hk_ => ⟨hk_.1.1.1.2, hk_.1.1.2, hk_.1.2⟩)); have n9_ := Aside0.mk (hb); clear HO_241001; clear HO_246001; clear HO_254001; clear BK226; clear BK227; clear BK240; clear BK245; clear BK253; clear HO258; clear HB; have HO_241001 := n0_; have HO_246001 := n1_; have HO_254001 := n2_; have BK226 := n3_; have BK227 := n4_; have BK240 := n5_; have BK245 := n6_; have BK253 := n7_; have HO258 := n8_; have HB := n9_; clear n0_ n1_ n2_ n3_ n4_ n5_ n6_ n7_ n8_ n9_; (try clear hb); (try clear hkp); (try clear hy0)))
      (try simp only [Act.put, List.setIfInBounds_toArray, List.set_cons_zero, List.set_cons_succ])
      go_cut [67] (fun v67 wc => ∃ (kq : Nat) (x67_76 : Bool), v67 = .bool x67_76 ∧ Aside0 (laws_FnExactAddWire.j1 kq t239 x67_76 a0_0 l0_1 a1_0 a1_1 t235 t236 t248 t249 = some r) ∧ Aside0 (kq ≤ kj15) ∧ Aside0 (Kd.R k55 55 wc w.heap.size (fun k_ => some k_ ≠ ((.slice Ao40 t242.length co40) : Value).ownBlock ∧ some k_ ≠ ((.slice Ao48 t249.length co48) : Value).ownBlock) (.slice Ao30 t236.length co30) t236) ∧ Aside0 (Kd.R k55 55 wc w.heap.size (fun k_ => some k_ ≠ ((.slice Ao30 t236.length co30) : Value).ownBlock ∧ some k_ ≠ ((.slice Ao48 t249.length co48) : Value).ownBlock) (.slice Ao40 t242.length co40) t261) ∧ Aside0 (Kd.R k55 55 wc w.heap.size (fun k_ => some k_ ≠ ((.slice Ao30 t236.length co30) : Value).ownBlock ∧ some k_ ≠ ((.slice Ao40 t242.length co40) : Value).ownBlock) (.slice Ao48 t249.length co48) t249) ∧ Aside0 (wc.heap[gb226]? = some (.cells #[.int .i64 a0_0, (.slice A0_1 l0_1.length c0_1)] 35 (0, 0))) ∧ Aside0 (wc.heap[gb227]? = some (.cells #[.int .i64 a1_0, .int .i64 a1_1] 53 (0, 0))) ∧ Aside0 (wc.heap[gb240]? = some (.cells #[.int .i64 t235, (.slice Ao30 t236.length co30)] 40 (0, 0))) ∧ Aside0 (wc.heap[gb245]? = some (.cells #[.int .i64 t241, (.slice Ao40 t242.length co40)] 40 (0, 0))) ∧ Aside0 (wc.heap[gb253]? = some (.cells #[.int .i64 t248, (.slice Ao48 t249.length co48)] 40 (0, 0))) ∧ Aside0 (Below w.heap.size w wc))
      case first =>
       have H := HC77.out
       clear HC77
       by_cases c88 : t260 < 0
       ·rw [if_pos c88] at H
        have c88b0 : decide (t260 < 0) = true := decide_eq_true c88
        clear c88
        (first | rw [c88b0] | (simp only [i64_w, i32_w]; rw [c88b0]) | skip)
        have H' := Aside0.mk H
        clear H
        go_wp2
        go_meet
        case rel => exact ⟨_, (true), (by first | rfl | (simp; done) | (simp [*]; done)), H', ⟨by have := HJ15.out; first | omega | exact Nat.le_refl _⟩, ⟨by (with_reducible repeat (first | apply Kd.R_alloc | apply Kd.R_drewN | apply Kd.R_drew)); exact Kd.R_mono HO_241001.out (fun _ hk => ⟨hk.1, hk.2.1⟩)⟩, ⟨by (with_reducible repeat (first | apply Kd.R_alloc | apply Kd.R_drewN | apply Kd.R_drew)); exact Kd.R_mono HO_246001.out (fun _ hk => ⟨hk.1.1, hk.1.2⟩)⟩, ⟨by (with_reducible repeat (first | apply Kd.R_alloc | apply Kd.R_drewN | apply Kd.R_drew)); exact Kd.R_mono HO_254001.out (fun _ hk => ⟨hk.1, hk.2.1⟩)⟩, ⟨upK BK226⟩, ⟨upK BK227⟩, ⟨upK BK240⟩, ⟨upK BK245⟩, ⟨upK BK253⟩, ⟨upW HB⟩⟩
       ·rw [if_neg c88] at H
        have c88b0 : decide (t260 < 0) = false := decide_eq_false c88
        clear c88
        (first | rw [c88b0] | (simp only [i64_w, i32_w]; rw [c88b0]) | skip)
        replace H := Option.bind_eq_some_iff.mp H
        obtain ⟨t262, A890, H⟩ := H
        replace H : (if t262 = true then (laws_FnExactAddWire.j1 kj15 t239 (t252 != t239) a0_0 l0_1 a1_0 a1_1 t235 t236 t248 t249) else (laws_FnExactAddWire.j1 kj15 t239 true a0_0 l0_1 a1_0 a1_1 t235 t236 t248 t249)) = some r := H
        have A89 := Aside0.mk A890
        clear A890
        by_cases c90 : t262 = true
        ·subst c90
         have H1 : (laws_FnExactAddWire.j1 kj15 t239 (t252 != t239) a0_0 l0_1 a1_0 a1_1 t235 t236 t248 t249) = some r := by rw [if_pos rfl] at H; exact H
         clear H
         have H := H1
         clear H1
         have H' := Aside0.mk H
         clear H
         have hnb91 := NB253_226.out
         have hnc91 := NB226_253.out
         have hnb92 := NB253_227.out
         have hnc92 := NB227_253.out
         have hnb93 := NB253_240.out
         have hnc93 := NB240_253.out
         have hnb94 := NB253_245.out
         have hnc94 := NB245_253.out
         have hcz95_0 : w87.cell? ⟨gb253, 0, none⟩ = some (.int .i64 t248) := (blk_cell BK253.out 0).trans rfl
         have hcz95_1 : w87.cell? ⟨gb253, 1, none⟩ = some (.slice Ao48 t249.length co48) := (blk_cell BK253.out 1).trans rfl
         have hfz95_0 := blk_frozen BK253.out 0
         have hfz95_1 := blk_frozen BK253.out 1
         have hnb96 := NB240_226.out
         have hnc96 := NB226_240.out
         have hnb97 := NB240_227.out
         have hnc97 := NB227_240.out
         have hnb98 := NB240_245.out
         have hnc98 := NB245_240.out
         have hcz99_0 : w87.cell? ⟨gb240, 0, none⟩ = some (.int .i64 t235) := (blk_cell BK240.out 0).trans rfl
         have hcz99_1 : w87.cell? ⟨gb240, 1, none⟩ = some (.slice Ao30 t236.length co30) := (blk_cell BK240.out 1).trans rfl
         have hfz99_0 := blk_frozen BK240.out 0
         have hfz99_1 := blk_frozen BK240.out 1
         go_wp2_with (first | (go_at_call 22; (with_reducible refine (laws_eqNet.calls kj15 t248 _ _ t249 t235 _ _ t236 true _ ?side1 ?side2 ?side3 ?side4 A89.out).mono ?_); (case side1 => repeat (first | exact (Kd.R_reads' HO_254001.out).2.2 | (with_reducible refine Kd.C_alloc ?_ _) | (with_reducible refine Kd.C_drewN ?_ _) | (with_reducible refine Kd.C_drew ?_))); (case side2 => exact (Kd.R_reads' HO_254001.out).2.1); (case side3 => repeat (first | exact (Kd.R_reads' HO_241001.out).2.2 | (with_reducible refine Kd.C_alloc ?_ _) | (with_reducible refine Kd.C_drewN ?_ _) | (with_reducible refine Kd.C_drew ?_))); (case side4 => exact (Kd.R_reads' HO_241001.out).2.1); rintro e w100 ⟨rfl, hb⟩; have n0_ := Aside0.mk (Kd.R_below (upR HO_241001) hb); have n1_ := Aside0.mk (Kd.R_below (upR HO_246001) hb); have n2_ := Aside0.mk (Kd.R_below (upR HO_254001) hb); have n3_ := Aside0.mk (Kd.R_below (upR HO258) hb); have n4_ := Aside0.mk (blk_below (upK BK226) hb); have n5_ := Aside0.mk (blk_below (upK BK227) hb); have n6_ := Aside0.mk (blk_below (upK BK240) hb); have n7_ := Aside0.mk (blk_below (upK BK245) hb); have n8_ := Aside0.mk (blk_below (upK BK253) hb); have n9_ := Aside0.mk (below_step (upW HB) hb); clear HO_241001; clear HO_246001; clear HO_254001; clear HO258; clear BK226; clear BK227; clear BK240; clear BK245; clear BK253; clear HB; have HO_241001 := n0_; have HO_246001 := n1_; have HO_254001 := n2_; have HO258 := n3_; have BK226 := n4_; have BK227 := n5_; have BK240 := n6_; have BK245 := n7_; have BK253 := n8_; have HB := n9_; clear n0_ n1_ n2_ n3_ n4_ n5_ n6_ n7_ n8_ n9_; (try clear hb); (try clear hb2); (try clear hk); (try clear hi)))
         go_meet
         case rel => exact ⟨_, ((t252 != t239)), (by first | rfl | (simp; done) | (simp [*]; done)), H', ⟨by have := HJ15.out; first | omega | exact Nat.le_refl _⟩, ⟨by (with_reducible repeat (first | apply Kd.R_alloc | apply Kd.R_drewN | apply Kd.R_drew)); exact Kd.R_mono HO_241001.out (fun _ hk => ⟨hk.1, hk.2.1⟩)⟩, ⟨by (with_reducible repeat (first | apply Kd.R_alloc | apply Kd.R_drewN | apply Kd.R_drew)); exact Kd.R_mono HO_246001.out (fun _ hk => ⟨hk.1.1, hk.1.2⟩)⟩, ⟨by (with_reducible repeat (first | apply Kd.R_alloc | apply Kd.R_drewN | apply Kd.R_drew)); exact Kd.R_mono HO_254001.out (fun _ hk => ⟨hk.1, hk.2.1⟩)⟩, ⟨upK BK226⟩, ⟨upK BK227⟩, ⟨upK BK240⟩, ⟨upK BK245⟩, ⟨upK BK253⟩, ⟨upW HB⟩⟩
        ·replace c90 := Bool.eq_false_iff.mpr c90
         subst c90
         have H1 : (laws_FnExactAddWire.j1 kj15 t239 true a0_0 l0_1 a1_0 a1_1 t235 t236 t248 t249) = some r := by rw [if_neg (show ¬ (false = true) by decide)] at H; exact H
         clear H
         have H := H1
         clear H1
         have H' := Aside0.mk H
         clear H
         have hnb101 := NB253_226.out
         have hnc101 := NB226_253.out
         have hnb102 := NB253_227.out
         have hnc102 := NB227_253.out
         have hnb103 := NB253_240.out
         have hnc103 := NB240_253.out
         have hnb104 := NB253_245.out
         have hnc104 := NB245_253.out
         have hcz105_0 : w87.cell? ⟨gb253, 0, none⟩ = some (.int .i64 t248) := (blk_cell BK253.out 0).trans rfl
         have hcz105_1 : w87.cell? ⟨gb253, 1, none⟩ = some (.slice Ao48 t249.length co48) := (blk_cell BK253.out 1).trans rfl
         have hfz105_0 := blk_frozen BK253.out 0
         have hfz105_1 := blk_frozen BK253.out 1
         have hnb106 := NB240_226.out
         have hnc106 := NB226_240.out
         have hnb107 := NB240_227.out
         have hnc107 := NB227_240.out
         have hnb108 := NB240_245.out
         have hnc108 := NB245_240.out
         have hcz109_0 : w87.cell? ⟨gb240, 0, none⟩ = some (.int .i64 t235) := (blk_cell BK240.out 0).trans rfl
         have hcz109_1 : w87.cell? ⟨gb240, 1, none⟩ = some (.slice Ao30 t236.length co30) := (blk_cell BK240.out 1).trans rfl
         have hfz109_0 := blk_frozen BK240.out 0
         have hfz109_1 := blk_frozen BK240.out 1
         go_wp2_with (first | (go_at_call 22; (with_reducible refine (laws_eqNet.calls kj15 t248 _ _ t249 t235 _ _ t236 false _ ?side1 ?side2 ?side3 ?side4 A89.out).mono ?_); (case side1 => repeat (first | exact (Kd.R_reads' HO_254001.out).2.2 | (with_reducible refine Kd.C_alloc ?_ _) | (with_reducible refine Kd.C_drewN ?_ _) | (with_reducible refine Kd.C_drew ?_))); (case side2 => exact (Kd.R_reads' HO_254001.out).2.1); (case side3 => repeat (first | exact (Kd.R_reads' HO_241001.out).2.2 | (with_reducible refine Kd.C_alloc ?_ _) | (with_reducible refine Kd.C_drewN ?_ _) | (with_reducible refine Kd.C_drew ?_))); (case side4 => exact (Kd.R_reads' HO_241001.out).2.1); rintro e w110 ⟨rfl, hb⟩; have n0_ := Aside0.mk (Kd.R_below (upR HO_241001) hb); have n1_ := Aside0.mk (Kd.R_below (upR HO_246001) hb); have n2_ := Aside0.mk (Kd.R_below (upR HO_254001) hb); have n3_ := Aside0.mk (Kd.R_below (upR HO258) hb); have n4_ := Aside0.mk (blk_below (upK BK226) hb); have n5_ := Aside0.mk (blk_below (upK BK227) hb); have n6_ := Aside0.mk (blk_below (upK BK240) hb); have n7_ := Aside0.mk (blk_below (upK BK245) hb); have n8_ := Aside0.mk (blk_below (upK BK253) hb); have n9_ := Aside0.mk (below_step (upW HB) hb); clear HO_241001; clear HO_246001; clear HO_254001; clear HO258; clear BK226; clear BK227; clear BK240; clear BK245; clear BK253; clear HB; have HO_241001 := n0_; have HO_246001 := n1_; have HO_254001 := n2_; have HO258 := n3_; have BK226 := n4_; have BK227 := n5_; have BK240 := n6_; have BK245 := n7_; have BK253 := n8_; have HB := n9_; clear n0_ n1_ n2_ n3_ n4_ n5_ n6_ n7_ n8_ n9_; (try clear hb); (try clear hb2); (try clear hk); (try clear hi)))
         go_meet
         case rel => exact ⟨_, (true), (by first | rfl | (simp; done) | (simp [*]; done)), H', ⟨by have := HJ15.out; first | omega | exact Nat.le_refl _⟩, ⟨by (with_reducible repeat (first | apply Kd.R_alloc | apply Kd.R_drewN | apply Kd.R_drew)); exact Kd.R_mono HO_241001.out (fun _ hk => ⟨hk.1, hk.2.1⟩)⟩, ⟨by (with_reducible repeat (first | apply Kd.R_alloc | apply Kd.R_drewN | apply Kd.R_drew)); exact Kd.R_mono HO_246001.out (fun _ hk => ⟨hk.1.1, hk.1.2⟩)⟩, ⟨by (with_reducible repeat (first | apply Kd.R_alloc | apply Kd.R_drewN | apply Kd.R_drew)); exact Kd.R_mono HO_254001.out (fun _ hk => ⟨hk.1, hk.2.1⟩)⟩, ⟨upK BK226⟩, ⟨upK BK227⟩, ⟨upK BK240⟩, ⟨upK BK245⟩, ⟨upK BK253⟩, ⟨upW HB⟩⟩
      case rest =>
       clear HC77
       try clear c1
       try clear c2
       try clear p2
       try clear c3
       try clear c5
       try clear c6
       try clear c7
       try clear c8
       try clear c9
       try clear c10
       try clear c20
       try clear c22
       try clear c29
       try clear c32
       try clear c33
       try clear c51
       try clear c52
       try clear c53
       try clear c54
       try clear c55
       try clear c57
       try clear c58
       try clear c59
       try clear c62
       try clear c63
       try clear c64
       try clear c65
       try clear c67
       try clear c68
       try clear c69
       try clear c72
       try clear c75
       try clear c82
       try clear c83
       try clear c84
       try clear c85
       try clear c88
       try clear c88b0
       try clear c90
       try clear c91
       try clear c92
       try clear c93
       try clear c94
       try clear c96
       try clear c97
       try clear c98
       try clear c101
       try clear c102
       try clear c103
       try clear c104
       try clear c106
       try clear c107
       try clear c108
       try clear hcz105_0
       try clear hcz105_1
       try clear hcz109_0
       try clear hcz109_1
       try clear hcz56_0
       try clear hcz56_1
       try clear hcz60_0
       try clear hcz60_1
       try clear hcz66_0
       try clear hcz66_1
       try clear hcz70_0
       try clear hcz70_1
       try clear hcz86_0
       try clear hcz86_1
       try clear hcz95_0
       try clear hcz95_1
       try clear hcz99_0
       try clear hcz99_1
       try clear hfz105_0
       try clear hfz105_1
       try clear hfz109_0
       try clear hfz109_1
       try clear hfz56_0
       try clear hfz56_1
       try clear hfz60_0
       try clear hfz60_1
       try clear hfz66_0
       try clear hfz66_1
       try clear hfz70_0
       try clear hfz70_1
       try clear hfz86_0
       try clear hfz86_1
       try clear hfz95_0
       try clear hfz95_1
       try clear hfz99_0
       try clear hfz99_1
       try clear p2
       obtain ⟨kq, x67_76, rfl, HA, HJ76, HO_241001, HO_246001, HO_254001, BK226, BK227, BK240, BK245, BK253, HB⟩ := hcut
       have hl246001_76 := (Kd.R_reads' HO_246001.out).1
       rw [hl246001_76] at HO_246001
       (try simp only [hl246001_76])
       (try simp only [hl246001_76] at BK226)
       (try simp only [hl246001_76] at BK227)
       (try simp only [hl246001_76] at BK240)
       (try simp only [hl246001_76] at BK245)
       (try simp only [hl246001_76] at BK253)
       (try simp only [hl246001_76] at HO_241001)
       (try simp only [hl246001_76] at HO_254001)
       cases kq with
       | zero => exact absurd HA.out (by simp [laws_FnExactAddWire.j1])
       | succ kj76 =>
        have H := HA.out
        clear HA
        simp only [laws_FnExactAddWire.j1] at H
        by_cases c111 : x67_76 = true
        ·subst c111
         have H1 : (some false) = some r := by rw [if_pos rfl] at H; exact H
         clear H
         have H := H1
         clear H1
         obtain rfl := Option.some.inj H
         go_wp2
         go_ret
         exact ⟨by first | rfl | (simp [errW_none, errW_some] <;> rfl) | (simp [*, errW_none, errW_some] <;> rfl), by repeat (first | (with_reducible first | exact HB.out | apply below_alloc | apply pw_below_drewN | apply below_drew1 | refine below_set ?_ GE226.out | refine below_set ?_ GE227.out | refine below_set ?_ GE240.out | refine below_set ?_ GE245.out | refine below_set ?_ GE253.out) | exact HB.out)⟩
        ·replace c111 := Bool.eq_false_iff.mpr c111
         subst c111
         have H1 : ((laws_markNet.f kj76 t248 t249 1).bind fun bt263 => ((laws_heldNet.f kj76 t248 bt263.2 1).bind fun t265 => (if t265 < 0 then (some false) else (if t265 = bt263.1 then ((laws_toNet.f kj76 a0_0 l0_1).bind fun bt266 => ((laws_toWire.f a1_0 a1_1).bind fun bt270 => ((impl_AddWire.f kj76 bt266.1 bt266.2 bt270.1 bt270.2).bind fun bt272 => ((laws_eqNet.f kj76 bt272.1 bt272.2.1 t235 t236).bind fun t278 => (if t278 = true then (laws_FnExactAddWire.j2 kj76 bt263.1 (bt272.2.2 != t239) t248 bt263.2) else (laws_FnExactAddWire.j2 kj76 bt263.1 true t248 bt263.2)))))) else (some false))))) = some r := by rw [if_neg (show ¬ (false = true) by decide)] at H; exact H
         clear H
         have H := H1
         clear H1
         replace H := Option.bind_eq_some_iff.mp H
         obtain ⟨⟨t263, t264⟩, A1120, H⟩ := H
         replace H : ((laws_heldNet.f kj76 t248 t264 1).bind fun t265 => (if t265 < 0 then (some false) else (if t265 = t263 then ((laws_toNet.f kj76 a0_0 l0_1).bind fun bt266 => ((laws_toWire.f a1_0 a1_1).bind fun bt270 => ((impl_AddWire.f kj76 bt266.1 bt266.2 bt270.1 bt270.2).bind fun bt272 => ((laws_eqNet.f kj76 bt272.1 bt272.2.1 t235 t236).bind fun t278 => (if t278 = true then (laws_FnExactAddWire.j2 kj76 t263 (bt272.2.2 != t239) t248 t264) else (laws_FnExactAddWire.j2 kj76 t263 true t248 t264)))))) else (some false)))) = some r := H
         have A112 := Aside0.mk A1120
         clear A1120
         replace H := Option.bind_eq_some_iff.mp H
         obtain ⟨t265, A1130, H⟩ := H
         replace H : (if t265 < 0 then (some false) else (if t265 = t263 then ((laws_toNet.f kj76 a0_0 l0_1).bind fun bt266 => ((laws_toWire.f a1_0 a1_1).bind fun bt270 => ((impl_AddWire.f kj76 bt266.1 bt266.2 bt270.1 bt270.2).bind fun bt272 => ((laws_eqNet.f kj76 bt272.1 bt272.2.1 t235 t236).bind fun t278 => (if t278 = true then (laws_FnExactAddWire.j2 kj76 t263 (bt272.2.2 != t239) t248 t264) else (laws_FnExactAddWire.j2 kj76 t263 true t248 t264)))))) else (some false))) = some r := H
         have A113 := Aside0.mk A1130
         clear A1130
         by_cases c114 : t265 < 0
         ·rw [if_pos c114] at H
          have c114b0 : decide (t265 < 0) = true := decide_eq_true c114
          clear c114
          obtain rfl := Option.some.inj H
          have hnb115 := NB253_226.out
          have hnc115 := NB226_253.out
          have hnb116 := NB253_227.out
          have hnc116 := NB227_253.out
          have hnb117 := NB253_240.out
          have hnc117 := NB240_253.out
          have hnb118 := NB253_245.out
          have hnc118 := NB245_253.out
          have hcz119_0 : wc.cell? ⟨gb253, 0, none⟩ = some (.int .i64 t248) := (blk_cell BK253.out 0).trans rfl
          have hcz119_1 : wc.cell? ⟨gb253, 1, none⟩ = some (.slice Ao48 t249.length co48) := (blk_cell BK253.out 1).trans rfl
          have hfz119_0 := blk_frozen BK253.out 0
          have hfz119_1 := blk_frozen BK253.out 1
          go_wp2_with (first | ((with_reducible refine gate_callee (f := 29) rfl ?_); refine goesL_ (some 70) rfl rfl Try.func29 (by kernel_rfl) rfl #[.agg #[.int .i64 t248, .slice Ao48 t249.length co48], .int .i64 1] rfl itp ?_; (with_reducible refine (laws_markNet.calls kj76 t248 (fun k_ => some k_ = (.slice Ao48 t249.length co48 : Value).ownBlock) (.slice Ao48 t249.length co48) t249 1 t263 t264 w _ ?side1 ?side2 A112.out).mono ?_); (case side1 => repeat (first | (with_reducible first | exact HB.out | apply below_alloc | apply pw_below_drewN | apply below_drew1 | refine below_set ?_ GE226.out | refine below_set ?_ GE227.out | refine below_set ?_ GE240.out | refine below_set ?_ GE245.out | refine below_set ?_ GE253.out) | exact HB.out)); (case side2 => exact Kd.R_tight rfl HO_254001.out); rintro e w120 ⟨rfl, hy0, hb, hkp⟩; refine ⟨_, rfl, ?_⟩; have n0_ := Aside0.mk (Kd.R_mono (ok' := fun k_ => some k_ ≠ (.slice Ao40 t261.length co40 : Value).ownBlock ∧ some k_ ≠ (.slice Ao48 t249.length co48 : Value).ownBlock) (Kd.R_keptB (HO_241001.out) hkp (fun k_ hk_ hs_ => (hk_.2) hs_)) (fun k_ hk_ => ⟨hk_.1.1, hk_.1.2⟩)); have n1_ := Aside0.mk (Kd.R_mono (ok' := fun k_ => some k_ ≠ (.slice Ao30 t236.length co30 : Value).ownBlock ∧ some k_ ≠ (.slice Ao48 t249.length co48 : Value).ownBlock) (Kd.R_keptB (HO_246001.out) hkp (fun k_ hk_ hs_ => (hk_.2) hs_)) (fun k_ hk_ => ⟨hk_.1.1, hk_.1.2⟩)); have n2_ := Aside0.mk (Kd.R_reok rfl hy0 (fun k_ e_ => HO_254001.out.1 k_ e_)); have n3_ := Aside0.mk (blk_kept (upK BK226) hkp (fun hs_ => (fun e_ => (Kd.R_ne HO_254001.out BK226.out (by decide)) e_) hs_)); have n4_ := Aside0.mk (blk_kept (upK BK227) hkp (fun hs_ => (fun e_ => (Kd.R_ne HO_254001.out BK227.out (by decide)) e_) hs_)); have n5_ := Aside0.mk (blk_kept (upK BK240) hkp (fun hs_ => (fun e_ => (Kd.R_ne HO_254001.out BK240.out (by decide)) e_) hs_)); have n6_ := Aside0.mk (blk_kept (upK BK245) hkp (fun hs_ => (fun e_ => (Kd.R_ne HO_254001.out BK245.out (by decide)) e_) hs_)); have n7_ := Aside0.mk (blk_kept (upK BK253) hkp (fun hs_ => (fun e_ => (Kd.R_ne HO_254001.out BK253.out (by decide)) e_) hs_)); have n8_ := Aside0.mk (hb); clear HO_241001; clear HO_246001; clear HO_254001; clear BK226; clear BK227; clear BK240; clear BK245; clear BK253; clear HB; have HO_241001 := n0_; have HO_246001 := n1_; have HO_254001 := n2_; have BK226 := n3_; have BK227 := n4_; have BK240 := n5_; have BK245 := n6_; have BK253 := n7_; have HB := n8_; clear n0_ n1_ n2_ n3_ n4_ n5_ n6_ n7_ n8_; (try clear hb); (try clear hkp); (try clear hy0); have hcz121_0 : w120.cell? ⟨gb253, 0, none⟩ = some (.int .i64 t248) := (blk_cell BK253.out 0).trans rfl; have hcz121_1 : w120.cell? ⟨gb253, 1, none⟩ = some (.slice Ao48 t249.length co48) := (blk_cell BK253.out 1).trans rfl; have hfz121_0 := blk_frozen BK253.out 0; have hfz121_1 := blk_frozen BK253.out 1) | ((with_reducible refine gate_callee (f := 30) rfl ?_); refine goesL_ (some 73) rfl rfl Try.func30 (by kernel_rfl) rfl #[.agg #[.int .i64 t248, .slice Ao48 t264.length co48], .int .i64 1] rfl (by (try simp only [List.map_toArray, List.map_cons, List.map_nil]); first | done | (rw [show t264.length = t249.length from (Kd.R_reads' HO_254001.out).1.symm] <;> rfl) | rfl | (simp only [List.length_drop, List.length_take]; rfl)) ?_; (with_reducible refine (laws_heldNet.calls kj76 t248 _ _ t264 1 t265 _ ?side1 ?side2 A113.out).mono ?_); (case side1 => repeat (first | exact (Kd.R_reads' HO_254001.out).2.2 | (with_reducible refine Kd.C_alloc ?_ _) | (with_reducible refine Kd.C_drewN ?_ _) | (with_reducible refine Kd.C_drew ?_))); (case side2 => rw [show t264.length = t249.length from (Kd.R_reads' HO_254001.out).1.symm]; exact (Kd.R_reads' HO_254001.out).2.1); rintro e w122 ⟨rfl, hb⟩; refine ⟨_, rfl, ?_⟩; have n0_ := Aside0.mk (Kd.R_below (upR HO_241001) hb); have n1_ := Aside0.mk (Kd.R_below (upR HO_246001) hb); have n2_ := Aside0.mk (Kd.R_below (upR HO_254001) hb); have n3_ := Aside0.mk (blk_below (upK BK226) hb); have n4_ := Aside0.mk (blk_below (upK BK227) hb); have n5_ := Aside0.mk (blk_below (upK BK240) hb); have n6_ := Aside0.mk (blk_below (upK BK245) hb); have n7_ := Aside0.mk (blk_below (upK BK253) hb); have n8_ := Aside0.mk (below_step (upW HB) hb); clear HO_241001; clear HO_246001; clear HO_254001; clear BK226; clear BK227; clear BK240; clear BK245; clear BK253; clear HB; have HO_241001 := n0_; have HO_246001 := n1_; have HO_254001 := n2_; have BK226 := n3_; have BK227 := n4_; have BK240 := n5_; have BK245 := n6_; have BK253 := n7_; have HB := n8_; clear n0_ n1_ n2_ n3_ n4_ n5_ n6_ n7_ n8_; (try clear hb); (try clear hb2); (try clear hk); (try clear hi)))
          go_ret
          exact ⟨by first | rfl | (simp [errW_none, errW_some] <;> rfl) | (simp [*, errW_none, errW_some] <;> rfl), by repeat (first | (with_reducible first | exact HB.out | apply below_alloc | apply pw_below_drewN | apply below_drew1 | refine below_set ?_ GE226.out | refine below_set ?_ GE227.out | refine below_set ?_ GE240.out | refine below_set ?_ GE245.out | refine below_set ?_ GE253.out) | exact HB.out)⟩
         ·rw [if_neg c114] at H
          have c114b0 : decide (t265 < 0) = false := decide_eq_false c114
          clear c114
          by_cases c123 : t265 = t263
          ·rw [if_pos c123] at H
           have c123b0 : (t265 == t263) = true := beq_iff_eq.mpr c123
           have c123b1 : (t265 != t263) = false := bne_eq_false_iff_eq.mpr c123
           clear c123
           replace H := Option.bind_eq_some_iff.mp H
           obtain ⟨⟨t266, t267⟩, A1240, H⟩ := H
           replace H : ((laws_toWire.f a1_0 a1_1).bind fun bt270 => ((impl_AddWire.f kj76 t266 t267 bt270.1 bt270.2).bind fun bt272 => ((laws_eqNet.f kj76 bt272.1 bt272.2.1 t235 t236).bind fun t278 => (if t278 = true then (laws_FnExactAddWire.j2 kj76 t263 (bt272.2.2 != t239) t248 t264) else (laws_FnExactAddWire.j2 kj76 t263 true t248 t264))))) = some r := H
           have A124 := Aside0.mk A1240
           clear A1240
           replace H := Option.bind_eq_some_iff.mp H
           obtain ⟨⟨t270, t271⟩, A1250, H⟩ := H
           replace H : ((impl_AddWire.f kj76 t266 t267 t270 t271).bind fun bt272 => ((laws_eqNet.f kj76 bt272.1 bt272.2.1 t235 t236).bind fun t278 => (if t278 = true then (laws_FnExactAddWire.j2 kj76 t263 (bt272.2.2 != t239) t248 t264) else (laws_FnExactAddWire.j2 kj76 t263 true t248 t264)))) = some r := H
           have A125 := Aside0.mk A1250
           clear A1250
           replace H := Option.bind_eq_some_iff.mp H
           obtain ⟨⟨t272, t273, t276⟩, A1260, H⟩ := H
           replace H : ((laws_eqNet.f kj76 t272 t273 t235 t236).bind fun t278 => (if t278 = true then (laws_FnExactAddWire.j2 kj76 t263 (t276 != t239) t248 t264) else (laws_FnExactAddWire.j2 kj76 t263 true t248 t264))) = some r := H
           have A126 := Aside0.mk A1260
           clear A1260
           have HC127 := Aside0.mk H
           clear H
           have hnb128 := NB253_226.out
           have hnc128 := NB226_253.out
           have hnb129 := NB253_227.out
           have hnc129 := NB227_253.out
           have hnb130 := NB253_240.out
           have hnc130 := NB240_253.out
           have hnb131 := NB253_245.out
           have hnc131 := NB245_253.out
           have hcz132_0 : wc.cell? ⟨gb253, 0, none⟩ = some (.int .i64 t248) := (blk_cell BK253.out 0).trans rfl
           have hcz132_1 : wc.cell? ⟨gb253, 1, none⟩ = some (.slice Ao48 t249.length co48) := (blk_cell BK253.out 1).trans rfl
           have hfz132_0 := blk_frozen BK253.out 0
           have hfz132_1 := blk_frozen BK253.out 1
           try go_wp2_with (first | ((with_reducible refine gate_callee (f := 29) rfl ?_); refine goesL_ (some 70) rfl rfl Try.func29 (by kernel_rfl) rfl #[.agg #[.int .i64 t248, .slice Ao48 t249.length co48], .int .i64 1] rfl itp ?_; (with_reducible refine (laws_markNet.calls kj76 t248 (fun k_ => some k_ = (.slice Ao48 t249.length co48 : Value).ownBlock) (.slice Ao48 t249.length co48) t249 1 t263 t264 w _ ?side1 ?side2 A112.out).mono ?_); (case side1 => repeat (first | (with_reducible first | exact HB.out | apply below_alloc | apply pw_below_drewN | apply below_drew1 | refine below_set ?_ GE226.out | refine below_set ?_ GE227.out | refine below_set ?_ GE240.out | refine below_set ?_ GE245.out | refine below_set ?_ GE253.out) | exact HB.out)); (case side2 => exact Kd.R_tight rfl HO_254001.out); rintro e w133 ⟨rfl, hy0, hb, hkp⟩; refine ⟨_, rfl, ?_⟩; have n0_ := Aside0.mk (Kd.R_mono (ok' := fun k_ => some k_ ≠ (.slice Ao40 t261.length co40 : Value).ownBlock ∧ some k_ ≠ (.slice Ao48 t249.length co48 : Value).ownBlock) (Kd.R_keptB (HO_241001.out) hkp (fun k_ hk_ hs_ => (hk_.2) hs_)) (fun k_ hk_ => ⟨hk_.1.1, hk_.1.2⟩)); have n1_ := Aside0.mk (Kd.R_mono (ok' := fun k_ => some k_ ≠ (.slice Ao30 t236.length co30 : Value).ownBlock ∧ some k_ ≠ (.slice Ao48 t249.length co48 : Value).ownBlock) (Kd.R_keptB (HO_246001.out) hkp (fun k_ hk_ hs_ => (hk_.2) hs_)) (fun k_ hk_ => ⟨hk_.1.1, hk_.1.2⟩)); have n2_ := Aside0.mk (Kd.R_reok rfl hy0 (fun k_ e_ => HO_254001.out.1 k_ e_)); have n3_ := Aside0.mk (blk_kept (upK BK226) hkp (fun hs_ => (fun e_ => (Kd.R_ne HO_254001.out BK226.out (by decide)) e_) hs_)); have n4_ := Aside0.mk (blk_kept (upK BK227) hkp (fun hs_ => (fun e_ => (Kd.R_ne HO_254001.out BK227.out (by decide)) e_) hs_)); have n5_ := Aside0.mk (blk_kept (upK BK240) hkp (fun hs_ => (fun e_ => (Kd.R_ne HO_254001.out BK240.out (by decide)) e_) hs_)); have n6_ := Aside0.mk (blk_kept (upK BK245) hkp (fun hs_ => (fun e_ => (Kd.R_ne HO_254001.out BK245.out (by decide)) e_) hs_)); have n7_ := Aside0.mk (blk_kept (upK BK253) hkp (fun hs_ => (fun e_ => (Kd.R_ne HO_254001.out BK253.out (by decide)) e_) hs_)); have n8_ := Aside0.mk (hb); clear HO_241001; clear HO_246001; clear HO_254001; clear BK226; clear BK227; clear BK240; clear BK245; clear BK253; clear HB; have HO_241001 := n0_; have HO_246001 := n1_; have HO_254001 := n2_; have BK226 := n3_; have BK227 := n4_; have BK240 := n5_; have BK245 := n6_; have BK253 := n7_; have HB := n8_; clear n0_ n1_ n2_ n3_ n4_ n5_ n6_ n7_ n8_; (try clear hb); (try clear hkp); (try clear hy0); have hcz134_0 : w133.cell? ⟨gb253, 0, none⟩ = some (.int .i64 t248) := (blk_cell BK253.out 0).trans rfl; have hcz134_1 : w133.cell? ⟨gb253, 1, none⟩ = some (.slice Ao48 t249.length co48) := (blk_cell BK253.out 1).trans rfl; have hfz134_0 := blk_frozen BK253.out 0; have hfz134_1 := blk_frozen BK253.out 1) | ((with_reducible refine gate_callee (f := 30) rfl ?_); refine goesL_ (some 73) rfl rfl Try.func30 (by kernel_rfl) rfl #[.agg #[.int .i64 t248, .slice Ao48 t264.length co48], .int .i64 1] rfl (by (try simp only [List.map_toArray, List.map_cons, List.map_nil]); first | done | (rw [show t264.length = t249.length from (Kd.R_reads' HO_254001.out).1.symm] <;> rfl) | rfl | (simp only [List.length_drop, List.length_take]; rfl)) ?_; (with_reducible refine (laws_heldNet.calls kj76 t248 _ _ t264 1 t265 _ ?side1 ?side2 A113.out).mono ?_); (case side1 => repeat (first | exact (Kd.R_reads' HO_254001.out).2.2 | (with_reducible refine Kd.C_alloc ?_ _) | (with_reducible refine Kd.C_drewN ?_ _) | (with_reducible refine Kd.C_drew ?_))); (case side2 => rw [show t264.length = t249.length from (Kd.R_reads' HO_254001.out).1.symm]; exact (Kd.R_reads' HO_254001.out).2.1); rintro e w135 ⟨rfl, hb⟩; refine ⟨_, rfl, ?_⟩; have n0_ := Aside0.mk (Kd.R_below (upR HO_241001) hb); have n1_ := Aside0.mk (Kd.R_below (upR HO_246001) hb); have n2_ := Aside0.mk (Kd.R_below (upR HO_254001) hb); have n3_ := Aside0.mk (blk_below (upK BK226) hb); have n4_ := Aside0.mk (blk_below (upK BK227) hb); have n5_ := Aside0.mk (blk_below (upK BK240) hb); have n6_ := Aside0.mk (blk_below (upK BK245) hb); have n7_ := Aside0.mk (blk_below (upK BK253) hb); have n8_ := Aside0.mk (below_step (upW HB) hb); clear HO_241001; clear HO_246001; clear HO_254001; clear BK226; clear BK227; clear BK240; clear BK245; clear BK253; clear HB; have HO_241001 := n0_; have HO_246001 := n1_; have HO_254001 := n2_; have BK226 := n3_; have BK227 := n4_; have BK240 := n5_; have BK245 := n6_; have BK253 := n7_; have HB := n8_; clear n0_ n1_ n2_ n3_ n4_ n5_ n6_ n7_ n8_; (try clear hb); (try clear hb2); (try clear hk); (try clear hi)))
           have n0_ := Aside0.mk (Kd.R_drew HO_241001.out)
           have n1_ := Aside0.mk (Kd.R_drew HO_246001.out)
           have n2_ := Aside0.mk (Kd.R_drew HO_254001.out)
           have n3_ := Aside0.mk (blk_drew BK226.out)
           have n4_ := Aside0.mk (blk_drew BK227.out)
           have n5_ := Aside0.mk (blk_drew BK240.out)
           have n6_ := Aside0.mk (blk_drew BK245.out)
           have n7_ := Aside0.mk (blk_drew BK253.out)
           have n8_ := Aside0.mk (below_drew1 HB.out)
           clear HO_241001
           clear HO_246001
           clear HO_254001
           clear BK226
           clear BK227
           clear BK240
           clear BK245
           clear BK253
           clear HB
           have HO_241001 := n0_
           have HO_246001 := n1_
           have HO_254001 := n2_
           have BK226 := n3_
           have BK227 := n4_
           have BK240 := n5_
           have BK245 := n6_
           have BK253 := n7_
           have HB := n8_
           clear n0_ n1_ n2_ n3_ n4_ n5_ n6_ n7_ n8_
           refine start_ (n := 11) (S := fun w' => w'.cell? ⟨gb226, 0, none⟩ = some (.int .i64 a0_0) ∧ w'.cell? ⟨gb226, 1, none⟩ = some (.slice A0_1 l0_1.length c0_1) ∧ w'.cell? ⟨gb227, 0, none⟩ = some (.int .i64 a1_0) ∧ w'.cell? ⟨gb227, 1, none⟩ = some (.int .i64 a1_1)) (ds := []) #[false, false, false, false, false, false, false, false, false, false, false] (by kernel_rfl) rfl rfl ⟨(blk_cell BK226.out 0).trans rfl, (blk_cell BK226.out 1).trans rfl, (blk_cell BK227.out 0).trans rfl, (blk_cell BK227.out 1).trans rfl⟩ (fun hHeld => ?_); refine with_tabW laws_FnExactAddWire.tab24 laws_FnExactAddWire.bits24 (fun HT_ HW_ => ?_)
           generalize w135.drew = w136 at HO_241001 HO_246001 HO_254001 BK226 BK227 BK240 BK245 BK253 HB hHeld ⊢
           refine take_ (i := 0) (N := some 80) (v := ?_) (a' := ?_) #[true, false, false, false, false, false, false, false, false, false, false] rfl rfl (take_ofW HT_.out HW_.out (by kernel_rfl)) (fun _ _ _ h => h) (Or.inl ⟨by rfl, ?_⟩) hHeld ?_ ?_
           rotate_left
           ·rintro w' ⟨s0, s1, s2, s3⟩
            go_simp
            with_reducible rfl
           rotate_left
           ·simp only [Act.put, List.setIfInBounds_toArray, List.set_cons_zero, List.set_cons_succ, i64_w, i32_w]
            rfl
           refine take_ (i := 2) (N := some 82) (v := ?_) (a' := ?_) #[true, false, true, false, false, false, false, false, false, false, false] rfl rfl (take_ofW HT_.out HW_.out (by kernel_rfl)) (fun _ _ _ h => h) (Or.inl ⟨by rfl, ?_⟩) hHeld ?_ ?_
           rotate_left
           ·rintro w' ⟨s0, s1, s2, s3⟩
            go_simp
            with_reducible rfl
           rotate_left
           ·simp only [Act.put, List.setIfInBounds_toArray, List.set_cons_zero, List.set_cons_succ, i64_w, i32_w]
            rfl
           refine join_ (σ := Value × Value × Nat) 2 #[true, true, true, true, true, true, true, true, true, false, false] (fun s_ => [(81, .agg #[.int .i64 t266, s_.1]), (83, .agg #[.int .i64 t270, .int .i64 t271]), (84, .tuple #[.agg #[.int .i64 t272, s_.2.1], .bool t276]), (14, .pointer (some ⟨s_.2.2, 0, none⟩)), (79, .tuple #[.agg #[.int .i64 t272, s_.2.1], .bool t276]), (85, .agg #[.int .i64 t272, s_.2.1]), (86, .bool t276)]) (fun s_ w' => (w'.cell? ⟨gb226, 0, none⟩ = some (.int .i64 a0_0) ∧ w'.cell? ⟨gb226, 1, none⟩ = some (.slice A0_1 l0_1.length c0_1) ∧ w'.cell? ⟨gb227, 0, none⟩ = some (.int .i64 a1_0) ∧ w'.cell? ⟨gb227, 1, none⟩ = some (.int .i64 a1_1)) ∧ (Kd.R k55 55 w' w.heap.size (fun k_ => some k_ ≠ (s_.2.1 : Value).ownBlock ∧ some k_ ≠ (.slice Ao30 t236.length co30 : Value).ownBlock ∧ some k_ ≠ (.slice Ao40 t261.length co40 : Value).ownBlock ∧ some k_ ≠ (.slice Ao48 t249.length co48 : Value).ownBlock) s_.1 t267) ∧ (Kd.R k55 55 w' w.heap.size (fun k_ => some k_ ≠ (s_.1 : Value).ownBlock ∧ some k_ ≠ (.slice Ao30 t236.length co30 : Value).ownBlock ∧ some k_ ≠ (.slice Ao40 t261.length co40 : Value).ownBlock ∧ some k_ ≠ (.slice Ao48 t249.length co48 : Value).ownBlock) s_.2.1 t273) ∧ (Kd.R k55 55 w' w.heap.size (fun k_ => some k_ ≠ (s_.1 : Value).ownBlock ∧ some k_ ≠ (s_.2.1 : Value).ownBlock ∧ some k_ ≠ (.slice Ao40 t261.length co40 : Value).ownBlock ∧ some k_ ≠ (.slice Ao48 t249.length co48 : Value).ownBlock) (.slice Ao30 t236.length co30) t236) ∧ (Kd.R k55 55 w' w.heap.size (fun k_ => some k_ ≠ (s_.1 : Value).ownBlock ∧ some k_ ≠ (s_.2.1 : Value).ownBlock ∧ some k_ ≠ (.slice Ao30 t236.length co30 : Value).ownBlock ∧ some k_ ≠ (.slice Ao48 t249.length co48 : Value).ownBlock) (.slice Ao40 t261.length co40) t261) ∧ (Kd.R k55 55 w' w.heap.size (fun k_ => some k_ ≠ (s_.1 : Value).ownBlock ∧ some k_ ≠ (s_.2.1 : Value).ownBlock ∧ some k_ ≠ (.slice Ao30 t236.length co30 : Value).ownBlock ∧ some k_ ≠ (.slice Ao40 t261.length co40 : Value).ownBlock) (.slice Ao48 t249.length co48) t264) ∧ (w'.heap[gb226]? = some (.cells #[.int .i64 a0_0, .slice A0_1 l0_1.length c0_1] 35 (0, 0))) ∧ (w'.heap[gb227]? = some (.cells #[.int .i64 a1_0, .int .i64 a1_1] 53 (0, 0))) ∧ (w'.heap[gb240]? = some (.cells #[.int .i64 t235, .slice Ao30 t236.length co30] 40 (0, 0))) ∧ (w'.heap[gb245]? = some (.cells #[.int .i64 t241, .slice Ao40 t261.length co40] 40 (0, 0))) ∧ (w'.heap[gb253]? = some (.cells #[.int .i64 t248, .slice Ao48 t249.length co48] 40 (0, 0))) ∧ (w'.heap[s_.2.2]? = some (.cells #[.int .i64 0, .slice none 0 0] 40 (0, 0))) ∧ (w.heap.size ≤ s_.2.2) ∧ (w.heap.size ≤ s_.2.2) ∧ (gb226 ≠ s_.2.2) ∧ (s_.2.2 ≠ gb226) ∧ (gb227 ≠ s_.2.2) ∧ (s_.2.2 ≠ gb227) ∧ (gb240 ≠ s_.2.2) ∧ (s_.2.2 ≠ gb240) ∧ (gb245 ≠ s_.2.2) ∧ (s_.2.2 ≠ gb245) ∧ (gb253 ≠ s_.2.2) ∧ (s_.2.2 ≠ gb253) ∧ (Below w.heap.size w w')) ?_ ?_
           rotate_left
           ·intro hCont
            refine two_ (i := 1) (j := 8) (Ni := some 81) (Nj := some 14) #[true, true, true, false, false, false, false, false, false, false, false] #[true, false, true, false, false, false, false, false, true, false, false] rfl rfl rfl rfl (two_of HT_.out (by kernel_rfl)) (by decide) (by decide) (fun K hK => ?_) (fun K hK => ?_)
            ·skip
             refine goes_ Try.func20 (by kernel_rfl) rfl #[.agg #[.int .i64 a0_0, .slice A0_1 l0_1.length c0_1]] (by rfl) rfl rfl itp ?_
             with_reducible refine (laws_toNet.calls kj76 a0_0 _ _ l0_1 t266 t267 _ ?side1 ?side2 A124.out).mono ?_
             (case side1 => repeat (first | exact (Kd.C_below HR0_1.out HB.out) | (with_reducible refine Kd.C_alloc ?_ _) | (with_reducible refine Kd.C_drewN ?_ _) | (with_reducible refine Kd.C_drew ?_)))
             (case side2 => exact HC0_1.out)
             rintro e w137 ⟨v268, rfl, ho0, hb⟩
             refine ⟨_, rfl, ?_⟩
             have n0_ := Aside0.mk (Kd.R_elder' (upR HO_241001) (Kd.R_base ho0) hb)
             have n1_ := Aside0.mk (Kd.R_elder' (upR HO_246001) (Kd.R_base ho0) hb)
             have n2_ := Aside0.mk (Kd.R_elder' (upR HO_254001) (Kd.R_base ho0) hb)
             have n3_ := Aside0.mk (Kd.R_lower (Kd.R_new' (Kd.R_new' (Kd.R_new' ho0 (Kd.R_lt (upR HO_241001))) (Kd.R_lt (upR HO_246001))) (Kd.R_lt (upR HO_254001))) (below_size (upW HB)))
             have n4_ := Aside0.mk (blk_below (upK BK226) hb)
             have n5_ := Aside0.mk (blk_below (upK BK227) hb)
             have n6_ := Aside0.mk (blk_below (upK BK240) hb)
             have n7_ := Aside0.mk (blk_below (upK BK245) hb)
             have n8_ := Aside0.mk (blk_below (upK BK253) hb)
             have n9_ := Aside0.mk (below_step (upW HB) hb)
             clear HO_241001
             clear HO_246001
             clear HO_254001
             clear BK226
             clear BK227
             clear BK240
             clear BK245
             clear BK253
             clear HB
             have HO_241001 := n0_
             have HO_246001 := n1_
             have HO_254001 := n2_
             have HO269 := n3_
             have BK226 := n4_
             have BK227 := n5_
             have BK240 := n6_
             have BK245 := n7_
             have BK253 := n8_
             have HB := n9_
             clear n0_ n1_ n2_ n3_ n4_ n5_ n6_ n7_ n8_ n9_
             (try clear hb)
             (try clear hb2)
             (try clear hk)
             (try clear hi)
             (try clear ho0)
             refine hK.out _ _ ⟨(blk_cell BK226.out 0).trans rfl, (blk_cell BK226.out 1).trans rfl, (blk_cell BK227.out 0).trans rfl, (blk_cell BK227.out 1).trans rfl⟩ (fun hHeld => ?_)
             clear hK K
             refine norm_ (a' := ?_) ?_ ?_
             rotate_left
             ·show Act.put _ (some 81) _ = _
              simp only [Act.put, List.setIfInBounds_toArray, List.set_cons_zero, List.set_cons_succ, i64_w, i32_w]
              rfl
             refine two_ (i := 3) (j := 8) (Ni := some 83) (Nj := some 14) #[true, true, true, true, false, false, false, false, false, false, false] #[true, true, true, false, false, false, false, false, true, false, false] rfl rfl rfl rfl (two_of HT_.out (by kernel_rfl)) (by decide) (by decide) (fun K hK => ?_) (fun K hK => ?_)
             ·skip
              refine goes_ Try.func32 (by kernel_rfl) rfl #[.agg #[.int .i64 a1_0, .int .i64 a1_1]] (by rfl) rfl rfl itp ?_
              with_reducible refine (laws_toWire.calls a1_0 a1_1 t270 t271 _ A125.out).mono ?_
              rintro e w138 ⟨rfl, hb⟩
              refine ⟨_, rfl, ?_⟩
              have n0_ := Aside0.mk (Kd.R_below (upR HO_241001) hb)
              have n1_ := Aside0.mk (Kd.R_below (upR HO_246001) hb)
              have n2_ := Aside0.mk (Kd.R_below (upR HO_254001) hb)
              have n3_ := Aside0.mk (Kd.R_below (upR HO269) hb)
              have n4_ := Aside0.mk (blk_below (upK BK226) hb)
              have n5_ := Aside0.mk (blk_below (upK BK227) hb)
              have n6_ := Aside0.mk (blk_below (upK BK240) hb)
              have n7_ := Aside0.mk (blk_below (upK BK245) hb)
              have n8_ := Aside0.mk (blk_below (upK BK253) hb)
              have n9_ := Aside0.mk (below_step (upW HB) hb)
              clear HO_241001
              clear HO_246001
              clear HO_254001
              clear HO269
              clear BK226
              clear BK227
              clear BK240
              clear BK245
              clear BK253
              clear HB
              have HO_241001 := n0_
              have HO_246001 := n1_
              have HO_254001 := n2_
              have HO269 := n3_
              have BK226 := n4_
              have BK227 := n5_
              have BK240 := n6_
              have BK245 := n7_
              have BK253 := n8_
              have HB := n9_
              clear n0_ n1_ n2_ n3_ n4_ n5_ n6_ n7_ n8_ n9_
              (try clear hb)
              (try clear hb2)
              (try clear hk)
              (try clear hi)
              obtain ⟨Ao139, co139, eo139⟩ := Kd.R_slice HO269.out
              (first | subst eo139 | (injection eo139 with f1_ f2_ f3_; have f4_ := f1_.symm; have f5_ := f3_.symm; clear f1_ f2_ f3_; subst f4_; subst f5_))
              refine hK.out _ _ ⟨(blk_cell BK226.out 0).trans rfl, (blk_cell BK226.out 1).trans rfl, (blk_cell BK227.out 0).trans rfl, (blk_cell BK227.out 1).trans rfl⟩ (fun hHeld => ?_)
              clear hK K
              refine norm_ (a' := ?_) ?_ ?_
              rotate_left
              ·show Act.put _ (some 83) _ = _
               simp only [Act.put, List.setIfInBounds_toArray, List.set_cons_zero, List.set_cons_succ, i64_w, i32_w]
               rfl
              refine two_ (i := 4) (j := 8) (Ni := some 84) (Nj := some 14) #[true, true, true, true, true, false, false, false, false, false, false] #[true, true, true, true, false, false, false, false, true, false, false] rfl rfl rfl rfl (two_of HT_.out (by kernel_rfl)) (by decide) (by decide) (fun K hK => ?_) (fun K hK => ?_)
              ·skip
               refine goes_ Try.func33 (by kernel_rfl) rfl #[.agg #[.int .i64 t266, .slice Ao139 t267.length co139], .agg #[.int .i64 t270, .int .i64 t271]] (by rfl) rfl rfl itp ?_
               with_reducible refine (impl_AddWire.calls kj76 t266 _ _ t267 t270 t271 t272 t273 t276 _ ?side1 ?side2 A126.out).mono ?_
               (case side1 => repeat (first | exact (Kd.R_reads' HO269.out).2.2 | (with_reducible refine Kd.C_alloc ?_ _) | (with_reducible refine Kd.C_drewN ?_ _) | (with_reducible refine Kd.C_drew ?_)))
               (case side2 => exact (Kd.R_reads' HO269.out).2.1)
               rintro e w140 ⟨v274, rfl, ho0, hb⟩
               refine ⟨_, rfl, ?_⟩
               have n0_ := Aside0.mk (Kd.R_elder' (upR HO_241001) (Kd.R_base ho0) hb)
               have n1_ := Aside0.mk (Kd.R_elder' (upR HO_246001) (Kd.R_base ho0) hb)
               have n2_ := Aside0.mk (Kd.R_elder' (upR HO_254001) (Kd.R_base ho0) hb)
               have n3_ := Aside0.mk (Kd.R_elder' (upR HO269) (Kd.R_base ho0) hb)
               have n4_ := Aside0.mk (Kd.R_lower (Kd.R_new' (Kd.R_new' (Kd.R_new' (Kd.R_new' ho0 (Kd.R_lt (upR HO_241001))) (Kd.R_lt (upR HO_246001))) (Kd.R_lt (upR HO_254001))) (Kd.R_lt (upR HO269))) (below_size (upW HB)))
               have n5_ := Aside0.mk (blk_below (upK BK226) hb)
               have n6_ := Aside0.mk (blk_below (upK BK227) hb)
               have n7_ := Aside0.mk (blk_below (upK BK240) hb)
               have n8_ := Aside0.mk (blk_below (upK BK245) hb)
               have n9_ := Aside0.mk (blk_below (upK BK253) hb)
               have n10_ := Aside0.mk (below_step (upW HB) hb)
               clear HO_241001
               clear HO_246001
               clear HO_254001
               clear HO269
               clear BK226
               clear BK227
               clear BK240
               clear BK245
               clear BK253
               clear HB
               have HO_241001 := n0_
               have HO_246001 := n1_
               have HO_254001 := n2_
               have HO269 := n3_
               have HO275 := n4_
               have BK226 := n5_
               have BK227 := n6_
               have BK240 := n7_
               have BK245 := n8_
               have BK253 := n9_
               have HB := n10_
               clear n0_ n1_ n2_ n3_ n4_ n5_ n6_ n7_ n8_ n9_ n10_
               (try clear hb)
               (try clear hb2)
               (try clear hk)
               (try clear hi)
               (try clear ho0)
               refine hK.out _ _ ⟨(blk_cell BK226.out 0).trans rfl, (blk_cell BK226.out 1).trans rfl, (blk_cell BK227.out 0).trans rfl, (blk_cell BK227.out 1).trans rfl⟩ (fun hHeld => ?_)
               clear hK K
               refine norm_ (a' := ?_) ?_ ?_
               rotate_left
               ·show Act.put _ (some 84) _ = _
                simp only [Act.put, List.setIfInBounds_toArray, List.set_cons_zero, List.set_cons_succ, i64_w, i32_w]
                rfl
               refine pure_ (i := 5) (N := some 79) (v := ?_) (a' := ?_) #[true, true, true, true, true, true, false, false, false, false, false] rfl rfl (any_of HT_.out (by kernel_rfl)) (fun _ _ _ h => h) (Or.inl ⟨by rfl, ?_⟩) ?_ ?_
               rotate_left
               ·intro w'
                go_simp
                with_reducible rfl
               rotate_left
               ·simp only [Act.put, List.setIfInBounds_toArray, List.set_cons_zero, List.set_cons_succ, i64_w, i32_w]
                rfl
               refine pure_ (i := 6) (N := some 85) (v := ?_) (a' := ?_) #[true, true, true, true, true, true, true, false, false, false, false] rfl rfl (any_of HT_.out (by kernel_rfl)) (fun _ _ _ h => h) (Or.inl ⟨by rfl, ?_⟩) ?_ ?_
               rotate_left
               ·intro w'
                go_simp
                with_reducible rfl
               rotate_left
               ·simp only [Act.put, List.setIfInBounds_toArray, List.set_cons_zero, List.set_cons_succ, i64_w, i32_w]
                rfl
               refine pure_ (i := 7) (N := some 86) (v := ?_) (a' := ?_) #[true, true, true, true, true, true, true, true, false, false, false] rfl rfl (any_of HT_.out (by kernel_rfl)) (fun _ _ _ h => h) (Or.inl ⟨by rfl, ?_⟩) ?_ ?_
               rotate_left
               ·intro w'
                go_simp
                with_reducible rfl
               rotate_left
               ·simp only [Act.put, List.setIfInBounds_toArray, List.set_cons_zero, List.set_cons_succ, i64_w, i32_w]
                rfl
               refine one_ (i := 8) (N := some 14) #[true, true, true, true, true, true, true, true, true, false, false] rfl rfl (one_of HT_.out (by kernel_rfl)) (by decide) (fun K hK => ?_)
               refine box_step ?hg (N := 14) ?hd (cs := #[.int .i64 0, .slice none 0 0]) (t := 40) ?hr ?_; (case hd => rfl); (case hg => rfl); (case hr => first | (go_simp; done) | (go_simp; rfl))
               intro gb277 hg w141 hbox hb
               have n0_ := Aside0.mk (Kd.R_below (upR HO_241001) hb)
               have n1_ := Aside0.mk (Kd.R_below (upR HO_246001) hb)
               have n2_ := Aside0.mk (Kd.R_below (upR HO_254001) hb)
               have n3_ := Aside0.mk (Kd.R_below (upR HO269) hb)
               have n4_ := Aside0.mk (Kd.R_below (upR HO275) hb)
               have n5_ := Aside0.mk (blk_below (upK BK226) hb)
               have n6_ := Aside0.mk (blk_below (upK BK227) hb)
               have n7_ := Aside0.mk (blk_below (upK BK240) hb)
               have n8_ := Aside0.mk (blk_below (upK BK245) hb)
               have n9_ := Aside0.mk (blk_below (upK BK253) hb)
               have n10_ := Aside0.mk (below_step (upW HB) hb)
               have n11_ := Aside0.mk (hbox)
               have n12_ := Aside0.mk ((by rw [hg]; exact (below_size (upW HB)) : w.heap.size ≤ gb277))
               have n13_ := Aside0.mk ((by rw [hg]; exact (below_size (upW HB)) : w.heap.size ≤ gb277))
               have n14_ := Aside0.mk ((by rw [hg]; exact Nat.ne_of_lt (blk_lt (upK BK226)) : gb226 ≠ gb277))
               have n15_ := Aside0.mk ((by rw [hg]; exact Nat.ne_of_gt (blk_lt (upK BK226)) : gb277 ≠ gb226))
               have n16_ := Aside0.mk ((by rw [hg]; exact Nat.ne_of_lt (blk_lt (upK BK227)) : gb227 ≠ gb277))
               have n17_ := Aside0.mk ((by rw [hg]; exact Nat.ne_of_gt (blk_lt (upK BK227)) : gb277 ≠ gb227))
               have n18_ := Aside0.mk ((by rw [hg]; exact Nat.ne_of_lt (blk_lt (upK BK240)) : gb240 ≠ gb277))
               have n19_ := Aside0.mk ((by rw [hg]; exact Nat.ne_of_gt (blk_lt (upK BK240)) : gb277 ≠ gb240))
               have n20_ := Aside0.mk ((by rw [hg]; exact Nat.ne_of_lt (blk_lt (upK BK245)) : gb245 ≠ gb277))
               have n21_ := Aside0.mk ((by rw [hg]; exact Nat.ne_of_gt (blk_lt (upK BK245)) : gb277 ≠ gb245))
               have n22_ := Aside0.mk ((by rw [hg]; exact Nat.ne_of_lt (blk_lt (upK BK253)) : gb253 ≠ gb277))
               have n23_ := Aside0.mk ((by rw [hg]; exact Nat.ne_of_gt (blk_lt (upK BK253)) : gb277 ≠ gb253))
               clear HO_241001
               clear HO_246001
               clear HO_254001
               clear HO269
               clear HO275
               clear BK226
               clear BK227
               clear BK240
               clear BK245
               clear BK253
               clear HB
               have HO_241001 := n0_
               have HO_246001 := n1_
               have HO_254001 := n2_
               have HO269 := n3_
               have HO275 := n4_
               have BK226 := n5_
               have BK227 := n6_
               have BK240 := n7_
               have BK245 := n8_
               have BK253 := n9_
               have HB := n10_
               have BK277 := n11_
               have GW277 := n12_
               have GE277 := n13_
               have NB226_277 := n14_
               have NB277_226 := n15_
               have NB227_277 := n16_
               have NB277_227 := n17_
               have NB240_277 := n18_
               have NB277_240 := n19_
               have NB245_277 := n20_
               have NB277_245 := n21_
               have NB253_277 := n22_
               have NB277_253 := n23_
               clear n0_ n1_ n2_ n3_ n4_ n5_ n6_ n7_ n8_ n9_ n10_ n11_ n12_ n13_ n14_ n15_ n16_ n17_ n18_ n19_ n20_ n21_ n22_ n23_
               clear hb hbox hg
               refine hK.out _ _ ⟨(blk_cell BK226.out 0).trans rfl, (blk_cell BK226.out 1).trans rfl, (blk_cell BK227.out 0).trans rfl, (blk_cell BK227.out 1).trans rfl⟩ (fun hHeld => ?_)
               clear hK K
               refine norm_ (a' := ?_) ?_ ?_
               rotate_left
               ·show Act.put _ (some 14) _ = _
                simp only [Act.put, List.setIfInBounds_toArray, List.set_cons_zero, List.set_cons_succ, i64_w, i32_w]
                rfl
               exact norm_ (by simp only [putAll, Act.put, List.setIfInBounds_toArray, List.set_cons_zero, List.set_cons_succ]) (hCont (.slice Ao139 t267.length co139, v274, gb277) _ ⟨hHeld, (by (with_reducible repeat (first | apply Kd.R_alloc | apply Kd.R_drewN | apply Kd.R_drew)); exact Kd.R_mono HO269.out (fun _ hk => ⟨hk.2, ⟨hk.1.1.1.2, ⟨hk.1.1.2, hk.1.2⟩⟩⟩)), (by (with_reducible repeat (first | apply Kd.R_alloc | apply Kd.R_drewN | apply Kd.R_drew)); exact Kd.R_mono HO275.out (fun _ hk => ⟨hk.2, ⟨hk.1.1.1.2, ⟨hk.1.1.2, hk.1.2⟩⟩⟩)), (by (with_reducible repeat (first | apply Kd.R_alloc | apply Kd.R_drewN | apply Kd.R_drew)); exact Kd.R_mono HO_241001.out (fun _ hk => ⟨hk.1.2, ⟨hk.2, ⟨hk.1.1.1, hk.1.1.2⟩⟩⟩)), (by (with_reducible repeat (first | apply Kd.R_alloc | apply Kd.R_drewN | apply Kd.R_drew)); exact Kd.R_mono HO_246001.out (fun _ hk => ⟨hk.1.2, ⟨hk.2, ⟨hk.1.1.1, hk.1.1.2⟩⟩⟩)), (by (with_reducible repeat (first | apply Kd.R_alloc | apply Kd.R_drewN | apply Kd.R_drew)); exact Kd.R_mono HO_254001.out (fun _ hk => ⟨hk.1.2, ⟨hk.2, ⟨hk.1.1.1, hk.1.1.2⟩⟩⟩)), (upK BK226), (upK BK227), (upK BK240), (upK BK245), (upK BK253), (upK BK277), GW277.out, GE277.out, NB226_277.out, NB277_226.out, NB227_277.out, NB277_227.out, NB240_277.out, NB277_240.out, NB245_277.out, NB277_245.out, NB253_277.out, NB277_253.out, (upW HB)⟩)
              ·skip
               refine box_step ?hg (N := 14) ?hd (cs := #[.int .i64 0, .slice none 0 0]) (t := 40) ?hr ?_; (case hd => rfl); (case hg => rfl); (case hr => first | (go_simp; done) | (go_simp; rfl))
               intro gb277 hg w139 hbox hb
               have n0_ := Aside0.mk (Kd.R_below (upR HO_241001) hb)
               have n1_ := Aside0.mk (Kd.R_below (upR HO_246001) hb)
               have n2_ := Aside0.mk (Kd.R_below (upR HO_254001) hb)
               have n3_ := Aside0.mk (Kd.R_below (upR HO269) hb)
               have n4_ := Aside0.mk (blk_below (upK BK226) hb)
               have n5_ := Aside0.mk (blk_below (upK BK227) hb)
               have n6_ := Aside0.mk (blk_below (upK BK240) hb)
               have n7_ := Aside0.mk (blk_below (upK BK245) hb)
               have n8_ := Aside0.mk (blk_below (upK BK253) hb)
               have n9_ := Aside0.mk (below_step (upW HB) hb)
               have n10_ := Aside0.mk (hbox)
               have n11_ := Aside0.mk ((by rw [hg]; exact (below_size (upW HB)) : w.heap.size ≤ gb277))
               have n12_ := Aside0.mk ((by rw [hg]; exact (below_size (upW HB)) : w.heap.size ≤ gb277))
               have n13_ := Aside0.mk ((by rw [hg]; exact Nat.ne_of_lt (blk_lt (upK BK226)) : gb226 ≠ gb277))
               have n14_ := Aside0.mk ((by rw [hg]; exact Nat.ne_of_gt (blk_lt (upK BK226)) : gb277 ≠ gb226))
               have n15_ := Aside0.mk ((by rw [hg]; exact Nat.ne_of_lt (blk_lt (upK BK227)) : gb227 ≠ gb277))
               have n16_ := Aside0.mk ((by rw [hg]; exact Nat.ne_of_gt (blk_lt (upK BK227)) : gb277 ≠ gb227))
               have n17_ := Aside0.mk ((by rw [hg]; exact Nat.ne_of_lt (blk_lt (upK BK240)) : gb240 ≠ gb277))
               have n18_ := Aside0.mk ((by rw [hg]; exact Nat.ne_of_gt (blk_lt (upK BK240)) : gb277 ≠ gb240))
               have n19_ := Aside0.mk ((by rw [hg]; exact Nat.ne_of_lt (blk_lt (upK BK245)) : gb245 ≠ gb277))
               have n20_ := Aside0.mk ((by rw [hg]; exact Nat.ne_of_gt (blk_lt (upK BK245)) : gb277 ≠ gb245))
               have n21_ := Aside0.mk ((by rw [hg]; exact Nat.ne_of_lt (blk_lt (upK BK253)) : gb253 ≠ gb277))
               have n22_ := Aside0.mk ((by rw [hg]; exact Nat.ne_of_gt (blk_lt (upK BK253)) : gb277 ≠ gb253))
               clear HO_241001
               clear HO_246001
               clear HO_254001
               clear HO269
               clear BK226
               clear BK227
               clear BK240
               clear BK245
               clear BK253
               clear HB
               have HO_241001 := n0_
               have HO_246001 := n1_
               have HO_254001 := n2_
               have HO269 := n3_
               have BK226 := n4_
               have BK227 := n5_
               have BK240 := n6_
               have BK245 := n7_
               have BK253 := n8_
               have HB := n9_
               have BK277 := n10_
               have GW277 := n11_
               have GE277 := n12_
               have NB226_277 := n13_
               have NB277_226 := n14_
               have NB227_277 := n15_
               have NB277_227 := n16_
               have NB240_277 := n17_
               have NB277_240 := n18_
               have NB245_277 := n19_
               have NB277_245 := n20_
               have NB253_277 := n21_
               have NB277_253 := n22_
               clear n0_ n1_ n2_ n3_ n4_ n5_ n6_ n7_ n8_ n9_ n10_ n11_ n12_ n13_ n14_ n15_ n16_ n17_ n18_ n19_ n20_ n21_ n22_
               clear hb hbox hg
               obtain ⟨Ao140, co140, eo140⟩ := Kd.R_slice HO269.out
               (first | subst eo140 | (injection eo140 with f1_ f2_ f3_; have f4_ := f1_.symm; have f5_ := f3_.symm; clear f1_ f2_ f3_; subst f4_; subst f5_))
               refine hK.out _ _ ⟨(blk_cell BK226.out 0).trans rfl, (blk_cell BK226.out 1).trans rfl, (blk_cell BK227.out 0).trans rfl, (blk_cell BK227.out 1).trans rfl⟩ (fun hHeld => ?_)
               clear hK K
               refine norm_ (a' := ?_) ?_ ?_
               rotate_left
               ·show Act.put _ (some 14) _ = _
                simp only [Act.put, List.setIfInBounds_toArray, List.set_cons_zero, List.set_cons_succ, i64_w, i32_w]
                rfl
               refine one_ (i := 4) (N := some 84) #[true, true, true, true, true, false, false, false, true, false, false] rfl rfl (one_of HT_.out (by kernel_rfl)) (by decide) (fun K hK => ?_)
               refine goes_ Try.func33 (by kernel_rfl) rfl #[.agg #[.int .i64 t266, .slice Ao140 t267.length co140], .agg #[.int .i64 t270, .int .i64 t271]] (by rfl) rfl rfl itp ?_
               with_reducible refine (impl_AddWire.calls kj76 t266 _ _ t267 t270 t271 t272 t273 t276 _ ?side1 ?side2 A126.out).mono ?_
               (case side1 => repeat (first | exact (Kd.R_reads' HO269.out).2.2 | (with_reducible refine Kd.C_alloc ?_ _) | (with_reducible refine Kd.C_drewN ?_ _) | (with_reducible refine Kd.C_drew ?_)))
               (case side2 => exact (Kd.R_reads' HO269.out).2.1)
               rintro e w141 ⟨v274, rfl, ho0, hb⟩
               refine ⟨_, rfl, ?_⟩
               have n0_ := Aside0.mk (Kd.R_elder' (upR HO_241001) (Kd.R_base ho0) hb)
               have n1_ := Aside0.mk (Kd.R_elder' (upR HO_246001) (Kd.R_base ho0) hb)
               have n2_ := Aside0.mk (Kd.R_elder' (upR HO_254001) (Kd.R_base ho0) hb)
               have n3_ := Aside0.mk (Kd.R_elder' (upR HO269) (Kd.R_base ho0) hb)
               have n4_ := Aside0.mk (Kd.R_lower (Kd.R_new' (Kd.R_new' (Kd.R_new' (Kd.R_new' ho0 (Kd.R_lt (upR HO_241001))) (Kd.R_lt (upR HO_246001))) (Kd.R_lt (upR HO_254001))) (Kd.R_lt (upR HO269))) (below_size (upW HB)))
               have n5_ := Aside0.mk (blk_below (upK BK226) hb)
               have n6_ := Aside0.mk (blk_below (upK BK227) hb)
               have n7_ := Aside0.mk (blk_below (upK BK240) hb)
               have n8_ := Aside0.mk (blk_below (upK BK245) hb)
               have n9_ := Aside0.mk (blk_below (upK BK253) hb)
               have n10_ := Aside0.mk (blk_below (upK BK277) hb)
               have n11_ := Aside0.mk (below_step (upW HB) hb)
               clear HO_241001
               clear HO_246001
               clear HO_254001
               clear HO269
               clear BK226
               clear BK227
               clear BK240
               clear BK245
               clear BK253
               clear BK277
               clear HB
               have HO_241001 := n0_
               have HO_246001 := n1_
               have HO_254001 := n2_
               have HO269 := n3_
               have HO275 := n4_
               have BK226 := n5_
               have BK227 := n6_
               have BK240 := n7_
               have BK245 := n8_
               have BK253 := n9_
               have BK277 := n10_
               have HB := n11_
               clear n0_ n1_ n2_ n3_ n4_ n5_ n6_ n7_ n8_ n9_ n10_ n11_
               (try clear hb)
               (try clear hb2)
               (try clear hk)
               (try clear hi)
               (try clear ho0)
               refine hK.out _ _ ⟨(blk_cell BK226.out 0).trans rfl, (blk_cell BK226.out 1).trans rfl, (blk_cell BK227.out 0).trans rfl, (blk_cell BK227.out 1).trans rfl⟩ (fun hHeld => ?_)
               clear hK K
               refine norm_ (a' := ?_) ?_ ?_
               rotate_left
               ·show Act.put _ (some 84) _ = _
                simp only [Act.put, List.setIfInBounds_toArray, List.set_cons_zero, List.set_cons_succ, i64_w, i32_w]
                rfl
               refine pure_ (i := 5) (N := some 79) (v := ?_) (a' := ?_) #[true, true, true, true, true, true, false, false, true, false, false] rfl rfl (any_of HT_.out (by kernel_rfl)) (fun _ _ _ h => h) (Or.inl ⟨by rfl, ?_⟩) ?_ ?_
               rotate_left
               ·intro w'
                go_simp
                with_reducible rfl
               rotate_left
               ·simp only [Act.put, List.setIfInBounds_toArray, List.set_cons_zero, List.set_cons_succ, i64_w, i32_w]
                rfl
               refine pure_ (i := 6) (N := some 85) (v := ?_) (a' := ?_) #[true, true, true, true, true, true, true, false, true, false, false] rfl rfl (any_of HT_.out (by kernel_rfl)) (fun _ _ _ h => h) (Or.inl ⟨by rfl, ?_⟩) ?_ ?_
               rotate_left
               ·intro w'
                go_simp
                with_reducible rfl
               rotate_left
               ·simp only [Act.put, List.setIfInBounds_toArray, List.set_cons_zero, List.set_cons_succ, i64_w, i32_w]
                rfl
               refine pure_ (i := 7) (N := some 86) (v := ?_) (a' := ?_) #[true, true, true, true, true, true, true, true, true, false, false] rfl rfl (any_of HT_.out (by kernel_rfl)) (fun _ _ _ h => h) (Or.inl ⟨by rfl, ?_⟩) ?_ ?_
               rotate_left
               ·intro w'
                go_simp
                with_reducible rfl
               rotate_left
               ·simp only [Act.put, List.setIfInBounds_toArray, List.set_cons_zero, List.set_cons_succ, i64_w, i32_w]
                rfl
               exact norm_ (by simp only [putAll, Act.put, List.setIfInBounds_toArray, List.set_cons_zero, List.set_cons_succ]) (hCont (.slice Ao140 t267.length co140, v274, gb277) _ ⟨hHeld, (by (with_reducible repeat (first | apply Kd.R_alloc | apply Kd.R_drewN | apply Kd.R_drew)); exact Kd.R_mono HO269.out (fun _ hk => ⟨hk.2, ⟨hk.1.1.1.2, ⟨hk.1.1.2, hk.1.2⟩⟩⟩)), (by (with_reducible repeat (first | apply Kd.R_alloc | apply Kd.R_drewN | apply Kd.R_drew)); exact Kd.R_mono HO275.out (fun _ hk => ⟨hk.2, ⟨hk.1.1.1.2, ⟨hk.1.1.2, hk.1.2⟩⟩⟩)), (by (with_reducible repeat (first | apply Kd.R_alloc | apply Kd.R_drewN | apply Kd.R_drew)); exact Kd.R_mono HO_241001.out (fun _ hk => ⟨hk.1.2, ⟨hk.2, ⟨hk.1.1.1, hk.1.1.2⟩⟩⟩)), (by (with_reducible repeat (first | apply Kd.R_alloc | apply Kd.R_drewN | apply Kd.R_drew)); exact Kd.R_mono HO_246001.out (fun _ hk => ⟨hk.1.2, ⟨hk.2, ⟨hk.1.1.1, hk.1.1.2⟩⟩⟩)), (by (with_reducible repeat (first | apply Kd.R_alloc | apply Kd.R_drewN | apply Kd.R_drew)); exact Kd.R_mono HO_254001.out (fun _ hk => ⟨hk.1.2, ⟨hk.2, ⟨hk.1.1.1, hk.1.1.2⟩⟩⟩)), (upK BK226), (upK BK227), (upK BK240), (upK BK245), (upK BK253), (upK BK277), GW277.out, GE277.out, NB226_277.out, NB277_226.out, NB227_277.out, NB277_227.out, NB240_277.out, NB277_240.out, NB245_277.out, NB277_245.out, NB253_277.out, NB277_253.out, (upW HB)⟩)
             ·skip
              refine box_step ?hg (N := 14) ?hd (cs := #[.int .i64 0, .slice none 0 0]) (t := 40) ?hr ?_; (case hd => rfl); (case hg => rfl); (case hr => first | (go_simp; done) | (go_simp; rfl))
              intro gb277 hg w138 hbox hb
              have n0_ := Aside0.mk (Kd.R_below (upR HO_241001) hb)
              have n1_ := Aside0.mk (Kd.R_below (upR HO_246001) hb)
              have n2_ := Aside0.mk (Kd.R_below (upR HO_254001) hb)
              have n3_ := Aside0.mk (Kd.R_below (upR HO269) hb)
              have n4_ := Aside0.mk (blk_below (upK BK226) hb)
              have n5_ := Aside0.mk (blk_below (upK BK227) hb)
              have n6_ := Aside0.mk (blk_below (upK BK240) hb)
              have n7_ := Aside0.mk (blk_below (upK BK245) hb)
              have n8_ := Aside0.mk (blk_below (upK BK253) hb)
              have n9_ := Aside0.mk (below_step (upW HB) hb)
              have n10_ := Aside0.mk (hbox)
              have n11_ := Aside0.mk ((by rw [hg]; exact (below_size (upW HB)) : w.heap.size ≤ gb277))
              have n12_ := Aside0.mk ((by rw [hg]; exact (below_size (upW HB)) : w.heap.size ≤ gb277))
              have n13_ := Aside0.mk ((by rw [hg]; exact Nat.ne_of_lt (blk_lt (upK BK226)) : gb226 ≠ gb277))
              have n14_ := Aside0.mk ((by rw [hg]; exact Nat.ne_of_gt (blk_lt (upK BK226)) : gb277 ≠ gb226))
              have n15_ := Aside0.mk ((by rw [hg]; exact Nat.ne_of_lt (blk_lt (upK BK227)) : gb227 ≠ gb277))
              have n16_ := Aside0.mk ((by rw [hg]; exact Nat.ne_of_gt (blk_lt (upK BK227)) : gb277 ≠ gb227))
              have n17_ := Aside0.mk ((by rw [hg]; exact Nat.ne_of_lt (blk_lt (upK BK240)) : gb240 ≠ gb277))
              have n18_ := Aside0.mk ((by rw [hg]; exact Nat.ne_of_gt (blk_lt (upK BK240)) : gb277 ≠ gb240))
              have n19_ := Aside0.mk ((by rw [hg]; exact Nat.ne_of_lt (blk_lt (upK BK245)) : gb245 ≠ gb277))
              have n20_ := Aside0.mk ((by rw [hg]; exact Nat.ne_of_gt (blk_lt (upK BK245)) : gb277 ≠ gb245))
              have n21_ := Aside0.mk ((by rw [hg]; exact Nat.ne_of_lt (blk_lt (upK BK253)) : gb253 ≠ gb277))
              have n22_ := Aside0.mk ((by rw [hg]; exact Nat.ne_of_gt (blk_lt (upK BK253)) : gb277 ≠ gb253))
              clear HO_241001
              clear HO_246001
              clear HO_254001
              clear HO269
              clear BK226
              clear BK227
              clear BK240
              clear BK245
              clear BK253
              clear HB
              have HO_241001 := n0_
              have HO_246001 := n1_
              have HO_254001 := n2_
              have HO269 := n3_
              have BK226 := n4_
              have BK227 := n5_
              have BK240 := n6_
              have BK245 := n7_
              have BK253 := n8_
              have HB := n9_
              have BK277 := n10_
              have GW277 := n11_
              have GE277 := n12_
              have NB226_277 := n13_
              have NB277_226 := n14_
              have NB227_277 := n15_
              have NB277_227 := n16_
              have NB240_277 := n17_
              have NB277_240 := n18_
              have NB245_277 := n19_
              have NB277_245 := n20_
              have NB253_277 := n21_
              have NB277_253 := n22_
              clear n0_ n1_ n2_ n3_ n4_ n5_ n6_ n7_ n8_ n9_ n10_ n11_ n12_ n13_ n14_ n15_ n16_ n17_ n18_ n19_ n20_ n21_ n22_
              clear hb hbox hg
              refine hK.out _ _ ⟨(blk_cell BK226.out 0).trans rfl, (blk_cell BK226.out 1).trans rfl, (blk_cell BK227.out 0).trans rfl, (blk_cell BK227.out 1).trans rfl⟩ (fun hHeld => ?_)
              clear hK K
              refine norm_ (a' := ?_) ?_ ?_
              rotate_left
              ·show Act.put _ (some 14) _ = _
               simp only [Act.put, List.setIfInBounds_toArray, List.set_cons_zero, List.set_cons_succ, i64_w, i32_w]
               rfl
              refine one_ (i := 3) (N := some 83) #[true, true, true, true, false, false, false, false, true, false, false] rfl rfl (one_of HT_.out (by kernel_rfl)) (by decide) (fun K hK => ?_)
              refine goes_ Try.func32 (by kernel_rfl) rfl #[.agg #[.int .i64 a1_0, .int .i64 a1_1]] (by rfl) rfl rfl itp ?_
              with_reducible refine (laws_toWire.calls a1_0 a1_1 t270 t271 _ A125.out).mono ?_
              rintro e w139 ⟨rfl, hb⟩
              refine ⟨_, rfl, ?_⟩
              have n0_ := Aside0.mk (Kd.R_below (upR HO_241001) hb)
              have n1_ := Aside0.mk (Kd.R_below (upR HO_246001) hb)
              have n2_ := Aside0.mk (Kd.R_below (upR HO_254001) hb)
              have n3_ := Aside0.mk (Kd.R_below (upR HO269) hb)
              have n4_ := Aside0.mk (blk_below (upK BK226) hb)
              have n5_ := Aside0.mk (blk_below (upK BK227) hb)
              have n6_ := Aside0.mk (blk_below (upK BK240) hb)
              have n7_ := Aside0.mk (blk_below (upK BK245) hb)
              have n8_ := Aside0.mk (blk_below (upK BK253) hb)
              have n9_ := Aside0.mk (blk_below (upK BK277) hb)
              have n10_ := Aside0.mk (below_step (upW HB) hb)
              clear HO_241001
              clear HO_246001
              clear HO_254001
              clear HO269
              clear BK226
              clear BK227
              clear BK240
              clear BK245
              clear BK253
              clear BK277
              clear HB
              have HO_241001 := n0_
              have HO_246001 := n1_
              have HO_254001 := n2_
              have HO269 := n3_
              have BK226 := n4_
              have BK227 := n5_
              have BK240 := n6_
              have BK245 := n7_
              have BK253 := n8_
              have BK277 := n9_
              have HB := n10_
              clear n0_ n1_ n2_ n3_ n4_ n5_ n6_ n7_ n8_ n9_ n10_
              (try clear hb)
              (try clear hb2)
              (try clear hk)
              (try clear hi)
              obtain ⟨Ao140, co140, eo140⟩ := Kd.R_slice HO269.out
              (first | subst eo140 | (injection eo140 with f1_ f2_ f3_; have f4_ := f1_.symm; have f5_ := f3_.symm; clear f1_ f2_ f3_; subst f4_; subst f5_))
              refine hK.out _ _ ⟨(blk_cell BK226.out 0).trans rfl, (blk_cell BK226.out 1).trans rfl, (blk_cell BK227.out 0).trans rfl, (blk_cell BK227.out 1).trans rfl⟩ (fun hHeld => ?_)
              clear hK K
              refine norm_ (a' := ?_) ?_ ?_
              rotate_left
              ·show Act.put _ (some 83) _ = _
               simp only [Act.put, List.setIfInBounds_toArray, List.set_cons_zero, List.set_cons_succ, i64_w, i32_w]
               rfl
              refine one_ (i := 4) (N := some 84) #[true, true, true, true, true, false, false, false, true, false, false] rfl rfl (one_of HT_.out (by kernel_rfl)) (by decide) (fun K hK => ?_)
              refine goes_ Try.func33 (by kernel_rfl) rfl #[.agg #[.int .i64 t266, .slice Ao140 t267.length co140], .agg #[.int .i64 t270, .int .i64 t271]] (by rfl) rfl rfl itp ?_
              with_reducible refine (impl_AddWire.calls kj76 t266 _ _ t267 t270 t271 t272 t273 t276 _ ?side1 ?side2 A126.out).mono ?_
              (case side1 => repeat (first | exact (Kd.R_reads' HO269.out).2.2 | (with_reducible refine Kd.C_alloc ?_ _) | (with_reducible refine Kd.C_drewN ?_ _) | (with_reducible refine Kd.C_drew ?_)))
              (case side2 => exact (Kd.R_reads' HO269.out).2.1)
              rintro e w141 ⟨v274, rfl, ho0, hb⟩
              refine ⟨_, rfl, ?_⟩
              have n0_ := Aside0.mk (Kd.R_elder' (upR HO_241001) (Kd.R_base ho0) hb)
              have n1_ := Aside0.mk (Kd.R_elder' (upR HO_246001) (Kd.R_base ho0) hb)
              have n2_ := Aside0.mk (Kd.R_elder' (upR HO_254001) (Kd.R_base ho0) hb)
              have n3_ := Aside0.mk (Kd.R_elder' (upR HO269) (Kd.R_base ho0) hb)
              have n4_ := Aside0.mk (Kd.R_lower (Kd.R_new' (Kd.R_new' (Kd.R_new' (Kd.R_new' ho0 (Kd.R_lt (upR HO_241001))) (Kd.R_lt (upR HO_246001))) (Kd.R_lt (upR HO_254001))) (Kd.R_lt (upR HO269))) (below_size (upW HB)))
              have n5_ := Aside0.mk (blk_below (upK BK226) hb)
              have n6_ := Aside0.mk (blk_below (upK BK227) hb)
              have n7_ := Aside0.mk (blk_below (upK BK240) hb)
              have n8_ := Aside0.mk (blk_below (upK BK245) hb)
              have n9_ := Aside0.mk (blk_below (upK BK253) hb)
              have n10_ := Aside0.mk (blk_below (upK BK277) hb)
              have n11_ := Aside0.mk (below_step (upW HB) hb)
              clear HO_241001
              clear HO_246001
              clear HO_254001
              clear HO269
              clear BK226
              clear BK227
              clear BK240
              clear BK245
              clear BK253
              clear BK277
              clear HB
              have HO_241001 := n0_
              have HO_246001 := n1_
              have HO_254001 := n2_
              have HO269 := n3_
              have HO275 := n4_
              have BK226 := n5_
              have BK227 := n6_
              have BK240 := n7_
              have BK245 := n8_
              have BK253 := n9_
              have BK277 := n10_
              have HB := n11_
              clear n0_ n1_ n2_ n3_ n4_ n5_ n6_ n7_ n8_ n9_ n10_ n11_
              (try clear hb)
              (try clear hb2)
              (try clear hk)
              (try clear hi)
              (try clear ho0)
              refine hK.out _ _ ⟨(blk_cell BK226.out 0).trans rfl, (blk_cell BK226.out 1).trans rfl, (blk_cell BK227.out 0).trans rfl, (blk_cell BK227.out 1).trans rfl⟩ (fun hHeld => ?_)
              clear hK K
              refine norm_ (a' := ?_) ?_ ?_
              rotate_left
              ·show Act.put _ (some 84) _ = _
               simp only [Act.put, List.setIfInBounds_toArray, List.set_cons_zero, List.set_cons_succ, i64_w, i32_w]
               rfl
              refine pure_ (i := 5) (N := some 79) (v := ?_) (a' := ?_) #[true, true, true, true, true, true, false, false, true, false, false] rfl rfl (any_of HT_.out (by kernel_rfl)) (fun _ _ _ h => h) (Or.inl ⟨by rfl, ?_⟩) ?_ ?_
              rotate_left
              ·intro w'
               go_simp
               with_reducible rfl
              rotate_left
              ·simp only [Act.put, List.setIfInBounds_toArray, List.set_cons_zero, List.set_cons_succ, i64_w, i32_w]
               rfl
              refine pure_ (i := 6) (N := some 85) (v := ?_) (a' := ?_) #[true, true, true, true, true, true, true, false, true, false, false] rfl rfl (any_of HT_.out (by kernel_rfl)) (fun _ _ _ h => h) (Or.inl ⟨by rfl, ?_⟩) ?_ ?_
              rotate_left
              ·intro w'
               go_simp
               with_reducible rfl
              rotate_left
              ·simp only [Act.put, List.setIfInBounds_toArray, List.set_cons_zero, List.set_cons_succ, i64_w, i32_w]
               rfl
              refine pure_ (i := 7) (N := some 86) (v := ?_) (a' := ?_) #[true, true, true, true, true, true, true, true, true, false, false] rfl rfl (any_of HT_.out (by kernel_rfl)) (fun _ _ _ h => h) (Or.inl ⟨by rfl, ?_⟩) ?_ ?_
              rotate_left
              ·intro w'
               go_simp
               with_reducible rfl
              rotate_left
              ·simp only [Act.put, List.setIfInBounds_toArray, List.set_cons_zero, List.set_cons_succ, i64_w, i32_w]
               rfl
              exact norm_ (by simp only [putAll, Act.put, List.setIfInBounds_toArray, List.set_cons_zero, List.set_cons_succ]) (hCont (.slice Ao140 t267.length co140, v274, gb277) _ ⟨hHeld, (by (with_reducible repeat (first | apply Kd.R_alloc | apply Kd.R_drewN | apply Kd.R_drew)); exact Kd.R_mono HO269.out (fun _ hk => ⟨hk.2, ⟨hk.1.1.1.2, ⟨hk.1.1.2, hk.1.2⟩⟩⟩)), (by (with_reducible repeat (first | apply Kd.R_alloc | apply Kd.R_drewN | apply Kd.R_drew)); exact Kd.R_mono HO275.out (fun _ hk => ⟨hk.2, ⟨hk.1.1.1.2, ⟨hk.1.1.2, hk.1.2⟩⟩⟩)), (by (with_reducible repeat (first | apply Kd.R_alloc | apply Kd.R_drewN | apply Kd.R_drew)); exact Kd.R_mono HO_241001.out (fun _ hk => ⟨hk.1.2, ⟨hk.2, ⟨hk.1.1.1, hk.1.1.2⟩⟩⟩)), (by (with_reducible repeat (first | apply Kd.R_alloc | apply Kd.R_drewN | apply Kd.R_drew)); exact Kd.R_mono HO_246001.out (fun _ hk => ⟨hk.1.2, ⟨hk.2, ⟨hk.1.1.1, hk.1.1.2⟩⟩⟩)), (by (with_reducible repeat (first | apply Kd.R_alloc | apply Kd.R_drewN | apply Kd.R_drew)); exact Kd.R_mono HO_254001.out (fun _ hk => ⟨hk.1.2, ⟨hk.2, ⟨hk.1.1.1, hk.1.1.2⟩⟩⟩)), (upK BK226), (upK BK227), (upK BK240), (upK BK245), (upK BK253), (upK BK277), GW277.out, GE277.out, NB226_277.out, NB277_226.out, NB227_277.out, NB277_227.out, NB240_277.out, NB277_240.out, NB245_277.out, NB277_245.out, NB253_277.out, NB277_253.out, (upW HB)⟩)
            ·skip
             refine box_step ?hg (N := 14) ?hd (cs := #[.int .i64 0, .slice none 0 0]) (t := 40) ?hr ?_; (case hd => rfl); (case hg => rfl); (case hr => first | (go_simp; done) | (go_simp; rfl))
             intro gb277 hg w137 hbox hb
             have n0_ := Aside0.mk (Kd.R_below (upR HO_241001) hb)
             have n1_ := Aside0.mk (Kd.R_below (upR HO_246001) hb)
             have n2_ := Aside0.mk (Kd.R_below (upR HO_254001) hb)
             have n3_ := Aside0.mk (blk_below (upK BK226) hb)
             have n4_ := Aside0.mk (blk_below (upK BK227) hb)
             have n5_ := Aside0.mk (blk_below (upK BK240) hb)
             have n6_ := Aside0.mk (blk_below (upK BK245) hb)
             have n7_ := Aside0.mk (blk_below (upK BK253) hb)
             have n8_ := Aside0.mk (below_step (upW HB) hb)
             have n9_ := Aside0.mk (hbox)
             have n10_ := Aside0.mk ((by rw [hg]; exact (below_size (upW HB)) : w.heap.size ≤ gb277))
             have n11_ := Aside0.mk ((by rw [hg]; exact (below_size (upW HB)) : w.heap.size ≤ gb277))
             have n12_ := Aside0.mk ((by rw [hg]; exact Nat.ne_of_lt (blk_lt (upK BK226)) : gb226 ≠ gb277))
             have n13_ := Aside0.mk ((by rw [hg]; exact Nat.ne_of_gt (blk_lt (upK BK226)) : gb277 ≠ gb226))
             have n14_ := Aside0.mk ((by rw [hg]; exact Nat.ne_of_lt (blk_lt (upK BK227)) : gb227 ≠ gb277))
             have n15_ := Aside0.mk ((by rw [hg]; exact Nat.ne_of_gt (blk_lt (upK BK227)) : gb277 ≠ gb227))
             have n16_ := Aside0.mk ((by rw [hg]; exact Nat.ne_of_lt (blk_lt (upK BK240)) : gb240 ≠ gb277))
             have n17_ := Aside0.mk ((by rw [hg]; exact Nat.ne_of_gt (blk_lt (upK BK240)) : gb277 ≠ gb240))
             have n18_ := Aside0.mk ((by rw [hg]; exact Nat.ne_of_lt (blk_lt (upK BK245)) : gb245 ≠ gb277))
             have n19_ := Aside0.mk ((by rw [hg]; exact Nat.ne_of_gt (blk_lt (upK BK245)) : gb277 ≠ gb245))
             have n20_ := Aside0.mk ((by rw [hg]; exact Nat.ne_of_lt (blk_lt (upK BK253)) : gb253 ≠ gb277))
             have n21_ := Aside0.mk ((by rw [hg]; exact Nat.ne_of_gt (blk_lt (upK BK253)) : gb277 ≠ gb253))
             clear HO_241001
             clear HO_246001
             clear HO_254001
             clear BK226
             clear BK227
             clear BK240
             clear BK245
             clear BK253
             clear HB
             have HO_241001 := n0_
             have HO_246001 := n1_
             have HO_254001 := n2_
             have BK226 := n3_
             have BK227 := n4_
             have BK240 := n5_
             have BK245 := n6_
             have BK253 := n7_
             have HB := n8_
             have BK277 := n9_
             have GW277 := n10_
             have GE277 := n11_
             have NB226_277 := n12_
             have NB277_226 := n13_
             have NB227_277 := n14_
             have NB277_227 := n15_
             have NB240_277 := n16_
             have NB277_240 := n17_
             have NB245_277 := n18_
             have NB277_245 := n19_
             have NB253_277 := n20_
             have NB277_253 := n21_
             clear n0_ n1_ n2_ n3_ n4_ n5_ n6_ n7_ n8_ n9_ n10_ n11_ n12_ n13_ n14_ n15_ n16_ n17_ n18_ n19_ n20_ n21_
             clear hb hbox hg
             refine hK.out _ _ ⟨(blk_cell BK226.out 0).trans rfl, (blk_cell BK226.out 1).trans rfl, (blk_cell BK227.out 0).trans rfl, (blk_cell BK227.out 1).trans rfl⟩ (fun hHeld => ?_)
             clear hK K
             refine norm_ (a' := ?_) ?_ ?_
             rotate_left
             ·show Act.put _ (some 14) _ = _
              simp only [Act.put, List.setIfInBounds_toArray, List.set_cons_zero, List.set_cons_succ, i64_w, i32_w]
              rfl
             refine one_ (i := 1) (N := some 81) #[true, true, true, false, false, false, false, false, true, false, false] rfl rfl (one_of HT_.out (by kernel_rfl)) (by decide) (fun K hK => ?_)
             refine goes_ Try.func20 (by kernel_rfl) rfl #[.agg #[.int .i64 a0_0, .slice A0_1 l0_1.length c0_1]] (by rfl) rfl rfl itp ?_
             with_reducible refine (laws_toNet.calls kj76 a0_0 _ _ l0_1 t266 t267 _ ?side1 ?side2 A124.out).mono ?_
             (case side1 => repeat (first | exact (Kd.C_below HR0_1.out HB.out) | (with_reducible refine Kd.C_alloc ?_ _) | (with_reducible refine Kd.C_drewN ?_ _) | (with_reducible refine Kd.C_drew ?_)))
             (case side2 => exact HC0_1.out)
             rintro e w138 ⟨v268, rfl, ho0, hb⟩
             refine ⟨_, rfl, ?_⟩
             have n0_ := Aside0.mk (Kd.R_elder' (upR HO_241001) (Kd.R_base ho0) hb)
             have n1_ := Aside0.mk (Kd.R_elder' (upR HO_246001) (Kd.R_base ho0) hb)
             have n2_ := Aside0.mk (Kd.R_elder' (upR HO_254001) (Kd.R_base ho0) hb)
             have n3_ := Aside0.mk (Kd.R_lower (Kd.R_new' (Kd.R_new' (Kd.R_new' ho0 (Kd.R_lt (upR HO_241001))) (Kd.R_lt (upR HO_246001))) (Kd.R_lt (upR HO_254001))) (below_size (upW HB)))
             have n4_ := Aside0.mk (blk_below (upK BK226) hb)
             have n5_ := Aside0.mk (blk_below (upK BK227) hb)
             have n6_ := Aside0.mk (blk_below (upK BK240) hb)
             have n7_ := Aside0.mk (blk_below (upK BK245) hb)
             have n8_ := Aside0.mk (blk_below (upK BK253) hb)
             have n9_ := Aside0.mk (blk_below (upK BK277) hb)
             have n10_ := Aside0.mk (below_step (upW HB) hb)
             clear HO_241001
             clear HO_246001
             clear HO_254001
             clear BK226
             clear BK227
             clear BK240
             clear BK245
             clear BK253
             clear BK277
             clear HB
             have HO_241001 := n0_
             have HO_246001 := n1_
             have HO_254001 := n2_
             have HO269 := n3_
             have BK226 := n4_
             have BK227 := n5_
             have BK240 := n6_
             have BK245 := n7_
             have BK253 := n8_
             have BK277 := n9_
             have HB := n10_
             clear n0_ n1_ n2_ n3_ n4_ n5_ n6_ n7_ n8_ n9_ n10_
             (try clear hb)
             (try clear hb2)
             (try clear hk)
             (try clear hi)
             (try clear ho0)
             refine hK.out _ _ ⟨(blk_cell BK226.out 0).trans rfl, (blk_cell BK226.out 1).trans rfl, (blk_cell BK227.out 0).trans rfl, (blk_cell BK227.out 1).trans rfl⟩ (fun hHeld => ?_)
             clear hK K
             refine norm_ (a' := ?_) ?_ ?_
             rotate_left
             ·show Act.put _ (some 81) _ = _
              simp only [Act.put, List.setIfInBounds_toArray, List.set_cons_zero, List.set_cons_succ, i64_w, i32_w]
              rfl
             refine one_ (i := 3) (N := some 83) #[true, true, true, true, false, false, false, false, true, false, false] rfl rfl (one_of HT_.out (by kernel_rfl)) (by decide) (fun K hK => ?_)
             refine goes_ Try.func32 (by kernel_rfl) rfl #[.agg #[.int .i64 a1_0, .int .i64 a1_1]] (by rfl) rfl rfl itp ?_
             with_reducible refine (laws_toWire.calls a1_0 a1_1 t270 t271 _ A125.out).mono ?_
             rintro e w139 ⟨rfl, hb⟩
             refine ⟨_, rfl, ?_⟩
             have n0_ := Aside0.mk (Kd.R_below (upR HO_241001) hb)
             have n1_ := Aside0.mk (Kd.R_below (upR HO_246001) hb)
             have n2_ := Aside0.mk (Kd.R_below (upR HO_254001) hb)
             have n3_ := Aside0.mk (Kd.R_below (upR HO269) hb)
             have n4_ := Aside0.mk (blk_below (upK BK226) hb)
             have n5_ := Aside0.mk (blk_below (upK BK227) hb)
             have n6_ := Aside0.mk (blk_below (upK BK240) hb)
             have n7_ := Aside0.mk (blk_below (upK BK245) hb)
             have n8_ := Aside0.mk (blk_below (upK BK253) hb)
             have n9_ := Aside0.mk (blk_below (upK BK277) hb)
             have n10_ := Aside0.mk (below_step (upW HB) hb)
             clear HO_241001
             clear HO_246001
             clear HO_254001
             clear HO269
             clear BK226
             clear BK227
             clear BK240
             clear BK245
             clear BK253
             clear BK277
             clear HB
             have HO_241001 := n0_
             have HO_246001 := n1_
             have HO_254001 := n2_
             have HO269 := n3_
             have BK226 := n4_
             have BK227 := n5_
             have BK240 := n6_
             have BK245 := n7_
             have BK253 := n8_
             have BK277 := n9_
             have HB := n10_
             clear n0_ n1_ n2_ n3_ n4_ n5_ n6_ n7_ n8_ n9_ n10_
             (try clear hb)
             (try clear hb2)
             (try clear hk)
             (try clear hi)
             obtain ⟨Ao140, co140, eo140⟩ := Kd.R_slice HO269.out
             (first | subst eo140 | (injection eo140 with f1_ f2_ f3_; have f4_ := f1_.symm; have f5_ := f3_.symm; clear f1_ f2_ f3_; subst f4_; subst f5_))
             refine hK.out _ _ ⟨(blk_cell BK226.out 0).trans rfl, (blk_cell BK226.out 1).trans rfl, (blk_cell BK227.out 0).trans rfl, (blk_cell BK227.out 1).trans rfl⟩ (fun hHeld => ?_)
             clear hK K
             refine norm_ (a' := ?_) ?_ ?_
             rotate_left
             ·show Act.put _ (some 83) _ = _
              simp only [Act.put, List.setIfInBounds_toArray, List.set_cons_zero, List.set_cons_succ, i64_w, i32_w]
              rfl
             refine one_ (i := 4) (N := some 84) #[true, true, true, true, true, false, false, false, true, false, false] rfl rfl (one_of HT_.out (by kernel_rfl)) (by decide) (fun K hK => ?_)
             refine goes_ Try.func33 (by kernel_rfl) rfl #[.agg #[.int .i64 t266, .slice Ao140 t267.length co140], .agg #[.int .i64 t270, .int .i64 t271]] (by rfl) rfl rfl itp ?_
             with_reducible refine (impl_AddWire.calls kj76 t266 _ _ t267 t270 t271 t272 t273 t276 _ ?side1 ?side2 A126.out).mono ?_
             (case side1 => repeat (first | exact (Kd.R_reads' HO269.out).2.2 | (with_reducible refine Kd.C_alloc ?_ _) | (with_reducible refine Kd.C_drewN ?_ _) | (with_reducible refine Kd.C_drew ?_)))
             (case side2 => exact (Kd.R_reads' HO269.out).2.1)
             rintro e w141 ⟨v274, rfl, ho0, hb⟩
             refine ⟨_, rfl, ?_⟩
             have n0_ := Aside0.mk (Kd.R_elder' (upR HO_241001) (Kd.R_base ho0) hb)
             have n1_ := Aside0.mk (Kd.R_elder' (upR HO_246001) (Kd.R_base ho0) hb)
             have n2_ := Aside0.mk (Kd.R_elder' (upR HO_254001) (Kd.R_base ho0) hb)
             have n3_ := Aside0.mk (Kd.R_elder' (upR HO269) (Kd.R_base ho0) hb)
             have n4_ := Aside0.mk (Kd.R_lower (Kd.R_new' (Kd.R_new' (Kd.R_new' (Kd.R_new' ho0 (Kd.R_lt (upR HO_241001))) (Kd.R_lt (upR HO_246001))) (Kd.R_lt (upR HO_254001))) (Kd.R_lt (upR HO269))) (below_size (upW HB)))
             have n5_ := Aside0.mk (blk_below (upK BK226) hb)
             have n6_ := Aside0.mk (blk_below (upK BK227) hb)
             have n7_ := Aside0.mk (blk_below (upK BK240) hb)
             have n8_ := Aside0.mk (blk_below (upK BK245) hb)
             have n9_ := Aside0.mk (blk_below (upK BK253) hb)
             have n10_ := Aside0.mk (blk_below (upK BK277) hb)
             have n11_ := Aside0.mk (below_step (upW HB) hb)
             clear HO_241001
             clear HO_246001
             clear HO_254001
             clear HO269
             clear BK226
             clear BK227
             clear BK240
             clear BK245
             clear BK253
             clear BK277
             clear HB
             have HO_241001 := n0_
             have HO_246001 := n1_
             have HO_254001 := n2_
             have HO269 := n3_
             have HO275 := n4_
             have BK226 := n5_
             have BK227 := n6_
             have BK240 := n7_
             have BK245 := n8_
             have BK253 := n9_
             have BK277 := n10_
             have HB := n11_
             clear n0_ n1_ n2_ n3_ n4_ n5_ n6_ n7_ n8_ n9_ n10_ n11_
             (try clear hb)
             (try clear hb2)
             (try clear hk)
             (try clear hi)
             (try clear ho0)
             refine hK.out _ _ ⟨(blk_cell BK226.out 0).trans rfl, (blk_cell BK226.out 1).trans rfl, (blk_cell BK227.out 0).trans rfl, (blk_cell BK227.out 1).trans rfl⟩ (fun hHeld => ?_)
             clear hK K
             refine norm_ (a' := ?_) ?_ ?_
             rotate_left
             ·show Act.put _ (some 84) _ = _
              simp only [Act.put, List.setIfInBounds_toArray, List.set_cons_zero, List.set_cons_succ, i64_w, i32_w]
              rfl
             refine pure_ (i := 5) (N := some 79) (v := ?_) (a' := ?_) #[true, true, true, true, true, true, false, false, true, false, false] rfl rfl (any_of HT_.out (by kernel_rfl)) (fun _ _ _ h => h) (Or.inl ⟨by rfl, ?_⟩) ?_ ?_
             rotate_left
             ·intro w'
              go_simp
              with_reducible rfl
             rotate_left
             ·simp only [Act.put, List.setIfInBounds_toArray, List.set_cons_zero, List.set_cons_succ, i64_w, i32_w]
              rfl
             refine pure_ (i := 6) (N := some 85) (v := ?_) (a' := ?_) #[true, true, true, true, true, true, true, false, true, false, false] rfl rfl (any_of HT_.out (by kernel_rfl)) (fun _ _ _ h => h) (Or.inl ⟨by rfl, ?_⟩) ?_ ?_
             rotate_left
             ·intro w'
              go_simp
              with_reducible rfl
             rotate_left
             ·simp only [Act.put, List.setIfInBounds_toArray, List.set_cons_zero, List.set_cons_succ, i64_w, i32_w]
              rfl
             refine pure_ (i := 7) (N := some 86) (v := ?_) (a' := ?_) #[true, true, true, true, true, true, true, true, true, false, false] rfl rfl (any_of HT_.out (by kernel_rfl)) (fun _ _ _ h => h) (Or.inl ⟨by rfl, ?_⟩) ?_ ?_
             rotate_left
             ·intro w'
              go_simp
              with_reducible rfl
             rotate_left
             ·simp only [Act.put, List.setIfInBounds_toArray, List.set_cons_zero, List.set_cons_succ, i64_w, i32_w]
              rfl
             exact norm_ (by simp only [putAll, Act.put, List.setIfInBounds_toArray, List.set_cons_zero, List.set_cons_succ]) (hCont (.slice Ao140 t267.length co140, v274, gb277) _ ⟨hHeld, (by (with_reducible repeat (first | apply Kd.R_alloc | apply Kd.R_drewN | apply Kd.R_drew)); exact Kd.R_mono HO269.out (fun _ hk => ⟨hk.2, ⟨hk.1.1.1.2, ⟨hk.1.1.2, hk.1.2⟩⟩⟩)), (by (with_reducible repeat (first | apply Kd.R_alloc | apply Kd.R_drewN | apply Kd.R_drew)); exact Kd.R_mono HO275.out (fun _ hk => ⟨hk.2, ⟨hk.1.1.1.2, ⟨hk.1.1.2, hk.1.2⟩⟩⟩)), (by (with_reducible repeat (first | apply Kd.R_alloc | apply Kd.R_drewN | apply Kd.R_drew)); exact Kd.R_mono HO_241001.out (fun _ hk => ⟨hk.1.2, ⟨hk.2, ⟨hk.1.1.1, hk.1.1.2⟩⟩⟩)), (by (with_reducible repeat (first | apply Kd.R_alloc | apply Kd.R_drewN | apply Kd.R_drew)); exact Kd.R_mono HO_246001.out (fun _ hk => ⟨hk.1.2, ⟨hk.2, ⟨hk.1.1.1, hk.1.1.2⟩⟩⟩)), (by (with_reducible repeat (first | apply Kd.R_alloc | apply Kd.R_drewN | apply Kd.R_drew)); exact Kd.R_mono HO_254001.out (fun _ hk => ⟨hk.1.2, ⟨hk.2, ⟨hk.1.1.1, hk.1.1.2⟩⟩⟩)), (upK BK226), (upK BK227), (upK BK240), (upK BK245), (upK BK253), (upK BK277), GW277.out, GE277.out, NB226_277.out, NB277_226.out, NB227_277.out, NB277_227.out, NB240_277.out, NB277_240.out, NB245_277.out, NB277_245.out, NB253_277.out, NB277_253.out, (upW HB)⟩)
           rintro ⟨v268, v274, gb277⟩ w142 ⟨hS_, h0_, h1_, h2_, h3_, h4_, h5_, h6_, h7_, h8_, h9_, h10_, h11_, h12_, h13_, h14_, h15_, h16_, h17_, h18_, h19_, h20_, h21_, h22_, h23_⟩
           have n0_ : Aside0 (Kd.R k55 55 w142 w.heap.size (fun k_ => some k_ ≠ (v274 : Value).ownBlock ∧ some k_ ≠ (.slice Ao30 t236.length co30 : Value).ownBlock ∧ some k_ ≠ (.slice Ao40 t261.length co40 : Value).ownBlock ∧ some k_ ≠ (.slice Ao48 t249.length co48 : Value).ownBlock) v268 t267) := ⟨h0_⟩
           have n1_ : Aside0 (Kd.R k55 55 w142 w.heap.size (fun k_ => some k_ ≠ (v268 : Value).ownBlock ∧ some k_ ≠ (.slice Ao30 t236.length co30 : Value).ownBlock ∧ some k_ ≠ (.slice Ao40 t261.length co40 : Value).ownBlock ∧ some k_ ≠ (.slice Ao48 t249.length co48 : Value).ownBlock) v274 t273) := ⟨h1_⟩
           have n2_ : Aside0 (Kd.R k55 55 w142 w.heap.size (fun k_ => some k_ ≠ (v268 : Value).ownBlock ∧ some k_ ≠ (v274 : Value).ownBlock ∧ some k_ ≠ (.slice Ao40 t261.length co40 : Value).ownBlock ∧ some k_ ≠ (.slice Ao48 t249.length co48 : Value).ownBlock) (.slice Ao30 t236.length co30) t236) := ⟨h2_⟩
           have n3_ : Aside0 (Kd.R k55 55 w142 w.heap.size (fun k_ => some k_ ≠ (v268 : Value).ownBlock ∧ some k_ ≠ (v274 : Value).ownBlock ∧ some k_ ≠ (.slice Ao30 t236.length co30 : Value).ownBlock ∧ some k_ ≠ (.slice Ao48 t249.length co48 : Value).ownBlock) (.slice Ao40 t261.length co40) t261) := ⟨h3_⟩
           have n4_ : Aside0 (Kd.R k55 55 w142 w.heap.size (fun k_ => some k_ ≠ (v268 : Value).ownBlock ∧ some k_ ≠ (v274 : Value).ownBlock ∧ some k_ ≠ (.slice Ao30 t236.length co30 : Value).ownBlock ∧ some k_ ≠ (.slice Ao40 t261.length co40 : Value).ownBlock) (.slice Ao48 t249.length co48) t264) := ⟨h4_⟩
           have n5_ : Aside0 (w142.heap[gb226]? = some (.cells #[.int .i64 a0_0, .slice A0_1 l0_1.length c0_1] 35 (0, 0))) := ⟨h5_⟩
           have n6_ : Aside0 (w142.heap[gb227]? = some (.cells #[.int .i64 a1_0, .int .i64 a1_1] 53 (0, 0))) := ⟨h6_⟩
           have n7_ : Aside0 (w142.heap[gb240]? = some (.cells #[.int .i64 t235, .slice Ao30 t236.length co30] 40 (0, 0))) := ⟨h7_⟩
           have n8_ : Aside0 (w142.heap[gb245]? = some (.cells #[.int .i64 t241, .slice Ao40 t261.length co40] 40 (0, 0))) := ⟨h8_⟩
           have n9_ : Aside0 (w142.heap[gb253]? = some (.cells #[.int .i64 t248, .slice Ao48 t249.length co48] 40 (0, 0))) := ⟨h9_⟩
           have n10_ : Aside0 (w142.heap[gb277]? = some (.cells #[.int .i64 0, .slice none 0 0] 40 (0, 0))) := ⟨h10_⟩
           have n11_ : Aside0 (w.heap.size ≤ gb277) := ⟨h11_⟩
           have n12_ : Aside0 (w.heap.size ≤ gb277) := ⟨h12_⟩
           have n13_ : Aside0 (gb226 ≠ gb277) := ⟨h13_⟩
           have n14_ : Aside0 (gb277 ≠ gb226) := ⟨h14_⟩
           have n15_ : Aside0 (gb227 ≠ gb277) := ⟨h15_⟩
           have n16_ : Aside0 (gb277 ≠ gb227) := ⟨h16_⟩
           have n17_ : Aside0 (gb240 ≠ gb277) := ⟨h17_⟩
           have n18_ : Aside0 (gb277 ≠ gb240) := ⟨h18_⟩
           have n19_ : Aside0 (gb245 ≠ gb277) := ⟨h19_⟩
           have n20_ : Aside0 (gb277 ≠ gb245) := ⟨h20_⟩
           have n21_ : Aside0 (gb253 ≠ gb277) := ⟨h21_⟩
           have n22_ : Aside0 (gb277 ≠ gb253) := ⟨h22_⟩
           have n23_ : Aside0 (Below w.heap.size w w142) := ⟨h23_⟩
           clear HO_241001
           clear HO_246001
           clear HO_254001
           clear BK226
           clear BK227
           clear BK240
           clear BK245
           clear BK253
           clear HB
           clear h0_ h1_ h2_ h3_ h4_ h5_ h6_ h7_ h8_ h9_ h10_ h11_ h12_ h13_ h14_ h15_ h16_ h17_ h18_ h19_ h20_ h21_ h22_ h23_
           have HO269 := n0_
           have HO275 := n1_
           have HO_241001 := n2_
           have HO_246001 := n3_
           have HO_254001 := n4_
           have BK226 := n5_
           have BK227 := n6_
           have BK240 := n7_
           have BK245 := n8_
           have BK253 := n9_
           have BK277 := n10_
           have GW277 := n11_
           have GE277 := n12_
           have NB226_277 := n13_
           have NB277_226 := n14_
           have NB227_277 := n15_
           have NB277_227 := n16_
           have NB240_277 := n17_
           have NB277_240 := n18_
           have NB245_277 := n19_
           have NB277_245 := n20_
           have NB253_277 := n21_
           have NB277_253 := n22_
           have HB := n23_
           clear n0_ n1_ n2_ n3_ n4_ n5_ n6_ n7_ n8_ n9_ n10_ n11_ n12_ n13_ n14_ n15_ n16_ n17_ n18_ n19_ n20_ n21_ n22_ n23_
           have hHeld : w142.cell? ⟨gb226, 0, none⟩ = some (.int .i64 a0_0) ∧ w142.cell? ⟨gb226, 1, none⟩ = some (.slice A0_1 l0_1.length c0_1) ∧ w142.cell? ⟨gb227, 0, none⟩ = some (.int .i64 a1_0) ∧ w142.cell? ⟨gb227, 1, none⟩ = some (.int .i64 a1_1) := hS_
           obtain ⟨Ao144, co144, eo144⟩ := Kd.R_slice HO275.out
           (first | subst eo144 | (injection eo144 with f1_ f2_ f3_; have f4_ := f1_.symm; have f5_ := f3_.symm; clear f1_ f2_ f3_; subst f4_; subst f5_))
           refine norm_ (a' := ?_) ?_ ?_
           rotate_left
           ·simp only [putAll, Act.put, List.setIfInBounds_toArray, List.set_cons_zero, List.set_cons_succ]
            rfl
           refine one_ (i := 9) (N := none) #[true, true, true, true, true, true, true, true, true, true, false] rfl rfl (one_of HT_.out (by kernel_rfl)) (by decide) (fun K hK => ?_)
           have hs143 : w142.cell? ⟨gb277, 0, none⟩ = some (.int .i64 0) := (blk_cell BK277.out 0).trans rfl
           have hfs143 := blk_frozen BK277.out 0
           have hns143_0 := NB226_277.out
           have hns143_1 := NB227_277.out
           have hns143_2 := NB240_277.out
           have hns143_3 := NB245_277.out
           have hns143_4 := NB253_277.out
           have hms143_0 := NB277_226.out
           have hms143_1 := NB277_227.out
           have hms143_2 := NB277_240.out
           have hms143_3 := NB277_245.out
           have hms143_4 := NB277_253.out
           have hs145 : w142.cell? ⟨gb277, 1, none⟩ = some (.slice none 0 0) := (blk_cell BK277.out 1).trans rfl
           have hfs145 := blk_frozen BK277.out 1
           have hns145_0 := NB226_277.out
           have hns145_1 := NB227_277.out
           have hns145_2 := NB240_277.out
           have hns145_3 := NB245_277.out
           have hns145_4 := NB253_277.out
           have hms145_0 := NB277_226.out
           have hms145_1 := NB277_227.out
           have hms145_2 := NB277_240.out
           have hms145_3 := NB277_245.out
           have hms145_4 := NB277_253.out
           refine skip_ (w1 := ?_) (by rfl) rfl ?_ ?_
           rotate_left
           ·go_simp
            rfl
           refine hK.out _ _ ⟨((cell_far (p := ⟨gb277, _, none⟩) NB226_277.out _).trans (((cell_far (p := ⟨gb277, _, none⟩) NB226_277.out _).trans (hHeld.1)))), ((cell_far (p := ⟨gb277, _, none⟩) NB226_277.out _).trans (((cell_far (p := ⟨gb277, _, none⟩) NB226_277.out _).trans (hHeld.2.1)))), ((cell_far (p := ⟨gb277, _, none⟩) NB227_277.out _).trans (((cell_far (p := ⟨gb277, _, none⟩) NB227_277.out _).trans (hHeld.2.2.1)))), ((cell_far (p := ⟨gb277, _, none⟩) NB227_277.out _).trans (((cell_far (p := ⟨gb277, _, none⟩) NB227_277.out _).trans (hHeld.2.2.2))))⟩ (fun hHeld => ?_)
           clear hK K
           refine pure_ (i := 10) (N := some 15) (v := ?_) (a' := ?_) #[true, true, true, true, true, true, true, true, true, true, true] rfl rfl (any_of HT_.out (by kernel_rfl)) (fun _ _ _ h => h) (Or.inl ⟨by rfl, ?_⟩) ?_ ?_
           rotate_left
           ·intro w'
            go_simp
            with_reducible rfl
           rotate_left
           ·simp only [Act.put, List.setIfInBounds_toArray, List.set_cons_zero, List.set_cons_succ, i64_w, i32_w]
            rfl
           refine done_ (done_of HT_.out (by kernel_rfl)) ?_
           go_upto_region 25 with (fail)
           go_cut [95] (fun v95 wc => ∃ (kq : Nat) (x95_126 : Bool), v95 = .bool x95_126 ∧ Aside0 (laws_FnExactAddWire.j2 kq t263 x95_126 t248 t264 = some r) ∧ Aside0 (kq ≤ kj76) ∧ Aside0 (Kd.R k55 55 wc w.heap.size (fun k_ => some k_ ≠ ((.slice Ao40 t261.length co40) : Value).ownBlock ∧ some k_ ≠ ((.slice Ao48 t249.length co48) : Value).ownBlock ∧ some k_ ≠ ((.slice Ao144 t273.length co144) : Value).ownBlock) (.slice Ao30 t236.length co30) t236) ∧ Aside0 (Kd.R k55 55 wc w.heap.size (fun k_ => some k_ ≠ ((.slice Ao30 t236.length co30) : Value).ownBlock ∧ some k_ ≠ ((.slice Ao48 t249.length co48) : Value).ownBlock ∧ some k_ ≠ ((.slice Ao144 t273.length co144) : Value).ownBlock) (.slice Ao40 t261.length co40) t261) ∧ Aside0 (Kd.R k55 55 wc w.heap.size (fun k_ => some k_ ≠ ((.slice Ao30 t236.length co30) : Value).ownBlock ∧ some k_ ≠ ((.slice Ao40 t261.length co40) : Value).ownBlock ∧ some k_ ≠ ((.slice Ao144 t273.length co144) : Value).ownBlock) (.slice Ao48 t249.length co48) t264) ∧ Aside0 (Kd.R k55 55 wc w.heap.size (fun k_ => some k_ ≠ ((.slice Ao30 t236.length co30) : Value).ownBlock ∧ some k_ ≠ ((.slice Ao40 t261.length co40) : Value).ownBlock ∧ some k_ ≠ ((.slice Ao48 t249.length co48) : Value).ownBlock) (.slice Ao144 t273.length co144) t273) ∧ Aside0 (wc.heap[gb226]? = some (.cells #[.int .i64 a0_0, (.slice A0_1 l0_1.length c0_1)] 35 (0, 0))) ∧ Aside0 (wc.heap[gb227]? = some (.cells #[.int .i64 a1_0, .int .i64 a1_1] 53 (0, 0))) ∧ Aside0 (wc.heap[gb240]? = some (.cells #[.int .i64 t235, (.slice Ao30 t236.length co30)] 40 (0, 0))) ∧ Aside0 (wc.heap[gb245]? = some (.cells #[.int .i64 t241, (.slice Ao40 t261.length co40)] 40 (0, 0))) ∧ Aside0 (wc.heap[gb253]? = some (.cells #[.int .i64 t248, (.slice Ao48 t249.length co48)] 40 (0, 0))) ∧ Aside0 (wc.heap[gb277]? = some (.cells #[.int .i64 t272, (.slice Ao144 t273.length co144)] 40 (0, 0))) ∧ Aside0 (Below w.heap.size w wc))
           case first =>
            have H := HC127.out
            clear HC127
            replace H := Option.bind_eq_some_iff.mp H
            obtain ⟨t278, A1460, H⟩ := H
            replace H : (if t278 = true then (laws_FnExactAddWire.j2 kj76 t263 (t276 != t239) t248 t264) else (laws_FnExactAddWire.j2 kj76 t263 true t248 t264)) = some r := H
            have A146 := Aside0.mk A1460
            clear A1460
            by_cases c147 : t278 = true
            ·subst c147
             have H1 : (laws_FnExactAddWire.j2 kj76 t263 (t276 != t239) t248 t264) = some r := by rw [if_pos rfl] at H; exact H
             clear H
             have H := H1
             clear H1
             have H' := Aside0.mk H
             clear H
             have hnb148 := NB277_226.out
             have hnc148 := NB226_277.out
             have hnb149 := NB277_227.out
             have hnc149 := NB227_277.out
             have hnb150 := NB277_240.out
             have hnc150 := NB240_277.out
             have hnb151 := NB277_245.out
             have hnc151 := NB245_277.out
             have hnb152 := NB277_253.out
             have hnc152 := NB253_277.out
             have hcz153_0 : w142.cell? ⟨gb277, 0, none⟩ = some (.int .i64 0) := (blk_cell BK277.out 0).trans rfl
             have hcz153_1 : w142.cell? ⟨gb277, 1, none⟩ = some (.slice none 0 0) := (blk_cell BK277.out 1).trans rfl
             have hfz153_0 := blk_frozen BK277.out 0
             have hfz153_1 := blk_frozen BK277.out 1
             have hnb154 := NB240_226.out
             have hnc154 := NB226_240.out
             have hnb155 := NB240_227.out
             have hnc155 := NB227_240.out
             have hnb156 := NB240_245.out
             have hnc156 := NB245_240.out
             have hnb157 := NB240_253.out
             have hnc157 := NB253_240.out
             have hcz158_0 : w142.cell? ⟨gb240, 0, none⟩ = some (.int .i64 t235) := (blk_cell BK240.out 0).trans rfl
             have hcz158_1 : w142.cell? ⟨gb240, 1, none⟩ = some (.slice Ao30 t236.length co30) := (blk_cell BK240.out 1).trans rfl
             have hfz158_0 := blk_frozen BK240.out 0
             have hfz158_1 := blk_frozen BK240.out 1
             go_wp2_with (first | ((with_reducible refine gate_callee (f := 22) rfl ?_); refine goesL_ (some 89) rfl rfl Try.func22 (by kernel_rfl) rfl #[.agg #[.int .i64 t272, .slice Ao144 t273.length co144], .agg #[.int .i64 t235, .slice Ao30 t236.length co30]] rfl itp ?_; (with_reducible refine (laws_eqNet.calls kj76 t272 _ _ t273 t235 _ _ t236 true _ ?side1 ?side2 ?side3 ?side4 A146.out).mono ?_); (case side1 => refine (Kd.R_reads' (e := 55) (base := w.heap.size) (ok := fun k_ => (some k_ ≠ (v268 : Value).ownBlock ∧ (some k_ ≠ (.slice Ao30 t236.length co30 : Value).ownBlock ∧ (some k_ ≠ (.slice Ao40 t261.length co40 : Value).ownBlock ∧ some k_ ≠ (.slice Ao48 t249.length co48 : Value).ownBlock)))) (n := t273.length) (c := co144) ?_).2.2; exact (by (with_reducible repeat (first | apply Kd.R_alloc | apply Kd.R_drewN | apply Kd.R_drew)); exact (Kd.R_mono (Kd.R_far (p := ⟨gb277, 1, none⟩) (Kd.R_far (p := ⟨gb277, 0, none⟩) (Kd.R_types HO275.out BK277.out (by decide)) (fun _ hk => hk.2) (.int .i64 t272)) (fun _ hk => hk.2) (.slice Ao144 t273.length co144)) (fun _ h_ => h_.1)))); (case side2 => exact (Kd.R_reads' HO275.out).2.1); (case side3 => refine (Kd.R_reads' (e := 55) (base := w.heap.size) (ok := fun k_ => (some k_ ≠ (v268 : Value).ownBlock ∧ (some k_ ≠ (.slice Ao144 t273.length co144 : Value).ownBlock ∧ (some k_ ≠ (.slice Ao40 t261.length co40 : Value).ownBlock ∧ some k_ ≠ (.slice Ao48 t249.length co48 : Value).ownBlock)))) (n := t236.length) (c := co30) ?_).2.2; exact (by (with_reducible repeat (first | apply Kd.R_alloc | apply Kd.R_drewN | apply Kd.R_drew)); exact (Kd.R_mono (Kd.R_far (p := ⟨gb277, 1, none⟩) (Kd.R_far (p := ⟨gb277, 0, none⟩) (Kd.R_types HO_241001.out BK277.out (by decide)) (fun _ hk => hk.2) (.int .i64 t272)) (fun _ hk => hk.2) (.slice Ao144 t273.length co144)) (fun _ h_ => h_.1)))); (case side4 => exact (Kd.R_reads' HO_241001.out).2.1); rintro e w159 ⟨rfl, hb⟩; refine ⟨_, rfl, ?_⟩; have n0_ := Aside0.mk (Kd.R_below (by (with_reducible repeat (first | apply Kd.R_alloc | apply Kd.R_drewN | apply Kd.R_drew)); exact (Kd.R_mono (Kd.R_far (p := ⟨gb277, 1, none⟩) (Kd.R_far (p := ⟨gb277, 0, none⟩) (Kd.R_types HO_241001.out BK277.out (by decide)) (fun _ hk => hk.2) (.int .i64 t272)) (fun _ hk => hk.2) (.slice Ao144 t273.length co144)) (fun _ h_ => h_.1))) hb); have n1_ := Aside0.mk (Kd.R_below (by (with_reducible repeat (first | apply Kd.R_alloc | apply Kd.R_drewN | apply Kd.R_drew)); exact (Kd.R_mono (Kd.R_far (p := ⟨gb277, 1, none⟩) (Kd.R_far (p := ⟨gb277, 0, none⟩) (Kd.R_types HO_246001.out BK277.out (by decide)) (fun _ hk => hk.2) (.int .i64 t272)) (fun _ hk => hk.2) (.slice Ao144 t273.length co144)) (fun _ h_ => h_.1))) hb); have n2_ := Aside0.mk (Kd.R_below (by (with_reducible repeat (first | apply Kd.R_alloc | apply Kd.R_drewN | apply Kd.R_drew)); exact (Kd.R_mono (Kd.R_far (p := ⟨gb277, 1, none⟩) (Kd.R_far (p := ⟨gb277, 0, none⟩) (Kd.R_types HO_254001.out BK277.out (by decide)) (fun _ hk => hk.2) (.int .i64 t272)) (fun _ hk => hk.2) (.slice Ao144 t273.length co144)) (fun _ h_ => h_.1))) hb); have n3_ := Aside0.mk (Kd.R_below (by (with_reducible repeat (first | apply Kd.R_alloc | apply Kd.R_drewN | apply Kd.R_drew)); exact (Kd.R_mono (Kd.R_far (p := ⟨gb277, 1, none⟩) (Kd.R_far (p := ⟨gb277, 0, none⟩) (Kd.R_types HO269.out BK277.out (by decide)) (fun _ hk => hk.2) (.int .i64 t272)) (fun _ hk => hk.2) (.slice Ao144 t273.length co144)) (fun _ h_ => h_.1))) hb); have n4_ := Aside0.mk (Kd.R_below (by (with_reducible repeat (first | apply Kd.R_alloc | apply Kd.R_drewN | apply Kd.R_drew)); exact (Kd.R_mono (Kd.R_far (p := ⟨gb277, 1, none⟩) (Kd.R_far (p := ⟨gb277, 0, none⟩) (Kd.R_types HO275.out BK277.out (by decide)) (fun _ hk => hk.2) (.int .i64 t272)) (fun _ hk => hk.2) (.slice Ao144 t273.length co144)) (fun _ h_ => h_.1))) hb); have n5_ := Aside0.mk (blk_below (upF BK226) hb); have n6_ := Aside0.mk (blk_below (upF BK227) hb); have n7_ := Aside0.mk (blk_below (upF BK240) hb); have n8_ := Aside0.mk (blk_below (upF BK245) hb); have n9_ := Aside0.mk (blk_below (upF BK253) hb); have n10_ := Aside0.mk (blk_below (g := gb277) (o := .cells #[.int .i64 t272, .slice Ao144 t273.length co144] 40 (0, 0)) (by (with_reducible repeat (first | refine blk_drewN ?_ _ | refine blk_drew ?_ | refine blk_alloc ?_ _)); refine blk_put (cs := #[.int .i64 t272, .slice none 0 0]) ?_ 1 _ rfl; (with_reducible repeat (first | refine blk_drewN ?_ _ | refine blk_drew ?_ | refine blk_alloc ?_ _)); refine blk_put (cs := #[.int .i64 0, .slice none 0 0]) ?_ 0 _ rfl; (with_reducible repeat (first | refine blk_drewN ?_ _ | refine blk_drew ?_ | refine blk_alloc ?_ _)); exact BK277.out) hb); have n11_ := Aside0.mk (below_step (upW HB) hb); clear HO_241001; clear HO_246001; clear HO_254001; clear HO269; clear HO275; clear BK226; clear BK227; clear BK240; clear BK245; clear BK253; clear BK277; clear HB; have HO_241001 := n0_; have HO_246001 := n1_; have HO_254001 := n2_; have HO269 := n3_; have HO275 := n4_; have BK226 := n5_; have BK227 := n6_; have BK240 := n7_; have BK245 := n8_; have BK253 := n9_; have BK277 := n10_; have HB := n11_; clear n0_ n1_ n2_ n3_ n4_ n5_ n6_ n7_ n8_ n9_ n10_ n11_; (try clear hb); (try clear hb2); (try clear hk); (try clear hi)))
             go_meet
             case rel => exact ⟨_, ((t276 != t239)), (by first | rfl | (simp; done) | (simp [*]; done)), H', ⟨by have := HJ15.out; have := HJ76.out; first | omega | exact Nat.le_refl _⟩, ⟨by (try simp only [hl246001_76]); (with_reducible repeat (first | apply Kd.R_alloc | apply Kd.R_drewN | apply Kd.R_drew)); exact Kd.R_mono HO_241001.out (fun _ hk => ⟨hk.2.2.1, ⟨hk.2.2.2, hk.2.1⟩⟩)⟩, ⟨by (try simp only [hl246001_76]); (with_reducible repeat (first | apply Kd.R_alloc | apply Kd.R_drewN | apply Kd.R_drew)); exact Kd.R_mono HO_246001.out (fun _ hk => ⟨hk.2.2.1, ⟨hk.2.2.2, hk.2.1⟩⟩)⟩, ⟨by (try simp only [hl246001_76]); (with_reducible repeat (first | apply Kd.R_alloc | apply Kd.R_drewN | apply Kd.R_drew)); exact Kd.R_mono HO_254001.out (fun _ hk => ⟨hk.2.2.1, ⟨hk.2.2.2, hk.2.1⟩⟩)⟩, ⟨by (try simp only [hl246001_76]); (with_reducible repeat (first | apply Kd.R_alloc | apply Kd.R_drewN | apply Kd.R_drew)); exact Kd.R_mono HO275.out (fun _ hk => ⟨hk.2.1, ⟨hk.2.2.1, hk.2.2.2⟩⟩)⟩, ⟨by (try simp only [hl246001_76]); (with_reducible repeat (first | refine blk_drewN ?_ _ | refine blk_drew ?_ | refine blk_alloc ?_ _)); exact BK226.out⟩, ⟨by (try simp only [hl246001_76]); (with_reducible repeat (first | refine blk_drewN ?_ _ | refine blk_drew ?_ | refine blk_alloc ?_ _)); exact BK227.out⟩, ⟨by (try simp only [hl246001_76]); (with_reducible repeat (first | refine blk_drewN ?_ _ | refine blk_drew ?_ | refine blk_alloc ?_ _)); exact BK240.out⟩, ⟨by (try simp only [hl246001_76]); (with_reducible repeat (first | refine blk_drewN ?_ _ | refine blk_drew ?_ | refine blk_alloc ?_ _)); exact BK245.out⟩, ⟨by (try simp only [hl246001_76]); (with_reducible repeat (first | refine blk_drewN ?_ _ | refine blk_drew ?_ | refine blk_alloc ?_ _)); exact BK253.out⟩, ⟨by (try simp only [hl246001_76]); (with_reducible repeat (first | refine blk_drewN ?_ _ | refine blk_drew ?_ | refine blk_alloc ?_ _)); exact BK277.out⟩, ⟨upW HB⟩⟩
            ·replace c147 := Bool.eq_false_iff.mpr c147
             subst c147
             have H1 : (laws_FnExactAddWire.j2 kj76 t263 true t248 t264) = some r := by rw [if_neg (show ¬ (false = true) by decide)] at H; exact H
             clear H
             have H := H1
             clear H1
             have H' := Aside0.mk H
             clear H
             have hnb160 := NB277_226.out
             have hnc160 := NB226_277.out
             have hnb161 := NB277_227.out
             have hnc161 := NB227_277.out
             have hnb162 := NB277_240.out
             have hnc162 := NB240_277.out
             have hnb163 := NB277_245.out
             have hnc163 := NB245_277.out
             have hnb164 := NB277_253.out
             have hnc164 := NB253_277.out
             have hcz165_0 : w142.cell? ⟨gb277, 0, none⟩ = some (.int .i64 0) := (blk_cell BK277.out 0).trans rfl
             have hcz165_1 : w142.cell? ⟨gb277, 1, none⟩ = some (.slice none 0 0) := (blk_cell BK277.out 1).trans rfl
             have hfz165_0 := blk_frozen BK277.out 0
             have hfz165_1 := blk_frozen BK277.out 1
             have hnb166 := NB240_226.out
             have hnc166 := NB226_240.out
             have hnb167 := NB240_227.out
             have hnc167 := NB227_240.out
             have hnb168 := NB240_245.out
             have hnc168 := NB245_240.out
             have hnb169 := NB240_253.out
             have hnc169 := NB253_240.out
             have hcz170_0 : w142.cell? ⟨gb240, 0, none⟩ = some (.int .i64 t235) := (blk_cell BK240.out 0).trans rfl
             have hcz170_1 : w142.cell? ⟨gb240, 1, none⟩ = some (.slice Ao30 t236.length co30) := (blk_cell BK240.out 1).trans rfl
             have hfz170_0 := blk_frozen BK240.out 0
             have hfz170_1 := blk_frozen BK240.out 1
             go_wp2_with (first | ((with_reducible refine gate_callee (f := 22) rfl ?_); refine goesL_ (some 89) rfl rfl Try.func22 (by kernel_rfl) rfl #[.agg #[.int .i64 t272, .slice Ao144 t273.length co144], .agg #[.int .i64 t235, .slice Ao30 t236.length co30]] rfl itp ?_; (with_reducible refine (laws_eqNet.calls kj76 t272 _ _ t273 t235 _ _ t236 false _ ?side1 ?side2 ?side3 ?side4 A146.out).mono ?_); (case side1 => refine (Kd.R_reads' (e := 55) (base := w.heap.size) (ok := fun k_ => (some k_ ≠ (v268 : Value).ownBlock ∧ (some k_ ≠ (.slice Ao30 t236.length co30 : Value).ownBlock ∧ (some k_ ≠ (.slice Ao40 t261.length co40 : Value).ownBlock ∧ some k_ ≠ (.slice Ao48 t249.length co48 : Value).ownBlock)))) (n := t273.length) (c := co144) ?_).2.2; exact (by (with_reducible repeat (first | apply Kd.R_alloc | apply Kd.R_drewN | apply Kd.R_drew)); exact (Kd.R_mono (Kd.R_far (p := ⟨gb277, 1, none⟩) (Kd.R_far (p := ⟨gb277, 0, none⟩) (Kd.R_types HO275.out BK277.out (by decide)) (fun _ hk => hk.2) (.int .i64 t272)) (fun _ hk => hk.2) (.slice Ao144 t273.length co144)) (fun _ h_ => h_.1)))); (case side2 => exact (Kd.R_reads' HO275.out).2.1); (case side3 => refine (Kd.R_reads' (e := 55) (base := w.heap.size) (ok := fun k_ => (some k_ ≠ (v268 : Value).ownBlock ∧ (some k_ ≠ (.slice Ao144 t273.length co144 : Value).ownBlock ∧ (some k_ ≠ (.slice Ao40 t261.length co40 : Value).ownBlock ∧ some k_ ≠ (.slice Ao48 t249.length co48 : Value).ownBlock)))) (n := t236.length) (c := co30) ?_).2.2; exact (by (with_reducible repeat (first | apply Kd.R_alloc | apply Kd.R_drewN | apply Kd.R_drew)); exact (Kd.R_mono (Kd.R_far (p := ⟨gb277, 1, none⟩) (Kd.R_far (p := ⟨gb277, 0, none⟩) (Kd.R_types HO_241001.out BK277.out (by decide)) (fun _ hk => hk.2) (.int .i64 t272)) (fun _ hk => hk.2) (.slice Ao144 t273.length co144)) (fun _ h_ => h_.1)))); (case side4 => exact (Kd.R_reads' HO_241001.out).2.1); rintro e w171 ⟨rfl, hb⟩; refine ⟨_, rfl, ?_⟩; have n0_ := Aside0.mk (Kd.R_below (by (with_reducible repeat (first | apply Kd.R_alloc | apply Kd.R_drewN | apply Kd.R_drew)); exact (Kd.R_mono (Kd.R_far (p := ⟨gb277, 1, none⟩) (Kd.R_far (p := ⟨gb277, 0, none⟩) (Kd.R_types HO_241001.out BK277.out (by decide)) (fun _ hk => hk.2) (.int .i64 t272)) (fun _ hk => hk.2) (.slice Ao144 t273.length co144)) (fun _ h_ => h_.1))) hb); have n1_ := Aside0.mk (Kd.R_below (by (with_reducible repeat (first | apply Kd.R_alloc | apply Kd.R_drewN | apply Kd.R_drew)); exact (Kd.R_mono (Kd.R_far (p := ⟨gb277, 1, none⟩) (Kd.R_far (p := ⟨gb277, 0, none⟩) (Kd.R_types HO_246001.out BK277.out (by decide)) (fun _ hk => hk.2) (.int .i64 t272)) (fun _ hk => hk.2) (.slice Ao144 t273.length co144)) (fun _ h_ => h_.1))) hb); have n2_ := Aside0.mk (Kd.R_below (by (with_reducible repeat (first | apply Kd.R_alloc | apply Kd.R_drewN | apply Kd.R_drew)); exact (Kd.R_mono (Kd.R_far (p := ⟨gb277, 1, none⟩) (Kd.R_far (p := ⟨gb277, 0, none⟩) (Kd.R_types HO_254001.out BK277.out (by decide)) (fun _ hk => hk.2) (.int .i64 t272)) (fun _ hk => hk.2) (.slice Ao144 t273.length co144)) (fun _ h_ => h_.1))) hb); have n3_ := Aside0.mk (Kd.R_below (by (with_reducible repeat (first | apply Kd.R_alloc | apply Kd.R_drewN | apply Kd.R_drew)); exact (Kd.R_mono (Kd.R_far (p := ⟨gb277, 1, none⟩) (Kd.R_far (p := ⟨gb277, 0, none⟩) (Kd.R_types HO269.out BK277.out (by decide)) (fun _ hk => hk.2) (.int .i64 t272)) (fun _ hk => hk.2) (.slice Ao144 t273.length co144)) (fun _ h_ => h_.1))) hb); have n4_ := Aside0.mk (Kd.R_below (by (with_reducible repeat (first | apply Kd.R_alloc | apply Kd.R_drewN | apply Kd.R_drew)); exact (Kd.R_mono (Kd.R_far (p := ⟨gb277, 1, none⟩) (Kd.R_far (p := ⟨gb277, 0, none⟩) (Kd.R_types HO275.out BK277.out (by decide)) (fun _ hk => hk.2) (.int .i64 t272)) (fun _ hk => hk.2) (.slice Ao144 t273.length co144)) (fun _ h_ => h_.1))) hb); have n5_ := Aside0.mk (blk_below (upF BK226) hb); have n6_ := Aside0.mk (blk_below (upF BK227) hb); have n7_ := Aside0.mk (blk_below (upF BK240) hb); have n8_ := Aside0.mk (blk_below (upF BK245) hb); have n9_ := Aside0.mk (blk_below (upF BK253) hb); have n10_ := Aside0.mk (blk_below (g := gb277) (o := .cells #[.int .i64 t272, .slice Ao144 t273.length co144] 40 (0, 0)) (by (with_reducible repeat (first | refine blk_drewN ?_ _ | refine blk_drew ?_ | refine blk_alloc ?_ _)); refine blk_put (cs := #[.int .i64 t272, .slice none 0 0]) ?_ 1 _ rfl; (with_reducible repeat (first | refine blk_drewN ?_ _ | refine blk_drew ?_ | refine blk_alloc ?_ _)); refine blk_put (cs := #[.int .i64 0, .slice none 0 0]) ?_ 0 _ rfl; (with_reducible repeat (first | refine blk_drewN ?_ _ | refine blk_drew ?_ | refine blk_alloc ?_ _)); exact BK277.out) hb); have n11_ := Aside0.mk (below_step (upW HB) hb); clear HO_241001; clear HO_246001; clear HO_254001; clear HO269; clear HO275; clear BK226; clear BK227; clear BK240; clear BK245; clear BK253; clear BK277; clear HB; have HO_241001 := n0_; have HO_246001 := n1_; have HO_254001 := n2_; have HO269 := n3_; have HO275 := n4_; have BK226 := n5_; have BK227 := n6_; have BK240 := n7_; have BK245 := n8_; have BK253 := n9_; have BK277 := n10_; have HB := n11_; clear n0_ n1_ n2_ n3_ n4_ n5_ n6_ n7_ n8_ n9_ n10_ n11_; (try clear hb); (try clear hb2); (try clear hk); (try clear hi)))
             go_meet
             case rel => exact ⟨_, (true), (by first | rfl | (simp; done) | (simp [*]; done)), H', ⟨by have := HJ15.out; have := HJ76.out; first | omega | exact Nat.le_refl _⟩, ⟨by (try simp only [hl246001_76]); (with_reducible repeat (first | apply Kd.R_alloc | apply Kd.R_drewN | apply Kd.R_drew)); exact Kd.R_mono HO_241001.out (fun _ hk => ⟨hk.2.2.1, ⟨hk.2.2.2, hk.2.1⟩⟩)⟩, ⟨by (try simp only [hl246001_76]); (with_reducible repeat (first | apply Kd.R_alloc | apply Kd.R_drewN | apply Kd.R_drew)); exact Kd.R_mono HO_246001.out (fun _ hk => ⟨hk.2.2.1, ⟨hk.2.2.2, hk.2.1⟩⟩)⟩, ⟨by (try simp only [hl246001_76]); (with_reducible repeat (first | apply Kd.R_alloc | apply Kd.R_drewN | apply Kd.R_drew)); exact Kd.R_mono HO_254001.out (fun _ hk => ⟨hk.2.2.1, ⟨hk.2.2.2, hk.2.1⟩⟩)⟩, ⟨by (try simp only [hl246001_76]); (with_reducible repeat (first | apply Kd.R_alloc | apply Kd.R_drewN | apply Kd.R_drew)); exact Kd.R_mono HO275.out (fun _ hk => ⟨hk.2.1, ⟨hk.2.2.1, hk.2.2.2⟩⟩)⟩, ⟨by (try simp only [hl246001_76]); (with_reducible repeat (first | refine blk_drewN ?_ _ | refine blk_drew ?_ | refine blk_alloc ?_ _)); exact BK226.out⟩, ⟨by (try simp only [hl246001_76]); (with_reducible repeat (first | refine blk_drewN ?_ _ | refine blk_drew ?_ | refine blk_alloc ?_ _)); exact BK227.out⟩, ⟨by (try simp only [hl246001_76]); (with_reducible repeat (first | refine blk_drewN ?_ _ | refine blk_drew ?_ | refine blk_alloc ?_ _)); exact BK240.out⟩, ⟨by (try simp only [hl246001_76]); (with_reducible repeat (first | refine blk_drewN ?_ _ | refine blk_drew ?_ | refine blk_alloc ?_ _)); exact BK245.out⟩, ⟨by (try simp only [hl246001_76]); (with_reducible repeat (first | refine blk_drewN ?_ _ | refine blk_drew ?_ | refine blk_alloc ?_ _)); exact BK253.out⟩, ⟨by (try simp only [hl246001_76]); (with_reducible repeat (first | refine blk_drewN ?_ _ | refine blk_drew ?_ | refine blk_alloc ?_ _)); exact BK277.out⟩, ⟨upW HB⟩⟩
           case rest =>
            clear HC127
            try clear c1
            try clear c2
            try clear p2
            try clear c3
            try clear c14
            try clear c15
            try clear c16
            try clear c20
            try clear c22
            try clear c32
            try clear c33
            try clear c147
            try clear c148
            try clear c149
            try clear c150
            try clear c151
            try clear c152
            try clear c154
            try clear c155
            try clear c156
            try clear c157
            try clear c160
            try clear c161
            try clear c162
            try clear c163
            try clear c164
            try clear c166
            try clear c167
            try clear c168
            try clear c169
            try clear hcz153_0
            try clear hcz153_1
            try clear hcz158_0
            try clear hcz158_1
            try clear hcz165_0
            try clear hcz165_1
            try clear hcz170_0
            try clear hcz170_1
            try clear hfz153_0
            try clear hfz153_1
            try clear hfz158_0
            try clear hfz158_1
            try clear hfz165_0
            try clear hfz165_1
            try clear hfz170_0
            try clear hfz170_1
            obtain ⟨kq, x95_126, rfl, HA, HJ126, HO_241001, HO_246001, HO_254001, HO_278001, BK226, BK227, BK240, BK245, BK253, BK277, HB⟩ := hcut
            have hl254001_126 := (Kd.R_reads' HO_254001.out).1
            rw [hl254001_126] at HO_254001
            (try simp only [hl254001_126])
            (try simp only [hl254001_126] at BK226)
            (try simp only [hl254001_126] at BK227)
            (try simp only [hl254001_126] at BK240)
            (try simp only [hl254001_126] at BK245)
            (try simp only [hl254001_126] at BK253)
            (try simp only [hl254001_126] at BK277)
            (try simp only [hl254001_126] at HO_241001)
            (try simp only [hl254001_126] at HO_246001)
            (try simp only [hl254001_126] at HO_278001)
            cases kq with
            | zero => exact absurd HA.out (by simp [laws_FnExactAddWire.j2])
            | succ kj126 =>
             have H := HA.out
             clear HA
             simp only [laws_FnExactAddWire.j2] at H
             by_cases c172 : x95_126 = true
             ·subst c172
              have H1 : (some false) = some r := by rw [if_pos rfl] at H; exact H
              clear H
              have H := H1
              clear H1
              obtain rfl := Option.some.inj H
              go_wp2
              go_ret
              exact ⟨by first | rfl | (simp [errW_none, errW_some] <;> rfl) | (simp [*, errW_none, errW_some] <;> rfl), by repeat (first | (with_reducible first | exact HB.out | apply below_alloc | apply pw_below_drewN | apply below_drew1 | refine below_set ?_ GE226.out | refine below_set ?_ GE227.out | refine below_set ?_ GE240.out | refine below_set ?_ GE245.out | refine below_set ?_ GE253.out | refine below_set ?_ GE277.out) | exact HB.out)⟩
             ·replace c172 := Bool.eq_false_iff.mpr c172
              subst c172
              have H1 : ((laws_heldNet.f kj126 t248 t264 1).bind fun t279 => (if t279 < 0 then (some false) else (if t279 = t263 then (some true) else (some false)))) = some r := by rw [if_neg (show ¬ (false = true) by decide)] at H; exact H
              clear H
              have H := H1
              clear H1
              replace H := Option.bind_eq_some_iff.mp H
              obtain ⟨t279, A1730, H⟩ := H
              replace H : (if t279 < 0 then (some false) else (if t279 = t263 then (some true) else (some false))) = some r := H
              have A173 := Aside0.mk A1730
              clear A1730
              by_cases c174 : t279 < 0
              ·rw [if_pos c174] at H
               have c174b0 : decide (t279 < 0) = true := decide_eq_true c174
               clear c174
               obtain rfl := Option.some.inj H
               have hnb175 := NB253_226.out
               have hnc175 := NB226_253.out
               have hnb176 := NB253_227.out
               have hnc176 := NB227_253.out
               have hnb177 := NB253_240.out
               have hnc177 := NB240_253.out
               have hnb178 := NB253_245.out
               have hnc178 := NB245_253.out
               have hnb179 := NB253_277.out
               have hnc179 := NB277_253.out
               have hcz180_0 : wc.cell? ⟨gb253, 0, none⟩ = some (.int .i64 t248) := (blk_cell BK253.out 0).trans rfl
               have hcz180_1 : wc.cell? ⟨gb253, 1, none⟩ = some (.slice Ao48 t264.length co48) := (blk_cell BK253.out 1).trans rfl
               have hfz180_0 := blk_frozen BK253.out 0
               have hfz180_1 := blk_frozen BK253.out 1
               go_wp2_with (first | ((with_reducible refine gate_callee (f := 30) rfl ?_); refine goesL_ (some 98) rfl rfl Try.func30 (by kernel_rfl) rfl #[.agg #[.int .i64 t248, .slice Ao48 t264.length co48], .int .i64 1] rfl itp ?_; (with_reducible refine (laws_heldNet.calls kj126 t248 _ _ t264 1 t279 _ ?side1 ?side2 A173.out).mono ?_); (case side1 => repeat (first | exact (Kd.R_reads' HO_254001.out).2.2 | (with_reducible refine Kd.C_alloc ?_ _) | (with_reducible refine Kd.C_drewN ?_ _) | (with_reducible refine Kd.C_drew ?_))); (case side2 => exact (Kd.R_reads' HO_254001.out).2.1); rintro e w181 ⟨rfl, hb⟩; refine ⟨_, rfl, ?_⟩; have n0_ := Aside0.mk (Kd.R_below (upR HO_241001) hb); have n1_ := Aside0.mk (Kd.R_below (upR HO_246001) hb); have n2_ := Aside0.mk (Kd.R_below (upR HO_254001) hb); have n3_ := Aside0.mk (Kd.R_below (upR HO_278001) hb); have n4_ := Aside0.mk (blk_below (upK BK226) hb); have n5_ := Aside0.mk (blk_below (upK BK227) hb); have n6_ := Aside0.mk (blk_below (upK BK240) hb); have n7_ := Aside0.mk (blk_below (upK BK245) hb); have n8_ := Aside0.mk (blk_below (upK BK253) hb); have n9_ := Aside0.mk (blk_below (upK BK277) hb); have n10_ := Aside0.mk (below_step (upW HB) hb); clear HO_241001; clear HO_246001; clear HO_254001; clear HO_278001; clear BK226; clear BK227; clear BK240; clear BK245; clear BK253; clear BK277; clear HB; have HO_241001 := n0_; have HO_246001 := n1_; have HO_254001 := n2_; have HO_278001 := n3_; have BK226 := n4_; have BK227 := n5_; have BK240 := n6_; have BK245 := n7_; have BK253 := n8_; have BK277 := n9_; have HB := n10_; clear n0_ n1_ n2_ n3_ n4_ n5_ n6_ n7_ n8_ n9_ n10_; (try clear hb); (try clear hb2); (try clear hk); (try clear hi)))
               go_ret
               exact ⟨by first | rfl | (simp [errW_none, errW_some] <;> rfl) | (simp [*, errW_none, errW_some] <;> rfl), by repeat (first | (with_reducible first | exact HB.out | apply below_alloc | apply pw_below_drewN | apply below_drew1 | refine below_set ?_ GE226.out | refine below_set ?_ GE227.out | refine below_set ?_ GE240.out | refine below_set ?_ GE245.out | refine below_set ?_ GE253.out | refine below_set ?_ GE277.out) | exact HB.out)⟩
              ·rw [if_neg c174] at H
               have c174b0 : decide (t279 < 0) = false := decide_eq_false c174
               clear c174
               by_cases c182 : t279 = t263
               ·rw [if_pos c182] at H
                have c182b0 : (t279 == t263) = true := beq_iff_eq.mpr c182
                have c182b1 : (t279 != t263) = false := bne_eq_false_iff_eq.mpr c182
                clear c182
                obtain rfl := Option.some.inj H
                have hnb183 := NB253_226.out
                have hnc183 := NB226_253.out
                have hnb184 := NB253_227.out
                have hnc184 := NB227_253.out
                have hnb185 := NB253_240.out
                have hnc185 := NB240_253.out
                have hnb186 := NB253_245.out
                have hnc186 := NB245_253.out
                have hnb187 := NB253_277.out
                have hnc187 := NB277_253.out
                have hcz188_0 : wc.cell? ⟨gb253, 0, none⟩ = some (.int .i64 t248) := (blk_cell BK253.out 0).trans rfl
                have hcz188_1 : wc.cell? ⟨gb253, 1, none⟩ = some (.slice Ao48 t264.length co48) := (blk_cell BK253.out 1).trans rfl
                have hfz188_0 := blk_frozen BK253.out 0
                have hfz188_1 := blk_frozen BK253.out 1
                go_wp2_with (first | ((with_reducible refine gate_callee (f := 30) rfl ?_); refine goesL_ (some 98) rfl rfl Try.func30 (by kernel_rfl) rfl #[.agg #[.int .i64 t248, .slice Ao48 t264.length co48], .int .i64 1] rfl itp ?_; (with_reducible refine (laws_heldNet.calls kj126 t248 _ _ t264 1 t279 _ ?side1 ?side2 A173.out).mono ?_); (case side1 => repeat (first | exact (Kd.R_reads' HO_254001.out).2.2 | (with_reducible refine Kd.C_alloc ?_ _) | (with_reducible refine Kd.C_drewN ?_ _) | (with_reducible refine Kd.C_drew ?_))); (case side2 => exact (Kd.R_reads' HO_254001.out).2.1); rintro e w189 ⟨rfl, hb⟩; refine ⟨_, rfl, ?_⟩; have n0_ := Aside0.mk (Kd.R_below (upR HO_241001) hb); have n1_ := Aside0.mk (Kd.R_below (upR HO_246001) hb); have n2_ := Aside0.mk (Kd.R_below (upR HO_254001) hb); have n3_ := Aside0.mk (Kd.R_below (upR HO_278001) hb); have n4_ := Aside0.mk (blk_below (upK BK226) hb); have n5_ := Aside0.mk (blk_below (upK BK227) hb); have n6_ := Aside0.mk (blk_below (upK BK240) hb); have n7_ := Aside0.mk (blk_below (upK BK245) hb); have n8_ := Aside0.mk (blk_below (upK BK253) hb); have n9_ := Aside0.mk (blk_below (upK BK277) hb); have n10_ := Aside0.mk (below_step (upW HB) hb); clear HO_241001; clear HO_246001; clear HO_254001; clear HO_278001; clear BK226; clear BK227; clear BK240; clear BK245; clear BK253; clear BK277; clear HB; have HO_241001 := n0_; have HO_246001 := n1_; have HO_254001 := n2_; have HO_278001 := n3_; have BK226 := n4_; have BK227 := n5_; have BK240 := n6_; have BK245 := n7_; have BK253 := n8_; have BK277 := n9_; have HB := n10_; clear n0_ n1_ n2_ n3_ n4_ n5_ n6_ n7_ n8_ n9_ n10_; (try clear hb); (try clear hb2); (try clear hk); (try clear hi)))
                go_ret
                exact ⟨by first | rfl | (simp [errW_none, errW_some] <;> rfl) | (simp [*, errW_none, errW_some] <;> rfl), by repeat (first | (with_reducible first | exact HB.out | apply below_alloc | apply pw_below_drewN | apply below_drew1 | refine below_set ?_ GE226.out | refine below_set ?_ GE227.out | refine below_set ?_ GE240.out | refine below_set ?_ GE245.out | refine below_set ?_ GE253.out | refine below_set ?_ GE277.out) | exact HB.out)⟩
               ·rw [if_neg c182] at H
                have c182b0 : (t279 == t263) = false := beq_eq_false_iff_ne.mpr c182
                have c182b1 : (t279 != t263) = true := bne_iff_ne.mpr c182
                obtain rfl := Option.some.inj H
                have hnb190 := NB253_226.out
                have hnc190 := NB226_253.out
                have hnb191 := NB253_227.out
                have hnc191 := NB227_253.out
                have hnb192 := NB253_240.out
                have hnc192 := NB240_253.out
                have hnb193 := NB253_245.out
                have hnc193 := NB245_253.out
                have hnb194 := NB253_277.out
                have hnc194 := NB277_253.out
                have hcz195_0 : wc.cell? ⟨gb253, 0, none⟩ = some (.int .i64 t248) := (blk_cell BK253.out 0).trans rfl
                have hcz195_1 : wc.cell? ⟨gb253, 1, none⟩ = some (.slice Ao48 t264.length co48) := (blk_cell BK253.out 1).trans rfl
                have hfz195_0 := blk_frozen BK253.out 0
                have hfz195_1 := blk_frozen BK253.out 1
                go_wp2_with (first | ((with_reducible refine gate_callee (f := 30) rfl ?_); refine goesL_ (some 98) rfl rfl Try.func30 (by kernel_rfl) rfl #[.agg #[.int .i64 t248, .slice Ao48 t264.length co48], .int .i64 1] rfl itp ?_; (with_reducible refine (laws_heldNet.calls kj126 t248 _ _ t264 1 t279 _ ?side1 ?side2 A173.out).mono ?_); (case side1 => repeat (first | exact (Kd.R_reads' HO_254001.out).2.2 | (with_reducible refine Kd.C_alloc ?_ _) | (with_reducible refine Kd.C_drewN ?_ _) | (with_reducible refine Kd.C_drew ?_))); (case side2 => exact (Kd.R_reads' HO_254001.out).2.1); rintro e w196 ⟨rfl, hb⟩; refine ⟨_, rfl, ?_⟩; have n0_ := Aside0.mk (Kd.R_below (upR HO_241001) hb); have n1_ := Aside0.mk (Kd.R_below (upR HO_246001) hb); have n2_ := Aside0.mk (Kd.R_below (upR HO_254001) hb); have n3_ := Aside0.mk (Kd.R_below (upR HO_278001) hb); have n4_ := Aside0.mk (blk_below (upK BK226) hb); have n5_ := Aside0.mk (blk_below (upK BK227) hb); have n6_ := Aside0.mk (blk_below (upK BK240) hb); have n7_ := Aside0.mk (blk_below (upK BK245) hb); have n8_ := Aside0.mk (blk_below (upK BK253) hb); have n9_ := Aside0.mk (blk_below (upK BK277) hb); have n10_ := Aside0.mk (below_step (upW HB) hb); clear HO_241001; clear HO_246001; clear HO_254001; clear HO_278001; clear BK226; clear BK227; clear BK240; clear BK245; clear BK253; clear BK277; clear HB; have HO_241001 := n0_; have HO_246001 := n1_; have HO_254001 := n2_; have HO_278001 := n3_; have BK226 := n4_; have BK227 := n5_; have BK240 := n6_; have BK245 := n7_; have BK253 := n8_; have BK277 := n9_; have HB := n10_; clear n0_ n1_ n2_ n3_ n4_ n5_ n6_ n7_ n8_ n9_ n10_; (try clear hb); (try clear hb2); (try clear hk); (try clear hi)))
                go_ret
                exact ⟨by first | rfl | (simp [errW_none, errW_some] <;> rfl) | (simp [*, errW_none, errW_some] <;> rfl), by repeat (first | (with_reducible first | exact HB.out | apply below_alloc | apply pw_below_drewN | apply below_drew1 | refine below_set ?_ GE226.out | refine below_set ?_ GE227.out | refine below_set ?_ GE240.out | refine below_set ?_ GE245.out | refine below_set ?_ GE253.out | refine below_set ?_ GE277.out) | exact HB.out)⟩
          ·rw [if_neg c123] at H
           have c123b0 : (t265 == t263) = false := beq_eq_false_iff_ne.mpr c123
           have c123b1 : (t265 != t263) = true := bne_iff_ne.mpr c123
           obtain rfl := Option.some.inj H
           have hnb197 := NB253_226.out
           have hnc197 := NB226_253.out
           have hnb198 := NB253_227.out
           have hnc198 := NB227_253.out
           have hnb199 := NB253_240.out
           have hnc199 := NB240_253.out
           have hnb200 := NB253_245.out
           have hnc200 := NB245_253.out
           have hcz201_0 : wc.cell? ⟨gb253, 0, none⟩ = some (.int .i64 t248) := (blk_cell BK253.out 0).trans rfl
           have hcz201_1 : wc.cell? ⟨gb253, 1, none⟩ = some (.slice Ao48 t249.length co48) := (blk_cell BK253.out 1).trans rfl
           have hfz201_0 := blk_frozen BK253.out 0
           have hfz201_1 := blk_frozen BK253.out 1
           go_wp2_with (first | ((with_reducible refine gate_callee (f := 29) rfl ?_); refine goesL_ (some 70) rfl rfl Try.func29 (by kernel_rfl) rfl #[.agg #[.int .i64 t248, .slice Ao48 t249.length co48], .int .i64 1] rfl itp ?_; (with_reducible refine (laws_markNet.calls kj76 t248 (fun k_ => some k_ = (.slice Ao48 t249.length co48 : Value).ownBlock) (.slice Ao48 t249.length co48) t249 1 t263 t264 w _ ?side1 ?side2 A112.out).mono ?_); (case side1 => repeat (first | (with_reducible first | exact HB.out | apply below_alloc | apply pw_below_drewN | apply below_drew1 | refine below_set ?_ GE226.out | refine below_set ?_ GE227.out | refine below_set ?_ GE240.out | refine below_set ?_ GE245.out | refine below_set ?_ GE253.out) | exact HB.out)); (case side2 => exact Kd.R_tight rfl HO_254001.out); rintro e w202 ⟨rfl, hy0, hb, hkp⟩; refine ⟨_, rfl, ?_⟩; have n0_ := Aside0.mk (Kd.R_mono (ok' := fun k_ => some k_ ≠ (.slice Ao40 t261.length co40 : Value).ownBlock ∧ some k_ ≠ (.slice Ao48 t249.length co48 : Value).ownBlock) (Kd.R_keptB (HO_241001.out) hkp (fun k_ hk_ hs_ => (hk_.2) hs_)) (fun k_ hk_ => ⟨hk_.1.1, hk_.1.2⟩)); have n1_ := Aside0.mk (Kd.R_mono (ok' := fun k_ => some k_ ≠ (.slice Ao30 t236.length co30 : Value).ownBlock ∧ some k_ ≠ (.slice Ao48 t249.length co48 : Value).ownBlock) (Kd.R_keptB (HO_246001.out) hkp (fun k_ hk_ hs_ => (hk_.2) hs_)) (fun k_ hk_ => ⟨hk_.1.1, hk_.1.2⟩)); have n2_ := Aside0.mk (Kd.R_reok rfl hy0 (fun k_ e_ => HO_254001.out.1 k_ e_)); have n3_ := Aside0.mk (blk_kept (upK BK226) hkp (fun hs_ => (fun e_ => (Kd.R_ne HO_254001.out BK226.out (by decide)) e_) hs_)); have n4_ := Aside0.mk (blk_kept (upK BK227) hkp (fun hs_ => (fun e_ => (Kd.R_ne HO_254001.out BK227.out (by decide)) e_) hs_)); have n5_ := Aside0.mk (blk_kept (upK BK240) hkp (fun hs_ => (fun e_ => (Kd.R_ne HO_254001.out BK240.out (by decide)) e_) hs_)); have n6_ := Aside0.mk (blk_kept (upK BK245) hkp (fun hs_ => (fun e_ => (Kd.R_ne HO_254001.out BK245.out (by decide)) e_) hs_)); have n7_ := Aside0.mk (blk_kept (upK BK253) hkp (fun hs_ => (fun e_ => (Kd.R_ne HO_254001.out BK253.out (by decide)) e_) hs_)); have n8_ := Aside0.mk (hb); clear HO_241001; clear HO_246001; clear HO_254001; clear BK226; clear BK227; clear BK240; clear BK245; clear BK253; clear HB; have HO_241001 := n0_; have HO_246001 := n1_; have HO_254001 := n2_; have BK226 := n3_; have BK227 := n4_; have BK240 := n5_; have BK245 := n6_; have BK253 := n7_; have HB := n8_; clear n0_ n1_ n2_ n3_ n4_ n5_ n6_ n7_ n8_; (try clear hb); (try clear hkp); (try clear hy0); have hcz203_0 : w202.cell? ⟨gb253, 0, none⟩ = some (.int .i64 t248) := (blk_cell BK253.out 0).trans rfl; have hcz203_1 : w202.cell? ⟨gb253, 1, none⟩ = some (.slice Ao48 t249.length co48) := (blk_cell BK253.out 1).trans rfl; have hfz203_0 := blk_frozen BK253.out 0; have hfz203_1 := blk_frozen BK253.out 1) | ((with_reducible refine gate_callee (f := 30) rfl ?_); refine goesL_ (some 73) rfl rfl Try.func30 (by kernel_rfl) rfl #[.agg #[.int .i64 t248, .slice Ao48 t264.length co48], .int .i64 1] rfl (by (try simp only [List.map_toArray, List.map_cons, List.map_nil]); first | done | (rw [show t264.length = t249.length from (Kd.R_reads' HO_254001.out).1.symm] <;> rfl) | rfl | (simp only [List.length_drop, List.length_take]; rfl)) ?_; (with_reducible refine (laws_heldNet.calls kj76 t248 _ _ t264 1 t265 _ ?side1 ?side2 A113.out).mono ?_); (case side1 => repeat (first | exact (Kd.R_reads' HO_254001.out).2.2 | (with_reducible refine Kd.C_alloc ?_ _) | (with_reducible refine Kd.C_drewN ?_ _) | (with_reducible refine Kd.C_drew ?_))); (case side2 => rw [show t264.length = t249.length from (Kd.R_reads' HO_254001.out).1.symm]; exact (Kd.R_reads' HO_254001.out).2.1); rintro e w204 ⟨rfl, hb⟩; refine ⟨_, rfl, ?_⟩; have n0_ := Aside0.mk (Kd.R_below (upR HO_241001) hb); have n1_ := Aside0.mk (Kd.R_below (upR HO_246001) hb); have n2_ := Aside0.mk (Kd.R_below (upR HO_254001) hb); have n3_ := Aside0.mk (blk_below (upK BK226) hb); have n4_ := Aside0.mk (blk_below (upK BK227) hb); have n5_ := Aside0.mk (blk_below (upK BK240) hb); have n6_ := Aside0.mk (blk_below (upK BK245) hb); have n7_ := Aside0.mk (blk_below (upK BK253) hb); have n8_ := Aside0.mk (below_step (upW HB) hb); clear HO_241001; clear HO_246001; clear HO_254001; clear BK226; clear BK227; clear BK240; clear BK245; clear BK253; clear HB; have HO_241001 := n0_; have HO_246001 := n1_; have HO_254001 := n2_; have BK226 := n3_; have BK227 := n4_; have BK240 := n5_; have BK245 := n6_; have BK253 := n7_; have HB := n8_; clear n0_ n1_ n2_ n3_ n4_ n5_ n6_ n7_ n8_; (try clear hb); (try clear hb2); (try clear hk); (try clear hi)))
           go_ret
           exact ⟨by first | rfl | (simp [errW_none, errW_some] <;> rfl) | (simp [*, errW_none, errW_some] <;> rfl), by repeat (first | (with_reducible first | exact HB.out | apply below_alloc | apply pw_below_drewN | apply below_drew1 | refine below_set ?_ GE226.out | refine below_set ?_ GE227.out | refine below_set ?_ GE240.out | refine below_set ?_ GE245.out | refine below_set ?_ GE253.out) | exact HB.out)⟩
     ·replace c75 := Bool.eq_false_iff.mpr c75
      subst c75
      have H1 : (some false) = some r := by rw [if_neg (show ¬ (false = true) by decide)] at H; exact H
      clear H
      have H := H1
      clear H1
      obtain rfl := Option.some.inj H
      try go_wp2
      have n0_ := Aside0.mk (Kd.R_drew HO_241001.out)
      have n1_ := Aside0.mk (Kd.R_drew HO_246001.out)
      have n2_ := Aside0.mk (Kd.R_drew HO_254001.out)
      have n3_ := Aside0.mk (blk_drew BK226.out)
      have n4_ := Aside0.mk (blk_drew BK227.out)
      have n5_ := Aside0.mk (blk_drew BK240.out)
      have n6_ := Aside0.mk (blk_drew BK245.out)
      have n7_ := Aside0.mk (blk_drew BK253.out)
      have n8_ := Aside0.mk (below_drew1 HB.out)
      clear HO_241001
      clear HO_246001
      clear HO_254001
      clear BK226
      clear BK227
      clear BK240
      clear BK245
      clear BK253
      clear HB
      have HO_241001 := n0_
      have HO_246001 := n1_
      have HO_254001 := n2_
      have BK226 := n3_
      have BK227 := n4_
      have BK240 := n5_
      have BK245 := n6_
      have BK253 := n7_
      have HB := n8_
      clear n0_ n1_ n2_ n3_ n4_ n5_ n6_ n7_ n8_
      refine start_ (n := 5) (S := fun w' => w'.cell? ⟨gb245, 0, none⟩ = some (.int .i64 t241) ∧ w'.cell? ⟨gb245, 1, none⟩ = some (.slice Ao40 t242.length co40) ∧ w'.cell? ⟨gb226, 0, none⟩ = some (.int .i64 a0_0) ∧ w'.cell? ⟨gb226, 1, none⟩ = some (.slice A0_1 l0_1.length c0_1)) (ds := []) #[false, false, false, false, false] (by kernel_rfl) rfl rfl ⟨(blk_cell BK245.out 0).trans rfl, (blk_cell BK245.out 1).trans rfl, (blk_cell BK226.out 0).trans rfl, (blk_cell BK226.out 1).trans rfl⟩ (fun hHeld => ?_)
      generalize wc.drew = w205 at HO_241001 HO_246001 HO_254001 BK226 BK227 BK240 BK245 BK253 HB hHeld ⊢
      refine take_ (i := 0) (N := some 47) (v := ?_) (a' := ?_) #[true, false, false, false, false] rfl rfl (by kernel_rfl) (fun _ _ _ h => h) (Or.inl ⟨by rfl, ?_⟩) hHeld ?_ ?_
      rotate_left
      ·rintro w' ⟨s0, s1, s2, s3⟩
       go_simp
       with_reducible rfl
      rotate_left
      ·simp only [Act.put, List.setIfInBounds_toArray, List.set_cons_zero, List.set_cons_succ, i64_w, i32_w]
       rfl
      refine take_ (i := 1) (N := some 48) (v := ?_) (a' := ?_) #[true, true, false, false, false] rfl rfl (by kernel_rfl) (fun _ _ _ h => h) (Or.inl ⟨by rfl, ?_⟩) hHeld ?_ ?_
      rotate_left
      ·rintro w' ⟨s0, s1, s2, s3⟩
       go_simp
       with_reducible rfl
      rotate_left
      ·simp only [Act.put, List.setIfInBounds_toArray, List.set_cons_zero, List.set_cons_succ, i64_w, i32_w]
       rfl
      refine one_ (i := 2) (N := some 49) #[true, true, true, false, false] rfl rfl (by kernel_rfl) (by decide) (fun K hK => ?_)
      refine goes_ Try.func20 (by kernel_rfl) rfl #[.agg #[.int .i64 a0_0, .slice A0_1 l0_1.length c0_1]] (by rfl) rfl rfl itp ?_
      with_reducible refine (laws_toNet.calls kj15 a0_0 _ _ l0_1 t255 t256 _ ?side1 ?side2 A73.out).mono ?_
      (case side1 => repeat (first | exact (Kd.C_below HR0_1.out HB.out) | (with_reducible refine Kd.C_alloc ?_ _) | (with_reducible refine Kd.C_drewN ?_ _) | (with_reducible refine Kd.C_drew ?_)))
      (case side2 => exact HC0_1.out)
      rintro e w206 ⟨v257, rfl, ho0, hb⟩
      refine ⟨_, rfl, ?_⟩
      have n0_ := Aside0.mk (Kd.R_elder' (upR HO_241001) (Kd.R_base ho0) hb)
      have n1_ := Aside0.mk (Kd.R_elder' (upR HO_246001) (Kd.R_base ho0) hb)
      have n2_ := Aside0.mk (Kd.R_elder' (upR HO_254001) (Kd.R_base ho0) hb)
      have n3_ := Aside0.mk (Kd.R_lower (Kd.R_new' (Kd.R_new' (Kd.R_new' ho0 (Kd.R_lt (upR HO_241001))) (Kd.R_lt (upR HO_246001))) (Kd.R_lt (upR HO_254001))) (below_size (upW HB)))
      have n4_ := Aside0.mk (blk_below (upK BK226) hb)
      have n5_ := Aside0.mk (blk_below (upK BK227) hb)
      have n6_ := Aside0.mk (blk_below (upK BK240) hb)
      have n7_ := Aside0.mk (blk_below (upK BK245) hb)
      have n8_ := Aside0.mk (blk_below (upK BK253) hb)
      have n9_ := Aside0.mk (below_step (upW HB) hb)
      clear HO_241001
      clear HO_246001
      clear HO_254001
      clear BK226
      clear BK227
      clear BK240
      clear BK245
      clear BK253
      clear HB
      have HO_241001 := n0_
      have HO_246001 := n1_
      have HO_254001 := n2_
      have HO258 := n3_
      have BK226 := n4_
      have BK227 := n5_
      have BK240 := n6_
      have BK245 := n7_
      have BK253 := n8_
      have HB := n9_
      clear n0_ n1_ n2_ n3_ n4_ n5_ n6_ n7_ n8_ n9_
      (try clear hb)
      (try clear hb2)
      (try clear hk)
      (try clear hi)
      (try clear ho0)
      obtain ⟨Ao207, co207, eo207⟩ := Kd.R_slice HO258.out
      (first | subst eo207 | (injection eo207 with f1_ f2_ f3_; have f4_ := f1_.symm; have f5_ := f3_.symm; clear f1_ f2_ f3_; subst f4_; subst f5_))
      refine hK.out _ _ ⟨(blk_cell BK245.out 0).trans rfl, (blk_cell BK245.out 1).trans rfl, (blk_cell BK226.out 0).trans rfl, (blk_cell BK226.out 1).trans rfl⟩ (fun hHeld => ?_)
      clear hK K
      refine norm_ (a' := ?_) ?_ ?_
      rotate_left
      ·show Act.put _ (some 49) _ = _
       simp only [Act.put, List.setIfInBounds_toArray, List.set_cons_zero, List.set_cons_succ, i64_w, i32_w]
       rfl
      refine one_ (i := 3) (N := some 50) #[true, true, true, true, false] rfl rfl (by kernel_rfl) (by decide) (fun K hK => ?_)
      refine goes_ Try.func22 (by kernel_rfl) rfl #[.agg #[.int .i64 t241, .slice Ao40 t242.length co40], .agg #[.int .i64 t255, .slice Ao207 t256.length co207]] (by rfl) rfl rfl itp ?_
      with_reducible refine (laws_eqNet.calls kj15 t241 _ _ t242 t255 _ _ t256 false _ ?side1 ?side2 ?side3 ?side4 A74.out).mono ?_
      (case side1 => repeat (first | exact (Kd.R_reads' HO_246001.out).2.2 | (with_reducible refine Kd.C_alloc ?_ _) | (with_reducible refine Kd.C_drewN ?_ _) | (with_reducible refine Kd.C_drew ?_)))
      (case side2 => exact (Kd.R_reads' HO_246001.out).2.1)
      (case side3 => repeat (first | exact (Kd.R_reads' HO258.out).2.2 | (with_reducible refine Kd.C_alloc ?_ _) | (with_reducible refine Kd.C_drewN ?_ _) | (with_reducible refine Kd.C_drew ?_)))
      (case side4 => exact (Kd.R_reads' HO258.out).2.1)
      rintro e w208 ⟨rfl, hb⟩
      refine ⟨_, rfl, ?_⟩
      have n0_ := Aside0.mk (Kd.R_below (upR HO_241001) hb)
      have n1_ := Aside0.mk (Kd.R_below (upR HO_246001) hb)
      have n2_ := Aside0.mk (Kd.R_below (upR HO_254001) hb)
      have n3_ := Aside0.mk (Kd.R_below (upR HO258) hb)
      have n4_ := Aside0.mk (blk_below (upK BK226) hb)
      have n5_ := Aside0.mk (blk_below (upK BK227) hb)
      have n6_ := Aside0.mk (blk_below (upK BK240) hb)
      have n7_ := Aside0.mk (blk_below (upK BK245) hb)
      have n8_ := Aside0.mk (blk_below (upK BK253) hb)
      have n9_ := Aside0.mk (below_step (upW HB) hb)
      clear HO_241001
      clear HO_246001
      clear HO_254001
      clear HO258
      clear BK226
      clear BK227
      clear BK240
      clear BK245
      clear BK253
      clear HB
      have HO_241001 := n0_
      have HO_246001 := n1_
      have HO_254001 := n2_
      have HO258 := n3_
      have BK226 := n4_
      have BK227 := n5_
      have BK240 := n6_
      have BK245 := n7_
      have BK253 := n8_
      have HB := n9_
      clear n0_ n1_ n2_ n3_ n4_ n5_ n6_ n7_ n8_ n9_
      (try clear hb)
      (try clear hb2)
      (try clear hk)
      (try clear hi)
      refine hK.out _ _ ⟨(blk_cell BK245.out 0).trans rfl, (blk_cell BK245.out 1).trans rfl, (blk_cell BK226.out 0).trans rfl, (blk_cell BK226.out 1).trans rfl⟩ (fun hHeld => ?_)
      clear hK K
      refine norm_ (a' := ?_) ?_ ?_
      rotate_left
      ·show Act.put _ (some 50) _ = _
       simp only [Act.put, List.setIfInBounds_toArray, List.set_cons_zero, List.set_cons_succ, i64_w, i32_w]
       rfl
      refine pure_ (i := 4) (N := some 51) (v := ?_) (a' := ?_) #[true, true, true, true, true] rfl rfl (by kernel_rfl) (fun _ _ _ h => h) (Or.inl ⟨by rfl, ?_⟩) ?_ ?_
      rotate_left
      ·intro w'
       go_simp
       with_reducible rfl
      rotate_left
      ·simp only [Act.put, List.setIfInBounds_toArray, List.set_cons_zero, List.set_cons_succ, i64_w, i32_w]
       rfl
      refine done_ (by kernel_rfl) ?_
      try go_wp2
      go_ret
      exact ⟨by first | rfl | (simp [errW_none, errW_some] <;> rfl) | (simp [*, errW_none, errW_some] <;> rfl), by repeat (first | (with_reducible first | exact HB.out | apply below_alloc | apply pw_below_drewN | apply below_drew1 | refine below_set ?_ GE226.out | refine below_set ?_ GE227.out | refine below_set ?_ GE240.out | refine below_set ?_ GE245.out | refine below_set ?_ GE253.out) | exact HB.out)⟩

/-- THE ONE PURE STATEMENT of laws_FnExactAddWire. -/
def laws_FnExactAddWire.Pure : Prop := ∀ (a0_0 : Int) (l0_1 : List (S53)) (a1_0 : Int) (a1_1 : Int), (Lit.int .i64 a0_0).wf = true → l0_1.length ≤ maxLen → (∀ q ∈ l0_1, ((Lit.int .i64 q.f0).wf = true) ∧ ((Lit.int .i64 q.f1).wf = true)) → (Lit.int .i64 a1_0).wf = true → (Lit.int .i64 a1_1).wf = true → ∃ k, laws_FnExactAddWire.f k a0_0 l0_1 a1_0 a1_1 = some true
theorem laws_FnExactAddWire.walk (P : laws_FnExactAddWire.Pure) (a0_0 : Int) (A0_1 : Option Addr) (c0_1 : Nat) (l0_1 : List (S53)) (a1_0 : Int) (a1_1 : Int) (w : World) (hr0_1 : Kd.C k53 w A0_1 l0_1.length l0_1) (hc0_1 : l0_1.length ≤ c0_1) (w0_ : (Lit.int .i64 a0_0).wf = true) (w1_ : l0_1.length ≤ maxLen) (w2_ : (∀ q ∈ l0_1, ((Lit.int .i64 q.f0).wf = true) ∧ ((Lit.int .i64 q.f1).wf = true))) (w3_ : (Lit.int .i64 a1_0).wf = true) (w4_ : (Lit.int .i64 a1_1).wf = true) :
  Calls Try.prog 8 #[.agg #[.int .i64 a0_0, .slice A0_1 l0_1.length c0_1], .agg #[.int .i64 a1_0, .int .i64 a1_1]] w fun e w' => e = .returned (.bool true) ∧ Below w.heap.size w w' := by
 obtain ⟨k, h⟩ := P a0_0 l0_1 a1_0 a1_1 w0_ w1_ w2_ w3_ w4_
 refine (laws_FnExactAddWire.calls k a0_0 _ _ l0_1 a1_0 a1_1 true w hr0_1 hc0_1 h).mono ?_
 rintro e w' ⟨rfl, hd⟩
 exact ⟨rfl, hd⟩

end Go.Proofs.Ytconglobpdgjhaa.PFnExactAddWire
