-- made for this claim by a program of this session
import Derived.Test.YtnmaeekclpmmnaaPFnExactCutOfCodex0
namespace Go.Proofs.Ytnmaeekclpmmnaa.PFnExactCutOfCode
open Go.RowKit Go.Proofs.YtnmaeekclpmmnaaW.PrintWords Go.Proofs.YtnmaeekclpmmnaaW.PrintLast Go.Proofs.YtnmaeekclpmmnaaW.PrintMore
attribute [local go_sem] max2_int min2_int max_two min_two max_three min_three max_four min_four   -- for this text's walks alone
set_option linter.unusedVariables false
set_option linter.unusedSimpArgs false

/-! ### laws_szIntS: function 61 -/
def laws_szIntS.f (l0 : List Int) (a1 : Int) : Option (Int) := if (wrap64 (a1 - (l0.length : Int))) < 0 then (some (-1)) else (some (wrap64 (a1 - (l0.length : Int))))
set_option maxHeartbeats 8000000 in
set_option maxRecDepth 100000 in
theorem laws_szIntS.calls (A0 : Option Addr) (c0 : Nat) (l0 : List Int) (a1 : Int) (r : Int) (w : World) (hr0 : Kd.C (Kd.int .i64) w A0 l0.length l0) (hc0 : l0.length ≤ c0) (h : laws_szIntS.f l0 a1 = some r) :
  Calls Try.prog 61 #[.slice A0 l0.length c0, .int .i64 a1] w fun e w' => e = .returned (.int .i64 r) ∧ Drawn0 w w' := by
 have HR0 := Aside0.mk hr0;have HC0 := Aside0.mk hc0;clear hr0 hc0;have H : (if (wrap64 (a1 - (l0.length : Int))) < 0 then (some (-1)) else (some (wrap64 (a1 - (l0.length : Int))))) = some r := h;clear h;(by_cases c3 : (wrap64 (a1 - (l0.length : Int))) < 0)
 ·rw [if_pos c3] at H;have c3b0 := decide_eq_true c3;clear c3;obtain rfl := Option.some.inj H;go_enter Try.func61, Try.ntmps61;go_wp2;go_ret;exact ⟨eqw, dz⟩
 ·rw [if_neg c3] at H;have c3b0 := decide_eq_false c3;clear c3;obtain rfl := Option.some.inj H;go_enter Try.func61, Try.ntmps61;go_wp2;go_ret;exact ⟨eqw, dz⟩

/-! ### laws_szIntSS: function 6 -/
def laws_szIntSS.l0 : Nat → List (List Int) → Int → Int → Option (Int)
 | 0, _, _, _ => none
 | k + 1, x0, x1, x5 => if x5 < (x0.length : Int) then (if 0 ≤ x5 then ((laws_szIntS.f (rd_L1 x0 x5) x1).bind fun t102 => (if t102 < 0 then (some (-1)) else (laws_szIntSS.l0 k x0 t102 (wrap64 (x5 + 1))))) else (none)) else (some x1)
def laws_szIntSS.f (k : Nat) (l0 : List (List Int)) (a1 : Int) : Option (Int) := if (wrap64 (a1 - (l0.length : Int))) < 0 then (some (-1)) else (laws_szIntSS.l0 k l0 (wrap64 (a1 - (l0.length : Int))) 0)
set_option maxHeartbeats 8000000 in
set_option maxRecDepth 100000 in
theorem laws_szIntSS.calls (k : Nat) (A0 : Option Addr) (c0 : Nat) (l0 : List (List Int)) (a1 : Int) (r : Int) (w : World) (hr0 : Kd.C (Kd.slice 3 (Kd.int .i64)) w A0 l0.length l0) (hc0 : l0.length ≤ c0) (h : laws_szIntSS.f k l0 a1 = some r) :
  Calls Try.prog 6 #[.slice A0 l0.length c0, .int .i64 a1] w fun e w' => e = .returned (.int .i64 r) ∧ Drawn0 w w' := by
 have HR0 := Aside0.mk hr0;have HC0 := Aside0.mk hc0;clear hr0 hc0;have H : (if (wrap64 (a1 - (l0.length : Int))) < 0 then (some (-1)) else (laws_szIntSS.l0 k l0 (wrap64 (a1 - (l0.length : Int))) 0)) = some r := h;clear h;(by_cases c3 : (wrap64 (a1 - (l0.length : Int))) < 0)
 ·rw [if_pos c3] at H;have c3b0 := decide_eq_true c3;clear c3;obtain rfl := Option.some.inj H;go_enter Try.func6, Try.ntmps6;go_wp2;go_ret;exact ⟨eqw, dz⟩
 ·rw [if_neg c3] at H;have c3b0 := decide_eq_false c3;clear c3;have H' := Aside0.mk H;clear H;go_enter Try.func6, Try.ntmps6;go_wp2;(go_loopg [1, 5] k (fun kq v1 v5 w' => ∃ (x1_1 : Int) (x5_1 : Int), v1 = .int .i64 x1_1 ∧ v5 = .int .i64 x5_1 ∧ Aside0 (laws_szIntSS.l0 kq l0 x1_1 x5_1 = some r) ∧ Aside0 (kq ≤ k) ∧ Drawn0 w w'));(case atStart => exact ⟨(wrap64 (a1 - (l0.length : Int))), (0), (eqw), (eqw), H', ⟨Nat.le_refl _⟩, dz⟩)
  case round =>
   clear H';(try clear c3b0);obtain ⟨x1_1, x5_1, rfl, rfl, HA, HK1, ⟨m1, rfl⟩⟩ := hrel
   cases gk with
   | zero => exact absurd HA.out (by simp [laws_szIntSS.l0])
   | succ k1 =>
    have H := HA.out;clear HA;simp only [laws_szIntSS.l0] at H;(by_cases c4 : x5_1 < (l0.length : Int))
    ·rw [if_pos c4] at H;have c4b0 := decide_eq_true c4;clear c4;(by_cases c5 : 0 ≤ x5_1)
     ·rw [if_pos c5] at H;have c5b0 := decide_eq_true c5;clear c5;replace H := Option.bind_eq_some_iff.mp H;obtain ⟨t102, A60, H⟩ := H;replace H : (if t102 < 0 then (some (-1)) else (laws_szIntSS.l0 k1 l0 t102 (wrap64 (x5_1 + 1)))) = some r := H;have A6 := Aside0.mk A60;clear A60;(by_cases c7 : t102 < 0)
      ·rw [if_pos c7] at H;have c7b0 := decide_eq_true c7;clear c7;obtain rfl := Option.some.inj H;have p101 : 0 ≤ (x5_1 : Int) := oda;have q101 : x5_1 < (l0.length : Int) := oda;obtain ⟨ad101, A101_0, c101_0, e101, hx101_0, hl101_0, hi101_0⟩ := at_L1 HR0.out x5_1 p101 q101;cases e101;have HR101_0 := Aside0.mk hi101_0;have HC101_0 := Aside0.mk hl101_0;clear hi101_0 hl101_0;replace p101 := eq_true p101;replace q101 := eq_true q101;(go_wp2_with (first | ((with_reducible refine gate_callee (f := 61) rfl ?_); refine goesL_ (some 23) rfl rfl Try.func61 (by kernel_rfl) rfl #[.slice A101_0 (rd_L1 l0 x5_1).length c101_0, .int .i64 x1_1] rfl itp ?_; (with_reducible refine (laws_szIntS.calls _ _ (rd_L1 l0 x5_1) x1_1 t102 _ ?side1 ?side2 A6.out).mono ?_); (case side1 => exact upC HR101_0.out); (case side2 => exact HC101_0.out); rintro e w' ⟨rfl, ⟨nd, rfl⟩⟩; refine ⟨_, rfl, ?_⟩)));go_ret;exact ⟨eqw, dz⟩
      ·rw [if_neg c7] at H;have c7b0 := decide_eq_false c7;clear c7;have H' := Aside0.mk H;clear H;have p101 : 0 ≤ (x5_1 : Int) := oda;have q101 : x5_1 < (l0.length : Int) := oda;obtain ⟨ad101, A101_0, c101_0, e101, hx101_0, hl101_0, hi101_0⟩ := at_L1 HR0.out x5_1 p101 q101;cases e101;have HR101_0 := Aside0.mk hi101_0;have HC101_0 := Aside0.mk hl101_0;clear hi101_0 hl101_0;replace p101 := eq_true p101;replace q101 := eq_true q101;(go_wp2_with (first | ((with_reducible refine gate_callee (f := 61) rfl ?_); refine goesL_ (some 23) rfl rfl Try.func61 (by kernel_rfl) rfl #[.slice A101_0 (rd_L1 l0 x5_1).length c101_0, .int .i64 x1_1] rfl itp ?_; (with_reducible refine (laws_szIntS.calls _ _ (rd_L1 l0 x5_1) x1_1 t102 _ ?side1 ?side2 A6.out).mono ?_); (case side1 => exact upC HR101_0.out); (case side2 => exact HC101_0.out); rintro e w' ⟨rfl, ⟨nd, rfl⟩⟩; refine ⟨_, rfl, ?_⟩)));go_roundg k1;(case measure => have := HK1.out; omega);(case rel => exact ⟨(t102), (wrap64 (x5_1 + 1)), (eqw), (eqw), H', ⟨by have := HK1.out; omega⟩, dz⟩)
     ·rw [if_neg c5] at H;exact absurd H (by simp)
    ·rw [if_neg c4] at H;have c4b0 := decide_eq_false c4;clear c4;obtain rfl := Option.some.inj H;go_wp2;go_ret;exact ⟨eqw, dz⟩

/-! ### spec_l1In: function 118 -/
def spec_l1In.f (a0 : Int) (a1 : Int) (a2 : Int) : Option (Bool) := if a0 ≥ a1 then (some (decide (a0 ≤ a2))) else (some false)
set_option maxHeartbeats 8000000 in
set_option maxRecDepth 100000 in
theorem spec_l1In.calls (a0 : Int) (a1 : Int) (a2 : Int) (r : Bool) (w : World) (h : spec_l1In.f a0 a1 a2 = some r) :
  Calls Try.prog 118 #[.int .i64 a0, .int .i64 a1, .int .i64 a2] w fun e w' => e = .returned (.bool r) ∧ Drawn0 w w' := by
 have H : (if a0 ≥ a1 then (some (decide (a0 ≤ a2))) else (some false)) = some r := h;clear h;(by_cases c4 : a0 ≥ a1)
 ·rw [if_pos c4] at H;have c4b0 := decide_eq_true c4;clear c4;obtain rfl := Option.some.inj H;go_enter Try.func118, Try.ntmps118;go_wp2;go_ret;exact ⟨eqw, dz⟩
 ·rw [if_neg c4] at H;have c4b0 := decide_eq_false c4;clear c4;obtain rfl := Option.some.inj H;go_enter Try.func118, Try.ntmps118;go_wp2;go_ret;exact ⟨eqw, dz⟩

/-! ### spec_l1All: function 120 -/
def spec_l1All.l0 : Nat → Int → Int → List Int → Int → Int → Option (Bool)
 | 0, _, _, _, _, _ => none
 | k + 1, x1, x2, x9, x10, x11 => if x11 < x10 then (if 0 ≤ x11 then (if x11 < (x9.length : Int) then ((spec_l1In.f (rd x9 x11) x1 x2).bind fun t104 => (if t104 = true then (spec_l1All.l0 k x1 x2 x9 x10 (wrap64 (x11 + 1))) else (some false))) else (none)) else (none)) else (some true)
def spec_l1All.f (k : Nat) (l0 : List Int) (a1 : Int) (a2 : Int) : Option (Bool) := spec_l1All.l0 k a1 a2 l0 (l0.length : Int) 0
set_option maxHeartbeats 8000000 in
set_option maxRecDepth 100000 in
theorem spec_l1All.calls (k : Nat) (A0 : Option Addr) (c0 : Nat) (l0 : List Int) (a1 : Int) (a2 : Int) (r : Bool) (w : World) (hr0 : Kd.C (Kd.int .i64) w A0 l0.length l0) (hc0 : l0.length ≤ c0) (h : spec_l1All.f k l0 a1 a2 = some r) :
  Calls Try.prog 120 #[.slice A0 l0.length c0, .int .i64 a1, .int .i64 a2] w fun e w' => e = .returned (.bool r) ∧ Drawn0 w w' := by
 have HR0 := Aside0.mk hr0;have HC0 := Aside0.mk hc0;clear hr0 hc0;have H : (spec_l1All.l0 k a1 a2 l0 (l0.length : Int) 0) = some r := h;clear h;have H' := Aside0.mk H;clear H;go_enter Try.func120, Try.ntmps120;go_wp2;(go_loopg [11] k (fun kq v11 w' => ∃ (x11_1 : Int), v11 = .int .i64 x11_1 ∧ Aside0 (spec_l1All.l0 kq a1 a2 l0 (l0.length : Int) x11_1 = some r) ∧ Aside0 (kq ≤ k) ∧ Drawn0 w w'));(case atStart => exact ⟨(0), (eqw), H', ⟨Nat.le_refl _⟩, dz⟩)
 case round =>
  clear H';obtain ⟨x11_1, rfl, HA, HK1, ⟨m1, rfl⟩⟩ := hrel
  cases gk with
  | zero => exact absurd HA.out (by simp [spec_l1All.l0])
  | succ k1 =>
   have H := HA.out;clear HA;simp only [spec_l1All.l0] at H;(by_cases c4 : x11_1 < (l0.length : Int))
   ·rw [if_pos c4] at H;have c4b0 := decide_eq_true c4;clear c4;(by_cases c5 : 0 ≤ x11_1)
    ·rw [if_pos c5] at H;have c5b0 := decide_eq_true c5;clear c5;(by_cases c6 : x11_1 < (l0.length : Int))
     ·rw [if_pos c6] at H;have c6b0 := decide_eq_true c6;clear c6;replace H := Option.bind_eq_some_iff.mp H;obtain ⟨t104, A70, H⟩ := H;replace H : (if t104 = true then (spec_l1All.l0 k1 a1 a2 l0 (l0.length : Int) (wrap64 (x11_1 + 1))) else (some false)) = some r := H;have A7 := Aside0.mk A70;clear A70;(by_cases c8 : t104 = true)
      ·subst c8;(have H1 : (spec_l1All.l0 k1 a1 a2 l0 (l0.length : Int) (wrap64 (x11_1 + 1))) = some r := by rw [if_pos rfl] at H; exact H);clear H;have H := H1;clear H1;have H' := Aside0.mk H;clear H;have p103 : 0 ≤ (x11_1 : Int) := oda;have q103 : x11_1 < (l0.length : Int) := oda;obtain ⟨ad103, e103, hx103_0⟩ := Kd.at_int HR0.out x11_1 p103 q103;cases e103;replace p103 := eq_true p103;replace q103 := eq_true q103;(go_wp2_with (first | ((with_reducible refine gate_callee (f := 118) rfl ?_); refine goesL_ (some 18) rfl rfl Try.func118 (by kernel_rfl) rfl #[.int .i64 (rd l0 x11_1), .int .i64 a1, .int .i64 a2] rfl itp ?_; (with_reducible refine (spec_l1In.calls (rd l0 x11_1) a1 a2 true _ A7.out).mono ?_); rintro e w' ⟨rfl, ⟨nd, rfl⟩⟩; refine ⟨_, rfl, ?_⟩)));go_roundg k1;(case measure => have := HK1.out; omega);(case rel => exact ⟨(wrap64 (x11_1 + 1)), (eqw), H', ⟨by have := HK1.out; omega⟩, dz⟩)
      ·replace c8 := Bool.eq_false_iff.mpr c8;subst c8;(have H1 : (some false) = some r := by rw [if_neg (show ¬ (false = true) by decide)] at H; exact H);clear H;have H := H1;clear H1;obtain rfl := Option.some.inj H;have p103 : 0 ≤ (x11_1 : Int) := oda;have q103 : x11_1 < (l0.length : Int) := oda;obtain ⟨ad103, e103, hx103_0⟩ := Kd.at_int HR0.out x11_1 p103 q103;cases e103;replace p103 := eq_true p103;replace q103 := eq_true q103;(go_wp2_with (first | ((with_reducible refine gate_callee (f := 118) rfl ?_); refine goesL_ (some 18) rfl rfl Try.func118 (by kernel_rfl) rfl #[.int .i64 (rd l0 x11_1), .int .i64 a1, .int .i64 a2] rfl itp ?_; (with_reducible refine (spec_l1In.calls (rd l0 x11_1) a1 a2 false _ A7.out).mono ?_); rintro e w' ⟨rfl, ⟨nd, rfl⟩⟩; refine ⟨_, rfl, ?_⟩)));go_ret;exact ⟨eqw, dz⟩
     ·rw [if_neg c6] at H;exact absurd H (by simp)
    ·rw [if_neg c5] at H;exact absurd H (by simp)
   ·rw [if_neg c4] at H;have c4b0 := decide_eq_false c4;clear c4;obtain rfl := Option.some.inj H;go_wp2;go_ret;exact ⟨eqw, dz⟩

/-! ### spec_cuLess: function 142 -/
def spec_cuLess.f (a0_0 : Int) (a0_1 : Int) (a0_2 : Int) (a1_0 : Int) (a1_1 : Int) (a1_2 : Int) : Option (Bool) := if a0_1 < a1_1 then (some true) else (if a0_1 = a1_1 then (some (decide (a0_0 < a1_0))) else (some false))
set_option maxHeartbeats 8000000 in
set_option maxRecDepth 100000 in
theorem spec_cuLess.calls (a0_0 : Int) (a0_1 : Int) (a0_2 : Int) (a1_0 : Int) (a1_1 : Int) (a1_2 : Int) (r : Bool) (w : World) (h : spec_cuLess.f a0_0 a0_1 a0_2 a1_0 a1_1 a1_2 = some r) :
  Calls Try.prog 142 #[.agg #[.int .i64 a0_0, .int .i64 a0_1, .int .i64 a0_2], .agg #[.int .i64 a1_0, .int .i64 a1_1, .int .i64 a1_2]] w fun e w' => e = .returned (.bool r) ∧ Below w.heap.size w w' := by
 have hu61 := Try.underlying61;have HB := Aside0.mk (Below.refl w.heap.size w);have H : (if a0_1 < a1_1 then (some true) else (if a0_1 = a1_1 then (some (decide (a0_0 < a1_0))) else (some false))) = some r := h;clear h;(by_cases c3 : a0_1 < a1_1)
 ·rw [if_pos c3] at H;have c3b0 := decide_eq_true c3;clear c3;obtain rfl := Option.some.inj H;go_enter Try.func142, Try.ntmps142;(go_wp2_with (first | ((with_reducible refine gate_dst (N := 2) rfl ?_); refine boxE 2 (#[.int .i64 a0_0, .int .i64 a0_1, .int .i64 a0_2]) 61 ?_; intro gb105 hg w4 hbox hb; have BK105 := Aside0.mk (hbox);have GW105 := Aside0.mk (gz hg HB);have GE105 := Aside0.mk (gz hg HB);replace HB := Aside0.mk (below_step (upW HB) hb); clear hb hbox hg) | ((with_reducible refine gate_dst (N := 3) rfl ?_); refine boxE 3 (#[.int .i64 a1_0, .int .i64 a1_1, .int .i64 a1_2]) 61 ?_; intro gb106 hg w5 hbox hb; have BK106 := Aside0.mk (hbox);have GW106 := Aside0.mk (gz hg HB);have GE106 := Aside0.mk (gz hg HB);replace HB := Aside0.mk (below_step (upW HB) hb);have NB105_106 := Aside0.mk (gn hg BK105);have NB106_105 := Aside0.mk ((by rw [hg]; exact Nat.ne_of_gt (blk_lt (upK BK105)) : gb106 ≠ gb105));replace BK105 := Aside0.mk (blk_below (upK BK105) hb); clear hb hbox hg; have hnb6 := NB105_106.out; have hnc6 := NB106_105.out; obtain ⟨hcz7_0, hcz7_1, hcz7_2, hfz7_0, hfz7_1, hfz7_2⟩ := cz3 BK105 (.int .i64 a0_0) (.int .i64 a0_1) (.int .i64 a0_2); obtain ⟨hcz8_0, hcz8_1, hcz8_2, hfz8_0, hfz8_1, hfz8_2⟩ := cz3 BK106 (.int .i64 a1_0) (.int .i64 a1_1) (.int .i64 a1_2))));go_ret;exact ⟨eqv, upW HB⟩
 ·rw [if_neg c3] at H;have c3b0 := decide_eq_false c3;clear c3;(by_cases c9 : a0_1 = a1_1)
  ·rw [if_pos c9] at H;have c9b0 : (a0_1 == a1_1) = true := beq_iff_eq.mpr c9;have c9b1 : (a0_1 != a1_1) = false := bne_eq_false_iff_eq.mpr c9;clear c9;obtain rfl := Option.some.inj H;go_enter Try.func142, Try.ntmps142;(go_wp2_with (first | ((with_reducible refine gate_dst (N := 2) rfl ?_); refine boxE 2 (#[.int .i64 a0_0, .int .i64 a0_1, .int .i64 a0_2]) 61 ?_; intro gb105 hg w10 hbox hb; have BK105 := Aside0.mk (hbox);have GW105 := Aside0.mk (gz hg HB);have GE105 := Aside0.mk (gz hg HB);replace HB := Aside0.mk (below_step (upW HB) hb); clear hb hbox hg) | ((with_reducible refine gate_dst (N := 3) rfl ?_); refine boxE 3 (#[.int .i64 a1_0, .int .i64 a1_1, .int .i64 a1_2]) 61 ?_; intro gb106 hg w11 hbox hb; have BK106 := Aside0.mk (hbox);have GW106 := Aside0.mk (gz hg HB);have GE106 := Aside0.mk (gz hg HB);replace HB := Aside0.mk (below_step (upW HB) hb);have NB105_106 := Aside0.mk (gn hg BK105);have NB106_105 := Aside0.mk ((by rw [hg]; exact Nat.ne_of_gt (blk_lt (upK BK105)) : gb106 ≠ gb105));replace BK105 := Aside0.mk (blk_below (upK BK105) hb); clear hb hbox hg; have hnb12 := NB105_106.out; have hnc12 := NB106_105.out; obtain ⟨hcz13_0, hcz13_1, hcz13_2, hfz13_0, hfz13_1, hfz13_2⟩ := cz3 BK105 (.int .i64 a0_0) (.int .i64 a0_1) (.int .i64 a0_2); obtain ⟨hcz14_0, hcz14_1, hcz14_2, hfz14_0, hfz14_1, hfz14_2⟩ := cz3 BK106 (.int .i64 a1_0) (.int .i64 a1_1) (.int .i64 a1_2))));go_ret;exact ⟨eqv, upW HB⟩
  ·rw [if_neg c9] at H;have c9b0 : (a0_1 == a1_1) = false := beq_eq_false_iff_ne.mpr c9;have c9b1 : (a0_1 != a1_1) = true := bne_iff_ne.mpr c9;obtain rfl := Option.some.inj H;go_enter Try.func142, Try.ntmps142;(go_wp2_with (first | ((with_reducible refine gate_dst (N := 2) rfl ?_); refine boxE 2 (#[.int .i64 a0_0, .int .i64 a0_1, .int .i64 a0_2]) 61 ?_; intro gb105 hg w15 hbox hb; have BK105 := Aside0.mk (hbox);have GW105 := Aside0.mk (gz hg HB);have GE105 := Aside0.mk (gz hg HB);replace HB := Aside0.mk (below_step (upW HB) hb); clear hb hbox hg) | ((with_reducible refine gate_dst (N := 3) rfl ?_); refine boxE 3 (#[.int .i64 a1_0, .int .i64 a1_1, .int .i64 a1_2]) 61 ?_; intro gb106 hg w16 hbox hb; have BK106 := Aside0.mk (hbox);have GW106 := Aside0.mk (gz hg HB);have GE106 := Aside0.mk (gz hg HB);replace HB := Aside0.mk (below_step (upW HB) hb);have NB105_106 := Aside0.mk (gn hg BK105);have NB106_105 := Aside0.mk ((by rw [hg]; exact Nat.ne_of_gt (blk_lt (upK BK105)) : gb106 ≠ gb105));replace BK105 := Aside0.mk (blk_below (upK BK105) hb); clear hb hbox hg; have hnb17 := NB105_106.out; have hnc17 := NB106_105.out; obtain ⟨hcz18_0, hcz18_1, hcz18_2, hfz18_0, hfz18_1, hfz18_2⟩ := cz3 BK105 (.int .i64 a0_0) (.int .i64 a0_1) (.int .i64 a0_2); obtain ⟨hcz19_0, hcz19_1, hcz19_2, hfz19_0, hfz19_1, hfz19_2⟩ := cz3 BK106 (.int .i64 a1_0) (.int .i64 a1_1) (.int .i64 a1_2))));go_ret;exact ⟨eqv, upW HB⟩

end Go.Proofs.Ytnmaeekclpmmnaa.PFnExactCutOfCode
