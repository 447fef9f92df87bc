-- made for this claim by a program of this session
import Derived.Test.YtocblinaclehdaaPFnExactWidthOfCodex0
import Derived.Test.YtocblinaclehdaaPFnExactWidthOfCodex5
namespace Go.Proofs.Ytocblinaclehdaa.PFnExactWidthOfCode
open Go.RowKit Go.Proofs.YtocblinaclehdaaW.PrintWords Go.Proofs.YtocblinaclehdaaW.PrintLast Go.Proofs.YtocblinaclehdaaW.PrintMore
attribute [local go_sem] max2_int min2_int max_two min_two max_three min_three max_four min_four   -- for this text's walks alone
set_option linter.unusedVariables false
set_option linter.unusedSimpArgs false

/-! ### slices_Min_int_int: function 121 -/
def slices_Min_int_int.l0 : Nat → List Int → Int → Int → Option (Int)
 | 0, _, _, _ => none
 | k + 1, x0, x3, x4 => if x4 < (x0.length : Int) then (if 0 ≤ x4 then (slices_Min_int_int.l0 k x0 (mn x3 (rd x0 x4)) (wrap64 (x4 + 1))) else (none)) else (some x3)
def slices_Min_int_int.f (k : Nat) (l0 : List Int) : Option (Int) := if (l0.length : Int) < 1 then (none) else (if 0 < (l0.length : Int) then (slices_Min_int_int.l0 k l0 (rd l0 0) 1) else (none))
set_option maxHeartbeats 8000000 in
set_option maxRecDepth 100000 in
theorem slices_Min_int_int.calls (k : Nat) (A0 : Option Addr) (c0 : Nat) (l0 : List Int) (r : Int) (w : World) (hr0 : Kd.C (Kd.int .i64) w A0 l0.length l0) (hc0 : l0.length ≤ c0) (h : slices_Min_int_int.f k l0 = some r) :
  Calls Try.prog 121 #[.slice A0 l0.length c0] w fun e w' => e = .returned (.int .i64 r) ∧ Below w.heap.size w w' := by
 have HR0 := Aside0.mk hr0;have HC0 := Aside0.mk hc0;clear hr0 hc0;have HB := Aside0.mk (Below.refl w.heap.size w);have H : (if (l0.length : Int) < 1 then (none) else (if 0 < (l0.length : Int) then (slices_Min_int_int.l0 k l0 (rd l0 0) 1) else (none))) = some r := h;clear h;(by_cases c2 : (l0.length : Int) < 1)
 ·rw [if_pos c2] at H;exact absurd H (by simp)
 ·rw [if_neg c2] at H;have c2b0 := decide_eq_false c2;have c2b1 : decide (l0.length < 1) = false := decide_eq_false (by omega);clear c2;(by_cases c3 : 0 < (l0.length : Int))
  ·rw [if_pos c3] at H;have c3b0 := decide_eq_true c3;have c3b1 : decide (0 < l0.length) = true := decide_eq_true (by omega);clear c3;have H' := Aside0.mk H;clear H;have p238 : 0 ≤ (0 : Int) := (by omega);have q238 : 0 < (l0.length : Int) := oda;obtain ⟨ad238, e238, hx238_0⟩ := Kd.at_int HR0.out 0 p238 q238;cases e238;have qi238 : (0 < l0.length) = True := eq_true (by omega);(try rw [show ((0 : Int)).toNat = 0 from rfl] at hx238_0);(try rw [Addr.add_zero'] at hx238_0);replace p238 := eq_true p238;replace q238 := eq_true q238;go_enter Try.func121, Try.ntmps121;go_wp2;(go_loopg [3, 4] k (fun kq v3 v4 w' => ∃ (x3_1 : Int) (x4_1 : Int), v3 = .int .i64 x3_1 ∧ v4 = .int .i64 x4_1 ∧ Aside0 (slices_Min_int_int.l0 kq l0 x3_1 x4_1 = some r) ∧ Aside0 (kq ≤ k) ∧ Aside0 (Below w.heap.size w w')));(case atStart => exact ⟨(rd l0 0), (1), (eqw), (eqw), H', ⟨Nat.le_refl _⟩, ⟨upW HB⟩⟩)
   case round =>
    clear H';(try clear c2b0 c2b1 c3b0 c3b1 hx238_0 p238 q238);obtain ⟨x3_1, x4_1, rfl, rfl, HA, HK1, HB⟩ := hrel
    cases gk with
    | zero => exact absurd HA.out (by simp [slices_Min_int_int.l0])
    | succ k1 =>
     have H := HA.out;clear HA;simp only [slices_Min_int_int.l0] at H;(by_cases c4 : x4_1 < (l0.length : Int))
     ·rw [if_pos c4] at H;have c4b0 := decide_eq_true c4;clear c4;(by_cases c5 : 0 ≤ x4_1)
      ·rw [if_pos c5] at H;have c5b0 := decide_eq_true c5;clear c5;obtain ⟨ji6, hji6⟩ : ∃ j_ : Int, (mn x3_1 (rd l0 x4_1)) = j_ := ⟨_, rfl⟩;(replace H : (slices_Min_int_int.l0 k1 l0 ji6 (wrap64 (x4_1 + 1))) = some r := by first | (rw [hji6] at H; exact H) | (simp only [hji6] at H ⊢; exact H));have hji6_ : (if (rd l0 x4_1) < x3_1 then (rd l0 x4_1) else x3_1) = ji6 := hji6;have H' := Aside0.mk H;clear H;have p239 : 0 ≤ (x4_1 : Int) := oda;have q239 : x4_1 < (l0.length : Int) := oda;obtain ⟨ad239, e239, hx239_0⟩ := Kd.at_int HR0.out x4_1 p239 q239;obtain rfl : ad238 = ad239 := (by injection e239);replace hx239_0 := cb HB hx239_0;replace p239 := eq_true p239;replace q239 := eq_true q239;go_wp2;go_roundg k1;(case measure => have := HK1.out; omega);(case rel => exact ⟨(ji6), (wrap64 (x4_1 + 1)), (by first | rfl | (simp; done) | (simp only [← hji6] <;> (first | rfl | simp)) | (simp [*]; done)), (eqw), H', ⟨by have := HK1.out; omega⟩, ⟨upW HB⟩⟩)
      ·rw [if_neg c5] at H;exact absurd H (by simp)
     ·rw [if_neg c4] at H;have c4b0 := decide_eq_false c4;clear c4;obtain rfl := Option.some.inj H;go_wp2;go_ret;exact ⟨eqv, upW HB⟩
  ·rw [if_neg c3] at H;exact absurd H (by simp)

/-! ### slices_Index_int_int: function 122 -/
def slices_Index_int_int.l0 : Nat → List Int → Int → Int → Int → Option (Int)
 | 0, _, _, _, _ => none
 | k + 1, x0, x1, x7, x8 => if x8 < x7 then (if 0 ≤ x8 then (if x8 < (x0.length : Int) then (if x1 = (rd x0 x8) then (some x8) else (slices_Index_int_int.l0 k x0 x1 x7 (wrap64 (x8 + 1)))) else (none)) else (none)) else (some (-1))
def slices_Index_int_int.f (k : Nat) (l0 : List Int) (a1 : Int) : Option (Int) := slices_Index_int_int.l0 k l0 a1 (l0.length : Int) 0
set_option maxHeartbeats 8000000 in
set_option maxRecDepth 100000 in
theorem slices_Index_int_int.calls (k : Nat) (A0 : Option Addr) (c0 : Nat) (l0 : List Int) (a1 : Int) (r : Int) (w : World) (hr0 : Kd.C (Kd.int .i64) w A0 l0.length l0) (hc0 : l0.length ≤ c0) (h : slices_Index_int_int.f k l0 a1 = some r) :
  Calls Try.prog 122 #[.slice A0 l0.length c0, .int .i64 a1] w fun e w' => e = .returned (.int .i64 r) ∧ Drawn0 w w' := by
 have HR0 := Aside0.mk hr0;have HC0 := Aside0.mk hc0;clear hr0 hc0;have H : (slices_Index_int_int.l0 k l0 a1 (l0.length : Int) 0) = some r := h;clear h;have H' := Aside0.mk H;clear H;go_enter Try.func122, Try.ntmps122;go_wp2;(go_loopg [8] k (fun kq v8 w' => ∃ (x8_1 : Int), v8 = .int .i64 x8_1 ∧ Aside0 (slices_Index_int_int.l0 kq l0 a1 (l0.length : Int) x8_1 = some r) ∧ Aside0 (kq ≤ k) ∧ Drawn0 w w'));(case atStart => exact ⟨(0), (eqw), H', ⟨Nat.le_refl _⟩, dz⟩)
 case round =>
  clear H';obtain ⟨x8_1, rfl, HA, HK1, ⟨m1, rfl⟩⟩ := hrel
  cases gk with
  | zero => exact absurd HA.out (by simp [slices_Index_int_int.l0])
  | succ k1 =>
   have H := HA.out;clear HA;simp only [slices_Index_int_int.l0] at H;(by_cases c3 : x8_1 < (l0.length : Int))
   ·rw [if_pos c3] at H;have c3b0 := decide_eq_true c3;clear c3;(by_cases c4 : 0 ≤ x8_1)
    ·rw [if_pos c4] at H;have c4b0 := decide_eq_true c4;clear c4;(by_cases c5 : x8_1 < (l0.length : Int))
     ·rw [if_pos c5] at H;have c5b0 := decide_eq_true c5;clear c5;(by_cases c6 : a1 = (rd l0 x8_1))
      ·rw [if_pos c6] at H;have c6b0 : (a1 == (rd l0 x8_1)) = true := beq_iff_eq.mpr c6;have c6b1 : (a1 != (rd l0 x8_1)) = false := bne_eq_false_iff_eq.mpr c6;clear c6;obtain rfl := Option.some.inj H;have p240 : 0 ≤ (x8_1 : Int) := oda;have q240 : x8_1 < (l0.length : Int) := oda;obtain ⟨ad240, e240, hx240_0⟩ := Kd.at_int HR0.out x8_1 p240 q240;cases e240;replace p240 := eq_true p240;replace q240 := eq_true q240;go_wp2;go_ret;exact ⟨eqw, dz⟩
      ·rw [if_neg c6] at H;have c6b0 : (a1 == (rd l0 x8_1)) = false := beq_eq_false_iff_ne.mpr c6;have c6b1 : (a1 != (rd l0 x8_1)) = true := bne_iff_ne.mpr c6;have H' := Aside0.mk H;clear H;have p240 : 0 ≤ (x8_1 : Int) := oda;have q240 : x8_1 < (l0.length : Int) := oda;obtain ⟨ad240, e240, hx240_0⟩ := Kd.at_int HR0.out x8_1 p240 q240;cases e240;replace p240 := eq_true p240;replace q240 := eq_true q240;go_wp2;go_roundg k1;(case measure => have := HK1.out; omega);(case rel => exact ⟨(wrap64 (x8_1 + 1)), (eqw), H', ⟨by have := HK1.out; omega⟩, dz⟩)
     ·rw [if_neg c5] at H;exact absurd H (by simp)
    ·rw [if_neg c4] at H;exact absurd H (by simp)
   ·rw [if_neg c3] at H;have c3b0 := decide_eq_false c3;clear c3;obtain rfl := Option.some.inj H;go_wp2;go_ret;exact ⟨eqw, dz⟩

/-! ### slices_Max_int_int: function 123 -/
def slices_Max_int_int.l0 : Nat → List Int → Int → Int → Option (Int)
 | 0, _, _, _ => none
 | k + 1, x0, x3, x4 => if x4 < (x0.length : Int) then (if 0 ≤ x4 then (slices_Max_int_int.l0 k x0 (mx x3 (rd x0 x4)) (wrap64 (x4 + 1))) else (none)) else (some x3)
def slices_Max_int_int.f (k : Nat) (l0 : List Int) : Option (Int) := if (l0.length : Int) < 1 then (none) else (if 0 < (l0.length : Int) then (slices_Max_int_int.l0 k l0 (rd l0 0) 1) else (none))
set_option maxHeartbeats 8000000 in
set_option maxRecDepth 100000 in
theorem slices_Max_int_int.calls (k : Nat) (A0 : Option Addr) (c0 : Nat) (l0 : List Int) (r : Int) (w : World) (hr0 : Kd.C (Kd.int .i64) w A0 l0.length l0) (hc0 : l0.length ≤ c0) (h : slices_Max_int_int.f k l0 = some r) :
  Calls Try.prog 123 #[.slice A0 l0.length c0] w fun e w' => e = .returned (.int .i64 r) ∧ Below w.heap.size w w' := by
 have HR0 := Aside0.mk hr0;have HC0 := Aside0.mk hc0;clear hr0 hc0;have HB := Aside0.mk (Below.refl w.heap.size w);have H : (if (l0.length : Int) < 1 then (none) else (if 0 < (l0.length : Int) then (slices_Max_int_int.l0 k l0 (rd l0 0) 1) else (none))) = some r := h;clear h;(by_cases c2 : (l0.length : Int) < 1)
 ·rw [if_pos c2] at H;exact absurd H (by simp)
 ·rw [if_neg c2] at H;have c2b0 := decide_eq_false c2;have c2b1 : decide (l0.length < 1) = false := decide_eq_false (by omega);clear c2;(by_cases c3 : 0 < (l0.length : Int))
  ·rw [if_pos c3] at H;have c3b0 := decide_eq_true c3;have c3b1 : decide (0 < l0.length) = true := decide_eq_true (by omega);clear c3;have H' := Aside0.mk H;clear H;have p241 : 0 ≤ (0 : Int) := (by omega);have q241 : 0 < (l0.length : Int) := oda;obtain ⟨ad241, e241, hx241_0⟩ := Kd.at_int HR0.out 0 p241 q241;cases e241;have qi241 : (0 < l0.length) = True := eq_true (by omega);(try rw [show ((0 : Int)).toNat = 0 from rfl] at hx241_0);(try rw [Addr.add_zero'] at hx241_0);replace p241 := eq_true p241;replace q241 := eq_true q241;go_enter Try.func123, Try.ntmps123;go_wp2;(go_loopg [3, 4] k (fun kq v3 v4 w' => ∃ (x3_1 : Int) (x4_1 : Int), v3 = .int .i64 x3_1 ∧ v4 = .int .i64 x4_1 ∧ Aside0 (slices_Max_int_int.l0 kq l0 x3_1 x4_1 = some r) ∧ Aside0 (kq ≤ k) ∧ Aside0 (Below w.heap.size w w')));(case atStart => exact ⟨(rd l0 0), (1), (eqw), (eqw), H', ⟨Nat.le_refl _⟩, ⟨upW HB⟩⟩)
   case round =>
    clear H';(try clear c2b0 c2b1 c3b0 c3b1 hx241_0 p241 q241);obtain ⟨x3_1, x4_1, rfl, rfl, HA, HK1, HB⟩ := hrel
    cases gk with
    | zero => exact absurd HA.out (by simp [slices_Max_int_int.l0])
    | succ k1 =>
     have H := HA.out;clear HA;simp only [slices_Max_int_int.l0] at H;(by_cases c4 : x4_1 < (l0.length : Int))
     ·rw [if_pos c4] at H;have c4b0 := decide_eq_true c4;clear c4;(by_cases c5 : 0 ≤ x4_1)
      ·rw [if_pos c5] at H;have c5b0 := decide_eq_true c5;clear c5;obtain ⟨ji6, hji6⟩ : ∃ j_ : Int, (mx x3_1 (rd l0 x4_1)) = j_ := ⟨_, rfl⟩;(replace H : (slices_Max_int_int.l0 k1 l0 ji6 (wrap64 (x4_1 + 1))) = some r := by first | (rw [hji6] at H; exact H) | (simp only [hji6] at H ⊢; exact H));have hji6_ : (if x3_1 < (rd l0 x4_1) then (rd l0 x4_1) else x3_1) = ji6 := hji6;have H' := Aside0.mk H;clear H;have p242 : 0 ≤ (x4_1 : Int) := oda;have q242 : x4_1 < (l0.length : Int) := oda;obtain ⟨ad242, e242, hx242_0⟩ := Kd.at_int HR0.out x4_1 p242 q242;obtain rfl : ad241 = ad242 := (by injection e242);replace hx242_0 := cb HB hx242_0;replace p242 := eq_true p242;replace q242 := eq_true q242;go_wp2;go_roundg k1;(case measure => have := HK1.out; omega);(case rel => exact ⟨(ji6), (wrap64 (x4_1 + 1)), (by first | rfl | (simp; done) | (simp only [← hji6] <;> (first | rfl | simp)) | (simp [*]; done)), (eqw), H', ⟨by have := HK1.out; omega⟩, ⟨upW HB⟩⟩)
      ·rw [if_neg c5] at H;exact absurd H (by simp)
     ·rw [if_neg c4] at H;have c4b0 := decide_eq_false c4;clear c4;obtain rfl := Option.some.inj H;go_wp2;go_ret;exact ⟨eqv, upW HB⟩
  ·rw [if_neg c3] at H;exact absurd H (by simp)

/-! ### impl_comparePlaces: function 96 -/
def impl_comparePlaces.f (a0_0 : Int) (a0_1 : Int) (a0_2 : Int) (a1_0 : Int) (a1_1 : Int) (a1_2 : Int) : Option (Int) := if a0_1 = a1_1 then (some (wrap64 (a0_0 - a1_0))) else (some (wrap64 (a0_1 - a1_1)))
set_option maxHeartbeats 8000000 in
set_option maxRecDepth 100000 in
theorem impl_comparePlaces.calls (a0_0 : Int) (a0_1 : Int) (a0_2 : Int) (a1_0 : Int) (a1_1 : Int) (a1_2 : Int) (r : Int) (w : World) (h : impl_comparePlaces.f a0_0 a0_1 a0_2 a1_0 a1_1 a1_2 = some r) :
  Calls Try.prog 96 #[.agg #[.int .i64 a0_0, .int .i64 a0_1, .int .i64 a0_2], .agg #[.int .i64 a1_0, .int .i64 a1_1, .int .i64 a1_2]] w fun e w' => e = .returned (.int .i64 r) ∧ Below w.heap.size w w' := by
 have hu59 := Try.underlying59;have HB := Aside0.mk (Below.refl w.heap.size w);have H : (if a0_1 = a1_1 then (some (wrap64 (a0_0 - a1_0))) else (some (wrap64 (a0_1 - a1_1)))) = some r := h;clear h;(by_cases c3 : a0_1 = a1_1)
 ·rw [if_pos c3] at H;have c3b0 : (a0_1 == a1_1) = true := beq_iff_eq.mpr c3;have c3b1 : (a0_1 != a1_1) = false := bne_eq_false_iff_eq.mpr c3;clear c3;obtain rfl := Option.some.inj H;go_enter Try.func96, Try.ntmps96;(go_wp2_with (first | ((with_reducible refine gate_dst (N := 2) rfl ?_); refine boxE 2 (#[.int .i64 a0_0, .int .i64 a0_1, .int .i64 a0_2]) 59 ?_; intro gb243 hg w4 hbox hb; have BK243 := Aside0.mk (hbox);have GW243 := Aside0.mk (gz hg HB);have GE243 := Aside0.mk (gz hg HB);replace HB := Aside0.mk (below_step (upW HB) hb); clear hb hbox hg) | ((with_reducible refine gate_dst (N := 3) rfl ?_); refine boxE 3 (#[.int .i64 a1_0, .int .i64 a1_1, .int .i64 a1_2]) 59 ?_; intro gb244 hg w5 hbox hb; have BK244 := Aside0.mk (hbox);have GW244 := Aside0.mk (gz hg HB);have GE244 := Aside0.mk (gz hg HB);replace HB := Aside0.mk (below_step (upW HB) hb);have NB243_244 := Aside0.mk (gn hg BK243);have NB244_243 := Aside0.mk ((by rw [hg]; exact Nat.ne_of_gt (blk_lt (upK BK243)) : gb244 ≠ gb243));replace BK243 := Aside0.mk (blk_below (upK BK243) hb); clear hb hbox hg; have hnb6 := NB243_244.out; have hnc6 := NB244_243.out; obtain ⟨hcz7_0, hcz7_1, hcz7_2, hfz7_0, hfz7_1, hfz7_2⟩ := cz3 BK243 (.int .i64 a0_0) (.int .i64 a0_1) (.int .i64 a0_2); obtain ⟨hcz8_0, hcz8_1, hcz8_2, hfz8_0, hfz8_1, hfz8_2⟩ := cz3 BK244 (.int .i64 a1_0) (.int .i64 a1_1) (.int .i64 a1_2))));go_ret;exact ⟨eqv, upW HB⟩
 ·rw [if_neg c3] at H;have c3b0 : (a0_1 == a1_1) = false := beq_eq_false_iff_ne.mpr c3;have c3b1 : (a0_1 != a1_1) = true := bne_iff_ne.mpr c3;obtain rfl := Option.some.inj H;go_enter Try.func96, Try.ntmps96;(go_wp2_with (first | ((with_reducible refine gate_dst (N := 2) rfl ?_); refine boxE 2 (#[.int .i64 a0_0, .int .i64 a0_1, .int .i64 a0_2]) 59 ?_; intro gb243 hg w9 hbox hb; have BK243 := Aside0.mk (hbox);have GW243 := Aside0.mk (gz hg HB);have GE243 := Aside0.mk (gz hg HB);replace HB := Aside0.mk (below_step (upW HB) hb); clear hb hbox hg) | ((with_reducible refine gate_dst (N := 3) rfl ?_); refine boxE 3 (#[.int .i64 a1_0, .int .i64 a1_1, .int .i64 a1_2]) 59 ?_; intro gb244 hg w10 hbox hb; have BK244 := Aside0.mk (hbox);have GW244 := Aside0.mk (gz hg HB);have GE244 := Aside0.mk (gz hg HB);replace HB := Aside0.mk (below_step (upW HB) hb);have NB243_244 := Aside0.mk (gn hg BK243);have NB244_243 := Aside0.mk ((by rw [hg]; exact Nat.ne_of_gt (blk_lt (upK BK243)) : gb244 ≠ gb243));replace BK243 := Aside0.mk (blk_below (upK BK243) hb); clear hb hbox hg; have hnb11 := NB243_244.out; have hnc11 := NB244_243.out; obtain ⟨hcz12_0, hcz12_1, hcz12_2, hfz12_0, hfz12_1, hfz12_2⟩ := cz3 BK243 (.int .i64 a0_0) (.int .i64 a0_1) (.int .i64 a0_2); obtain ⟨hcz13_0, hcz13_1, hcz13_2, hfz13_0, hfz13_1, hfz13_2⟩ := cz3 BK244 (.int .i64 a1_0) (.int .i64 a1_1) (.int .i64 a1_2))));go_ret;exact ⟨eqv, upW HB⟩

/-! ### impl_Square_128: function 128 -/
set_option maxHeartbeats 8000000 in
theorem impl_Square_128.with (p : S59 → Bool) (fv : Nat) (lb : Array Value) (A : Option Addr) (c : Nat) (l : List S59) (w : World) (hr : Kd.C k59 w A l.length l)
  (eg : ∀ args w, (callFunc fv args).run Try.prog w = .ok (.enter fv args) w)
  (hp : ∀ (W : World) (t : S59), t ∈ l → Below w.heap.size w W → Calls Try.prog fv (#[.agg #[.int .i64 t.f0, .int .i64 t.f1, .int .i64 t.f2]] ++ lb) W fun e w' => e = .returned (.bool (p t)) ∧ Below w.heap.size w w') :
  Calls Try.prog 128 #[.slice A l.length c, .func (.func fv) #[] lb] w fun e w' => e = .returned (.int .i64 (pidx p l)) ∧ Below w.heap.size w w' := by
 have hu59 := Try.underlying59;have hbig : l.length ≤ 9223372036854775807 := hr.2.1;have HP := Lib.hid hp;clear hp;go_enter Try.func128, Try.ntmps128;go_wp2;(go_loopg [5, 8] l.length (fun gg _ s8 wr => ∃ kk : Nat, kk ≤ l.length ∧ l.length - kk ≤ gg ∧ s8 = .int .i64 kk ∧ Aside (Below w.heap.size w wr) ∧ Aside (∀ j, j < kk → ∀ b, l[j]? = some b → p b = false)));(case atStart => exact ⟨0, Nat.zero_le _, by omega, rfl, Below.refl _ w, fun j hj => absurd hj (Nat.not_lt_zero _)⟩)
 case round =>
  obtain ⟨kk, hkk, hg, rfl, BW, HA⟩ := hrel;(by_cases hlt : kk < l.length)
  ·(have hltz : (kk : Int) < (l.length : Int) := by omega);obtain ⟨ad, rfl, hx0, hx1, hx2⟩ := at_T59 hr (kk : Int) (by omega) hltz;replace hx0 := (BW.out.cell (World.block_lt_of_cell? w _ hx0)).trans hx0;replace hx1 := (BW.out.cell (World.block_lt_of_cell? w _ hx1)).trans hx1;replace hx2 := (BW.out.cell (World.block_lt_of_cell? w _ hx2)).trans hx2;(have hm : rd_T59 l kk ∈ l := by unfold rd_T59; simp [List.getD, hlt]);(have he : l[kk]? = some (rd_T59 l kk) := by unfold rd_T59; simp [List.getD, hlt]);have hcall := HP.out wr (rd_T59 l kk) hm BW.out;generalize hy : rd_T59 l kk = y at hx0 hx1 hx2 hcall he;have HE := Lib.hid he;clear hy hm he;simp only [Int.toNat_natCast] at hx0 hx1 hx2
   cases hq : p y with
   | true =>
    rw [hq] at hcall;(have HQ := Lib.hid hq; clear hq);(go_wp2_with (go_at_fn fv; refine hcall.mono ?_; rintro e w' ⟨rfl, hb'⟩));go_ret;refine ⟨?_, hb'⟩;(rw [pidx_hit p l kk y HE.out HQ.out HA.out]; rfl)
   | false =>
    rw [hq] at hcall;(have HQ := Lib.hid hq; clear hq);(go_wp2_with (go_at_fn fv; refine hcall.mono ?_; rintro e w' ⟨rfl, hb'⟩));go_roundg (l.length - (kk + 1));(case measure => omega)
    case rel =>
     refine ⟨kk + 1, by omega, by omega, by go_num, hb', (show Aside _ from fun j hj b hb => ?_)⟩;(by_cases e : j = kk)
     ·subst e;(rw [HE.out] at hb; obtain rfl := Option.some.inj hb; exact HQ.out)
     ·exact HA.out j (by omega) b hb
  ·(have hltz : ¬ (kk : Int) < (l.length : Int) := by omega);(have : kk = l.length := by omega);subst this;go_wp2;go_ret;refine ⟨?_, BW.out⟩;(rw [pidx_miss p l HA.out]; rfl)

/-! ### impl_Square_97: function 97 -/
set_option maxHeartbeats 8000000 in
theorem impl_Square_97.with (p : S59 → Bool) (fv : Nat) (lb : Array Value) (A : Option Addr) (c : Nat) (l : List S59) (w : World) (hr : Kd.C k59 w A l.length l)
  (eg : ∀ args w, (callFunc fv args).run Try.prog w = .ok (.enter fv args) w)
  (hp : ∀ (W : World) (t : S59), t ∈ l → Below w.heap.size w W → Calls Try.prog fv (#[.agg #[.int .i64 t.f0, .int .i64 t.f1, .int .i64 t.f2]] ++ lb) W fun e w' => e = .returned (.bool (p t)) ∧ Below w.heap.size w w') :
  Calls Try.prog 97 #[.slice A l.length c, .func (.func fv) #[] lb] w fun e w' => e = .returned (.bool (l.any p)) ∧ Below w.heap.size w w' := by
 have HP := Lib.hid hp;clear hp;have e0 : decide (0 ≤ pidx p l) = l.any p := pidx_any p l;generalize l.any p = b at e0 ⊢;have HE := Lib.hid e0;clear e0;go_enter Try.func97, Try.ntmps97;(go_wp2_with (go_at_call 128; refine (impl_Square_128.with p fv lb A c l _ hr eg HP.out).mono ?_; rintro e w' ⟨rfl, hb'⟩));go_ret;exact ⟨by rw [← HE.out]; rfl, hb'⟩

/-! ### impl_overlap: function 99 -/
def impl_overlap.f (a0_0 : Int) (a0_1 : Int) (a0_2 : Int) (a1_0 : Int) (a1_1 : Int) (a1_2 : Int) : Option (Bool) := if a0_0 < (wrap64 (a1_0 + a1_2)) then (if a1_0 < (wrap64 (a0_0 + a0_2)) then (if a0_1 < (wrap64 (a1_1 + a1_2)) then (some (decide (a1_1 < (wrap64 (a0_1 + a0_2))))) else (some false)) else (some false)) else (some false)
set_option maxHeartbeats 8000000 in
set_option maxRecDepth 100000 in
theorem impl_overlap.calls (a0_0 : Int) (a0_1 : Int) (a0_2 : Int) (a1_0 : Int) (a1_1 : Int) (a1_2 : Int) (r : Bool) (w : World) (h : impl_overlap.f a0_0 a0_1 a0_2 a1_0 a1_1 a1_2 = some r) :
  Calls Try.prog 99 #[.agg #[.int .i64 a0_0, .int .i64 a0_1, .int .i64 a0_2], .agg #[.int .i64 a1_0, .int .i64 a1_1, .int .i64 a1_2]] w fun e w' => e = .returned (.bool r) ∧ Below w.heap.size w w' := by
 have hu59 := Try.underlying59;have HB := Aside0.mk (Below.refl w.heap.size w);have H : (if a0_0 < (wrap64 (a1_0 + a1_2)) then (if a1_0 < (wrap64 (a0_0 + a0_2)) then (if a0_1 < (wrap64 (a1_1 + a1_2)) then (some (decide (a1_1 < (wrap64 (a0_1 + a0_2))))) else (some false)) else (some false)) else (some false)) = some r := h;clear h;(by_cases c3 : a0_0 < (wrap64 (a1_0 + a1_2)))
 ·rw [if_pos c3] at H;have c3b0 := decide_eq_true c3;clear c3;(by_cases c4 : a1_0 < (wrap64 (a0_0 + a0_2)))
  ·rw [if_pos c4] at H;have c4b0 := decide_eq_true c4;clear c4;(by_cases c5 : a0_1 < (wrap64 (a1_1 + a1_2)))
   ·rw [if_pos c5] at H;have c5b0 := decide_eq_true c5;clear c5;obtain rfl := Option.some.inj H;go_enter Try.func99, Try.ntmps99;(go_wp2_with (first | ((with_reducible refine gate_dst (N := 2) rfl ?_); refine boxE 2 (#[.int .i64 a0_0, .int .i64 a0_1, .int .i64 a0_2]) 59 ?_; intro gb245 hg w6 hbox hb; have BK245 := Aside0.mk (hbox);have GW245 := Aside0.mk (gz hg HB);have GE245 := Aside0.mk (gz hg HB);replace HB := Aside0.mk (below_step (upW HB) hb); clear hb hbox hg) | ((with_reducible refine gate_dst (N := 3) rfl ?_); refine boxE 3 (#[.int .i64 a1_0, .int .i64 a1_1, .int .i64 a1_2]) 59 ?_; intro gb246 hg w7 hbox hb; have BK246 := Aside0.mk (hbox);have GW246 := Aside0.mk (gz hg HB);have GE246 := Aside0.mk (gz hg HB);replace HB := Aside0.mk (below_step (upW HB) hb);have NB245_246 := Aside0.mk (gn hg BK245);have NB246_245 := Aside0.mk ((by rw [hg]; exact Nat.ne_of_gt (blk_lt (upK BK245)) : gb246 ≠ gb245));replace BK245 := Aside0.mk (blk_below (upK BK245) hb); clear hb hbox hg; have hnb8 := NB245_246.out; have hnc8 := NB246_245.out; obtain ⟨hcz9_0, hcz9_1, hcz9_2, hfz9_0, hfz9_1, hfz9_2⟩ := cz3 BK245 (.int .i64 a0_0) (.int .i64 a0_1) (.int .i64 a0_2); obtain ⟨hcz10_0, hcz10_1, hcz10_2, hfz10_0, hfz10_1, hfz10_2⟩ := cz3 BK246 (.int .i64 a1_0) (.int .i64 a1_1) (.int .i64 a1_2))));go_ret;exact ⟨eqv, upW HB⟩
   ·rw [if_neg c5] at H;have c5b0 := decide_eq_false c5;clear c5;obtain rfl := Option.some.inj H;go_enter Try.func99, Try.ntmps99;(go_wp2_with (first | ((with_reducible refine gate_dst (N := 2) rfl ?_); refine boxE 2 (#[.int .i64 a0_0, .int .i64 a0_1, .int .i64 a0_2]) 59 ?_; intro gb245 hg w11 hbox hb; have BK245 := Aside0.mk (hbox);have GW245 := Aside0.mk (gz hg HB);have GE245 := Aside0.mk (gz hg HB);replace HB := Aside0.mk (below_step (upW HB) hb); clear hb hbox hg) | ((with_reducible refine gate_dst (N := 3) rfl ?_); refine boxE 3 (#[.int .i64 a1_0, .int .i64 a1_1, .int .i64 a1_2]) 59 ?_; intro gb246 hg w12 hbox hb; have BK246 := Aside0.mk (hbox);have GW246 := Aside0.mk (gz hg HB);have GE246 := Aside0.mk (gz hg HB);replace HB := Aside0.mk (below_step (upW HB) hb);have NB245_246 := Aside0.mk (gn hg BK245);have NB246_245 := Aside0.mk ((by rw [hg]; exact Nat.ne_of_gt (blk_lt (upK BK245)) : gb246 ≠ gb245));replace BK245 := Aside0.mk (blk_below (upK BK245) hb); clear hb hbox hg; have hnb13 := NB245_246.out; have hnc13 := NB246_245.out; obtain ⟨hcz14_0, hcz14_1, hcz14_2, hfz14_0, hfz14_1, hfz14_2⟩ := cz3 BK245 (.int .i64 a0_0) (.int .i64 a0_1) (.int .i64 a0_2); obtain ⟨hcz15_0, hcz15_1, hcz15_2, hfz15_0, hfz15_1, hfz15_2⟩ := cz3 BK246 (.int .i64 a1_0) (.int .i64 a1_1) (.int .i64 a1_2))));go_ret;exact ⟨eqv, upW HB⟩
  ·rw [if_neg c4] at H;have c4b0 := decide_eq_false c4;clear c4;obtain rfl := Option.some.inj H;go_enter Try.func99, Try.ntmps99;(go_wp2_with (first | ((with_reducible refine gate_dst (N := 2) rfl ?_); refine boxE 2 (#[.int .i64 a0_0, .int .i64 a0_1, .int .i64 a0_2]) 59 ?_; intro gb245 hg w16 hbox hb; have BK245 := Aside0.mk (hbox);have GW245 := Aside0.mk (gz hg HB);have GE245 := Aside0.mk (gz hg HB);replace HB := Aside0.mk (below_step (upW HB) hb); clear hb hbox hg) | ((with_reducible refine gate_dst (N := 3) rfl ?_); refine boxE 3 (#[.int .i64 a1_0, .int .i64 a1_1, .int .i64 a1_2]) 59 ?_; intro gb246 hg w17 hbox hb; have BK246 := Aside0.mk (hbox);have GW246 := Aside0.mk (gz hg HB);have GE246 := Aside0.mk (gz hg HB);replace HB := Aside0.mk (below_step (upW HB) hb);have NB245_246 := Aside0.mk (gn hg BK245);have NB246_245 := Aside0.mk ((by rw [hg]; exact Nat.ne_of_gt (blk_lt (upK BK245)) : gb246 ≠ gb245));replace BK245 := Aside0.mk (blk_below (upK BK245) hb); clear hb hbox hg; have hnb18 := NB245_246.out; have hnc18 := NB246_245.out; obtain ⟨hcz19_0, hcz19_1, hcz19_2, hfz19_0, hfz19_1, hfz19_2⟩ := cz3 BK245 (.int .i64 a0_0) (.int .i64 a0_1) (.int .i64 a0_2); obtain ⟨hcz20_0, hcz20_1, hcz20_2, hfz20_0, hfz20_1, hfz20_2⟩ := cz3 BK246 (.int .i64 a1_0) (.int .i64 a1_1) (.int .i64 a1_2))));go_ret;exact ⟨eqv, upW HB⟩
 ·rw [if_neg c3] at H;have c3b0 := decide_eq_false c3;clear c3;obtain rfl := Option.some.inj H;go_enter Try.func99, Try.ntmps99;(go_wp2_with (first | ((with_reducible refine gate_dst (N := 2) rfl ?_); refine boxE 2 (#[.int .i64 a0_0, .int .i64 a0_1, .int .i64 a0_2]) 59 ?_; intro gb245 hg w21 hbox hb; have BK245 := Aside0.mk (hbox);have GW245 := Aside0.mk (gz hg HB);have GE245 := Aside0.mk (gz hg HB);replace HB := Aside0.mk (below_step (upW HB) hb); clear hb hbox hg) | ((with_reducible refine gate_dst (N := 3) rfl ?_); refine boxE 3 (#[.int .i64 a1_0, .int .i64 a1_1, .int .i64 a1_2]) 59 ?_; intro gb246 hg w22 hbox hb; have BK246 := Aside0.mk (hbox);have GW246 := Aside0.mk (gz hg HB);have GE246 := Aside0.mk (gz hg HB);replace HB := Aside0.mk (below_step (upW HB) hb);have NB245_246 := Aside0.mk (gn hg BK245);have NB246_245 := Aside0.mk ((by rw [hg]; exact Nat.ne_of_gt (blk_lt (upK BK245)) : gb246 ≠ gb245));replace BK245 := Aside0.mk (blk_below (upK BK245) hb); clear hb hbox hg; have hnb23 := NB245_246.out; have hnc23 := NB246_245.out; obtain ⟨hcz24_0, hcz24_1, hcz24_2, hfz24_0, hfz24_1, hfz24_2⟩ := cz3 BK245 (.int .i64 a0_0) (.int .i64 a0_1) (.int .i64 a0_2); obtain ⟨hcz25_0, hcz25_1, hcz25_2, hfz25_0, hfz25_1, hfz25_2⟩ := cz3 BK246 (.int .i64 a1_0) (.int .i64 a1_1) (.int .i64 a1_2))));go_ret;exact ⟨eqv, upW HB⟩

/-! ### impl_IsCut_1: function 98 -/
set_option maxHeartbeats 8000000 in
theorem impl_IsCut_1.calls (x y s a0_0 a0_1 a0_2 : Int) (g : Nat) (r : Bool) (w : World) (hg : w.heap[g]? = some (.cells #[.int .i64 x, .int .i64 y, .int .i64 s] 59 (0, 0))) (h : impl_overlap.f x y s a0_0 a0_1 a0_2 = some r) :
  Calls Try.prog 98 #[.agg #[.int .i64 a0_0, .int .i64 a0_1, .int .i64 a0_2], .pointer (some ⟨g, 0, none⟩)] w fun e w' => e = .returned (.bool r) ∧ Below w.heap.size w w' := by
 have hu59 := Try.underlying59;have h0 : w.cell? ⟨g, 0, none⟩ = some (.int .i64 x) := (blk_cell hg 0).trans rfl;have h1 : w.cell? ⟨g, 1, none⟩ = some (.int .i64 y) := (blk_cell hg 1).trans rfl;have h2 : w.cell? ⟨g, 2, none⟩ = some (.int .i64 s) := (blk_cell hg 2).trans rfl;have hlt : g < w.heap.size := blk_lt hg;have HG := Aside0.mk hg;have HH := Aside0.mk h;clear hg h;go_enter Try.func98, Try.ntmps98;(go_wp2_with (go_at_call 99; (with_reducible refine (impl_overlap.calls x y s a0_0 a0_1 a0_2 r _ HH.out).mono ?_); rintro e w' ⟨rfl, hb⟩));go_ret;exact ⟨rfl, below_step (below_alloc (Below.refl _ _) _) hb⟩


/-! ### slices_ContainsFunc_impl_Square_impl_Square__impl_IsCut_1: the pair slices.ContainsFunc[[]loop.example/g01296/impl.Square,loop.example/g01296/impl.Square] -/
def slices_ContainsFunc_impl_Square_impl_Square__impl_IsCut_1.f (l : List S59) (x y s : Int) : Option Bool := some (l.any fun t => (impl_overlap.f x y s t.f0 t.f1 t.f2).getD false)
theorem slices_ContainsFunc_impl_Square_impl_Square__impl_IsCut_1.some_ (x y s a b c : Int) : impl_overlap.f x y s a b c = some ((impl_overlap.f x y s a b c).getD false) := by
 unfold impl_overlap.f;(split)
 ·(split)
  ·(split)
   ·rfl
   ·rfl
  ·rfl
 ·rfl
theorem slices_ContainsFunc_impl_Square_impl_Square__impl_IsCut_1.calls (A0 : Option Addr) (c0 : Nat) (l0 : List S59) (g1 : Nat) (x y s : Int) (r : Bool) (w : World) (hr0 : Kd.C k59 w A0 l0.length l0) (hc0 : l0.length ≤ c0)
  (hg1 : w.heap[g1]? = some (.cells #[.int .i64 x, .int .i64 y, .int .i64 s] 59 (0, 0))) (h : slices_ContainsFunc_impl_Square_impl_Square__impl_IsCut_1.f l0 x y s = some r) :
  Calls Try.prog 97 #[.slice A0 l0.length c0, .func (.func 98) #[] #[.pointer (some ⟨g1, 0, none⟩)]] w fun e w' => e = .returned (.bool r) ∧ Below w.heap.size w w' := by
 obtain rfl := Option.some.inj h;(refine impl_Square_97.with _ 98 _ A0 c0 l0 w hr0 (fun args w => enters_ Try.func98 (by kernel_rfl) rfl args w) fun W t _ hb => ?_);(exact (impl_IsCut_1.calls x y s t.f0 t.f1 t.f2 g1 _ W (blk_below hg1 hb) (slices_ContainsFunc_impl_Square_impl_Square__impl_IsCut_1.some_ ..)).mono fun e w' ⟨he, hb'⟩ => ⟨he, below_step hb hb'⟩)

end Go.Proofs.Ytocblinaclehdaa.PFnExactWidthOfCode
