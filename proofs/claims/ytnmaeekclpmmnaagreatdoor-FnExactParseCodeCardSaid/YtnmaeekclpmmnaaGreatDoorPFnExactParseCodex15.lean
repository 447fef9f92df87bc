-- made for this claim by a program of this session
import Derived.Test.YtnmaeekclpmmnaaGreatDoorPFnExactParseCodex0
import Derived.Test.YtnmaeekclpmmnaaGreatDoorPFnExactParseCodex5
import Derived.Test.YtnmaeekclpmmnaaGreatDoorPFnExactParseCodex6
import Derived.Test.YtnmaeekclpmmnaaGreatDoorPFnExactParseCodex7
import Derived.Test.YtnmaeekclpmmnaaGreatDoorPFnExactParseCodex14
namespace Go.Proofs.YtnmaeekclpmmnaaGreatDoor.PFnExactParseCode
open Go.RowKit Go.Proofs.YtnmaeekclpmmnaaGreatDoorW.PrintWords Go.Proofs.YtnmaeekclpmmnaaGreatDoorW.PrintLast Go.Proofs.YtnmaeekclpmmnaaGreatDoorW.PrintMore
attribute [local go_sem] max2_int min2_int max_two min_two max_three min_three max_four min_four   -- for this text's walks alone
set_option linter.unusedVariables false
set_option linter.unusedSimpArgs false

/-! ### slices_Equal_int_int: function 206 -/
def slices_Equal_int_int.l0 : Nat → List Int → List Int → Int → Int → Option (Bool)
 | 0, _, _, _, _ => none
 | k + 1, x0, x1, x12, x13 => if x13 < x12 then (if 0 ≤ x13 then (if x13 < (x0.length : Int) then (if x13 < (x1.length : Int) then (if (rd x0 x13) = (rd x1 x13) then (slices_Equal_int_int.l0 k x0 x1 x12 (wrap64 (x13 + 1))) else (some false)) else (none)) else (none)) else (none)) else (some true)
def slices_Equal_int_int.f (k : Nat) (l0 : List Int) (l1 : List Int) : Option (Bool) := if (l0.length : Int) = (l1.length : Int) then (slices_Equal_int_int.l0 k l0 l1 (l0.length : Int) 0) else (some false)
set_option maxHeartbeats 8000000 in
set_option maxRecDepth 100000 in
theorem slices_Equal_int_int.calls (k : Nat) (A0 : Option Addr) (c0 : Nat) (l0 : List Int) (A1 : Option Addr) (c1 : Nat) (l1 : List Int) (r : Bool) (w : World) (hr0 : Kd.C (Kd.int .i64) w A0 l0.length l0) (hc0 : l0.length ≤ c0) (hr1 : Kd.C (Kd.int .i64) w A1 l1.length l1) (hc1 : l1.length ≤ c1) (h : slices_Equal_int_int.f k l0 l1 = some r) :
  Calls Tryz.prog 206 #[.slice A0 l0.length c0, .slice A1 l1.length c1] w fun e w' => e = .returned (.bool r) ∧ Drawn0 w w' := by
 have HR0 := Aside0.mk hr0;have HC0 := Aside0.mk hc0;clear hr0 hc0;have HR1 := Aside0.mk hr1;have HC1 := Aside0.mk hc1;clear hr1 hc1;have H : (if (l0.length : Int) = (l1.length : Int) then (slices_Equal_int_int.l0 k l0 l1 (l0.length : Int) 0) else (some false)) = some r := h;clear h;(by_cases c3 : (l0.length : Int) = (l1.length : Int))
 ·rw [if_pos c3] at H;have c3b0 : ((l0.length : Int) == (l1.length : Int)) = true := beq_iff_eq.mpr c3;have c3b1 : ((l0.length : Int) != (l1.length : Int)) = false := bne_eq_false_iff_eq.mpr c3;(have c3b2 : (l0.length == l1.length) = true := by first | simpa using c3 | (simp at c3 ⊢; omega));clear c3;have H' := Aside0.mk H;clear H;go_enter Tryz.func206, Tryz.ntmps206;go_wp2;(repeat (go_quiet (fail); try go_wp2));(go_loopg [13] k (fun kq v13 w' => ∃ (x13_1 : Int), v13 = .int .i64 x13_1 ∧ Aside0 (slices_Equal_int_int.l0 kq l0 l1 (l0.length : Int) x13_1 = some r) ∧ Aside0 (kq ≤ k) ∧ Drawn0 w w'));(case atStart => exact ⟨(0), (eqw), H', ⟨Nat.le_refl _⟩, dz⟩)
  case round =>
   clear H';(try clear c3b0 c3b1 c3b2);obtain ⟨x13_1, rfl, HA, HK1, ⟨m1, rfl⟩⟩ := hrel
   cases gk with
   | zero => exact absurd HA.out (by simp [slices_Equal_int_int.l0])
   | succ k1 =>
    have H := HA.out;clear HA;simp only [slices_Equal_int_int.l0] at H;(by_cases c4 : x13_1 < (l0.length : Int))
    ·rw [if_pos c4] at H;have c4b0 := decide_eq_true c4;clear c4;(by_cases c5 : 0 ≤ x13_1)
     ·rw [if_pos c5] at H;have c5b0 := decide_eq_true c5;clear c5;(by_cases c6 : x13_1 < (l0.length : Int))
      ·rw [if_pos c6] at H;have c6b0 := decide_eq_true c6;clear c6;(by_cases c7 : x13_1 < (l1.length : Int))
       ·rw [if_pos c7] at H;have c7b0 := decide_eq_true c7;clear c7;(by_cases c8 : (rd l0 x13_1) = (rd l1 x13_1))
        ·rw [if_pos c8] at H;have c8b0 : ((rd l0 x13_1) == (rd l1 x13_1)) = true := beq_iff_eq.mpr c8;have c8b1 : ((rd l0 x13_1) != (rd l1 x13_1)) = false := bne_eq_false_iff_eq.mpr c8;clear c8;have H' := Aside0.mk H;clear H;have p412 : 0 ≤ (x13_1 : Int) := oda;have q412 : x13_1 < (l0.length : Int) := oda;obtain ⟨ad412, e412, hx412_0⟩ := Kd.at_int HR0.out x13_1 p412 q412;cases e412;replace p412 := eq_true p412;replace q412 := eq_true q412;have p413 : 0 ≤ (x13_1 : Int) := oda;have q413 : x13_1 < (l1.length : Int) := oda;obtain ⟨ad413, e413, hx413_0⟩ := Kd.at_int HR1.out x13_1 p413 q413;cases e413;replace p413 := eq_true p413;replace q413 := eq_true q413;go_wp2;(repeat (go_quiet (fail); try go_wp2));go_roundg k1;(case measure => have := HK1.out; omega);(case rel => exact ⟨(wrap64 (x13_1 + 1)), (eqw), H', ⟨by have := HK1.out; omega⟩, dz⟩)
        ·rw [if_neg c8] at H;have c8b0 : ((rd l0 x13_1) == (rd l1 x13_1)) = false := beq_eq_false_iff_ne.mpr c8;have c8b1 : ((rd l0 x13_1) != (rd l1 x13_1)) = true := bne_iff_ne.mpr c8;obtain rfl := Option.some.inj H;have p412 : 0 ≤ (x13_1 : Int) := oda;have q412 : x13_1 < (l0.length : Int) := oda;obtain ⟨ad412, e412, hx412_0⟩ := Kd.at_int HR0.out x13_1 p412 q412;cases e412;replace p412 := eq_true p412;replace q412 := eq_true q412;have p413 : 0 ≤ (x13_1 : Int) := oda;have q413 : x13_1 < (l1.length : Int) := oda;obtain ⟨ad413, e413, hx413_0⟩ := Kd.at_int HR1.out x13_1 p413 q413;cases e413;replace p413 := eq_true p413;replace q413 := eq_true q413;go_wp2;(repeat (go_quiet (fail); try go_wp2));go_ret;exact ⟨eqw, dz⟩
       ·rw [if_neg c7] at H;exact absurd H (by simp)
      ·rw [if_neg c6] at H;exact absurd H (by simp)
     ·rw [if_neg c5] at H;exact absurd H (by simp)
    ·rw [if_neg c4] at H;have c4b0 := decide_eq_false c4;clear c4;obtain rfl := Option.some.inj H;go_wp2;(repeat (go_quiet (fail); try go_wp2));go_ret;exact ⟨eqw, dz⟩
 ·rw [if_neg c3] at H;have c3b0 : ((l0.length : Int) == (l1.length : Int)) = false := beq_eq_false_iff_ne.mpr c3;have c3b1 : ((l0.length : Int) != (l1.length : Int)) = true := bne_iff_ne.mpr c3;(have c3b2 : (l0.length == l1.length) = false := by first | simpa using c3 | (simp at c3 ⊢; omega));obtain rfl := Option.some.inj H;go_enter Tryz.func206, Tryz.ntmps206;go_wp2;(repeat (go_quiet (fail); try go_wp2));go_ret;exact ⟨eqw, dz⟩

/-! ### impl_sameLists_1: function 205 -/
def impl_sameLists_1.f (k : Nat) (l0 : List Int) (l1 : List Int) : Option (Bool) := (slices_Equal_int_int.f k l0 l1).bind fun t414 => (some t414)
set_option maxHeartbeats 8000000 in
set_option maxRecDepth 100000 in
theorem impl_sameLists_1.calls (k : Nat) (A0 : Option Addr) (c0 : Nat) (l0 : List Int) (A1 : Option Addr) (c1 : Nat) (l1 : List Int) (r : Bool) (w : World) (hr0 : Kd.C (Kd.int .i64) w A0 l0.length l0) (hc0 : l0.length ≤ c0) (hr1 : Kd.C (Kd.int .i64) w A1 l1.length l1) (hc1 : l1.length ≤ c1) (h : impl_sameLists_1.f k l0 l1 = some r) :
  Calls Tryz.prog 205 #[.slice A0 l0.length c0, .slice A1 l1.length c1] w fun e w' => e = .returned (.bool r) ∧ Drawn0 w w' := by
 have HR0 := Aside0.mk hr0;have HC0 := Aside0.mk hc0;clear hr0 hc0;have HR1 := Aside0.mk hr1;have HC1 := Aside0.mk hc1;clear hr1 hc1;have H : ((slices_Equal_int_int.f k l0 l1).bind fun t414 => (some t414)) = some r := h;clear h;replace H := Option.bind_eq_some_iff.mp H;obtain ⟨t414, A30, H⟩ := H;replace H : (some t414) = some r := H;have A3 := Aside0.mk A30;clear A30;obtain rfl := Option.some.inj H;go_enter Tryz.func205, Tryz.ntmps205;(go_wp2_with (first | ((with_reducible refine gate_callee (f := 206) rfl ?_); refine goesL_ (some 7) rfl rfl Tryz.func206 (by kernel_rfl) rfl #[.slice A0 l0.length c0, .slice A1 l1.length c1] rfl itp ?_; (with_reducible refine (slices_Equal_int_int.calls k _ _ l0 _ _ l1 t414 _ ?side1 ?side2 ?side3 ?side4 A3.out).mono ?_); (case side1 => exact upC HR0.out); (case side2 => exact HC0.out); (case side3 => exact upC HR1.out); (case side4 => exact HC1.out); rintro e w' ⟨rfl, ⟨nd, rfl⟩⟩; refine ⟨_, rfl, ?_⟩)));go_ret;exact ⟨eqw, dz⟩

/-! ### slices_EqualFunc_int_int_int_int__impl_sameLists_1: function 100008 -/
def slices_EqualFunc_int_int_int_int__impl_sameLists_1.l0 : Nat → List (List Int) → List (List Int) → Int → Int → Option (Bool)
 | 0, _, _, _, _ => none
 | k + 1, x1, x15, x16, x17 => if x17 < x16 then (if 0 ≤ x17 then (if x17 < (x15.length : Int) then (if x17 < (x1.length : Int) then ((impl_sameLists_1.f k (rd_L2 x15 x17) (rd_L2 x1 x17)).bind fun t417 => (if t417 = true then (slices_EqualFunc_int_int_int_int__impl_sameLists_1.l0 k x1 x15 x16 (wrap64 (x17 + 1))) else (some false))) else (none)) else (none)) else (none)) else (some true)
def slices_EqualFunc_int_int_int_int__impl_sameLists_1.f (k : Nat) (l0 : List (List Int)) (l1 : List (List Int))  : Option (Bool) := if (l0.length : Int) = (l1.length : Int) then (slices_EqualFunc_int_int_int_int__impl_sameLists_1.l0 k l1 l0 (l0.length : Int) 0) else (some false)
set_option maxHeartbeats 8000000 in
set_option maxRecDepth 100000 in
theorem slices_EqualFunc_int_int_int_int__impl_sameLists_1.calls (k : Nat) (A0 : Option Addr) (c0 : Nat) (l0 : List (List Int)) (A1 : Option Addr) (c1 : Nat) (l1 : List (List Int))  (r : Bool) (w : World) (hr0 : Kd.C (Kd.slice 3 (Kd.int .i64)) w A0 l0.length l0) (hc0 : l0.length ≤ c0) (hr1 : Kd.C (Kd.slice 3 (Kd.int .i64)) w A1 l1.length l1) (hc1 : l1.length ≤ c1) (h : slices_EqualFunc_int_int_int_int__impl_sameLists_1.f k l0 l1 = some r) :
  Calls Tryz.prog 204 #[.slice A0 l0.length c0, .slice A1 l1.length c1, .func (.func 205) #[] #[]] w fun e w' => e = .returned (.bool r) ∧ Drawn0 w w' := by
 have HR0 := Aside0.mk hr0;have HC0 := Aside0.mk hc0;clear hr0 hc0;have HR1 := Aside0.mk hr1;have HC1 := Aside0.mk hc1;clear hr1 hc1;have H : (if (l0.length : Int) = (l1.length : Int) then (slices_EqualFunc_int_int_int_int__impl_sameLists_1.l0 k l1 l0 (l0.length : Int) 0) else (some false)) = some r := h;clear h;(by_cases c4 : (l0.length : Int) = (l1.length : Int))
 ·rw [if_pos c4] at H;have c4b0 : ((l0.length : Int) == (l1.length : Int)) = true := beq_iff_eq.mpr c4;have c4b1 : ((l0.length : Int) != (l1.length : Int)) = false := bne_eq_false_iff_eq.mpr c4;(have c4b2 : (l0.length == l1.length) = true := by first | simpa using c4 | (simp at c4 ⊢; omega));clear c4;have H' := Aside0.mk H;clear H;go_enter Tryz.func204, Tryz.ntmps204;go_wp2;(go_loopg [17] k (fun kq v17 w' => ∃ (x17_1 : Int), v17 = .int .i64 x17_1 ∧ Aside0 (slices_EqualFunc_int_int_int_int__impl_sameLists_1.l0 kq l1 l0 (l0.length : Int) x17_1 = some r) ∧ Aside0 (kq ≤ k) ∧ Drawn0 w w'));(case atStart => exact ⟨(0), (eqw), H', ⟨Nat.le_refl _⟩, dz⟩)
  case round =>
   clear H';(try clear c4b0 c4b1 c4b2);obtain ⟨x17_1, rfl, HA, HK1, ⟨m1, rfl⟩⟩ := hrel
   cases gk with
   | zero => exact absurd HA.out (by simp [slices_EqualFunc_int_int_int_int__impl_sameLists_1.l0])
   | succ k1 =>
    have H := HA.out;clear HA;simp only [slices_EqualFunc_int_int_int_int__impl_sameLists_1.l0] at H;(by_cases c5 : x17_1 < (l0.length : Int))
    ·rw [if_pos c5] at H;have c5b0 := decide_eq_true c5;clear c5;(by_cases c6 : 0 ≤ x17_1)
     ·rw [if_pos c6] at H;have c6b0 := decide_eq_true c6;clear c6;(by_cases c7 : x17_1 < (l0.length : Int))
      ·rw [if_pos c7] at H;have c7b0 := decide_eq_true c7;clear c7;(by_cases c8 : x17_1 < (l1.length : Int))
       ·rw [if_pos c8] at H;have c8b0 := decide_eq_true c8;clear c8;replace H := Option.bind_eq_some_iff.mp H;obtain ⟨t417, A90, H⟩ := H;replace H : (if t417 = true then (slices_EqualFunc_int_int_int_int__impl_sameLists_1.l0 k1 l1 l0 (l0.length : Int) (wrap64 (x17_1 + 1))) else (some false)) = some r := H;have A9 := Aside0.mk A90;clear A90;(by_cases c10 : t417 = true)
        ·subst c10;(have H1 : (slices_EqualFunc_int_int_int_int__impl_sameLists_1.l0 k1 l1 l0 (l0.length : Int) (wrap64 (x17_1 + 1))) = some r := by rw [if_pos rfl] at H; exact H);clear H;have H := H1;clear H1;have H' := Aside0.mk H;clear H;have p415 : 0 ≤ (x17_1 : Int) := oda;have q415 : x17_1 < (l0.length : Int) := oda;obtain ⟨ad415, A415_0, c415_0, e415, hx415_0, hl415_0, hi415_0⟩ := at_L2 HR0.out x17_1 p415 q415;cases e415;have HR415_0 := Aside0.mk hi415_0;have HC415_0 := Aside0.mk hl415_0;clear hi415_0 hl415_0;replace p415 := eq_true p415;replace q415 := eq_true q415;have p416 : 0 ≤ (x17_1 : Int) := oda;have q416 : x17_1 < (l1.length : Int) := oda;obtain ⟨ad416, A416_0, c416_0, e416, hx416_0, hl416_0, hi416_0⟩ := at_L2 HR1.out x17_1 p416 q416;cases e416;have HR416_0 := Aside0.mk hi416_0;have HC416_0 := Aside0.mk hl416_0;clear hi416_0 hl416_0;replace p416 := eq_true p416;replace q416 := eq_true q416;(go_wp2_with (first | ((first | (with_reducible refine gate_callee (f := 205) rfl ?_) | refine gate_calleev (f := 205) rfl (by rfl) ?_); (first | (refine goesL_ (some 29) rfl rfl Tryz.func205 (by kernel_rfl) rfl #[.slice A415_0 (rd_L2 l0 x17_1).length c415_0, .slice A416_0 (rd_L2 l1 x17_1).length c416_0] rfl itp ?_) | (refine goesvL_ (some 29) rfl rfl Tryz.func205 (by kernel_rfl) rfl #[.slice A415_0 (rd_L2 l0 x17_1).length c415_0, .slice A416_0 (rd_L2 l1 x17_1).length c416_0] rfl (by rfl) itpv ?_)); (with_reducible refine (impl_sameLists_1.calls k1 _ _ (rd_L2 l0 x17_1) _ _ (rd_L2 l1 x17_1) true _ ?side1 ?side2 ?side3 ?side4 A9.out).mono ?_); (case side1 => exact upC HR415_0.out); (case side2 => exact HC415_0.out); (case side3 => exact upC HR416_0.out); (case side4 => exact HC416_0.out); rintro e w' ⟨rfl, ⟨nd, rfl⟩⟩; refine ⟨_, rfl, ?_⟩)));go_roundg k1;(case measure => have := HK1.out; omega);(case rel => exact ⟨(wrap64 (x17_1 + 1)), (eqw), H', ⟨by have := HK1.out; omega⟩, dz⟩)
        ·replace c10 := Bool.eq_false_iff.mpr c10;subst c10;(have H1 : (some false) = some r := by rw [if_neg (show ¬ (false = true) by decide)] at H; exact H);clear H;have H := H1;clear H1;obtain rfl := Option.some.inj H;have p415 : 0 ≤ (x17_1 : Int) := oda;have q415 : x17_1 < (l0.length : Int) := oda;obtain ⟨ad415, A415_0, c415_0, e415, hx415_0, hl415_0, hi415_0⟩ := at_L2 HR0.out x17_1 p415 q415;cases e415;have HR415_0 := Aside0.mk hi415_0;have HC415_0 := Aside0.mk hl415_0;clear hi415_0 hl415_0;replace p415 := eq_true p415;replace q415 := eq_true q415;have p416 : 0 ≤ (x17_1 : Int) := oda;have q416 : x17_1 < (l1.length : Int) := oda;obtain ⟨ad416, A416_0, c416_0, e416, hx416_0, hl416_0, hi416_0⟩ := at_L2 HR1.out x17_1 p416 q416;cases e416;have HR416_0 := Aside0.mk hi416_0;have HC416_0 := Aside0.mk hl416_0;clear hi416_0 hl416_0;replace p416 := eq_true p416;replace q416 := eq_true q416;(go_wp2_with (first | ((first | (with_reducible refine gate_callee (f := 205) rfl ?_) | refine gate_calleev (f := 205) rfl (by rfl) ?_); (first | (refine goesL_ (some 29) rfl rfl Tryz.func205 (by kernel_rfl) rfl #[.slice A415_0 (rd_L2 l0 x17_1).length c415_0, .slice A416_0 (rd_L2 l1 x17_1).length c416_0] rfl itp ?_) | (refine goesvL_ (some 29) rfl rfl Tryz.func205 (by kernel_rfl) rfl #[.slice A415_0 (rd_L2 l0 x17_1).length c415_0, .slice A416_0 (rd_L2 l1 x17_1).length c416_0] rfl (by rfl) itpv ?_)); (with_reducible refine (impl_sameLists_1.calls k1 _ _ (rd_L2 l0 x17_1) _ _ (rd_L2 l1 x17_1) false _ ?side1 ?side2 ?side3 ?side4 A9.out).mono ?_); (case side1 => exact upC HR415_0.out); (case side2 => exact HC415_0.out); (case side3 => exact upC HR416_0.out); (case side4 => exact HC416_0.out); rintro e w' ⟨rfl, ⟨nd, rfl⟩⟩; refine ⟨_, rfl, ?_⟩)));go_ret;exact ⟨eqw, dz⟩
       ·rw [if_neg c8] at H;exact absurd H (by simp)
      ·rw [if_neg c7] at H;exact absurd H (by simp)
     ·rw [if_neg c6] at H;exact absurd H (by simp)
    ·rw [if_neg c5] at H;have c5b0 := decide_eq_false c5;clear c5;obtain rfl := Option.some.inj H;go_wp2;go_ret;exact ⟨eqw, dz⟩
 ·rw [if_neg c4] at H;have c4b0 : ((l0.length : Int) == (l1.length : Int)) = false := beq_eq_false_iff_ne.mpr c4;have c4b1 : ((l0.length : Int) != (l1.length : Int)) = true := bne_iff_ne.mpr c4;(have c4b2 : (l0.length == l1.length) = false := by first | simpa using c4 | (simp at c4 ⊢; omega));obtain rfl := Option.some.inj H;go_enter Tryz.func204, Tryz.ntmps204;go_wp2;go_ret;exact ⟨eqw, dz⟩

/-! ### impl_sameLists: function 177 -/
def impl_sameLists.f (k : Nat) (l0 : List (List Int)) (l1 : List (List Int)) : Option (Bool) := (slices_EqualFunc_int_int_int_int__impl_sameLists_1.f k l0 l1).bind fun t418 => (some t418)
set_option maxHeartbeats 8000000 in
set_option maxRecDepth 100000 in
theorem impl_sameLists.calls (k : Nat) (A0 : Option Addr) (c0 : Nat) (l0 : List (List Int)) (A1 : Option Addr) (c1 : Nat) (l1 : List (List Int)) (r : Bool) (w : World) (hr0 : Kd.C (Kd.slice 3 (Kd.int .i64)) w A0 l0.length l0) (hc0 : l0.length ≤ c0) (hr1 : Kd.C (Kd.slice 3 (Kd.int .i64)) w A1 l1.length l1) (hc1 : l1.length ≤ c1) (h : impl_sameLists.f k l0 l1 = some r) :
  Calls Tryz.prog 177 #[.slice A0 l0.length c0, .slice A1 l1.length c1] w fun e w' => e = .returned (.bool r) ∧ Below w.heap.size w w' := by
 have HR0 := Aside0.mk hr0;have HC0 := Aside0.mk hc0;clear hr0 hc0;have HR1 := Aside0.mk hr1;have HC1 := Aside0.mk hc1;clear hr1 hc1;have HB := Aside0.mk (Below.refl w.heap.size w);have H : ((slices_EqualFunc_int_int_int_int__impl_sameLists_1.f k l0 l1).bind fun t418 => (some t418)) = some r := h;clear h;replace H := Option.bind_eq_some_iff.mp H;obtain ⟨t418, A30, H⟩ := H;replace H : (some t418) = some r := H;have A3 := Aside0.mk A30;clear A30;obtain rfl := Option.some.inj H;go_enter Tryz.func177, Tryz.ntmps177;(go_wp2_with (first | ((with_reducible refine gate_callee (f := 204) rfl ?_); refine goesL_ (some 7) rfl rfl Tryz.func204 (by kernel_rfl) rfl #[.slice A0 l0.length c0, .slice A1 l1.length c1, .func (.func 205) #[] #[]] rfl itp ?_; (with_reducible refine (slices_EqualFunc_int_int_int_int__impl_sameLists_1.calls k _ _ l0 _ _ l1  t418 _ ?side1 ?side2 ?side3 ?side4 A3.out).mono ?_); (case side1 => exact upC HR0.out); (case side2 => exact HC0.out); (case side3 => exact upC HR1.out); (case side4 => exact HC1.out); rintro e w' ⟨rfl, ⟨nd, rfl⟩⟩; refine ⟨_, rfl, ?_⟩)));go_ret;exact ⟨eqv, upW HB⟩

/-! ### slices_IndexFunc_int_int__impl_CutOfCode_1: function 100010 -/
def slices_IndexFunc_int_int__impl_CutOfCode_1.l0 : Nat → List (List Int) → Int → Int → Option (Int)
 | 0, _, _, _ => none
 | k + 1, x0, x7, x8 => if x8 < x7 then (if 0 ≤ x8 then (if x8 < (x0.length : Int) then ((impl_CutOfCode_1.f (rd_L2 x0 x8)).bind fun t422 => (if t422 = true then (some x8) else (slices_IndexFunc_int_int__impl_CutOfCode_1.l0 k x0 x7 (wrap64 (x8 + 1))))) else (none)) else (none)) else (some (-1))
def slices_IndexFunc_int_int__impl_CutOfCode_1.f (k : Nat) (l0 : List (List Int))  : Option (Int) := slices_IndexFunc_int_int__impl_CutOfCode_1.l0 k l0 (l0.length : Int) 0
set_option maxHeartbeats 8000000 in
set_option maxRecDepth 100000 in
theorem slices_IndexFunc_int_int__impl_CutOfCode_1.calls (k : Nat) (A0 : Option Addr) (c0 : Nat) (l0 : List (List Int))  (r : Int) (w : World) (hr0 : Kd.C (Kd.slice 3 (Kd.int .i64)) w A0 l0.length l0) (hc0 : l0.length ≤ c0) (h : slices_IndexFunc_int_int__impl_CutOfCode_1.f k l0 = some r) :
  Calls Tryz.prog 200 #[.slice A0 l0.length c0, .func (.func 174) #[] #[]] w fun e w' => e = .returned (.int .i64 r) ∧ Below w.heap.size w w' := by
 have HR0 := Aside0.mk hr0;have HC0 := Aside0.mk hc0;clear hr0 hc0;have HB := Aside0.mk (Below.refl w.heap.size w);have H : (slices_IndexFunc_int_int__impl_CutOfCode_1.l0 k l0 (l0.length : Int) 0) = some r := h;clear h;have H' := Aside0.mk H;clear H;go_enter Tryz.func200, Tryz.ntmps200;go_wp2;(go_loopg [8] k (fun kq v8 w' => ∃ (x8_1 : Int), v8 = .int .i64 x8_1 ∧ Aside0 (slices_IndexFunc_int_int__impl_CutOfCode_1.l0 kq l0 (l0.length : Int) x8_1 = some r) ∧ Aside0 (kq ≤ k) ∧ Aside0 (Below w.heap.size w w')));(case atStart => exact ⟨(0), (eqw), H', ⟨Nat.le_refl _⟩, ⟨upW HB⟩⟩)
 case round =>
  clear H';obtain ⟨x8_1, rfl, HA, HK1, HB⟩ := hrel
  cases gk with
  | zero => exact absurd HA.out (by simp [slices_IndexFunc_int_int__impl_CutOfCode_1.l0])
  | succ k1 =>
   have H := HA.out;clear HA;simp only [slices_IndexFunc_int_int__impl_CutOfCode_1.l0] at H;(by_cases c3 : x8_1 < (l0.length : Int))
   ·rw [if_pos c3] at H;have c3b0 := decide_eq_true c3;clear c3;(by_cases c4 : 0 ≤ x8_1)
    ·rw [if_pos c4] at H;have c4b0 := decide_eq_true c4;clear c4;(by_cases c5 : x8_1 < (l0.length : Int))
     ·rw [if_pos c5] at H;have c5b0 := decide_eq_true c5;clear c5;replace H := Option.bind_eq_some_iff.mp H;obtain ⟨t422, A60, H⟩ := H;replace H : (if t422 = true then (some x8_1) else (slices_IndexFunc_int_int__impl_CutOfCode_1.l0 k1 l0 (l0.length : Int) (wrap64 (x8_1 + 1)))) = some r := H;have A6 := Aside0.mk A60;clear A60;(by_cases c7 : t422 = true)
      ·subst c7;(have H1 : (some x8_1) = some r := by rw [if_pos rfl] at H; exact H);clear H;have H := H1;clear H1;obtain rfl := Option.some.inj H;have p421 : 0 ≤ (x8_1 : Int) := oda;have q421 : x8_1 < (l0.length : Int) := oda;obtain ⟨ad421, A421_0, c421_0, e421, hx421_0, hl421_0, hi421_0⟩ := at_L2 HR0.out x8_1 p421 q421;cases e421;replace hx421_0 := cb HB hx421_0;have HR421_0 := Aside0.mk hi421_0;have HC421_0 := Aside0.mk hl421_0;clear hi421_0 hl421_0;replace p421 := eq_true p421;replace q421 := eq_true q421;(go_wp2_with (first | ((first | (with_reducible refine gate_callee (f := 174) rfl ?_) | refine gate_calleev (f := 174) rfl (by rfl) ?_); (first | (refine goesL_ (some 16) rfl rfl Tryz.func174 (by kernel_rfl) rfl #[.slice A421_0 (rd_L2 l0 x8_1).length c421_0] rfl itp ?_) | (refine goesvL_ (some 16) rfl rfl Tryz.func174 (by kernel_rfl) rfl #[.slice A421_0 (rd_L2 l0 x8_1).length c421_0] rfl (by rfl) itpv ?_)); (with_reducible refine (impl_CutOfCode_1.calls _ _ (rd_L2 l0 x8_1) true _ ?side1 ?side2 A6.out).mono ?_); (case side1 => exact upC (Kd.C_below HR421_0.out HB.out)); (case side2 => exact HC421_0.out); rintro e w8 ⟨rfl, hb⟩; refine ⟨_, rfl, ?_⟩; replace HB := Aside0.mk (below_step (upW HB) hb); (try clear hb))));go_ret;exact ⟨eqv, upW HB⟩
      ·replace c7 := Bool.eq_false_iff.mpr c7;subst c7;(have H1 : (slices_IndexFunc_int_int__impl_CutOfCode_1.l0 k1 l0 (l0.length : Int) (wrap64 (x8_1 + 1))) = some r := by rw [if_neg (show ¬ (false = true) by decide)] at H; exact H);clear H;have H := H1;clear H1;have H' := Aside0.mk H;clear H;have p421 : 0 ≤ (x8_1 : Int) := oda;have q421 : x8_1 < (l0.length : Int) := oda;obtain ⟨ad421, A421_0, c421_0, e421, hx421_0, hl421_0, hi421_0⟩ := at_L2 HR0.out x8_1 p421 q421;cases e421;replace hx421_0 := cb HB hx421_0;have HR421_0 := Aside0.mk hi421_0;have HC421_0 := Aside0.mk hl421_0;clear hi421_0 hl421_0;replace p421 := eq_true p421;replace q421 := eq_true q421;(go_wp2_with (first | ((first | (with_reducible refine gate_callee (f := 174) rfl ?_) | refine gate_calleev (f := 174) rfl (by rfl) ?_); (first | (refine goesL_ (some 16) rfl rfl Tryz.func174 (by kernel_rfl) rfl #[.slice A421_0 (rd_L2 l0 x8_1).length c421_0] rfl itp ?_) | (refine goesvL_ (some 16) rfl rfl Tryz.func174 (by kernel_rfl) rfl #[.slice A421_0 (rd_L2 l0 x8_1).length c421_0] rfl (by rfl) itpv ?_)); (with_reducible refine (impl_CutOfCode_1.calls _ _ (rd_L2 l0 x8_1) false _ ?side1 ?side2 A6.out).mono ?_); (case side1 => exact upC (Kd.C_below HR421_0.out HB.out)); (case side2 => exact HC421_0.out); rintro e w9 ⟨rfl, hb⟩; refine ⟨_, rfl, ?_⟩; replace HB := Aside0.mk (below_step (upW HB) hb); (try clear hb))));go_roundg k1;(case measure => have := HK1.out; omega);(case rel => exact ⟨(wrap64 (x8_1 + 1)), (eqw), H', ⟨by have := HK1.out; omega⟩, ⟨upW HB⟩⟩)
     ·rw [if_neg c5] at H;exact absurd H (by simp)
    ·rw [if_neg c4] at H;exact absurd H (by simp)
   ·rw [if_neg c3] at H;have c3b0 := decide_eq_false c3;clear c3;obtain rfl := Option.some.inj H;go_wp2;go_ret;exact ⟨eqv, upW HB⟩

/-! ### slices_ContainsFunc_int_int__impl_CutOfCode_1: function 100009 -/
def slices_ContainsFunc_int_int__impl_CutOfCode_1.f (k : Nat) (l0 : List (List Int))  : Option (Bool) := (slices_IndexFunc_int_int__impl_CutOfCode_1.f k l0).bind fun t423 => (some (decide (t423 ≥ 0)))
set_option maxHeartbeats 8000000 in
set_option maxRecDepth 100000 in
theorem slices_ContainsFunc_int_int__impl_CutOfCode_1.calls (k : Nat) (A0 : Option Addr) (c0 : Nat) (l0 : List (List Int))  (r : Bool) (w : World) (hr0 : Kd.C (Kd.slice 3 (Kd.int .i64)) w A0 l0.length l0) (hc0 : l0.length ≤ c0) (h : slices_ContainsFunc_int_int__impl_CutOfCode_1.f k l0 = some r) :
  Calls Tryz.prog 173 #[.slice A0 l0.length c0, .func (.func 174) #[] #[]] w fun e w' => e = .returned (.bool r) ∧ Below w.heap.size w w' := by
 have HR0 := Aside0.mk hr0;have HC0 := Aside0.mk hc0;clear hr0 hc0;have HB := Aside0.mk (Below.refl w.heap.size w);have H : ((slices_IndexFunc_int_int__impl_CutOfCode_1.f k l0).bind fun t423 => (some (decide (t423 ≥ 0)))) = some r := h;clear h;replace H := Option.bind_eq_some_iff.mp H;obtain ⟨t423, A30, H⟩ := H;replace H : (some (decide (t423 ≥ 0))) = some r := H;have A3 := Aside0.mk A30;clear A30;obtain rfl := Option.some.inj H;go_enter Tryz.func173, Tryz.ntmps173;(go_wp2_with (first | ((first | (with_reducible refine gate_callee (f := 200) rfl ?_) | refine gate_calleev (f := 200) rfl (by rfl) ?_); (first | (refine goesL_ (some 7) rfl rfl Tryz.func200 (by kernel_rfl) rfl #[.slice A0 l0.length c0, .func (.func 174) #[] #[]] rfl itp ?_) | (refine goesvL_ (some 7) rfl rfl Tryz.func200 (by kernel_rfl) rfl #[.slice A0 l0.length c0, .func (.func 174) #[] #[]] rfl (by rfl) itpv ?_)); (with_reducible refine (slices_IndexFunc_int_int__impl_CutOfCode_1.calls k _ _ l0  t423 _ ?side1 ?side2 A3.out).mono ?_); (case side1 => exact upC HR0.out); (case side2 => exact HC0.out); rintro e w4 ⟨rfl, hb⟩; refine ⟨_, rfl, ?_⟩; replace HB := Aside0.mk (below_step (upW HB) hb); (try clear hb))));go_ret;exact ⟨eqv, upW HB⟩

/-! ### impl_CutOfCode: function 123 -/
def impl_CutOfCode.j0 : Nat → List (List Int) → Bool → Option (Int × Int × (List (S65)) × Bool)
 | 0, _, _ => none
 | k + 1, x0, x13 => if x13 = true then (some (0, 0, ([] : List (S65)), false)) else (if 0 < (x0.length : Int) then ((impl_sum.f k (rd_L2 x0 0)).bind fun t428 => ((slices_Concat_int_int.f k x0).bind fun t429 => ((impl_CutOfSides.f k t428 t429).bind fun bt432 => (if bt432.2.2.2 = true then ((impl_codeOf.f k bt432.1 bt432.2.1 bt432.2.2.1).bind fun t439 => ((impl_sameLists.f k t439 x0).bind fun t442 => (if t442 = true then (some (bt432.1, bt432.2.1, bt432.2.2.1, true)) else (some (0, 0, ([] : List (S65)), false))))) else (some (0, 0, ([] : List (S65)), false)))))) else (none))
def impl_CutOfCode.f (k : Nat) (l0 : List (List Int)) : Option (Int × Int × (List (S65)) × Bool) := (impl_within.f (l0.length : Int) 1 30).bind fun t425 => (if t425 = true then ((slices_ContainsFunc_int_int__impl_CutOfCode_1.f k l0).bind fun t426 => (impl_CutOfCode.j0 k l0 t426)) else (impl_CutOfCode.j0 k l0 true))
set_option maxHeartbeats 8000000 in
set_option maxRecDepth 100000 in
theorem impl_CutOfCode.calls (k : Nat) (A0 : Option Addr) (c0 : Nat) (l0 : List (List Int)) (r1 : Int) (r2 : Int) (r3 : List (S65)) (r4 : Bool) (w : World) (hr0 : Kd.C (Kd.slice 3 (Kd.int .i64)) w A0 l0.length l0) (hc0 : l0.length ≤ c0) (h : impl_CutOfCode.f k l0 = some (r1, r2, r3, r4)) :
  Calls Tryz.prog 123 #[.slice A0 l0.length c0] w fun e w' => ∃ v2_ : Value, e = .returned (.tuple #[.agg #[.int .i64 r1, .int .i64 r2, v2_], .bool r4]) ∧ Kd.R k65 65 w' w.heap.size (fun _ => True) v2_ r3 ∧ Below w.heap.size w w' := by
 have hu53 := Tryz.underlying53;have HR0 := Aside0.mk hr0;have HC0 := Aside0.mk hc0;clear hr0 hc0;have HB := Aside0.mk (Below.refl w.heap.size w);have H : ((impl_within.f (l0.length : Int) 1 30).bind fun t425 => (if t425 = true then ((slices_ContainsFunc_int_int__impl_CutOfCode_1.f k l0).bind fun t426 => (impl_CutOfCode.j0 k l0 t426)) else (impl_CutOfCode.j0 k l0 true))) = some (r1, r2, r3, r4) := h;clear h;have HC2 := Aside0.mk H;clear H;go_enter Tryz.func123, Tryz.ntmps123;(go_upto_region 1 with (first | ((with_reducible refine gate_dst (N := 2) rfl ?_); refine boxE 2 (#[.int .i64 0, .int .i64 0, .slice none 0 0]) 53 ?_; intro gb424 hg w3 hbox hb; have BK424 := Aside0.mk (hbox);have GW424 := Aside0.mk (gz hg HB);have GE424 := Aside0.mk (gz hg HB);replace HB := Aside0.mk (below_step (upW HB) hb); clear hb hbox hg)));(try simp only [Act.put, List.setIfInBounds_toArray, List.set_cons_zero, List.set_cons_succ]);(go_cut [13] (fun v13 wc => ∃ (kq : Nat) (x13_1 : Bool), v13 = .bool x13_1 ∧ Aside0 (impl_CutOfCode.j0 kq l0 x13_1 = some (r1, r2, r3, r4)) ∧ Aside0 (kq ≤ k) ∧ Aside0 (wc.heap[gb424]? = some (.cells #[.int .i64 0, .int .i64 0, (.slice none 0 0)] 53 (0, 0))) ∧ Aside0 (Below w.heap.size w wc)))
 case first =>
  have H := HC2.out;clear HC2;replace H := Option.bind_eq_some_iff.mp H;obtain ⟨t425, A40, H⟩ := H;replace H : (if t425 = true then ((slices_ContainsFunc_int_int__impl_CutOfCode_1.f k l0).bind fun t426 => (impl_CutOfCode.j0 k l0 t426)) else (impl_CutOfCode.j0 k l0 true)) = some (r1, r2, r3, r4) := H;have A4 := Aside0.mk A40;clear A40;(by_cases c5 : t425 = true)
  ·subst c5;(have H1 : ((slices_ContainsFunc_int_int__impl_CutOfCode_1.f k l0).bind fun t426 => (impl_CutOfCode.j0 k l0 t426)) = some (r1, r2, r3, r4) := by rw [if_pos rfl] at H; exact H);clear H;have H := H1;clear H1;replace H := Option.bind_eq_some_iff.mp H;obtain ⟨t426, A60, H⟩ := H;replace H : (impl_CutOfCode.j0 k l0 t426) = some (r1, r2, r3, r4) := H;have A6 := Aside0.mk A60;clear A60;have H' := Aside0.mk H;clear H;(go_wp2_with (first | ((with_reducible refine gate_callee (f := 87) rfl ?_); refine goesL_ (some 8) rfl rfl Tryz.func87 (by kernel_rfl) rfl #[.int .i64 (l0.length : Int), .int .i64 1, .int .i64 30] rfl itp ?_; (with_reducible refine (impl_within.calls (l0.length : Int) 1 30 true _ A4.out).mono ?_); rintro e w' ⟨rfl, ⟨nd, rfl⟩⟩; refine ⟨_, rfl, ?_⟩) | (go_at_call 173; (with_reducible refine (slices_ContainsFunc_int_int__impl_CutOfCode_1.calls k _ _ l0  t426 _ ?side1 ?side2 A6.out).mono ?_); (case side1 => exact upC (Kd.C_below HR0.out (upW HB))); (case side2 => exact HC0.out); rintro e w7 ⟨rfl, hb⟩; replace BK424 := Aside0.mk (blk_below (upK BK424) hb);replace HB := Aside0.mk (below_step (upW HB) hb); (try clear hb))));(go_meet);(case rel => exact ⟨_, (t426), (eqw), H', ⟨by first | omega | exact Nat.le_refl _⟩, ⟨upK BK424⟩, ⟨upW HB⟩⟩)
  ·replace c5 := Bool.eq_false_iff.mpr c5;subst c5;(have H1 : (impl_CutOfCode.j0 k l0 true) = some (r1, r2, r3, r4) := by rw [if_neg (show ¬ (false = true) by decide)] at H; exact H);clear H;have H := H1;clear H1;have H' := Aside0.mk H;clear H;(go_wp2_with (first | ((with_reducible refine gate_callee (f := 87) rfl ?_); refine goesL_ (some 8) rfl rfl Tryz.func87 (by kernel_rfl) rfl #[.int .i64 (l0.length : Int), .int .i64 1, .int .i64 30] rfl itp ?_; (with_reducible refine (impl_within.calls (l0.length : Int) 1 30 false _ A4.out).mono ?_); rintro e w' ⟨rfl, ⟨nd, rfl⟩⟩; refine ⟨_, rfl, ?_⟩)));(go_meet);(case rel => exact ⟨_, (true), (eqw), H', ⟨by first | omega | exact Nat.le_refl _⟩, ⟨upK BK424⟩, ⟨upW HB⟩⟩)
 case rest =>
  clear HC2;obtain ⟨kq, x13_1, rfl, HA, HJ1, BK424, HB⟩ := hcut
  cases kq with
  | zero => exact absurd HA.out (by simp [impl_CutOfCode.j0])
  | succ kj1 =>
   have H := HA.out;clear HA;simp only [impl_CutOfCode.j0] at H;(by_cases c8 : x13_1 = true)
   ·subst c8;(have H1 : (some (0, 0, ([] : List (S65)), false)) = some (r1, r2, r3, r4) := by rw [if_pos rfl] at H; exact H);clear H;have H := H1;clear H1;simp only [Option.some.injEq, Prod.mk.injEq] at H;obtain ⟨rfl, rfl, rfl, rfl⟩ := H;obtain ⟨hcz9_0, hcz9_1, hcz9_2, hfz9_0, hfz9_1, hfz9_2⟩ := cz3 BK424 (.int .i64 0) (.int .i64 0) (.slice none 0 0);go_wp2;refine bodyPost_ret (results_ct rfl _ _ gb424 53 #[.int .i64 0, .int .i64 0, .slice none 0 0] (0, 0) _ rfl (blk3 BK424 #[.int .i64 0, .int .i64 0, .slice none 0 0] #[.int .i64 0, .int .i64 0, .slice none 0 0]) Tryz.underlying53 rfl (by kernel_rfl)) rfl ?_;exact ⟨_, eqv, by first | exact Kd.R_nil _ _ _ _ _ | exact Kd.N_nil _ _ _ _ _ | exact Kd.V_nil _ _ _ _ _ | exact Kd.Q_nil _ _ _ _ _ | exact Kd.S_nil _ _ _ _ _, upW HB⟩
   ·replace c8 := Bool.eq_false_iff.mpr c8;subst c8;(have H1 : (if 0 < (l0.length : Int) then ((impl_sum.f kj1 (rd_L2 l0 0)).bind fun t428 => ((slices_Concat_int_int.f kj1 l0).bind fun t429 => ((impl_CutOfSides.f kj1 t428 t429).bind fun bt432 => (if bt432.2.2.2 = true then ((impl_codeOf.f kj1 bt432.1 bt432.2.1 bt432.2.2.1).bind fun t439 => ((impl_sameLists.f kj1 t439 l0).bind fun t442 => (if t442 = true then (some (bt432.1, bt432.2.1, bt432.2.2.1, true)) else (some (0, 0, ([] : List (S65)), false))))) else (some (0, 0, ([] : List (S65)), false)))))) else (none)) = some (r1, r2, r3, r4) := by rw [if_neg (show ¬ (false = true) by decide)] at H; exact H);clear H;have H := H1;clear H1;(by_cases c10 : 0 < (l0.length : Int))
    ·rw [if_pos c10] at H;have c10b0 := decide_eq_true c10;have c10b1 : decide (0 < l0.length) = true := decide_eq_true (by omega);clear c10;replace H := Option.bind_eq_some_iff.mp H;obtain ⟨t428, A110, H⟩ := H;replace H : ((slices_Concat_int_int.f kj1 l0).bind fun t429 => ((impl_CutOfSides.f kj1 t428 t429).bind fun bt432 => (if bt432.2.2.2 = true then ((impl_codeOf.f kj1 bt432.1 bt432.2.1 bt432.2.2.1).bind fun t439 => ((impl_sameLists.f kj1 t439 l0).bind fun t442 => (if t442 = true then (some (bt432.1, bt432.2.1, bt432.2.2.1, true)) else (some (0, 0, ([] : List (S65)), false))))) else (some (0, 0, ([] : List (S65)), false))))) = some (r1, r2, r3, r4) := H;have A11 := Aside0.mk A110;clear A110;replace H := Option.bind_eq_some_iff.mp H;obtain ⟨t429, A120, H⟩ := H;replace H : ((impl_CutOfSides.f kj1 t428 t429).bind fun bt432 => (if bt432.2.2.2 = true then ((impl_codeOf.f kj1 bt432.1 bt432.2.1 bt432.2.2.1).bind fun t439 => ((impl_sameLists.f kj1 t439 l0).bind fun t442 => (if t442 = true then (some (bt432.1, bt432.2.1, bt432.2.2.1, true)) else (some (0, 0, ([] : List (S65)), false))))) else (some (0, 0, ([] : List (S65)), false)))) = some (r1, r2, r3, r4) := H;have A12 := Aside0.mk A120;clear A120;replace H := Option.bind_eq_some_iff.mp H;obtain ⟨⟨t432, t433, t434, t437⟩, A130, H⟩ := H;replace H : (if t437 = true then ((impl_codeOf.f kj1 t432 t433 t434).bind fun t439 => ((impl_sameLists.f kj1 t439 l0).bind fun t442 => (if t442 = true then (some (t432, t433, t434, true)) else (some (0, 0, ([] : List (S65)), false))))) else (some (0, 0, ([] : List (S65)), false))) = some (r1, r2, r3, r4) := H;have A13 := Aside0.mk A130;clear A130;(by_cases c14 : t437 = true)
     ·subst c14;(have H1 : ((impl_codeOf.f kj1 t432 t433 t434).bind fun t439 => ((impl_sameLists.f kj1 t439 l0).bind fun t442 => (if t442 = true then (some (t432, t433, t434, true)) else (some (0, 0, ([] : List (S65)), false))))) = some (r1, r2, r3, r4) := by rw [if_pos rfl] at H; exact H);clear H;have H := H1;clear H1;replace H := Option.bind_eq_some_iff.mp H;obtain ⟨t439, A150, H⟩ := H;replace H : ((impl_sameLists.f kj1 t439 l0).bind fun t442 => (if t442 = true then (some (t432, t433, t434, true)) else (some (0, 0, ([] : List (S65)), false)))) = some (r1, r2, r3, r4) := H;have A15 := Aside0.mk A150;clear A150;replace H := Option.bind_eq_some_iff.mp H;obtain ⟨t442, A160, H⟩ := H;replace H : (if t442 = true then (some (t432, t433, t434, true)) else (some (0, 0, ([] : List (S65)), false))) = some (r1, r2, r3, r4) := H;have A16 := Aside0.mk A160;clear A160;(by_cases c17 : t442 = true)
      ·subst c17;(have H1 : (some (t432, t433, t434, true)) = some (r1, r2, r3, r4) := by rw [if_pos rfl] at H; exact H);clear H;have H := H1;clear H1;simp only [Option.some.injEq, Prod.mk.injEq] at H;obtain ⟨rfl, rfl, rfl, rfl⟩ := H;have p427 : 0 ≤ (0 : Int) := (by omega);have q427 : 0 < (l0.length : Int) := oda;obtain ⟨ad427, A427_0, c427_0, e427, hx427_0, hl427_0, hi427_0⟩ := at_L2 HR0.out 0 p427 q427;cases e427;have qi427 : (0 < l0.length) = True := eq_true (by omega);(try rw [show ((0 : Int)).toNat = 0 from rfl] at hx427_0);(try rw [Addr.add_zero'] at hx427_0);replace hx427_0 := cb HB hx427_0;have HR427_0 := Aside0.mk hi427_0;have HC427_0 := Aside0.mk hl427_0;clear hi427_0 hl427_0;replace p427 := eq_true p427;replace q427 := eq_true q427;(go_wp2_with (first | ((with_reducible refine gate_callee (f := 176) rfl ?_); refine goesL_ (some 19) rfl rfl Tryz.func176 (by kernel_rfl) rfl #[.slice A427_0 (rd_L2 l0 0).length c427_0] rfl itp ?_; (with_reducible refine (impl_sum.calls kj1 _ _ (rd_L2 l0 0) t428 _ ?side1 ?side2 A11.out).mono ?_); (case side1 => exact upC (Kd.C_below HR427_0.out HB.out)); (case side2 => exact HC427_0.out); rintro e w' ⟨rfl, ⟨nd, rfl⟩⟩; refine ⟨_, rfl, ?_⟩; (try (rw [drewN_self wc]; generalize hq_ : World.drewN wc _ = wc; have n0_ : Aside0 (wc.heap[gb424]? = some (.cells #[.int .i64 0, .int .i64 0, .slice none 0 0] 53 (0, 0))) := ⟨by rw [← hq_]; exact (upK BK424)⟩; have n1_ : Aside0 (Below w.heap.size w wc) := ⟨by rw [← hq_]; exact (upW HB)⟩; clear BK424 HB hq_; have BK424 := n0_; have HB := n1_; clear n0_ n1_))) | ((with_reducible refine gate_callee (f := 132) rfl ?_); refine goesL_ (some 21) rfl rfl Tryz.func132 (by kernel_rfl) rfl #[.slice (some ad427) l0.length c0] rfl itp ?_; (with_reducible refine (slices_Concat_int_int.calls kj1 _ _ l0 t429 _ ?side1 ?side2 A12.out).mono ?_); (case side1 => exact upC (Kd.C_below HR0.out HB.out)); (case side2 => exact HC0.out); rintro e w18 ⟨v430, rfl, ho0, hb⟩; refine ⟨_, rfl, ?_⟩; have HO431 := Aside0.mk (Kd.R_lower ho0 (below_size (upW HB)));replace BK424 := Aside0.mk (blk_below (upK BK424) hb);replace HB := Aside0.mk (below_step (upW HB) hb); (try clear hb ho0); obtain ⟨Ao19, co19, eo19⟩ := Kd.R_slice HO431.out; subst eo19) | ((with_reducible refine gate_callee (f := 175) rfl ?_); refine goesL_ (some 22) rfl rfl Tryz.func175 (by kernel_rfl) rfl #[.int .i64 t428, .slice Ao19 t429.length co19] rfl itp ?_; (with_reducible refine (impl_CutOfSides.calls kj1 t428 _ _ t429 t432 t433 t434 true _ ?side1 ?side2 A13.out).mono ?_); (case side1 => exact upC (Kd.R_reads' HO431.out).2.2); (case side2 => exact (Kd.R_reads' HO431.out).2.1); rintro e w20 ⟨v435, rfl, ho0, hb⟩; refine ⟨_, rfl, ?_⟩; replace HO431 := Aside0.mk (Kd.R_below (upR HO431) hb);have HO436 := Aside0.mk (Kd.R_lower ho0 (below_size (upW HB)));replace BK424 := Aside0.mk (blk_below (upK BK424) hb);replace HB := Aside0.mk (below_step (upW HB) hb); (try clear hb ho0)) | ((with_reducible refine gate_dst (N := 4) rfl ?_); refine boxE 4 (#[.int .i64 0, .int .i64 0, .slice none 0 0]) 53 ?_; intro gb438 hg w21 hbox hb; replace HO431 := Aside0.mk (Kd.R_below (upR HO431) hb);replace HO436 := Aside0.mk (Kd.R_below (upR HO436) hb);have BK438 := Aside0.mk (hbox);have GW438 := Aside0.mk (gz hg HB);have GE438 := Aside0.mk (gz hg HB);replace HB := Aside0.mk (below_step (upW HB) hb);have NB424_438 := Aside0.mk (gn hg BK424);have NB438_424 := Aside0.mk ((by rw [hg]; exact Nat.ne_of_gt (blk_lt (upK BK424)) : gb438 ≠ gb424));replace BK424 := Aside0.mk (blk_below (upK BK424) hb); clear hb hbox hg; have hnb22 := NB438_424.out; have hnc22 := NB424_438.out; obtain ⟨hcz23_0, hcz23_1, hcz23_2, hfz23_0, hfz23_1, hfz23_2⟩ := cz3 BK438 (.int .i64 0) (.int .i64 0) (.slice none 0 0); obtain ⟨Ao24, co24, eo24⟩ := Kd.R_slice HO436.out; subst eo24) | (go_at_call 124; (with_reducible refine (impl_codeOf.calls kj1 t432 t433 _ _ t434 t439 _ ?side1 ?side2 A15.out).mono ?_); (case side1 => refine (Kd.R_reads' (e := 65) (base := w.heap.size) (ok := fun k_ => True) (n := t434.length) (c := co24) ?_).2.2; exact (by (with_reducible repeat (first | apply Kd.R_alloc | apply Kd.R_drewN | apply Kd.R_drew)); exact (Kd.R_far3 HO436 BK438 (.int .i64 t432) (.int .i64 t433) (.slice Ao24 t434.length co24) (fun _ h_ => h_.1)))); (case side2 => exact (Kd.R_reads' HO436.out).2.1); rintro e w25 ⟨v440, rfl, ho0, hb⟩; replace HO436 := Aside0.mk (Kd.R_below (by (with_reducible repeat (first | apply Kd.R_alloc | apply Kd.R_drewN | apply Kd.R_drew)); exact (Kd.R_far3 HO436 BK438 (.int .i64 t432) (.int .i64 t433) (.slice Ao24 t434.length co24) (fun _ h_ => h_.1))) hb);have HO441 := Aside0.mk (Kd.S_lower (Kd.S_new' ho0 (Kd.R_lt (by (with_reducible repeat (first | apply Kd.R_alloc | apply Kd.R_drewN | apply Kd.R_drew)); exact (Kd.R_far3 HO431 BK438 (.int .i64 t432) (.int .i64 t433) (.slice Ao24 t434.length co24) (fun _ h_ => h_.1))))) (below_size (upW HB)));replace HO431 := Aside0.mk (Kd.R_below (by (with_reducible repeat (first | apply Kd.R_alloc | apply Kd.R_drewN | apply Kd.R_drew)); exact (Kd.R_far3 HO431 BK438 (.int .i64 t432) (.int .i64 t433) (.slice Ao24 t434.length co24) (fun _ h_ => h_.1))) hb);replace BK424 := Aside0.mk (blk_below (upF BK424) hb);replace BK438 := Aside0.mk (blk_below (g := gb438) (o := .cells #[.int .i64 t432, .int .i64 t433, .slice Ao24 t434.length co24] 53 (0, 0)) (blk3 BK438 #[.int .i64 t432, .int .i64 t433, .slice none 0 0] #[.int .i64 t432, .int .i64 0, .slice none 0 0]) hb);replace HB := Aside0.mk (below_step (upW HB) hb); (try clear hb ho0); obtain ⟨Ao26, co26, eo26⟩ := Kd.S_slice HO441.out; subst eo26) | (go_at_call 177; (with_reducible refine (impl_sameLists.calls kj1 _ _ t439 _ _ l0 true _ ?side1 ?side2 ?side3 ?side4 A16.out).mono ?_); (case side1 => exact upC (Kd.S_reads' HO441.out).2.2); (case side2 => exact (Kd.S_reads' HO441.out).2.1); (case side3 => exact upC (Kd.C_below HR0.out HB.out)); (case side4 => exact HC0.out); rintro e w27 ⟨rfl, hb⟩; replace HO431 := Aside0.mk (Kd.R_below (upR HO431) hb);replace HO436 := Aside0.mk (Kd.R_below (upR HO436) hb);replace HO441 := Aside0.mk (Kd.S_below (by (with_reducible repeat (first | apply Kd.S_alloc | apply Kd.S_drewN | apply Kd.S_drew)); exact HO441.out) hb);replace BK424 := Aside0.mk (blk_below (upK BK424) hb);replace BK438 := Aside0.mk (blk_below (upK BK438) hb);replace HB := Aside0.mk (below_step (upW HB) hb); (try clear hb); obtain ⟨hcz28_0, hcz28_1, hcz28_2, hfz28_0, hfz28_1, hfz28_2⟩ := cz3 BK438 (.int .i64 t432) (.int .i64 t433) (.slice Ao24 t434.length co24); obtain ⟨hcz29_0, hcz29_1, hcz29_2, hfz29_0, hfz29_1, hfz29_2⟩ := cz3 BK424 (.int .i64 0) (.int .i64 0) (.slice none 0 0))));refine bodyPost_ret (results_ct rfl _ _ gb424 53 #[.int .i64 t432, .int .i64 t433, .slice Ao24 t434.length co24] (0, 0) _ rfl (blk3 BK424 #[.int .i64 t432, .int .i64 t433, .slice none 0 0] #[.int .i64 t432, .int .i64 0, .slice none 0 0]) Tryz.underlying53 rfl (by kernel_rfl)) rfl ?_;exact ⟨_, eqv, by (with_reducible repeat (first | apply Kd.R_alloc | apply Kd.R_drewN | apply Kd.R_drew)); exact Kd.R_far3 HO436 BK424 (.int .i64 t432) (.int .i64 t433) (.slice Ao24 t434.length co24) (fun _ hk => trivial), upW HB⟩
      ·replace c17 := Bool.eq_false_iff.mpr c17;subst c17;(have H1 : (some (0, 0, ([] : List (S65)), false)) = some (r1, r2, r3, r4) := by rw [if_neg (show ¬ (false = true) by decide)] at H; exact H);clear H;have H := H1;clear H1;simp only [Option.some.injEq, Prod.mk.injEq] at H;obtain ⟨rfl, rfl, rfl, rfl⟩ := H;have p427 : 0 ≤ (0 : Int) := (by omega);have q427 : 0 < (l0.length : Int) := oda;obtain ⟨ad427, A427_0, c427_0, e427, hx427_0, hl427_0, hi427_0⟩ := at_L2 HR0.out 0 p427 q427;cases e427;have qi427 : (0 < l0.length) = True := eq_true (by omega);(try rw [show ((0 : Int)).toNat = 0 from rfl] at hx427_0);(try rw [Addr.add_zero'] at hx427_0);replace hx427_0 := cb HB hx427_0;have HR427_0 := Aside0.mk hi427_0;have HC427_0 := Aside0.mk hl427_0;clear hi427_0 hl427_0;replace p427 := eq_true p427;replace q427 := eq_true q427;(go_wp2_with (first | ((with_reducible refine gate_callee (f := 176) rfl ?_); refine goesL_ (some 19) rfl rfl Tryz.func176 (by kernel_rfl) rfl #[.slice A427_0 (rd_L2 l0 0).length c427_0] rfl itp ?_; (with_reducible refine (impl_sum.calls kj1 _ _ (rd_L2 l0 0) t428 _ ?side1 ?side2 A11.out).mono ?_); (case side1 => exact upC (Kd.C_below HR427_0.out HB.out)); (case side2 => exact HC427_0.out); rintro e w' ⟨rfl, ⟨nd, rfl⟩⟩; refine ⟨_, rfl, ?_⟩; (try (rw [drewN_self wc]; generalize hq_ : World.drewN wc _ = wc; have n0_ : Aside0 (wc.heap[gb424]? = some (.cells #[.int .i64 0, .int .i64 0, .slice none 0 0] 53 (0, 0))) := ⟨by rw [← hq_]; exact (upK BK424)⟩; have n1_ : Aside0 (Below w.heap.size w wc) := ⟨by rw [← hq_]; exact (upW HB)⟩; clear BK424 HB hq_; have BK424 := n0_; have HB := n1_; clear n0_ n1_))) | ((with_reducible refine gate_callee (f := 132) rfl ?_); refine goesL_ (some 21) rfl rfl Tryz.func132 (by kernel_rfl) rfl #[.slice (some ad427) l0.length c0] rfl itp ?_; (with_reducible refine (slices_Concat_int_int.calls kj1 _ _ l0 t429 _ ?side1 ?side2 A12.out).mono ?_); (case side1 => exact upC (Kd.C_below HR0.out HB.out)); (case side2 => exact HC0.out); rintro e w30 ⟨v430, rfl, ho0, hb⟩; refine ⟨_, rfl, ?_⟩; have HO431 := Aside0.mk (Kd.R_lower ho0 (below_size (upW HB)));replace BK424 := Aside0.mk (blk_below (upK BK424) hb);replace HB := Aside0.mk (below_step (upW HB) hb); (try clear hb ho0); obtain ⟨Ao31, co31, eo31⟩ := Kd.R_slice HO431.out; subst eo31) | ((with_reducible refine gate_callee (f := 175) rfl ?_); refine goesL_ (some 22) rfl rfl Tryz.func175 (by kernel_rfl) rfl #[.int .i64 t428, .slice Ao31 t429.length co31] rfl itp ?_; (with_reducible refine (impl_CutOfSides.calls kj1 t428 _ _ t429 t432 t433 t434 true _ ?side1 ?side2 A13.out).mono ?_); (case side1 => exact upC (Kd.R_reads' HO431.out).2.2); (case side2 => exact (Kd.R_reads' HO431.out).2.1); rintro e w32 ⟨v435, rfl, ho0, hb⟩; refine ⟨_, rfl, ?_⟩; replace HO431 := Aside0.mk (Kd.R_below (upR HO431) hb);have HO436 := Aside0.mk (Kd.R_lower ho0 (below_size (upW HB)));replace BK424 := Aside0.mk (blk_below (upK BK424) hb);replace HB := Aside0.mk (below_step (upW HB) hb); (try clear hb ho0)) | ((with_reducible refine gate_dst (N := 4) rfl ?_); refine boxE 4 (#[.int .i64 0, .int .i64 0, .slice none 0 0]) 53 ?_; intro gb438 hg w33 hbox hb; replace HO431 := Aside0.mk (Kd.R_below (upR HO431) hb);replace HO436 := Aside0.mk (Kd.R_below (upR HO436) hb);have BK438 := Aside0.mk (hbox);have GW438 := Aside0.mk (gz hg HB);have GE438 := Aside0.mk (gz hg HB);replace HB := Aside0.mk (below_step (upW HB) hb);have NB424_438 := Aside0.mk (gn hg BK424);have NB438_424 := Aside0.mk ((by rw [hg]; exact Nat.ne_of_gt (blk_lt (upK BK424)) : gb438 ≠ gb424));replace BK424 := Aside0.mk (blk_below (upK BK424) hb); clear hb hbox hg; have hnb34 := NB438_424.out; have hnc34 := NB424_438.out; obtain ⟨hcz35_0, hcz35_1, hcz35_2, hfz35_0, hfz35_1, hfz35_2⟩ := cz3 BK438 (.int .i64 0) (.int .i64 0) (.slice none 0 0); obtain ⟨Ao36, co36, eo36⟩ := Kd.R_slice HO436.out; subst eo36) | (go_at_call 124; (with_reducible refine (impl_codeOf.calls kj1 t432 t433 _ _ t434 t439 _ ?side1 ?side2 A15.out).mono ?_); (case side1 => refine (Kd.R_reads' (e := 65) (base := w.heap.size) (ok := fun k_ => True) (n := t434.length) (c := co36) ?_).2.2; exact (by (with_reducible repeat (first | apply Kd.R_alloc | apply Kd.R_drewN | apply Kd.R_drew)); exact (Kd.R_far3 HO436 BK438 (.int .i64 t432) (.int .i64 t433) (.slice Ao36 t434.length co36) (fun _ h_ => h_.1)))); (case side2 => exact (Kd.R_reads' HO436.out).2.1); rintro e w37 ⟨v440, rfl, ho0, hb⟩; replace HO436 := Aside0.mk (Kd.R_below (by (with_reducible repeat (first | apply Kd.R_alloc | apply Kd.R_drewN | apply Kd.R_drew)); exact (Kd.R_far3 HO436 BK438 (.int .i64 t432) (.int .i64 t433) (.slice Ao36 t434.length co36) (fun _ h_ => h_.1))) hb);have HO441 := Aside0.mk (Kd.S_lower (Kd.S_new' ho0 (Kd.R_lt (by (with_reducible repeat (first | apply Kd.R_alloc | apply Kd.R_drewN | apply Kd.R_drew)); exact (Kd.R_far3 HO431 BK438 (.int .i64 t432) (.int .i64 t433) (.slice Ao36 t434.length co36) (fun _ h_ => h_.1))))) (below_size (upW HB)));replace HO431 := Aside0.mk (Kd.R_below (by (with_reducible repeat (first | apply Kd.R_alloc | apply Kd.R_drewN | apply Kd.R_drew)); exact (Kd.R_far3 HO431 BK438 (.int .i64 t432) (.int .i64 t433) (.slice Ao36 t434.length co36) (fun _ h_ => h_.1))) hb);replace BK424 := Aside0.mk (blk_below (upF BK424) hb);replace BK438 := Aside0.mk (blk_below (g := gb438) (o := .cells #[.int .i64 t432, .int .i64 t433, .slice Ao36 t434.length co36] 53 (0, 0)) (blk3 BK438 #[.int .i64 t432, .int .i64 t433, .slice none 0 0] #[.int .i64 t432, .int .i64 0, .slice none 0 0]) hb);replace HB := Aside0.mk (below_step (upW HB) hb); (try clear hb ho0); obtain ⟨Ao38, co38, eo38⟩ := Kd.S_slice HO441.out; subst eo38) | (go_at_call 177; (with_reducible refine (impl_sameLists.calls kj1 _ _ t439 _ _ l0 false _ ?side1 ?side2 ?side3 ?side4 A16.out).mono ?_); (case side1 => exact upC (Kd.S_reads' HO441.out).2.2); (case side2 => exact (Kd.S_reads' HO441.out).2.1); (case side3 => exact upC (Kd.C_below HR0.out HB.out)); (case side4 => exact HC0.out); rintro e w39 ⟨rfl, hb⟩; replace HO431 := Aside0.mk (Kd.R_below (upR HO431) hb);replace HO436 := Aside0.mk (Kd.R_below (upR HO436) hb);replace HO441 := Aside0.mk (Kd.S_below (by (with_reducible repeat (first | apply Kd.S_alloc | apply Kd.S_drewN | apply Kd.S_drew)); exact HO441.out) hb);replace BK424 := Aside0.mk (blk_below (upK BK424) hb);replace BK438 := Aside0.mk (blk_below (upK BK438) hb);replace HB := Aside0.mk (below_step (upW HB) hb); (try clear hb); obtain ⟨hcz40_0, hcz40_1, hcz40_2, hfz40_0, hfz40_1, hfz40_2⟩ := cz3 BK424 (.int .i64 0) (.int .i64 0) (.slice none 0 0))));refine bodyPost_ret (results_ct rfl _ _ gb424 53 #[.int .i64 0, .int .i64 0, .slice none 0 0] (0, 0) _ rfl (blk3 BK424 #[.int .i64 0, .int .i64 0, .slice none 0 0] #[.int .i64 0, .int .i64 0, .slice none 0 0]) Tryz.underlying53 rfl (by kernel_rfl)) rfl ?_;exact ⟨_, eqv, by first | exact Kd.R_nil _ _ _ _ _ | exact Kd.N_nil _ _ _ _ _ | exact Kd.V_nil _ _ _ _ _ | exact Kd.Q_nil _ _ _ _ _ | exact Kd.S_nil _ _ _ _ _, upW HB⟩
     ·replace c14 := Bool.eq_false_iff.mpr c14;subst c14;(have H1 : (some (0, 0, ([] : List (S65)), false)) = some (r1, r2, r3, r4) := by rw [if_neg (show ¬ (false = true) by decide)] at H; exact H);clear H;have H := H1;clear H1;simp only [Option.some.injEq, Prod.mk.injEq] at H;obtain ⟨rfl, rfl, rfl, rfl⟩ := H;have p427 : 0 ≤ (0 : Int) := (by omega);have q427 : 0 < (l0.length : Int) := oda;obtain ⟨ad427, A427_0, c427_0, e427, hx427_0, hl427_0, hi427_0⟩ := at_L2 HR0.out 0 p427 q427;cases e427;have qi427 : (0 < l0.length) = True := eq_true (by omega);(try rw [show ((0 : Int)).toNat = 0 from rfl] at hx427_0);(try rw [Addr.add_zero'] at hx427_0);replace hx427_0 := cb HB hx427_0;have HR427_0 := Aside0.mk hi427_0;have HC427_0 := Aside0.mk hl427_0;clear hi427_0 hl427_0;replace p427 := eq_true p427;replace q427 := eq_true q427;(go_wp2_with (first | ((with_reducible refine gate_callee (f := 176) rfl ?_); refine goesL_ (some 19) rfl rfl Tryz.func176 (by kernel_rfl) rfl #[.slice A427_0 (rd_L2 l0 0).length c427_0] rfl itp ?_; (with_reducible refine (impl_sum.calls kj1 _ _ (rd_L2 l0 0) t428 _ ?side1 ?side2 A11.out).mono ?_); (case side1 => exact upC (Kd.C_below HR427_0.out HB.out)); (case side2 => exact HC427_0.out); rintro e w' ⟨rfl, ⟨nd, rfl⟩⟩; refine ⟨_, rfl, ?_⟩; (try (rw [drewN_self wc]; generalize hq_ : World.drewN wc _ = wc; have n0_ : Aside0 (wc.heap[gb424]? = some (.cells #[.int .i64 0, .int .i64 0, .slice none 0 0] 53 (0, 0))) := ⟨by rw [← hq_]; exact (upK BK424)⟩; have n1_ : Aside0 (Below w.heap.size w wc) := ⟨by rw [← hq_]; exact (upW HB)⟩; clear BK424 HB hq_; have BK424 := n0_; have HB := n1_; clear n0_ n1_))) | ((with_reducible refine gate_callee (f := 132) rfl ?_); refine goesL_ (some 21) rfl rfl Tryz.func132 (by kernel_rfl) rfl #[.slice (some ad427) l0.length c0] rfl itp ?_; (with_reducible refine (slices_Concat_int_int.calls kj1 _ _ l0 t429 _ ?side1 ?side2 A12.out).mono ?_); (case side1 => exact upC (Kd.C_below HR0.out HB.out)); (case side2 => exact HC0.out); rintro e w41 ⟨v430, rfl, ho0, hb⟩; refine ⟨_, rfl, ?_⟩; have HO431 := Aside0.mk (Kd.R_lower ho0 (below_size (upW HB)));replace BK424 := Aside0.mk (blk_below (upK BK424) hb);replace HB := Aside0.mk (below_step (upW HB) hb); (try clear hb ho0); obtain ⟨Ao42, co42, eo42⟩ := Kd.R_slice HO431.out; subst eo42) | ((with_reducible refine gate_callee (f := 175) rfl ?_); refine goesL_ (some 22) rfl rfl Tryz.func175 (by kernel_rfl) rfl #[.int .i64 t428, .slice Ao42 t429.length co42] rfl itp ?_; (with_reducible refine (impl_CutOfSides.calls kj1 t428 _ _ t429 t432 t433 t434 false _ ?side1 ?side2 A13.out).mono ?_); (case side1 => exact upC (Kd.R_reads' HO431.out).2.2); (case side2 => exact (Kd.R_reads' HO431.out).2.1); rintro e w43 ⟨v435, rfl, ho0, hb⟩; refine ⟨_, rfl, ?_⟩; replace HO431 := Aside0.mk (Kd.R_below (upR HO431) hb);have HO436 := Aside0.mk (Kd.R_lower ho0 (below_size (upW HB)));replace BK424 := Aside0.mk (blk_below (upK BK424) hb);replace HB := Aside0.mk (below_step (upW HB) hb); (try clear hb ho0)) | ((with_reducible refine gate_dst (N := 4) rfl ?_); refine boxE 4 (#[.int .i64 0, .int .i64 0, .slice none 0 0]) 53 ?_; intro gb438 hg w44 hbox hb; replace HO431 := Aside0.mk (Kd.R_below (upR HO431) hb);replace HO436 := Aside0.mk (Kd.R_below (upR HO436) hb);have BK438 := Aside0.mk (hbox);have GW438 := Aside0.mk (gz hg HB);have GE438 := Aside0.mk (gz hg HB);replace HB := Aside0.mk (below_step (upW HB) hb);have NB424_438 := Aside0.mk (gn hg BK424);have NB438_424 := Aside0.mk ((by rw [hg]; exact Nat.ne_of_gt (blk_lt (upK BK424)) : gb438 ≠ gb424));replace BK424 := Aside0.mk (blk_below (upK BK424) hb); clear hb hbox hg; have hnb45 := NB438_424.out; have hnc45 := NB424_438.out; obtain ⟨hcz46_0, hcz46_1, hcz46_2, hfz46_0, hfz46_1, hfz46_2⟩ := cz3 BK438 (.int .i64 0) (.int .i64 0) (.slice none 0 0); obtain ⟨Ao47, co47, eo47⟩ := Kd.R_slice HO436.out; subst eo47; obtain ⟨hcz48_0, hcz48_1, hcz48_2, hfz48_0, hfz48_1, hfz48_2⟩ := cz3 BK424 (.int .i64 0) (.int .i64 0) (.slice none 0 0))));refine bodyPost_ret (results_ct rfl _ _ gb424 53 #[.int .i64 0, .int .i64 0, .slice none 0 0] (0, 0) _ rfl (by (with_reducible repeat (first | refine blk_drewN ?_ _ | refine blk_drew ?_ | refine blk_alloc ?_ _)); refine blk_put (cs := #[.int .i64 0, .int .i64 0, .slice none 0 0]) ?_ 2 _ rfl; (with_reducible repeat (first | refine blk_drewN ?_ _ | refine blk_drew ?_ | refine blk_alloc ?_ _)); refine blk_put (cs := #[.int .i64 0, .int .i64 0, .slice none 0 0]) ?_ 1 _ rfl; (with_reducible repeat (first | refine blk_drewN ?_ _ | refine blk_drew ?_ | refine blk_alloc ?_ _)); refine blk_put (cs := #[.int .i64 0, .int .i64 0, .slice none 0 0]) ?_ 0 _ rfl; (with_reducible repeat (first | refine blk_drewN ?_ _ | refine blk_drew ?_ | refine blk_alloc ?_ _)); refine blk_far ?_ NB424_438.out _; (with_reducible repeat (first | refine blk_drewN ?_ _ | refine blk_drew ?_ | refine blk_alloc ?_ _)); refine blk_far ?_ NB424_438.out _; (with_reducible repeat (first | refine blk_drewN ?_ _ | refine blk_drew ?_ | refine blk_alloc ?_ _)); refine blk_far ?_ NB424_438.out _; (with_reducible repeat (first | refine blk_drewN ?_ _ | refine blk_drew ?_ | refine blk_alloc ?_ _)); exact BK424.out) Tryz.underlying53 rfl (by kernel_rfl)) rfl ?_;exact ⟨_, eqv, by first | exact Kd.R_nil _ _ _ _ _ | exact Kd.N_nil _ _ _ _ _ | exact Kd.V_nil _ _ _ _ _ | exact Kd.Q_nil _ _ _ _ _ | exact Kd.S_nil _ _ _ _ _, upW HB⟩
    ·rw [if_neg c10] at H;exact absurd H (by simp)

/-! ### impl_IsCutCode: function 66 -/
def impl_IsCutCode.f (k : Nat) (l0 : List (List Int)) : Option (Bool) := (impl_CutOfCode.f k l0).bind fun bt443 => (some bt443.2.2.2)
set_option maxHeartbeats 8000000 in
set_option maxRecDepth 100000 in
theorem impl_IsCutCode.calls (k : Nat) (A0 : Option Addr) (c0 : Nat) (l0 : List (List Int)) (r : Bool) (w : World) (hr0 : Kd.C (Kd.slice 3 (Kd.int .i64)) w A0 l0.length l0) (hc0 : l0.length ≤ c0) (h : impl_IsCutCode.f k l0 = some r) :
  Calls Tryz.prog 66 #[.slice A0 l0.length c0] w fun e w' => e = .returned (.bool r) ∧ Below w.heap.size w w' := by
 have hu53 := Tryz.underlying53;have HR0 := Aside0.mk hr0;have HC0 := Aside0.mk hc0;clear hr0 hc0;have HB := Aside0.mk (Below.refl w.heap.size w);have H : ((impl_CutOfCode.f k l0).bind fun bt443 => (some bt443.2.2.2)) = some r := h;clear h;replace H := Option.bind_eq_some_iff.mp H;obtain ⟨⟨t443, t444, t445, t448⟩, A20, H⟩ := H;replace H : (some t448) = some r := H;have A2 := Aside0.mk A20;clear A20;obtain rfl := Option.some.inj H;go_enter Tryz.func66, Tryz.ntmps66;(go_wp2_with (first | ((with_reducible refine gate_callee (f := 123) rfl ?_); refine goesL_ (some 7) rfl rfl Tryz.func123 (by kernel_rfl) rfl #[.slice A0 l0.length c0] rfl itp ?_; (with_reducible refine (impl_CutOfCode.calls k _ _ l0 t443 t444 t445 t448 _ ?side1 ?side2 A2.out).mono ?_); (case side1 => exact upC HR0.out); (case side2 => exact HC0.out); rintro e w3 ⟨v446, rfl, ho0, hb⟩; refine ⟨_, rfl, ?_⟩; have HO447 := Aside0.mk (Kd.R_lower ho0 (below_size (upW HB)));replace HB := Aside0.mk (below_step (upW HB) hb); (try clear hb ho0)) | ((with_reducible refine gate_dst (N := 3) rfl ?_); refine boxE 3 (#[.int .i64 0, .int .i64 0, .slice none 0 0]) 53 ?_; intro gb449 hg w4 hbox hb; replace HO447 := Aside0.mk (Kd.R_below (upR HO447) hb);have BK449 := Aside0.mk (hbox);have GW449 := Aside0.mk (gz hg HB);have GE449 := Aside0.mk (gz hg HB);replace HB := Aside0.mk (below_step (upW HB) hb); clear hb hbox hg; obtain ⟨hcz5_0, hcz5_1, hcz5_2, hfz5_0, hfz5_1, hfz5_2⟩ := cz3 BK449 (.int .i64 0) (.int .i64 0) (.slice none 0 0); obtain ⟨Ao6, co6, eo6⟩ := Kd.R_slice HO447.out; subst eo6)));go_ret;exact ⟨eqv, upW HB⟩

-- NOT PRINTED: function 182 (stringslite_HasPrefix)

-- NOT PRINTED: function 138 (stringslite_CutPrefix)

/-! the table that Itoa reads: what it holds, wherever the call's world has gone on -/
def VT (w : World) : Prop := Lib.TabIs Tryz.prog w "internal/strconv.uint64pow10" .u64 Lib.pow10Tab ∧ (∃ t p, w.var? Tryz.prog "strconv.ErrSyntax" = some #[.iface t p]) ∧ (∃ t p, w.var? Tryz.prog "strconv.ErrRange" = some #[.iface t p]) ∧ (∃ m, w.cell? ⟨0, 0, none⟩ = some (.int .i64 m))
theorem var_up {n : String} {w w' : World} {z : Array Value} (h : w.var? Tryz.prog n = some z) (hb : Below w.heap.size w w') : w'.var? Tryz.prog n = some z := by
 unfold World.var? at h ⊢
 cases hg : Tryz.prog.globalNamed n with
 | none => rw [hg] at h; simp at h
 | some g =>
  rw [hg] at h;simp only [Option.bind_some] at h ⊢
  have hlt : g < w.heap.size := by
   (rcases Nat.lt_or_ge g w.heap.size with h' | h')
   ·exact h'
   ·(rw [Array.getElem?_eq_none h'] at h; cases h)
  rw [hb.block _ hlt];exact h
theorem vup {w w' : World} (h : VT w) (hb : Below w.heap.size w w') : VT w' := by
 obtain ⟨h1, ⟨t2, p2, h2⟩, ⟨t3, p3, h3⟩, ⟨m, h4⟩⟩ := h;exact ⟨var_up h1 hb, ⟨t2, p2, var_up h2 hb⟩, ⟨t3, p3, var_up h3 hb⟩, ⟨m, (hb.cell (World.block_lt_of_cell? w _ h4)).trans h4⟩⟩
theorem vt_grow (w : World) (k : Nat) (os : Array Obj) : Below w.heap.size w (Sort.grow (w.drewN k) os) :=
 ⟨rfl, rfl, rfl, by simp [Sort.grow, World.drewN], fun j hj => by simp only [Sort.grow]; exact Array.getElem?_append_left hj⟩

/-! ### strings_CutPrefix: function 73 -/
def strings_CutPrefix_lay_ren : Go.Shelf.Ren := ⟨fun | 103 => 73 | 210 => 138 | 206 => 182 | n => n, fun | 9 => 9 | 4 => 4 | 24 => 37 | 3 => 3 | n => n, fun | n => n⟩
theorem strings_CutPrefix_lay : Go.Proofs.Lays.n103 Tryz.prog strings_CutPrefix_lay_ren where
 mixed := by kernel_rfl
 f103 := Tryz.func73.trans (congrArg some (by kernel_rfl))
 f206 := Tryz.func182.trans (congrArg some (by kernel_rfl))
 f210 := Tryz.func138.trans (congrArg some (by kernel_rfl))
 t3 := Tryz.underlying3
 a3 := Tryz.isAgg3
 z3 := Tryz.sizeOf3
 v3 := Tryz.zeroValue3
 t4 := Tryz.underlying4
 a4 := Tryz.isAgg4
 z4 := Tryz.sizeOf4
 v4 := Tryz.zeroValue4
 t9 := Tryz.underlying9
 a9 := Tryz.isAgg9
 z9 := Tryz.sizeOf9
 v9 := Tryz.zeroValue9
 t24 := Tryz.underlying37
 a24 := Tryz.isAgg37
 z24 := Tryz.sizeOf37
 v24 := Tryz.zeroValue37
def strings_CutPrefix.f (s p : ByteArray) : Option (ByteArray × Bool) := some (⟨(Lib.trimPrefix s.data.toList p.data.toList).toArray⟩, Lib.hasPrefix s.data.toList p.data.toList)
theorem strings_CutPrefix.calls (s p : ByteArray) (r1 : ByteArray) (r2 : Bool) (w : World) (h : strings_CutPrefix.f s p = some (r1, r2)) :
  Calls Tryz.prog 73 #[.string s, .string p] w fun e w' => e = .returned (.tuple #[.string r1, .bool r2]) ∧ Drawn0 w w' := by
 unfold strings_CutPrefix.f at h;have h := Option.some.inj h;simp only [Prod.mk.injEq] at h;obtain ⟨rfl, rfl⟩ := h;refine (Any.strings_CutPrefix strings_CutPrefix_lay s p w).mono ?_;rintro e w' ⟨rfl, rfl⟩;exact ⟨rfl, Drawn0.refl _⟩

-- NOT PRINTED: function 183 (stringslite_HasSuffix)

-- NOT PRINTED: function 139 (stringslite_CutSuffix)

/-! ### strings_CutSuffix: function 74 -/
def strings_CutSuffix_lay_ren : Go.Shelf.Ren := ⟨fun | 104 => 74 | 211 => 139 | 207 => 183 | n => n, fun | 9 => 9 | 4 => 4 | 24 => 37 | 3 => 3 | n => n, fun | n => n⟩
theorem strings_CutSuffix_lay : Go.Proofs.Lays.n104 Tryz.prog strings_CutSuffix_lay_ren where
 mixed := by kernel_rfl
 f104 := Tryz.func74.trans (congrArg some (by kernel_rfl))
 f207 := Tryz.func183.trans (congrArg some (by kernel_rfl))
 f211 := Tryz.func139.trans (congrArg some (by kernel_rfl))
 t3 := Tryz.underlying3
 a3 := Tryz.isAgg3
 z3 := Tryz.sizeOf3
 v3 := Tryz.zeroValue3
 t4 := Tryz.underlying4
 a4 := Tryz.isAgg4
 z4 := Tryz.sizeOf4
 v4 := Tryz.zeroValue4
 t9 := Tryz.underlying9
 a9 := Tryz.isAgg9
 z9 := Tryz.sizeOf9
 v9 := Tryz.zeroValue9
 t24 := Tryz.underlying37
 a24 := Tryz.isAgg37
 z24 := Tryz.sizeOf37
 v24 := Tryz.zeroValue37
def strings_CutSuffix.f (s p : ByteArray) : Option (ByteArray × Bool) := if s.size ≤ 2000000 then some (⟨(Lib.trimSuffix s.data.toList p.data.toList).toArray⟩, Lib.hasSuffix s.data.toList p.data.toList) else none
theorem strings_CutSuffix.calls (s p : ByteArray) (r1 : ByteArray) (r2 : Bool) (w : World) (h : strings_CutSuffix.f s p = some (r1, r2)) :
  Calls Tryz.prog 74 #[.string s, .string p] w fun e w' => e = .returned (.tuple #[.string r1, .bool r2]) ∧ Drawn0 w w' := by
 unfold strings_CutSuffix.f at h;(by_cases h1 : s.size ≤ 2000000)
 ·rw [if_pos h1] at h;have h := Option.some.inj h;simp only [Prod.mk.injEq] at h;obtain ⟨rfl, rfl⟩ := h;refine (Any.strings_CutSuffix strings_CutSuffix_lay s p w (by omega)).mono ?_;rintro e w' ⟨rfl, rfl⟩;exact ⟨rfl, Drawn0.refl _⟩
 ·rw [if_neg h1] at h;cases h

-- NOT PRINTED: function 208 (utf8_RuneCountInString)

-- NOT PRINTED: function 235 (utf8_decodeRuneInStringSlow)

-- NOT PRINTED: function 209 (utf8_DecodeRuneInString)

-- NOT PRINTED: function 184 (strings_explode)

-- NOT PRINTED: function 243 (bytealg_IndexByteString)

-- NOT PRINTED: function 219 (stringslite_IndexByte)

-- NOT PRINTED: function 220 (bytealg_IndexString)

-- NOT PRINTED: function 221 (bytealg_Cutover)

-- NOT PRINTED: function 244 (bytealg_hashStr_string)

-- NOT PRINTED: function 222 (bytealg_IndexRabinKarp_string)

-- NOT PRINTED: function 193 (stringslite_Index)

-- NOT PRINTED: function 186 (strings_Index)

-- NOT PRINTED: function 210 (bytealg_CountString)

-- NOT PRINTED: function 185 (strings_Count)

-- NOT PRINTED: function 140 (strings_genSplit)

/-! ### strings_Split: function 75 -/
def strings_Split_lay_ren : Go.Shelf.Ren := ⟨fun | 146 => 75 | 221 => 140 | 268 => 184 | 138 => 185 | 143 => 186 | 195 => 208 | 197 => 209 | 218 => 210 | 219 => 193 | 260 => 235 | 217 => 219 | 225 => 220 | 224 => 221 | 267 => 222 | 266 => 243 | 314 => 244 | n => n, fun | 9 => 9 | 31 => 78 | 3 => 3 | 4 => 4 | 0 => 0 | 105 => 161 | 21 => 21 | 5 => 5 | 46 => 158 | 119 => 210 | 139 => 213 | 138 => 212 | 146 => 196 | 51 => 183 | n => n, fun | 1 => 0 | 3 => 3 | 4 => 4 | n => n⟩
theorem strings_Split_lay : Go.Proofs.Lays.n146 Tryz.prog strings_Split_lay_ren where
 mixed := by kernel_rfl
 f138 := Tryz.func185.trans (congrArg some (by kernel_rfl))
 f143 := Tryz.func186.trans (congrArg some (by kernel_rfl))
 f146 := Tryz.func75.trans (congrArg some (by kernel_rfl))
 f195 := Tryz.func208.trans (congrArg some (by kernel_rfl))
 f197 := Tryz.func209.trans (congrArg some (by kernel_rfl))
 f217 := Tryz.func219.trans (congrArg some (by kernel_rfl))
 f218 := Tryz.func210.trans (congrArg some (by kernel_rfl))
 f219 := Tryz.func193.trans (congrArg some (by kernel_rfl))
 f221 := Tryz.func140.trans (congrArg some (by kernel_rfl))
 f224 := Tryz.func221.trans (congrArg some (by kernel_rfl))
 f225 := Tryz.func220.trans (congrArg some (by kernel_rfl))
 f260 := Tryz.func235.trans (congrArg some (by kernel_rfl))
 f266 := Tryz.func243.trans (congrArg some (by kernel_rfl))
 f267 := Tryz.func222.trans (congrArg some (by kernel_rfl))
 f268 := Tryz.func184.trans (congrArg some (by kernel_rfl))
 f314 := Tryz.func244.trans (congrArg some (by kernel_rfl))
 t0 := Tryz.underlying0
 a0 := Tryz.isAgg0
 z0 := Tryz.sizeOf0
 v0 := Tryz.zeroValue0
 t3 := Tryz.underlying3
 a3 := Tryz.isAgg3
 z3 := Tryz.sizeOf3
 v3 := Tryz.zeroValue3
 t4 := Tryz.underlying4
 a4 := Tryz.isAgg4
 z4 := Tryz.sizeOf4
 v4 := Tryz.zeroValue4
 t5 := Tryz.underlying5
 a5 := Tryz.isAgg5
 z5 := Tryz.sizeOf5
 v5 := Tryz.zeroValue5
 t9 := Tryz.underlying9
 a9 := Tryz.isAgg9
 z9 := Tryz.sizeOf9
 v9 := Tryz.zeroValue9
 t21 := Tryz.underlying21
 a21 := Tryz.isAgg21
 z21 := Tryz.sizeOf21
 v21 := Tryz.zeroValue21
 t31 := Tryz.underlying78
 a31 := Tryz.isAgg78
 z31 := Tryz.sizeOf78
 v31 := Tryz.zeroValue78
 t46 := Tryz.underlying158
 a46 := Tryz.isAgg158
 z46 := Tryz.sizeOf158
 v46 := Tryz.zeroValue158
 t51 := Tryz.underlying183
 a51 := Tryz.isAgg183
 z51 := Tryz.sizeOf183
 v51 := Tryz.zeroValue183
 t105 := Tryz.underlying161
 a105 := Tryz.isAgg161
 z105 := Tryz.sizeOf161
 v105 := Tryz.zeroValue161
 t119 := Tryz.underlying210
 a119 := Tryz.isAgg210
 z119 := Tryz.sizeOf210
 t138 := Tryz.underlying212
 a138 := Tryz.isAgg212
 z138 := Tryz.sizeOf212
 v138 := Tryz.zeroValue212
 t139 := Tryz.underlying213
 a139 := Tryz.isAgg213
 z139 := Tryz.sizeOf213
 v139 := Tryz.zeroValue213
 t146 := Tryz.underlying196
 a146 := Tryz.isAgg196
 z146 := Tryz.sizeOf196
 v146 := Tryz.zeroValue196
 g1 := by kernel_rfl
 g3 := by kernel_rfl
 g4 := by kernel_rfl
theorem strings_Split_i9 : (Tryz.prog.info? (strings_Split_lay_ren.t 9)).map (fun i => (i.zero, i.size, i.bytes)) = some (some (.string ByteArray.empty), 1, 16) := by kernel_rfl
def strings_Split.f (s sep : ByteArray) : Option (List ByteArray) := if s.size ≤ 2000000 ∧ 1 ≤ sep.size then some (Lib.splitB sep 0 (Lib.countB s sep) s) else none
theorem strings_Split.calls (s sep : ByteArray) (r : List ByteArray) (w : World) (h : strings_Split.f s sep = some r) (hT_ : Aside0 (VT w)) :
  Calls Tryz.prog 75 #[.string s, .string sep] w fun e w' => ∃ v0_ : Value, e = .returned v0_ ∧ Kd.R Kd.string 9 w' w.heap.size (fun _ => True) v0_ r ∧ Below w.heap.size w w' := by
 unfold strings_Split.f at h;(by_cases h1 : s.size ≤ 2000000 ∧ 1 ≤ sep.size)
 ·rw [if_pos h1] at h;obtain rfl := Option.some.inj h;obtain ⟨_, _, _, m, hm⟩ := hT_.out;have hlen := Lib.splitB_all sep h1.2 0 _ s rfl;have hle := Lib.countB_le sep h1.2 s.size s (Nat.le_refl _);refine (Any.strings_Split strings_Split_lay strings_Split_i9 s sep m w (by omega) hm h1.2).mono ?_;rintro e w' ⟨rfl, rfl⟩;rw [← hlen];refine ⟨_, rfl, ?_, below_alloc (Below.refl _ _) _⟩;exact Kd.R_of_own (own_lit_of w w.heap.size 9 _ (Nat.le_refl _) (by omega)) (fun _ _ => trivial)
 ·rw [if_neg h1] at h;cases h

-- NOT PRINTED: function 259 (strconv_lower)

-- NOT PRINTED: function 260 (strconv_underscoreOK)

-- NOT PRINTED: function 236 (strconv_ParseUint)

-- NOT PRINTED: function 211 (strconv_ParseInt)

-- NOT PRINTED: function 187 (strconv_Atoi_187)

-- NOT PRINTED: function 237 (stringslite_Clone)

-- NOT PRINTED: function 212 (strconv_syntaxError)

-- NOT PRINTED: function 213 (strconv_rangeError)

-- NOT PRINTED: function 239 (strconv_small)

-- NOT PRINTED: function 233 (bits_Len64)

-- NOT PRINTED: function 261 (strconv_log10Pow2)

-- NOT PRINTED: function 262 (strconv_bool2_int)

-- NOT PRINTED: function 240 (strconv_numDigits)

-- NOT PRINTED: function 241 (strconv_formatBase10)

-- NOT PRINTED: function 263 (strconv_isPowerOfTwo)

-- NOT PRINTED: function 270 (bits_TrailingZeros32)

-- NOT PRINTED: function 271 (bits_TrailingZeros64)

-- NOT PRINTED: function 264 (bits_TrailingZeros)

-- NOT PRINTED: function 242 (strconv_formatBits)

-- NOT PRINTED: function 216 (strconv_FormatInt)

-- NOT PRINTED: function 189 (strconv_Itoa_189)

end Go.Proofs.YtnmaeekclpmmnaaGreatDoor.PFnExactParseCode
