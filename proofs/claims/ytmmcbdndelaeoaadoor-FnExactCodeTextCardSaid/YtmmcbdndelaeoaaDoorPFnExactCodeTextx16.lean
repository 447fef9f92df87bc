-- made for this claim by a program of this session
import Derived.Test.YtmmcbdndelaeoaaDoorPFnExactCodeTextx0
import Derived.Test.YtmmcbdndelaeoaaDoorPFnExactCodeTextx6
import Derived.Test.YtmmcbdndelaeoaaDoorPFnExactCodeTextx13
import Derived.Test.YtmmcbdndelaeoaaDoorPFnExactCodeTextx14
import Derived.Test.YtmmcbdndelaeoaaDoorPFnExactCodeTextx15
namespace Go.Proofs.YtmmcbdndelaeoaaDoor.PFnExactCodeText
open Go.RowKit Go.Proofs.YtmmcbdndelaeoaaDoorW.PrintWords Go.Proofs.YtmmcbdndelaeoaaDoorW.PrintLast Go.Proofs.YtmmcbdndelaeoaaDoorW.PrintMore
attribute [local go_sem] max2_int min2_int max_two min_two max_three min_three max_four min_four   -- for this text's walks alone
set_option linter.unusedVariables false
set_option linter.unusedSimpArgs false

/-! ### slices_IndexFunc_int_int__impl_CutOfCode_1: function 100010 -/
def slices_IndexFunc_int_int__impl_CutOfCode_1.l0 : Nat → List (List Int) → Int → Int → Option (Int)
 | 0, _, _, _ => none
 | k + 1, x0, x7, x8 => if x8 < x7 then (if 0 ≤ x8 then (if x8 < (x0.length : Int) then ((impl_CutOfCode_1.f (rd_L1 x0 x8)).bind fun t423 => (if t423 = true then (some x8) else (slices_IndexFunc_int_int__impl_CutOfCode_1.l0 k x0 x7 (wrap64 (x8 + 1))))) else (none)) else (none)) else (some (-1))
def slices_IndexFunc_int_int__impl_CutOfCode_1.f (k : Nat) (l0 : List (List Int))  : Option (Int) := slices_IndexFunc_int_int__impl_CutOfCode_1.l0 k l0 (l0.length : Int) 0
set_option maxHeartbeats 8000000 in
set_option maxRecDepth 100000 in
theorem slices_IndexFunc_int_int__impl_CutOfCode_1.calls (k : Nat) (A0 : Option Addr) (c0 : Nat) (l0 : List (List Int))  (r : Int) (w : World) (hr0 : Kd.C (Kd.slice 3 (Kd.int .i64)) w A0 l0.length l0) (hc0 : l0.length ≤ c0) (h : slices_IndexFunc_int_int__impl_CutOfCode_1.f k l0 = some r) :
  Calls Tryd.prog 118 #[.slice A0 l0.length c0, .func (.func 102) #[] #[]] w fun e w' => e = .returned (.int .i64 r) ∧ Below w.heap.size w w' := by
 have HR0 := Aside0.mk hr0;have HC0 := Aside0.mk hc0;clear hr0 hc0;have HB := Aside0.mk (Below.refl w.heap.size w);have H : (slices_IndexFunc_int_int__impl_CutOfCode_1.l0 k l0 (l0.length : Int) 0) = some r := h;clear h;have H' := Aside0.mk H;clear H;go_enter Tryd.func118, Tryd.ntmps118;go_wp2;(go_loopg [8] k (fun kq v8 w' => ∃ (x8_1 : Int), v8 = .int .i64 x8_1 ∧ Aside0 (slices_IndexFunc_int_int__impl_CutOfCode_1.l0 kq l0 (l0.length : Int) x8_1 = some r) ∧ Aside0 (kq ≤ k) ∧ Aside0 (Below w.heap.size w w')));(case atStart => exact ⟨(0), (eqw), H', ⟨Nat.le_refl _⟩, ⟨upW HB⟩⟩)
 case round =>
  clear H';obtain ⟨x8_1, rfl, HA, HK1, HB⟩ := hrel
  cases gk with
  | zero => exact absurd HA.out (by simp [slices_IndexFunc_int_int__impl_CutOfCode_1.l0])
  | succ k1 =>
   have H := HA.out;clear HA;simp only [slices_IndexFunc_int_int__impl_CutOfCode_1.l0] at H;(by_cases c3 : x8_1 < (l0.length : Int))
   ·rw [if_pos c3] at H;have c3b0 := decide_eq_true c3;clear c3;(by_cases c4 : 0 ≤ x8_1)
    ·rw [if_pos c4] at H;have c4b0 := decide_eq_true c4;clear c4;(by_cases c5 : x8_1 < (l0.length : Int))
     ·rw [if_pos c5] at H;have c5b0 := decide_eq_true c5;clear c5;replace H := Option.bind_eq_some_iff.mp H;obtain ⟨t423, A60, H⟩ := H;replace H : (if t423 = true then (some x8_1) else (slices_IndexFunc_int_int__impl_CutOfCode_1.l0 k1 l0 (l0.length : Int) (wrap64 (x8_1 + 1)))) = some r := H;have A6 := Aside0.mk A60;clear A60;(by_cases c7 : t423 = true)
      ·subst c7;(have H1 : (some x8_1) = some r := by rw [if_pos rfl] at H; exact H);clear H;have H := H1;clear H1;obtain rfl := Option.some.inj H;have p422 : 0 ≤ (x8_1 : Int) := oda;have q422 : x8_1 < (l0.length : Int) := oda;obtain ⟨ad422, A422_0, c422_0, e422, hx422_0, hl422_0, hi422_0⟩ := at_L1 HR0.out x8_1 p422 q422;cases e422;replace hx422_0 := cb HB hx422_0;have HR422_0 := Aside0.mk hi422_0;have HC422_0 := Aside0.mk hl422_0;clear hi422_0 hl422_0;replace p422 := eq_true p422;replace q422 := eq_true q422;(go_wp2_with (first | ((first | (with_reducible refine gate_callee (f := 102) rfl ?_) | refine gate_calleev (f := 102) rfl (by rfl) ?_); (first | (refine goesL_ (some 16) rfl rfl Tryd.func102 (by kernel_rfl) rfl #[.slice A422_0 (rd_L1 l0 x8_1).length c422_0] rfl itp ?_) | (refine goesvL_ (some 16) rfl rfl Tryd.func102 (by kernel_rfl) rfl #[.slice A422_0 (rd_L1 l0 x8_1).length c422_0] rfl (by rfl) itpv ?_)); (with_reducible refine (impl_CutOfCode_1.calls _ _ (rd_L1 l0 x8_1) true _ ?side1 ?side2 A6.out).mono ?_); (case side1 => exact upC (Kd.C_below HR422_0.out HB.out)); (case side2 => exact HC422_0.out); rintro e w8 ⟨rfl, hb⟩; refine ⟨_, rfl, ?_⟩; replace HB := Aside0.mk (below_step (upW HB) hb); (try clear hb))));go_ret;exact ⟨eqv, upW HB⟩
      ·replace c7 := Bool.eq_false_iff.mpr c7;subst c7;(have H1 : (slices_IndexFunc_int_int__impl_CutOfCode_1.l0 k1 l0 (l0.length : Int) (wrap64 (x8_1 + 1))) = some r := by rw [if_neg (show ¬ (false = true) by decide)] at H; exact H);clear H;have H := H1;clear H1;have H' := Aside0.mk H;clear H;have p422 : 0 ≤ (x8_1 : Int) := oda;have q422 : x8_1 < (l0.length : Int) := oda;obtain ⟨ad422, A422_0, c422_0, e422, hx422_0, hl422_0, hi422_0⟩ := at_L1 HR0.out x8_1 p422 q422;cases e422;replace hx422_0 := cb HB hx422_0;have HR422_0 := Aside0.mk hi422_0;have HC422_0 := Aside0.mk hl422_0;clear hi422_0 hl422_0;replace p422 := eq_true p422;replace q422 := eq_true q422;(go_wp2_with (first | ((first | (with_reducible refine gate_callee (f := 102) rfl ?_) | refine gate_calleev (f := 102) rfl (by rfl) ?_); (first | (refine goesL_ (some 16) rfl rfl Tryd.func102 (by kernel_rfl) rfl #[.slice A422_0 (rd_L1 l0 x8_1).length c422_0] rfl itp ?_) | (refine goesvL_ (some 16) rfl rfl Tryd.func102 (by kernel_rfl) rfl #[.slice A422_0 (rd_L1 l0 x8_1).length c422_0] rfl (by rfl) itpv ?_)); (with_reducible refine (impl_CutOfCode_1.calls _ _ (rd_L1 l0 x8_1) false _ ?side1 ?side2 A6.out).mono ?_); (case side1 => exact upC (Kd.C_below HR422_0.out HB.out)); (case side2 => exact HC422_0.out); rintro e w9 ⟨rfl, hb⟩; refine ⟨_, rfl, ?_⟩; replace HB := Aside0.mk (below_step (upW HB) hb); (try clear hb))));go_roundg k1;(case measure => have := HK1.out; omega);(case rel => exact ⟨(wrap64 (x8_1 + 1)), (eqw), H', ⟨by have := HK1.out; omega⟩, ⟨upW HB⟩⟩)
     ·rw [if_neg c5] at H;exact absurd H (by simp)
    ·rw [if_neg c4] at H;exact absurd H (by simp)
   ·rw [if_neg c3] at H;have c3b0 := decide_eq_false c3;clear c3;obtain rfl := Option.some.inj H;go_wp2;go_ret;exact ⟨eqv, upW HB⟩

/-! ### slices_ContainsFunc_int_int__impl_CutOfCode_1: function 100009 -/
def slices_ContainsFunc_int_int__impl_CutOfCode_1.f (k : Nat) (l0 : List (List Int))  : Option (Bool) := (slices_IndexFunc_int_int__impl_CutOfCode_1.f k l0).bind fun t424 => (some (decide (t424 ≥ 0)))
set_option maxHeartbeats 8000000 in
set_option maxRecDepth 100000 in
theorem slices_ContainsFunc_int_int__impl_CutOfCode_1.calls (k : Nat) (A0 : Option Addr) (c0 : Nat) (l0 : List (List Int))  (r : Bool) (w : World) (hr0 : Kd.C (Kd.slice 3 (Kd.int .i64)) w A0 l0.length l0) (hc0 : l0.length ≤ c0) (h : slices_ContainsFunc_int_int__impl_CutOfCode_1.f k l0 = some r) :
  Calls Tryd.prog 101 #[.slice A0 l0.length c0, .func (.func 102) #[] #[]] w fun e w' => e = .returned (.bool r) ∧ Below w.heap.size w w' := by
 have HR0 := Aside0.mk hr0;have HC0 := Aside0.mk hc0;clear hr0 hc0;have HB := Aside0.mk (Below.refl w.heap.size w);have H : ((slices_IndexFunc_int_int__impl_CutOfCode_1.f k l0).bind fun t424 => (some (decide (t424 ≥ 0)))) = some r := h;clear h;replace H := Option.bind_eq_some_iff.mp H;obtain ⟨t424, A30, H⟩ := H;replace H : (some (decide (t424 ≥ 0))) = some r := H;have A3 := Aside0.mk A30;clear A30;obtain rfl := Option.some.inj H;go_enter Tryd.func101, Tryd.ntmps101;(go_wp2_with (first | ((first | (with_reducible refine gate_callee (f := 118) rfl ?_) | refine gate_calleev (f := 118) rfl (by rfl) ?_); (first | (refine goesL_ (some 7) rfl rfl Tryd.func118 (by kernel_rfl) rfl #[.slice A0 l0.length c0, .func (.func 102) #[] #[]] rfl itp ?_) | (refine goesvL_ (some 7) rfl rfl Tryd.func118 (by kernel_rfl) rfl #[.slice A0 l0.length c0, .func (.func 102) #[] #[]] rfl (by rfl) itpv ?_)); (with_reducible refine (slices_IndexFunc_int_int__impl_CutOfCode_1.calls k _ _ l0  t424 _ ?side1 ?side2 A3.out).mono ?_); (case side1 => exact upC HR0.out); (case side2 => exact HC0.out); rintro e w4 ⟨rfl, hb⟩; refine ⟨_, rfl, ?_⟩; replace HB := Aside0.mk (below_step (upW HB) hb); (try clear hb))));go_ret;exact ⟨eqv, upW HB⟩

/-! ### impl_CutOfCode: function 89 -/
def impl_CutOfCode.j0 : Nat → List (List Int) → Bool → Option (Int × Int × (List (S83)) × Bool)
 | 0, _, _ => none
 | k + 1, x0, x13 => if x13 = true then (some (0, 0, ([] : List (S83)), false)) else (if 0 < (x0.length : Int) then ((impl_sum.f k (rd_L1 x0 0)).bind fun t429 => ((slices_Concat_int_int.f k x0).bind fun t430 => ((impl_CutOfSides.f k t429 t430).bind fun bt433 => (if bt433.2.2.2 = true then ((impl_codeOf.f k bt433.1 bt433.2.1 bt433.2.2.1).bind fun t440 => ((impl_sameLists.f k t440 x0).bind fun t443 => (if t443 = true then (some (bt433.1, bt433.2.1, bt433.2.2.1, true)) else (some (0, 0, ([] : List (S83)), false))))) else (some (0, 0, ([] : List (S83)), false)))))) else (none))
def impl_CutOfCode.f (k : Nat) (l0 : List (List Int)) : Option (Int × Int × (List (S83)) × Bool) := (impl_within.f (l0.length : Int) 1 30).bind fun t426 => (if t426 = true then ((slices_ContainsFunc_int_int__impl_CutOfCode_1.f k l0).bind fun t427 => (impl_CutOfCode.j0 k l0 t427)) else (impl_CutOfCode.j0 k l0 true))
set_option maxHeartbeats 8000000 in
set_option maxRecDepth 100000 in
theorem impl_CutOfCode.calls (k : Nat) (A0 : Option Addr) (c0 : Nat) (l0 : List (List Int)) (r1 : Int) (r2 : Int) (r3 : List (S83)) (r4 : Bool) (w : World) (hr0 : Kd.C (Kd.slice 3 (Kd.int .i64)) w A0 l0.length l0) (hc0 : l0.length ≤ c0) (h : impl_CutOfCode.f k l0 = some (r1, r2, r3, r4)) :
  Calls Tryd.prog 89 #[.slice A0 l0.length c0] w fun e w' => ∃ v2_ : Value, e = .returned (.tuple #[.agg #[.int .i64 r1, .int .i64 r2, v2_], .bool r4]) ∧ Kd.R k83 83 w' w.heap.size (fun _ => True) v2_ r3 ∧ Below w.heap.size w w' := by
 have hu30 := Tryd.underlying30;have HR0 := Aside0.mk hr0;have HC0 := Aside0.mk hc0;clear hr0 hc0;have HB := Aside0.mk (Below.refl w.heap.size w);have H : ((impl_within.f (l0.length : Int) 1 30).bind fun t426 => (if t426 = true then ((slices_ContainsFunc_int_int__impl_CutOfCode_1.f k l0).bind fun t427 => (impl_CutOfCode.j0 k l0 t427)) else (impl_CutOfCode.j0 k l0 true))) = some (r1, r2, r3, r4) := h;clear h;have HC2 := Aside0.mk H;clear H;go_enter Tryd.func89, Tryd.ntmps89;(go_upto_region 1 with (first | ((with_reducible refine gate_dst (N := 2) rfl ?_); refine boxE 2 (#[.int .i64 0, .int .i64 0, .slice none 0 0]) 30 ?_; intro gb425 hg w3 hbox hb; have BK425 := Aside0.mk (hbox);have GW425 := Aside0.mk (gz hg HB);have GE425 := Aside0.mk (gz hg HB);replace HB := Aside0.mk (below_step (upW HB) hb); clear hb hbox hg)));(try simp only [Act.put, List.setIfInBounds_toArray, List.set_cons_zero, List.set_cons_succ]);(go_cut [13] (fun v13 wc => ∃ (kq : Nat) (x13_1 : Bool), v13 = .bool x13_1 ∧ Aside0 (impl_CutOfCode.j0 kq l0 x13_1 = some (r1, r2, r3, r4)) ∧ Aside0 (kq ≤ k) ∧ Aside0 (wc.heap[gb425]? = some (.cells #[.int .i64 0, .int .i64 0, (.slice none 0 0)] 30 (0, 0))) ∧ Aside0 (Below w.heap.size w wc)))
 case first =>
  have H := HC2.out;clear HC2;replace H := Option.bind_eq_some_iff.mp H;obtain ⟨t426, A40, H⟩ := H;replace H : (if t426 = true then ((slices_ContainsFunc_int_int__impl_CutOfCode_1.f k l0).bind fun t427 => (impl_CutOfCode.j0 k l0 t427)) else (impl_CutOfCode.j0 k l0 true)) = some (r1, r2, r3, r4) := H;have A4 := Aside0.mk A40;clear A40;(by_cases c5 : t426 = true)
  ·subst c5;(have H1 : ((slices_ContainsFunc_int_int__impl_CutOfCode_1.f k l0).bind fun t427 => (impl_CutOfCode.j0 k l0 t427)) = some (r1, r2, r3, r4) := by rw [if_pos rfl] at H; exact H);clear H;have H := H1;clear H1;replace H := Option.bind_eq_some_iff.mp H;obtain ⟨t427, A60, H⟩ := H;replace H : (impl_CutOfCode.j0 k l0 t427) = some (r1, r2, r3, r4) := H;have A6 := Aside0.mk A60;clear A60;have H' := Aside0.mk H;clear H;(go_wp2_with (first | ((with_reducible refine gate_callee (f := 69) rfl ?_); refine goesL_ (some 8) rfl rfl Tryd.func69 (by kernel_rfl) rfl #[.int .i64 (l0.length : Int), .int .i64 1, .int .i64 30] rfl itp ?_; (with_reducible refine (impl_within.calls (l0.length : Int) 1 30 true _ A4.out).mono ?_); rintro e w' ⟨rfl, ⟨nd, rfl⟩⟩; refine ⟨_, rfl, ?_⟩) | (go_at_call 101; (with_reducible refine (slices_ContainsFunc_int_int__impl_CutOfCode_1.calls k _ _ l0  t427 _ ?side1 ?side2 A6.out).mono ?_); (case side1 => exact upC (Kd.C_below HR0.out (upW HB))); (case side2 => exact HC0.out); rintro e w7 ⟨rfl, hb⟩; replace BK425 := Aside0.mk (blk_below (upK BK425) hb);replace HB := Aside0.mk (below_step (upW HB) hb); (try clear hb))));(go_meet);(case rel => exact ⟨_, (t427), (eqw), H', ⟨by first | omega | exact Nat.le_refl _⟩, ⟨upK BK425⟩, ⟨upW HB⟩⟩)
  ·replace c5 := Bool.eq_false_iff.mpr c5;subst c5;(have H1 : (impl_CutOfCode.j0 k l0 true) = some (r1, r2, r3, r4) := by rw [if_neg (show ¬ (false = true) by decide)] at H; exact H);clear H;have H := H1;clear H1;have H' := Aside0.mk H;clear H;(go_wp2_with (first | ((with_reducible refine gate_callee (f := 69) rfl ?_); refine goesL_ (some 8) rfl rfl Tryd.func69 (by kernel_rfl) rfl #[.int .i64 (l0.length : Int), .int .i64 1, .int .i64 30] rfl itp ?_; (with_reducible refine (impl_within.calls (l0.length : Int) 1 30 false _ A4.out).mono ?_); rintro e w' ⟨rfl, ⟨nd, rfl⟩⟩; refine ⟨_, rfl, ?_⟩)));(go_meet);(case rel => exact ⟨_, (true), (eqw), H', ⟨by first | omega | exact Nat.le_refl _⟩, ⟨upK BK425⟩, ⟨upW HB⟩⟩)
 case rest =>
  clear HC2;obtain ⟨kq, x13_1, rfl, HA, HJ1, BK425, HB⟩ := hcut
  cases kq with
  | zero => exact absurd HA.out (by simp [impl_CutOfCode.j0])
  | succ kj1 =>
   have H := HA.out;clear HA;simp only [impl_CutOfCode.j0] at H;(by_cases c8 : x13_1 = true)
   ·subst c8;(have H1 : (some (0, 0, ([] : List (S83)), false)) = some (r1, r2, r3, r4) := by rw [if_pos rfl] at H; exact H);clear H;have H := H1;clear H1;simp only [Option.some.injEq, Prod.mk.injEq] at H;obtain ⟨rfl, rfl, rfl, rfl⟩ := H;obtain ⟨hcz9_0, hcz9_1, hcz9_2, hfz9_0, hfz9_1, hfz9_2⟩ := cz3 BK425 (.int .i64 0) (.int .i64 0) (.slice none 0 0);go_wp2;refine bodyPost_ret (results_ct rfl _ _ gb425 30 #[.int .i64 0, .int .i64 0, .slice none 0 0] (0, 0) _ rfl (blk3 BK425 #[.int .i64 0, .int .i64 0, .slice none 0 0] #[.int .i64 0, .int .i64 0, .slice none 0 0]) Tryd.underlying30 rfl (by kernel_rfl)) rfl ?_;exact ⟨_, eqv, by first | exact Kd.R_nil _ _ _ _ _ | exact Kd.N_nil _ _ _ _ _ | exact Kd.V_nil _ _ _ _ _ | exact Kd.Q_nil _ _ _ _ _ | exact Kd.S_nil _ _ _ _ _, upW HB⟩
   ·replace c8 := Bool.eq_false_iff.mpr c8;subst c8;(have H1 : (if 0 < (l0.length : Int) then ((impl_sum.f kj1 (rd_L1 l0 0)).bind fun t429 => ((slices_Concat_int_int.f kj1 l0).bind fun t430 => ((impl_CutOfSides.f kj1 t429 t430).bind fun bt433 => (if bt433.2.2.2 = true then ((impl_codeOf.f kj1 bt433.1 bt433.2.1 bt433.2.2.1).bind fun t440 => ((impl_sameLists.f kj1 t440 l0).bind fun t443 => (if t443 = true then (some (bt433.1, bt433.2.1, bt433.2.2.1, true)) else (some (0, 0, ([] : List (S83)), false))))) else (some (0, 0, ([] : List (S83)), false)))))) else (none)) = some (r1, r2, r3, r4) := by rw [if_neg (show ¬ (false = true) by decide)] at H; exact H);clear H;have H := H1;clear H1;(by_cases c10 : 0 < (l0.length : Int))
    ·rw [if_pos c10] at H;have c10b0 := decide_eq_true c10;have c10b1 : decide (0 < l0.length) = true := decide_eq_true (by omega);clear c10;replace H := Option.bind_eq_some_iff.mp H;obtain ⟨t429, A110, H⟩ := H;replace H : ((slices_Concat_int_int.f kj1 l0).bind fun t430 => ((impl_CutOfSides.f kj1 t429 t430).bind fun bt433 => (if bt433.2.2.2 = true then ((impl_codeOf.f kj1 bt433.1 bt433.2.1 bt433.2.2.1).bind fun t440 => ((impl_sameLists.f kj1 t440 l0).bind fun t443 => (if t443 = true then (some (bt433.1, bt433.2.1, bt433.2.2.1, true)) else (some (0, 0, ([] : List (S83)), false))))) else (some (0, 0, ([] : List (S83)), false))))) = some (r1, r2, r3, r4) := H;have A11 := Aside0.mk A110;clear A110;replace H := Option.bind_eq_some_iff.mp H;obtain ⟨t430, A120, H⟩ := H;replace H : ((impl_CutOfSides.f kj1 t429 t430).bind fun bt433 => (if bt433.2.2.2 = true then ((impl_codeOf.f kj1 bt433.1 bt433.2.1 bt433.2.2.1).bind fun t440 => ((impl_sameLists.f kj1 t440 l0).bind fun t443 => (if t443 = true then (some (bt433.1, bt433.2.1, bt433.2.2.1, true)) else (some (0, 0, ([] : List (S83)), false))))) else (some (0, 0, ([] : List (S83)), false)))) = some (r1, r2, r3, r4) := H;have A12 := Aside0.mk A120;clear A120;replace H := Option.bind_eq_some_iff.mp H;obtain ⟨⟨t433, t434, t435, t438⟩, A130, H⟩ := H;replace H : (if t438 = true then ((impl_codeOf.f kj1 t433 t434 t435).bind fun t440 => ((impl_sameLists.f kj1 t440 l0).bind fun t443 => (if t443 = true then (some (t433, t434, t435, true)) else (some (0, 0, ([] : List (S83)), false))))) else (some (0, 0, ([] : List (S83)), false))) = some (r1, r2, r3, r4) := H;have A13 := Aside0.mk A130;clear A130;(by_cases c14 : t438 = true)
     ·subst c14;(have H1 : ((impl_codeOf.f kj1 t433 t434 t435).bind fun t440 => ((impl_sameLists.f kj1 t440 l0).bind fun t443 => (if t443 = true then (some (t433, t434, t435, true)) else (some (0, 0, ([] : List (S83)), false))))) = some (r1, r2, r3, r4) := by rw [if_pos rfl] at H; exact H);clear H;have H := H1;clear H1;replace H := Option.bind_eq_some_iff.mp H;obtain ⟨t440, A150, H⟩ := H;replace H : ((impl_sameLists.f kj1 t440 l0).bind fun t443 => (if t443 = true then (some (t433, t434, t435, true)) else (some (0, 0, ([] : List (S83)), false)))) = some (r1, r2, r3, r4) := H;have A15 := Aside0.mk A150;clear A150;replace H := Option.bind_eq_some_iff.mp H;obtain ⟨t443, A160, H⟩ := H;replace H : (if t443 = true then (some (t433, t434, t435, true)) else (some (0, 0, ([] : List (S83)), false))) = some (r1, r2, r3, r4) := H;have A16 := Aside0.mk A160;clear A160;(by_cases c17 : t443 = true)
      ·subst c17;(have H1 : (some (t433, t434, t435, true)) = some (r1, r2, r3, r4) := by rw [if_pos rfl] at H; exact H);clear H;have H := H1;clear H1;simp only [Option.some.injEq, Prod.mk.injEq] at H;obtain ⟨rfl, rfl, rfl, rfl⟩ := H;have p428 : 0 ≤ (0 : Int) := (by omega);have q428 : 0 < (l0.length : Int) := oda;obtain ⟨ad428, A428_0, c428_0, e428, hx428_0, hl428_0, hi428_0⟩ := at_L1 HR0.out 0 p428 q428;cases e428;have qi428 : (0 < l0.length) = True := eq_true (by omega);(try rw [show ((0 : Int)).toNat = 0 from rfl] at hx428_0);(try rw [Addr.add_zero'] at hx428_0);replace hx428_0 := cb HB hx428_0;have HR428_0 := Aside0.mk hi428_0;have HC428_0 := Aside0.mk hl428_0;clear hi428_0 hl428_0;replace p428 := eq_true p428;replace q428 := eq_true q428;(go_wp2_with (first | ((with_reducible refine gate_callee (f := 105) rfl ?_); refine goesL_ (some 19) rfl rfl Tryd.func105 (by kernel_rfl) rfl #[.slice A428_0 (rd_L1 l0 0).length c428_0] rfl itp ?_; (with_reducible refine (impl_sum.calls kj1 _ _ (rd_L1 l0 0) t429 _ ?side1 ?side2 A11.out).mono ?_); (case side1 => exact upC (Kd.C_below HR428_0.out HB.out)); (case side2 => exact HC428_0.out); rintro e w' ⟨rfl, ⟨nd, rfl⟩⟩; refine ⟨_, rfl, ?_⟩; (try (rw [drewN_self wc]; generalize hq_ : World.drewN wc _ = wc; have n0_ : Aside0 (wc.heap[gb425]? = some (.cells #[.int .i64 0, .int .i64 0, .slice none 0 0] 30 (0, 0))) := ⟨by rw [← hq_]; exact (upK BK425)⟩; have n1_ : Aside0 (Below w.heap.size w wc) := ⟨by rw [← hq_]; exact (upW HB)⟩; clear BK425 HB hq_; have BK425 := n0_; have HB := n1_; clear n0_ n1_))) | ((with_reducible refine gate_callee (f := 106) rfl ?_); refine goesL_ (some 21) rfl rfl Tryd.func106 (by kernel_rfl) rfl #[.slice (some ad428) l0.length c0] rfl itp ?_; (with_reducible refine (slices_Concat_int_int.calls kj1 _ _ l0 t430 _ ?side1 ?side2 A12.out).mono ?_); (case side1 => exact upC (Kd.C_below HR0.out HB.out)); (case side2 => exact HC0.out); rintro e w18 ⟨v431, rfl, ho0, hb⟩; refine ⟨_, rfl, ?_⟩; have HO432 := Aside0.mk (Kd.R_lower ho0 (below_size (upW HB)));replace BK425 := Aside0.mk (blk_below (upK BK425) hb);replace HB := Aside0.mk (below_step (upW HB) hb); (try clear hb ho0); obtain ⟨Ao19, co19, eo19⟩ := Kd.R_slice HO432.out; subst eo19) | ((with_reducible refine gate_callee (f := 104) rfl ?_); refine goesL_ (some 22) rfl rfl Tryd.func104 (by kernel_rfl) rfl #[.int .i64 t429, .slice Ao19 t430.length co19] rfl itp ?_; (with_reducible refine (impl_CutOfSides.calls kj1 t429 _ _ t430 t433 t434 t435 true _ ?side1 ?side2 A13.out).mono ?_); (case side1 => exact upC (Kd.R_reads' HO432.out).2.2); (case side2 => exact (Kd.R_reads' HO432.out).2.1); rintro e w20 ⟨v436, rfl, ho0, hb⟩; refine ⟨_, rfl, ?_⟩; replace HO432 := Aside0.mk (Kd.R_below (upR HO432) hb);have HO437 := Aside0.mk (Kd.R_lower ho0 (below_size (upW HB)));replace BK425 := Aside0.mk (blk_below (upK BK425) hb);replace HB := Aside0.mk (below_step (upW HB) hb); (try clear hb ho0)) | ((with_reducible refine gate_dst (N := 4) rfl ?_); refine boxE 4 (#[.int .i64 0, .int .i64 0, .slice none 0 0]) 30 ?_; intro gb439 hg w21 hbox hb; replace HO432 := Aside0.mk (Kd.R_below (upR HO432) hb);replace HO437 := Aside0.mk (Kd.R_below (upR HO437) hb);have BK439 := Aside0.mk (hbox);have GW439 := Aside0.mk (gz hg HB);have GE439 := Aside0.mk (gz hg HB);replace HB := Aside0.mk (below_step (upW HB) hb);have NB425_439 := Aside0.mk (gn hg BK425);have NB439_425 := Aside0.mk ((by rw [hg]; exact Nat.ne_of_gt (blk_lt (upK BK425)) : gb439 ≠ gb425));replace BK425 := Aside0.mk (blk_below (upK BK425) hb); clear hb hbox hg; have hnb22 := NB439_425.out; have hnc22 := NB425_439.out; obtain ⟨hcz23_0, hcz23_1, hcz23_2, hfz23_0, hfz23_1, hfz23_2⟩ := cz3 BK439 (.int .i64 0) (.int .i64 0) (.slice none 0 0); obtain ⟨Ao24, co24, eo24⟩ := Kd.R_slice HO437.out; subst eo24) | (go_at_call 108; (with_reducible refine (impl_codeOf.calls kj1 t433 t434 _ _ t435 t440 _ ?side1 ?side2 A15.out).mono ?_); (case side1 => refine (Kd.R_reads' (e := 83) (base := w.heap.size) (ok := fun k_ => True) (n := t435.length) (c := co24) ?_).2.2; exact (by (with_reducible repeat (first | apply Kd.R_alloc | apply Kd.R_drewN | apply Kd.R_drew)); exact (Kd.R_far3 HO437 BK439 (.int .i64 t433) (.int .i64 t434) (.slice Ao24 t435.length co24) (fun _ h_ => h_.1)))); (case side2 => exact (Kd.R_reads' HO437.out).2.1); rintro e w25 ⟨v441, rfl, ho0, hb⟩; replace HO437 := Aside0.mk (Kd.R_below (by (with_reducible repeat (first | apply Kd.R_alloc | apply Kd.R_drewN | apply Kd.R_drew)); exact (Kd.R_far3 HO437 BK439 (.int .i64 t433) (.int .i64 t434) (.slice Ao24 t435.length co24) (fun _ h_ => h_.1))) hb);have HO442 := Aside0.mk (Kd.S_lower (Kd.S_new' ho0 (Kd.R_lt (by (with_reducible repeat (first | apply Kd.R_alloc | apply Kd.R_drewN | apply Kd.R_drew)); exact (Kd.R_far3 HO432 BK439 (.int .i64 t433) (.int .i64 t434) (.slice Ao24 t435.length co24) (fun _ h_ => h_.1))))) (below_size (upW HB)));replace HO432 := Aside0.mk (Kd.R_below (by (with_reducible repeat (first | apply Kd.R_alloc | apply Kd.R_drewN | apply Kd.R_drew)); exact (Kd.R_far3 HO432 BK439 (.int .i64 t433) (.int .i64 t434) (.slice Ao24 t435.length co24) (fun _ h_ => h_.1))) hb);replace BK425 := Aside0.mk (blk_below (upF BK425) hb);replace BK439 := Aside0.mk (blk_below (g := gb439) (o := .cells #[.int .i64 t433, .int .i64 t434, .slice Ao24 t435.length co24] 30 (0, 0)) (blk3 BK439 #[.int .i64 t433, .int .i64 t434, .slice none 0 0] #[.int .i64 t433, .int .i64 0, .slice none 0 0]) hb);replace HB := Aside0.mk (below_step (upW HB) hb); (try clear hb ho0); obtain ⟨Ao26, co26, eo26⟩ := Kd.S_slice HO442.out; subst eo26) | (go_at_call 107; (with_reducible refine (impl_sameLists.calls kj1 _ _ t440 _ _ l0 true _ ?side1 ?side2 ?side3 ?side4 A16.out).mono ?_); (case side1 => exact upC (Kd.S_reads' HO442.out).2.2); (case side2 => exact (Kd.S_reads' HO442.out).2.1); (case side3 => exact upC (Kd.C_below HR0.out HB.out)); (case side4 => exact HC0.out); rintro e w27 ⟨rfl, hb⟩; replace HO432 := Aside0.mk (Kd.R_below (upR HO432) hb);replace HO437 := Aside0.mk (Kd.R_below (upR HO437) hb);replace HO442 := Aside0.mk (Kd.S_below (by (with_reducible repeat (first | apply Kd.S_alloc | apply Kd.S_drewN | apply Kd.S_drew)); exact HO442.out) hb);replace BK425 := Aside0.mk (blk_below (upK BK425) hb);replace BK439 := Aside0.mk (blk_below (upK BK439) hb);replace HB := Aside0.mk (below_step (upW HB) hb); (try clear hb); obtain ⟨hcz28_0, hcz28_1, hcz28_2, hfz28_0, hfz28_1, hfz28_2⟩ := cz3 BK439 (.int .i64 t433) (.int .i64 t434) (.slice Ao24 t435.length co24); obtain ⟨hcz29_0, hcz29_1, hcz29_2, hfz29_0, hfz29_1, hfz29_2⟩ := cz3 BK425 (.int .i64 0) (.int .i64 0) (.slice none 0 0))));refine bodyPost_ret (results_ct rfl _ _ gb425 30 #[.int .i64 t433, .int .i64 t434, .slice Ao24 t435.length co24] (0, 0) _ rfl (blk3 BK425 #[.int .i64 t433, .int .i64 t434, .slice none 0 0] #[.int .i64 t433, .int .i64 0, .slice none 0 0]) Tryd.underlying30 rfl (by kernel_rfl)) rfl ?_;exact ⟨_, eqv, by (with_reducible repeat (first | apply Kd.R_alloc | apply Kd.R_drewN | apply Kd.R_drew)); exact Kd.R_far3 HO437 BK425 (.int .i64 t433) (.int .i64 t434) (.slice Ao24 t435.length co24) (fun _ hk => trivial), upW HB⟩
      ·replace c17 := Bool.eq_false_iff.mpr c17;subst c17;(have H1 : (some (0, 0, ([] : List (S83)), false)) = some (r1, r2, r3, r4) := by rw [if_neg (show ¬ (false = true) by decide)] at H; exact H);clear H;have H := H1;clear H1;simp only [Option.some.injEq, Prod.mk.injEq] at H;obtain ⟨rfl, rfl, rfl, rfl⟩ := H;have p428 : 0 ≤ (0 : Int) := (by omega);have q428 : 0 < (l0.length : Int) := oda;obtain ⟨ad428, A428_0, c428_0, e428, hx428_0, hl428_0, hi428_0⟩ := at_L1 HR0.out 0 p428 q428;cases e428;have qi428 : (0 < l0.length) = True := eq_true (by omega);(try rw [show ((0 : Int)).toNat = 0 from rfl] at hx428_0);(try rw [Addr.add_zero'] at hx428_0);replace hx428_0 := cb HB hx428_0;have HR428_0 := Aside0.mk hi428_0;have HC428_0 := Aside0.mk hl428_0;clear hi428_0 hl428_0;replace p428 := eq_true p428;replace q428 := eq_true q428;(go_wp2_with (first | ((with_reducible refine gate_callee (f := 105) rfl ?_); refine goesL_ (some 19) rfl rfl Tryd.func105 (by kernel_rfl) rfl #[.slice A428_0 (rd_L1 l0 0).length c428_0] rfl itp ?_; (with_reducible refine (impl_sum.calls kj1 _ _ (rd_L1 l0 0) t429 _ ?side1 ?side2 A11.out).mono ?_); (case side1 => exact upC (Kd.C_below HR428_0.out HB.out)); (case side2 => exact HC428_0.out); rintro e w' ⟨rfl, ⟨nd, rfl⟩⟩; refine ⟨_, rfl, ?_⟩; (try (rw [drewN_self wc]; generalize hq_ : World.drewN wc _ = wc; have n0_ : Aside0 (wc.heap[gb425]? = some (.cells #[.int .i64 0, .int .i64 0, .slice none 0 0] 30 (0, 0))) := ⟨by rw [← hq_]; exact (upK BK425)⟩; have n1_ : Aside0 (Below w.heap.size w wc) := ⟨by rw [← hq_]; exact (upW HB)⟩; clear BK425 HB hq_; have BK425 := n0_; have HB := n1_; clear n0_ n1_))) | ((with_reducible refine gate_callee (f := 106) rfl ?_); refine goesL_ (some 21) rfl rfl Tryd.func106 (by kernel_rfl) rfl #[.slice (some ad428) l0.length c0] rfl itp ?_; (with_reducible refine (slices_Concat_int_int.calls kj1 _ _ l0 t430 _ ?side1 ?side2 A12.out).mono ?_); (case side1 => exact upC (Kd.C_below HR0.out HB.out)); (case side2 => exact HC0.out); rintro e w30 ⟨v431, rfl, ho0, hb⟩; refine ⟨_, rfl, ?_⟩; have HO432 := Aside0.mk (Kd.R_lower ho0 (below_size (upW HB)));replace BK425 := Aside0.mk (blk_below (upK BK425) hb);replace HB := Aside0.mk (below_step (upW HB) hb); (try clear hb ho0); obtain ⟨Ao31, co31, eo31⟩ := Kd.R_slice HO432.out; subst eo31) | ((with_reducible refine gate_callee (f := 104) rfl ?_); refine goesL_ (some 22) rfl rfl Tryd.func104 (by kernel_rfl) rfl #[.int .i64 t429, .slice Ao31 t430.length co31] rfl itp ?_; (with_reducible refine (impl_CutOfSides.calls kj1 t429 _ _ t430 t433 t434 t435 true _ ?side1 ?side2 A13.out).mono ?_); (case side1 => exact upC (Kd.R_reads' HO432.out).2.2); (case side2 => exact (Kd.R_reads' HO432.out).2.1); rintro e w32 ⟨v436, rfl, ho0, hb⟩; refine ⟨_, rfl, ?_⟩; replace HO432 := Aside0.mk (Kd.R_below (upR HO432) hb);have HO437 := Aside0.mk (Kd.R_lower ho0 (below_size (upW HB)));replace BK425 := Aside0.mk (blk_below (upK BK425) hb);replace HB := Aside0.mk (below_step (upW HB) hb); (try clear hb ho0)) | ((with_reducible refine gate_dst (N := 4) rfl ?_); refine boxE 4 (#[.int .i64 0, .int .i64 0, .slice none 0 0]) 30 ?_; intro gb439 hg w33 hbox hb; replace HO432 := Aside0.mk (Kd.R_below (upR HO432) hb);replace HO437 := Aside0.mk (Kd.R_below (upR HO437) hb);have BK439 := Aside0.mk (hbox);have GW439 := Aside0.mk (gz hg HB);have GE439 := Aside0.mk (gz hg HB);replace HB := Aside0.mk (below_step (upW HB) hb);have NB425_439 := Aside0.mk (gn hg BK425);have NB439_425 := Aside0.mk ((by rw [hg]; exact Nat.ne_of_gt (blk_lt (upK BK425)) : gb439 ≠ gb425));replace BK425 := Aside0.mk (blk_below (upK BK425) hb); clear hb hbox hg; have hnb34 := NB439_425.out; have hnc34 := NB425_439.out; obtain ⟨hcz35_0, hcz35_1, hcz35_2, hfz35_0, hfz35_1, hfz35_2⟩ := cz3 BK439 (.int .i64 0) (.int .i64 0) (.slice none 0 0); obtain ⟨Ao36, co36, eo36⟩ := Kd.R_slice HO437.out; subst eo36) | (go_at_call 108; (with_reducible refine (impl_codeOf.calls kj1 t433 t434 _ _ t435 t440 _ ?side1 ?side2 A15.out).mono ?_); (case side1 => refine (Kd.R_reads' (e := 83) (base := w.heap.size) (ok := fun k_ => True) (n := t435.length) (c := co36) ?_).2.2; exact (by (with_reducible repeat (first | apply Kd.R_alloc | apply Kd.R_drewN | apply Kd.R_drew)); exact (Kd.R_far3 HO437 BK439 (.int .i64 t433) (.int .i64 t434) (.slice Ao36 t435.length co36) (fun _ h_ => h_.1)))); (case side2 => exact (Kd.R_reads' HO437.out).2.1); rintro e w37 ⟨v441, rfl, ho0, hb⟩; replace HO437 := Aside0.mk (Kd.R_below (by (with_reducible repeat (first | apply Kd.R_alloc | apply Kd.R_drewN | apply Kd.R_drew)); exact (Kd.R_far3 HO437 BK439 (.int .i64 t433) (.int .i64 t434) (.slice Ao36 t435.length co36) (fun _ h_ => h_.1))) hb);have HO442 := Aside0.mk (Kd.S_lower (Kd.S_new' ho0 (Kd.R_lt (by (with_reducible repeat (first | apply Kd.R_alloc | apply Kd.R_drewN | apply Kd.R_drew)); exact (Kd.R_far3 HO432 BK439 (.int .i64 t433) (.int .i64 t434) (.slice Ao36 t435.length co36) (fun _ h_ => h_.1))))) (below_size (upW HB)));replace HO432 := Aside0.mk (Kd.R_below (by (with_reducible repeat (first | apply Kd.R_alloc | apply Kd.R_drewN | apply Kd.R_drew)); exact (Kd.R_far3 HO432 BK439 (.int .i64 t433) (.int .i64 t434) (.slice Ao36 t435.length co36) (fun _ h_ => h_.1))) hb);replace BK425 := Aside0.mk (blk_below (upF BK425) hb);replace BK439 := Aside0.mk (blk_below (g := gb439) (o := .cells #[.int .i64 t433, .int .i64 t434, .slice Ao36 t435.length co36] 30 (0, 0)) (blk3 BK439 #[.int .i64 t433, .int .i64 t434, .slice none 0 0] #[.int .i64 t433, .int .i64 0, .slice none 0 0]) hb);replace HB := Aside0.mk (below_step (upW HB) hb); (try clear hb ho0); obtain ⟨Ao38, co38, eo38⟩ := Kd.S_slice HO442.out; subst eo38) | (go_at_call 107; (with_reducible refine (impl_sameLists.calls kj1 _ _ t440 _ _ l0 false _ ?side1 ?side2 ?side3 ?side4 A16.out).mono ?_); (case side1 => exact upC (Kd.S_reads' HO442.out).2.2); (case side2 => exact (Kd.S_reads' HO442.out).2.1); (case side3 => exact upC (Kd.C_below HR0.out HB.out)); (case side4 => exact HC0.out); rintro e w39 ⟨rfl, hb⟩; replace HO432 := Aside0.mk (Kd.R_below (upR HO432) hb);replace HO437 := Aside0.mk (Kd.R_below (upR HO437) hb);replace HO442 := Aside0.mk (Kd.S_below (by (with_reducible repeat (first | apply Kd.S_alloc | apply Kd.S_drewN | apply Kd.S_drew)); exact HO442.out) hb);replace BK425 := Aside0.mk (blk_below (upK BK425) hb);replace BK439 := Aside0.mk (blk_below (upK BK439) hb);replace HB := Aside0.mk (below_step (upW HB) hb); (try clear hb); obtain ⟨hcz40_0, hcz40_1, hcz40_2, hfz40_0, hfz40_1, hfz40_2⟩ := cz3 BK425 (.int .i64 0) (.int .i64 0) (.slice none 0 0))));refine bodyPost_ret (results_ct rfl _ _ gb425 30 #[.int .i64 0, .int .i64 0, .slice none 0 0] (0, 0) _ rfl (blk3 BK425 #[.int .i64 0, .int .i64 0, .slice none 0 0] #[.int .i64 0, .int .i64 0, .slice none 0 0]) Tryd.underlying30 rfl (by kernel_rfl)) rfl ?_;exact ⟨_, eqv, by first | exact Kd.R_nil _ _ _ _ _ | exact Kd.N_nil _ _ _ _ _ | exact Kd.V_nil _ _ _ _ _ | exact Kd.Q_nil _ _ _ _ _ | exact Kd.S_nil _ _ _ _ _, upW HB⟩
     ·replace c14 := Bool.eq_false_iff.mpr c14;subst c14;(have H1 : (some (0, 0, ([] : List (S83)), false)) = some (r1, r2, r3, r4) := by rw [if_neg (show ¬ (false = true) by decide)] at H; exact H);clear H;have H := H1;clear H1;simp only [Option.some.injEq, Prod.mk.injEq] at H;obtain ⟨rfl, rfl, rfl, rfl⟩ := H;have p428 : 0 ≤ (0 : Int) := (by omega);have q428 : 0 < (l0.length : Int) := oda;obtain ⟨ad428, A428_0, c428_0, e428, hx428_0, hl428_0, hi428_0⟩ := at_L1 HR0.out 0 p428 q428;cases e428;have qi428 : (0 < l0.length) = True := eq_true (by omega);(try rw [show ((0 : Int)).toNat = 0 from rfl] at hx428_0);(try rw [Addr.add_zero'] at hx428_0);replace hx428_0 := cb HB hx428_0;have HR428_0 := Aside0.mk hi428_0;have HC428_0 := Aside0.mk hl428_0;clear hi428_0 hl428_0;replace p428 := eq_true p428;replace q428 := eq_true q428;(go_wp2_with (first | ((with_reducible refine gate_callee (f := 105) rfl ?_); refine goesL_ (some 19) rfl rfl Tryd.func105 (by kernel_rfl) rfl #[.slice A428_0 (rd_L1 l0 0).length c428_0] rfl itp ?_; (with_reducible refine (impl_sum.calls kj1 _ _ (rd_L1 l0 0) t429 _ ?side1 ?side2 A11.out).mono ?_); (case side1 => exact upC (Kd.C_below HR428_0.out HB.out)); (case side2 => exact HC428_0.out); rintro e w' ⟨rfl, ⟨nd, rfl⟩⟩; refine ⟨_, rfl, ?_⟩; (try (rw [drewN_self wc]; generalize hq_ : World.drewN wc _ = wc; have n0_ : Aside0 (wc.heap[gb425]? = some (.cells #[.int .i64 0, .int .i64 0, .slice none 0 0] 30 (0, 0))) := ⟨by rw [← hq_]; exact (upK BK425)⟩; have n1_ : Aside0 (Below w.heap.size w wc) := ⟨by rw [← hq_]; exact (upW HB)⟩; clear BK425 HB hq_; have BK425 := n0_; have HB := n1_; clear n0_ n1_))) | ((with_reducible refine gate_callee (f := 106) rfl ?_); refine goesL_ (some 21) rfl rfl Tryd.func106 (by kernel_rfl) rfl #[.slice (some ad428) l0.length c0] rfl itp ?_; (with_reducible refine (slices_Concat_int_int.calls kj1 _ _ l0 t430 _ ?side1 ?side2 A12.out).mono ?_); (case side1 => exact upC (Kd.C_below HR0.out HB.out)); (case side2 => exact HC0.out); rintro e w41 ⟨v431, rfl, ho0, hb⟩; refine ⟨_, rfl, ?_⟩; have HO432 := Aside0.mk (Kd.R_lower ho0 (below_size (upW HB)));replace BK425 := Aside0.mk (blk_below (upK BK425) hb);replace HB := Aside0.mk (below_step (upW HB) hb); (try clear hb ho0); obtain ⟨Ao42, co42, eo42⟩ := Kd.R_slice HO432.out; subst eo42) | ((with_reducible refine gate_callee (f := 104) rfl ?_); refine goesL_ (some 22) rfl rfl Tryd.func104 (by kernel_rfl) rfl #[.int .i64 t429, .slice Ao42 t430.length co42] rfl itp ?_; (with_reducible refine (impl_CutOfSides.calls kj1 t429 _ _ t430 t433 t434 t435 false _ ?side1 ?side2 A13.out).mono ?_); (case side1 => exact upC (Kd.R_reads' HO432.out).2.2); (case side2 => exact (Kd.R_reads' HO432.out).2.1); rintro e w43 ⟨v436, rfl, ho0, hb⟩; refine ⟨_, rfl, ?_⟩; replace HO432 := Aside0.mk (Kd.R_below (upR HO432) hb);have HO437 := Aside0.mk (Kd.R_lower ho0 (below_size (upW HB)));replace BK425 := Aside0.mk (blk_below (upK BK425) hb);replace HB := Aside0.mk (below_step (upW HB) hb); (try clear hb ho0)) | ((with_reducible refine gate_dst (N := 4) rfl ?_); refine boxE 4 (#[.int .i64 0, .int .i64 0, .slice none 0 0]) 30 ?_; intro gb439 hg w44 hbox hb; replace HO432 := Aside0.mk (Kd.R_below (upR HO432) hb);replace HO437 := Aside0.mk (Kd.R_below (upR HO437) hb);have BK439 := Aside0.mk (hbox);have GW439 := Aside0.mk (gz hg HB);have GE439 := Aside0.mk (gz hg HB);replace HB := Aside0.mk (below_step (upW HB) hb);have NB425_439 := Aside0.mk (gn hg BK425);have NB439_425 := Aside0.mk ((by rw [hg]; exact Nat.ne_of_gt (blk_lt (upK BK425)) : gb439 ≠ gb425));replace BK425 := Aside0.mk (blk_below (upK BK425) hb); clear hb hbox hg; have hnb45 := NB439_425.out; have hnc45 := NB425_439.out; obtain ⟨hcz46_0, hcz46_1, hcz46_2, hfz46_0, hfz46_1, hfz46_2⟩ := cz3 BK439 (.int .i64 0) (.int .i64 0) (.slice none 0 0); obtain ⟨Ao47, co47, eo47⟩ := Kd.R_slice HO437.out; subst eo47; obtain ⟨hcz48_0, hcz48_1, hcz48_2, hfz48_0, hfz48_1, hfz48_2⟩ := cz3 BK425 (.int .i64 0) (.int .i64 0) (.slice none 0 0))));refine bodyPost_ret (results_ct rfl _ _ gb425 30 #[.int .i64 0, .int .i64 0, .slice none 0 0] (0, 0) _ rfl (by (with_reducible repeat (first | refine blk_drewN ?_ _ | refine blk_drew ?_ | refine blk_alloc ?_ _)); refine blk_put (cs := #[.int .i64 0, .int .i64 0, .slice none 0 0]) ?_ 2 _ rfl; (with_reducible repeat (first | refine blk_drewN ?_ _ | refine blk_drew ?_ | refine blk_alloc ?_ _)); refine blk_put (cs := #[.int .i64 0, .int .i64 0, .slice none 0 0]) ?_ 1 _ rfl; (with_reducible repeat (first | refine blk_drewN ?_ _ | refine blk_drew ?_ | refine blk_alloc ?_ _)); refine blk_put (cs := #[.int .i64 0, .int .i64 0, .slice none 0 0]) ?_ 0 _ rfl; (with_reducible repeat (first | refine blk_drewN ?_ _ | refine blk_drew ?_ | refine blk_alloc ?_ _)); refine blk_far ?_ NB425_439.out _; (with_reducible repeat (first | refine blk_drewN ?_ _ | refine blk_drew ?_ | refine blk_alloc ?_ _)); refine blk_far ?_ NB425_439.out _; (with_reducible repeat (first | refine blk_drewN ?_ _ | refine blk_drew ?_ | refine blk_alloc ?_ _)); refine blk_far ?_ NB425_439.out _; (with_reducible repeat (first | refine blk_drewN ?_ _ | refine blk_drew ?_ | refine blk_alloc ?_ _)); exact BK425.out) Tryd.underlying30 rfl (by kernel_rfl)) rfl ?_;exact ⟨_, eqv, by first | exact Kd.R_nil _ _ _ _ _ | exact Kd.N_nil _ _ _ _ _ | exact Kd.V_nil _ _ _ _ _ | exact Kd.Q_nil _ _ _ _ _ | exact Kd.S_nil _ _ _ _ _, upW HB⟩
    ·rw [if_neg c10] at H;exact absurd H (by simp)

/-! ### impl_IsCutCode: function 50 -/
def impl_IsCutCode.f (k : Nat) (l0 : List (List Int)) : Option (Bool) := (impl_CutOfCode.f k l0).bind fun bt444 => (some bt444.2.2.2)
set_option maxHeartbeats 8000000 in
set_option maxRecDepth 100000 in
theorem impl_IsCutCode.calls (k : Nat) (A0 : Option Addr) (c0 : Nat) (l0 : List (List Int)) (r : Bool) (w : World) (hr0 : Kd.C (Kd.slice 3 (Kd.int .i64)) w A0 l0.length l0) (hc0 : l0.length ≤ c0) (h : impl_IsCutCode.f k l0 = some r) :
  Calls Tryd.prog 50 #[.slice A0 l0.length c0] w fun e w' => e = .returned (.bool r) ∧ Below w.heap.size w w' := by
 have hu30 := Tryd.underlying30;have HR0 := Aside0.mk hr0;have HC0 := Aside0.mk hc0;clear hr0 hc0;have HB := Aside0.mk (Below.refl w.heap.size w);have H : ((impl_CutOfCode.f k l0).bind fun bt444 => (some bt444.2.2.2)) = some r := h;clear h;replace H := Option.bind_eq_some_iff.mp H;obtain ⟨⟨t444, t445, t446, t449⟩, A20, H⟩ := H;replace H : (some t449) = some r := H;have A2 := Aside0.mk A20;clear A20;obtain rfl := Option.some.inj H;go_enter Tryd.func50, Tryd.ntmps50;(go_wp2_with (first | ((with_reducible refine gate_callee (f := 89) rfl ?_); refine goesL_ (some 7) rfl rfl Tryd.func89 (by kernel_rfl) rfl #[.slice A0 l0.length c0] rfl itp ?_; (with_reducible refine (impl_CutOfCode.calls k _ _ l0 t444 t445 t446 t449 _ ?side1 ?side2 A2.out).mono ?_); (case side1 => exact upC HR0.out); (case side2 => exact HC0.out); rintro e w3 ⟨v447, rfl, ho0, hb⟩; refine ⟨_, rfl, ?_⟩; have HO448 := Aside0.mk (Kd.R_lower ho0 (below_size (upW HB)));replace HB := Aside0.mk (below_step (upW HB) hb); (try clear hb ho0)) | ((with_reducible refine gate_dst (N := 3) rfl ?_); refine boxE 3 (#[.int .i64 0, .int .i64 0, .slice none 0 0]) 30 ?_; intro gb450 hg w4 hbox hb; replace HO448 := Aside0.mk (Kd.R_below (upR HO448) hb);have BK450 := Aside0.mk (hbox);have GW450 := Aside0.mk (gz hg HB);have GE450 := Aside0.mk (gz hg HB);replace HB := Aside0.mk (below_step (upW HB) hb); clear hb hbox hg; obtain ⟨hcz5_0, hcz5_1, hcz5_2, hfz5_0, hfz5_1, hfz5_2⟩ := cz3 BK450 (.int .i64 0) (.int .i64 0) (.slice none 0 0); obtain ⟨Ao6, co6, eo6⟩ := Kd.R_slice HO448.out; subst eo6)));go_ret;exact ⟨eqv, upW HB⟩

-- NOT PRINTED: function 116 (abi_NoEscape)

-- NOT PRINTED: function 98 (strings_Builder_copyCheck)

-- NOT PRINTED: function 117 (bytealg_MakeNoZero)

-- NOT PRINTED: function 99 (strings_Builder_grow)

-- NOT PRINTED: function 80 (strings_Builder_Grow)

-- NOT PRINTED: function 81 (strings_Builder_WriteString)

-- NOT PRINTED: function 82 (strings_Builder_String)

/-! ### strings_Join: function 44 -/
def strings_Join_lay_ren : Go.Shelf.Ren := ⟨fun | 156 => 44 | 165 => 80 | 166 => 81 | 169 => 82 | 240 => 98 | 241 => 99 | 276 => 116 | 277 => 117 | n => n, fun | 31 => 67 | 9 => 9 | 3 => 3 | 4 => 4 | 0 => 0 | 20 => 20 | 72 => 107 | 76 => 111 | 70 => 104 | 37 => 105 | 75 => 110 | 127 => 125 | 164 => 133 | 5 => 5 | 80 => 113 | n => n, fun | n => n⟩
theorem strings_Join_lay : Go.Proofs.Lays.n156 Tryd.prog strings_Join_lay_ren where
 mixed := by kernel_rfl
 f156 := Tryd.func44.trans (congrArg some (by kernel_rfl))
 f165 := Tryd.func80.trans (congrArg some (by kernel_rfl))
 f166 := Tryd.func81.trans (congrArg some (by kernel_rfl))
 f169 := Tryd.func82.trans (congrArg some (by kernel_rfl))
 f240 := Tryd.func98.trans (congrArg some (by kernel_rfl))
 f241 := Tryd.func99.trans (congrArg some (by kernel_rfl))
 f276 := Tryd.func116.trans (congrArg some (by kernel_rfl))
 f277 := Tryd.func117.trans (congrArg some (by kernel_rfl))
 t0 := Tryd.underlying0
 a0 := Tryd.isAgg0
 z0 := Tryd.sizeOf0
 v0 := Tryd.zeroValue0
 t3 := Tryd.underlying3
 a3 := Tryd.isAgg3
 z3 := Tryd.sizeOf3
 v3 := Tryd.zeroValue3
 t4 := Tryd.underlying4
 a4 := Tryd.isAgg4
 z4 := Tryd.sizeOf4
 v4 := Tryd.zeroValue4
 t9 := Tryd.underlying9
 a9 := Tryd.isAgg9
 z9 := Tryd.sizeOf9
 v9 := Tryd.zeroValue9
 t20 := Tryd.underlying20
 a20 := Tryd.isAgg20
 z20 := Tryd.sizeOf20
 v20 := Tryd.zeroValue20
 t31 := Tryd.underlying67
 a31 := Tryd.isAgg67
 z31 := Tryd.sizeOf67
 v31 := Tryd.zeroValue67
 t37 := Tryd.underlying105
 a37 := Tryd.isAgg105
 z37 := Tryd.sizeOf105
 v37 := Tryd.zeroValue105
 t70 := Tryd.underlying104
 a70 := Tryd.isAgg104
 z70 := Tryd.sizeOf104
 v70 := Tryd.zeroValue104
 t72 := Tryd.underlying107
 a72 := Tryd.isAgg107
 z72 := Tryd.sizeOf107
 v72 := Tryd.zeroValue107
 t75 := Tryd.underlying110
 a75 := Tryd.isAgg110
 z75 := Tryd.sizeOf110
 v75 := Tryd.zeroValue110
 t76 := Tryd.underlying111
 a76 := Tryd.isAgg111
 z76 := Tryd.sizeOf111
 v76 := Tryd.zeroValue111
 t127 := Tryd.underlying125
 a127 := Tryd.isAgg125
 z127 := Tryd.sizeOf125
 v127 := Tryd.zeroValue125
 t164 := Tryd.underlying133
 a164 := Tryd.isAgg133
 z164 := Tryd.sizeOf133
 v164 := Tryd.zeroValue133
theorem strings_Join_extra : Builder.Extra Tryd.prog strings_Join_lay_ren where
 sizeBuilder := by kernel_rfl
 liesBuilder := by kernel_rfl
 t5 := by kernel_rfl
 a5 := fun w => by kernel_rfl
 z5 := fun w => by kernel_rfl
 v5 := fun w => by kernel_rfl
 infoByte := by kernel_rfl
 cellsByte := by kernel_rfl
 sizeByte := by kernel_rfl
 neB5 := by decide
def strings_Join.f (l0 : List ByteArray) (s1 : ByteArray) : Option ByteArray := if l0.length ≤ 1000000 ∧ (Lib.join (l0.map (·.data.toList)) s1.data.toList).length ≤ 100000000 then some ⟨(Lib.join (l0.map (·.data.toList)) s1.data.toList).toArray⟩ else none
theorem strings_Join.calls (A0 : Option Addr) (c0 : Nat) (l0 : List ByteArray) (s1 : ByteArray) (r : ByteArray) (w : World) (hr0 : Kd.C Kd.string w A0 l0.length l0) (hc0 : l0.length ≤ c0) (h : strings_Join.f l0 s1 = some r) :
  Calls Tryd.prog 44 #[.slice A0 l0.length c0, .string s1] w fun e w' => e = .returned (.string r) ∧ Below w.heap.size w w' := by
 unfold strings_Join.f at h;(by_cases h1 : l0.length ≤ 1000000 ∧ (Lib.join (l0.map (·.data.toList)) s1.data.toList).length ≤ 100000000)
 ·rw [if_pos h1] at h;obtain rfl := Option.some.inj h
  cases l0 with
  | nil => exact (Any.strings_Join_none strings_Join_lay strings_Join_extra A0 c0 s1 w).mono fun e w' ⟨he, hw⟩ => ⟨he, hw ▸ Below.refl _ _⟩
  | cons x t =>
   obtain ⟨_, _, hc⟩ := Kd.reads_of_C (enc := Value.string) (d := ByteArray.empty) (h1 := fun _ => rfl) hr0;obtain ⟨ad, rfl, hcell⟩ := hc (by simp);obtain ⟨b, o, sp⟩ := ad;have h0 := hcell 0 (by simp)
   cases sp with
   | some sp =>
    (exfalso);unfold World.cell? Addr.add at h0;(dsimp only at h0);(split at h0)
    ·simp at h0
    ·cases h0
   | none =>
    have hb := World.block_lt_of_cell? w _ h0;refine Any.strings_Join strings_Join_lay strings_Join_extra b o c0 (x :: t) s1 w (fun j z hj => ?_) hb (by omega) hc0 (by omega);have hjl : j < (x :: t).length := (List.getElem?_eq_some_iff.1 hj).1;have h2 := hcell j hjl;rw [List.getD_eq_getElem?_getD, hj] at h2;(have e9 : (⟨b, o, none⟩ : Addr).add j = ⟨b, o + j, none⟩ := by cases j <;> rfl);rw [e9] at h2;exact h2
 ·rw [if_neg h1] at h;cases h

-- NOT PRINTED: function 140 (strconv_small)

-- NOT PRINTED: function 153 (strconv_log10Pow2)

-- NOT PRINTED: function 154 (bits_Len64)

-- NOT PRINTED: function 155 (strconv_bool2_int)

-- NOT PRINTED: function 141 (strconv_numDigits)

-- NOT PRINTED: function 142 (strconv_formatBase10)

-- NOT PRINTED: function 156 (strconv_isPowerOfTwo)

-- NOT PRINTED: function 161 (bits_TrailingZeros32)

-- NOT PRINTED: function 162 (bits_TrailingZeros64)

-- NOT PRINTED: function 157 (bits_TrailingZeros)

-- NOT PRINTED: function 143 (strconv_formatBits)

-- NOT PRINTED: function 115 (strconv_FormatInt)

-- NOT PRINTED: function 97 (strconv_Itoa_97)

/-! ### strconv_Itoa_79: function 79 -/
def strconv_Itoa_79_lay_ren : Go.Shelf.Ren := ⟨fun | 171 => 79 | 243 => 97 | 246 => 115 | 283 => 140 | 284 => 141 | 285 => 142 | 286 => 143 | 129 => 154 | 317 => 153 | 318 => 155 | 319 => 156 | 320 => 157 | 337 => 161 | 338 => 162 | n => n, fun | 3 => 3 | 9 => 9 | 2 => 2 | 4 => 4 | 171 => 152 | 0 => 0 | 53 => 153 | 37 => 105 | 5 => 5 | 173 => 156 | 212 => 171 | 51 => 161 | 20 => 20 | 213 => 172 | 46 => 145 | 232 => 186 | 233 => 187 | n => n, fun | 17 => 3 | 18 => 6 | 19 => 7 | n => n⟩
theorem strconv_Itoa_79_lay : Go.Proofs.LaysM.n171 Tryd.prog strconv_Itoa_79_lay_ren where
 mixed := by kernel_rfl
 f129 := Tryd.func154.trans (congrArg some (by kernel_rfl))
 f171 := Tryd.func79.trans (congrArg some (by kernel_rfl))
 f243 := Tryd.func97.trans (congrArg some (by kernel_rfl))
 f246 := Tryd.func115.trans (congrArg some (by kernel_rfl))
 f283 := Tryd.func140.trans (congrArg some (by kernel_rfl))
 f284 := Tryd.func141.trans (congrArg some (by kernel_rfl))
 f285 := Tryd.func142.trans (congrArg some (by kernel_rfl))
 f286 := Tryd.func143.trans (congrArg some (by kernel_rfl))
 f317 := Tryd.func153.trans (congrArg some (by kernel_rfl))
 f318 := Tryd.func155.trans (congrArg some (by kernel_rfl))
 f319 := Tryd.func156.trans (congrArg some (by kernel_rfl))
 f320 := Tryd.func157.trans (congrArg some (by kernel_rfl))
 f337 := Tryd.func161.trans (congrArg some (by kernel_rfl))
 f338 := Tryd.func162.trans (congrArg some (by kernel_rfl))
 t0 := Tryd.underlying0
 a0 := Tryd.isAgg0
 z0 := Tryd.sizeOf0
 v0 := Tryd.zeroValue0
 t2 := Tryd.underlying2
 a2 := Tryd.isAgg2
 z2 := Tryd.sizeOf2
 v2 := Tryd.zeroValue2
 t3 := Tryd.underlying3
 a3 := Tryd.isAgg3
 z3 := Tryd.sizeOf3
 v3 := Tryd.zeroValue3
 t4 := Tryd.underlying4
 a4 := Tryd.isAgg4
 z4 := Tryd.sizeOf4
 v4 := Tryd.zeroValue4
 t5 := Tryd.underlying5
 a5 := Tryd.isAgg5
 z5 := Tryd.sizeOf5
 v5 := Tryd.zeroValue5
 t9 := Tryd.underlying9
 a9 := Tryd.isAgg9
 z9 := Tryd.sizeOf9
 v9 := Tryd.zeroValue9
 t20 := Tryd.underlying20
 a20 := Tryd.isAgg20
 z20 := Tryd.sizeOf20
 v20 := Tryd.zeroValue20
 t37 := Tryd.underlying105
 a37 := Tryd.isAgg105
 z37 := Tryd.sizeOf105
 v37 := Tryd.zeroValue105
 t46 := Tryd.underlying145
 a46 := Tryd.isAgg145
 z46 := Tryd.sizeOf145
 v46 := Tryd.zeroValue145
 t51 := Tryd.underlying161
 a51 := Tryd.isAgg161
 z51 := Tryd.sizeOf161
 v51 := Tryd.zeroValue161
 t53 := Tryd.underlying153
 a53 := Tryd.isAgg153
 z53 := Tryd.sizeOf153
 v53 := Tryd.zeroValue153
 t171 := Tryd.underlying152
 a171 := Tryd.isAgg152
 z171 := Tryd.sizeOf152
 v171 := Tryd.zeroValue152
 t173 := Tryd.underlying156
 a173 := Tryd.isAgg156
 z173 := Tryd.sizeOf156
 v173 := Tryd.zeroValue156
 t212 := Tryd.underlying171
 a212 := Tryd.isAgg171
 z212 := Tryd.sizeOf171
 v212 := Tryd.zeroValue171
 t213 := Tryd.underlying172
 a213 := Tryd.isAgg172
 z213 := Tryd.sizeOf172
 t232 := Tryd.underlying186
 a232 := Tryd.isAgg186
 z232 := Tryd.sizeOf186
 v232 := Tryd.zeroValue186
 t233 := Tryd.underlying187
 a233 := Tryd.isAgg187
 z233 := Tryd.sizeOf187
 v233 := Tryd.zeroValue187
 g17 := by kernel_rfl
 g18 := by kernel_rfl
 g19 := by kernel_rfl
 i0 := by kernel_rfl
 i2 := by kernel_rfl
 i3 := by kernel_rfl
 i4 := by kernel_rfl
 i5 := by kernel_rfl
 i9 := by kernel_rfl
 i20 := by kernel_rfl
 i37 := by kernel_rfl
 i46 := by kernel_rfl
 i51 := by kernel_rfl
 i53 := by kernel_rfl
 i171 := by kernel_rfl
 i173 := by kernel_rfl
 i212 := by kernel_rfl
 i232 := by kernel_rfl
 i233 := by kernel_rfl
 m17 := by kernel_rfl
 m18 := by kernel_rfl
 m19 := by kernel_rfl
/-! the table that Itoa reads: what it holds, wherever the call's world has gone on -/
def VT (w : World) : Prop := Lib.TabIs Tryd.prog w "internal/strconv.uint64pow10" .u64 Lib.pow10Tab
theorem vt_g : Tryd.prog.globalNamed "internal/strconv.uint64pow10" = some 3 := by kernel_rfl
theorem vup {w w' : World} (h : VT w) (hb : Below w.heap.size w w') : VT w' := by
 unfold VT Lib.TabIs World.var? at h ⊢;rw [vt_g] at h ⊢;simp only [Option.bind_some] at h ⊢
 have hlt : 3 < w.heap.size := by
  (rcases Nat.lt_or_ge 3 w.heap.size with h' | h')
  ·exact h'
  ·(rw [Array.getElem?_eq_none h'] at h; cases h)
 rw [hb.block _ hlt];exact h
theorem vt_grow (w : World) (k : Nat) (os : Array Obj) : Below w.heap.size w (Sort.grow (w.drewN k) os) :=
 ⟨rfl, rfl, rfl, by simp [Sort.grow, World.drewN], fun j hj => by simp only [Sort.grow]; exact Array.getElem?_append_left hj⟩
def strconv_Itoa_79.f (a0 : Int) : Option ByteArray := if 0 ≤ a0 ∧ a0 < 1000000 then some ⟨(Lib.decDigits a0.toNat).toArray⟩ else none
theorem strconv_Itoa_79.calls (a0 : Int) (r : ByteArray) (w : World) (h : strconv_Itoa_79.f a0 = some r) (hT_ : Aside0 (VT w)) :
  Calls Tryd.prog 79 #[.int .i64 a0] w fun e w' => e = .returned (.string r) ∧ Below w.heap.size w w' := by
 unfold strconv_Itoa_79.f at h;(by_cases h1 : 0 ≤ a0 ∧ a0 < 1000000)
 ·rw [if_pos h1] at h;obtain rfl := Option.some.inj h;refine (Any.strconv_Itoa strconv_Itoa_79_lay a0 (by omega) (by omega) w hT_.out).mono ?_;rintro e w' ⟨rfl, k, os, rfl⟩;refine ⟨?_, vt_grow w k os⟩;unfold Lib.itoa;rw [if_neg (by omega)]
 ·rw [if_neg h1] at h;cases h

/-! ### impl_listText: function 43 -/
def impl_listText.l0 : Nat → ByteArray → List ByteArray → List Int → Int → Int → Option (ByteArray)
 | 0, _, _, _, _, _ => none
 | k + 1, x0, x5, x9, x10, x11 => if x11 < x10 then (if 0 ≤ x11 then (if x11 < (x9.length : Int) then ((strconv_Itoa_79.f (rd x9 x11)).bind fun t455 => (if x5.length < 8796093022208 then (impl_listText.l0 k x0 (x5 ++ [t455]) x9 x10 (wrap64 (x11 + 1))) else (none))) else (none)) else (none)) else ((strings_Join.f x5 x0).bind fun t459 => (some t459))
def impl_listText.f (k : Nat) (a0 : ByteArray) (l1 : List Int) : Option (ByteArray) := impl_listText.l0 k a0 (([] : List ByteArray)) l1 (l1.length : Int) 0
set_option maxHeartbeats 8000000 in
set_option maxRecDepth 100000 in
theorem impl_listText.calls (k : Nat) (a0 : ByteArray) (A1 : Option Addr) (c1 : Nat) (l1 : List Int) (r : ByteArray) (w : World) (hr1 : Kd.C (Kd.int .i64) w A1 l1.length l1) (hc1 : l1.length ≤ c1) (h : impl_listText.f k a0 l1 = some r) (hT_ : Aside0 (VT w)) :
  Calls Tryd.prog 43 #[.string a0, .slice A1 l1.length c1] w fun e w' => e = .returned (.string r) ∧ Below w.heap.size w w' := by
 have HR1 := Aside0.mk hr1;have HC1 := Aside0.mk hc1;clear hr1 hc1;have HB := Aside0.mk (Below.refl w.heap.size w);have H : (impl_listText.l0 k a0 (([] : List ByteArray)) l1 (l1.length : Int) 0) = some r := h;clear h;obtain ⟨y451, hy451⟩ : ∃ y_ : List ByteArray, y_ = (([] : List ByteArray)) := ⟨_, rfl⟩;(replace H : (impl_listText.l0 k a0 y451 l1 (l1.length : Int) 0) = some r := rwH hy451 H);have Ny451 := Aside0.mk hy451;clear hy451;have H' := Aside0.mk H;clear H;go_enter Tryd.func43, Tryd.ntmps43;(go_wp2_with (first | ((with_reducible refine gate_dst (N := 8) rfl ?_); refine Kd.R_lit Kd.string _ 9 ?hg (N := 8) ?hd (xs := ([] : List ByteArray)) (inner := []) (ok := fun _ => True) (okp := fun _ => True) ?hr ?hp (fun _ hk => hk) trivial (Below.refl _ _) (Nat.le_refl _) (by simp) ?_; (case hd => rfl); (case hg => rfl); (case hr => first | (go_simp; done) | (go_simp; rfl)); (case hp => exact (Reps.none _ _)); intro v452 w3 ho4 hb hg_ hnew_; clear hg_ hnew_; (first | rw [← Ny451.out] at ho4 | (simp only [Int.reduceToNat] at ho4; rw [← Ny451.out] at ho4)); have HO453 := Aside0.mk (Kd.R_lower ho4 (below_size (upW HB)));replace HB := Aside0.mk (below_step (upW HB) hb); clear hb ho4)));(try simp only [Act.put, List.setIfInBounds_toArray, List.set_cons_succ, List.set_cons_zero]);(go_loopg [5, 11] k (fun kq v5 v11 w' => ∃ (x5_1 : List ByteArray) (x11_1 : Int), v11 = .int .i64 x11_1 ∧ Aside0 (impl_listText.l0 kq a0 x5_1 l1 (l1.length : Int) x11_1 = some r) ∧ Aside0 (kq ≤ k) ∧ Aside0 (Kd.R Kd.string 9 w' w.heap.size (fun _ => True) v5 x5_1) ∧ Aside0 (Below w.heap.size w w')));(case atStart => exact ⟨(y451), (0), (eqw), H', ⟨Nat.le_refl _⟩, ⟨upR HO453⟩, ⟨upW HB⟩⟩)
 case round =>
  clear H';obtain ⟨x5_1, x11_1, rfl, HA, HK1, HO_5, HB⟩ := hrel
  cases gk with
  | zero => exact absurd HA.out (by simp [impl_listText.l0])
  | succ k1 =>
   have H := HA.out;clear HA;simp only [impl_listText.l0] at H;(by_cases c5 : x11_1 < (l1.length : Int))
   ·rw [if_pos c5] at H;have c5b0 := decide_eq_true c5;clear c5;(by_cases c6 : 0 ≤ x11_1)
    ·rw [if_pos c6] at H;have c6b0 := decide_eq_true c6;clear c6;(by_cases c7 : x11_1 < (l1.length : Int))
     ·rw [if_pos c7] at H;have c7b0 := decide_eq_true c7;clear c7;replace H := Option.bind_eq_some_iff.mp H;obtain ⟨t455, A80, H⟩ := H;replace H : (if x5_1.length < 8796093022208 then (impl_listText.l0 k1 a0 (x5_1 ++ [t455]) l1 (l1.length : Int) (wrap64 (x11_1 + 1))) else (none)) = some r := H;have A8 := Aside0.mk A80;clear A80;(by_cases c9 : x5_1.length < 8796093022208)
      ·rw [if_pos c9] at H;have LMc9 := Aside0.mk c9;clear c9;obtain ⟨y456, hy456⟩ : ∃ y_ : List ByteArray, y_ = (x5_1 ++ [t455]) := ⟨_, rfl⟩;(replace H : (impl_listText.l0 k1 a0 y456 l1 (l1.length : Int) (wrap64 (x11_1 + 1))) = some r := rwH hy456 H);have Ny456 := Aside0.mk hy456;clear hy456;have H' := Aside0.mk H;clear H;have p454 : 0 ≤ (x11_1 : Int) := oda;have q454 : x11_1 < (l1.length : Int) := oda;obtain ⟨ad454, e454, hx454_0⟩ := Kd.at_int HR1.out x11_1 p454 q454;cases e454;replace hx454_0 := cb HB hx454_0;replace p454 := eq_true p454;replace q454 := eq_true q454;(go_wp2_with (first | ((with_reducible refine gate_callee (f := 79) rfl ?_); refine goesL_ (some 17) rfl rfl Tryd.func79 (by kernel_rfl) rfl #[.int .i64 (rd l1 x11_1)] rfl itp ?_; (with_reducible refine (strconv_Itoa_79.calls (rd l1 x11_1) t455 _ A8.out ?sideT).mono ?_); (case sideT => exact ⟨vup hT_.out (upW HB)⟩); rintro e w10 ⟨rfl, hb⟩; refine ⟨_, rfl, ?_⟩; replace HO_5 := Aside0.mk (Kd.R_below (upR HO_5) hb);replace HB := Aside0.mk (below_step (upW HB) hb); (try clear hb)) | ((with_reducible refine gate_builtin (b := .append) (xs := #[.tmp 15, .tmp 18]) rfl ?_); at_builtin; refine Kd.R_append Kd.string (w0 := w) w.heap.size rfl (.tmp 15) (.tmp 18) 67 9 (.string ⟨#[]⟩) 16 rfl Tryd.underlying67 info9 rfl (by decide) (by omega) u5 x5_1 t455 [.string t455] (fun _ => True) (fun _ => False) rfl rfl ?aP (fun _ hk => hk.elim) ?aF ?aO ?aB ?aS ?aL ?_; (case aP => exact rfl); (case aB => exact (upW HB)); (case aF => exact (fun _ _ => trivial)); (case aO => exact (upR HO_5)); (case aS => exact (below_size (upW HB))); (case aL => have := LMc9.out; omega); intro v457 w11 ho hb hg hat; rw [← Ny456.out] at ho; have n0_ := Aside0.mk (hb); have n1_ := Aside0.mk (ho); clear HB; clear HO_5; have HB := n0_; have HO458 := n1_; clear n0_ n1_; clear ho hb hg hat)));go_roundg k1;(case measure => have := HK1.out; omega);(case rel => exact ⟨(y456), (wrap64 (x11_1 + 1)), (eqw), H', ⟨by have := HK1.out; omega⟩, ⟨upR HO458⟩, ⟨upW HB⟩⟩)
      ·rw [if_neg c9] at H;exact absurd H (by simp)
     ·rw [if_neg c7] at H;exact absurd H (by simp)
    ·rw [if_neg c6] at H;exact absurd H (by simp)
   ·rw [if_neg c5] at H;have c5b0 := decide_eq_false c5;clear c5;replace H := Option.bind_eq_some_iff.mp H;obtain ⟨t459, A120, H⟩ := H;replace H : (some t459) = some r := H;have A12 := Aside0.mk A120;clear A120;obtain rfl := Option.some.inj H;obtain ⟨Ao13, co13, eo13⟩ := Kd.R_slice HO_5.out;subst eo13;(go_wp2_with (first | ((with_reducible refine gate_callee (f := 44) rfl ?_); refine goesL_ (some 23) rfl rfl Tryd.func44 (by kernel_rfl) rfl #[.slice Ao13 x5_1.length co13, .string a0] rfl itp ?_; (with_reducible refine (strings_Join.calls _ _ x5_1 a0 t459 _ ?side1 ?side2 A12.out).mono ?_); (case side1 => exact upC (Kd.R_reads' HO_5.out).2.2); (case side2 => exact (Kd.R_reads' HO_5.out).2.1); rintro e w14 ⟨rfl, hb⟩; refine ⟨_, rfl, ?_⟩; replace HO_5 := Aside0.mk (Kd.R_below (upR HO_5) hb);replace HB := Aside0.mk (below_step (upW HB) hb); (try clear hb))));go_ret;exact ⟨eqv, upW HB⟩

/-! ### impl_codeText: function 51 -/
def impl_codeText.l0 : Nat → ByteArray → List (List Int) → Int → Int → Option (ByteArray)
 | 0, _, _, _, _ => none
 | k + 1, x3, x6, x7, x8 => if x8 < x7 then (if 0 ≤ x8 then (if x8 < (x6.length : Int) then ((impl_listText.f k (⟨#[44]⟩ : ByteArray) (rd_L1 x6 x8)).bind fun t461 => (if 1 + t461.size ≤ 9223372036854775807 then (if ((⟨#[40]⟩ : ByteArray) ++ t461).size + 1 ≤ 9223372036854775807 then (if x3.size + (((⟨#[40]⟩ : ByteArray) ++ t461) ++ (⟨#[41]⟩ : ByteArray)).size ≤ 9223372036854775807 then (impl_codeText.l0 k (x3 ++ (((⟨#[40]⟩ : ByteArray) ++ t461) ++ (⟨#[41]⟩ : ByteArray))) x6 x7 (wrap64 (x8 + 1))) else (none)) else (none)) else (none))) else (none)) else (none)) else (some x3)
def impl_codeText.f (k : Nat) (l0 : List (List Int)) : Option (ByteArray) := impl_codeText.l0 k (⟨#[]⟩ : ByteArray) l0 (l0.length : Int) 0
set_option maxHeartbeats 8000000 in
set_option maxRecDepth 100000 in
theorem impl_codeText.calls (k : Nat) (A0 : Option Addr) (c0 : Nat) (l0 : List (List Int)) (r : ByteArray) (w : World) (hr0 : Kd.C (Kd.slice 3 (Kd.int .i64)) w A0 l0.length l0) (hc0 : l0.length ≤ c0) (h : impl_codeText.f k l0 = some r) (hT_ : Aside0 (VT w)) :
  Calls Tryd.prog 51 #[.slice A0 l0.length c0] w fun e w' => e = .returned (.string r) ∧ Below w.heap.size w w' := by
 have HR0 := Aside0.mk hr0;have HC0 := Aside0.mk hc0;clear hr0 hc0;have HB := Aside0.mk (Below.refl w.heap.size w);have H : (impl_codeText.l0 k (⟨#[]⟩ : ByteArray) l0 (l0.length : Int) 0) = some r := h;clear h;have H' := Aside0.mk H;clear H;go_enter Tryd.func51, Tryd.ntmps51;go_wp2;(go_loopg [3, 8] k (fun kq v3 v8 w' => ∃ (x3_1 : ByteArray) (x8_1 : Int), v3 = .string x3_1 ∧ v8 = .int .i64 x8_1 ∧ Aside0 (impl_codeText.l0 kq x3_1 l0 (l0.length : Int) x8_1 = some r) ∧ Aside0 (kq ≤ k) ∧ Aside0 (Below w.heap.size w w')));(case atStart => exact ⟨((⟨#[]⟩ : ByteArray)), (0), (eqw), (eqw), H', ⟨Nat.le_refl _⟩, ⟨upW HB⟩⟩)
 case round =>
  clear H';obtain ⟨x3_1, x8_1, rfl, rfl, HA, HK1, HB⟩ := hrel
  cases gk with
  | zero => exact absurd HA.out (by simp [impl_codeText.l0])
  | succ k1 =>
   have H := HA.out;clear HA;simp only [impl_codeText.l0] at H;(by_cases c2 : x8_1 < (l0.length : Int))
   ·rw [if_pos c2] at H;have c2b0 := decide_eq_true c2;clear c2;(by_cases c3 : 0 ≤ x8_1)
    ·rw [if_pos c3] at H;have c3b0 := decide_eq_true c3;clear c3;(by_cases c4 : x8_1 < (l0.length : Int))
     ·rw [if_pos c4] at H;have c4b0 := decide_eq_true c4;clear c4;replace H := Option.bind_eq_some_iff.mp H;obtain ⟨t461, A50, H⟩ := H;replace H : (if 1 + t461.size ≤ 9223372036854775807 then (if ((⟨#[40]⟩ : ByteArray) ++ t461).size + 1 ≤ 9223372036854775807 then (if x3_1.size + (((⟨#[40]⟩ : ByteArray) ++ t461) ++ (⟨#[41]⟩ : ByteArray)).size ≤ 9223372036854775807 then (impl_codeText.l0 k1 (x3_1 ++ (((⟨#[40]⟩ : ByteArray) ++ t461) ++ (⟨#[41]⟩ : ByteArray))) l0 (l0.length : Int) (wrap64 (x8_1 + 1))) else (none)) else (none)) else (none)) = some r := H;have A5 := Aside0.mk A50;clear A50;(by_cases c6 : 1 + t461.size ≤ 9223372036854775807)
      ·rw [if_pos c6] at H;have c6b0 := eq_true c6;have c6b1 := decide_eq_true c6;(try have c6b2 : (9223372036854775807 < 1 + t461.size) = False := eq_false (Nat.not_lt.2 c6));(by_cases c7 : ((⟨#[40]⟩ : ByteArray) ++ t461).size + 1 ≤ 9223372036854775807)
       ·rw [if_pos c7] at H;have c7b0 := eq_true c7;have c7b1 := decide_eq_true c7;(try have c7b2 : (9223372036854775807 < ((⟨#[40]⟩ : ByteArray) ++ t461).size + 1) = False := eq_false (Nat.not_lt.2 c7));(try (have c7s := c7; simp only [ByteArray.size_append] at c7s; have c7t : (9223372036854775807 < 1 + t461.size + 1) = False := eq_false (Nat.not_lt.2 (by exact c7s))));(by_cases c8 : x3_1.size + (((⟨#[40]⟩ : ByteArray) ++ t461) ++ (⟨#[41]⟩ : ByteArray)).size ≤ 9223372036854775807)
        ·rw [if_pos c8] at H;have c8b0 := eq_true c8;have c8b1 := decide_eq_true c8;(try have c8b2 : (9223372036854775807 < x3_1.size + (((⟨#[40]⟩ : ByteArray) ++ t461) ++ (⟨#[41]⟩ : ByteArray)).size) = False := eq_false (Nat.not_lt.2 c8));(try (have c8s := c8; simp only [ByteArray.size_append] at c8s; have c8t : (9223372036854775807 < x3_1.size + (1 + t461.size + 1)) = False := eq_false (Nat.not_lt.2 (by exact c8s))));have H' := Aside0.mk H;clear H;have p460 : 0 ≤ (x8_1 : Int) := oda;have q460 : x8_1 < (l0.length : Int) := oda;obtain ⟨ad460, A460_0, c460_0, e460, hx460_0, hl460_0, hi460_0⟩ := at_L1 HR0.out x8_1 p460 q460;cases e460;replace hx460_0 := cb HB hx460_0;have HR460_0 := Aside0.mk hi460_0;have HC460_0 := Aside0.mk hl460_0;clear hi460_0 hl460_0;replace p460 := eq_true p460;replace q460 := eq_true q460;(go_wp2_with (first | ((with_reducible refine gate_callee (f := 43) rfl ?_); refine goesL_ (some 14) rfl rfl Tryd.func43 (by kernel_rfl) rfl #[.string (⟨#[44]⟩ : ByteArray), .slice A460_0 (rd_L1 l0 x8_1).length c460_0] rfl itp ?_; (with_reducible refine (impl_listText.calls k1 (⟨#[44]⟩ : ByteArray) _ _ (rd_L1 l0 x8_1) t461 _ ?side1 ?side2 A5.out ?sideT).mono ?_); (case sideT => exact ⟨vup hT_.out (upW HB)⟩); (case side1 => exact upC (Kd.C_below HR460_0.out HB.out)); (case side2 => exact HC460_0.out); rintro e w9 ⟨rfl, hb⟩; refine ⟨_, rfl, ?_⟩; replace HB := Aside0.mk (below_step (upW HB) hb); (try clear hb))));go_roundg k1;(case measure => have := HK1.out; omega);(case rel => exact ⟨(x3_1 ++ (((⟨#[40]⟩ : ByteArray) ++ t461) ++ (⟨#[41]⟩ : ByteArray))), (wrap64 (x8_1 + 1)), (eqw), (eqw), H', ⟨by have := HK1.out; omega⟩, ⟨upW HB⟩⟩)
        ·rw [if_neg c8] at H;exact absurd H (by simp)
       ·rw [if_neg c7] at H;exact absurd H (by simp)
      ·rw [if_neg c6] at H;exact absurd H (by simp)
     ·rw [if_neg c4] at H;exact absurd H (by simp)
    ·rw [if_neg c3] at H;exact absurd H (by simp)
   ·rw [if_neg c2] at H;have c2b0 := decide_eq_false c2;clear c2;obtain rfl := Option.some.inj H;go_wp2;go_ret;exact ⟨eqv, upW HB⟩

/-! ### impl_CodeText: function 21 -/
def impl_CodeText.f (k : Nat) (l0 : List (List Int)) : Option (ByteArray × Bool) := (impl_IsCutCode.f k l0).bind fun t462 => (if t462 = true then ((impl_codeText.f k l0).bind fun t463 => (some (t463, true))) else (some ((⟨#[]⟩ : ByteArray), false)))
set_option maxHeartbeats 8000000 in
set_option maxRecDepth 100000 in
theorem impl_CodeText.calls (k : Nat) (A0 : Option Addr) (c0 : Nat) (l0 : List (List Int)) (r1 : ByteArray) (r2 : Bool) (w : World) (hr0 : Kd.C (Kd.slice 3 (Kd.int .i64)) w A0 l0.length l0) (hc0 : l0.length ≤ c0) (h : impl_CodeText.f k l0 = some (r1, r2)) (hT_ : Aside0 (VT w)) :
  Calls Tryd.prog 21 #[.slice A0 l0.length c0] w fun e w' => e = .returned (.tuple #[.string r1, .bool r2]) ∧ Below w.heap.size w w' := by
 have HR0 := Aside0.mk hr0;have HC0 := Aside0.mk hc0;clear hr0 hc0;have HB := Aside0.mk (Below.refl w.heap.size w);have H : ((impl_IsCutCode.f k l0).bind fun t462 => (if t462 = true then ((impl_codeText.f k l0).bind fun t463 => (some (t463, true))) else (some ((⟨#[]⟩ : ByteArray), false)))) = some (r1, r2) := h;clear h;replace H := Option.bind_eq_some_iff.mp H;obtain ⟨t462, A20, H⟩ := H;replace H : (if t462 = true then ((impl_codeText.f k l0).bind fun t463 => (some (t463, true))) else (some ((⟨#[]⟩ : ByteArray), false))) = some (r1, r2) := H;have A2 := Aside0.mk A20;clear A20;(by_cases c3 : t462 = true)
 ·subst c3;(have H1 : ((impl_codeText.f k l0).bind fun t463 => (some (t463, true))) = some (r1, r2) := by rw [if_pos rfl] at H; exact H);clear H;have H := H1;clear H1;replace H := Option.bind_eq_some_iff.mp H;obtain ⟨t463, A40, H⟩ := H;replace H : (some (t463, true)) = some (r1, r2) := H;have A4 := Aside0.mk A40;clear A40;simp only [Option.some.injEq, Prod.mk.injEq] at H;obtain ⟨rfl, rfl⟩ := H;go_enter Tryd.func21, Tryd.ntmps21;(go_wp2_with (first | ((with_reducible refine gate_callee (f := 50) rfl ?_); refine goesL_ (some 5) rfl rfl Tryd.func50 (by kernel_rfl) rfl #[.slice A0 l0.length c0] rfl itp ?_; (with_reducible refine (impl_IsCutCode.calls k _ _ l0 true _ ?side1 ?side2 A2.out).mono ?_); (case side1 => exact upC HR0.out); (case side2 => exact HC0.out); rintro e w5 ⟨rfl, hb⟩; refine ⟨_, rfl, ?_⟩; replace HB := Aside0.mk (below_step (upW HB) hb); (try clear hb)) | ((with_reducible refine gate_callee (f := 51) rfl ?_); refine goesL_ (some 8) rfl rfl Tryd.func51 (by kernel_rfl) rfl #[.slice A0 l0.length c0] rfl itp ?_; (with_reducible refine (impl_codeText.calls k _ _ l0 t463 _ ?side1 ?side2 A4.out ?sideT).mono ?_); (case sideT => exact ⟨vup hT_.out (upW HB)⟩); (case side1 => exact upC (Kd.C_below HR0.out HB.out)); (case side2 => exact HC0.out); rintro e w6 ⟨rfl, hb⟩; refine ⟨_, rfl, ?_⟩; replace HB := Aside0.mk (below_step (upW HB) hb); (try clear hb))));(go_ret2);exact ⟨eqv, upW HB⟩
 ·replace c3 := Bool.eq_false_iff.mpr c3;subst c3;(have H1 : (some ((⟨#[]⟩ : ByteArray), false)) = some (r1, r2) := by rw [if_neg (show ¬ (false = true) by decide)] at H; exact H);clear H;have H := H1;clear H1;simp only [Option.some.injEq, Prod.mk.injEq] at H;obtain ⟨rfl, rfl⟩ := H;go_enter Tryd.func21, Tryd.ntmps21;(go_wp2_with (first | ((with_reducible refine gate_callee (f := 50) rfl ?_); refine goesL_ (some 5) rfl rfl Tryd.func50 (by kernel_rfl) rfl #[.slice A0 l0.length c0] rfl itp ?_; (with_reducible refine (impl_IsCutCode.calls k _ _ l0 false _ ?side1 ?side2 A2.out).mono ?_); (case side1 => exact upC HR0.out); (case side2 => exact HC0.out); rintro e w7 ⟨rfl, hb⟩; refine ⟨_, rfl, ?_⟩; replace HB := Aside0.mk (below_step (upW HB) hb); (try clear hb))));(go_ret2);exact ⟨eqv, upW HB⟩

end Go.Proofs.YtmmcbdndelaeoaaDoor.PFnExactCodeText
