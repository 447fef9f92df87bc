-- made for this claim by a program of this session
import Derived.Test.YtmmcbdndelaeoaaDoorPFnExactCodeTextx0
import Derived.Test.YtmmcbdndelaeoaaDoorPFnExactCodeTextx5
namespace Go.Proofs.YtmmcbdndelaeoaaDoor.PFnExactCodeText
open Go.RowKit Go.Proofs.YtmmcbdndelaeoaaDoorW.PrintWords Go.Proofs.YtmmcbdndelaeoaaDoorW.PrintLast Go.Proofs.YtmmcbdndelaeoaaDoorW.PrintMore
attribute [local go_sem] max2_int min2_int max_two min_two max_three min_three max_four min_four   -- for this text's walks alone
set_option linter.unusedVariables false
set_option linter.unusedSimpArgs false

/-! ### spec_CodeText: function 19 -/
def spec_CodeText.f (k : Nat) (l0 : List (List Int)) : Option (ByteArray × Bool) := (spec_bkCut.f k l0).bind fun bt211 => (if bt211.2.2.2 = true then ((spec_bkText.f k l0).bind fun t218 => (some (t218, true))) else (some ((⟨#[]⟩ : ByteArray), false)))
set_option maxHeartbeats 8000000 in
set_option maxRecDepth 100000 in
theorem spec_CodeText.calls (k : Nat) (A0 : Option Addr) (c0 : Nat) (l0 : List (List Int)) (r1 : ByteArray) (r2 : Bool) (w : World) (hr0 : Kd.C (Kd.slice 3 (Kd.int .i64)) w A0 l0.length l0) (hc0 : l0.length ≤ c0) (h : spec_CodeText.f k l0 = some (r1, r2)) :
  Calls Tryd.prog 19 #[.slice A0 l0.length c0] w fun e w' => e = .returned (.tuple #[.string r1, .bool r2]) ∧ Below w.heap.size w w' := by
 have hu30 := Tryd.underlying30;have HR0 := Aside0.mk hr0;have HC0 := Aside0.mk hc0;clear hr0 hc0;have HB := Aside0.mk (Below.refl w.heap.size w);have H : ((spec_bkCut.f k l0).bind fun bt211 => (if bt211.2.2.2 = true then ((spec_bkText.f k l0).bind fun t218 => (some (t218, true))) else (some ((⟨#[]⟩ : ByteArray), false)))) = some (r1, r2) := h;clear h;replace H := Option.bind_eq_some_iff.mp H;obtain ⟨⟨t211, t212, t213, t216⟩, A20, H⟩ := H;replace H : (if t216 = true then ((spec_bkText.f k l0).bind fun t218 => (some (t218, true))) else (some ((⟨#[]⟩ : ByteArray), false))) = some (r1, r2) := H;have A2 := Aside0.mk A20;clear A20;(by_cases c3 : t216 = true)
 ·subst c3;(have H1 : ((spec_bkText.f k l0).bind fun t218 => (some (t218, true))) = some (r1, r2) := by rw [if_pos rfl] at H; exact H);clear H;have H := H1;clear H1;replace H := Option.bind_eq_some_iff.mp H;obtain ⟨t218, A40, H⟩ := H;replace H : (some (t218, true)) = some (r1, r2) := H;have A4 := Aside0.mk A40;clear A40;simp only [Option.some.injEq, Prod.mk.injEq] at H;obtain ⟨rfl, rfl⟩ := H;go_enter Tryd.func19, Tryd.ntmps19;(go_wp2_with (first | ((with_reducible refine gate_callee (f := 47) rfl ?_); refine goesL_ (some 8) rfl rfl Tryd.func47 (by kernel_rfl) rfl #[.slice A0 l0.length c0] rfl itp ?_; (with_reducible refine (spec_bkCut.calls k _ _ l0 t211 t212 t213 true _ ?side1 ?side2 A2.out).mono ?_); (case side1 => exact upC HR0.out); (case side2 => exact HC0.out); rintro e w5 ⟨v214, rfl, ho0, hb⟩; refine ⟨_, rfl, ?_⟩; have HO215 := Aside0.mk (Kd.R_lower ho0 (below_size (upW HB)));replace HB := Aside0.mk (below_step (upW HB) hb); (try clear hb ho0)) | ((with_reducible refine gate_dst (N := 4) rfl ?_); refine boxE 4 (#[.int .i64 0, .int .i64 0, .slice none 0 0]) 30 ?_; intro gb217 hg w6 hbox hb; replace HO215 := Aside0.mk (Kd.R_below (upR HO215) hb);have BK217 := Aside0.mk (hbox);have GW217 := Aside0.mk (gz hg HB);have GE217 := Aside0.mk (gz hg HB);replace HB := Aside0.mk (below_step (upW HB) hb); clear hb hbox hg; obtain ⟨hcz7_0, hcz7_1, hcz7_2, hfz7_0, hfz7_1, hfz7_2⟩ := cz3 BK217 (.int .i64 0) (.int .i64 0) (.slice none 0 0); obtain ⟨Ao8, co8, eo8⟩ := Kd.R_slice HO215.out; subst eo8) | ((with_reducible refine gate_callee (f := 48) rfl ?_); refine goesL_ (some 14) rfl rfl Tryd.func48 (by kernel_rfl) rfl #[.slice A0 l0.length c0] rfl itp ?_; (with_reducible refine (spec_bkText.calls k _ _ l0 t218 _ ?side1 ?side2 A4.out).mono ?_); (case side1 => exact Kd.C_below HR0.out (upW HB)); (case side2 => exact HC0.out); rintro e w9 ⟨rfl, hb⟩; refine ⟨_, rfl, ?_⟩; replace HO215 := Aside0.mk (Kd.R_below (by (with_reducible repeat (first | apply Kd.R_alloc | apply Kd.R_drewN | apply Kd.R_drew)); exact (Kd.R_far3 HO215 BK217 (.int .i64 t211) (.int .i64 t212) (.slice Ao8 t213.length co8) (fun _ h_ => h_.1))) hb);replace BK217 := Aside0.mk (blk_below (g := gb217) (o := .cells #[.int .i64 t211, .int .i64 t212, .slice Ao8 t213.length co8] 30 (0, 0)) (blk3 BK217 #[.int .i64 t211, .int .i64 t212, .slice none 0 0] #[.int .i64 t211, .int .i64 0, .slice none 0 0]) hb);replace HB := Aside0.mk (below_step (upW HB) hb); (try clear hb))));(go_ret2);exact ⟨eqv, upW HB⟩
 ·replace c3 := Bool.eq_false_iff.mpr c3;subst c3;(have H1 : (some ((⟨#[]⟩ : ByteArray), false)) = some (r1, r2) := by rw [if_neg (show ¬ (false = true) by decide)] at H; exact H);clear H;have H := H1;clear H1;simp only [Option.some.injEq, Prod.mk.injEq] at H;obtain ⟨rfl, rfl⟩ := H;go_enter Tryd.func19, Tryd.ntmps19;(go_wp2_with (first | ((with_reducible refine gate_callee (f := 47) rfl ?_); refine goesL_ (some 8) rfl rfl Tryd.func47 (by kernel_rfl) rfl #[.slice A0 l0.length c0] rfl itp ?_; (with_reducible refine (spec_bkCut.calls k _ _ l0 t211 t212 t213 false _ ?side1 ?side2 A2.out).mono ?_); (case side1 => exact upC HR0.out); (case side2 => exact HC0.out); rintro e w10 ⟨v214, rfl, ho0, hb⟩; refine ⟨_, rfl, ?_⟩; have HO215 := Aside0.mk (Kd.R_lower ho0 (below_size (upW HB)));replace HB := Aside0.mk (below_step (upW HB) hb); (try clear hb ho0)) | ((with_reducible refine gate_dst (N := 4) rfl ?_); refine boxE 4 (#[.int .i64 0, .int .i64 0, .slice none 0 0]) 30 ?_; intro gb217 hg w11 hbox hb; replace HO215 := Aside0.mk (Kd.R_below (upR HO215) hb);have BK217 := Aside0.mk (hbox);have GW217 := Aside0.mk (gz hg HB);have GE217 := Aside0.mk (gz hg HB);replace HB := Aside0.mk (below_step (upW HB) hb); clear hb hbox hg; obtain ⟨hcz12_0, hcz12_1, hcz12_2, hfz12_0, hfz12_1, hfz12_2⟩ := cz3 BK217 (.int .i64 0) (.int .i64 0) (.slice none 0 0); obtain ⟨Ao13, co13, eo13⟩ := Kd.R_slice HO215.out; subst eo13)));(go_ret2);exact ⟨eqv, upW HB⟩

/-! ### laws_toIntS: function 49 -/
def laws_toIntS.l0 : Nat → List Int → List Int → Int → Option (List Int)
 | 0, _, _, _ => none
 | k + 1, x0, x3, x4 => if x4 < (x0.length : Int) then (if 0 ≤ x4 then (if x4 < (x3.length : Int) then (laws_toIntS.l0 k x0 (x3.set (x4 : Int).toNat (rd x0 x4)) (wrap64 (x4 + 1))) else (none)) else (none)) else (some x3)
def laws_toIntS.f (k : Nat) (l0 : List Int) : Option (List Int) := if 0 ≤ (l0.length : Int) then (if ((l0.length : Int) : Int).toNat ≤ 35184372088832 then (laws_toIntS.l0 k l0 (List.replicate ((l0.length : Int) : Int).toNat 0) 0) else (none)) else (none)
set_option maxHeartbeats 8000000 in
set_option maxRecDepth 100000 in
theorem laws_toIntS.calls (k : Nat) (A0 : Option Addr) (c0 : Nat) (l0 : List Int) (r : List Int) (w : World) (hr0 : Kd.C (Kd.int .i64) w A0 l0.length l0) (hc0 : l0.length ≤ c0) (h : laws_toIntS.f k l0 = some r) :
  Calls Tryd.prog 49 #[.slice A0 l0.length c0] w fun e w' => ∃ v0_ : Value, e = .returned (v0_) ∧ Kd.R (Kd.int .i64) 3 w' w.heap.size (fun _ => True) v0_ r ∧ Below w.heap.size w w' := by
 have HR0 := Aside0.mk hr0;have HC0 := Aside0.mk hc0;clear hr0 hc0;have HB := Aside0.mk (Below.refl w.heap.size w);have H : (if 0 ≤ (l0.length : Int) then (if ((l0.length : Int) : Int).toNat ≤ 35184372088832 then (laws_toIntS.l0 k l0 (List.replicate ((l0.length : Int) : Int).toNat 0) 0) else (none)) else (none)) = some r := h;clear h;(by_cases c2 : 0 ≤ (l0.length : Int))
 ·rw [if_pos c2] at H;have c2b0 := eq_true c2;have c2b1 := decide_eq_true c2;clear c2;(by_cases c3 : ((l0.length : Int) : Int).toNat ≤ 35184372088832)
  ·rw [if_pos c3] at H;have c3b0 := eq_true c3;have c3b1 := decide_eq_true c3;clear c3;obtain ⟨y219, hy219⟩ : ∃ y_ : List Int, y_ = (List.replicate ((l0.length : Int) : Int).toNat 0) := ⟨_, rfl⟩;(replace H : (laws_toIntS.l0 k l0 y219 0) = some r := rwH hy219 H);have Ny219 := Aside0.mk hy219;clear hy219;have H' := Aside0.mk H;clear H;go_enter Tryd.func49, Tryd.ntmps49;(go_wp2_with (first | ((with_reducible refine gate_dst (N := 7) rfl ?_); refine Kd.R_make (Kd.int .i64) _ 3 rfl (N := 7) rfl 74 _ _ rfl (l0.length : Int) rfl rfl Tryd.underlying74 (.int .i64 0) 8 info3 rfl (by decide) (by omega) 0 (ok := fun _ => True) (okp := fun _ => True) rfl (fun _ hk => hk) trivial (oda) (Nat.le_trans (Nat.mul_le_mul_right _ (oda : (l0.length : Int).toNat ≤ 35184372088832)) (by omega)) (Below.refl _ _) (Nat.le_refl _) ?_; intro v220 w4 ho5 hb hg_ hnew_; clear hg_ hnew_; (first | rw [← Ny219.out] at ho5 | (simp only [Int.reduceToNat] at ho5; rw [← Ny219.out] at ho5)); have HO221 := Aside0.mk (Kd.R_lower ho5 (below_size (upW HB)));replace HB := Aside0.mk (below_step (upW HB) hb); clear hb ho5)));(try simp only [Act.put, List.setIfInBounds_toArray, List.set_cons_succ, List.set_cons_zero]);(go_loopg [4] k (fun kq v4 w' => ∃ (x3_1 : List Int) (x4_1 : Int), v4 = .int .i64 x4_1 ∧ Aside0 (laws_toIntS.l0 kq l0 x3_1 x4_1 = some r) ∧ Aside0 (kq ≤ k) ∧ Aside0 (Kd.R (Kd.int .i64) 3 w' w.heap.size (fun _ => True) v220 x3_1) ∧ Aside0 (Below w.heap.size w w')));(case atStart => exact ⟨(y219), (0), (eqw), H', ⟨Nat.le_refl _⟩, ⟨upR HO221⟩, ⟨upW HB⟩⟩)
   case round =>
    clear H';(try clear c2b0 c2b1 c3b0 c3b1);obtain ⟨x3_1, x4_1, rfl, HA, HK1, HO_3, HB⟩ := hrel
    cases gk with
    | zero => exact absurd HA.out (by simp [laws_toIntS.l0])
    | succ k1 =>
     have H := HA.out;clear HA;simp only [laws_toIntS.l0] at H;(by_cases c6 : x4_1 < (l0.length : Int))
     ·rw [if_pos c6] at H;have c6b0 := decide_eq_true c6;clear c6;(by_cases c7 : 0 ≤ x4_1)
      ·rw [if_pos c7] at H;have c7b0 := decide_eq_true c7;clear c7;(by_cases c8 : x4_1 < (x3_1.length : Int))
       ·rw [if_pos c8] at H;have c8b0 := decide_eq_true c8;clear c8;obtain ⟨y223, hy223⟩ : ∃ y_ : List Int, y_ = (x3_1.set (x4_1 : Int).toNat (rd l0 x4_1)) := ⟨_, rfl⟩;(replace H : (laws_toIntS.l0 k1 l0 y223 (wrap64 (x4_1 + 1))) = some r := rwH hy223 H);have Ny223 := Aside0.mk hy223;clear hy223;have H' := Aside0.mk H;clear H;have p222 : 0 ≤ (x4_1 : Int) := oda;have q222 : x4_1 < (l0.length : Int) := oda;obtain ⟨ad222, e222, hx222_0⟩ := Kd.at_int HR0.out x4_1 p222 q222;cases e222;replace hx222_0 := cb HB hx222_0;replace p222 := eq_true p222;replace q222 := eq_true q222;have p9 : 0 ≤ (x4_1 : Int) := oda;have q9 : (x4_1 : Int) < ((x3_1.length : Int) : Int) := oda;obtain ⟨go9, co9, eo9, gb9, gl9, cl9, HG9⟩ := Kd.R_form HO_3.out (by omega);(first | cases eo9 | (injection eo9 with ea_ en_ ec_; (first | subst ea_ | (injection ea_ with ea_; subst ea_)); subst ec_; clear en_));have GB9 := Aside0.mk gb9;have GG9 := Aside0.mk HG9;clear gb9 gl9 HG9;obtain ⟨hx9_0, hf9_0⟩ := Kd.R_celln 0 HO_3.out (x4_1 : Int) p9 q9;replace p9 := eq_true p9;replace q9 := eq_true q9;have HP10 := Kd.R_putg HO_3.out (x4_1 : Int) (rd l0 x4_1);(go_wp2_with (first | ((with_reducible refine gate_store (t := 3) (p := 20) rfl ?_); refine store_event (t := 3) (p := 20) (v := ?vo_w11) (w1 := (wr.setCell ⟨go9, (x4_1 : Int).toNat, none⟩ (.int .i64 (rd l0 x4_1)))) ?hg ?ho ?hn ?hr ?_; (case ho => rfl); (case hg => rfl); (case hn => rfl); (case hr => first | (go_simp; done) | (go_simp; rfl)); intro w11 hw; have hg : wr.grownBy w11 (some go9) := (by rw [hw]; exact HP10.2); have hp_ : Kd.R (Kd.int .i64) 3 w11 w.heap.size (fun _ => True) (.slice (some ⟨go9, 0, none⟩) x3_1.length co9) y223 := (by rw [hw, Ny223.out]; exact HP10.1); clear HP10; replace HO_3 := Aside0.mk (hp_);replace HB := Aside0.mk ((by rw [hw]; exact below_set (HB.out) GB9.out : Below w.heap.size w w11)); clear hg hw hp_)));go_roundg k1;(case measure => have := HK1.out; omega);(case rel => exact ⟨(y223), (wrap64 (x4_1 + 1)), (eqw), H', ⟨by have := HK1.out; omega⟩, ⟨upR HO_3⟩, ⟨upW HB⟩⟩)
       ·rw [if_neg c8] at H;exact absurd H (by simp)
      ·rw [if_neg c7] at H;exact absurd H (by simp)
     ·rw [if_neg c6] at H;have c6b0 := decide_eq_false c6;clear c6;obtain rfl := Option.some.inj H;go_wp2;go_ret;exact ⟨_, eqv, by (with_reducible repeat (first | apply Kd.R_alloc | apply Kd.R_drewN | apply Kd.R_drew)); exact HO_3.out, upW HB⟩
  ·rw [if_neg c3] at H;exact absurd H (by simp)
 ·rw [if_neg c2] at H;exact absurd H (by simp)

/-! ### laws_toIntSS: function 20 -/
def laws_toIntSS.l0 : Nat → List (List Int) → List (List Int) → Int → Option ((List (List Int)))
 | 0, _, _, _ => none
 | k + 1, x0, x3, x4 => if x4 < (x0.length : Int) then (if 0 ≤ x4 then ((laws_toIntS.f k (rd_L1 x0 x4)).bind fun t228 => (if x4 < (x3.length : Int) then (laws_toIntSS.l0 k x0 (x3.set (x4 : Int).toNat t228) (wrap64 (x4 + 1))) else (none))) else (none)) else (some x3)
def laws_toIntSS.f (k : Nat) (l0 : List (List Int)) : Option ((List (List Int))) := if 0 ≤ (l0.length : Int) then (if ((l0.length : Int) : Int).toNat ≤ 11728124029610 then (laws_toIntSS.l0 k l0 (List.replicate ((l0.length : Int) : Int).toNat []) 0) else (none)) else (none)
set_option maxHeartbeats 8000000 in
set_option maxRecDepth 100000 in
theorem laws_toIntSS.calls (k : Nat) (A0 : Option Addr) (c0 : Nat) (l0 : List (List Int)) (r : List (List Int)) (w : World) (hr0 : Kd.C (Kd.slice 3 (Kd.int .i64)) w A0 l0.length l0) (hc0 : l0.length ≤ c0) (h : laws_toIntSS.f k l0 = some r) :
  Calls Tryd.prog 20 #[.slice A0 l0.length c0] w fun e w' => ∃ v0_ : Value, e = .returned (v0_) ∧ Kd.S (Kd.slice 3 (Kd.int .i64)) 74 w' w.heap.size (fun _ => True) v0_ r ∧ Below w.heap.size w w' := by
 have HR0 := Aside0.mk hr0;have HC0 := Aside0.mk hc0;clear hr0 hc0;have HB := Aside0.mk (Below.refl w.heap.size w);have H : (if 0 ≤ (l0.length : Int) then (if ((l0.length : Int) : Int).toNat ≤ 11728124029610 then (laws_toIntSS.l0 k l0 (List.replicate ((l0.length : Int) : Int).toNat []) 0) else (none)) else (none)) = some r := h;clear h;(by_cases c2 : 0 ≤ (l0.length : Int))
 ·rw [if_pos c2] at H;have c2b0 := eq_true c2;have c2b1 := decide_eq_true c2;clear c2;(by_cases c3 : ((l0.length : Int) : Int).toNat ≤ 11728124029610)
  ·rw [if_pos c3] at H;have c3b0 := eq_true c3;have c3b1 := decide_eq_true c3;clear c3;obtain ⟨y224, hy224⟩ : ∃ y_ : List (List Int), y_ = (List.replicate ((l0.length : Int) : Int).toNat []) := ⟨_, rfl⟩;(replace H : (laws_toIntSS.l0 k l0 y224 0) = some r := rwH hy224 H);have Ny224 := Aside0.mk hy224;clear hy224;have H' := Aside0.mk H;clear H;go_enter Tryd.func20, Tryd.ntmps20;(go_wp2_with (first | ((with_reducible refine gate_dst (N := 7) rfl ?_); refine Kd.S_make (Kd.slice 3 (Kd.int .i64)) _ 74 rfl (N := 7) rfl 45 _ _ rfl (l0.length : Int) rfl rfl Tryd.underlying45 (.slice none 0 0) 24 info74 rfl (by decide) (by omega) [] (ok := fun _ => True) (okp := fun _ => True) ⟨_, rfl, Kd.R_nil _ _ _ _ _⟩ (fun _ hk => hk) trivial (oda) (Nat.le_trans (Nat.mul_le_mul_right _ (oda : (l0.length : Int).toNat ≤ 11728124029610)) (by omega)) (Below.refl _ _) (Nat.le_refl _) ?_; intro v225 w4 ho5 hb hg_ hnew_; clear hg_ hnew_; (first | rw [← Ny224.out] at ho5 | (simp only [Int.reduceToNat] at ho5; rw [← Ny224.out] at ho5)); have HO226 := Aside0.mk (Kd.S_lower ho5 (below_size (upW HB)));replace HB := Aside0.mk (below_step (upW HB) hb); clear hb ho5)));(try simp only [Act.put, List.setIfInBounds_toArray, List.set_cons_succ, List.set_cons_zero]);(go_loopg [4] k (fun kq v4 w' => ∃ (x3_1 : List (List Int)) (x4_1 : Int), v4 = .int .i64 x4_1 ∧ Aside0 (laws_toIntSS.l0 kq l0 x3_1 x4_1 = some r) ∧ Aside0 (kq ≤ k) ∧ Aside0 (Kd.S (Kd.slice 3 (Kd.int .i64)) 74 w' w.heap.size (fun _ => True) v225 x3_1) ∧ Aside0 (Below w.heap.size w w')));(case atStart => exact ⟨(y224), (0), (eqw), H', ⟨Nat.le_refl _⟩, ⟨by (with_reducible repeat (first | apply Kd.S_alloc | apply Kd.S_drewN | apply Kd.S_drew)); exact HO226.out⟩, ⟨upW HB⟩⟩)
   case round =>
    clear H';(try clear c2b0 c2b1 c3b0 c3b1);obtain ⟨x3_1, x4_1, rfl, HA, HK1, HO_3, HB⟩ := hrel
    cases gk with
    | zero => exact absurd HA.out (by simp [laws_toIntSS.l0])
    | succ k1 =>
     have H := HA.out;clear HA;simp only [laws_toIntSS.l0] at H;(by_cases c6 : x4_1 < (l0.length : Int))
     ·rw [if_pos c6] at H;have c6b0 := decide_eq_true c6;clear c6;(by_cases c7 : 0 ≤ x4_1)
      ·rw [if_pos c7] at H;have c7b0 := decide_eq_true c7;clear c7;replace H := Option.bind_eq_some_iff.mp H;obtain ⟨t228, A80, H⟩ := H;replace H : (if x4_1 < (x3_1.length : Int) then (laws_toIntSS.l0 k1 l0 (x3_1.set (x4_1 : Int).toNat t228) (wrap64 (x4_1 + 1))) else (none)) = some r := H;have A8 := Aside0.mk A80;clear A80;(by_cases c9 : x4_1 < (x3_1.length : Int))
       ·rw [if_pos c9] at H;have c9b0 := decide_eq_true c9;clear c9;obtain ⟨y231, hy231⟩ : ∃ y_ : List (List Int), y_ = (x3_1.set (x4_1 : Int).toNat t228) := ⟨_, rfl⟩;(replace H : (laws_toIntSS.l0 k1 l0 y231 (wrap64 (x4_1 + 1))) = some r := rwH hy231 H);have Ny231 := Aside0.mk hy231;clear hy231;have H' := Aside0.mk H;clear H;have p227 : 0 ≤ (x4_1 : Int) := oda;have q227 : x4_1 < (l0.length : Int) := oda;obtain ⟨ad227, A227_0, c227_0, e227, hx227_0, hl227_0, hi227_0⟩ := at_L1 HR0.out x4_1 p227 q227;cases e227;replace hx227_0 := cb HB hx227_0;have HR227_0 := Aside0.mk hi227_0;have HC227_0 := Aside0.mk hl227_0;clear hi227_0 hl227_0;replace p227 := eq_true p227;replace q227 := eq_true q227;(go_wp2_with (first | ((with_reducible refine gate_callee (f := 49) rfl ?_); refine goesL_ (some 20) rfl rfl Tryd.func49 (by kernel_rfl) rfl #[.slice A227_0 (rd_L1 l0 x4_1).length c227_0] rfl itp ?_; (with_reducible refine (laws_toIntS.calls k1 _ _ (rd_L1 l0 x4_1) t228 _ ?side1 ?side2 A8.out).mono ?_); (case side1 => exact upC (Kd.C_below HR227_0.out HB.out)); (case side2 => exact HC227_0.out); rintro e w11 ⟨v229, rfl, ho0, hb⟩; refine ⟨_, rfl, ?_⟩; replace HO_3 := Aside0.mk (Kd.S_elder' (by (with_reducible repeat (first | apply Kd.S_alloc | apply Kd.S_drewN | apply Kd.S_drew)); exact HO_3.out) (Kd.R_base ho0) hb);have HO230 := Aside0.mk (Kd.R_lower ho0 (below_size (upW HB)));replace HB := Aside0.mk (below_step (upW HB) hb); (try clear hb ho0); have p10 : 0 ≤ (x4_1 : Int) := oda; have q10 : (x4_1 : Int) < ((x3_1.length : Int) : Int) := oda; obtain ⟨go10, co10, eo10, gb10, gl10, cl10, HG10⟩ := Kd.S_form HO_3.out (by omega); (first | cases eo10 | (injection eo10 with ea_ en_ ec_; (first | subst ea_ | (injection ea_ with ea_; subst ea_)); subst ec_; clear en_)); have GB10 := Aside0.mk gb10; have GG10 := Aside0.mk HG10; clear gb10 gl10 HG10; obtain ⟨_, ce10, hcl10, hM10, hcc10, hfr10, _, _⟩ := Kd.S_elem HO_3.out [] (x4_1 : Int) p10 q10; obtain ⟨ve10_0, rfl, ge10_0⟩ := hM10; have hx10_0 := hcc10 0 _ rfl; have hf10_0 := hfr10 0; (try simp only [show ((Kd.slice 3 (Kd.int .i64))).sz = 1 from rfl, Nat.mul_one, Nat.add_zero] at hx10_0); (try simp only [show ((Kd.slice 3 (Kd.int .i64))).sz = 1 from rfl, Nat.mul_one, Nat.add_zero] at hf10_0); (try clear hM10); clear hcl10 hcc10 hfr10; replace p10 := eq_true p10; replace q10 := eq_true q10; have n_ := Aside0.mk (Kd.S_mono (ok' := (fun k_ => some k_ ≠ (v229 : Value).ownBlock)) HO_3.out (fun k_ hk => hk.2)); clear HO_3; have HO_3 := n_; clear n_; have HX12 := Aside0.mk (show Kd.S (Kd.slice 3 (Kd.int .i64)) 74 w11 w.heap.size (fun k_ => ((fun _ => True)) k_ ∧ ¬ ((fun k_ => some k_ = (v229 : Value).ownBlock)) k_) (.slice (some ⟨go10, 0, none⟩) x3_1.length co10) x3_1 from (by (with_reducible repeat (first | apply Kd.S_alloc | apply Kd.S_drewN | apply Kd.S_drew)); exact Kd.S_mono HO_3.out (fun k_ hk => ⟨trivial, fun e_ => hk e_⟩))); obtain ⟨oki12, ce12, hcl12, hM12, hcc12, hfr12, hoki12, hH12⟩ := Kd.S_elem HX12.out [] (x4_1 : Int) (oda) (by have h_ : (x4_1 : Int) < ((x3_1.length : Int) : Int) := oda; first | exact h_ | (have e_ := (Kd.S_reads' HO_3.out).1; omega) | simpa using h_); obtain ⟨ve12_0, rfl, ge12_0⟩ := hM12; have HP12 := Kd.S_seg hH12 (oda) (by have h_ : (x4_1 : Int) < ((x3_1.length : Int) : Int) := oda; first | exact h_ | (have e_ := (Kd.S_reads' HO_3.out).1; omega) | simpa using h_) (seg := [v229]) (j := 0) (show 1 ≤ 1 from by decide) (x' := t228) (Kd.M_row (Kd.R_mono (Kd.R_tight rfl (Kd.R_mono (ok' := fun k_ => ((fun _ => True)) k_ ∧ k_ ≠ go10) (Kd.R_apart' (HO230.out) (Kd.S_typed HO_3.out) (by decide)) (fun k_ hk => ⟨trivial, fun e_ => (hk.2) (by rw [e_]; rfl)⟩))) (fun _ h_ => Or.inr (h_)))) (fun _ hk => hk) (fun k_ hk_ => ((Kd.R_mono (ok' := fun k_ => ((fun _ => True)) k_ ∧ k_ ≠ go10) (Kd.R_apart' (HO230.out) (Kd.S_typed HO_3.out) (by decide)) (fun k_ hk => ⟨trivial, fun e_ => (hk.2) (by rw [e_]; rfl)⟩))).1 k_ hk_.symm); have hx12_0 := hcc12 0 _ rfl; (try simp only [show ((Kd.slice 3 (Kd.int .i64))).sz = 1 from rfl, Nat.mul_one, Nat.add_zero] at hx12_0); have hf12_0 := hfr12 0; (try simp only [show ((Kd.slice 3 (Kd.int .i64))).sz = 1 from rfl, Nat.mul_one, Nat.add_zero] at hf12_0); (try clear hM12); clear hcl12 hcc12 hfr12 hoki12 hH12; (try simp only [show ((Kd.slice 3 (Kd.int .i64))).sz = 1 from rfl, Nat.mul_one, Nat.add_zero] at HP12)) | ((with_reducible refine gate_store (t := 74) (p := 21) rfl ?_); refine store_event (t := 74) (p := 21) (v := ?vo_w13) (w1 := (w11.setCell ⟨go10, (x4_1 : Int).toNat, none⟩ (v229))) ?hg ?ho ?hn ?hr ?_; (case ho => rfl); (case hg => rfl); (case hn => rfl); (case hr => first | (go_simp; done) | (go_simp; rfl) | (obtain ⟨_, _, eo_⟩ := Kd.R_slice HO230.out; subst eo_; first | (go_simp; done) | (go_simp; rfl))); intro w13 hw; have hg : w11.grownBy w13 (some go10) := (by rw [hw]; exact HP12.2); have hp_ : Kd.S (Kd.slice 3 (Kd.int .i64)) 74 w13 w.heap.size (fun _ => True) (.slice (some ⟨go10, 0, none⟩) x3_1.length co10) y231 := (by rw [hw, Ny231.out]; exact HP12.1); clear HP12; have n0_ := Aside0.mk (hp_); have n1_ := Aside0.mk ((by rw [hw]; exact below_set (HB.out) GB10.out : Below w.heap.size w w13)); clear HO_3; clear HB; clear HO230; have HO_3 := n0_; have HB := n1_; clear n0_ n1_; clear hg hw hp_)));go_roundg k1;(case measure => have := HK1.out; omega);(case rel => exact ⟨(y231), (wrap64 (x4_1 + 1)), (eqw), H', ⟨by have := HK1.out; omega⟩, ⟨by (with_reducible repeat (first | apply Kd.S_alloc | apply Kd.S_drewN | apply Kd.S_drew)); exact HO_3.out⟩, ⟨upW HB⟩⟩)
       ·rw [if_neg c9] at H;exact absurd H (by simp)
      ·rw [if_neg c7] at H;exact absurd H (by simp)
     ·rw [if_neg c6] at H;have c6b0 := decide_eq_false c6;clear c6;obtain rfl := Option.some.inj H;go_wp2;go_ret;exact ⟨_, eqv, by (with_reducible repeat (first | apply Kd.S_alloc | apply Kd.S_drewN | apply Kd.S_drew)); exact HO_3.out, upW HB⟩
  ·rw [if_neg c3] at H;exact absurd H (by simp)
 ·rw [if_neg c2] at H;exact absurd H (by simp)

/-! ### impl_within: function 69 -/
def impl_within.f (a0 : Int) (a1 : Int) (a2 : Int) : Option (Bool) := if a1 ≤ a0 then (some (decide (a0 ≤ a2))) else (some false)
set_option maxHeartbeats 8000000 in
set_option maxRecDepth 100000 in
theorem impl_within.calls (a0 : Int) (a1 : Int) (a2 : Int) (r : Bool) (w : World) (h : impl_within.f a0 a1 a2 = some r) :
  Calls Tryd.prog 69 #[.int .i64 a0, .int .i64 a1, .int .i64 a2] w fun e w' => e = .returned (.bool r) ∧ Drawn0 w w' := by
 have H : (if a1 ≤ a0 then (some (decide (a0 ≤ a2))) else (some false)) = some r := h;clear h;(by_cases c4 : a1 ≤ a0)
 ·rw [if_pos c4] at H;have c4b0 := decide_eq_true c4;clear c4;obtain rfl := Option.some.inj H;go_enter Tryd.func69, Tryd.ntmps69;go_wp2;go_ret;exact ⟨eqw, dz⟩
 ·rw [if_neg c4] at H;have c4b0 := decide_eq_false c4;clear c4;obtain rfl := Option.some.inj H;go_enter Tryd.func69, Tryd.ntmps69;go_wp2;go_ret;exact ⟨eqw, dz⟩

-- left to its pairs: function 118 (slices_IndexFunc_int_int_118)

-- left to its pairs: function 101 (slices_ContainsFunc_int_int_101)

/-- the first place at which p holds, or -1 -/
def pidx {α : Type} (p : α → Bool) (l : List α) : Int := if l.any p then ((l.findIdx p : Nat) : Int) else -1
theorem pidx_hit {α : Type} (p : α → Bool) (l : List α) (k : Nat) (a : α) (hk : l[k]? = some a) (ha : p a = true) (h : ∀ j, j < k → ∀ b, l[j]? = some b → p b = false) : pidx p l = k := by
 have hlt : k < l.length := (List.getElem?_eq_some_iff.1 hk).1;have e : l[k] = a := (List.getElem?_eq_some_iff.1 hk).2;have h1 : l.any p = true := List.any_eq_true.2 ⟨a, by rw [← e]; exact List.getElem_mem hlt, ha⟩;unfold pidx;rw [if_pos h1];(congr 1);rw [List.findIdx_eq hlt];exact ⟨by rw [e]; exact ha, fun j hj => h j hj _ (List.getElem?_eq_getElem (by omega))⟩
theorem pidx_miss {α : Type} (p : α → Bool) (l : List α) (h : ∀ j, j < l.length → ∀ b, l[j]? = some b → p b = false) : pidx p l = -1 := by
 unfold pidx;rw [if_neg];intro hc;obtain ⟨a, ha, hp⟩ := List.any_eq_true.1 hc;obtain ⟨i, hi⟩ := List.getElem?_of_mem ha;have := h i (List.getElem?_eq_some_iff.1 hi).1 a hi;(rw [this] at hp; cases hp)

theorem pidx_any {α : Type} (p : α → Bool) (l : List α) : decide (0 ≤ pidx p l) = l.any p := by
 unfold pidx;cases h : l.any p
 ·rfl
 ·simp

/-! ### slices_IndexFunc_int_int_144: function 144 -/
set_option maxHeartbeats 8000000 in
theorem slices_IndexFunc_int_int_144.with (p : Int → Bool) (fv : Nat) (lb : Array Value) (A : Option Addr) (c : Nat) (l : List Int) (w : World) (hr : Kd.C (Kd.int .i64) w A l.length l)
  (eg : ∀ args w, (callFunc fv args).run Tryd.prog w = .ok (.enter fv args) w)
  (hp : ∀ (W : World) (t : Int), t ∈ l → Below w.heap.size w W → Calls Tryd.prog fv (#[.int .i64 t] ++ lb) W fun e w' => e = .returned (.bool (p t)) ∧ Below w.heap.size w w') :
  Calls Tryd.prog 144 #[.slice A l.length c, .func (.func fv) #[] lb] w fun e w' => e = .returned (.int .i64 (pidx p l)) ∧ Below w.heap.size w w' := by
 have hbig : l.length ≤ 9223372036854775807 := hr.2.1;have HP := Lib.hid hp;clear hp;go_enter Tryd.func144, Tryd.ntmps144;go_wp2;(go_loopg [5, 8] l.length (fun gg _ s8 wr => ∃ kk : Nat, kk ≤ l.length ∧ l.length - kk ≤ gg ∧ s8 = .int .i64 kk ∧ Aside (Below w.heap.size w wr) ∧ Aside (∀ j, j < kk → ∀ b, l[j]? = some b → p b = false)));(case atStart => exact ⟨0, Nat.zero_le _, by omega, rfl, Below.refl _ w, fun j hj => absurd hj (Nat.not_lt_zero _)⟩)
 case round =>
  obtain ⟨kk, hkk, hg, rfl, BW, HA⟩ := hrel;(by_cases hlt : kk < l.length)
  ·(have hltz : (kk : Int) < (l.length : Int) := by omega);obtain ⟨ad, rfl, hx0⟩ := Kd.at_int hr (kk : Int) (by omega) hltz;replace hx0 := (BW.out.cell (World.block_lt_of_cell? w _ hx0)).trans hx0;(have hm : rd l kk ∈ l := by unfold rd; simp [List.getD, hlt]);(have he : l[kk]? = some (rd l kk) := by unfold rd; simp [List.getD, hlt]);have hcall := HP.out wr (rd l kk) hm BW.out;generalize hy : rd l kk = y at hx0 hcall he;have HE := Lib.hid he;clear hy hm he;simp only [Int.toNat_natCast] at hx0
   cases hq : p y with
   | true =>
    rw [hq] at hcall;(have HQ := Lib.hid hq; clear hq);(go_wp2_with (go_at_fn fv; refine hcall.mono ?_; rintro e w' ⟨rfl, hb'⟩));go_ret;refine ⟨?_, hb'⟩;(rw [pidx_hit p l kk y HE.out HQ.out HA.out]; rfl)
   | false =>
    rw [hq] at hcall;(have HQ := Lib.hid hq; clear hq);(go_wp2_with (go_at_fn fv; refine hcall.mono ?_; rintro e w' ⟨rfl, hb'⟩));go_roundg (l.length - (kk + 1));(case measure => omega)
    case rel =>
     refine ⟨kk + 1, by omega, by omega, by go_num, hb', (show Aside _ from fun j hj b hb => ?_)⟩;(by_cases e : j = kk)
     ·subst e;(rw [HE.out] at hb; obtain rfl := Option.some.inj hb; exact HQ.out)
     ·exact HA.out j (by omega) b hb
  ·(have hltz : ¬ (kk : Int) < (l.length : Int) := by omega);(have : kk = l.length := by omega);subst this;go_wp2;go_ret;refine ⟨?_, BW.out⟩;(rw [pidx_miss p l HA.out]; rfl)

/-! ### slices_ContainsFunc_int_int_119: function 119 -/
set_option maxHeartbeats 8000000 in
theorem slices_ContainsFunc_int_int_119.with (p : Int → Bool) (fv : Nat) (lb : Array Value) (A : Option Addr) (c : Nat) (l : List Int) (w : World) (hr : Kd.C (Kd.int .i64) w A l.length l)
  (eg : ∀ args w, (callFunc fv args).run Tryd.prog w = .ok (.enter fv args) w)
  (hp : ∀ (W : World) (t : Int), t ∈ l → Below w.heap.size w W → Calls Tryd.prog fv (#[.int .i64 t] ++ lb) W fun e w' => e = .returned (.bool (p t)) ∧ Below w.heap.size w w') :
  Calls Tryd.prog 119 #[.slice A l.length c, .func (.func fv) #[] lb] w fun e w' => e = .returned (.bool (l.any p)) ∧ Below w.heap.size w w' := by
 have HP := Lib.hid hp;clear hp;have e0 : decide (0 ≤ pidx p l) = l.any p := pidx_any p l;generalize l.any p = b at e0 ⊢;have HE := Lib.hid e0;clear e0;go_enter Tryd.func119, Tryd.ntmps119;(go_wp2_with (go_at_call 144; refine (slices_IndexFunc_int_int_144.with p fv lb A c l _ hr eg HP.out).mono ?_; rintro e w' ⟨rfl, hb'⟩));go_ret;exact ⟨by rw [← HE.out]; rfl, hb'⟩

/-! ### impl_areWithin_1: function 120 -/
set_option maxHeartbeats 8000000 in
theorem impl_areWithin_1.calls (n : Int) (g1 : Nat) (lo : Int) (g2 : Nat) (hi : Int) (w : World) (h1 : w.heap[g1]? = some (.cells #[.int .i64 lo] 3 (0, 0))) (h2 : w.heap[g2]? = some (.cells #[.int .i64 hi] 3 (0, 0))) :
  Calls Tryd.prog 120 #[.int .i64 n, .pointer (some ⟨g1, 0, none⟩), .pointer (some ⟨g2, 0, none⟩)] w fun e w' => e = .returned (.bool (!(decide (lo ≤ n ∧ n ≤ hi)))) ∧ Below w.heap.size w w' := by
 have c1 : w.cell? ⟨g1, 0, none⟩ = some (.int .i64 lo) := (blk_cell h1 0).trans rfl;have c2 : w.cell? ⟨g2, 0, none⟩ = some (.int .i64 hi) := (blk_cell h2 0).trans rfl;clear h1 h2;obtain ⟨b, hb⟩ : ∃ b, b = decide (lo ≤ n ∧ n ≤ hi) := ⟨_, rfl⟩
 have hf : impl_within.f n lo hi = some b := by
  (rw [hb]; unfold impl_within.f);(by_cases h : lo ≤ n)
  ·(rw [if_pos h]; simp [h])
  ·(rw [if_neg h]; simp [h])
 have HF := Lib.hid hf;rw [← hb];clear hb hf;go_enter Tryd.func120, Tryd.ntmps120;(go_wp2_with (go_at_call 69; (with_reducible refine (impl_within.calls n lo hi b _ HF.out).mono ?_); rintro e w' ⟨rfl, ⟨nd, rfl⟩⟩));go_ret;exact ⟨rfl, by repeat (first | exact Below.refl _ _ | apply below_alloc | apply pw_below_drewN | apply below_drew1)⟩

/-! ### slices_ContainsFunc_int_int__impl_areWithin_1: the pair slices.ContainsFunc[[]int,int] -/
def slices_ContainsFunc_int_int__impl_areWithin_1.f (l : List Int) (lo hi : Int) : Option Bool := some (l.any fun n => !(decide (lo ≤ n ∧ n ≤ hi)))
theorem slices_ContainsFunc_int_int__impl_areWithin_1.calls (A0 : Option Addr) (c0 : Nat) (l0 : List Int) (g1 : Nat) (lo : Int) (g2 : Nat) (hi : Int) (r : Bool) (w : World) (hr0 : Kd.C (Kd.int .i64) w A0 l0.length l0) (hc0 : l0.length ≤ c0)
  (h1 : w.heap[g1]? = some (.cells #[.int .i64 lo] 3 (0, 0))) (h2 : w.heap[g2]? = some (.cells #[.int .i64 hi] 3 (0, 0))) (h : slices_ContainsFunc_int_int__impl_areWithin_1.f l0 lo hi = some r) :
  Calls Tryd.prog 119 #[.slice A0 l0.length c0, .func (.func 120) #[] #[.pointer (some ⟨g1, 0, none⟩), .pointer (some ⟨g2, 0, none⟩)]] w fun e w' => e = .returned (.bool r) ∧ Below w.heap.size w w' := by
 obtain rfl := Option.some.inj h;(refine slices_ContainsFunc_int_int_119.with _ 120 _ A0 c0 l0 w hr0 (fun args w => enters_ Tryd.func120 (by kernel_rfl) rfl args w) fun W t _ hb => ?_);(exact (impl_areWithin_1.calls t g1 lo g2 hi W (blk_below h1 hb) (blk_below h2 hb)).mono fun e w' ⟨he, hb'⟩ => ⟨he, below_step hb hb'⟩)

/-! ### impl_areWithin: function 103 -/
def impl_areWithin.f (l0 : List Int) (a1 : Int) (a2 : Int) : Option (Bool) := (slices_ContainsFunc_int_int__impl_areWithin_1.f l0 a1 a2).bind fun t234 => (some (!t234))
set_option maxHeartbeats 8000000 in
set_option maxRecDepth 100000 in
theorem impl_areWithin.calls (A0 : Option Addr) (c0 : Nat) (l0 : List Int) (a1 : Int) (a2 : Int) (r : Bool) (w : World) (hr0 : Kd.C (Kd.int .i64) w A0 l0.length l0) (hc0 : l0.length ≤ c0) (h : impl_areWithin.f l0 a1 a2 = some r) :
  Calls Tryd.prog 103 #[.slice A0 l0.length c0, .int .i64 a1, .int .i64 a2] w fun e w' => e = .returned (.bool r) ∧ Below w.heap.size w w' := by
 (have hmf : ∀ (fn : Fn) (first cap : Array Value) (w : World), (Instr.makeFunc fn first cap).run Tryd.prog w = .ok (.func fn first cap) w := fun _ _ _ _ => rfl);have HR0 := Aside0.mk hr0;have HC0 := Aside0.mk hc0;clear hr0 hc0;have HB := Aside0.mk (Below.refl w.heap.size w);have H : ((slices_ContainsFunc_int_int__impl_areWithin_1.f l0 a1 a2).bind fun t234 => (some (!t234))) = some r := h;clear h;replace H := Option.bind_eq_some_iff.mp H;obtain ⟨t234, A40, H⟩ := H;replace H : (some (!t234)) = some r := H;have A4 := Aside0.mk A40;clear A40;obtain rfl := Option.some.inj H;go_enter Tryd.func103, Tryd.ntmps103;(go_wp2_with (first | ((with_reducible refine gate_dst (N := 4) rfl ?_); refine boxE 4 (#[.int .i64 a1]) 3 ?_; intro gb232 hg w5 hbox hb; have BK232 := Aside0.mk (hbox);have GW232 := Aside0.mk (gz hg HB);have GE232 := Aside0.mk (gz hg HB);replace HB := Aside0.mk (below_step (upW HB) hb); clear hb hbox hg) | ((with_reducible refine gate_dst (N := 5) rfl ?_); refine boxE 5 (#[.int .i64 a2]) 3 ?_; intro gb233 hg w6 hbox hb; have BK233 := Aside0.mk (hbox);have GW233 := Aside0.mk (gz hg HB);have GE233 := Aside0.mk (gz hg HB);replace HB := Aside0.mk (below_step (upW HB) hb);have NB232_233 := Aside0.mk (gn hg BK232);have NB233_232 := Aside0.mk ((by rw [hg]; exact Nat.ne_of_gt (blk_lt (upK BK232)) : gb233 ≠ gb232));replace BK232 := Aside0.mk (blk_below (upK BK232) hb); clear hb hbox hg) | ((with_reducible refine gate_callee (f := 119) rfl ?_); refine goesL_ (some 9) rfl rfl Tryd.func119 (by kernel_rfl) rfl #[.slice A0 l0.length c0, .func (.func 120) #[] #[.pointer (some ⟨gb232, 0, none⟩), .pointer (some ⟨gb233, 0, none⟩)]] rfl itp ?_; (with_reducible refine (slices_ContainsFunc_int_int__impl_areWithin_1.calls _ _ l0 gb232 a1 gb233 a2 t234 _ ?side1 ?side2 ?side3 ?side4 A4.out).mono ?_); (case side1 => exact upC (Kd.C_below HR0.out HB.out)); (case side2 => exact HC0.out); (case side3 => exact (upK BK232)); (case side4 => exact (upK BK233)); rintro e w7 ⟨rfl, hb⟩; refine ⟨_, rfl, ?_⟩; replace BK232 := Aside0.mk (blk_below (upK BK232) hb);replace BK233 := Aside0.mk (blk_below (upK BK233) hb);replace HB := Aside0.mk (below_step (upW HB) hb); (try clear hb))));go_ret;exact ⟨eqv, upW HB⟩

/-! ### impl_CutOfCode_1: function 102 -/
def impl_CutOfCode_1.f (l0 : List Int) : Option (Bool) := (impl_areWithin.f l0 1 500).bind fun t235 => (if t235 = true then (some (decide ((l0.length : Int) > 30))) else (some true))
set_option maxHeartbeats 8000000 in
set_option maxRecDepth 100000 in
theorem impl_CutOfCode_1.calls (A0 : Option Addr) (c0 : Nat) (l0 : List Int) (r : Bool) (w : World) (hr0 : Kd.C (Kd.int .i64) w A0 l0.length l0) (hc0 : l0.length ≤ c0) (h : impl_CutOfCode_1.f l0 = some r) :
  Calls Tryd.prog 102 #[.slice A0 l0.length c0] w fun e w' => e = .returned (.bool r) ∧ Below w.heap.size w w' := by
 have HR0 := Aside0.mk hr0;have HC0 := Aside0.mk hc0;clear hr0 hc0;have HB := Aside0.mk (Below.refl w.heap.size w);have H : ((impl_areWithin.f l0 1 500).bind fun t235 => (if t235 = true then (some (decide ((l0.length : Int) > 30))) else (some true))) = some r := h;clear h;replace H := Option.bind_eq_some_iff.mp H;obtain ⟨t235, A20, H⟩ := H;replace H : (if t235 = true then (some (decide ((l0.length : Int) > 30))) else (some true)) = some r := H;have A2 := Aside0.mk A20;clear A20;(by_cases c3 : t235 = true)
 ·subst c3;(have H1 : (some (decide ((l0.length : Int) > 30))) = some r := by rw [if_pos rfl] at H; exact H);clear H;have H := H1;clear H1;obtain rfl := Option.some.inj H;go_enter Tryd.func102, Tryd.ntmps102;(go_wp2_with (first | ((with_reducible refine gate_callee (f := 103) rfl ?_); refine goesL_ (some 4) rfl rfl Tryd.func103 (by kernel_rfl) rfl #[.slice A0 l0.length c0, .int .i64 1, .int .i64 500] rfl itp ?_; (with_reducible refine (impl_areWithin.calls _ _ l0 1 500 true _ ?side1 ?side2 A2.out).mono ?_); (case side1 => exact upC HR0.out); (case side2 => exact HC0.out); rintro e w4 ⟨rfl, hb⟩; refine ⟨_, rfl, ?_⟩; replace HB := Aside0.mk (below_step (upW HB) hb); (try clear hb))));go_ret;exact ⟨eqv, upW HB⟩
 ·replace c3 := Bool.eq_false_iff.mpr c3;subst c3;(have H1 : (some true) = some r := by rw [if_neg (show ¬ (false = true) by decide)] at H; exact H);clear H;have H := H1;clear H1;obtain rfl := Option.some.inj H;go_enter Tryd.func102, Tryd.ntmps102;(go_wp2_with (first | ((with_reducible refine gate_callee (f := 103) rfl ?_); refine goesL_ (some 4) rfl rfl Tryd.func103 (by kernel_rfl) rfl #[.slice A0 l0.length c0, .int .i64 1, .int .i64 500] rfl itp ?_; (with_reducible refine (impl_areWithin.calls _ _ l0 1 500 false _ ?side1 ?side2 A2.out).mono ?_); (case side1 => exact upC HR0.out); (case side2 => exact HC0.out); rintro e w5 ⟨rfl, hb⟩; refine ⟨_, rfl, ?_⟩; replace HB := Aside0.mk (below_step (upW HB) hb); (try clear hb))));go_ret;exact ⟨eqv, upW HB⟩

/-! ### impl_isWide: function 68 -/
def impl_isWide.f (a0 : Int) : Option (Bool) := (impl_within.f a0 1 500).bind fun t236 => (some t236)
set_option maxHeartbeats 8000000 in
set_option maxRecDepth 100000 in
theorem impl_isWide.calls (a0 : Int) (r : Bool) (w : World) (h : impl_isWide.f a0 = some r) :
  Calls Tryd.prog 68 #[.int .i64 a0] w fun e w' => e = .returned (.bool r) ∧ Drawn0 w w' := by
 have H : ((impl_within.f a0 1 500).bind fun t236 => (some t236)) = some r := h;clear h;replace H := Option.bind_eq_some_iff.mp H;obtain ⟨t236, A20, H⟩ := H;replace H : (some t236) = some r := H;have A2 := Aside0.mk A20;clear A20;obtain rfl := Option.some.inj H;go_enter Tryd.func68, Tryd.ntmps68;(go_wp2_with (first | ((with_reducible refine gate_callee (f := 69) rfl ?_); refine goesL_ (some 4) rfl rfl Tryd.func69 (by kernel_rfl) rfl #[.int .i64 a0, .int .i64 1, .int .i64 500] rfl itp ?_; (with_reducible refine (impl_within.calls a0 1 500 t236 _ A2.out).mono ?_); rintro e w' ⟨rfl, ⟨nd, rfl⟩⟩; refine ⟨_, rfl, ?_⟩)));go_ret;exact ⟨eqw, dz⟩

/-! ### slices_Max_int_int: function 96 -/
def slices_Max_int_int.l0 : Nat → List Int → Int → Int → Option (Int)
 | 0, _, _, _ => none
 | k + 1, x0, x3, x4 => if x4 < (x0.length : Int) then (if 0 ≤ x4 then (slices_Max_int_int.l0 k x0 (mx x3 (rd x0 x4)) (wrap64 (x4 + 1))) else (none)) else (some x3)
def slices_Max_int_int.f (k : Nat) (l0 : List Int) : Option (Int) := if (l0.length : Int) < 1 then (none) else (if 0 < (l0.length : Int) then (slices_Max_int_int.l0 k l0 (rd l0 0) 1) else (none))
set_option maxHeartbeats 8000000 in
set_option maxRecDepth 100000 in
theorem slices_Max_int_int.calls (k : Nat) (A0 : Option Addr) (c0 : Nat) (l0 : List Int) (r : Int) (w : World) (hr0 : Kd.C (Kd.int .i64) w A0 l0.length l0) (hc0 : l0.length ≤ c0) (h : slices_Max_int_int.f k l0 = some r) :
  Calls Tryd.prog 96 #[.slice A0 l0.length c0] w fun e w' => e = .returned (.int .i64 r) ∧ Below w.heap.size w w' := by
 have HR0 := Aside0.mk hr0;have HC0 := Aside0.mk hc0;clear hr0 hc0;have HB := Aside0.mk (Below.refl w.heap.size w);have H : (if (l0.length : Int) < 1 then (none) else (if 0 < (l0.length : Int) then (slices_Max_int_int.l0 k l0 (rd l0 0) 1) else (none))) = some r := h;clear h;(by_cases c2 : (l0.length : Int) < 1)
 ·rw [if_pos c2] at H;exact absurd H (by simp)
 ·rw [if_neg c2] at H;have c2b0 := decide_eq_false c2;have c2b1 : decide (l0.length < 1) = false := decide_eq_false (by omega);clear c2;(by_cases c3 : 0 < (l0.length : Int))
  ·rw [if_pos c3] at H;have c3b0 := decide_eq_true c3;have c3b1 : decide (0 < l0.length) = true := decide_eq_true (by omega);clear c3;have H' := Aside0.mk H;clear H;have p237 : 0 ≤ (0 : Int) := (by omega);have q237 : 0 < (l0.length : Int) := oda;obtain ⟨ad237, e237, hx237_0⟩ := Kd.at_int HR0.out 0 p237 q237;cases e237;have qi237 : (0 < l0.length) = True := eq_true (by omega);(try rw [show ((0 : Int)).toNat = 0 from rfl] at hx237_0);(try rw [Addr.add_zero'] at hx237_0);replace p237 := eq_true p237;replace q237 := eq_true q237;go_enter Tryd.func96, Tryd.ntmps96;go_wp2;(go_loopg [3, 4] k (fun kq v3 v4 w' => ∃ (x3_1 : Int) (x4_1 : Int), v3 = .int .i64 x3_1 ∧ v4 = .int .i64 x4_1 ∧ Aside0 (slices_Max_int_int.l0 kq l0 x3_1 x4_1 = some r) ∧ Aside0 (kq ≤ k) ∧ Aside0 (Below w.heap.size w w')));(case atStart => exact ⟨(rd l0 0), (1), (eqw), (eqw), H', ⟨Nat.le_refl _⟩, ⟨upW HB⟩⟩)
   case round =>
    clear H';(try clear c2b0 c2b1 c3b0 c3b1 hx237_0 p237 q237);obtain ⟨x3_1, x4_1, rfl, rfl, HA, HK1, HB⟩ := hrel
    cases gk with
    | zero => exact absurd HA.out (by simp [slices_Max_int_int.l0])
    | succ k1 =>
     have H := HA.out;clear HA;simp only [slices_Max_int_int.l0] at H;(by_cases c4 : x4_1 < (l0.length : Int))
     ·rw [if_pos c4] at H;have c4b0 := decide_eq_true c4;clear c4;(by_cases c5 : 0 ≤ x4_1)
      ·rw [if_pos c5] at H;have c5b0 := decide_eq_true c5;clear c5;obtain ⟨ji6, hji6⟩ : ∃ j_ : Int, (mx x3_1 (rd l0 x4_1)) = j_ := ⟨_, rfl⟩;(replace H : (slices_Max_int_int.l0 k1 l0 ji6 (wrap64 (x4_1 + 1))) = some r := by first | (rw [hji6] at H; exact H) | (simp only [hji6] at H ⊢; exact H));have hji6_ : (if x3_1 < (rd l0 x4_1) then (rd l0 x4_1) else x3_1) = ji6 := hji6;have H' := Aside0.mk H;clear H;have p238 : 0 ≤ (x4_1 : Int) := oda;have q238 : x4_1 < (l0.length : Int) := oda;obtain ⟨ad238, e238, hx238_0⟩ := Kd.at_int HR0.out x4_1 p238 q238;obtain rfl : ad237 = ad238 := (by injection e238);replace hx238_0 := cb HB hx238_0;replace p238 := eq_true p238;replace q238 := eq_true q238;go_wp2;go_roundg k1;(case measure => have := HK1.out; omega);(case rel => exact ⟨(ji6), (wrap64 (x4_1 + 1)), (by first | rfl | (simp; done) | (simp only [← hji6] <;> (first | rfl | simp)) | (simp [*]; done)), (eqw), H', ⟨by have := HK1.out; omega⟩, ⟨upW HB⟩⟩)
      ·rw [if_neg c5] at H;exact absurd H (by simp)
     ·rw [if_neg c4] at H;have c4b0 := decide_eq_false c4;clear c4;obtain rfl := Option.some.inj H;go_wp2;go_ret;exact ⟨eqv, upW HB⟩
  ·rw [if_neg c3] at H;exact absurd H (by simp)

/-! ### slices_Min_int_int: function 121 -/
def slices_Min_int_int.l0 : Nat → List Int → Int → Int → Option (Int)
 | 0, _, _, _ => none
 | k + 1, x0, x3, x4 => if x4 < (x0.length : Int) then (if 0 ≤ x4 then (slices_Min_int_int.l0 k x0 (mn x3 (rd x0 x4)) (wrap64 (x4 + 1))) else (none)) else (some x3)
def slices_Min_int_int.f (k : Nat) (l0 : List Int) : Option (Int) := if (l0.length : Int) < 1 then (none) else (if 0 < (l0.length : Int) then (slices_Min_int_int.l0 k l0 (rd l0 0) 1) else (none))
set_option maxHeartbeats 8000000 in
set_option maxRecDepth 100000 in
theorem slices_Min_int_int.calls (k : Nat) (A0 : Option Addr) (c0 : Nat) (l0 : List Int) (r : Int) (w : World) (hr0 : Kd.C (Kd.int .i64) w A0 l0.length l0) (hc0 : l0.length ≤ c0) (h : slices_Min_int_int.f k l0 = some r) :
  Calls Tryd.prog 121 #[.slice A0 l0.length c0] w fun e w' => e = .returned (.int .i64 r) ∧ Below w.heap.size w w' := by
 have HR0 := Aside0.mk hr0;have HC0 := Aside0.mk hc0;clear hr0 hc0;have HB := Aside0.mk (Below.refl w.heap.size w);have H : (if (l0.length : Int) < 1 then (none) else (if 0 < (l0.length : Int) then (slices_Min_int_int.l0 k l0 (rd l0 0) 1) else (none))) = some r := h;clear h;(by_cases c2 : (l0.length : Int) < 1)
 ·rw [if_pos c2] at H;exact absurd H (by simp)
 ·rw [if_neg c2] at H;have c2b0 := decide_eq_false c2;have c2b1 : decide (l0.length < 1) = false := decide_eq_false (by omega);clear c2;(by_cases c3 : 0 < (l0.length : Int))
  ·rw [if_pos c3] at H;have c3b0 := decide_eq_true c3;have c3b1 : decide (0 < l0.length) = true := decide_eq_true (by omega);clear c3;have H' := Aside0.mk H;clear H;have p239 : 0 ≤ (0 : Int) := (by omega);have q239 : 0 < (l0.length : Int) := oda;obtain ⟨ad239, e239, hx239_0⟩ := Kd.at_int HR0.out 0 p239 q239;cases e239;have qi239 : (0 < l0.length) = True := eq_true (by omega);(try rw [show ((0 : Int)).toNat = 0 from rfl] at hx239_0);(try rw [Addr.add_zero'] at hx239_0);replace p239 := eq_true p239;replace q239 := eq_true q239;go_enter Tryd.func121, Tryd.ntmps121;go_wp2;(go_loopg [3, 4] k (fun kq v3 v4 w' => ∃ (x3_1 : Int) (x4_1 : Int), v3 = .int .i64 x3_1 ∧ v4 = .int .i64 x4_1 ∧ Aside0 (slices_Min_int_int.l0 kq l0 x3_1 x4_1 = some r) ∧ Aside0 (kq ≤ k) ∧ Aside0 (Below w.heap.size w w')));(case atStart => exact ⟨(rd l0 0), (1), (eqw), (eqw), H', ⟨Nat.le_refl _⟩, ⟨upW HB⟩⟩)
   case round =>
    clear H';(try clear c2b0 c2b1 c3b0 c3b1 hx239_0 p239 q239);obtain ⟨x3_1, x4_1, rfl, rfl, HA, HK1, HB⟩ := hrel
    cases gk with
    | zero => exact absurd HA.out (by simp [slices_Min_int_int.l0])
    | succ k1 =>
     have H := HA.out;clear HA;simp only [slices_Min_int_int.l0] at H;(by_cases c4 : x4_1 < (l0.length : Int))
     ·rw [if_pos c4] at H;have c4b0 := decide_eq_true c4;clear c4;(by_cases c5 : 0 ≤ x4_1)
      ·rw [if_pos c5] at H;have c5b0 := decide_eq_true c5;clear c5;obtain ⟨ji6, hji6⟩ : ∃ j_ : Int, (mn x3_1 (rd l0 x4_1)) = j_ := ⟨_, rfl⟩;(replace H : (slices_Min_int_int.l0 k1 l0 ji6 (wrap64 (x4_1 + 1))) = some r := by first | (rw [hji6] at H; exact H) | (simp only [hji6] at H ⊢; exact H));have hji6_ : (if (rd l0 x4_1) < x3_1 then (rd l0 x4_1) else x3_1) = ji6 := hji6;have H' := Aside0.mk H;clear H;have p240 : 0 ≤ (x4_1 : Int) := oda;have q240 : x4_1 < (l0.length : Int) := oda;obtain ⟨ad240, e240, hx240_0⟩ := Kd.at_int HR0.out x4_1 p240 q240;obtain rfl : ad239 = ad240 := (by injection e240);replace hx240_0 := cb HB hx240_0;replace p240 := eq_true p240;replace q240 := eq_true q240;go_wp2;go_roundg k1;(case measure => have := HK1.out; omega);(case rel => exact ⟨(ji6), (wrap64 (x4_1 + 1)), (by first | rfl | (simp; done) | (simp only [← hji6] <;> (first | rfl | simp)) | (simp [*]; done)), (eqw), H', ⟨by have := HK1.out; omega⟩, ⟨upW HB⟩⟩)
      ·rw [if_neg c5] at H;exact absurd H (by simp)
     ·rw [if_neg c4] at H;have c4b0 := decide_eq_false c4;clear c4;obtain rfl := Option.some.inj H;go_wp2;go_ret;exact ⟨eqv, upW HB⟩
  ·rw [if_neg c3] at H;exact absurd H (by simp)

/-! ### slices_Index_int_int: function 122 -/
def slices_Index_int_int.l0 : Nat → List Int → Int → Int → Int → Option (Int)
 | 0, _, _, _, _ => none
 | k + 1, x0, x1, x7, x8 => if x8 < x7 then (if 0 ≤ x8 then (if x8 < (x0.length : Int) then (if x1 = (rd x0 x8) then (some x8) else (slices_Index_int_int.l0 k x0 x1 x7 (wrap64 (x8 + 1)))) else (none)) else (none)) else (some (-1))
def slices_Index_int_int.f (k : Nat) (l0 : List Int) (a1 : Int) : Option (Int) := slices_Index_int_int.l0 k l0 a1 (l0.length : Int) 0
set_option maxHeartbeats 8000000 in
set_option maxRecDepth 100000 in
theorem slices_Index_int_int.calls (k : Nat) (A0 : Option Addr) (c0 : Nat) (l0 : List Int) (a1 : Int) (r : Int) (w : World) (hr0 : Kd.C (Kd.int .i64) w A0 l0.length l0) (hc0 : l0.length ≤ c0) (h : slices_Index_int_int.f k l0 a1 = some r) :
  Calls Tryd.prog 122 #[.slice A0 l0.length c0, .int .i64 a1] w fun e w' => e = .returned (.int .i64 r) ∧ Drawn0 w w' := by
 have HR0 := Aside0.mk hr0;have HC0 := Aside0.mk hc0;clear hr0 hc0;have H : (slices_Index_int_int.l0 k l0 a1 (l0.length : Int) 0) = some r := h;clear h;have H' := Aside0.mk H;clear H;go_enter Tryd.func122, Tryd.ntmps122;go_wp2;(go_loopg [8] k (fun kq v8 w' => ∃ (x8_1 : Int), v8 = .int .i64 x8_1 ∧ Aside0 (slices_Index_int_int.l0 kq l0 a1 (l0.length : Int) x8_1 = some r) ∧ Aside0 (kq ≤ k) ∧ Drawn0 w w'));(case atStart => exact ⟨(0), (eqw), H', ⟨Nat.le_refl _⟩, dz⟩)
 case round =>
  clear H';obtain ⟨x8_1, rfl, HA, HK1, ⟨m1, rfl⟩⟩ := hrel
  cases gk with
  | zero => exact absurd HA.out (by simp [slices_Index_int_int.l0])
  | succ k1 =>
   have H := HA.out;clear HA;simp only [slices_Index_int_int.l0] at H;(by_cases c3 : x8_1 < (l0.length : Int))
   ·rw [if_pos c3] at H;have c3b0 := decide_eq_true c3;clear c3;(by_cases c4 : 0 ≤ x8_1)
    ·rw [if_pos c4] at H;have c4b0 := decide_eq_true c4;clear c4;(by_cases c5 : x8_1 < (l0.length : Int))
     ·rw [if_pos c5] at H;have c5b0 := decide_eq_true c5;clear c5;(by_cases c6 : a1 = (rd l0 x8_1))
      ·rw [if_pos c6] at H;have c6b0 : (a1 == (rd l0 x8_1)) = true := beq_iff_eq.mpr c6;have c6b1 : (a1 != (rd l0 x8_1)) = false := bne_eq_false_iff_eq.mpr c6;clear c6;obtain rfl := Option.some.inj H;have p241 : 0 ≤ (x8_1 : Int) := oda;have q241 : x8_1 < (l0.length : Int) := oda;obtain ⟨ad241, e241, hx241_0⟩ := Kd.at_int HR0.out x8_1 p241 q241;cases e241;replace p241 := eq_true p241;replace q241 := eq_true q241;go_wp2;go_ret;exact ⟨eqw, dz⟩
      ·rw [if_neg c6] at H;have c6b0 : (a1 == (rd l0 x8_1)) = false := beq_eq_false_iff_ne.mpr c6;have c6b1 : (a1 != (rd l0 x8_1)) = true := bne_iff_ne.mpr c6;have H' := Aside0.mk H;clear H;have p241 : 0 ≤ (x8_1 : Int) := oda;have q241 : x8_1 < (l0.length : Int) := oda;obtain ⟨ad241, e241, hx241_0⟩ := Kd.at_int HR0.out x8_1 p241 q241;cases e241;replace p241 := eq_true p241;replace q241 := eq_true q241;go_wp2;go_roundg k1;(case measure => have := HK1.out; omega);(case rel => exact ⟨(wrap64 (x8_1 + 1)), (eqw), H', ⟨by have := HK1.out; omega⟩, dz⟩)
     ·rw [if_neg c5] at H;exact absurd H (by simp)
    ·rw [if_neg c4] at H;exact absurd H (by simp)
   ·rw [if_neg c3] at H;have c3b0 := decide_eq_false c3;clear c3;obtain rfl := Option.some.inj H;go_wp2;go_ret;exact ⟨eqw, dz⟩

/-! ### impl_comparePlaces: function 70 -/
def impl_comparePlaces.f (a0_0 : Int) (a0_1 : Int) (a0_2 : Int) (a1_0 : Int) (a1_1 : Int) (a1_2 : Int) : Option (Int) := if a0_1 = a1_1 then (some (wrap64 (a0_0 - a1_0))) else (some (wrap64 (a0_1 - a1_1)))
set_option maxHeartbeats 8000000 in
set_option maxRecDepth 100000 in
theorem impl_comparePlaces.calls (a0_0 : Int) (a0_1 : Int) (a0_2 : Int) (a1_0 : Int) (a1_1 : Int) (a1_2 : Int) (r : Int) (w : World) (h : impl_comparePlaces.f a0_0 a0_1 a0_2 a1_0 a1_1 a1_2 = some r) :
  Calls Tryd.prog 70 #[.agg #[.int .i64 a0_0, .int .i64 a0_1, .int .i64 a0_2], .agg #[.int .i64 a1_0, .int .i64 a1_1, .int .i64 a1_2]] w fun e w' => e = .returned (.int .i64 r) ∧ Below w.heap.size w w' := by
 have hu83 := Tryd.underlying83;have HB := Aside0.mk (Below.refl w.heap.size w);have H : (if a0_1 = a1_1 then (some (wrap64 (a0_0 - a1_0))) else (some (wrap64 (a0_1 - a1_1)))) = some r := h;clear h;(by_cases c3 : a0_1 = a1_1)
 ·rw [if_pos c3] at H;have c3b0 : (a0_1 == a1_1) = true := beq_iff_eq.mpr c3;have c3b1 : (a0_1 != a1_1) = false := bne_eq_false_iff_eq.mpr c3;clear c3;obtain rfl := Option.some.inj H;go_enter Tryd.func70, Tryd.ntmps70;(go_wp2_with (first | ((with_reducible refine gate_dst (N := 2) rfl ?_); refine boxE 2 (#[.int .i64 a0_0, .int .i64 a0_1, .int .i64 a0_2]) 83 ?_; intro gb242 hg w4 hbox hb; have BK242 := Aside0.mk (hbox);have GW242 := Aside0.mk (gz hg HB);have GE242 := Aside0.mk (gz hg HB);replace HB := Aside0.mk (below_step (upW HB) hb); clear hb hbox hg) | ((with_reducible refine gate_dst (N := 3) rfl ?_); refine boxE 3 (#[.int .i64 a1_0, .int .i64 a1_1, .int .i64 a1_2]) 83 ?_; intro gb243 hg w5 hbox hb; have BK243 := Aside0.mk (hbox);have GW243 := Aside0.mk (gz hg HB);have GE243 := Aside0.mk (gz hg HB);replace HB := Aside0.mk (below_step (upW HB) hb);have NB242_243 := Aside0.mk (gn hg BK242);have NB243_242 := Aside0.mk ((by rw [hg]; exact Nat.ne_of_gt (blk_lt (upK BK242)) : gb243 ≠ gb242));replace BK242 := Aside0.mk (blk_below (upK BK242) hb); clear hb hbox hg; have hnb6 := NB242_243.out; have hnc6 := NB243_242.out; obtain ⟨hcz7_0, hcz7_1, hcz7_2, hfz7_0, hfz7_1, hfz7_2⟩ := cz3 BK242 (.int .i64 a0_0) (.int .i64 a0_1) (.int .i64 a0_2); obtain ⟨hcz8_0, hcz8_1, hcz8_2, hfz8_0, hfz8_1, hfz8_2⟩ := cz3 BK243 (.int .i64 a1_0) (.int .i64 a1_1) (.int .i64 a1_2))));go_ret;exact ⟨eqv, upW HB⟩
 ·rw [if_neg c3] at H;have c3b0 : (a0_1 == a1_1) = false := beq_eq_false_iff_ne.mpr c3;have c3b1 : (a0_1 != a1_1) = true := bne_iff_ne.mpr c3;obtain rfl := Option.some.inj H;go_enter Tryd.func70, Tryd.ntmps70;(go_wp2_with (first | ((with_reducible refine gate_dst (N := 2) rfl ?_); refine boxE 2 (#[.int .i64 a0_0, .int .i64 a0_1, .int .i64 a0_2]) 83 ?_; intro gb242 hg w9 hbox hb; have BK242 := Aside0.mk (hbox);have GW242 := Aside0.mk (gz hg HB);have GE242 := Aside0.mk (gz hg HB);replace HB := Aside0.mk (below_step (upW HB) hb); clear hb hbox hg) | ((with_reducible refine gate_dst (N := 3) rfl ?_); refine boxE 3 (#[.int .i64 a1_0, .int .i64 a1_1, .int .i64 a1_2]) 83 ?_; intro gb243 hg w10 hbox hb; have BK243 := Aside0.mk (hbox);have GW243 := Aside0.mk (gz hg HB);have GE243 := Aside0.mk (gz hg HB);replace HB := Aside0.mk (below_step (upW HB) hb);have NB242_243 := Aside0.mk (gn hg BK242);have NB243_242 := Aside0.mk ((by rw [hg]; exact Nat.ne_of_gt (blk_lt (upK BK242)) : gb243 ≠ gb242));replace BK242 := Aside0.mk (blk_below (upK BK242) hb); clear hb hbox hg; have hnb11 := NB242_243.out; have hnc11 := NB243_242.out; obtain ⟨hcz12_0, hcz12_1, hcz12_2, hfz12_0, hfz12_1, hfz12_2⟩ := cz3 BK242 (.int .i64 a0_0) (.int .i64 a0_1) (.int .i64 a0_2); obtain ⟨hcz13_0, hcz13_1, hcz13_2, hfz13_0, hfz13_1, hfz13_2⟩ := cz3 BK243 (.int .i64 a1_0) (.int .i64 a1_1) (.int .i64 a1_2))));go_ret;exact ⟨eqv, upW HB⟩

/-! ### impl_Square_95: function 95 -/
set_option maxHeartbeats 8000000 in
theorem impl_Square_95.with (p : S83 → Bool) (fv : Nat) (lb : Array Value) (A : Option Addr) (c : Nat) (l : List S83) (w : World) (hr : Kd.C k83 w A l.length l)
  (eg : ∀ args w, (callFunc fv args).run Tryd.prog w = .ok (.enter fv args) w)
  (hp : ∀ (W : World) (t : S83), t ∈ l → Below w.heap.size w W → Calls Tryd.prog fv (#[.agg #[.int .i64 t.f0, .int .i64 t.f1, .int .i64 t.f2]] ++ lb) W fun e w' => e = .returned (.bool (p t)) ∧ Below w.heap.size w w') :
  Calls Tryd.prog 95 #[.slice A l.length c, .func (.func fv) #[] lb] w fun e w' => e = .returned (.int .i64 (pidx p l)) ∧ Below w.heap.size w w' := by
 have hu83 := Tryd.underlying83;have hbig : l.length ≤ 9223372036854775807 := hr.2.1;have HP := Lib.hid hp;clear hp;go_enter Tryd.func95, Tryd.ntmps95;go_wp2;(go_loopg [5, 8] l.length (fun gg _ s8 wr => ∃ kk : Nat, kk ≤ l.length ∧ l.length - kk ≤ gg ∧ s8 = .int .i64 kk ∧ Aside (Below w.heap.size w wr) ∧ Aside (∀ j, j < kk → ∀ b, l[j]? = some b → p b = false)));(case atStart => exact ⟨0, Nat.zero_le _, by omega, rfl, Below.refl _ w, fun j hj => absurd hj (Nat.not_lt_zero _)⟩)
 case round =>
  obtain ⟨kk, hkk, hg, rfl, BW, HA⟩ := hrel;(by_cases hlt : kk < l.length)
  ·(have hltz : (kk : Int) < (l.length : Int) := by omega);obtain ⟨ad, rfl, hx0, hx1, hx2⟩ := at_T83 hr (kk : Int) (by omega) hltz;replace hx0 := (BW.out.cell (World.block_lt_of_cell? w _ hx0)).trans hx0;replace hx1 := (BW.out.cell (World.block_lt_of_cell? w _ hx1)).trans hx1;replace hx2 := (BW.out.cell (World.block_lt_of_cell? w _ hx2)).trans hx2;(have hm : rd_T83 l kk ∈ l := by unfold rd_T83; simp [List.getD, hlt]);(have he : l[kk]? = some (rd_T83 l kk) := by unfold rd_T83; simp [List.getD, hlt]);have hcall := HP.out wr (rd_T83 l kk) hm BW.out;generalize hy : rd_T83 l kk = y at hx0 hx1 hx2 hcall he;have HE := Lib.hid he;clear hy hm he;simp only [Int.toNat_natCast] at hx0 hx1 hx2
   cases hq : p y with
   | true =>
    rw [hq] at hcall;(have HQ := Lib.hid hq; clear hq);(go_wp2_with (go_at_fn fv; refine hcall.mono ?_; rintro e w' ⟨rfl, hb'⟩));go_ret;refine ⟨?_, hb'⟩;(rw [pidx_hit p l kk y HE.out HQ.out HA.out]; rfl)
   | false =>
    rw [hq] at hcall;(have HQ := Lib.hid hq; clear hq);(go_wp2_with (go_at_fn fv; refine hcall.mono ?_; rintro e w' ⟨rfl, hb'⟩));go_roundg (l.length - (kk + 1));(case measure => omega)
    case rel =>
     refine ⟨kk + 1, by omega, by omega, by go_num, hb', (show Aside _ from fun j hj b hb => ?_)⟩;(by_cases e : j = kk)
     ·subst e;(rw [HE.out] at hb; obtain rfl := Option.some.inj hb; exact HQ.out)
     ·exact HA.out j (by omega) b hb
  ·(have hltz : ¬ (kk : Int) < (l.length : Int) := by omega);(have : kk = l.length := by omega);subst this;go_wp2;go_ret;refine ⟨?_, BW.out⟩;(rw [pidx_miss p l HA.out]; rfl)

/-! ### impl_Square_71: function 71 -/
set_option maxHeartbeats 8000000 in
theorem impl_Square_71.with (p : S83 → Bool) (fv : Nat) (lb : Array Value) (A : Option Addr) (c : Nat) (l : List S83) (w : World) (hr : Kd.C k83 w A l.length l)
  (eg : ∀ args w, (callFunc fv args).run Tryd.prog w = .ok (.enter fv args) w)
  (hp : ∀ (W : World) (t : S83), t ∈ l → Below w.heap.size w W → Calls Tryd.prog fv (#[.agg #[.int .i64 t.f0, .int .i64 t.f1, .int .i64 t.f2]] ++ lb) W fun e w' => e = .returned (.bool (p t)) ∧ Below w.heap.size w w') :
  Calls Tryd.prog 71 #[.slice A l.length c, .func (.func fv) #[] lb] w fun e w' => e = .returned (.bool (l.any p)) ∧ Below w.heap.size w w' := by
 have HP := Lib.hid hp;clear hp;have e0 : decide (0 ≤ pidx p l) = l.any p := pidx_any p l;generalize l.any p = b at e0 ⊢;have HE := Lib.hid e0;clear e0;go_enter Tryd.func71, Tryd.ntmps71;(go_wp2_with (go_at_call 95; refine (impl_Square_95.with p fv lb A c l _ hr eg HP.out).mono ?_; rintro e w' ⟨rfl, hb'⟩));go_ret;exact ⟨by rw [← HE.out]; rfl, hb'⟩

end Go.Proofs.YtmmcbdndelaeoaaDoor.PFnExactCodeText
