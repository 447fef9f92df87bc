-- made for this claim by a program of this session
import Derived.Test.YtpoikgjhdlipdaaPFnExactTurnCodex0
import Derived.Test.YtpoikgjhdlipdaaPFnExactTurnCodex9
namespace Go.Proofs.Ytpoikgjhdlipdaa.PFnExactTurnCode
open Go.RowKit Go.Proofs.YtpoikgjhdlipdaaW.PrintWords Go.Proofs.YtpoikgjhdlipdaaW.PrintLast Go.Proofs.YtpoikgjhdlipdaaW.PrintMore
attribute [local go_sem] max2_int min2_int max_two min_two max_three min_three max_four min_four   -- for this text's walks alone
set_option linter.unusedVariables false
set_option linter.unusedSimpArgs false

/-! ### slices_Grow_int_int: function 62 -/
def slices_Grow_int_int_lay_ren : Go.Shelf.Ren := ⟨fun | 4 => 62 | n => n, fun | 22 => 32 | 25 => 3 | 3 => 3 | 4 => 4 | 9 => 9 | 20 => 20 | 0 => 0 | n => n, fun | n => n⟩
theorem slices_Grow_int_int_lay : Go.Proofs.Lays8.n4 Try.prog slices_Grow_int_int_lay_ren where
 mixed := by kernel_rfl
 f4 := ⟨Try.f62.name, by decide, Try.func62.trans (congrArg some (by kernel_rfl))⟩
 t0 := Try.underlying0
 a0 := Try.isAgg0
 z0 := Try.sizeOf0
 v0 := Try.zeroValue0
 t3 := Try.underlying3
 a3 := Try.isAgg3
 z3 := Try.sizeOf3
 v3 := Try.zeroValue3
 t4 := Try.underlying4
 a4 := Try.isAgg4
 z4 := Try.sizeOf4
 v4 := Try.zeroValue4
 t9 := Try.underlying9
 a9 := Try.isAgg9
 z9 := Try.sizeOf9
 v9 := Try.zeroValue9
 t20 := Try.underlying20
 a20 := Try.isAgg20
 z20 := Try.sizeOf20
 v20 := Try.zeroValue20
 t22 := Try.underlying32
 a22 := Try.isAgg32
 z22 := Try.sizeOf32
 v22 := Try.zeroValue32
def slices_Grow_int_int.f (l : List Int) (a1 : Int) : Option (List Int) := if l = [] ∧ 0 ≤ a1 ∧ a1 ≤ 1000000000000 then some [] else none
set_option maxHeartbeats 8000000 in
set_option maxRecDepth 100000 in
theorem slices_Grow_int_int.calls (P0_ : Nat → Prop) (u9000_ : Value) (l0 : List Int) (a1 : Int) (r : List Int) (w0 w : World) (hB : Below w0.heap.size w0 w) (ho0 : Kd.R (Kd.int .i64) 3 w w0.heap.size P0_ u9000_ l0) (h : slices_Grow_int_int.f l0 a1 = some r) :
  Calls Try.prog 62 #[u9000_, .int .i64 a1] w fun e w' => ∃ v0_ : Value, e = .returned v0_ ∧ Kd.R (Kd.int .i64) 3 w' w0.heap.size (fun k_ => (P0_ k_ ∨ w.heap.size ≤ k_)) v0_ r ∧ Below w0.heap.size w0 w' ∧ Kept w w' (fun k_ => P0_ k_) := by
 unfold slices_Grow_int_int.f at h;(split at h);(case isFalse => cases h);(rename_i hg);obtain ⟨rfl, g1, g2⟩ := hg;have hr : r = [] := (Option.some.inj h).symm;subst hr;clear h;obtain ⟨n, rfl⟩ := Int.eq_ofNat_of_zero_le g1;(have hmax : maxLen ≤ 9223372036854775807 := by decide);have ho1 : Kd.R (Kd.int .i64) 3 w w0.heap.size (fun k_ => (P0_ k_ ∨ w.heap.size ≤ k_)) u9000_ [] := Kd.R_mono ho0 (fun _ hk => .inl hk)
 have made : ∀ (c : Nat) (cs : Array Value), c ≤ maxLen → cs.size = c → Kd.R (Kd.int .i64) 3 (w.drew.alloc (.cells cs 3)) w0.heap.size (fun k_ => (P0_ k_ ∨ w.heap.size ≤ k_)) (.slice (some ⟨w.heap.size, 0, none⟩) 0 c) [] := fun c cs hc hs =>
  Kd.R_of_own (World.ownsRow_made (size := 1) w.drew cs c hB.size hc (by omega)) (fun k hk => by
   (have e : w.heap.size = k := by simpa [Value.ownBlock] using hk)
   exact .inr (Nat.le_of_eq e))
 obtain ⟨i0, hi0, hx⟩ := Option.map_eq_some_iff.1 info3;have hz0 : i0.zero = some (.int .i64 0) := congrArg (fun q => q.1) hx;have hs0 : i0.size = 1 := congrArg (fun q => q.2.1) hx;have hb0 : i0.bytes = 8 := congrArg (fun q => q.2.2) hx;clear hx;(have e1 : (Value.int .i64 0).cells.size = 1 := by decide);obtain ⟨hok, inner, ho, hreps⟩ := ho0;(rcases ho.2 with ⟨rfl, _⟩ | ⟨g, cap, cur, rfl, hb, hh, hnc, hcm, hcs, ht⟩)
 ·(by_cases hn : n = 0)
  ·subst hn;refine (Any8.slices_Grow_room slices_Grow_int_int_lay none 0 0 0 w (by omega) (by omega) (by omega) (by omega)).mono ?_;rintro e w' ⟨rfl, rfl⟩;exact ⟨_, rfl, ho1, hB, Kept.refl _ _⟩
  ·(have hbig : (0 + n) * i0.bytes ≤ 140737488355328 := by rw [hb0]; omega);refine (Any8.slices_Grow_grow slices_Grow_int_int_lay i0 (.int .i64 0) hi0 hz0 (by omega) none 0 0 n [] w (by omega) (by omega) hbig (by omega) (by simp) (fun _ => rfl) (fun a ha => by cases ha)).mono ?_;rintro e w' ⟨rfl, rfl⟩;have hc := grownCap_le_maxLen w (0 + n) 0 (slices_Grow_int_int_lay_ren.t 25) (by unfold maxLen; omega);have hge := grownCap_ge w (0 + n) 0 (slices_Grow_int_int_lay_ren.t 25);refine ⟨_, rfl, made _ _ hc ?_, (hB.drew).alloc hB.size _, Kept.alloc (Kept.drew (Kept.refl w _)) _⟩;simp only [Builtin.zeroCells, Array.size_append, Array.size_map, Array.size_range, e1, List.size_toArray, List.length_nil];omega
 ·have hP : P0_ g := hok g rfl;have h1 : (Kd.int .i64).sz = 1 := rfl;rw [h1, Nat.mul_one] at hcs;(by_cases hn : n ≤ cap)
  ·refine (Any8.slices_Grow_room slices_Grow_int_int_lay (some ⟨g, 0, none⟩) 0 cap n w (by omega) (by omega) (by omega) (by omega)).mono ?_;rintro e w' ⟨rfl, rfl⟩;exact ⟨_, rfl, ho1, hB, Kept.refl _ _⟩
  ·(have hbig : (0 + n) * i0.bytes ≤ 140737488355328 := by rw [hb0]; omega);(have hcl : cur.toList.length = cap * i0.size := by rw [hs0, Array.length_toList]; omega)
   refine (Any8.slices_Grow_grow slices_Grow_int_int_lay i0 (.int .i64 0) hi0 hz0 (by omega) (some ⟨g, 0, none⟩) 0 cap n cur.toList w (by omega) (by omega) hbig (by omega) hcl (fun h => by cases h) (fun a ha j v hv => by
     (injection ha with ha);subst ha;rw [add_plain]
     exact (blk_cell hh j).trans (by simpa using hv))).mono ?_
   rintro e w' ⟨rfl, rfl⟩;have hc := grownCap_le_maxLen w (0 + n) cap (slices_Grow_int_int_lay_ren.t 25) (by unfold maxLen; omega);have hge := grownCap_ge w (0 + n) cap (slices_Grow_int_int_lay_ren.t 25);refine ⟨_, rfl, made _ _ hc ?_, (hB.drew).alloc hB.size _, Kept.alloc (Kept.drew (Kept.refl w _)) _⟩;simp only [Builtin.zeroCells, Array.size_append, Array.size_map, Array.size_range, e1, Array.length_toList, List.size_toArray];omega

/-! ### slices_Concat_int_int: function 44 -/
mutual
def slices_Concat_int_int.l0 : Nat → List (List Int) → Int → List (List Int) → Int → Int → Option (List Int)
 | 0, _, _, _, _, _ => none
 | k + 1, x0, x3, x9, x10, x11 => if x11 < x10 then (if 0 ≤ x11 then (if x11 < (x9.length : Int) then (if (wrap64 (x3 + ((rd_L1 x9 x11).length : Int))) < 0 then (none) else (slices_Concat_int_int.l0 k x0 (wrap64 (x3 + ((rd_L1 x9 x11).length : Int))) x9 x10 (wrap64 (x11 + 1)))) else (none)) else (none)) else ((slices_Grow_int_int.f ([] : List Int) x3).bind fun t471 => (slices_Concat_int_int.l1 k t471 x0 (x0.length : Int) 0))
def slices_Concat_int_int.l1 : Nat → List Int → List (List Int) → Int → Int → Option (List Int)
 | 0, _, _, _, _ => none
 | k + 1, x6, x25, x26, x27 => if x27 < x26 then (if 0 ≤ x27 then (if x27 < (x25.length : Int) then (if x6.length + (rd_L1 x25 x27).length < 17592186044416 then (slices_Concat_int_int.l1 k (x6 ++ (rd_L1 x25 x27)) x25 x26 (wrap64 (x27 + 1))) else (none)) else (none)) else (none)) else (some x6)
end
def slices_Concat_int_int.f (k : Nat) (l0 : List (List Int)) : Option (List Int) := slices_Concat_int_int.l0 k l0 0 l0 (l0.length : Int) 0
set_option maxHeartbeats 8000000 in
set_option maxRecDepth 100000 in
theorem slices_Concat_int_int.calls (k : Nat) (A0 : Option Addr) (c0 : Nat) (l0 : List (List Int)) (r : List Int) (w : World) (hr0 : Kd.C (Kd.slice 3 (Kd.int .i64)) w A0 l0.length l0) (hc0 : l0.length ≤ c0) (h : slices_Concat_int_int.f k l0 = some r) :
  Calls Try.prog 44 #[.slice A0 l0.length c0] w fun e w' => ∃ v0_ : Value, e = .returned (v0_) ∧ Kd.R (Kd.int .i64) 3 w' w.heap.size (fun _ => True) v0_ r ∧ Below w.heap.size w w' := by
 have HR0 := Aside0.mk hr0;have HC0 := Aside0.mk hc0;clear hr0 hc0;have HB := Aside0.mk (Below.refl w.heap.size w);have H : (slices_Concat_int_int.l0 k l0 0 l0 (l0.length : Int) 0) = some r := h;clear h;have H' := Aside0.mk H;clear H;go_enter Try.func44, Try.ntmps44;go_wp2;(go_loopg [3, 11] k (fun kq v3 v11 w' => ∃ (x3_1 : Int) (x11_1 : Int), v3 = .int .i64 x3_1 ∧ v11 = .int .i64 x11_1 ∧ Aside0 (slices_Concat_int_int.l0 kq l0 x3_1 l0 (l0.length : Int) x11_1 = some r) ∧ Aside0 (kq ≤ k) ∧ Aside0 (Below w.heap.size w w')));(case atStart => exact ⟨(0), (0), (eqw), (eqw), H', ⟨Nat.le_refl _⟩, ⟨upW HB⟩⟩)
 case round =>
  clear H';obtain ⟨x3_1, x11_1, rfl, rfl, HA, HK1, HB⟩ := hrel
  cases gk with
  | zero => exact absurd HA.out (by simp [slices_Concat_int_int.l0])
  | succ k1 =>
   have H := HA.out;clear HA;simp only [slices_Concat_int_int.l0] at H;(by_cases c2 : x11_1 < (l0.length : Int))
   ·rw [if_pos c2] at H;have c2b0 := decide_eq_true c2;clear c2;(by_cases c3 : 0 ≤ x11_1)
    ·rw [if_pos c3] at H;have c3b0 := decide_eq_true c3;clear c3;(by_cases c4 : x11_1 < (l0.length : Int))
     ·rw [if_pos c4] at H;have c4b0 := decide_eq_true c4;clear c4;(by_cases c5 : (wrap64 (x3_1 + ((rd_L1 l0 x11_1).length : Int))) < 0)
      ·rw [if_pos c5] at H;exact absurd H (by simp)
      ·rw [if_neg c5] at H;have c5b0 : decide ((wrap64 (x3_1 + ((rd_L1 l0 x11_1).length : Int))) < 0) = false := decide_eq_false c5;clear c5;have H' := Aside0.mk H;clear H;have p470 : 0 ≤ (x11_1 : Int) := oda;have q470 : x11_1 < (l0.length : Int) := oda;obtain ⟨ad470, A470_0, c470_0, e470, hx470_0, hl470_0, hi470_0⟩ := at_L1 HR0.out x11_1 p470 q470;cases e470;replace hx470_0 := cb HB hx470_0;have HR470_0 := Aside0.mk hi470_0;have HC470_0 := Aside0.mk hl470_0;clear hi470_0 hl470_0;replace p470 := eq_true p470;replace q470 := eq_true q470;go_wp2;go_roundg k1;(case measure => have := HK1.out; omega);(case rel => exact ⟨(wrap64 (x3_1 + ((rd_L1 l0 x11_1).length : Int))), (wrap64 (x11_1 + 1)), (eqw), (eqw), H', ⟨by have := HK1.out; omega⟩, ⟨upW HB⟩⟩)
     ·rw [if_neg c4] at H;exact absurd H (by simp)
    ·rw [if_neg c3] at H;exact absurd H (by simp)
   ·rw [if_neg c2] at H;have c2b0 := decide_eq_false c2;clear c2;replace H := Option.bind_eq_some_iff.mp H;obtain ⟨t471, A60, H⟩ := H;replace H : (slices_Concat_int_int.l1 k1 t471 l0 (l0.length : Int) 0) = some r := H;have A6 := Aside0.mk A60;clear A60;have H' := Aside0.mk H;clear H;(go_wp2_with (first | ((with_reducible refine gate_callee (f := 62) rfl ?_); refine goesL_ (some 24) rfl rfl Try.func62 (by kernel_rfl) rfl #[.slice none 0 0, .int .i64 x3_1] rfl itp ?_; (refine (slices_Grow_int_int.calls (fun k_ => some k_ = (.slice none 0 0 : Value).ownBlock) (.slice none 0 0) ([] : List Int) x3_1 t471 w _ ?side1 ?side2 A6.out).mono ?_); (case side1 => exact upW HB); (case side2 => exact Kd.R_nil _ _ _ _ _); rintro e w7 ⟨v472, rfl, ho0, hb, hkp⟩; refine ⟨_, rfl, ?_⟩; have HO473 := Aside0.mk (Kd.R_mono (ok' := fun k_ => True) ho0 (fun k_ hk_ => trivial));replace HB := Aside0.mk (hb); (try clear hb hkp ho0))));(try simp only [Act.put, List.setIfInBounds_toArray, List.set_cons_succ, List.set_cons_zero]);(go_loopg [6, 27] k1 (fun kq v6 v27 w' => ∃ (x6_2 : List Int) (x27_2 : Int), v27 = .int .i64 x27_2 ∧ Aside0 (slices_Concat_int_int.l1 kq x6_2 l0 (l0.length : Int) x27_2 = some r) ∧ Aside0 (kq ≤ k1) ∧ Aside0 (Kd.R (Kd.int .i64) 3 w' w.heap.size (fun _ => True) v6 x6_2) ∧ Aside0 (Below w.heap.size w w')));(case atStart => exact ⟨(t471), (0), (eqw), H', ⟨Nat.le_refl _⟩, ⟨upR HO473⟩, ⟨upW HB⟩⟩)
    case round =>
     clear H';(try clear c2b0);obtain ⟨x6_2, x27_2, rfl, HA, HK2, HO_6, HB⟩ := hrel
     cases gk with
     | zero => exact absurd HA.out (by simp [slices_Concat_int_int.l1])
     | succ k2 =>
      have H := HA.out;clear HA;simp only [slices_Concat_int_int.l1] at H;(by_cases c8 : x27_2 < (l0.length : Int))
      ·rw [if_pos c8] at H;have c8b0 := decide_eq_true c8;clear c8;(by_cases c9 : 0 ≤ x27_2)
       ·rw [if_pos c9] at H;have c9b0 := decide_eq_true c9;clear c9;(by_cases c10 : x27_2 < (l0.length : Int))
        ·rw [if_pos c10] at H;have c10b0 := decide_eq_true c10;clear c10;(by_cases c11 : x6_2.length + (rd_L1 l0 x27_2).length < 17592186044416)
         ·rw [if_pos c11] at H;have LMc11 := Aside0.mk c11;clear c11;obtain ⟨y475, hy475⟩ : ∃ y_ : List Int, y_ = (x6_2 ++ (rd_L1 l0 x27_2)) := ⟨_, rfl⟩;(replace H : (slices_Concat_int_int.l1 k2 y475 l0 (l0.length : Int) (wrap64 (x27_2 + 1))) = some r := rwH hy475 H);have Ny475 := Aside0.mk hy475;clear hy475;have H' := Aside0.mk H;clear H;have p474 : 0 ≤ (x27_2 : Int) := oda;have q474 : x27_2 < (l0.length : Int) := oda;obtain ⟨ad474, A474_0, c474_0, e474, hx474_0, hl474_0, hi474_0⟩ := at_L1 HR0.out x27_2 p474 q474;cases e474;replace hx474_0 := cb HB hx474_0;have HR474_0 := Aside0.mk hi474_0;have HC474_0 := Aside0.mk hl474_0;clear hi474_0 hl474_0;replace p474 := eq_true p474;replace q474 := eq_true q474;(go_wp2_with (first | ((with_reducible refine gate_builtin (b := .append) (xs := #[.tmp 31, .tmp 32]) rfl ?_); at_builtin; refine Kd.R_append_rows (Kd.int .i64) (w0 := w) w.heap.size rfl (.tmp 31) (.tmp 32) 32 3 (.int .i64 0) 8 rfl Try.underlying32 info3 rfl (by decide) (by omega) u6 x6_2 (rd_L1 l0 x27_2) _ _ _ (fun _ => True) (fun _ => False) rfl rfl ?aO ?aR (fun _ _ h => h) (fun _ h => h.elim) ?aF ?aB ?aS ?aL ?_; (case aR => repeat (first | exact (Kd.C_below HR474_0.out HB.out) | (with_reducible refine Kd.C_alloc ?_ _) | (with_reducible refine Kd.C_drewN ?_ _) | (with_reducible refine Kd.C_drew ?_))); (case aB => exact (upW HB)); (case aF => exact (fun _ _ => trivial)); (case aO => exact (upR HO_6)); (case aS => exact (below_size (upW HB))); (case aL => have := LMc11.out; omega); intro v476 w12 ho hb hg hat; rw [← Ny475.out] at ho; have n0_ := Aside0.mk (hb); have n1_ := Aside0.mk (ho); clear HB; clear HO_6; have HB := n0_; have HO477 := n1_; clear n0_ n1_; clear ho hb hg hat)));go_roundg k2;(case measure => have := HK1.out; have := HK2.out; omega);(case rel => exact ⟨(y475), (wrap64 (x27_2 + 1)), (eqw), H', ⟨by have := HK1.out; have := HK2.out; omega⟩, ⟨upR HO477⟩, ⟨upW HB⟩⟩)
         ·rw [if_neg c11] at H;exact absurd H (by simp)
        ·rw [if_neg c10] at H;exact absurd H (by simp)
       ·rw [if_neg c9] at H;exact absurd H (by simp)
      ·rw [if_neg c8] at H;have c8b0 := decide_eq_false c8;clear c8;obtain rfl := Option.some.inj H;go_wp2;go_ret;exact ⟨_, eqv, by (with_reducible repeat (first | apply Kd.R_alloc | apply Kd.R_drewN | apply Kd.R_drew)); exact HO_6.out, upW HB⟩

-- left to its pairs: function 63 (slices_EqualFunc_int_int_int_int)

/-! ### slices_Equal_int_int: function 65 -/
def slices_Equal_int_int.l0 : Nat → List Int → List Int → Int → Int → Option (Bool)
 | 0, _, _, _, _ => none
 | k + 1, x0, x1, x12, x13 => if x13 < x12 then (if 0 ≤ x13 then (if x13 < (x0.length : Int) then (if x13 < (x1.length : Int) then (if (rd x0 x13) = (rd x1 x13) then (slices_Equal_int_int.l0 k x0 x1 x12 (wrap64 (x13 + 1))) else (some false)) else (none)) else (none)) else (none)) else (some true)
def slices_Equal_int_int.f (k : Nat) (l0 : List Int) (l1 : List Int) : Option (Bool) := if (l0.length : Int) = (l1.length : Int) then (slices_Equal_int_int.l0 k l0 l1 (l0.length : Int) 0) else (some false)
set_option maxHeartbeats 8000000 in
set_option maxRecDepth 100000 in
theorem slices_Equal_int_int.calls (k : Nat) (A0 : Option Addr) (c0 : Nat) (l0 : List Int) (A1 : Option Addr) (c1 : Nat) (l1 : List Int) (r : Bool) (w : World) (hr0 : Kd.C (Kd.int .i64) w A0 l0.length l0) (hc0 : l0.length ≤ c0) (hr1 : Kd.C (Kd.int .i64) w A1 l1.length l1) (hc1 : l1.length ≤ c1) (h : slices_Equal_int_int.f k l0 l1 = some r) :
  Calls Try.prog 65 #[.slice A0 l0.length c0, .slice A1 l1.length c1] w fun e w' => e = .returned (.bool r) ∧ Drawn0 w w' := by
 have HR0 := Aside0.mk hr0;have HC0 := Aside0.mk hc0;clear hr0 hc0;have HR1 := Aside0.mk hr1;have HC1 := Aside0.mk hc1;clear hr1 hc1;have H : (if (l0.length : Int) = (l1.length : Int) then (slices_Equal_int_int.l0 k l0 l1 (l0.length : Int) 0) else (some false)) = some r := h;clear h;(by_cases c3 : (l0.length : Int) = (l1.length : Int))
 ·rw [if_pos c3] at H;have c3b0 : ((l0.length : Int) == (l1.length : Int)) = true := beq_iff_eq.mpr c3;have c3b1 : ((l0.length : Int) != (l1.length : Int)) = false := bne_eq_false_iff_eq.mpr c3;(have c3b2 : (l0.length == l1.length) = true := by first | simpa using c3 | (simp at c3 ⊢; omega));clear c3;have H' := Aside0.mk H;clear H;go_enter Try.func65, Try.ntmps65;go_wp2;(repeat (go_quiet (fail); try go_wp2));(go_loopg [13] k (fun kq v13 w' => ∃ (x13_1 : Int), v13 = .int .i64 x13_1 ∧ Aside0 (slices_Equal_int_int.l0 kq l0 l1 (l0.length : Int) x13_1 = some r) ∧ Aside0 (kq ≤ k) ∧ Drawn0 w w'));(case atStart => exact ⟨(0), (eqw), H', ⟨Nat.le_refl _⟩, dz⟩)
  case round =>
   clear H';(try clear c3b0 c3b1 c3b2);obtain ⟨x13_1, rfl, HA, HK1, ⟨m1, rfl⟩⟩ := hrel
   cases gk with
   | zero => exact absurd HA.out (by simp [slices_Equal_int_int.l0])
   | succ k1 =>
    have H := HA.out;clear HA;simp only [slices_Equal_int_int.l0] at H;(by_cases c4 : x13_1 < (l0.length : Int))
    ·rw [if_pos c4] at H;have c4b0 := decide_eq_true c4;clear c4;(by_cases c5 : 0 ≤ x13_1)
     ·rw [if_pos c5] at H;have c5b0 := decide_eq_true c5;clear c5;(by_cases c6 : x13_1 < (l0.length : Int))
      ·rw [if_pos c6] at H;have c6b0 := decide_eq_true c6;clear c6;(by_cases c7 : x13_1 < (l1.length : Int))
       ·rw [if_pos c7] at H;have c7b0 := decide_eq_true c7;clear c7;(by_cases c8 : (rd l0 x13_1) = (rd l1 x13_1))
        ·rw [if_pos c8] at H;have c8b0 : ((rd l0 x13_1) == (rd l1 x13_1)) = true := beq_iff_eq.mpr c8;have c8b1 : ((rd l0 x13_1) != (rd l1 x13_1)) = false := bne_eq_false_iff_eq.mpr c8;clear c8;have H' := Aside0.mk H;clear H;have p478 : 0 ≤ (x13_1 : Int) := oda;have q478 : x13_1 < (l0.length : Int) := oda;obtain ⟨ad478, e478, hx478_0⟩ := Kd.at_int HR0.out x13_1 p478 q478;cases e478;replace p478 := eq_true p478;replace q478 := eq_true q478;have p479 : 0 ≤ (x13_1 : Int) := oda;have q479 : x13_1 < (l1.length : Int) := oda;obtain ⟨ad479, e479, hx479_0⟩ := Kd.at_int HR1.out x13_1 p479 q479;cases e479;replace p479 := eq_true p479;replace q479 := eq_true q479;go_wp2;(repeat (go_quiet (fail); try go_wp2));go_roundg k1;(case measure => have := HK1.out; omega);(case rel => exact ⟨(wrap64 (x13_1 + 1)), (eqw), H', ⟨by have := HK1.out; omega⟩, dz⟩)
        ·rw [if_neg c8] at H;have c8b0 : ((rd l0 x13_1) == (rd l1 x13_1)) = false := beq_eq_false_iff_ne.mpr c8;have c8b1 : ((rd l0 x13_1) != (rd l1 x13_1)) = true := bne_iff_ne.mpr c8;obtain rfl := Option.some.inj H;have p478 : 0 ≤ (x13_1 : Int) := oda;have q478 : x13_1 < (l0.length : Int) := oda;obtain ⟨ad478, e478, hx478_0⟩ := Kd.at_int HR0.out x13_1 p478 q478;cases e478;replace p478 := eq_true p478;replace q478 := eq_true q478;have p479 : 0 ≤ (x13_1 : Int) := oda;have q479 : x13_1 < (l1.length : Int) := oda;obtain ⟨ad479, e479, hx479_0⟩ := Kd.at_int HR1.out x13_1 p479 q479;cases e479;replace p479 := eq_true p479;replace q479 := eq_true q479;go_wp2;(repeat (go_quiet (fail); try go_wp2));go_ret;exact ⟨eqw, dz⟩
       ·rw [if_neg c7] at H;exact absurd H (by simp)
      ·rw [if_neg c6] at H;exact absurd H (by simp)
     ·rw [if_neg c5] at H;exact absurd H (by simp)
    ·rw [if_neg c4] at H;have c4b0 := decide_eq_false c4;clear c4;obtain rfl := Option.some.inj H;go_wp2;(repeat (go_quiet (fail); try go_wp2));go_ret;exact ⟨eqw, dz⟩
 ·rw [if_neg c3] at H;have c3b0 : ((l0.length : Int) == (l1.length : Int)) = false := beq_eq_false_iff_ne.mpr c3;have c3b1 : ((l0.length : Int) != (l1.length : Int)) = true := bne_iff_ne.mpr c3;(have c3b2 : (l0.length == l1.length) = false := by first | simpa using c3 | (simp at c3 ⊢; omega));obtain rfl := Option.some.inj H;go_enter Try.func65, Try.ntmps65;go_wp2;(repeat (go_quiet (fail); try go_wp2));go_ret;exact ⟨eqw, dz⟩

/-! ### impl_sameLists_1: function 64 -/
def impl_sameLists_1.f (k : Nat) (l0 : List Int) (l1 : List Int) : Option (Bool) := (slices_Equal_int_int.f k l0 l1).bind fun t480 => (some t480)
set_option maxHeartbeats 8000000 in
set_option maxRecDepth 100000 in
theorem impl_sameLists_1.calls (k : Nat) (A0 : Option Addr) (c0 : Nat) (l0 : List Int) (A1 : Option Addr) (c1 : Nat) (l1 : List Int) (r : Bool) (w : World) (hr0 : Kd.C (Kd.int .i64) w A0 l0.length l0) (hc0 : l0.length ≤ c0) (hr1 : Kd.C (Kd.int .i64) w A1 l1.length l1) (hc1 : l1.length ≤ c1) (h : impl_sameLists_1.f k l0 l1 = some r) :
  Calls Try.prog 64 #[.slice A0 l0.length c0, .slice A1 l1.length c1] w fun e w' => e = .returned (.bool r) ∧ Drawn0 w w' := by
 have HR0 := Aside0.mk hr0;have HC0 := Aside0.mk hc0;clear hr0 hc0;have HR1 := Aside0.mk hr1;have HC1 := Aside0.mk hc1;clear hr1 hc1;have H : ((slices_Equal_int_int.f k l0 l1).bind fun t480 => (some t480)) = some r := h;clear h;replace H := Option.bind_eq_some_iff.mp H;obtain ⟨t480, A30, H⟩ := H;replace H : (some t480) = some r := H;have A3 := Aside0.mk A30;clear A30;obtain rfl := Option.some.inj H;go_enter Try.func64, Try.ntmps64;(go_wp2_with (first | ((with_reducible refine gate_callee (f := 65) rfl ?_); refine goesL_ (some 7) rfl rfl Try.func65 (by kernel_rfl) rfl #[.slice A0 l0.length c0, .slice A1 l1.length c1] rfl itp ?_; (with_reducible refine (slices_Equal_int_int.calls k _ _ l0 _ _ l1 t480 _ ?side1 ?side2 ?side3 ?side4 A3.out).mono ?_); (case side1 => exact upC HR0.out); (case side2 => exact HC0.out); (case side3 => exact upC HR1.out); (case side4 => exact HC1.out); rintro e w' ⟨rfl, ⟨nd, rfl⟩⟩; refine ⟨_, rfl, ?_⟩)));go_ret;exact ⟨eqw, dz⟩

/-! ### slices_EqualFunc_int_int_int_int__impl_sameLists_1: function 100008 -/
def slices_EqualFunc_int_int_int_int__impl_sameLists_1.l0 : Nat → List (List Int) → List (List Int) → Int → Int → Option (Bool)
 | 0, _, _, _, _ => none
 | k + 1, x1, x15, x16, x17 => if x17 < x16 then (if 0 ≤ x17 then (if x17 < (x15.length : Int) then (if x17 < (x1.length : Int) then ((impl_sameLists_1.f k (rd_L1 x15 x17) (rd_L1 x1 x17)).bind fun t483 => (if t483 = true then (slices_EqualFunc_int_int_int_int__impl_sameLists_1.l0 k x1 x15 x16 (wrap64 (x17 + 1))) else (some false))) else (none)) else (none)) else (none)) else (some true)
def slices_EqualFunc_int_int_int_int__impl_sameLists_1.f (k : Nat) (l0 : List (List Int)) (l1 : List (List Int))  : Option (Bool) := if (l0.length : Int) = (l1.length : Int) then (slices_EqualFunc_int_int_int_int__impl_sameLists_1.l0 k l1 l0 (l0.length : Int) 0) else (some false)
set_option maxHeartbeats 8000000 in
set_option maxRecDepth 100000 in
theorem slices_EqualFunc_int_int_int_int__impl_sameLists_1.calls (k : Nat) (A0 : Option Addr) (c0 : Nat) (l0 : List (List Int)) (A1 : Option Addr) (c1 : Nat) (l1 : List (List Int))  (r : Bool) (w : World) (hr0 : Kd.C (Kd.slice 3 (Kd.int .i64)) w A0 l0.length l0) (hc0 : l0.length ≤ c0) (hr1 : Kd.C (Kd.slice 3 (Kd.int .i64)) w A1 l1.length l1) (hc1 : l1.length ≤ c1) (h : slices_EqualFunc_int_int_int_int__impl_sameLists_1.f k l0 l1 = some r) :
  Calls Try.prog 63 #[.slice A0 l0.length c0, .slice A1 l1.length c1, .func (.func 64) #[] #[]] w fun e w' => e = .returned (.bool r) ∧ Drawn0 w w' := by
 have HR0 := Aside0.mk hr0;have HC0 := Aside0.mk hc0;clear hr0 hc0;have HR1 := Aside0.mk hr1;have HC1 := Aside0.mk hc1;clear hr1 hc1;have H : (if (l0.length : Int) = (l1.length : Int) then (slices_EqualFunc_int_int_int_int__impl_sameLists_1.l0 k l1 l0 (l0.length : Int) 0) else (some false)) = some r := h;clear h;(by_cases c4 : (l0.length : Int) = (l1.length : Int))
 ·rw [if_pos c4] at H;have c4b0 : ((l0.length : Int) == (l1.length : Int)) = true := beq_iff_eq.mpr c4;have c4b1 : ((l0.length : Int) != (l1.length : Int)) = false := bne_eq_false_iff_eq.mpr c4;(have c4b2 : (l0.length == l1.length) = true := by first | simpa using c4 | (simp at c4 ⊢; omega));clear c4;have H' := Aside0.mk H;clear H;go_enter Try.func63, Try.ntmps63;go_wp2;(go_loopg [17] k (fun kq v17 w' => ∃ (x17_1 : Int), v17 = .int .i64 x17_1 ∧ Aside0 (slices_EqualFunc_int_int_int_int__impl_sameLists_1.l0 kq l1 l0 (l0.length : Int) x17_1 = some r) ∧ Aside0 (kq ≤ k) ∧ Drawn0 w w'));(case atStart => exact ⟨(0), (eqw), H', ⟨Nat.le_refl _⟩, dz⟩)
  case round =>
   clear H';(try clear c4b0 c4b1 c4b2);obtain ⟨x17_1, rfl, HA, HK1, ⟨m1, rfl⟩⟩ := hrel
   cases gk with
   | zero => exact absurd HA.out (by simp [slices_EqualFunc_int_int_int_int__impl_sameLists_1.l0])
   | succ k1 =>
    have H := HA.out;clear HA;simp only [slices_EqualFunc_int_int_int_int__impl_sameLists_1.l0] at H;(by_cases c5 : x17_1 < (l0.length : Int))
    ·rw [if_pos c5] at H;have c5b0 := decide_eq_true c5;clear c5;(by_cases c6 : 0 ≤ x17_1)
     ·rw [if_pos c6] at H;have c6b0 := decide_eq_true c6;clear c6;(by_cases c7 : x17_1 < (l0.length : Int))
      ·rw [if_pos c7] at H;have c7b0 := decide_eq_true c7;clear c7;(by_cases c8 : x17_1 < (l1.length : Int))
       ·rw [if_pos c8] at H;have c8b0 := decide_eq_true c8;clear c8;replace H := Option.bind_eq_some_iff.mp H;obtain ⟨t483, A90, H⟩ := H;replace H : (if t483 = true then (slices_EqualFunc_int_int_int_int__impl_sameLists_1.l0 k1 l1 l0 (l0.length : Int) (wrap64 (x17_1 + 1))) else (some false)) = some r := H;have A9 := Aside0.mk A90;clear A90;(by_cases c10 : t483 = true)
        ·subst c10;(have H1 : (slices_EqualFunc_int_int_int_int__impl_sameLists_1.l0 k1 l1 l0 (l0.length : Int) (wrap64 (x17_1 + 1))) = some r := by rw [if_pos rfl] at H; exact H);clear H;have H := H1;clear H1;have H' := Aside0.mk H;clear H;have p481 : 0 ≤ (x17_1 : Int) := oda;have q481 : x17_1 < (l0.length : Int) := oda;obtain ⟨ad481, A481_0, c481_0, e481, hx481_0, hl481_0, hi481_0⟩ := at_L1 HR0.out x17_1 p481 q481;cases e481;have HR481_0 := Aside0.mk hi481_0;have HC481_0 := Aside0.mk hl481_0;clear hi481_0 hl481_0;replace p481 := eq_true p481;replace q481 := eq_true q481;have p482 : 0 ≤ (x17_1 : Int) := oda;have q482 : x17_1 < (l1.length : Int) := oda;obtain ⟨ad482, A482_0, c482_0, e482, hx482_0, hl482_0, hi482_0⟩ := at_L1 HR1.out x17_1 p482 q482;cases e482;have HR482_0 := Aside0.mk hi482_0;have HC482_0 := Aside0.mk hl482_0;clear hi482_0 hl482_0;replace p482 := eq_true p482;replace q482 := eq_true q482;(go_wp2_with (first | ((first | (with_reducible refine gate_callee (f := 64) rfl ?_) | refine gate_calleev (f := 64) rfl (by rfl) ?_); (first | (refine goesL_ (some 29) rfl rfl Try.func64 (by kernel_rfl) rfl #[.slice A481_0 (rd_L1 l0 x17_1).length c481_0, .slice A482_0 (rd_L1 l1 x17_1).length c482_0] rfl itp ?_) | (refine goesvL_ (some 29) rfl rfl Try.func64 (by kernel_rfl) rfl #[.slice A481_0 (rd_L1 l0 x17_1).length c481_0, .slice A482_0 (rd_L1 l1 x17_1).length c482_0] rfl (by rfl) itpv ?_)); (with_reducible refine (impl_sameLists_1.calls k1 _ _ (rd_L1 l0 x17_1) _ _ (rd_L1 l1 x17_1) true _ ?side1 ?side2 ?side3 ?side4 A9.out).mono ?_); (case side1 => exact upC HR481_0.out); (case side2 => exact HC481_0.out); (case side3 => exact upC HR482_0.out); (case side4 => exact HC482_0.out); rintro e w' ⟨rfl, ⟨nd, rfl⟩⟩; refine ⟨_, rfl, ?_⟩)));go_roundg k1;(case measure => have := HK1.out; omega);(case rel => exact ⟨(wrap64 (x17_1 + 1)), (eqw), H', ⟨by have := HK1.out; omega⟩, dz⟩)
        ·replace c10 := Bool.eq_false_iff.mpr c10;subst c10;(have H1 : (some false) = some r := by rw [if_neg (show ¬ (false = true) by decide)] at H; exact H);clear H;have H := H1;clear H1;obtain rfl := Option.some.inj H;have p481 : 0 ≤ (x17_1 : Int) := oda;have q481 : x17_1 < (l0.length : Int) := oda;obtain ⟨ad481, A481_0, c481_0, e481, hx481_0, hl481_0, hi481_0⟩ := at_L1 HR0.out x17_1 p481 q481;cases e481;have HR481_0 := Aside0.mk hi481_0;have HC481_0 := Aside0.mk hl481_0;clear hi481_0 hl481_0;replace p481 := eq_true p481;replace q481 := eq_true q481;have p482 : 0 ≤ (x17_1 : Int) := oda;have q482 : x17_1 < (l1.length : Int) := oda;obtain ⟨ad482, A482_0, c482_0, e482, hx482_0, hl482_0, hi482_0⟩ := at_L1 HR1.out x17_1 p482 q482;cases e482;have HR482_0 := Aside0.mk hi482_0;have HC482_0 := Aside0.mk hl482_0;clear hi482_0 hl482_0;replace p482 := eq_true p482;replace q482 := eq_true q482;(go_wp2_with (first | ((first | (with_reducible refine gate_callee (f := 64) rfl ?_) | refine gate_calleev (f := 64) rfl (by rfl) ?_); (first | (refine goesL_ (some 29) rfl rfl Try.func64 (by kernel_rfl) rfl #[.slice A481_0 (rd_L1 l0 x17_1).length c481_0, .slice A482_0 (rd_L1 l1 x17_1).length c482_0] rfl itp ?_) | (refine goesvL_ (some 29) rfl rfl Try.func64 (by kernel_rfl) rfl #[.slice A481_0 (rd_L1 l0 x17_1).length c481_0, .slice A482_0 (rd_L1 l1 x17_1).length c482_0] rfl (by rfl) itpv ?_)); (with_reducible refine (impl_sameLists_1.calls k1 _ _ (rd_L1 l0 x17_1) _ _ (rd_L1 l1 x17_1) false _ ?side1 ?side2 ?side3 ?side4 A9.out).mono ?_); (case side1 => exact upC HR481_0.out); (case side2 => exact HC481_0.out); (case side3 => exact upC HR482_0.out); (case side4 => exact HC482_0.out); rintro e w' ⟨rfl, ⟨nd, rfl⟩⟩; refine ⟨_, rfl, ?_⟩)));go_ret;exact ⟨eqw, dz⟩
       ·rw [if_neg c8] at H;exact absurd H (by simp)
      ·rw [if_neg c7] at H;exact absurd H (by simp)
     ·rw [if_neg c6] at H;exact absurd H (by simp)
    ·rw [if_neg c5] at H;have c5b0 := decide_eq_false c5;clear c5;obtain rfl := Option.some.inj H;go_wp2;go_ret;exact ⟨eqw, dz⟩
 ·rw [if_neg c4] at H;have c4b0 : ((l0.length : Int) == (l1.length : Int)) = false := beq_eq_false_iff_ne.mpr c4;have c4b1 : ((l0.length : Int) != (l1.length : Int)) = true := bne_iff_ne.mpr c4;(have c4b2 : (l0.length == l1.length) = false := by first | simpa using c4 | (simp at c4 ⊢; omega));obtain rfl := Option.some.inj H;go_enter Try.func63, Try.ntmps63;go_wp2;go_ret;exact ⟨eqw, dz⟩

/-! ### impl_sameLists: function 45 -/
def impl_sameLists.f (k : Nat) (l0 : List (List Int)) (l1 : List (List Int)) : Option (Bool) := (slices_EqualFunc_int_int_int_int__impl_sameLists_1.f k l0 l1).bind fun t484 => (some t484)
set_option maxHeartbeats 8000000 in
set_option maxRecDepth 100000 in
theorem impl_sameLists.calls (k : Nat) (A0 : Option Addr) (c0 : Nat) (l0 : List (List Int)) (A1 : Option Addr) (c1 : Nat) (l1 : List (List Int)) (r : Bool) (w : World) (hr0 : Kd.C (Kd.slice 3 (Kd.int .i64)) w A0 l0.length l0) (hc0 : l0.length ≤ c0) (hr1 : Kd.C (Kd.slice 3 (Kd.int .i64)) w A1 l1.length l1) (hc1 : l1.length ≤ c1) (h : impl_sameLists.f k l0 l1 = some r) :
  Calls Try.prog 45 #[.slice A0 l0.length c0, .slice A1 l1.length c1] w fun e w' => e = .returned (.bool r) ∧ Below w.heap.size w w' := by
 have HR0 := Aside0.mk hr0;have HC0 := Aside0.mk hc0;clear hr0 hc0;have HR1 := Aside0.mk hr1;have HC1 := Aside0.mk hc1;clear hr1 hc1;have HB := Aside0.mk (Below.refl w.heap.size w);have H : ((slices_EqualFunc_int_int_int_int__impl_sameLists_1.f k l0 l1).bind fun t484 => (some t484)) = some r := h;clear h;replace H := Option.bind_eq_some_iff.mp H;obtain ⟨t484, A30, H⟩ := H;replace H : (some t484) = some r := H;have A3 := Aside0.mk A30;clear A30;obtain rfl := Option.some.inj H;go_enter Try.func45, Try.ntmps45;(go_wp2_with (first | ((with_reducible refine gate_callee (f := 63) rfl ?_); refine goesL_ (some 7) rfl rfl Try.func63 (by kernel_rfl) rfl #[.slice A0 l0.length c0, .slice A1 l1.length c1, .func (.func 64) #[] #[]] rfl itp ?_; (with_reducible refine (slices_EqualFunc_int_int_int_int__impl_sameLists_1.calls k _ _ l0 _ _ l1  t484 _ ?side1 ?side2 ?side3 ?side4 A3.out).mono ?_); (case side1 => exact upC HR0.out); (case side2 => exact HC0.out); (case side3 => exact upC HR1.out); (case side4 => exact HC1.out); rintro e w' ⟨rfl, ⟨nd, rfl⟩⟩; refine ⟨_, rfl, ?_⟩)));go_ret;exact ⟨eqv, upW HB⟩

/-! ### slices_IndexFunc_int_int__impl_CutOfCode_1: function 100010 -/
def slices_IndexFunc_int_int__impl_CutOfCode_1.l0 : Nat → List (List Int) → Int → Int → Option (Int)
 | 0, _, _, _ => none
 | k + 1, x0, x7, x8 => if x8 < x7 then (if 0 ≤ x8 then (if x8 < (x0.length : Int) then ((impl_CutOfCode_1.f (rd_L1 x0 x8)).bind fun t488 => (if t488 = true then (some x8) else (slices_IndexFunc_int_int__impl_CutOfCode_1.l0 k x0 x7 (wrap64 (x8 + 1))))) else (none)) else (none)) else (some (-1))
def slices_IndexFunc_int_int__impl_CutOfCode_1.f (k : Nat) (l0 : List (List Int))  : Option (Int) := slices_IndexFunc_int_int__impl_CutOfCode_1.l0 k l0 (l0.length : Int) 0
set_option maxHeartbeats 8000000 in
set_option maxRecDepth 100000 in
theorem slices_IndexFunc_int_int__impl_CutOfCode_1.calls (k : Nat) (A0 : Option Addr) (c0 : Nat) (l0 : List (List Int))  (r : Int) (w : World) (hr0 : Kd.C (Kd.slice 3 (Kd.int .i64)) w A0 l0.length l0) (hc0 : l0.length ≤ c0) (h : slices_IndexFunc_int_int__impl_CutOfCode_1.f k l0 = some r) :
  Calls Try.prog 54 #[.slice A0 l0.length c0, .func (.func 40) #[] #[]] w fun e w' => e = .returned (.int .i64 r) ∧ Below w.heap.size w w' := by
 have HR0 := Aside0.mk hr0;have HC0 := Aside0.mk hc0;clear hr0 hc0;have HB := Aside0.mk (Below.refl w.heap.size w);have H : (slices_IndexFunc_int_int__impl_CutOfCode_1.l0 k l0 (l0.length : Int) 0) = some r := h;clear h;have H' := Aside0.mk H;clear H;go_enter Try.func54, Try.ntmps54;go_wp2;(go_loopg [8] k (fun kq v8 w' => ∃ (x8_1 : Int), v8 = .int .i64 x8_1 ∧ Aside0 (slices_IndexFunc_int_int__impl_CutOfCode_1.l0 kq l0 (l0.length : Int) x8_1 = some r) ∧ Aside0 (kq ≤ k) ∧ Aside0 (Below w.heap.size w w')));(case atStart => exact ⟨(0), (eqw), H', ⟨Nat.le_refl _⟩, ⟨upW HB⟩⟩)
 case round =>
  clear H';obtain ⟨x8_1, rfl, HA, HK1, HB⟩ := hrel
  cases gk with
  | zero => exact absurd HA.out (by simp [slices_IndexFunc_int_int__impl_CutOfCode_1.l0])
  | succ k1 =>
   have H := HA.out;clear HA;simp only [slices_IndexFunc_int_int__impl_CutOfCode_1.l0] at H;(by_cases c3 : x8_1 < (l0.length : Int))
   ·rw [if_pos c3] at H;have c3b0 := decide_eq_true c3;clear c3;(by_cases c4 : 0 ≤ x8_1)
    ·rw [if_pos c4] at H;have c4b0 := decide_eq_true c4;clear c4;(by_cases c5 : x8_1 < (l0.length : Int))
     ·rw [if_pos c5] at H;have c5b0 := decide_eq_true c5;clear c5;replace H := Option.bind_eq_some_iff.mp H;obtain ⟨t488, A60, H⟩ := H;replace H : (if t488 = true then (some x8_1) else (slices_IndexFunc_int_int__impl_CutOfCode_1.l0 k1 l0 (l0.length : Int) (wrap64 (x8_1 + 1)))) = some r := H;have A6 := Aside0.mk A60;clear A60;(by_cases c7 : t488 = true)
      ·subst c7;(have H1 : (some x8_1) = some r := by rw [if_pos rfl] at H; exact H);clear H;have H := H1;clear H1;obtain rfl := Option.some.inj H;have p487 : 0 ≤ (x8_1 : Int) := oda;have q487 : x8_1 < (l0.length : Int) := oda;obtain ⟨ad487, A487_0, c487_0, e487, hx487_0, hl487_0, hi487_0⟩ := at_L1 HR0.out x8_1 p487 q487;cases e487;replace hx487_0 := cb HB hx487_0;have HR487_0 := Aside0.mk hi487_0;have HC487_0 := Aside0.mk hl487_0;clear hi487_0 hl487_0;replace p487 := eq_true p487;replace q487 := eq_true q487;(go_wp2_with (first | ((first | (with_reducible refine gate_callee (f := 40) rfl ?_) | refine gate_calleev (f := 40) rfl (by rfl) ?_); (first | (refine goesL_ (some 16) rfl rfl Try.func40 (by kernel_rfl) rfl #[.slice A487_0 (rd_L1 l0 x8_1).length c487_0] rfl itp ?_) | (refine goesvL_ (some 16) rfl rfl Try.func40 (by kernel_rfl) rfl #[.slice A487_0 (rd_L1 l0 x8_1).length c487_0] rfl (by rfl) itpv ?_)); (with_reducible refine (impl_CutOfCode_1.calls _ _ (rd_L1 l0 x8_1) true _ ?side1 ?side2 A6.out).mono ?_); (case side1 => exact upC (Kd.C_below HR487_0.out HB.out)); (case side2 => exact HC487_0.out); rintro e w8 ⟨rfl, hb⟩; refine ⟨_, rfl, ?_⟩; replace HB := Aside0.mk (below_step (upW HB) hb); (try clear hb))));go_ret;exact ⟨eqv, upW HB⟩
      ·replace c7 := Bool.eq_false_iff.mpr c7;subst c7;(have H1 : (slices_IndexFunc_int_int__impl_CutOfCode_1.l0 k1 l0 (l0.length : Int) (wrap64 (x8_1 + 1))) = some r := by rw [if_neg (show ¬ (false = true) by decide)] at H; exact H);clear H;have H := H1;clear H1;have H' := Aside0.mk H;clear H;have p487 : 0 ≤ (x8_1 : Int) := oda;have q487 : x8_1 < (l0.length : Int) := oda;obtain ⟨ad487, A487_0, c487_0, e487, hx487_0, hl487_0, hi487_0⟩ := at_L1 HR0.out x8_1 p487 q487;cases e487;replace hx487_0 := cb HB hx487_0;have HR487_0 := Aside0.mk hi487_0;have HC487_0 := Aside0.mk hl487_0;clear hi487_0 hl487_0;replace p487 := eq_true p487;replace q487 := eq_true q487;(go_wp2_with (first | ((first | (with_reducible refine gate_callee (f := 40) rfl ?_) | refine gate_calleev (f := 40) rfl (by rfl) ?_); (first | (refine goesL_ (some 16) rfl rfl Try.func40 (by kernel_rfl) rfl #[.slice A487_0 (rd_L1 l0 x8_1).length c487_0] rfl itp ?_) | (refine goesvL_ (some 16) rfl rfl Try.func40 (by kernel_rfl) rfl #[.slice A487_0 (rd_L1 l0 x8_1).length c487_0] rfl (by rfl) itpv ?_)); (with_reducible refine (impl_CutOfCode_1.calls _ _ (rd_L1 l0 x8_1) false _ ?side1 ?side2 A6.out).mono ?_); (case side1 => exact upC (Kd.C_below HR487_0.out HB.out)); (case side2 => exact HC487_0.out); rintro e w9 ⟨rfl, hb⟩; refine ⟨_, rfl, ?_⟩; replace HB := Aside0.mk (below_step (upW HB) hb); (try clear hb))));go_roundg k1;(case measure => have := HK1.out; omega);(case rel => exact ⟨(wrap64 (x8_1 + 1)), (eqw), H', ⟨by have := HK1.out; omega⟩, ⟨upW HB⟩⟩)
     ·rw [if_neg c5] at H;exact absurd H (by simp)
    ·rw [if_neg c4] at H;exact absurd H (by simp)
   ·rw [if_neg c3] at H;have c3b0 := decide_eq_false c3;clear c3;obtain rfl := Option.some.inj H;go_wp2;go_ret;exact ⟨eqv, upW HB⟩

/-! ### slices_ContainsFunc_int_int__impl_CutOfCode_1: function 100009 -/
def slices_ContainsFunc_int_int__impl_CutOfCode_1.f (k : Nat) (l0 : List (List Int))  : Option (Bool) := (slices_IndexFunc_int_int__impl_CutOfCode_1.f k l0).bind fun t489 => (some (decide (t489 ≥ 0)))
set_option maxHeartbeats 8000000 in
set_option maxRecDepth 100000 in
theorem slices_ContainsFunc_int_int__impl_CutOfCode_1.calls (k : Nat) (A0 : Option Addr) (c0 : Nat) (l0 : List (List Int))  (r : Bool) (w : World) (hr0 : Kd.C (Kd.slice 3 (Kd.int .i64)) w A0 l0.length l0) (hc0 : l0.length ≤ c0) (h : slices_ContainsFunc_int_int__impl_CutOfCode_1.f k l0 = some r) :
  Calls Try.prog 39 #[.slice A0 l0.length c0, .func (.func 40) #[] #[]] w fun e w' => e = .returned (.bool r) ∧ Below w.heap.size w w' := by
 have HR0 := Aside0.mk hr0;have HC0 := Aside0.mk hc0;clear hr0 hc0;have HB := Aside0.mk (Below.refl w.heap.size w);have H : ((slices_IndexFunc_int_int__impl_CutOfCode_1.f k l0).bind fun t489 => (some (decide (t489 ≥ 0)))) = some r := h;clear h;replace H := Option.bind_eq_some_iff.mp H;obtain ⟨t489, A30, H⟩ := H;replace H : (some (decide (t489 ≥ 0))) = some r := H;have A3 := Aside0.mk A30;clear A30;obtain rfl := Option.some.inj H;go_enter Try.func39, Try.ntmps39;(go_wp2_with (first | ((first | (with_reducible refine gate_callee (f := 54) rfl ?_) | refine gate_calleev (f := 54) rfl (by rfl) ?_); (first | (refine goesL_ (some 7) rfl rfl Try.func54 (by kernel_rfl) rfl #[.slice A0 l0.length c0, .func (.func 40) #[] #[]] rfl itp ?_) | (refine goesvL_ (some 7) rfl rfl Try.func54 (by kernel_rfl) rfl #[.slice A0 l0.length c0, .func (.func 40) #[] #[]] rfl (by rfl) itpv ?_)); (with_reducible refine (slices_IndexFunc_int_int__impl_CutOfCode_1.calls k _ _ l0  t489 _ ?side1 ?side2 A3.out).mono ?_); (case side1 => exact upC HR0.out); (case side2 => exact HC0.out); rintro e w4 ⟨rfl, hb⟩; refine ⟨_, rfl, ?_⟩; replace HB := Aside0.mk (below_step (upW HB) hb); (try clear hb))));go_ret;exact ⟨eqv, upW HB⟩

end Go.Proofs.Ytpoikgjhdlipdaa.PFnExactTurnCode
