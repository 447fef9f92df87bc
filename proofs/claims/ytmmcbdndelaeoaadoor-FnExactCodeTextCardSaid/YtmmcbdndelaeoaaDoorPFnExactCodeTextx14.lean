-- made for this claim by a program of this session
import Derived.Test.YtmmcbdndelaeoaaDoorPFnExactCodeTextx0
namespace Go.Proofs.YtmmcbdndelaeoaaDoor.PFnExactCodeText
open Go.RowKit Go.Proofs.YtmmcbdndelaeoaaDoorW.PrintWords Go.Proofs.YtmmcbdndelaeoaaDoorW.PrintLast Go.Proofs.YtmmcbdndelaeoaaDoorW.PrintMore
attribute [local go_sem] max2_int min2_int max_two min_two max_three min_three max_four min_four   -- for this text's walks alone
set_option linter.unusedVariables false
set_option linter.unusedSimpArgs false

/-! ### slices_Grow_int_int: function 124 -/
def slices_Grow_int_int_lay_ren : Go.Shelf.Ren := ⟨fun | 4 => 124 | n => n, fun | 22 => 74 | 25 => 3 | 3 => 3 | 4 => 4 | 9 => 9 | 20 => 20 | 0 => 0 | n => n, fun | n => n⟩
theorem slices_Grow_int_int_lay : Go.Proofs.Lays8.n4 Tryd.prog slices_Grow_int_int_lay_ren where
 mixed := by kernel_rfl
 f4 := ⟨Tryd.f124.name, by decide, Tryd.func124.trans (congrArg some (by kernel_rfl))⟩
 t0 := Tryd.underlying0
 a0 := Tryd.isAgg0
 z0 := Tryd.sizeOf0
 v0 := Tryd.zeroValue0
 t3 := Tryd.underlying3
 a3 := Tryd.isAgg3
 z3 := Tryd.sizeOf3
 v3 := Tryd.zeroValue3
 t4 := Tryd.underlying4
 a4 := Tryd.isAgg4
 z4 := Tryd.sizeOf4
 v4 := Tryd.zeroValue4
 t9 := Tryd.underlying9
 a9 := Tryd.isAgg9
 z9 := Tryd.sizeOf9
 v9 := Tryd.zeroValue9
 t20 := Tryd.underlying20
 a20 := Tryd.isAgg20
 z20 := Tryd.sizeOf20
 v20 := Tryd.zeroValue20
 t22 := Tryd.underlying74
 a22 := Tryd.isAgg74
 z22 := Tryd.sizeOf74
 v22 := Tryd.zeroValue74
def slices_Grow_int_int.f (l : List Int) (a1 : Int) : Option (List Int) := if l = [] ∧ 0 ≤ a1 ∧ a1 ≤ 1000000000000 then some [] else none
set_option maxHeartbeats 8000000 in
set_option maxRecDepth 100000 in
theorem slices_Grow_int_int.calls (P0_ : Nat → Prop) (u9000_ : Value) (l0 : List Int) (a1 : Int) (r : List Int) (w0 w : World) (hB : Below w0.heap.size w0 w) (ho0 : Kd.R (Kd.int .i64) 3 w w0.heap.size P0_ u9000_ l0) (h : slices_Grow_int_int.f l0 a1 = some r) :
  Calls Tryd.prog 124 #[u9000_, .int .i64 a1] w fun e w' => ∃ v0_ : Value, e = .returned v0_ ∧ Kd.R (Kd.int .i64) 3 w' w0.heap.size (fun k_ => (P0_ k_ ∨ w.heap.size ≤ k_)) v0_ r ∧ Below w0.heap.size w0 w' ∧ Kept w w' (fun k_ => P0_ k_) := by
 unfold slices_Grow_int_int.f at h;(split at h);(case isFalse => cases h);(rename_i hg);obtain ⟨rfl, g1, g2⟩ := hg;have hr : r = [] := (Option.some.inj h).symm;subst hr;clear h;obtain ⟨n, rfl⟩ := Int.eq_ofNat_of_zero_le g1;(have hmax : maxLen ≤ 9223372036854775807 := by decide);have ho1 : Kd.R (Kd.int .i64) 3 w w0.heap.size (fun k_ => (P0_ k_ ∨ w.heap.size ≤ k_)) u9000_ [] := Kd.R_mono ho0 (fun _ hk => .inl hk)
 have made : ∀ (c : Nat) (cs : Array Value), c ≤ maxLen → cs.size = c → Kd.R (Kd.int .i64) 3 (w.drew.alloc (.cells cs 3)) w0.heap.size (fun k_ => (P0_ k_ ∨ w.heap.size ≤ k_)) (.slice (some ⟨w.heap.size, 0, none⟩) 0 c) [] := fun c cs hc hs =>
  Kd.R_of_own (World.ownsRow_made (size := 1) w.drew cs c hB.size hc (by omega)) (fun k hk => by
   (have e : w.heap.size = k := by simpa [Value.ownBlock] using hk)
   exact .inr (Nat.le_of_eq e))
 obtain ⟨i0, hi0, hx⟩ := Option.map_eq_some_iff.1 info3;have hz0 : i0.zero = some (.int .i64 0) := congrArg (fun q => q.1) hx;have hs0 : i0.size = 1 := congrArg (fun q => q.2.1) hx;have hb0 : i0.bytes = 8 := congrArg (fun q => q.2.2) hx;clear hx;(have e1 : (Value.int .i64 0).cells.size = 1 := by decide);obtain ⟨hok, inner, ho, hreps⟩ := ho0;(rcases ho.2 with ⟨rfl, _⟩ | ⟨g, cap, cur, rfl, hb, hh, hnc, hcm, hcs, ht⟩)
 ·(by_cases hn : n = 0)
  ·subst hn;refine (Any8.slices_Grow_room slices_Grow_int_int_lay none 0 0 0 w (by omega) (by omega) (by omega) (by omega)).mono ?_;rintro e w' ⟨rfl, rfl⟩;exact ⟨_, rfl, ho1, hB, Kept.refl _ _⟩
  ·(have hbig : (0 + n) * i0.bytes ≤ 140737488355328 := by rw [hb0]; omega);refine (Any8.slices_Grow_grow slices_Grow_int_int_lay i0 (.int .i64 0) hi0 hz0 (by omega) none 0 0 n [] w (by omega) (by omega) hbig (by omega) (by simp) (fun _ => rfl) (fun a ha => by cases ha)).mono ?_;rintro e w' ⟨rfl, rfl⟩;have hc := grownCap_le_maxLen w (0 + n) 0 (slices_Grow_int_int_lay_ren.t 25) (by unfold maxLen; omega);have hge := grownCap_ge w (0 + n) 0 (slices_Grow_int_int_lay_ren.t 25);refine ⟨_, rfl, made _ _ hc ?_, (hB.drew).alloc hB.size _, Kept.alloc (Kept.drew (Kept.refl w _)) _⟩;simp only [Builtin.zeroCells, Array.size_append, Array.size_map, Array.size_range, e1, List.size_toArray, List.length_nil];omega
 ·have hP : P0_ g := hok g rfl;have h1 : (Kd.int .i64).sz = 1 := rfl;rw [h1, Nat.mul_one] at hcs;(by_cases hn : n ≤ cap)
  ·refine (Any8.slices_Grow_room slices_Grow_int_int_lay (some ⟨g, 0, none⟩) 0 cap n w (by omega) (by omega) (by omega) (by omega)).mono ?_;rintro e w' ⟨rfl, rfl⟩;exact ⟨_, rfl, ho1, hB, Kept.refl _ _⟩
  ·(have hbig : (0 + n) * i0.bytes ≤ 140737488355328 := by rw [hb0]; omega);(have hcl : cur.toList.length = cap * i0.size := by rw [hs0, Array.length_toList]; omega)
   refine (Any8.slices_Grow_grow slices_Grow_int_int_lay i0 (.int .i64 0) hi0 hz0 (by omega) (some ⟨g, 0, none⟩) 0 cap n cur.toList w (by omega) (by omega) hbig (by omega) hcl (fun h => by cases h) (fun a ha j v hv => by
     (injection ha with ha);subst ha;rw [add_plain]
     exact (blk_cell hh j).trans (by simpa using hv))).mono ?_
   rintro e w' ⟨rfl, rfl⟩;have hc := grownCap_le_maxLen w (0 + n) cap (slices_Grow_int_int_lay_ren.t 25) (by unfold maxLen; omega);have hge := grownCap_ge w (0 + n) cap (slices_Grow_int_int_lay_ren.t 25);refine ⟨_, rfl, made _ _ hc ?_, (hB.drew).alloc hB.size _, Kept.alloc (Kept.drew (Kept.refl w _)) _⟩;simp only [Builtin.zeroCells, Array.size_append, Array.size_map, Array.size_range, e1, Array.length_toList, List.size_toArray];omega

/-! ### slices_Concat_int_int: function 106 -/
mutual
def slices_Concat_int_int.l0 : Nat → List (List Int) → Int → List (List Int) → Int → Int → Option (List Int)
 | 0, _, _, _, _, _ => none
 | k + 1, x0, x3, x9, x10, x11 => if x11 < x10 then (if 0 ≤ x11 then (if x11 < (x9.length : Int) then (if (wrap64 (x3 + ((rd_L1 x9 x11).length : Int))) < 0 then (none) else (slices_Concat_int_int.l0 k x0 (wrap64 (x3 + ((rd_L1 x9 x11).length : Int))) x9 x10 (wrap64 (x11 + 1)))) else (none)) else (none)) else ((slices_Grow_int_int.f ([] : List Int) x3).bind fun t374 => (slices_Concat_int_int.l1 k t374 x0 (x0.length : Int) 0))
def slices_Concat_int_int.l1 : Nat → List Int → List (List Int) → Int → Int → Option (List Int)
 | 0, _, _, _, _ => none
 | k + 1, x6, x25, x26, x27 => if x27 < x26 then (if 0 ≤ x27 then (if x27 < (x25.length : Int) then (if x6.length + (rd_L1 x25 x27).length < 17592186044416 then (slices_Concat_int_int.l1 k (x6 ++ (rd_L1 x25 x27)) x25 x26 (wrap64 (x27 + 1))) else (none)) else (none)) else (none)) else (some x6)
end
def slices_Concat_int_int.f (k : Nat) (l0 : List (List Int)) : Option (List Int) := slices_Concat_int_int.l0 k l0 0 l0 (l0.length : Int) 0
set_option maxHeartbeats 8000000 in
set_option maxRecDepth 100000 in
theorem slices_Concat_int_int.calls (k : Nat) (A0 : Option Addr) (c0 : Nat) (l0 : List (List Int)) (r : List Int) (w : World) (hr0 : Kd.C (Kd.slice 3 (Kd.int .i64)) w A0 l0.length l0) (hc0 : l0.length ≤ c0) (h : slices_Concat_int_int.f k l0 = some r) :
  Calls Tryd.prog 106 #[.slice A0 l0.length c0] w fun e w' => ∃ v0_ : Value, e = .returned (v0_) ∧ Kd.R (Kd.int .i64) 3 w' w.heap.size (fun _ => True) v0_ r ∧ Below w.heap.size w w' := by
 have HR0 := Aside0.mk hr0;have HC0 := Aside0.mk hc0;clear hr0 hc0;have HB := Aside0.mk (Below.refl w.heap.size w);have H : (slices_Concat_int_int.l0 k l0 0 l0 (l0.length : Int) 0) = some r := h;clear h;have H' := Aside0.mk H;clear H;go_enter Tryd.func106, Tryd.ntmps106;go_wp2;(go_loopg [3, 11] k (fun kq v3 v11 w' => ∃ (x3_1 : Int) (x11_1 : Int), v3 = .int .i64 x3_1 ∧ v11 = .int .i64 x11_1 ∧ Aside0 (slices_Concat_int_int.l0 kq l0 x3_1 l0 (l0.length : Int) x11_1 = some r) ∧ Aside0 (kq ≤ k) ∧ Aside0 (Below w.heap.size w w')));(case atStart => exact ⟨(0), (0), (eqw), (eqw), H', ⟨Nat.le_refl _⟩, ⟨upW HB⟩⟩)
 case round =>
  clear H';obtain ⟨x3_1, x11_1, rfl, rfl, HA, HK1, HB⟩ := hrel
  cases gk with
  | zero => exact absurd HA.out (by simp [slices_Concat_int_int.l0])
  | succ k1 =>
   have H := HA.out;clear HA;simp only [slices_Concat_int_int.l0] at H;(by_cases c2 : x11_1 < (l0.length : Int))
   ·rw [if_pos c2] at H;have c2b0 := decide_eq_true c2;clear c2;(by_cases c3 : 0 ≤ x11_1)
    ·rw [if_pos c3] at H;have c3b0 := decide_eq_true c3;clear c3;(by_cases c4 : x11_1 < (l0.length : Int))
     ·rw [if_pos c4] at H;have c4b0 := decide_eq_true c4;clear c4;(by_cases c5 : (wrap64 (x3_1 + ((rd_L1 l0 x11_1).length : Int))) < 0)
      ·rw [if_pos c5] at H;exact absurd H (by simp)
      ·rw [if_neg c5] at H;have c5b0 : decide ((wrap64 (x3_1 + ((rd_L1 l0 x11_1).length : Int))) < 0) = false := decide_eq_false c5;clear c5;have H' := Aside0.mk H;clear H;have p373 : 0 ≤ (x11_1 : Int) := oda;have q373 : x11_1 < (l0.length : Int) := oda;obtain ⟨ad373, A373_0, c373_0, e373, hx373_0, hl373_0, hi373_0⟩ := at_L1 HR0.out x11_1 p373 q373;cases e373;replace hx373_0 := cb HB hx373_0;have HR373_0 := Aside0.mk hi373_0;have HC373_0 := Aside0.mk hl373_0;clear hi373_0 hl373_0;replace p373 := eq_true p373;replace q373 := eq_true q373;go_wp2;go_roundg k1;(case measure => have := HK1.out; omega);(case rel => exact ⟨(wrap64 (x3_1 + ((rd_L1 l0 x11_1).length : Int))), (wrap64 (x11_1 + 1)), (eqw), (eqw), H', ⟨by have := HK1.out; omega⟩, ⟨upW HB⟩⟩)
     ·rw [if_neg c4] at H;exact absurd H (by simp)
    ·rw [if_neg c3] at H;exact absurd H (by simp)
   ·rw [if_neg c2] at H;have c2b0 := decide_eq_false c2;clear c2;replace H := Option.bind_eq_some_iff.mp H;obtain ⟨t374, A60, H⟩ := H;replace H : (slices_Concat_int_int.l1 k1 t374 l0 (l0.length : Int) 0) = some r := H;have A6 := Aside0.mk A60;clear A60;have H' := Aside0.mk H;clear H;(go_wp2_with (first | ((with_reducible refine gate_callee (f := 124) rfl ?_); refine goesL_ (some 24) rfl rfl Tryd.func124 (by kernel_rfl) rfl #[.slice none 0 0, .int .i64 x3_1] rfl itp ?_; (refine (slices_Grow_int_int.calls (fun k_ => some k_ = (.slice none 0 0 : Value).ownBlock) (.slice none 0 0) ([] : List Int) x3_1 t374 w _ ?side1 ?side2 A6.out).mono ?_); (case side1 => exact upW HB); (case side2 => exact Kd.R_nil _ _ _ _ _); rintro e w7 ⟨v375, rfl, ho0, hb, hkp⟩; refine ⟨_, rfl, ?_⟩; have HO376 := Aside0.mk (Kd.R_mono (ok' := fun k_ => True) ho0 (fun k_ hk_ => trivial));replace HB := Aside0.mk (hb); (try clear hb hkp ho0))));(try simp only [Act.put, List.setIfInBounds_toArray, List.set_cons_succ, List.set_cons_zero]);(go_loopg [6, 27] k1 (fun kq v6 v27 w' => ∃ (x6_2 : List Int) (x27_2 : Int), v27 = .int .i64 x27_2 ∧ Aside0 (slices_Concat_int_int.l1 kq x6_2 l0 (l0.length : Int) x27_2 = some r) ∧ Aside0 (kq ≤ k1) ∧ Aside0 (Kd.R (Kd.int .i64) 3 w' w.heap.size (fun _ => True) v6 x6_2) ∧ Aside0 (Below w.heap.size w w')));(case atStart => exact ⟨(t374), (0), (eqw), H', ⟨Nat.le_refl _⟩, ⟨upR HO376⟩, ⟨upW HB⟩⟩)
    case round =>
     clear H';(try clear c2b0);obtain ⟨x6_2, x27_2, rfl, HA, HK2, HO_6, HB⟩ := hrel
     cases gk with
     | zero => exact absurd HA.out (by simp [slices_Concat_int_int.l1])
     | succ k2 =>
      have H := HA.out;clear HA;simp only [slices_Concat_int_int.l1] at H;(by_cases c8 : x27_2 < (l0.length : Int))
      ·rw [if_pos c8] at H;have c8b0 := decide_eq_true c8;clear c8;(by_cases c9 : 0 ≤ x27_2)
       ·rw [if_pos c9] at H;have c9b0 := decide_eq_true c9;clear c9;(by_cases c10 : x27_2 < (l0.length : Int))
        ·rw [if_pos c10] at H;have c10b0 := decide_eq_true c10;clear c10;(by_cases c11 : x6_2.length + (rd_L1 l0 x27_2).length < 17592186044416)
         ·rw [if_pos c11] at H;have LMc11 := Aside0.mk c11;clear c11;obtain ⟨y378, hy378⟩ : ∃ y_ : List Int, y_ = (x6_2 ++ (rd_L1 l0 x27_2)) := ⟨_, rfl⟩;(replace H : (slices_Concat_int_int.l1 k2 y378 l0 (l0.length : Int) (wrap64 (x27_2 + 1))) = some r := rwH hy378 H);have Ny378 := Aside0.mk hy378;clear hy378;have H' := Aside0.mk H;clear H;have p377 : 0 ≤ (x27_2 : Int) := oda;have q377 : x27_2 < (l0.length : Int) := oda;obtain ⟨ad377, A377_0, c377_0, e377, hx377_0, hl377_0, hi377_0⟩ := at_L1 HR0.out x27_2 p377 q377;cases e377;replace hx377_0 := cb HB hx377_0;have HR377_0 := Aside0.mk hi377_0;have HC377_0 := Aside0.mk hl377_0;clear hi377_0 hl377_0;replace p377 := eq_true p377;replace q377 := eq_true q377;(go_wp2_with (first | ((with_reducible refine gate_builtin (b := .append) (xs := #[.tmp 31, .tmp 32]) rfl ?_); at_builtin; refine Kd.R_append_rows (Kd.int .i64) (w0 := w) w.heap.size rfl (.tmp 31) (.tmp 32) 74 3 (.int .i64 0) 8 rfl Tryd.underlying74 info3 rfl (by decide) (by omega) u6 x6_2 (rd_L1 l0 x27_2) _ _ _ (fun _ => True) (fun _ => False) rfl rfl ?aO ?aR (fun _ _ h => h) (fun _ h => h.elim) ?aF ?aB ?aS ?aL ?_; (case aR => repeat (first | exact (Kd.C_below HR377_0.out HB.out) | (with_reducible refine Kd.C_alloc ?_ _) | (with_reducible refine Kd.C_drewN ?_ _) | (with_reducible refine Kd.C_drew ?_))); (case aB => exact (upW HB)); (case aF => exact (fun _ _ => trivial)); (case aO => exact (upR HO_6)); (case aS => exact (below_size (upW HB))); (case aL => have := LMc11.out; omega); intro v379 w12 ho hb hg hat; rw [← Ny378.out] at ho; have n0_ := Aside0.mk (hb); have n1_ := Aside0.mk (ho); clear HB; clear HO_6; have HB := n0_; have HO380 := n1_; clear n0_ n1_; clear ho hb hg hat)));go_roundg k2;(case measure => have := HK1.out; have := HK2.out; omega);(case rel => exact ⟨(y378), (wrap64 (x27_2 + 1)), (eqw), H', ⟨by have := HK1.out; have := HK2.out; omega⟩, ⟨upR HO380⟩, ⟨upW HB⟩⟩)
         ·rw [if_neg c11] at H;exact absurd H (by simp)
        ·rw [if_neg c10] at H;exact absurd H (by simp)
       ·rw [if_neg c9] at H;exact absurd H (by simp)
      ·rw [if_neg c8] at H;have c8b0 := decide_eq_false c8;clear c8;obtain rfl := Option.some.inj H;go_wp2;go_ret;exact ⟨_, eqv, by (with_reducible repeat (first | apply Kd.R_alloc | apply Kd.R_drewN | apply Kd.R_drew)); exact HO_6.out, upW HB⟩

-- left to its pairs: function 125 (slices_EqualFunc_int_int_int_int)

/-! ### slices_Equal_int_int: function 127 -/
def slices_Equal_int_int.l0 : Nat → List Int → List Int → Int → Int → Option (Bool)
 | 0, _, _, _, _ => none
 | k + 1, x0, x1, x12, x13 => if x13 < x12 then (if 0 ≤ x13 then (if x13 < (x0.length : Int) then (if x13 < (x1.length : Int) then (if (rd x0 x13) = (rd x1 x13) then (slices_Equal_int_int.l0 k x0 x1 x12 (wrap64 (x13 + 1))) else (some false)) else (none)) else (none)) else (none)) else (some true)
def slices_Equal_int_int.f (k : Nat) (l0 : List Int) (l1 : List Int) : Option (Bool) := if (l0.length : Int) = (l1.length : Int) then (slices_Equal_int_int.l0 k l0 l1 (l0.length : Int) 0) else (some false)
set_option maxHeartbeats 8000000 in
set_option maxRecDepth 100000 in
theorem slices_Equal_int_int.calls (k : Nat) (A0 : Option Addr) (c0 : Nat) (l0 : List Int) (A1 : Option Addr) (c1 : Nat) (l1 : List Int) (r : Bool) (w : World) (hr0 : Kd.C (Kd.int .i64) w A0 l0.length l0) (hc0 : l0.length ≤ c0) (hr1 : Kd.C (Kd.int .i64) w A1 l1.length l1) (hc1 : l1.length ≤ c1) (h : slices_Equal_int_int.f k l0 l1 = some r) :
  Calls Tryd.prog 127 #[.slice A0 l0.length c0, .slice A1 l1.length c1] w fun e w' => e = .returned (.bool r) ∧ Drawn0 w w' := by
 have HR0 := Aside0.mk hr0;have HC0 := Aside0.mk hc0;clear hr0 hc0;have HR1 := Aside0.mk hr1;have HC1 := Aside0.mk hc1;clear hr1 hc1;have H : (if (l0.length : Int) = (l1.length : Int) then (slices_Equal_int_int.l0 k l0 l1 (l0.length : Int) 0) else (some false)) = some r := h;clear h;(by_cases c3 : (l0.length : Int) = (l1.length : Int))
 ·rw [if_pos c3] at H;have c3b0 : ((l0.length : Int) == (l1.length : Int)) = true := beq_iff_eq.mpr c3;have c3b1 : ((l0.length : Int) != (l1.length : Int)) = false := bne_eq_false_iff_eq.mpr c3;(have c3b2 : (l0.length == l1.length) = true := by first | simpa using c3 | (simp at c3 ⊢; omega));clear c3;have H' := Aside0.mk H;clear H;go_enter Tryd.func127, Tryd.ntmps127;go_wp2;(repeat (go_quiet (fail); try go_wp2));(go_loopg [13] k (fun kq v13 w' => ∃ (x13_1 : Int), v13 = .int .i64 x13_1 ∧ Aside0 (slices_Equal_int_int.l0 kq l0 l1 (l0.length : Int) x13_1 = some r) ∧ Aside0 (kq ≤ k) ∧ Drawn0 w w'));(case atStart => exact ⟨(0), (eqw), H', ⟨Nat.le_refl _⟩, dz⟩)
  case round =>
   clear H';(try clear c3b0 c3b1 c3b2);obtain ⟨x13_1, rfl, HA, HK1, ⟨m1, rfl⟩⟩ := hrel
   cases gk with
   | zero => exact absurd HA.out (by simp [slices_Equal_int_int.l0])
   | succ k1 =>
    have H := HA.out;clear HA;simp only [slices_Equal_int_int.l0] at H;(by_cases c4 : x13_1 < (l0.length : Int))
    ·rw [if_pos c4] at H;have c4b0 := decide_eq_true c4;clear c4;(by_cases c5 : 0 ≤ x13_1)
     ·rw [if_pos c5] at H;have c5b0 := decide_eq_true c5;clear c5;(by_cases c6 : x13_1 < (l0.length : Int))
      ·rw [if_pos c6] at H;have c6b0 := decide_eq_true c6;clear c6;(by_cases c7 : x13_1 < (l1.length : Int))
       ·rw [if_pos c7] at H;have c7b0 := decide_eq_true c7;clear c7;(by_cases c8 : (rd l0 x13_1) = (rd l1 x13_1))
        ·rw [if_pos c8] at H;have c8b0 : ((rd l0 x13_1) == (rd l1 x13_1)) = true := beq_iff_eq.mpr c8;have c8b1 : ((rd l0 x13_1) != (rd l1 x13_1)) = false := bne_eq_false_iff_eq.mpr c8;clear c8;have H' := Aside0.mk H;clear H;have p381 : 0 ≤ (x13_1 : Int) := oda;have q381 : x13_1 < (l0.length : Int) := oda;obtain ⟨ad381, e381, hx381_0⟩ := Kd.at_int HR0.out x13_1 p381 q381;cases e381;replace p381 := eq_true p381;replace q381 := eq_true q381;have p382 : 0 ≤ (x13_1 : Int) := oda;have q382 : x13_1 < (l1.length : Int) := oda;obtain ⟨ad382, e382, hx382_0⟩ := Kd.at_int HR1.out x13_1 p382 q382;cases e382;replace p382 := eq_true p382;replace q382 := eq_true q382;go_wp2;(repeat (go_quiet (fail); try go_wp2));go_roundg k1;(case measure => have := HK1.out; omega);(case rel => exact ⟨(wrap64 (x13_1 + 1)), (eqw), H', ⟨by have := HK1.out; omega⟩, dz⟩)
        ·rw [if_neg c8] at H;have c8b0 : ((rd l0 x13_1) == (rd l1 x13_1)) = false := beq_eq_false_iff_ne.mpr c8;have c8b1 : ((rd l0 x13_1) != (rd l1 x13_1)) = true := bne_iff_ne.mpr c8;obtain rfl := Option.some.inj H;have p381 : 0 ≤ (x13_1 : Int) := oda;have q381 : x13_1 < (l0.length : Int) := oda;obtain ⟨ad381, e381, hx381_0⟩ := Kd.at_int HR0.out x13_1 p381 q381;cases e381;replace p381 := eq_true p381;replace q381 := eq_true q381;have p382 : 0 ≤ (x13_1 : Int) := oda;have q382 : x13_1 < (l1.length : Int) := oda;obtain ⟨ad382, e382, hx382_0⟩ := Kd.at_int HR1.out x13_1 p382 q382;cases e382;replace p382 := eq_true p382;replace q382 := eq_true q382;go_wp2;(repeat (go_quiet (fail); try go_wp2));go_ret;exact ⟨eqw, dz⟩
       ·rw [if_neg c7] at H;exact absurd H (by simp)
      ·rw [if_neg c6] at H;exact absurd H (by simp)
     ·rw [if_neg c5] at H;exact absurd H (by simp)
    ·rw [if_neg c4] at H;have c4b0 := decide_eq_false c4;clear c4;obtain rfl := Option.some.inj H;go_wp2;(repeat (go_quiet (fail); try go_wp2));go_ret;exact ⟨eqw, dz⟩
 ·rw [if_neg c3] at H;have c3b0 : ((l0.length : Int) == (l1.length : Int)) = false := beq_eq_false_iff_ne.mpr c3;have c3b1 : ((l0.length : Int) != (l1.length : Int)) = true := bne_iff_ne.mpr c3;(have c3b2 : (l0.length == l1.length) = false := by first | simpa using c3 | (simp at c3 ⊢; omega));obtain rfl := Option.some.inj H;go_enter Tryd.func127, Tryd.ntmps127;go_wp2;(repeat (go_quiet (fail); try go_wp2));go_ret;exact ⟨eqw, dz⟩

/-! ### impl_sameLists_1: function 126 -/
def impl_sameLists_1.f (k : Nat) (l0 : List Int) (l1 : List Int) : Option (Bool) := (slices_Equal_int_int.f k l0 l1).bind fun t383 => (some t383)
set_option maxHeartbeats 8000000 in
set_option maxRecDepth 100000 in
theorem impl_sameLists_1.calls (k : Nat) (A0 : Option Addr) (c0 : Nat) (l0 : List Int) (A1 : Option Addr) (c1 : Nat) (l1 : List Int) (r : Bool) (w : World) (hr0 : Kd.C (Kd.int .i64) w A0 l0.length l0) (hc0 : l0.length ≤ c0) (hr1 : Kd.C (Kd.int .i64) w A1 l1.length l1) (hc1 : l1.length ≤ c1) (h : impl_sameLists_1.f k l0 l1 = some r) :
  Calls Tryd.prog 126 #[.slice A0 l0.length c0, .slice A1 l1.length c1] w fun e w' => e = .returned (.bool r) ∧ Drawn0 w w' := by
 have HR0 := Aside0.mk hr0;have HC0 := Aside0.mk hc0;clear hr0 hc0;have HR1 := Aside0.mk hr1;have HC1 := Aside0.mk hc1;clear hr1 hc1;have H : ((slices_Equal_int_int.f k l0 l1).bind fun t383 => (some t383)) = some r := h;clear h;replace H := Option.bind_eq_some_iff.mp H;obtain ⟨t383, A30, H⟩ := H;replace H : (some t383) = some r := H;have A3 := Aside0.mk A30;clear A30;obtain rfl := Option.some.inj H;go_enter Tryd.func126, Tryd.ntmps126;(go_wp2_with (first | ((with_reducible refine gate_callee (f := 127) rfl ?_); refine goesL_ (some 7) rfl rfl Tryd.func127 (by kernel_rfl) rfl #[.slice A0 l0.length c0, .slice A1 l1.length c1] rfl itp ?_; (with_reducible refine (slices_Equal_int_int.calls k _ _ l0 _ _ l1 t383 _ ?side1 ?side2 ?side3 ?side4 A3.out).mono ?_); (case side1 => exact upC HR0.out); (case side2 => exact HC0.out); (case side3 => exact upC HR1.out); (case side4 => exact HC1.out); rintro e w' ⟨rfl, ⟨nd, rfl⟩⟩; refine ⟨_, rfl, ?_⟩)));go_ret;exact ⟨eqw, dz⟩

/-! ### slices_EqualFunc_int_int_int_int__impl_sameLists_1: function 100008 -/
def slices_EqualFunc_int_int_int_int__impl_sameLists_1.l0 : Nat → List (List Int) → List (List Int) → Int → Int → Option (Bool)
 | 0, _, _, _, _ => none
 | k + 1, x1, x15, x16, x17 => if x17 < x16 then (if 0 ≤ x17 then (if x17 < (x15.length : Int) then (if x17 < (x1.length : Int) then ((impl_sameLists_1.f k (rd_L1 x15 x17) (rd_L1 x1 x17)).bind fun t386 => (if t386 = true then (slices_EqualFunc_int_int_int_int__impl_sameLists_1.l0 k x1 x15 x16 (wrap64 (x17 + 1))) else (some false))) else (none)) else (none)) else (none)) else (some true)
def slices_EqualFunc_int_int_int_int__impl_sameLists_1.f (k : Nat) (l0 : List (List Int)) (l1 : List (List Int))  : Option (Bool) := if (l0.length : Int) = (l1.length : Int) then (slices_EqualFunc_int_int_int_int__impl_sameLists_1.l0 k l1 l0 (l0.length : Int) 0) else (some false)
set_option maxHeartbeats 8000000 in
set_option maxRecDepth 100000 in
theorem slices_EqualFunc_int_int_int_int__impl_sameLists_1.calls (k : Nat) (A0 : Option Addr) (c0 : Nat) (l0 : List (List Int)) (A1 : Option Addr) (c1 : Nat) (l1 : List (List Int))  (r : Bool) (w : World) (hr0 : Kd.C (Kd.slice 3 (Kd.int .i64)) w A0 l0.length l0) (hc0 : l0.length ≤ c0) (hr1 : Kd.C (Kd.slice 3 (Kd.int .i64)) w A1 l1.length l1) (hc1 : l1.length ≤ c1) (h : slices_EqualFunc_int_int_int_int__impl_sameLists_1.f k l0 l1 = some r) :
  Calls Tryd.prog 125 #[.slice A0 l0.length c0, .slice A1 l1.length c1, .func (.func 126) #[] #[]] w fun e w' => e = .returned (.bool r) ∧ Drawn0 w w' := by
 have HR0 := Aside0.mk hr0;have HC0 := Aside0.mk hc0;clear hr0 hc0;have HR1 := Aside0.mk hr1;have HC1 := Aside0.mk hc1;clear hr1 hc1;have H : (if (l0.length : Int) = (l1.length : Int) then (slices_EqualFunc_int_int_int_int__impl_sameLists_1.l0 k l1 l0 (l0.length : Int) 0) else (some false)) = some r := h;clear h;(by_cases c4 : (l0.length : Int) = (l1.length : Int))
 ·rw [if_pos c4] at H;have c4b0 : ((l0.length : Int) == (l1.length : Int)) = true := beq_iff_eq.mpr c4;have c4b1 : ((l0.length : Int) != (l1.length : Int)) = false := bne_eq_false_iff_eq.mpr c4;(have c4b2 : (l0.length == l1.length) = true := by first | simpa using c4 | (simp at c4 ⊢; omega));clear c4;have H' := Aside0.mk H;clear H;go_enter Tryd.func125, Tryd.ntmps125;go_wp2;(go_loopg [17] k (fun kq v17 w' => ∃ (x17_1 : Int), v17 = .int .i64 x17_1 ∧ Aside0 (slices_EqualFunc_int_int_int_int__impl_sameLists_1.l0 kq l1 l0 (l0.length : Int) x17_1 = some r) ∧ Aside0 (kq ≤ k) ∧ Drawn0 w w'));(case atStart => exact ⟨(0), (eqw), H', ⟨Nat.le_refl _⟩, dz⟩)
  case round =>
   clear H';(try clear c4b0 c4b1 c4b2);obtain ⟨x17_1, rfl, HA, HK1, ⟨m1, rfl⟩⟩ := hrel
   cases gk with
   | zero => exact absurd HA.out (by simp [slices_EqualFunc_int_int_int_int__impl_sameLists_1.l0])
   | succ k1 =>
    have H := HA.out;clear HA;simp only [slices_EqualFunc_int_int_int_int__impl_sameLists_1.l0] at H;(by_cases c5 : x17_1 < (l0.length : Int))
    ·rw [if_pos c5] at H;have c5b0 := decide_eq_true c5;clear c5;(by_cases c6 : 0 ≤ x17_1)
     ·rw [if_pos c6] at H;have c6b0 := decide_eq_true c6;clear c6;(by_cases c7 : x17_1 < (l0.length : Int))
      ·rw [if_pos c7] at H;have c7b0 := decide_eq_true c7;clear c7;(by_cases c8 : x17_1 < (l1.length : Int))
       ·rw [if_pos c8] at H;have c8b0 := decide_eq_true c8;clear c8;replace H := Option.bind_eq_some_iff.mp H;obtain ⟨t386, A90, H⟩ := H;replace H : (if t386 = true then (slices_EqualFunc_int_int_int_int__impl_sameLists_1.l0 k1 l1 l0 (l0.length : Int) (wrap64 (x17_1 + 1))) else (some false)) = some r := H;have A9 := Aside0.mk A90;clear A90;(by_cases c10 : t386 = true)
        ·subst c10;(have H1 : (slices_EqualFunc_int_int_int_int__impl_sameLists_1.l0 k1 l1 l0 (l0.length : Int) (wrap64 (x17_1 + 1))) = some r := by rw [if_pos rfl] at H; exact H);clear H;have H := H1;clear H1;have H' := Aside0.mk H;clear H;have p384 : 0 ≤ (x17_1 : Int) := oda;have q384 : x17_1 < (l0.length : Int) := oda;obtain ⟨ad384, A384_0, c384_0, e384, hx384_0, hl384_0, hi384_0⟩ := at_L1 HR0.out x17_1 p384 q384;cases e384;have HR384_0 := Aside0.mk hi384_0;have HC384_0 := Aside0.mk hl384_0;clear hi384_0 hl384_0;replace p384 := eq_true p384;replace q384 := eq_true q384;have p385 : 0 ≤ (x17_1 : Int) := oda;have q385 : x17_1 < (l1.length : Int) := oda;obtain ⟨ad385, A385_0, c385_0, e385, hx385_0, hl385_0, hi385_0⟩ := at_L1 HR1.out x17_1 p385 q385;cases e385;have HR385_0 := Aside0.mk hi385_0;have HC385_0 := Aside0.mk hl385_0;clear hi385_0 hl385_0;replace p385 := eq_true p385;replace q385 := eq_true q385;(go_wp2_with (first | ((first | (with_reducible refine gate_callee (f := 126) rfl ?_) | refine gate_calleev (f := 126) rfl (by rfl) ?_); (first | (refine goesL_ (some 29) rfl rfl Tryd.func126 (by kernel_rfl) rfl #[.slice A384_0 (rd_L1 l0 x17_1).length c384_0, .slice A385_0 (rd_L1 l1 x17_1).length c385_0] rfl itp ?_) | (refine goesvL_ (some 29) rfl rfl Tryd.func126 (by kernel_rfl) rfl #[.slice A384_0 (rd_L1 l0 x17_1).length c384_0, .slice A385_0 (rd_L1 l1 x17_1).length c385_0] rfl (by rfl) itpv ?_)); (with_reducible refine (impl_sameLists_1.calls k1 _ _ (rd_L1 l0 x17_1) _ _ (rd_L1 l1 x17_1) true _ ?side1 ?side2 ?side3 ?side4 A9.out).mono ?_); (case side1 => exact upC HR384_0.out); (case side2 => exact HC384_0.out); (case side3 => exact upC HR385_0.out); (case side4 => exact HC385_0.out); rintro e w' ⟨rfl, ⟨nd, rfl⟩⟩; refine ⟨_, rfl, ?_⟩)));go_roundg k1;(case measure => have := HK1.out; omega);(case rel => exact ⟨(wrap64 (x17_1 + 1)), (eqw), H', ⟨by have := HK1.out; omega⟩, dz⟩)
        ·replace c10 := Bool.eq_false_iff.mpr c10;subst c10;(have H1 : (some false) = some r := by rw [if_neg (show ¬ (false = true) by decide)] at H; exact H);clear H;have H := H1;clear H1;obtain rfl := Option.some.inj H;have p384 : 0 ≤ (x17_1 : Int) := oda;have q384 : x17_1 < (l0.length : Int) := oda;obtain ⟨ad384, A384_0, c384_0, e384, hx384_0, hl384_0, hi384_0⟩ := at_L1 HR0.out x17_1 p384 q384;cases e384;have HR384_0 := Aside0.mk hi384_0;have HC384_0 := Aside0.mk hl384_0;clear hi384_0 hl384_0;replace p384 := eq_true p384;replace q384 := eq_true q384;have p385 : 0 ≤ (x17_1 : Int) := oda;have q385 : x17_1 < (l1.length : Int) := oda;obtain ⟨ad385, A385_0, c385_0, e385, hx385_0, hl385_0, hi385_0⟩ := at_L1 HR1.out x17_1 p385 q385;cases e385;have HR385_0 := Aside0.mk hi385_0;have HC385_0 := Aside0.mk hl385_0;clear hi385_0 hl385_0;replace p385 := eq_true p385;replace q385 := eq_true q385;(go_wp2_with (first | ((first | (with_reducible refine gate_callee (f := 126) rfl ?_) | refine gate_calleev (f := 126) rfl (by rfl) ?_); (first | (refine goesL_ (some 29) rfl rfl Tryd.func126 (by kernel_rfl) rfl #[.slice A384_0 (rd_L1 l0 x17_1).length c384_0, .slice A385_0 (rd_L1 l1 x17_1).length c385_0] rfl itp ?_) | (refine goesvL_ (some 29) rfl rfl Tryd.func126 (by kernel_rfl) rfl #[.slice A384_0 (rd_L1 l0 x17_1).length c384_0, .slice A385_0 (rd_L1 l1 x17_1).length c385_0] rfl (by rfl) itpv ?_)); (with_reducible refine (impl_sameLists_1.calls k1 _ _ (rd_L1 l0 x17_1) _ _ (rd_L1 l1 x17_1) false _ ?side1 ?side2 ?side3 ?side4 A9.out).mono ?_); (case side1 => exact upC HR384_0.out); (case side2 => exact HC384_0.out); (case side3 => exact upC HR385_0.out); (case side4 => exact HC385_0.out); rintro e w' ⟨rfl, ⟨nd, rfl⟩⟩; refine ⟨_, rfl, ?_⟩)));go_ret;exact ⟨eqw, dz⟩
       ·rw [if_neg c8] at H;exact absurd H (by simp)
      ·rw [if_neg c7] at H;exact absurd H (by simp)
     ·rw [if_neg c6] at H;exact absurd H (by simp)
    ·rw [if_neg c5] at H;have c5b0 := decide_eq_false c5;clear c5;obtain rfl := Option.some.inj H;go_wp2;go_ret;exact ⟨eqw, dz⟩
 ·rw [if_neg c4] at H;have c4b0 : ((l0.length : Int) == (l1.length : Int)) = false := beq_eq_false_iff_ne.mpr c4;have c4b1 : ((l0.length : Int) != (l1.length : Int)) = true := bne_iff_ne.mpr c4;(have c4b2 : (l0.length == l1.length) = false := by first | simpa using c4 | (simp at c4 ⊢; omega));obtain rfl := Option.some.inj H;go_enter Tryd.func125, Tryd.ntmps125;go_wp2;go_ret;exact ⟨eqw, dz⟩

/-! ### impl_sameLists: function 107 -/
def impl_sameLists.f (k : Nat) (l0 : List (List Int)) (l1 : List (List Int)) : Option (Bool) := (slices_EqualFunc_int_int_int_int__impl_sameLists_1.f k l0 l1).bind fun t387 => (some t387)
set_option maxHeartbeats 8000000 in
set_option maxRecDepth 100000 in
theorem impl_sameLists.calls (k : Nat) (A0 : Option Addr) (c0 : Nat) (l0 : List (List Int)) (A1 : Option Addr) (c1 : Nat) (l1 : List (List Int)) (r : Bool) (w : World) (hr0 : Kd.C (Kd.slice 3 (Kd.int .i64)) w A0 l0.length l0) (hc0 : l0.length ≤ c0) (hr1 : Kd.C (Kd.slice 3 (Kd.int .i64)) w A1 l1.length l1) (hc1 : l1.length ≤ c1) (h : impl_sameLists.f k l0 l1 = some r) :
  Calls Tryd.prog 107 #[.slice A0 l0.length c0, .slice A1 l1.length c1] w fun e w' => e = .returned (.bool r) ∧ Below w.heap.size w w' := by
 have HR0 := Aside0.mk hr0;have HC0 := Aside0.mk hc0;clear hr0 hc0;have HR1 := Aside0.mk hr1;have HC1 := Aside0.mk hc1;clear hr1 hc1;have HB := Aside0.mk (Below.refl w.heap.size w);have H : ((slices_EqualFunc_int_int_int_int__impl_sameLists_1.f k l0 l1).bind fun t387 => (some t387)) = some r := h;clear h;replace H := Option.bind_eq_some_iff.mp H;obtain ⟨t387, A30, H⟩ := H;replace H : (some t387) = some r := H;have A3 := Aside0.mk A30;clear A30;obtain rfl := Option.some.inj H;go_enter Tryd.func107, Tryd.ntmps107;(go_wp2_with (first | ((with_reducible refine gate_callee (f := 125) rfl ?_); refine goesL_ (some 7) rfl rfl Tryd.func125 (by kernel_rfl) rfl #[.slice A0 l0.length c0, .slice A1 l1.length c1, .func (.func 126) #[] #[]] rfl itp ?_; (with_reducible refine (slices_EqualFunc_int_int_int_int__impl_sameLists_1.calls k _ _ l0 _ _ l1  t387 _ ?side1 ?side2 ?side3 ?side4 A3.out).mono ?_); (case side1 => exact upC HR0.out); (case side2 => exact HC0.out); (case side3 => exact upC HR1.out); (case side4 => exact HC1.out); rintro e w' ⟨rfl, ⟨nd, rfl⟩⟩; refine ⟨_, rfl, ?_⟩)));go_ret;exact ⟨eqv, upW HB⟩

end Go.Proofs.YtmmcbdndelaeoaaDoor.PFnExactCodeText
