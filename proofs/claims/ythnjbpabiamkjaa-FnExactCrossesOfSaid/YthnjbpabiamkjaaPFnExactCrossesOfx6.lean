-- made for this claim by a program of this session
import Derived.Test.YthnjbpabiamkjaaPFnExactCrossesOfx0
import Derived.Test.YthnjbpabiamkjaaPFnExactCrossesOfx5
namespace Go.Proofs.Ythnjbpabiamkjaa.PFnExactCrossesOf
open Go.RowKit Go.Proofs.YthnjbpabiamkjaaW.PrintWords Go.Proofs.YthnjbpabiamkjaaW.PrintLast Go.Proofs.YthnjbpabiamkjaaW.PrintMore
attribute [local go_sem] max2_int min2_int max_two min_two max_three min_three max_four min_four   -- for this text's walks alone
set_option linter.unusedVariables false
set_option linter.unusedSimpArgs false

/-! ### impl_bit: function 102 -/
def impl_bit.f (a0 : Bool) : Option (Int) := if a0 = true then (some 1) else (some 0)
set_option maxHeartbeats 8000000 in
set_option maxRecDepth 100000 in
theorem impl_bit.calls (a0 : Bool) (r : Int) (w : World) (h : impl_bit.f a0 = some r) :
  Calls Try.prog 102 #[.bool a0] w fun e w' => e = .returned (.int .i64 r) ∧ Drawn0 w w' := by
 have H : (if a0 = true then (some 1) else (some 0)) = some r := h
 clear h
 by_cases c2 : a0 = true
 ·subst c2
  have H1 : (some 1) = some r := by rw [if_pos rfl] at H; exact H
  clear H
  have H := H1
  clear H1
  obtain rfl := Option.some.inj H
  go_enter Try.func102, Try.ntmps102
  go_wp2
  go_ret
  exact ⟨by first | rfl | (simp; done) | (simp [*]; done), by repeat (first | exact Drawn0.refl _ | apply Drawn0.step)⟩
 ·replace c2 := Bool.eq_false_iff.mpr c2
  subst c2
  have H1 : (some 0) = some r := by rw [if_neg (show ¬ (false = true) by decide)] at H; exact H
  clear H
  have H := H1
  clear H1
  obtain rfl := Option.some.inj H
  go_enter Try.func102, Try.ntmps102
  go_wp2
  go_ret
  exact ⟨by first | rfl | (simp; done) | (simp [*]; done), by repeat (first | exact Drawn0.refl _ | apply Drawn0.step)⟩

/-! ### impl_Cut_crosses: function 59 -/
mutual
def impl_Cut_crosses.l0 : Nat → List (List Int) → List (S73) → Int → Int → Int → Int → List (S73) → Option ((List (List Int)))
 | 0, _, _, _, _, _, _, _ => none
 | k + 1, x3, x11, x12, x13, x201000, x201001, x201002 => if x13 < x12 then (if 0 ≤ x13 then (if x13 < (x11.length : Int) then (if ((rd_T73 x11 x13).f0) = 0 then (impl_Cut_crosses.j1 k x3 x11 x12 x13 true x201000 x201001 x201002 ((rd_T73 x11 x13).f0) ((rd_T73 x11 x13).f1) ((rd_T73 x11 x13).f2)) else (impl_Cut_crosses.j1 k x3 x11 x12 x13 (((rd_T73 x11 x13).f1) == 0) x201000 x201001 x201002 ((rd_T73 x11 x13).f0) ((rd_T73 x11 x13).f1) ((rd_T73 x11 x13).f2))) else (none)) else (none)) else (some x3)
def impl_Cut_crosses.j1 : Nat → List (List Int) → List (S73) → Int → Int → Bool → Int → Int → List (S73) → Int → Int → Int → Option ((List (List Int)))
 | 0, _, _, _, _, _, _, _, _, _, _, _ => none
 | k + 1, x3, x11, x12, x13, x24, x201000, x201001, x201002, x206000, x206001, x206002 => if x24 = true then (impl_Cut_crosses.l0 k x3 x11 x12 (wrap64 (x13 + 1)) x201000 x201001 x201002) else (impl_Cut_crosses.l1 k x3 0 x11 x12 x13 x201002 (x201002.length : Int) 0 x201000 x201001 x201002 x206000 x206001 x206002)
def impl_Cut_crosses.l1 : Nat → List (List Int) → Int → List (S73) → Int → Int → List (S73) → Int → Int → Int → Int → List (S73) → Int → Int → Int → Option ((List (List Int)))
 | 0, _, _, _, _, _, _, _, _, _, _, _, _, _, _ => none
 | k + 1, x3, x6, x11, x12, x13, x26, x27, x28, x201000, x201001, x201002, x206000, x206001, x206002 => if x28 < x27 then (if 0 ≤ x28 then (if x28 < (x26.length : Int) then (if ((rd_T73 x26 x28).f0) = x206000 then (if ((rd_T73 x26 x28).f1) = x206001 then ((impl_bit.f true).bind fun t208 => (impl_Cut_crosses.l1 k x3 (wrap64 (x6 + t208)) x11 x12 x13 x26 x27 (wrap64 (x28 + 1)) x201000 x201001 x201002 x206000 x206001 x206002)) else ((impl_bit.f ((wrap64 (((rd_T73 x26 x28).f1) + ((rd_T73 x26 x28).f2))) == x206001)).bind fun t209 => (impl_Cut_crosses.l1 k x3 (wrap64 (x6 + t209)) x11 x12 x13 x26 x27 (wrap64 (x28 + 1)) x201000 x201001 x201002 x206000 x206001 x206002))) else (if (wrap64 (((rd_T73 x26 x28).f0) + ((rd_T73 x26 x28).f2))) = x206000 then (if ((rd_T73 x26 x28).f1) = x206001 then ((impl_bit.f true).bind fun t210 => (impl_Cut_crosses.l1 k x3 (wrap64 (x6 + t210)) x11 x12 x13 x26 x27 (wrap64 (x28 + 1)) x201000 x201001 x201002 x206000 x206001 x206002)) else ((impl_bit.f ((wrap64 (((rd_T73 x26 x28).f1) + ((rd_T73 x26 x28).f2))) == x206001)).bind fun t211 => (impl_Cut_crosses.l1 k x3 (wrap64 (x6 + t211)) x11 x12 x13 x26 x27 (wrap64 (x28 + 1)) x201000 x201001 x201002 x206000 x206001 x206002))) else ((impl_bit.f false).bind fun t212 => (impl_Cut_crosses.l1 k x3 (wrap64 (x6 + t212)) x11 x12 x13 x26 x27 (wrap64 (x28 + 1)) x201000 x201001 x201002 x206000 x206001 x206002)))) else (none)) else (none)) else (if x6 = 4 then (if x3.length < 5864062014805 then (impl_Cut_crosses.l0 k (x3 ++ [(([x206000, x206001] : List Int))]) x11 x12 (wrap64 (x13 + 1)) x201000 x201001 x201002) else (none)) else (impl_Cut_crosses.l0 k x3 x11 x12 (wrap64 (x13 + 1)) x201000 x201001 x201002))
end
def impl_Cut_crosses.f (k : Nat) (a0_0 : Int) (a0_1 : Int) (l0_2 : List (S73)) : Option ((List (List Int))) := impl_Cut_crosses.l0 k (([] : List (List Int))) l0_2 (l0_2.length : Int) 0 a0_0 a0_1 l0_2
set_option maxHeartbeats 8000000 in
set_option maxRecDepth 100000 in
theorem impl_Cut_crosses.calls (k : Nat) (a0_0 : Int) (a0_1 : Int) (A0_2 : Option Addr) (c0_2 : Nat) (l0_2 : List (S73)) (r : List (List Int)) (w : World) (hr0_2 : Kd.C k73 w A0_2 l0_2.length l0_2) (hc0_2 : l0_2.length ≤ c0_2) (h : impl_Cut_crosses.f k a0_0 a0_1 l0_2 = some r) :
  Calls Try.prog 59 #[.agg #[.int .i64 a0_0, .int .i64 a0_1, .slice A0_2 l0_2.length c0_2]] w fun e w' => ∃ v0_ : Value, e = .returned (v0_) ∧ Kd.S (Kd.slice 3 (Kd.int .i64)) 41 w' w.heap.size (fun _ => True) v0_ r ∧ Below w.heap.size w w' := by
 have hu31 := Try.underlying31
 have hu73 := Try.underlying73
 have HR0_2 := Aside0.mk hr0_2
 have HC0_2 := Aside0.mk hc0_2
 clear hr0_2 hc0_2
 have HB := Aside0.mk (Below.refl w.heap.size w)
 have H : (impl_Cut_crosses.l0 k (([] : List (List Int))) l0_2 (l0_2.length : Int) 0 a0_0 a0_1 l0_2) = some r := h
 clear h
 obtain ⟨y201, hy201⟩ : ∃ y_ : List (List Int), y_ = (([] : List (List Int))) := ⟨_, rfl⟩
 replace H : (impl_Cut_crosses.l0 k y201 l0_2 (l0_2.length : Int) 0 a0_0 a0_1 l0_2) = some r := by first | (rw [hy201]; with_reducible exact H) | (have H2_ := (Option.bind_some _ _).symm.trans H; rw [hy201]; with_reducible exact H2_) | (have H2_ := (Option.bind_some _ _).symm.trans H; with_reducible exact H2_) | with_reducible exact H | (rw [hy201]; exact H) | exact H
 have Ny201 := Aside0.mk hy201
 clear hy201
 have H' := Aside0.mk H
 clear H
 go_enter Try.func59, Try.ntmps59
 go_wp2_with (first | ((with_reducible refine gate_dst (N := 1) rfl ?_); refine box_event ?hg (N := 1) ?hd (cs := #[.int .i64 a0_0, .int .i64 a0_1, .slice A0_2 l0_2.length c0_2]) (t := 31) ?hr ?_; (case hd => rfl); (case hg => rfl); (case hr => first | (go_simp; done) | (go_simp; rfl)); intro gb200 hg w2 hbox hb; have n0_ := Aside0.mk (below_step (upW HB) hb); have n1_ := Aside0.mk (hbox); have n2_ := Aside0.mk ((by rw [hg]; exact (below_size (upW HB)) : w.heap.size ≤ gb200)); have n3_ := Aside0.mk ((by rw [hg]; exact (below_size (upW HB)) : w.heap.size ≤ gb200)); clear HB; have HB := n0_; have BK200 := n1_; have GW200 := n2_; have GE200 := n3_; clear n0_ n1_ n2_ n3_; clear hb hbox hg) | ((with_reducible refine gate_dst (N := 9) rfl ?_); refine Kd.S_lit (Kd.slice 3 (Kd.int .i64)) _ 41 ?hg (N := 9) ?hd (xs := ([] : List (List Int))) (inner := []) (ok := fun _ => True) (okp := fun _ => True) ?hr ?hp (fun _ hk => hk) trivial (Below.refl _ _) (Nat.le_refl _) (by simp) ?_; (case hd => rfl); (case hg => rfl); (case hr => first | (go_simp; done) | (go_simp; rfl)); (case hp => exact (Reps.none _ _)); intro v202 w3 ho4 hb hg_ hnew_; clear hg_ hnew_; (first | rw [← Ny201.out] at ho4 | (simp only [Int.reduceToNat] at ho4; rw [← Ny201.out] at ho4)); have n0_ := Aside0.mk (Kd.S_lower ho4 (below_size (upW HB))); have n1_ := Aside0.mk (blk_below (upK BK200) hb); have n2_ := Aside0.mk (below_step (upW HB) hb); clear BK200; clear HB; have HO203 := n0_; have BK200 := n1_; have HB := n2_; clear n0_ n1_ n2_; clear hb ho4; have hcz5_0 : w3.cell? ⟨gb200, 0, none⟩ = some (.int .i64 a0_0) := (blk_cell BK200.out 0).trans rfl; have hcz5_1 : w3.cell? ⟨gb200, 1, none⟩ = some (.int .i64 a0_1) := (blk_cell BK200.out 1).trans rfl; have hcz5_2 : w3.cell? ⟨gb200, 2, none⟩ = some (.slice A0_2 l0_2.length c0_2) := (blk_cell BK200.out 2).trans rfl; have hfz5_0 := blk_frozen BK200.out 0; have hfz5_1 := blk_frozen BK200.out 1; have hfz5_2 := blk_frozen BK200.out 2))
 go_loopg [3, 13] k (fun kq v3 v13 w' => ∃ (x3_1 : List (List Int)) (x13_1 : Int), v13 = .int .i64 x13_1 ∧ Aside0 (impl_Cut_crosses.l0 kq x3_1 l0_2 (l0_2.length : Int) x13_1 a0_0 a0_1 l0_2 = some r) ∧ Aside0 (kq ≤ k) ∧ Aside0 (Kd.S (Kd.slice 3 (Kd.int .i64)) 41 w' w.heap.size (fun _ => True) v3 x3_1) ∧ Aside0 (w'.heap[gb200]? = some (.cells #[.int .i64 a0_0, .int .i64 a0_1, (.slice A0_2 l0_2.length c0_2)] 31 (0, 0))) ∧ Aside0 (Below w.heap.size w w'))
 case atStart => exact ⟨(y201), (0), (by first | rfl | (simp; done) | (simp [*]; done)), H', ⟨Nat.le_refl _⟩, ⟨by (with_reducible repeat (first | apply Kd.S_alloc | apply Kd.S_drewN | apply Kd.S_drew)); exact HO203.out⟩, ⟨upK BK200⟩, ⟨upW HB⟩⟩
 case round =>
  clear H'
  try clear p2
  try clear c5
  try clear hcz5_0
  try clear hcz5_1
  try clear hcz5_2
  try clear hfz5_0
  try clear hfz5_1
  try clear hfz5_2
  obtain ⟨x3_1, x13_1, rfl, HA, HK1, HO_3, BK200, HB⟩ := hrel
  cases gk with
  | zero => exact absurd HA.out (by simp [impl_Cut_crosses.l0])
  | succ k1 =>
   have H := HA.out
   clear HA
   simp only [impl_Cut_crosses.l0] at H
   by_cases c6 : x13_1 < (l0_2.length : Int)
   ·rw [if_pos c6] at H
    have c6b0 : decide (x13_1 < (l0_2.length : Int)) = true := decide_eq_true c6
    clear c6
    by_cases c7 : 0 ≤ x13_1
    ·rw [if_pos c7] at H
     have c7b0 : decide (0 ≤ x13_1) = true := decide_eq_true c7
     clear c7
     by_cases c8 : x13_1 < (l0_2.length : Int)
     ·rw [if_pos c8] at H
      have c8b0 : decide (x13_1 < (l0_2.length : Int)) = true := decide_eq_true c8
      clear c8
      have HC9 := Aside0.mk H
      clear H
      have p204 : 0 ≤ (x13_1 : Int) := of_decide_eq_true (by first | (with_reducible assumption) | assumption)
      have q204 : x13_1 < (l0_2.length : Int) := of_decide_eq_true (by first | (with_reducible assumption) | assumption)
      obtain ⟨ad204, e204, hx204_0, hx204_1, hx204_2⟩ := at_T73 HR0_2.out x13_1 p204 q204
      cases e204
      replace hx204_0 := (HB.out.cell (World.block_lt_of_cell? w _ hx204_0)).trans hx204_0
      replace hx204_1 := (HB.out.cell (World.block_lt_of_cell? w _ hx204_1)).trans hx204_1
      replace hx204_2 := (HB.out.cell (World.block_lt_of_cell? w _ hx204_2)).trans hx204_2
      replace p204 := eq_true p204
      replace q204 := eq_true q204
      go_upto_region 5 with (first | ((with_reducible refine gate_dst (N := 5) rfl ?_); refine box_event ?hg (N := 5) ?hd (cs := #[.int .i64 0, .int .i64 0, .int .i64 0]) (t := 73) ?hr ?_; (case hd => rfl); (case hg => rfl); (case hr => first | (go_simp; done) | (go_simp; rfl)); intro gb205 hg w10 hbox hb; have n0_ := Aside0.mk (Kd.S_below (by (with_reducible repeat (first | apply Kd.S_alloc | apply Kd.S_drewN | apply Kd.S_drew)); exact HO_3.out) hb); have n1_ := Aside0.mk (blk_below (upK BK200) hb); have n2_ := Aside0.mk (below_step (upW HB) hb); have n3_ := Aside0.mk (hbox); have n4_ := Aside0.mk ((by rw [hg]; exact (below_size (upW HB)) : w.heap.size ≤ gb205)); have n5_ := Aside0.mk ((by rw [hg]; exact (below_size (upW HB)) : w.heap.size ≤ gb205)); have n6_ := Aside0.mk ((by rw [hg]; exact Nat.ne_of_lt (blk_lt (upK BK200)) : gb200 ≠ gb205)); have n7_ := Aside0.mk ((by rw [hg]; exact Nat.ne_of_gt (blk_lt (upK BK200)) : gb205 ≠ gb200)); clear HO_3; clear BK200; clear HB; have HO_3 := n0_; have BK200 := n1_; have HB := n2_; have BK205 := n3_; have GW205 := n4_; have GE205 := n5_; have NB200_205 := n6_; have NB205_200 := n7_; clear n0_ n1_ n2_ n3_ n4_ n5_ n6_ n7_; clear hb hbox hg; have hnb11 := NB205_200.out; have hnc11 := NB200_205.out; have hcz12_0 : w10.cell? ⟨gb205, 0, none⟩ = some (.int .i64 0) := (blk_cell BK205.out 0).trans rfl; have hcz12_1 : w10.cell? ⟨gb205, 1, none⟩ = some (.int .i64 0) := (blk_cell BK205.out 1).trans rfl; have hcz12_2 : w10.cell? ⟨gb205, 2, none⟩ = some (.int .i64 0) := (blk_cell BK205.out 2).trans rfl; have hfz12_0 := blk_frozen BK205.out 0; have hfz12_1 := blk_frozen BK205.out 1; have hfz12_2 := blk_frozen BK205.out 2))
      (try simp only [Act.put, List.setIfInBounds_toArray, List.set_cons_zero, List.set_cons_succ])
      go_cut [24] (fun v24 wc => ∃ (kq : Nat) (x24_8 : Bool), v24 = .bool x24_8 ∧ Aside0 (impl_Cut_crosses.j1 kq x3_1 l0_2 (l0_2.length : Int) x13_1 x24_8 a0_0 a0_1 l0_2 ((rd_T73 l0_2 x13_1).f0) ((rd_T73 l0_2 x13_1).f1) ((rd_T73 l0_2 x13_1).f2) = some r) ∧ Aside0 (kq ≤ k1) ∧ Aside0 (Kd.S (Kd.slice 3 (Kd.int .i64)) 41 wc w.heap.size (fun _ => True) u3 x3_1) ∧ Aside0 (wc.heap[gb200]? = some (.cells #[.int .i64 a0_0, .int .i64 a0_1, (.slice (some ad204) l0_2.length c0_2)] 31 (0, 0))) ∧ Aside0 (wc.heap[gb205]? = some (.cells #[.int .i64 ((rd_T73 l0_2 x13_1).f0), .int .i64 ((rd_T73 l0_2 x13_1).f1), .int .i64 ((rd_T73 l0_2 x13_1).f2)] 73 (0, 0))) ∧ Aside0 (Below w.heap.size w wc))
      case first =>
       have H := HC9.out
       clear HC9
       by_cases c13 : ((rd_T73 l0_2 x13_1).f0) = 0
       ·rw [if_pos c13] at H
        have c13b0 : (((rd_T73 l0_2 x13_1).f0) == 0) = true := beq_iff_eq.mpr c13
        have c13b1 : (((rd_T73 l0_2 x13_1).f0) != 0) = false := bne_eq_false_iff_eq.mpr c13
        clear c13
        (first | rw [c13b0] | (simp only [i64_w, i32_w]; rw [c13b0]) | skip)
        have H' := Aside0.mk H
        clear H
        have hnb14 := NB205_200.out
        have hnc14 := NB200_205.out
        have hcz15_0 : w10.cell? ⟨gb205, 0, none⟩ = some (.int .i64 0) := (blk_cell BK205.out 0).trans rfl
        have hcz15_1 : w10.cell? ⟨gb205, 1, none⟩ = some (.int .i64 0) := (blk_cell BK205.out 1).trans rfl
        have hcz15_2 : w10.cell? ⟨gb205, 2, none⟩ = some (.int .i64 0) := (blk_cell BK205.out 2).trans rfl
        have hfz15_0 := blk_frozen BK205.out 0
        have hfz15_1 := blk_frozen BK205.out 1
        have hfz15_2 := blk_frozen BK205.out 2
        go_wp2
        go_meet
        case rel => exact ⟨_, (true), (by first | rfl | (simp; done) | (simp [*]; done)), H', ⟨by have := HK1.out; first | omega | exact Nat.le_refl _⟩, ⟨by (with_reducible repeat (first | apply Kd.S_alloc | apply Kd.S_drewN | apply Kd.S_drew)); exact Kd.S_mono (Kd.S_far (p := ⟨gb205, 2, none⟩) (Kd.S_far (p := ⟨gb205, 1, none⟩) (Kd.S_far (p := ⟨gb205, 0, none⟩) (Kd.S_types HO_3.out BK205.out (by decide)) (fun _ hk => hk.2) (.int .i64 ((rd_T73 l0_2 x13_1).f0))) (fun _ hk => hk.2) (.int .i64 ((rd_T73 l0_2 x13_1).f1))) (fun _ hk => hk.2) (.int .i64 ((rd_T73 l0_2 x13_1).f2))) (fun _ hk => trivial)⟩, ⟨upF BK200⟩, ⟨by (with_reducible repeat (first | refine blk_drewN ?_ _ | refine blk_drew ?_ | refine blk_alloc ?_ _)); refine blk_put (cs := #[.int .i64 ((rd_T73 l0_2 x13_1).f0), .int .i64 ((rd_T73 l0_2 x13_1).f1), .int .i64 0]) ?_ 2 _ rfl; (with_reducible repeat (first | refine blk_drewN ?_ _ | refine blk_drew ?_ | refine blk_alloc ?_ _)); refine blk_put (cs := #[.int .i64 ((rd_T73 l0_2 x13_1).f0), .int .i64 0, .int .i64 0]) ?_ 1 _ rfl; (with_reducible repeat (first | refine blk_drewN ?_ _ | refine blk_drew ?_ | refine blk_alloc ?_ _)); refine blk_put (cs := #[.int .i64 0, .int .i64 0, .int .i64 0]) ?_ 0 _ rfl; (with_reducible repeat (first | refine blk_drewN ?_ _ | refine blk_drew ?_ | refine blk_alloc ?_ _)); exact BK205.out⟩, ⟨upW HB⟩⟩
       ·rw [if_neg c13] at H
        have c13b0 : (((rd_T73 l0_2 x13_1).f0) == 0) = false := beq_eq_false_iff_ne.mpr c13
        have c13b1 : (((rd_T73 l0_2 x13_1).f0) != 0) = true := bne_iff_ne.mpr c13
        (first | rw [c13b0] | (simp only [i64_w, i32_w]; rw [c13b0]) | skip)
        have H' := Aside0.mk H
        clear H
        have hnb16 := NB205_200.out
        have hnc16 := NB200_205.out
        have hcz17_0 : w10.cell? ⟨gb205, 0, none⟩ = some (.int .i64 0) := (blk_cell BK205.out 0).trans rfl
        have hcz17_1 : w10.cell? ⟨gb205, 1, none⟩ = some (.int .i64 0) := (blk_cell BK205.out 1).trans rfl
        have hcz17_2 : w10.cell? ⟨gb205, 2, none⟩ = some (.int .i64 0) := (blk_cell BK205.out 2).trans rfl
        have hfz17_0 := blk_frozen BK205.out 0
        have hfz17_1 := blk_frozen BK205.out 1
        have hfz17_2 := blk_frozen BK205.out 2
        go_wp2
        go_meet
        case rel => exact ⟨_, ((((rd_T73 l0_2 x13_1).f1) == 0)), (by first | rfl | (simp; done) | (simp [*]; done)), H', ⟨by have := HK1.out; first | omega | exact Nat.le_refl _⟩, ⟨by (with_reducible repeat (first | apply Kd.S_alloc | apply Kd.S_drewN | apply Kd.S_drew)); exact Kd.S_mono (Kd.S_far (p := ⟨gb205, 2, none⟩) (Kd.S_far (p := ⟨gb205, 1, none⟩) (Kd.S_far (p := ⟨gb205, 0, none⟩) (Kd.S_types HO_3.out BK205.out (by decide)) (fun _ hk => hk.2) (.int .i64 ((rd_T73 l0_2 x13_1).f0))) (fun _ hk => hk.2) (.int .i64 ((rd_T73 l0_2 x13_1).f1))) (fun _ hk => hk.2) (.int .i64 ((rd_T73 l0_2 x13_1).f2))) (fun _ hk => trivial)⟩, ⟨upF BK200⟩, ⟨by (with_reducible repeat (first | refine blk_drewN ?_ _ | refine blk_drew ?_ | refine blk_alloc ?_ _)); refine blk_put (cs := #[.int .i64 ((rd_T73 l0_2 x13_1).f0), .int .i64 ((rd_T73 l0_2 x13_1).f1), .int .i64 0]) ?_ 2 _ rfl; (with_reducible repeat (first | refine blk_drewN ?_ _ | refine blk_drew ?_ | refine blk_alloc ?_ _)); refine blk_put (cs := #[.int .i64 ((rd_T73 l0_2 x13_1).f0), .int .i64 0, .int .i64 0]) ?_ 1 _ rfl; (with_reducible repeat (first | refine blk_drewN ?_ _ | refine blk_drew ?_ | refine blk_alloc ?_ _)); refine blk_put (cs := #[.int .i64 0, .int .i64 0, .int .i64 0]) ?_ 0 _ rfl; (with_reducible repeat (first | refine blk_drewN ?_ _ | refine blk_drew ?_ | refine blk_alloc ?_ _)); exact BK205.out⟩, ⟨upW HB⟩⟩
      case rest =>
       clear HC9
       try clear c1
       try clear p2
       try clear q2
       try clear hx2
       try clear c5
       try clear c6
       try clear c6b0
       try clear c7
       try clear c7b0
       try clear c8
       try clear c8b0
       try clear c11
       try clear c13
       try clear c13b0
       try clear c13b1
       try clear c14
       try clear c16
       try clear hcz12_0
       try clear hcz12_1
       try clear hcz12_2
       try clear hcz15_0
       try clear hcz15_1
       try clear hcz15_2
       try clear hcz17_0
       try clear hcz17_1
       try clear hcz17_2
       try clear hcz5_0
       try clear hcz5_1
       try clear hcz5_2
       try clear hfz12_0
       try clear hfz12_1
       try clear hfz12_2
       try clear hfz15_0
       try clear hfz15_1
       try clear hfz15_2
       try clear hfz17_0
       try clear hfz17_1
       try clear hfz17_2
       try clear hfz5_0
       try clear hfz5_1
       try clear hfz5_2
       try clear hx204_0
       try clear hx204_1
       try clear hx204_2
       try clear p2
       try clear p204
       try clear q204
       obtain ⟨kq, x24_8, rfl, HA, HJ8, HO_3, BK200, BK205, HB⟩ := hcut
       cases kq with
       | zero => exact absurd HA.out (by simp [impl_Cut_crosses.j1])
       | succ kj8 =>
        have H := HA.out
        clear HA
        simp only [impl_Cut_crosses.j1] at H
        by_cases c18 : x24_8 = true
        ·subst c18
         have H1 : (impl_Cut_crosses.l0 kj8 x3_1 l0_2 (l0_2.length : Int) (wrap64 (x13_1 + 1)) a0_0 a0_1 l0_2) = some r := by rw [if_pos rfl] at H; exact H
         clear H
         have H := H1
         clear H1
         have H' := Aside0.mk H
         clear H
         go_wp2
         go_roundg kj8
         case measure => have := HK1.out; have := HJ8.out; omega
         case rel => exact ⟨(x3_1), (wrap64 (x13_1 + 1)), (by first | rfl | (simp; done) | (simp [*]; done)), H', ⟨by have := HK1.out; have := HJ8.out; omega⟩, ⟨by (with_reducible repeat (first | apply Kd.S_alloc | apply Kd.S_drewN | apply Kd.S_drew)); exact HO_3.out⟩, ⟨upK BK200⟩, ⟨upW HB⟩⟩
        ·replace c18 := Bool.eq_false_iff.mpr c18
         subst c18
         have H1 : (impl_Cut_crosses.l1 kj8 x3_1 0 l0_2 (l0_2.length : Int) x13_1 l0_2 (l0_2.length : Int) 0 a0_0 a0_1 l0_2 ((rd_T73 l0_2 x13_1).f0) ((rd_T73 l0_2 x13_1).f1) ((rd_T73 l0_2 x13_1).f2)) = some r := by rw [if_neg (show ¬ (false = true) by decide)] at H; exact H
         clear H
         have H := H1
         clear H1
         have H' := Aside0.mk H
         clear H
         have hnb19 := NB200_205.out
         have hnc19 := NB205_200.out
         have hcz20_0 : wc.cell? ⟨gb200, 0, none⟩ = some (.int .i64 a0_0) := (blk_cell BK200.out 0).trans rfl
         have hcz20_1 : wc.cell? ⟨gb200, 1, none⟩ = some (.int .i64 a0_1) := (blk_cell BK200.out 1).trans rfl
         have hcz20_2 : wc.cell? ⟨gb200, 2, none⟩ = some (.slice (some ad204) l0_2.length c0_2) := (blk_cell BK200.out 2).trans rfl
         have hfz20_0 := blk_frozen BK200.out 0
         have hfz20_1 := blk_frozen BK200.out 1
         have hfz20_2 := blk_frozen BK200.out 2
         go_wp2
         go_loopg [6, 28] kj8 (fun kq v6 v28 w' => ∃ (x6_3 : Int) (x28_3 : Int), v6 = .int .i64 x6_3 ∧ v28 = .int .i64 x28_3 ∧ Aside0 (impl_Cut_crosses.l1 kq x3_1 x6_3 l0_2 (l0_2.length : Int) x13_1 l0_2 (l0_2.length : Int) x28_3 a0_0 a0_1 l0_2 ((rd_T73 l0_2 x13_1).f0) ((rd_T73 l0_2 x13_1).f1) ((rd_T73 l0_2 x13_1).f2) = some r) ∧ Aside0 (kq ≤ kj8) ∧ Aside0 (Kd.S (Kd.slice 3 (Kd.int .i64)) 41 w' w.heap.size (fun _ => True) u3 x3_1) ∧ Aside0 (w'.heap[gb200]? = some (.cells #[.int .i64 a0_0, .int .i64 a0_1, (.slice (some ad204) l0_2.length c0_2)] 31 (0, 0))) ∧ Aside0 (w'.heap[gb205]? = some (.cells #[.int .i64 ((rd_T73 l0_2 x13_1).f0), .int .i64 ((rd_T73 l0_2 x13_1).f1), .int .i64 ((rd_T73 l0_2 x13_1).f2)] 73 (0, 0))) ∧ Aside0 (Below w.heap.size w w'))
         case atStart => exact ⟨(0), (0), (by first | rfl | (simp; done) | (simp [*]; done)), (by first | rfl | (simp; done) | (simp [*]; done)), H', ⟨Nat.le_refl _⟩, ⟨by (with_reducible repeat (first | apply Kd.S_alloc | apply Kd.S_drewN | apply Kd.S_drew)); exact HO_3.out⟩, ⟨upK BK200⟩, ⟨upK BK205⟩, ⟨upW HB⟩⟩
         case round =>
          clear H'
          try clear c1
          try clear p2
          try clear q2
          try clear hx2
          try clear c5
          try clear c6
          try clear c6b0
          try clear p6
          try clear c7
          try clear c7b0
          try clear c8
          try clear c8b0
          try clear c11
          try clear c13
          try clear c13b0
          try clear c13b1
          try clear c14
          try clear c16
          try clear c18
          try clear c19
          try clear p20
          try clear q20
          try clear hx20
          try clear hcz12_0
          try clear hcz12_1
          try clear hcz12_2
          try clear hcz15_0
          try clear hcz15_1
          try clear hcz15_2
          try clear hcz17_0
          try clear hcz17_1
          try clear hcz17_2
          try clear hcz20_0
          try clear hcz20_1
          try clear hcz20_2
          try clear hcz5_0
          try clear hcz5_1
          try clear hcz5_2
          try clear hfz12_0
          try clear hfz12_1
          try clear hfz12_2
          try clear hfz15_0
          try clear hfz15_1
          try clear hfz15_2
          try clear hfz17_0
          try clear hfz17_1
          try clear hfz17_2
          try clear hfz20_0
          try clear hfz20_1
          try clear hfz20_2
          try clear hfz5_0
          try clear hfz5_1
          try clear hfz5_2
          try clear hx204_0
          try clear hx204_1
          try clear hx204_2
          try clear p2
          try clear p204
          try clear q2
          try clear q204
          obtain ⟨x6_3, x28_3, rfl, rfl, HA, HK3, HO_3, BK200, BK205, HB⟩ := hrel
          cases gk with
          | zero => exact absurd HA.out (by simp [impl_Cut_crosses.l1])
          | succ k3 =>
           have H := HA.out
           clear HA
           simp only [impl_Cut_crosses.l1] at H
           by_cases c21 : x28_3 < (l0_2.length : Int)
           ·rw [if_pos c21] at H
            have c21b0 : decide (x28_3 < (l0_2.length : Int)) = true := decide_eq_true c21
            clear c21
            by_cases c22 : 0 ≤ x28_3
            ·rw [if_pos c22] at H
             have c22b0 : decide (0 ≤ x28_3) = true := decide_eq_true c22
             clear c22
             by_cases c23 : x28_3 < (l0_2.length : Int)
             ·rw [if_pos c23] at H
              have c23b0 : decide (x28_3 < (l0_2.length : Int)) = true := decide_eq_true c23
              clear c23
              by_cases c24 : ((rd_T73 l0_2 x28_3).f0) = ((rd_T73 l0_2 x13_1).f0)
              ·rw [if_pos c24] at H
               have c24b0 : (((rd_T73 l0_2 x28_3).f0) == ((rd_T73 l0_2 x13_1).f0)) = true := beq_iff_eq.mpr c24
               have c24b1 : (((rd_T73 l0_2 x28_3).f0) != ((rd_T73 l0_2 x13_1).f0)) = false := bne_eq_false_iff_eq.mpr c24
               clear c24
               by_cases c25 : ((rd_T73 l0_2 x28_3).f1) = ((rd_T73 l0_2 x13_1).f1)
               ·rw [if_pos c25] at H
                have c25b0 : (((rd_T73 l0_2 x28_3).f1) == ((rd_T73 l0_2 x13_1).f1)) = true := beq_iff_eq.mpr c25
                have c25b1 : (((rd_T73 l0_2 x28_3).f1) != ((rd_T73 l0_2 x13_1).f1)) = false := bne_eq_false_iff_eq.mpr c25
                clear c25
                replace H := Option.bind_eq_some_iff.mp H
                obtain ⟨t208, A260, H⟩ := H
                replace H : (impl_Cut_crosses.l1 k3 x3_1 (wrap64 (x6_3 + t208)) l0_2 (l0_2.length : Int) x13_1 l0_2 (l0_2.length : Int) (wrap64 (x28_3 + 1)) a0_0 a0_1 l0_2 ((rd_T73 l0_2 x13_1).f0) ((rd_T73 l0_2 x13_1).f1) ((rd_T73 l0_2 x13_1).f2)) = some r := H
                have A26 := Aside0.mk A260
                clear A260
                have H' := Aside0.mk H
                clear H
                have p206 : 0 ≤ (x28_3 : Int) := of_decide_eq_true (by first | (with_reducible assumption) | assumption)
                have q206 : x28_3 < (l0_2.length : Int) := of_decide_eq_true (by first | (with_reducible assumption) | assumption)
                obtain ⟨ad206, e206, hx206_0, hx206_1, hx206_2⟩ := at_T73 HR0_2.out x28_3 p206 q206
                obtain rfl : ad204 = ad206 := (by injection e206)
                replace hx206_0 := (HB.out.cell (World.block_lt_of_cell? w _ hx206_0)).trans hx206_0
                replace hx206_1 := (HB.out.cell (World.block_lt_of_cell? w _ hx206_1)).trans hx206_1
                replace hx206_2 := (HB.out.cell (World.block_lt_of_cell? w _ hx206_2)).trans hx206_2
                replace p206 := eq_true p206
                replace q206 := eq_true q206
                go_wp2_with (first | ((with_reducible refine gate_dst (N := 8) rfl ?_); refine box_event ?hg (N := 8) ?hd (cs := #[.int .i64 0, .int .i64 0, .int .i64 0]) (t := 73) ?hr ?_; (case hd => rfl); (case hg => rfl); (case hr => first | (go_simp; done) | (go_simp; rfl)); intro gb207 hg w27 hbox hb; have n0_ := Aside0.mk (Kd.S_below (by (with_reducible repeat (first | apply Kd.S_alloc | apply Kd.S_drewN | apply Kd.S_drew)); exact HO_3.out) hb); have n1_ := Aside0.mk (blk_below (upK BK200) hb); have n2_ := Aside0.mk (blk_below (upK BK205) hb); have n3_ := Aside0.mk (below_step (upW HB) hb); have n4_ := Aside0.mk (hbox); have n5_ := Aside0.mk ((by rw [hg]; exact (below_size (upW HB)) : w.heap.size ≤ gb207)); have n6_ := Aside0.mk ((by rw [hg]; exact (below_size (upW HB)) : w.heap.size ≤ gb207)); have n7_ := Aside0.mk ((by rw [hg]; exact Nat.ne_of_lt (blk_lt (upK BK200)) : gb200 ≠ gb207)); have n8_ := Aside0.mk ((by rw [hg]; exact Nat.ne_of_gt (blk_lt (upK BK200)) : gb207 ≠ gb200)); have n9_ := Aside0.mk ((by rw [hg]; exact Nat.ne_of_lt (blk_lt (upK BK205)) : gb205 ≠ gb207)); have n10_ := Aside0.mk ((by rw [hg]; exact Nat.ne_of_gt (blk_lt (upK BK205)) : gb207 ≠ gb205)); clear HO_3; clear BK200; clear BK205; clear HB; have HO_3 := n0_; have BK200 := n1_; have BK205 := n2_; have HB := n3_; have BK207 := n4_; have GW207 := n5_; have GE207 := n6_; have NB200_207 := n7_; have NB207_200 := n8_; have NB205_207 := n9_; have NB207_205 := n10_; clear n0_ n1_ n2_ n3_ n4_ n5_ n6_ n7_ n8_ n9_ n10_; clear hb hbox hg; have hnb28 := NB207_200.out; have hnc28 := NB200_207.out; have hnb29 := NB207_205.out; have hnc29 := NB205_207.out; have hcz30_0 : w27.cell? ⟨gb207, 0, none⟩ = some (.int .i64 0) := (blk_cell BK207.out 0).trans rfl; have hcz30_1 : w27.cell? ⟨gb207, 1, none⟩ = some (.int .i64 0) := (blk_cell BK207.out 1).trans rfl; have hcz30_2 : w27.cell? ⟨gb207, 2, none⟩ = some (.int .i64 0) := (blk_cell BK207.out 2).trans rfl; have hfz30_0 := blk_frozen BK207.out 0; have hfz30_1 := blk_frozen BK207.out 1; have hfz30_2 := blk_frozen BK207.out 2; have hnb31 := NB205_200.out; have hnc31 := NB200_205.out; have hcz32_0 : w27.cell? ⟨gb205, 0, none⟩ = some (.int .i64 ((rd_T73 l0_2 x13_1).f0)) := (blk_cell BK205.out 0).trans rfl; have hcz32_1 : w27.cell? ⟨gb205, 1, none⟩ = some (.int .i64 ((rd_T73 l0_2 x13_1).f1)) := (blk_cell BK205.out 1).trans rfl; have hcz32_2 : w27.cell? ⟨gb205, 2, none⟩ = some (.int .i64 ((rd_T73 l0_2 x13_1).f2)) := (blk_cell BK205.out 2).trans rfl; have hfz32_0 := blk_frozen BK205.out 0; have hfz32_1 := blk_frozen BK205.out 1; have hfz32_2 := blk_frozen BK205.out 2) | ((with_reducible refine gate_callee (f := 102) rfl ?_); refine goesL_ (some 65) rfl rfl Try.func102 (by kernel_rfl) rfl #[.bool true] rfl itp ?_; (with_reducible refine (impl_bit.calls true t208 _ A26.out).mono ?_); rintro e w' ⟨rfl, ⟨nd, rfl⟩⟩; refine ⟨_, rfl, ?_⟩))
                go_roundg k3
                case measure => have := HK1.out; have := HJ8.out; have := HK3.out; omega
                case rel => exact ⟨(wrap64 (x6_3 + t208)), (wrap64 (x28_3 + 1)), (by first | rfl | (simp; done) | (simp [*]; done)), (by first | rfl | (simp; done) | (simp [*]; done)), H', ⟨by have := HK1.out; have := HJ8.out; have := HK3.out; omega⟩, ⟨by (with_reducible repeat (first | apply Kd.S_alloc | apply Kd.S_drewN | apply Kd.S_drew)); exact Kd.S_mono (Kd.S_far (p := ⟨gb207, 2, none⟩) (Kd.S_far (p := ⟨gb207, 1, none⟩) (Kd.S_far (p := ⟨gb207, 0, none⟩) (Kd.S_types HO_3.out BK207.out (by decide)) (fun _ hk => hk.2) (.int .i64 ((rd_T73 l0_2 x28_3).f0))) (fun _ hk => hk.2) (.int .i64 ((rd_T73 l0_2 x28_3).f1))) (fun _ hk => hk.2) (.int .i64 ((rd_T73 l0_2 x28_3).f2))) (fun _ hk => trivial)⟩, ⟨upF BK200⟩, ⟨upF BK205⟩, ⟨upW HB⟩⟩
               ·rw [if_neg c25] at H
                have c25b0 : (((rd_T73 l0_2 x28_3).f1) == ((rd_T73 l0_2 x13_1).f1)) = false := beq_eq_false_iff_ne.mpr c25
                have c25b1 : (((rd_T73 l0_2 x28_3).f1) != ((rd_T73 l0_2 x13_1).f1)) = true := bne_iff_ne.mpr c25
                replace H := Option.bind_eq_some_iff.mp H
                obtain ⟨t209, A330, H⟩ := H
                replace H : (impl_Cut_crosses.l1 k3 x3_1 (wrap64 (x6_3 + t209)) l0_2 (l0_2.length : Int) x13_1 l0_2 (l0_2.length : Int) (wrap64 (x28_3 + 1)) a0_0 a0_1 l0_2 ((rd_T73 l0_2 x13_1).f0) ((rd_T73 l0_2 x13_1).f1) ((rd_T73 l0_2 x13_1).f2)) = some r := H
                have A33 := Aside0.mk A330
                clear A330
                have H' := Aside0.mk H
                clear H
                have p206 : 0 ≤ (x28_3 : Int) := of_decide_eq_true (by first | (with_reducible assumption) | assumption)
                have q206 : x28_3 < (l0_2.length : Int) := of_decide_eq_true (by first | (with_reducible assumption) | assumption)
                obtain ⟨ad206, e206, hx206_0, hx206_1, hx206_2⟩ := at_T73 HR0_2.out x28_3 p206 q206
                obtain rfl : ad204 = ad206 := (by injection e206)
                replace hx206_0 := (HB.out.cell (World.block_lt_of_cell? w _ hx206_0)).trans hx206_0
                replace hx206_1 := (HB.out.cell (World.block_lt_of_cell? w _ hx206_1)).trans hx206_1
                replace hx206_2 := (HB.out.cell (World.block_lt_of_cell? w _ hx206_2)).trans hx206_2
                replace p206 := eq_true p206
                replace q206 := eq_true q206
                go_wp2_with (first | ((with_reducible refine gate_dst (N := 8) rfl ?_); refine box_event ?hg (N := 8) ?hd (cs := #[.int .i64 0, .int .i64 0, .int .i64 0]) (t := 73) ?hr ?_; (case hd => rfl); (case hg => rfl); (case hr => first | (go_simp; done) | (go_simp; rfl)); intro gb207 hg w34 hbox hb; have n0_ := Aside0.mk (Kd.S_below (by (with_reducible repeat (first | apply Kd.S_alloc | apply Kd.S_drewN | apply Kd.S_drew)); exact HO_3.out) hb); have n1_ := Aside0.mk (blk_below (upK BK200) hb); have n2_ := Aside0.mk (blk_below (upK BK205) hb); have n3_ := Aside0.mk (below_step (upW HB) hb); have n4_ := Aside0.mk (hbox); have n5_ := Aside0.mk ((by rw [hg]; exact (below_size (upW HB)) : w.heap.size ≤ gb207)); have n6_ := Aside0.mk ((by rw [hg]; exact (below_size (upW HB)) : w.heap.size ≤ gb207)); have n7_ := Aside0.mk ((by rw [hg]; exact Nat.ne_of_lt (blk_lt (upK BK200)) : gb200 ≠ gb207)); have n8_ := Aside0.mk ((by rw [hg]; exact Nat.ne_of_gt (blk_lt (upK BK200)) : gb207 ≠ gb200)); have n9_ := Aside0.mk ((by rw [hg]; exact Nat.ne_of_lt (blk_lt (upK BK205)) : gb205 ≠ gb207)); have n10_ := Aside0.mk ((by rw [hg]; exact Nat.ne_of_gt (blk_lt (upK BK205)) : gb207 ≠ gb205)); clear HO_3; clear BK200; clear BK205; clear HB; have HO_3 := n0_; have BK200 := n1_; have BK205 := n2_; have HB := n3_; have BK207 := n4_; have GW207 := n5_; have GE207 := n6_; have NB200_207 := n7_; have NB207_200 := n8_; have NB205_207 := n9_; have NB207_205 := n10_; clear n0_ n1_ n2_ n3_ n4_ n5_ n6_ n7_ n8_ n9_ n10_; clear hb hbox hg; have hnb35 := NB207_200.out; have hnc35 := NB200_207.out; have hnb36 := NB207_205.out; have hnc36 := NB205_207.out; have hcz37_0 : w34.cell? ⟨gb207, 0, none⟩ = some (.int .i64 0) := (blk_cell BK207.out 0).trans rfl; have hcz37_1 : w34.cell? ⟨gb207, 1, none⟩ = some (.int .i64 0) := (blk_cell BK207.out 1).trans rfl; have hcz37_2 : w34.cell? ⟨gb207, 2, none⟩ = some (.int .i64 0) := (blk_cell BK207.out 2).trans rfl; have hfz37_0 := blk_frozen BK207.out 0; have hfz37_1 := blk_frozen BK207.out 1; have hfz37_2 := blk_frozen BK207.out 2; have hnb38 := NB205_200.out; have hnc38 := NB200_205.out; have hcz39_0 : w34.cell? ⟨gb205, 0, none⟩ = some (.int .i64 ((rd_T73 l0_2 x13_1).f0)) := (blk_cell BK205.out 0).trans rfl; have hcz39_1 : w34.cell? ⟨gb205, 1, none⟩ = some (.int .i64 ((rd_T73 l0_2 x13_1).f1)) := (blk_cell BK205.out 1).trans rfl; have hcz39_2 : w34.cell? ⟨gb205, 2, none⟩ = some (.int .i64 ((rd_T73 l0_2 x13_1).f2)) := (blk_cell BK205.out 2).trans rfl; have hfz39_0 := blk_frozen BK205.out 0; have hfz39_1 := blk_frozen BK205.out 1; have hfz39_2 := blk_frozen BK205.out 2) | ((with_reducible refine gate_callee (f := 102) rfl ?_); refine goesL_ (some 65) rfl rfl Try.func102 (by kernel_rfl) rfl #[.bool ((wrap64 (((rd_T73 l0_2 x28_3).f1) + ((rd_T73 l0_2 x28_3).f2))) == ((rd_T73 l0_2 x13_1).f1))] rfl itp ?_; (with_reducible refine (impl_bit.calls ((wrap64 (((rd_T73 l0_2 x28_3).f1) + ((rd_T73 l0_2 x28_3).f2))) == ((rd_T73 l0_2 x13_1).f1)) t209 _ A33.out).mono ?_); rintro e w' ⟨rfl, ⟨nd, rfl⟩⟩; refine ⟨_, rfl, ?_⟩))
                go_roundg k3
                case measure => have := HK1.out; have := HJ8.out; have := HK3.out; omega
                case rel => exact ⟨(wrap64 (x6_3 + t209)), (wrap64 (x28_3 + 1)), (by first | rfl | (simp; done) | (simp [*]; done)), (by first | rfl | (simp; done) | (simp [*]; done)), H', ⟨by have := HK1.out; have := HJ8.out; have := HK3.out; omega⟩, ⟨by (with_reducible repeat (first | apply Kd.S_alloc | apply Kd.S_drewN | apply Kd.S_drew)); exact Kd.S_mono (Kd.S_far (p := ⟨gb207, 2, none⟩) (Kd.S_far (p := ⟨gb207, 1, none⟩) (Kd.S_far (p := ⟨gb207, 0, none⟩) (Kd.S_types HO_3.out BK207.out (by decide)) (fun _ hk => hk.2) (.int .i64 ((rd_T73 l0_2 x28_3).f0))) (fun _ hk => hk.2) (.int .i64 ((rd_T73 l0_2 x28_3).f1))) (fun _ hk => hk.2) (.int .i64 ((rd_T73 l0_2 x28_3).f2))) (fun _ hk => trivial)⟩, ⟨upF BK200⟩, ⟨upF BK205⟩, ⟨upW HB⟩⟩
              ·rw [if_neg c24] at H
               have c24b0 : (((rd_T73 l0_2 x28_3).f0) == ((rd_T73 l0_2 x13_1).f0)) = false := beq_eq_false_iff_ne.mpr c24
               have c24b1 : (((rd_T73 l0_2 x28_3).f0) != ((rd_T73 l0_2 x13_1).f0)) = true := bne_iff_ne.mpr c24
               by_cases c40 : (wrap64 (((rd_T73 l0_2 x28_3).f0) + ((rd_T73 l0_2 x28_3).f2))) = ((rd_T73 l0_2 x13_1).f0)
               ·rw [if_pos c40] at H
                have c40b0 : ((wrap64 (((rd_T73 l0_2 x28_3).f0) + ((rd_T73 l0_2 x28_3).f2))) == ((rd_T73 l0_2 x13_1).f0)) = true := beq_iff_eq.mpr c40
                have c40b1 : ((wrap64 (((rd_T73 l0_2 x28_3).f0) + ((rd_T73 l0_2 x28_3).f2))) != ((rd_T73 l0_2 x13_1).f0)) = false := bne_eq_false_iff_eq.mpr c40
                clear c40
                by_cases c41 : ((rd_T73 l0_2 x28_3).f1) = ((rd_T73 l0_2 x13_1).f1)
                ·rw [if_pos c41] at H
                 have c41b0 : (((rd_T73 l0_2 x28_3).f1) == ((rd_T73 l0_2 x13_1).f1)) = true := beq_iff_eq.mpr c41
                 have c41b1 : (((rd_T73 l0_2 x28_3).f1) != ((rd_T73 l0_2 x13_1).f1)) = false := bne_eq_false_iff_eq.mpr c41
                 clear c41
                 replace H := Option.bind_eq_some_iff.mp H
                 obtain ⟨t210, A420, H⟩ := H
                 replace H : (impl_Cut_crosses.l1 k3 x3_1 (wrap64 (x6_3 + t210)) l0_2 (l0_2.length : Int) x13_1 l0_2 (l0_2.length : Int) (wrap64 (x28_3 + 1)) a0_0 a0_1 l0_2 ((rd_T73 l0_2 x13_1).f0) ((rd_T73 l0_2 x13_1).f1) ((rd_T73 l0_2 x13_1).f2)) = some r := H
                 have A42 := Aside0.mk A420
                 clear A420
                 have H' := Aside0.mk H
                 clear H
                 have p206 : 0 ≤ (x28_3 : Int) := of_decide_eq_true (by first | (with_reducible assumption) | assumption)
                 have q206 : x28_3 < (l0_2.length : Int) := of_decide_eq_true (by first | (with_reducible assumption) | assumption)
                 obtain ⟨ad206, e206, hx206_0, hx206_1, hx206_2⟩ := at_T73 HR0_2.out x28_3 p206 q206
                 obtain rfl : ad204 = ad206 := (by injection e206)
                 replace hx206_0 := (HB.out.cell (World.block_lt_of_cell? w _ hx206_0)).trans hx206_0
                 replace hx206_1 := (HB.out.cell (World.block_lt_of_cell? w _ hx206_1)).trans hx206_1
                 replace hx206_2 := (HB.out.cell (World.block_lt_of_cell? w _ hx206_2)).trans hx206_2
                 replace p206 := eq_true p206
                 replace q206 := eq_true q206
                 go_wp2_with (first | ((with_reducible refine gate_dst (N := 8) rfl ?_); refine box_event ?hg (N := 8) ?hd (cs := #[.int .i64 0, .int .i64 0, .int .i64 0]) (t := 73) ?hr ?_; (case hd => rfl); (case hg => rfl); (case hr => first | (go_simp; done) | (go_simp; rfl)); intro gb207 hg w43 hbox hb; have n0_ := Aside0.mk (Kd.S_below (by (with_reducible repeat (first | apply Kd.S_alloc | apply Kd.S_drewN | apply Kd.S_drew)); exact HO_3.out) hb); have n1_ := Aside0.mk (blk_below (upK BK200) hb); have n2_ := Aside0.mk (blk_below (upK BK205) hb); have n3_ := Aside0.mk (below_step (upW HB) hb); have n4_ := Aside0.mk (hbox); have n5_ := Aside0.mk ((by rw [hg]; exact (below_size (upW HB)) : w.heap.size ≤ gb207)); have n6_ := Aside0.mk ((by rw [hg]; exact (below_size (upW HB)) : w.heap.size ≤ gb207)); have n7_ := Aside0.mk ((by rw [hg]; exact Nat.ne_of_lt (blk_lt (upK BK200)) : gb200 ≠ gb207)); have n8_ := Aside0.mk ((by rw [hg]; exact Nat.ne_of_gt (blk_lt (upK BK200)) : gb207 ≠ gb200)); have n9_ := Aside0.mk ((by rw [hg]; exact Nat.ne_of_lt (blk_lt (upK BK205)) : gb205 ≠ gb207)); have n10_ := Aside0.mk ((by rw [hg]; exact Nat.ne_of_gt (blk_lt (upK BK205)) : gb207 ≠ gb205)); clear HO_3; clear BK200; clear BK205; clear HB; have HO_3 := n0_; have BK200 := n1_; have BK205 := n2_; have HB := n3_; have BK207 := n4_; have GW207 := n5_; have GE207 := n6_; have NB200_207 := n7_; have NB207_200 := n8_; have NB205_207 := n9_; have NB207_205 := n10_; clear n0_ n1_ n2_ n3_ n4_ n5_ n6_ n7_ n8_ n9_ n10_; clear hb hbox hg; have hnb44 := NB207_200.out; have hnc44 := NB200_207.out; have hnb45 := NB207_205.out; have hnc45 := NB205_207.out; have hcz46_0 : w43.cell? ⟨gb207, 0, none⟩ = some (.int .i64 0) := (blk_cell BK207.out 0).trans rfl; have hcz46_1 : w43.cell? ⟨gb207, 1, none⟩ = some (.int .i64 0) := (blk_cell BK207.out 1).trans rfl; have hcz46_2 : w43.cell? ⟨gb207, 2, none⟩ = some (.int .i64 0) := (blk_cell BK207.out 2).trans rfl; have hfz46_0 := blk_frozen BK207.out 0; have hfz46_1 := blk_frozen BK207.out 1; have hfz46_2 := blk_frozen BK207.out 2; have hnb47 := NB205_200.out; have hnc47 := NB200_205.out; have hcz48_0 : w43.cell? ⟨gb205, 0, none⟩ = some (.int .i64 ((rd_T73 l0_2 x13_1).f0)) := (blk_cell BK205.out 0).trans rfl; have hcz48_1 : w43.cell? ⟨gb205, 1, none⟩ = some (.int .i64 ((rd_T73 l0_2 x13_1).f1)) := (blk_cell BK205.out 1).trans rfl; have hcz48_2 : w43.cell? ⟨gb205, 2, none⟩ = some (.int .i64 ((rd_T73 l0_2 x13_1).f2)) := (blk_cell BK205.out 2).trans rfl; have hfz48_0 := blk_frozen BK205.out 0; have hfz48_1 := blk_frozen BK205.out 1; have hfz48_2 := blk_frozen BK205.out 2) | ((with_reducible refine gate_callee (f := 102) rfl ?_); refine goesL_ (some 65) rfl rfl Try.func102 (by kernel_rfl) rfl #[.bool true] rfl itp ?_; (with_reducible refine (impl_bit.calls true t210 _ A42.out).mono ?_); rintro e w' ⟨rfl, ⟨nd, rfl⟩⟩; refine ⟨_, rfl, ?_⟩))
                 go_roundg k3
                 case measure => have := HK1.out; have := HJ8.out; have := HK3.out; omega
                 case rel => exact ⟨(wrap64 (x6_3 + t210)), (wrap64 (x28_3 + 1)), (by first | rfl | (simp; done) | (simp [*]; done)), (by first | rfl | (simp; done) | (simp [*]; done)), H', ⟨by have := HK1.out; have := HJ8.out; have := HK3.out; omega⟩, ⟨by (with_reducible repeat (first | apply Kd.S_alloc | apply Kd.S_drewN | apply Kd.S_drew)); exact Kd.S_mono (Kd.S_far (p := ⟨gb207, 2, none⟩) (Kd.S_far (p := ⟨gb207, 1, none⟩) (Kd.S_far (p := ⟨gb207, 0, none⟩) (Kd.S_types HO_3.out BK207.out (by decide)) (fun _ hk => hk.2) (.int .i64 ((rd_T73 l0_2 x28_3).f0))) (fun _ hk => hk.2) (.int .i64 ((rd_T73 l0_2 x28_3).f1))) (fun _ hk => hk.2) (.int .i64 ((rd_T73 l0_2 x28_3).f2))) (fun _ hk => trivial)⟩, ⟨upF BK200⟩, ⟨upF BK205⟩, ⟨upW HB⟩⟩
                ·rw [if_neg c41] at H
                 have c41b0 : (((rd_T73 l0_2 x28_3).f1) == ((rd_T73 l0_2 x13_1).f1)) = false := beq_eq_false_iff_ne.mpr c41
                 have c41b1 : (((rd_T73 l0_2 x28_3).f1) != ((rd_T73 l0_2 x13_1).f1)) = true := bne_iff_ne.mpr c41
                 replace H := Option.bind_eq_some_iff.mp H
                 obtain ⟨t211, A490, H⟩ := H
                 replace H : (impl_Cut_crosses.l1 k3 x3_1 (wrap64 (x6_3 + t211)) l0_2 (l0_2.length : Int) x13_1 l0_2 (l0_2.length : Int) (wrap64 (x28_3 + 1)) a0_0 a0_1 l0_2 ((rd_T73 l0_2 x13_1).f0) ((rd_T73 l0_2 x13_1).f1) ((rd_T73 l0_2 x13_1).f2)) = some r := H
                 have A49 := Aside0.mk A490
                 clear A490
                 have H' := Aside0.mk H
                 clear H
                 have p206 : 0 ≤ (x28_3 : Int) := of_decide_eq_true (by first | (with_reducible assumption) | assumption)
                 have q206 : x28_3 < (l0_2.length : Int) := of_decide_eq_true (by first | (with_reducible assumption) | assumption)
                 obtain ⟨ad206, e206, hx206_0, hx206_1, hx206_2⟩ := at_T73 HR0_2.out x28_3 p206 q206
                 obtain rfl : ad204 = ad206 := (by injection e206)
                 replace hx206_0 := (HB.out.cell (World.block_lt_of_cell? w _ hx206_0)).trans hx206_0
                 replace hx206_1 := (HB.out.cell (World.block_lt_of_cell? w _ hx206_1)).trans hx206_1
                 replace hx206_2 := (HB.out.cell (World.block_lt_of_cell? w _ hx206_2)).trans hx206_2
                 replace p206 := eq_true p206
                 replace q206 := eq_true q206
                 go_wp2_with (first | ((with_reducible refine gate_dst (N := 8) rfl ?_); refine box_event ?hg (N := 8) ?hd (cs := #[.int .i64 0, .int .i64 0, .int .i64 0]) (t := 73) ?hr ?_; (case hd => rfl); (case hg => rfl); (case hr => first | (go_simp; done) | (go_simp; rfl)); intro gb207 hg w50 hbox hb; have n0_ := Aside0.mk (Kd.S_below (by (with_reducible repeat (first | apply Kd.S_alloc | apply Kd.S_drewN | apply Kd.S_drew)); exact HO_3.out) hb); have n1_ := Aside0.mk (blk_below (upK BK200) hb); have n2_ := Aside0.mk (blk_below (upK BK205) hb); have n3_ := Aside0.mk (below_step (upW HB) hb); have n4_ := Aside0.mk (hbox); have n5_ := Aside0.mk ((by rw [hg]; exact (below_size (upW HB)) : w.heap.size ≤ gb207)); have n6_ := Aside0.mk ((by rw [hg]; exact (below_size (upW HB)) : w.heap.size ≤ gb207)); have n7_ := Aside0.mk ((by rw [hg]; exact Nat.ne_of_lt (blk_lt (upK BK200)) : gb200 ≠ gb207)); have n8_ := Aside0.mk ((by rw [hg]; exact Nat.ne_of_gt (blk_lt (upK BK200)) : gb207 ≠ gb200)); have n9_ := Aside0.mk ((by rw [hg]; exact Nat.ne_of_lt (blk_lt (upK BK205)) : gb205 ≠ gb207)); have n10_ := Aside0.mk ((by rw [hg]; exact Nat.ne_of_gt (blk_lt (upK BK205)) : gb207 ≠ gb205)); clear HO_3; clear BK200; clear BK205; clear HB; have HO_3 := n0_; have BK200 := n1_; have BK205 := n2_; have HB := n3_; have BK207 := n4_; have GW207 := n5_; have GE207 := n6_; have NB200_207 := n7_; have NB207_200 := n8_; have NB205_207 := n9_; have NB207_205 := n10_; clear n0_ n1_ n2_ n3_ n4_ n5_ n6_ n7_ n8_ n9_ n10_; clear hb hbox hg; have hnb51 := NB207_200.out; have hnc51 := NB200_207.out; have hnb52 := NB207_205.out; have hnc52 := NB205_207.out; have hcz53_0 : w50.cell? ⟨gb207, 0, none⟩ = some (.int .i64 0) := (blk_cell BK207.out 0).trans rfl; have hcz53_1 : w50.cell? ⟨gb207, 1, none⟩ = some (.int .i64 0) := (blk_cell BK207.out 1).trans rfl; have hcz53_2 : w50.cell? ⟨gb207, 2, none⟩ = some (.int .i64 0) := (blk_cell BK207.out 2).trans rfl; have hfz53_0 := blk_frozen BK207.out 0; have hfz53_1 := blk_frozen BK207.out 1; have hfz53_2 := blk_frozen BK207.out 2; have hnb54 := NB205_200.out; have hnc54 := NB200_205.out; have hcz55_0 : w50.cell? ⟨gb205, 0, none⟩ = some (.int .i64 ((rd_T73 l0_2 x13_1).f0)) := (blk_cell BK205.out 0).trans rfl; have hcz55_1 : w50.cell? ⟨gb205, 1, none⟩ = some (.int .i64 ((rd_T73 l0_2 x13_1).f1)) := (blk_cell BK205.out 1).trans rfl; have hcz55_2 : w50.cell? ⟨gb205, 2, none⟩ = some (.int .i64 ((rd_T73 l0_2 x13_1).f2)) := (blk_cell BK205.out 2).trans rfl; have hfz55_0 := blk_frozen BK205.out 0; have hfz55_1 := blk_frozen BK205.out 1; have hfz55_2 := blk_frozen BK205.out 2) | ((with_reducible refine gate_callee (f := 102) rfl ?_); refine goesL_ (some 65) rfl rfl Try.func102 (by kernel_rfl) rfl #[.bool ((wrap64 (((rd_T73 l0_2 x28_3).f1) + ((rd_T73 l0_2 x28_3).f2))) == ((rd_T73 l0_2 x13_1).f1))] rfl itp ?_; (with_reducible refine (impl_bit.calls ((wrap64 (((rd_T73 l0_2 x28_3).f1) + ((rd_T73 l0_2 x28_3).f2))) == ((rd_T73 l0_2 x13_1).f1)) t211 _ A49.out).mono ?_); rintro e w' ⟨rfl, ⟨nd, rfl⟩⟩; refine ⟨_, rfl, ?_⟩))
                 go_roundg k3
                 case measure => have := HK1.out; have := HJ8.out; have := HK3.out; omega
                 case rel => exact ⟨(wrap64 (x6_3 + t211)), (wrap64 (x28_3 + 1)), (by first | rfl | (simp; done) | (simp [*]; done)), (by first | rfl | (simp; done) | (simp [*]; done)), H', ⟨by have := HK1.out; have := HJ8.out; have := HK3.out; omega⟩, ⟨by (with_reducible repeat (first | apply Kd.S_alloc | apply Kd.S_drewN | apply Kd.S_drew)); exact Kd.S_mono (Kd.S_far (p := ⟨gb207, 2, none⟩) (Kd.S_far (p := ⟨gb207, 1, none⟩) (Kd.S_far (p := ⟨gb207, 0, none⟩) (Kd.S_types HO_3.out BK207.out (by decide)) (fun _ hk => hk.2) (.int .i64 ((rd_T73 l0_2 x28_3).f0))) (fun _ hk => hk.2) (.int .i64 ((rd_T73 l0_2 x28_3).f1))) (fun _ hk => hk.2) (.int .i64 ((rd_T73 l0_2 x28_3).f2))) (fun _ hk => trivial)⟩, ⟨upF BK200⟩, ⟨upF BK205⟩, ⟨upW HB⟩⟩
               ·rw [if_neg c40] at H
                have c40b0 : ((wrap64 (((rd_T73 l0_2 x28_3).f0) + ((rd_T73 l0_2 x28_3).f2))) == ((rd_T73 l0_2 x13_1).f0)) = false := beq_eq_false_iff_ne.mpr c40
                have c40b1 : ((wrap64 (((rd_T73 l0_2 x28_3).f0) + ((rd_T73 l0_2 x28_3).f2))) != ((rd_T73 l0_2 x13_1).f0)) = true := bne_iff_ne.mpr c40
                replace H := Option.bind_eq_some_iff.mp H
                obtain ⟨t212, A560, H⟩ := H
                replace H : (impl_Cut_crosses.l1 k3 x3_1 (wrap64 (x6_3 + t212)) l0_2 (l0_2.length : Int) x13_1 l0_2 (l0_2.length : Int) (wrap64 (x28_3 + 1)) a0_0 a0_1 l0_2 ((rd_T73 l0_2 x13_1).f0) ((rd_T73 l0_2 x13_1).f1) ((rd_T73 l0_2 x13_1).f2)) = some r := H
                have A56 := Aside0.mk A560
                clear A560
                have H' := Aside0.mk H
                clear H
                have p206 : 0 ≤ (x28_3 : Int) := of_decide_eq_true (by first | (with_reducible assumption) | assumption)
                have q206 : x28_3 < (l0_2.length : Int) := of_decide_eq_true (by first | (with_reducible assumption) | assumption)
                obtain ⟨ad206, e206, hx206_0, hx206_1, hx206_2⟩ := at_T73 HR0_2.out x28_3 p206 q206
                obtain rfl : ad204 = ad206 := (by injection e206)
                replace hx206_0 := (HB.out.cell (World.block_lt_of_cell? w _ hx206_0)).trans hx206_0
                replace hx206_1 := (HB.out.cell (World.block_lt_of_cell? w _ hx206_1)).trans hx206_1
                replace hx206_2 := (HB.out.cell (World.block_lt_of_cell? w _ hx206_2)).trans hx206_2
                replace p206 := eq_true p206
                replace q206 := eq_true q206
                go_wp2_with (first | ((with_reducible refine gate_dst (N := 8) rfl ?_); refine box_event ?hg (N := 8) ?hd (cs := #[.int .i64 0, .int .i64 0, .int .i64 0]) (t := 73) ?hr ?_; (case hd => rfl); (case hg => rfl); (case hr => first | (go_simp; done) | (go_simp; rfl)); intro gb207 hg w57 hbox hb; have n0_ := Aside0.mk (Kd.S_below (by (with_reducible repeat (first | apply Kd.S_alloc | apply Kd.S_drewN | apply Kd.S_drew)); exact HO_3.out) hb); have n1_ := Aside0.mk (blk_below (upK BK200) hb); have n2_ := Aside0.mk (blk_below (upK BK205) hb); have n3_ := Aside0.mk (below_step (upW HB) hb); have n4_ := Aside0.mk (hbox); have n5_ := Aside0.mk ((by rw [hg]; exact (below_size (upW HB)) : w.heap.size ≤ gb207)); have n6_ := Aside0.mk ((by rw [hg]; exact (below_size (upW HB)) : w.heap.size ≤ gb207)); have n7_ := Aside0.mk ((by rw [hg]; exact Nat.ne_of_lt (blk_lt (upK BK200)) : gb200 ≠ gb207)); have n8_ := Aside0.mk ((by rw [hg]; exact Nat.ne_of_gt (blk_lt (upK BK200)) : gb207 ≠ gb200)); have n9_ := Aside0.mk ((by rw [hg]; exact Nat.ne_of_lt (blk_lt (upK BK205)) : gb205 ≠ gb207)); have n10_ := Aside0.mk ((by rw [hg]; exact Nat.ne_of_gt (blk_lt (upK BK205)) : gb207 ≠ gb205)); clear HO_3; clear BK200; clear BK205; clear HB; have HO_3 := n0_; have BK200 := n1_; have BK205 := n2_; have HB := n3_; have BK207 := n4_; have GW207 := n5_; have GE207 := n6_; have NB200_207 := n7_; have NB207_200 := n8_; have NB205_207 := n9_; have NB207_205 := n10_; clear n0_ n1_ n2_ n3_ n4_ n5_ n6_ n7_ n8_ n9_ n10_; clear hb hbox hg; have hnb58 := NB207_200.out; have hnc58 := NB200_207.out; have hnb59 := NB207_205.out; have hnc59 := NB205_207.out; have hcz60_0 : w57.cell? ⟨gb207, 0, none⟩ = some (.int .i64 0) := (blk_cell BK207.out 0).trans rfl; have hcz60_1 : w57.cell? ⟨gb207, 1, none⟩ = some (.int .i64 0) := (blk_cell BK207.out 1).trans rfl; have hcz60_2 : w57.cell? ⟨gb207, 2, none⟩ = some (.int .i64 0) := (blk_cell BK207.out 2).trans rfl; have hfz60_0 := blk_frozen BK207.out 0; have hfz60_1 := blk_frozen BK207.out 1; have hfz60_2 := blk_frozen BK207.out 2; have hnb61 := NB205_200.out; have hnc61 := NB200_205.out; have hcz62_0 : w57.cell? ⟨gb205, 0, none⟩ = some (.int .i64 ((rd_T73 l0_2 x13_1).f0)) := (blk_cell BK205.out 0).trans rfl; have hcz62_1 : w57.cell? ⟨gb205, 1, none⟩ = some (.int .i64 ((rd_T73 l0_2 x13_1).f1)) := (blk_cell BK205.out 1).trans rfl; have hcz62_2 : w57.cell? ⟨gb205, 2, none⟩ = some (.int .i64 ((rd_T73 l0_2 x13_1).f2)) := (blk_cell BK205.out 2).trans rfl; have hfz62_0 := blk_frozen BK205.out 0; have hfz62_1 := blk_frozen BK205.out 1; have hfz62_2 := blk_frozen BK205.out 2) | ((with_reducible refine gate_callee (f := 102) rfl ?_); refine goesL_ (some 65) rfl rfl Try.func102 (by kernel_rfl) rfl #[.bool false] rfl itp ?_; (with_reducible refine (impl_bit.calls false t212 _ A56.out).mono ?_); rintro e w' ⟨rfl, ⟨nd, rfl⟩⟩; refine ⟨_, rfl, ?_⟩))
                go_roundg k3
                case measure => have := HK1.out; have := HJ8.out; have := HK3.out; omega
                case rel => exact ⟨(wrap64 (x6_3 + t212)), (wrap64 (x28_3 + 1)), (by first | rfl | (simp; done) | (simp [*]; done)), (by first | rfl | (simp; done) | (simp [*]; done)), H', ⟨by have := HK1.out; have := HJ8.out; have := HK3.out; omega⟩, ⟨by (with_reducible repeat (first | apply Kd.S_alloc | apply Kd.S_drewN | apply Kd.S_drew)); exact Kd.S_mono (Kd.S_far (p := ⟨gb207, 2, none⟩) (Kd.S_far (p := ⟨gb207, 1, none⟩) (Kd.S_far (p := ⟨gb207, 0, none⟩) (Kd.S_types HO_3.out BK207.out (by decide)) (fun _ hk => hk.2) (.int .i64 ((rd_T73 l0_2 x28_3).f0))) (fun _ hk => hk.2) (.int .i64 ((rd_T73 l0_2 x28_3).f1))) (fun _ hk => hk.2) (.int .i64 ((rd_T73 l0_2 x28_3).f2))) (fun _ hk => trivial)⟩, ⟨upF BK200⟩, ⟨upF BK205⟩, ⟨upW HB⟩⟩
             ·rw [if_neg c23] at H
              exact absurd H (by simp)
            ·rw [if_neg c22] at H
             exact absurd H (by simp)
           ·rw [if_neg c21] at H
            have c21b0 : decide (x28_3 < (l0_2.length : Int)) = false := decide_eq_false c21
            clear c21
            by_cases c63 : x6_3 = 4
            ·rw [if_pos c63] at H
             have c63b0 : (x6_3 == 4) = true := beq_iff_eq.mpr c63
             have c63b1 : (x6_3 != 4) = false := bne_eq_false_iff_eq.mpr c63
             clear c63
             obtain ⟨y213, hy213⟩ : ∃ y_ : List Int, y_ = (([((rd_T73 l0_2 x13_1).f0), ((rd_T73 l0_2 x13_1).f1)] : List Int)) := ⟨_, rfl⟩
             replace H : (if x3_1.length < 5864062014805 then (impl_Cut_crosses.l0 k3 (x3_1 ++ [y213]) l0_2 (l0_2.length : Int) (wrap64 (x13_1 + 1)) a0_0 a0_1 l0_2) else (none)) = some r := by first | (rw [hy213]; with_reducible exact H) | (have H2_ := (Option.bind_some _ _).symm.trans H; rw [hy213]; with_reducible exact H2_) | (have H2_ := (Option.bind_some _ _).symm.trans H; with_reducible exact H2_) | with_reducible exact H | (rw [hy213]; exact H) | exact H
             have Ny213 := Aside0.mk hy213
             clear hy213
             by_cases c64 : x3_1.length < 5864062014805
             ·rw [if_pos c64] at H
              have LMc64 := Aside0.mk c64
              clear c64
              obtain ⟨y216, hy216⟩ : ∃ y_ : List (List Int), y_ = (x3_1 ++ [y213]) := ⟨_, rfl⟩
              replace H : (impl_Cut_crosses.l0 k3 y216 l0_2 (l0_2.length : Int) (wrap64 (x13_1 + 1)) a0_0 a0_1 l0_2) = some r := by first | (rw [hy216]; with_reducible exact H) | (have H2_ := (Option.bind_some _ _).symm.trans H; rw [hy216]; with_reducible exact H2_) | (have H2_ := (Option.bind_some _ _).symm.trans H; with_reducible exact H2_) | with_reducible exact H | (rw [hy216]; exact H) | exact H
              have Ny216 := Aside0.mk hy216
              clear hy216
              have H' := Aside0.mk H
              clear H
              have hnb65 := NB205_200.out
              have hnc65 := NB200_205.out
              have hcz66_0 : wr.cell? ⟨gb205, 0, none⟩ = some (.int .i64 ((rd_T73 l0_2 x13_1).f0)) := (blk_cell BK205.out 0).trans rfl
              have hcz66_1 : wr.cell? ⟨gb205, 1, none⟩ = some (.int .i64 ((rd_T73 l0_2 x13_1).f1)) := (blk_cell BK205.out 1).trans rfl
              have hcz66_2 : wr.cell? ⟨gb205, 2, none⟩ = some (.int .i64 ((rd_T73 l0_2 x13_1).f2)) := (blk_cell BK205.out 2).trans rfl
              have hfz66_0 := blk_frozen BK205.out 0
              have hfz66_1 := blk_frozen BK205.out 1
              have hfz66_2 := blk_frozen BK205.out 2
              go_wp2_with (first | ((with_reducible refine gate_dst (N := 75) rfl ?_); refine Kd.R_lit (Kd.int .i64) _ 3 ?hg (N := 75) ?hd (xs := ([((rd_T73 l0_2 x13_1).f0), ((rd_T73 l0_2 x13_1).f1)] : List Int)) (inner := [.int .i64 ((rd_T73 l0_2 x13_1).f0), .int .i64 ((rd_T73 l0_2 x13_1).f1)]) (ok := fun _ => True) (okp := fun _ => True) ?hr ?hp (fun _ hk => hk) trivial (Below.refl _ _) (Nat.le_refl _) (by simp) ?_; (case hd => rfl); (case hg => rfl); (case hr => first | (go_simp; done) | (go_simp; rfl)); (case hp => exact (Reps.one (show Kd.M (Kd.int .i64) _ _ _ ((rd_T73 l0_2 x13_1).f0) [.int .i64 ((rd_T73 l0_2 x13_1).f0)] from rfl) (Reps.one (show Kd.M (Kd.int .i64) _ _ _ ((rd_T73 l0_2 x13_1).f1) [.int .i64 ((rd_T73 l0_2 x13_1).f1)] from rfl) (Reps.none _ _)))); intro v214 w67 ho68 hb hg_ hnew_; clear hg_ hnew_; (first | rw [← Ny213.out] at ho68 | (simp only [Int.reduceToNat] at ho68; rw [← Ny213.out] at ho68)); have n0_ := Aside0.mk (Kd.S_elder' (by (with_reducible repeat (first | apply Kd.S_alloc | apply Kd.S_drewN | apply Kd.S_drew)); exact HO_3.out) (Kd.R_base ho68) hb); have n1_ := Aside0.mk (Kd.R_lower ho68 (below_size (upW HB))); have n2_ := Aside0.mk (blk_below (upK BK200) hb); have n3_ := Aside0.mk (blk_below (upK BK205) hb); have n4_ := Aside0.mk (below_step (upW HB) hb); clear HO_3; clear BK200; clear BK205; clear HB; have HO_3 := n0_; have HO215 := n1_; have BK200 := n2_; have BK205 := n3_; have HB := n4_; clear n0_ n1_ n2_ n3_ n4_; clear hb ho68; obtain ⟨Ao70, co70, eo70⟩ := Kd.R_slice HO215.out; subst eo70) | ((with_reducible refine gate_builtin (b := .append) (xs := #[.tmp 70, .tmp 76]) rfl ?_); at_builtin; refine Kd.S_append (Kd.slice 3 (Kd.int .i64)) (w0 := w) w.heap.size rfl (.tmp 70) (.tmp 76) 26 41 (.slice none 0 0) 24 rfl Try.underlying26 info41 rfl (by decide) (by omega) u3 x3_1 y213 [.slice Ao70 y213.length co70] (fun _ => True) (fun k_ => some k_ = (.slice Ao70 y213.length co70 : Value).ownBlock) rfl rfl ?aP (fun k_ hk_ => ((Kd.R_mono (ok' := fun k_ => ((fun _ => True)) k_ ∧ some k_ ≠ (u3 : Value).ownBlock) (Kd.R_apart' (HO215.out) (Kd.S_typed HO_3.out) (by decide)) (fun k_ hk => ⟨trivial, hk.2⟩))).1 k_ hk_.symm) ?aF ?aO ?aB ?aS ?aL ?_; (case aP => exact Kd.M_row (Kd.R_mono (Kd.R_tight rfl (Kd.R_mono (ok' := fun k_ => ((fun _ => True)) k_ ∧ some k_ ≠ (u3 : Value).ownBlock) (Kd.R_apart' (HO215.out) (Kd.S_typed HO_3.out) (by decide)) (fun k_ hk => ⟨trivial, hk.2⟩))) (fun _ h_ => h_))); (case aB => exact (upW HB)); (case aF => exact (fun _ _ => trivial)); (case aO => exact (by (with_reducible repeat (first | apply Kd.S_alloc | apply Kd.S_drewN | apply Kd.S_drew)); exact Kd.S_mono HO_3.out (fun k_ hk => ⟨trivial, fun e_ => hk.2 e_⟩))); (case aS => exact (below_size (upW HB))); (case aL => have := LMc64.out; omega); intro v217 w69 ho hb hg hat; rw [← Ny216.out] at ho; have n0_ := Aside0.mk (blk_grown (upK BK200) hg (Kd.S_ne HO_3.out BK200.out (by decide))); have n1_ := Aside0.mk (blk_grown (upK BK205) hg (Kd.S_ne HO_3.out BK205.out (by decide))); have n2_ := Aside0.mk (hb); have n3_ := Aside0.mk (ho); clear BK200; clear BK205; clear HB; clear HO_3; clear HO215; have BK200 := n0_; have BK205 := n1_; have HB := n2_; have HO218 := n3_; clear n0_ n1_ n2_ n3_; clear ho hb hg hat))
              go_roundg k3
              case measure => have := HK1.out; have := HJ8.out; have := HK3.out; omega
              case rel => exact ⟨(y216), (wrap64 (x13_1 + 1)), (by first | rfl | (simp; done) | (simp [*]; done)), H', ⟨by have := HK1.out; have := HJ8.out; have := HK3.out; omega⟩, ⟨by (with_reducible repeat (first | apply Kd.S_alloc | apply Kd.S_drewN | apply Kd.S_drew)); exact HO218.out⟩, ⟨upK BK200⟩, ⟨upW HB⟩⟩
             ·rw [if_neg c64] at H
              exact absurd H (by simp)
            ·rw [if_neg c63] at H
             have c63b0 : (x6_3 == 4) = false := beq_eq_false_iff_ne.mpr c63
             have c63b1 : (x6_3 != 4) = true := bne_iff_ne.mpr c63
             have H' := Aside0.mk H
             clear H
             go_wp2
             go_roundg k3
             case measure => have := HK1.out; have := HJ8.out; have := HK3.out; omega
             case rel => exact ⟨(x3_1), (wrap64 (x13_1 + 1)), (by first | rfl | (simp; done) | (simp [*]; done)), H', ⟨by have := HK1.out; have := HJ8.out; have := HK3.out; omega⟩, ⟨by (with_reducible repeat (first | apply Kd.S_alloc | apply Kd.S_drewN | apply Kd.S_drew)); exact HO_3.out⟩, ⟨upK BK200⟩, ⟨upW HB⟩⟩
     ·rw [if_neg c8] at H
      exact absurd H (by simp)
    ·rw [if_neg c7] at H
     exact absurd H (by simp)
   ·rw [if_neg c6] at H
    have c6b0 : decide (x13_1 < (l0_2.length : Int)) = false := decide_eq_false c6
    clear c6
    obtain rfl := Option.some.inj H
    go_wp2
    go_ret
    exact ⟨_, by first | rfl | (simp [errW_none, errW_some] <;> rfl) | (simp [*, errW_none, errW_some] <;> rfl), by (with_reducible repeat (first | apply Kd.S_alloc | apply Kd.S_drewN | apply Kd.S_drew)); exact HO_3.out, by repeat (first | (with_reducible first | exact HB.out | apply below_alloc | apply pw_below_drewN | apply below_drew1 | refine below_set ?_ GE200.out) | exact HB.out)⟩

/-! ### impl_CrossesOf: function 23 -/
def impl_CrossesOf.f (k : Nat) (a0_0 : Int) (a0_1 : Int) (l0_2 : List (S73)) : Option ((List (List Int)) × Bool) := (impl_IsCut.f k a0_0 a0_1 l0_2).bind fun t220 => (if t220 = true then ((impl_Cut_crosses.f k a0_0 a0_1 l0_2).bind fun t221 => (some (t221, true))) else (some (([] : List (List Int)), false)))
set_option maxHeartbeats 8000000 in
set_option maxRecDepth 100000 in
theorem impl_CrossesOf.calls (k : Nat) (a0_0 : Int) (a0_1 : Int) (A0_2 : Option Addr) (c0_2 : Nat) (l0_2 : List (S73)) (r1 : List (List Int)) (r2 : Bool) (w : World) (hr0_2 : Kd.C k73 w A0_2 l0_2.length l0_2) (hc0_2 : l0_2.length ≤ c0_2) (h : impl_CrossesOf.f k a0_0 a0_1 l0_2 = some (r1, r2)) :
  Calls Try.prog 23 #[.agg #[.int .i64 a0_0, .int .i64 a0_1, .slice A0_2 l0_2.length c0_2]] w fun e w' => ∃ v0_ : Value, e = .returned (.tuple #[v0_, .bool r2]) ∧ Kd.S (Kd.slice 3 (Kd.int .i64)) 41 w' w.heap.size (fun _ => True) v0_ r1 ∧ Below w.heap.size w w' := by
 have hu31 := Try.underlying31
 have HR0_2 := Aside0.mk hr0_2
 have HC0_2 := Aside0.mk hc0_2
 clear hr0_2 hc0_2
 have HB := Aside0.mk (Below.refl w.heap.size w)
 have H : ((impl_IsCut.f k a0_0 a0_1 l0_2).bind fun t220 => (if t220 = true then ((impl_Cut_crosses.f k a0_0 a0_1 l0_2).bind fun t221 => (some (t221, true))) else (some (([] : List (List Int)), false)))) = some (r1, r2) := h
 clear h
 replace H := Option.bind_eq_some_iff.mp H
 obtain ⟨t220, A20, H⟩ := H
 replace H : (if t220 = true then ((impl_Cut_crosses.f k a0_0 a0_1 l0_2).bind fun t221 => (some (t221, true))) else (some (([] : List (List Int)), false))) = some (r1, r2) := H
 have A2 := Aside0.mk A20
 clear A20
 by_cases c3 : t220 = true
 ·subst c3
  have H1 : ((impl_Cut_crosses.f k a0_0 a0_1 l0_2).bind fun t221 => (some (t221, true))) = some (r1, r2) := by rw [if_pos rfl] at H; exact H
  clear H
  have H := H1
  clear H1
  replace H := Option.bind_eq_some_iff.mp H
  obtain ⟨t221, A40, H⟩ := H
  replace H : (some (t221, true)) = some (r1, r2) := H
  have A4 := Aside0.mk A40
  clear A40
  simp only [Option.some.injEq, Prod.mk.injEq] at H
  obtain ⟨rfl, rfl⟩ := H
  go_enter Try.func23, Try.ntmps23
  go_wp2_with (first | ((with_reducible refine gate_dst (N := 1) rfl ?_); refine box_event ?hg (N := 1) ?hd (cs := #[.int .i64 a0_0, .int .i64 a0_1, .slice A0_2 l0_2.length c0_2]) (t := 31) ?hr ?_; (case hd => rfl); (case hg => rfl); (case hr => first | (go_simp; done) | (go_simp; rfl)); intro gb219 hg w5 hbox hb; have n0_ := Aside0.mk (below_step (upW HB) hb); have n1_ := Aside0.mk (hbox); have n2_ := Aside0.mk ((by rw [hg]; exact (below_size (upW HB)) : w.heap.size ≤ gb219)); have n3_ := Aside0.mk ((by rw [hg]; exact (below_size (upW HB)) : w.heap.size ≤ gb219)); clear HB; have HB := n0_; have BK219 := n1_; have GW219 := n2_; have GE219 := n3_; clear n0_ n1_ n2_ n3_; clear hb hbox hg; have hcz6_0 : w5.cell? ⟨gb219, 0, none⟩ = some (.int .i64 a0_0) := (blk_cell BK219.out 0).trans rfl; have hcz6_1 : w5.cell? ⟨gb219, 1, none⟩ = some (.int .i64 a0_1) := (blk_cell BK219.out 1).trans rfl; have hcz6_2 : w5.cell? ⟨gb219, 2, none⟩ = some (.slice A0_2 l0_2.length c0_2) := (blk_cell BK219.out 2).trans rfl; have hfz6_0 := blk_frozen BK219.out 0; have hfz6_1 := blk_frozen BK219.out 1; have hfz6_2 := blk_frozen BK219.out 2) | ((with_reducible refine gate_callee (f := 56) rfl ?_); refine goesL_ (some 5) rfl rfl Try.func56 (by kernel_rfl) rfl #[.agg #[.int .i64 a0_0, .int .i64 a0_1, .slice A0_2 l0_2.length c0_2]] rfl itp ?_; (with_reducible refine (impl_IsCut.calls k a0_0 a0_1 _ _ l0_2 true _ ?side1 ?side2 A2.out).mono ?_); (case side1 => repeat (first | exact (Kd.C_below HR0_2.out HB.out) | (with_reducible refine Kd.C_alloc ?_ _) | (with_reducible refine Kd.C_drewN ?_ _) | (with_reducible refine Kd.C_drew ?_))); (case side2 => exact HC0_2.out); rintro e w7 ⟨rfl, hb⟩; refine ⟨_, rfl, ?_⟩; have n0_ := Aside0.mk (blk_below (upK BK219) hb); have n1_ := Aside0.mk (below_step (upW HB) hb); clear BK219; clear HB; have BK219 := n0_; have HB := n1_; clear n0_ n1_; (try clear hb); (try clear hb2); (try clear hk); (try clear hi); have hcz8_0 : w7.cell? ⟨gb219, 0, none⟩ = some (.int .i64 a0_0) := (blk_cell BK219.out 0).trans rfl; have hcz8_1 : w7.cell? ⟨gb219, 1, none⟩ = some (.int .i64 a0_1) := (blk_cell BK219.out 1).trans rfl; have hcz8_2 : w7.cell? ⟨gb219, 2, none⟩ = some (.slice A0_2 l0_2.length c0_2) := (blk_cell BK219.out 2).trans rfl; have hfz8_0 := blk_frozen BK219.out 0; have hfz8_1 := blk_frozen BK219.out 1; have hfz8_2 := blk_frozen BK219.out 2) | ((with_reducible refine gate_callee (f := 59) rfl ?_); refine goesL_ (some 8) rfl rfl Try.func59 (by kernel_rfl) rfl #[.agg #[.int .i64 a0_0, .int .i64 a0_1, .slice A0_2 l0_2.length c0_2]] rfl itp ?_; (with_reducible refine (impl_Cut_crosses.calls k a0_0 a0_1 _ _ l0_2 t221 _ ?side1 ?side2 A4.out).mono ?_); (case side1 => repeat (first | exact (Kd.C_below HR0_2.out HB.out) | (with_reducible refine Kd.C_alloc ?_ _) | (with_reducible refine Kd.C_drewN ?_ _) | (with_reducible refine Kd.C_drew ?_))); (case side2 => exact HC0_2.out); rintro e w9 ⟨v222, rfl, ho0, hb⟩; refine ⟨_, rfl, ?_⟩; have n0_ := Aside0.mk (Kd.S_lower ho0 (below_size (upW HB))); have n1_ := Aside0.mk (blk_below (upK BK219) hb); have n2_ := Aside0.mk (below_step (upW HB) hb); clear BK219; clear HB; have HO223 := n0_; have BK219 := n1_; have HB := n2_; clear n0_ n1_ n2_; (try clear hb); (try clear hb2); (try clear hk); (try clear hi); (try clear ho0)))
  go_ret2
  exact ⟨_, by first | rfl | (simp [errW_none, errW_some] <;> rfl) | (simp [*, errW_none, errW_some] <;> rfl), by (with_reducible repeat (first | apply Kd.S_alloc | apply Kd.S_drewN | apply Kd.S_drew)); exact HO223.out, by repeat (first | (with_reducible first | exact HB.out | apply below_alloc | apply pw_below_drewN | apply below_drew1 | refine below_set ?_ GE219.out) | exact HB.out)⟩
 ·replace c3 := Bool.eq_false_iff.mpr c3
  subst c3
  have H1 : (some (([] : List (List Int)), false)) = some (r1, r2) := by rw [if_neg (show ¬ (false = true) by decide)] at H; exact H
  clear H
  have H := H1
  clear H1
  simp only [Option.some.injEq, Prod.mk.injEq] at H
  obtain ⟨rfl, rfl⟩ := H
  go_enter Try.func23, Try.ntmps23
  go_wp2_with (first | ((with_reducible refine gate_dst (N := 1) rfl ?_); refine box_event ?hg (N := 1) ?hd (cs := #[.int .i64 a0_0, .int .i64 a0_1, .slice A0_2 l0_2.length c0_2]) (t := 31) ?hr ?_; (case hd => rfl); (case hg => rfl); (case hr => first | (go_simp; done) | (go_simp; rfl)); intro gb219 hg w10 hbox hb; have n0_ := Aside0.mk (below_step (upW HB) hb); have n1_ := Aside0.mk (hbox); have n2_ := Aside0.mk ((by rw [hg]; exact (below_size (upW HB)) : w.heap.size ≤ gb219)); have n3_ := Aside0.mk ((by rw [hg]; exact (below_size (upW HB)) : w.heap.size ≤ gb219)); clear HB; have HB := n0_; have BK219 := n1_; have GW219 := n2_; have GE219 := n3_; clear n0_ n1_ n2_ n3_; clear hb hbox hg; have hcz11_0 : w10.cell? ⟨gb219, 0, none⟩ = some (.int .i64 a0_0) := (blk_cell BK219.out 0).trans rfl; have hcz11_1 : w10.cell? ⟨gb219, 1, none⟩ = some (.int .i64 a0_1) := (blk_cell BK219.out 1).trans rfl; have hcz11_2 : w10.cell? ⟨gb219, 2, none⟩ = some (.slice A0_2 l0_2.length c0_2) := (blk_cell BK219.out 2).trans rfl; have hfz11_0 := blk_frozen BK219.out 0; have hfz11_1 := blk_frozen BK219.out 1; have hfz11_2 := blk_frozen BK219.out 2) | ((with_reducible refine gate_callee (f := 56) rfl ?_); refine goesL_ (some 5) rfl rfl Try.func56 (by kernel_rfl) rfl #[.agg #[.int .i64 a0_0, .int .i64 a0_1, .slice A0_2 l0_2.length c0_2]] rfl itp ?_; (with_reducible refine (impl_IsCut.calls k a0_0 a0_1 _ _ l0_2 false _ ?side1 ?side2 A2.out).mono ?_); (case side1 => repeat (first | exact (Kd.C_below HR0_2.out HB.out) | (with_reducible refine Kd.C_alloc ?_ _) | (with_reducible refine Kd.C_drewN ?_ _) | (with_reducible refine Kd.C_drew ?_))); (case side2 => exact HC0_2.out); rintro e w12 ⟨rfl, hb⟩; refine ⟨_, rfl, ?_⟩; have n0_ := Aside0.mk (blk_below (upK BK219) hb); have n1_ := Aside0.mk (below_step (upW HB) hb); clear BK219; clear HB; have BK219 := n0_; have HB := n1_; clear n0_ n1_; (try clear hb); (try clear hb2); (try clear hk); (try clear hi)))
  go_ret2
  exact ⟨_, by first | rfl | (simp [errW_none, errW_some] <;> rfl) | (simp [*, errW_none, errW_some] <;> rfl), by first | exact Kd.S_nil _ _ _ _ _ | exact Kd.N_nil _ _ _ _ _ | exact Kd.V_nil _ _ _ _ _ | exact Kd.Q_nil _ _ _ _ _ | exact Kd.R_nil _ _ _ _ _, by repeat (first | (with_reducible first | exact HB.out | apply below_alloc | apply pw_below_drewN | apply below_drew1 | refine below_set ?_ GE219.out) | exact HB.out)⟩

end Go.Proofs.Ythnjbpabiamkjaa.PFnExactCrossesOf
