-- made for this claim by a program of this session
import Derived.Test.YtconglobpdgjhaaPFnExactSquaresAtEdgesx0
import Derived.Test.YtconglobpdgjhaaPFnExactSquaresAtEdgesx3
namespace Go.Proofs.Ytconglobpdgjhaa.PFnExactSquaresAtEdges
open Go.RowKit Go.Proofs.YtconglobpdgjhaaW.PrintWords Go.Proofs.YtconglobpdgjhaaW.PrintLast Go.Proofs.YtconglobpdgjhaaW.PrintMore
attribute [local go_sem] max2_int min2_int max_two min_two max_three min_three max_four min_four   -- for this text's walks alone
set_option linter.unusedVariables false
set_option linter.unusedSimpArgs false

/-! ### spec_SquaresAtEdges: function 45 -/
mutual
def spec_SquaresAtEdges.l0 : Nat → List Int → List (S74) → Int → Int → Int → Int → List (S74) → Option (List Int × Bool)
 | 0, _, _, _, _, _, _, _ => none
 | k + 1, x4, x12, x13, x14, x157000, x157001, x157002 => if x14 < x13 then (if 0 ≤ x14 then (if x14 < (x12.length : Int) then (if ((rd_T74 x12 x14).f1) = 0 then (if 0 < (x4.length : Int) then (spec_SquaresAtEdges.j1 k (x4.set (0 : Int).toNat (wrap64 ((rd x4 0) + 1))) x12 x13 x14 x157000 x157001 x157002 ((rd_T74 x12 x14).f0) ((rd_T74 x12 x14).f1) ((rd_T74 x12 x14).f2)) else (none)) else (spec_SquaresAtEdges.j1 k x4 x12 x13 x14 x157000 x157001 x157002 ((rd_T74 x12 x14).f0) ((rd_T74 x12 x14).f1) ((rd_T74 x12 x14).f2))) else (none)) else (none)) else (some (x4, true))
def spec_SquaresAtEdges.j1 : Nat → List Int → List (S74) → Int → Int → Int → Int → List (S74) → Int → Int → Int → Option (List Int × Bool)
 | 0, _, _, _, _, _, _, _, _, _, _ => none
 | k + 1, x4, x12, x13, x14, x157000, x157001, x157002, x163000, x163001, x163002 => if (wrap64 (x163000 + x163002)) = x157000 then (if 1 < (x4.length : Int) then (spec_SquaresAtEdges.j2 k (x4.set (1 : Int).toNat (wrap64 ((rd x4 1) + 1))) x12 x13 x14 x157000 x157001 x157002 x163000 x163001 x163002) else (none)) else (spec_SquaresAtEdges.j2 k x4 x12 x13 x14 x157000 x157001 x157002 x163000 x163001 x163002)
def spec_SquaresAtEdges.j2 : Nat → List Int → List (S74) → Int → Int → Int → Int → List (S74) → Int → Int → Int → Option (List Int × Bool)
 | 0, _, _, _, _, _, _, _, _, _, _ => none
 | k + 1, x4, x12, x13, x14, x157000, x157001, x157002, x163000, x163001, x163002 => if (wrap64 (x163001 + x163002)) = x157001 then (if 2 < (x4.length : Int) then ((some (x4.set (2 : Int).toNat (wrap64 ((rd x4 2) + 1)) : List Int)).bind fun y168 => (if x163000 = 0 then (if 3 < (x4.length : Int) then (spec_SquaresAtEdges.l0 k (y168.set (3 : Int).toNat (wrap64 ((rd y168 3) + 1))) x12 x13 (wrap64 (x14 + 1)) x157000 x157001 x157002) else (none)) else (spec_SquaresAtEdges.l0 k y168 x12 x13 (wrap64 (x14 + 1)) x157000 x157001 x157002))) else (none)) else (if x163000 = 0 then (if 3 < (x4.length : Int) then (spec_SquaresAtEdges.l0 k (x4.set (3 : Int).toNat (wrap64 ((rd x4 3) + 1))) x12 x13 (wrap64 (x14 + 1)) x157000 x157001 x157002) else (none)) else (spec_SquaresAtEdges.l0 k x4 x12 x13 (wrap64 (x14 + 1)) x157000 x157001 x157002))
end
def spec_SquaresAtEdges.f (k : Nat) (a0_0 : Int) (a0_1 : Int) (l0_2 : List (S74)) : Option (List Int × Bool) := (spec_cuGood.f k a0_0 a0_1 l0_2).bind fun t157 => (if t157 = true then (if 4 ≤ 35184372088832 then (spec_SquaresAtEdges.l0 k (List.replicate 4 0) l0_2 (l0_2.length : Int) 0 a0_0 a0_1 l0_2) else (none)) else (some (([] : List Int), false)))
set_option maxHeartbeats 8000000 in
set_option maxRecDepth 100000 in
theorem spec_SquaresAtEdges.calls (k : Nat) (a0_0 : Int) (a0_1 : Int) (A0_2 : Option Addr) (c0_2 : Nat) (l0_2 : List (S74)) (r1 : List Int) (r2 : Bool) (w : World) (hr0_2 : Kd.C k74 w A0_2 l0_2.length l0_2) (hc0_2 : l0_2.length ≤ c0_2) (h : spec_SquaresAtEdges.f k a0_0 a0_1 l0_2 = some (r1, r2)) :
  Calls Try.prog 45 #[.agg #[.int .i64 a0_0, .int .i64 a0_1, .slice A0_2 l0_2.length c0_2]] w fun e w' => ∃ v0_ : Value, e = .returned (.tuple #[v0_, .bool r2]) ∧ Kd.R (Kd.int .i64) 3 w' w.heap.size (fun _ => True) v0_ r1 ∧ Below w.heap.size w w' := by
 have hu29 := Try.underlying29
 have hu74 := Try.underlying74
 have HR0_2 := Aside0.mk hr0_2
 have HC0_2 := Aside0.mk hc0_2
 clear hr0_2 hc0_2
 have HB := Aside0.mk (Below.refl w.heap.size w)
 have H : ((spec_cuGood.f k a0_0 a0_1 l0_2).bind fun t157 => (if t157 = true then (if 4 ≤ 35184372088832 then (spec_SquaresAtEdges.l0 k (List.replicate 4 0) l0_2 (l0_2.length : Int) 0 a0_0 a0_1 l0_2) else (none)) else (some (([] : List Int), false)))) = some (r1, r2) := h
 clear h
 replace H := Option.bind_eq_some_iff.mp H
 obtain ⟨t157, A20, H⟩ := H
 replace H : (if t157 = true then (if 4 ≤ 35184372088832 then (spec_SquaresAtEdges.l0 k (List.replicate 4 0) l0_2 (l0_2.length : Int) 0 a0_0 a0_1 l0_2) else (none)) else (some (([] : List Int), false))) = some (r1, r2) := H
 have A2 := Aside0.mk A20
 clear A20
 by_cases c3 : t157 = true
 ·subst c3
  have H1 : (if 4 ≤ 35184372088832 then (spec_SquaresAtEdges.l0 k (List.replicate 4 0) l0_2 (l0_2.length : Int) 0 a0_0 a0_1 l0_2) else (none)) = some (r1, r2) := by rw [if_pos rfl] at H; exact H
  clear H
  have H := H1
  clear H1
  by_cases c4 : 4 ≤ 35184372088832
  ·rw [if_pos c4] at H
   have c4b0 := eq_true c4
   have c4b1 : decide (4 ≤ 35184372088832) = true := decide_eq_true c4
   clear c4
   obtain ⟨y158, hy158⟩ : ∃ y_ : List Int, y_ = (List.replicate 4 0) := ⟨_, rfl⟩
   replace H : (spec_SquaresAtEdges.l0 k y158 l0_2 (l0_2.length : Int) 0 a0_0 a0_1 l0_2) = some (r1, r2) := by first | (rw [hy158]; with_reducible exact H) | (have H2_ := (Option.bind_some _ _).symm.trans H; rw [hy158]; with_reducible exact H2_) | (have H2_ := (Option.bind_some _ _).symm.trans H; with_reducible exact H2_) | with_reducible exact H | (rw [hy158]; exact H) | exact H
   have Ny158 := Aside0.mk hy158
   clear hy158
   have H' := Aside0.mk H
   clear H
   go_enter Try.func45, Try.ntmps45
   go_wp2_with (first | ((with_reducible refine gate_dst (N := 1) rfl ?_); refine box_event ?hg (N := 1) ?hd (cs := #[.int .i64 a0_0, .int .i64 a0_1, .slice A0_2 l0_2.length c0_2]) (t := 29) ?hr ?_; (case hd => rfl); (case hg => rfl); (case hr => first | (go_simp; done) | (go_simp; rfl)); intro gb156 hg w5 hbox hb; have n0_ := Aside0.mk (below_step (upW HB) hb); have n1_ := Aside0.mk (hbox); have n2_ := Aside0.mk ((by rw [hg]; exact (below_size (upW HB)) : w.heap.size ≤ gb156)); have n3_ := Aside0.mk ((by rw [hg]; exact (below_size (upW HB)) : w.heap.size ≤ gb156)); clear HB; have HB := n0_; have BK156 := n1_; have GW156 := n2_; have GE156 := n3_; clear n0_ n1_ n2_ n3_; clear hb hbox hg; have hcz6_0 : w5.cell? ⟨gb156, 0, none⟩ = some (.int .i64 a0_0) := (blk_cell BK156.out 0).trans rfl; have hcz6_1 : w5.cell? ⟨gb156, 1, none⟩ = some (.int .i64 a0_1) := (blk_cell BK156.out 1).trans rfl; have hcz6_2 : w5.cell? ⟨gb156, 2, none⟩ = some (.slice A0_2 l0_2.length c0_2) := (blk_cell BK156.out 2).trans rfl; have hfz6_0 := blk_frozen BK156.out 0; have hfz6_1 := blk_frozen BK156.out 1; have hfz6_2 := blk_frozen BK156.out 2) | ((with_reducible refine gate_callee (f := 48) rfl ?_); refine goesL_ (some 8) rfl rfl Try.func48 (by kernel_rfl) rfl #[.agg #[.int .i64 a0_0, .int .i64 a0_1, .slice A0_2 l0_2.length c0_2]] rfl itp ?_; (with_reducible refine (spec_cuGood.calls k a0_0 a0_1 _ _ l0_2 true _ ?side1 ?side2 A2.out).mono ?_); (case side1 => repeat (first | exact (Kd.C_below HR0_2.out HB.out) | (with_reducible refine Kd.C_alloc ?_ _) | (with_reducible refine Kd.C_drewN ?_ _) | (with_reducible refine Kd.C_drew ?_))); (case side2 => exact HC0_2.out); rintro e w7 ⟨rfl, hb⟩; refine ⟨_, rfl, ?_⟩; have n0_ := Aside0.mk (blk_below (upK BK156) hb); have n1_ := Aside0.mk (below_step (upW HB) hb); clear BK156; clear HB; have BK156 := n0_; have HB := n1_; clear n0_ n1_; (try clear hb); (try clear hb2); (try clear hk); (try clear hi)) | ((with_reducible refine gate_dst (N := 10) rfl ?_); refine Kd.R_make (Kd.int .i64) _ 3 rfl (N := 10) rfl 58 _ _ rfl 4 rfl rfl Try.underlying58 (.int .i64 0) 8 info3 rfl (by decide) (by omega) 0 (ok := fun _ => True) (okp := fun _ => True) rfl (fun _ hk => hk) trivial (by omega) (by omega) (Below.refl _ _) (Nat.le_refl _) ?_; intro v159 w8 ho9 hb hg_ hnew_; clear hg_ hnew_; (first | rw [← Ny158.out] at ho9 | (simp only [Int.reduceToNat] at ho9; rw [← Ny158.out] at ho9)); have n0_ := Aside0.mk (Kd.R_lower ho9 (below_size (upW HB))); have n1_ := Aside0.mk (blk_below (upK BK156) hb); have n2_ := Aside0.mk (below_step (upW HB) hb); clear BK156; clear HB; have HO160 := n0_; have BK156 := n1_; have HB := n2_; clear n0_ n1_ n2_; clear hb ho9; have hcz10_0 : w8.cell? ⟨gb156, 0, none⟩ = some (.int .i64 a0_0) := (blk_cell BK156.out 0).trans rfl; have hcz10_1 : w8.cell? ⟨gb156, 1, none⟩ = some (.int .i64 a0_1) := (blk_cell BK156.out 1).trans rfl; have hcz10_2 : w8.cell? ⟨gb156, 2, none⟩ = some (.slice A0_2 l0_2.length c0_2) := (blk_cell BK156.out 2).trans rfl; have hfz10_0 := blk_frozen BK156.out 0; have hfz10_1 := blk_frozen BK156.out 1; have hfz10_2 := blk_frozen BK156.out 2))
   go_loopg [14] k (fun kq v14 w' => ∃ (x4_1 : List Int) (x14_1 : Int), v14 = .int .i64 x14_1 ∧ Aside0 (spec_SquaresAtEdges.l0 kq x4_1 l0_2 (l0_2.length : Int) x14_1 a0_0 a0_1 l0_2 = some (r1, r2)) ∧ Aside0 (kq ≤ k) ∧ Aside0 (Kd.R (Kd.int .i64) 3 w' w.heap.size (fun _ => True) v159 x4_1) ∧ Aside0 (w'.heap[gb156]? = some (.cells #[.int .i64 a0_0, .int .i64 a0_1, (.slice A0_2 l0_2.length c0_2)] 29 (0, 0))) ∧ Aside0 (Below w.heap.size w w'))
   case atStart => exact ⟨(y158), (0), (by first | rfl | (simp; done) | (simp [*]; done)), H', ⟨Nat.le_refl _⟩, ⟨upR HO160⟩, ⟨upK BK156⟩, ⟨upW HB⟩⟩
   case round =>
    clear H'
    try clear p2
    try clear c3
    try clear c4
    try clear c4b0
    try clear c4b1
    try clear hcz10_0
    try clear hcz10_1
    try clear hcz10_2
    try clear hcz6_0
    try clear hcz6_1
    try clear hcz6_2
    try clear hfz10_0
    try clear hfz10_1
    try clear hfz10_2
    try clear hfz6_0
    try clear hfz6_1
    try clear hfz6_2
    obtain ⟨x4_1, x14_1, rfl, HA, HK1, HO_4, BK156, HB⟩ := hrel
    cases gk with
    | zero => exact absurd HA.out (by simp [spec_SquaresAtEdges.l0])
    | succ k1 =>
     have H := HA.out
     clear HA
     simp only [spec_SquaresAtEdges.l0] at H
     by_cases c11 : x14_1 < (l0_2.length : Int)
     ·rw [if_pos c11] at H
      have c11b0 : decide (x14_1 < (l0_2.length : Int)) = true := decide_eq_true c11
      clear c11
      by_cases c12 : 0 ≤ x14_1
      ·rw [if_pos c12] at H
       have c12b0 : decide (0 ≤ x14_1) = true := decide_eq_true c12
       clear c12
       by_cases c13 : x14_1 < (l0_2.length : Int)
       ·rw [if_pos c13] at H
        have c13b0 : decide (x14_1 < (l0_2.length : Int)) = true := decide_eq_true c13
        clear c13
        have HC14 := Aside0.mk H
        clear H
        have p161 : 0 ≤ (x14_1 : Int) := of_decide_eq_true (by first | (with_reducible assumption) | assumption)
        have q161 : x14_1 < (l0_2.length : Int) := of_decide_eq_true (by first | (with_reducible assumption) | assumption)
        obtain ⟨ad161, e161, hx161_0, hx161_1, hx161_2⟩ := at_T74 HR0_2.out x14_1 p161 q161
        cases e161
        replace hx161_0 := (HB.out.cell (World.block_lt_of_cell? w _ hx161_0)).trans hx161_0
        replace hx161_1 := (HB.out.cell (World.block_lt_of_cell? w _ hx161_1)).trans hx161_1
        replace hx161_2 := (HB.out.cell (World.block_lt_of_cell? w _ hx161_2)).trans hx161_2
        replace p161 := eq_true p161
        replace q161 := eq_true q161
        go_upto_if 20 with (first | ((with_reducible refine gate_dst (N := 6) rfl ?_); refine box_event ?hg (N := 6) ?hd (cs := #[.int .i64 0, .int .i64 0, .int .i64 0]) (t := 74) ?hr ?_; (case hd => rfl); (case hg => rfl); (case hr => first | (go_simp; done) | (go_simp; rfl)); intro gb162 hg w15 hbox hb; have n0_ := Aside0.mk (Kd.R_below (upR HO_4) hb); have n1_ := Aside0.mk (blk_below (upK BK156) hb); have n2_ := Aside0.mk (below_step (upW HB) hb); have n3_ := Aside0.mk (hbox); have n4_ := Aside0.mk ((by rw [hg]; exact (below_size (upW HB)) : w.heap.size ≤ gb162)); have n5_ := Aside0.mk ((by rw [hg]; exact (below_size (upW HB)) : w.heap.size ≤ gb162)); have n6_ := Aside0.mk ((by rw [hg]; exact Nat.ne_of_lt (blk_lt (upK BK156)) : gb156 ≠ gb162)); have n7_ := Aside0.mk ((by rw [hg]; exact Nat.ne_of_gt (blk_lt (upK BK156)) : gb162 ≠ gb156)); clear HO_4; clear BK156; clear HB; have HO_4 := n0_; have BK156 := n1_; have HB := n2_; have BK162 := n3_; have GW162 := n4_; have GE162 := n5_; have NB156_162 := n6_; have NB162_156 := n7_; clear n0_ n1_ n2_ n3_ n4_ n5_ n6_ n7_; clear hb hbox hg; have hnb16 := NB162_156.out; have hnc16 := NB156_162.out; have hcz17_0 : w15.cell? ⟨gb162, 0, none⟩ = some (.int .i64 0) := (blk_cell BK162.out 0).trans rfl; have hcz17_1 : w15.cell? ⟨gb162, 1, none⟩ = some (.int .i64 0) := (blk_cell BK162.out 1).trans rfl; have hcz17_2 : w15.cell? ⟨gb162, 2, none⟩ = some (.int .i64 0) := (blk_cell BK162.out 2).trans rfl; have hfz17_0 := blk_frozen BK162.out 0; have hfz17_1 := blk_frozen BK162.out 1; have hfz17_2 := blk_frozen BK162.out 2) | ((with_reducible refine gate_store (t := 74) (p := 6) rfl ?_); refine store_event (t := 74) (p := 6) (v := ?vo_w18) (w1 := (((w15.setCell ⟨gb162, 0, none⟩ (.int .i64 ((rd_T74 l0_2 x14_1).f0))).setCell ⟨gb162, 1, none⟩ (.int .i64 ((rd_T74 l0_2 x14_1).f1))).setCell ⟨gb162, 2, none⟩ (.int .i64 ((rd_T74 l0_2 x14_1).f2)))) ?hg ?ho ?hn ?hr ?_; (case ho => rfl); (case hg => rfl); (case hn => rfl); (case hr => first | (go_simp; done) | (go_simp; rfl)); intro w18 hw; have n0_ : Aside0 (Kd.R (Kd.int .i64) 3 w18 w.heap.size (fun _ => True) v159 x4_1) := ⟨(by rw [hw]; exact (by (with_reducible repeat (first | apply Kd.R_alloc | apply Kd.R_drewN | apply Kd.R_drew)); exact Kd.R_mono (Kd.R_far (p := ⟨gb162, 2, none⟩) (Kd.R_far (p := ⟨gb162, 1, none⟩) (Kd.R_far (p := ⟨gb162, 0, none⟩) (Kd.R_types HO_4.out BK162.out (by decide)) (fun _ hk => hk.2) (.int .i64 ((rd_T74 l0_2 x14_1).f0))) (fun _ hk => hk.2) (.int .i64 ((rd_T74 l0_2 x14_1).f1))) (fun _ hk => hk.2) (.int .i64 ((rd_T74 l0_2 x14_1).f2))) (fun _ hk => trivial)))⟩; have n1_ : Aside0 (w18.heap[gb156]? = some (.cells #[.int .i64 a0_0, .int .i64 a0_1, .slice (some ad161) l0_2.length c0_2] 29 (0, 0))) := ⟨(by rw [hw]; exact (upF BK156))⟩; have n2_ : Aside0 (w18.heap[gb162]? = some (.cells #[.int .i64 ((rd_T74 l0_2 x14_1).f0), .int .i64 ((rd_T74 l0_2 x14_1).f1), .int .i64 ((rd_T74 l0_2 x14_1).f2)] 74 (0, 0))) := ⟨(by rw [hw]; exact (by (with_reducible repeat (first | refine blk_drewN ?_ _ | refine blk_drew ?_ | refine blk_alloc ?_ _)); refine blk_put (cs := #[.int .i64 ((rd_T74 l0_2 x14_1).f0), .int .i64 ((rd_T74 l0_2 x14_1).f1), .int .i64 0]) ?_ 2 _ rfl; (with_reducible repeat (first | refine blk_drewN ?_ _ | refine blk_drew ?_ | refine blk_alloc ?_ _)); refine blk_put (cs := #[.int .i64 ((rd_T74 l0_2 x14_1).f0), .int .i64 0, .int .i64 0]) ?_ 1 _ rfl; (with_reducible repeat (first | refine blk_drewN ?_ _ | refine blk_drew ?_ | refine blk_alloc ?_ _)); refine blk_put (cs := #[.int .i64 0, .int .i64 0, .int .i64 0]) ?_ 0 _ rfl; (with_reducible repeat (first | refine blk_drewN ?_ _ | refine blk_drew ?_ | refine blk_alloc ?_ _)); exact BK162.out))⟩; have n3_ : Aside0 (Below w.heap.size w w18) := ⟨(by rw [hw]; exact (upW HB))⟩; clear hw; clear HO_4; clear BK156; clear BK162; clear HB; have HO_4 := n0_; have BK156 := n1_; have BK162 := n2_; have HB := n3_; clear n0_ n1_ n2_ n3_; have hcz19_0 : w18.cell? ⟨gb162, 0, none⟩ = some (.int .i64 ((rd_T74 l0_2 x14_1).f0)) := (blk_cell BK162.out 0).trans rfl; have hcz19_1 : w18.cell? ⟨gb162, 1, none⟩ = some (.int .i64 ((rd_T74 l0_2 x14_1).f1)) := (blk_cell BK162.out 1).trans rfl; have hcz19_2 : w18.cell? ⟨gb162, 2, none⟩ = some (.int .i64 ((rd_T74 l0_2 x14_1).f2)) := (blk_cell BK162.out 2).trans rfl; have hfz19_0 := blk_frozen BK162.out 0; have hfz19_1 := blk_frozen BK162.out 1; have hfz19_2 := blk_frozen BK162.out 2))
        (try simp only [Act.put, List.setIfInBounds_toArray, List.set_cons_zero, List.set_cons_succ])
        go_cut [] (fun wc => ∃ (kq : Nat) (x4_13 : List Int), Aside0 (spec_SquaresAtEdges.j1 kq x4_13 l0_2 (l0_2.length : Int) x14_1 a0_0 a0_1 l0_2 ((rd_T74 l0_2 x14_1).f0) ((rd_T74 l0_2 x14_1).f1) ((rd_T74 l0_2 x14_1).f2) = some (r1, r2)) ∧ Aside0 (kq ≤ k1) ∧ Aside0 (Kd.R (Kd.int .i64) 3 wc w.heap.size (fun _ => True) v159 x4_13) ∧ Aside0 (wc.heap[gb156]? = some (.cells #[.int .i64 a0_0, .int .i64 a0_1, (.slice (some ad161) l0_2.length c0_2)] 29 (0, 0))) ∧ Aside0 (wc.heap[gb162]? = some (.cells #[.int .i64 ((rd_T74 l0_2 x14_1).f0), .int .i64 ((rd_T74 l0_2 x14_1).f1), .int .i64 ((rd_T74 l0_2 x14_1).f2)] 74 (0, 0))) ∧ Aside0 (Below w.heap.size w wc))
        case first =>
         have H := HC14.out
         clear HC14
         by_cases c20 : ((rd_T74 l0_2 x14_1).f1) = 0
         ·rw [if_pos c20] at H
          have c20b0 : (((rd_T74 l0_2 x14_1).f1) == 0) = true := beq_iff_eq.mpr c20
          have c20b1 : (((rd_T74 l0_2 x14_1).f1) != 0) = false := bne_eq_false_iff_eq.mpr c20
          clear c20
          (first | rw [c20b0] | (simp only [i64_w, i32_w]; rw [c20b0]) | skip)
          by_cases c21 : 0 < (x4_1.length : Int)
          ·rw [if_pos c21] at H
           have c21b0 : decide (0 < (x4_1.length : Int)) = true := decide_eq_true c21
           have c21b1 : decide (0 < x4_1.length) = true := decide_eq_true (by omega)
           clear c21
           obtain ⟨y164, hy164⟩ : ∃ y_ : List Int, y_ = (x4_1.set (0 : Int).toNat (wrap64 ((rd x4_1 0) + 1))) := ⟨_, rfl⟩
           replace H : (spec_SquaresAtEdges.j1 k1 y164 l0_2 (l0_2.length : Int) x14_1 a0_0 a0_1 l0_2 ((rd_T74 l0_2 x14_1).f0) ((rd_T74 l0_2 x14_1).f1) ((rd_T74 l0_2 x14_1).f2)) = some (r1, r2) := by first | (rw [hy164]; with_reducible exact H) | (have H2_ := (Option.bind_some _ _).symm.trans H; rw [hy164]; with_reducible exact H2_) | (have H2_ := (Option.bind_some _ _).symm.trans H; with_reducible exact H2_) | with_reducible exact H | (rw [hy164]; exact H) | exact H
           have Ny164 := Aside0.mk hy164
           clear hy164
           have H' := Aside0.mk H
           clear H
           obtain ⟨Ao23, co23, eo23⟩ := Kd.R_slice HO_4.out
           subst eo23
           have p163 : 0 ≤ (0 : Int) := (by omega)
           have q163 : 0 < (x4_1.length : Int) := of_decide_eq_true (by first | (with_reducible assumption) | assumption)
           obtain ⟨ad163, e163, hx163_0⟩ := Kd.at_int (Kd.R_reads' HO_4.out).2.2 0 p163 q163
           cases e163
           have qi163 : (0 < x4_1.length) = True := eq_true (by omega)
           (try rw [show ((0 : Int)).toNat = 0 from rfl] at hx163_0)
           (try rw [Addr.add_zero'] at hx163_0)
           replace p163 := eq_true p163
           replace q163 := eq_true q163
           have p22 : 0 ≤ (0 : Int) := (by omega)
           have q22 : (0 : Int) < ((x4_1.length : Int) : Int) := of_decide_eq_true (by first | (with_reducible assumption) | assumption)
           have qi22 : (0 < x4_1.length) = True := eq_true (by omega)
           obtain ⟨go22, co22, eo22, gb22, gl22, cl22, HG22⟩ := Kd.R_form HO_4.out (by omega)
           (first | cases eo22 | (injection eo22 with ea_ en_ ec_; (first | subst ea_ | (injection ea_ with ea_; subst ea_)); subst ec_; clear en_))
           have GB22 := Aside0.mk gb22
           have GG22 := Aside0.mk HG22
           clear gb22 gl22 HG22
           (first | simp only [add_plain] at hx163_0 | skip)
           obtain ⟨hx22_0, hf22_0⟩ := Kd.R_celln 0 HO_4.out (0 : Int) p22 q22
           (try rw [show ((0 : Int)).toNat = 0 from rfl] at hx22_0)
           (try simp only [Nat.reduceMul, Nat.zero_mul, Nat.zero_add, Nat.reduceAdd] at hx22_0)
           (try rw [show ((0 : Int)).toNat = 0 from rfl] at hf22_0)
           (try simp only [Nat.reduceMul, Nat.zero_mul, Nat.zero_add, Nat.reduceAdd] at hf22_0)
           replace p22 := eq_true p22
           replace q22 := eq_true q22
           have HP24 := Kd.R_putg HO_4.out (0 : Int) (wrap64 ((rd x4_1 0) + 1))
           go_wp2_with (first | ((with_reducible refine gate_store (t := 3) (p := 25) rfl ?_); refine store_event (t := 3) (p := 25) (v := ?vo_w25) (w1 := (w18.setCell ⟨go22, (0 : Int).toNat, none⟩ (.int .i64 (wrap64 ((rd x4_1 0) + 1))))) ?hg ?ho ?hn ?hr ?_; (case ho => rfl); (case hg => rfl); (case hn => rfl); (case hr => first | (go_simp; done) | (go_simp; rfl)); intro w25 hw; have hg : w18.grownBy w25 (some go22) := (by rw [hw]; exact HP24.2); have hp_ : Kd.R (Kd.int .i64) 3 w25 w.heap.size (fun _ => True) (.slice (some ⟨go22, 0, none⟩) x4_1.length co23) y164 := (by rw [hw, Ny164.out]; exact HP24.1); clear HP24; have n0_ := Aside0.mk (hp_); have n1_ := Aside0.mk (blk_grown (upK BK156) hg (Kd.R_ne HO_4.out BK156.out (by decide))); have n2_ := Aside0.mk (blk_grown (upK BK162) hg (Kd.R_ne HO_4.out BK162.out (by decide))); have n3_ := Aside0.mk ((by rw [hw]; exact below_set (HB.out) GB22.out : Below w.heap.size w w25)); clear HO_4; clear BK156; clear BK162; clear HB; have HO_4 := n0_; have BK156 := n1_; have BK162 := n2_; have HB := n3_; clear n0_ n1_ n2_ n3_; clear hg hw hp_))
           go_meet
           case rel => exact ⟨_, (y164), H', ⟨by have := HK1.out; first | omega | exact Nat.le_refl _⟩, ⟨upR HO_4⟩, ⟨upK BK156⟩, ⟨upK BK162⟩, ⟨upW HB⟩⟩
          ·rw [if_neg c21] at H
           exact absurd H (by simp)
         ·rw [if_neg c20] at H
          have c20b0 : (((rd_T74 l0_2 x14_1).f1) == 0) = false := beq_eq_false_iff_ne.mpr c20
          have c20b1 : (((rd_T74 l0_2 x14_1).f1) != 0) = true := bne_iff_ne.mpr c20
          (first | rw [c20b0] | (simp only [i64_w, i32_w]; rw [c20b0]) | skip)
          have H' := Aside0.mk H
          clear H
          go_wp2
          go_meet
          case rel => exact ⟨_, (x4_1), H', ⟨by have := HK1.out; first | omega | exact Nat.le_refl _⟩, ⟨upR HO_4⟩, ⟨upK BK156⟩, ⟨upK BK162⟩, ⟨upW HB⟩⟩
        case rest =>
         clear HC14
         try clear c1
         try clear p1
         try clear q1
         try clear hx1
         try clear qi1
         try clear c2
         try clear p2
         try clear q2
         try clear hx2
         try clear qi2
         try clear hf2
         try clear c3
         try clear c4
         try clear c4b0
         try clear c4b1
         try clear p6
         try clear c11
         try clear c11b0
         try clear c12
         try clear c12b0
         try clear c13
         try clear c13b0
         try clear c16
         try clear p16
         try clear q16
         try clear hx16
         try clear qi16
         try clear c20
         try clear c20b0
         try clear c20b1
         try clear c21
         try clear c21b0
         try clear c21b1
         try clear p22
         try clear q22
         try clear hx22
         try clear qi22
         try clear hf22
         try clear hcz10_0
         try clear hcz10_1
         try clear hcz10_2
         try clear hcz17_0
         try clear hcz17_1
         try clear hcz17_2
         try clear hcz19_0
         try clear hcz19_1
         try clear hcz19_2
         try clear hcz6_0
         try clear hcz6_1
         try clear hcz6_2
         try clear hfz10_0
         try clear hfz10_1
         try clear hfz10_2
         try clear hfz17_0
         try clear hfz17_1
         try clear hfz17_2
         try clear hfz19_0
         try clear hfz19_1
         try clear hfz19_2
         try clear hfz6_0
         try clear hfz6_1
         try clear hfz6_2
         try clear hx161_0
         try clear hx161_1
         try clear hx161_2
         try clear hx163_0
         try clear hx22_0
         try clear p161
         try clear p163
         try clear p2
         try clear p22
         try clear q161
         try clear q163
         try clear q22
         obtain ⟨kq, x4_13, HA, HJ13, HO_4, BK156, BK162, HB⟩ := hcut
         cases kq with
         | zero => exact absurd HA.out (by simp [spec_SquaresAtEdges.j1])
         | succ kj13 =>
          have H := HA.out
          clear HA
          simp only [spec_SquaresAtEdges.j1] at H
          have HC26 := Aside0.mk H
          clear H
          have hnb27 := NB162_156.out
          have hnc27 := NB156_162.out
          have hcz28_0 : wc.cell? ⟨gb162, 0, none⟩ = some (.int .i64 ((rd_T74 l0_2 x14_1).f0)) := (blk_cell BK162.out 0).trans rfl
          have hcz28_1 : wc.cell? ⟨gb162, 1, none⟩ = some (.int .i64 ((rd_T74 l0_2 x14_1).f1)) := (blk_cell BK162.out 1).trans rfl
          have hcz28_2 : wc.cell? ⟨gb162, 2, none⟩ = some (.int .i64 ((rd_T74 l0_2 x14_1).f2)) := (blk_cell BK162.out 2).trans rfl
          have hfz28_0 := blk_frozen BK162.out 0
          have hfz28_1 := blk_frozen BK162.out 1
          have hfz28_2 := blk_frozen BK162.out 2
          have hcz29_0 : wc.cell? ⟨gb156, 0, none⟩ = some (.int .i64 a0_0) := (blk_cell BK156.out 0).trans rfl
          have hcz29_1 : wc.cell? ⟨gb156, 1, none⟩ = some (.int .i64 a0_1) := (blk_cell BK156.out 1).trans rfl
          have hcz29_2 : wc.cell? ⟨gb156, 2, none⟩ = some (.slice (some ad161) l0_2.length c0_2) := (blk_cell BK156.out 2).trans rfl
          have hfz29_0 := blk_frozen BK156.out 0
          have hfz29_1 := blk_frozen BK156.out 1
          have hfz29_2 := blk_frozen BK156.out 2
          go_upto_if 33 with (fail)
          go_cut [] (fun wc => ∃ (kq : Nat) (x4_25 : List Int), Aside0 (spec_SquaresAtEdges.j2 kq x4_25 l0_2 (l0_2.length : Int) x14_1 a0_0 a0_1 l0_2 ((rd_T74 l0_2 x14_1).f0) ((rd_T74 l0_2 x14_1).f1) ((rd_T74 l0_2 x14_1).f2) = some (r1, r2)) ∧ Aside0 (kq ≤ kj13) ∧ Aside0 (Kd.R (Kd.int .i64) 3 wc w.heap.size (fun _ => True) v159 x4_25) ∧ Aside0 (wc.heap[gb156]? = some (.cells #[.int .i64 a0_0, .int .i64 a0_1, (.slice (some ad161) l0_2.length c0_2)] 29 (0, 0))) ∧ Aside0 (wc.heap[gb162]? = some (.cells #[.int .i64 ((rd_T74 l0_2 x14_1).f0), .int .i64 ((rd_T74 l0_2 x14_1).f1), .int .i64 ((rd_T74 l0_2 x14_1).f2)] 74 (0, 0))) ∧ Aside0 (Below w.heap.size w wc))
          case first =>
           have H := HC26.out
           clear HC26
           by_cases c30 : (wrap64 (((rd_T74 l0_2 x14_1).f0) + ((rd_T74 l0_2 x14_1).f2))) = a0_0
           ·rw [if_pos c30] at H
            have c30b0 : ((wrap64 (((rd_T74 l0_2 x14_1).f0) + ((rd_T74 l0_2 x14_1).f2))) == a0_0) = true := beq_iff_eq.mpr c30
            have c30b1 : ((wrap64 (((rd_T74 l0_2 x14_1).f0) + ((rd_T74 l0_2 x14_1).f2))) != a0_0) = false := bne_eq_false_iff_eq.mpr c30
            clear c30
            (first | rw [c30b0] | (simp only [i64_w, i32_w]; rw [c30b0]) | skip)
            by_cases c31 : 1 < (x4_13.length : Int)
            ·rw [if_pos c31] at H
             have c31b0 : decide (1 < (x4_13.length : Int)) = true := decide_eq_true c31
             have c31b1 : decide (1 < x4_13.length) = true := decide_eq_true (by omega)
             clear c31
             obtain ⟨y166, hy166⟩ : ∃ y_ : List Int, y_ = (x4_13.set (1 : Int).toNat (wrap64 ((rd x4_13 1) + 1))) := ⟨_, rfl⟩
             replace H : (spec_SquaresAtEdges.j2 kj13 y166 l0_2 (l0_2.length : Int) x14_1 a0_0 a0_1 l0_2 ((rd_T74 l0_2 x14_1).f0) ((rd_T74 l0_2 x14_1).f1) ((rd_T74 l0_2 x14_1).f2)) = some (r1, r2) := by first | (rw [hy166]; with_reducible exact H) | (have H2_ := (Option.bind_some _ _).symm.trans H; rw [hy166]; with_reducible exact H2_) | (have H2_ := (Option.bind_some _ _).symm.trans H; with_reducible exact H2_) | with_reducible exact H | (rw [hy166]; exact H) | exact H
             have Ny166 := Aside0.mk hy166
             clear hy166
             have H' := Aside0.mk H
             clear H
             obtain ⟨Ao33, co33, eo33⟩ := Kd.R_slice HO_4.out
             subst eo33
             have p165 : 0 ≤ (1 : Int) := (by omega)
             have q165 : 1 < (x4_13.length : Int) := of_decide_eq_true (by first | (with_reducible assumption) | assumption)
             obtain ⟨ad165, e165, hx165_0⟩ := Kd.at_int (Kd.R_reads' HO_4.out).2.2 1 p165 q165
             cases e165
             (try simp only [show (1 : Int).toNat = 1 from rfl, Nat.reduceMul, Nat.reduceEqDiff, Go.Addr.add, ↓reduceIte] at hx165_0)
             have qi165 : (1 < x4_13.length) = True := eq_true (by omega)
             (try rw [show ((1 : Int)).toNat = 1 from rfl] at hx165_0)
             replace p165 := eq_true p165
             replace q165 := eq_true q165
             have p32 : 0 ≤ (1 : Int) := (by omega)
             have q32 : (1 : Int) < ((x4_13.length : Int) : Int) := of_decide_eq_true (by first | (with_reducible assumption) | assumption)
             have qi32 : (1 < x4_13.length) = True := eq_true (by omega)
             obtain ⟨go32, co32, eo32, gb32, gl32, cl32, HG32⟩ := Kd.R_form HO_4.out (by omega)
             (first | cases eo32 | (injection eo32 with ea_ en_ ec_; (first | subst ea_ | (injection ea_ with ea_; subst ea_)); subst ec_; clear en_))
             have GB32 := Aside0.mk gb32
             have GG32 := Aside0.mk HG32
             clear gb32 gl32 HG32
             (first | simp only [add_plain] at hx165_0 | skip)
             obtain ⟨hx32_0, hf32_0⟩ := Kd.R_celln 0 HO_4.out (1 : Int) p32 q32
             (try rw [show ((1 : Int)).toNat = 1 from rfl] at hx32_0)
             (try simp only [Nat.reduceMul, Nat.zero_mul, Nat.zero_add, Nat.reduceAdd] at hx32_0)
             (try rw [show ((1 : Int)).toNat = 1 from rfl] at hf32_0)
             (try simp only [Nat.reduceMul, Nat.zero_mul, Nat.zero_add, Nat.reduceAdd] at hf32_0)
             replace p32 := eq_true p32
             replace q32 := eq_true q32
             have HP34 := Kd.R_putg HO_4.out (1 : Int) (wrap64 ((rd x4_13 1) + 1))
             go_wp2_with (first | ((with_reducible refine gate_store (t := 3) (p := 38) rfl ?_); refine store_event (t := 3) (p := 38) (v := ?vo_w35) (w1 := (wc.setCell ⟨go32, (1 : Int).toNat, none⟩ (.int .i64 (wrap64 ((rd x4_13 1) + 1))))) ?hg ?ho ?hn ?hr ?_; (case ho => rfl); (case hg => rfl); (case hn => rfl); (case hr => first | (go_simp; done) | (go_simp; rfl)); intro w35 hw; have hg : wc.grownBy w35 (some go32) := (by rw [hw]; exact HP34.2); have hp_ : Kd.R (Kd.int .i64) 3 w35 w.heap.size (fun _ => True) (.slice (some ⟨go32, 0, none⟩) x4_13.length co33) y166 := (by rw [hw, Ny166.out]; exact HP34.1); clear HP34; have n0_ := Aside0.mk (hp_); have n1_ := Aside0.mk (blk_grown (upK BK156) hg (Kd.R_ne HO_4.out BK156.out (by decide))); have n2_ := Aside0.mk (blk_grown (upK BK162) hg (Kd.R_ne HO_4.out BK162.out (by decide))); have n3_ := Aside0.mk ((by rw [hw]; exact below_set (HB.out) GB32.out : Below w.heap.size w w35)); clear HO_4; clear BK156; clear BK162; clear HB; have HO_4 := n0_; have BK156 := n1_; have BK162 := n2_; have HB := n3_; clear n0_ n1_ n2_ n3_; clear hg hw hp_))
             go_meet
             case rel => exact ⟨_, (y166), H', ⟨by have := HK1.out; have := HJ13.out; first | omega | exact Nat.le_refl _⟩, ⟨upR HO_4⟩, ⟨upK BK156⟩, ⟨upK BK162⟩, ⟨upW HB⟩⟩
            ·rw [if_neg c31] at H
             exact absurd H (by simp)
           ·rw [if_neg c30] at H
            have c30b0 : ((wrap64 (((rd_T74 l0_2 x14_1).f0) + ((rd_T74 l0_2 x14_1).f2))) == a0_0) = false := beq_eq_false_iff_ne.mpr c30
            have c30b1 : ((wrap64 (((rd_T74 l0_2 x14_1).f0) + ((rd_T74 l0_2 x14_1).f2))) != a0_0) = true := bne_iff_ne.mpr c30
            (first | rw [c30b0] | (simp only [i64_w, i32_w]; rw [c30b0]) | skip)
            have H' := Aside0.mk H
            clear H
            go_wp2
            go_meet
            case rel => exact ⟨_, (x4_13), H', ⟨by have := HK1.out; have := HJ13.out; first | omega | exact Nat.le_refl _⟩, ⟨upR HO_4⟩, ⟨upK BK156⟩, ⟨upK BK162⟩, ⟨upW HB⟩⟩
          case rest =>
           clear HC26
           try clear c1
           try clear p1
           try clear q1
           try clear hx1
           try clear qi1
           try clear c2
           try clear p2
           try clear q2
           try clear hx2
           try clear qi2
           try clear hf2
           try clear c3
           try clear p3
           try clear q3
           try clear hx3
           try clear qi3
           try clear hf3
           try clear c4
           try clear c4b0
           try clear c4b1
           try clear p6
           try clear c11
           try clear c11b0
           try clear c12
           try clear c12b0
           try clear c13
           try clear c13b0
           try clear c16
           try clear p16
           try clear q16
           try clear hx16
           try clear qi16
           try clear c20
           try clear c20b0
           try clear c20b1
           try clear c21
           try clear c21b0
           try clear c21b1
           try clear p22
           try clear q22
           try clear hx22
           try clear qi22
           try clear hf22
           try clear c27
           try clear c30
           try clear c30b0
           try clear c30b1
           try clear c31
           try clear c31b0
           try clear c31b1
           try clear p32
           try clear q32
           try clear hx32
           try clear qi32
           try clear hf32
           try clear hcz10_0
           try clear hcz10_1
           try clear hcz10_2
           try clear hcz17_0
           try clear hcz17_1
           try clear hcz17_2
           try clear hcz19_0
           try clear hcz19_1
           try clear hcz19_2
           try clear hcz28_0
           try clear hcz28_1
           try clear hcz28_2
           try clear hcz29_0
           try clear hcz29_1
           try clear hcz29_2
           try clear hcz6_0
           try clear hcz6_1
           try clear hcz6_2
           try clear hfz10_0
           try clear hfz10_1
           try clear hfz10_2
           try clear hfz17_0
           try clear hfz17_1
           try clear hfz17_2
           try clear hfz19_0
           try clear hfz19_1
           try clear hfz19_2
           try clear hfz28_0
           try clear hfz28_1
           try clear hfz28_2
           try clear hfz29_0
           try clear hfz29_1
           try clear hfz29_2
           try clear hfz6_0
           try clear hfz6_1
           try clear hfz6_2
           try clear hx161_0
           try clear hx161_1
           try clear hx161_2
           try clear hx163_0
           try clear hx165_0
           try clear hx22_0
           try clear hx32_0
           try clear p1
           try clear p16
           try clear p161
           try clear p163
           try clear p165
           try clear p2
           try clear p22
           try clear p32
           try clear p6
           try clear q1
           try clear q16
           try clear q161
           try clear q163
           try clear q165
           try clear q2
           try clear q22
           try clear q32
           obtain ⟨kq, x4_25, HA, HJ25, HO_4, BK156, BK162, HB⟩ := hcut
           cases kq with
           | zero => exact absurd HA.out (by simp [spec_SquaresAtEdges.j2])
           | succ kj25 =>
            have H := HA.out
            clear HA
            simp only [spec_SquaresAtEdges.j2] at H
            by_cases c36 : (wrap64 (((rd_T74 l0_2 x14_1).f1) + ((rd_T74 l0_2 x14_1).f2))) = a0_1
            ·rw [if_pos c36] at H
             have c36b0 : ((wrap64 (((rd_T74 l0_2 x14_1).f1) + ((rd_T74 l0_2 x14_1).f2))) == a0_1) = true := beq_iff_eq.mpr c36
             have c36b1 : ((wrap64 (((rd_T74 l0_2 x14_1).f1) + ((rd_T74 l0_2 x14_1).f2))) != a0_1) = false := bne_eq_false_iff_eq.mpr c36
             clear c36
             by_cases c37 : 2 < (x4_25.length : Int)
             ·rw [if_pos c37] at H
              have c37b0 : decide (2 < (x4_25.length : Int)) = true := decide_eq_true c37
              have c37b1 : decide (2 < x4_25.length) = true := decide_eq_true (by omega)
              clear c37
              obtain ⟨y168, hy168⟩ : ∃ y_ : List Int, y_ = (x4_25.set (2 : Int).toNat (wrap64 ((rd x4_25 2) + 1))) := ⟨_, rfl⟩
              replace H : (if ((rd_T74 l0_2 x14_1).f0) = 0 then (if 3 < (x4_25.length : Int) then (spec_SquaresAtEdges.l0 kj25 (y168.set (3 : Int).toNat (wrap64 ((rd y168 3) + 1))) l0_2 (l0_2.length : Int) (wrap64 (x14_1 + 1)) a0_0 a0_1 l0_2) else (none)) else (spec_SquaresAtEdges.l0 kj25 y168 l0_2 (l0_2.length : Int) (wrap64 (x14_1 + 1)) a0_0 a0_1 l0_2)) = some (r1, r2) := by first | (rw [hy168]; with_reducible exact H) | (have H2_ := (Option.bind_some _ _).symm.trans H; rw [hy168]; with_reducible exact H2_) | (have H2_ := (Option.bind_some _ _).symm.trans H; with_reducible exact H2_) | with_reducible exact H | (rw [hy168]; exact H) | exact H
              have Ny168 := Aside0.mk hy168
              clear hy168
              by_cases c39 : ((rd_T74 l0_2 x14_1).f0) = 0
              ·rw [if_pos c39] at H
               have c39b0 : (((rd_T74 l0_2 x14_1).f0) == 0) = true := beq_iff_eq.mpr c39
               have c39b1 : (((rd_T74 l0_2 x14_1).f0) != 0) = false := bne_eq_false_iff_eq.mpr c39
               clear c39
               by_cases c40 : 3 < (x4_25.length : Int)
               ·rw [if_pos c40] at H
                have c40b0 : decide (3 < (x4_25.length : Int)) = true := decide_eq_true c40
                have c40b1 : decide (3 < x4_25.length) = true := decide_eq_true (by omega)
                clear c40
                obtain ⟨y170, hy170⟩ : ∃ y_ : List Int, y_ = (y168.set (3 : Int).toNat (wrap64 ((rd y168 3) + 1))) := ⟨_, rfl⟩
                replace H : (spec_SquaresAtEdges.l0 kj25 y170 l0_2 (l0_2.length : Int) (wrap64 (x14_1 + 1)) a0_0 a0_1 l0_2) = some (r1, r2) := by first | (rw [hy170]; with_reducible exact H) | (have H2_ := (Option.bind_some _ _).symm.trans H; rw [hy170]; with_reducible exact H2_) | (have H2_ := (Option.bind_some _ _).symm.trans H; with_reducible exact H2_) | with_reducible exact H | (rw [hy170]; exact H) | exact H
                have Ny170 := Aside0.mk hy170
                clear hy170
                have H' := Aside0.mk H
                clear H
                have hnb42 := NB162_156.out
                have hnc42 := NB156_162.out
                have hcz43_0 : wc.cell? ⟨gb162, 0, none⟩ = some (.int .i64 ((rd_T74 l0_2 x14_1).f0)) := (blk_cell BK162.out 0).trans rfl
                have hcz43_1 : wc.cell? ⟨gb162, 1, none⟩ = some (.int .i64 ((rd_T74 l0_2 x14_1).f1)) := (blk_cell BK162.out 1).trans rfl
                have hcz43_2 : wc.cell? ⟨gb162, 2, none⟩ = some (.int .i64 ((rd_T74 l0_2 x14_1).f2)) := (blk_cell BK162.out 2).trans rfl
                have hfz43_0 := blk_frozen BK162.out 0
                have hfz43_1 := blk_frozen BK162.out 1
                have hfz43_2 := blk_frozen BK162.out 2
                have hcz44_0 : wc.cell? ⟨gb156, 0, none⟩ = some (.int .i64 a0_0) := (blk_cell BK156.out 0).trans rfl
                have hcz44_1 : wc.cell? ⟨gb156, 1, none⟩ = some (.int .i64 a0_1) := (blk_cell BK156.out 1).trans rfl
                have hcz44_2 : wc.cell? ⟨gb156, 2, none⟩ = some (.slice (some ad161) l0_2.length c0_2) := (blk_cell BK156.out 2).trans rfl
                have hfz44_0 := blk_frozen BK156.out 0
                have hfz44_1 := blk_frozen BK156.out 1
                have hfz44_2 := blk_frozen BK156.out 2
                obtain ⟨Ao45, co45, eo45⟩ := Kd.R_slice HO_4.out
                subst eo45
                have p167 : 0 ≤ (2 : Int) := (by omega)
                have q167 : 2 < (x4_25.length : Int) := of_decide_eq_true (by first | (with_reducible assumption) | assumption)
                obtain ⟨ad167, e167, hx167_0⟩ := Kd.at_int (Kd.R_reads' HO_4.out).2.2 2 p167 q167
                cases e167
                (try simp only [show (2 : Int).toNat = 2 from rfl, Nat.reduceMul, Nat.reduceEqDiff, Go.Addr.add, ↓reduceIte] at hx167_0)
                have qi167 : (2 < x4_25.length) = True := eq_true (by omega)
                (try rw [show ((2 : Int)).toNat = 2 from rfl] at hx167_0)
                replace p167 := eq_true p167
                replace q167 := eq_true q167
                have p38 : 0 ≤ (2 : Int) := (by omega)
                have q38 : (2 : Int) < ((x4_25.length : Int) : Int) := of_decide_eq_true (by first | (with_reducible assumption) | assumption)
                have qi38 : (2 < x4_25.length) = True := eq_true (by omega)
                obtain ⟨go38, co38, eo38, gb38, gl38, cl38, HG38⟩ := Kd.R_form HO_4.out (by omega)
                (first | cases eo38 | (injection eo38 with ea_ en_ ec_; (first | subst ea_ | (injection ea_ with ea_; subst ea_)); subst ec_; clear en_))
                have GB38 := Aside0.mk gb38
                have GG38 := Aside0.mk HG38
                clear gb38 gl38 HG38
                (first | simp only [add_plain] at hx167_0 | skip)
                obtain ⟨hx38_0, hf38_0⟩ := Kd.R_celln 0 HO_4.out (2 : Int) p38 q38
                (try rw [show ((2 : Int)).toNat = 2 from rfl] at hx38_0)
                (try simp only [Nat.reduceMul, Nat.zero_mul, Nat.zero_add, Nat.reduceAdd] at hx38_0)
                (try rw [show ((2 : Int)).toNat = 2 from rfl] at hf38_0)
                (try simp only [Nat.reduceMul, Nat.zero_mul, Nat.zero_add, Nat.reduceAdd] at hf38_0)
                replace p38 := eq_true p38
                replace q38 := eq_true q38
                have HP46 := Kd.R_putg HO_4.out (2 : Int) (wrap64 ((rd x4_25 2) + 1))
                go_wp2_with (first | ((with_reducible refine gate_store (t := 3) (p := 51) rfl ?_); refine store_event (t := 3) (p := 51) (v := ?vo_w47) (w1 := (wc.setCell ⟨go38, (2 : Int).toNat, none⟩ (.int .i64 (wrap64 ((rd x4_25 2) + 1))))) ?hg ?ho ?hn ?hr ?_; (case ho => rfl); (case hg => rfl); (case hn => rfl); (case hr => first | (go_simp; done) | (go_simp; rfl)); intro w47 hw; have hg : wc.grownBy w47 (some go38) := (by rw [hw]; exact HP46.2); have hp_ : Kd.R (Kd.int .i64) 3 w47 w.heap.size (fun _ => True) (.slice (some ⟨go38, 0, none⟩) x4_25.length co45) y168 := (by rw [hw, Ny168.out]; exact HP46.1); clear HP46; have n0_ := Aside0.mk (hp_); have n1_ := Aside0.mk (blk_grown (upK BK156) hg (Kd.R_ne HO_4.out BK156.out (by decide))); have n2_ := Aside0.mk (blk_grown (upK BK162) hg (Kd.R_ne HO_4.out BK162.out (by decide))); have n3_ := Aside0.mk ((by rw [hw]; exact below_set (HB.out) GB38.out : Below w.heap.size w w47)); clear HO_4; clear BK156; clear BK162; clear HB; have HO_4 := n0_; have BK156 := n1_; have BK162 := n2_; have HB := n3_; clear n0_ n1_ n2_ n3_; clear hg hw hp_; have hcz48_0 : w47.cell? ⟨gb162, 0, none⟩ = some (.int .i64 ((rd_T74 l0_2 x14_1).f0)) := (blk_cell BK162.out 0).trans rfl; have hcz48_1 : w47.cell? ⟨gb162, 1, none⟩ = some (.int .i64 ((rd_T74 l0_2 x14_1).f1)) := (blk_cell BK162.out 1).trans rfl; have hcz48_2 : w47.cell? ⟨gb162, 2, none⟩ = some (.int .i64 ((rd_T74 l0_2 x14_1).f2)) := (blk_cell BK162.out 2).trans rfl; have hfz48_0 := blk_frozen BK162.out 0; have hfz48_1 := blk_frozen BK162.out 1; have hfz48_2 := blk_frozen BK162.out 2; have p169 : 0 ≤ (3 : Int) := (by omega); have q169 : 3 < (y168.length : Int) := (by have h_ : (3 : Int) < ((x4_25.length : Int) : Int) := of_decide_eq_true (by first | (with_reducible assumption) | assumption); first | (have e_ := (Kd.R_reads' HO_4.out).1; omega) | simpa only [Ny168.out, List.length_set] using h_); have ql169 : ((3 : Int) < ((x4_25.length : Int) : Int)) = True := eq_true (of_decide_eq_true (by first | (with_reducible assumption) | assumption)); (try have qn169 : (3 < x4_25.length) = True := eq_true (by have h_ : (3 : Int) < ((x4_25.length : Int) : Int) := of_decide_eq_true (by first | (with_reducible assumption) | assumption); omega)); obtain ⟨ad169, e169, hx169_0⟩ := Kd.at_int (Kd.R_reads' HO_4.out).2.2 3 p169 q169; obtain rfl : (⟨go38, 0, none⟩ : Addr) = ad169 := (by injection e169); (first | simp only [add_plain] at hx169_0 | simp only [add_at] at hx169_0 | simp only [Addr.add, Nat.zero_add] at hx169_0 | skip); have qi169 : (3 < y168.length) = True := eq_true (by omega); (try rw [show ((3 : Int)).toNat = 3 from rfl] at hx169_0); replace p169 := eq_true p169; replace q169 := eq_true q169; have p41 : 0 ≤ (3 : Int) := (by omega); have q41 : (3 : Int) < ((x4_25.length : Int) : Int) := of_decide_eq_true (by first | (with_reducible assumption) | assumption); have qi41 : (3 < x4_25.length) = True := eq_true (by omega); obtain ⟨hx41_0, hf41_0⟩ := Kd.R_celln 0 HO_4.out (3 : Int) p41 q41; (try rw [show ((3 : Int)).toNat = 3 from rfl] at hx41_0); (try simp only [Nat.reduceMul, Nat.zero_mul, Nat.zero_add, Nat.reduceAdd] at hx41_0); (try rw [show ((3 : Int)).toNat = 3 from rfl] at hf41_0); (try simp only [Nat.reduceMul, Nat.zero_mul, Nat.zero_add, Nat.reduceAdd] at hf41_0); replace p41 := eq_true p41; replace q41 := eq_true q41; obtain ⟨hy49_, hz49_⟩ := Kd.R_celln 0 HO_4.out (3 : Int) (by omega) (of_decide_eq_true (by first | (with_reducible assumption) | assumption)); (try simp only [Int.reduceToNat, Int.toNat_zero, Int.toNat_ofNat, Nat.reduceMul, Nat.zero_mul, Nat.zero_add] at hy49_ hz49_); (try rw [show ((3 : Int)).toNat = 3 from rfl] at hy49_); (try rw [show ((3 : Int)).toNat = 3 from rfl] at hz49_); have HP49 := Kd.R_putg HO_4.out (3 : Int) (wrap64 ((rd y168 3) + 1))) | ((with_reducible refine gate_store (t := 3) (p := 59) rfl ?_); refine store_event (t := 3) (p := 59) (v := ?vo_w50) (w1 := (w47.setCell ⟨go38, (3 : Int).toNat, none⟩ (.int .i64 (wrap64 ((rd y168 3) + 1))))) ?hg ?ho ?hn ?hr ?_; (case ho => rfl); (case hg => rfl); (case hn => rfl); (case hr => first | (go_simp; done) | (go_simp; rfl)); intro w50 hw; have hg : w47.grownBy w50 (some go38) := (by rw [hw]; exact HP49.2); have hp_ : Kd.R (Kd.int .i64) 3 w50 w.heap.size (fun _ => True) (.slice (some ⟨go38, 0, none⟩) x4_25.length co45) y170 := (by rw [hw, Ny170.out]; exact HP49.1); clear HP49; have n0_ := Aside0.mk (hp_); have n1_ := Aside0.mk (blk_grown (upK BK156) hg (Kd.R_ne HO_4.out BK156.out (by decide))); have n2_ := Aside0.mk (blk_grown (upK BK162) hg (Kd.R_ne HO_4.out BK162.out (by decide))); have n3_ := Aside0.mk ((by rw [hw]; exact below_set (HB.out) GB38.out : Below w.heap.size w w50)); clear HO_4; clear BK156; clear BK162; clear HB; have HO_4 := n0_; have BK156 := n1_; have BK162 := n2_; have HB := n3_; clear n0_ n1_ n2_ n3_; clear hg hw hp_))
                go_roundg kj25
                case measure => have := HK1.out; have := HJ13.out; have := HJ25.out; omega
                case rel => exact ⟨(y170), (wrap64 (x14_1 + 1)), (by first | rfl | (simp; done) | (simp [*]; done)), H', ⟨by have := HK1.out; have := HJ13.out; have := HJ25.out; omega⟩, ⟨upR HO_4⟩, ⟨upK BK156⟩, ⟨upW HB⟩⟩
               ·rw [if_neg c40] at H
                exact absurd H (by simp)
              ·rw [if_neg c39] at H
               have c39b0 : (((rd_T74 l0_2 x14_1).f0) == 0) = false := beq_eq_false_iff_ne.mpr c39
               have c39b1 : (((rd_T74 l0_2 x14_1).f0) != 0) = true := bne_iff_ne.mpr c39
               have H' := Aside0.mk H
               clear H
               have hnb51 := NB162_156.out
               have hnc51 := NB156_162.out
               have hcz52_0 : wc.cell? ⟨gb162, 0, none⟩ = some (.int .i64 ((rd_T74 l0_2 x14_1).f0)) := (blk_cell BK162.out 0).trans rfl
               have hcz52_1 : wc.cell? ⟨gb162, 1, none⟩ = some (.int .i64 ((rd_T74 l0_2 x14_1).f1)) := (blk_cell BK162.out 1).trans rfl
               have hcz52_2 : wc.cell? ⟨gb162, 2, none⟩ = some (.int .i64 ((rd_T74 l0_2 x14_1).f2)) := (blk_cell BK162.out 2).trans rfl
               have hfz52_0 := blk_frozen BK162.out 0
               have hfz52_1 := blk_frozen BK162.out 1
               have hfz52_2 := blk_frozen BK162.out 2
               have hcz53_0 : wc.cell? ⟨gb156, 0, none⟩ = some (.int .i64 a0_0) := (blk_cell BK156.out 0).trans rfl
               have hcz53_1 : wc.cell? ⟨gb156, 1, none⟩ = some (.int .i64 a0_1) := (blk_cell BK156.out 1).trans rfl
               have hcz53_2 : wc.cell? ⟨gb156, 2, none⟩ = some (.slice (some ad161) l0_2.length c0_2) := (blk_cell BK156.out 2).trans rfl
               have hfz53_0 := blk_frozen BK156.out 0
               have hfz53_1 := blk_frozen BK156.out 1
               have hfz53_2 := blk_frozen BK156.out 2
               obtain ⟨Ao54, co54, eo54⟩ := Kd.R_slice HO_4.out
               subst eo54
               have p167 : 0 ≤ (2 : Int) := (by omega)
               have q167 : 2 < (x4_25.length : Int) := of_decide_eq_true (by first | (with_reducible assumption) | assumption)
               obtain ⟨ad167, e167, hx167_0⟩ := Kd.at_int (Kd.R_reads' HO_4.out).2.2 2 p167 q167
               cases e167
               (try simp only [show (2 : Int).toNat = 2 from rfl, Nat.reduceMul, Nat.reduceEqDiff, Go.Addr.add, ↓reduceIte] at hx167_0)
               have qi167 : (2 < x4_25.length) = True := eq_true (by omega)
               (try rw [show ((2 : Int)).toNat = 2 from rfl] at hx167_0)
               replace p167 := eq_true p167
               replace q167 := eq_true q167
               have p38 : 0 ≤ (2 : Int) := (by omega)
               have q38 : (2 : Int) < ((x4_25.length : Int) : Int) := of_decide_eq_true (by first | (with_reducible assumption) | assumption)
               have qi38 : (2 < x4_25.length) = True := eq_true (by omega)
               obtain ⟨go38, co38, eo38, gb38, gl38, cl38, HG38⟩ := Kd.R_form HO_4.out (by omega)
               (first | cases eo38 | (injection eo38 with ea_ en_ ec_; (first | subst ea_ | (injection ea_ with ea_; subst ea_)); subst ec_; clear en_))
               have GB38 := Aside0.mk gb38
               have GG38 := Aside0.mk HG38
               clear gb38 gl38 HG38
               (first | simp only [add_plain] at hx167_0 | skip)
               obtain ⟨hx38_0, hf38_0⟩ := Kd.R_celln 0 HO_4.out (2 : Int) p38 q38
               (try rw [show ((2 : Int)).toNat = 2 from rfl] at hx38_0)
               (try simp only [Nat.reduceMul, Nat.zero_mul, Nat.zero_add, Nat.reduceAdd] at hx38_0)
               (try rw [show ((2 : Int)).toNat = 2 from rfl] at hf38_0)
               (try simp only [Nat.reduceMul, Nat.zero_mul, Nat.zero_add, Nat.reduceAdd] at hf38_0)
               replace p38 := eq_true p38
               replace q38 := eq_true q38
               have HP55 := Kd.R_putg HO_4.out (2 : Int) (wrap64 ((rd x4_25 2) + 1))
               go_wp2_with (first | ((with_reducible refine gate_store (t := 3) (p := 51) rfl ?_); refine store_event (t := 3) (p := 51) (v := ?vo_w56) (w1 := (wc.setCell ⟨go38, (2 : Int).toNat, none⟩ (.int .i64 (wrap64 ((rd x4_25 2) + 1))))) ?hg ?ho ?hn ?hr ?_; (case ho => rfl); (case hg => rfl); (case hn => rfl); (case hr => first | (go_simp; done) | (go_simp; rfl)); intro w56 hw; have hg : wc.grownBy w56 (some go38) := (by rw [hw]; exact HP55.2); have hp_ : Kd.R (Kd.int .i64) 3 w56 w.heap.size (fun _ => True) (.slice (some ⟨go38, 0, none⟩) x4_25.length co54) y168 := (by rw [hw, Ny168.out]; exact HP55.1); clear HP55; have n0_ := Aside0.mk (hp_); have n1_ := Aside0.mk (blk_grown (upK BK156) hg (Kd.R_ne HO_4.out BK156.out (by decide))); have n2_ := Aside0.mk (blk_grown (upK BK162) hg (Kd.R_ne HO_4.out BK162.out (by decide))); have n3_ := Aside0.mk ((by rw [hw]; exact below_set (HB.out) GB38.out : Below w.heap.size w w56)); clear HO_4; clear BK156; clear BK162; clear HB; have HO_4 := n0_; have BK156 := n1_; have BK162 := n2_; have HB := n3_; clear n0_ n1_ n2_ n3_; clear hg hw hp_; have hcz57_0 : w56.cell? ⟨gb162, 0, none⟩ = some (.int .i64 ((rd_T74 l0_2 x14_1).f0)) := (blk_cell BK162.out 0).trans rfl; have hcz57_1 : w56.cell? ⟨gb162, 1, none⟩ = some (.int .i64 ((rd_T74 l0_2 x14_1).f1)) := (blk_cell BK162.out 1).trans rfl; have hcz57_2 : w56.cell? ⟨gb162, 2, none⟩ = some (.int .i64 ((rd_T74 l0_2 x14_1).f2)) := (blk_cell BK162.out 2).trans rfl; have hfz57_0 := blk_frozen BK162.out 0; have hfz57_1 := blk_frozen BK162.out 1; have hfz57_2 := blk_frozen BK162.out 2))
               go_roundg kj25
               case measure => have := HK1.out; have := HJ13.out; have := HJ25.out; omega
               case rel => exact ⟨(y168), (wrap64 (x14_1 + 1)), (by first | rfl | (simp; done) | (simp [*]; done)), H', ⟨by have := HK1.out; have := HJ13.out; have := HJ25.out; omega⟩, ⟨upR HO_4⟩, ⟨upK BK156⟩, ⟨upW HB⟩⟩
             ·rw [if_neg c37] at H
              exact absurd H (by simp)
            ·rw [if_neg c36] at H
             have c36b0 : ((wrap64 (((rd_T74 l0_2 x14_1).f1) + ((rd_T74 l0_2 x14_1).f2))) == a0_1) = false := beq_eq_false_iff_ne.mpr c36
             have c36b1 : ((wrap64 (((rd_T74 l0_2 x14_1).f1) + ((rd_T74 l0_2 x14_1).f2))) != a0_1) = true := bne_iff_ne.mpr c36
             by_cases c58 : ((rd_T74 l0_2 x14_1).f0) = 0
             ·rw [if_pos c58] at H
              have c58b0 : (((rd_T74 l0_2 x14_1).f0) == 0) = true := beq_iff_eq.mpr c58
              have c58b1 : (((rd_T74 l0_2 x14_1).f0) != 0) = false := bne_eq_false_iff_eq.mpr c58
              clear c58
              by_cases c59 : 3 < (x4_25.length : Int)
              ·rw [if_pos c59] at H
               have c59b0 : decide (3 < (x4_25.length : Int)) = true := decide_eq_true c59
               have c59b1 : decide (3 < x4_25.length) = true := decide_eq_true (by omega)
               clear c59
               obtain ⟨y172, hy172⟩ : ∃ y_ : List Int, y_ = (x4_25.set (3 : Int).toNat (wrap64 ((rd x4_25 3) + 1))) := ⟨_, rfl⟩
               replace H : (spec_SquaresAtEdges.l0 kj25 y172 l0_2 (l0_2.length : Int) (wrap64 (x14_1 + 1)) a0_0 a0_1 l0_2) = some (r1, r2) := by first | (rw [hy172]; with_reducible exact H) | (have H2_ := (Option.bind_some _ _).symm.trans H; rw [hy172]; with_reducible exact H2_) | (have H2_ := (Option.bind_some _ _).symm.trans H; with_reducible exact H2_) | with_reducible exact H | (rw [hy172]; exact H) | exact H
               have Ny172 := Aside0.mk hy172
               clear hy172
               have H' := Aside0.mk H
               clear H
               have hnb61 := NB162_156.out
               have hnc61 := NB156_162.out
               have hcz62_0 : wc.cell? ⟨gb162, 0, none⟩ = some (.int .i64 ((rd_T74 l0_2 x14_1).f0)) := (blk_cell BK162.out 0).trans rfl
               have hcz62_1 : wc.cell? ⟨gb162, 1, none⟩ = some (.int .i64 ((rd_T74 l0_2 x14_1).f1)) := (blk_cell BK162.out 1).trans rfl
               have hcz62_2 : wc.cell? ⟨gb162, 2, none⟩ = some (.int .i64 ((rd_T74 l0_2 x14_1).f2)) := (blk_cell BK162.out 2).trans rfl
               have hfz62_0 := blk_frozen BK162.out 0
               have hfz62_1 := blk_frozen BK162.out 1
               have hfz62_2 := blk_frozen BK162.out 2
               have hcz63_0 : wc.cell? ⟨gb156, 0, none⟩ = some (.int .i64 a0_0) := (blk_cell BK156.out 0).trans rfl
               have hcz63_1 : wc.cell? ⟨gb156, 1, none⟩ = some (.int .i64 a0_1) := (blk_cell BK156.out 1).trans rfl
               have hcz63_2 : wc.cell? ⟨gb156, 2, none⟩ = some (.slice (some ad161) l0_2.length c0_2) := (blk_cell BK156.out 2).trans rfl
               have hfz63_0 := blk_frozen BK156.out 0
               have hfz63_1 := blk_frozen BK156.out 1
               have hfz63_2 := blk_frozen BK156.out 2
               obtain ⟨Ao64, co64, eo64⟩ := Kd.R_slice HO_4.out
               subst eo64
               have p171 : 0 ≤ (3 : Int) := (by omega)
               have q171 : 3 < (x4_25.length : Int) := of_decide_eq_true (by first | (with_reducible assumption) | assumption)
               obtain ⟨ad171, e171, hx171_0⟩ := Kd.at_int (Kd.R_reads' HO_4.out).2.2 3 p171 q171
               cases e171
               (try simp only [show (3 : Int).toNat = 3 from rfl, Nat.reduceMul, Nat.reduceEqDiff, Go.Addr.add, ↓reduceIte] at hx171_0)
               have qi171 : (3 < x4_25.length) = True := eq_true (by omega)
               (try rw [show ((3 : Int)).toNat = 3 from rfl] at hx171_0)
               replace p171 := eq_true p171
               replace q171 := eq_true q171
               have p60 : 0 ≤ (3 : Int) := (by omega)
               have q60 : (3 : Int) < ((x4_25.length : Int) : Int) := of_decide_eq_true (by first | (with_reducible assumption) | assumption)
               have qi60 : (3 < x4_25.length) = True := eq_true (by omega)
               obtain ⟨go60, co60, eo60, gb60, gl60, cl60, HG60⟩ := Kd.R_form HO_4.out (by omega)
               (first | cases eo60 | (injection eo60 with ea_ en_ ec_; (first | subst ea_ | (injection ea_ with ea_; subst ea_)); subst ec_; clear en_))
               have GB60 := Aside0.mk gb60
               have GG60 := Aside0.mk HG60
               clear gb60 gl60 HG60
               (first | simp only [add_plain] at hx171_0 | skip)
               obtain ⟨hx60_0, hf60_0⟩ := Kd.R_celln 0 HO_4.out (3 : Int) p60 q60
               (try rw [show ((3 : Int)).toNat = 3 from rfl] at hx60_0)
               (try simp only [Nat.reduceMul, Nat.zero_mul, Nat.zero_add, Nat.reduceAdd] at hx60_0)
               (try rw [show ((3 : Int)).toNat = 3 from rfl] at hf60_0)
               (try simp only [Nat.reduceMul, Nat.zero_mul, Nat.zero_add, Nat.reduceAdd] at hf60_0)
               replace p60 := eq_true p60
               replace q60 := eq_true q60
               have HP65 := Kd.R_putg HO_4.out (3 : Int) (wrap64 ((rd x4_25 3) + 1))
               go_wp2_with (first | ((with_reducible refine gate_store (t := 3) (p := 59) rfl ?_); refine store_event (t := 3) (p := 59) (v := ?vo_w66) (w1 := (wc.setCell ⟨go60, (3 : Int).toNat, none⟩ (.int .i64 (wrap64 ((rd x4_25 3) + 1))))) ?hg ?ho ?hn ?hr ?_; (case ho => rfl); (case hg => rfl); (case hn => rfl); (case hr => first | (go_simp; done) | (go_simp; rfl)); intro w66 hw; have hg : wc.grownBy w66 (some go60) := (by rw [hw]; exact HP65.2); have hp_ : Kd.R (Kd.int .i64) 3 w66 w.heap.size (fun _ => True) (.slice (some ⟨go60, 0, none⟩) x4_25.length co64) y172 := (by rw [hw, Ny172.out]; exact HP65.1); clear HP65; have n0_ := Aside0.mk (hp_); have n1_ := Aside0.mk (blk_grown (upK BK156) hg (Kd.R_ne HO_4.out BK156.out (by decide))); have n2_ := Aside0.mk (blk_grown (upK BK162) hg (Kd.R_ne HO_4.out BK162.out (by decide))); have n3_ := Aside0.mk ((by rw [hw]; exact below_set (HB.out) GB60.out : Below w.heap.size w w66)); clear HO_4; clear BK156; clear BK162; clear HB; have HO_4 := n0_; have BK156 := n1_; have BK162 := n2_; have HB := n3_; clear n0_ n1_ n2_ n3_; clear hg hw hp_))
               go_roundg kj25
               case measure => have := HK1.out; have := HJ13.out; have := HJ25.out; omega
               case rel => exact ⟨(y172), (wrap64 (x14_1 + 1)), (by first | rfl | (simp; done) | (simp [*]; done)), H', ⟨by have := HK1.out; have := HJ13.out; have := HJ25.out; omega⟩, ⟨upR HO_4⟩, ⟨upK BK156⟩, ⟨upW HB⟩⟩
              ·rw [if_neg c59] at H
               exact absurd H (by simp)
             ·rw [if_neg c58] at H
              have c58b0 : (((rd_T74 l0_2 x14_1).f0) == 0) = false := beq_eq_false_iff_ne.mpr c58
              have c58b1 : (((rd_T74 l0_2 x14_1).f0) != 0) = true := bne_iff_ne.mpr c58
              have H' := Aside0.mk H
              clear H
              have hnb67 := NB162_156.out
              have hnc67 := NB156_162.out
              have hcz68_0 : wc.cell? ⟨gb162, 0, none⟩ = some (.int .i64 ((rd_T74 l0_2 x14_1).f0)) := (blk_cell BK162.out 0).trans rfl
              have hcz68_1 : wc.cell? ⟨gb162, 1, none⟩ = some (.int .i64 ((rd_T74 l0_2 x14_1).f1)) := (blk_cell BK162.out 1).trans rfl
              have hcz68_2 : wc.cell? ⟨gb162, 2, none⟩ = some (.int .i64 ((rd_T74 l0_2 x14_1).f2)) := (blk_cell BK162.out 2).trans rfl
              have hfz68_0 := blk_frozen BK162.out 0
              have hfz68_1 := blk_frozen BK162.out 1
              have hfz68_2 := blk_frozen BK162.out 2
              have hcz69_0 : wc.cell? ⟨gb156, 0, none⟩ = some (.int .i64 a0_0) := (blk_cell BK156.out 0).trans rfl
              have hcz69_1 : wc.cell? ⟨gb156, 1, none⟩ = some (.int .i64 a0_1) := (blk_cell BK156.out 1).trans rfl
              have hcz69_2 : wc.cell? ⟨gb156, 2, none⟩ = some (.slice (some ad161) l0_2.length c0_2) := (blk_cell BK156.out 2).trans rfl
              have hfz69_0 := blk_frozen BK156.out 0
              have hfz69_1 := blk_frozen BK156.out 1
              have hfz69_2 := blk_frozen BK156.out 2
              go_wp2
              go_roundg kj25
              case measure => have := HK1.out; have := HJ13.out; have := HJ25.out; omega
              case rel => exact ⟨(x4_25), (wrap64 (x14_1 + 1)), (by first | rfl | (simp; done) | (simp [*]; done)), H', ⟨by have := HK1.out; have := HJ13.out; have := HJ25.out; omega⟩, ⟨upR HO_4⟩, ⟨upK BK156⟩, ⟨upW HB⟩⟩
       ·rw [if_neg c13] at H
        exact absurd H (by simp)
      ·rw [if_neg c12] at H
       exact absurd H (by simp)
     ·rw [if_neg c11] at H
      have c11b0 : decide (x14_1 < (l0_2.length : Int)) = false := decide_eq_false c11
      clear c11
      simp only [Option.some.injEq, Prod.mk.injEq] at H
      obtain ⟨rfl, rfl⟩ := H
      go_wp2
      go_ret2
      exact ⟨_, by first | rfl | (simp [errW_none, errW_some] <;> rfl) | (simp [*, errW_none, errW_some] <;> rfl), by (with_reducible repeat (first | apply Kd.R_alloc | apply Kd.R_drewN | apply Kd.R_drew)); exact HO_4.out, by repeat (first | (with_reducible first | exact HB.out | apply below_alloc | apply pw_below_drewN | apply below_drew1 | refine below_set ?_ GE156.out) | exact HB.out)⟩
  ·rw [if_neg c4] at H
   exact absurd H (by simp)
 ·replace c3 := Bool.eq_false_iff.mpr c3
  subst c3
  have H1 : (some (([] : List Int), false)) = some (r1, r2) := by rw [if_neg (show ¬ (false = true) by decide)] at H; exact H
  clear H
  have H := H1
  clear H1
  simp only [Option.some.injEq, Prod.mk.injEq] at H
  obtain ⟨rfl, rfl⟩ := H
  go_enter Try.func45, Try.ntmps45
  go_wp2_with (first | ((with_reducible refine gate_dst (N := 1) rfl ?_); refine box_event ?hg (N := 1) ?hd (cs := #[.int .i64 a0_0, .int .i64 a0_1, .slice A0_2 l0_2.length c0_2]) (t := 29) ?hr ?_; (case hd => rfl); (case hg => rfl); (case hr => first | (go_simp; done) | (go_simp; rfl)); intro gb156 hg w70 hbox hb; have n0_ := Aside0.mk (below_step (upW HB) hb); have n1_ := Aside0.mk (hbox); have n2_ := Aside0.mk ((by rw [hg]; exact (below_size (upW HB)) : w.heap.size ≤ gb156)); have n3_ := Aside0.mk ((by rw [hg]; exact (below_size (upW HB)) : w.heap.size ≤ gb156)); clear HB; have HB := n0_; have BK156 := n1_; have GW156 := n2_; have GE156 := n3_; clear n0_ n1_ n2_ n3_; clear hb hbox hg; have hcz71_0 : w70.cell? ⟨gb156, 0, none⟩ = some (.int .i64 a0_0) := (blk_cell BK156.out 0).trans rfl; have hcz71_1 : w70.cell? ⟨gb156, 1, none⟩ = some (.int .i64 a0_1) := (blk_cell BK156.out 1).trans rfl; have hcz71_2 : w70.cell? ⟨gb156, 2, none⟩ = some (.slice A0_2 l0_2.length c0_2) := (blk_cell BK156.out 2).trans rfl; have hfz71_0 := blk_frozen BK156.out 0; have hfz71_1 := blk_frozen BK156.out 1; have hfz71_2 := blk_frozen BK156.out 2) | ((with_reducible refine gate_callee (f := 48) rfl ?_); refine goesL_ (some 8) rfl rfl Try.func48 (by kernel_rfl) rfl #[.agg #[.int .i64 a0_0, .int .i64 a0_1, .slice A0_2 l0_2.length c0_2]] rfl itp ?_; (with_reducible refine (spec_cuGood.calls k a0_0 a0_1 _ _ l0_2 false _ ?side1 ?side2 A2.out).mono ?_); (case side1 => repeat (first | exact (Kd.C_below HR0_2.out HB.out) | (with_reducible refine Kd.C_alloc ?_ _) | (with_reducible refine Kd.C_drewN ?_ _) | (with_reducible refine Kd.C_drew ?_))); (case side2 => exact HC0_2.out); rintro e w72 ⟨rfl, hb⟩; refine ⟨_, rfl, ?_⟩; have n0_ := Aside0.mk (blk_below (upK BK156) hb); have n1_ := Aside0.mk (below_step (upW HB) hb); clear BK156; clear HB; have BK156 := n0_; have HB := n1_; clear n0_ n1_; (try clear hb); (try clear hb2); (try clear hk); (try clear hi)))
  go_ret2
  exact ⟨_, by first | rfl | (simp [errW_none, errW_some] <;> rfl) | (simp [*, errW_none, errW_some] <;> rfl), by first | exact Kd.R_nil _ _ _ _ _ | exact Kd.N_nil _ _ _ _ _ | exact Kd.V_nil _ _ _ _ _ | exact Kd.Q_nil _ _ _ _ _ | exact Kd.S_nil _ _ _ _ _, by repeat (first | (with_reducible first | exact HB.out | apply below_alloc | apply pw_below_drewN | apply below_drew1 | refine below_set ?_ GE156.out) | exact HB.out)⟩

/-! ### impl_within: function 51 -/
def impl_within.f (a0 : Int) (a1 : Int) (a2 : Int) : Option (Bool) := if a1 ≤ a0 then (some (decide (a0 ≤ a2))) else (some false)
set_option maxHeartbeats 8000000 in
set_option maxRecDepth 100000 in
theorem impl_within.calls (a0 : Int) (a1 : Int) (a2 : Int) (r : Bool) (w : World) (h : impl_within.f a0 a1 a2 = some r) :
  Calls Try.prog 51 #[.int .i64 a0, .int .i64 a1, .int .i64 a2] w fun e w' => e = .returned (.bool r) ∧ Drawn0 w w' := by
 have H : (if a1 ≤ a0 then (some (decide (a0 ≤ a2))) else (some false)) = some r := h
 clear h
 by_cases c4 : a1 ≤ a0
 ·rw [if_pos c4] at H
  have c4b0 : decide (a1 ≤ a0) = true := decide_eq_true c4
  clear c4
  obtain rfl := Option.some.inj H
  go_enter Try.func51, Try.ntmps51
  go_wp2
  go_ret
  exact ⟨by first | rfl | (simp; done) | (simp [*]; done), by repeat (first | exact Drawn0.refl _ | apply Drawn0.step)⟩
 ·rw [if_neg c4] at H
  have c4b0 : decide (a1 ≤ a0) = false := decide_eq_false c4
  clear c4
  obtain rfl := Option.some.inj H
  go_enter Try.func51, Try.ntmps51
  go_wp2
  go_ret
  exact ⟨by first | rfl | (simp; done) | (simp [*]; done), by repeat (first | exact Drawn0.refl _ | apply Drawn0.step)⟩

/-! ### impl_isWide: function 50 -/
def impl_isWide.f (a0 : Int) : Option (Bool) := (impl_within.f a0 1 500).bind fun t173 => (some t173)
set_option maxHeartbeats 8000000 in
set_option maxRecDepth 100000 in
theorem impl_isWide.calls (a0 : Int) (r : Bool) (w : World) (h : impl_isWide.f a0 = some r) :
  Calls Try.prog 50 #[.int .i64 a0] w fun e w' => e = .returned (.bool r) ∧ Drawn0 w w' := by
 have H : ((impl_within.f a0 1 500).bind fun t173 => (some t173)) = some r := h
 clear h
 replace H := Option.bind_eq_some_iff.mp H
 obtain ⟨t173, A20, H⟩ := H
 replace H : (some t173) = some r := H
 have A2 := Aside0.mk A20
 clear A20
 obtain rfl := Option.some.inj H
 go_enter Try.func50, Try.ntmps50
 go_wp2_with (first | ((with_reducible refine gate_callee (f := 51) rfl ?_); refine goesL_ (some 4) rfl rfl Try.func51 (by kernel_rfl) rfl #[.int .i64 a0, .int .i64 1, .int .i64 500] rfl itp ?_; (with_reducible refine (impl_within.calls a0 1 500 t173 _ A2.out).mono ?_); rintro e w' ⟨rfl, ⟨nd, rfl⟩⟩; refine ⟨_, rfl, ?_⟩))
 go_ret
 exact ⟨by first | rfl | (simp; done) | (simp [*]; done), by repeat (first | exact Drawn0.refl _ | apply Drawn0.step)⟩

/-! ### impl_comparePlaces: function 52 -/
def impl_comparePlaces.f (a0_0 : Int) (a0_1 : Int) (a0_2 : Int) (a1_0 : Int) (a1_1 : Int) (a1_2 : Int) : Option (Int) := if a0_1 = a1_1 then (some (wrap64 (a0_0 - a1_0))) else (some (wrap64 (a0_1 - a1_1)))
set_option maxHeartbeats 8000000 in
set_option maxRecDepth 100000 in
theorem impl_comparePlaces.calls (a0_0 : Int) (a0_1 : Int) (a0_2 : Int) (a1_0 : Int) (a1_1 : Int) (a1_2 : Int) (r : Int) (w : World) (h : impl_comparePlaces.f a0_0 a0_1 a0_2 a1_0 a1_1 a1_2 = some r) :
  Calls Try.prog 52 #[.agg #[.int .i64 a0_0, .int .i64 a0_1, .int .i64 a0_2], .agg #[.int .i64 a1_0, .int .i64 a1_1, .int .i64 a1_2]] w fun e w' => e = .returned (.int .i64 r) ∧ Below w.heap.size w w' := by
 have hu74 := Try.underlying74
 have HB := Aside0.mk (Below.refl w.heap.size w)
 have H : (if a0_1 = a1_1 then (some (wrap64 (a0_0 - a1_0))) else (some (wrap64 (a0_1 - a1_1)))) = some r := h
 clear h
 by_cases c3 : a0_1 = a1_1
 ·rw [if_pos c3] at H
  have c3b0 : (a0_1 == a1_1) = true := beq_iff_eq.mpr c3
  have c3b1 : (a0_1 != a1_1) = false := bne_eq_false_iff_eq.mpr c3
  clear c3
  obtain rfl := Option.some.inj H
  go_enter Try.func52, Try.ntmps52
  go_wp2_with (first | ((with_reducible refine gate_dst (N := 2) rfl ?_); refine box_event ?hg (N := 2) ?hd (cs := #[.int .i64 a0_0, .int .i64 a0_1, .int .i64 a0_2]) (t := 74) ?hr ?_; (case hd => rfl); (case hg => rfl); (case hr => first | (go_simp; done) | (go_simp; rfl)); intro gb174 hg w4 hbox hb; have n0_ := Aside0.mk (below_step (upW HB) hb); have n1_ := Aside0.mk (hbox); have n2_ := Aside0.mk ((by rw [hg]; exact (below_size (upW HB)) : w.heap.size ≤ gb174)); have n3_ := Aside0.mk ((by rw [hg]; exact (below_size (upW HB)) : w.heap.size ≤ gb174)); clear HB; have HB := n0_; have BK174 := n1_; have GW174 := n2_; have GE174 := n3_; clear n0_ n1_ n2_ n3_; clear hb hbox hg) | ((with_reducible refine gate_dst (N := 3) rfl ?_); refine box_event ?hg (N := 3) ?hd (cs := #[.int .i64 a1_0, .int .i64 a1_1, .int .i64 a1_2]) (t := 74) ?hr ?_; (case hd => rfl); (case hg => rfl); (case hr => first | (go_simp; done) | (go_simp; rfl)); intro gb175 hg w5 hbox hb; have n0_ := Aside0.mk (blk_below (upK BK174) hb); have n1_ := Aside0.mk (below_step (upW HB) hb); have n2_ := Aside0.mk (hbox); have n3_ := Aside0.mk ((by rw [hg]; exact (below_size (upW HB)) : w.heap.size ≤ gb175)); have n4_ := Aside0.mk ((by rw [hg]; exact (below_size (upW HB)) : w.heap.size ≤ gb175)); have n5_ := Aside0.mk ((by rw [hg]; exact Nat.ne_of_lt (blk_lt (upK BK174)) : gb174 ≠ gb175)); have n6_ := Aside0.mk ((by rw [hg]; exact Nat.ne_of_gt (blk_lt (upK BK174)) : gb175 ≠ gb174)); clear BK174; clear HB; have BK174 := n0_; have HB := n1_; have BK175 := n2_; have GW175 := n3_; have GE175 := n4_; have NB174_175 := n5_; have NB175_174 := n6_; clear n0_ n1_ n2_ n3_ n4_ n5_ n6_; clear hb hbox hg; have hnb6 := NB174_175.out; have hnc6 := NB175_174.out; have hcz7_0 : w5.cell? ⟨gb174, 0, none⟩ = some (.int .i64 a0_0) := (blk_cell BK174.out 0).trans rfl; have hcz7_1 : w5.cell? ⟨gb174, 1, none⟩ = some (.int .i64 a0_1) := (blk_cell BK174.out 1).trans rfl; have hcz7_2 : w5.cell? ⟨gb174, 2, none⟩ = some (.int .i64 a0_2) := (blk_cell BK174.out 2).trans rfl; have hfz7_0 := blk_frozen BK174.out 0; have hfz7_1 := blk_frozen BK174.out 1; have hfz7_2 := blk_frozen BK174.out 2; have hcz8_0 : w5.cell? ⟨gb175, 0, none⟩ = some (.int .i64 a1_0) := (blk_cell BK175.out 0).trans rfl; have hcz8_1 : w5.cell? ⟨gb175, 1, none⟩ = some (.int .i64 a1_1) := (blk_cell BK175.out 1).trans rfl; have hcz8_2 : w5.cell? ⟨gb175, 2, none⟩ = some (.int .i64 a1_2) := (blk_cell BK175.out 2).trans rfl; have hfz8_0 := blk_frozen BK175.out 0; have hfz8_1 := blk_frozen BK175.out 1; have hfz8_2 := blk_frozen BK175.out 2))
  go_ret
  exact ⟨by first | rfl | (simp [errW_none, errW_some] <;> rfl) | (simp [*, errW_none, errW_some] <;> rfl), by repeat (first | (with_reducible first | exact HB.out | apply below_alloc | apply pw_below_drewN | apply below_drew1 | refine below_set ?_ GE174.out | refine below_set ?_ GE175.out) | exact HB.out)⟩
 ·rw [if_neg c3] at H
  have c3b0 : (a0_1 == a1_1) = false := beq_eq_false_iff_ne.mpr c3
  have c3b1 : (a0_1 != a1_1) = true := bne_iff_ne.mpr c3
  obtain rfl := Option.some.inj H
  go_enter Try.func52, Try.ntmps52
  go_wp2_with (first | ((with_reducible refine gate_dst (N := 2) rfl ?_); refine box_event ?hg (N := 2) ?hd (cs := #[.int .i64 a0_0, .int .i64 a0_1, .int .i64 a0_2]) (t := 74) ?hr ?_; (case hd => rfl); (case hg => rfl); (case hr => first | (go_simp; done) | (go_simp; rfl)); intro gb174 hg w9 hbox hb; have n0_ := Aside0.mk (below_step (upW HB) hb); have n1_ := Aside0.mk (hbox); have n2_ := Aside0.mk ((by rw [hg]; exact (below_size (upW HB)) : w.heap.size ≤ gb174)); have n3_ := Aside0.mk ((by rw [hg]; exact (below_size (upW HB)) : w.heap.size ≤ gb174)); clear HB; have HB := n0_; have BK174 := n1_; have GW174 := n2_; have GE174 := n3_; clear n0_ n1_ n2_ n3_; clear hb hbox hg) | ((with_reducible refine gate_dst (N := 3) rfl ?_); refine box_event ?hg (N := 3) ?hd (cs := #[.int .i64 a1_0, .int .i64 a1_1, .int .i64 a1_2]) (t := 74) ?hr ?_; (case hd => rfl); (case hg => rfl); (case hr => first | (go_simp; done) | (go_simp; rfl)); intro gb175 hg w10 hbox hb; have n0_ := Aside0.mk (blk_below (upK BK174) hb); have n1_ := Aside0.mk (below_step (upW HB) hb); have n2_ := Aside0.mk (hbox); have n3_ := Aside0.mk ((by rw [hg]; exact (below_size (upW HB)) : w.heap.size ≤ gb175)); have n4_ := Aside0.mk ((by rw [hg]; exact (below_size (upW HB)) : w.heap.size ≤ gb175)); have n5_ := Aside0.mk ((by rw [hg]; exact Nat.ne_of_lt (blk_lt (upK BK174)) : gb174 ≠ gb175)); have n6_ := Aside0.mk ((by rw [hg]; exact Nat.ne_of_gt (blk_lt (upK BK174)) : gb175 ≠ gb174)); clear BK174; clear HB; have BK174 := n0_; have HB := n1_; have BK175 := n2_; have GW175 := n3_; have GE175 := n4_; have NB174_175 := n5_; have NB175_174 := n6_; clear n0_ n1_ n2_ n3_ n4_ n5_ n6_; clear hb hbox hg; have hnb11 := NB174_175.out; have hnc11 := NB175_174.out; have hcz12_0 : w10.cell? ⟨gb174, 0, none⟩ = some (.int .i64 a0_0) := (blk_cell BK174.out 0).trans rfl; have hcz12_1 : w10.cell? ⟨gb174, 1, none⟩ = some (.int .i64 a0_1) := (blk_cell BK174.out 1).trans rfl; have hcz12_2 : w10.cell? ⟨gb174, 2, none⟩ = some (.int .i64 a0_2) := (blk_cell BK174.out 2).trans rfl; have hfz12_0 := blk_frozen BK174.out 0; have hfz12_1 := blk_frozen BK174.out 1; have hfz12_2 := blk_frozen BK174.out 2; have hcz13_0 : w10.cell? ⟨gb175, 0, none⟩ = some (.int .i64 a1_0) := (blk_cell BK175.out 0).trans rfl; have hcz13_1 : w10.cell? ⟨gb175, 1, none⟩ = some (.int .i64 a1_1) := (blk_cell BK175.out 1).trans rfl; have hcz13_2 : w10.cell? ⟨gb175, 2, none⟩ = some (.int .i64 a1_2) := (blk_cell BK175.out 2).trans rfl; have hfz13_0 := blk_frozen BK175.out 0; have hfz13_1 := blk_frozen BK175.out 1; have hfz13_2 := blk_frozen BK175.out 2))
  go_ret
  exact ⟨by first | rfl | (simp [errW_none, errW_some] <;> rfl) | (simp [*, errW_none, errW_some] <;> rfl), by repeat (first | (with_reducible first | exact HB.out | apply below_alloc | apply pw_below_drewN | apply below_drew1 | refine below_set ?_ GE174.out | refine below_set ?_ GE175.out) | exact HB.out)⟩

/-- the first place at which p holds, or -1 -/
def pidx {α : Type} (p : α → Bool) (l : List α) : Int := if l.any p then ((l.findIdx p : Nat) : Int) else -1
theorem pidx_hit {α : Type} (p : α → Bool) (l : List α) (k : Nat) (a : α) (hk : l[k]? = some a) (ha : p a = true) (h : ∀ j, j < k → ∀ b, l[j]? = some b → p b = false) : pidx p l = k := by
 have hlt : k < l.length := (List.getElem?_eq_some_iff.1 hk).1
 have e : l[k] = a := (List.getElem?_eq_some_iff.1 hk).2
 have h1 : l.any p = true := List.any_eq_true.2 ⟨a, by rw [← e]; exact List.getElem_mem hlt, ha⟩
 unfold pidx
 rw [if_pos h1]
 congr 1
 rw [List.findIdx_eq hlt]
 exact ⟨by rw [e]; exact ha, fun j hj => h j hj _ (List.getElem?_eq_getElem (by omega))⟩
theorem pidx_miss {α : Type} (p : α → Bool) (l : List α) (h : ∀ j, j < l.length → ∀ b, l[j]? = some b → p b = false) : pidx p l = -1 := by
 unfold pidx
 rw [if_neg]
 intro hc
 obtain ⟨a, ha, hp⟩ := List.any_eq_true.1 hc
 obtain ⟨i, hi⟩ := List.getElem?_of_mem ha
 have := h i (List.getElem?_eq_some_iff.1 hi).1 a hi
 rw [this] at hp; cases hp

theorem pidx_any {α : Type} (p : α → Bool) (l : List α) : decide (0 ≤ pidx p l) = l.any p := by
 unfold pidx
 cases h : l.any p
 ·rfl
 ·simp

/-! ### impl_Square_82: function 82 -/
set_option maxHeartbeats 8000000 in
theorem impl_Square_82.with (p : S74 → Bool) (fv : Nat) (lb : Array Value) (A : Option Addr) (c : Nat) (l : List S74) (w : World) (hr : Kd.C k74 w A l.length l)
  (eg : ∀ args w, (callFunc fv args).run Try.prog w = .ok (.enter fv args) w)
  (hp : ∀ (W : World) (t : S74), t ∈ l → Below w.heap.size w W → Calls Try.prog fv (#[.agg #[.int .i64 t.f0, .int .i64 t.f1, .int .i64 t.f2]] ++ lb) W fun e w' => e = .returned (.bool (p t)) ∧ Below w.heap.size w w') :
  Calls Try.prog 82 #[.slice A l.length c, .func (.func fv) #[] lb] w fun e w' => e = .returned (.int .i64 (pidx p l)) ∧ Below w.heap.size w w' := by
 have hu74 := Try.underlying74
 have hbig : l.length ≤ 9223372036854775807 := hr.2.1
 have HP := Lib.hid hp
 clear hp
 go_enter Try.func82, Try.ntmps82
 go_wp2
 go_loopg [5, 8] l.length (fun gg _ s8 wr => ∃ kk : Nat, kk ≤ l.length ∧ l.length - kk ≤ gg ∧ s8 = .int .i64 kk ∧ Aside (Below w.heap.size w wr) ∧ Aside (∀ j, j < kk → ∀ b, l[j]? = some b → p b = false))
 case atStart => exact ⟨0, Nat.zero_le _, by omega, rfl, Below.refl _ w, fun j hj => absurd hj (Nat.not_lt_zero _)⟩
 case round =>
  obtain ⟨kk, hkk, hg, rfl, BW, HA⟩ := hrel
  by_cases hlt : kk < l.length
  ·have hltz : (kk : Int) < (l.length : Int) := by omega
   obtain ⟨ad, rfl, hx0, hx1, hx2⟩ := at_T74 hr (kk : Int) (by omega) hltz
   replace hx0 := (BW.out.cell (World.block_lt_of_cell? w _ hx0)).trans hx0
   replace hx1 := (BW.out.cell (World.block_lt_of_cell? w _ hx1)).trans hx1
   replace hx2 := (BW.out.cell (World.block_lt_of_cell? w _ hx2)).trans hx2
   have hm : rd_T74 l kk ∈ l := by unfold rd_T74; simp [List.getD, hlt]
   have he : l[kk]? = some (rd_T74 l kk) := by unfold rd_T74; simp [List.getD, hlt]
   have hcall := HP.out wr (rd_T74 l kk) hm BW.out
   generalize hy : rd_T74 l kk = y at hx0 hx1 hx2 hcall he
   have HE := Lib.hid he
   clear hy hm he
   simp only [Int.toNat_natCast] at hx0 hx1 hx2
   cases hq : p y with
   | true =>
    rw [hq] at hcall
    have HQ := Lib.hid hq; clear hq
    go_wp2_with (go_at_fn fv; refine hcall.mono ?_; rintro e w' ⟨rfl, hb'⟩)
    go_ret
    refine ⟨?_, hb'⟩
    rw [pidx_hit p l kk y HE.out HQ.out HA.out]; rfl
   | false =>
    rw [hq] at hcall
    have HQ := Lib.hid hq; clear hq
    go_wp2_with (go_at_fn fv; refine hcall.mono ?_; rintro e w' ⟨rfl, hb'⟩)
    go_roundg (l.length - (kk + 1))
    case measure => omega
    case rel =>
     refine ⟨kk + 1, by omega, by omega, by go_num, hb', (show Aside _ from fun j hj b hb => ?_)⟩
     by_cases e : j = kk
     ·subst e
      rw [HE.out] at hb; obtain rfl := Option.some.inj hb; exact HQ.out
     ·exact HA.out j (by omega) b hb
  ·have hltz : ¬ (kk : Int) < (l.length : Int) := by omega
   have : kk = l.length := by omega
   subst this
   go_wp2
   go_ret
   refine ⟨?_, BW.out⟩
   rw [pidx_miss p l HA.out]; rfl

/-! ### impl_Square_53: function 53 -/
set_option maxHeartbeats 8000000 in
theorem impl_Square_53.with (p : S74 → Bool) (fv : Nat) (lb : Array Value) (A : Option Addr) (c : Nat) (l : List S74) (w : World) (hr : Kd.C k74 w A l.length l)
  (eg : ∀ args w, (callFunc fv args).run Try.prog w = .ok (.enter fv args) w)
  (hp : ∀ (W : World) (t : S74), t ∈ l → Below w.heap.size w W → Calls Try.prog fv (#[.agg #[.int .i64 t.f0, .int .i64 t.f1, .int .i64 t.f2]] ++ lb) W fun e w' => e = .returned (.bool (p t)) ∧ Below w.heap.size w w') :
  Calls Try.prog 53 #[.slice A l.length c, .func (.func fv) #[] lb] w fun e w' => e = .returned (.bool (l.any p)) ∧ Below w.heap.size w w' := by
 have HP := Lib.hid hp
 clear hp
 have e0 : decide (0 ≤ pidx p l) = l.any p := pidx_any p l
 generalize l.any p = b at e0 ⊢
 have HE := Lib.hid e0
 clear e0
 go_enter Try.func53, Try.ntmps53
 go_wp2_with (go_at_call 82; refine (impl_Square_82.with p fv lb A c l _ hr eg HP.out).mono ?_; rintro e w' ⟨rfl, hb'⟩)
 go_ret
 exact ⟨by rw [← HE.out]; rfl, hb'⟩

end Go.Proofs.Ytconglobpdgjhaa.PFnExactSquaresAtEdges
