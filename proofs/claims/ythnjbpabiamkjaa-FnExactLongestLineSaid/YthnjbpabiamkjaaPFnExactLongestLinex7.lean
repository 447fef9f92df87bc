-- made for this claim by a program of this session
import Derived.Test.YthnjbpabiamkjaaPFnExactLongestLinex0
namespace Go.Proofs.Ythnjbpabiamkjaa.PFnExactLongestLine
open Go.RowKit Go.Proofs.YthnjbpabiamkjaaW.PrintWords Go.Proofs.YthnjbpabiamkjaaW.PrintLast Go.Proofs.YthnjbpabiamkjaaW.PrintMore
attribute [local go_sem] max2_int min2_int max_two min_two max_three min_three max_four min_four   -- for this text's walks alone
set_option linter.unusedVariables false
set_option linter.unusedSimpArgs false

/-! ### impl_Cut_linesAcross: function 61 -/
mutual
def impl_Cut_linesAcross.l0 : Nat → List (List Int) → Int → Int → Int → Int → List (S73) → Option ((List (List Int)))
 | 0, _, _, _, _, _, _ => none
 | k + 1, x3, x14, x15, x247000, x247001, x247002 => if x15 < x14 then (if 0 ≤ x247000 then (if (x247000 : Int).toNat ≤ 281474976710656 then (impl_Cut_linesAcross.l1 k x3 x15 (List.replicate (x247000 : Int).toNat false) x14 x15 x247002 (x247002.length : Int) 0 x247000 x247001 x247002) else (none)) else (none)) else (some x3)
def impl_Cut_linesAcross.l1 : Nat → List (List Int) → Int → List Bool → Int → Int → List (S73) → Int → Int → Int → Int → List (S73) → Option ((List (List Int)))
 | 0, _, _, _, _, _, _, _, _, _, _, _ => none
 | k + 1, x3, x4, x5, x14, x15, x22, x23, x24, x247000, x247001, x247002 => if x24 < x23 then (if 0 ≤ x24 then (if x24 < (x22.length : Int) then (if ((rd_T73 x22 x24).f1) = x4 then (impl_Cut_linesAcross.j2 k x3 x4 x5 x14 x15 x22 x23 x24 true x247000 x247001 x247002 ((rd_T73 x22 x24).f0) ((rd_T73 x22 x24).f1) ((rd_T73 x22 x24).f2)) else (impl_Cut_linesAcross.j2 k x3 x4 x5 x14 x15 x22 x23 x24 ((wrap64 (((rd_T73 x22 x24).f1) + ((rd_T73 x22 x24).f2))) == x4) x247000 x247001 x247002 ((rd_T73 x22 x24).f0) ((rd_T73 x22 x24).f1) ((rd_T73 x22 x24).f2))) else (none)) else (none)) else (impl_Cut_linesAcross.l3 k x3 x4 x5 x14 x15 x5 (x5.length : Int) 0 x247000 x247001 x247002)
def impl_Cut_linesAcross.j2 : Nat → List (List Int) → Int → List Bool → Int → Int → List (S73) → Int → Int → Bool → Int → Int → List (S73) → Int → Int → Int → Option ((List (List Int)))
 | 0, _, _, _, _, _, _, _, _, _, _, _, _, _, _, _ => none
 | k + 1, x3, x4, x5, x14, x15, x22, x23, x24, x40, x247000, x247001, x247002, x255000, x255001, x255002 => if x40 = true then (impl_Cut_linesAcross.l2 k x3 x4 x5 x255000 x14 x15 x22 x23 x24 x247000 x247001 x247002 x255000 x255001 x255002) else (impl_Cut_linesAcross.l1 k x3 x4 x5 x14 x15 x22 x23 (wrap64 (x24 + 1)) x247000 x247001 x247002)
def impl_Cut_linesAcross.l2 : Nat → List (List Int) → Int → List Bool → Int → Int → Int → List (S73) → Int → Int → Int → Int → List (S73) → Int → Int → Int → Option ((List (List Int)))
 | 0, _, _, _, _, _, _, _, _, _, _, _, _, _, _, _ => none
 | k + 1, x3, x4, x5, x8, x14, x15, x22, x23, x24, x247000, x247001, x247002, x255000, x255001, x255002 => if x8 < (wrap64 (x255000 + x255002)) then (if 0 ≤ x8 then (if x8 < (x5.length : Int) then (impl_Cut_linesAcross.l2 k x3 x4 (x5.set (x8 : Int).toNat true) (wrap64 (x8 + 1)) x14 x15 x22 x23 x24 x247000 x247001 x247002 x255000 x255001 x255002) else (none)) else (none)) else (impl_Cut_linesAcross.l1 k x3 x4 x5 x14 x15 x22 x23 (wrap64 (x24 + 1)) x247000 x247001 x247002)
def impl_Cut_linesAcross.l3 : Nat → List (List Int) → Int → List Bool → Int → Int → List Bool → Int → Int → Int → Int → List (S73) → Option ((List (List Int)))
 | 0, _, _, _, _, _, _, _, _, _, _, _ => none
 | k + 1, x3, x4, x5, x14, x15, x56, x57, x58, x247000, x247001, x247002 => if x58 < x57 then (if 0 ≤ x58 then (if x58 < (x56.length : Int) then (if rdOf false x56 x58 = true then (if x58 > 0 then (if 0 ≤ (wrap64 (x58 - 1)) then (if (wrap64 (x58 - 1)) < (x5.length : Int) then (if rdOf false x5 (wrap64 (x58 - 1)) = true then (if 0 ≤ (wrap64 ((x3.length : Int) - 1)) then (if (wrap64 ((x3.length : Int) - 1)) < (x3.length : Int) then (if 2 < ((rd_L5 x3 (wrap64 ((x3.length : Int) - 1))).length : Int) then (impl_Cut_linesAcross.l3 k (x3.set ((wrap64 ((x3.length : Int) - 1)) : Int).toNat ((rd_L5 x3 (wrap64 ((x3.length : Int) - 1))).set (2 : Int).toNat (wrap64 (x58 + 1)))) x4 x5 x14 x15 x56 x57 (wrap64 (x58 + 1)) x247000 x247001 x247002) else (none)) else (none)) else (none)) else (if x3.length < 5864062014805 then (impl_Cut_linesAcross.l3 k (x3 ++ [(([x4, x58, wrap64 (x58 + 1)] : List Int))]) x4 x5 x14 x15 x56 x57 (wrap64 (x58 + 1)) x247000 x247001 x247002) else (none))) else (none)) else (none)) else (if x3.length < 5864062014805 then (impl_Cut_linesAcross.l3 k (x3 ++ [(([x4, x58, wrap64 (x58 + 1)] : List Int))]) x4 x5 x14 x15 x56 x57 (wrap64 (x58 + 1)) x247000 x247001 x247002) else (none))) else (impl_Cut_linesAcross.l3 k x3 x4 x5 x14 x15 x56 x57 (wrap64 (x58 + 1)) x247000 x247001 x247002)) else (none)) else (none)) else (impl_Cut_linesAcross.l0 k x3 x14 (wrap64 (x15 + 1)) x247000 x247001 x247002)
end
def impl_Cut_linesAcross.f (k : Nat) (a0_0 : Int) (a0_1 : Int) (l0_2 : List (S73)) : Option ((List (List Int))) := impl_Cut_linesAcross.l0 k (([] : List (List Int))) (wrap64 (a0_1 + 1)) 0 a0_0 a0_1 l0_2
set_option maxHeartbeats 8000000 in
set_option maxRecDepth 100000 in
theorem impl_Cut_linesAcross.calls (k : Nat) (a0_0 : Int) (a0_1 : Int) (A0_2 : Option Addr) (c0_2 : Nat) (l0_2 : List (S73)) (r : List (List Int)) (w : World) (hr0_2 : Kd.C k73 w A0_2 l0_2.length l0_2) (hc0_2 : l0_2.length ≤ c0_2) (h : impl_Cut_linesAcross.f k a0_0 a0_1 l0_2 = some r) :
  Calls Try.prog 61 #[.agg #[.int .i64 a0_0, .int .i64 a0_1, .slice A0_2 l0_2.length c0_2]] w fun e w' => ∃ v0_ : Value, e = .returned (v0_) ∧ Kd.S (Kd.slice 3 (Kd.int .i64)) 41 w' w.heap.size (fun _ => True) v0_ r ∧ Below w.heap.size w w' := by
 have hu31 := Try.underlying31
 have hu73 := Try.underlying73
 have HR0_2 := Aside0.mk hr0_2
 have HC0_2 := Aside0.mk hc0_2
 clear hr0_2 hc0_2
 have HB := Aside0.mk (Below.refl w.heap.size w)
 have H : (impl_Cut_linesAcross.l0 k (([] : List (List Int))) (wrap64 (a0_1 + 1)) 0 a0_0 a0_1 l0_2) = some r := h
 clear h
 obtain ⟨y247, hy247⟩ : ∃ y_ : List (List Int), y_ = (([] : List (List Int))) := ⟨_, rfl⟩
 replace H : (impl_Cut_linesAcross.l0 k y247 (wrap64 (a0_1 + 1)) 0 a0_0 a0_1 l0_2) = some r := by first | (rw [hy247]; with_reducible exact H) | (have H2_ := (Option.bind_some _ _).symm.trans H; rw [hy247]; with_reducible exact H2_) | (have H2_ := (Option.bind_some _ _).symm.trans H; with_reducible exact H2_) | with_reducible exact H | (rw [hy247]; exact H) | exact H
 have Ny247 := Aside0.mk hy247
 clear hy247
 have H' := Aside0.mk H
 clear H
 go_enter Try.func61, Try.ntmps61
 go_wp2_with (first | ((with_reducible refine gate_dst (N := 1) rfl ?_); refine box_event ?hg (N := 1) ?hd (cs := #[.int .i64 a0_0, .int .i64 a0_1, .slice A0_2 l0_2.length c0_2]) (t := 31) ?hr ?_; (case hd => rfl); (case hg => rfl); (case hr => first | (go_simp; done) | (go_simp; rfl)); intro gb246 hg w2 hbox hb; have n0_ := Aside0.mk (below_step (upW HB) hb); have n1_ := Aside0.mk (hbox); have n2_ := Aside0.mk ((by rw [hg]; exact (below_size (upW HB)) : w.heap.size ≤ gb246)); have n3_ := Aside0.mk ((by rw [hg]; exact (below_size (upW HB)) : w.heap.size ≤ gb246)); clear HB; have HB := n0_; have BK246 := n1_; have GW246 := n2_; have GE246 := n3_; clear n0_ n1_ n2_ n3_; clear hb hbox hg) | ((with_reducible refine gate_dst (N := 11) rfl ?_); refine Kd.S_lit (Kd.slice 3 (Kd.int .i64)) _ 41 ?hg (N := 11) ?hd (xs := ([] : List (List Int))) (inner := []) (ok := fun _ => True) (okp := fun _ => True) ?hr ?hp (fun _ hk => hk) trivial (Below.refl _ _) (Nat.le_refl _) (by simp) ?_; (case hd => rfl); (case hg => rfl); (case hr => first | (go_simp; done) | (go_simp; rfl)); (case hp => exact (Reps.none _ _)); intro v248 w3 ho4 hb hg_ hnew_; clear hg_ hnew_; (first | rw [← Ny247.out] at ho4 | (simp only [Int.reduceToNat] at ho4; rw [← Ny247.out] at ho4)); have n0_ := Aside0.mk (Kd.S_lower ho4 (below_size (upW HB))); have n1_ := Aside0.mk (blk_below (upK BK246) hb); have n2_ := Aside0.mk (below_step (upW HB) hb); clear BK246; clear HB; have HO249 := n0_; have BK246 := n1_; have HB := n2_; clear n0_ n1_ n2_; clear hb ho4; have hcz5_0 : w3.cell? ⟨gb246, 0, none⟩ = some (.int .i64 a0_0) := (blk_cell BK246.out 0).trans rfl; have hcz5_1 : w3.cell? ⟨gb246, 1, none⟩ = some (.int .i64 a0_1) := (blk_cell BK246.out 1).trans rfl; have hcz5_2 : w3.cell? ⟨gb246, 2, none⟩ = some (.slice A0_2 l0_2.length c0_2) := (blk_cell BK246.out 2).trans rfl; have hfz5_0 := blk_frozen BK246.out 0; have hfz5_1 := blk_frozen BK246.out 1; have hfz5_2 := blk_frozen BK246.out 2))
 go_loopg [3, 15] k (fun kq v3 v15 w' => ∃ (x3_1 : List (List Int)) (x15_1 : Int), v15 = .int .i64 x15_1 ∧ Aside0 (impl_Cut_linesAcross.l0 kq x3_1 (wrap64 (a0_1 + 1)) x15_1 a0_0 a0_1 l0_2 = some r) ∧ Aside0 (kq ≤ k) ∧ Aside0 (Kd.S (Kd.slice 3 (Kd.int .i64)) 41 w' w.heap.size (fun _ => True) v3 x3_1) ∧ Aside0 (w'.heap[gb246]? = some (.cells #[.int .i64 a0_0, .int .i64 a0_1, (.slice A0_2 l0_2.length c0_2)] 31 (0, 0))) ∧ Aside0 (Below w.heap.size w w'))
 case atStart => exact ⟨(y247), (0), (by first | rfl | (simp; done) | (simp [*]; done)), H', ⟨Nat.le_refl _⟩, ⟨by (with_reducible repeat (first | apply Kd.S_alloc | apply Kd.S_drewN | apply Kd.S_drew)); exact HO249.out⟩, ⟨upK BK246⟩, ⟨upW HB⟩⟩
 case round =>
  clear H'
  try clear p2
  try clear hcz5_0
  try clear hcz5_1
  try clear hcz5_2
  try clear hfz5_0
  try clear hfz5_1
  try clear hfz5_2
  obtain ⟨x3_1, x15_1, rfl, HA, HK1, HO_3, BK246, HB⟩ := hrel
  cases gk with
  | zero => exact absurd HA.out (by simp [impl_Cut_linesAcross.l0])
  | succ k1 =>
   have H := HA.out
   clear HA
   simp only [impl_Cut_linesAcross.l0] at H
   by_cases c6 : x15_1 < (wrap64 (a0_1 + 1))
   ·rw [if_pos c6] at H
    have c6b0 : decide (x15_1 < (wrap64 (a0_1 + 1))) = true := decide_eq_true c6
    clear c6
    by_cases c7 : 0 ≤ a0_0
    ·rw [if_pos c7] at H
     have c7b0 := eq_true c7
     have c7b1 : decide (0 ≤ a0_0) = true := decide_eq_true c7
     clear c7
     by_cases c8 : (a0_0 : Int).toNat ≤ 281474976710656
     ·rw [if_pos c8] at H
      have c8b0 := eq_true c8
      have c8b1 : decide ((a0_0 : Int).toNat ≤ 281474976710656) = true := decide_eq_true c8
      clear c8
      obtain ⟨y250, hy250⟩ : ∃ y_ : List Bool, y_ = (List.replicate (a0_0 : Int).toNat false) := ⟨_, rfl⟩
      replace H : (impl_Cut_linesAcross.l1 k1 x3_1 x15_1 y250 (wrap64 (a0_1 + 1)) x15_1 l0_2 (l0_2.length : Int) 0 a0_0 a0_1 l0_2) = some r := by first | (rw [hy250]; with_reducible exact H) | (have H2_ := (Option.bind_some _ _).symm.trans H; rw [hy250]; with_reducible exact H2_) | (have H2_ := (Option.bind_some _ _).symm.trans H; with_reducible exact H2_) | with_reducible exact H | (rw [hy250]; exact H) | exact H
      have Ny250 := Aside0.mk hy250
      clear hy250
      have H' := Aside0.mk H
      clear H
      have hcz9_0 : wr.cell? ⟨gb246, 0, none⟩ = some (.int .i64 a0_0) := (blk_cell BK246.out 0).trans rfl
      have hcz9_1 : wr.cell? ⟨gb246, 1, none⟩ = some (.int .i64 a0_1) := (blk_cell BK246.out 1).trans rfl
      have hcz9_2 : wr.cell? ⟨gb246, 2, none⟩ = some (.slice A0_2 l0_2.length c0_2) := (blk_cell BK246.out 2).trans rfl
      have hfz9_0 := blk_frozen BK246.out 0
      have hfz9_1 := blk_frozen BK246.out 1
      have hfz9_2 := blk_frozen BK246.out 2
      go_wp2_with (first | ((with_reducible refine gate_dst (N := 20) rfl ?_); refine Kd.R_make Kd.bool _ 4 rfl (N := 20) rfl 93 _ _ rfl a0_0 rfl rfl Try.underlying93 (.bool false) 1 info4 rfl (by decide) (by omega) false (ok := fun _ => True) (okp := fun _ => True) rfl (fun _ hk => hk) trivial (of_decide_eq_true (by first | (with_reducible assumption) | assumption)) (Nat.le_trans (Nat.mul_le_mul_right _ (of_decide_eq_true (by first | (with_reducible assumption) | assumption) : a0_0.toNat ≤ 281474976710656)) (by omega)) (Below.refl _ _) (Nat.le_refl _) ?_; intro v251 w10 ho11 hb hg_ hnew_; clear hg_ hnew_; (first | rw [← Ny250.out] at ho11 | (simp only [Int.reduceToNat] at ho11; rw [← Ny250.out] at ho11)); have n0_ := Aside0.mk (Kd.S_below (by (with_reducible repeat (first | apply Kd.S_alloc | apply Kd.S_drewN | apply Kd.S_drew)); exact HO_3.out) hb); have n1_ := Aside0.mk (Kd.R_lower ho11 (below_size (upW HB))); have n2_ := Aside0.mk (blk_below (upK BK246) hb); have n3_ := Aside0.mk (below_step (upW HB) hb); clear HO_3; clear BK246; clear HB; have HO_3 := n0_; have HO252 := n1_; have BK246 := n2_; have HB := n3_; clear n0_ n1_ n2_ n3_; clear hb ho11; have hcz12_0 : w10.cell? ⟨gb246, 0, none⟩ = some (.int .i64 a0_0) := (blk_cell BK246.out 0).trans rfl; have hcz12_1 : w10.cell? ⟨gb246, 1, none⟩ = some (.int .i64 a0_1) := (blk_cell BK246.out 1).trans rfl; have hcz12_2 : w10.cell? ⟨gb246, 2, none⟩ = some (.slice A0_2 l0_2.length c0_2) := (blk_cell BK246.out 2).trans rfl; have hfz12_0 := blk_frozen BK246.out 0; have hfz12_1 := blk_frozen BK246.out 1; have hfz12_2 := blk_frozen BK246.out 2))
      go_loopg [24] k1 (fun kq v24 w' => ∃ (x5_2 : List Bool) (x24_2 : Int), v24 = .int .i64 x24_2 ∧ Aside0 (impl_Cut_linesAcross.l1 kq x3_1 x15_1 x5_2 (wrap64 (a0_1 + 1)) x15_1 l0_2 (l0_2.length : Int) x24_2 a0_0 a0_1 l0_2 = some r) ∧ Aside0 (kq ≤ k1) ∧ Aside0 (Kd.S (Kd.slice 3 (Kd.int .i64)) 41 w' w.heap.size (fun _ => True) u3 x3_1) ∧ Aside0 (Kd.R Kd.bool 4 w' w.heap.size (fun _ => True) v251 x5_2) ∧ Aside0 (w'.heap[gb246]? = some (.cells #[.int .i64 a0_0, .int .i64 a0_1, (.slice A0_2 l0_2.length c0_2)] 31 (0, 0))) ∧ Aside0 (Below w.heap.size w w'))
      case atStart => exact ⟨(y250), (0), (by first | rfl | (simp; done) | (simp [*]; done)), H', ⟨Nat.le_refl _⟩, ⟨by (with_reducible repeat (first | apply Kd.S_alloc | apply Kd.S_drewN | apply Kd.S_drew)); exact HO_3.out⟩, ⟨upR HO252⟩, ⟨upK BK246⟩, ⟨upW HB⟩⟩
      case round =>
       clear H'
       try clear p2
       try clear c6
       try clear c6b0
       try clear p6
       try clear c7
       try clear c7b0
       try clear c7b1
       try clear c8
       try clear c8b0
       try clear c8b1
       try clear hcz12_0
       try clear hcz12_1
       try clear hcz12_2
       try clear hcz5_0
       try clear hcz5_1
       try clear hcz5_2
       try clear hcz9_0
       try clear hcz9_1
       try clear hcz9_2
       try clear hfz12_0
       try clear hfz12_1
       try clear hfz12_2
       try clear hfz5_0
       try clear hfz5_1
       try clear hfz5_2
       try clear hfz9_0
       try clear hfz9_1
       try clear hfz9_2
       try clear p2
       obtain ⟨x5_2, x24_2, rfl, HA, HK2, HO_3, HO_5, BK246, HB⟩ := hrel
       cases gk with
       | zero => exact absurd HA.out (by simp [impl_Cut_linesAcross.l1])
       | succ k2 =>
        have H := HA.out
        clear HA
        simp only [impl_Cut_linesAcross.l1] at H
        by_cases c13 : x24_2 < (l0_2.length : Int)
        ·rw [if_pos c13] at H
         have c13b0 : decide (x24_2 < (l0_2.length : Int)) = true := decide_eq_true c13
         clear c13
         by_cases c14 : 0 ≤ x24_2
         ·rw [if_pos c14] at H
          have c14b0 : decide (0 ≤ x24_2) = true := decide_eq_true c14
          clear c14
          by_cases c15 : x24_2 < (l0_2.length : Int)
          ·rw [if_pos c15] at H
           have c15b0 : decide (x24_2 < (l0_2.length : Int)) = true := decide_eq_true c15
           clear c15
           have HC16 := Aside0.mk H
           clear H
           have p253 : 0 ≤ (x24_2 : Int) := of_decide_eq_true (by first | (with_reducible assumption) | assumption)
           have q253 : x24_2 < (l0_2.length : Int) := of_decide_eq_true (by first | (with_reducible assumption) | assumption)
           obtain ⟨ad253, e253, hx253_0, hx253_1, hx253_2⟩ := at_T73 HR0_2.out x24_2 p253 q253
           cases e253
           replace hx253_0 := (HB.out.cell (World.block_lt_of_cell? w _ hx253_0)).trans hx253_0
           replace hx253_1 := (HB.out.cell (World.block_lt_of_cell? w _ hx253_1)).trans hx253_1
           replace hx253_2 := (HB.out.cell (World.block_lt_of_cell? w _ hx253_2)).trans hx253_2
           replace p253 := eq_true p253
           replace q253 := eq_true q253
           go_upto_region 9 with (first | ((with_reducible refine gate_dst (N := 7) rfl ?_); refine box_event ?hg (N := 7) ?hd (cs := #[.int .i64 0, .int .i64 0, .int .i64 0]) (t := 73) ?hr ?_; (case hd => rfl); (case hg => rfl); (case hr => first | (go_simp; done) | (go_simp; rfl)); intro gb254 hg w17 hbox hb; have n0_ := Aside0.mk (Kd.S_below (by (with_reducible repeat (first | apply Kd.S_alloc | apply Kd.S_drewN | apply Kd.S_drew)); exact HO_3.out) hb); have n1_ := Aside0.mk (Kd.R_below (upR HO_5) hb); have n2_ := Aside0.mk (blk_below (upK BK246) hb); have n3_ := Aside0.mk (below_step (upW HB) hb); have n4_ := Aside0.mk (hbox); have n5_ := Aside0.mk ((by rw [hg]; exact (below_size (upW HB)) : w.heap.size ≤ gb254)); have n6_ := Aside0.mk ((by rw [hg]; exact (below_size (upW HB)) : w.heap.size ≤ gb254)); have n7_ := Aside0.mk ((by rw [hg]; exact Nat.ne_of_lt (blk_lt (upK BK246)) : gb246 ≠ gb254)); have n8_ := Aside0.mk ((by rw [hg]; exact Nat.ne_of_gt (blk_lt (upK BK246)) : gb254 ≠ gb246)); clear HO_3; clear HO_5; clear BK246; clear HB; have HO_3 := n0_; have HO_5 := n1_; have BK246 := n2_; have HB := n3_; have BK254 := n4_; have GW254 := n5_; have GE254 := n6_; have NB246_254 := n7_; have NB254_246 := n8_; clear n0_ n1_ n2_ n3_ n4_ n5_ n6_ n7_ n8_; clear hb hbox hg; have hnb18 := NB254_246.out; have hnc18 := NB246_254.out; have hcz19_0 : w17.cell? ⟨gb254, 0, none⟩ = some (.int .i64 0) := (blk_cell BK254.out 0).trans rfl; have hcz19_1 : w17.cell? ⟨gb254, 1, none⟩ = some (.int .i64 0) := (blk_cell BK254.out 1).trans rfl; have hcz19_2 : w17.cell? ⟨gb254, 2, none⟩ = some (.int .i64 0) := (blk_cell BK254.out 2).trans rfl; have hfz19_0 := blk_frozen BK254.out 0; have hfz19_1 := blk_frozen BK254.out 1; have hfz19_2 := blk_frozen BK254.out 2))
           (try simp only [Act.put, List.setIfInBounds_toArray, List.set_cons_zero, List.set_cons_succ])
           go_cut [40] (fun v40 wc => ∃ (kq : Nat) (x40_15 : Bool), v40 = .bool x40_15 ∧ Aside0 (impl_Cut_linesAcross.j2 kq x3_1 x15_1 x5_2 (wrap64 (a0_1 + 1)) x15_1 l0_2 (l0_2.length : Int) x24_2 x40_15 a0_0 a0_1 l0_2 ((rd_T73 l0_2 x24_2).f0) ((rd_T73 l0_2 x24_2).f1) ((rd_T73 l0_2 x24_2).f2) = some r) ∧ Aside0 (kq ≤ k2) ∧ Aside0 (Kd.S (Kd.slice 3 (Kd.int .i64)) 41 wc w.heap.size (fun _ => True) u3 x3_1) ∧ Aside0 (Kd.R Kd.bool 4 wc w.heap.size (fun _ => True) v251 x5_2) ∧ Aside0 (wc.heap[gb246]? = some (.cells #[.int .i64 a0_0, .int .i64 a0_1, (.slice (some ad253) l0_2.length c0_2)] 31 (0, 0))) ∧ Aside0 (wc.heap[gb254]? = some (.cells #[.int .i64 ((rd_T73 l0_2 x24_2).f0), .int .i64 ((rd_T73 l0_2 x24_2).f1), .int .i64 ((rd_T73 l0_2 x24_2).f2)] 73 (0, 0))) ∧ Aside0 (Below w.heap.size w wc))
           case first =>
            have H := HC16.out
            clear HC16
            by_cases c20 : ((rd_T73 l0_2 x24_2).f1) = x15_1
            ·rw [if_pos c20] at H
             have c20b0 : (((rd_T73 l0_2 x24_2).f1) == x15_1) = true := beq_iff_eq.mpr c20
             have c20b1 : (((rd_T73 l0_2 x24_2).f1) != x15_1) = false := bne_eq_false_iff_eq.mpr c20
             clear c20
             (first | rw [c20b0] | (simp only [i64_w, i32_w]; rw [c20b0]) | skip)
             have H' := Aside0.mk H
             clear H
             have hnb21 := NB254_246.out
             have hnc21 := NB246_254.out
             have hcz22_0 : w17.cell? ⟨gb254, 0, none⟩ = some (.int .i64 0) := (blk_cell BK254.out 0).trans rfl
             have hcz22_1 : w17.cell? ⟨gb254, 1, none⟩ = some (.int .i64 0) := (blk_cell BK254.out 1).trans rfl
             have hcz22_2 : w17.cell? ⟨gb254, 2, none⟩ = some (.int .i64 0) := (blk_cell BK254.out 2).trans rfl
             have hfz22_0 := blk_frozen BK254.out 0
             have hfz22_1 := blk_frozen BK254.out 1
             have hfz22_2 := blk_frozen BK254.out 2
             go_wp2
             go_meet
             case rel => exact ⟨_, (true), (by first | rfl | (simp; done) | (simp [*]; done)), H', ⟨by have := HK1.out; have := HK2.out; first | omega | exact Nat.le_refl _⟩, ⟨by (with_reducible repeat (first | apply Kd.S_alloc | apply Kd.S_drewN | apply Kd.S_drew)); exact Kd.S_mono (Kd.S_far (p := ⟨gb254, 2, none⟩) (Kd.S_far (p := ⟨gb254, 1, none⟩) (Kd.S_far (p := ⟨gb254, 0, none⟩) (Kd.S_types HO_3.out BK254.out (by decide)) (fun _ hk => hk.2) (.int .i64 ((rd_T73 l0_2 x24_2).f0))) (fun _ hk => hk.2) (.int .i64 ((rd_T73 l0_2 x24_2).f1))) (fun _ hk => hk.2) (.int .i64 ((rd_T73 l0_2 x24_2).f2))) (fun _ hk => trivial)⟩, ⟨by (with_reducible repeat (first | apply Kd.R_alloc | apply Kd.R_drewN | apply Kd.R_drew)); exact Kd.R_mono (Kd.R_far (p := ⟨gb254, 2, none⟩) (Kd.R_far (p := ⟨gb254, 1, none⟩) (Kd.R_far (p := ⟨gb254, 0, none⟩) (Kd.R_types HO_5.out BK254.out (by decide)) (fun _ hk => hk.2) (.int .i64 ((rd_T73 l0_2 x24_2).f0))) (fun _ hk => hk.2) (.int .i64 ((rd_T73 l0_2 x24_2).f1))) (fun _ hk => hk.2) (.int .i64 ((rd_T73 l0_2 x24_2).f2))) (fun _ hk => trivial)⟩, ⟨upF BK246⟩, ⟨by (with_reducible repeat (first | refine blk_drewN ?_ _ | refine blk_drew ?_ | refine blk_alloc ?_ _)); refine blk_put (cs := #[.int .i64 ((rd_T73 l0_2 x24_2).f0), .int .i64 ((rd_T73 l0_2 x24_2).f1), .int .i64 0]) ?_ 2 _ rfl; (with_reducible repeat (first | refine blk_drewN ?_ _ | refine blk_drew ?_ | refine blk_alloc ?_ _)); refine blk_put (cs := #[.int .i64 ((rd_T73 l0_2 x24_2).f0), .int .i64 0, .int .i64 0]) ?_ 1 _ rfl; (with_reducible repeat (first | refine blk_drewN ?_ _ | refine blk_drew ?_ | refine blk_alloc ?_ _)); refine blk_put (cs := #[.int .i64 0, .int .i64 0, .int .i64 0]) ?_ 0 _ rfl; (with_reducible repeat (first | refine blk_drewN ?_ _ | refine blk_drew ?_ | refine blk_alloc ?_ _)); exact BK254.out⟩, ⟨upW HB⟩⟩
            ·rw [if_neg c20] at H
             have c20b0 : (((rd_T73 l0_2 x24_2).f1) == x15_1) = false := beq_eq_false_iff_ne.mpr c20
             have c20b1 : (((rd_T73 l0_2 x24_2).f1) != x15_1) = true := bne_iff_ne.mpr c20
             (first | rw [c20b0] | (simp only [i64_w, i32_w]; rw [c20b0]) | skip)
             have H' := Aside0.mk H
             clear H
             have hnb23 := NB254_246.out
             have hnc23 := NB246_254.out
             have hcz24_0 : w17.cell? ⟨gb254, 0, none⟩ = some (.int .i64 0) := (blk_cell BK254.out 0).trans rfl
             have hcz24_1 : w17.cell? ⟨gb254, 1, none⟩ = some (.int .i64 0) := (blk_cell BK254.out 1).trans rfl
             have hcz24_2 : w17.cell? ⟨gb254, 2, none⟩ = some (.int .i64 0) := (blk_cell BK254.out 2).trans rfl
             have hfz24_0 := blk_frozen BK254.out 0
             have hfz24_1 := blk_frozen BK254.out 1
             have hfz24_2 := blk_frozen BK254.out 2
             go_wp2
             go_meet
             case rel => exact ⟨_, (((wrap64 (((rd_T73 l0_2 x24_2).f1) + ((rd_T73 l0_2 x24_2).f2))) == x15_1)), (by first | rfl | (simp; done) | (simp [*]; done)), H', ⟨by have := HK1.out; have := HK2.out; first | omega | exact Nat.le_refl _⟩, ⟨by (with_reducible repeat (first | apply Kd.S_alloc | apply Kd.S_drewN | apply Kd.S_drew)); exact Kd.S_mono (Kd.S_far (p := ⟨gb254, 2, none⟩) (Kd.S_far (p := ⟨gb254, 1, none⟩) (Kd.S_far (p := ⟨gb254, 0, none⟩) (Kd.S_types HO_3.out BK254.out (by decide)) (fun _ hk => hk.2) (.int .i64 ((rd_T73 l0_2 x24_2).f0))) (fun _ hk => hk.2) (.int .i64 ((rd_T73 l0_2 x24_2).f1))) (fun _ hk => hk.2) (.int .i64 ((rd_T73 l0_2 x24_2).f2))) (fun _ hk => trivial)⟩, ⟨by (with_reducible repeat (first | apply Kd.R_alloc | apply Kd.R_drewN | apply Kd.R_drew)); exact Kd.R_mono (Kd.R_far (p := ⟨gb254, 2, none⟩) (Kd.R_far (p := ⟨gb254, 1, none⟩) (Kd.R_far (p := ⟨gb254, 0, none⟩) (Kd.R_types HO_5.out BK254.out (by decide)) (fun _ hk => hk.2) (.int .i64 ((rd_T73 l0_2 x24_2).f0))) (fun _ hk => hk.2) (.int .i64 ((rd_T73 l0_2 x24_2).f1))) (fun _ hk => hk.2) (.int .i64 ((rd_T73 l0_2 x24_2).f2))) (fun _ hk => trivial)⟩, ⟨upF BK246⟩, ⟨by (with_reducible repeat (first | refine blk_drewN ?_ _ | refine blk_drew ?_ | refine blk_alloc ?_ _)); refine blk_put (cs := #[.int .i64 ((rd_T73 l0_2 x24_2).f0), .int .i64 ((rd_T73 l0_2 x24_2).f1), .int .i64 0]) ?_ 2 _ rfl; (with_reducible repeat (first | refine blk_drewN ?_ _ | refine blk_drew ?_ | refine blk_alloc ?_ _)); refine blk_put (cs := #[.int .i64 ((rd_T73 l0_2 x24_2).f0), .int .i64 0, .int .i64 0]) ?_ 1 _ rfl; (with_reducible repeat (first | refine blk_drewN ?_ _ | refine blk_drew ?_ | refine blk_alloc ?_ _)); refine blk_put (cs := #[.int .i64 0, .int .i64 0, .int .i64 0]) ?_ 0 _ rfl; (with_reducible repeat (first | refine blk_drewN ?_ _ | refine blk_drew ?_ | refine blk_alloc ?_ _)); exact BK254.out⟩, ⟨upW HB⟩⟩
           case rest =>
            clear HC16
            try clear c1
            try clear c2
            try clear p2
            try clear q2
            try clear hx2
            try clear c6
            try clear c6b0
            try clear p6
            try clear c7
            try clear c7b0
            try clear c7b1
            try clear c8
            try clear c8b0
            try clear c8b1
            try clear c13
            try clear c13b0
            try clear c14
            try clear c14b0
            try clear c15
            try clear c15b0
            try clear c18
            try clear c20
            try clear c20b0
            try clear c20b1
            try clear c21
            try clear c23
            try clear hcz12_0
            try clear hcz12_1
            try clear hcz12_2
            try clear hcz19_0
            try clear hcz19_1
            try clear hcz19_2
            try clear hcz22_0
            try clear hcz22_1
            try clear hcz22_2
            try clear hcz24_0
            try clear hcz24_1
            try clear hcz24_2
            try clear hcz5_0
            try clear hcz5_1
            try clear hcz5_2
            try clear hcz9_0
            try clear hcz9_1
            try clear hcz9_2
            try clear hfz12_0
            try clear hfz12_1
            try clear hfz12_2
            try clear hfz19_0
            try clear hfz19_1
            try clear hfz19_2
            try clear hfz22_0
            try clear hfz22_1
            try clear hfz22_2
            try clear hfz24_0
            try clear hfz24_1
            try clear hfz24_2
            try clear hfz5_0
            try clear hfz5_1
            try clear hfz5_2
            try clear hfz9_0
            try clear hfz9_1
            try clear hfz9_2
            try clear hx253_0
            try clear hx253_1
            try clear hx253_2
            try clear p2
            try clear p253
            try clear p6
            try clear q253
            obtain ⟨kq, x40_15, rfl, HA, HJ15, HO_3, HO_5, BK246, BK254, HB⟩ := hcut
            cases kq with
            | zero => exact absurd HA.out (by simp [impl_Cut_linesAcross.j2])
            | succ kj15 =>
             have H := HA.out
             clear HA
             simp only [impl_Cut_linesAcross.j2] at H
             by_cases c25 : x40_15 = true
             ·subst c25
              have H1 : (impl_Cut_linesAcross.l2 kj15 x3_1 x15_1 x5_2 ((rd_T73 l0_2 x24_2).f0) (wrap64 (a0_1 + 1)) x15_1 l0_2 (l0_2.length : Int) x24_2 a0_0 a0_1 l0_2 ((rd_T73 l0_2 x24_2).f0) ((rd_T73 l0_2 x24_2).f1) ((rd_T73 l0_2 x24_2).f2)) = some r := by rw [if_pos rfl] at H; exact H
              clear H
              have H := H1
              clear H1
              have H' := Aside0.mk H
              clear H
              have hnb26 := NB254_246.out
              have hnc26 := NB246_254.out
              have hcz27_0 : wc.cell? ⟨gb254, 0, none⟩ = some (.int .i64 ((rd_T73 l0_2 x24_2).f0)) := (blk_cell BK254.out 0).trans rfl
              have hcz27_1 : wc.cell? ⟨gb254, 1, none⟩ = some (.int .i64 ((rd_T73 l0_2 x24_2).f1)) := (blk_cell BK254.out 1).trans rfl
              have hcz27_2 : wc.cell? ⟨gb254, 2, none⟩ = some (.int .i64 ((rd_T73 l0_2 x24_2).f2)) := (blk_cell BK254.out 2).trans rfl
              have hfz27_0 := blk_frozen BK254.out 0
              have hfz27_1 := blk_frozen BK254.out 1
              have hfz27_2 := blk_frozen BK254.out 2
              go_wp2
              go_loopg [8] kj15 (fun kq v8 w' => ∃ (x5_4 : List Bool) (x8_4 : Int), v8 = .int .i64 x8_4 ∧ Aside0 (impl_Cut_linesAcross.l2 kq x3_1 x15_1 x5_4 x8_4 (wrap64 (a0_1 + 1)) x15_1 l0_2 (l0_2.length : Int) x24_2 a0_0 a0_1 l0_2 ((rd_T73 l0_2 x24_2).f0) ((rd_T73 l0_2 x24_2).f1) ((rd_T73 l0_2 x24_2).f2) = some r) ∧ Aside0 (kq ≤ kj15) ∧ Aside0 (Kd.S (Kd.slice 3 (Kd.int .i64)) 41 w' w.heap.size (fun _ => True) u3 x3_1) ∧ Aside0 (Kd.R Kd.bool 4 w' w.heap.size (fun _ => True) v251 x5_4) ∧ Aside0 (w'.heap[gb246]? = some (.cells #[.int .i64 a0_0, .int .i64 a0_1, (.slice (some ad253) l0_2.length c0_2)] 31 (0, 0))) ∧ Aside0 (w'.heap[gb254]? = some (.cells #[.int .i64 ((rd_T73 l0_2 x24_2).f0), .int .i64 ((rd_T73 l0_2 x24_2).f1), .int .i64 ((rd_T73 l0_2 x24_2).f2)] 73 (0, 0))) ∧ Aside0 (Below w.heap.size w w'))
              case atStart => exact ⟨(x5_2), (((rd_T73 l0_2 x24_2).f0)), (by first | rfl | (simp; done) | (simp [*]; done)), H', ⟨Nat.le_refl _⟩, ⟨by (with_reducible repeat (first | apply Kd.S_alloc | apply Kd.S_drewN | apply Kd.S_drew)); exact HO_3.out⟩, ⟨upR HO_5⟩, ⟨upK BK246⟩, ⟨upK BK254⟩, ⟨upW HB⟩⟩
              case round =>
               clear H'
               try clear c1
               try clear c2
               try clear p2
               try clear q2
               try clear hx2
               try clear c6
               try clear c6b0
               try clear p6
               try clear c7
               try clear c7b0
               try clear c7b1
               try clear c8
               try clear c8b0
               try clear c8b1
               try clear c13
               try clear c13b0
               try clear c14
               try clear c14b0
               try clear c15
               try clear c15b0
               try clear c18
               try clear c20
               try clear c20b0
               try clear c20b1
               try clear c21
               try clear c23
               try clear c25
               try clear p25
               try clear q25
               try clear hx25
               try clear c26
               try clear hcz12_0
               try clear hcz12_1
               try clear hcz12_2
               try clear hcz19_0
               try clear hcz19_1
               try clear hcz19_2
               try clear hcz22_0
               try clear hcz22_1
               try clear hcz22_2
               try clear hcz24_0
               try clear hcz24_1
               try clear hcz24_2
               try clear hcz27_0
               try clear hcz27_1
               try clear hcz27_2
               try clear hcz5_0
               try clear hcz5_1
               try clear hcz5_2
               try clear hcz9_0
               try clear hcz9_1
               try clear hcz9_2
               try clear hfz12_0
               try clear hfz12_1
               try clear hfz12_2
               try clear hfz19_0
               try clear hfz19_1
               try clear hfz19_2
               try clear hfz22_0
               try clear hfz22_1
               try clear hfz22_2
               try clear hfz24_0
               try clear hfz24_1
               try clear hfz24_2
               try clear hfz27_0
               try clear hfz27_1
               try clear hfz27_2
               try clear hfz5_0
               try clear hfz5_1
               try clear hfz5_2
               try clear hfz9_0
               try clear hfz9_1
               try clear hfz9_2
               try clear hx253_0
               try clear hx253_1
               try clear hx253_2
               try clear p2
               try clear p253
               try clear p6
               try clear q2
               try clear q253
               obtain ⟨x5_4, x8_4, rfl, HA, HK4, HO_3, HO_5, BK246, BK254, HB⟩ := hrel
               cases gk with
               | zero => exact absurd HA.out (by simp [impl_Cut_linesAcross.l2])
               | succ k4 =>
                have H := HA.out
                clear HA
                simp only [impl_Cut_linesAcross.l2] at H
                by_cases c28 : x8_4 < (wrap64 (((rd_T73 l0_2 x24_2).f0) + ((rd_T73 l0_2 x24_2).f2)))
                ·rw [if_pos c28] at H
                 have c28b0 : decide (x8_4 < (wrap64 (((rd_T73 l0_2 x24_2).f0) + ((rd_T73 l0_2 x24_2).f2)))) = true := decide_eq_true c28
                 clear c28
                 by_cases c29 : 0 ≤ x8_4
                 ·rw [if_pos c29] at H
                  have c29b0 : decide (0 ≤ x8_4) = true := decide_eq_true c29
                  clear c29
                  by_cases c30 : x8_4 < (x5_4.length : Int)
                  ·rw [if_pos c30] at H
                   have c30b0 : decide (x8_4 < (x5_4.length : Int)) = true := decide_eq_true c30
                   clear c30
                   obtain ⟨y255, hy255⟩ : ∃ y_ : List Bool, y_ = (x5_4.set (x8_4 : Int).toNat true) := ⟨_, rfl⟩
                   replace H : (impl_Cut_linesAcross.l2 k4 x3_1 x15_1 y255 (wrap64 (x8_4 + 1)) (wrap64 (a0_1 + 1)) x15_1 l0_2 (l0_2.length : Int) x24_2 a0_0 a0_1 l0_2 ((rd_T73 l0_2 x24_2).f0) ((rd_T73 l0_2 x24_2).f1) ((rd_T73 l0_2 x24_2).f2)) = some r := by first | (rw [hy255]; with_reducible exact H) | (have H2_ := (Option.bind_some _ _).symm.trans H; rw [hy255]; with_reducible exact H2_) | (have H2_ := (Option.bind_some _ _).symm.trans H; with_reducible exact H2_) | with_reducible exact H | (rw [hy255]; exact H) | exact H
                   have Ny255 := Aside0.mk hy255
                   clear hy255
                   have H' := Aside0.mk H
                   clear H
                   have hnb32 := NB254_246.out
                   have hnc32 := NB246_254.out
                   have hcz33_0 : wr.cell? ⟨gb254, 0, none⟩ = some (.int .i64 ((rd_T73 l0_2 x24_2).f0)) := (blk_cell BK254.out 0).trans rfl
                   have hcz33_1 : wr.cell? ⟨gb254, 1, none⟩ = some (.int .i64 ((rd_T73 l0_2 x24_2).f1)) := (blk_cell BK254.out 1).trans rfl
                   have hcz33_2 : wr.cell? ⟨gb254, 2, none⟩ = some (.int .i64 ((rd_T73 l0_2 x24_2).f2)) := (blk_cell BK254.out 2).trans rfl
                   have hfz33_0 := blk_frozen BK254.out 0
                   have hfz33_1 := blk_frozen BK254.out 1
                   have hfz33_2 := blk_frozen BK254.out 2
                   have p31 : 0 ≤ (x8_4 : Int) := of_decide_eq_true (by first | (with_reducible assumption) | assumption)
                   have q31 : (x8_4 : Int) < ((x5_4.length : Int) : Int) := of_decide_eq_true (by first | (with_reducible assumption) | assumption)
                   obtain ⟨go31, co31, eo31, gb31, gl31, cl31, HG31⟩ := Kd.R_form HO_5.out (by omega)
                   (first | cases eo31 | (injection eo31 with ea_ en_ ec_; (first | subst ea_ | (injection ea_ with ea_; subst ea_)); subst ec_; clear en_))
                   have GB31 := Aside0.mk gb31
                   have GG31 := Aside0.mk HG31
                   clear gb31 gl31 HG31
                   obtain ⟨hx31_0, hf31_0⟩ := Kd.R_celln false HO_5.out (x8_4 : Int) p31 q31
                   replace p31 := eq_true p31
                   replace q31 := eq_true q31
                   have HP34 := Kd.R_putg HO_5.out (x8_4 : Int) true
                   go_wp2_with (first | ((with_reducible refine gate_store (t := 4) (p := 54) rfl ?_); refine store_event (t := 4) (p := 54) (v := ?vo_w35) (w1 := (wr.setCell ⟨go31, (x8_4 : Int).toNat, none⟩ (.bool true))) ?hg ?ho ?hn ?hr ?_; (case ho => rfl); (case hg => rfl); (case hn => rfl); (case hr => first | (go_simp; done) | (go_simp; rfl)); intro w35 hw; have hg : wr.grownBy w35 (some go31) := (by rw [hw]; exact HP34.2); have hp_ : Kd.R Kd.bool 4 w35 w.heap.size (fun _ => True) (.slice (some ⟨go31, 0, none⟩) x5_4.length co31) y255 := (by rw [hw, Ny255.out]; exact HP34.1); clear HP34; have n0_ := Aside0.mk (Kd.S_over' (v := (.slice (some ⟨go31, 0, none⟩) x5_4.length co31)) (by (with_reducible repeat (first | apply Kd.S_alloc | apply Kd.S_drewN | apply Kd.S_drew)); exact HO_3.out) (Kd.R_typed HO_5.out) (by decide) hg); have n1_ := Aside0.mk (hp_); have n2_ := Aside0.mk (blk_grown (upK BK246) hg (Kd.R_ne HO_5.out BK246.out (by decide))); have n3_ := Aside0.mk (blk_grown (upK BK254) hg (Kd.R_ne HO_5.out BK254.out (by decide))); have n4_ := Aside0.mk ((by rw [hw]; exact below_set (HB.out) GB31.out : Below w.heap.size w w35)); clear HO_3; clear HO_5; clear BK246; clear BK254; clear HB; have HO_3 := n0_; have HO_5 := n1_; have BK246 := n2_; have BK254 := n3_; have HB := n4_; clear n0_ n1_ n2_ n3_ n4_; clear hg hw hp_))
                   go_roundg k4
                   case measure => have := HK1.out; have := HK2.out; have := HJ15.out; have := HK4.out; omega
                   case rel => exact ⟨(y255), (wrap64 (x8_4 + 1)), (by first | rfl | (simp; done) | (simp [*]; done)), H', ⟨by have := HK1.out; have := HK2.out; have := HJ15.out; have := HK4.out; omega⟩, ⟨by (with_reducible repeat (first | apply Kd.S_alloc | apply Kd.S_drewN | apply Kd.S_drew)); exact HO_3.out⟩, ⟨upR HO_5⟩, ⟨upK BK246⟩, ⟨upK BK254⟩, ⟨upW HB⟩⟩
                  ·rw [if_neg c30] at H
                   exact absurd H (by simp)
                 ·rw [if_neg c29] at H
                  exact absurd H (by simp)
                ·rw [if_neg c28] at H
                 have c28b0 : decide (x8_4 < (wrap64 (((rd_T73 l0_2 x24_2).f0) + ((rd_T73 l0_2 x24_2).f2)))) = false := decide_eq_false c28
                 clear c28
                 have H' := Aside0.mk H
                 clear H
                 have hnb36 := NB254_246.out
                 have hnc36 := NB246_254.out
                 have hcz37_0 : wr.cell? ⟨gb254, 0, none⟩ = some (.int .i64 ((rd_T73 l0_2 x24_2).f0)) := (blk_cell BK254.out 0).trans rfl
                 have hcz37_1 : wr.cell? ⟨gb254, 1, none⟩ = some (.int .i64 ((rd_T73 l0_2 x24_2).f1)) := (blk_cell BK254.out 1).trans rfl
                 have hcz37_2 : wr.cell? ⟨gb254, 2, none⟩ = some (.int .i64 ((rd_T73 l0_2 x24_2).f2)) := (blk_cell BK254.out 2).trans rfl
                 have hfz37_0 := blk_frozen BK254.out 0
                 have hfz37_1 := blk_frozen BK254.out 1
                 have hfz37_2 := blk_frozen BK254.out 2
                 go_wp2
                 go_roundg k4
                 case measure => have := HK1.out; have := HK2.out; have := HJ15.out; have := HK4.out; omega
                 case rel => exact ⟨(x5_4), (wrap64 (x24_2 + 1)), (by first | rfl | (simp; done) | (simp [*]; done)), H', ⟨by have := HK1.out; have := HK2.out; have := HJ15.out; have := HK4.out; omega⟩, ⟨by (with_reducible repeat (first | apply Kd.S_alloc | apply Kd.S_drewN | apply Kd.S_drew)); exact HO_3.out⟩, ⟨upR HO_5⟩, ⟨upK BK246⟩, ⟨upW HB⟩⟩
             ·replace c25 := Bool.eq_false_iff.mpr c25
              subst c25
              have H1 : (impl_Cut_linesAcross.l1 kj15 x3_1 x15_1 x5_2 (wrap64 (a0_1 + 1)) x15_1 l0_2 (l0_2.length : Int) (wrap64 (x24_2 + 1)) a0_0 a0_1 l0_2) = some r := by rw [if_neg (show ¬ (false = true) by decide)] at H; exact H
              clear H
              have H := H1
              clear H1
              have H' := Aside0.mk H
              clear H
              go_wp2
              go_roundg kj15
              case measure => have := HK1.out; have := HK2.out; have := HJ15.out; omega
              case rel => exact ⟨(x5_2), (wrap64 (x24_2 + 1)), (by first | rfl | (simp; done) | (simp [*]; done)), H', ⟨by have := HK1.out; have := HK2.out; have := HJ15.out; omega⟩, ⟨by (with_reducible repeat (first | apply Kd.S_alloc | apply Kd.S_drewN | apply Kd.S_drew)); exact HO_3.out⟩, ⟨upR HO_5⟩, ⟨upK BK246⟩, ⟨upW HB⟩⟩
          ·rw [if_neg c15] at H
           exact absurd H (by simp)
         ·rw [if_neg c14] at H
          exact absurd H (by simp)
        ·rw [if_neg c13] at H
         have c13b0 : decide (x24_2 < (l0_2.length : Int)) = false := decide_eq_false c13
         clear c13
         have H' := Aside0.mk H
         clear H
         obtain ⟨Ao38, co38, eo38⟩ := Kd.R_slice HO_5.out
         subst eo38
         go_wp2
         go_loopg [3, 58] k2 (fun kq v3 v58 w' => ∃ (x3_3 : List (List Int)) (x58_3 : Int), v58 = .int .i64 x58_3 ∧ Aside0 (impl_Cut_linesAcross.l3 kq x3_3 x15_1 x5_2 (wrap64 (a0_1 + 1)) x15_1 x5_2 (x5_2.length : Int) x58_3 a0_0 a0_1 l0_2 = some r) ∧ Aside0 (kq ≤ k2) ∧ Aside0 (Kd.S (Kd.slice 3 (Kd.int .i64)) 41 w' w.heap.size (fun _ => True) v3 x3_3) ∧ Aside0 (Kd.R Kd.bool 4 w' w.heap.size (fun _ => True) (.slice Ao38 x5_2.length co38) x5_2) ∧ Aside0 (Kd.R Kd.bool 4 w' w.heap.size (fun _ => True) (.slice Ao38 x5_2.length co38) x5_2) ∧ Aside0 (w'.heap[gb246]? = some (.cells #[.int .i64 a0_0, .int .i64 a0_1, (.slice A0_2 l0_2.length c0_2)] 31 (0, 0))) ∧ Aside0 (Below w.heap.size w w'))
         case atStart => exact ⟨(x3_1), (0), (by first | rfl | (simp; done) | (simp [*]; done)), H', ⟨Nat.le_refl _⟩, ⟨by (with_reducible repeat (first | apply Kd.S_alloc | apply Kd.S_drewN | apply Kd.S_drew)); exact HO_3.out⟩, ⟨upR HO_5⟩, ⟨upR HO_5⟩, ⟨upK BK246⟩, ⟨upW HB⟩⟩
         case round =>
          clear H'
          try clear c1
          try clear c2
          try clear p2
          try clear q2
          try clear hx2
          try clear c3
          try clear p3
          try clear q3
          try clear hx3
          try clear hf3
          try clear c6
          try clear c6b0
          try clear p6
          try clear c7
          try clear c7b0
          try clear c7b1
          try clear c8
          try clear c8b0
          try clear c8b1
          try clear c13
          try clear c13b0
          try clear c14
          try clear c14b0
          try clear c15
          try clear c15b0
          try clear c18
          try clear c20
          try clear c20b0
          try clear c20b1
          try clear c21
          try clear c23
          try clear c25
          try clear p25
          try clear q25
          try clear hx25
          try clear c26
          try clear c28
          try clear c28b0
          try clear c29
          try clear c29b0
          try clear c30
          try clear c30b0
          try clear p31
          try clear q31
          try clear hx31
          try clear hf31
          try clear c32
          try clear c36
          try clear hcz12_0
          try clear hcz12_1
          try clear hcz12_2
          try clear hcz19_0
          try clear hcz19_1
          try clear hcz19_2
          try clear hcz22_0
          try clear hcz22_1
          try clear hcz22_2
          try clear hcz24_0
          try clear hcz24_1
          try clear hcz24_2
          try clear hcz27_0
          try clear hcz27_1
          try clear hcz27_2
          try clear hcz33_0
          try clear hcz33_1
          try clear hcz33_2
          try clear hcz37_0
          try clear hcz37_1
          try clear hcz37_2
          try clear hcz5_0
          try clear hcz5_1
          try clear hcz5_2
          try clear hcz9_0
          try clear hcz9_1
          try clear hcz9_2
          try clear hfz12_0
          try clear hfz12_1
          try clear hfz12_2
          try clear hfz19_0
          try clear hfz19_1
          try clear hfz19_2
          try clear hfz22_0
          try clear hfz22_1
          try clear hfz22_2
          try clear hfz24_0
          try clear hfz24_1
          try clear hfz24_2
          try clear hfz27_0
          try clear hfz27_1
          try clear hfz27_2
          try clear hfz33_0
          try clear hfz33_1
          try clear hfz33_2
          try clear hfz37_0
          try clear hfz37_1
          try clear hfz37_2
          try clear hfz5_0
          try clear hfz5_1
          try clear hfz5_2
          try clear hfz9_0
          try clear hfz9_1
          try clear hfz9_2
          try clear hx253_0
          try clear hx253_1
          try clear hx253_2
          try clear hx31_0
          try clear p2
          try clear p25
          try clear p253
          try clear p31
          try clear p6
          try clear q2
          try clear q25
          try clear q253
          try clear q31
          obtain ⟨x3_3, x58_3, rfl, HA, HK3, HO_3, HO_5, HO_56, BK246, HB⟩ := hrel
          cases gk with
          | zero => exact absurd HA.out (by simp [impl_Cut_linesAcross.l3])
          | succ k3 =>
           have H := HA.out
           clear HA
           simp only [impl_Cut_linesAcross.l3] at H
           by_cases c39 : x58_3 < (x5_2.length : Int)
           ·rw [if_pos c39] at H
            have c39b0 : decide (x58_3 < (x5_2.length : Int)) = true := decide_eq_true c39
            clear c39
            by_cases c40 : 0 ≤ x58_3
            ·rw [if_pos c40] at H
             have c40b0 : decide (0 ≤ x58_3) = true := decide_eq_true c40
             clear c40
             by_cases c41 : x58_3 < (x5_2.length : Int)
             ·rw [if_pos c41] at H
              have c41b0 : decide (x58_3 < (x5_2.length : Int)) = true := decide_eq_true c41
              clear c41
              obtain ⟨bq42, hbq42⟩ : ∃ b_ : Bool, b_ = (rdOf false x5_2 x58_3) := ⟨_, rfl⟩
              replace H : (if bq42 = true then (if x58_3 > 0 then (if 0 ≤ (wrap64 (x58_3 - 1)) then (if (wrap64 (x58_3 - 1)) < (x5_2.length : Int) then (if rdOf false x5_2 (wrap64 (x58_3 - 1)) = true then (if 0 ≤ (wrap64 ((x3_3.length : Int) - 1)) then (if (wrap64 ((x3_3.length : Int) - 1)) < (x3_3.length : Int) then (if 2 < ((rd_L5 x3_3 (wrap64 ((x3_3.length : Int) - 1))).length : Int) then (impl_Cut_linesAcross.l3 k3 (x3_3.set ((wrap64 ((x3_3.length : Int) - 1)) : Int).toNat ((rd_L5 x3_3 (wrap64 ((x3_3.length : Int) - 1))).set (2 : Int).toNat (wrap64 (x58_3 + 1)))) x15_1 x5_2 (wrap64 (a0_1 + 1)) x15_1 x5_2 (x5_2.length : Int) (wrap64 (x58_3 + 1)) a0_0 a0_1 l0_2) else (none)) else (none)) else (none)) else (if x3_3.length < 5864062014805 then (impl_Cut_linesAcross.l3 k3 (x3_3 ++ [(([x15_1, x58_3, wrap64 (x58_3 + 1)] : List Int))]) x15_1 x5_2 (wrap64 (a0_1 + 1)) x15_1 x5_2 (x5_2.length : Int) (wrap64 (x58_3 + 1)) a0_0 a0_1 l0_2) else (none))) else (none)) else (none)) else (if x3_3.length < 5864062014805 then (impl_Cut_linesAcross.l3 k3 (x3_3 ++ [(([x15_1, x58_3, wrap64 (x58_3 + 1)] : List Int))]) x15_1 x5_2 (wrap64 (a0_1 + 1)) x15_1 x5_2 (x5_2.length : Int) (wrap64 (x58_3 + 1)) a0_0 a0_1 l0_2) else (none))) else (impl_Cut_linesAcross.l3 k3 x3_3 x15_1 x5_2 (wrap64 (a0_1 + 1)) x15_1 x5_2 (x5_2.length : Int) (wrap64 (x58_3 + 1)) a0_0 a0_1 l0_2)) = some r := by rw [← hbq42] at H; exact H
              have Nbq42 := Aside0.mk hbq42
              clear hbq42
              by_cases c43 : bq42 = true
              ·subst c43
               have H1 : (if x58_3 > 0 then (if 0 ≤ (wrap64 (x58_3 - 1)) then (if (wrap64 (x58_3 - 1)) < (x5_2.length : Int) then (if rdOf false x5_2 (wrap64 (x58_3 - 1)) = true then (if 0 ≤ (wrap64 ((x3_3.length : Int) - 1)) then (if (wrap64 ((x3_3.length : Int) - 1)) < (x3_3.length : Int) then (if 2 < ((rd_L5 x3_3 (wrap64 ((x3_3.length : Int) - 1))).length : Int) then (impl_Cut_linesAcross.l3 k3 (x3_3.set ((wrap64 ((x3_3.length : Int) - 1)) : Int).toNat ((rd_L5 x3_3 (wrap64 ((x3_3.length : Int) - 1))).set (2 : Int).toNat (wrap64 (x58_3 + 1)))) x15_1 x5_2 (wrap64 (a0_1 + 1)) x15_1 x5_2 (x5_2.length : Int) (wrap64 (x58_3 + 1)) a0_0 a0_1 l0_2) else (none)) else (none)) else (none)) else (if x3_3.length < 5864062014805 then (impl_Cut_linesAcross.l3 k3 (x3_3 ++ [(([x15_1, x58_3, wrap64 (x58_3 + 1)] : List Int))]) x15_1 x5_2 (wrap64 (a0_1 + 1)) x15_1 x5_2 (x5_2.length : Int) (wrap64 (x58_3 + 1)) a0_0 a0_1 l0_2) else (none))) else (none)) else (none)) else (if x3_3.length < 5864062014805 then (impl_Cut_linesAcross.l3 k3 (x3_3 ++ [(([x15_1, x58_3, wrap64 (x58_3 + 1)] : List Int))]) x15_1 x5_2 (wrap64 (a0_1 + 1)) x15_1 x5_2 (x5_2.length : Int) (wrap64 (x58_3 + 1)) a0_0 a0_1 l0_2) else (none))) = some r := by rw [if_pos rfl] at H; exact H
               clear H
               have H := H1
               clear H1
               by_cases c44 : x58_3 > 0
               ·rw [if_pos c44] at H
                have c44b0 : decide (0 < x58_3) = true := decide_eq_true c44
                clear c44
                obtain ⟨ji45, hji45⟩ : ∃ j_ : Int, (wrap64 (x58_3 - 1)) = j_ := ⟨_, rfl⟩
                replace H : (if 0 ≤ (ji45) then (if (ji45) < (x5_2.length : Int) then (if rdOf false x5_2 (ji45) = true then (if 0 ≤ (wrap64 ((x3_3.length : Int) - 1)) then (if (wrap64 ((x3_3.length : Int) - 1)) < (x3_3.length : Int) then (if 2 < ((rd_L5 x3_3 (wrap64 ((x3_3.length : Int) - 1))).length : Int) then (impl_Cut_linesAcross.l3 k3 (x3_3.set ((wrap64 ((x3_3.length : Int) - 1)) : Int).toNat ((rd_L5 x3_3 (wrap64 ((x3_3.length : Int) - 1))).set (2 : Int).toNat (wrap64 (x58_3 + 1)))) x15_1 x5_2 (wrap64 (a0_1 + 1)) x15_1 x5_2 (x5_2.length : Int) (wrap64 (x58_3 + 1)) a0_0 a0_1 l0_2) else (none)) else (none)) else (none)) else (if x3_3.length < 5864062014805 then (impl_Cut_linesAcross.l3 k3 (x3_3 ++ [(([x15_1, x58_3, wrap64 (x58_3 + 1)] : List Int))]) x15_1 x5_2 (wrap64 (a0_1 + 1)) x15_1 x5_2 (x5_2.length : Int) (wrap64 (x58_3 + 1)) a0_0 a0_1 l0_2) else (none))) else (none)) else (none)) = some r := by first | (rw [hji45] at H; exact H) | (simp only [hji45] at H ⊢; exact H)
                have hji45w : (IntKind.i64.wrap (x58_3 - 1)) = ji45 := (i64_w _).trans hji45
                by_cases c46 : 0 ≤ (ji45)
                ·rw [if_pos c46] at H
                 have c46b0 : decide (0 ≤ (ji45)) = true := decide_eq_true c46
                 clear c46
                 by_cases c47 : (ji45) < (x5_2.length : Int)
                 ·rw [if_pos c47] at H
                  have c47b0 : decide ((ji45) < (x5_2.length : Int)) = true := decide_eq_true c47
                  clear c47
                  obtain ⟨bq48, hbq48⟩ : ∃ b_ : Bool, b_ = (rdOf false x5_2 (ji45)) := ⟨_, rfl⟩
                  replace H : (if bq48 = true then (if 0 ≤ (wrap64 ((x3_3.length : Int) - 1)) then (if (wrap64 ((x3_3.length : Int) - 1)) < (x3_3.length : Int) then (if 2 < ((rd_L5 x3_3 (wrap64 ((x3_3.length : Int) - 1))).length : Int) then (impl_Cut_linesAcross.l3 k3 (x3_3.set ((wrap64 ((x3_3.length : Int) - 1)) : Int).toNat ((rd_L5 x3_3 (wrap64 ((x3_3.length : Int) - 1))).set (2 : Int).toNat (wrap64 (x58_3 + 1)))) x15_1 x5_2 (wrap64 (a0_1 + 1)) x15_1 x5_2 (x5_2.length : Int) (wrap64 (x58_3 + 1)) a0_0 a0_1 l0_2) else (none)) else (none)) else (none)) else (if x3_3.length < 5864062014805 then (impl_Cut_linesAcross.l3 k3 (x3_3 ++ [(([x15_1, x58_3, wrap64 (x58_3 + 1)] : List Int))]) x15_1 x5_2 (wrap64 (a0_1 + 1)) x15_1 x5_2 (x5_2.length : Int) (wrap64 (x58_3 + 1)) a0_0 a0_1 l0_2) else (none))) = some r := by rw [← hbq48] at H; exact H
                  have Nbq48 := Aside0.mk hbq48
                  clear hbq48
                  by_cases c49 : bq48 = true
                  ·subst c49
                   have H1 : (if 0 ≤ (wrap64 ((x3_3.length : Int) - 1)) then (if (wrap64 ((x3_3.length : Int) - 1)) < (x3_3.length : Int) then (if 2 < ((rd_L5 x3_3 (wrap64 ((x3_3.length : Int) - 1))).length : Int) then (impl_Cut_linesAcross.l3 k3 (x3_3.set ((wrap64 ((x3_3.length : Int) - 1)) : Int).toNat ((rd_L5 x3_3 (wrap64 ((x3_3.length : Int) - 1))).set (2 : Int).toNat (wrap64 (x58_3 + 1)))) x15_1 x5_2 (wrap64 (a0_1 + 1)) x15_1 x5_2 (x5_2.length : Int) (wrap64 (x58_3 + 1)) a0_0 a0_1 l0_2) else (none)) else (none)) else (none)) = some r := by rw [if_pos rfl] at H; exact H
                   clear H
                   have H := H1
                   clear H1
                   obtain ⟨ji50, hji50⟩ : ∃ j_ : Int, (wrap64 ((x3_3.length : Int) - 1)) = j_ := ⟨_, rfl⟩
                   replace H : (if 0 ≤ (ji50) then (if (ji50) < (x3_3.length : Int) then (if 2 < ((rd_L5 x3_3 (ji50)).length : Int) then (impl_Cut_linesAcross.l3 k3 (x3_3.set ((ji50) : Int).toNat ((rd_L5 x3_3 (ji50)).set (2 : Int).toNat (wrap64 (x58_3 + 1)))) x15_1 x5_2 (wrap64 (a0_1 + 1)) x15_1 x5_2 (x5_2.length : Int) (wrap64 (x58_3 + 1)) a0_0 a0_1 l0_2) else (none)) else (none)) else (none)) = some r := by first | (rw [hji50] at H; exact H) | (simp only [hji50] at H ⊢; exact H)
                   have hji50w : (IntKind.i64.wrap ((x3_3.length : Int) - 1)) = ji50 := (i64_w _).trans hji50
                   by_cases c51 : 0 ≤ (ji50)
                   ·rw [if_pos c51] at H
                    have c51b0 : decide (0 ≤ (ji50)) = true := decide_eq_true c51
                    clear c51
                    by_cases c52 : (ji50) < (x3_3.length : Int)
                    ·rw [if_pos c52] at H
                     have c52b0 : decide ((ji50) < (x3_3.length : Int)) = true := decide_eq_true c52
                     clear c52
                     by_cases c53 : 2 < ((rd_L5 x3_3 (ji50)).length : Int)
                     ·rw [if_pos c53] at H
                      have c53b0 : decide (2 < ((rd_L5 x3_3 (ji50)).length : Int)) = true := decide_eq_true c53
                      have c53b1 : decide (2 < (rd_L5 x3_3 (ji50)).length) = true := decide_eq_true (by omega)
                      clear c53
                      obtain ⟨y259, hy259⟩ : ∃ y_ : List Int, y_ = ((rd_L5 x3_3 (ji50)).set (2 : Int).toNat (wrap64 (x58_3 + 1))) := ⟨_, rfl⟩
                      replace H : (impl_Cut_linesAcross.l3 k3 (x3_3.set ((ji50) : Int).toNat y259) x15_1 x5_2 (wrap64 (a0_1 + 1)) x15_1 x5_2 (x5_2.length : Int) (wrap64 (x58_3 + 1)) a0_0 a0_1 l0_2) = some r := by first | (rw [hy259]; with_reducible exact H) | (have H2_ := (Option.bind_some _ _).symm.trans H; rw [hy259]; with_reducible exact H2_) | (have H2_ := (Option.bind_some _ _).symm.trans H; with_reducible exact H2_) | with_reducible exact H | (rw [hy259]; exact H) | exact H
                      have Ny259 := Aside0.mk hy259
                      clear hy259
                      obtain ⟨y261, hy261⟩ : ∃ y_ : List (List Int), y_ = (x3_3.set ((ji50) : Int).toNat y259) := ⟨_, rfl⟩
                      replace H : (impl_Cut_linesAcross.l3 k3 y261 x15_1 x5_2 (wrap64 (a0_1 + 1)) x15_1 x5_2 (x5_2.length : Int) (wrap64 (x58_3 + 1)) a0_0 a0_1 l0_2) = some r := by first | (rw [hy261]; with_reducible exact H) | (have H2_ := (Option.bind_some _ _).symm.trans H; rw [hy261]; with_reducible exact H2_) | (have H2_ := (Option.bind_some _ _).symm.trans H; with_reducible exact H2_) | with_reducible exact H | (rw [hy261]; exact H) | exact H
                      have Ny261 := Aside0.mk hy261
                      clear hy261
                      have H' := Aside0.mk H
                      clear H
                      have p256 : 0 ≤ (x58_3 : Int) := of_decide_eq_true (by first | (with_reducible assumption) | assumption)
                      have q256 : x58_3 < (x5_2.length : Int) := of_decide_eq_true (by first | (with_reducible assumption) | assumption)
                      obtain ⟨ad256, e256, hx256_0⟩ := Kd.at_bool (Kd.R_reads' HO_56.out).2.2 x58_3 p256 q256
                      (try rw [← Nbq42.out] at hx256_0)
                      (try rw [← Nbq48.out] at hx256_0)
                      cases e256
                      replace p256 := eq_true p256
                      replace q256 := eq_true q256
                      have p257 : 0 ≤ ((ji45) : Int) := of_decide_eq_true (by first | (with_reducible assumption) | assumption)
                      have q257 : (ji45) < (x5_2.length : Int) := of_decide_eq_true (by first | (with_reducible assumption) | assumption)
                      obtain ⟨ad257, e257, hx257_0⟩ := Kd.at_bool (Kd.R_reads' HO_5.out).2.2 (ji45) p257 q257
                      (try rw [← Nbq42.out] at hx257_0)
                      (try rw [← Nbq48.out] at hx257_0)
                      obtain rfl : ad256 = ad257 := (by injection e257)
                      replace p257 := eq_true p257
                      replace q257 := eq_true q257
                      obtain ⟨Ao55, co55, eo55⟩ := Kd.S_slice HO_3.out
                      subst eo55
                      have p258 : 0 ≤ ((ji50) : Int) := of_decide_eq_true (by first | (with_reducible assumption) | assumption)
                      have q258 : (ji50) < (x3_3.length : Int) := of_decide_eq_true (by first | (with_reducible assumption) | assumption)
                      obtain ⟨ad258, A258_0, c258_0, e258, hx258_0, hl258_0, hi258_0⟩ := at_L5 (Kd.S_reads' HO_3.out).2.2 (ji50) p258 q258
                      cases e258
                      obtain ⟨ce258, hce258, hMe258, hcc258⟩ := Kd.S_get HO_3.out [] (ji50) p258 (by first | exact q258 | exact of_decide_eq_true (by first | (with_reducible assumption) | assumption) | (have e_ := (Kd.S_reads' HO_3.out).1; omega))
                      obtain ⟨ve258_0, rfl, ge258_0⟩ := hMe258
                      have hv258_0 := hcc258 0 _ rfl
                      rw [Nat.add_zero, show ((Kd.slice 3 (Kd.int .i64))).sz = 1 from rfl, Nat.mul_one] at hv258_0
                      replace hv258_0 := Option.some.inj (hv258_0.symm.trans hx258_0)
                      rw [hv258_0] at ge258_0
                      have HL258_0 := Aside0.mk (show Kd.R (Kd.int .i64) 3 _ _ _ _ (rd_L5 x3_3 (ji50)) from ge258_0)
                      clear hv258_0 ge258_0
                      have HX258_0 := Aside0.mk hx258_0
                      clear hcc258 hce258
                      have HR258_0 := Aside0.mk hi258_0
                      have HC258_0 := Aside0.mk hl258_0
                      clear hi258_0 hl258_0
                      replace p258 := eq_true p258
                      replace q258 := eq_true q258
                      have p54 : 0 ≤ (2 : Int) := (by omega)
                      have q54 : (2 : Int) < (((rd_L5 x3_3 (ji50)).length : Int) : Int) := of_decide_eq_true (by first | (with_reducible assumption) | assumption)
                      have qi54 : (2 < (rd_L5 x3_3 (ji50)).length) = True := eq_true (by omega)
                      obtain ⟨go54, co54, eo54, gb54, gl54, cl54, HG54⟩ := Kd.R_form HL258_0.out (by omega)
                      (first | cases eo54 | (injection eo54 with ea_ en_ ec_; (first | subst ea_ | (injection ea_ with ea_; subst ea_)); subst ec_; clear en_))
                      have GB54 := Aside0.mk gb54
                      have GG54 := Aside0.mk HG54
                      clear gb54 gl54 HG54
                      obtain ⟨hx54_0, hf54_0⟩ := Kd.R_celln 0 HL258_0.out (2 : Int) p54 q54
                      (try rw [show ((2 : Int)).toNat = 2 from rfl] at hx54_0)
                      (try simp only [Nat.reduceMul, Nat.zero_mul, Nat.zero_add, Nat.reduceAdd] at hx54_0)
                      (try rw [show ((2 : Int)).toNat = 2 from rfl] at hf54_0)
                      (try simp only [Nat.reduceMul, Nat.zero_mul, Nat.zero_add, Nat.reduceAdd] at hf54_0)
                      replace p54 := eq_true p54
                      replace q54 := eq_true q54
                      have hq56 : ((ji50) : Int) < (x3_3.length : Int) := (by have h_ : ((ji50) : Int) < ((x3_3.length : Int) : Int) := of_decide_eq_true (by first | (with_reducible assumption) | assumption); first | exact h_ | (have e_ := (Kd.S_reads' HO_3.out).1; omega) | simpa only [List.length_set, List.length_set] using h_)
                      obtain ⟨oki56, ce56, hcl56, hM56, hcc56, hok56, hbk56⟩ := Kd.S_borrow HO_3.out [] ((ji50) : Int) (of_decide_eq_true (by first | (with_reducible assumption) | assumption)) (by first | exact hq56 | (have e_ := (Kd.S_reads' HO_3.out).1; omega))
                      obtain ⟨ve56_0, rfl, ge56_0⟩ := hM56
                      have hv56 := hcc56 0 _ rfl
                      rw [Nat.add_zero, show ((Kd.slice 3 (Kd.int .i64))).sz = 1 from rfl, Nat.mul_one] at hv56
                      replace hv56 := Option.some.inj (hv56.symm.trans HX258_0.out)
                      subst hv56
                      clear hcc56 hcl56
                      replace ge56_0 := (show Kd.R (Kd.int .i64) 3 _ _ _ _ (rd_L5 x3_3 (ji50)) from ge56_0)
                      have HP56 := Kd.R_putg ge56_0 (2 : Int) (wrap64 (x58_3 + 1))
                      go_wp2_with (first | ((with_reducible refine gate_store (t := 3) (p := 92) rfl ?_); refine store_event (t := 3) (p := 92) (v := ?vo_w57) (w1 := (wr.setCell ⟨go54, 2, none⟩ (.int .i64 (wrap64 (x58_3 + 1))))) ?hg ?ho ?hn ?hr ?_; (case ho => rfl); (case hg => rfl); (case hn => rfl); (case hr => first | (go_simp; done) | (go_simp; rfl)); intro w57 hw; have hg : wr.grownBy w57 (some go54) := (by rw [hw]; exact HP56.2); have hz_ : Kd.R (Kd.int .i64) 3 w57 w.heap.size oki56 (.slice (some ⟨go54, 0, none⟩) (rd_L5 x3_3 (ji50)).length c258_0) y259 := (by rw [hw, Ny259.out]; exact HP56.1); have hp_ : Kd.S (Kd.slice 3 (Kd.int .i64)) 41 w57 w.heap.size (fun _ => True) (.slice (some ad258) x3_3.length co55) y261 := (by rw [Ny261.out]; exact hbk56 hg (fun k_ e_ => by injection e_ with e_; subst e_; exact ge56_0.1 _ rfl) (Kd.M_row hz_)); have hm_ := Kd.R_mono hz_ hok56; clear HP56 hbk56; have n0_ := Aside0.mk (hp_); have n1_ := Aside0.mk (Kd.R_over' (v := (.slice (some ⟨go54, 0, none⟩) (rd_L5 x3_3 (ji50)).length c258_0)) (upR HO_5) (Kd.R_typed HL258_0.out) (by decide) hg); have n2_ := Aside0.mk (Kd.R_over' (v := (.slice (some ⟨go54, 0, none⟩) (rd_L5 x3_3 (ji50)).length c258_0)) (upR HO_56) (Kd.R_typed HL258_0.out) (by decide) hg); have n3_ := Aside0.mk (blk_grown (upK BK246) hg (Kd.R_ne HL258_0.out BK246.out (by decide))); have n4_ := Aside0.mk ((by rw [hw]; exact below_set (HB.out) GB54.out : Below w.heap.size w w57)); have n5_ := Aside0.mk (hm_); have n6_ := Aside0.mk ((Kd.R_reads' hm_).2.1); clear HO_3; clear HO_5; clear HO_56; clear BK246; clear HB; clear HL258_0; have HO_3 := n0_; have HO_5 := n1_; have HO_56 := n2_; have BK246 := n3_; have HB := n4_; have HL274 := n5_; have HC260 := n6_; clear n0_ n1_ n2_ n3_ n4_ n5_ n6_; clear hg hw hp_ hz_ hm_ hok56))
                      go_roundg k3
                      case measure => have := HK1.out; have := HK2.out; have := HK3.out; omega
                      case rel => exact ⟨(y261), (wrap64 (x58_3 + 1)), (by first | rfl | (simp; done) | (simp [*]; done)), H', ⟨by have := HK1.out; have := HK2.out; have := HK3.out; omega⟩, ⟨by (with_reducible repeat (first | apply Kd.S_alloc | apply Kd.S_drewN | apply Kd.S_drew)); exact HO_3.out⟩, ⟨upR HO_5⟩, ⟨upR HO_56⟩, ⟨upK BK246⟩, ⟨upW HB⟩⟩
                     ·rw [if_neg c53] at H
                      exact absurd H (by simp)
                    ·rw [if_neg c52] at H
                     exact absurd H (by simp)
                   ·rw [if_neg c51] at H
                    exact absurd H (by simp)
                  ·replace c49 := Bool.eq_false_iff.mpr c49
                   subst c49
                   have H1 : (if x3_3.length < 5864062014805 then (impl_Cut_linesAcross.l3 k3 (x3_3 ++ [(([x15_1, x58_3, wrap64 (x58_3 + 1)] : List Int))]) x15_1 x5_2 (wrap64 (a0_1 + 1)) x15_1 x5_2 (x5_2.length : Int) (wrap64 (x58_3 + 1)) a0_0 a0_1 l0_2) else (none)) = some r := by rw [if_neg (show ¬ (false = true) by decide)] at H; exact H
                   clear H
                   have H := H1
                   clear H1
                   obtain ⟨y262, hy262⟩ : ∃ y_ : List Int, y_ = (([x15_1, x58_3, wrap64 (x58_3 + 1)] : List Int)) := ⟨_, rfl⟩
                   replace H : (if x3_3.length < 5864062014805 then (impl_Cut_linesAcross.l3 k3 (x3_3 ++ [y262]) x15_1 x5_2 (wrap64 (a0_1 + 1)) x15_1 x5_2 (x5_2.length : Int) (wrap64 (x58_3 + 1)) a0_0 a0_1 l0_2) else (none)) = some r := by first | (rw [hy262]; with_reducible exact H) | (have H2_ := (Option.bind_some _ _).symm.trans H; rw [hy262]; with_reducible exact H2_) | (have H2_ := (Option.bind_some _ _).symm.trans H; with_reducible exact H2_) | with_reducible exact H | (rw [hy262]; exact H) | exact H
                   have Ny262 := Aside0.mk hy262
                   clear hy262
                   by_cases c58 : x3_3.length < 5864062014805
                   ·rw [if_pos c58] at H
                    have LMc58 := Aside0.mk c58
                    clear c58
                    obtain ⟨y265, hy265⟩ : ∃ y_ : List (List Int), y_ = (x3_3 ++ [y262]) := ⟨_, rfl⟩
                    replace H : (impl_Cut_linesAcross.l3 k3 y265 x15_1 x5_2 (wrap64 (a0_1 + 1)) x15_1 x5_2 (x5_2.length : Int) (wrap64 (x58_3 + 1)) a0_0 a0_1 l0_2) = some r := by first | (rw [hy265]; with_reducible exact H) | (have H2_ := (Option.bind_some _ _).symm.trans H; rw [hy265]; with_reducible exact H2_) | (have H2_ := (Option.bind_some _ _).symm.trans H; with_reducible exact H2_) | with_reducible exact H | (rw [hy265]; exact H) | exact H
                    have Ny265 := Aside0.mk hy265
                    clear hy265
                    have H' := Aside0.mk H
                    clear H
                    have p256 : 0 ≤ (x58_3 : Int) := of_decide_eq_true (by first | (with_reducible assumption) | assumption)
                    have q256 : x58_3 < (x5_2.length : Int) := of_decide_eq_true (by first | (with_reducible assumption) | assumption)
                    obtain ⟨ad256, e256, hx256_0⟩ := Kd.at_bool (Kd.R_reads' HO_56.out).2.2 x58_3 p256 q256
                    (try rw [← Nbq42.out] at hx256_0)
                    (try rw [← Nbq48.out] at hx256_0)
                    cases e256
                    replace p256 := eq_true p256
                    replace q256 := eq_true q256
                    have p257 : 0 ≤ ((ji45) : Int) := of_decide_eq_true (by first | (with_reducible assumption) | assumption)
                    have q257 : (ji45) < (x5_2.length : Int) := of_decide_eq_true (by first | (with_reducible assumption) | assumption)
                    obtain ⟨ad257, e257, hx257_0⟩ := Kd.at_bool (Kd.R_reads' HO_5.out).2.2 (ji45) p257 q257
                    (try rw [← Nbq42.out] at hx257_0)
                    (try rw [← Nbq48.out] at hx257_0)
                    obtain rfl : ad256 = ad257 := (by injection e257)
                    replace p257 := eq_true p257
                    replace q257 := eq_true q257
                    go_wp2_with (first | ((with_reducible refine gate_dst (N := 68) rfl ?_); refine Kd.R_lit (Kd.int .i64) _ 3 ?hg (N := 68) ?hd (xs := ([x15_1, x58_3, wrap64 (x58_3 + 1)] : List Int)) (inner := [.int .i64 x15_1, .int .i64 x58_3, .int .i64 (wrap64 (x58_3 + 1))]) (ok := fun _ => True) (okp := fun _ => True) ?hr ?hp (fun _ hk => hk) trivial (Below.refl _ _) (Nat.le_refl _) (by simp) ?_; (case hd => rfl); (case hg => rfl); (case hr => first | (go_simp; done) | (go_simp; rfl)); (case hp => exact (Reps.one (show Kd.M (Kd.int .i64) _ _ _ x15_1 [.int .i64 x15_1] from rfl) (Reps.one (show Kd.M (Kd.int .i64) _ _ _ x58_3 [.int .i64 x58_3] from rfl) (Reps.one (show Kd.M (Kd.int .i64) _ _ _ (wrap64 (x58_3 + 1)) [.int .i64 (wrap64 (x58_3 + 1))] from rfl) (Reps.none _ _))))); intro v263 w59 ho60 hb hg_ hnew_; clear hg_ hnew_; (first | rw [← Ny262.out] at ho60 | (simp only [Int.reduceToNat] at ho60; rw [← Ny262.out] at ho60)); have n0_ := Aside0.mk (Kd.S_elder' (by (with_reducible repeat (first | apply Kd.S_alloc | apply Kd.S_drewN | apply Kd.S_drew)); exact HO_3.out) (Kd.R_base ho60) hb); have n1_ := Aside0.mk (Kd.R_below (upR HO_5) hb); have n2_ := Aside0.mk (Kd.R_below (upR HO_56) hb); have n3_ := Aside0.mk (Kd.R_lower ho60 (below_size (upW HB))); have n4_ := Aside0.mk (blk_below (upK BK246) hb); have n5_ := Aside0.mk (below_step (upW HB) hb); clear HO_3; clear HO_5; clear HO_56; clear BK246; clear HB; have HO_3 := n0_; have HO_5 := n1_; have HO_56 := n2_; have HO264 := n3_; have BK246 := n4_; have HB := n5_; clear n0_ n1_ n2_ n3_ n4_ n5_; clear hb ho60; obtain ⟨Ao62, co62, eo62⟩ := Kd.R_slice HO264.out; subst eo62) | ((with_reducible refine gate_builtin (b := .append) (xs := #[.tmp 63, .tmp 69]) rfl ?_); at_builtin; refine Kd.S_append (Kd.slice 3 (Kd.int .i64)) (w0 := w) w.heap.size rfl (.tmp 63) (.tmp 69) 26 41 (.slice none 0 0) 24 rfl Try.underlying26 info41 rfl (by decide) (by omega) u3 x3_3 y262 [.slice Ao62 y262.length co62] (fun _ => True) (fun k_ => some k_ = (.slice Ao62 y262.length co62 : Value).ownBlock) rfl rfl ?aP (fun k_ hk_ => ((Kd.R_mono (ok' := fun k_ => ((fun _ => True)) k_ ∧ some k_ ≠ (u3 : Value).ownBlock) (Kd.R_apart' (HO264.out) (Kd.S_typed HO_3.out) (by decide)) (fun k_ hk => ⟨trivial, hk.2⟩))).1 k_ hk_.symm) ?aF ?aO ?aB ?aS ?aL ?_; (case aP => exact Kd.M_row (Kd.R_mono (Kd.R_tight rfl (Kd.R_mono (ok' := fun k_ => ((fun _ => True)) k_ ∧ some k_ ≠ (u3 : Value).ownBlock) (Kd.R_apart' (HO264.out) (Kd.S_typed HO_3.out) (by decide)) (fun k_ hk => ⟨trivial, hk.2⟩))) (fun _ h_ => h_))); (case aB => exact (upW HB)); (case aF => exact (fun _ _ => trivial)); (case aO => exact (by (with_reducible repeat (first | apply Kd.S_alloc | apply Kd.S_drewN | apply Kd.S_drew)); exact Kd.S_mono HO_3.out (fun k_ hk => ⟨trivial, fun e_ => hk.2 e_⟩))); (case aS => exact (below_size (upW HB))); (case aL => have := LMc58.out; omega); intro v266 w61 ho hb hg hat; rw [← Ny265.out] at ho; have n0_ := Aside0.mk (Kd.R_over' (upR HO_5) (Kd.S_typed (by (with_reducible repeat (first | apply Kd.S_alloc | apply Kd.S_drewN | apply Kd.S_drew)); exact HO_3.out)) (by decide) hg); have n1_ := Aside0.mk (Kd.R_over' (upR HO_56) (Kd.S_typed (by (with_reducible repeat (first | apply Kd.S_alloc | apply Kd.S_drewN | apply Kd.S_drew)); exact HO_3.out)) (by decide) hg); have n2_ := Aside0.mk (blk_grown (upK BK246) hg (Kd.S_ne HO_3.out BK246.out (by decide))); have n3_ := Aside0.mk (hb); have n4_ := Aside0.mk (ho); clear HO_5; clear HO_56; clear BK246; clear HB; clear HO_3; clear HO264; have HO_5 := n0_; have HO_56 := n1_; have BK246 := n2_; have HB := n3_; have HO267 := n4_; clear n0_ n1_ n2_ n3_ n4_; clear ho hb hg hat))
                    go_roundg k3
                    case measure => have := HK1.out; have := HK2.out; have := HK3.out; omega
                    case rel => exact ⟨(y265), (wrap64 (x58_3 + 1)), (by first | rfl | (simp; done) | (simp [*]; done)), H', ⟨by have := HK1.out; have := HK2.out; have := HK3.out; omega⟩, ⟨by (with_reducible repeat (first | apply Kd.S_alloc | apply Kd.S_drewN | apply Kd.S_drew)); exact HO267.out⟩, ⟨upR HO_5⟩, ⟨upR HO_56⟩, ⟨upK BK246⟩, ⟨upW HB⟩⟩
                   ·rw [if_neg c58] at H
                    exact absurd H (by simp)
                 ·rw [if_neg c47] at H
                  exact absurd H (by simp)
                ·rw [if_neg c46] at H
                 exact absurd H (by simp)
               ·rw [if_neg c44] at H
                have c44b0 : decide (0 < x58_3) = false := decide_eq_false c44
                clear c44
                obtain ⟨y268, hy268⟩ : ∃ y_ : List Int, y_ = (([x15_1, x58_3, wrap64 (x58_3 + 1)] : List Int)) := ⟨_, rfl⟩
                replace H : (if x3_3.length < 5864062014805 then (impl_Cut_linesAcross.l3 k3 (x3_3 ++ [y268]) x15_1 x5_2 (wrap64 (a0_1 + 1)) x15_1 x5_2 (x5_2.length : Int) (wrap64 (x58_3 + 1)) a0_0 a0_1 l0_2) else (none)) = some r := by first | (rw [hy268]; with_reducible exact H) | (have H2_ := (Option.bind_some _ _).symm.trans H; rw [hy268]; with_reducible exact H2_) | (have H2_ := (Option.bind_some _ _).symm.trans H; with_reducible exact H2_) | with_reducible exact H | (rw [hy268]; exact H) | exact H
                have Ny268 := Aside0.mk hy268
                clear hy268
                by_cases c63 : x3_3.length < 5864062014805
                ·rw [if_pos c63] at H
                 have LMc63 := Aside0.mk c63
                 clear c63
                 obtain ⟨y271, hy271⟩ : ∃ y_ : List (List Int), y_ = (x3_3 ++ [y268]) := ⟨_, rfl⟩
                 replace H : (impl_Cut_linesAcross.l3 k3 y271 x15_1 x5_2 (wrap64 (a0_1 + 1)) x15_1 x5_2 (x5_2.length : Int) (wrap64 (x58_3 + 1)) a0_0 a0_1 l0_2) = some r := by first | (rw [hy271]; with_reducible exact H) | (have H2_ := (Option.bind_some _ _).symm.trans H; rw [hy271]; with_reducible exact H2_) | (have H2_ := (Option.bind_some _ _).symm.trans H; with_reducible exact H2_) | with_reducible exact H | (rw [hy271]; exact H) | exact H
                 have Ny271 := Aside0.mk hy271
                 clear hy271
                 have H' := Aside0.mk H
                 clear H
                 have p256 : 0 ≤ (x58_3 : Int) := of_decide_eq_true (by first | (with_reducible assumption) | assumption)
                 have q256 : x58_3 < (x5_2.length : Int) := of_decide_eq_true (by first | (with_reducible assumption) | assumption)
                 obtain ⟨ad256, e256, hx256_0⟩ := Kd.at_bool (Kd.R_reads' HO_56.out).2.2 x58_3 p256 q256
                 (try rw [← Nbq42.out] at hx256_0)
                 cases e256
                 replace p256 := eq_true p256
                 replace q256 := eq_true q256
                 go_wp2_with (first | ((with_reducible refine gate_dst (N := 68) rfl ?_); refine Kd.R_lit (Kd.int .i64) _ 3 ?hg (N := 68) ?hd (xs := ([x15_1, x58_3, wrap64 (x58_3 + 1)] : List Int)) (inner := [.int .i64 x15_1, .int .i64 x58_3, .int .i64 (wrap64 (x58_3 + 1))]) (ok := fun _ => True) (okp := fun _ => True) ?hr ?hp (fun _ hk => hk) trivial (Below.refl _ _) (Nat.le_refl _) (by simp) ?_; (case hd => rfl); (case hg => rfl); (case hr => first | (go_simp; done) | (go_simp; rfl)); (case hp => exact (Reps.one (show Kd.M (Kd.int .i64) _ _ _ x15_1 [.int .i64 x15_1] from rfl) (Reps.one (show Kd.M (Kd.int .i64) _ _ _ x58_3 [.int .i64 x58_3] from rfl) (Reps.one (show Kd.M (Kd.int .i64) _ _ _ (wrap64 (x58_3 + 1)) [.int .i64 (wrap64 (x58_3 + 1))] from rfl) (Reps.none _ _))))); intro v269 w64 ho65 hb hg_ hnew_; clear hg_ hnew_; (first | rw [← Ny268.out] at ho65 | (simp only [Int.reduceToNat] at ho65; rw [← Ny268.out] at ho65)); have n0_ := Aside0.mk (Kd.S_elder' (by (with_reducible repeat (first | apply Kd.S_alloc | apply Kd.S_drewN | apply Kd.S_drew)); exact HO_3.out) (Kd.R_base ho65) hb); have n1_ := Aside0.mk (Kd.R_below (upR HO_5) hb); have n2_ := Aside0.mk (Kd.R_below (upR HO_56) hb); have n3_ := Aside0.mk (Kd.R_lower ho65 (below_size (upW HB))); have n4_ := Aside0.mk (blk_below (upK BK246) hb); have n5_ := Aside0.mk (below_step (upW HB) hb); clear HO_3; clear HO_5; clear HO_56; clear BK246; clear HB; have HO_3 := n0_; have HO_5 := n1_; have HO_56 := n2_; have HO270 := n3_; have BK246 := n4_; have HB := n5_; clear n0_ n1_ n2_ n3_ n4_ n5_; clear hb ho65; obtain ⟨Ao67, co67, eo67⟩ := Kd.R_slice HO270.out; subst eo67) | ((with_reducible refine gate_builtin (b := .append) (xs := #[.tmp 63, .tmp 69]) rfl ?_); at_builtin; refine Kd.S_append (Kd.slice 3 (Kd.int .i64)) (w0 := w) w.heap.size rfl (.tmp 63) (.tmp 69) 26 41 (.slice none 0 0) 24 rfl Try.underlying26 info41 rfl (by decide) (by omega) u3 x3_3 y268 [.slice Ao67 y268.length co67] (fun _ => True) (fun k_ => some k_ = (.slice Ao67 y268.length co67 : Value).ownBlock) rfl rfl ?aP (fun k_ hk_ => ((Kd.R_mono (ok' := fun k_ => ((fun _ => True)) k_ ∧ some k_ ≠ (u3 : Value).ownBlock) (Kd.R_apart' (HO270.out) (Kd.S_typed HO_3.out) (by decide)) (fun k_ hk => ⟨trivial, hk.2⟩))).1 k_ hk_.symm) ?aF ?aO ?aB ?aS ?aL ?_; (case aP => exact Kd.M_row (Kd.R_mono (Kd.R_tight rfl (Kd.R_mono (ok' := fun k_ => ((fun _ => True)) k_ ∧ some k_ ≠ (u3 : Value).ownBlock) (Kd.R_apart' (HO270.out) (Kd.S_typed HO_3.out) (by decide)) (fun k_ hk => ⟨trivial, hk.2⟩))) (fun _ h_ => h_))); (case aB => exact (upW HB)); (case aF => exact (fun _ _ => trivial)); (case aO => exact (by (with_reducible repeat (first | apply Kd.S_alloc | apply Kd.S_drewN | apply Kd.S_drew)); exact Kd.S_mono HO_3.out (fun k_ hk => ⟨trivial, fun e_ => hk.2 e_⟩))); (case aS => exact (below_size (upW HB))); (case aL => have := LMc63.out; omega); intro v272 w66 ho hb hg hat; rw [← Ny271.out] at ho; have n0_ := Aside0.mk (Kd.R_over' (upR HO_5) (Kd.S_typed (by (with_reducible repeat (first | apply Kd.S_alloc | apply Kd.S_drewN | apply Kd.S_drew)); exact HO_3.out)) (by decide) hg); have n1_ := Aside0.mk (Kd.R_over' (upR HO_56) (Kd.S_typed (by (with_reducible repeat (first | apply Kd.S_alloc | apply Kd.S_drewN | apply Kd.S_drew)); exact HO_3.out)) (by decide) hg); have n2_ := Aside0.mk (blk_grown (upK BK246) hg (Kd.S_ne HO_3.out BK246.out (by decide))); have n3_ := Aside0.mk (hb); have n4_ := Aside0.mk (ho); clear HO_5; clear HO_56; clear BK246; clear HB; clear HO_3; clear HO270; have HO_5 := n0_; have HO_56 := n1_; have BK246 := n2_; have HB := n3_; have HO273 := n4_; clear n0_ n1_ n2_ n3_ n4_; clear ho hb hg hat))
                 go_roundg k3
                 case measure => have := HK1.out; have := HK2.out; have := HK3.out; omega
                 case rel => exact ⟨(y271), (wrap64 (x58_3 + 1)), (by first | rfl | (simp; done) | (simp [*]; done)), H', ⟨by have := HK1.out; have := HK2.out; have := HK3.out; omega⟩, ⟨by (with_reducible repeat (first | apply Kd.S_alloc | apply Kd.S_drewN | apply Kd.S_drew)); exact HO273.out⟩, ⟨upR HO_5⟩, ⟨upR HO_56⟩, ⟨upK BK246⟩, ⟨upW HB⟩⟩
                ·rw [if_neg c63] at H
                 exact absurd H (by simp)
              ·replace c43 := Bool.eq_false_iff.mpr c43
               subst c43
               have H1 : (impl_Cut_linesAcross.l3 k3 x3_3 x15_1 x5_2 (wrap64 (a0_1 + 1)) x15_1 x5_2 (x5_2.length : Int) (wrap64 (x58_3 + 1)) a0_0 a0_1 l0_2) = some r := by rw [if_neg (show ¬ (false = true) by decide)] at H; exact H
               clear H
               have H := H1
               clear H1
               have H' := Aside0.mk H
               clear H
               have p256 : 0 ≤ (x58_3 : Int) := of_decide_eq_true (by first | (with_reducible assumption) | assumption)
               have q256 : x58_3 < (x5_2.length : Int) := of_decide_eq_true (by first | (with_reducible assumption) | assumption)
               obtain ⟨ad256, e256, hx256_0⟩ := Kd.at_bool (Kd.R_reads' HO_56.out).2.2 x58_3 p256 q256
               (try rw [← Nbq42.out] at hx256_0)
               cases e256
               replace p256 := eq_true p256
               replace q256 := eq_true q256
               go_wp2
               go_roundg k3
               case measure => have := HK1.out; have := HK2.out; have := HK3.out; omega
               case rel => exact ⟨(x3_3), (wrap64 (x58_3 + 1)), (by first | rfl | (simp; done) | (simp [*]; done)), H', ⟨by have := HK1.out; have := HK2.out; have := HK3.out; omega⟩, ⟨by (with_reducible repeat (first | apply Kd.S_alloc | apply Kd.S_drewN | apply Kd.S_drew)); exact HO_3.out⟩, ⟨upR HO_5⟩, ⟨upR HO_56⟩, ⟨upK BK246⟩, ⟨upW HB⟩⟩
             ·rw [if_neg c41] at H
              exact absurd H (by simp)
            ·rw [if_neg c40] at H
             exact absurd H (by simp)
           ·rw [if_neg c39] at H
            have c39b0 : decide (x58_3 < (x5_2.length : Int)) = false := decide_eq_false c39
            clear c39
            have H' := Aside0.mk H
            clear H
            go_wp2
            go_roundg k3
            case measure => have := HK1.out; have := HK2.out; have := HK3.out; omega
            case rel => exact ⟨(x3_3), (wrap64 (x15_1 + 1)), (by first | rfl | (simp; done) | (simp [*]; done)), H', ⟨by have := HK1.out; have := HK2.out; have := HK3.out; omega⟩, ⟨by (with_reducible repeat (first | apply Kd.S_alloc | apply Kd.S_drewN | apply Kd.S_drew)); exact HO_3.out⟩, ⟨upK BK246⟩, ⟨upW HB⟩⟩
     ·rw [if_neg c8] at H
      exact absurd H (by simp)
    ·rw [if_neg c7] at H
     exact absurd H (by simp)
   ·rw [if_neg c6] at H
    have c6b0 : decide (x15_1 < (wrap64 (a0_1 + 1))) = false := decide_eq_false c6
    clear c6
    obtain rfl := Option.some.inj H
    go_wp2
    go_ret
    exact ⟨_, by first | rfl | (simp [errW_none, errW_some] <;> rfl) | (simp [*, errW_none, errW_some] <;> rfl), by (with_reducible repeat (first | apply Kd.S_alloc | apply Kd.S_drewN | apply Kd.S_drew)); exact HO_3.out, by repeat (first | (with_reducible first | exact HB.out | apply below_alloc | apply pw_below_drewN | apply below_drew1 | refine below_set ?_ GE246.out) | exact HB.out)⟩

-- left to its pairs: function 147 (impl_Square_147)

-- left to its pairs: function 124 (impl_Cut_changed)

-- NOT PRINTED: function 125 (impl_Cut_turned_1)

/-! ### impl_Cut_turned_1: function 100002 -/
def impl_Cut_turned_1.f (a0_0 : Int) (a0_1 : Int) (a0_2 : Int) (a1_0 : Int) (a1_1 : Int) (l1_2 : List (S73)) : Option (Int × Int × Int) := some (wrap64 ((wrap64 (a1_1 - a0_1)) - a0_2), a0_0, a0_2)
set_option maxHeartbeats 8000000 in
set_option maxRecDepth 100000 in
theorem impl_Cut_turned_1.calls (a0_0 : Int) (a0_1 : Int) (a0_2 : Int) (gc1 : Nat) (a1_0 : Int) (a1_1 : Int) (A1_2 : Option Addr) (c1_2 : Nat) (l1_2 : List (S73)) (r1 : Int) (r2 : Int) (r3 : Int) (w : World) (hr1_2 : Kd.C k73 w A1_2 l1_2.length l1_2) (hc1_2 : l1_2.length ≤ c1_2) (hb1 : w.heap[gc1]? = some (.cells #[.int .i64 a1_0, .int .i64 a1_1, .slice A1_2 l1_2.length c1_2] 31 (0, 0))) (h : impl_Cut_turned_1.f a0_0 a0_1 a0_2 a1_0 a1_1 l1_2 = some (r1, r2, r3)) :
  Calls Try.prog 125 #[.agg #[.int .i64 a0_0, .int .i64 a0_1, .int .i64 a0_2], .pointer (some ⟨gc1, 0, none⟩)] w fun e w' => e = .returned (.agg #[.int .i64 r1, .int .i64 r2, .int .i64 r3]) ∧ Below w.heap.size w w' := by
 have hu73 := Try.underlying73
 have HR1_2 := Aside0.mk hr1_2
 have HC1_2 := Aside0.mk hc1_2
 clear hr1_2 hc1_2
 have BK283 := Aside0.mk hb1
 clear hb1
 have HB := Aside0.mk (Below.refl w.heap.size w)
 have H : (some (wrap64 ((wrap64 (a1_1 - a0_1)) - a0_2), a0_0, a0_2)) = some (r1, r2, r3) := h
 clear h
 simp only [Option.some.injEq, Prod.mk.injEq] at H
 obtain ⟨rfl, rfl, rfl⟩ := H
 go_enter Try.func125, Try.ntmps125
 go_wp2_with (first | ((with_reducible refine gate_dst (N := 2) rfl ?_); refine box_event ?hg (N := 2) ?hd (cs := #[.int .i64 a0_0, .int .i64 a0_1, .int .i64 a0_2]) (t := 73) ?hr ?_; (case hd => rfl); (case hg => rfl); (case hr => first | (go_simp; done) | (go_simp; rfl)); intro gb284 hg w3 hbox hb; have n0_ := Aside0.mk (blk_below (g := gc1) (o := .cells #[.int .i64 a1_0, .int .i64 a1_1, .slice A1_2 l1_2.length c1_2] 31 (0, 0)) (upK BK283) hb); have n1_ := Aside0.mk (below_step (upW HB) hb); have n2_ := Aside0.mk (hbox); have n3_ := Aside0.mk ((by rw [hg]; exact (below_size (upW HB)) : w.heap.size ≤ gb284)); have n4_ := Aside0.mk ((by rw [hg]; exact (below_size (upW HB)) : w.heap.size ≤ gb284)); have n5_ := Aside0.mk ((by rw [hg]; exact Nat.ne_of_lt (blk_lt (g := gc1) (o := .cells #[.int .i64 a1_0, .int .i64 a1_1, .slice A1_2 l1_2.length c1_2] 31 (0, 0)) (upK BK283)) : gc1 ≠ gb284)); have n6_ := Aside0.mk ((by rw [hg]; exact Nat.ne_of_gt (blk_lt (g := gc1) (o := .cells #[.int .i64 a1_0, .int .i64 a1_1, .slice A1_2 l1_2.length c1_2] 31 (0, 0)) (upK BK283)) : gb284 ≠ gc1)); clear BK283; clear HB; have BK283 := n0_; have HB := n1_; have BK284 := n2_; have GW284 := n3_; have GE284 := n4_; have NB283_284 := n5_; have NB284_283 := n6_; clear n0_ n1_ n2_ n3_ n4_ n5_ n6_; clear hb hbox hg) | ((with_reducible refine gate_dst (N := 3) rfl ?_); refine box_event ?hg (N := 3) ?hd (cs := #[.int .i64 0, .int .i64 0, .int .i64 0]) (t := 73) ?hr ?_; (case hd => rfl); (case hg => rfl); (case hr => first | (go_simp; done) | (go_simp; rfl)); intro gb285 hg w4 hbox hb; have n0_ := Aside0.mk (blk_below (g := gc1) (o := .cells #[.int .i64 a1_0, .int .i64 a1_1, .slice A1_2 l1_2.length c1_2] 31 (0, 0)) (upK BK283) hb); have n1_ := Aside0.mk (blk_below (upK BK284) hb); have n2_ := Aside0.mk (below_step (upW HB) hb); have n3_ := Aside0.mk (hbox); have n4_ := Aside0.mk ((by rw [hg]; exact (below_size (upW HB)) : w.heap.size ≤ gb285)); have n5_ := Aside0.mk ((by rw [hg]; exact (below_size (upW HB)) : w.heap.size ≤ gb285)); have n6_ := Aside0.mk ((by rw [hg]; exact Nat.ne_of_lt (blk_lt (g := gc1) (o := .cells #[.int .i64 a1_0, .int .i64 a1_1, .slice A1_2 l1_2.length c1_2] 31 (0, 0)) (upK BK283)) : gc1 ≠ gb285)); have n7_ := Aside0.mk ((by rw [hg]; exact Nat.ne_of_gt (blk_lt (g := gc1) (o := .cells #[.int .i64 a1_0, .int .i64 a1_1, .slice A1_2 l1_2.length c1_2] 31 (0, 0)) (upK BK283)) : gb285 ≠ gc1)); have n8_ := Aside0.mk ((by rw [hg]; exact Nat.ne_of_lt (blk_lt (upK BK284)) : gb284 ≠ gb285)); have n9_ := Aside0.mk ((by rw [hg]; exact Nat.ne_of_gt (blk_lt (upK BK284)) : gb285 ≠ gb284)); clear BK283; clear BK284; clear HB; have BK283 := n0_; have BK284 := n1_; have HB := n2_; have BK285 := n3_; have GW285 := n4_; have GE285 := n5_; have NB283_285 := n6_; have NB285_283 := n7_; have NB284_285 := n8_; have NB285_284 := n9_; clear n0_ n1_ n2_ n3_ n4_ n5_ n6_ n7_ n8_ n9_; clear hb hbox hg; have hnb5 := NB283_284.out; have hnc5 := NB284_283.out; have hnb6 := NB283_285.out; have hnc6 := NB285_283.out; have hcz7_0 : w4.cell? ⟨gc1, 0, none⟩ = some (.int .i64 a1_0) := (blk_cell BK283.out 0).trans rfl; have hcz7_1 : w4.cell? ⟨gc1, 1, none⟩ = some (.int .i64 a1_1) := (blk_cell BK283.out 1).trans rfl; have hcz7_2 : w4.cell? ⟨gc1, 2, none⟩ = some (.slice A1_2 l1_2.length c1_2) := (blk_cell BK283.out 2).trans rfl; have hfz7_0 := blk_frozen BK283.out 0; have hfz7_1 := blk_frozen BK283.out 1; have hfz7_2 := blk_frozen BK283.out 2; have hnb8 := NB284_285.out; have hnc8 := NB285_284.out; have hcz9_0 : w4.cell? ⟨gb284, 0, none⟩ = some (.int .i64 a0_0) := (blk_cell BK284.out 0).trans rfl; have hcz9_1 : w4.cell? ⟨gb284, 1, none⟩ = some (.int .i64 a0_1) := (blk_cell BK284.out 1).trans rfl; have hcz9_2 : w4.cell? ⟨gb284, 2, none⟩ = some (.int .i64 a0_2) := (blk_cell BK284.out 2).trans rfl; have hfz9_0 := blk_frozen BK284.out 0; have hfz9_1 := blk_frozen BK284.out 1; have hfz9_2 := blk_frozen BK284.out 2; have hcz10_0 : w4.cell? ⟨gb285, 0, none⟩ = some (.int .i64 0) := (blk_cell BK285.out 0).trans rfl; have hcz10_1 : w4.cell? ⟨gb285, 1, none⟩ = some (.int .i64 0) := (blk_cell BK285.out 1).trans rfl; have hcz10_2 : w4.cell? ⟨gb285, 2, none⟩ = some (.int .i64 0) := (blk_cell BK285.out 2).trans rfl; have hfz10_0 := blk_frozen BK285.out 0; have hfz10_1 := blk_frozen BK285.out 1; have hfz10_2 := blk_frozen BK285.out 2))
 refine bodyPost_ret (results_cell_row rfl _ _ gb285 73 #[.int .i64 (wrap64 ((wrap64 (a1_1 - a0_1)) - a0_2)), .int .i64 a0_0, .int .i64 a0_2] (0, 0) _ rfl (by (with_reducible repeat (first | refine blk_drewN ?_ _ | refine blk_drew ?_ | refine blk_alloc ?_ _)); refine blk_put (cs := #[.int .i64 (wrap64 ((wrap64 (a1_1 - a0_1)) - a0_2)), .int .i64 a0_0, .int .i64 0]) ?_ 2 _ rfl; (with_reducible repeat (first | refine blk_drewN ?_ _ | refine blk_drew ?_ | refine blk_alloc ?_ _)); refine blk_put (cs := #[.int .i64 (wrap64 ((wrap64 (a1_1 - a0_1)) - a0_2)), .int .i64 0, .int .i64 0]) ?_ 1 _ rfl; (with_reducible repeat (first | refine blk_drewN ?_ _ | refine blk_drew ?_ | refine blk_alloc ?_ _)); refine blk_put (cs := #[.int .i64 0, .int .i64 0, .int .i64 0]) ?_ 0 _ rfl; (with_reducible repeat (first | refine blk_drewN ?_ _ | refine blk_drew ?_ | refine blk_alloc ?_ _)); exact BK285.out) Try.underlying73 rfl (by kernel_rfl)) rfl ?_
 exact ⟨by first | rfl | (simp [errW_none, errW_some] <;> rfl) | (simp [*, errW_none, errW_some] <;> rfl), by repeat (first | (with_reducible first | exact HB.out | apply below_alloc | apply pw_below_drewN | apply below_drew1 | refine below_set ?_ GE283.out | refine below_set ?_ GE284.out | refine below_set ?_ GE285.out) | exact HB.out)⟩

end Go.Proofs.Ythnjbpabiamkjaa.PFnExactLongestLine
