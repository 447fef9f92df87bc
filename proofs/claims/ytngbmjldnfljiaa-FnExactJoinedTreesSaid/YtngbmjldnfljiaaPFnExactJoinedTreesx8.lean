-- made for this claim by a program of this session
import Derived.Test.YtngbmjldnfljiaaPFnExactJoinedTreesx0
namespace Go.Proofs.Ytngbmjldnfljiaa.PFnExactJoinedTrees
open Go.RowKit Go.Proofs.YtngbmjldnfljiaaW.PrintWords Go.Proofs.YtngbmjldnfljiaaW.PrintLast Go.Proofs.YtngbmjldnfljiaaW.PrintMore
attribute [local go_sem] max2_int min2_int max_two min_two max_three min_three max_four min_four   -- for this text's walks alone
set_option linter.unusedVariables false
set_option linter.unusedSimpArgs false

/-! ### impl_Net_laplacian: function 94 -/
mutual
def impl_Net_laplacian.l0 : Nat → List (List Int) → Int → Int → Int → List (S73) → Option ((List (List Int)))
 | 0, _, _, _, _, _ => none
 | k + 1, x3, x13, x14, x231000, x231001 => if x14 < x13 then (if 0 ≤ (wrap64 (x231000 - 1)) then (if (wrap64 (x231000 - 1) : Int).toNat ≤ 35184372088832 then (if 0 ≤ x14 then (if x14 < (x3.length : Int) then (impl_Net_laplacian.l0 k (x3.set (x14 : Int).toNat (List.replicate (wrap64 (x231000 - 1) : Int).toNat 0)) x13 (wrap64 (x14 + 1)) x231000 x231001) else (none)) else (none)) else (none)) else (none)) else (impl_Net_laplacian.l1 k x3 x231001 (x231001.length : Int) 0 x231000 x231001)
def impl_Net_laplacian.l1 : Nat → List (List Int) → List (S73) → Int → Int → Int → List (S73) → Option ((List (List Int)))
 | 0, _, _, _, _, _, _ => none
 | k + 1, x3, x26, x27, x28, x231000, x231001 => if x28 < x27 then (if 0 ≤ x28 then (if x28 < (x26.length : Int) then (if ((rd_T73 x26 x28).f0) < (wrap64 (x231000 - 1)) then (if 0 ≤ ((rd_T73 x26 x28).f0) then (if ((rd_T73 x26 x28).f0) < (x3.length : Int) then (if ((rd_T73 x26 x28).f0) < ((rd_L4 x3 ((rd_T73 x26 x28).f0)).length : Int) then (impl_Net_laplacian.j2 k (x3.set (((rd_T73 x26 x28).f0) : Int).toNat ((rd_L4 x3 ((rd_T73 x26 x28).f0)).set (((rd_T73 x26 x28).f0) : Int).toNat (wrap64 ((rd (rd_L4 x3 ((rd_T73 x26 x28).f0)) ((rd_T73 x26 x28).f0)) + 1)))) (wrap64 (x231000 - 1)) x26 x27 x28 x231000 x231001 ((rd_T73 x26 x28).f0) ((rd_T73 x26 x28).f1)) else (none)) else (none)) else (none)) else (impl_Net_laplacian.j2 k x3 (wrap64 (x231000 - 1)) x26 x27 x28 x231000 x231001 ((rd_T73 x26 x28).f0) ((rd_T73 x26 x28).f1))) else (none)) else (none)) else (some x3)
def impl_Net_laplacian.j2 : Nat → List (List Int) → Int → List (S73) → Int → Int → Int → List (S73) → Int → Int → Option ((List (List Int)))
 | 0, _, _, _, _, _, _, _, _, _ => none
 | k + 1, x3, x7, x26, x27, x28, x231000, x231001, x240000, x240001 => if x240001 < x7 then (if 0 ≤ x240001 then (if x240001 < (x3.length : Int) then (if x240001 < ((rd_L4 x3 x240001).length : Int) then ((some (x3.set (x240001 : Int).toNat ((rd_L4 x3 x240001).set (x240001 : Int).toNat (wrap64 ((rd (rd_L4 x3 x240001) x240001) + 1))) : List (List Int))).bind fun y249 => (if x240000 < x7 then (if 0 ≤ x240000 then (if x240000 < (x3.length : Int) then (if x240001 < ((rd_L4 y249 x240000).length : Int) then ((some (y249.set (x240000 : Int).toNat ((rd_L4 y249 x240000).set (x240001 : Int).toNat (wrap64 ((rd (rd_L4 y249 x240000) x240001) - 1))) : List (List Int))).bind fun y254 => (if x240000 < ((rd_L4 y254 x240001).length : Int) then (impl_Net_laplacian.l1 k (y254.set (x240001 : Int).toNat ((rd_L4 y254 x240001).set (x240000 : Int).toNat (wrap64 ((rd (rd_L4 y254 x240001) x240000) - 1)))) x26 x27 (wrap64 (x28 + 1)) x231000 x231001) else (none))) else (none)) else (none)) else (none)) else (impl_Net_laplacian.l1 k y249 x26 x27 (wrap64 (x28 + 1)) x231000 x231001))) else (none)) else (none)) else (none)) else (if x240000 < x7 then (impl_Net_laplacian.l1 k x3 x26 x27 (wrap64 (x28 + 1)) x231000 x231001) else (impl_Net_laplacian.l1 k x3 x26 x27 (wrap64 (x28 + 1)) x231000 x231001))
end
def impl_Net_laplacian.f (k : Nat) (a0_0 : Int) (l0_1 : List (S73)) : Option ((List (List Int))) := if 0 ≤ (wrap64 (a0_0 - 1)) then (if (wrap64 (a0_0 - 1) : Int).toNat ≤ 11728124029610 then ((some (List.replicate (wrap64 (a0_0 - 1) : Int).toNat [] : List (List Int))).bind fun y231 => (impl_Net_laplacian.l0 k y231 (y231.length : Int) 0 a0_0 l0_1)) else (none)) else (none)
def impl_Net_laplacian.T12 : Bool × List (List Nat × List Nat) := (true, [([], []), ([], []), ([1], [1]), ([0, 2], [0, 2]), ([3], [3]), ([], []), ([5], [5]), ([4, 6], [4, 6]), ([7], [7]), ([8], [8]), ([4, 6, 0, 1, 2, 3, 4, 5, 6, 7, 8, 9], [4, 6]), ([10, 9, 0, 1, 2, 3, 4, 5, 6, 7, 8, 9], [9, 10])])
def impl_Net_laplacian.B12 : List Nat := [0, 0, 2, 7, 15, 0, 32, 127, 255, 511, 1023, 2047]
theorem impl_Net_laplacian.tab12 : rtab .any (opsOf Try.f94 12) = impl_Net_laplacian.T12 := by kernel_rfl
theorem impl_Net_laplacian.bits12 : waitsOk impl_Net_laplacian.T12.2 impl_Net_laplacian.B12 = true := by kernel_rfl
def impl_Net_laplacian.T14 : Bool × List (List Nat × List Nat) := (true, [([], []), ([], []), ([1], [1]), ([0, 2], [0, 2]), ([3], [3]), ([], []), ([5], [5]), ([4, 6], [4, 6]), ([7], [7]), ([8], [8]), ([4, 6, 0, 1, 2, 3, 4, 5, 6, 7, 8, 9], [4, 6]), ([10, 9, 0, 1, 2, 3, 4, 5, 6, 7, 8, 9], [9, 10])])
def impl_Net_laplacian.B14 : List Nat := [0, 0, 2, 7, 15, 0, 32, 127, 255, 511, 1023, 2047]
theorem impl_Net_laplacian.tab14 : rtab .any (opsOf Try.f94 14) = impl_Net_laplacian.T14 := by kernel_rfl
theorem impl_Net_laplacian.bits14 : waitsOk impl_Net_laplacian.T14.2 impl_Net_laplacian.B14 = true := by kernel_rfl
def impl_Net_laplacian.T16 : Bool × List (List Nat × List Nat) := (true, [([], []), ([], []), ([1], [1]), ([0, 2], [0, 2]), ([3], [3]), ([], []), ([5], [5]), ([4, 6], [4, 6]), ([7], [7]), ([8], [8]), ([4, 6, 0, 1, 2, 3, 4, 5, 6, 7, 8, 9], [4, 6]), ([10, 9, 0, 1, 2, 3, 4, 5, 6, 7, 8, 9], [9, 10])])
def impl_Net_laplacian.B16 : List Nat := [0, 0, 2, 7, 15, 0, 32, 127, 255, 511, 1023, 2047]
theorem impl_Net_laplacian.tab16 : rtab .any (opsOf Try.f94 16) = impl_Net_laplacian.T16 := by kernel_rfl
theorem impl_Net_laplacian.bits16 : waitsOk impl_Net_laplacian.T16.2 impl_Net_laplacian.B16 = true := by kernel_rfl
def impl_Net_laplacian.T17 : Bool × List (List Nat × List Nat) := (true, [([], []), ([], []), ([1], [1]), ([0, 2], [0, 2]), ([3], [3]), ([], []), ([5], [5]), ([4, 6], [4, 6]), ([7], [7]), ([8], [8]), ([4, 6, 0, 1, 2, 3, 4, 5, 6, 7, 8, 9], [4, 6]), ([10, 9, 0, 1, 2, 3, 4, 5, 6, 7, 8, 9], [9, 10])])
def impl_Net_laplacian.B17 : List Nat := [0, 0, 2, 7, 15, 0, 32, 127, 255, 511, 1023, 2047]
theorem impl_Net_laplacian.tab17 : rtab .any (opsOf Try.f94 17) = impl_Net_laplacian.T17 := by kernel_rfl
theorem impl_Net_laplacian.bits17 : waitsOk impl_Net_laplacian.T17.2 impl_Net_laplacian.B17 = true := by kernel_rfl
set_option maxHeartbeats 8000000 in
set_option maxRecDepth 100000 in
theorem impl_Net_laplacian.calls (k : Nat) (a0_0 : Int) (A0_1 : Option Addr) (c0_1 : Nat) (l0_1 : List (S73)) (r : List (List Int)) (w : World) (hr0_1 : Kd.C k73 w A0_1 l0_1.length l0_1) (hc0_1 : l0_1.length ≤ c0_1) (h : impl_Net_laplacian.f k a0_0 l0_1 = some r) :
  Calls Try.prog 94 #[.agg #[.int .i64 a0_0, .slice A0_1 l0_1.length c0_1]] w fun e w' => ∃ v0_ : Value, e = .returned (v0_) ∧ Kd.S (Kd.slice 3 (Kd.int .i64)) 36 w' w.heap.size (fun _ => True) v0_ r ∧ Below w.heap.size w w' := by
 have hu30 := Try.underlying30
 have hu73 := Try.underlying73
 have HR0_1 := Aside0.mk hr0_1
 have HC0_1 := Aside0.mk hc0_1
 clear hr0_1 hc0_1
 have HB := Aside0.mk (Below.refl w.heap.size w)
 have H : (if 0 ≤ (wrap64 (a0_0 - 1)) then (if (wrap64 (a0_0 - 1) : Int).toNat ≤ 11728124029610 then ((some (List.replicate (wrap64 (a0_0 - 1) : Int).toNat [] : List (List Int))).bind fun y231 => (impl_Net_laplacian.l0 k y231 (y231.length : Int) 0 a0_0 l0_1)) else (none)) else (none)) = some r := h
 clear h
 obtain ⟨ji2, hji2⟩ : ∃ j_ : Int, (wrap64 (a0_0 - 1)) = j_ := ⟨_, rfl⟩
 replace H : (if 0 ≤ (ji2) then (if (ji2 : Int).toNat ≤ 11728124029610 then ((some (List.replicate (ji2 : Int).toNat [] : List (List Int))).bind fun y231 => (impl_Net_laplacian.l0 k y231 (y231.length : Int) 0 a0_0 l0_1)) else (none)) else (none)) = some r := by first | (rw [hji2] at H; exact H) | (simp only [hji2] at H ⊢; exact H)
 have hji2w : (IntKind.i64.wrap (a0_0 - 1)) = ji2 := (i64_w _).trans hji2
 by_cases c3 : 0 ≤ (ji2)
 ·rw [if_pos c3] at H
  have c3b0 := eq_true c3
  have c3b1 : decide (0 ≤ (ji2)) = true := decide_eq_true c3
  clear c3
  by_cases c4 : (ji2 : Int).toNat ≤ 11728124029610
  ·rw [if_pos c4] at H
   have c4b0 := eq_true c4
   have c4b1 : decide ((ji2 : Int).toNat ≤ 11728124029610) = true := decide_eq_true c4
   clear c4
   obtain ⟨y231, hy231⟩ : ∃ y_ : List (List Int), y_ = (List.replicate (ji2 : Int).toNat []) := ⟨_, rfl⟩
   replace H : (impl_Net_laplacian.l0 k y231 (y231.length : Int) 0 a0_0 l0_1) = some r := by first | (rw [hy231]; with_reducible exact H) | (have H2_ := (Option.bind_some _ _).symm.trans H; rw [hy231]; with_reducible exact H2_) | (have H2_ := (Option.bind_some _ _).symm.trans H; with_reducible exact H2_) | with_reducible exact H | (rw [hy231]; exact H) | exact H
   have Ny231 := Aside0.mk hy231
   clear hy231
   have H' := Aside0.mk H
   clear H
   go_enter Try.func94, Try.ntmps94
   go_wp2_with (first | ((with_reducible refine gate_dst (N := 1) rfl ?_); refine box_event ?hg (N := 1) ?hd (cs := #[.int .i64 a0_0, .slice A0_1 l0_1.length c0_1]) (t := 30) ?hr ?_; (case hd => rfl); (case hg => rfl); (case hr => first | (go_simp; done) | (go_simp; rfl)); intro gb230 hg w5 hbox hb; have n0_ := Aside0.mk (below_step (upW HB) hb); have n1_ := Aside0.mk (hbox); have n2_ := Aside0.mk ((by rw [hg]; exact (below_size (upW HB)) : w.heap.size ≤ gb230)); have n3_ := Aside0.mk ((by rw [hg]; exact (below_size (upW HB)) : w.heap.size ≤ gb230)); clear HB; have HB := n0_; have BK230 := n1_; have GW230 := n2_; have GE230 := n3_; clear n0_ n1_ n2_ n3_; clear hb hbox hg; have hcz6_0 : w5.cell? ⟨gb230, 0, none⟩ = some (.int .i64 a0_0) := (blk_cell BK230.out 0).trans rfl; have hcz6_1 : w5.cell? ⟨gb230, 1, none⟩ = some (.slice A0_1 l0_1.length c0_1) := (blk_cell BK230.out 1).trans rfl; have hfz6_0 := blk_frozen BK230.out 0; have hfz6_1 := blk_frozen BK230.out 1) | ((with_reducible refine gate_dst (N := 11) rfl ?_); refine Kd.S_make (Kd.slice 3 (Kd.int .i64)) _ 36 rfl (N := 11) rfl 91 _ _ rfl ji2 rfl rfl Try.underlying91 (.slice none 0 0) 24 info36 rfl (by decide) (by omega) [] (ok := fun _ => True) (okp := fun _ => True) ⟨_, rfl, Kd.R_nil _ _ _ _ _⟩ (fun _ hk => hk) trivial (of_decide_eq_true (by first | (with_reducible assumption) | assumption)) (Nat.le_trans (Nat.mul_le_mul_right _ (of_decide_eq_true (by first | (with_reducible assumption) | assumption) : ji2.toNat ≤ 11728124029610)) (by omega)) (Below.refl _ _) (Nat.le_refl _) ?_; intro v232 w7 ho8 hb hg_ hnew_; clear hg_ hnew_; (first | rw [← Ny231.out] at ho8 | (simp only [Int.reduceToNat] at ho8; rw [← Ny231.out] at ho8)); have n0_ := Aside0.mk (Kd.S_lower ho8 (below_size (upW HB))); have n1_ := Aside0.mk (blk_below (upK BK230) hb); have n2_ := Aside0.mk (below_step (upW HB) hb); clear BK230; clear HB; have HO233 := n0_; have BK230 := n1_; have HB := n2_; clear n0_ n1_ n2_; clear hb ho8; obtain ⟨Ao9, co9, eo9⟩ := Kd.S_slice HO233.out; subst eo9))
   go_loopg [14] k (fun kq v14 w' => ∃ (x3_1 : List (List Int)) (x14_1 : Int), v14 = .int .i64 x14_1 ∧ Aside0 (impl_Net_laplacian.l0 kq x3_1 (y231.length : Int) x14_1 a0_0 l0_1 = some r) ∧ Aside0 (kq ≤ k) ∧ Aside0 (Kd.S (Kd.slice 3 (Kd.int .i64)) 36 w' w.heap.size (fun _ => True) (.slice Ao9 y231.length co9) x3_1) ∧ Aside0 (w'.heap[gb230]? = some (.cells #[.int .i64 a0_0, (.slice A0_1 l0_1.length c0_1)] 30 (0, 0))) ∧ Aside0 (Below w.heap.size w w'))
   case atStart => exact ⟨(y231), (0), (by first | rfl | (simp; done) | (simp [*]; done)), H', ⟨Nat.le_refl _⟩, ⟨by (with_reducible repeat (first | apply Kd.S_alloc | apply Kd.S_drewN | apply Kd.S_drew)); exact HO233.out⟩, ⟨upK BK230⟩, ⟨upW HB⟩⟩
   case round =>
    clear H'
    try clear p2
    try clear c3
    try clear c3b0
    try clear c3b1
    try clear c4
    try clear c4b0
    try clear c4b1
    try clear p6
    try clear c9
    try clear hcz6_0
    try clear hcz6_1
    try clear hfz6_0
    try clear hfz6_1
    obtain ⟨x3_1, x14_1, rfl, HA, HK1, HO_3, BK230, HB⟩ := hrel
    have hl3_1 := (Kd.S_reads' HO_3.out).1
    rw [hl3_1] at HO_3
    (try simp only [hl3_1])
    (try simp only [hl3_1] at BK230)
    cases gk with
    | zero => exact absurd HA.out (by simp [impl_Net_laplacian.l0])
    | succ k1 =>
     have H := HA.out
     clear HA
     simp only [impl_Net_laplacian.l0] at H
     by_cases c10 : x14_1 < (y231.length : Int)
     ·rw [if_pos c10] at H
      have c10b0 : decide (x14_1 < (y231.length : Int)) = true := decide_eq_true c10
      (try (have c10b0h1 := c10b0; simp only [hl3_1] at c10b0h1))
      clear c10
      (try clear hji2w)
      (try clear hji2)
      obtain ⟨ji11, hji11⟩ : ∃ j_ : Int, (wrap64 (a0_0 - 1)) = j_ := ⟨_, rfl⟩
      replace H : (if 0 ≤ (ji11) then (if (ji11 : Int).toNat ≤ 35184372088832 then (if 0 ≤ x14_1 then (if x14_1 < (x3_1.length : Int) then (impl_Net_laplacian.l0 k1 (x3_1.set (x14_1 : Int).toNat (List.replicate (ji11 : Int).toNat 0)) (y231.length : Int) (wrap64 (x14_1 + 1)) a0_0 l0_1) else (none)) else (none)) else (none)) else (none)) = some r := by first | (rw [hji11] at H; exact H) | (simp only [hji11] at H ⊢; exact H)
      have hji11w : (IntKind.i64.wrap (a0_0 - 1)) = ji11 := (i64_w _).trans hji11
      by_cases c12 : 0 ≤ (ji11)
      ·rw [if_pos c12] at H
       have c12b0 := eq_true c12
       have c12b1 : decide (0 ≤ (ji11)) = true := decide_eq_true c12
       clear c12
       by_cases c13 : (ji11 : Int).toNat ≤ 35184372088832
       ·rw [if_pos c13] at H
        have c13b0 := eq_true c13
        have c13b1 : decide ((ji11 : Int).toNat ≤ 35184372088832) = true := decide_eq_true c13
        clear c13
        obtain ⟨y234, hy234⟩ : ∃ y_ : List Int, y_ = (List.replicate (ji11 : Int).toNat 0) := ⟨_, rfl⟩
        replace H : (if 0 ≤ x14_1 then (if x14_1 < (x3_1.length : Int) then (impl_Net_laplacian.l0 k1 (x3_1.set (x14_1 : Int).toNat y234) (y231.length : Int) (wrap64 (x14_1 + 1)) a0_0 l0_1) else (none)) else (none)) = some r := by first | (rw [hy234]; with_reducible exact H) | (have H2_ := (Option.bind_some _ _).symm.trans H; rw [hy234]; with_reducible exact H2_) | (have H2_ := (Option.bind_some _ _).symm.trans H; with_reducible exact H2_) | with_reducible exact H | (rw [hy234]; exact H) | exact H
        have Ny234 := Aside0.mk hy234
        clear hy234
        by_cases c14 : 0 ≤ x14_1
        ·rw [if_pos c14] at H
         have c14b0 : decide (0 ≤ x14_1) = true := decide_eq_true c14
         clear c14
         by_cases c15 : x14_1 < (x3_1.length : Int)
         ·rw [if_pos c15] at H
          have c15b0 : decide (x14_1 < (x3_1.length : Int)) = true := decide_eq_true c15
          (try (have c15b0h1 := c15b0; simp only [hl3_1] at c15b0h1))
          clear c15
          obtain ⟨y237, hy237⟩ : ∃ y_ : List (List Int), y_ = (x3_1.set (x14_1 : Int).toNat y234) := ⟨_, rfl⟩
          replace H : (impl_Net_laplacian.l0 k1 y237 (y231.length : Int) (wrap64 (x14_1 + 1)) a0_0 l0_1) = some r := by first | (rw [hy237]; with_reducible exact H) | (have H2_ := (Option.bind_some _ _).symm.trans H; rw [hy237]; with_reducible exact H2_) | (have H2_ := (Option.bind_some _ _).symm.trans H; with_reducible exact H2_) | with_reducible exact H | (rw [hy237]; exact H) | exact H
          have Ny237 := Aside0.mk hy237
          clear hy237
          have H' := Aside0.mk H
          clear H
          have hcz17_0 : wr.cell? ⟨gb230, 0, none⟩ = some (.int .i64 a0_0) := (blk_cell BK230.out 0).trans rfl
          have hcz17_1 : wr.cell? ⟨gb230, 1, none⟩ = some (.slice A0_1 l0_1.length c0_1) := (blk_cell BK230.out 1).trans rfl
          have hfz17_0 := blk_frozen BK230.out 0
          have hfz17_1 := blk_frozen BK230.out 1
          go_wp2_with (first | ((with_reducible refine gate_dst (N := 22) rfl ?_); refine Kd.R_make (Kd.int .i64) _ 3 rfl (N := 22) rfl 36 _ _ rfl ji11 rfl rfl Try.underlying36 (.int .i64 0) 8 info3 rfl (by decide) (by omega) 0 (ok := fun _ => True) (okp := fun _ => True) rfl (fun _ hk => hk) trivial (of_decide_eq_true (by first | (with_reducible assumption) | assumption)) (Nat.le_trans (Nat.mul_le_mul_right _ (of_decide_eq_true (by first | (with_reducible assumption) | assumption) : ji11.toNat ≤ 35184372088832)) (by omega)) (Below.refl _ _) (Nat.le_refl _) ?_; intro v235 w18 ho19 hb hg_ hnew_; clear hg_ hnew_; (first | rw [← Ny234.out] at ho19 | (simp only [Int.reduceToNat] at ho19; rw [← Ny234.out] at ho19)); have n0_ := Aside0.mk (Kd.S_elder' (by (with_reducible repeat (first | apply Kd.S_alloc | apply Kd.S_drewN | apply Kd.S_drew)); exact HO_3.out) (Kd.R_base ho19) hb); have n1_ := Aside0.mk (Kd.R_lower ho19 (below_size (upW HB))); have n2_ := Aside0.mk (blk_below (upK BK230) hb); have n3_ := Aside0.mk (below_step (upW HB) hb); clear HO_3; clear BK230; clear HB; have HO_3 := n0_; have HO236 := n1_; have BK230 := n2_; have HB := n3_; clear n0_ n1_ n2_ n3_; clear hb ho19; have p16 : 0 ≤ (x14_1 : Int) := of_decide_eq_true (by first | (with_reducible assumption) | assumption); have q16 : (x14_1 : Int) < ((x3_1.length : Int) : Int) := of_decide_eq_true (by first | (with_reducible assumption) | assumption); obtain ⟨go16, co16, eo16, gb16, gl16, cl16, HG16⟩ := Kd.S_form HO_3.out (by omega); (first | cases eo16 | (injection eo16 with ea_ en_ ec_; (first | subst ea_ | (injection ea_ with ea_; subst ea_)); subst ec_; clear en_)); have GB16 := Aside0.mk gb16; have GG16 := Aside0.mk HG16; clear gb16 gl16 HG16; obtain ⟨_, ce16, hcl16, hM16, hcc16, hfr16, _, _⟩ := Kd.S_elem HO_3.out [] (x14_1 : Int) p16 q16; obtain ⟨ve16_0, rfl, ge16_0⟩ := hM16; have hx16_0 := hcc16 0 _ rfl; have hf16_0 := hfr16 0; (try simp only [show ((Kd.slice 3 (Kd.int .i64))).sz = 1 from rfl, Nat.mul_one, Nat.add_zero] at hx16_0); (try simp only [show ((Kd.slice 3 (Kd.int .i64))).sz = 1 from rfl, Nat.mul_one, Nat.add_zero] at hf16_0); (try clear hM16); clear hcl16 hcc16 hfr16; replace p16 := eq_true p16; replace q16 := eq_true q16; have n_ := Aside0.mk (Kd.S_mono (ok' := (fun k_ => some k_ ≠ (v235 : Value).ownBlock)) HO_3.out (fun k_ hk => hk.2)); clear HO_3; have HO_3 := n_; clear n_; have HX20 := Aside0.mk (show Kd.S (Kd.slice 3 (Kd.int .i64)) 36 w18 w.heap.size (fun k_ => ((fun _ => True)) k_ ∧ ¬ ((fun k_ => some k_ = (v235 : Value).ownBlock)) k_) (.slice (some ⟨go16, 0, none⟩) x3_1.length co9) x3_1 from (by (with_reducible repeat (first | apply Kd.S_alloc | apply Kd.S_drewN | apply Kd.S_drew)); exact Kd.S_mono HO_3.out (fun k_ hk => ⟨trivial, fun e_ => hk e_⟩))); obtain ⟨oki20, ce20, hcl20, hM20, hcc20, hfr20, hoki20, hH20⟩ := Kd.S_elem HX20.out [] (x14_1 : Int) (of_decide_eq_true (by first | (with_reducible assumption) | assumption)) (by have h_ : (x14_1 : Int) < ((x3_1.length : Int) : Int) := of_decide_eq_true (by first | (with_reducible assumption) | assumption); first | exact h_ | (have e_ := (Kd.S_reads' HO_3.out).1; omega) | simpa using h_); obtain ⟨ve20_0, rfl, ge20_0⟩ := hM20; have HP20 := Kd.S_seg hH20 (of_decide_eq_true (by first | (with_reducible assumption) | assumption)) (by have h_ : (x14_1 : Int) < ((x3_1.length : Int) : Int) := of_decide_eq_true (by first | (with_reducible assumption) | assumption); first | exact h_ | (have e_ := (Kd.S_reads' HO_3.out).1; omega) | simpa using h_) (seg := [v235]) (j := 0) (show 1 ≤ 1 from by decide) (x' := y234) (Kd.M_row (Kd.R_mono (Kd.R_tight rfl (Kd.R_mono (ok' := fun k_ => ((fun _ => True)) k_ ∧ k_ ≠ go16) (Kd.R_apart' (HO236.out) (Kd.S_typed HO_3.out) (by decide)) (fun k_ hk => ⟨trivial, fun e_ => (hk.2) (by rw [e_]; rfl)⟩))) (fun _ h_ => Or.inr (h_)))) (fun _ hk => hk) (fun k_ hk_ => ((Kd.R_mono (ok' := fun k_ => ((fun _ => True)) k_ ∧ k_ ≠ go16) (Kd.R_apart' (HO236.out) (Kd.S_typed HO_3.out) (by decide)) (fun k_ hk => ⟨trivial, fun e_ => (hk.2) (by rw [e_]; rfl)⟩))).1 k_ hk_.symm); have hx20_0 := hcc20 0 _ rfl; (try simp only [show ((Kd.slice 3 (Kd.int .i64))).sz = 1 from rfl, Nat.mul_one, Nat.add_zero] at hx20_0); have hf20_0 := hfr20 0; (try simp only [show ((Kd.slice 3 (Kd.int .i64))).sz = 1 from rfl, Nat.mul_one, Nat.add_zero] at hf20_0); (try clear hM20); clear hcl20 hcc20 hfr20 hoki20 hH20; (try simp only [show ((Kd.slice 3 (Kd.int .i64))).sz = 1 from rfl, Nat.mul_one, Nat.add_zero] at HP20)) | ((with_reducible refine gate_store (t := 36) (p := 23) rfl ?_); refine store_event (t := 36) (p := 23) (v := ?vo_w21) (w1 := (w18.setCell ⟨go16, (x14_1 : Int).toNat, none⟩ (v235))) ?hg ?ho ?hn ?hr ?_; (case ho => rfl); (case hg => rfl); (case hn => rfl); (case hr => first | (go_simp; done) | (go_simp; rfl) | (obtain ⟨_, _, eo_⟩ := Kd.R_slice HO236.out; subst eo_; first | (go_simp; done) | (go_simp; rfl))); intro w21 hw; have hg : w18.grownBy w21 (some go16) := (by rw [hw]; exact HP20.2); have hp_ : Kd.S (Kd.slice 3 (Kd.int .i64)) 36 w21 w.heap.size (fun _ => True) (.slice (some ⟨go16, 0, none⟩) x3_1.length co9) y237 := (by rw [hw, Ny237.out]; exact HP20.1); clear HP20; have n0_ := Aside0.mk (hp_); have n1_ := Aside0.mk (blk_grown (upK BK230) hg (Kd.S_ne HO_3.out BK230.out (by decide))); have n2_ := Aside0.mk ((by rw [hw]; exact below_set (HB.out) GB16.out : Below w.heap.size w w21)); clear HO_3; clear BK230; clear HB; clear HO236; have HO_3 := n0_; have BK230 := n1_; have HB := n2_; clear n0_ n1_ n2_; clear hg hw hp_))
          (try simp only [← hl3_1])
          go_roundg k1
          case measure => have := HK1.out; omega
          case rel => exact ⟨(y237), (wrap64 (x14_1 + 1)), (by first | rfl | (simp; done) | (simp [*]; done)), H', ⟨by have := HK1.out; omega⟩, ⟨by (try simp only [hl3_1]); (with_reducible repeat (first | apply Kd.S_alloc | apply Kd.S_drewN | apply Kd.S_drew)); exact HO_3.out⟩, ⟨by (try simp only [hl3_1]); (with_reducible repeat (first | refine blk_drewN ?_ _ | refine blk_drew ?_ | refine blk_alloc ?_ _)); exact BK230.out⟩, ⟨upW HB⟩⟩
         ·rw [if_neg c15] at H
          exact absurd H (by simp)
        ·rw [if_neg c14] at H
         exact absurd H (by simp)
       ·rw [if_neg c13] at H
        exact absurd H (by simp)
      ·rw [if_neg c12] at H
       exact absurd H (by simp)
     ·rw [if_neg c10] at H
      have c10b0 : decide (x14_1 < (y231.length : Int)) = false := decide_eq_false c10
      (try (have c10b0h1 := c10b0; simp only [hl3_1] at c10b0h1))
      clear c10
      have H' := Aside0.mk H
      clear H
      have hcz22_0 : wr.cell? ⟨gb230, 0, none⟩ = some (.int .i64 a0_0) := (blk_cell BK230.out 0).trans rfl
      have hcz22_1 : wr.cell? ⟨gb230, 1, none⟩ = some (.slice A0_1 l0_1.length c0_1) := (blk_cell BK230.out 1).trans rfl
      have hfz22_0 := blk_frozen BK230.out 0
      have hfz22_1 := blk_frozen BK230.out 1
      go_wp2
      go_loopg [28] k1 (fun kq v28 w' => ∃ (x3_2 : List (List Int)) (x28_2 : Int), v28 = .int .i64 x28_2 ∧ Aside0 (impl_Net_laplacian.l1 kq x3_2 l0_1 (l0_1.length : Int) x28_2 a0_0 l0_1 = some r) ∧ Aside0 (kq ≤ k1) ∧ Aside0 (Kd.S (Kd.slice 3 (Kd.int .i64)) 36 w' w.heap.size (fun _ => True) (.slice Ao9 x3_1.length co9) x3_2) ∧ Aside0 (w'.heap[gb230]? = some (.cells #[.int .i64 a0_0, (.slice A0_1 l0_1.length c0_1)] 30 (0, 0))) ∧ Aside0 (Below w.heap.size w w'))
      case atStart => exact ⟨(x3_1), (0), (by first | rfl | (simp; done) | (simp [*]; done)), H', ⟨Nat.le_refl _⟩, ⟨by (try simp only [hl3_1]); (with_reducible repeat (first | apply Kd.S_alloc | apply Kd.S_drewN | apply Kd.S_drew)); exact HO_3.out⟩, ⟨by (try simp only [hl3_1]); (with_reducible repeat (first | refine blk_drewN ?_ _ | refine blk_drew ?_ | refine blk_alloc ?_ _)); exact BK230.out⟩, ⟨upW HB⟩⟩
      case round =>
       clear H'
       try clear c1
       try clear p1
       try clear q1
       try clear hx1
       try clear hf1
       try clear c2
       try clear p2
       try clear hx2
       try clear hf2
       try clear c3
       try clear c3b0
       try clear c3b1
       try clear c4
       try clear c4b0
       try clear c4b1
       try clear p6
       try clear c9
       try clear c10
       try clear c10b0
       try clear c10b0h1
       try clear c12
       try clear c12b0
       try clear c12b1
       try clear c13
       try clear c13b0
       try clear c13b1
       try clear c14
       try clear c14b0
       try clear c15
       try clear c15b0
       try clear c15b0h1
       try clear c16
       try clear p16
       try clear q16
       try clear hx16
       try clear hf16
       try clear c20
       try clear hx20
       try clear hf20
       try clear hcz17_0
       try clear hcz17_1
       try clear hcz22_0
       try clear hcz22_1
       try clear hcz6_0
       try clear hcz6_1
       try clear hfz17_0
       try clear hfz17_1
       try clear hfz22_0
       try clear hfz22_1
       try clear hfz6_0
       try clear hfz6_1
       try clear hx16_0
       try clear hx20_0
       try clear p16
       try clear p2
       try clear p6
       try clear q16
       obtain ⟨x3_2, x28_2, rfl, HA, HK2, HO_3, BK230, HB⟩ := hrel
       have hl3_2 := (Kd.S_reads' HO_3.out).1
       rw [hl3_2] at HO_3
       (try simp only [hl3_2])
       (try simp only [hl3_2] at BK230)
       cases gk with
       | zero => exact absurd HA.out (by simp [impl_Net_laplacian.l1])
       | succ k2 =>
        have H := HA.out
        clear HA
        simp only [impl_Net_laplacian.l1] at H
        by_cases c23 : x28_2 < (l0_1.length : Int)
        ·rw [if_pos c23] at H
         have c23b0 : decide (x28_2 < (l0_1.length : Int)) = true := decide_eq_true c23
         (try (have c23b0h1 := c23b0; simp only [hl3_1] at c23b0h1))
         (try (have c23b0h2 := c23b0; simp only [hl3_2] at c23b0h2))
         clear c23
         by_cases c24 : 0 ≤ x28_2
         ·rw [if_pos c24] at H
          have c24b0 : decide (0 ≤ x28_2) = true := decide_eq_true c24
          clear c24
          by_cases c25 : x28_2 < (l0_1.length : Int)
          ·rw [if_pos c25] at H
           have c25b0 : decide (x28_2 < (l0_1.length : Int)) = true := decide_eq_true c25
           (try (have c25b0h1 := c25b0; simp only [hl3_1] at c25b0h1))
           (try (have c25b0h2 := c25b0; simp only [hl3_2] at c25b0h2))
           clear c25
           have HC26 := Aside0.mk H
           clear H
           have p238 : 0 ≤ (x28_2 : Int) := of_decide_eq_true (by first | (with_reducible assumption) | assumption)
           have q238 : x28_2 < (l0_1.length : Int) := of_decide_eq_true (by first | (with_reducible assumption) | assumption)
           obtain ⟨ad238, e238, hx238_0, hx238_1⟩ := at_T73 HR0_1.out x28_2 p238 q238
           cases e238
           replace hx238_0 := (HB.out.cell (World.block_lt_of_cell? w _ hx238_0)).trans hx238_0
           replace hx238_1 := (HB.out.cell (World.block_lt_of_cell? w _ hx238_1)).trans hx238_1
           replace p238 := eq_true p238
           replace q238 := eq_true q238
           go_upto_if 38 with (first | ((with_reducible refine gate_dst (N := 6) rfl ?_); refine box_event ?hg (N := 6) ?hd (cs := #[.int .i64 0, .int .i64 0]) (t := 73) ?hr ?_; (case hd => rfl); (case hg => rfl); (case hr => first | (go_simp; done) | (go_simp; rfl)); intro gb239 hg w27 hbox hb; have n0_ := Aside0.mk (Kd.S_below (by (with_reducible repeat (first | apply Kd.S_alloc | apply Kd.S_drewN | apply Kd.S_drew)); exact HO_3.out) hb); have n1_ := Aside0.mk (blk_below (upK BK230) hb); have n2_ := Aside0.mk (below_step (upW HB) hb); have n3_ := Aside0.mk (hbox); have n4_ := Aside0.mk ((by rw [hg]; exact (below_size (upW HB)) : w.heap.size ≤ gb239)); have n5_ := Aside0.mk ((by rw [hg]; exact (below_size (upW HB)) : w.heap.size ≤ gb239)); have n6_ := Aside0.mk ((by rw [hg]; exact Nat.ne_of_lt (blk_lt (upK BK230)) : gb230 ≠ gb239)); have n7_ := Aside0.mk ((by rw [hg]; exact Nat.ne_of_gt (blk_lt (upK BK230)) : gb239 ≠ gb230)); clear HO_3; clear BK230; clear HB; have HO_3 := n0_; have BK230 := n1_; have HB := n2_; have BK239 := n3_; have GW239 := n4_; have GE239 := n5_; have NB230_239 := n6_; have NB239_230 := n7_; clear n0_ n1_ n2_ n3_ n4_ n5_ n6_ n7_; clear hb hbox hg; have hnb28 := NB239_230.out; have hnc28 := NB230_239.out; have hcz29_0 : w27.cell? ⟨gb239, 0, none⟩ = some (.int .i64 0) := (blk_cell BK239.out 0).trans rfl; have hcz29_1 : w27.cell? ⟨gb239, 1, none⟩ = some (.int .i64 0) := (blk_cell BK239.out 1).trans rfl; have hfz29_0 := blk_frozen BK239.out 0; have hfz29_1 := blk_frozen BK239.out 1; have hcz30_0 : w27.cell? ⟨gb230, 0, none⟩ = some (.int .i64 a0_0) := (blk_cell BK230.out 0).trans rfl; have hcz30_1 : w27.cell? ⟨gb230, 1, none⟩ = some (.slice (some ad238) l0_1.length c0_1) := (blk_cell BK230.out 1).trans rfl; have hfz30_0 := blk_frozen BK230.out 0; have hfz30_1 := blk_frozen BK230.out 1))
           (try simp only [Act.put, List.setIfInBounds_toArray, List.set_cons_zero, List.set_cons_succ])
           go_cut [] (fun wc => ∃ (kq : Nat) (x3_25 : List (List Int)), Aside0 (impl_Net_laplacian.j2 kq x3_25 (wrap64 (a0_0 - 1)) l0_1 (l0_1.length : Int) x28_2 a0_0 l0_1 ((rd_T73 l0_1 x28_2).f0) ((rd_T73 l0_1 x28_2).f1) = some r) ∧ Aside0 (kq ≤ k2) ∧ Aside0 (Kd.S (Kd.slice 3 (Kd.int .i64)) 36 wc w.heap.size (fun _ => True) (.slice Ao9 x3_2.length co9) x3_25) ∧ Aside0 (wc.heap[gb230]? = some (.cells #[.int .i64 a0_0, (.slice (some ad238) l0_1.length c0_1)] 30 (0, 0))) ∧ Aside0 (wc.heap[gb239]? = some (.cells #[.int .i64 ((rd_T73 l0_1 x28_2).f0), .int .i64 ((rd_T73 l0_1 x28_2).f1)] 73 (0, 0))) ∧ Aside0 (Below w.heap.size w wc))
           case first =>
            have H := HC26.out
            clear HC26
            by_cases c31 : ((rd_T73 l0_1 x28_2).f0) < (wrap64 (a0_0 - 1))
            ·rw [if_pos c31] at H
             have c31b0 : decide (((rd_T73 l0_1 x28_2).f0) < (wrap64 (a0_0 - 1))) = true := decide_eq_true c31
             (try (have c31b0h0 := c31b0; simp only [hji2] at c31b0h0))
             clear c31
             (first | rw [c31b0] | (simp only [i64_w, i32_w]; rw [c31b0]) | rw [c31b0h0] | skip)
             by_cases c32 : 0 ≤ ((rd_T73 l0_1 x28_2).f0)
             ·rw [if_pos c32] at H
              have c32b0 : decide (0 ≤ ((rd_T73 l0_1 x28_2).f0)) = true := decide_eq_true c32
              clear c32
              by_cases c33 : ((rd_T73 l0_1 x28_2).f0) < (x3_2.length : Int)
              ·rw [if_pos c33] at H
               have c33b0 : decide (((rd_T73 l0_1 x28_2).f0) < (x3_2.length : Int)) = true := decide_eq_true c33
               (try (have c33b0h1 := c33b0; simp only [hl3_1] at c33b0h1))
               (try (have c33b0h2 := c33b0; simp only [hl3_2] at c33b0h2))
               clear c33
               by_cases c34 : ((rd_T73 l0_1 x28_2).f0) < ((rd_L4 x3_2 ((rd_T73 l0_1 x28_2).f0)).length : Int)
               ·rw [if_pos c34] at H
                have c34b0 : decide (((rd_T73 l0_1 x28_2).f0) < ((rd_L4 x3_2 ((rd_T73 l0_1 x28_2).f0)).length : Int)) = true := decide_eq_true c34
                (try (have c34b0h1 := c34b0; simp only [hl3_1] at c34b0h1))
                (try (have c34b0h2 := c34b0; simp only [hl3_2] at c34b0h2))
                clear c34
                obtain ⟨y242, hy242⟩ : ∃ y_ : List Int, y_ = ((rd_L4 x3_2 ((rd_T73 l0_1 x28_2).f0)).set (((rd_T73 l0_1 x28_2).f0) : Int).toNat (wrap64 ((rd (rd_L4 x3_2 ((rd_T73 l0_1 x28_2).f0)) ((rd_T73 l0_1 x28_2).f0)) + 1))) := ⟨_, rfl⟩
                replace H : (impl_Net_laplacian.j2 k2 (x3_2.set (((rd_T73 l0_1 x28_2).f0) : Int).toNat y242) (wrap64 (a0_0 - 1)) l0_1 (l0_1.length : Int) x28_2 a0_0 l0_1 ((rd_T73 l0_1 x28_2).f0) ((rd_T73 l0_1 x28_2).f1)) = some r := by first | (rw [hy242]; with_reducible exact H) | (have H2_ := (Option.bind_some _ _).symm.trans H; rw [hy242]; with_reducible exact H2_) | (have H2_ := (Option.bind_some _ _).symm.trans H; with_reducible exact H2_) | with_reducible exact H | (rw [hy242]; exact H) | exact H
                have Ny242 := Aside0.mk hy242
                clear hy242
                obtain ⟨y244, hy244⟩ : ∃ y_ : List (List Int), y_ = (x3_2.set (((rd_T73 l0_1 x28_2).f0) : Int).toNat y242) := ⟨_, rfl⟩
                replace H : (impl_Net_laplacian.j2 k2 y244 (wrap64 (a0_0 - 1)) l0_1 (l0_1.length : Int) x28_2 a0_0 l0_1 ((rd_T73 l0_1 x28_2).f0) ((rd_T73 l0_1 x28_2).f1)) = some r := by first | (rw [hy244]; with_reducible exact H) | (have H2_ := (Option.bind_some _ _).symm.trans H; rw [hy244]; with_reducible exact H2_) | (have H2_ := (Option.bind_some _ _).symm.trans H; with_reducible exact H2_) | with_reducible exact H | (rw [hy244]; exact H) | exact H
                have Ny244 := Aside0.mk hy244
                clear hy244
                have H' := Aside0.mk H
                clear H
                try go_wp2
                have n0_ : Aside0 (Kd.S (Kd.slice 3 (Kd.int .i64)) 36 ((w27.setCell ⟨gb239, 0, none⟩ (.int .i64 ((rd_T73 l0_1 x28_2).f0))).setCell ⟨gb239, 1, none⟩ (.int .i64 ((rd_T73 l0_1 x28_2).f1))) w.heap.size (fun _ => True) (.slice Ao9 x3_2.length co9) x3_2) := ⟨by (with_reducible repeat (first | apply Kd.S_alloc | apply Kd.S_drewN | apply Kd.S_drew)); exact Kd.S_mono (Kd.S_far (p := ⟨gb239, 1, none⟩) (Kd.S_far (p := ⟨gb239, 0, none⟩) (Kd.S_types HO_3.out BK239.out (by decide)) (fun _ hk => hk.2) (.int .i64 ((rd_T73 l0_1 x28_2).f0))) (fun _ hk => hk.2) (.int .i64 ((rd_T73 l0_1 x28_2).f1))) (fun _ hk => trivial)⟩
                have n1_ : Aside0 (((w27.setCell ⟨gb239, 0, none⟩ (.int .i64 ((rd_T73 l0_1 x28_2).f0))).setCell ⟨gb239, 1, none⟩ (.int .i64 ((rd_T73 l0_1 x28_2).f1))).heap[gb230]? = some (.cells #[.int .i64 a0_0, .slice (some ad238) l0_1.length c0_1] 30 (0, 0))) := ⟨upF BK230⟩
                have n2_ : Aside0 (((w27.setCell ⟨gb239, 0, none⟩ (.int .i64 ((rd_T73 l0_1 x28_2).f0))).setCell ⟨gb239, 1, none⟩ (.int .i64 ((rd_T73 l0_1 x28_2).f1))).heap[gb239]? = some (.cells #[.int .i64 ((rd_T73 l0_1 x28_2).f0), .int .i64 ((rd_T73 l0_1 x28_2).f1)] 73 (0, 0))) := ⟨by (with_reducible repeat (first | refine blk_drewN ?_ _ | refine blk_drew ?_ | refine blk_alloc ?_ _)); refine blk_put (cs := #[.int .i64 ((rd_T73 l0_1 x28_2).f0), .int .i64 0]) ?_ 1 _ rfl; (with_reducible repeat (first | refine blk_drewN ?_ _ | refine blk_drew ?_ | refine blk_alloc ?_ _)); refine blk_put (cs := #[.int .i64 0, .int .i64 0]) ?_ 0 _ rfl; (with_reducible repeat (first | refine blk_drewN ?_ _ | refine blk_drew ?_ | refine blk_alloc ?_ _)); exact BK239.out⟩
                have n3_ : Aside0 (Below w.heap.size w ((w27.setCell ⟨gb239, 0, none⟩ (.int .i64 ((rd_T73 l0_1 x28_2).f0))).setCell ⟨gb239, 1, none⟩ (.int .i64 ((rd_T73 l0_1 x28_2).f1)))) := ⟨upW HB⟩
                (try clear HO_3)
                (try clear BK230)
                (try clear BK239)
                (try clear HB)
                (try simp only [drewN_setCell])
                generalize ((w27.setCell ⟨gb239, 0, none⟩ (.int .i64 ((rd_T73 l0_1 x28_2).f0))).setCell ⟨gb239, 1, none⟩ (.int .i64 ((rd_T73 l0_1 x28_2).f1))) = w36 at n0_ n1_ n2_ n3_ ⊢
                have HO_3 := n0_
                have BK230 := n1_
                have BK239 := n2_
                have HB := n3_
                clear n0_ n1_ n2_ n3_
                have n0_ := Aside0.mk (Kd.S_drew HO_3.out)
                have n1_ := Aside0.mk (blk_drew BK230.out)
                have n2_ := Aside0.mk (blk_drew BK239.out)
                have n3_ := Aside0.mk (below_drew1 HB.out)
                clear HO_3
                clear BK230
                clear BK239
                clear HB
                have HO_3 := n0_
                have BK230 := n1_
                have BK239 := n2_
                have HB := n3_
                clear n0_ n1_ n2_ n3_
                have p240 : 0 ≤ (((rd_T73 l0_1 x28_2).f0) : Int) := of_decide_eq_true (by first | (with_reducible assumption) | assumption)
                have q240 : ((rd_T73 l0_1 x28_2).f0) < (x3_2.length : Int) := of_decide_eq_true (by first | (with_reducible assumption) | assumption)
                obtain ⟨ad240, A240_0, c240_0, e240, hx240_0, hl240_0, hi240_0⟩ := at_L4 (Kd.S_reads' HO_3.out).2.2 ((rd_T73 l0_1 x28_2).f0) p240 q240
                cases e240
                obtain ⟨ce240, hce240, hMe240, hcc240⟩ := Kd.S_get HO_3.out [] ((rd_T73 l0_1 x28_2).f0) p240 (by first | exact q240 | exact of_decide_eq_true (by first | (with_reducible assumption) | assumption) | (have e_ := (Kd.S_reads' HO_3.out).1; omega))
                obtain ⟨ve240_0, rfl, ge240_0⟩ := hMe240
                have hv240_0 := hcc240 0 _ rfl
                rw [Nat.add_zero, show ((Kd.slice 3 (Kd.int .i64))).sz = 1 from rfl, Nat.mul_one] at hv240_0
                replace hv240_0 := Option.some.inj (hv240_0.symm.trans hx240_0)
                rw [hv240_0] at ge240_0
                have HL240_0 := Aside0.mk (show Kd.R (Kd.int .i64) 3 _ _ _ _ (rd_L4 x3_2 ((rd_T73 l0_1 x28_2).f0)) from ge240_0)
                clear hv240_0 ge240_0
                have HX240_0 := Aside0.mk hx240_0
                clear hcc240 hce240
                have HR240_0 := Aside0.mk hi240_0
                have HC240_0 := Aside0.mk hl240_0
                clear hi240_0 hl240_0
                replace p240 := eq_true p240
                replace q240 := eq_true q240
                have p241 : 0 ≤ (((rd_T73 l0_1 x28_2).f0) : Int) := of_decide_eq_true (by first | (with_reducible assumption) | assumption)
                have q241 : ((rd_T73 l0_1 x28_2).f0) < ((rd_L4 x3_2 ((rd_T73 l0_1 x28_2).f0)).length : Int) := of_decide_eq_true (by first | (with_reducible assumption) | assumption)
                obtain ⟨ad241, e241, hx241_0⟩ := Kd.at_int (by repeat (first | (with_reducible exact HR240_0.out) | (with_reducible refine Kd.C_alloc ?_ _) | (with_reducible refine Kd.C_drewN ?_ _) | (with_reducible refine Kd.C_drew ?_) | exact HR240_0.out)) ((rd_T73 l0_1 x28_2).f0) p241 q241
                cases e241
                replace p241 := eq_true p241
                replace q241 := eq_true q241
                have p35 : 0 ≤ (((rd_T73 l0_1 x28_2).f0) : Int) := of_decide_eq_true (by first | (with_reducible assumption) | assumption)
                have q35 : (((rd_T73 l0_1 x28_2).f0) : Int) < (((rd_L4 x3_2 ((rd_T73 l0_1 x28_2).f0)).length : Int) : Int) := of_decide_eq_true (by first | (with_reducible assumption) | assumption)
                obtain ⟨go35, co35, eo35, gb35, gl35, cl35, HG35⟩ := Kd.R_form HL240_0.out (by omega)
                (first | cases eo35 | (injection eo35 with ea_ en_ ec_; (first | subst ea_ | (injection ea_ with ea_; subst ea_)); subst ec_; clear en_))
                have GB35 := Aside0.mk gb35
                have GG35 := Aside0.mk HG35
                clear gb35 gl35 HG35
                (first | simp only [add_plain] at hx241_0 | skip)
                obtain ⟨hx35_0, hf35_0⟩ := Kd.R_celln 0 HL240_0.out (((rd_T73 l0_1 x28_2).f0) : Int) p35 q35
                replace p35 := eq_true p35
                replace q35 := eq_true q35
                have hq38 : (((rd_T73 l0_1 x28_2).f0) : Int) < (x3_2.length : Int) := (by have h_ : (((rd_T73 l0_1 x28_2).f0) : Int) < ((x3_2.length : Int) : Int) := of_decide_eq_true (by first | (with_reducible assumption) | assumption); first | exact h_ | (have e_ := (Kd.S_reads' HO_3.out).1; omega) | simpa only [List.length_set, List.length_set] using h_)
                obtain ⟨oki38, ce38, hcl38, hM38, hcc38, hok38, hbk38⟩ := Kd.S_borrow HO_3.out [] (((rd_T73 l0_1 x28_2).f0) : Int) (of_decide_eq_true (by first | (with_reducible assumption) | assumption)) (by first | exact hq38 | (have e_ := (Kd.S_reads' HO_3.out).1; omega))
                obtain ⟨ve38_0, rfl, ge38_0⟩ := hM38
                have hv38 := hcc38 0 _ rfl
                rw [Nat.add_zero, show ((Kd.slice 3 (Kd.int .i64))).sz = 1 from rfl, Nat.mul_one] at hv38
                replace hv38 := Option.some.inj (hv38.symm.trans HX240_0.out)
                subst hv38
                clear hcc38 hcl38
                replace ge38_0 := (show Kd.R (Kd.int .i64) 3 _ _ _ _ (rd_L4 x3_2 ((rd_T73 l0_1 x28_2).f0)) from ge38_0)
                have HP38 := Kd.R_putg ge38_0 (((rd_T73 l0_1 x28_2).f0) : Int) (wrap64 ((rd (rd_L4 x3_2 ((rd_T73 l0_1 x28_2).f0)) ((rd_T73 l0_1 x28_2).f0)) + 1))
                rw [← Ny242.out] at HP38
                have HS38 := hbk38 HP38.2 (fun k_ e_ => by injection e_ with e_; subst e_; exact ge38_0.1 _ rfl) (x' := y242) (Kd.M_row HP38.1)
                rw [← Ny244.out] at HS38
                have HQ38 := Aside0.mk HS38
                clear HP38 HS38 hbk38 hok38
                refine start_ (n := 12) (S := fun w' => w'.cell? ⟨gb239, 0, none⟩ = some (.int .i64 ((rd_T73 l0_1 x28_2).f0)) ∧ w'.cell? ⟨gb239, 1, none⟩ = some (.int .i64 ((rd_T73 l0_1 x28_2).f1)) ∧ w'.cell? (ad240.add (((rd_T73 l0_1 x28_2).f0)).toNat) = some (.slice (some ⟨go35, 0, none⟩) (rd_L4 x3_2 ((rd_T73 l0_1 x28_2).f0)).length c240_0) ∧ w'.cell? ⟨go35, (((rd_T73 l0_1 x28_2).f0)).toNat, none⟩ = some (.int .i64 (rd (rd_L4 x3_2 ((rd_T73 l0_1 x28_2).f0)) ((rd_T73 l0_1 x28_2).f0)))) (ds := [11]) #[false, false, false, false, false, false, false, false, false, false, false, false] (by kernel_rfl) rfl rfl ⟨(blk_cell BK239.out 0).trans rfl, (blk_cell BK239.out 1).trans rfl, hx240_0, hx241_0⟩ (fun hHeld => ?_); refine with_tabW impl_Net_laplacian.tab12 impl_Net_laplacian.bits12 (fun HT_ HW_ => ?_)
                generalize w36.drew = w37 at HO_3 BK230 BK239 HB GG35 HL240_0 HQ38 HR240_0 HX240_0 hf35_0 hx240_0 hx241_0 hx35_0 hHeld ⊢
                refine pure_ (i := 0) (N := some 39) (v := ?_) (a' := ?_) #[true, false, false, false, false, false, false, false, false, false, false, false] rfl rfl (any_of HT_.out (by kernel_rfl)) (fun _ _ _ h => h) (Or.inl ⟨by rfl, ?_⟩) ?_ ?_
                rotate_left
                ·intro w'
                 go_simp
                 with_reducible rfl
                rotate_left
                ·simp only [Act.put, List.setIfInBounds_toArray, List.set_cons_zero, List.set_cons_succ, i64_w, i32_w]
                 rfl
                refine pure_ (i := 1) (N := some 40) (v := ?_) (a' := ?_) #[true, true, false, false, false, false, false, false, false, false, false, false] rfl rfl (any_of HT_.out (by kernel_rfl)) (fun _ _ _ h => h) (Or.inl ⟨by rfl, ?_⟩) ?_ ?_
                rotate_left
                ·intro w'
                 go_simp
                 with_reducible rfl
                rotate_left
                ·simp only [Act.put, List.setIfInBounds_toArray, List.set_cons_zero, List.set_cons_succ, i64_w, i32_w]
                 rfl
                refine pure_ (i := 5) (N := some 44) (v := ?_) (a' := ?_) #[true, true, false, false, false, true, false, false, false, false, false, false] rfl rfl (any_of HT_.out (by kernel_rfl)) (fun _ _ _ h => h) (Or.inl ⟨by rfl, ?_⟩) ?_ ?_
                rotate_left
                ·intro w'
                 go_simp
                 with_reducible rfl
                rotate_left
                ·simp only [Act.put, List.setIfInBounds_toArray, List.set_cons_zero, List.set_cons_succ, i64_w, i32_w]
                 rfl
                refine take_ (i := 2) (N := some 41) (v := ?_) (a' := ?_) #[true, true, true, false, false, true, false, false, false, false, false, false] rfl rfl (take_ofW HT_.out HW_.out (by kernel_rfl)) (fun _ _ _ h => h) (Or.inl ⟨by rfl, ?_⟩) hHeld ?_ ?_
                rotate_left
                ·rintro w' ⟨s0, s1, s2, s3⟩
                 go_simp
                 with_reducible rfl
                rotate_left
                ·simp only [Act.put, List.setIfInBounds_toArray, List.set_cons_zero, List.set_cons_succ, i64_w, i32_w]
                 rfl
                refine pure_ (i := 3) (N := some 42) (v := ?_) (a' := ?_) #[true, true, true, true, false, true, false, false, false, false, false, false] rfl rfl (any_of HT_.out (by kernel_rfl)) (fun _ _ _ h => h) (Or.inl ⟨by rfl, ?_⟩) ?_ ?_
                rotate_left
                ·intro w'
                 go_simp
                 with_reducible rfl
                rotate_left
                ·simp only [Act.put, List.setIfInBounds_toArray, List.set_cons_zero, List.set_cons_succ, i64_w, i32_w]
                 rfl
                refine take_ (i := 4) (N := some 43) (v := ?_) (a' := ?_) #[true, true, true, true, true, true, false, false, false, false, false, false] rfl rfl (take_ofW HT_.out HW_.out (by kernel_rfl)) (fun _ _ _ h => h) (Or.inl ⟨by rfl, ?_⟩) hHeld ?_ ?_
                rotate_left
                ·rintro w' ⟨s0, s1, s2, s3⟩
                 go_simp
                 with_reducible rfl
                rotate_left
                ·simp only [Act.put, List.setIfInBounds_toArray, List.set_cons_zero, List.set_cons_succ, i64_w, i32_w]
                 rfl
                refine take_ (i := 6) (N := some 45) (v := ?_) (a' := ?_) #[true, true, true, true, true, true, true, false, false, false, false, false] rfl rfl (take_ofW HT_.out HW_.out (by kernel_rfl)) (fun _ _ _ h => h) (Or.inl ⟨by rfl, ?_⟩) hHeld ?_ ?_
                rotate_left
                ·rintro w' ⟨s0, s1, s2, s3⟩
                 go_simp
                 with_reducible rfl
                rotate_left
                ·simp only [Act.put, List.setIfInBounds_toArray, List.set_cons_zero, List.set_cons_succ, i64_w, i32_w]
                 rfl
                refine pure_ (i := 7) (N := some 46) (v := ?_) (a' := ?_) #[true, true, true, true, true, true, true, true, false, false, false, false] rfl rfl (any_of HT_.out (by kernel_rfl)) (fun _ _ _ h => h) (Or.inl ⟨by rfl, ?_⟩) ?_ ?_
                rotate_left
                ·intro w'
                 go_simp
                 with_reducible rfl
                rotate_left
                ·simp only [Act.put, List.setIfInBounds_toArray, List.set_cons_zero, List.set_cons_succ, i64_w, i32_w]
                 rfl
                refine take_ (i := 8) (N := some 47) (v := ?_) (a' := ?_) #[true, true, true, true, true, true, true, true, true, false, false, false] rfl rfl (take_ofW HT_.out HW_.out (by kernel_rfl)) (fun _ _ _ h => h) (Or.inl ⟨by rfl, ?_⟩) hHeld ?_ ?_
                rotate_left
                ·rintro w' ⟨s0, s1, s2, s3⟩
                 go_simp
                 with_reducible rfl
                rotate_left
                ·simp only [Act.put, List.setIfInBounds_toArray, List.set_cons_zero, List.set_cons_succ, i64_w, i32_w]
                 rfl
                refine pure_ (i := 9) (N := some 48) (v := ?_) (a' := ?_) #[true, true, true, true, true, true, true, true, true, true, false, false] rfl rfl (any_of HT_.out (by kernel_rfl)) (fun _ _ _ h => h) (Or.inl ⟨by rfl, ?_⟩) ?_ ?_
                rotate_left
                ·intro w'
                 go_simp
                 with_reducible rfl
                rotate_left
                ·simp only [Act.put, List.setIfInBounds_toArray, List.set_cons_zero, List.set_cons_succ, i64_w, i32_w]
                 rfl
                refine pure_ (i := 10) (N := some 49) (v := ?_) (a' := ?_) #[true, true, true, true, true, true, true, true, true, true, true, false] rfl rfl (any_of HT_.out (by kernel_rfl)) (fun _ _ _ h => h) (Or.inl ⟨by rfl, ?_⟩) ?_ ?_
                rotate_left
                ·intro w'
                 go_simp
                 with_reducible rfl
                rotate_left
                ·simp only [Act.put, List.setIfInBounds_toArray, List.set_cons_zero, List.set_cons_succ, i64_w, i32_w]
                 rfl
                refine last_ (i := 11) (N := none) #[true, true, true, true, true, true, true, true, true, true, true, true] rfl rfl (one_of HT_.out (by kernel_rfl)) (by decide) (fun K hK => ?_)
                refine skip_ (w1 := ?_) (by rfl) rfl ?_ ?_
                rotate_left
                ·go_simp
                 rfl
                refine hK.out _ _ ?_
                clear hK K
                refine done_ (done_of HT_.out (by kernel_rfl)) ?_
                try go_wp2
                go_meet
                case rel => exact ⟨_, (y244), H', ⟨by have := HK1.out; have := HK2.out; first | omega | exact Nat.le_refl _⟩, ⟨by (try simp only [hl3_1]); (try simp only [hl3_2]); (with_reducible repeat (first | apply Kd.S_alloc | apply Kd.S_drewN | apply Kd.S_drew)); exact HQ38.out⟩, ⟨by (try simp only [hl3_1]); (try simp only [hl3_2]); (with_reducible repeat (first | refine blk_drewN ?_ _ | refine blk_drew ?_ | refine blk_alloc ?_ _)); refine blk_far ?_ (by have h_ := Kd.R_ne HL240_0.out BK230.out (by decide); intro e_; exact h_ (by rw [e_]; rfl)) _; (with_reducible repeat (first | refine blk_drewN ?_ _ | refine blk_drew ?_ | refine blk_alloc ?_ _)); exact BK230.out⟩, ⟨by (try simp only [hl3_1]); (try simp only [hl3_2]); (with_reducible repeat (first | refine blk_drewN ?_ _ | refine blk_drew ?_ | refine blk_alloc ?_ _)); refine blk_far ?_ (by have h_ := Kd.R_ne HL240_0.out BK239.out (by decide); intro e_; exact h_ (by rw [e_]; rfl)) _; (with_reducible repeat (first | refine blk_drewN ?_ _ | refine blk_drew ?_ | refine blk_alloc ?_ _)); exact BK239.out⟩, ⟨by repeat (first | (with_reducible first | exact HB.out | apply below_alloc | apply pw_below_drewN | apply below_drew1 | refine below_set ?_ GB35.out | refine below_set ?_ GE230.out | refine below_set ?_ GE239.out) | exact HB.out)⟩⟩
               ·rw [if_neg c34] at H
                exact absurd H (by simp)
              ·rw [if_neg c33] at H
               exact absurd H (by simp)
             ·rw [if_neg c32] at H
              exact absurd H (by simp)
            ·rw [if_neg c31] at H
             have c31b0 : decide (((rd_T73 l0_1 x28_2).f0) < (wrap64 (a0_0 - 1))) = false := decide_eq_false c31
             (try (have c31b0h0 := c31b0; simp only [hji2] at c31b0h0))
             clear c31
             (first | rw [c31b0] | (simp only [i64_w, i32_w]; rw [c31b0]) | rw [c31b0h0] | skip)
             have H' := Aside0.mk H
             clear H
             go_wp2
             go_meet
             case rel => exact ⟨_, (x3_2), H', ⟨by have := HK1.out; have := HK2.out; first | omega | exact Nat.le_refl _⟩, ⟨by (try simp only [hl3_1]); (try simp only [hl3_2]); (with_reducible repeat (first | apply Kd.S_alloc | apply Kd.S_drewN | apply Kd.S_drew)); exact Kd.S_mono (Kd.S_far (p := ⟨gb239, 1, none⟩) (Kd.S_far (p := ⟨gb239, 0, none⟩) (Kd.S_types HO_3.out BK239.out (by decide)) (fun _ hk => hk.2) (.int .i64 ((rd_T73 l0_1 x28_2).f0))) (fun _ hk => hk.2) (.int .i64 ((rd_T73 l0_1 x28_2).f1))) (fun _ hk => trivial)⟩, ⟨by (try simp only [hl3_1]); (try simp only [hl3_2]); (with_reducible repeat (first | refine blk_drewN ?_ _ | refine blk_drew ?_ | refine blk_alloc ?_ _)); refine blk_far ?_ NB230_239.out _; (with_reducible repeat (first | refine blk_drewN ?_ _ | refine blk_drew ?_ | refine blk_alloc ?_ _)); refine blk_far ?_ NB230_239.out _; (with_reducible repeat (first | refine blk_drewN ?_ _ | refine blk_drew ?_ | refine blk_alloc ?_ _)); exact BK230.out⟩, ⟨by (try simp only [hl3_1]); (try simp only [hl3_2]); (with_reducible repeat (first | refine blk_drewN ?_ _ | refine blk_drew ?_ | refine blk_alloc ?_ _)); refine blk_put (cs := #[.int .i64 ((rd_T73 l0_1 x28_2).f0), .int .i64 0]) ?_ 1 _ rfl; (with_reducible repeat (first | refine blk_drewN ?_ _ | refine blk_drew ?_ | refine blk_alloc ?_ _)); refine blk_put (cs := #[.int .i64 0, .int .i64 0]) ?_ 0 _ rfl; (with_reducible repeat (first | refine blk_drewN ?_ _ | refine blk_drew ?_ | refine blk_alloc ?_ _)); exact BK239.out⟩, ⟨upW HB⟩⟩
           case rest =>
            clear HC26
            try clear c1
            try clear p1
            try clear q1
            try clear hx1
            try clear hf1
            try clear c2
            try clear p2
            try clear q2
            try clear hx2
            try clear hf2
            try clear c3
            try clear c3b0
            try clear c3b1
            try clear p3
            try clear q3
            try clear hx3
            try clear hf3
            try clear c4
            try clear c4b0
            try clear c4b1
            try clear p6
            try clear c9
            try clear c10
            try clear c10b0
            try clear c10b0h1
            try clear c12
            try clear c12b0
            try clear c12b1
            try clear c13
            try clear c13b0
            try clear c13b1
            try clear c14
            try clear c14b0
            try clear c15
            try clear c15b0
            try clear c15b0h1
            try clear c16
            try clear p16
            try clear q16
            try clear hx16
            try clear hf16
            try clear c20
            try clear hx20
            try clear hf20
            try clear c23
            try clear c23b0
            try clear c23b0h1
            try clear c23b0h2
            try clear p23
            try clear q23
            try clear hx23
            try clear c24
            try clear c24b0
            try clear p24
            try clear q24
            try clear hx24
            try clear c25
            try clear c25b0
            try clear c25b0h1
            try clear c25b0h2
            try clear c28
            try clear c31
            try clear c31b0
            try clear c31b0h0
            try clear c32
            try clear c32b0
            try clear c33
            try clear c33b0
            try clear c33b0h1
            try clear c33b0h2
            try clear c34
            try clear c34b0
            try clear c34b0h1
            try clear c34b0h2
            try clear p35
            try clear q35
            try clear hx35
            try clear hf35
            try clear c38
            try clear q38
            try clear hcz17_0
            try clear hcz17_1
            try clear hcz22_0
            try clear hcz22_1
            try clear hcz29_0
            try clear hcz29_1
            try clear hcz30_0
            try clear hcz30_1
            try clear hcz6_0
            try clear hcz6_1
            try clear hfz17_0
            try clear hfz17_1
            try clear hfz22_0
            try clear hfz22_1
            try clear hfz29_0
            try clear hfz29_1
            try clear hfz30_0
            try clear hfz30_1
            try clear hfz6_0
            try clear hfz6_1
            try clear hx16_0
            try clear hx20_0
            try clear hx238_0
            try clear hx238_1
            try clear hx240_0
            try clear hx241_0
            try clear hx35_0
            try clear p1
            try clear p16
            try clear p2
            try clear p238
            try clear p240
            try clear p241
            try clear p35
            try clear p6
            try clear q1
            try clear q16
            try clear q238
            try clear q240
            try clear q241
            try clear q35
            obtain ⟨kq, x3_25, HA, HJ25, HO_3, BK230, BK239, HB⟩ := hcut
            have hl3_25 := (Kd.S_reads' HO_3.out).1
            rw [hl3_25] at HO_3
            (try simp only [hl3_25])
            (try simp only [hl3_25] at BK230)
            (try simp only [hl3_25] at BK239)
            cases kq with
            | zero => exact absurd HA.out (by simp [impl_Net_laplacian.j2])
            | succ kj25 =>
             have H := HA.out
             clear HA
             simp only [impl_Net_laplacian.j2] at H
             by_cases c40 : ((rd_T73 l0_1 x28_2).f1) < (wrap64 (a0_0 - 1))
             ·rw [if_pos c40] at H
              have c40b0 : decide (((rd_T73 l0_1 x28_2).f1) < (wrap64 (a0_0 - 1))) = true := decide_eq_true c40
              (try (have c40b0h0 := c40b0; simp only [hji2] at c40b0h0))
              clear c40
              by_cases c41 : 0 ≤ ((rd_T73 l0_1 x28_2).f1)
              ·rw [if_pos c41] at H
               have c41b0 : decide (0 ≤ ((rd_T73 l0_1 x28_2).f1)) = true := decide_eq_true c41
               clear c41
               by_cases c42 : ((rd_T73 l0_1 x28_2).f1) < (x3_25.length : Int)
               ·rw [if_pos c42] at H
                have c42b0 : decide (((rd_T73 l0_1 x28_2).f1) < (x3_25.length : Int)) = true := decide_eq_true c42
                (try (have c42b0h1 := c42b0; simp only [hl3_1] at c42b0h1))
                (try (have c42b0h2 := c42b0; simp only [hl3_2] at c42b0h2))
                (try (have c42b0h3 := c42b0; simp only [hl3_25] at c42b0h3))
                clear c42
                by_cases c43 : ((rd_T73 l0_1 x28_2).f1) < ((rd_L4 x3_25 ((rd_T73 l0_1 x28_2).f1)).length : Int)
                ·rw [if_pos c43] at H
                 have c43b0 : decide (((rd_T73 l0_1 x28_2).f1) < ((rd_L4 x3_25 ((rd_T73 l0_1 x28_2).f1)).length : Int)) = true := decide_eq_true c43
                 (try (have c43b0h1 := c43b0; simp only [hl3_1] at c43b0h1))
                 (try (have c43b0h2 := c43b0; simp only [hl3_2] at c43b0h2))
                 (try (have c43b0h3 := c43b0; simp only [hl3_25] at c43b0h3))
                 clear c43
                 obtain ⟨y247, hy247⟩ : ∃ y_ : List Int, y_ = ((rd_L4 x3_25 ((rd_T73 l0_1 x28_2).f1)).set (((rd_T73 l0_1 x28_2).f1) : Int).toNat (wrap64 ((rd (rd_L4 x3_25 ((rd_T73 l0_1 x28_2).f1)) ((rd_T73 l0_1 x28_2).f1)) + 1))) := ⟨_, rfl⟩
                 replace H : ((some (x3_25.set (((rd_T73 l0_1 x28_2).f1) : Int).toNat y247 : List (List Int))).bind fun y249 => (if ((rd_T73 l0_1 x28_2).f0) < (wrap64 (a0_0 - 1)) then (if 0 ≤ ((rd_T73 l0_1 x28_2).f0) then (if ((rd_T73 l0_1 x28_2).f0) < (x3_25.length : Int) then (if ((rd_T73 l0_1 x28_2).f1) < ((rd_L4 y249 ((rd_T73 l0_1 x28_2).f0)).length : Int) then ((some (y249.set (((rd_T73 l0_1 x28_2).f0) : Int).toNat ((rd_L4 y249 ((rd_T73 l0_1 x28_2).f0)).set (((rd_T73 l0_1 x28_2).f1) : Int).toNat (wrap64 ((rd (rd_L4 y249 ((rd_T73 l0_1 x28_2).f0)) ((rd_T73 l0_1 x28_2).f1)) - 1))) : List (List Int))).bind fun y254 => (if ((rd_T73 l0_1 x28_2).f0) < ((rd_L4 y254 ((rd_T73 l0_1 x28_2).f1)).length : Int) then (impl_Net_laplacian.l1 kj25 (y254.set (((rd_T73 l0_1 x28_2).f1) : Int).toNat ((rd_L4 y254 ((rd_T73 l0_1 x28_2).f1)).set (((rd_T73 l0_1 x28_2).f0) : Int).toNat (wrap64 ((rd (rd_L4 y254 ((rd_T73 l0_1 x28_2).f1)) ((rd_T73 l0_1 x28_2).f0)) - 1)))) l0_1 (l0_1.length : Int) (wrap64 (x28_2 + 1)) a0_0 l0_1) else (none))) else (none)) else (none)) else (none)) else (impl_Net_laplacian.l1 kj25 y249 l0_1 (l0_1.length : Int) (wrap64 (x28_2 + 1)) a0_0 l0_1))) = some r := by first | (rw [hy247]; with_reducible exact H) | (have H2_ := (Option.bind_some _ _).symm.trans H; rw [hy247]; with_reducible exact H2_) | (have H2_ := (Option.bind_some _ _).symm.trans H; with_reducible exact H2_) | with_reducible exact H | (rw [hy247]; exact H) | exact H
                 have Ny247 := Aside0.mk hy247
                 clear hy247
                 obtain ⟨y249, hy249⟩ : ∃ y_ : List (List Int), y_ = (x3_25.set (((rd_T73 l0_1 x28_2).f1) : Int).toNat y247) := ⟨_, rfl⟩
                 replace H : (if ((rd_T73 l0_1 x28_2).f0) < (wrap64 (a0_0 - 1)) then (if 0 ≤ ((rd_T73 l0_1 x28_2).f0) then (if ((rd_T73 l0_1 x28_2).f0) < (x3_25.length : Int) then (if ((rd_T73 l0_1 x28_2).f1) < ((rd_L4 y249 ((rd_T73 l0_1 x28_2).f0)).length : Int) then ((some (y249.set (((rd_T73 l0_1 x28_2).f0) : Int).toNat ((rd_L4 y249 ((rd_T73 l0_1 x28_2).f0)).set (((rd_T73 l0_1 x28_2).f1) : Int).toNat (wrap64 ((rd (rd_L4 y249 ((rd_T73 l0_1 x28_2).f0)) ((rd_T73 l0_1 x28_2).f1)) - 1))) : List (List Int))).bind fun y254 => (if ((rd_T73 l0_1 x28_2).f0) < ((rd_L4 y254 ((rd_T73 l0_1 x28_2).f1)).length : Int) then (impl_Net_laplacian.l1 kj25 (y254.set (((rd_T73 l0_1 x28_2).f1) : Int).toNat ((rd_L4 y254 ((rd_T73 l0_1 x28_2).f1)).set (((rd_T73 l0_1 x28_2).f0) : Int).toNat (wrap64 ((rd (rd_L4 y254 ((rd_T73 l0_1 x28_2).f1)) ((rd_T73 l0_1 x28_2).f0)) - 1)))) l0_1 (l0_1.length : Int) (wrap64 (x28_2 + 1)) a0_0 l0_1) else (none))) else (none)) else (none)) else (none)) else (impl_Net_laplacian.l1 kj25 y249 l0_1 (l0_1.length : Int) (wrap64 (x28_2 + 1)) a0_0 l0_1)) = some r := by first | (rw [hy249]; with_reducible exact H) | (have H2_ := (Option.bind_some _ _).symm.trans H; rw [hy249]; with_reducible exact H2_) | (have H2_ := (Option.bind_some _ _).symm.trans H; with_reducible exact H2_) | with_reducible exact H | (rw [hy249]; exact H) | exact H
                 have Ny249 := Aside0.mk hy249
                 clear hy249
                 by_cases c45 : ((rd_T73 l0_1 x28_2).f0) < (wrap64 (a0_0 - 1))
                 ·rw [if_pos c45] at H
                  have c45b0 : decide (((rd_T73 l0_1 x28_2).f0) < (wrap64 (a0_0 - 1))) = true := decide_eq_true c45
                  (try (have c45b0h0 := c45b0; simp only [hji2] at c45b0h0))
                  clear c45
                  by_cases c46 : 0 ≤ ((rd_T73 l0_1 x28_2).f0)
                  ·rw [if_pos c46] at H
                   have c46b0 : decide (0 ≤ ((rd_T73 l0_1 x28_2).f0)) = true := decide_eq_true c46
                   clear c46
                   by_cases c47 : ((rd_T73 l0_1 x28_2).f0) < (x3_25.length : Int)
                   ·rw [if_pos c47] at H
                    have c47b0 : decide (((rd_T73 l0_1 x28_2).f0) < (x3_25.length : Int)) = true := decide_eq_true c47
                    (try (have c47b0h1 := c47b0; simp only [hl3_1] at c47b0h1))
                    (try (have c47b0h2 := c47b0; simp only [hl3_2] at c47b0h2))
                    (try (have c47b0h3 := c47b0; simp only [hl3_25] at c47b0h3))
                    clear c47
                    by_cases c48 : ((rd_T73 l0_1 x28_2).f1) < ((rd_L4 y249 ((rd_T73 l0_1 x28_2).f0)).length : Int)
                    ·rw [if_pos c48] at H
                     have c48b0 : decide (((rd_T73 l0_1 x28_2).f1) < ((rd_L4 y249 ((rd_T73 l0_1 x28_2).f0)).length : Int)) = true := decide_eq_true c48
                     (try (have c48b0h1 := c48b0; simp only [hl3_1] at c48b0h1))
                     (try (have c48b0h2 := c48b0; simp only [hl3_2] at c48b0h2))
                     (try (have c48b0h3 := c48b0; simp only [hl3_25] at c48b0h3))
                     clear c48
                     obtain ⟨y252, hy252⟩ : ∃ y_ : List Int, y_ = ((rd_L4 y249 ((rd_T73 l0_1 x28_2).f0)).set (((rd_T73 l0_1 x28_2).f1) : Int).toNat (wrap64 ((rd (rd_L4 y249 ((rd_T73 l0_1 x28_2).f0)) ((rd_T73 l0_1 x28_2).f1)) - 1))) := ⟨_, rfl⟩
                     replace H : ((some (y249.set (((rd_T73 l0_1 x28_2).f0) : Int).toNat y252 : List (List Int))).bind fun y254 => (if ((rd_T73 l0_1 x28_2).f0) < ((rd_L4 y254 ((rd_T73 l0_1 x28_2).f1)).length : Int) then (impl_Net_laplacian.l1 kj25 (y254.set (((rd_T73 l0_1 x28_2).f1) : Int).toNat ((rd_L4 y254 ((rd_T73 l0_1 x28_2).f1)).set (((rd_T73 l0_1 x28_2).f0) : Int).toNat (wrap64 ((rd (rd_L4 y254 ((rd_T73 l0_1 x28_2).f1)) ((rd_T73 l0_1 x28_2).f0)) - 1)))) l0_1 (l0_1.length : Int) (wrap64 (x28_2 + 1)) a0_0 l0_1) else (none))) = some r := by first | (rw [hy252]; with_reducible exact H) | (have H2_ := (Option.bind_some _ _).symm.trans H; rw [hy252]; with_reducible exact H2_) | (have H2_ := (Option.bind_some _ _).symm.trans H; with_reducible exact H2_) | with_reducible exact H | (rw [hy252]; exact H) | exact H
                     have Ny252 := Aside0.mk hy252
                     clear hy252
                     obtain ⟨y254, hy254⟩ : ∃ y_ : List (List Int), y_ = (y249.set (((rd_T73 l0_1 x28_2).f0) : Int).toNat y252) := ⟨_, rfl⟩
                     replace H : (if ((rd_T73 l0_1 x28_2).f0) < ((rd_L4 y254 ((rd_T73 l0_1 x28_2).f1)).length : Int) then (impl_Net_laplacian.l1 kj25 (y254.set (((rd_T73 l0_1 x28_2).f1) : Int).toNat ((rd_L4 y254 ((rd_T73 l0_1 x28_2).f1)).set (((rd_T73 l0_1 x28_2).f0) : Int).toNat (wrap64 ((rd (rd_L4 y254 ((rd_T73 l0_1 x28_2).f1)) ((rd_T73 l0_1 x28_2).f0)) - 1)))) l0_1 (l0_1.length : Int) (wrap64 (x28_2 + 1)) a0_0 l0_1) else (none)) = some r := by first | (rw [hy254]; with_reducible exact H) | (have H2_ := (Option.bind_some _ _).symm.trans H; rw [hy254]; with_reducible exact H2_) | (have H2_ := (Option.bind_some _ _).symm.trans H; with_reducible exact H2_) | with_reducible exact H | (rw [hy254]; exact H) | exact H
                     have Ny254 := Aside0.mk hy254
                     clear hy254
                     by_cases c50 : ((rd_T73 l0_1 x28_2).f0) < ((rd_L4 y254 ((rd_T73 l0_1 x28_2).f1)).length : Int)
                     ·rw [if_pos c50] at H
                      have c50b0 : decide (((rd_T73 l0_1 x28_2).f0) < ((rd_L4 y254 ((rd_T73 l0_1 x28_2).f1)).length : Int)) = true := decide_eq_true c50
                      (try (have c50b0h1 := c50b0; simp only [hl3_1] at c50b0h1))
                      (try (have c50b0h2 := c50b0; simp only [hl3_2] at c50b0h2))
                      (try (have c50b0h3 := c50b0; simp only [hl3_25] at c50b0h3))
                      clear c50
                      obtain ⟨y257, hy257⟩ : ∃ y_ : List Int, y_ = ((rd_L4 y254 ((rd_T73 l0_1 x28_2).f1)).set (((rd_T73 l0_1 x28_2).f0) : Int).toNat (wrap64 ((rd (rd_L4 y254 ((rd_T73 l0_1 x28_2).f1)) ((rd_T73 l0_1 x28_2).f0)) - 1))) := ⟨_, rfl⟩
                      replace H : (impl_Net_laplacian.l1 kj25 (y254.set (((rd_T73 l0_1 x28_2).f1) : Int).toNat y257) l0_1 (l0_1.length : Int) (wrap64 (x28_2 + 1)) a0_0 l0_1) = some r := by first | (rw [hy257]; with_reducible exact H) | (have H2_ := (Option.bind_some _ _).symm.trans H; rw [hy257]; with_reducible exact H2_) | (have H2_ := (Option.bind_some _ _).symm.trans H; with_reducible exact H2_) | with_reducible exact H | (rw [hy257]; exact H) | exact H
                      have Ny257 := Aside0.mk hy257
                      clear hy257
                      obtain ⟨y259, hy259⟩ : ∃ y_ : List (List Int), y_ = (y254.set (((rd_T73 l0_1 x28_2).f1) : Int).toNat y257) := ⟨_, rfl⟩
                      replace H : (impl_Net_laplacian.l1 kj25 y259 l0_1 (l0_1.length : Int) (wrap64 (x28_2 + 1)) a0_0 l0_1) = some r := by first | (rw [hy259]; with_reducible exact H) | (have H2_ := (Option.bind_some _ _).symm.trans H; rw [hy259]; with_reducible exact H2_) | (have H2_ := (Option.bind_some _ _).symm.trans H; with_reducible exact H2_) | with_reducible exact H | (rw [hy259]; exact H) | exact H
                      have Ny259 := Aside0.mk hy259
                      clear hy259
                      have H' := Aside0.mk H
                      clear H
                      have hnb52 := NB239_230.out
                      have hnc52 := NB230_239.out
                      have hcz53_0 : wc.cell? ⟨gb239, 0, none⟩ = some (.int .i64 ((rd_T73 l0_1 x28_2).f0)) := (blk_cell BK239.out 0).trans rfl
                      have hcz53_1 : wc.cell? ⟨gb239, 1, none⟩ = some (.int .i64 ((rd_T73 l0_1 x28_2).f1)) := (blk_cell BK239.out 1).trans rfl
                      have hfz53_0 := blk_frozen BK239.out 0
                      have hfz53_1 := blk_frozen BK239.out 1
                      try go_wp2
                      have n0_ := Aside0.mk (Kd.S_drew HO_3.out)
                      have n1_ := Aside0.mk (blk_drew BK230.out)
                      have n2_ := Aside0.mk (blk_drew BK239.out)
                      have n3_ := Aside0.mk (below_drew1 HB.out)
                      clear HO_3
                      clear BK230
                      clear BK239
                      clear HB
                      have HO_3 := n0_
                      have BK230 := n1_
                      have BK239 := n2_
                      have HB := n3_
                      clear n0_ n1_ n2_ n3_
                      have p245 : 0 ≤ (((rd_T73 l0_1 x28_2).f1) : Int) := of_decide_eq_true (by first | (with_reducible assumption) | assumption)
                      have q245 : ((rd_T73 l0_1 x28_2).f1) < (x3_25.length : Int) := of_decide_eq_true (by first | (with_reducible assumption) | assumption)
                      obtain ⟨ad245, A245_0, c245_0, e245, hx245_0, hl245_0, hi245_0⟩ := at_L4 (Kd.S_reads' HO_3.out).2.2 ((rd_T73 l0_1 x28_2).f1) p245 q245
                      cases e245
                      obtain ⟨ce245, hce245, hMe245, hcc245⟩ := Kd.S_get HO_3.out [] ((rd_T73 l0_1 x28_2).f1) p245 (by first | exact q245 | exact of_decide_eq_true (by first | (with_reducible assumption) | assumption) | (have e_ := (Kd.S_reads' HO_3.out).1; omega))
                      obtain ⟨ve245_0, rfl, ge245_0⟩ := hMe245
                      have hv245_0 := hcc245 0 _ rfl
                      rw [Nat.add_zero, show ((Kd.slice 3 (Kd.int .i64))).sz = 1 from rfl, Nat.mul_one] at hv245_0
                      replace hv245_0 := Option.some.inj (hv245_0.symm.trans hx245_0)
                      rw [hv245_0] at ge245_0
                      have HL245_0 := Aside0.mk (show Kd.R (Kd.int .i64) 3 _ _ _ _ (rd_L4 x3_25 ((rd_T73 l0_1 x28_2).f1)) from ge245_0)
                      clear hv245_0 ge245_0
                      have HX245_0 := Aside0.mk hx245_0
                      clear hcc245 hce245
                      have HR245_0 := Aside0.mk hi245_0
                      have HC245_0 := Aside0.mk hl245_0
                      clear hi245_0 hl245_0
                      replace p245 := eq_true p245
                      replace q245 := eq_true q245
                      have p246 : 0 ≤ (((rd_T73 l0_1 x28_2).f1) : Int) := of_decide_eq_true (by first | (with_reducible assumption) | assumption)
                      have q246 : ((rd_T73 l0_1 x28_2).f1) < ((rd_L4 x3_25 ((rd_T73 l0_1 x28_2).f1)).length : Int) := of_decide_eq_true (by first | (with_reducible assumption) | assumption)
                      obtain ⟨ad246, e246, hx246_0⟩ := Kd.at_int (by repeat (first | (with_reducible exact HR245_0.out) | (with_reducible refine Kd.C_alloc ?_ _) | (with_reducible refine Kd.C_drewN ?_ _) | (with_reducible refine Kd.C_drew ?_) | exact HR245_0.out)) ((rd_T73 l0_1 x28_2).f1) p246 q246
                      cases e246
                      replace p246 := eq_true p246
                      replace q246 := eq_true q246
                      have p44 : 0 ≤ (((rd_T73 l0_1 x28_2).f1) : Int) := of_decide_eq_true (by first | (with_reducible assumption) | assumption)
                      have q44 : (((rd_T73 l0_1 x28_2).f1) : Int) < (((rd_L4 x3_25 ((rd_T73 l0_1 x28_2).f1)).length : Int) : Int) := of_decide_eq_true (by first | (with_reducible assumption) | assumption)
                      obtain ⟨go44, co44, eo44, gb44, gl44, cl44, HG44⟩ := Kd.R_form HL245_0.out (by omega)
                      (first | cases eo44 | (injection eo44 with ea_ en_ ec_; (first | subst ea_ | (injection ea_ with ea_; subst ea_)); subst ec_; clear en_))
                      have GB44 := Aside0.mk gb44
                      have GG44 := Aside0.mk HG44
                      clear gb44 gl44 HG44
                      (first | simp only [add_plain] at hx246_0 | skip)
                      obtain ⟨hx44_0, hf44_0⟩ := Kd.R_celln 0 HL245_0.out (((rd_T73 l0_1 x28_2).f1) : Int) p44 q44
                      replace p44 := eq_true p44
                      replace q44 := eq_true q44
                      have hq55 : (((rd_T73 l0_1 x28_2).f1) : Int) < (x3_25.length : Int) := (by have h_ : (((rd_T73 l0_1 x28_2).f1) : Int) < ((x3_25.length : Int) : Int) := of_decide_eq_true (by first | (with_reducible assumption) | assumption); first | exact h_ | (have e_ := (Kd.S_reads' HO_3.out).1; omega) | simpa only [List.length_set, List.length_set] using h_)
                      obtain ⟨oki55, ce55, hcl55, hM55, hcc55, hok55, hbk55⟩ := Kd.S_borrow HO_3.out [] (((rd_T73 l0_1 x28_2).f1) : Int) (of_decide_eq_true (by first | (with_reducible assumption) | assumption)) (by first | exact hq55 | (have e_ := (Kd.S_reads' HO_3.out).1; omega))
                      obtain ⟨ve55_0, rfl, ge55_0⟩ := hM55
                      have hv55 := hcc55 0 _ rfl
                      rw [Nat.add_zero, show ((Kd.slice 3 (Kd.int .i64))).sz = 1 from rfl, Nat.mul_one] at hv55
                      replace hv55 := Option.some.inj (hv55.symm.trans HX245_0.out)
                      subst hv55
                      clear hcc55 hcl55
                      replace ge55_0 := (show Kd.R (Kd.int .i64) 3 _ _ _ _ (rd_L4 x3_25 ((rd_T73 l0_1 x28_2).f1)) from ge55_0)
                      have HP55 := Kd.R_putg ge55_0 (((rd_T73 l0_1 x28_2).f1) : Int) (wrap64 ((rd (rd_L4 x3_25 ((rd_T73 l0_1 x28_2).f1)) ((rd_T73 l0_1 x28_2).f1)) + 1))
                      rw [← Ny247.out] at HP55
                      have HS55 := hbk55 HP55.2 (fun k_ e_ => by injection e_ with e_; subst e_; exact ge55_0.1 _ rfl) (x' := y247) (Kd.M_row HP55.1)
                      rw [← Ny249.out] at HS55
                      have HQ55 := Aside0.mk HS55
                      clear HP55 HS55 hbk55 hok55
                      refine start_ (n := 12) (S := fun w' => w'.cell? ⟨gb239, 0, none⟩ = some (.int .i64 ((rd_T73 l0_1 x28_2).f0)) ∧ w'.cell? ⟨gb239, 1, none⟩ = some (.int .i64 ((rd_T73 l0_1 x28_2).f1)) ∧ w'.cell? (ad245.add (((rd_T73 l0_1 x28_2).f1)).toNat) = some (.slice (some ⟨go44, 0, none⟩) (rd_L4 x3_25 ((rd_T73 l0_1 x28_2).f1)).length c245_0) ∧ w'.cell? ⟨go44, (((rd_T73 l0_1 x28_2).f1)).toNat, none⟩ = some (.int .i64 (rd (rd_L4 x3_25 ((rd_T73 l0_1 x28_2).f1)) ((rd_T73 l0_1 x28_2).f1)))) (ds := [11]) #[false, false, false, false, false, false, false, false, false, false, false, false] (by kernel_rfl) rfl rfl ⟨(blk_cell BK239.out 0).trans rfl, (blk_cell BK239.out 1).trans rfl, hx245_0, hx246_0⟩ (fun hHeld => ?_); refine with_tabW impl_Net_laplacian.tab14 impl_Net_laplacian.bits14 (fun HT_ HW_ => ?_)
                      generalize wc.drew = w54 at HO_3 BK230 BK239 HB GG44 HL245_0 HQ55 HR245_0 HX245_0 hf44_0 hx245_0 hx246_0 hx44_0 hHeld ⊢
                      refine pure_ (i := 0) (N := some 54) (v := ?_) (a' := ?_) #[true, false, false, false, false, false, false, false, false, false, false, false] rfl rfl (any_of HT_.out (by kernel_rfl)) (fun _ _ _ h => h) (Or.inl ⟨by rfl, ?_⟩) ?_ ?_
                      rotate_left
                      ·intro w'
                       go_simp
                       with_reducible rfl
                      rotate_left
                      ·simp only [Act.put, List.setIfInBounds_toArray, List.set_cons_zero, List.set_cons_succ, i64_w, i32_w]
                       rfl
                      refine pure_ (i := 1) (N := some 55) (v := ?_) (a' := ?_) #[true, true, false, false, false, false, false, false, false, false, false, false] rfl rfl (any_of HT_.out (by kernel_rfl)) (fun _ _ _ h => h) (Or.inl ⟨by rfl, ?_⟩) ?_ ?_
                      rotate_left
                      ·intro w'
                       go_simp
                       with_reducible rfl
                      rotate_left
                      ·simp only [Act.put, List.setIfInBounds_toArray, List.set_cons_zero, List.set_cons_succ, i64_w, i32_w]
                       rfl
                      refine pure_ (i := 5) (N := some 59) (v := ?_) (a' := ?_) #[true, true, false, false, false, true, false, false, false, false, false, false] rfl rfl (any_of HT_.out (by kernel_rfl)) (fun _ _ _ h => h) (Or.inl ⟨by rfl, ?_⟩) ?_ ?_
                      rotate_left
                      ·intro w'
                       go_simp
                       with_reducible rfl
                      rotate_left
                      ·simp only [Act.put, List.setIfInBounds_toArray, List.set_cons_zero, List.set_cons_succ, i64_w, i32_w]
                       rfl
                      refine take_ (i := 2) (N := some 56) (v := ?_) (a' := ?_) #[true, true, true, false, false, true, false, false, false, false, false, false] rfl rfl (take_ofW HT_.out HW_.out (by kernel_rfl)) (fun _ _ _ h => h) (Or.inl ⟨by rfl, ?_⟩) hHeld ?_ ?_
                      rotate_left
                      ·rintro w' ⟨s0, s1, s2, s3⟩
                       go_simp
                       with_reducible rfl
                      rotate_left
                      ·simp only [Act.put, List.setIfInBounds_toArray, List.set_cons_zero, List.set_cons_succ, i64_w, i32_w]
                       rfl
                      refine pure_ (i := 3) (N := some 57) (v := ?_) (a' := ?_) #[true, true, true, true, false, true, false, false, false, false, false, false] rfl rfl (any_of HT_.out (by kernel_rfl)) (fun _ _ _ h => h) (Or.inl ⟨by rfl, ?_⟩) ?_ ?_
                      rotate_left
                      ·intro w'
                       go_simp
                       with_reducible rfl
                      rotate_left
                      ·simp only [Act.put, List.setIfInBounds_toArray, List.set_cons_zero, List.set_cons_succ, i64_w, i32_w]
                       rfl
                      refine take_ (i := 4) (N := some 58) (v := ?_) (a' := ?_) #[true, true, true, true, true, true, false, false, false, false, false, false] rfl rfl (take_ofW HT_.out HW_.out (by kernel_rfl)) (fun _ _ _ h => h) (Or.inl ⟨by rfl, ?_⟩) hHeld ?_ ?_
                      rotate_left
                      ·rintro w' ⟨s0, s1, s2, s3⟩
                       go_simp
                       with_reducible rfl
                      rotate_left
                      ·simp only [Act.put, List.setIfInBounds_toArray, List.set_cons_zero, List.set_cons_succ, i64_w, i32_w]
                       rfl
                      refine take_ (i := 6) (N := some 60) (v := ?_) (a' := ?_) #[true, true, true, true, true, true, true, false, false, false, false, false] rfl rfl (take_ofW HT_.out HW_.out (by kernel_rfl)) (fun _ _ _ h => h) (Or.inl ⟨by rfl, ?_⟩) hHeld ?_ ?_
                      rotate_left
                      ·rintro w' ⟨s0, s1, s2, s3⟩
                       go_simp
                       with_reducible rfl
                      rotate_left
                      ·simp only [Act.put, List.setIfInBounds_toArray, List.set_cons_zero, List.set_cons_succ, i64_w, i32_w]
                       rfl
                      refine pure_ (i := 7) (N := some 61) (v := ?_) (a' := ?_) #[true, true, true, true, true, true, true, true, false, false, false, false] rfl rfl (any_of HT_.out (by kernel_rfl)) (fun _ _ _ h => h) (Or.inl ⟨by rfl, ?_⟩) ?_ ?_
                      rotate_left
                      ·intro w'
                       go_simp
                       with_reducible rfl
                      rotate_left
                      ·simp only [Act.put, List.setIfInBounds_toArray, List.set_cons_zero, List.set_cons_succ, i64_w, i32_w]
                       rfl
                      refine take_ (i := 8) (N := some 62) (v := ?_) (a' := ?_) #[true, true, true, true, true, true, true, true, true, false, false, false] rfl rfl (take_ofW HT_.out HW_.out (by kernel_rfl)) (fun _ _ _ h => h) (Or.inl ⟨by rfl, ?_⟩) hHeld ?_ ?_
                      rotate_left
                      ·rintro w' ⟨s0, s1, s2, s3⟩
                       go_simp
                       with_reducible rfl
                      rotate_left
                      ·simp only [Act.put, List.setIfInBounds_toArray, List.set_cons_zero, List.set_cons_succ, i64_w, i32_w]
                       rfl
                      refine pure_ (i := 9) (N := some 63) (v := ?_) (a' := ?_) #[true, true, true, true, true, true, true, true, true, true, false, false] rfl rfl (any_of HT_.out (by kernel_rfl)) (fun _ _ _ h => h) (Or.inl ⟨by rfl, ?_⟩) ?_ ?_
                      rotate_left
                      ·intro w'
                       go_simp
                       with_reducible rfl
                      rotate_left
                      ·simp only [Act.put, List.setIfInBounds_toArray, List.set_cons_zero, List.set_cons_succ, i64_w, i32_w]
                       rfl
                      refine pure_ (i := 10) (N := some 64) (v := ?_) (a' := ?_) #[true, true, true, true, true, true, true, true, true, true, true, false] rfl rfl (any_of HT_.out (by kernel_rfl)) (fun _ _ _ h => h) (Or.inl ⟨by rfl, ?_⟩) ?_ ?_
                      rotate_left
                      ·intro w'
                       go_simp
                       with_reducible rfl
                      rotate_left
                      ·simp only [Act.put, List.setIfInBounds_toArray, List.set_cons_zero, List.set_cons_succ, i64_w, i32_w]
                       rfl
                      refine last_ (i := 11) (N := none) #[true, true, true, true, true, true, true, true, true, true, true, true] rfl rfl (one_of HT_.out (by kernel_rfl)) (by decide) (fun K hK => ?_)
                      refine skip_ (w1 := ?_) (by rfl) rfl ?_ ?_
                      rotate_left
                      ·go_simp
                       rfl
                      refine hK.out _ _ ?_
                      clear hK K
                      refine done_ (done_of HT_.out (by kernel_rfl)) ?_
                      have n0_ : Aside0 (Kd.S (Kd.slice 3 (Kd.int .i64)) 36 (w54.setCell ⟨go44, (((rd_T73 l0_1 x28_2).f1) : Int).toNat, none⟩ (.int .i64 (wrap64 ((rd (rd_L4 x3_25 ((rd_T73 l0_1 x28_2).f1)) ((rd_T73 l0_1 x28_2).f1)) + 1)))) w.heap.size (fun _ => True) (.slice (some ad245) x3_25.length co9) y249) := ⟨by (with_reducible repeat (first | apply Kd.S_alloc | apply Kd.S_drewN | apply Kd.S_drew)); exact HQ55.out⟩
                      have n1_ : Aside0 ((w54.setCell ⟨go44, (((rd_T73 l0_1 x28_2).f1) : Int).toNat, none⟩ (.int .i64 (wrap64 ((rd (rd_L4 x3_25 ((rd_T73 l0_1 x28_2).f1)) ((rd_T73 l0_1 x28_2).f1)) + 1)))).heap[gb230]? = some (.cells #[.int .i64 a0_0, .slice (some ad238) l0_1.length c0_1] 30 (0, 0))) := ⟨by (with_reducible repeat (first | refine blk_drewN ?_ _ | refine blk_drew ?_ | refine blk_alloc ?_ _)); refine blk_far ?_ (by have h_ := Kd.R_ne HL245_0.out BK230.out (by decide); intro e_; exact h_ (by rw [e_]; rfl)) _; (with_reducible repeat (first | refine blk_drewN ?_ _ | refine blk_drew ?_ | refine blk_alloc ?_ _)); exact BK230.out⟩
                      have n2_ : Aside0 ((w54.setCell ⟨go44, (((rd_T73 l0_1 x28_2).f1) : Int).toNat, none⟩ (.int .i64 (wrap64 ((rd (rd_L4 x3_25 ((rd_T73 l0_1 x28_2).f1)) ((rd_T73 l0_1 x28_2).f1)) + 1)))).heap[gb239]? = some (.cells #[.int .i64 ((rd_T73 l0_1 x28_2).f0), .int .i64 ((rd_T73 l0_1 x28_2).f1)] 73 (0, 0))) := ⟨by (with_reducible repeat (first | refine blk_drewN ?_ _ | refine blk_drew ?_ | refine blk_alloc ?_ _)); refine blk_far ?_ (by have h_ := Kd.R_ne HL245_0.out BK239.out (by decide); intro e_; exact h_ (by rw [e_]; rfl)) _; (with_reducible repeat (first | refine blk_drewN ?_ _ | refine blk_drew ?_ | refine blk_alloc ?_ _)); exact BK239.out⟩
                      have n3_ : Aside0 (Below w.heap.size w (w54.setCell ⟨go44, (((rd_T73 l0_1 x28_2).f1) : Int).toNat, none⟩ (.int .i64 (wrap64 ((rd (rd_L4 x3_25 ((rd_T73 l0_1 x28_2).f1)) ((rd_T73 l0_1 x28_2).f1)) + 1))))) := ⟨by repeat (first | (with_reducible first | exact HB.out | apply below_alloc | apply pw_below_drewN | apply below_drew1 | refine below_set ?_ GB44.out | refine below_set ?_ GE230.out | refine below_set ?_ GE239.out) | exact HB.out)⟩
                      (try clear HO_3)
                      (try clear BK230)
                      (try clear BK239)
                      (try clear HB)
                      (try simp only [drewN_setCell])
                      generalize (w54.setCell ⟨go44, (((rd_T73 l0_1 x28_2).f1) : Int).toNat, none⟩ (.int .i64 (wrap64 ((rd (rd_L4 x3_25 ((rd_T73 l0_1 x28_2).f1)) ((rd_T73 l0_1 x28_2).f1)) + 1)))) = w58 at n0_ n1_ n2_ n3_ ⊢
                      have HO_3 := n0_
                      have BK230 := n1_
                      have BK239 := n2_
                      have HB := n3_
                      clear n0_ n1_ n2_ n3_
                      have hcz57_0 : w58.cell? ⟨gb239, 0, none⟩ = some (.int .i64 ((rd_T73 l0_1 x28_2).f0)) := (blk_cell BK239.out 0).trans rfl
                      have hcz57_1 : w58.cell? ⟨gb239, 1, none⟩ = some (.int .i64 ((rd_T73 l0_1 x28_2).f1)) := (blk_cell BK239.out 1).trans rfl
                      have hfz57_0 := blk_frozen BK239.out 0
                      have hfz57_1 := blk_frozen BK239.out 1
                      try go_wp2
                      have n0_ := Aside0.mk (Kd.S_drew HO_3.out)
                      have n1_ := Aside0.mk (blk_drew BK230.out)
                      have n2_ := Aside0.mk (blk_drew BK239.out)
                      have n3_ := Aside0.mk (below_drew1 HB.out)
                      clear HO_3
                      clear BK230
                      clear BK239
                      clear HB
                      have HO_3 := n0_
                      have BK230 := n1_
                      have BK239 := n2_
                      have HB := n3_
                      clear n0_ n1_ n2_ n3_
                      have p250 : 0 ≤ (((rd_T73 l0_1 x28_2).f0) : Int) := of_decide_eq_true (by first | (with_reducible assumption) | assumption)
                      have q250 : ((rd_T73 l0_1 x28_2).f0) < (y249.length : Int) := (by have h_ : (((rd_T73 l0_1 x28_2).f0) : Int) < ((x3_25.length : Int) : Int) := of_decide_eq_true (by first | (with_reducible assumption) | assumption); first | (have e_ := (Kd.S_reads' HO_3.out).1; omega) | simpa only [Ny249.out, List.length_set] using h_)
                      have ql250 : ((((rd_T73 l0_1 x28_2).f0) : Int) < ((x3_25.length : Int) : Int)) = True := eq_true (of_decide_eq_true (by first | (with_reducible assumption) | assumption))
                      obtain ⟨ad250, A250_0, c250_0, e250, hx250_0, hl250_0, hi250_0⟩ := at_L4 (Kd.S_reads' HO_3.out).2.2 ((rd_T73 l0_1 x28_2).f0) p250 q250
                      obtain rfl : ad245 = ad250 := (by injection e250)
                      obtain ⟨ce250, hce250, hMe250, hcc250⟩ := Kd.S_get HO_3.out [] ((rd_T73 l0_1 x28_2).f0) p250 (by first | exact q250 | exact of_decide_eq_true (by first | (with_reducible assumption) | assumption) | (have e_ := (Kd.S_reads' HO_3.out).1; omega))
                      obtain ⟨ve250_0, rfl, ge250_0⟩ := hMe250
                      have hv250_0 := hcc250 0 _ rfl
                      rw [Nat.add_zero, show ((Kd.slice 3 (Kd.int .i64))).sz = 1 from rfl, Nat.mul_one] at hv250_0
                      replace hv250_0 := Option.some.inj (hv250_0.symm.trans hx250_0)
                      rw [hv250_0] at ge250_0
                      have HL250_0 := Aside0.mk (show Kd.R (Kd.int .i64) 3 _ _ _ _ (rd_L4 y249 ((rd_T73 l0_1 x28_2).f0)) from ge250_0)
                      clear hv250_0 ge250_0
                      have HX250_0 := Aside0.mk hx250_0
                      clear hcc250 hce250
                      have HR250_0 := Aside0.mk hi250_0
                      have HC250_0 := Aside0.mk hl250_0
                      clear hi250_0 hl250_0
                      replace p250 := eq_true p250
                      replace q250 := eq_true q250
                      have p251 : 0 ≤ (((rd_T73 l0_1 x28_2).f1) : Int) := of_decide_eq_true (by first | (with_reducible assumption) | assumption)
                      have q251 : ((rd_T73 l0_1 x28_2).f1) < ((rd_L4 y249 ((rd_T73 l0_1 x28_2).f0)).length : Int) := of_decide_eq_true (by first | (with_reducible assumption) | assumption)
                      obtain ⟨ad251, e251, hx251_0⟩ := Kd.at_int (by repeat (first | (with_reducible exact HR250_0.out) | (with_reducible refine Kd.C_alloc ?_ _) | (with_reducible refine Kd.C_drewN ?_ _) | (with_reducible refine Kd.C_drew ?_) | exact HR250_0.out)) ((rd_T73 l0_1 x28_2).f1) p251 q251
                      cases e251
                      replace p251 := eq_true p251
                      replace q251 := eq_true q251
                      have p49 : 0 ≤ (((rd_T73 l0_1 x28_2).f1) : Int) := of_decide_eq_true (by first | (with_reducible assumption) | assumption)
                      have q49 : (((rd_T73 l0_1 x28_2).f1) : Int) < (((rd_L4 y249 ((rd_T73 l0_1 x28_2).f0)).length : Int) : Int) := of_decide_eq_true (by first | (with_reducible assumption) | assumption)
                      obtain ⟨go49, co49, eo49, gb49, gl49, cl49, HG49⟩ := Kd.R_form HL250_0.out (by omega)
                      (first | cases eo49 | (injection eo49 with ea_ en_ ec_; (first | subst ea_ | (injection ea_ with ea_; subst ea_)); subst ec_; clear en_))
                      have GB49 := Aside0.mk gb49
                      have GG49 := Aside0.mk HG49
                      clear gb49 gl49 HG49
                      (first | simp only [add_plain] at hx251_0 | skip)
                      obtain ⟨hx49_0, hf49_0⟩ := Kd.R_celln 0 HL250_0.out (((rd_T73 l0_1 x28_2).f1) : Int) p49 q49
                      replace p49 := eq_true p49
                      replace q49 := eq_true q49
                      have hq60 : (((rd_T73 l0_1 x28_2).f0) : Int) < (y249.length : Int) := (by have h_ : (((rd_T73 l0_1 x28_2).f0) : Int) < ((x3_25.length : Int) : Int) := of_decide_eq_true (by first | (with_reducible assumption) | assumption); first | exact h_ | (have e_ := (Kd.S_reads' HO_3.out).1; omega) | simpa only [Ny249.out, List.length_set] using h_)
                      obtain ⟨oki60, ce60, hcl60, hM60, hcc60, hok60, hbk60⟩ := Kd.S_borrow HO_3.out [] (((rd_T73 l0_1 x28_2).f0) : Int) (of_decide_eq_true (by first | (with_reducible assumption) | assumption)) (by first | exact hq60 | (have e_ := (Kd.S_reads' HO_3.out).1; omega))
                      obtain ⟨ve60_0, rfl, ge60_0⟩ := hM60
                      have hv60 := hcc60 0 _ rfl
                      rw [Nat.add_zero, show ((Kd.slice 3 (Kd.int .i64))).sz = 1 from rfl, Nat.mul_one] at hv60
                      replace hv60 := Option.some.inj (hv60.symm.trans HX250_0.out)
                      subst hv60
                      clear hcc60 hcl60
                      replace ge60_0 := (show Kd.R (Kd.int .i64) 3 _ _ _ _ (rd_L4 y249 ((rd_T73 l0_1 x28_2).f0)) from ge60_0)
                      have HP60 := Kd.R_putg ge60_0 (((rd_T73 l0_1 x28_2).f1) : Int) (wrap64 ((rd (rd_L4 y249 ((rd_T73 l0_1 x28_2).f0)) ((rd_T73 l0_1 x28_2).f1)) - 1))
                      rw [← Ny252.out] at HP60
                      have HS60 := hbk60 HP60.2 (fun k_ e_ => by injection e_ with e_; subst e_; exact ge60_0.1 _ rfl) (x' := y252) (Kd.M_row HP60.1)
                      rw [← Ny254.out] at HS60
                      have HQ60 := Aside0.mk HS60
                      clear HP60 HS60 hbk60 hok60
                      refine start_ (n := 12) (S := fun w' => w'.cell? ⟨gb239, 0, none⟩ = some (.int .i64 ((rd_T73 l0_1 x28_2).f0)) ∧ w'.cell? ⟨gb239, 1, none⟩ = some (.int .i64 ((rd_T73 l0_1 x28_2).f1)) ∧ w'.cell? (ad245.add (((rd_T73 l0_1 x28_2).f0)).toNat) = some (.slice (some ⟨go49, 0, none⟩) (rd_L4 y249 ((rd_T73 l0_1 x28_2).f0)).length c250_0) ∧ w'.cell? ⟨go49, (((rd_T73 l0_1 x28_2).f1)).toNat, none⟩ = some (.int .i64 (rd (rd_L4 y249 ((rd_T73 l0_1 x28_2).f0)) ((rd_T73 l0_1 x28_2).f1)))) (ds := [11]) #[false, false, false, false, false, false, false, false, false, false, false, false] (by kernel_rfl) rfl rfl ⟨(blk_cell BK239.out 0).trans rfl, (blk_cell BK239.out 1).trans rfl, hx250_0, hx251_0⟩ (fun hHeld => ?_); refine with_tabW impl_Net_laplacian.tab16 impl_Net_laplacian.bits16 (fun HT_ HW_ => ?_)
                      generalize w58.drew = w59 at HO_3 BK230 BK239 HB GG49 HL250_0 HQ55 HQ60 HR250_0 HX250_0 hf49_0 hx250_0 hx251_0 hx49_0 hHeld ⊢
                      refine pure_ (i := 0) (N := some 75) (v := ?_) (a' := ?_) #[true, false, false, false, false, false, false, false, false, false, false, false] rfl rfl (any_of HT_.out (by kernel_rfl)) (fun _ _ _ h => h) (Or.inl ⟨by rfl, ?_⟩) ?_ ?_
                      rotate_left
                      ·intro w'
                       go_simp
                       with_reducible rfl
                      rotate_left
                      ·simp only [Act.put, List.setIfInBounds_toArray, List.set_cons_zero, List.set_cons_succ, i64_w, i32_w]
                       rfl
                      refine pure_ (i := 1) (N := some 76) (v := ?_) (a' := ?_) #[true, true, false, false, false, false, false, false, false, false, false, false] rfl rfl (any_of HT_.out (by kernel_rfl)) (fun _ _ _ h => h) (Or.inl ⟨by rfl, ?_⟩) ?_ ?_
                      rotate_left
                      ·intro w'
                       go_simp
                       with_reducible rfl
                      rotate_left
                      ·simp only [Act.put, List.setIfInBounds_toArray, List.set_cons_zero, List.set_cons_succ, i64_w, i32_w]
                       rfl
                      refine pure_ (i := 5) (N := some 80) (v := ?_) (a' := ?_) #[true, true, false, false, false, true, false, false, false, false, false, false] rfl rfl (any_of HT_.out (by kernel_rfl)) (fun _ _ _ h => h) (Or.inl ⟨by rfl, ?_⟩) ?_ ?_
                      rotate_left
                      ·intro w'
                       go_simp
                       with_reducible rfl
                      rotate_left
                      ·simp only [Act.put, List.setIfInBounds_toArray, List.set_cons_zero, List.set_cons_succ, i64_w, i32_w]
                       rfl
                      refine take_ (i := 2) (N := some 77) (v := ?_) (a' := ?_) #[true, true, true, false, false, true, false, false, false, false, false, false] rfl rfl (take_ofW HT_.out HW_.out (by kernel_rfl)) (fun _ _ _ h => h) (Or.inl ⟨by rfl, ?_⟩) hHeld ?_ ?_
                      rotate_left
                      ·rintro w' ⟨s0, s1, s2, s3⟩
                       go_simp
                       with_reducible rfl
                      rotate_left
                      ·simp only [Act.put, List.setIfInBounds_toArray, List.set_cons_zero, List.set_cons_succ, i64_w, i32_w]
                       rfl
                      refine pure_ (i := 3) (N := some 78) (v := ?_) (a' := ?_) #[true, true, true, true, false, true, false, false, false, false, false, false] rfl rfl (any_of HT_.out (by kernel_rfl)) (fun _ _ _ h => h) (Or.inl ⟨by rfl, ?_⟩) ?_ ?_
                      rotate_left
                      ·intro w'
                       go_simp
                       with_reducible rfl
                      rotate_left
                      ·simp only [Act.put, List.setIfInBounds_toArray, List.set_cons_zero, List.set_cons_succ, i64_w, i32_w]
                       rfl
                      refine take_ (i := 4) (N := some 79) (v := ?_) (a' := ?_) #[true, true, true, true, true, true, false, false, false, false, false, false] rfl rfl (take_ofW HT_.out HW_.out (by kernel_rfl)) (fun _ _ _ h => h) (Or.inl ⟨by rfl, ?_⟩) hHeld ?_ ?_
                      rotate_left
                      ·rintro w' ⟨s0, s1, s2, s3⟩
                       go_simp
                       with_reducible rfl
                      rotate_left
                      ·simp only [Act.put, List.setIfInBounds_toArray, List.set_cons_zero, List.set_cons_succ, i64_w, i32_w]
                       rfl
                      refine take_ (i := 6) (N := some 81) (v := ?_) (a' := ?_) #[true, true, true, true, true, true, true, false, false, false, false, false] rfl rfl (take_ofW HT_.out HW_.out (by kernel_rfl)) (fun _ _ _ h => h) (Or.inl ⟨by rfl, ?_⟩) hHeld ?_ ?_
                      rotate_left
                      ·rintro w' ⟨s0, s1, s2, s3⟩
                       go_simp
                       with_reducible rfl
                      rotate_left
                      ·simp only [Act.put, List.setIfInBounds_toArray, List.set_cons_zero, List.set_cons_succ, i64_w, i32_w]
                       rfl
                      refine pure_ (i := 7) (N := some 82) (v := ?_) (a' := ?_) #[true, true, true, true, true, true, true, true, false, false, false, false] rfl rfl (any_of HT_.out (by kernel_rfl)) (fun _ _ _ h => h) (Or.inl ⟨by rfl, ?_⟩) ?_ ?_
                      rotate_left
                      ·intro w'
                       go_simp
                       with_reducible rfl
                      rotate_left
                      ·simp only [Act.put, List.setIfInBounds_toArray, List.set_cons_zero, List.set_cons_succ, i64_w, i32_w]
                       rfl
                      refine take_ (i := 8) (N := some 83) (v := ?_) (a' := ?_) #[true, true, true, true, true, true, true, true, true, false, false, false] rfl rfl (take_ofW HT_.out HW_.out (by kernel_rfl)) (fun _ _ _ h => h) (Or.inl ⟨by rfl, ?_⟩) hHeld ?_ ?_
                      rotate_left
                      ·rintro w' ⟨s0, s1, s2, s3⟩
                       go_simp
                       with_reducible rfl
                      rotate_left
                      ·simp only [Act.put, List.setIfInBounds_toArray, List.set_cons_zero, List.set_cons_succ, i64_w, i32_w]
                       rfl
                      refine pure_ (i := 9) (N := some 84) (v := ?_) (a' := ?_) #[true, true, true, true, true, true, true, true, true, true, false, false] rfl rfl (any_of HT_.out (by kernel_rfl)) (fun _ _ _ h => h) (Or.inl ⟨by rfl, ?_⟩) ?_ ?_
                      rotate_left
                      ·intro w'
                       go_simp
                       with_reducible rfl
                      rotate_left
                      ·simp only [Act.put, List.setIfInBounds_toArray, List.set_cons_zero, List.set_cons_succ, i64_w, i32_w]
                       rfl
                      refine pure_ (i := 10) (N := some 85) (v := ?_) (a' := ?_) #[true, true, true, true, true, true, true, true, true, true, true, false] rfl rfl (any_of HT_.out (by kernel_rfl)) (fun _ _ _ h => h) (Or.inl ⟨by rfl, ?_⟩) ?_ ?_
                      rotate_left
                      ·intro w'
                       go_simp
                       with_reducible rfl
                      rotate_left
                      ·simp only [Act.put, List.setIfInBounds_toArray, List.set_cons_zero, List.set_cons_succ, i64_w, i32_w]
                       rfl
                      refine last_ (i := 11) (N := none) #[true, true, true, true, true, true, true, true, true, true, true, true] rfl rfl (one_of HT_.out (by kernel_rfl)) (by decide) (fun K hK => ?_)
                      refine skip_ (w1 := ?_) (by rfl) rfl ?_ ?_
                      rotate_left
                      ·go_simp
                       rfl
                      refine hK.out _ _ ?_
                      clear hK K
                      refine done_ (done_of HT_.out (by kernel_rfl)) ?_
                      try go_wp2
                      have n0_ : Aside0 (Kd.S (Kd.slice 3 (Kd.int .i64)) 36 (w59.setCell ⟨go49, (((rd_T73 l0_1 x28_2).f1) : Int).toNat, none⟩ (.int .i64 (wrap64 ((rd (rd_L4 y249 ((rd_T73 l0_1 x28_2).f0)) ((rd_T73 l0_1 x28_2).f1)) - 1)))) w.heap.size (fun _ => True) (.slice (some ad245) x3_25.length co9) y254) := ⟨by (with_reducible repeat (first | apply Kd.S_alloc | apply Kd.S_drewN | apply Kd.S_drew)); exact HQ60.out⟩
                      have n1_ : Aside0 ((w59.setCell ⟨go49, (((rd_T73 l0_1 x28_2).f1) : Int).toNat, none⟩ (.int .i64 (wrap64 ((rd (rd_L4 y249 ((rd_T73 l0_1 x28_2).f0)) ((rd_T73 l0_1 x28_2).f1)) - 1)))).heap[gb230]? = some (.cells #[.int .i64 a0_0, .slice (some ad238) l0_1.length c0_1] 30 (0, 0))) := ⟨by (with_reducible repeat (first | refine blk_drewN ?_ _ | refine blk_drew ?_ | refine blk_alloc ?_ _)); refine blk_far ?_ (by have h_ := Kd.R_ne HL250_0.out BK230.out (by decide); intro e_; exact h_ (by rw [e_]; rfl)) _; (with_reducible repeat (first | refine blk_drewN ?_ _ | refine blk_drew ?_ | refine blk_alloc ?_ _)); exact BK230.out⟩
                      have n2_ : Aside0 ((w59.setCell ⟨go49, (((rd_T73 l0_1 x28_2).f1) : Int).toNat, none⟩ (.int .i64 (wrap64 ((rd (rd_L4 y249 ((rd_T73 l0_1 x28_2).f0)) ((rd_T73 l0_1 x28_2).f1)) - 1)))).heap[gb239]? = some (.cells #[.int .i64 ((rd_T73 l0_1 x28_2).f0), .int .i64 ((rd_T73 l0_1 x28_2).f1)] 73 (0, 0))) := ⟨by (with_reducible repeat (first | refine blk_drewN ?_ _ | refine blk_drew ?_ | refine blk_alloc ?_ _)); refine blk_far ?_ (by have h_ := Kd.R_ne HL250_0.out BK239.out (by decide); intro e_; exact h_ (by rw [e_]; rfl)) _; (with_reducible repeat (first | refine blk_drewN ?_ _ | refine blk_drew ?_ | refine blk_alloc ?_ _)); exact BK239.out⟩
                      have n3_ : Aside0 (Below w.heap.size w (w59.setCell ⟨go49, (((rd_T73 l0_1 x28_2).f1) : Int).toNat, none⟩ (.int .i64 (wrap64 ((rd (rd_L4 y249 ((rd_T73 l0_1 x28_2).f0)) ((rd_T73 l0_1 x28_2).f1)) - 1))))) := ⟨by repeat (first | (with_reducible first | exact HB.out | apply below_alloc | apply pw_below_drewN | apply below_drew1 | refine below_set ?_ GB49.out | refine below_set ?_ GE230.out | refine below_set ?_ GE239.out) | exact HB.out)⟩
                      (try clear HO_3)
                      (try clear BK230)
                      (try clear BK239)
                      (try clear HB)
                      (try simp only [drewN_setCell])
                      generalize (w59.setCell ⟨go49, (((rd_T73 l0_1 x28_2).f1) : Int).toNat, none⟩ (.int .i64 (wrap64 ((rd (rd_L4 y249 ((rd_T73 l0_1 x28_2).f0)) ((rd_T73 l0_1 x28_2).f1)) - 1)))) = w62 at n0_ n1_ n2_ n3_ ⊢
                      have HO_3 := n0_
                      have BK230 := n1_
                      have BK239 := n2_
                      have HB := n3_
                      clear n0_ n1_ n2_ n3_
                      have n0_ := Aside0.mk (Kd.S_drew HO_3.out)
                      have n1_ := Aside0.mk (blk_drew BK230.out)
                      have n2_ := Aside0.mk (blk_drew BK239.out)
                      have n3_ := Aside0.mk (below_drew1 HB.out)
                      clear HO_3
                      clear BK230
                      clear BK239
                      clear HB
                      have HO_3 := n0_
                      have BK230 := n1_
                      have BK239 := n2_
                      have HB := n3_
                      clear n0_ n1_ n2_ n3_
                      have p255 : 0 ≤ (((rd_T73 l0_1 x28_2).f1) : Int) := of_decide_eq_true (by first | (with_reducible assumption) | assumption)
                      have q255 : ((rd_T73 l0_1 x28_2).f1) < (y254.length : Int) := (by have h_ : (((rd_T73 l0_1 x28_2).f1) : Int) < ((x3_25.length : Int) : Int) := of_decide_eq_true (by first | (with_reducible assumption) | assumption); first | (have e_ := (Kd.S_reads' HO_3.out).1; omega) | simpa only [Ny249.out, Ny254.out, List.length_set] using h_)
                      have ql255 : ((((rd_T73 l0_1 x28_2).f1) : Int) < ((x3_25.length : Int) : Int)) = True := eq_true (of_decide_eq_true (by first | (with_reducible assumption) | assumption))
                      obtain ⟨ad255, A255_0, c255_0, e255, hx255_0, hl255_0, hi255_0⟩ := at_L4 (Kd.S_reads' HO_3.out).2.2 ((rd_T73 l0_1 x28_2).f1) p255 q255
                      obtain rfl : ad245 = ad255 := (by injection e255)
                      obtain ⟨ce255, hce255, hMe255, hcc255⟩ := Kd.S_get HO_3.out [] ((rd_T73 l0_1 x28_2).f1) p255 (by first | exact q255 | exact of_decide_eq_true (by first | (with_reducible assumption) | assumption) | (have e_ := (Kd.S_reads' HO_3.out).1; omega))
                      obtain ⟨ve255_0, rfl, ge255_0⟩ := hMe255
                      have hv255_0 := hcc255 0 _ rfl
                      rw [Nat.add_zero, show ((Kd.slice 3 (Kd.int .i64))).sz = 1 from rfl, Nat.mul_one] at hv255_0
                      replace hv255_0 := Option.some.inj (hv255_0.symm.trans hx255_0)
                      rw [hv255_0] at ge255_0
                      have HL255_0 := Aside0.mk (show Kd.R (Kd.int .i64) 3 _ _ _ _ (rd_L4 y254 ((rd_T73 l0_1 x28_2).f1)) from ge255_0)
                      clear hv255_0 ge255_0
                      have HX255_0 := Aside0.mk hx255_0
                      clear hcc255 hce255
                      have HR255_0 := Aside0.mk hi255_0
                      have HC255_0 := Aside0.mk hl255_0
                      clear hi255_0 hl255_0
                      replace p255 := eq_true p255
                      replace q255 := eq_true q255
                      have p256 : 0 ≤ (((rd_T73 l0_1 x28_2).f0) : Int) := of_decide_eq_true (by first | (with_reducible assumption) | assumption)
                      have q256 : ((rd_T73 l0_1 x28_2).f0) < ((rd_L4 y254 ((rd_T73 l0_1 x28_2).f1)).length : Int) := of_decide_eq_true (by first | (with_reducible assumption) | assumption)
                      obtain ⟨ad256, e256, hx256_0⟩ := Kd.at_int (by repeat (first | (with_reducible exact HR255_0.out) | (with_reducible refine Kd.C_alloc ?_ _) | (with_reducible refine Kd.C_drewN ?_ _) | (with_reducible refine Kd.C_drew ?_) | exact HR255_0.out)) ((rd_T73 l0_1 x28_2).f0) p256 q256
                      cases e256
                      replace p256 := eq_true p256
                      replace q256 := eq_true q256
                      have p51 : 0 ≤ (((rd_T73 l0_1 x28_2).f0) : Int) := of_decide_eq_true (by first | (with_reducible assumption) | assumption)
                      have q51 : (((rd_T73 l0_1 x28_2).f0) : Int) < (((rd_L4 y254 ((rd_T73 l0_1 x28_2).f1)).length : Int) : Int) := of_decide_eq_true (by first | (with_reducible assumption) | assumption)
                      obtain ⟨go51, co51, eo51, gb51, gl51, cl51, HG51⟩ := Kd.R_form HL255_0.out (by omega)
                      (first | cases eo51 | (injection eo51 with ea_ en_ ec_; (first | subst ea_ | (injection ea_ with ea_; subst ea_)); subst ec_; clear en_))
                      have GB51 := Aside0.mk gb51
                      have GG51 := Aside0.mk HG51
                      clear gb51 gl51 HG51
                      (first | simp only [add_plain] at hx256_0 | skip)
                      obtain ⟨hx51_0, hf51_0⟩ := Kd.R_celln 0 HL255_0.out (((rd_T73 l0_1 x28_2).f0) : Int) p51 q51
                      replace p51 := eq_true p51
                      replace q51 := eq_true q51
                      have hq64 : (((rd_T73 l0_1 x28_2).f1) : Int) < (y254.length : Int) := (by have h_ : (((rd_T73 l0_1 x28_2).f1) : Int) < ((x3_25.length : Int) : Int) := of_decide_eq_true (by first | (with_reducible assumption) | assumption); first | exact h_ | (have e_ := (Kd.S_reads' HO_3.out).1; omega) | simpa only [Ny249.out, Ny254.out, List.length_set] using h_)
                      obtain ⟨oki64, ce64, hcl64, hM64, hcc64, hok64, hbk64⟩ := Kd.S_borrow HO_3.out [] (((rd_T73 l0_1 x28_2).f1) : Int) (of_decide_eq_true (by first | (with_reducible assumption) | assumption)) (by first | exact hq64 | (have e_ := (Kd.S_reads' HO_3.out).1; omega))
                      obtain ⟨ve64_0, rfl, ge64_0⟩ := hM64
                      have hv64 := hcc64 0 _ rfl
                      rw [Nat.add_zero, show ((Kd.slice 3 (Kd.int .i64))).sz = 1 from rfl, Nat.mul_one] at hv64
                      replace hv64 := Option.some.inj (hv64.symm.trans HX255_0.out)
                      subst hv64
                      clear hcc64 hcl64
                      replace ge64_0 := (show Kd.R (Kd.int .i64) 3 _ _ _ _ (rd_L4 y254 ((rd_T73 l0_1 x28_2).f1)) from ge64_0)
                      have HP64 := Kd.R_putg ge64_0 (((rd_T73 l0_1 x28_2).f0) : Int) (wrap64 ((rd (rd_L4 y254 ((rd_T73 l0_1 x28_2).f1)) ((rd_T73 l0_1 x28_2).f0)) - 1))
                      rw [← Ny257.out] at HP64
                      have HS64 := hbk64 HP64.2 (fun k_ e_ => by injection e_ with e_; subst e_; exact ge64_0.1 _ rfl) (x' := y257) (Kd.M_row HP64.1)
                      rw [← Ny259.out] at HS64
                      have HQ64 := Aside0.mk HS64
                      clear HP64 HS64 hbk64 hok64
                      refine start_ (n := 12) (S := fun w' => w'.cell? ⟨gb239, 0, none⟩ = some (.int .i64 ((rd_T73 l0_1 x28_2).f0)) ∧ w'.cell? ⟨gb239, 1, none⟩ = some (.int .i64 ((rd_T73 l0_1 x28_2).f1)) ∧ w'.cell? (ad245.add (((rd_T73 l0_1 x28_2).f1)).toNat) = some (.slice (some ⟨go51, 0, none⟩) (rd_L4 y254 ((rd_T73 l0_1 x28_2).f1)).length c255_0) ∧ w'.cell? ⟨go51, (((rd_T73 l0_1 x28_2).f0)).toNat, none⟩ = some (.int .i64 (rd (rd_L4 y254 ((rd_T73 l0_1 x28_2).f1)) ((rd_T73 l0_1 x28_2).f0)))) (ds := [11]) #[false, false, false, false, false, false, false, false, false, false, false, false] (by kernel_rfl) rfl rfl ⟨(blk_cell BK239.out 0).trans rfl, (blk_cell BK239.out 1).trans rfl, hx255_0, hx256_0⟩ (fun hHeld => ?_); refine with_tabW impl_Net_laplacian.tab17 impl_Net_laplacian.bits17 (fun HT_ HW_ => ?_)
                      generalize w62.drew = w63 at HO_3 BK230 BK239 HB GG51 HL255_0 HQ60 HQ64 HR255_0 HX255_0 hf51_0 hx255_0 hx256_0 hx51_0 hHeld ⊢
                      refine pure_ (i := 0) (N := some 86) (v := ?_) (a' := ?_) #[true, false, false, false, false, false, false, false, false, false, false, false] rfl rfl (any_of HT_.out (by kernel_rfl)) (fun _ _ _ h => h) (Or.inl ⟨by rfl, ?_⟩) ?_ ?_
                      rotate_left
                      ·intro w'
                       go_simp
                       with_reducible rfl
                      rotate_left
                      ·simp only [Act.put, List.setIfInBounds_toArray, List.set_cons_zero, List.set_cons_succ, i64_w, i32_w]
                       rfl
                      refine pure_ (i := 1) (N := some 87) (v := ?_) (a' := ?_) #[true, true, false, false, false, false, false, false, false, false, false, false] rfl rfl (any_of HT_.out (by kernel_rfl)) (fun _ _ _ h => h) (Or.inl ⟨by rfl, ?_⟩) ?_ ?_
                      rotate_left
                      ·intro w'
                       go_simp
                       with_reducible rfl
                      rotate_left
                      ·simp only [Act.put, List.setIfInBounds_toArray, List.set_cons_zero, List.set_cons_succ, i64_w, i32_w]
                       rfl
                      refine pure_ (i := 5) (N := some 91) (v := ?_) (a' := ?_) #[true, true, false, false, false, true, false, false, false, false, false, false] rfl rfl (any_of HT_.out (by kernel_rfl)) (fun _ _ _ h => h) (Or.inl ⟨by rfl, ?_⟩) ?_ ?_
                      rotate_left
                      ·intro w'
                       go_simp
                       with_reducible rfl
                      rotate_left
                      ·simp only [Act.put, List.setIfInBounds_toArray, List.set_cons_zero, List.set_cons_succ, i64_w, i32_w]
                       rfl
                      refine take_ (i := 2) (N := some 88) (v := ?_) (a' := ?_) #[true, true, true, false, false, true, false, false, false, false, false, false] rfl rfl (take_ofW HT_.out HW_.out (by kernel_rfl)) (fun _ _ _ h => h) (Or.inl ⟨by rfl, ?_⟩) hHeld ?_ ?_
                      rotate_left
                      ·rintro w' ⟨s0, s1, s2, s3⟩
                       go_simp
                       with_reducible rfl
                      rotate_left
                      ·simp only [Act.put, List.setIfInBounds_toArray, List.set_cons_zero, List.set_cons_succ, i64_w, i32_w]
                       rfl
                      refine pure_ (i := 3) (N := some 89) (v := ?_) (a' := ?_) #[true, true, true, true, false, true, false, false, false, false, false, false] rfl rfl (any_of HT_.out (by kernel_rfl)) (fun _ _ _ h => h) (Or.inl ⟨by rfl, ?_⟩) ?_ ?_
                      rotate_left
                      ·intro w'
                       go_simp
                       with_reducible rfl
                      rotate_left
                      ·simp only [Act.put, List.setIfInBounds_toArray, List.set_cons_zero, List.set_cons_succ, i64_w, i32_w]
                       rfl
                      refine take_ (i := 4) (N := some 90) (v := ?_) (a' := ?_) #[true, true, true, true, true, true, false, false, false, false, false, false] rfl rfl (take_ofW HT_.out HW_.out (by kernel_rfl)) (fun _ _ _ h => h) (Or.inl ⟨by rfl, ?_⟩) hHeld ?_ ?_
                      rotate_left
                      ·rintro w' ⟨s0, s1, s2, s3⟩
                       go_simp
                       with_reducible rfl
                      rotate_left
                      ·simp only [Act.put, List.setIfInBounds_toArray, List.set_cons_zero, List.set_cons_succ, i64_w, i32_w]
                       rfl
                      refine take_ (i := 6) (N := some 92) (v := ?_) (a' := ?_) #[true, true, true, true, true, true, true, false, false, false, false, false] rfl rfl (take_ofW HT_.out HW_.out (by kernel_rfl)) (fun _ _ _ h => h) (Or.inl ⟨by rfl, ?_⟩) hHeld ?_ ?_
                      rotate_left
                      ·rintro w' ⟨s0, s1, s2, s3⟩
                       go_simp
                       with_reducible rfl
                      rotate_left
                      ·simp only [Act.put, List.setIfInBounds_toArray, List.set_cons_zero, List.set_cons_succ, i64_w, i32_w]
                       rfl
                      refine pure_ (i := 7) (N := some 93) (v := ?_) (a' := ?_) #[true, true, true, true, true, true, true, true, false, false, false, false] rfl rfl (any_of HT_.out (by kernel_rfl)) (fun _ _ _ h => h) (Or.inl ⟨by rfl, ?_⟩) ?_ ?_
                      rotate_left
                      ·intro w'
                       go_simp
                       with_reducible rfl
                      rotate_left
                      ·simp only [Act.put, List.setIfInBounds_toArray, List.set_cons_zero, List.set_cons_succ, i64_w, i32_w]
                       rfl
                      refine take_ (i := 8) (N := some 94) (v := ?_) (a' := ?_) #[true, true, true, true, true, true, true, true, true, false, false, false] rfl rfl (take_ofW HT_.out HW_.out (by kernel_rfl)) (fun _ _ _ h => h) (Or.inl ⟨by rfl, ?_⟩) hHeld ?_ ?_
                      rotate_left
                      ·rintro w' ⟨s0, s1, s2, s3⟩
                       go_simp
                       with_reducible rfl
                      rotate_left
                      ·simp only [Act.put, List.setIfInBounds_toArray, List.set_cons_zero, List.set_cons_succ, i64_w, i32_w]
                       rfl
                      refine pure_ (i := 9) (N := some 95) (v := ?_) (a' := ?_) #[true, true, true, true, true, true, true, true, true, true, false, false] rfl rfl (any_of HT_.out (by kernel_rfl)) (fun _ _ _ h => h) (Or.inl ⟨by rfl, ?_⟩) ?_ ?_
                      rotate_left
                      ·intro w'
                       go_simp
                       with_reducible rfl
                      rotate_left
                      ·simp only [Act.put, List.setIfInBounds_toArray, List.set_cons_zero, List.set_cons_succ, i64_w, i32_w]
                       rfl
                      refine pure_ (i := 10) (N := some 96) (v := ?_) (a' := ?_) #[true, true, true, true, true, true, true, true, true, true, true, false] rfl rfl (any_of HT_.out (by kernel_rfl)) (fun _ _ _ h => h) (Or.inl ⟨by rfl, ?_⟩) ?_ ?_
                      rotate_left
                      ·intro w'
                       go_simp
                       with_reducible rfl
                      rotate_left
                      ·simp only [Act.put, List.setIfInBounds_toArray, List.set_cons_zero, List.set_cons_succ, i64_w, i32_w]
                       rfl
                      refine last_ (i := 11) (N := none) #[true, true, true, true, true, true, true, true, true, true, true, true] rfl rfl (one_of HT_.out (by kernel_rfl)) (by decide) (fun K hK => ?_)
                      refine skip_ (w1 := ?_) (by rfl) rfl ?_ ?_
                      rotate_left
                      ·go_simp
                       rfl
                      refine hK.out _ _ ?_
                      clear hK K
                      refine done_ (done_of HT_.out (by kernel_rfl)) ?_
                      try go_wp2
                      (try simp only [← hl3_2, ← hl3_25])
                      go_roundg kj25
                      case measure => have := HK1.out; have := HK2.out; have := HJ25.out; omega
                      case rel => exact ⟨(y259), (wrap64 (x28_2 + 1)), (by first | rfl | (simp; done) | (simp [*]; done)), H', ⟨by have := HK1.out; have := HK2.out; have := HJ25.out; omega⟩, ⟨by (try simp only [hl3_1]); (try simp only [hl3_2]); (try simp only [hl3_25]); (with_reducible repeat (first | apply Kd.S_alloc | apply Kd.S_drewN | apply Kd.S_drew)); exact HQ64.out⟩, ⟨by (try simp only [hl3_1]); (try simp only [hl3_2]); (try simp only [hl3_25]); (with_reducible repeat (first | refine blk_drewN ?_ _ | refine blk_drew ?_ | refine blk_alloc ?_ _)); refine blk_far ?_ (by have h_ := Kd.R_ne HL255_0.out BK230.out (by decide); intro e_; exact h_ (by rw [e_]; rfl)) _; (with_reducible repeat (first | refine blk_drewN ?_ _ | refine blk_drew ?_ | refine blk_alloc ?_ _)); exact BK230.out⟩, ⟨by repeat (first | (with_reducible first | exact HB.out | apply below_alloc | apply pw_below_drewN | apply below_drew1 | refine below_set ?_ GB51.out | refine below_set ?_ GE230.out | refine below_set ?_ GE239.out) | exact HB.out)⟩⟩
                     ·rw [if_neg c50] at H
                      exact absurd H (by simp)
                    ·rw [if_neg c48] at H
                     exact absurd H (by simp)
                   ·rw [if_neg c47] at H
                    exact absurd H (by simp)
                  ·rw [if_neg c46] at H
                   exact absurd H (by simp)
                 ·rw [if_neg c45] at H
                  have c45b0 : decide (((rd_T73 l0_1 x28_2).f0) < (wrap64 (a0_0 - 1))) = false := decide_eq_false c45
                  (try (have c45b0h0 := c45b0; simp only [hji2] at c45b0h0))
                  clear c45
                  have H' := Aside0.mk H
                  clear H
                  have hnb66 := NB239_230.out
                  have hnc66 := NB230_239.out
                  have hcz67_0 : wc.cell? ⟨gb239, 0, none⟩ = some (.int .i64 ((rd_T73 l0_1 x28_2).f0)) := (blk_cell BK239.out 0).trans rfl
                  have hcz67_1 : wc.cell? ⟨gb239, 1, none⟩ = some (.int .i64 ((rd_T73 l0_1 x28_2).f1)) := (blk_cell BK239.out 1).trans rfl
                  have hfz67_0 := blk_frozen BK239.out 0
                  have hfz67_1 := blk_frozen BK239.out 1
                  try go_wp2
                  have n0_ := Aside0.mk (Kd.S_drew HO_3.out)
                  have n1_ := Aside0.mk (blk_drew BK230.out)
                  have n2_ := Aside0.mk (blk_drew BK239.out)
                  have n3_ := Aside0.mk (below_drew1 HB.out)
                  clear HO_3
                  clear BK230
                  clear BK239
                  clear HB
                  have HO_3 := n0_
                  have BK230 := n1_
                  have BK239 := n2_
                  have HB := n3_
                  clear n0_ n1_ n2_ n3_
                  have p245 : 0 ≤ (((rd_T73 l0_1 x28_2).f1) : Int) := of_decide_eq_true (by first | (with_reducible assumption) | assumption)
                  have q245 : ((rd_T73 l0_1 x28_2).f1) < (x3_25.length : Int) := of_decide_eq_true (by first | (with_reducible assumption) | assumption)
                  obtain ⟨ad245, A245_0, c245_0, e245, hx245_0, hl245_0, hi245_0⟩ := at_L4 (Kd.S_reads' HO_3.out).2.2 ((rd_T73 l0_1 x28_2).f1) p245 q245
                  cases e245
                  obtain ⟨ce245, hce245, hMe245, hcc245⟩ := Kd.S_get HO_3.out [] ((rd_T73 l0_1 x28_2).f1) p245 (by first | exact q245 | exact of_decide_eq_true (by first | (with_reducible assumption) | assumption) | (have e_ := (Kd.S_reads' HO_3.out).1; omega))
                  obtain ⟨ve245_0, rfl, ge245_0⟩ := hMe245
                  have hv245_0 := hcc245 0 _ rfl
                  rw [Nat.add_zero, show ((Kd.slice 3 (Kd.int .i64))).sz = 1 from rfl, Nat.mul_one] at hv245_0
                  replace hv245_0 := Option.some.inj (hv245_0.symm.trans hx245_0)
                  rw [hv245_0] at ge245_0
                  have HL245_0 := Aside0.mk (show Kd.R (Kd.int .i64) 3 _ _ _ _ (rd_L4 x3_25 ((rd_T73 l0_1 x28_2).f1)) from ge245_0)
                  clear hv245_0 ge245_0
                  have HX245_0 := Aside0.mk hx245_0
                  clear hcc245 hce245
                  have HR245_0 := Aside0.mk hi245_0
                  have HC245_0 := Aside0.mk hl245_0
                  clear hi245_0 hl245_0
                  replace p245 := eq_true p245
                  replace q245 := eq_true q245
                  have p246 : 0 ≤ (((rd_T73 l0_1 x28_2).f1) : Int) := of_decide_eq_true (by first | (with_reducible assumption) | assumption)
                  have q246 : ((rd_T73 l0_1 x28_2).f1) < ((rd_L4 x3_25 ((rd_T73 l0_1 x28_2).f1)).length : Int) := of_decide_eq_true (by first | (with_reducible assumption) | assumption)
                  obtain ⟨ad246, e246, hx246_0⟩ := Kd.at_int (by repeat (first | (with_reducible exact HR245_0.out) | (with_reducible refine Kd.C_alloc ?_ _) | (with_reducible refine Kd.C_drewN ?_ _) | (with_reducible refine Kd.C_drew ?_) | exact HR245_0.out)) ((rd_T73 l0_1 x28_2).f1) p246 q246
                  cases e246
                  replace p246 := eq_true p246
                  replace q246 := eq_true q246
                  have p44 : 0 ≤ (((rd_T73 l0_1 x28_2).f1) : Int) := of_decide_eq_true (by first | (with_reducible assumption) | assumption)
                  have q44 : (((rd_T73 l0_1 x28_2).f1) : Int) < (((rd_L4 x3_25 ((rd_T73 l0_1 x28_2).f1)).length : Int) : Int) := of_decide_eq_true (by first | (with_reducible assumption) | assumption)
                  obtain ⟨go44, co44, eo44, gb44, gl44, cl44, HG44⟩ := Kd.R_form HL245_0.out (by omega)
                  (first | cases eo44 | (injection eo44 with ea_ en_ ec_; (first | subst ea_ | (injection ea_ with ea_; subst ea_)); subst ec_; clear en_))
                  have GB44 := Aside0.mk gb44
                  have GG44 := Aside0.mk HG44
                  clear gb44 gl44 HG44
                  (first | simp only [add_plain] at hx246_0 | skip)
                  obtain ⟨hx44_0, hf44_0⟩ := Kd.R_celln 0 HL245_0.out (((rd_T73 l0_1 x28_2).f1) : Int) p44 q44
                  replace p44 := eq_true p44
                  replace q44 := eq_true q44
                  have hq69 : (((rd_T73 l0_1 x28_2).f1) : Int) < (x3_25.length : Int) := (by have h_ : (((rd_T73 l0_1 x28_2).f1) : Int) < ((x3_25.length : Int) : Int) := of_decide_eq_true (by first | (with_reducible assumption) | assumption); first | exact h_ | (have e_ := (Kd.S_reads' HO_3.out).1; omega) | simpa only [List.length_set, List.length_set] using h_)
                  obtain ⟨oki69, ce69, hcl69, hM69, hcc69, hok69, hbk69⟩ := Kd.S_borrow HO_3.out [] (((rd_T73 l0_1 x28_2).f1) : Int) (of_decide_eq_true (by first | (with_reducible assumption) | assumption)) (by first | exact hq69 | (have e_ := (Kd.S_reads' HO_3.out).1; omega))
                  obtain ⟨ve69_0, rfl, ge69_0⟩ := hM69
                  have hv69 := hcc69 0 _ rfl
                  rw [Nat.add_zero, show ((Kd.slice 3 (Kd.int .i64))).sz = 1 from rfl, Nat.mul_one] at hv69
                  replace hv69 := Option.some.inj (hv69.symm.trans HX245_0.out)
                  subst hv69
                  clear hcc69 hcl69
                  replace ge69_0 := (show Kd.R (Kd.int .i64) 3 _ _ _ _ (rd_L4 x3_25 ((rd_T73 l0_1 x28_2).f1)) from ge69_0)
                  have HP69 := Kd.R_putg ge69_0 (((rd_T73 l0_1 x28_2).f1) : Int) (wrap64 ((rd (rd_L4 x3_25 ((rd_T73 l0_1 x28_2).f1)) ((rd_T73 l0_1 x28_2).f1)) + 1))
                  rw [← Ny247.out] at HP69
                  have HS69 := hbk69 HP69.2 (fun k_ e_ => by injection e_ with e_; subst e_; exact ge69_0.1 _ rfl) (x' := y247) (Kd.M_row HP69.1)
                  rw [← Ny249.out] at HS69
                  have HQ69 := Aside0.mk HS69
                  clear HP69 HS69 hbk69 hok69
                  refine start_ (n := 12) (S := fun w' => w'.cell? ⟨gb239, 0, none⟩ = some (.int .i64 ((rd_T73 l0_1 x28_2).f0)) ∧ w'.cell? ⟨gb239, 1, none⟩ = some (.int .i64 ((rd_T73 l0_1 x28_2).f1)) ∧ w'.cell? (ad245.add (((rd_T73 l0_1 x28_2).f1)).toNat) = some (.slice (some ⟨go44, 0, none⟩) (rd_L4 x3_25 ((rd_T73 l0_1 x28_2).f1)).length c245_0) ∧ w'.cell? ⟨go44, (((rd_T73 l0_1 x28_2).f1)).toNat, none⟩ = some (.int .i64 (rd (rd_L4 x3_25 ((rd_T73 l0_1 x28_2).f1)) ((rd_T73 l0_1 x28_2).f1)))) (ds := [11]) #[false, false, false, false, false, false, false, false, false, false, false, false] (by kernel_rfl) rfl rfl ⟨(blk_cell BK239.out 0).trans rfl, (blk_cell BK239.out 1).trans rfl, hx245_0, hx246_0⟩ (fun hHeld => ?_); refine with_tabW impl_Net_laplacian.tab14 impl_Net_laplacian.bits14 (fun HT_ HW_ => ?_)
                  generalize wc.drew = w68 at HO_3 BK230 BK239 HB GG44 HL245_0 HQ69 HR245_0 HX245_0 hf44_0 hx245_0 hx246_0 hx44_0 hHeld ⊢
                  refine pure_ (i := 0) (N := some 54) (v := ?_) (a' := ?_) #[true, false, false, false, false, false, false, false, false, false, false, false] rfl rfl (any_of HT_.out (by kernel_rfl)) (fun _ _ _ h => h) (Or.inl ⟨by rfl, ?_⟩) ?_ ?_
                  rotate_left
                  ·intro w'
                   go_simp
                   with_reducible rfl
                  rotate_left
                  ·simp only [Act.put, List.setIfInBounds_toArray, List.set_cons_zero, List.set_cons_succ, i64_w, i32_w]
                   rfl
                  refine pure_ (i := 1) (N := some 55) (v := ?_) (a' := ?_) #[true, true, false, false, false, false, false, false, false, false, false, false] rfl rfl (any_of HT_.out (by kernel_rfl)) (fun _ _ _ h => h) (Or.inl ⟨by rfl, ?_⟩) ?_ ?_
                  rotate_left
                  ·intro w'
                   go_simp
                   with_reducible rfl
                  rotate_left
                  ·simp only [Act.put, List.setIfInBounds_toArray, List.set_cons_zero, List.set_cons_succ, i64_w, i32_w]
                   rfl
                  refine pure_ (i := 5) (N := some 59) (v := ?_) (a' := ?_) #[true, true, false, false, false, true, false, false, false, false, false, false] rfl rfl (any_of HT_.out (by kernel_rfl)) (fun _ _ _ h => h) (Or.inl ⟨by rfl, ?_⟩) ?_ ?_
                  rotate_left
                  ·intro w'
                   go_simp
                   with_reducible rfl
                  rotate_left
                  ·simp only [Act.put, List.setIfInBounds_toArray, List.set_cons_zero, List.set_cons_succ, i64_w, i32_w]
                   rfl
                  refine take_ (i := 2) (N := some 56) (v := ?_) (a' := ?_) #[true, true, true, false, false, true, false, false, false, false, false, false] rfl rfl (take_ofW HT_.out HW_.out (by kernel_rfl)) (fun _ _ _ h => h) (Or.inl ⟨by rfl, ?_⟩) hHeld ?_ ?_
                  rotate_left
                  ·rintro w' ⟨s0, s1, s2, s3⟩
                   go_simp
                   with_reducible rfl
                  rotate_left
                  ·simp only [Act.put, List.setIfInBounds_toArray, List.set_cons_zero, List.set_cons_succ, i64_w, i32_w]
                   rfl
                  refine pure_ (i := 3) (N := some 57) (v := ?_) (a' := ?_) #[true, true, true, true, false, true, false, false, false, false, false, false] rfl rfl (any_of HT_.out (by kernel_rfl)) (fun _ _ _ h => h) (Or.inl ⟨by rfl, ?_⟩) ?_ ?_
                  rotate_left
                  ·intro w'
                   go_simp
                   with_reducible rfl
                  rotate_left
                  ·simp only [Act.put, List.setIfInBounds_toArray, List.set_cons_zero, List.set_cons_succ, i64_w, i32_w]
                   rfl
                  refine take_ (i := 4) (N := some 58) (v := ?_) (a' := ?_) #[true, true, true, true, true, true, false, false, false, false, false, false] rfl rfl (take_ofW HT_.out HW_.out (by kernel_rfl)) (fun _ _ _ h => h) (Or.inl ⟨by rfl, ?_⟩) hHeld ?_ ?_
                  rotate_left
                  ·rintro w' ⟨s0, s1, s2, s3⟩
                   go_simp
                   with_reducible rfl
                  rotate_left
                  ·simp only [Act.put, List.setIfInBounds_toArray, List.set_cons_zero, List.set_cons_succ, i64_w, i32_w]
                   rfl
                  refine take_ (i := 6) (N := some 60) (v := ?_) (a' := ?_) #[true, true, true, true, true, true, true, false, false, false, false, false] rfl rfl (take_ofW HT_.out HW_.out (by kernel_rfl)) (fun _ _ _ h => h) (Or.inl ⟨by rfl, ?_⟩) hHeld ?_ ?_
                  rotate_left
                  ·rintro w' ⟨s0, s1, s2, s3⟩
                   go_simp
                   with_reducible rfl
                  rotate_left
                  ·simp only [Act.put, List.setIfInBounds_toArray, List.set_cons_zero, List.set_cons_succ, i64_w, i32_w]
                   rfl
                  refine pure_ (i := 7) (N := some 61) (v := ?_) (a' := ?_) #[true, true, true, true, true, true, true, true, false, false, false, false] rfl rfl (any_of HT_.out (by kernel_rfl)) (fun _ _ _ h => h) (Or.inl ⟨by rfl, ?_⟩) ?_ ?_
                  rotate_left
                  ·intro w'
                   go_simp
                   with_reducible rfl
                  rotate_left
                  ·simp only [Act.put, List.setIfInBounds_toArray, List.set_cons_zero, List.set_cons_succ, i64_w, i32_w]
                   rfl
                  refine take_ (i := 8) (N := some 62) (v := ?_) (a' := ?_) #[true, true, true, true, true, true, true, true, true, false, false, false] rfl rfl (take_ofW HT_.out HW_.out (by kernel_rfl)) (fun _ _ _ h => h) (Or.inl ⟨by rfl, ?_⟩) hHeld ?_ ?_
                  rotate_left
                  ·rintro w' ⟨s0, s1, s2, s3⟩
                   go_simp
                   with_reducible rfl
                  rotate_left
                  ·simp only [Act.put, List.setIfInBounds_toArray, List.set_cons_zero, List.set_cons_succ, i64_w, i32_w]
                   rfl
                  refine pure_ (i := 9) (N := some 63) (v := ?_) (a' := ?_) #[true, true, true, true, true, true, true, true, true, true, false, false] rfl rfl (any_of HT_.out (by kernel_rfl)) (fun _ _ _ h => h) (Or.inl ⟨by rfl, ?_⟩) ?_ ?_
                  rotate_left
                  ·intro w'
                   go_simp
                   with_reducible rfl
                  rotate_left
                  ·simp only [Act.put, List.setIfInBounds_toArray, List.set_cons_zero, List.set_cons_succ, i64_w, i32_w]
                   rfl
                  refine pure_ (i := 10) (N := some 64) (v := ?_) (a' := ?_) #[true, true, true, true, true, true, true, true, true, true, true, false] rfl rfl (any_of HT_.out (by kernel_rfl)) (fun _ _ _ h => h) (Or.inl ⟨by rfl, ?_⟩) ?_ ?_
                  rotate_left
                  ·intro w'
                   go_simp
                   with_reducible rfl
                  rotate_left
                  ·simp only [Act.put, List.setIfInBounds_toArray, List.set_cons_zero, List.set_cons_succ, i64_w, i32_w]
                   rfl
                  refine last_ (i := 11) (N := none) #[true, true, true, true, true, true, true, true, true, true, true, true] rfl rfl (one_of HT_.out (by kernel_rfl)) (by decide) (fun K hK => ?_)
                  refine skip_ (w1 := ?_) (by rfl) rfl ?_ ?_
                  rotate_left
                  ·go_simp
                   rfl
                  refine hK.out _ _ ?_
                  clear hK K
                  refine done_ (done_of HT_.out (by kernel_rfl)) ?_
                  have hcz71_0 : w68.cell? ⟨gb239, 0, none⟩ = some (.int .i64 ((rd_T73 l0_1 x28_2).f0)) := (blk_cell BK239.out 0).trans rfl
                  have hcz71_1 : w68.cell? ⟨gb239, 1, none⟩ = some (.int .i64 ((rd_T73 l0_1 x28_2).f1)) := (blk_cell BK239.out 1).trans rfl
                  have hfz71_0 := blk_frozen BK239.out 0
                  have hfz71_1 := blk_frozen BK239.out 1
                  (try (have hcz71_0s : ∀ (o_ : Nat) (v_ : Value), (w68.setCell ⟨go44, o_, none⟩ v_).cell? ⟨gb239, 0, none⟩ = some (.int .i64 ((rd_T73 l0_1 x28_2).f0)) := fun o_ v_ => (blk_cell (blk_far BK239.out (by have h_ := Kd.R_ne HL245_0.out BK239.out (by decide); intro e_; exact h_ (by rw [e_]; rfl)) v_) 0).trans rfl))
                  (try (have hcz71_1s : ∀ (o_ : Nat) (v_ : Value), (w68.setCell ⟨go44, o_, none⟩ v_).cell? ⟨gb239, 1, none⟩ = some (.int .i64 ((rd_T73 l0_1 x28_2).f1)) := fun o_ v_ => (blk_cell (blk_far BK239.out (by have h_ := Kd.R_ne HL245_0.out BK239.out (by decide); intro e_; exact h_ (by rw [e_]; rfl)) v_) 1).trans rfl))
                  (try (have hfz71_0s : ∀ (o_ : Nat) (v_ : Value), (w68.setCell ⟨go44, o_, none⟩ v_).frozen? ⟨gb239, 0, none⟩ = false := fun o_ v_ => blk_frozen (blk_far BK239.out (by have h_ := Kd.R_ne HL245_0.out BK239.out (by decide); intro e_; exact h_ (by rw [e_]; rfl)) v_) 0))
                  (try (have hfz71_1s : ∀ (o_ : Nat) (v_ : Value), (w68.setCell ⟨go44, o_, none⟩ v_).frozen? ⟨gb239, 1, none⟩ = false := fun o_ v_ => blk_frozen (blk_far BK239.out (by have h_ := Kd.R_ne HL245_0.out BK239.out (by decide); intro e_; exact h_ (by rw [e_]; rfl)) v_) 1))
                  try go_wp2
                  (try simp only [← hl3_2, ← hl3_25])
                  go_roundg kj25
                  case measure => have := HK1.out; have := HK2.out; have := HJ25.out; omega
                  case rel => exact ⟨(y249), (wrap64 (x28_2 + 1)), (by first | rfl | (simp; done) | (simp [*]; done)), H', ⟨by have := HK1.out; have := HK2.out; have := HJ25.out; omega⟩, ⟨by (try simp only [hl3_1]); (try simp only [hl3_2]); (try simp only [hl3_25]); (with_reducible repeat (first | apply Kd.S_alloc | apply Kd.S_drewN | apply Kd.S_drew)); exact HQ69.out⟩, ⟨by (try simp only [hl3_1]); (try simp only [hl3_2]); (try simp only [hl3_25]); (with_reducible repeat (first | refine blk_drewN ?_ _ | refine blk_drew ?_ | refine blk_alloc ?_ _)); refine blk_far ?_ (by have h_ := Kd.R_ne HL245_0.out BK230.out (by decide); intro e_; exact h_ (by rw [e_]; rfl)) _; (with_reducible repeat (first | refine blk_drewN ?_ _ | refine blk_drew ?_ | refine blk_alloc ?_ _)); exact BK230.out⟩, ⟨by repeat (first | (with_reducible first | exact HB.out | apply below_alloc | apply pw_below_drewN | apply below_drew1 | refine below_set ?_ GB44.out | refine below_set ?_ GE230.out | refine below_set ?_ GE239.out) | exact HB.out)⟩⟩
                ·rw [if_neg c43] at H
                 exact absurd H (by simp)
               ·rw [if_neg c42] at H
                exact absurd H (by simp)
              ·rw [if_neg c41] at H
               exact absurd H (by simp)
             ·rw [if_neg c40] at H
              have c40b0 : decide (((rd_T73 l0_1 x28_2).f1) < (wrap64 (a0_0 - 1))) = false := decide_eq_false c40
              (try (have c40b0h0 := c40b0; simp only [hji2] at c40b0h0))
              clear c40
              by_cases c72 : ((rd_T73 l0_1 x28_2).f0) < (wrap64 (a0_0 - 1))
              ·rw [if_pos c72] at H
               have c72b0 : decide (((rd_T73 l0_1 x28_2).f0) < (wrap64 (a0_0 - 1))) = true := decide_eq_true c72
               (try (have c72b0h0 := c72b0; simp only [hji2] at c72b0h0))
               clear c72
               have H' := Aside0.mk H
               clear H
               have hnb73 := NB239_230.out
               have hnc73 := NB230_239.out
               have hcz74_0 : wc.cell? ⟨gb239, 0, none⟩ = some (.int .i64 ((rd_T73 l0_1 x28_2).f0)) := (blk_cell BK239.out 0).trans rfl
               have hcz74_1 : wc.cell? ⟨gb239, 1, none⟩ = some (.int .i64 ((rd_T73 l0_1 x28_2).f1)) := (blk_cell BK239.out 1).trans rfl
               have hfz74_0 := blk_frozen BK239.out 0
               have hfz74_1 := blk_frozen BK239.out 1
               go_wp2
               (try simp only [← hl3_2, ← hl3_25])
               go_roundg kj25
               case measure => have := HK1.out; have := HK2.out; have := HJ25.out; omega
               case rel => exact ⟨(x3_25), (wrap64 (x28_2 + 1)), (by first | rfl | (simp; done) | (simp [*]; done)), H', ⟨by have := HK1.out; have := HK2.out; have := HJ25.out; omega⟩, ⟨by (try simp only [hl3_1]); (try simp only [hl3_2]); (try simp only [hl3_25]); (with_reducible repeat (first | apply Kd.S_alloc | apply Kd.S_drewN | apply Kd.S_drew)); exact HO_3.out⟩, ⟨by (try simp only [hl3_1]); (try simp only [hl3_2]); (try simp only [hl3_25]); (with_reducible repeat (first | refine blk_drewN ?_ _ | refine blk_drew ?_ | refine blk_alloc ?_ _)); exact BK230.out⟩, ⟨upW HB⟩⟩
              ·rw [if_neg c72] at H
               have c72b0 : decide (((rd_T73 l0_1 x28_2).f0) < (wrap64 (a0_0 - 1))) = false := decide_eq_false c72
               (try (have c72b0h0 := c72b0; simp only [hji2] at c72b0h0))
               clear c72
               have H' := Aside0.mk H
               clear H
               have hnb75 := NB239_230.out
               have hnc75 := NB230_239.out
               have hcz76_0 : wc.cell? ⟨gb239, 0, none⟩ = some (.int .i64 ((rd_T73 l0_1 x28_2).f0)) := (blk_cell BK239.out 0).trans rfl
               have hcz76_1 : wc.cell? ⟨gb239, 1, none⟩ = some (.int .i64 ((rd_T73 l0_1 x28_2).f1)) := (blk_cell BK239.out 1).trans rfl
               have hfz76_0 := blk_frozen BK239.out 0
               have hfz76_1 := blk_frozen BK239.out 1
               go_wp2
               (try simp only [← hl3_2, ← hl3_25])
               go_roundg kj25
               case measure => have := HK1.out; have := HK2.out; have := HJ25.out; omega
               case rel => exact ⟨(x3_25), (wrap64 (x28_2 + 1)), (by first | rfl | (simp; done) | (simp [*]; done)), H', ⟨by have := HK1.out; have := HK2.out; have := HJ25.out; omega⟩, ⟨by (try simp only [hl3_1]); (try simp only [hl3_2]); (try simp only [hl3_25]); (with_reducible repeat (first | apply Kd.S_alloc | apply Kd.S_drewN | apply Kd.S_drew)); exact HO_3.out⟩, ⟨by (try simp only [hl3_1]); (try simp only [hl3_2]); (try simp only [hl3_25]); (with_reducible repeat (first | refine blk_drewN ?_ _ | refine blk_drew ?_ | refine blk_alloc ?_ _)); exact BK230.out⟩, ⟨upW HB⟩⟩
          ·rw [if_neg c25] at H
           exact absurd H (by simp)
         ·rw [if_neg c24] at H
          exact absurd H (by simp)
        ·rw [if_neg c23] at H
         have c23b0 : decide (x28_2 < (l0_1.length : Int)) = false := decide_eq_false c23
         (try (have c23b0h1 := c23b0; simp only [hl3_1] at c23b0h1))
         (try (have c23b0h2 := c23b0; simp only [hl3_2] at c23b0h2))
         clear c23
         obtain rfl := Option.some.inj H
         go_wp2
         go_ret
         exact ⟨_, by first | rfl | (simp [errW_none, errW_some] <;> rfl) | (simp only [← hji2]; first | rfl | (simp [errW_none, errW_some] <;> rfl)) | (simp [*, errW_none, errW_some] <;> rfl), by (with_reducible repeat (first | apply Kd.S_alloc | apply Kd.S_drewN | apply Kd.S_drew)); exact HO_3.out, by repeat (first | (with_reducible first | exact HB.out | apply below_alloc | apply pw_below_drewN | apply below_drew1 | refine below_set ?_ GE230.out) | exact HB.out)⟩
  ·rw [if_neg c4] at H
   exact absurd H (by simp)
 ·rw [if_neg c3] at H
  exact absurd H (by simp)

end Go.Proofs.Ytngbmjldnfljiaa.PFnExactJoinedTrees
