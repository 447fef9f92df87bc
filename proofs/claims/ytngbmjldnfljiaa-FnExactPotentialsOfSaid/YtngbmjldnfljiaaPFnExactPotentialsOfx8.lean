-- made for this claim by a program of this session
import Derived.Test.YtngbmjldnfljiaaPFnExactPotentialsOfx0
namespace Go.Proofs.Ytngbmjldnfljiaa.PFnExactPotentialsOf
open Go.RowKit Go.Proofs.YtngbmjldnfljiaaW.PrintWords Go.Proofs.YtngbmjldnfljiaaW.PrintLast Go.Proofs.YtngbmjldnfljiaaW.PrintMore
attribute [local go_sem] max2_int min2_int max_two min_two max_three min_three max_four min_four   -- for this text's walks alone
set_option linter.unusedVariables false
set_option linter.unusedSimpArgs false

/-! ### impl_Net_laplacian: function 94 -/
mutual
def impl_Net_laplacian.l0 : Nat → List (List Int) → Int → Int → Int → List (S73) → Option ((List (List Int)))
 | 0, _, _, _, _, _ => none
 | k + 1, x3, x13, x14, x230000, x230001 => if x14 < x13 then (if 0 ≤ (wrap64 (x230000 - 1)) then (if (wrap64 (x230000 - 1) : Int).toNat ≤ 35184372088832 then (if 0 ≤ x14 then (if x14 < (x3.length : Int) then (impl_Net_laplacian.l0 k (x3.set (x14 : Int).toNat (List.replicate (wrap64 (x230000 - 1) : Int).toNat 0)) x13 (wrap64 (x14 + 1)) x230000 x230001) else (none)) else (none)) else (none)) else (none)) else (impl_Net_laplacian.l1 k x3 x230001 (x230001.length : Int) 0 x230000 x230001)
def impl_Net_laplacian.l1 : Nat → List (List Int) → List (S73) → Int → Int → Int → List (S73) → Option ((List (List Int)))
 | 0, _, _, _, _, _, _ => none
 | k + 1, x3, x26, x27, x28, x230000, x230001 => if x28 < x27 then (if 0 ≤ x28 then (if x28 < (x26.length : Int) then (if ((rd_T73 x26 x28).f0) < (wrap64 (x230000 - 1)) then (if 0 ≤ ((rd_T73 x26 x28).f0) then (if ((rd_T73 x26 x28).f0) < (x3.length : Int) then (if ((rd_T73 x26 x28).f0) < ((rd_L4 x3 ((rd_T73 x26 x28).f0)).length : Int) then (impl_Net_laplacian.j2 k (x3.set (((rd_T73 x26 x28).f0) : Int).toNat ((rd_L4 x3 ((rd_T73 x26 x28).f0)).set (((rd_T73 x26 x28).f0) : Int).toNat (wrap64 ((rd (rd_L4 x3 ((rd_T73 x26 x28).f0)) ((rd_T73 x26 x28).f0)) + 1)))) (wrap64 (x230000 - 1)) x26 x27 x28 x230000 x230001 ((rd_T73 x26 x28).f0) ((rd_T73 x26 x28).f1)) else (none)) else (none)) else (none)) else (impl_Net_laplacian.j2 k x3 (wrap64 (x230000 - 1)) x26 x27 x28 x230000 x230001 ((rd_T73 x26 x28).f0) ((rd_T73 x26 x28).f1))) else (none)) else (none)) else (some x3)
def impl_Net_laplacian.j2 : Nat → List (List Int) → Int → List (S73) → Int → Int → Int → List (S73) → Int → Int → Option ((List (List Int)))
 | 0, _, _, _, _, _, _, _, _, _ => none
 | k + 1, x3, x7, x26, x27, x28, x230000, x230001, x239000, x239001 => if x239001 < x7 then (if 0 ≤ x239001 then (if x239001 < (x3.length : Int) then (if x239001 < ((rd_L4 x3 x239001).length : Int) then ((some (x3.set (x239001 : Int).toNat ((rd_L4 x3 x239001).set (x239001 : Int).toNat (wrap64 ((rd (rd_L4 x3 x239001) x239001) + 1))) : List (List Int))).bind fun y248 => (if x239000 < x7 then (if 0 ≤ x239000 then (if x239000 < (x3.length : Int) then (if x239001 < ((rd_L4 y248 x239000).length : Int) then ((some (y248.set (x239000 : Int).toNat ((rd_L4 y248 x239000).set (x239001 : Int).toNat (wrap64 ((rd (rd_L4 y248 x239000) x239001) - 1))) : List (List Int))).bind fun y253 => (if x239000 < ((rd_L4 y253 x239001).length : Int) then (impl_Net_laplacian.l1 k (y253.set (x239001 : Int).toNat ((rd_L4 y253 x239001).set (x239000 : Int).toNat (wrap64 ((rd (rd_L4 y253 x239001) x239000) - 1)))) x26 x27 (wrap64 (x28 + 1)) x230000 x230001) else (none))) else (none)) else (none)) else (none)) else (impl_Net_laplacian.l1 k y248 x26 x27 (wrap64 (x28 + 1)) x230000 x230001))) else (none)) else (none)) else (none)) else (if x239000 < x7 then (impl_Net_laplacian.l1 k x3 x26 x27 (wrap64 (x28 + 1)) x230000 x230001) else (impl_Net_laplacian.l1 k x3 x26 x27 (wrap64 (x28 + 1)) x230000 x230001))
end
def impl_Net_laplacian.f (k : Nat) (a0_0 : Int) (l0_1 : List (S73)) : Option ((List (List Int))) := if 0 ≤ (wrap64 (a0_0 - 1)) then (if (wrap64 (a0_0 - 1) : Int).toNat ≤ 11728124029610 then ((some (List.replicate (wrap64 (a0_0 - 1) : Int).toNat [] : List (List Int))).bind fun y230 => (impl_Net_laplacian.l0 k y230 (y230.length : Int) 0 a0_0 l0_1)) else (none)) else (none)
def impl_Net_laplacian.T12 : Bool × List (List Nat × List Nat) := (true, [([], []), ([], []), ([1], [1]), ([0, 2], [0, 2]), ([3], [3]), ([], []), ([5], [5]), ([4, 6], [4, 6]), ([7], [7]), ([8], [8]), ([4, 6, 0, 1, 2, 3, 4, 5, 6, 7, 8, 9], [4, 6]), ([10, 9, 0, 1, 2, 3, 4, 5, 6, 7, 8, 9], [9, 10])])
def impl_Net_laplacian.B12 : List Nat := [0, 0, 2, 7, 15, 0, 32, 127, 255, 511, 1023, 2047]
theorem impl_Net_laplacian.tab12 : rtab .any (opsOf Try.f94 12) = impl_Net_laplacian.T12 := by kernel_rfl
theorem impl_Net_laplacian.bits12 : waitsOk impl_Net_laplacian.T12.2 impl_Net_laplacian.B12 = true := by kernel_rfl
def impl_Net_laplacian.T14 : Bool × List (List Nat × List Nat) := (true, [([], []), ([], []), ([1], [1]), ([0, 2], [0, 2]), ([3], [3]), ([], []), ([5], [5]), ([4, 6], [4, 6]), ([7], [7]), ([8], [8]), ([4, 6, 0, 1, 2, 3, 4, 5, 6, 7, 8, 9], [4, 6]), ([10, 9, 0, 1, 2, 3, 4, 5, 6, 7, 8, 9], [9, 10])])
def impl_Net_laplacian.B14 : List Nat := [0, 0, 2, 7, 15, 0, 32, 127, 255, 511, 1023, 2047]
theorem impl_Net_laplacian.tab14 : rtab .any (opsOf Try.f94 14) = impl_Net_laplacian.T14 := by kernel_rfl
theorem impl_Net_laplacian.bits14 : waitsOk impl_Net_laplacian.T14.2 impl_Net_laplacian.B14 = true := by kernel_rfl
def impl_Net_laplacian.T16 : Bool × List (List Nat × List Nat) := (true, [([], []), ([], []), ([1], [1]), ([0, 2], [0, 2]), ([3], [3]), ([], []), ([5], [5]), ([4, 6], [4, 6]), ([7], [7]), ([8], [8]), ([4, 6, 0, 1, 2, 3, 4, 5, 6, 7, 8, 9], [4, 6]), ([10, 9, 0, 1, 2, 3, 4, 5, 6, 7, 8, 9], [9, 10])])
def impl_Net_laplacian.B16 : List Nat := [0, 0, 2, 7, 15, 0, 32, 127, 255, 511, 1023, 2047]
theorem impl_Net_laplacian.tab16 : rtab .any (opsOf Try.f94 16) = impl_Net_laplacian.T16 := by kernel_rfl
theorem impl_Net_laplacian.bits16 : waitsOk impl_Net_laplacian.T16.2 impl_Net_laplacian.B16 = true := by kernel_rfl
def impl_Net_laplacian.T17 : Bool × List (List Nat × List Nat) := (true, [([], []), ([], []), ([1], [1]), ([0, 2], [0, 2]), ([3], [3]), ([], []), ([5], [5]), ([4, 6], [4, 6]), ([7], [7]), ([8], [8]), ([4, 6, 0, 1, 2, 3, 4, 5, 6, 7, 8, 9], [4, 6]), ([10, 9, 0, 1, 2, 3, 4, 5, 6, 7, 8, 9], [9, 10])])
def impl_Net_laplacian.B17 : List Nat := [0, 0, 2, 7, 15, 0, 32, 127, 255, 511, 1023, 2047]
theorem impl_Net_laplacian.tab17 : rtab .any (opsOf Try.f94 17) = impl_Net_laplacian.T17 := by kernel_rfl
theorem impl_Net_laplacian.bits17 : waitsOk impl_Net_laplacian.T17.2 impl_Net_laplacian.B17 = true := by kernel_rfl
set_option maxHeartbeats 8000000 in
set_option maxRecDepth 100000 in
theorem impl_Net_laplacian.calls (k : Nat) (a0_0 : Int) (A0_1 : Option Addr) (c0_1 : Nat) (l0_1 : List (S73)) (r : List (List Int)) (w : World) (hr0_1 : Kd.C k73 w A0_1 l0_1.length l0_1) (hc0_1 : l0_1.length ≤ c0_1) (h : impl_Net_laplacian.f k a0_0 l0_1 = some r) :
  Calls Try.prog 94 #[.agg #[.int .i64 a0_0, .slice A0_1 l0_1.length c0_1]] w fun e w' => ∃ v0_ : Value, e = .returned (v0_) ∧ Kd.S (Kd.slice 3 (Kd.int .i64)) 36 w' w.heap.size (fun _ => True) v0_ r ∧ Below w.heap.size w w' := by
 have hu30 := Try.underlying30
 have hu73 := Try.underlying73
 have HR0_1 := Aside0.mk hr0_1
 have HC0_1 := Aside0.mk hc0_1
 clear hr0_1 hc0_1
 have HB := Aside0.mk (Below.refl w.heap.size w)
 have H : (if 0 ≤ (wrap64 (a0_0 - 1)) then (if (wrap64 (a0_0 - 1) : Int).toNat ≤ 11728124029610 then ((some (List.replicate (wrap64 (a0_0 - 1) : Int).toNat [] : List (List Int))).bind fun y230 => (impl_Net_laplacian.l0 k y230 (y230.length : Int) 0 a0_0 l0_1)) else (none)) else (none)) = some r := h
 clear h
 obtain ⟨ji2, hji2⟩ : ∃ j_ : Int, (wrap64 (a0_0 - 1)) = j_ := ⟨_, rfl⟩
 replace H : (if 0 ≤ (ji2) then (if (ji2 : Int).toNat ≤ 11728124029610 then ((some (List.replicate (ji2 : Int).toNat [] : List (List Int))).bind fun y230 => (impl_Net_laplacian.l0 k y230 (y230.length : Int) 0 a0_0 l0_1)) else (none)) else (none)) = some r := by first | (rw [hji2] at H; exact H) | (simp only [hji2] at H ⊢; exact H)
 have hji2w : (IntKind.i64.wrap (a0_0 - 1)) = ji2 := (i64_w _).trans hji2
 by_cases c3 : 0 ≤ (ji2)
 ·rw [if_pos c3] at H
  have c3b0 := eq_true c3
  have c3b1 : decide (0 ≤ (ji2)) = true := decide_eq_true c3
  clear c3
  by_cases c4 : (ji2 : Int).toNat ≤ 11728124029610
  ·rw [if_pos c4] at H
   have c4b0 := eq_true c4
   have c4b1 : decide ((ji2 : Int).toNat ≤ 11728124029610) = true := decide_eq_true c4
   clear c4
   obtain ⟨y230, hy230⟩ : ∃ y_ : List (List Int), y_ = (List.replicate (ji2 : Int).toNat []) := ⟨_, rfl⟩
   replace H : (impl_Net_laplacian.l0 k y230 (y230.length : Int) 0 a0_0 l0_1) = some r := by first | (rw [hy230]; with_reducible exact H) | (have H2_ := (Option.bind_some _ _).symm.trans H; rw [hy230]; with_reducible exact H2_) | (have H2_ := (Option.bind_some _ _).symm.trans H; with_reducible exact H2_) | with_reducible exact H | (rw [hy230]; exact H) | exact H
   have Ny230 := Aside0.mk hy230
   clear hy230
   have H' := Aside0.mk H
   clear H
   go_enter Try.func94, Try.ntmps94
   go_wp2_with (first | ((with_reducible refine gate_dst (N := 1) rfl ?_); refine box_event ?hg (N := 1) ?hd (cs := #[.int .i64 a0_0, .slice A0_1 l0_1.length c0_1]) (t := 30) ?hr ?_; (case hd => rfl); (case hg => rfl); (case hr => first | (go_simp; done) | (go_simp; rfl)); intro gb229 hg w5 hbox hb; have n0_ := Aside0.mk (below_step (upW HB) hb); have n1_ := Aside0.mk (hbox); have n2_ := Aside0.mk ((by rw [hg]; exact (below_size (upW HB)) : w.heap.size ≤ gb229)); have n3_ := Aside0.mk ((by rw [hg]; exact (below_size (upW HB)) : w.heap.size ≤ gb229)); clear HB; have HB := n0_; have BK229 := n1_; have GW229 := n2_; have GE229 := n3_; clear n0_ n1_ n2_ n3_; clear hb hbox hg; have hcz6_0 : w5.cell? ⟨gb229, 0, none⟩ = some (.int .i64 a0_0) := (blk_cell BK229.out 0).trans rfl; have hcz6_1 : w5.cell? ⟨gb229, 1, none⟩ = some (.slice A0_1 l0_1.length c0_1) := (blk_cell BK229.out 1).trans rfl; have hfz6_0 := blk_frozen BK229.out 0; have hfz6_1 := blk_frozen BK229.out 1) | ((with_reducible refine gate_dst (N := 11) rfl ?_); refine Kd.S_make (Kd.slice 3 (Kd.int .i64)) _ 36 rfl (N := 11) rfl 91 _ _ rfl ji2 rfl rfl Try.underlying91 (.slice none 0 0) 24 info36 rfl (by decide) (by omega) [] (ok := fun _ => True) (okp := fun _ => True) ⟨_, rfl, Kd.R_nil _ _ _ _ _⟩ (fun _ hk => hk) trivial (of_decide_eq_true (by first | (with_reducible assumption) | assumption)) (Nat.le_trans (Nat.mul_le_mul_right _ (of_decide_eq_true (by first | (with_reducible assumption) | assumption) : ji2.toNat ≤ 11728124029610)) (by omega)) (Below.refl _ _) (Nat.le_refl _) ?_; intro v231 w7 ho8 hb hg_ hnew_; clear hg_ hnew_; (first | rw [← Ny230.out] at ho8 | (simp only [Int.reduceToNat] at ho8; rw [← Ny230.out] at ho8)); have n0_ := Aside0.mk (Kd.S_lower ho8 (below_size (upW HB))); have n1_ := Aside0.mk (blk_below (upK BK229) hb); have n2_ := Aside0.mk (below_step (upW HB) hb); clear BK229; clear HB; have HO232 := n0_; have BK229 := n1_; have HB := n2_; clear n0_ n1_ n2_; clear hb ho8; obtain ⟨Ao9, co9, eo9⟩ := Kd.S_slice HO232.out; subst eo9))
   go_loopg [14] k (fun kq v14 w' => ∃ (x3_1 : List (List Int)) (x14_1 : Int), v14 = .int .i64 x14_1 ∧ Aside0 (impl_Net_laplacian.l0 kq x3_1 (y230.length : Int) x14_1 a0_0 l0_1 = some r) ∧ Aside0 (kq ≤ k) ∧ Aside0 (Kd.S (Kd.slice 3 (Kd.int .i64)) 36 w' w.heap.size (fun _ => True) (.slice Ao9 y230.length co9) x3_1) ∧ Aside0 (w'.heap[gb229]? = some (.cells #[.int .i64 a0_0, (.slice A0_1 l0_1.length c0_1)] 30 (0, 0))) ∧ Aside0 (Below w.heap.size w w'))
   case atStart => exact ⟨(y230), (0), (by first | rfl | (simp; done) | (simp [*]; done)), H', ⟨Nat.le_refl _⟩, ⟨by (with_reducible repeat (first | apply Kd.S_alloc | apply Kd.S_drewN | apply Kd.S_drew)); exact HO232.out⟩, ⟨upK BK229⟩, ⟨upW HB⟩⟩
   case round =>
    clear H'
    try clear p2
    try clear c3
    try clear c3b0
    try clear c3b1
    try clear c4
    try clear c4b0
    try clear c4b1
    try clear p6
    try clear c9
    try clear hcz6_0
    try clear hcz6_1
    try clear hfz6_0
    try clear hfz6_1
    obtain ⟨x3_1, x14_1, rfl, HA, HK1, HO_3, BK229, HB⟩ := hrel
    have hl3_1 := (Kd.S_reads' HO_3.out).1
    rw [hl3_1] at HO_3
    (try simp only [hl3_1])
    (try simp only [hl3_1] at BK229)
    cases gk with
    | zero => exact absurd HA.out (by simp [impl_Net_laplacian.l0])
    | succ k1 =>
     have H := HA.out
     clear HA
     simp only [impl_Net_laplacian.l0] at H
     by_cases c10 : x14_1 < (y230.length : Int)
     ·rw [if_pos c10] at H
      have c10b0 : decide (x14_1 < (y230.length : Int)) = true := decide_eq_true c10
      (try (have c10b0h1 := c10b0; simp only [hl3_1] at c10b0h1))
      clear c10
      (try clear hji2w)
      (try clear hji2)
      obtain ⟨ji11, hji11⟩ : ∃ j_ : Int, (wrap64 (a0_0 - 1)) = j_ := ⟨_, rfl⟩
      replace H : (if 0 ≤ (ji11) then (if (ji11 : Int).toNat ≤ 35184372088832 then (if 0 ≤ x14_1 then (if x14_1 < (x3_1.length : Int) then (impl_Net_laplacian.l0 k1 (x3_1.set (x14_1 : Int).toNat (List.replicate (ji11 : Int).toNat 0)) (y230.length : Int) (wrap64 (x14_1 + 1)) a0_0 l0_1) else (none)) else (none)) else (none)) else (none)) = some r := by first | (rw [hji11] at H; exact H) | (simp only [hji11] at H ⊢; exact H)
      have hji11w : (IntKind.i64.wrap (a0_0 - 1)) = ji11 := (i64_w _).trans hji11
      by_cases c12 : 0 ≤ (ji11)
      ·rw [if_pos c12] at H
       have c12b0 := eq_true c12
       have c12b1 : decide (0 ≤ (ji11)) = true := decide_eq_true c12
       clear c12
       by_cases c13 : (ji11 : Int).toNat ≤ 35184372088832
       ·rw [if_pos c13] at H
        have c13b0 := eq_true c13
        have c13b1 : decide ((ji11 : Int).toNat ≤ 35184372088832) = true := decide_eq_true c13
        clear c13
        obtain ⟨y233, hy233⟩ : ∃ y_ : List Int, y_ = (List.replicate (ji11 : Int).toNat 0) := ⟨_, rfl⟩
        replace H : (if 0 ≤ x14_1 then (if x14_1 < (x3_1.length : Int) then (impl_Net_laplacian.l0 k1 (x3_1.set (x14_1 : Int).toNat y233) (y230.length : Int) (wrap64 (x14_1 + 1)) a0_0 l0_1) else (none)) else (none)) = some r := by first | (rw [hy233]; with_reducible exact H) | (have H2_ := (Option.bind_some _ _).symm.trans H; rw [hy233]; with_reducible exact H2_) | (have H2_ := (Option.bind_some _ _).symm.trans H; with_reducible exact H2_) | with_reducible exact H | (rw [hy233]; exact H) | exact H
        have Ny233 := Aside0.mk hy233
        clear hy233
        by_cases c14 : 0 ≤ x14_1
        ·rw [if_pos c14] at H
         have c14b0 : decide (0 ≤ x14_1) = true := decide_eq_true c14
         clear c14
         by_cases c15 : x14_1 < (x3_1.length : Int)
         ·rw [if_pos c15] at H
          have c15b0 : decide (x14_1 < (x3_1.length : Int)) = true := decide_eq_true c15
          (try (have c15b0h1 := c15b0; simp only [hl3_1] at c15b0h1))
          clear c15
          obtain ⟨y236, hy236⟩ : ∃ y_ : List (List Int), y_ = (x3_1.set (x14_1 : Int).toNat y233) := ⟨_, rfl⟩
          replace H : (impl_Net_laplacian.l0 k1 y236 (y230.length : Int) (wrap64 (x14_1 + 1)) a0_0 l0_1) = some r := by first | (rw [hy236]; with_reducible exact H) | (have H2_ := (Option.bind_some _ _).symm.trans H; rw [hy236]; with_reducible exact H2_) | (have H2_ := (Option.bind_some _ _).symm.trans H; with_reducible exact H2_) | with_reducible exact H | (rw [hy236]; exact H) | exact H
          have Ny236 := Aside0.mk hy236
          clear hy236
          have H' := Aside0.mk H
          clear H
          have hcz17_0 : wr.cell? ⟨gb229, 0, none⟩ = some (.int .i64 a0_0) := (blk_cell BK229.out 0).trans rfl
          have hcz17_1 : wr.cell? ⟨gb229, 1, none⟩ = some (.slice A0_1 l0_1.length c0_1) := (blk_cell BK229.out 1).trans rfl
          have hfz17_0 := blk_frozen BK229.out 0
          have hfz17_1 := blk_frozen BK229.out 1
          go_wp2_with (first | ((with_reducible refine gate_dst (N := 22) rfl ?_); refine Kd.R_make (Kd.int .i64) _ 3 rfl (N := 22) rfl 36 _ _ rfl ji11 rfl rfl Try.underlying36 (.int .i64 0) 8 info3 rfl (by decide) (by omega) 0 (ok := fun _ => True) (okp := fun _ => True) rfl (fun _ hk => hk) trivial (of_decide_eq_true (by first | (with_reducible assumption) | assumption)) (Nat.le_trans (Nat.mul_le_mul_right _ (of_decide_eq_true (by first | (with_reducible assumption) | assumption) : ji11.toNat ≤ 35184372088832)) (by omega)) (Below.refl _ _) (Nat.le_refl _) ?_; intro v234 w18 ho19 hb hg_ hnew_; clear hg_ hnew_; (first | rw [← Ny233.out] at ho19 | (simp only [Int.reduceToNat] at ho19; rw [← Ny233.out] at ho19)); have n0_ := Aside0.mk (Kd.S_elder' (by (with_reducible repeat (first | apply Kd.S_alloc | apply Kd.S_drewN | apply Kd.S_drew)); exact HO_3.out) (Kd.R_base ho19) hb); have n1_ := Aside0.mk (Kd.R_lower ho19 (below_size (upW HB))); have n2_ := Aside0.mk (blk_below (upK BK229) hb); have n3_ := Aside0.mk (below_step (upW HB) hb); clear HO_3; clear BK229; clear HB; have HO_3 := n0_; have HO235 := n1_; have BK229 := n2_; have HB := n3_; clear n0_ n1_ n2_ n3_; clear hb ho19; have p16 : 0 ≤ (x14_1 : Int) := of_decide_eq_true (by first | (with_reducible assumption) | assumption); have q16 : (x14_1 : Int) < ((x3_1.length : Int) : Int) := of_decide_eq_true (by first | (with_reducible assumption) | assumption); obtain ⟨go16, co16, eo16, gb16, gl16, cl16, HG16⟩ := Kd.S_form HO_3.out (by omega); (first | cases eo16 | (injection eo16 with ea_ en_ ec_; (first | subst ea_ | (injection ea_ with ea_; subst ea_)); subst ec_; clear en_)); have GB16 := Aside0.mk gb16; have GG16 := Aside0.mk HG16; clear gb16 gl16 HG16; obtain ⟨_, ce16, hcl16, hM16, hcc16, hfr16, _, _⟩ := Kd.S_elem HO_3.out [] (x14_1 : Int) p16 q16; obtain ⟨ve16_0, rfl, ge16_0⟩ := hM16; have hx16_0 := hcc16 0 _ rfl; have hf16_0 := hfr16 0; (try simp only [show ((Kd.slice 3 (Kd.int .i64))).sz = 1 from rfl, Nat.mul_one, Nat.add_zero] at hx16_0); (try simp only [show ((Kd.slice 3 (Kd.int .i64))).sz = 1 from rfl, Nat.mul_one, Nat.add_zero] at hf16_0); (try clear hM16); clear hcl16 hcc16 hfr16; replace p16 := eq_true p16; replace q16 := eq_true q16; have n_ := Aside0.mk (Kd.S_mono (ok' := (fun k_ => some k_ ≠ (v234 : Value).ownBlock)) HO_3.out (fun k_ hk => hk.2)); clear HO_3; have HO_3 := n_; clear n_; have HX20 := Aside0.mk (show Kd.S (Kd.slice 3 (Kd.int .i64)) 36 w18 w.heap.size (fun k_ => ((fun _ => True)) k_ ∧ ¬ ((fun k_ => some k_ = (v234 : Value).ownBlock)) k_) (.slice (some ⟨go16, 0, none⟩) x3_1.length co9) x3_1 from (by (with_reducible repeat (first | apply Kd.S_alloc | apply Kd.S_drewN | apply Kd.S_drew)); exact Kd.S_mono HO_3.out (fun k_ hk => ⟨trivial, fun e_ => hk e_⟩))); obtain ⟨oki20, ce20, hcl20, hM20, hcc20, hfr20, hoki20, hH20⟩ := Kd.S_elem HX20.out [] (x14_1 : Int) (of_decide_eq_true (by first | (with_reducible assumption) | assumption)) (by have h_ : (x14_1 : Int) < ((x3_1.length : Int) : Int) := of_decide_eq_true (by first | (with_reducible assumption) | assumption); first | exact h_ | (have e_ := (Kd.S_reads' HO_3.out).1; omega) | simpa using h_); obtain ⟨ve20_0, rfl, ge20_0⟩ := hM20; have HP20 := Kd.S_seg hH20 (of_decide_eq_true (by first | (with_reducible assumption) | assumption)) (by have h_ : (x14_1 : Int) < ((x3_1.length : Int) : Int) := of_decide_eq_true (by first | (with_reducible assumption) | assumption); first | exact h_ | (have e_ := (Kd.S_reads' HO_3.out).1; omega) | simpa using h_) (seg := [v234]) (j := 0) (show 1 ≤ 1 from by decide) (x' := y233) (Kd.M_row (Kd.R_mono (Kd.R_tight rfl (Kd.R_mono (ok' := fun k_ => ((fun _ => True)) k_ ∧ k_ ≠ go16) (Kd.R_apart' (HO235.out) (Kd.S_typed HO_3.out) (by decide)) (fun k_ hk => ⟨trivial, fun e_ => (hk.2) (by rw [e_]; rfl)⟩))) (fun _ h_ => Or.inr (h_)))) (fun _ hk => hk) (fun k_ hk_ => ((Kd.R_mono (ok' := fun k_ => ((fun _ => True)) k_ ∧ k_ ≠ go16) (Kd.R_apart' (HO235.out) (Kd.S_typed HO_3.out) (by decide)) (fun k_ hk => ⟨trivial, fun e_ => (hk.2) (by rw [e_]; rfl)⟩))).1 k_ hk_.symm); have hx20_0 := hcc20 0 _ rfl; (try simp only [show ((Kd.slice 3 (Kd.int .i64))).sz = 1 from rfl, Nat.mul_one, Nat.add_zero] at hx20_0); have hf20_0 := hfr20 0; (try simp only [show ((Kd.slice 3 (Kd.int .i64))).sz = 1 from rfl, Nat.mul_one, Nat.add_zero] at hf20_0); (try clear hM20); clear hcl20 hcc20 hfr20 hoki20 hH20; (try simp only [show ((Kd.slice 3 (Kd.int .i64))).sz = 1 from rfl, Nat.mul_one, Nat.add_zero] at HP20)) | ((with_reducible refine gate_store (t := 36) (p := 23) rfl ?_); refine store_event (t := 36) (p := 23) (v := ?vo_w21) (w1 := (w18.setCell ⟨go16, (x14_1 : Int).toNat, none⟩ (v234))) ?hg ?ho ?hn ?hr ?_; (case ho => rfl); (case hg => rfl); (case hn => rfl); (case hr => first | (go_simp; done) | (go_simp; rfl) | (obtain ⟨_, _, eo_⟩ := Kd.R_slice HO235.out; subst eo_; first | (go_simp; done) | (go_simp; rfl))); intro w21 hw; have hg : w18.grownBy w21 (some go16) := (by rw [hw]; exact HP20.2); have hp_ : Kd.S (Kd.slice 3 (Kd.int .i64)) 36 w21 w.heap.size (fun _ => True) (.slice (some ⟨go16, 0, none⟩) x3_1.length co9) y236 := (by rw [hw, Ny236.out]; exact HP20.1); clear HP20; have n0_ := Aside0.mk (hp_); have n1_ := Aside0.mk (blk_grown (upK BK229) hg (Kd.S_ne HO_3.out BK229.out (by decide))); have n2_ := Aside0.mk ((by rw [hw]; exact below_set (HB.out) GB16.out : Below w.heap.size w w21)); clear HO_3; clear BK229; clear HB; clear HO235; have HO_3 := n0_; have BK229 := n1_; have HB := n2_; clear n0_ n1_ n2_; clear hg hw hp_))
          (try simp only [← hl3_1])
          go_roundg k1
          case measure => have := HK1.out; omega
          case rel => exact ⟨(y236), (wrap64 (x14_1 + 1)), (by first | rfl | (simp; done) | (simp [*]; done)), H', ⟨by have := HK1.out; omega⟩, ⟨by (try simp only [hl3_1]); (with_reducible repeat (first | apply Kd.S_alloc | apply Kd.S_drewN | apply Kd.S_drew)); exact HO_3.out⟩, ⟨by (try simp only [hl3_1]); (with_reducible repeat (first | refine blk_drewN ?_ _ | refine blk_drew ?_ | refine blk_alloc ?_ _)); exact BK229.out⟩, ⟨upW HB⟩⟩
         ·rw [if_neg c15] at H
          exact absurd H (by simp)
        ·rw [if_neg c14] at H
         exact absurd H (by simp)
       ·rw [if_neg c13] at H
        exact absurd H (by simp)
      ·rw [if_neg c12] at H
       exact absurd H (by simp)
     ·rw [if_neg c10] at H
      have c10b0 : decide (x14_1 < (y230.length : Int)) = false := decide_eq_false c10
      (try (have c10b0h1 := c10b0; simp only [hl3_1] at c10b0h1))
      clear c10
      have H' := Aside0.mk H
      clear H
      have hcz22_0 : wr.cell? ⟨gb229, 0, none⟩ = some (.int .i64 a0_0) := (blk_cell BK229.out 0).trans rfl
      have hcz22_1 : wr.cell? ⟨gb229, 1, none⟩ = some (.slice A0_1 l0_1.length c0_1) := (blk_cell BK229.out 1).trans rfl
      have hfz22_0 := blk_frozen BK229.out 0
      have hfz22_1 := blk_frozen BK229.out 1
      go_wp2
      go_loopg [28] k1 (fun kq v28 w' => ∃ (x3_2 : List (List Int)) (x28_2 : Int), v28 = .int .i64 x28_2 ∧ Aside0 (impl_Net_laplacian.l1 kq x3_2 l0_1 (l0_1.length : Int) x28_2 a0_0 l0_1 = some r) ∧ Aside0 (kq ≤ k1) ∧ Aside0 (Kd.S (Kd.slice 3 (Kd.int .i64)) 36 w' w.heap.size (fun _ => True) (.slice Ao9 x3_1.length co9) x3_2) ∧ Aside0 (w'.heap[gb229]? = some (.cells #[.int .i64 a0_0, (.slice A0_1 l0_1.length c0_1)] 30 (0, 0))) ∧ Aside0 (Below w.heap.size w w'))
      case atStart => exact ⟨(x3_1), (0), (by first | rfl | (simp; done) | (simp [*]; done)), H', ⟨Nat.le_refl _⟩, ⟨by (try simp only [hl3_1]); (with_reducible repeat (first | apply Kd.S_alloc | apply Kd.S_drewN | apply Kd.S_drew)); exact HO_3.out⟩, ⟨by (try simp only [hl3_1]); (with_reducible repeat (first | refine blk_drewN ?_ _ | refine blk_drew ?_ | refine blk_alloc ?_ _)); exact BK229.out⟩, ⟨upW HB⟩⟩
      case round =>
       clear H'
       try clear c1
       try clear p1
       try clear q1
       try clear hx1
       try clear hf1
       try clear c2
       try clear p2
       try clear hx2
       try clear hf2
       try clear c3
       try clear c3b0
       try clear c3b1
       try clear c4
       try clear c4b0
       try clear c4b1
       try clear p6
       try clear c9
       try clear c10
       try clear c10b0
       try clear c10b0h1
       try clear c12
       try clear c12b0
       try clear c12b1
       try clear c13
       try clear c13b0
       try clear c13b1
       try clear c14
       try clear c14b0
       try clear c15
       try clear c15b0
       try clear c15b0h1
       try clear c16
       try clear p16
       try clear q16
       try clear hx16
       try clear hf16
       try clear c20
       try clear hx20
       try clear hf20
       try clear hcz17_0
       try clear hcz17_1
       try clear hcz22_0
       try clear hcz22_1
       try clear hcz6_0
       try clear hcz6_1
       try clear hfz17_0
       try clear hfz17_1
       try clear hfz22_0
       try clear hfz22_1
       try clear hfz6_0
       try clear hfz6_1
       try clear hx16_0
       try clear hx20_0
       try clear p16
       try clear p2
       try clear p6
       try clear q16
       obtain ⟨x3_2, x28_2, rfl, HA, HK2, HO_3, BK229, HB⟩ := hrel
       have hl3_2 := (Kd.S_reads' HO_3.out).1
       rw [hl3_2] at HO_3
       (try simp only [hl3_2])
       (try simp only [hl3_2] at BK229)
       cases gk with
       | zero => exact absurd HA.out (by simp [impl_Net_laplacian.l1])
       | succ k2 =>
        have H := HA.out
        clear HA
        simp only [impl_Net_laplacian.l1] at H
        by_cases c23 : x28_2 < (l0_1.length : Int)
        ·rw [if_pos c23] at H
         have c23b0 : decide (x28_2 < (l0_1.length : Int)) = true := decide_eq_true c23
         (try (have c23b0h1 := c23b0; simp only [hl3_1] at c23b0h1))
         (try (have c23b0h2 := c23b0; simp only [hl3_2] at c23b0h2))
         clear c23
         by_cases c24 : 0 ≤ x28_2
         ·rw [if_pos c24] at H
          have c24b0 : decide (0 ≤ x28_2) = true := decide_eq_true c24
          clear c24
          by_cases c25 : x28_2 < (l0_1.length : Int)
          ·rw [if_pos c25] at H
           have c25b0 : decide (x28_2 < (l0_1.length : Int)) = true := decide_eq_true c25
           (try (have c25b0h1 := c25b0; simp only [hl3_1] at c25b0h1))
           (try (have c25b0h2 := c25b0; simp only [hl3_2] at c25b0h2))
           clear c25
           have HC26 := Aside0.mk H
           clear H
           have p237 : 0 ≤ (x28_2 : Int) := of_decide_eq_true (by first | (with_reducible assumption) | assumption)
           have q237 : x28_2 < (l0_1.length : Int) := of_decide_eq_true (by first | (with_reducible assumption) | assumption)
           obtain ⟨ad237, e237, hx237_0, hx237_1⟩ := at_T73 HR0_1.out x28_2 p237 q237
           cases e237
           replace hx237_0 := (HB.out.cell (World.block_lt_of_cell? w _ hx237_0)).trans hx237_0
           replace hx237_1 := (HB.out.cell (World.block_lt_of_cell? w _ hx237_1)).trans hx237_1
           replace p237 := eq_true p237
           replace q237 := eq_true q237
           go_upto_if 38 with (first | ((with_reducible refine gate_dst (N := 6) rfl ?_); refine box_event ?hg (N := 6) ?hd (cs := #[.int .i64 0, .int .i64 0]) (t := 73) ?hr ?_; (case hd => rfl); (case hg => rfl); (case hr => first | (go_simp; done) | (go_simp; rfl)); intro gb238 hg w27 hbox hb; have n0_ := Aside0.mk (Kd.S_below (by (with_reducible repeat (first | apply Kd.S_alloc | apply Kd.S_drewN | apply Kd.S_drew)); exact HO_3.out) hb); have n1_ := Aside0.mk (blk_below (upK BK229) hb); have n2_ := Aside0.mk (below_step (upW HB) hb); have n3_ := Aside0.mk (hbox); have n4_ := Aside0.mk ((by rw [hg]; exact (below_size (upW HB)) : w.heap.size ≤ gb238)); have n5_ := Aside0.mk ((by rw [hg]; exact (below_size (upW HB)) : w.heap.size ≤ gb238)); have n6_ := Aside0.mk ((by rw [hg]; exact Nat.ne_of_lt (blk_lt (upK BK229)) : gb229 ≠ gb238)); have n7_ := Aside0.mk ((by rw [hg]; exact Nat.ne_of_gt (blk_lt (upK BK229)) : gb238 ≠ gb229)); clear HO_3; clear BK229; clear HB; have HO_3 := n0_; have BK229 := n1_; have HB := n2_; have BK238 := n3_; have GW238 := n4_; have GE238 := n5_; have NB229_238 := n6_; have NB238_229 := n7_; clear n0_ n1_ n2_ n3_ n4_ n5_ n6_ n7_; clear hb hbox hg; have hnb28 := NB238_229.out; have hnc28 := NB229_238.out; have hcz29_0 : w27.cell? ⟨gb238, 0, none⟩ = some (.int .i64 0) := (blk_cell BK238.out 0).trans rfl; have hcz29_1 : w27.cell? ⟨gb238, 1, none⟩ = some (.int .i64 0) := (blk_cell BK238.out 1).trans rfl; have hfz29_0 := blk_frozen BK238.out 0; have hfz29_1 := blk_frozen BK238.out 1; have hcz30_0 : w27.cell? ⟨gb229, 0, none⟩ = some (.int .i64 a0_0) := (blk_cell BK229.out 0).trans rfl; have hcz30_1 : w27.cell? ⟨gb229, 1, none⟩ = some (.slice (some ad237) l0_1.length c0_1) := (blk_cell BK229.out 1).trans rfl; have hfz30_0 := blk_frozen BK229.out 0; have hfz30_1 := blk_frozen BK229.out 1))
           (try simp only [Act.put, List.setIfInBounds_toArray, List.set_cons_zero, List.set_cons_succ])
           go_cut [] (fun wc => ∃ (kq : Nat) (x3_25 : List (List Int)), Aside0 (impl_Net_laplacian.j2 kq x3_25 (wrap64 (a0_0 - 1)) l0_1 (l0_1.length : Int) x28_2 a0_0 l0_1 ((rd_T73 l0_1 x28_2).f0) ((rd_T73 l0_1 x28_2).f1) = some r) ∧ Aside0 (kq ≤ k2) ∧ Aside0 (Kd.S (Kd.slice 3 (Kd.int .i64)) 36 wc w.heap.size (fun _ => True) (.slice Ao9 x3_2.length co9) x3_25) ∧ Aside0 (wc.heap[gb229]? = some (.cells #[.int .i64 a0_0, (.slice (some ad237) l0_1.length c0_1)] 30 (0, 0))) ∧ Aside0 (wc.heap[gb238]? = some (.cells #[.int .i64 ((rd_T73 l0_1 x28_2).f0), .int .i64 ((rd_T73 l0_1 x28_2).f1)] 73 (0, 0))) ∧ Aside0 (Below w.heap.size w wc))
           case first =>
            have H := HC26.out
            clear HC26
            by_cases c31 : ((rd_T73 l0_1 x28_2).f0) < (wrap64 (a0_0 - 1))
            ·rw [if_pos c31] at H
             have c31b0 : decide (((rd_T73 l0_1 x28_2).f0) < (wrap64 (a0_0 - 1))) = true := decide_eq_true c31
             (try (have c31b0h0 := c31b0; simp only [hji2] at c31b0h0))
             clear c31
             (first | rw [c31b0] | (simp only [i64_w, i32_w]; rw [c31b0]) | rw [c31b0h0] | skip)
             by_cases c32 : 0 ≤ ((rd_T73 l0_1 x28_2).f0)
             ·rw [if_pos c32] at H
              have c32b0 : decide (0 ≤ ((rd_T73 l0_1 x28_2).f0)) = true := decide_eq_true c32
              clear c32
              by_cases c33 : ((rd_T73 l0_1 x28_2).f0) < (x3_2.length : Int)
              ·rw [if_pos c33] at H
               have c33b0 : decide (((rd_T73 l0_1 x28_2).f0) < (x3_2.length : Int)) = true := decide_eq_true c33
               (try (have c33b0h1 := c33b0; simp only [hl3_1] at c33b0h1))
               (try (have c33b0h2 := c33b0; simp only [hl3_2] at c33b0h2))
               clear c33
               by_cases c34 : ((rd_T73 l0_1 x28_2).f0) < ((rd_L4 x3_2 ((rd_T73 l0_1 x28_2).f0)).length : Int)
               ·rw [if_pos c34] at H
                have c34b0 : decide (((rd_T73 l0_1 x28_2).f0) < ((rd_L4 x3_2 ((rd_T73 l0_1 x28_2).f0)).length : Int)) = true := decide_eq_true c34
                (try (have c34b0h1 := c34b0; simp only [hl3_1] at c34b0h1))
                (try (have c34b0h2 := c34b0; simp only [hl3_2] at c34b0h2))
                clear c34
                obtain ⟨y241, hy241⟩ : ∃ y_ : List Int, y_ = ((rd_L4 x3_2 ((rd_T73 l0_1 x28_2).f0)).set (((rd_T73 l0_1 x28_2).f0) : Int).toNat (wrap64 ((rd (rd_L4 x3_2 ((rd_T73 l0_1 x28_2).f0)) ((rd_T73 l0_1 x28_2).f0)) + 1))) := ⟨_, rfl⟩
                replace H : (impl_Net_laplacian.j2 k2 (x3_2.set (((rd_T73 l0_1 x28_2).f0) : Int).toNat y241) (wrap64 (a0_0 - 1)) l0_1 (l0_1.length : Int) x28_2 a0_0 l0_1 ((rd_T73 l0_1 x28_2).f0) ((rd_T73 l0_1 x28_2).f1)) = some r := by first | (rw [hy241]; with_reducible exact H) | (have H2_ := (Option.bind_some _ _).symm.trans H; rw [hy241]; with_reducible exact H2_) | (have H2_ := (Option.bind_some _ _).symm.trans H; with_reducible exact H2_) | with_reducible exact H | (rw [hy241]; exact H) | exact H
                have Ny241 := Aside0.mk hy241
                clear hy241
                obtain ⟨y243, hy243⟩ : ∃ y_ : List (List Int), y_ = (x3_2.set (((rd_T73 l0_1 x28_2).f0) : Int).toNat y241) := ⟨_, rfl⟩
                replace H : (impl_Net_laplacian.j2 k2 y243 (wrap64 (a0_0 - 1)) l0_1 (l0_1.length : Int) x28_2 a0_0 l0_1 ((rd_T73 l0_1 x28_2).f0) ((rd_T73 l0_1 x28_2).f1)) = some r := by first | (rw [hy243]; with_reducible exact H) | (have H2_ := (Option.bind_some _ _).symm.trans H; rw [hy243]; with_reducible exact H2_) | (have H2_ := (Option.bind_some _ _).symm.trans H; with_reducible exact H2_) | with_reducible exact H | (rw [hy243]; exact H) | exact H
                have Ny243 := Aside0.mk hy243
                clear hy243
                have H' := Aside0.mk H
                clear H
                try go_wp2
                have n0_ : Aside0 (Kd.S (Kd.slice 3 (Kd.int .i64)) 36 ((w27.setCell ⟨gb238, 0, none⟩ (.int .i64 ((rd_T73 l0_1 x28_2).f0))).setCell ⟨gb238, 1, none⟩ (.int .i64 ((rd_T73 l0_1 x28_2).f1))) w.heap.size (fun _ => True) (.slice Ao9 x3_2.length co9) x3_2) := ⟨by (with_reducible repeat (first | apply Kd.S_alloc | apply Kd.S_drewN | apply Kd.S_drew)); exact Kd.S_mono (Kd.S_far (p := ⟨gb238, 1, none⟩) (Kd.S_far (p := ⟨gb238, 0, none⟩) (Kd.S_types HO_3.out BK238.out (by decide)) (fun _ hk => hk.2) (.int .i64 ((rd_T73 l0_1 x28_2).f0))) (fun _ hk => hk.2) (.int .i64 ((rd_T73 l0_1 x28_2).f1))) (fun _ hk => trivial)⟩
                have n1_ : Aside0 (((w27.setCell ⟨gb238, 0, none⟩ (.int .i64 ((rd_T73 l0_1 x28_2).f0))).setCell ⟨gb238, 1, none⟩ (.int .i64 ((rd_T73 l0_1 x28_2).f1))).heap[gb229]? = some (.cells #[.int .i64 a0_0, .slice (some ad237) l0_1.length c0_1] 30 (0, 0))) := ⟨upF BK229⟩
                have n2_ : Aside0 (((w27.setCell ⟨gb238, 0, none⟩ (.int .i64 ((rd_T73 l0_1 x28_2).f0))).setCell ⟨gb238, 1, none⟩ (.int .i64 ((rd_T73 l0_1 x28_2).f1))).heap[gb238]? = some (.cells #[.int .i64 ((rd_T73 l0_1 x28_2).f0), .int .i64 ((rd_T73 l0_1 x28_2).f1)] 73 (0, 0))) := ⟨by (with_reducible repeat (first | refine blk_drewN ?_ _ | refine blk_drew ?_ | refine blk_alloc ?_ _)); refine blk_put (cs := #[.int .i64 ((rd_T73 l0_1 x28_2).f0), .int .i64 0]) ?_ 1 _ rfl; (with_reducible repeat (first | refine blk_drewN ?_ _ | refine blk_drew ?_ | refine blk_alloc ?_ _)); refine blk_put (cs := #[.int .i64 0, .int .i64 0]) ?_ 0 _ rfl; (with_reducible repeat (first | refine blk_drewN ?_ _ | refine blk_drew ?_ | refine blk_alloc ?_ _)); exact BK238.out⟩
                have n3_ : Aside0 (Below w.heap.size w ((w27.setCell ⟨gb238, 0, none⟩ (.int .i64 ((rd_T73 l0_1 x28_2).f0))).setCell ⟨gb238, 1, none⟩ (.int .i64 ((rd_T73 l0_1 x28_2).f1)))) := ⟨upW HB⟩
                (try clear HO_3)
                (try clear BK229)
                (try clear BK238)
                (try clear HB)
                (try simp only [drewN_setCell])
                generalize ((w27.setCell ⟨gb238, 0, none⟩ (.int .i64 ((rd_T73 l0_1 x28_2).f0))).setCell ⟨gb238, 1, none⟩ (.int .i64 ((rd_T73 l0_1 x28_2).f1))) = w36 at n0_ n1_ n2_ n3_ ⊢
                have HO_3 := n0_
                have BK229 := n1_
                have BK238 := n2_
                have HB := n3_
                clear n0_ n1_ n2_ n3_
                have n0_ := Aside0.mk (Kd.S_drew HO_3.out)
                have n1_ := Aside0.mk (blk_drew BK229.out)
                have n2_ := Aside0.mk (blk_drew BK238.out)
                have n3_ := Aside0.mk (below_drew1 HB.out)
                clear HO_3
                clear BK229
                clear BK238
                clear HB
                have HO_3 := n0_
                have BK229 := n1_
                have BK238 := n2_
                have HB := n3_
                clear n0_ n1_ n2_ n3_
                have p239 : 0 ≤ (((rd_T73 l0_1 x28_2).f0) : Int) := of_decide_eq_true (by first | (with_reducible assumption) | assumption)
                have q239 : ((rd_T73 l0_1 x28_2).f0) < (x3_2.length : Int) := of_decide_eq_true (by first | (with_reducible assumption) | assumption)
                obtain ⟨ad239, A239_0, c239_0, e239, hx239_0, hl239_0, hi239_0⟩ := at_L4 (Kd.S_reads' HO_3.out).2.2 ((rd_T73 l0_1 x28_2).f0) p239 q239
                cases e239
                obtain ⟨ce239, hce239, hMe239, hcc239⟩ := Kd.S_get HO_3.out [] ((rd_T73 l0_1 x28_2).f0) p239 (by first | exact q239 | exact of_decide_eq_true (by first | (with_reducible assumption) | assumption) | (have e_ := (Kd.S_reads' HO_3.out).1; omega))
                obtain ⟨ve239_0, rfl, ge239_0⟩ := hMe239
                have hv239_0 := hcc239 0 _ rfl
                rw [Nat.add_zero, show ((Kd.slice 3 (Kd.int .i64))).sz = 1 from rfl, Nat.mul_one] at hv239_0
                replace hv239_0 := Option.some.inj (hv239_0.symm.trans hx239_0)
                rw [hv239_0] at ge239_0
                have HL239_0 := Aside0.mk (show Kd.R (Kd.int .i64) 3 _ _ _ _ (rd_L4 x3_2 ((rd_T73 l0_1 x28_2).f0)) from ge239_0)
                clear hv239_0 ge239_0
                have HX239_0 := Aside0.mk hx239_0
                clear hcc239 hce239
                have HR239_0 := Aside0.mk hi239_0
                have HC239_0 := Aside0.mk hl239_0
                clear hi239_0 hl239_0
                replace p239 := eq_true p239
                replace q239 := eq_true q239
                have p240 : 0 ≤ (((rd_T73 l0_1 x28_2).f0) : Int) := of_decide_eq_true (by first | (with_reducible assumption) | assumption)
                have q240 : ((rd_T73 l0_1 x28_2).f0) < ((rd_L4 x3_2 ((rd_T73 l0_1 x28_2).f0)).length : Int) := of_decide_eq_true (by first | (with_reducible assumption) | assumption)
                obtain ⟨ad240, e240, hx240_0⟩ := Kd.at_int (by repeat (first | (with_reducible exact HR239_0.out) | (with_reducible refine Kd.C_alloc ?_ _) | (with_reducible refine Kd.C_drewN ?_ _) | (with_reducible refine Kd.C_drew ?_) | exact HR239_0.out)) ((rd_T73 l0_1 x28_2).f0) p240 q240
                cases e240
                replace p240 := eq_true p240
                replace q240 := eq_true q240
                have p35 : 0 ≤ (((rd_T73 l0_1 x28_2).f0) : Int) := of_decide_eq_true (by first | (with_reducible assumption) | assumption)
                have q35 : (((rd_T73 l0_1 x28_2).f0) : Int) < (((rd_L4 x3_2 ((rd_T73 l0_1 x28_2).f0)).length : Int) : Int) := of_decide_eq_true (by first | (with_reducible assumption) | assumption)
                obtain ⟨go35, co35, eo35, gb35, gl35, cl35, HG35⟩ := Kd.R_form HL239_0.out (by omega)
                (first | cases eo35 | (injection eo35 with ea_ en_ ec_; (first | subst ea_ | (injection ea_ with ea_; subst ea_)); subst ec_; clear en_))
                have GB35 := Aside0.mk gb35
                have GG35 := Aside0.mk HG35
                clear gb35 gl35 HG35
                (first | simp only [add_plain] at hx240_0 | skip)
                obtain ⟨hx35_0, hf35_0⟩ := Kd.R_celln 0 HL239_0.out (((rd_T73 l0_1 x28_2).f0) : Int) p35 q35
                replace p35 := eq_true p35
                replace q35 := eq_true q35
                have hq38 : (((rd_T73 l0_1 x28_2).f0) : Int) < (x3_2.length : Int) := (by have h_ : (((rd_T73 l0_1 x28_2).f0) : Int) < ((x3_2.length : Int) : Int) := of_decide_eq_true (by first | (with_reducible assumption) | assumption); first | exact h_ | (have e_ := (Kd.S_reads' HO_3.out).1; omega) | simpa only [List.length_set, List.length_set] using h_)
                obtain ⟨oki38, ce38, hcl38, hM38, hcc38, hok38, hbk38⟩ := Kd.S_borrow HO_3.out [] (((rd_T73 l0_1 x28_2).f0) : Int) (of_decide_eq_true (by first | (with_reducible assumption) | assumption)) (by first | exact hq38 | (have e_ := (Kd.S_reads' HO_3.out).1; omega))
                obtain ⟨ve38_0, rfl, ge38_0⟩ := hM38
                have hv38 := hcc38 0 _ rfl
                rw [Nat.add_zero, show ((Kd.slice 3 (Kd.int .i64))).sz = 1 from rfl, Nat.mul_one] at hv38
                replace hv38 := Option.some.inj (hv38.symm.trans HX239_0.out)
                subst hv38
                clear hcc38 hcl38
                replace ge38_0 := (show Kd.R (Kd.int .i64) 3 _ _ _ _ (rd_L4 x3_2 ((rd_T73 l0_1 x28_2).f0)) from ge38_0)
                have HP38 := Kd.R_putg ge38_0 (((rd_T73 l0_1 x28_2).f0) : Int) (wrap64 ((rd (rd_L4 x3_2 ((rd_T73 l0_1 x28_2).f0)) ((rd_T73 l0_1 x28_2).f0)) + 1))
                rw [← Ny241.out] at HP38
                have HS38 := hbk38 HP38.2 (fun k_ e_ => by injection e_ with e_; subst e_; exact ge38_0.1 _ rfl) (x' := y241) (Kd.M_row HP38.1)
                rw [← Ny243.out] at HS38
                have HQ38 := Aside0.mk HS38
                clear HP38 HS38 hbk38 hok38
                refine start_ (n := 12) (S := fun w' => w'.cell? ⟨gb238, 0, none⟩ = some (.int .i64 ((rd_T73 l0_1 x28_2).f0)) ∧ w'.cell? ⟨gb238, 1, none⟩ = some (.int .i64 ((rd_T73 l0_1 x28_2).f1)) ∧ w'.cell? (ad239.add (((rd_T73 l0_1 x28_2).f0)).toNat) = some (.slice (some ⟨go35, 0, none⟩) (rd_L4 x3_2 ((rd_T73 l0_1 x28_2).f0)).length c239_0) ∧ w'.cell? ⟨go35, (((rd_T73 l0_1 x28_2).f0)).toNat, none⟩ = some (.int .i64 (rd (rd_L4 x3_2 ((rd_T73 l0_1 x28_2).f0)) ((rd_T73 l0_1 x28_2).f0)))) (ds := [11]) #[false, false, false, false, false, false, false, false, false, false, false, false] (by kernel_rfl) rfl rfl ⟨(blk_cell BK238.out 0).trans rfl, (blk_cell BK238.out 1).trans rfl, hx239_0, hx240_0⟩ (fun hHeld => ?_); refine with_tabW impl_Net_laplacian.tab12 impl_Net_laplacian.bits12 (fun HT_ HW_ => ?_)
                generalize w36.drew = w37 at HO_3 BK229 BK238 HB GG35 HL239_0 HQ38 HR239_0 HX239_0 hf35_0 hx239_0 hx240_0 hx35_0 hHeld ⊢
                refine pure_ (i := 0) (N := some 39) (v := ?_) (a' := ?_) #[true, false, false, false, false, false, false, false, false, false, false, false] rfl rfl (any_of HT_.out (by kernel_rfl)) (fun _ _ _ h => h) (Or.inl ⟨by rfl, ?_⟩) ?_ ?_
                rotate_left
                ·intro w'
                 go_simp
                 with_reducible rfl
                rotate_left
                ·simp only [Act.put, List.setIfInBounds_toArray, List.set_cons_zero, List.set_cons_succ, i64_w, i32_w]
                 rfl
                refine pure_ (i := 1) (N := some 40) (v := ?_) (a' := ?_) #[true, true, false, false, false, false, false, false, false, false, false, false] rfl rfl (any_of HT_.out (by kernel_rfl)) (fun _ _ _ h => h) (Or.inl ⟨by rfl, ?_⟩) ?_ ?_
                rotate_left
                ·intro w'
                 go_simp
                 with_reducible rfl
                rotate_left
                ·simp only [Act.put, List.setIfInBounds_toArray, List.set_cons_zero, List.set_cons_succ, i64_w, i32_w]
                 rfl
                refine pure_ (i := 5) (N := some 44) (v := ?_) (a' := ?_) #[true, true, false, false, false, true, false, false, false, false, false, false] rfl rfl (any_of HT_.out (by kernel_rfl)) (fun _ _ _ h => h) (Or.inl ⟨by rfl, ?_⟩) ?_ ?_
                rotate_left
                ·intro w'
                 go_simp
                 with_reducible rfl
                rotate_left
                ·simp only [Act.put, List.setIfInBounds_toArray, List.set_cons_zero, List.set_cons_succ, i64_w, i32_w]
                 rfl
                refine take_ (i := 2) (N := some 41) (v := ?_) (a' := ?_) #[true, true, true, false, false, true, false, false, false, false, false, false] rfl rfl (take_ofW HT_.out HW_.out (by kernel_rfl)) (fun _ _ _ h => h) (Or.inl ⟨by rfl, ?_⟩) hHeld ?_ ?_
                rotate_left
                ·rintro w' ⟨s0, s1, s2, s3⟩
                 go_simp
                 with_reducible rfl
                rotate_left
                ·simp only [Act.put, List.setIfInBounds_toArray, List.set_cons_zero, List.set_cons_succ, i64_w, i32_w]
                 rfl
                refine pure_ (i := 3) (N := some 42) (v := ?_) (a' := ?_) #[true, true, true, true, false, true, false, false, false, false, false, false] rfl rfl (any_of HT_.out (by kernel_rfl)) (fun _ _ _ h => h) (Or.inl ⟨by rfl, ?_⟩) ?_ ?_
                rotate_left
                ·intro w'
                 go_simp
                 with_reducible rfl
                rotate_left
                ·simp only [Act.put, List.setIfInBounds_toArray, List.set_cons_zero, List.set_cons_succ, i64_w, i32_w]
                 rfl
                refine take_ (i := 4) (N := some 43) (v := ?_) (a' := ?_) #[true, true, true, true, true, true, false, false, false, false, false, false] rfl rfl (take_ofW HT_.out HW_.out (by kernel_rfl)) (fun _ _ _ h => h) (Or.inl ⟨by rfl, ?_⟩) hHeld ?_ ?_
                rotate_left
                ·rintro w' ⟨s0, s1, s2, s3⟩
                 go_simp
                 with_reducible rfl
                rotate_left
                ·simp only [Act.put, List.setIfInBounds_toArray, List.set_cons_zero, List.set_cons_succ, i64_w, i32_w]
                 rfl
                refine take_ (i := 6) (N := some 45) (v := ?_) (a' := ?_) #[true, true, true, true, true, true, true, false, false, false, false, false] rfl rfl (take_ofW HT_.out HW_.out (by kernel_rfl)) (fun _ _ _ h => h) (Or.inl ⟨by rfl, ?_⟩) hHeld ?_ ?_
                rotate_left
                ·rintro w' ⟨s0, s1, s2, s3⟩
                 go_simp
                 with_reducible rfl
                rotate_left
                ·simp only [Act.put, List.setIfInBounds_toArray, List.set_cons_zero, List.set_cons_succ, i64_w, i32_w]
                 rfl
                refine pure_ (i := 7) (N := some 46) (v := ?_) (a' := ?_) #[true, true, true, true, true, true, true, true, false, false, false, false] rfl rfl (any_of HT_.out (by kernel_rfl)) (fun _ _ _ h => h) (Or.inl ⟨by rfl, ?_⟩) ?_ ?_
                rotate_left
                ·intro w'
                 go_simp
                 with_reducible rfl
                rotate_left
                ·simp only [Act.put, List.setIfInBounds_toArray, List.set_cons_zero, List.set_cons_succ, i64_w, i32_w]
                 rfl
                refine take_ (i := 8) (N := some 47) (v := ?_) (a' := ?_) #[true, true, true, true, true, true, true, true, true, false, false, false] rfl rfl (take_ofW HT_.out HW_.out (by kernel_rfl)) (fun _ _ _ h => h) (Or.inl ⟨by rfl, ?_⟩) hHeld ?_ ?_
                rotate_left
                ·rintro w' ⟨s0, s1, s2, s3⟩
                 go_simp
                 with_reducible rfl
                rotate_left
                ·simp only [Act.put, List.setIfInBounds_toArray, List.set_cons_zero, List.set_cons_succ, i64_w, i32_w]
                 rfl
                refine pure_ (i := 9) (N := some 48) (v := ?_) (a' := ?_) #[true, true, true, true, true, true, true, true, true, true, false, false] rfl rfl (any_of HT_.out (by kernel_rfl)) (fun _ _ _ h => h) (Or.inl ⟨by rfl, ?_⟩) ?_ ?_
                rotate_left
                ·intro w'
                 go_simp
                 with_reducible rfl
                rotate_left
                ·simp only [Act.put, List.setIfInBounds_toArray, List.set_cons_zero, List.set_cons_succ, i64_w, i32_w]
                 rfl
                refine pure_ (i := 10) (N := some 49) (v := ?_) (a' := ?_) #[true, true, true, true, true, true, true, true, true, true, true, false] rfl rfl (any_of HT_.out (by kernel_rfl)) (fun _ _ _ h => h) (Or.inl ⟨by rfl, ?_⟩) ?_ ?_
                rotate_left
                ·intro w'
                 go_simp
                 with_reducible rfl
                rotate_left
                ·simp only [Act.put, List.setIfInBounds_toArray, List.set_cons_zero, List.set_cons_succ, i64_w, i32_w]
                 rfl
                refine last_ (i := 11) (N := none) #[true, true, true, true, true, true, true, true, true, true, true, true] rfl rfl (one_of HT_.out (by kernel_rfl)) (by decide) (fun K hK => ?_)
                refine skip_ (w1 := ?_) (by rfl) rfl ?_ ?_
                rotate_left
                ·go_simp
                 rfl
                refine hK.out _ _ ?_
                clear hK K
                refine done_ (done_of HT_.out (by kernel_rfl)) ?_
                try go_wp2
                go_meet
                case rel => exact ⟨_, (y243), H', ⟨by have := HK1.out; have := HK2.out; first | omega | exact Nat.le_refl _⟩, ⟨by (try simp only [hl3_1]); (try simp only [hl3_2]); (with_reducible repeat (first | apply Kd.S_alloc | apply Kd.S_drewN | apply Kd.S_drew)); exact HQ38.out⟩, ⟨by (try simp only [hl3_1]); (try simp only [hl3_2]); (with_reducible repeat (first | refine blk_drewN ?_ _ | refine blk_drew ?_ | refine blk_alloc ?_ _)); refine blk_far ?_ (by have h_ := Kd.R_ne HL239_0.out BK229.out (by decide); intro e_; exact h_ (by rw [e_]; rfl)) _; (with_reducible repeat (first | refine blk_drewN ?_ _ | refine blk_drew ?_ | refine blk_alloc ?_ _)); exact BK229.out⟩, ⟨by (try simp only [hl3_1]); (try simp only [hl3_2]); (with_reducible repeat (first | refine blk_drewN ?_ _ | refine blk_drew ?_ | refine blk_alloc ?_ _)); refine blk_far ?_ (by have h_ := Kd.R_ne HL239_0.out BK238.out (by decide); intro e_; exact h_ (by rw [e_]; rfl)) _; (with_reducible repeat (first | refine blk_drewN ?_ _ | refine blk_drew ?_ | refine blk_alloc ?_ _)); exact BK238.out⟩, ⟨by repeat (first | (with_reducible first | exact HB.out | apply below_alloc | apply pw_below_drewN | apply below_drew1 | refine below_set ?_ GB35.out | refine below_set ?_ GE229.out | refine below_set ?_ GE238.out) | exact HB.out)⟩⟩
               ·rw [if_neg c34] at H
                exact absurd H (by simp)
              ·rw [if_neg c33] at H
               exact absurd H (by simp)
             ·rw [if_neg c32] at H
              exact absurd H (by simp)
            ·rw [if_neg c31] at H
             have c31b0 : decide (((rd_T73 l0_1 x28_2).f0) < (wrap64 (a0_0 - 1))) = false := decide_eq_false c31
             (try (have c31b0h0 := c31b0; simp only [hji2] at c31b0h0))
             clear c31
             (first | rw [c31b0] | (simp only [i64_w, i32_w]; rw [c31b0]) | rw [c31b0h0] | skip)
             have H' := Aside0.mk H
             clear H
             go_wp2
             go_meet
             case rel => exact ⟨_, (x3_2), H', ⟨by have := HK1.out; have := HK2.out; first | omega | exact Nat.le_refl _⟩, ⟨by (try simp only [hl3_1]); (try simp only [hl3_2]); (with_reducible repeat (first | apply Kd.S_alloc | apply Kd.S_drewN | apply Kd.S_drew)); exact Kd.S_mono (Kd.S_far (p := ⟨gb238, 1, none⟩) (Kd.S_far (p := ⟨gb238, 0, none⟩) (Kd.S_types HO_3.out BK238.out (by decide)) (fun _ hk => hk.2) (.int .i64 ((rd_T73 l0_1 x28_2).f0))) (fun _ hk => hk.2) (.int .i64 ((rd_T73 l0_1 x28_2).f1))) (fun _ hk => trivial)⟩, ⟨by (try simp only [hl3_1]); (try simp only [hl3_2]); (with_reducible repeat (first | refine blk_drewN ?_ _ | refine blk_drew ?_ | refine blk_alloc ?_ _)); refine blk_far ?_ NB229_238.out _; (with_reducible repeat (first | refine blk_drewN ?_ _ | refine blk_drew ?_ | refine blk_alloc ?_ _)); refine blk_far ?_ NB229_238.out _; (with_reducible repeat (first | refine blk_drewN ?_ _ | refine blk_drew ?_ | refine blk_alloc ?_ _)); exact BK229.out⟩, ⟨by (try simp only [hl3_1]); (try simp only [hl3_2]); (with_reducible repeat (first | refine blk_drewN ?_ _ | refine blk_drew ?_ | refine blk_alloc ?_ _)); refine blk_put (cs := #[.int .i64 ((rd_T73 l0_1 x28_2).f0), .int .i64 0]) ?_ 1 _ rfl; (with_reducible repeat (first | refine blk_drewN ?_ _ | refine blk_drew ?_ | refine blk_alloc ?_ _)); refine blk_put (cs := #[.int .i64 0, .int .i64 0]) ?_ 0 _ rfl; (with_reducible repeat (first | refine blk_drewN ?_ _ | refine blk_drew ?_ | refine blk_alloc ?_ _)); exact BK238.out⟩, ⟨upW HB⟩⟩
           case rest =>
            clear HC26
            try clear c1
            try clear p1
            try clear q1
            try clear hx1
            try clear hf1
            try clear c2
            try clear p2
            try clear q2
            try clear hx2
            try clear hf2
            try clear c3
            try clear c3b0
            try clear c3b1
            try clear p3
            try clear q3
            try clear hx3
            try clear hf3
            try clear c4
            try clear c4b0
            try clear c4b1
            try clear p6
            try clear c9
            try clear c10
            try clear c10b0
            try clear c10b0h1
            try clear c12
            try clear c12b0
            try clear c12b1
            try clear c13
            try clear c13b0
            try clear c13b1
            try clear c14
            try clear c14b0
            try clear c15
            try clear c15b0
            try clear c15b0h1
            try clear c16
            try clear p16
            try clear q16
            try clear hx16
            try clear hf16
            try clear c20
            try clear hx20
            try clear hf20
            try clear c23
            try clear c23b0
            try clear c23b0h1
            try clear c23b0h2
            try clear p23
            try clear q23
            try clear hx23
            try clear c24
            try clear c24b0
            try clear p24
            try clear q24
            try clear hx24
            try clear c25
            try clear c25b0
            try clear c25b0h1
            try clear c25b0h2
            try clear c28
            try clear c31
            try clear c31b0
            try clear c31b0h0
            try clear c32
            try clear c32b0
            try clear c33
            try clear c33b0
            try clear c33b0h1
            try clear c33b0h2
            try clear c34
            try clear c34b0
            try clear c34b0h1
            try clear c34b0h2
            try clear p35
            try clear q35
            try clear hx35
            try clear hf35
            try clear c38
            try clear q38
            try clear hcz17_0
            try clear hcz17_1
            try clear hcz22_0
            try clear hcz22_1
            try clear hcz29_0
            try clear hcz29_1
            try clear hcz30_0
            try clear hcz30_1
            try clear hcz6_0
            try clear hcz6_1
            try clear hfz17_0
            try clear hfz17_1
            try clear hfz22_0
            try clear hfz22_1
            try clear hfz29_0
            try clear hfz29_1
            try clear hfz30_0
            try clear hfz30_1
            try clear hfz6_0
            try clear hfz6_1
            try clear hx16_0
            try clear hx20_0
            try clear hx237_0
            try clear hx237_1
            try clear hx239_0
            try clear hx240_0
            try clear hx35_0
            try clear p1
            try clear p16
            try clear p2
            try clear p237
            try clear p239
            try clear p240
            try clear p35
            try clear p6
            try clear q1
            try clear q16
            try clear q237
            try clear q239
            try clear q240
            try clear q35
            obtain ⟨kq, x3_25, HA, HJ25, HO_3, BK229, BK238, HB⟩ := hcut
            have hl3_25 := (Kd.S_reads' HO_3.out).1
            rw [hl3_25] at HO_3
            (try simp only [hl3_25])
            (try simp only [hl3_25] at BK229)
            (try simp only [hl3_25] at BK238)
            cases kq with
            | zero => exact absurd HA.out (by simp [impl_Net_laplacian.j2])
            | succ kj25 =>
             have H := HA.out
             clear HA
             simp only [impl_Net_laplacian.j2] at H
             by_cases c40 : ((rd_T73 l0_1 x28_2).f1) < (wrap64 (a0_0 - 1))
             ·rw [if_pos c40] at H
              have c40b0 : decide (((rd_T73 l0_1 x28_2).f1) < (wrap64 (a0_0 - 1))) = true := decide_eq_true c40
              (try (have c40b0h0 := c40b0; simp only [hji2] at c40b0h0))
              clear c40
              by_cases c41 : 0 ≤ ((rd_T73 l0_1 x28_2).f1)
              ·rw [if_pos c41] at H
               have c41b0 : decide (0 ≤ ((rd_T73 l0_1 x28_2).f1)) = true := decide_eq_true c41
               clear c41
               by_cases c42 : ((rd_T73 l0_1 x28_2).f1) < (x3_25.length : Int)
               ·rw [if_pos c42] at H
                have c42b0 : decide (((rd_T73 l0_1 x28_2).f1) < (x3_25.length : Int)) = true := decide_eq_true c42
                (try (have c42b0h1 := c42b0; simp only [hl3_1] at c42b0h1))
                (try (have c42b0h2 := c42b0; simp only [hl3_2] at c42b0h2))
                (try (have c42b0h3 := c42b0; simp only [hl3_25] at c42b0h3))
                clear c42
                by_cases c43 : ((rd_T73 l0_1 x28_2).f1) < ((rd_L4 x3_25 ((rd_T73 l0_1 x28_2).f1)).length : Int)
                ·rw [if_pos c43] at H
                 have c43b0 : decide (((rd_T73 l0_1 x28_2).f1) < ((rd_L4 x3_25 ((rd_T73 l0_1 x28_2).f1)).length : Int)) = true := decide_eq_true c43
                 (try (have c43b0h1 := c43b0; simp only [hl3_1] at c43b0h1))
                 (try (have c43b0h2 := c43b0; simp only [hl3_2] at c43b0h2))
                 (try (have c43b0h3 := c43b0; simp only [hl3_25] at c43b0h3))
                 clear c43
                 obtain ⟨y246, hy246⟩ : ∃ y_ : List Int, y_ = ((rd_L4 x3_25 ((rd_T73 l0_1 x28_2).f1)).set (((rd_T73 l0_1 x28_2).f1) : Int).toNat (wrap64 ((rd (rd_L4 x3_25 ((rd_T73 l0_1 x28_2).f1)) ((rd_T73 l0_1 x28_2).f1)) + 1))) := ⟨_, rfl⟩
                 replace H : ((some (x3_25.set (((rd_T73 l0_1 x28_2).f1) : Int).toNat y246 : List (List Int))).bind fun y248 => (if ((rd_T73 l0_1 x28_2).f0) < (wrap64 (a0_0 - 1)) then (if 0 ≤ ((rd_T73 l0_1 x28_2).f0) then (if ((rd_T73 l0_1 x28_2).f0) < (x3_25.length : Int) then (if ((rd_T73 l0_1 x28_2).f1) < ((rd_L4 y248 ((rd_T73 l0_1 x28_2).f0)).length : Int) then ((some (y248.set (((rd_T73 l0_1 x28_2).f0) : Int).toNat ((rd_L4 y248 ((rd_T73 l0_1 x28_2).f0)).set (((rd_T73 l0_1 x28_2).f1) : Int).toNat (wrap64 ((rd (rd_L4 y248 ((rd_T73 l0_1 x28_2).f0)) ((rd_T73 l0_1 x28_2).f1)) - 1))) : List (List Int))).bind fun y253 => (if ((rd_T73 l0_1 x28_2).f0) < ((rd_L4 y253 ((rd_T73 l0_1 x28_2).f1)).length : Int) then (impl_Net_laplacian.l1 kj25 (y253.set (((rd_T73 l0_1 x28_2).f1) : Int).toNat ((rd_L4 y253 ((rd_T73 l0_1 x28_2).f1)).set (((rd_T73 l0_1 x28_2).f0) : Int).toNat (wrap64 ((rd (rd_L4 y253 ((rd_T73 l0_1 x28_2).f1)) ((rd_T73 l0_1 x28_2).f0)) - 1)))) l0_1 (l0_1.length : Int) (wrap64 (x28_2 + 1)) a0_0 l0_1) else (none))) else (none)) else (none)) else (none)) else (impl_Net_laplacian.l1 kj25 y248 l0_1 (l0_1.length : Int) (wrap64 (x28_2 + 1)) a0_0 l0_1))) = some r := by first | (rw [hy246]; with_reducible exact H) | (have H2_ := (Option.bind_some _ _).symm.trans H; rw [hy246]; with_reducible exact H2_) | (have H2_ := (Option.bind_some _ _).symm.trans H; with_reducible exact H2_) | with_reducible exact H | (rw [hy246]; exact H) | exact H
                 have Ny246 := Aside0.mk hy246
                 clear hy246
                 obtain ⟨y248, hy248⟩ : ∃ y_ : List (List Int), y_ = (x3_25.set (((rd_T73 l0_1 x28_2).f1) : Int).toNat y246) := ⟨_, rfl⟩
                 replace H : (if ((rd_T73 l0_1 x28_2).f0) < (wrap64 (a0_0 - 1)) then (if 0 ≤ ((rd_T73 l0_1 x28_2).f0) then (if ((rd_T73 l0_1 x28_2).f0) < (x3_25.length : Int) then (if ((rd_T73 l0_1 x28_2).f1) < ((rd_L4 y248 ((rd_T73 l0_1 x28_2).f0)).length : Int) then ((some (y248.set (((rd_T73 l0_1 x28_2).f0) : Int).toNat ((rd_L4 y248 ((rd_T73 l0_1 x28_2).f0)).set (((rd_T73 l0_1 x28_2).f1) : Int).toNat (wrap64 ((rd (rd_L4 y248 ((rd_T73 l0_1 x28_2).f0)) ((rd_T73 l0_1 x28_2).f1)) - 1))) : List (List Int))).bind fun y253 => (if ((rd_T73 l0_1 x28_2).f0) < ((rd_L4 y253 ((rd_T73 l0_1 x28_2).f1)).length : Int) then (impl_Net_laplacian.l1 kj25 (y253.set (((rd_T73 l0_1 x28_2).f1) : Int).toNat ((rd_L4 y253 ((rd_T73 l0_1 x28_2).f1)).set (((rd_T73 l0_1 x28_2).f0) : Int).toNat (wrap64 ((rd (rd_L4 y253 ((rd_T73 l0_1 x28_2).f1)) ((rd_T73 l0_1 x28_2).f0)) - 1)))) l0_1 (l0_1.length : Int) (wrap64 (x28_2 + 1)) a0_0 l0_1) else (none))) else (none)) else (none)) else (none)) else (impl_Net_laplacian.l1 kj25 y248 l0_1 (l0_1.length : Int) (wrap64 (x28_2 + 1)) a0_0 l0_1)) = some r := by first | (rw [hy248]; with_reducible exact H) | (have H2_ := (Option.bind_some _ _).symm.trans H; rw [hy248]; with_reducible exact H2_) | (have H2_ := (Option.bind_some _ _).symm.trans H; with_reducible exact H2_) | with_reducible exact H | (rw [hy248]; exact H) | exact H
                 have Ny248 := Aside0.mk hy248
                 clear hy248
                 by_cases c45 : ((rd_T73 l0_1 x28_2).f0) < (wrap64 (a0_0 - 1))
                 ·rw [if_pos c45] at H
                  have c45b0 : decide (((rd_T73 l0_1 x28_2).f0) < (wrap64 (a0_0 - 1))) = true := decide_eq_true c45
                  (try (have c45b0h0 := c45b0; simp only [hji2] at c45b0h0))
                  clear c45
                  by_cases c46 : 0 ≤ ((rd_T73 l0_1 x28_2).f0)
                  ·rw [if_pos c46] at H
                   have c46b0 : decide (0 ≤ ((rd_T73 l0_1 x28_2).f0)) = true := decide_eq_true c46
                   clear c46
                   by_cases c47 : ((rd_T73 l0_1 x28_2).f0) < (x3_25.length : Int)
                   ·rw [if_pos c47] at H
                    have c47b0 : decide (((rd_T73 l0_1 x28_2).f0) < (x3_25.length : Int)) = true := decide_eq_true c47
                    (try (have c47b0h1 := c47b0; simp only [hl3_1] at c47b0h1))
                    (try (have c47b0h2 := c47b0; simp only [hl3_2] at c47b0h2))
                    (try (have c47b0h3 := c47b0; simp only [hl3_25] at c47b0h3))
                    clear c47
                    by_cases c48 : ((rd_T73 l0_1 x28_2).f1) < ((rd_L4 y248 ((rd_T73 l0_1 x28_2).f0)).length : Int)
                    ·rw [if_pos c48] at H
                     have c48b0 : decide (((rd_T73 l0_1 x28_2).f1) < ((rd_L4 y248 ((rd_T73 l0_1 x28_2).f0)).length : Int)) = true := decide_eq_true c48
                     (try (have c48b0h1 := c48b0; simp only [hl3_1] at c48b0h1))
                     (try (have c48b0h2 := c48b0; simp only [hl3_2] at c48b0h2))
                     (try (have c48b0h3 := c48b0; simp only [hl3_25] at c48b0h3))
                     clear c48
                     obtain ⟨y251, hy251⟩ : ∃ y_ : List Int, y_ = ((rd_L4 y248 ((rd_T73 l0_1 x28_2).f0)).set (((rd_T73 l0_1 x28_2).f1) : Int).toNat (wrap64 ((rd (rd_L4 y248 ((rd_T73 l0_1 x28_2).f0)) ((rd_T73 l0_1 x28_2).f1)) - 1))) := ⟨_, rfl⟩
                     replace H : ((some (y248.set (((rd_T73 l0_1 x28_2).f0) : Int).toNat y251 : List (List Int))).bind fun y253 => (if ((rd_T73 l0_1 x28_2).f0) < ((rd_L4 y253 ((rd_T73 l0_1 x28_2).f1)).length : Int) then (impl_Net_laplacian.l1 kj25 (y253.set (((rd_T73 l0_1 x28_2).f1) : Int).toNat ((rd_L4 y253 ((rd_T73 l0_1 x28_2).f1)).set (((rd_T73 l0_1 x28_2).f0) : Int).toNat (wrap64 ((rd (rd_L4 y253 ((rd_T73 l0_1 x28_2).f1)) ((rd_T73 l0_1 x28_2).f0)) - 1)))) l0_1 (l0_1.length : Int) (wrap64 (x28_2 + 1)) a0_0 l0_1) else (none))) = some r := by first | (rw [hy251]; with_reducible exact H) | (have H2_ := (Option.bind_some _ _).symm.trans H; rw [hy251]; with_reducible exact H2_) | (have H2_ := (Option.bind_some _ _).symm.trans H; with_reducible exact H2_) | with_reducible exact H | (rw [hy251]; exact H) | exact H
                     have Ny251 := Aside0.mk hy251
                     clear hy251
                     obtain ⟨y253, hy253⟩ : ∃ y_ : List (List Int), y_ = (y248.set (((rd_T73 l0_1 x28_2).f0) : Int).toNat y251) := ⟨_, rfl⟩
                     replace H : (if ((rd_T73 l0_1 x28_2).f0) < ((rd_L4 y253 ((rd_T73 l0_1 x28_2).f1)).length : Int) then (impl_Net_laplacian.l1 kj25 (y253.set (((rd_T73 l0_1 x28_2).f1) : Int).toNat ((rd_L4 y253 ((rd_T73 l0_1 x28_2).f1)).set (((rd_T73 l0_1 x28_2).f0) : Int).toNat (wrap64 ((rd (rd_L4 y253 ((rd_T73 l0_1 x28_2).f1)) ((rd_T73 l0_1 x28_2).f0)) - 1)))) l0_1 (l0_1.length : Int) (wrap64 (x28_2 + 1)) a0_0 l0_1) else (none)) = some r := by first | (rw [hy253]; with_reducible exact H) | (have H2_ := (Option.bind_some _ _).symm.trans H; rw [hy253]; with_reducible exact H2_) | (have H2_ := (Option.bind_some _ _).symm.trans H; with_reducible exact H2_) | with_reducible exact H | (rw [hy253]; exact H) | exact H
                     have Ny253 := Aside0.mk hy253
                     clear hy253
                     by_cases c50 : ((rd_T73 l0_1 x28_2).f0) < ((rd_L4 y253 ((rd_T73 l0_1 x28_2).f1)).length : Int)
                     ·rw [if_pos c50] at H
                      have c50b0 : decide (((rd_T73 l0_1 x28_2).f0) < ((rd_L4 y253 ((rd_T73 l0_1 x28_2).f1)).length : Int)) = true := decide_eq_true c50
                      (try (have c50b0h1 := c50b0; simp only [hl3_1] at c50b0h1))
                      (try (have c50b0h2 := c50b0; simp only [hl3_2] at c50b0h2))
                      (try (have c50b0h3 := c50b0; simp only [hl3_25] at c50b0h3))
                      clear c50
                      obtain ⟨y256, hy256⟩ : ∃ y_ : List Int, y_ = ((rd_L4 y253 ((rd_T73 l0_1 x28_2).f1)).set (((rd_T73 l0_1 x28_2).f0) : Int).toNat (wrap64 ((rd (rd_L4 y253 ((rd_T73 l0_1 x28_2).f1)) ((rd_T73 l0_1 x28_2).f0)) - 1))) := ⟨_, rfl⟩
                      replace H : (impl_Net_laplacian.l1 kj25 (y253.set (((rd_T73 l0_1 x28_2).f1) : Int).toNat y256) l0_1 (l0_1.length : Int) (wrap64 (x28_2 + 1)) a0_0 l0_1) = some r := by first | (rw [hy256]; with_reducible exact H) | (have H2_ := (Option.bind_some _ _).symm.trans H; rw [hy256]; with_reducible exact H2_) | (have H2_ := (Option.bind_some _ _).symm.trans H; with_reducible exact H2_) | with_reducible exact H | (rw [hy256]; exact H) | exact H
                      have Ny256 := Aside0.mk hy256
                      clear hy256
                      obtain ⟨y258, hy258⟩ : ∃ y_ : List (List Int), y_ = (y253.set (((rd_T73 l0_1 x28_2).f1) : Int).toNat y256) := ⟨_, rfl⟩
                      replace H : (impl_Net_laplacian.l1 kj25 y258 l0_1 (l0_1.length : Int) (wrap64 (x28_2 + 1)) a0_0 l0_1) = some r := by first | (rw [hy258]; with_reducible exact H) | (have H2_ := (Option.bind_some _ _).symm.trans H; rw [hy258]; with_reducible exact H2_) | (have H2_ := (Option.bind_some _ _).symm.trans H; with_reducible exact H2_) | with_reducible exact H | (rw [hy258]; exact H) | exact H
                      have Ny258 := Aside0.mk hy258
                      clear hy258
                      have H' := Aside0.mk H
                      clear H
                      have hnb52 := NB238_229.out
                      have hnc52 := NB229_238.out
                      have hcz53_0 : wc.cell? ⟨gb238, 0, none⟩ = some (.int .i64 ((rd_T73 l0_1 x28_2).f0)) := (blk_cell BK238.out 0).trans rfl
                      have hcz53_1 : wc.cell? ⟨gb238, 1, none⟩ = some (.int .i64 ((rd_T73 l0_1 x28_2).f1)) := (blk_cell BK238.out 1).trans rfl
                      have hfz53_0 := blk_frozen BK238.out 0
                      have hfz53_1 := blk_frozen BK238.out 1
                      try go_wp2
                      have n0_ := Aside0.mk (Kd.S_drew HO_3.out)
                      have n1_ := Aside0.mk (blk_drew BK229.out)
                      have n2_ := Aside0.mk (blk_drew BK238.out)
                      have n3_ := Aside0.mk (below_drew1 HB.out)
                      clear HO_3
                      clear BK229
                      clear BK238
                      clear HB
                      have HO_3 := n0_
                      have BK229 := n1_
                      have BK238 := n2_
                      have HB := n3_
                      clear n0_ n1_ n2_ n3_
                      have p244 : 0 ≤ (((rd_T73 l0_1 x28_2).f1) : Int) := of_decide_eq_true (by first | (with_reducible assumption) | assumption)
                      have q244 : ((rd_T73 l0_1 x28_2).f1) < (x3_25.length : Int) := of_decide_eq_true (by first | (with_reducible assumption) | assumption)
                      obtain ⟨ad244, A244_0, c244_0, e244, hx244_0, hl244_0, hi244_0⟩ := at_L4 (Kd.S_reads' HO_3.out).2.2 ((rd_T73 l0_1 x28_2).f1) p244 q244
                      cases e244
                      obtain ⟨ce244, hce244, hMe244, hcc244⟩ := Kd.S_get HO_3.out [] ((rd_T73 l0_1 x28_2).f1) p244 (by first | exact q244 | exact of_decide_eq_true (by first | (with_reducible assumption) | assumption) | (have e_ := (Kd.S_reads' HO_3.out).1; omega))
                      obtain ⟨ve244_0, rfl, ge244_0⟩ := hMe244
                      have hv244_0 := hcc244 0 _ rfl
                      rw [Nat.add_zero, show ((Kd.slice 3 (Kd.int .i64))).sz = 1 from rfl, Nat.mul_one] at hv244_0
                      replace hv244_0 := Option.some.inj (hv244_0.symm.trans hx244_0)
                      rw [hv244_0] at ge244_0
                      have HL244_0 := Aside0.mk (show Kd.R (Kd.int .i64) 3 _ _ _ _ (rd_L4 x3_25 ((rd_T73 l0_1 x28_2).f1)) from ge244_0)
                      clear hv244_0 ge244_0
                      have HX244_0 := Aside0.mk hx244_0
                      clear hcc244 hce244
                      have HR244_0 := Aside0.mk hi244_0
                      have HC244_0 := Aside0.mk hl244_0
                      clear hi244_0 hl244_0
                      replace p244 := eq_true p244
                      replace q244 := eq_true q244
                      have p245 : 0 ≤ (((rd_T73 l0_1 x28_2).f1) : Int) := of_decide_eq_true (by first | (with_reducible assumption) | assumption)
                      have q245 : ((rd_T73 l0_1 x28_2).f1) < ((rd_L4 x3_25 ((rd_T73 l0_1 x28_2).f1)).length : Int) := of_decide_eq_true (by first | (with_reducible assumption) | assumption)
                      obtain ⟨ad245, e245, hx245_0⟩ := Kd.at_int (by repeat (first | (with_reducible exact HR244_0.out) | (with_reducible refine Kd.C_alloc ?_ _) | (with_reducible refine Kd.C_drewN ?_ _) | (with_reducible refine Kd.C_drew ?_) | exact HR244_0.out)) ((rd_T73 l0_1 x28_2).f1) p245 q245
                      cases e245
                      replace p245 := eq_true p245
                      replace q245 := eq_true q245
                      have p44 : 0 ≤ (((rd_T73 l0_1 x28_2).f1) : Int) := of_decide_eq_true (by first | (with_reducible assumption) | assumption)
                      have q44 : (((rd_T73 l0_1 x28_2).f1) : Int) < (((rd_L4 x3_25 ((rd_T73 l0_1 x28_2).f1)).length : Int) : Int) := of_decide_eq_true (by first | (with_reducible assumption) | assumption)
                      obtain ⟨go44, co44, eo44, gb44, gl44, cl44, HG44⟩ := Kd.R_form HL244_0.out (by omega)
                      (first | cases eo44 | (injection eo44 with ea_ en_ ec_; (first | subst ea_ | (injection ea_ with ea_; subst ea_)); subst ec_; clear en_))
                      have GB44 := Aside0.mk gb44
                      have GG44 := Aside0.mk HG44
                      clear gb44 gl44 HG44
                      (first | simp only [add_plain] at hx245_0 | skip)
                      obtain ⟨hx44_0, hf44_0⟩ := Kd.R_celln 0 HL244_0.out (((rd_T73 l0_1 x28_2).f1) : Int) p44 q44
                      replace p44 := eq_true p44
                      replace q44 := eq_true q44
                      have hq55 : (((rd_T73 l0_1 x28_2).f1) : Int) < (x3_25.length : Int) := (by have h_ : (((rd_T73 l0_1 x28_2).f1) : Int) < ((x3_25.length : Int) : Int) := of_decide_eq_true (by first | (with_reducible assumption) | assumption); first | exact h_ | (have e_ := (Kd.S_reads' HO_3.out).1; omega) | simpa only [List.length_set, List.length_set] using h_)
                      obtain ⟨oki55, ce55, hcl55, hM55, hcc55, hok55, hbk55⟩ := Kd.S_borrow HO_3.out [] (((rd_T73 l0_1 x28_2).f1) : Int) (of_decide_eq_true (by first | (with_reducible assumption) | assumption)) (by first | exact hq55 | (have e_ := (Kd.S_reads' HO_3.out).1; omega))
                      obtain ⟨ve55_0, rfl, ge55_0⟩ := hM55
                      have hv55 := hcc55 0 _ rfl
                      rw [Nat.add_zero, show ((Kd.slice 3 (Kd.int .i64))).sz = 1 from rfl, Nat.mul_one] at hv55
                      replace hv55 := Option.some.inj (hv55.symm.trans HX244_0.out)
                      subst hv55
                      clear hcc55 hcl55
                      replace ge55_0 := (show Kd.R (Kd.int .i64) 3 _ _ _ _ (rd_L4 x3_25 ((rd_T73 l0_1 x28_2).f1)) from ge55_0)
                      have HP55 := Kd.R_putg ge55_0 (((rd_T73 l0_1 x28_2).f1) : Int) (wrap64 ((rd (rd_L4 x3_25 ((rd_T73 l0_1 x28_2).f1)) ((rd_T73 l0_1 x28_2).f1)) + 1))
                      rw [← Ny246.out] at HP55
                      have HS55 := hbk55 HP55.2 (fun k_ e_ => by injection e_ with e_; subst e_; exact ge55_0.1 _ rfl) (x' := y246) (Kd.M_row HP55.1)
                      rw [← Ny248.out] at HS55
                      have HQ55 := Aside0.mk HS55
                      clear HP55 HS55 hbk55 hok55
                      refine start_ (n := 12) (S := fun w' => w'.cell? ⟨gb238, 0, none⟩ = some (.int .i64 ((rd_T73 l0_1 x28_2).f0)) ∧ w'.cell? ⟨gb238, 1, none⟩ = some (.int .i64 ((rd_T73 l0_1 x28_2).f1)) ∧ w'.cell? (ad244.add (((rd_T73 l0_1 x28_2).f1)).toNat) = some (.slice (some ⟨go44, 0, none⟩) (rd_L4 x3_25 ((rd_T73 l0_1 x28_2).f1)).length c244_0) ∧ w'.cell? ⟨go44, (((rd_T73 l0_1 x28_2).f1)).toNat, none⟩ = some (.int .i64 (rd (rd_L4 x3_25 ((rd_T73 l0_1 x28_2).f1)) ((rd_T73 l0_1 x28_2).f1)))) (ds := [11]) #[false, false, false, false, false, false, false, false, false, false, false, false] (by kernel_rfl) rfl rfl ⟨(blk_cell BK238.out 0).trans rfl, (blk_cell BK238.out 1).trans rfl, hx244_0, hx245_0⟩ (fun hHeld => ?_); refine with_tabW impl_Net_laplacian.tab14 impl_Net_laplacian.bits14 (fun HT_ HW_ => ?_)
                      generalize wc.drew = w54 at HO_3 BK229 BK238 HB GG44 HL244_0 HQ55 HR244_0 HX244_0 hf44_0 hx244_0 hx245_0 hx44_0 hHeld ⊢
                      refine pure_ (i := 0) (N := some 54) (v := ?_) (a' := ?_) #[true, false, false, false, false, false, false, false, false, false, false, false] rfl rfl (any_of HT_.out (by kernel_rfl)) (fun _ _ _ h => h) (Or.inl ⟨by rfl, ?_⟩) ?_ ?_
                      rotate_left
                      ·intro w'
                       go_simp
                       with_reducible rfl
                      rotate_left
                      ·simp only [Act.put, List.setIfInBounds_toArray, List.set_cons_zero, List.set_cons_succ, i64_w, i32_w]
                       rfl
                      refine pure_ (i := 1) (N := some 55) (v := ?_) (a' := ?_) #[true, true, false, false, false, false, false, false, false, false, false, false] rfl rfl (any_of HT_.out (by kernel_rfl)) (fun _ _ _ h => h) (Or.inl ⟨by rfl, ?_⟩) ?_ ?_
                      rotate_left
                      ·intro w'
                       go_simp
                       with_reducible rfl
                      rotate_left
                      ·simp only [Act.put, List.setIfInBounds_toArray, List.set_cons_zero, List.set_cons_succ, i64_w, i32_w]
                       rfl
                      refine pure_ (i := 5) (N := some 59) (v := ?_) (a' := ?_) #[true, true, false, false, false, true, false, false, false, false, false, false] rfl rfl (any_of HT_.out (by kernel_rfl)) (fun _ _ _ h => h) (Or.inl ⟨by rfl, ?_⟩) ?_ ?_
                      rotate_left
                      ·intro w'
                       go_simp
                       with_reducible rfl
                      rotate_left
                      ·simp only [Act.put, List.setIfInBounds_toArray, List.set_cons_zero, List.set_cons_succ, i64_w, i32_w]
                       rfl
                      refine take_ (i := 2) (N := some 56) (v := ?_) (a' := ?_) #[true, true, true, false, false, true, false, false, false, false, false, false] rfl rfl (take_ofW HT_.out HW_.out (by kernel_rfl)) (fun _ _ _ h => h) (Or.inl ⟨by rfl, ?_⟩) hHeld ?_ ?_
                      rotate_left
                      ·rintro w' ⟨s0, s1, s2, s3⟩
                       go_simp
                       with_reducible rfl
                      rotate_left
                      ·simp only [Act.put, List.setIfInBounds_toArray, List.set_cons_zero, List.set_cons_succ, i64_w, i32_w]
                       rfl
                      refine pure_ (i := 3) (N := some 57) (v := ?_) (a' := ?_) #[true, true, true, true, false, true, false, false, false, false, false, false] rfl rfl (any_of HT_.out (by kernel_rfl)) (fun _ _ _ h => h) (Or.inl ⟨by rfl, ?_⟩) ?_ ?_
                      rotate_left
                      ·intro w'
                       go_simp
                       with_reducible rfl
                      rotate_left
                      ·simp only [Act.put, List.setIfInBounds_toArray, List.set_cons_zero, List.set_cons_succ, i64_w, i32_w]
                       rfl
                      refine take_ (i := 4) (N := some 58) (v := ?_) (a' := ?_) #[true, true, true, true, true, true, false, false, false, false, false, false] rfl rfl (take_ofW HT_.out HW_.out (by kernel_rfl)) (fun _ _ _ h => h) (Or.inl ⟨by rfl, ?_⟩) hHeld ?_ ?_
                      rotate_left
                      ·rintro w' ⟨s0, s1, s2, s3⟩
                       go_simp
                       with_reducible rfl
                      rotate_left
                      ·simp only [Act.put, List.setIfInBounds_toArray, List.set_cons_zero, List.set_cons_succ, i64_w, i32_w]
                       rfl
                      refine take_ (i := 6) (N := some 60) (v := ?_) (a' := ?_) #[true, true, true, true, true, true, true, false, false, false, false, false] rfl rfl (take_ofW HT_.out HW_.out (by kernel_rfl)) (fun _ _ _ h => h) (Or.inl ⟨by rfl, ?_⟩) hHeld ?_ ?_
                      rotate_left
                      ·rintro w' ⟨s0, s1, s2, s3⟩
                       go_simp
                       with_reducible rfl
                      rotate_left
                      ·simp only [Act.put, List.setIfInBounds_toArray, List.set_cons_zero, List.set_cons_succ, i64_w, i32_w]
                       rfl
                      refine pure_ (i := 7) (N := some 61) (v := ?_) (a' := ?_) #[true, true, true, true, true, true, true, true, false, false, false, false] rfl rfl (any_of HT_.out (by kernel_rfl)) (fun _ _ _ h => h) (Or.inl ⟨by rfl, ?_⟩) ?_ ?_
                      rotate_left
                      ·intro w'
                       go_simp
                       with_reducible rfl
                      rotate_left
                      ·simp only [Act.put, List.setIfInBounds_toArray, List.set_cons_zero, List.set_cons_succ, i64_w, i32_w]
                       rfl
                      refine take_ (i := 8) (N := some 62) (v := ?_) (a' := ?_) #[true, true, true, true, true, true, true, true, true, false, false, false] rfl rfl (take_ofW HT_.out HW_.out (by kernel_rfl)) (fun _ _ _ h => h) (Or.inl ⟨by rfl, ?_⟩) hHeld ?_ ?_
                      rotate_left
                      ·rintro w' ⟨s0, s1, s2, s3⟩
                       go_simp
                       with_reducible rfl
                      rotate_left
                      ·simp only [Act.put, List.setIfInBounds_toArray, List.set_cons_zero, List.set_cons_succ, i64_w, i32_w]
                       rfl
                      refine pure_ (i := 9) (N := some 63) (v := ?_) (a' := ?_) #[true, true, true, true, true, true, true, true, true, true, false, false] rfl rfl (any_of HT_.out (by kernel_rfl)) (fun _ _ _ h => h) (Or.inl ⟨by rfl, ?_⟩) ?_ ?_
                      rotate_left
                      ·intro w'
                       go_simp
                       with_reducible rfl
                      rotate_left
                      ·simp only [Act.put, List.setIfInBounds_toArray, List.set_cons_zero, List.set_cons_succ, i64_w, i32_w]
                       rfl
                      refine pure_ (i := 10) (N := some 64) (v := ?_) (a' := ?_) #[true, true, true, true, true, true, true, true, true, true, true, false] rfl rfl (any_of HT_.out (by kernel_rfl)) (fun _ _ _ h => h) (Or.inl ⟨by rfl, ?_⟩) ?_ ?_
                      rotate_left
                      ·intro w'
                       go_simp
                       with_reducible rfl
                      rotate_left
                      ·simp only [Act.put, List.setIfInBounds_toArray, List.set_cons_zero, List.set_cons_succ, i64_w, i32_w]
                       rfl
                      refine last_ (i := 11) (N := none) #[true, true, true, true, true, true, true, true, true, true, true, true] rfl rfl (one_of HT_.out (by kernel_rfl)) (by decide) (fun K hK => ?_)
                      refine skip_ (w1 := ?_) (by rfl) rfl ?_ ?_
                      rotate_left
                      ·go_simp
                       rfl
                      refine hK.out _ _ ?_
                      clear hK K
                      refine done_ (done_of HT_.out (by kernel_rfl)) ?_
                      have n0_ : Aside0 (Kd.S (Kd.slice 3 (Kd.int .i64)) 36 (w54.setCell ⟨go44, (((rd_T73 l0_1 x28_2).f1) : Int).toNat, none⟩ (.int .i64 (wrap64 ((rd (rd_L4 x3_25 ((rd_T73 l0_1 x28_2).f1)) ((rd_T73 l0_1 x28_2).f1)) + 1)))) w.heap.size (fun _ => True) (.slice (some ad244) x3_25.length co9) y248) := ⟨by (with_reducible repeat (first | apply Kd.S_alloc | apply Kd.S_drewN | apply Kd.S_drew)); exact HQ55.out⟩
                      have n1_ : Aside0 ((w54.setCell ⟨go44, (((rd_T73 l0_1 x28_2).f1) : Int).toNat, none⟩ (.int .i64 (wrap64 ((rd (rd_L4 x3_25 ((rd_T73 l0_1 x28_2).f1)) ((rd_T73 l0_1 x28_2).f1)) + 1)))).heap[gb229]? = some (.cells #[.int .i64 a0_0, .slice (some ad237) l0_1.length c0_1] 30 (0, 0))) := ⟨by (with_reducible repeat (first | refine blk_drewN ?_ _ | refine blk_drew ?_ | refine blk_alloc ?_ _)); refine blk_far ?_ (by have h_ := Kd.R_ne HL244_0.out BK229.out (by decide); intro e_; exact h_ (by rw [e_]; rfl)) _; (with_reducible repeat (first | refine blk_drewN ?_ _ | refine blk_drew ?_ | refine blk_alloc ?_ _)); exact BK229.out⟩
                      have n2_ : Aside0 ((w54.setCell ⟨go44, (((rd_T73 l0_1 x28_2).f1) : Int).toNat, none⟩ (.int .i64 (wrap64 ((rd (rd_L4 x3_25 ((rd_T73 l0_1 x28_2).f1)) ((rd_T73 l0_1 x28_2).f1)) + 1)))).heap[gb238]? = some (.cells #[.int .i64 ((rd_T73 l0_1 x28_2).f0), .int .i64 ((rd_T73 l0_1 x28_2).f1)] 73 (0, 0))) := ⟨by (with_reducible repeat (first | refine blk_drewN ?_ _ | refine blk_drew ?_ | refine blk_alloc ?_ _)); refine blk_far ?_ (by have h_ := Kd.R_ne HL244_0.out BK238.out (by decide); intro e_; exact h_ (by rw [e_]; rfl)) _; (with_reducible repeat (first | refine blk_drewN ?_ _ | refine blk_drew ?_ | refine blk_alloc ?_ _)); exact BK238.out⟩
                      have n3_ : Aside0 (Below w.heap.size w (w54.setCell ⟨go44, (((rd_T73 l0_1 x28_2).f1) : Int).toNat, none⟩ (.int .i64 (wrap64 ((rd (rd_L4 x3_25 ((rd_T73 l0_1 x28_2).f1)) ((rd_T73 l0_1 x28_2).f1)) + 1))))) := ⟨by repeat (first | (with_reducible first | exact HB.out | apply below_alloc | apply pw_below_drewN | apply below_drew1 | refine below_set ?_ GB44.out | refine below_set ?_ GE229.out | refine below_set ?_ GE238.out) | exact HB.out)⟩
                      (try clear HO_3)
                      (try clear BK229)
                      (try clear BK238)
                      (try clear HB)
                      (try simp only [drewN_setCell])
                      generalize (w54.setCell ⟨go44, (((rd_T73 l0_1 x28_2).f1) : Int).toNat, none⟩ (.int .i64 (wrap64 ((rd (rd_L4 x3_25 ((rd_T73 l0_1 x28_2).f1)) ((rd_T73 l0_1 x28_2).f1)) + 1)))) = w58 at n0_ n1_ n2_ n3_ ⊢
                      have HO_3 := n0_
                      have BK229 := n1_
                      have BK238 := n2_
                      have HB := n3_
                      clear n0_ n1_ n2_ n3_
                      have hcz57_0 : w58.cell? ⟨gb238, 0, none⟩ = some (.int .i64 ((rd_T73 l0_1 x28_2).f0)) := (blk_cell BK238.out 0).trans rfl
                      have hcz57_1 : w58.cell? ⟨gb238, 1, none⟩ = some (.int .i64 ((rd_T73 l0_1 x28_2).f1)) := (blk_cell BK238.out 1).trans rfl
                      have hfz57_0 := blk_frozen BK238.out 0
                      have hfz57_1 := blk_frozen BK238.out 1
                      try go_wp2
                      have n0_ := Aside0.mk (Kd.S_drew HO_3.out)
                      have n1_ := Aside0.mk (blk_drew BK229.out)
                      have n2_ := Aside0.mk (blk_drew BK238.out)
                      have n3_ := Aside0.mk (below_drew1 HB.out)
                      clear HO_3
                      clear BK229
                      clear BK238
                      clear HB
                      have HO_3 := n0_
                      have BK229 := n1_
                      have BK238 := n2_
                      have HB := n3_
                      clear n0_ n1_ n2_ n3_
                      have p249 : 0 ≤ (((rd_T73 l0_1 x28_2).f0) : Int) := of_decide_eq_true (by first | (with_reducible assumption) | assumption)
                      have q249 : ((rd_T73 l0_1 x28_2).f0) < (y248.length : Int) := (by have h_ : (((rd_T73 l0_1 x28_2).f0) : Int) < ((x3_25.length : Int) : Int) := of_decide_eq_true (by first | (with_reducible assumption) | assumption); first | (have e_ := (Kd.S_reads' HO_3.out).1; omega) | simpa only [Ny248.out, List.length_set] using h_)
                      have ql249 : ((((rd_T73 l0_1 x28_2).f0) : Int) < ((x3_25.length : Int) : Int)) = True := eq_true (of_decide_eq_true (by first | (with_reducible assumption) | assumption))
                      obtain ⟨ad249, A249_0, c249_0, e249, hx249_0, hl249_0, hi249_0⟩ := at_L4 (Kd.S_reads' HO_3.out).2.2 ((rd_T73 l0_1 x28_2).f0) p249 q249
                      obtain rfl : ad244 = ad249 := (by injection e249)
                      obtain ⟨ce249, hce249, hMe249, hcc249⟩ := Kd.S_get HO_3.out [] ((rd_T73 l0_1 x28_2).f0) p249 (by first | exact q249 | exact of_decide_eq_true (by first | (with_reducible assumption) | assumption) | (have e_ := (Kd.S_reads' HO_3.out).1; omega))
                      obtain ⟨ve249_0, rfl, ge249_0⟩ := hMe249
                      have hv249_0 := hcc249 0 _ rfl
                      rw [Nat.add_zero, show ((Kd.slice 3 (Kd.int .i64))).sz = 1 from rfl, Nat.mul_one] at hv249_0
                      replace hv249_0 := Option.some.inj (hv249_0.symm.trans hx249_0)
                      rw [hv249_0] at ge249_0
                      have HL249_0 := Aside0.mk (show Kd.R (Kd.int .i64) 3 _ _ _ _ (rd_L4 y248 ((rd_T73 l0_1 x28_2).f0)) from ge249_0)
                      clear hv249_0 ge249_0
                      have HX249_0 := Aside0.mk hx249_0
                      clear hcc249 hce249
                      have HR249_0 := Aside0.mk hi249_0
                      have HC249_0 := Aside0.mk hl249_0
                      clear hi249_0 hl249_0
                      replace p249 := eq_true p249
                      replace q249 := eq_true q249
                      have p250 : 0 ≤ (((rd_T73 l0_1 x28_2).f1) : Int) := of_decide_eq_true (by first | (with_reducible assumption) | assumption)
                      have q250 : ((rd_T73 l0_1 x28_2).f1) < ((rd_L4 y248 ((rd_T73 l0_1 x28_2).f0)).length : Int) := of_decide_eq_true (by first | (with_reducible assumption) | assumption)
                      obtain ⟨ad250, e250, hx250_0⟩ := Kd.at_int (by repeat (first | (with_reducible exact HR249_0.out) | (with_reducible refine Kd.C_alloc ?_ _) | (with_reducible refine Kd.C_drewN ?_ _) | (with_reducible refine Kd.C_drew ?_) | exact HR249_0.out)) ((rd_T73 l0_1 x28_2).f1) p250 q250
                      cases e250
                      replace p250 := eq_true p250
                      replace q250 := eq_true q250
                      have p49 : 0 ≤ (((rd_T73 l0_1 x28_2).f1) : Int) := of_decide_eq_true (by first | (with_reducible assumption) | assumption)
                      have q49 : (((rd_T73 l0_1 x28_2).f1) : Int) < (((rd_L4 y248 ((rd_T73 l0_1 x28_2).f0)).length : Int) : Int) := of_decide_eq_true (by first | (with_reducible assumption) | assumption)
                      obtain ⟨go49, co49, eo49, gb49, gl49, cl49, HG49⟩ := Kd.R_form HL249_0.out (by omega)
                      (first | cases eo49 | (injection eo49 with ea_ en_ ec_; (first | subst ea_ | (injection ea_ with ea_; subst ea_)); subst ec_; clear en_))
                      have GB49 := Aside0.mk gb49
                      have GG49 := Aside0.mk HG49
                      clear gb49 gl49 HG49
                      (first | simp only [add_plain] at hx250_0 | skip)
                      obtain ⟨hx49_0, hf49_0⟩ := Kd.R_celln 0 HL249_0.out (((rd_T73 l0_1 x28_2).f1) : Int) p49 q49
                      replace p49 := eq_true p49
                      replace q49 := eq_true q49
                      have hq60 : (((rd_T73 l0_1 x28_2).f0) : Int) < (y248.length : Int) := (by have h_ : (((rd_T73 l0_1 x28_2).f0) : Int) < ((x3_25.length : Int) : Int) := of_decide_eq_true (by first | (with_reducible assumption) | assumption); first | exact h_ | (have e_ := (Kd.S_reads' HO_3.out).1; omega) | simpa only [Ny248.out, List.length_set] using h_)
                      obtain ⟨oki60, ce60, hcl60, hM60, hcc60, hok60, hbk60⟩ := Kd.S_borrow HO_3.out [] (((rd_T73 l0_1 x28_2).f0) : Int) (of_decide_eq_true (by first | (with_reducible assumption) | assumption)) (by first | exact hq60 | (have e_ := (Kd.S_reads' HO_3.out).1; omega))
                      obtain ⟨ve60_0, rfl, ge60_0⟩ := hM60
                      have hv60 := hcc60 0 _ rfl
                      rw [Nat.add_zero, show ((Kd.slice 3 (Kd.int .i64))).sz = 1 from rfl, Nat.mul_one] at hv60
                      replace hv60 := Option.some.inj (hv60.symm.trans HX249_0.out)
                      subst hv60
                      clear hcc60 hcl60
                      replace ge60_0 := (show Kd.R (Kd.int .i64) 3 _ _ _ _ (rd_L4 y248 ((rd_T73 l0_1 x28_2).f0)) from ge60_0)
                      have HP60 := Kd.R_putg ge60_0 (((rd_T73 l0_1 x28_2).f1) : Int) (wrap64 ((rd (rd_L4 y248 ((rd_T73 l0_1 x28_2).f0)) ((rd_T73 l0_1 x28_2).f1)) - 1))
                      rw [← Ny251.out] at HP60
                      have HS60 := hbk60 HP60.2 (fun k_ e_ => by injection e_ with e_; subst e_; exact ge60_0.1 _ rfl) (x' := y251) (Kd.M_row HP60.1)
                      rw [← Ny253.out] at HS60
                      have HQ60 := Aside0.mk HS60
                      clear HP60 HS60 hbk60 hok60
                      refine start_ (n := 12) (S := fun w' => w'.cell? ⟨gb238, 0, none⟩ = some (.int .i64 ((rd_T73 l0_1 x28_2).f0)) ∧ w'.cell? ⟨gb238, 1, none⟩ = some (.int .i64 ((rd_T73 l0_1 x28_2).f1)) ∧ w'.cell? (ad244.add (((rd_T73 l0_1 x28_2).f0)).toNat) = some (.slice (some ⟨go49, 0, none⟩) (rd_L4 y248 ((rd_T73 l0_1 x28_2).f0)).length c249_0) ∧ w'.cell? ⟨go49, (((rd_T73 l0_1 x28_2).f1)).toNat, none⟩ = some (.int .i64 (rd (rd_L4 y248 ((rd_T73 l0_1 x28_2).f0)) ((rd_T73 l0_1 x28_2).f1)))) (ds := [11]) #[false, false, false, false, false, false, false, false, false, false, false, false] (by kernel_rfl) rfl rfl ⟨(blk_cell BK238.out 0).trans rfl, (blk_cell BK238.out 1).trans rfl, hx249_0, hx250_0⟩ (fun hHeld => ?_); refine with_tabW impl_Net_laplacian.tab16 impl_Net_laplacian.bits16 (fun HT_ HW_ => ?_)
                      generalize w58.drew = w59 at HO_3 BK229 BK238 HB GG49 HL249_0 HQ55 HQ60 HR249_0 HX249_0 hf49_0 hx249_0 hx250_0 hx49_0 hHeld ⊢
                      refine pure_ (i := 0) (N := some 75) (v := ?_) (a' := ?_) #[true, false, false, false, false, false, false, false, false, false, false, false] rfl rfl (any_of HT_.out (by kernel_rfl)) (fun _ _ _ h => h) (Or.inl ⟨by rfl, ?_⟩) ?_ ?_
                      rotate_left
                      ·intro w'
                       go_simp
                       with_reducible rfl
                      rotate_left
                      ·simp only [Act.put, List.setIfInBounds_toArray, List.set_cons_zero, List.set_cons_succ, i64_w, i32_w]
                       rfl
                      refine pure_ (i := 1) (N := some 76) (v := ?_) (a' := ?_) #[true, true, false, false, false, false, false, false, false, false, false, false] rfl rfl (any_of HT_.out (by kernel_rfl)) (fun _ _ _ h => h) (Or.inl ⟨by rfl, ?_⟩) ?_ ?_
                      rotate_left
                      ·intro w'
                       go_simp
                       with_reducible rfl
                      rotate_left
                      ·simp only [Act.put, List.setIfInBounds_toArray, List.set_cons_zero, List.set_cons_succ, i64_w, i32_w]
                       rfl
                      refine pure_ (i := 5) (N := some 80) (v := ?_) (a' := ?_) #[true, true, false, false, false, true, false, false, false, false, false, false] rfl rfl (any_of HT_.out (by kernel_rfl)) (fun _ _ _ h => h) (Or.inl ⟨by rfl, ?_⟩) ?_ ?_
                      rotate_left
                      ·intro w'
                       go_simp
                       with_reducible rfl
                      rotate_left
                      ·simp only [Act.put, List.setIfInBounds_toArray, List.set_cons_zero, List.set_cons_succ, i64_w, i32_w]
                       rfl
                      refine take_ (i := 2) (N := some 77) (v := ?_) (a' := ?_) #[true, true, true, false, false, true, false, false, false, false, false, false] rfl rfl (take_ofW HT_.out HW_.out (by kernel_rfl)) (fun _ _ _ h => h) (Or.inl ⟨by rfl, ?_⟩) hHeld ?_ ?_
                      rotate_left
                      ·rintro w' ⟨s0, s1, s2, s3⟩
                       go_simp
                       with_reducible rfl
                      rotate_left
                      ·simp only [Act.put, List.setIfInBounds_toArray, List.set_cons_zero, List.set_cons_succ, i64_w, i32_w]
                       rfl
                      refine pure_ (i := 3) (N := some 78) (v := ?_) (a' := ?_) #[true, true, true, true, false, true, false, false, false, false, false, false] rfl rfl (any_of HT_.out (by kernel_rfl)) (fun _ _ _ h => h) (Or.inl ⟨by rfl, ?_⟩) ?_ ?_
                      rotate_left
                      ·intro w'
                       go_simp
                       with_reducible rfl
                      rotate_left
                      ·simp only [Act.put, List.setIfInBounds_toArray, List.set_cons_zero, List.set_cons_succ, i64_w, i32_w]
                       rfl
                      refine take_ (i := 4) (N := some 79) (v := ?_) (a' := ?_) #[true, true, true, true, true, true, false, false, false, false, false, false] rfl rfl (take_ofW HT_.out HW_.out (by kernel_rfl)) (fun _ _ _ h => h) (Or.inl ⟨by rfl, ?_⟩) hHeld ?_ ?_
                      rotate_left
                      ·rintro w' ⟨s0, s1, s2, s3⟩
                       go_simp
                       with_reducible rfl
                      rotate_left
                      ·simp only [Act.put, List.setIfInBounds_toArray, List.set_cons_zero, List.set_cons_succ, i64_w, i32_w]
                       rfl
                      refine take_ (i := 6) (N := some 81) (v := ?_) (a' := ?_) #[true, true, true, true, true, true, true, false, false, false, false, false] rfl rfl (take_ofW HT_.out HW_.out (by kernel_rfl)) (fun _ _ _ h => h) (Or.inl ⟨by rfl, ?_⟩) hHeld ?_ ?_
                      rotate_left
                      ·rintro w' ⟨s0, s1, s2, s3⟩
                       go_simp
                       with_reducible rfl
                      rotate_left
                      ·simp only [Act.put, List.setIfInBounds_toArray, List.set_cons_zero, List.set_cons_succ, i64_w, i32_w]
                       rfl
                      refine pure_ (i := 7) (N := some 82) (v := ?_) (a' := ?_) #[true, true, true, true, true, true, true, true, false, false, false, false] rfl rfl (any_of HT_.out (by kernel_rfl)) (fun _ _ _ h => h) (Or.inl ⟨by rfl, ?_⟩) ?_ ?_
                      rotate_left
                      ·intro w'
                       go_simp
                       with_reducible rfl
                      rotate_left
                      ·simp only [Act.put, List.setIfInBounds_toArray, List.set_cons_zero, List.set_cons_succ, i64_w, i32_w]
                       rfl
                      refine take_ (i := 8) (N := some 83) (v := ?_) (a' := ?_) #[true, true, true, true, true, true, true, true, true, false, false, false] rfl rfl (take_ofW HT_.out HW_.out (by kernel_rfl)) (fun _ _ _ h => h) (Or.inl ⟨by rfl, ?_⟩) hHeld ?_ ?_
                      rotate_left
                      ·rintro w' ⟨s0, s1, s2, s3⟩
                       go_simp
                       with_reducible rfl
                      rotate_left
                      ·simp only [Act.put, List.setIfInBounds_toArray, List.set_cons_zero, List.set_cons_succ, i64_w, i32_w]
                       rfl
                      refine pure_ (i := 9) (N := some 84) (v := ?_) (a' := ?_) #[true, true, true, true, true, true, true, true, true, true, false, false] rfl rfl (any_of HT_.out (by kernel_rfl)) (fun _ _ _ h => h) (Or.inl ⟨by rfl, ?_⟩) ?_ ?_
                      rotate_left
                      ·intro w'
                       go_simp
                       with_reducible rfl
                      rotate_left
                      ·simp only [Act.put, List.setIfInBounds_toArray, List.set_cons_zero, List.set_cons_succ, i64_w, i32_w]
                       rfl
                      refine pure_ (i := 10) (N := some 85) (v := ?_) (a' := ?_) #[true, true, true, true, true, true, true, true, true, true, true, false] rfl rfl (any_of HT_.out (by kernel_rfl)) (fun _ _ _ h => h) (Or.inl ⟨by rfl, ?_⟩) ?_ ?_
                      rotate_left
                      ·intro w'
                       go_simp
                       with_reducible rfl
                      rotate_left
                      ·simp only [Act.put, List.setIfInBounds_toArray, List.set_cons_zero, List.set_cons_succ, i64_w, i32_w]
                       rfl
                      refine last_ (i := 11) (N := none) #[true, true, true, true, true, true, true, true, true, true, true, true] rfl rfl (one_of HT_.out (by kernel_rfl)) (by decide) (fun K hK => ?_)
                      refine skip_ (w1 := ?_) (by rfl) rfl ?_ ?_
                      rotate_left
                      ·go_simp
                       rfl
                      refine hK.out _ _ ?_
                      clear hK K
                      refine done_ (done_of HT_.out (by kernel_rfl)) ?_
                      try go_wp2
                      have n0_ : Aside0 (Kd.S (Kd.slice 3 (Kd.int .i64)) 36 (w59.setCell ⟨go49, (((rd_T73 l0_1 x28_2).f1) : Int).toNat, none⟩ (.int .i64 (wrap64 ((rd (rd_L4 y248 ((rd_T73 l0_1 x28_2).f0)) ((rd_T73 l0_1 x28_2).f1)) - 1)))) w.heap.size (fun _ => True) (.slice (some ad244) x3_25.length co9) y253) := ⟨by (with_reducible repeat (first | apply Kd.S_alloc | apply Kd.S_drewN | apply Kd.S_drew)); exact HQ60.out⟩
                      have n1_ : Aside0 ((w59.setCell ⟨go49, (((rd_T73 l0_1 x28_2).f1) : Int).toNat, none⟩ (.int .i64 (wrap64 ((rd (rd_L4 y248 ((rd_T73 l0_1 x28_2).f0)) ((rd_T73 l0_1 x28_2).f1)) - 1)))).heap[gb229]? = some (.cells #[.int .i64 a0_0, .slice (some ad237) l0_1.length c0_1] 30 (0, 0))) := ⟨by (with_reducible repeat (first | refine blk_drewN ?_ _ | refine blk_drew ?_ | refine blk_alloc ?_ _)); refine blk_far ?_ (by have h_ := Kd.R_ne HL249_0.out BK229.out (by decide); intro e_; exact h_ (by rw [e_]; rfl)) _; (with_reducible repeat (first | refine blk_drewN ?_ _ | refine blk_drew ?_ | refine blk_alloc ?_ _)); exact BK229.out⟩
                      have n2_ : Aside0 ((w59.setCell ⟨go49, (((rd_T73 l0_1 x28_2).f1) : Int).toNat, none⟩ (.int .i64 (wrap64 ((rd (rd_L4 y248 ((rd_T73 l0_1 x28_2).f0)) ((rd_T73 l0_1 x28_2).f1)) - 1)))).heap[gb238]? = some (.cells #[.int .i64 ((rd_T73 l0_1 x28_2).f0), .int .i64 ((rd_T73 l0_1 x28_2).f1)] 73 (0, 0))) := ⟨by (with_reducible repeat (first | refine blk_drewN ?_ _ | refine blk_drew ?_ | refine blk_alloc ?_ _)); refine blk_far ?_ (by have h_ := Kd.R_ne HL249_0.out BK238.out (by decide); intro e_; exact h_ (by rw [e_]; rfl)) _; (with_reducible repeat (first | refine blk_drewN ?_ _ | refine blk_drew ?_ | refine blk_alloc ?_ _)); exact BK238.out⟩
                      have n3_ : Aside0 (Below w.heap.size w (w59.setCell ⟨go49, (((rd_T73 l0_1 x28_2).f1) : Int).toNat, none⟩ (.int .i64 (wrap64 ((rd (rd_L4 y248 ((rd_T73 l0_1 x28_2).f0)) ((rd_T73 l0_1 x28_2).f1)) - 1))))) := ⟨by repeat (first | (with_reducible first | exact HB.out | apply below_alloc | apply pw_below_drewN | apply below_drew1 | refine below_set ?_ GB49.out | refine below_set ?_ GE229.out | refine below_set ?_ GE238.out) | exact HB.out)⟩
                      (try clear HO_3)
                      (try clear BK229)
                      (try clear BK238)
                      (try clear HB)
                      (try simp only [drewN_setCell])
                      generalize (w59.setCell ⟨go49, (((rd_T73 l0_1 x28_2).f1) : Int).toNat, none⟩ (.int .i64 (wrap64 ((rd (rd_L4 y248 ((rd_T73 l0_1 x28_2).f0)) ((rd_T73 l0_1 x28_2).f1)) - 1)))) = w62 at n0_ n1_ n2_ n3_ ⊢
                      have HO_3 := n0_
                      have BK229 := n1_
                      have BK238 := n2_
                      have HB := n3_
                      clear n0_ n1_ n2_ n3_
                      have n0_ := Aside0.mk (Kd.S_drew HO_3.out)
                      have n1_ := Aside0.mk (blk_drew BK229.out)
                      have n2_ := Aside0.mk (blk_drew BK238.out)
                      have n3_ := Aside0.mk (below_drew1 HB.out)
                      clear HO_3
                      clear BK229
                      clear BK238
                      clear HB
                      have HO_3 := n0_
                      have BK229 := n1_
                      have BK238 := n2_
                      have HB := n3_
                      clear n0_ n1_ n2_ n3_
                      have p254 : 0 ≤ (((rd_T73 l0_1 x28_2).f1) : Int) := of_decide_eq_true (by first | (with_reducible assumption) | assumption)
                      have q254 : ((rd_T73 l0_1 x28_2).f1) < (y253.length : Int) := (by have h_ : (((rd_T73 l0_1 x28_2).f1) : Int) < ((x3_25.length : Int) : Int) := of_decide_eq_true (by first | (with_reducible assumption) | assumption); first | (have e_ := (Kd.S_reads' HO_3.out).1; omega) | simpa only [Ny248.out, Ny253.out, List.length_set] using h_)
                      have ql254 : ((((rd_T73 l0_1 x28_2).f1) : Int) < ((x3_25.length : Int) : Int)) = True := eq_true (of_decide_eq_true (by first | (with_reducible assumption) | assumption))
                      obtain ⟨ad254, A254_0, c254_0, e254, hx254_0, hl254_0, hi254_0⟩ := at_L4 (Kd.S_reads' HO_3.out).2.2 ((rd_T73 l0_1 x28_2).f1) p254 q254
                      obtain rfl : ad244 = ad254 := (by injection e254)
                      obtain ⟨ce254, hce254, hMe254, hcc254⟩ := Kd.S_get HO_3.out [] ((rd_T73 l0_1 x28_2).f1) p254 (by first | exact q254 | exact of_decide_eq_true (by first | (with_reducible assumption) | assumption) | (have e_ := (Kd.S_reads' HO_3.out).1; omega))
                      obtain ⟨ve254_0, rfl, ge254_0⟩ := hMe254
                      have hv254_0 := hcc254 0 _ rfl
                      rw [Nat.add_zero, show ((Kd.slice 3 (Kd.int .i64))).sz = 1 from rfl, Nat.mul_one] at hv254_0
                      replace hv254_0 := Option.some.inj (hv254_0.symm.trans hx254_0)
                      rw [hv254_0] at ge254_0
                      have HL254_0 := Aside0.mk (show Kd.R (Kd.int .i64) 3 _ _ _ _ (rd_L4 y253 ((rd_T73 l0_1 x28_2).f1)) from ge254_0)
                      clear hv254_0 ge254_0
                      have HX254_0 := Aside0.mk hx254_0
                      clear hcc254 hce254
                      have HR254_0 := Aside0.mk hi254_0
                      have HC254_0 := Aside0.mk hl254_0
                      clear hi254_0 hl254_0
                      replace p254 := eq_true p254
                      replace q254 := eq_true q254
                      have p255 : 0 ≤ (((rd_T73 l0_1 x28_2).f0) : Int) := of_decide_eq_true (by first | (with_reducible assumption) | assumption)
                      have q255 : ((rd_T73 l0_1 x28_2).f0) < ((rd_L4 y253 ((rd_T73 l0_1 x28_2).f1)).length : Int) := of_decide_eq_true (by first | (with_reducible assumption) | assumption)
                      obtain ⟨ad255, e255, hx255_0⟩ := Kd.at_int (by repeat (first | (with_reducible exact HR254_0.out) | (with_reducible refine Kd.C_alloc ?_ _) | (with_reducible refine Kd.C_drewN ?_ _) | (with_reducible refine Kd.C_drew ?_) | exact HR254_0.out)) ((rd_T73 l0_1 x28_2).f0) p255 q255
                      cases e255
                      replace p255 := eq_true p255
                      replace q255 := eq_true q255
                      have p51 : 0 ≤ (((rd_T73 l0_1 x28_2).f0) : Int) := of_decide_eq_true (by first | (with_reducible assumption) | assumption)
                      have q51 : (((rd_T73 l0_1 x28_2).f0) : Int) < (((rd_L4 y253 ((rd_T73 l0_1 x28_2).f1)).length : Int) : Int) := of_decide_eq_true (by first | (with_reducible assumption) | assumption)
                      obtain ⟨go51, co51, eo51, gb51, gl51, cl51, HG51⟩ := Kd.R_form HL254_0.out (by omega)
                      (first | cases eo51 | (injection eo51 with ea_ en_ ec_; (first | subst ea_ | (injection ea_ with ea_; subst ea_)); subst ec_; clear en_))
                      have GB51 := Aside0.mk gb51
                      have GG51 := Aside0.mk HG51
                      clear gb51 gl51 HG51
                      (first | simp only [add_plain] at hx255_0 | skip)
                      obtain ⟨hx51_0, hf51_0⟩ := Kd.R_celln 0 HL254_0.out (((rd_T73 l0_1 x28_2).f0) : Int) p51 q51
                      replace p51 := eq_true p51
                      replace q51 := eq_true q51
                      have hq64 : (((rd_T73 l0_1 x28_2).f1) : Int) < (y253.length : Int) := (by have h_ : (((rd_T73 l0_1 x28_2).f1) : Int) < ((x3_25.length : Int) : Int) := of_decide_eq_true (by first | (with_reducible assumption) | assumption); first | exact h_ | (have e_ := (Kd.S_reads' HO_3.out).1; omega) | simpa only [Ny248.out, Ny253.out, List.length_set] using h_)
                      obtain ⟨oki64, ce64, hcl64, hM64, hcc64, hok64, hbk64⟩ := Kd.S_borrow HO_3.out [] (((rd_T73 l0_1 x28_2).f1) : Int) (of_decide_eq_true (by first | (with_reducible assumption) | assumption)) (by first | exact hq64 | (have e_ := (Kd.S_reads' HO_3.out).1; omega))
                      obtain ⟨ve64_0, rfl, ge64_0⟩ := hM64
                      have hv64 := hcc64 0 _ rfl
                      rw [Nat.add_zero, show ((Kd.slice 3 (Kd.int .i64))).sz = 1 from rfl, Nat.mul_one] at hv64
                      replace hv64 := Option.some.inj (hv64.symm.trans HX254_0.out)
                      subst hv64
                      clear hcc64 hcl64
                      replace ge64_0 := (show Kd.R (Kd.int .i64) 3 _ _ _ _ (rd_L4 y253 ((rd_T73 l0_1 x28_2).f1)) from ge64_0)
                      have HP64 := Kd.R_putg ge64_0 (((rd_T73 l0_1 x28_2).f0) : Int) (wrap64 ((rd (rd_L4 y253 ((rd_T73 l0_1 x28_2).f1)) ((rd_T73 l0_1 x28_2).f0)) - 1))
                      rw [← Ny256.out] at HP64
                      have HS64 := hbk64 HP64.2 (fun k_ e_ => by injection e_ with e_; subst e_; exact ge64_0.1 _ rfl) (x' := y256) (Kd.M_row HP64.1)
                      rw [← Ny258.out] at HS64
                      have HQ64 := Aside0.mk HS64
                      clear HP64 HS64 hbk64 hok64
                      refine start_ (n := 12) (S := fun w' => w'.cell? ⟨gb238, 0, none⟩ = some (.int .i64 ((rd_T73 l0_1 x28_2).f0)) ∧ w'.cell? ⟨gb238, 1, none⟩ = some (.int .i64 ((rd_T73 l0_1 x28_2).f1)) ∧ w'.cell? (ad244.add (((rd_T73 l0_1 x28_2).f1)).toNat) = some (.slice (some ⟨go51, 0, none⟩) (rd_L4 y253 ((rd_T73 l0_1 x28_2).f1)).length c254_0) ∧ w'.cell? ⟨go51, (((rd_T73 l0_1 x28_2).f0)).toNat, none⟩ = some (.int .i64 (rd (rd_L4 y253 ((rd_T73 l0_1 x28_2).f1)) ((rd_T73 l0_1 x28_2).f0)))) (ds := [11]) #[false, false, false, false, false, false, false, false, false, false, false, false] (by kernel_rfl) rfl rfl ⟨(blk_cell BK238.out 0).trans rfl, (blk_cell BK238.out 1).trans rfl, hx254_0, hx255_0⟩ (fun hHeld => ?_); refine with_tabW impl_Net_laplacian.tab17 impl_Net_laplacian.bits17 (fun HT_ HW_ => ?_)
                      generalize w62.drew = w63 at HO_3 BK229 BK238 HB GG51 HL254_0 HQ60 HQ64 HR254_0 HX254_0 hf51_0 hx254_0 hx255_0 hx51_0 hHeld ⊢
                      refine pure_ (i := 0) (N := some 86) (v := ?_) (a' := ?_) #[true, false, false, false, false, false, false, false, false, false, false, false] rfl rfl (any_of HT_.out (by kernel_rfl)) (fun _ _ _ h => h) (Or.inl ⟨by rfl, ?_⟩) ?_ ?_
                      rotate_left
                      ·intro w'
                       go_simp
                       with_reducible rfl
                      rotate_left
                      ·simp only [Act.put, List.setIfInBounds_toArray, List.set_cons_zero, List.set_cons_succ, i64_w, i32_w]
                       rfl
                      refine pure_ (i := 1) (N := some 87) (v := ?_) (a' := ?_) #[true, true, false, false, false, false, false, false, false, false, false, false] rfl rfl (any_of HT_.out (by kernel_rfl)) (fun _ _ _ h => h) (Or.inl ⟨by rfl, ?_⟩) ?_ ?_
                      rotate_left
                      ·intro w'
                       go_simp
                       with_reducible rfl
                      rotate_left
                      ·simp only [Act.put, List.setIfInBounds_toArray, List.set_cons_zero, List.set_cons_succ, i64_w, i32_w]
                       rfl
                      refine pure_ (i := 5) (N := some 91) (v := ?_) (a' := ?_) #[true, true, false, false, false, true, false, false, false, false, false, false] rfl rfl (any_of HT_.out (by kernel_rfl)) (fun _ _ _ h => h) (Or.inl ⟨by rfl, ?_⟩) ?_ ?_
                      rotate_left
                      ·intro w'
                       go_simp
                       with_reducible rfl
                      rotate_left
                      ·simp only [Act.put, List.setIfInBounds_toArray, List.set_cons_zero, List.set_cons_succ, i64_w, i32_w]
                       rfl
                      refine take_ (i := 2) (N := some 88) (v := ?_) (a' := ?_) #[true, true, true, false, false, true, false, false, false, false, false, false] rfl rfl (take_ofW HT_.out HW_.out (by kernel_rfl)) (fun _ _ _ h => h) (Or.inl ⟨by rfl, ?_⟩) hHeld ?_ ?_
                      rotate_left
                      ·rintro w' ⟨s0, s1, s2, s3⟩
                       go_simp
                       with_reducible rfl
                      rotate_left
                      ·simp only [Act.put, List.setIfInBounds_toArray, List.set_cons_zero, List.set_cons_succ, i64_w, i32_w]
                       rfl
                      refine pure_ (i := 3) (N := some 89) (v := ?_) (a' := ?_) #[true, true, true, true, false, true, false, false, false, false, false, false] rfl rfl (any_of HT_.out (by kernel_rfl)) (fun _ _ _ h => h) (Or.inl ⟨by rfl, ?_⟩) ?_ ?_
                      rotate_left
                      ·intro w'
                       go_simp
                       with_reducible rfl
                      rotate_left
                      ·simp only [Act.put, List.setIfInBounds_toArray, List.set_cons_zero, List.set_cons_succ, i64_w, i32_w]
                       rfl
                      refine take_ (i := 4) (N := some 90) (v := ?_) (a' := ?_) #[true, true, true, true, true, true, false, false, false, false, false, false] rfl rfl (take_ofW HT_.out HW_.out (by kernel_rfl)) (fun _ _ _ h => h) (Or.inl ⟨by rfl, ?_⟩) hHeld ?_ ?_
                      rotate_left
                      ·rintro w' ⟨s0, s1, s2, s3⟩
                       go_simp
                       with_reducible rfl
                      rotate_left
                      ·simp only [Act.put, List.setIfInBounds_toArray, List.set_cons_zero, List.set_cons_succ, i64_w, i32_w]
                       rfl
                      refine take_ (i := 6) (N := some 92) (v := ?_) (a' := ?_) #[true, true, true, true, true, true, true, false, false, false, false, false] rfl rfl (take_ofW HT_.out HW_.out (by kernel_rfl)) (fun _ _ _ h => h) (Or.inl ⟨by rfl, ?_⟩) hHeld ?_ ?_
                      rotate_left
                      ·rintro w' ⟨s0, s1, s2, s3⟩
                       go_simp
                       with_reducible rfl
                      rotate_left
                      ·simp only [Act.put, List.setIfInBounds_toArray, List.set_cons_zero, List.set_cons_succ, i64_w, i32_w]
                       rfl
                      refine pure_ (i := 7) (N := some 93) (v := ?_) (a' := ?_) #[true, true, true, true, true, true, true, true, false, false, false, false] rfl rfl (any_of HT_.out (by kernel_rfl)) (fun _ _ _ h => h) (Or.inl ⟨by rfl, ?_⟩) ?_ ?_
                      rotate_left
                      ·intro w'
                       go_simp
                       with_reducible rfl
                      rotate_left
                      ·simp only [Act.put, List.setIfInBounds_toArray, List.set_cons_zero, List.set_cons_succ, i64_w, i32_w]
                       rfl
                      refine take_ (i := 8) (N := some 94) (v := ?_) (a' := ?_) #[true, true, true, true, true, true, true, true, true, false, false, false] rfl rfl (take_ofW HT_.out HW_.out (by kernel_rfl)) (fun _ _ _ h => h) (Or.inl ⟨by rfl, ?_⟩) hHeld ?_ ?_
                      rotate_left
                      ·rintro w' ⟨s0, s1, s2, s3⟩
                       go_simp
                       with_reducible rfl
                      rotate_left
                      ·simp only [Act.put, List.setIfInBounds_toArray, List.set_cons_zero, List.set_cons_succ, i64_w, i32_w]
                       rfl
                      refine pure_ (i := 9) (N := some 95) (v := ?_) (a' := ?_) #[true, true, true, true, true, true, true, true, true, true, false, false] rfl rfl (any_of HT_.out (by kernel_rfl)) (fun _ _ _ h => h) (Or.inl ⟨by rfl, ?_⟩) ?_ ?_
                      rotate_left
                      ·intro w'
                       go_simp
                       with_reducible rfl
                      rotate_left
                      ·simp only [Act.put, List.setIfInBounds_toArray, List.set_cons_zero, List.set_cons_succ, i64_w, i32_w]
                       rfl
                      refine pure_ (i := 10) (N := some 96) (v := ?_) (a' := ?_) #[true, true, true, true, true, true, true, true, true, true, true, false] rfl rfl (any_of HT_.out (by kernel_rfl)) (fun _ _ _ h => h) (Or.inl ⟨by rfl, ?_⟩) ?_ ?_
                      rotate_left
                      ·intro w'
                       go_simp
                       with_reducible rfl
                      rotate_left
                      ·simp only [Act.put, List.setIfInBounds_toArray, List.set_cons_zero, List.set_cons_succ, i64_w, i32_w]
                       rfl
                      refine last_ (i := 11) (N := none) #[true, true, true, true, true, true, true, true, true, true, true, true] rfl rfl (one_of HT_.out (by kernel_rfl)) (by decide) (fun K hK => ?_)
                      refine skip_ (w1 := ?_) (by rfl) rfl ?_ ?_
                      rotate_left
                      ·go_simp
                       rfl
                      refine hK.out _ _ ?_
                      clear hK K
                      refine done_ (done_of HT_.out (by kernel_rfl)) ?_
                      try go_wp2
                      (try simp only [← hl3_2, ← hl3_25])
                      go_roundg kj25
                      case measure => have := HK1.out; have := HK2.out; have := HJ25.out; omega
                      case rel => exact ⟨(y258), (wrap64 (x28_2 + 1)), (by first | rfl | (simp; done) | (simp [*]; done)), H', ⟨by have := HK1.out; have := HK2.out; have := HJ25.out; omega⟩, ⟨by (try simp only [hl3_1]); (try simp only [hl3_2]); (try simp only [hl3_25]); (with_reducible repeat (first | apply Kd.S_alloc | apply Kd.S_drewN | apply Kd.S_drew)); exact HQ64.out⟩, ⟨by (try simp only [hl3_1]); (try simp only [hl3_2]); (try simp only [hl3_25]); (with_reducible repeat (first | refine blk_drewN ?_ _ | refine blk_drew ?_ | refine blk_alloc ?_ _)); refine blk_far ?_ (by have h_ := Kd.R_ne HL254_0.out BK229.out (by decide); intro e_; exact h_ (by rw [e_]; rfl)) _; (with_reducible repeat (first | refine blk_drewN ?_ _ | refine blk_drew ?_ | refine blk_alloc ?_ _)); exact BK229.out⟩, ⟨by repeat (first | (with_reducible first | exact HB.out | apply below_alloc | apply pw_below_drewN | apply below_drew1 | refine below_set ?_ GB51.out | refine below_set ?_ GE229.out | refine below_set ?_ GE238.out) | exact HB.out)⟩⟩
                     ·rw [if_neg c50] at H
                      exact absurd H (by simp)
                    ·rw [if_neg c48] at H
                     exact absurd H (by simp)
                   ·rw [if_neg c47] at H
                    exact absurd H (by simp)
                  ·rw [if_neg c46] at H
                   exact absurd H (by simp)
                 ·rw [if_neg c45] at H
                  have c45b0 : decide (((rd_T73 l0_1 x28_2).f0) < (wrap64 (a0_0 - 1))) = false := decide_eq_false c45
                  (try (have c45b0h0 := c45b0; simp only [hji2] at c45b0h0))
                  clear c45
                  have H' := Aside0.mk H
                  clear H
                  have hnb66 := NB238_229.out
                  have hnc66 := NB229_238.out
                  have hcz67_0 : wc.cell? ⟨gb238, 0, none⟩ = some (.int .i64 ((rd_T73 l0_1 x28_2).f0)) := (blk_cell BK238.out 0).trans rfl
                  have hcz67_1 : wc.cell? ⟨gb238, 1, none⟩ = some (.int .i64 ((rd_T73 l0_1 x28_2).f1)) := (blk_cell BK238.out 1).trans rfl
                  have hfz67_0 := blk_frozen BK238.out 0
                  have hfz67_1 := blk_frozen BK238.out 1
                  try go_wp2
                  have n0_ := Aside0.mk (Kd.S_drew HO_3.out)
                  have n1_ := Aside0.mk (blk_drew BK229.out)
                  have n2_ := Aside0.mk (blk_drew BK238.out)
                  have n3_ := Aside0.mk (below_drew1 HB.out)
                  clear HO_3
                  clear BK229
                  clear BK238
                  clear HB
                  have HO_3 := n0_
                  have BK229 := n1_
                  have BK238 := n2_
                  have HB := n3_
                  clear n0_ n1_ n2_ n3_
                  have p244 : 0 ≤ (((rd_T73 l0_1 x28_2).f1) : Int) := of_decide_eq_true (by first | (with_reducible assumption) | assumption)
                  have q244 : ((rd_T73 l0_1 x28_2).f1) < (x3_25.length : Int) := of_decide_eq_true (by first | (with_reducible assumption) | assumption)
                  obtain ⟨ad244, A244_0, c244_0, e244, hx244_0, hl244_0, hi244_0⟩ := at_L4 (Kd.S_reads' HO_3.out).2.2 ((rd_T73 l0_1 x28_2).f1) p244 q244
                  cases e244
                  obtain ⟨ce244, hce244, hMe244, hcc244⟩ := Kd.S_get HO_3.out [] ((rd_T73 l0_1 x28_2).f1) p244 (by first | exact q244 | exact of_decide_eq_true (by first | (with_reducible assumption) | assumption) | (have e_ := (Kd.S_reads' HO_3.out).1; omega))
                  obtain ⟨ve244_0, rfl, ge244_0⟩ := hMe244
                  have hv244_0 := hcc244 0 _ rfl
                  rw [Nat.add_zero, show ((Kd.slice 3 (Kd.int .i64))).sz = 1 from rfl, Nat.mul_one] at hv244_0
                  replace hv244_0 := Option.some.inj (hv244_0.symm.trans hx244_0)
                  rw [hv244_0] at ge244_0
                  have HL244_0 := Aside0.mk (show Kd.R (Kd.int .i64) 3 _ _ _ _ (rd_L4 x3_25 ((rd_T73 l0_1 x28_2).f1)) from ge244_0)
                  clear hv244_0 ge244_0
                  have HX244_0 := Aside0.mk hx244_0
                  clear hcc244 hce244
                  have HR244_0 := Aside0.mk hi244_0
                  have HC244_0 := Aside0.mk hl244_0
                  clear hi244_0 hl244_0
                  replace p244 := eq_true p244
                  replace q244 := eq_true q244
                  have p245 : 0 ≤ (((rd_T73 l0_1 x28_2).f1) : Int) := of_decide_eq_true (by first | (with_reducible assumption) | assumption)
                  have q245 : ((rd_T73 l0_1 x28_2).f1) < ((rd_L4 x3_25 ((rd_T73 l0_1 x28_2).f1)).length : Int) := of_decide_eq_true (by first | (with_reducible assumption) | assumption)
                  obtain ⟨ad245, e245, hx245_0⟩ := Kd.at_int (by repeat (first | (with_reducible exact HR244_0.out) | (with_reducible refine Kd.C_alloc ?_ _) | (with_reducible refine Kd.C_drewN ?_ _) | (with_reducible refine Kd.C_drew ?_) | exact HR244_0.out)) ((rd_T73 l0_1 x28_2).f1) p245 q245
                  cases e245
                  replace p245 := eq_true p245
                  replace q245 := eq_true q245
                  have p44 : 0 ≤ (((rd_T73 l0_1 x28_2).f1) : Int) := of_decide_eq_true (by first | (with_reducible assumption) | assumption)
                  have q44 : (((rd_T73 l0_1 x28_2).f1) : Int) < (((rd_L4 x3_25 ((rd_T73 l0_1 x28_2).f1)).length : Int) : Int) := of_decide_eq_true (by first | (with_reducible assumption) | assumption)
                  obtain ⟨go44, co44, eo44, gb44, gl44, cl44, HG44⟩ := Kd.R_form HL244_0.out (by omega)
                  (first | cases eo44 | (injection eo44 with ea_ en_ ec_; (first | subst ea_ | (injection ea_ with ea_; subst ea_)); subst ec_; clear en_))
                  have GB44 := Aside0.mk gb44
                  have GG44 := Aside0.mk HG44
                  clear gb44 gl44 HG44
                  (first | simp only [add_plain] at hx245_0 | skip)
                  obtain ⟨hx44_0, hf44_0⟩ := Kd.R_celln 0 HL244_0.out (((rd_T73 l0_1 x28_2).f1) : Int) p44 q44
                  replace p44 := eq_true p44
                  replace q44 := eq_true q44
                  have hq69 : (((rd_T73 l0_1 x28_2).f1) : Int) < (x3_25.length : Int) := (by have h_ : (((rd_T73 l0_1 x28_2).f1) : Int) < ((x3_25.length : Int) : Int) := of_decide_eq_true (by first | (with_reducible assumption) | assumption); first | exact h_ | (have e_ := (Kd.S_reads' HO_3.out).1; omega) | simpa only [List.length_set, List.length_set] using h_)
                  obtain ⟨oki69, ce69, hcl69, hM69, hcc69, hok69, hbk69⟩ := Kd.S_borrow HO_3.out [] (((rd_T73 l0_1 x28_2).f1) : Int) (of_decide_eq_true (by first | (with_reducible assumption) | assumption)) (by first | exact hq69 | (have e_ := (Kd.S_reads' HO_3.out).1; omega))
                  obtain ⟨ve69_0, rfl, ge69_0⟩ := hM69
                  have hv69 := hcc69 0 _ rfl
                  rw [Nat.add_zero, show ((Kd.slice 3 (Kd.int .i64))).sz = 1 from rfl, Nat.mul_one] at hv69
                  replace hv69 := Option.some.inj (hv69.symm.trans HX244_0.out)
                  subst hv69
                  clear hcc69 hcl69
                  replace ge69_0 := (show Kd.R (Kd.int .i64) 3 _ _ _ _ (rd_L4 x3_25 ((rd_T73 l0_1 x28_2).f1)) from ge69_0)
                  have HP69 := Kd.R_putg ge69_0 (((rd_T73 l0_1 x28_2).f1) : Int) (wrap64 ((rd (rd_L4 x3_25 ((rd_T73 l0_1 x28_2).f1)) ((rd_T73 l0_1 x28_2).f1)) + 1))
                  rw [← Ny246.out] at HP69
                  have HS69 := hbk69 HP69.2 (fun k_ e_ => by injection e_ with e_; subst e_; exact ge69_0.1 _ rfl) (x' := y246) (Kd.M_row HP69.1)
                  rw [← Ny248.out] at HS69
                  have HQ69 := Aside0.mk HS69
                  clear HP69 HS69 hbk69 hok69
                  refine start_ (n := 12) (S := fun w' => w'.cell? ⟨gb238, 0, none⟩ = some (.int .i64 ((rd_T73 l0_1 x28_2).f0)) ∧ w'.cell? ⟨gb238, 1, none⟩ = some (.int .i64 ((rd_T73 l0_1 x28_2).f1)) ∧ w'.cell? (ad244.add (((rd_T73 l0_1 x28_2).f1)).toNat) = some (.slice (some ⟨go44, 0, none⟩) (rd_L4 x3_25 ((rd_T73 l0_1 x28_2).f1)).length c244_0) ∧ w'.cell? ⟨go44, (((rd_T73 l0_1 x28_2).f1)).toNat, none⟩ = some (.int .i64 (rd (rd_L4 x3_25 ((rd_T73 l0_1 x28_2).f1)) ((rd_T73 l0_1 x28_2).f1)))) (ds := [11]) #[false, false, false, false, false, false, false, false, false, false, false, false] (by kernel_rfl) rfl rfl ⟨(blk_cell BK238.out 0).trans rfl, (blk_cell BK238.out 1).trans rfl, hx244_0, hx245_0⟩ (fun hHeld => ?_); refine with_tabW impl_Net_laplacian.tab14 impl_Net_laplacian.bits14 (fun HT_ HW_ => ?_)
                  generalize wc.drew = w68 at HO_3 BK229 BK238 HB GG44 HL244_0 HQ69 HR244_0 HX244_0 hf44_0 hx244_0 hx245_0 hx44_0 hHeld ⊢
                  refine pure_ (i := 0) (N := some 54) (v := ?_) (a' := ?_) #[true, false, false, false, false, false, false, false, false, false, false, false] rfl rfl (any_of HT_.out (by kernel_rfl)) (fun _ _ _ h => h) (Or.inl ⟨by rfl, ?_⟩) ?_ ?_
                  rotate_left
                  ·intro w'
                   go_simp
                   with_reducible rfl
                  rotate_left
                  ·simp only [Act.put, List.setIfInBounds_toArray, List.set_cons_zero, List.set_cons_succ, i64_w, i32_w]
                   rfl
                  refine pure_ (i := 1) (N := some 55) (v := ?_) (a' := ?_) #[true, true, false, false, false, false, false, false, false, false, false, false] rfl rfl (any_of HT_.out (by kernel_rfl)) (fun _ _ _ h => h) (Or.inl ⟨by rfl, ?_⟩) ?_ ?_
                  rotate_left
                  ·intro w'
                   go_simp
                   with_reducible rfl
                  rotate_left
                  ·simp only [Act.put, List.setIfInBounds_toArray, List.set_cons_zero, List.set_cons_succ, i64_w, i32_w]
                   rfl
                  refine pure_ (i := 5) (N := some 59) (v := ?_) (a' := ?_) #[true, true, false, false, false, true, false, false, false, false, false, false] rfl rfl (any_of HT_.out (by kernel_rfl)) (fun _ _ _ h => h) (Or.inl ⟨by rfl, ?_⟩) ?_ ?_
                  rotate_left
                  ·intro w'
                   go_simp
                   with_reducible rfl
                  rotate_left
                  ·simp only [Act.put, List.setIfInBounds_toArray, List.set_cons_zero, List.set_cons_succ, i64_w, i32_w]
                   rfl
                  refine take_ (i := 2) (N := some 56) (v := ?_) (a' := ?_) #[true, true, true, false, false, true, false, false, false, false, false, false] rfl rfl (take_ofW HT_.out HW_.out (by kernel_rfl)) (fun _ _ _ h => h) (Or.inl ⟨by rfl, ?_⟩) hHeld ?_ ?_
                  rotate_left
                  ·rintro w' ⟨s0, s1, s2, s3⟩
                   go_simp
                   with_reducible rfl
                  rotate_left
                  ·simp only [Act.put, List.setIfInBounds_toArray, List.set_cons_zero, List.set_cons_succ, i64_w, i32_w]
                   rfl
                  refine pure_ (i := 3) (N := some 57) (v := ?_) (a' := ?_) #[true, true, true, true, false, true, false, false, false, false, false, false] rfl rfl (any_of HT_.out (by kernel_rfl)) (fun _ _ _ h => h) (Or.inl ⟨by rfl, ?_⟩) ?_ ?_
                  rotate_left
                  ·intro w'
                   go_simp
                   with_reducible rfl
                  rotate_left
                  ·simp only [Act.put, List.setIfInBounds_toArray, List.set_cons_zero, List.set_cons_succ, i64_w, i32_w]
                   rfl
                  refine take_ (i := 4) (N := some 58) (v := ?_) (a' := ?_) #[true, true, true, true, true, true, false, false, false, false, false, false] rfl rfl (take_ofW HT_.out HW_.out (by kernel_rfl)) (fun _ _ _ h => h) (Or.inl ⟨by rfl, ?_⟩) hHeld ?_ ?_
                  rotate_left
                  ·rintro w' ⟨s0, s1, s2, s3⟩
                   go_simp
                   with_reducible rfl
                  rotate_left
                  ·simp only [Act.put, List.setIfInBounds_toArray, List.set_cons_zero, List.set_cons_succ, i64_w, i32_w]
                   rfl
                  refine take_ (i := 6) (N := some 60) (v := ?_) (a' := ?_) #[true, true, true, true, true, true, true, false, false, false, false, false] rfl rfl (take_ofW HT_.out HW_.out (by kernel_rfl)) (fun _ _ _ h => h) (Or.inl ⟨by rfl, ?_⟩) hHeld ?_ ?_
                  rotate_left
                  ·rintro w' ⟨s0, s1, s2, s3⟩
                   go_simp
                   with_reducible rfl
                  rotate_left
                  ·simp only [Act.put, List.setIfInBounds_toArray, List.set_cons_zero, List.set_cons_succ, i64_w, i32_w]
                   rfl
                  refine pure_ (i := 7) (N := some 61) (v := ?_) (a' := ?_) #[true, true, true, true, true, true, true, true, false, false, false, false] rfl rfl (any_of HT_.out (by kernel_rfl)) (fun _ _ _ h => h) (Or.inl ⟨by rfl, ?_⟩) ?_ ?_
                  rotate_left
                  ·intro w'
                   go_simp
                   with_reducible rfl
                  rotate_left
                  ·simp only [Act.put, List.setIfInBounds_toArray, List.set_cons_zero, List.set_cons_succ, i64_w, i32_w]
                   rfl
                  refine take_ (i := 8) (N := some 62) (v := ?_) (a' := ?_) #[true, true, true, true, true, true, true, true, true, false, false, false] rfl rfl (take_ofW HT_.out HW_.out (by kernel_rfl)) (fun _ _ _ h => h) (Or.inl ⟨by rfl, ?_⟩) hHeld ?_ ?_
                  rotate_left
                  ·rintro w' ⟨s0, s1, s2, s3⟩
                   go_simp
                   with_reducible rfl
                  rotate_left
                  ·simp only [Act.put, List.setIfInBounds_toArray, List.set_cons_zero, List.set_cons_succ, i64_w, i32_w]
                   rfl
                  refine pure_ (i := 9) (N := some 63) (v := ?_) (a' := ?_) #[true, true, true, true, true, true, true, true, true, true, false, false] rfl rfl (any_of HT_.out (by kernel_rfl)) (fun _ _ _ h => h) (Or.inl ⟨by rfl, ?_⟩) ?_ ?_
                  rotate_left
                  ·intro w'
                   go_simp
                   with_reducible rfl
                  rotate_left
                  ·simp only [Act.put, List.setIfInBounds_toArray, List.set_cons_zero, List.set_cons_succ, i64_w, i32_w]
                   rfl
                  refine pure_ (i := 10) (N := some 64) (v := ?_) (a' := ?_) #[true, true, true, true, true, true, true, true, true, true, true, false] rfl rfl (any_of HT_.out (by kernel_rfl)) (fun _ _ _ h => h) (Or.inl ⟨by rfl, ?_⟩) ?_ ?_
                  rotate_left
                  ·intro w'
                   go_simp
                   with_reducible rfl
                  rotate_left
                  ·simp only [Act.put, List.setIfInBounds_toArray, List.set_cons_zero, List.set_cons_succ, i64_w, i32_w]
                   rfl
                  refine last_ (i := 11) (N := none) #[true, true, true, true, true, true, true, true, true, true, true, true] rfl rfl (one_of HT_.out (by kernel_rfl)) (by decide) (fun K hK => ?_)
                  refine skip_ (w1 := ?_) (by rfl) rfl ?_ ?_
                  rotate_left
                  ·go_simp
                   rfl
                  refine hK.out _ _ ?_
                  clear hK K
                  refine done_ (done_of HT_.out (by kernel_rfl)) ?_
                  have hcz71_0 : w68.cell? ⟨gb238, 0, none⟩ = some (.int .i64 ((rd_T73 l0_1 x28_2).f0)) := (blk_cell BK238.out 0).trans rfl
                  have hcz71_1 : w68.cell? ⟨gb238, 1, none⟩ = some (.int .i64 ((rd_T73 l0_1 x28_2).f1)) := (blk_cell BK238.out 1).trans rfl
                  have hfz71_0 := blk_frozen BK238.out 0
                  have hfz71_1 := blk_frozen BK238.out 1
                  (try (have hcz71_0s : ∀ (o_ : Nat) (v_ : Value), (w68.setCell ⟨go44, o_, none⟩ v_).cell? ⟨gb238, 0, none⟩ = some (.int .i64 ((rd_T73 l0_1 x28_2).f0)) := fun o_ v_ => (blk_cell (blk_far BK238.out (by have h_ := Kd.R_ne HL244_0.out BK238.out (by decide); intro e_; exact h_ (by rw [e_]; rfl)) v_) 0).trans rfl))
                  (try (have hcz71_1s : ∀ (o_ : Nat) (v_ : Value), (w68.setCell ⟨go44, o_, none⟩ v_).cell? ⟨gb238, 1, none⟩ = some (.int .i64 ((rd_T73 l0_1 x28_2).f1)) := fun o_ v_ => (blk_cell (blk_far BK238.out (by have h_ := Kd.R_ne HL244_0.out BK238.out (by decide); intro e_; exact h_ (by rw [e_]; rfl)) v_) 1).trans rfl))
                  (try (have hfz71_0s : ∀ (o_ : Nat) (v_ : Value), (w68.setCell ⟨go44, o_, none⟩ v_).frozen? ⟨gb238, 0, none⟩ = false := fun o_ v_ => blk_frozen (blk_far BK238.out (by have h_ := Kd.R_ne HL244_0.out BK238.out (by decide); intro e_; exact h_ (by rw [e_]; rfl)) v_) 0))
                  (try (have hfz71_1s : ∀ (o_ : Nat) (v_ : Value), (w68.setCell ⟨go44, o_, none⟩ v_).frozen? ⟨gb238, 1, none⟩ = false := fun o_ v_ => blk_frozen (blk_far BK238.out (by have h_ := Kd.R_ne HL244_0.out BK238.out (by decide); intro e_; exact h_ (by rw [e_]; rfl)) v_) 1))
                  try go_wp2
                  (try simp only [← hl3_2, ← hl3_25])
                  go_roundg kj25
                  case measure => have := HK1.out; have := HK2.out; have := HJ25.out; omega
                  case rel => exact ⟨(y248), (wrap64 (x28_2 + 1)), (by first | rfl | (simp; done) | (simp [*]; done)), H', ⟨by have := HK1.out; have := HK2.out; have := HJ25.out; omega⟩, ⟨by (try simp only [hl3_1]); (try simp only [hl3_2]); (try simp only [hl3_25]); (with_reducible repeat (first | apply Kd.S_alloc | apply Kd.S_drewN | apply Kd.S_drew)); exact HQ69.out⟩, ⟨by (try simp only [hl3_1]); (try simp only [hl3_2]); (try simp only [hl3_25]); (with_reducible repeat (first | refine blk_drewN ?_ _ | refine blk_drew ?_ | refine blk_alloc ?_ _)); refine blk_far ?_ (by have h_ := Kd.R_ne HL244_0.out BK229.out (by decide); intro e_; exact h_ (by rw [e_]; rfl)) _; (with_reducible repeat (first | refine blk_drewN ?_ _ | refine blk_drew ?_ | refine blk_alloc ?_ _)); exact BK229.out⟩, ⟨by repeat (first | (with_reducible first | exact HB.out | apply below_alloc | apply pw_below_drewN | apply below_drew1 | refine below_set ?_ GB44.out | refine below_set ?_ GE229.out | refine below_set ?_ GE238.out) | exact HB.out)⟩⟩
                ·rw [if_neg c43] at H
                 exact absurd H (by simp)
               ·rw [if_neg c42] at H
                exact absurd H (by simp)
              ·rw [if_neg c41] at H
               exact absurd H (by simp)
             ·rw [if_neg c40] at H
              have c40b0 : decide (((rd_T73 l0_1 x28_2).f1) < (wrap64 (a0_0 - 1))) = false := decide_eq_false c40
              (try (have c40b0h0 := c40b0; simp only [hji2] at c40b0h0))
              clear c40
              by_cases c72 : ((rd_T73 l0_1 x28_2).f0) < (wrap64 (a0_0 - 1))
              ·rw [if_pos c72] at H
               have c72b0 : decide (((rd_T73 l0_1 x28_2).f0) < (wrap64 (a0_0 - 1))) = true := decide_eq_true c72
               (try (have c72b0h0 := c72b0; simp only [hji2] at c72b0h0))
               clear c72
               have H' := Aside0.mk H
               clear H
               have hnb73 := NB238_229.out
               have hnc73 := NB229_238.out
               have hcz74_0 : wc.cell? ⟨gb238, 0, none⟩ = some (.int .i64 ((rd_T73 l0_1 x28_2).f0)) := (blk_cell BK238.out 0).trans rfl
               have hcz74_1 : wc.cell? ⟨gb238, 1, none⟩ = some (.int .i64 ((rd_T73 l0_1 x28_2).f1)) := (blk_cell BK238.out 1).trans rfl
               have hfz74_0 := blk_frozen BK238.out 0
               have hfz74_1 := blk_frozen BK238.out 1
               go_wp2
               (try simp only [← hl3_2, ← hl3_25])
               go_roundg kj25
               case measure => have := HK1.out; have := HK2.out; have := HJ25.out; omega
               case rel => exact ⟨(x3_25), (wrap64 (x28_2 + 1)), (by first | rfl | (simp; done) | (simp [*]; done)), H', ⟨by have := HK1.out; have := HK2.out; have := HJ25.out; omega⟩, ⟨by (try simp only [hl3_1]); (try simp only [hl3_2]); (try simp only [hl3_25]); (with_reducible repeat (first | apply Kd.S_alloc | apply Kd.S_drewN | apply Kd.S_drew)); exact HO_3.out⟩, ⟨by (try simp only [hl3_1]); (try simp only [hl3_2]); (try simp only [hl3_25]); (with_reducible repeat (first | refine blk_drewN ?_ _ | refine blk_drew ?_ | refine blk_alloc ?_ _)); exact BK229.out⟩, ⟨upW HB⟩⟩
              ·rw [if_neg c72] at H
               have c72b0 : decide (((rd_T73 l0_1 x28_2).f0) < (wrap64 (a0_0 - 1))) = false := decide_eq_false c72
               (try (have c72b0h0 := c72b0; simp only [hji2] at c72b0h0))
               clear c72
               have H' := Aside0.mk H
               clear H
               have hnb75 := NB238_229.out
               have hnc75 := NB229_238.out
               have hcz76_0 : wc.cell? ⟨gb238, 0, none⟩ = some (.int .i64 ((rd_T73 l0_1 x28_2).f0)) := (blk_cell BK238.out 0).trans rfl
               have hcz76_1 : wc.cell? ⟨gb238, 1, none⟩ = some (.int .i64 ((rd_T73 l0_1 x28_2).f1)) := (blk_cell BK238.out 1).trans rfl
               have hfz76_0 := blk_frozen BK238.out 0
               have hfz76_1 := blk_frozen BK238.out 1
               go_wp2
               (try simp only [← hl3_2, ← hl3_25])
               go_roundg kj25
               case measure => have := HK1.out; have := HK2.out; have := HJ25.out; omega
               case rel => exact ⟨(x3_25), (wrap64 (x28_2 + 1)), (by first | rfl | (simp; done) | (simp [*]; done)), H', ⟨by have := HK1.out; have := HK2.out; have := HJ25.out; omega⟩, ⟨by (try simp only [hl3_1]); (try simp only [hl3_2]); (try simp only [hl3_25]); (with_reducible repeat (first | apply Kd.S_alloc | apply Kd.S_drewN | apply Kd.S_drew)); exact HO_3.out⟩, ⟨by (try simp only [hl3_1]); (try simp only [hl3_2]); (try simp only [hl3_25]); (with_reducible repeat (first | refine blk_drewN ?_ _ | refine blk_drew ?_ | refine blk_alloc ?_ _)); exact BK229.out⟩, ⟨upW HB⟩⟩
          ·rw [if_neg c25] at H
           exact absurd H (by simp)
         ·rw [if_neg c24] at H
          exact absurd H (by simp)
        ·rw [if_neg c23] at H
         have c23b0 : decide (x28_2 < (l0_1.length : Int)) = false := decide_eq_false c23
         (try (have c23b0h1 := c23b0; simp only [hl3_1] at c23b0h1))
         (try (have c23b0h2 := c23b0; simp only [hl3_2] at c23b0h2))
         clear c23
         obtain rfl := Option.some.inj H
         go_wp2
         go_ret
         exact ⟨_, by first | rfl | (simp [errW_none, errW_some] <;> rfl) | (simp only [← hji2]; first | rfl | (simp [errW_none, errW_some] <;> rfl)) | (simp [*, errW_none, errW_some] <;> rfl), by (with_reducible repeat (first | apply Kd.S_alloc | apply Kd.S_drewN | apply Kd.S_drew)); exact HO_3.out, by repeat (first | (with_reducible first | exact HB.out | apply below_alloc | apply pw_below_drewN | apply below_drew1 | refine below_set ?_ GE229.out) | exact HB.out)⟩
  ·rw [if_neg c4] at H
   exact absurd H (by simp)
 ·rw [if_neg c3] at H
  exact absurd H (by simp)

end Go.Proofs.Ytngbmjldnfljiaa.PFnExactPotentialsOf
