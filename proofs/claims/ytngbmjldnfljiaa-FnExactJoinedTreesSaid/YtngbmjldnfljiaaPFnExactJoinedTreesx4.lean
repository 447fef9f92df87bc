-- made for this claim by a program of this session
import Derived.Test.YtngbmjldnfljiaaPFnExactJoinedTreesx0
namespace Go.Proofs.Ytngbmjldnfljiaa.PFnExactJoinedTrees
open Go.RowKit Go.Proofs.YtngbmjldnfljiaaW.PrintWords Go.Proofs.YtngbmjldnfljiaaW.PrintLast Go.Proofs.YtngbmjldnfljiaaW.PrintMore
attribute [local go_sem] max2_int min2_int max_two min_two max_three min_three max_four min_four   -- for this text's walks alone
set_option linter.unusedVariables false
set_option linter.unusedSimpArgs false

/-! ### spec_neTable: function 90 -/
mutual
def spec_neTable.l0 : Nat → Int → Int → List (List Int) → Int → Int → Int → List (S73) → Option ((List (List Int)))
 | 0, _, _, _, _, _, _, _ => none
 | k + 1, x1, x2, x7, x15, x16, x151000, x151001 => if x16 < x15 then (if 0 ≤ x1 then (if (x1 : Int).toNat ≤ 35184372088832 then (if 0 ≤ x16 then (if x16 < (x7.length : Int) then (spec_neTable.l0 k x1 x2 (x7.set (x16 : Int).toNat (List.replicate (x1 : Int).toNat 0)) x15 (wrap64 (x16 + 1)) x151000 x151001) else (none)) else (none)) else (none)) else (none)) else (spec_neTable.l1 k x1 x2 x7 x151001 (x151001.length : Int) 0)
def spec_neTable.l1 : Nat → Int → Int → List (List Int) → List (S73) → Int → Int → Option ((List (List Int)))
 | 0, _, _, _, _, _, _ => none
 | k + 1, x1, x2, x7, x26, x27, x28 => if x28 < x27 then (if 0 ≤ x28 then (if x28 < (x26.length : Int) then (if ((rd_T73 x26 x28).f0) < x1 then (if 0 ≤ ((rd_T73 x26 x28).f0) then (if ((rd_T73 x26 x28).f0) < (x7.length : Int) then (if ((rd_T73 x26 x28).f0) < ((rd_L4 x7 ((rd_T73 x26 x28).f0)).length : Int) then (spec_neTable.j2 k x1 x2 (x7.set (((rd_T73 x26 x28).f0) : Int).toNat ((rd_L4 x7 ((rd_T73 x26 x28).f0)).set (((rd_T73 x26 x28).f0) : Int).toNat (wrap64 ((rd (rd_L4 x7 ((rd_T73 x26 x28).f0)) ((rd_T73 x26 x28).f0)) + 1)))) x26 x27 x28 ((rd_T73 x26 x28).f0) ((rd_T73 x26 x28).f1)) else (none)) else (none)) else (none)) else (spec_neTable.j2 k x1 x2 x7 x26 x27 x28 ((rd_T73 x26 x28).f0) ((rd_T73 x26 x28).f1))) else (none)) else (none)) else (if x2 ≥ 0 then (spec_neTable.l2 k x2 x7 (x7.length : Int) 0) else (some x7))
def spec_neTable.j2 : Nat → Int → Int → List (List Int) → List (S73) → Int → Int → Int → Int → Option ((List (List Int)))
 | 0, _, _, _, _, _, _, _, _ => none
 | k + 1, x1, x2, x7, x26, x27, x28, x160000, x160001 => if x160001 < x1 then (if 0 ≤ x160001 then (if x160001 < (x7.length : Int) then (if x160001 < ((rd_L4 x7 x160001).length : Int) then ((some (x7.set (x160001 : Int).toNat ((rd_L4 x7 x160001).set (x160001 : Int).toNat (wrap64 ((rd (rd_L4 x7 x160001) x160001) + 1))) : List (List Int))).bind fun y169 => (if x160000 < x1 then (if 0 ≤ x160000 then (if x160000 < (x7.length : Int) then (if x160001 < ((rd_L4 y169 x160000).length : Int) then ((some (y169.set (x160000 : Int).toNat ((rd_L4 y169 x160000).set (x160001 : Int).toNat (wrap64 ((rd (rd_L4 y169 x160000) x160001) - 1))) : List (List Int))).bind fun y174 => (if x160000 < ((rd_L4 y174 x160001).length : Int) then (spec_neTable.l1 k x1 x2 (y174.set (x160001 : Int).toNat ((rd_L4 y174 x160001).set (x160000 : Int).toNat (wrap64 ((rd (rd_L4 y174 x160001) x160000) - 1)))) x26 x27 (wrap64 (x28 + 1))) else (none))) else (none)) else (none)) else (none)) else (spec_neTable.l1 k x1 x2 y169 x26 x27 (wrap64 (x28 + 1))))) else (none)) else (none)) else (none)) else (if x160000 < x1 then (spec_neTable.l1 k x1 x2 x7 x26 x27 (wrap64 (x28 + 1))) else (spec_neTable.l1 k x1 x2 x7 x26 x27 (wrap64 (x28 + 1))))
def spec_neTable.l2 : Nat → Int → List (List Int) → Int → Int → Option ((List (List Int)))
 | 0, _, _, _, _ => none
 | k + 1, x2, x7, x98, x99 => if x99 < x98 then (if 0 ≤ x99 then (if x99 < (x7.length : Int) then (if 0 ≤ x2 then (if x2 < ((rd_L4 x7 x99).length : Int) then (spec_neTable.l2 k x2 (x7.set (x99 : Int).toNat ((rd_L4 x7 x99).set (x2 : Int).toNat 0)) x98 (wrap64 (x99 + 1))) else (none)) else (none)) else (none)) else (none)) else (if 0 < (x7.length : Int) then (if 0 ≤ x2 then (if x2 < ((rd_L4 x7 0).length : Int) then (some (x7.set (0 : Int).toNat ((rd_L4 x7 0).set (x2 : Int).toNat 1))) else (none)) else (none)) else (none))
end
def spec_neTable.f (k : Nat) (a0_0 : Int) (l0_1 : List (S73)) (a1 : Int) (a2 : Int) : Option ((List (List Int))) := if 0 ≤ a1 then (if (a1 : Int).toNat ≤ 11728124029610 then ((some (List.replicate (a1 : Int).toNat [] : List (List Int))).bind fun y151 => (spec_neTable.l0 k a1 a2 y151 (y151.length : Int) 0 a0_0 l0_1)) else (none)) else (none)
def spec_neTable.T11 : Bool × List (List Nat × List Nat) := (true, [([], []), ([], []), ([1], [1]), ([0, 2], [0, 2]), ([3], [3]), ([], []), ([5], [5]), ([4, 6], [4, 6]), ([7], [7]), ([8], [8]), ([4, 6, 0, 1, 2, 3, 4, 5, 6, 7, 8, 9], [4, 6]), ([10, 9, 0, 1, 2, 3, 4, 5, 6, 7, 8, 9], [9, 10])])
def spec_neTable.B11 : List Nat := [0, 0, 2, 7, 15, 0, 32, 127, 255, 511, 1023, 2047]
theorem spec_neTable.tab11 : rtab .any (opsOf Try.f90 11) = spec_neTable.T11 := by kernel_rfl
theorem spec_neTable.bits11 : waitsOk spec_neTable.T11.2 spec_neTable.B11 = true := by kernel_rfl
def spec_neTable.T13 : Bool × List (List Nat × List Nat) := (true, [([], []), ([], []), ([1], [1]), ([0, 2], [0, 2]), ([3], [3]), ([], []), ([5], [5]), ([4, 6], [4, 6]), ([7], [7]), ([8], [8]), ([4, 6, 0, 1, 2, 3, 4, 5, 6, 7, 8, 9], [4, 6]), ([10, 9, 0, 1, 2, 3, 4, 5, 6, 7, 8, 9], [9, 10])])
def spec_neTable.B13 : List Nat := [0, 0, 2, 7, 15, 0, 32, 127, 255, 511, 1023, 2047]
theorem spec_neTable.tab13 : rtab .any (opsOf Try.f90 13) = spec_neTable.T13 := by kernel_rfl
theorem spec_neTable.bits13 : waitsOk spec_neTable.T13.2 spec_neTable.B13 = true := by kernel_rfl
def spec_neTable.T15 : Bool × List (List Nat × List Nat) := (true, [([], []), ([], []), ([1], [1]), ([0, 2], [0, 2]), ([3], [3]), ([], []), ([5], [5]), ([4, 6], [4, 6]), ([7], [7]), ([8], [8]), ([4, 6, 0, 1, 2, 3, 4, 5, 6, 7, 8, 9], [4, 6]), ([10, 9, 0, 1, 2, 3, 4, 5, 6, 7, 8, 9], [9, 10])])
def spec_neTable.B15 : List Nat := [0, 0, 2, 7, 15, 0, 32, 127, 255, 511, 1023, 2047]
theorem spec_neTable.tab15 : rtab .any (opsOf Try.f90 15) = spec_neTable.T15 := by kernel_rfl
theorem spec_neTable.bits15 : waitsOk spec_neTable.T15.2 spec_neTable.B15 = true := by kernel_rfl
def spec_neTable.T16 : Bool × List (List Nat × List Nat) := (true, [([], []), ([], []), ([1], [1]), ([0, 2], [0, 2]), ([3], [3]), ([], []), ([5], [5]), ([4, 6], [4, 6]), ([7], [7]), ([8], [8]), ([4, 6, 0, 1, 2, 3, 4, 5, 6, 7, 8, 9], [4, 6]), ([10, 9, 0, 1, 2, 3, 4, 5, 6, 7, 8, 9], [9, 10])])
def spec_neTable.B16 : List Nat := [0, 0, 2, 7, 15, 0, 32, 127, 255, 511, 1023, 2047]
theorem spec_neTable.tab16 : rtab .any (opsOf Try.f90 16) = spec_neTable.T16 := by kernel_rfl
theorem spec_neTable.bits16 : waitsOk spec_neTable.T16.2 spec_neTable.B16 = true := by kernel_rfl
set_option maxHeartbeats 8000000 in
set_option maxRecDepth 100000 in
theorem spec_neTable.calls (k : Nat) (a0_0 : Int) (A0_1 : Option Addr) (c0_1 : Nat) (l0_1 : List (S73)) (a1 : Int) (a2 : Int) (r : List (List Int)) (w : World) (hr0_1 : Kd.C k73 w A0_1 l0_1.length l0_1) (hc0_1 : l0_1.length ≤ c0_1) (h : spec_neTable.f k a0_0 l0_1 a1 a2 = some r) :
  Calls Try.prog 90 #[.agg #[.int .i64 a0_0, .slice A0_1 l0_1.length c0_1], .int .i64 a1, .int .i64 a2] w fun e w' => ∃ v0_ : Value, e = .returned (v0_) ∧ Kd.S (Kd.slice 3 (Kd.int .i64)) 36 w' w.heap.size (fun _ => True) v0_ r ∧ Below w.heap.size w w' := by
 have hu30 := Try.underlying30
 have hu73 := Try.underlying73
 have HR0_1 := Aside0.mk hr0_1
 have HC0_1 := Aside0.mk hc0_1
 clear hr0_1 hc0_1
 have HB := Aside0.mk (Below.refl w.heap.size w)
 have H : (if 0 ≤ a1 then (if (a1 : Int).toNat ≤ 11728124029610 then ((some (List.replicate (a1 : Int).toNat [] : List (List Int))).bind fun y151 => (spec_neTable.l0 k a1 a2 y151 (y151.length : Int) 0 a0_0 l0_1)) else (none)) else (none)) = some r := h
 clear h
 by_cases c4 : 0 ≤ a1
 ·rw [if_pos c4] at H
  have c4b0 := eq_true c4
  have c4b1 : decide (0 ≤ a1) = true := decide_eq_true c4
  clear c4
  by_cases c5 : (a1 : Int).toNat ≤ 11728124029610
  ·rw [if_pos c5] at H
   have c5b0 := eq_true c5
   have c5b1 : decide ((a1 : Int).toNat ≤ 11728124029610) = true := decide_eq_true c5
   clear c5
   obtain ⟨y151, hy151⟩ : ∃ y_ : List (List Int), y_ = (List.replicate (a1 : Int).toNat []) := ⟨_, rfl⟩
   replace H : (spec_neTable.l0 k a1 a2 y151 (y151.length : Int) 0 a0_0 l0_1) = some r := by first | (rw [hy151]; with_reducible exact H) | (have H2_ := (Option.bind_some _ _).symm.trans H; rw [hy151]; with_reducible exact H2_) | (have H2_ := (Option.bind_some _ _).symm.trans H; with_reducible exact H2_) | with_reducible exact H | (rw [hy151]; exact H) | exact H
   have Ny151 := Aside0.mk hy151
   clear hy151
   have H' := Aside0.mk H
   clear H
   go_enter Try.func90, Try.ntmps90
   go_wp2_with (first | ((with_reducible refine gate_dst (N := 3) rfl ?_); refine box_event ?hg (N := 3) ?hd (cs := #[.int .i64 a0_0, .slice A0_1 l0_1.length c0_1]) (t := 30) ?hr ?_; (case hd => rfl); (case hg => rfl); (case hr => first | (go_simp; done) | (go_simp; rfl)); intro gb150 hg w6 hbox hb; have n0_ := Aside0.mk (below_step (upW HB) hb); have n1_ := Aside0.mk (hbox); have n2_ := Aside0.mk ((by rw [hg]; exact (below_size (upW HB)) : w.heap.size ≤ gb150)); have n3_ := Aside0.mk ((by rw [hg]; exact (below_size (upW HB)) : w.heap.size ≤ gb150)); clear HB; have HB := n0_; have BK150 := n1_; have GW150 := n2_; have GE150 := n3_; clear n0_ n1_ n2_ n3_; clear hb hbox hg) | ((with_reducible refine gate_dst (N := 13) rfl ?_); refine Kd.S_make (Kd.slice 3 (Kd.int .i64)) _ 36 rfl (N := 13) rfl 91 _ _ rfl a1 rfl rfl Try.underlying91 (.slice none 0 0) 24 info36 rfl (by decide) (by omega) [] (ok := fun _ => True) (okp := fun _ => True) ⟨_, rfl, Kd.R_nil _ _ _ _ _⟩ (fun _ hk => hk) trivial (of_decide_eq_true (by first | (with_reducible assumption) | assumption)) (Nat.le_trans (Nat.mul_le_mul_right _ (of_decide_eq_true (by first | (with_reducible assumption) | assumption) : a1.toNat ≤ 11728124029610)) (by omega)) (Below.refl _ _) (Nat.le_refl _) ?_; intro v152 w7 ho8 hb hg_ hnew_; clear hg_ hnew_; (first | rw [← Ny151.out] at ho8 | (simp only [Int.reduceToNat] at ho8; rw [← Ny151.out] at ho8)); have n0_ := Aside0.mk (Kd.S_lower ho8 (below_size (upW HB))); have n1_ := Aside0.mk (blk_below (upK BK150) hb); have n2_ := Aside0.mk (below_step (upW HB) hb); clear BK150; clear HB; have HO153 := n0_; have BK150 := n1_; have HB := n2_; clear n0_ n1_ n2_; clear hb ho8; obtain ⟨Ao9, co9, eo9⟩ := Kd.S_slice HO153.out; subst eo9))
   go_loopg [16] k (fun kq v16 w' => ∃ (x7_1 : List (List Int)) (x16_1 : Int), v16 = .int .i64 x16_1 ∧ Aside0 (spec_neTable.l0 kq a1 a2 x7_1 (y151.length : Int) x16_1 a0_0 l0_1 = some r) ∧ Aside0 (kq ≤ k) ∧ Aside0 (Kd.S (Kd.slice 3 (Kd.int .i64)) 36 w' w.heap.size (fun _ => True) (.slice Ao9 y151.length co9) x7_1) ∧ Aside0 (w'.heap[gb150]? = some (.cells #[.int .i64 a0_0, (.slice A0_1 l0_1.length c0_1)] 30 (0, 0))) ∧ Aside0 (Below w.heap.size w w'))
   case atStart => exact ⟨(y151), (0), (by first | rfl | (simp; done) | (simp [*]; done)), H', ⟨Nat.le_refl _⟩, ⟨by (with_reducible repeat (first | apply Kd.S_alloc | apply Kd.S_drewN | apply Kd.S_drew)); exact HO153.out⟩, ⟨upK BK150⟩, ⟨upW HB⟩⟩
   case round =>
    clear H'
    try clear p2
    try clear c4
    try clear c4b0
    try clear c4b1
    try clear c5
    try clear c5b0
    try clear c5b1
    try clear c9
    obtain ⟨x7_1, x16_1, rfl, HA, HK1, HO_7, BK150, HB⟩ := hrel
    have hl7_1 := (Kd.S_reads' HO_7.out).1
    rw [hl7_1] at HO_7
    (try simp only [hl7_1])
    (try simp only [hl7_1] at BK150)
    cases gk with
    | zero => exact absurd HA.out (by simp [spec_neTable.l0])
    | succ k1 =>
     have H := HA.out
     clear HA
     simp only [spec_neTable.l0] at H
     by_cases c10 : x16_1 < (y151.length : Int)
     ·rw [if_pos c10] at H
      have c10b0 : decide (x16_1 < (y151.length : Int)) = true := decide_eq_true c10
      (try (have c10b0h0 := c10b0; simp only [hl7_1] at c10b0h0))
      clear c10
      by_cases c11 : 0 ≤ a1
      ·rw [if_pos c11] at H
       have c11b0 := eq_true c11
       have c11b1 : decide (0 ≤ a1) = true := decide_eq_true c11
       clear c11
       by_cases c12 : (a1 : Int).toNat ≤ 35184372088832
       ·rw [if_pos c12] at H
        have c12b0 := eq_true c12
        have c12b1 : decide ((a1 : Int).toNat ≤ 35184372088832) = true := decide_eq_true c12
        clear c12
        obtain ⟨y154, hy154⟩ : ∃ y_ : List Int, y_ = (List.replicate (a1 : Int).toNat 0) := ⟨_, rfl⟩
        replace H : (if 0 ≤ x16_1 then (if x16_1 < (x7_1.length : Int) then (spec_neTable.l0 k1 a1 a2 (x7_1.set (x16_1 : Int).toNat y154) (y151.length : Int) (wrap64 (x16_1 + 1)) a0_0 l0_1) else (none)) else (none)) = some r := by first | (rw [hy154]; with_reducible exact H) | (have H2_ := (Option.bind_some _ _).symm.trans H; rw [hy154]; with_reducible exact H2_) | (have H2_ := (Option.bind_some _ _).symm.trans H; with_reducible exact H2_) | with_reducible exact H | (rw [hy154]; exact H) | exact H
        have Ny154 := Aside0.mk hy154
        clear hy154
        by_cases c13 : 0 ≤ x16_1
        ·rw [if_pos c13] at H
         have c13b0 : decide (0 ≤ x16_1) = true := decide_eq_true c13
         clear c13
         by_cases c14 : x16_1 < (x7_1.length : Int)
         ·rw [if_pos c14] at H
          have c14b0 : decide (x16_1 < (x7_1.length : Int)) = true := decide_eq_true c14
          (try (have c14b0h0 := c14b0; simp only [hl7_1] at c14b0h0))
          clear c14
          obtain ⟨y157, hy157⟩ : ∃ y_ : List (List Int), y_ = (x7_1.set (x16_1 : Int).toNat y154) := ⟨_, rfl⟩
          replace H : (spec_neTable.l0 k1 a1 a2 y157 (y151.length : Int) (wrap64 (x16_1 + 1)) a0_0 l0_1) = some r := by first | (rw [hy157]; with_reducible exact H) | (have H2_ := (Option.bind_some _ _).symm.trans H; rw [hy157]; with_reducible exact H2_) | (have H2_ := (Option.bind_some _ _).symm.trans H; with_reducible exact H2_) | with_reducible exact H | (rw [hy157]; exact H) | exact H
          have Ny157 := Aside0.mk hy157
          clear hy157
          have H' := Aside0.mk H
          clear H
          go_wp2_with (first | ((with_reducible refine gate_dst (N := 22) rfl ?_); refine Kd.R_make (Kd.int .i64) _ 3 rfl (N := 22) rfl 36 _ _ rfl a1 rfl rfl Try.underlying36 (.int .i64 0) 8 info3 rfl (by decide) (by omega) 0 (ok := fun _ => True) (okp := fun _ => True) rfl (fun _ hk => hk) trivial (of_decide_eq_true (by first | (with_reducible assumption) | assumption)) (Nat.le_trans (Nat.mul_le_mul_right _ (of_decide_eq_true (by first | (with_reducible assumption) | assumption) : a1.toNat ≤ 35184372088832)) (by omega)) (Below.refl _ _) (Nat.le_refl _) ?_; intro v155 w16 ho17 hb hg_ hnew_; clear hg_ hnew_; (first | rw [← Ny154.out] at ho17 | (simp only [Int.reduceToNat] at ho17; rw [← Ny154.out] at ho17)); have n0_ := Aside0.mk (Kd.S_elder' (by (with_reducible repeat (first | apply Kd.S_alloc | apply Kd.S_drewN | apply Kd.S_drew)); exact HO_7.out) (Kd.R_base ho17) hb); have n1_ := Aside0.mk (Kd.R_lower ho17 (below_size (upW HB))); have n2_ := Aside0.mk (blk_below (upK BK150) hb); have n3_ := Aside0.mk (below_step (upW HB) hb); clear HO_7; clear BK150; clear HB; have HO_7 := n0_; have HO156 := n1_; have BK150 := n2_; have HB := n3_; clear n0_ n1_ n2_ n3_; clear hb ho17; have p15 : 0 ≤ (x16_1 : Int) := of_decide_eq_true (by first | (with_reducible assumption) | assumption); have q15 : (x16_1 : Int) < ((x7_1.length : Int) : Int) := of_decide_eq_true (by first | (with_reducible assumption) | assumption); obtain ⟨go15, co15, eo15, gb15, gl15, cl15, HG15⟩ := Kd.S_form HO_7.out (by omega); (first | cases eo15 | (injection eo15 with ea_ en_ ec_; (first | subst ea_ | (injection ea_ with ea_; subst ea_)); subst ec_; clear en_)); have GB15 := Aside0.mk gb15; have GG15 := Aside0.mk HG15; clear gb15 gl15 HG15; obtain ⟨_, ce15, hcl15, hM15, hcc15, hfr15, _, _⟩ := Kd.S_elem HO_7.out [] (x16_1 : Int) p15 q15; obtain ⟨ve15_0, rfl, ge15_0⟩ := hM15; have hx15_0 := hcc15 0 _ rfl; have hf15_0 := hfr15 0; (try simp only [show ((Kd.slice 3 (Kd.int .i64))).sz = 1 from rfl, Nat.mul_one, Nat.add_zero] at hx15_0); (try simp only [show ((Kd.slice 3 (Kd.int .i64))).sz = 1 from rfl, Nat.mul_one, Nat.add_zero] at hf15_0); (try clear hM15); clear hcl15 hcc15 hfr15; replace p15 := eq_true p15; replace q15 := eq_true q15; have n_ := Aside0.mk (Kd.S_mono (ok' := (fun k_ => some k_ ≠ (v155 : Value).ownBlock)) HO_7.out (fun k_ hk => hk.2)); clear HO_7; have HO_7 := n_; clear n_; have HX18 := Aside0.mk (show Kd.S (Kd.slice 3 (Kd.int .i64)) 36 w16 w.heap.size (fun k_ => ((fun _ => True)) k_ ∧ ¬ ((fun k_ => some k_ = (v155 : Value).ownBlock)) k_) (.slice (some ⟨go15, 0, none⟩) x7_1.length co9) x7_1 from (by (with_reducible repeat (first | apply Kd.S_alloc | apply Kd.S_drewN | apply Kd.S_drew)); exact Kd.S_mono HO_7.out (fun k_ hk => ⟨trivial, fun e_ => hk e_⟩))); obtain ⟨oki18, ce18, hcl18, hM18, hcc18, hfr18, hoki18, hH18⟩ := Kd.S_elem HX18.out [] (x16_1 : Int) (of_decide_eq_true (by first | (with_reducible assumption) | assumption)) (by have h_ : (x16_1 : Int) < ((x7_1.length : Int) : Int) := of_decide_eq_true (by first | (with_reducible assumption) | assumption); first | exact h_ | (have e_ := (Kd.S_reads' HO_7.out).1; omega) | simpa using h_); obtain ⟨ve18_0, rfl, ge18_0⟩ := hM18; have HP18 := Kd.S_seg hH18 (of_decide_eq_true (by first | (with_reducible assumption) | assumption)) (by have h_ : (x16_1 : Int) < ((x7_1.length : Int) : Int) := of_decide_eq_true (by first | (with_reducible assumption) | assumption); first | exact h_ | (have e_ := (Kd.S_reads' HO_7.out).1; omega) | simpa using h_) (seg := [v155]) (j := 0) (show 1 ≤ 1 from by decide) (x' := y154) (Kd.M_row (Kd.R_mono (Kd.R_tight rfl (Kd.R_mono (ok' := fun k_ => ((fun _ => True)) k_ ∧ k_ ≠ go15) (Kd.R_apart' (HO156.out) (Kd.S_typed HO_7.out) (by decide)) (fun k_ hk => ⟨trivial, fun e_ => (hk.2) (by rw [e_]; rfl)⟩))) (fun _ h_ => Or.inr (h_)))) (fun _ hk => hk) (fun k_ hk_ => ((Kd.R_mono (ok' := fun k_ => ((fun _ => True)) k_ ∧ k_ ≠ go15) (Kd.R_apart' (HO156.out) (Kd.S_typed HO_7.out) (by decide)) (fun k_ hk => ⟨trivial, fun e_ => (hk.2) (by rw [e_]; rfl)⟩))).1 k_ hk_.symm); have hx18_0 := hcc18 0 _ rfl; (try simp only [show ((Kd.slice 3 (Kd.int .i64))).sz = 1 from rfl, Nat.mul_one, Nat.add_zero] at hx18_0); have hf18_0 := hfr18 0; (try simp only [show ((Kd.slice 3 (Kd.int .i64))).sz = 1 from rfl, Nat.mul_one, Nat.add_zero] at hf18_0); (try clear hM18); clear hcl18 hcc18 hfr18 hoki18 hH18; (try simp only [show ((Kd.slice 3 (Kd.int .i64))).sz = 1 from rfl, Nat.mul_one, Nat.add_zero] at HP18)) | ((with_reducible refine gate_store (t := 36) (p := 23) rfl ?_); refine store_event (t := 36) (p := 23) (v := ?vo_w19) (w1 := (w16.setCell ⟨go15, (x16_1 : Int).toNat, none⟩ (v155))) ?hg ?ho ?hn ?hr ?_; (case ho => rfl); (case hg => rfl); (case hn => rfl); (case hr => first | (go_simp; done) | (go_simp; rfl) | (obtain ⟨_, _, eo_⟩ := Kd.R_slice HO156.out; subst eo_; first | (go_simp; done) | (go_simp; rfl))); intro w19 hw; have hg : w16.grownBy w19 (some go15) := (by rw [hw]; exact HP18.2); have hp_ : Kd.S (Kd.slice 3 (Kd.int .i64)) 36 w19 w.heap.size (fun _ => True) (.slice (some ⟨go15, 0, none⟩) x7_1.length co9) y157 := (by rw [hw, Ny157.out]; exact HP18.1); clear HP18; have n0_ := Aside0.mk (hp_); have n1_ := Aside0.mk (blk_grown (upK BK150) hg (Kd.S_ne HO_7.out BK150.out (by decide))); have n2_ := Aside0.mk ((by rw [hw]; exact below_set (HB.out) GB15.out : Below w.heap.size w w19)); clear HO_7; clear BK150; clear HB; clear HO156; have HO_7 := n0_; have BK150 := n1_; have HB := n2_; clear n0_ n1_ n2_; clear hg hw hp_))
          (try simp only [← hl7_1])
          go_roundg k1
          case measure => have := HK1.out; omega
          case rel => exact ⟨(y157), (wrap64 (x16_1 + 1)), (by first | rfl | (simp; done) | (simp [*]; done)), H', ⟨by have := HK1.out; omega⟩, ⟨by (try simp only [hl7_1]); (with_reducible repeat (first | apply Kd.S_alloc | apply Kd.S_drewN | apply Kd.S_drew)); exact HO_7.out⟩, ⟨by (try simp only [hl7_1]); (with_reducible repeat (first | refine blk_drewN ?_ _ | refine blk_drew ?_ | refine blk_alloc ?_ _)); exact BK150.out⟩, ⟨upW HB⟩⟩
         ·rw [if_neg c14] at H
          exact absurd H (by simp)
        ·rw [if_neg c13] at H
         exact absurd H (by simp)
       ·rw [if_neg c12] at H
        exact absurd H (by simp)
      ·rw [if_neg c11] at H
       exact absurd H (by simp)
     ·rw [if_neg c10] at H
      have c10b0 : decide (x16_1 < (y151.length : Int)) = false := decide_eq_false c10
      (try (have c10b0h0 := c10b0; simp only [hl7_1] at c10b0h0))
      clear c10
      have H' := Aside0.mk H
      clear H
      have hcz20_0 : wr.cell? ⟨gb150, 0, none⟩ = some (.int .i64 a0_0) := (blk_cell BK150.out 0).trans rfl
      have hcz20_1 : wr.cell? ⟨gb150, 1, none⟩ = some (.slice A0_1 l0_1.length c0_1) := (blk_cell BK150.out 1).trans rfl
      have hfz20_0 := blk_frozen BK150.out 0
      have hfz20_1 := blk_frozen BK150.out 1
      go_wp2
      go_loopg [28] k1 (fun kq v28 w' => ∃ (x7_2 : List (List Int)) (x28_2 : Int), v28 = .int .i64 x28_2 ∧ Aside0 (spec_neTable.l1 kq a1 a2 x7_2 l0_1 (l0_1.length : Int) x28_2 = some r) ∧ Aside0 (kq ≤ k1) ∧ Aside0 (Kd.S (Kd.slice 3 (Kd.int .i64)) 36 w' w.heap.size (fun _ => True) (.slice Ao9 x7_1.length co9) x7_2) ∧ Aside0 (w'.heap[gb150]? = some (.cells #[.int .i64 a0_0, (.slice A0_1 l0_1.length c0_1)] 30 (0, 0))) ∧ Aside0 (Below w.heap.size w w'))
      case atStart => exact ⟨(x7_1), (0), (by first | rfl | (simp; done) | (simp [*]; done)), H', ⟨Nat.le_refl _⟩, ⟨by (try simp only [hl7_1]); (with_reducible repeat (first | apply Kd.S_alloc | apply Kd.S_drewN | apply Kd.S_drew)); exact HO_7.out⟩, ⟨by (try simp only [hl7_1]); (with_reducible repeat (first | refine blk_drewN ?_ _ | refine blk_drew ?_ | refine blk_alloc ?_ _)); exact BK150.out⟩, ⟨upW HB⟩⟩
      case round =>
       clear H'
       try clear c1
       try clear p1
       try clear q1
       try clear hx1
       try clear p2
       try clear c4
       try clear c4b0
       try clear c4b1
       try clear c5
       try clear c5b0
       try clear c5b1
       try clear p6
       try clear c9
       try clear c10
       try clear c10b0
       try clear c10b0h0
       try clear c11
       try clear c11b0
       try clear c11b1
       try clear c12
       try clear c12b0
       try clear c12b1
       try clear c13
       try clear c13b0
       try clear c14
       try clear c14b0
       try clear c14b0h0
       try clear c15
       try clear p15
       try clear q15
       try clear hx15
       try clear hf15
       try clear c18
       try clear hx18
       try clear hf18
       try clear hcz20_0
       try clear hcz20_1
       try clear hfz20_0
       try clear hfz20_1
       try clear hx15_0
       try clear hx18_0
       try clear p15
       try clear p2
       try clear q15
       obtain ⟨x7_2, x28_2, rfl, HA, HK2, HO_7, BK150, HB⟩ := hrel
       have hl7_2 := (Kd.S_reads' HO_7.out).1
       rw [hl7_2] at HO_7
       (try simp only [hl7_2])
       (try simp only [hl7_2] at BK150)
       cases gk with
       | zero => exact absurd HA.out (by simp [spec_neTable.l1])
       | succ k2 =>
        have H := HA.out
        clear HA
        simp only [spec_neTable.l1] at H
        by_cases c21 : x28_2 < (l0_1.length : Int)
        ·rw [if_pos c21] at H
         have c21b0 : decide (x28_2 < (l0_1.length : Int)) = true := decide_eq_true c21
         (try (have c21b0h0 := c21b0; simp only [hl7_1] at c21b0h0))
         (try (have c21b0h1 := c21b0; simp only [hl7_2] at c21b0h1))
         clear c21
         by_cases c22 : 0 ≤ x28_2
         ·rw [if_pos c22] at H
          have c22b0 : decide (0 ≤ x28_2) = true := decide_eq_true c22
          clear c22
          by_cases c23 : x28_2 < (l0_1.length : Int)
          ·rw [if_pos c23] at H
           have c23b0 : decide (x28_2 < (l0_1.length : Int)) = true := decide_eq_true c23
           (try (have c23b0h0 := c23b0; simp only [hl7_1] at c23b0h0))
           (try (have c23b0h1 := c23b0; simp only [hl7_2] at c23b0h1))
           clear c23
           have HC24 := Aside0.mk H
           clear H
           have p158 : 0 ≤ (x28_2 : Int) := of_decide_eq_true (by first | (with_reducible assumption) | assumption)
           have q158 : x28_2 < (l0_1.length : Int) := of_decide_eq_true (by first | (with_reducible assumption) | assumption)
           obtain ⟨ad158, e158, hx158_0, hx158_1⟩ := at_T73 HR0_1.out x28_2 p158 q158
           cases e158
           replace hx158_0 := (HB.out.cell (World.block_lt_of_cell? w _ hx158_0)).trans hx158_0
           replace hx158_1 := (HB.out.cell (World.block_lt_of_cell? w _ hx158_1)).trans hx158_1
           replace p158 := eq_true p158
           replace q158 := eq_true q158
           go_upto_if 35 with (first | ((with_reducible refine gate_dst (N := 10) rfl ?_); refine box_event ?hg (N := 10) ?hd (cs := #[.int .i64 0, .int .i64 0]) (t := 73) ?hr ?_; (case hd => rfl); (case hg => rfl); (case hr => first | (go_simp; done) | (go_simp; rfl)); intro gb159 hg w25 hbox hb; have n0_ := Aside0.mk (Kd.S_below (by (with_reducible repeat (first | apply Kd.S_alloc | apply Kd.S_drewN | apply Kd.S_drew)); exact HO_7.out) hb); have n1_ := Aside0.mk (blk_below (upK BK150) hb); have n2_ := Aside0.mk (below_step (upW HB) hb); have n3_ := Aside0.mk (hbox); have n4_ := Aside0.mk ((by rw [hg]; exact (below_size (upW HB)) : w.heap.size ≤ gb159)); have n5_ := Aside0.mk ((by rw [hg]; exact (below_size (upW HB)) : w.heap.size ≤ gb159)); have n6_ := Aside0.mk ((by rw [hg]; exact Nat.ne_of_lt (blk_lt (upK BK150)) : gb150 ≠ gb159)); have n7_ := Aside0.mk ((by rw [hg]; exact Nat.ne_of_gt (blk_lt (upK BK150)) : gb159 ≠ gb150)); clear HO_7; clear BK150; clear HB; have HO_7 := n0_; have BK150 := n1_; have HB := n2_; have BK159 := n3_; have GW159 := n4_; have GE159 := n5_; have NB150_159 := n6_; have NB159_150 := n7_; clear n0_ n1_ n2_ n3_ n4_ n5_ n6_ n7_; clear hb hbox hg; have hnb26 := NB159_150.out; have hnc26 := NB150_159.out; have hcz27_0 : w25.cell? ⟨gb159, 0, none⟩ = some (.int .i64 0) := (blk_cell BK159.out 0).trans rfl; have hcz27_1 : w25.cell? ⟨gb159, 1, none⟩ = some (.int .i64 0) := (blk_cell BK159.out 1).trans rfl; have hfz27_0 := blk_frozen BK159.out 0; have hfz27_1 := blk_frozen BK159.out 1))
           (try simp only [Act.put, List.setIfInBounds_toArray, List.set_cons_zero, List.set_cons_succ])
           go_cut [] (fun wc => ∃ (kq : Nat) (x7_23 : List (List Int)), Aside0 (spec_neTable.j2 kq a1 a2 x7_23 l0_1 (l0_1.length : Int) x28_2 ((rd_T73 l0_1 x28_2).f0) ((rd_T73 l0_1 x28_2).f1) = some r) ∧ Aside0 (kq ≤ k2) ∧ Aside0 (Kd.S (Kd.slice 3 (Kd.int .i64)) 36 wc w.heap.size (fun _ => True) (.slice Ao9 x7_2.length co9) x7_23) ∧ Aside0 (wc.heap[gb150]? = some (.cells #[.int .i64 a0_0, (.slice (some ad158) l0_1.length c0_1)] 30 (0, 0))) ∧ Aside0 (wc.heap[gb159]? = some (.cells #[.int .i64 ((rd_T73 l0_1 x28_2).f0), .int .i64 ((rd_T73 l0_1 x28_2).f1)] 73 (0, 0))) ∧ Aside0 (Below w.heap.size w wc))
           case first =>
            have H := HC24.out
            clear HC24
            by_cases c28 : ((rd_T73 l0_1 x28_2).f0) < a1
            ·rw [if_pos c28] at H
             have c28b0 : decide (((rd_T73 l0_1 x28_2).f0) < a1) = true := decide_eq_true c28
             clear c28
             (first | rw [c28b0] | (simp only [i64_w, i32_w]; rw [c28b0]) | skip)
             by_cases c29 : 0 ≤ ((rd_T73 l0_1 x28_2).f0)
             ·rw [if_pos c29] at H
              have c29b0 : decide (0 ≤ ((rd_T73 l0_1 x28_2).f0)) = true := decide_eq_true c29
              clear c29
              by_cases c30 : ((rd_T73 l0_1 x28_2).f0) < (x7_2.length : Int)
              ·rw [if_pos c30] at H
               have c30b0 : decide (((rd_T73 l0_1 x28_2).f0) < (x7_2.length : Int)) = true := decide_eq_true c30
               (try (have c30b0h0 := c30b0; simp only [hl7_1] at c30b0h0))
               (try (have c30b0h1 := c30b0; simp only [hl7_2] at c30b0h1))
               clear c30
               by_cases c31 : ((rd_T73 l0_1 x28_2).f0) < ((rd_L4 x7_2 ((rd_T73 l0_1 x28_2).f0)).length : Int)
               ·rw [if_pos c31] at H
                have c31b0 : decide (((rd_T73 l0_1 x28_2).f0) < ((rd_L4 x7_2 ((rd_T73 l0_1 x28_2).f0)).length : Int)) = true := decide_eq_true c31
                (try (have c31b0h0 := c31b0; simp only [hl7_1] at c31b0h0))
                (try (have c31b0h1 := c31b0; simp only [hl7_2] at c31b0h1))
                clear c31
                obtain ⟨y162, hy162⟩ : ∃ y_ : List Int, y_ = ((rd_L4 x7_2 ((rd_T73 l0_1 x28_2).f0)).set (((rd_T73 l0_1 x28_2).f0) : Int).toNat (wrap64 ((rd (rd_L4 x7_2 ((rd_T73 l0_1 x28_2).f0)) ((rd_T73 l0_1 x28_2).f0)) + 1))) := ⟨_, rfl⟩
                replace H : (spec_neTable.j2 k2 a1 a2 (x7_2.set (((rd_T73 l0_1 x28_2).f0) : Int).toNat y162) l0_1 (l0_1.length : Int) x28_2 ((rd_T73 l0_1 x28_2).f0) ((rd_T73 l0_1 x28_2).f1)) = some r := by first | (rw [hy162]; with_reducible exact H) | (have H2_ := (Option.bind_some _ _).symm.trans H; rw [hy162]; with_reducible exact H2_) | (have H2_ := (Option.bind_some _ _).symm.trans H; with_reducible exact H2_) | with_reducible exact H | (rw [hy162]; exact H) | exact H
                have Ny162 := Aside0.mk hy162
                clear hy162
                obtain ⟨y164, hy164⟩ : ∃ y_ : List (List Int), y_ = (x7_2.set (((rd_T73 l0_1 x28_2).f0) : Int).toNat y162) := ⟨_, rfl⟩
                replace H : (spec_neTable.j2 k2 a1 a2 y164 l0_1 (l0_1.length : Int) x28_2 ((rd_T73 l0_1 x28_2).f0) ((rd_T73 l0_1 x28_2).f1)) = some r := by first | (rw [hy164]; with_reducible exact H) | (have H2_ := (Option.bind_some _ _).symm.trans H; rw [hy164]; with_reducible exact H2_) | (have H2_ := (Option.bind_some _ _).symm.trans H; with_reducible exact H2_) | with_reducible exact H | (rw [hy164]; exact H) | exact H
                have Ny164 := Aside0.mk hy164
                clear hy164
                have H' := Aside0.mk H
                clear H
                try go_wp2
                have n0_ : Aside0 (Kd.S (Kd.slice 3 (Kd.int .i64)) 36 ((w25.setCell ⟨gb159, 0, none⟩ (.int .i64 ((rd_T73 l0_1 x28_2).f0))).setCell ⟨gb159, 1, none⟩ (.int .i64 ((rd_T73 l0_1 x28_2).f1))) w.heap.size (fun _ => True) (.slice Ao9 x7_2.length co9) x7_2) := ⟨by (with_reducible repeat (first | apply Kd.S_alloc | apply Kd.S_drewN | apply Kd.S_drew)); exact Kd.S_mono (Kd.S_far (p := ⟨gb159, 1, none⟩) (Kd.S_far (p := ⟨gb159, 0, none⟩) (Kd.S_types HO_7.out BK159.out (by decide)) (fun _ hk => hk.2) (.int .i64 ((rd_T73 l0_1 x28_2).f0))) (fun _ hk => hk.2) (.int .i64 ((rd_T73 l0_1 x28_2).f1))) (fun _ hk => trivial)⟩
                have n1_ : Aside0 (((w25.setCell ⟨gb159, 0, none⟩ (.int .i64 ((rd_T73 l0_1 x28_2).f0))).setCell ⟨gb159, 1, none⟩ (.int .i64 ((rd_T73 l0_1 x28_2).f1))).heap[gb150]? = some (.cells #[.int .i64 a0_0, .slice (some ad158) l0_1.length c0_1] 30 (0, 0))) := ⟨upF BK150⟩
                have n2_ : Aside0 (((w25.setCell ⟨gb159, 0, none⟩ (.int .i64 ((rd_T73 l0_1 x28_2).f0))).setCell ⟨gb159, 1, none⟩ (.int .i64 ((rd_T73 l0_1 x28_2).f1))).heap[gb159]? = some (.cells #[.int .i64 ((rd_T73 l0_1 x28_2).f0), .int .i64 ((rd_T73 l0_1 x28_2).f1)] 73 (0, 0))) := ⟨by (with_reducible repeat (first | refine blk_drewN ?_ _ | refine blk_drew ?_ | refine blk_alloc ?_ _)); refine blk_put (cs := #[.int .i64 ((rd_T73 l0_1 x28_2).f0), .int .i64 0]) ?_ 1 _ rfl; (with_reducible repeat (first | refine blk_drewN ?_ _ | refine blk_drew ?_ | refine blk_alloc ?_ _)); refine blk_put (cs := #[.int .i64 0, .int .i64 0]) ?_ 0 _ rfl; (with_reducible repeat (first | refine blk_drewN ?_ _ | refine blk_drew ?_ | refine blk_alloc ?_ _)); exact BK159.out⟩
                have n3_ : Aside0 (Below w.heap.size w ((w25.setCell ⟨gb159, 0, none⟩ (.int .i64 ((rd_T73 l0_1 x28_2).f0))).setCell ⟨gb159, 1, none⟩ (.int .i64 ((rd_T73 l0_1 x28_2).f1)))) := ⟨upW HB⟩
                (try clear HO_7)
                (try clear BK150)
                (try clear BK159)
                (try clear HB)
                (try simp only [drewN_setCell])
                generalize ((w25.setCell ⟨gb159, 0, none⟩ (.int .i64 ((rd_T73 l0_1 x28_2).f0))).setCell ⟨gb159, 1, none⟩ (.int .i64 ((rd_T73 l0_1 x28_2).f1))) = w33 at n0_ n1_ n2_ n3_ ⊢
                have HO_7 := n0_
                have BK150 := n1_
                have BK159 := n2_
                have HB := n3_
                clear n0_ n1_ n2_ n3_
                have n0_ := Aside0.mk (Kd.S_drew HO_7.out)
                have n1_ := Aside0.mk (blk_drew BK150.out)
                have n2_ := Aside0.mk (blk_drew BK159.out)
                have n3_ := Aside0.mk (below_drew1 HB.out)
                clear HO_7
                clear BK150
                clear BK159
                clear HB
                have HO_7 := n0_
                have BK150 := n1_
                have BK159 := n2_
                have HB := n3_
                clear n0_ n1_ n2_ n3_
                have p160 : 0 ≤ (((rd_T73 l0_1 x28_2).f0) : Int) := of_decide_eq_true (by first | (with_reducible assumption) | assumption)
                have q160 : ((rd_T73 l0_1 x28_2).f0) < (x7_2.length : Int) := of_decide_eq_true (by first | (with_reducible assumption) | assumption)
                obtain ⟨ad160, A160_0, c160_0, e160, hx160_0, hl160_0, hi160_0⟩ := at_L4 (Kd.S_reads' HO_7.out).2.2 ((rd_T73 l0_1 x28_2).f0) p160 q160
                cases e160
                obtain ⟨ce160, hce160, hMe160, hcc160⟩ := Kd.S_get HO_7.out [] ((rd_T73 l0_1 x28_2).f0) p160 (by first | exact q160 | exact of_decide_eq_true (by first | (with_reducible assumption) | assumption) | (have e_ := (Kd.S_reads' HO_7.out).1; omega))
                obtain ⟨ve160_0, rfl, ge160_0⟩ := hMe160
                have hv160_0 := hcc160 0 _ rfl
                rw [Nat.add_zero, show ((Kd.slice 3 (Kd.int .i64))).sz = 1 from rfl, Nat.mul_one] at hv160_0
                replace hv160_0 := Option.some.inj (hv160_0.symm.trans hx160_0)
                rw [hv160_0] at ge160_0
                have HL160_0 := Aside0.mk (show Kd.R (Kd.int .i64) 3 _ _ _ _ (rd_L4 x7_2 ((rd_T73 l0_1 x28_2).f0)) from ge160_0)
                clear hv160_0 ge160_0
                have HX160_0 := Aside0.mk hx160_0
                clear hcc160 hce160
                have HR160_0 := Aside0.mk hi160_0
                have HC160_0 := Aside0.mk hl160_0
                clear hi160_0 hl160_0
                replace p160 := eq_true p160
                replace q160 := eq_true q160
                have p161 : 0 ≤ (((rd_T73 l0_1 x28_2).f0) : Int) := of_decide_eq_true (by first | (with_reducible assumption) | assumption)
                have q161 : ((rd_T73 l0_1 x28_2).f0) < ((rd_L4 x7_2 ((rd_T73 l0_1 x28_2).f0)).length : Int) := of_decide_eq_true (by first | (with_reducible assumption) | assumption)
                obtain ⟨ad161, e161, hx161_0⟩ := Kd.at_int (by repeat (first | (with_reducible exact HR160_0.out) | (with_reducible refine Kd.C_alloc ?_ _) | (with_reducible refine Kd.C_drewN ?_ _) | (with_reducible refine Kd.C_drew ?_) | exact HR160_0.out)) ((rd_T73 l0_1 x28_2).f0) p161 q161
                cases e161
                replace p161 := eq_true p161
                replace q161 := eq_true q161
                have p32 : 0 ≤ (((rd_T73 l0_1 x28_2).f0) : Int) := of_decide_eq_true (by first | (with_reducible assumption) | assumption)
                have q32 : (((rd_T73 l0_1 x28_2).f0) : Int) < (((rd_L4 x7_2 ((rd_T73 l0_1 x28_2).f0)).length : Int) : Int) := of_decide_eq_true (by first | (with_reducible assumption) | assumption)
                obtain ⟨go32, co32, eo32, gb32, gl32, cl32, HG32⟩ := Kd.R_form HL160_0.out (by omega)
                (first | cases eo32 | (injection eo32 with ea_ en_ ec_; (first | subst ea_ | (injection ea_ with ea_; subst ea_)); subst ec_; clear en_))
                have GB32 := Aside0.mk gb32
                have GG32 := Aside0.mk HG32
                clear gb32 gl32 HG32
                (first | simp only [add_plain] at hx161_0 | skip)
                obtain ⟨hx32_0, hf32_0⟩ := Kd.R_celln 0 HL160_0.out (((rd_T73 l0_1 x28_2).f0) : Int) p32 q32
                replace p32 := eq_true p32
                replace q32 := eq_true q32
                have hq35 : (((rd_T73 l0_1 x28_2).f0) : Int) < (x7_2.length : Int) := (by have h_ : (((rd_T73 l0_1 x28_2).f0) : Int) < ((x7_2.length : Int) : Int) := of_decide_eq_true (by first | (with_reducible assumption) | assumption); first | exact h_ | (have e_ := (Kd.S_reads' HO_7.out).1; omega) | simpa only [List.length_set, List.length_set] using h_)
                obtain ⟨oki35, ce35, hcl35, hM35, hcc35, hok35, hbk35⟩ := Kd.S_borrow HO_7.out [] (((rd_T73 l0_1 x28_2).f0) : Int) (of_decide_eq_true (by first | (with_reducible assumption) | assumption)) (by first | exact hq35 | (have e_ := (Kd.S_reads' HO_7.out).1; omega))
                obtain ⟨ve35_0, rfl, ge35_0⟩ := hM35
                have hv35 := hcc35 0 _ rfl
                rw [Nat.add_zero, show ((Kd.slice 3 (Kd.int .i64))).sz = 1 from rfl, Nat.mul_one] at hv35
                replace hv35 := Option.some.inj (hv35.symm.trans HX160_0.out)
                subst hv35
                clear hcc35 hcl35
                replace ge35_0 := (show Kd.R (Kd.int .i64) 3 _ _ _ _ (rd_L4 x7_2 ((rd_T73 l0_1 x28_2).f0)) from ge35_0)
                have HP35 := Kd.R_putg ge35_0 (((rd_T73 l0_1 x28_2).f0) : Int) (wrap64 ((rd (rd_L4 x7_2 ((rd_T73 l0_1 x28_2).f0)) ((rd_T73 l0_1 x28_2).f0)) + 1))
                rw [← Ny162.out] at HP35
                have HS35 := hbk35 HP35.2 (fun k_ e_ => by injection e_ with e_; subst e_; exact ge35_0.1 _ rfl) (x' := y162) (Kd.M_row HP35.1)
                rw [← Ny164.out] at HS35
                have HQ35 := Aside0.mk HS35
                clear HP35 HS35 hbk35 hok35
                refine start_ (n := 12) (S := fun w' => w'.cell? ⟨gb159, 0, none⟩ = some (.int .i64 ((rd_T73 l0_1 x28_2).f0)) ∧ w'.cell? ⟨gb159, 1, none⟩ = some (.int .i64 ((rd_T73 l0_1 x28_2).f1)) ∧ w'.cell? (ad160.add (((rd_T73 l0_1 x28_2).f0)).toNat) = some (.slice (some ⟨go32, 0, none⟩) (rd_L4 x7_2 ((rd_T73 l0_1 x28_2).f0)).length c160_0) ∧ w'.cell? ⟨go32, (((rd_T73 l0_1 x28_2).f0)).toNat, none⟩ = some (.int .i64 (rd (rd_L4 x7_2 ((rd_T73 l0_1 x28_2).f0)) ((rd_T73 l0_1 x28_2).f0)))) (ds := [11]) #[false, false, false, false, false, false, false, false, false, false, false, false] (by kernel_rfl) rfl rfl ⟨(blk_cell BK159.out 0).trans rfl, (blk_cell BK159.out 1).trans rfl, hx160_0, hx161_0⟩ (fun hHeld => ?_); refine with_tabW spec_neTable.tab11 spec_neTable.bits11 (fun HT_ HW_ => ?_)
                generalize w33.drew = w34 at HO_7 BK150 BK159 HB GG32 HL160_0 HQ35 HR160_0 HX160_0 hf32_0 hx160_0 hx161_0 hx32_0 hHeld ⊢
                refine pure_ (i := 0) (N := some 36) (v := ?_) (a' := ?_) #[true, false, false, false, false, false, false, false, false, false, false, false] rfl rfl (any_of HT_.out (by kernel_rfl)) (fun _ _ _ h => h) (Or.inl ⟨by rfl, ?_⟩) ?_ ?_
                rotate_left
                ·intro w'
                 go_simp
                 with_reducible rfl
                rotate_left
                ·simp only [Act.put, List.setIfInBounds_toArray, List.set_cons_zero, List.set_cons_succ, i64_w, i32_w]
                 rfl
                refine pure_ (i := 1) (N := some 37) (v := ?_) (a' := ?_) #[true, true, false, false, false, false, false, false, false, false, false, false] rfl rfl (any_of HT_.out (by kernel_rfl)) (fun _ _ _ h => h) (Or.inl ⟨by rfl, ?_⟩) ?_ ?_
                rotate_left
                ·intro w'
                 go_simp
                 with_reducible rfl
                rotate_left
                ·simp only [Act.put, List.setIfInBounds_toArray, List.set_cons_zero, List.set_cons_succ, i64_w, i32_w]
                 rfl
                refine pure_ (i := 5) (N := some 41) (v := ?_) (a' := ?_) #[true, true, false, false, false, true, false, false, false, false, false, false] rfl rfl (any_of HT_.out (by kernel_rfl)) (fun _ _ _ h => h) (Or.inl ⟨by rfl, ?_⟩) ?_ ?_
                rotate_left
                ·intro w'
                 go_simp
                 with_reducible rfl
                rotate_left
                ·simp only [Act.put, List.setIfInBounds_toArray, List.set_cons_zero, List.set_cons_succ, i64_w, i32_w]
                 rfl
                refine take_ (i := 2) (N := some 38) (v := ?_) (a' := ?_) #[true, true, true, false, false, true, false, false, false, false, false, false] rfl rfl (take_ofW HT_.out HW_.out (by kernel_rfl)) (fun _ _ _ h => h) (Or.inl ⟨by rfl, ?_⟩) hHeld ?_ ?_
                rotate_left
                ·rintro w' ⟨s0, s1, s2, s3⟩
                 go_simp
                 with_reducible rfl
                rotate_left
                ·simp only [Act.put, List.setIfInBounds_toArray, List.set_cons_zero, List.set_cons_succ, i64_w, i32_w]
                 rfl
                refine pure_ (i := 3) (N := some 39) (v := ?_) (a' := ?_) #[true, true, true, true, false, true, false, false, false, false, false, false] rfl rfl (any_of HT_.out (by kernel_rfl)) (fun _ _ _ h => h) (Or.inl ⟨by rfl, ?_⟩) ?_ ?_
                rotate_left
                ·intro w'
                 go_simp
                 with_reducible rfl
                rotate_left
                ·simp only [Act.put, List.setIfInBounds_toArray, List.set_cons_zero, List.set_cons_succ, i64_w, i32_w]
                 rfl
                refine take_ (i := 4) (N := some 40) (v := ?_) (a' := ?_) #[true, true, true, true, true, true, false, false, false, false, false, false] rfl rfl (take_ofW HT_.out HW_.out (by kernel_rfl)) (fun _ _ _ h => h) (Or.inl ⟨by rfl, ?_⟩) hHeld ?_ ?_
                rotate_left
                ·rintro w' ⟨s0, s1, s2, s3⟩
                 go_simp
                 with_reducible rfl
                rotate_left
                ·simp only [Act.put, List.setIfInBounds_toArray, List.set_cons_zero, List.set_cons_succ, i64_w, i32_w]
                 rfl
                refine take_ (i := 6) (N := some 42) (v := ?_) (a' := ?_) #[true, true, true, true, true, true, true, false, false, false, false, false] rfl rfl (take_ofW HT_.out HW_.out (by kernel_rfl)) (fun _ _ _ h => h) (Or.inl ⟨by rfl, ?_⟩) hHeld ?_ ?_
                rotate_left
                ·rintro w' ⟨s0, s1, s2, s3⟩
                 go_simp
                 with_reducible rfl
                rotate_left
                ·simp only [Act.put, List.setIfInBounds_toArray, List.set_cons_zero, List.set_cons_succ, i64_w, i32_w]
                 rfl
                refine pure_ (i := 7) (N := some 43) (v := ?_) (a' := ?_) #[true, true, true, true, true, true, true, true, false, false, false, false] rfl rfl (any_of HT_.out (by kernel_rfl)) (fun _ _ _ h => h) (Or.inl ⟨by rfl, ?_⟩) ?_ ?_
                rotate_left
                ·intro w'
                 go_simp
                 with_reducible rfl
                rotate_left
                ·simp only [Act.put, List.setIfInBounds_toArray, List.set_cons_zero, List.set_cons_succ, i64_w, i32_w]
                 rfl
                refine take_ (i := 8) (N := some 44) (v := ?_) (a' := ?_) #[true, true, true, true, true, true, true, true, true, false, false, false] rfl rfl (take_ofW HT_.out HW_.out (by kernel_rfl)) (fun _ _ _ h => h) (Or.inl ⟨by rfl, ?_⟩) hHeld ?_ ?_
                rotate_left
                ·rintro w' ⟨s0, s1, s2, s3⟩
                 go_simp
                 with_reducible rfl
                rotate_left
                ·simp only [Act.put, List.setIfInBounds_toArray, List.set_cons_zero, List.set_cons_succ, i64_w, i32_w]
                 rfl
                refine pure_ (i := 9) (N := some 45) (v := ?_) (a' := ?_) #[true, true, true, true, true, true, true, true, true, true, false, false] rfl rfl (any_of HT_.out (by kernel_rfl)) (fun _ _ _ h => h) (Or.inl ⟨by rfl, ?_⟩) ?_ ?_
                rotate_left
                ·intro w'
                 go_simp
                 with_reducible rfl
                rotate_left
                ·simp only [Act.put, List.setIfInBounds_toArray, List.set_cons_zero, List.set_cons_succ, i64_w, i32_w]
                 rfl
                refine pure_ (i := 10) (N := some 46) (v := ?_) (a' := ?_) #[true, true, true, true, true, true, true, true, true, true, true, false] rfl rfl (any_of HT_.out (by kernel_rfl)) (fun _ _ _ h => h) (Or.inl ⟨by rfl, ?_⟩) ?_ ?_
                rotate_left
                ·intro w'
                 go_simp
                 with_reducible rfl
                rotate_left
                ·simp only [Act.put, List.setIfInBounds_toArray, List.set_cons_zero, List.set_cons_succ, i64_w, i32_w]
                 rfl
                refine last_ (i := 11) (N := none) #[true, true, true, true, true, true, true, true, true, true, true, true] rfl rfl (one_of HT_.out (by kernel_rfl)) (by decide) (fun K hK => ?_)
                refine skip_ (w1 := ?_) (by rfl) rfl ?_ ?_
                rotate_left
                ·go_simp
                 rfl
                refine hK.out _ _ ?_
                clear hK K
                refine done_ (done_of HT_.out (by kernel_rfl)) ?_
                try go_wp2
                go_meet
                case rel => exact ⟨_, (y164), H', ⟨by have := HK1.out; have := HK2.out; first | omega | exact Nat.le_refl _⟩, ⟨by (try simp only [hl7_1]); (try simp only [hl7_2]); (with_reducible repeat (first | apply Kd.S_alloc | apply Kd.S_drewN | apply Kd.S_drew)); exact HQ35.out⟩, ⟨by (try simp only [hl7_1]); (try simp only [hl7_2]); (with_reducible repeat (first | refine blk_drewN ?_ _ | refine blk_drew ?_ | refine blk_alloc ?_ _)); refine blk_far ?_ (by have h_ := Kd.R_ne HL160_0.out BK150.out (by decide); intro e_; exact h_ (by rw [e_]; rfl)) _; (with_reducible repeat (first | refine blk_drewN ?_ _ | refine blk_drew ?_ | refine blk_alloc ?_ _)); exact BK150.out⟩, ⟨by (try simp only [hl7_1]); (try simp only [hl7_2]); (with_reducible repeat (first | refine blk_drewN ?_ _ | refine blk_drew ?_ | refine blk_alloc ?_ _)); refine blk_far ?_ (by have h_ := Kd.R_ne HL160_0.out BK159.out (by decide); intro e_; exact h_ (by rw [e_]; rfl)) _; (with_reducible repeat (first | refine blk_drewN ?_ _ | refine blk_drew ?_ | refine blk_alloc ?_ _)); exact BK159.out⟩, ⟨by repeat (first | (with_reducible first | exact HB.out | apply below_alloc | apply pw_below_drewN | apply below_drew1 | refine below_set ?_ GB32.out | refine below_set ?_ GE150.out | refine below_set ?_ GE159.out) | exact HB.out)⟩⟩
               ·rw [if_neg c31] at H
                exact absurd H (by simp)
              ·rw [if_neg c30] at H
               exact absurd H (by simp)
             ·rw [if_neg c29] at H
              exact absurd H (by simp)
            ·rw [if_neg c28] at H
             have c28b0 : decide (((rd_T73 l0_1 x28_2).f0) < a1) = false := decide_eq_false c28
             clear c28
             (first | rw [c28b0] | (simp only [i64_w, i32_w]; rw [c28b0]) | skip)
             have H' := Aside0.mk H
             clear H
             go_wp2
             go_meet
             case rel => exact ⟨_, (x7_2), H', ⟨by have := HK1.out; have := HK2.out; first | omega | exact Nat.le_refl _⟩, ⟨by (try simp only [hl7_1]); (try simp only [hl7_2]); (with_reducible repeat (first | apply Kd.S_alloc | apply Kd.S_drewN | apply Kd.S_drew)); exact Kd.S_mono (Kd.S_far (p := ⟨gb159, 1, none⟩) (Kd.S_far (p := ⟨gb159, 0, none⟩) (Kd.S_types HO_7.out BK159.out (by decide)) (fun _ hk => hk.2) (.int .i64 ((rd_T73 l0_1 x28_2).f0))) (fun _ hk => hk.2) (.int .i64 ((rd_T73 l0_1 x28_2).f1))) (fun _ hk => trivial)⟩, ⟨by (try simp only [hl7_1]); (try simp only [hl7_2]); (with_reducible repeat (first | refine blk_drewN ?_ _ | refine blk_drew ?_ | refine blk_alloc ?_ _)); refine blk_far ?_ NB150_159.out _; (with_reducible repeat (first | refine blk_drewN ?_ _ | refine blk_drew ?_ | refine blk_alloc ?_ _)); refine blk_far ?_ NB150_159.out _; (with_reducible repeat (first | refine blk_drewN ?_ _ | refine blk_drew ?_ | refine blk_alloc ?_ _)); exact BK150.out⟩, ⟨by (try simp only [hl7_1]); (try simp only [hl7_2]); (with_reducible repeat (first | refine blk_drewN ?_ _ | refine blk_drew ?_ | refine blk_alloc ?_ _)); refine blk_put (cs := #[.int .i64 ((rd_T73 l0_1 x28_2).f0), .int .i64 0]) ?_ 1 _ rfl; (with_reducible repeat (first | refine blk_drewN ?_ _ | refine blk_drew ?_ | refine blk_alloc ?_ _)); refine blk_put (cs := #[.int .i64 0, .int .i64 0]) ?_ 0 _ rfl; (with_reducible repeat (first | refine blk_drewN ?_ _ | refine blk_drew ?_ | refine blk_alloc ?_ _)); exact BK159.out⟩, ⟨upW HB⟩⟩
           case rest =>
            clear HC24
            try clear c1
            try clear p1
            try clear q1
            try clear hx1
            try clear c2
            try clear p2
            try clear c3
            try clear p3
            try clear q3
            try clear hx3
            try clear hf3
            try clear c4
            try clear c4b0
            try clear c4b1
            try clear c5
            try clear c5b0
            try clear c5b1
            try clear p6
            try clear c9
            try clear c10
            try clear c10b0
            try clear c10b0h0
            try clear c11
            try clear c11b0
            try clear c11b1
            try clear c12
            try clear c12b0
            try clear c12b1
            try clear c13
            try clear c13b0
            try clear c14
            try clear c14b0
            try clear c14b0h0
            try clear c15
            try clear p15
            try clear q15
            try clear hx15
            try clear hf15
            try clear c16
            try clear p16
            try clear q16
            try clear hx16
            try clear c18
            try clear hx18
            try clear hf18
            try clear c21
            try clear c21b0
            try clear c21b0h0
            try clear c21b0h1
            try clear c22
            try clear c22b0
            try clear c23
            try clear c23b0
            try clear c23b0h0
            try clear c23b0h1
            try clear c26
            try clear c28
            try clear c28b0
            try clear c29
            try clear c29b0
            try clear c30
            try clear c30b0
            try clear c30b0h0
            try clear c30b0h1
            try clear c31
            try clear c31b0
            try clear c31b0h0
            try clear c31b0h1
            try clear p32
            try clear q32
            try clear hx32
            try clear hf32
            try clear c35
            try clear q35
            try clear hcz20_0
            try clear hcz20_1
            try clear hcz27_0
            try clear hcz27_1
            try clear hfz20_0
            try clear hfz20_1
            try clear hfz27_0
            try clear hfz27_1
            try clear hx158_0
            try clear hx158_1
            try clear hx15_0
            try clear hx160_0
            try clear hx161_0
            try clear hx18_0
            try clear hx32_0
            try clear p1
            try clear p15
            try clear p158
            try clear p160
            try clear p161
            try clear p2
            try clear p32
            try clear p6
            try clear q1
            try clear q15
            try clear q158
            try clear q160
            try clear q161
            try clear q32
            obtain ⟨kq, x7_23, HA, HJ23, HO_7, BK150, BK159, HB⟩ := hcut
            have hl7_23 := (Kd.S_reads' HO_7.out).1
            rw [hl7_23] at HO_7
            (try simp only [hl7_23])
            (try simp only [hl7_23] at BK150)
            (try simp only [hl7_23] at BK159)
            cases kq with
            | zero => exact absurd HA.out (by simp [spec_neTable.j2])
            | succ kj23 =>
             have H := HA.out
             clear HA
             simp only [spec_neTable.j2] at H
             by_cases c37 : ((rd_T73 l0_1 x28_2).f1) < a1
             ·rw [if_pos c37] at H
              have c37b0 : decide (((rd_T73 l0_1 x28_2).f1) < a1) = true := decide_eq_true c37
              clear c37
              by_cases c38 : 0 ≤ ((rd_T73 l0_1 x28_2).f1)
              ·rw [if_pos c38] at H
               have c38b0 : decide (0 ≤ ((rd_T73 l0_1 x28_2).f1)) = true := decide_eq_true c38
               clear c38
               by_cases c39 : ((rd_T73 l0_1 x28_2).f1) < (x7_23.length : Int)
               ·rw [if_pos c39] at H
                have c39b0 : decide (((rd_T73 l0_1 x28_2).f1) < (x7_23.length : Int)) = true := decide_eq_true c39
                (try (have c39b0h0 := c39b0; simp only [hl7_1] at c39b0h0))
                (try (have c39b0h1 := c39b0; simp only [hl7_2] at c39b0h1))
                (try (have c39b0h2 := c39b0; simp only [hl7_23] at c39b0h2))
                clear c39
                by_cases c40 : ((rd_T73 l0_1 x28_2).f1) < ((rd_L4 x7_23 ((rd_T73 l0_1 x28_2).f1)).length : Int)
                ·rw [if_pos c40] at H
                 have c40b0 : decide (((rd_T73 l0_1 x28_2).f1) < ((rd_L4 x7_23 ((rd_T73 l0_1 x28_2).f1)).length : Int)) = true := decide_eq_true c40
                 (try (have c40b0h0 := c40b0; simp only [hl7_1] at c40b0h0))
                 (try (have c40b0h1 := c40b0; simp only [hl7_2] at c40b0h1))
                 (try (have c40b0h2 := c40b0; simp only [hl7_23] at c40b0h2))
                 clear c40
                 obtain ⟨y167, hy167⟩ : ∃ y_ : List Int, y_ = ((rd_L4 x7_23 ((rd_T73 l0_1 x28_2).f1)).set (((rd_T73 l0_1 x28_2).f1) : Int).toNat (wrap64 ((rd (rd_L4 x7_23 ((rd_T73 l0_1 x28_2).f1)) ((rd_T73 l0_1 x28_2).f1)) + 1))) := ⟨_, rfl⟩
                 replace H : ((some (x7_23.set (((rd_T73 l0_1 x28_2).f1) : Int).toNat y167 : List (List Int))).bind fun y169 => (if ((rd_T73 l0_1 x28_2).f0) < a1 then (if 0 ≤ ((rd_T73 l0_1 x28_2).f0) then (if ((rd_T73 l0_1 x28_2).f0) < (x7_23.length : Int) then (if ((rd_T73 l0_1 x28_2).f1) < ((rd_L4 y169 ((rd_T73 l0_1 x28_2).f0)).length : Int) then ((some (y169.set (((rd_T73 l0_1 x28_2).f0) : Int).toNat ((rd_L4 y169 ((rd_T73 l0_1 x28_2).f0)).set (((rd_T73 l0_1 x28_2).f1) : Int).toNat (wrap64 ((rd (rd_L4 y169 ((rd_T73 l0_1 x28_2).f0)) ((rd_T73 l0_1 x28_2).f1)) - 1))) : List (List Int))).bind fun y174 => (if ((rd_T73 l0_1 x28_2).f0) < ((rd_L4 y174 ((rd_T73 l0_1 x28_2).f1)).length : Int) then (spec_neTable.l1 kj23 a1 a2 (y174.set (((rd_T73 l0_1 x28_2).f1) : Int).toNat ((rd_L4 y174 ((rd_T73 l0_1 x28_2).f1)).set (((rd_T73 l0_1 x28_2).f0) : Int).toNat (wrap64 ((rd (rd_L4 y174 ((rd_T73 l0_1 x28_2).f1)) ((rd_T73 l0_1 x28_2).f0)) - 1)))) l0_1 (l0_1.length : Int) (wrap64 (x28_2 + 1))) else (none))) else (none)) else (none)) else (none)) else (spec_neTable.l1 kj23 a1 a2 y169 l0_1 (l0_1.length : Int) (wrap64 (x28_2 + 1))))) = some r := by first | (rw [hy167]; with_reducible exact H) | (have H2_ := (Option.bind_some _ _).symm.trans H; rw [hy167]; with_reducible exact H2_) | (have H2_ := (Option.bind_some _ _).symm.trans H; with_reducible exact H2_) | with_reducible exact H | (rw [hy167]; exact H) | exact H
                 have Ny167 := Aside0.mk hy167
                 clear hy167
                 obtain ⟨y169, hy169⟩ : ∃ y_ : List (List Int), y_ = (x7_23.set (((rd_T73 l0_1 x28_2).f1) : Int).toNat y167) := ⟨_, rfl⟩
                 replace H : (if ((rd_T73 l0_1 x28_2).f0) < a1 then (if 0 ≤ ((rd_T73 l0_1 x28_2).f0) then (if ((rd_T73 l0_1 x28_2).f0) < (x7_23.length : Int) then (if ((rd_T73 l0_1 x28_2).f1) < ((rd_L4 y169 ((rd_T73 l0_1 x28_2).f0)).length : Int) then ((some (y169.set (((rd_T73 l0_1 x28_2).f0) : Int).toNat ((rd_L4 y169 ((rd_T73 l0_1 x28_2).f0)).set (((rd_T73 l0_1 x28_2).f1) : Int).toNat (wrap64 ((rd (rd_L4 y169 ((rd_T73 l0_1 x28_2).f0)) ((rd_T73 l0_1 x28_2).f1)) - 1))) : List (List Int))).bind fun y174 => (if ((rd_T73 l0_1 x28_2).f0) < ((rd_L4 y174 ((rd_T73 l0_1 x28_2).f1)).length : Int) then (spec_neTable.l1 kj23 a1 a2 (y174.set (((rd_T73 l0_1 x28_2).f1) : Int).toNat ((rd_L4 y174 ((rd_T73 l0_1 x28_2).f1)).set (((rd_T73 l0_1 x28_2).f0) : Int).toNat (wrap64 ((rd (rd_L4 y174 ((rd_T73 l0_1 x28_2).f1)) ((rd_T73 l0_1 x28_2).f0)) - 1)))) l0_1 (l0_1.length : Int) (wrap64 (x28_2 + 1))) else (none))) else (none)) else (none)) else (none)) else (spec_neTable.l1 kj23 a1 a2 y169 l0_1 (l0_1.length : Int) (wrap64 (x28_2 + 1)))) = some r := by first | (rw [hy169]; with_reducible exact H) | (have H2_ := (Option.bind_some _ _).symm.trans H; rw [hy169]; with_reducible exact H2_) | (have H2_ := (Option.bind_some _ _).symm.trans H; with_reducible exact H2_) | with_reducible exact H | (rw [hy169]; exact H) | exact H
                 have Ny169 := Aside0.mk hy169
                 clear hy169
                 by_cases c42 : ((rd_T73 l0_1 x28_2).f0) < a1
                 ·rw [if_pos c42] at H
                  have c42b0 : decide (((rd_T73 l0_1 x28_2).f0) < a1) = true := decide_eq_true c42
                  clear c42
                  by_cases c43 : 0 ≤ ((rd_T73 l0_1 x28_2).f0)
                  ·rw [if_pos c43] at H
                   have c43b0 : decide (0 ≤ ((rd_T73 l0_1 x28_2).f0)) = true := decide_eq_true c43
                   clear c43
                   by_cases c44 : ((rd_T73 l0_1 x28_2).f0) < (x7_23.length : Int)
                   ·rw [if_pos c44] at H
                    have c44b0 : decide (((rd_T73 l0_1 x28_2).f0) < (x7_23.length : Int)) = true := decide_eq_true c44
                    (try (have c44b0h0 := c44b0; simp only [hl7_1] at c44b0h0))
                    (try (have c44b0h1 := c44b0; simp only [hl7_2] at c44b0h1))
                    (try (have c44b0h2 := c44b0; simp only [hl7_23] at c44b0h2))
                    clear c44
                    by_cases c45 : ((rd_T73 l0_1 x28_2).f1) < ((rd_L4 y169 ((rd_T73 l0_1 x28_2).f0)).length : Int)
                    ·rw [if_pos c45] at H
                     have c45b0 : decide (((rd_T73 l0_1 x28_2).f1) < ((rd_L4 y169 ((rd_T73 l0_1 x28_2).f0)).length : Int)) = true := decide_eq_true c45
                     (try (have c45b0h0 := c45b0; simp only [hl7_1] at c45b0h0))
                     (try (have c45b0h1 := c45b0; simp only [hl7_2] at c45b0h1))
                     (try (have c45b0h2 := c45b0; simp only [hl7_23] at c45b0h2))
                     clear c45
                     obtain ⟨y172, hy172⟩ : ∃ y_ : List Int, y_ = ((rd_L4 y169 ((rd_T73 l0_1 x28_2).f0)).set (((rd_T73 l0_1 x28_2).f1) : Int).toNat (wrap64 ((rd (rd_L4 y169 ((rd_T73 l0_1 x28_2).f0)) ((rd_T73 l0_1 x28_2).f1)) - 1))) := ⟨_, rfl⟩
                     replace H : ((some (y169.set (((rd_T73 l0_1 x28_2).f0) : Int).toNat y172 : List (List Int))).bind fun y174 => (if ((rd_T73 l0_1 x28_2).f0) < ((rd_L4 y174 ((rd_T73 l0_1 x28_2).f1)).length : Int) then (spec_neTable.l1 kj23 a1 a2 (y174.set (((rd_T73 l0_1 x28_2).f1) : Int).toNat ((rd_L4 y174 ((rd_T73 l0_1 x28_2).f1)).set (((rd_T73 l0_1 x28_2).f0) : Int).toNat (wrap64 ((rd (rd_L4 y174 ((rd_T73 l0_1 x28_2).f1)) ((rd_T73 l0_1 x28_2).f0)) - 1)))) l0_1 (l0_1.length : Int) (wrap64 (x28_2 + 1))) else (none))) = some r := by first | (rw [hy172]; with_reducible exact H) | (have H2_ := (Option.bind_some _ _).symm.trans H; rw [hy172]; with_reducible exact H2_) | (have H2_ := (Option.bind_some _ _).symm.trans H; with_reducible exact H2_) | with_reducible exact H | (rw [hy172]; exact H) | exact H
                     have Ny172 := Aside0.mk hy172
                     clear hy172
                     obtain ⟨y174, hy174⟩ : ∃ y_ : List (List Int), y_ = (y169.set (((rd_T73 l0_1 x28_2).f0) : Int).toNat y172) := ⟨_, rfl⟩
                     replace H : (if ((rd_T73 l0_1 x28_2).f0) < ((rd_L4 y174 ((rd_T73 l0_1 x28_2).f1)).length : Int) then (spec_neTable.l1 kj23 a1 a2 (y174.set (((rd_T73 l0_1 x28_2).f1) : Int).toNat ((rd_L4 y174 ((rd_T73 l0_1 x28_2).f1)).set (((rd_T73 l0_1 x28_2).f0) : Int).toNat (wrap64 ((rd (rd_L4 y174 ((rd_T73 l0_1 x28_2).f1)) ((rd_T73 l0_1 x28_2).f0)) - 1)))) l0_1 (l0_1.length : Int) (wrap64 (x28_2 + 1))) else (none)) = some r := by first | (rw [hy174]; with_reducible exact H) | (have H2_ := (Option.bind_some _ _).symm.trans H; rw [hy174]; with_reducible exact H2_) | (have H2_ := (Option.bind_some _ _).symm.trans H; with_reducible exact H2_) | with_reducible exact H | (rw [hy174]; exact H) | exact H
                     have Ny174 := Aside0.mk hy174
                     clear hy174
                     by_cases c47 : ((rd_T73 l0_1 x28_2).f0) < ((rd_L4 y174 ((rd_T73 l0_1 x28_2).f1)).length : Int)
                     ·rw [if_pos c47] at H
                      have c47b0 : decide (((rd_T73 l0_1 x28_2).f0) < ((rd_L4 y174 ((rd_T73 l0_1 x28_2).f1)).length : Int)) = true := decide_eq_true c47
                      (try (have c47b0h0 := c47b0; simp only [hl7_1] at c47b0h0))
                      (try (have c47b0h1 := c47b0; simp only [hl7_2] at c47b0h1))
                      (try (have c47b0h2 := c47b0; simp only [hl7_23] at c47b0h2))
                      clear c47
                      obtain ⟨y177, hy177⟩ : ∃ y_ : List Int, y_ = ((rd_L4 y174 ((rd_T73 l0_1 x28_2).f1)).set (((rd_T73 l0_1 x28_2).f0) : Int).toNat (wrap64 ((rd (rd_L4 y174 ((rd_T73 l0_1 x28_2).f1)) ((rd_T73 l0_1 x28_2).f0)) - 1))) := ⟨_, rfl⟩
                      replace H : (spec_neTable.l1 kj23 a1 a2 (y174.set (((rd_T73 l0_1 x28_2).f1) : Int).toNat y177) l0_1 (l0_1.length : Int) (wrap64 (x28_2 + 1))) = some r := by first | (rw [hy177]; with_reducible exact H) | (have H2_ := (Option.bind_some _ _).symm.trans H; rw [hy177]; with_reducible exact H2_) | (have H2_ := (Option.bind_some _ _).symm.trans H; with_reducible exact H2_) | with_reducible exact H | (rw [hy177]; exact H) | exact H
                      have Ny177 := Aside0.mk hy177
                      clear hy177
                      obtain ⟨y179, hy179⟩ : ∃ y_ : List (List Int), y_ = (y174.set (((rd_T73 l0_1 x28_2).f1) : Int).toNat y177) := ⟨_, rfl⟩
                      replace H : (spec_neTable.l1 kj23 a1 a2 y179 l0_1 (l0_1.length : Int) (wrap64 (x28_2 + 1))) = some r := by first | (rw [hy179]; with_reducible exact H) | (have H2_ := (Option.bind_some _ _).symm.trans H; rw [hy179]; with_reducible exact H2_) | (have H2_ := (Option.bind_some _ _).symm.trans H; with_reducible exact H2_) | with_reducible exact H | (rw [hy179]; exact H) | exact H
                      have Ny179 := Aside0.mk hy179
                      clear hy179
                      have H' := Aside0.mk H
                      clear H
                      have hnb49 := NB159_150.out
                      have hnc49 := NB150_159.out
                      have hcz50_0 : wc.cell? ⟨gb159, 0, none⟩ = some (.int .i64 ((rd_T73 l0_1 x28_2).f0)) := (blk_cell BK159.out 0).trans rfl
                      have hcz50_1 : wc.cell? ⟨gb159, 1, none⟩ = some (.int .i64 ((rd_T73 l0_1 x28_2).f1)) := (blk_cell BK159.out 1).trans rfl
                      have hfz50_0 := blk_frozen BK159.out 0
                      have hfz50_1 := blk_frozen BK159.out 1
                      try go_wp2
                      have n0_ := Aside0.mk (Kd.S_drew HO_7.out)
                      have n1_ := Aside0.mk (blk_drew BK150.out)
                      have n2_ := Aside0.mk (blk_drew BK159.out)
                      have n3_ := Aside0.mk (below_drew1 HB.out)
                      clear HO_7
                      clear BK150
                      clear BK159
                      clear HB
                      have HO_7 := n0_
                      have BK150 := n1_
                      have BK159 := n2_
                      have HB := n3_
                      clear n0_ n1_ n2_ n3_
                      have p165 : 0 ≤ (((rd_T73 l0_1 x28_2).f1) : Int) := of_decide_eq_true (by first | (with_reducible assumption) | assumption)
                      have q165 : ((rd_T73 l0_1 x28_2).f1) < (x7_23.length : Int) := of_decide_eq_true (by first | (with_reducible assumption) | assumption)
                      obtain ⟨ad165, A165_0, c165_0, e165, hx165_0, hl165_0, hi165_0⟩ := at_L4 (Kd.S_reads' HO_7.out).2.2 ((rd_T73 l0_1 x28_2).f1) p165 q165
                      cases e165
                      obtain ⟨ce165, hce165, hMe165, hcc165⟩ := Kd.S_get HO_7.out [] ((rd_T73 l0_1 x28_2).f1) p165 (by first | exact q165 | exact of_decide_eq_true (by first | (with_reducible assumption) | assumption) | (have e_ := (Kd.S_reads' HO_7.out).1; omega))
                      obtain ⟨ve165_0, rfl, ge165_0⟩ := hMe165
                      have hv165_0 := hcc165 0 _ rfl
                      rw [Nat.add_zero, show ((Kd.slice 3 (Kd.int .i64))).sz = 1 from rfl, Nat.mul_one] at hv165_0
                      replace hv165_0 := Option.some.inj (hv165_0.symm.trans hx165_0)
                      rw [hv165_0] at ge165_0
                      have HL165_0 := Aside0.mk (show Kd.R (Kd.int .i64) 3 _ _ _ _ (rd_L4 x7_23 ((rd_T73 l0_1 x28_2).f1)) from ge165_0)
                      clear hv165_0 ge165_0
                      have HX165_0 := Aside0.mk hx165_0
                      clear hcc165 hce165
                      have HR165_0 := Aside0.mk hi165_0
                      have HC165_0 := Aside0.mk hl165_0
                      clear hi165_0 hl165_0
                      replace p165 := eq_true p165
                      replace q165 := eq_true q165
                      have p166 : 0 ≤ (((rd_T73 l0_1 x28_2).f1) : Int) := of_decide_eq_true (by first | (with_reducible assumption) | assumption)
                      have q166 : ((rd_T73 l0_1 x28_2).f1) < ((rd_L4 x7_23 ((rd_T73 l0_1 x28_2).f1)).length : Int) := of_decide_eq_true (by first | (with_reducible assumption) | assumption)
                      obtain ⟨ad166, e166, hx166_0⟩ := Kd.at_int (by repeat (first | (with_reducible exact HR165_0.out) | (with_reducible refine Kd.C_alloc ?_ _) | (with_reducible refine Kd.C_drewN ?_ _) | (with_reducible refine Kd.C_drew ?_) | exact HR165_0.out)) ((rd_T73 l0_1 x28_2).f1) p166 q166
                      cases e166
                      replace p166 := eq_true p166
                      replace q166 := eq_true q166
                      have p41 : 0 ≤ (((rd_T73 l0_1 x28_2).f1) : Int) := of_decide_eq_true (by first | (with_reducible assumption) | assumption)
                      have q41 : (((rd_T73 l0_1 x28_2).f1) : Int) < (((rd_L4 x7_23 ((rd_T73 l0_1 x28_2).f1)).length : Int) : Int) := of_decide_eq_true (by first | (with_reducible assumption) | assumption)
                      obtain ⟨go41, co41, eo41, gb41, gl41, cl41, HG41⟩ := Kd.R_form HL165_0.out (by omega)
                      (first | cases eo41 | (injection eo41 with ea_ en_ ec_; (first | subst ea_ | (injection ea_ with ea_; subst ea_)); subst ec_; clear en_))
                      have GB41 := Aside0.mk gb41
                      have GG41 := Aside0.mk HG41
                      clear gb41 gl41 HG41
                      (first | simp only [add_plain] at hx166_0 | skip)
                      obtain ⟨hx41_0, hf41_0⟩ := Kd.R_celln 0 HL165_0.out (((rd_T73 l0_1 x28_2).f1) : Int) p41 q41
                      replace p41 := eq_true p41
                      replace q41 := eq_true q41
                      have hq52 : (((rd_T73 l0_1 x28_2).f1) : Int) < (x7_23.length : Int) := (by have h_ : (((rd_T73 l0_1 x28_2).f1) : Int) < ((x7_23.length : Int) : Int) := of_decide_eq_true (by first | (with_reducible assumption) | assumption); first | exact h_ | (have e_ := (Kd.S_reads' HO_7.out).1; omega) | simpa only [List.length_set, List.length_set] using h_)
                      obtain ⟨oki52, ce52, hcl52, hM52, hcc52, hok52, hbk52⟩ := Kd.S_borrow HO_7.out [] (((rd_T73 l0_1 x28_2).f1) : Int) (of_decide_eq_true (by first | (with_reducible assumption) | assumption)) (by first | exact hq52 | (have e_ := (Kd.S_reads' HO_7.out).1; omega))
                      obtain ⟨ve52_0, rfl, ge52_0⟩ := hM52
                      have hv52 := hcc52 0 _ rfl
                      rw [Nat.add_zero, show ((Kd.slice 3 (Kd.int .i64))).sz = 1 from rfl, Nat.mul_one] at hv52
                      replace hv52 := Option.some.inj (hv52.symm.trans HX165_0.out)
                      subst hv52
                      clear hcc52 hcl52
                      replace ge52_0 := (show Kd.R (Kd.int .i64) 3 _ _ _ _ (rd_L4 x7_23 ((rd_T73 l0_1 x28_2).f1)) from ge52_0)
                      have HP52 := Kd.R_putg ge52_0 (((rd_T73 l0_1 x28_2).f1) : Int) (wrap64 ((rd (rd_L4 x7_23 ((rd_T73 l0_1 x28_2).f1)) ((rd_T73 l0_1 x28_2).f1)) + 1))
                      rw [← Ny167.out] at HP52
                      have HS52 := hbk52 HP52.2 (fun k_ e_ => by injection e_ with e_; subst e_; exact ge52_0.1 _ rfl) (x' := y167) (Kd.M_row HP52.1)
                      rw [← Ny169.out] at HS52
                      have HQ52 := Aside0.mk HS52
                      clear HP52 HS52 hbk52 hok52
                      refine start_ (n := 12) (S := fun w' => w'.cell? ⟨gb159, 0, none⟩ = some (.int .i64 ((rd_T73 l0_1 x28_2).f0)) ∧ w'.cell? ⟨gb159, 1, none⟩ = some (.int .i64 ((rd_T73 l0_1 x28_2).f1)) ∧ w'.cell? (ad165.add (((rd_T73 l0_1 x28_2).f1)).toNat) = some (.slice (some ⟨go41, 0, none⟩) (rd_L4 x7_23 ((rd_T73 l0_1 x28_2).f1)).length c165_0) ∧ w'.cell? ⟨go41, (((rd_T73 l0_1 x28_2).f1)).toNat, none⟩ = some (.int .i64 (rd (rd_L4 x7_23 ((rd_T73 l0_1 x28_2).f1)) ((rd_T73 l0_1 x28_2).f1)))) (ds := [11]) #[false, false, false, false, false, false, false, false, false, false, false, false] (by kernel_rfl) rfl rfl ⟨(blk_cell BK159.out 0).trans rfl, (blk_cell BK159.out 1).trans rfl, hx165_0, hx166_0⟩ (fun hHeld => ?_); refine with_tabW spec_neTable.tab13 spec_neTable.bits13 (fun HT_ HW_ => ?_)
                      generalize wc.drew = w51 at HO_7 BK150 BK159 HB GG41 HL165_0 HQ52 HR165_0 HX165_0 hf41_0 hx165_0 hx166_0 hx41_0 hHeld ⊢
                      refine pure_ (i := 0) (N := some 51) (v := ?_) (a' := ?_) #[true, false, false, false, false, false, false, false, false, false, false, false] rfl rfl (any_of HT_.out (by kernel_rfl)) (fun _ _ _ h => h) (Or.inl ⟨by rfl, ?_⟩) ?_ ?_
                      rotate_left
                      ·intro w'
                       go_simp
                       with_reducible rfl
                      rotate_left
                      ·simp only [Act.put, List.setIfInBounds_toArray, List.set_cons_zero, List.set_cons_succ, i64_w, i32_w]
                       rfl
                      refine pure_ (i := 1) (N := some 52) (v := ?_) (a' := ?_) #[true, true, false, false, false, false, false, false, false, false, false, false] rfl rfl (any_of HT_.out (by kernel_rfl)) (fun _ _ _ h => h) (Or.inl ⟨by rfl, ?_⟩) ?_ ?_
                      rotate_left
                      ·intro w'
                       go_simp
                       with_reducible rfl
                      rotate_left
                      ·simp only [Act.put, List.setIfInBounds_toArray, List.set_cons_zero, List.set_cons_succ, i64_w, i32_w]
                       rfl
                      refine pure_ (i := 5) (N := some 56) (v := ?_) (a' := ?_) #[true, true, false, false, false, true, false, false, false, false, false, false] rfl rfl (any_of HT_.out (by kernel_rfl)) (fun _ _ _ h => h) (Or.inl ⟨by rfl, ?_⟩) ?_ ?_
                      rotate_left
                      ·intro w'
                       go_simp
                       with_reducible rfl
                      rotate_left
                      ·simp only [Act.put, List.setIfInBounds_toArray, List.set_cons_zero, List.set_cons_succ, i64_w, i32_w]
                       rfl
                      refine take_ (i := 2) (N := some 53) (v := ?_) (a' := ?_) #[true, true, true, false, false, true, false, false, false, false, false, false] rfl rfl (take_ofW HT_.out HW_.out (by kernel_rfl)) (fun _ _ _ h => h) (Or.inl ⟨by rfl, ?_⟩) hHeld ?_ ?_
                      rotate_left
                      ·rintro w' ⟨s0, s1, s2, s3⟩
                       go_simp
                       with_reducible rfl
                      rotate_left
                      ·simp only [Act.put, List.setIfInBounds_toArray, List.set_cons_zero, List.set_cons_succ, i64_w, i32_w]
                       rfl
                      refine pure_ (i := 3) (N := some 54) (v := ?_) (a' := ?_) #[true, true, true, true, false, true, false, false, false, false, false, false] rfl rfl (any_of HT_.out (by kernel_rfl)) (fun _ _ _ h => h) (Or.inl ⟨by rfl, ?_⟩) ?_ ?_
                      rotate_left
                      ·intro w'
                       go_simp
                       with_reducible rfl
                      rotate_left
                      ·simp only [Act.put, List.setIfInBounds_toArray, List.set_cons_zero, List.set_cons_succ, i64_w, i32_w]
                       rfl
                      refine take_ (i := 4) (N := some 55) (v := ?_) (a' := ?_) #[true, true, true, true, true, true, false, false, false, false, false, false] rfl rfl (take_ofW HT_.out HW_.out (by kernel_rfl)) (fun _ _ _ h => h) (Or.inl ⟨by rfl, ?_⟩) hHeld ?_ ?_
                      rotate_left
                      ·rintro w' ⟨s0, s1, s2, s3⟩
                       go_simp
                       with_reducible rfl
                      rotate_left
                      ·simp only [Act.put, List.setIfInBounds_toArray, List.set_cons_zero, List.set_cons_succ, i64_w, i32_w]
                       rfl
                      refine take_ (i := 6) (N := some 57) (v := ?_) (a' := ?_) #[true, true, true, true, true, true, true, false, false, false, false, false] rfl rfl (take_ofW HT_.out HW_.out (by kernel_rfl)) (fun _ _ _ h => h) (Or.inl ⟨by rfl, ?_⟩) hHeld ?_ ?_
                      rotate_left
                      ·rintro w' ⟨s0, s1, s2, s3⟩
                       go_simp
                       with_reducible rfl
                      rotate_left
                      ·simp only [Act.put, List.setIfInBounds_toArray, List.set_cons_zero, List.set_cons_succ, i64_w, i32_w]
                       rfl
                      refine pure_ (i := 7) (N := some 58) (v := ?_) (a' := ?_) #[true, true, true, true, true, true, true, true, false, false, false, false] rfl rfl (any_of HT_.out (by kernel_rfl)) (fun _ _ _ h => h) (Or.inl ⟨by rfl, ?_⟩) ?_ ?_
                      rotate_left
                      ·intro w'
                       go_simp
                       with_reducible rfl
                      rotate_left
                      ·simp only [Act.put, List.setIfInBounds_toArray, List.set_cons_zero, List.set_cons_succ, i64_w, i32_w]
                       rfl
                      refine take_ (i := 8) (N := some 59) (v := ?_) (a' := ?_) #[true, true, true, true, true, true, true, true, true, false, false, false] rfl rfl (take_ofW HT_.out HW_.out (by kernel_rfl)) (fun _ _ _ h => h) (Or.inl ⟨by rfl, ?_⟩) hHeld ?_ ?_
                      rotate_left
                      ·rintro w' ⟨s0, s1, s2, s3⟩
                       go_simp
                       with_reducible rfl
                      rotate_left
                      ·simp only [Act.put, List.setIfInBounds_toArray, List.set_cons_zero, List.set_cons_succ, i64_w, i32_w]
                       rfl
                      refine pure_ (i := 9) (N := some 60) (v := ?_) (a' := ?_) #[true, true, true, true, true, true, true, true, true, true, false, false] rfl rfl (any_of HT_.out (by kernel_rfl)) (fun _ _ _ h => h) (Or.inl ⟨by rfl, ?_⟩) ?_ ?_
                      rotate_left
                      ·intro w'
                       go_simp
                       with_reducible rfl
                      rotate_left
                      ·simp only [Act.put, List.setIfInBounds_toArray, List.set_cons_zero, List.set_cons_succ, i64_w, i32_w]
                       rfl
                      refine pure_ (i := 10) (N := some 61) (v := ?_) (a' := ?_) #[true, true, true, true, true, true, true, true, true, true, true, false] rfl rfl (any_of HT_.out (by kernel_rfl)) (fun _ _ _ h => h) (Or.inl ⟨by rfl, ?_⟩) ?_ ?_
                      rotate_left
                      ·intro w'
                       go_simp
                       with_reducible rfl
                      rotate_left
                      ·simp only [Act.put, List.setIfInBounds_toArray, List.set_cons_zero, List.set_cons_succ, i64_w, i32_w]
                       rfl
                      refine last_ (i := 11) (N := none) #[true, true, true, true, true, true, true, true, true, true, true, true] rfl rfl (one_of HT_.out (by kernel_rfl)) (by decide) (fun K hK => ?_)
                      refine skip_ (w1 := ?_) (by rfl) rfl ?_ ?_
                      rotate_left
                      ·go_simp
                       rfl
                      refine hK.out _ _ ?_
                      clear hK K
                      refine done_ (done_of HT_.out (by kernel_rfl)) ?_
                      have n0_ : Aside0 (Kd.S (Kd.slice 3 (Kd.int .i64)) 36 (w51.setCell ⟨go41, (((rd_T73 l0_1 x28_2).f1) : Int).toNat, none⟩ (.int .i64 (wrap64 ((rd (rd_L4 x7_23 ((rd_T73 l0_1 x28_2).f1)) ((rd_T73 l0_1 x28_2).f1)) + 1)))) w.heap.size (fun _ => True) (.slice (some ad165) x7_23.length co9) y169) := ⟨by (with_reducible repeat (first | apply Kd.S_alloc | apply Kd.S_drewN | apply Kd.S_drew)); exact HQ52.out⟩
                      have n1_ : Aside0 ((w51.setCell ⟨go41, (((rd_T73 l0_1 x28_2).f1) : Int).toNat, none⟩ (.int .i64 (wrap64 ((rd (rd_L4 x7_23 ((rd_T73 l0_1 x28_2).f1)) ((rd_T73 l0_1 x28_2).f1)) + 1)))).heap[gb150]? = some (.cells #[.int .i64 a0_0, .slice (some ad158) l0_1.length c0_1] 30 (0, 0))) := ⟨by (with_reducible repeat (first | refine blk_drewN ?_ _ | refine blk_drew ?_ | refine blk_alloc ?_ _)); refine blk_far ?_ (by have h_ := Kd.R_ne HL165_0.out BK150.out (by decide); intro e_; exact h_ (by rw [e_]; rfl)) _; (with_reducible repeat (first | refine blk_drewN ?_ _ | refine blk_drew ?_ | refine blk_alloc ?_ _)); exact BK150.out⟩
                      have n2_ : Aside0 ((w51.setCell ⟨go41, (((rd_T73 l0_1 x28_2).f1) : Int).toNat, none⟩ (.int .i64 (wrap64 ((rd (rd_L4 x7_23 ((rd_T73 l0_1 x28_2).f1)) ((rd_T73 l0_1 x28_2).f1)) + 1)))).heap[gb159]? = some (.cells #[.int .i64 ((rd_T73 l0_1 x28_2).f0), .int .i64 ((rd_T73 l0_1 x28_2).f1)] 73 (0, 0))) := ⟨by (with_reducible repeat (first | refine blk_drewN ?_ _ | refine blk_drew ?_ | refine blk_alloc ?_ _)); refine blk_far ?_ (by have h_ := Kd.R_ne HL165_0.out BK159.out (by decide); intro e_; exact h_ (by rw [e_]; rfl)) _; (with_reducible repeat (first | refine blk_drewN ?_ _ | refine blk_drew ?_ | refine blk_alloc ?_ _)); exact BK159.out⟩
                      have n3_ : Aside0 (Below w.heap.size w (w51.setCell ⟨go41, (((rd_T73 l0_1 x28_2).f1) : Int).toNat, none⟩ (.int .i64 (wrap64 ((rd (rd_L4 x7_23 ((rd_T73 l0_1 x28_2).f1)) ((rd_T73 l0_1 x28_2).f1)) + 1))))) := ⟨by repeat (first | (with_reducible first | exact HB.out | apply below_alloc | apply pw_below_drewN | apply below_drew1 | refine below_set ?_ GB41.out | refine below_set ?_ GE150.out | refine below_set ?_ GE159.out) | exact HB.out)⟩
                      (try clear HO_7)
                      (try clear BK150)
                      (try clear BK159)
                      (try clear HB)
                      (try simp only [drewN_setCell])
                      generalize (w51.setCell ⟨go41, (((rd_T73 l0_1 x28_2).f1) : Int).toNat, none⟩ (.int .i64 (wrap64 ((rd (rd_L4 x7_23 ((rd_T73 l0_1 x28_2).f1)) ((rd_T73 l0_1 x28_2).f1)) + 1)))) = w55 at n0_ n1_ n2_ n3_ ⊢
                      have HO_7 := n0_
                      have BK150 := n1_
                      have BK159 := n2_
                      have HB := n3_
                      clear n0_ n1_ n2_ n3_
                      have hcz54_0 : w55.cell? ⟨gb159, 0, none⟩ = some (.int .i64 ((rd_T73 l0_1 x28_2).f0)) := (blk_cell BK159.out 0).trans rfl
                      have hcz54_1 : w55.cell? ⟨gb159, 1, none⟩ = some (.int .i64 ((rd_T73 l0_1 x28_2).f1)) := (blk_cell BK159.out 1).trans rfl
                      have hfz54_0 := blk_frozen BK159.out 0
                      have hfz54_1 := blk_frozen BK159.out 1
                      try go_wp2
                      have n0_ := Aside0.mk (Kd.S_drew HO_7.out)
                      have n1_ := Aside0.mk (blk_drew BK150.out)
                      have n2_ := Aside0.mk (blk_drew BK159.out)
                      have n3_ := Aside0.mk (below_drew1 HB.out)
                      clear HO_7
                      clear BK150
                      clear BK159
                      clear HB
                      have HO_7 := n0_
                      have BK150 := n1_
                      have BK159 := n2_
                      have HB := n3_
                      clear n0_ n1_ n2_ n3_
                      have p170 : 0 ≤ (((rd_T73 l0_1 x28_2).f0) : Int) := of_decide_eq_true (by first | (with_reducible assumption) | assumption)
                      have q170 : ((rd_T73 l0_1 x28_2).f0) < (y169.length : Int) := (by have h_ : (((rd_T73 l0_1 x28_2).f0) : Int) < ((x7_23.length : Int) : Int) := of_decide_eq_true (by first | (with_reducible assumption) | assumption); first | (have e_ := (Kd.S_reads' HO_7.out).1; omega) | simpa only [Ny169.out, List.length_set] using h_)
                      have ql170 : ((((rd_T73 l0_1 x28_2).f0) : Int) < ((x7_23.length : Int) : Int)) = True := eq_true (of_decide_eq_true (by first | (with_reducible assumption) | assumption))
                      obtain ⟨ad170, A170_0, c170_0, e170, hx170_0, hl170_0, hi170_0⟩ := at_L4 (Kd.S_reads' HO_7.out).2.2 ((rd_T73 l0_1 x28_2).f0) p170 q170
                      obtain rfl : ad165 = ad170 := (by injection e170)
                      obtain ⟨ce170, hce170, hMe170, hcc170⟩ := Kd.S_get HO_7.out [] ((rd_T73 l0_1 x28_2).f0) p170 (by first | exact q170 | exact of_decide_eq_true (by first | (with_reducible assumption) | assumption) | (have e_ := (Kd.S_reads' HO_7.out).1; omega))
                      obtain ⟨ve170_0, rfl, ge170_0⟩ := hMe170
                      have hv170_0 := hcc170 0 _ rfl
                      rw [Nat.add_zero, show ((Kd.slice 3 (Kd.int .i64))).sz = 1 from rfl, Nat.mul_one] at hv170_0
                      replace hv170_0 := Option.some.inj (hv170_0.symm.trans hx170_0)
                      rw [hv170_0] at ge170_0
                      have HL170_0 := Aside0.mk (show Kd.R (Kd.int .i64) 3 _ _ _ _ (rd_L4 y169 ((rd_T73 l0_1 x28_2).f0)) from ge170_0)
                      clear hv170_0 ge170_0
                      have HX170_0 := Aside0.mk hx170_0
                      clear hcc170 hce170
                      have HR170_0 := Aside0.mk hi170_0
                      have HC170_0 := Aside0.mk hl170_0
                      clear hi170_0 hl170_0
                      replace p170 := eq_true p170
                      replace q170 := eq_true q170
                      have p171 : 0 ≤ (((rd_T73 l0_1 x28_2).f1) : Int) := of_decide_eq_true (by first | (with_reducible assumption) | assumption)
                      have q171 : ((rd_T73 l0_1 x28_2).f1) < ((rd_L4 y169 ((rd_T73 l0_1 x28_2).f0)).length : Int) := of_decide_eq_true (by first | (with_reducible assumption) | assumption)
                      obtain ⟨ad171, e171, hx171_0⟩ := Kd.at_int (by repeat (first | (with_reducible exact HR170_0.out) | (with_reducible refine Kd.C_alloc ?_ _) | (with_reducible refine Kd.C_drewN ?_ _) | (with_reducible refine Kd.C_drew ?_) | exact HR170_0.out)) ((rd_T73 l0_1 x28_2).f1) p171 q171
                      cases e171
                      replace p171 := eq_true p171
                      replace q171 := eq_true q171
                      have p46 : 0 ≤ (((rd_T73 l0_1 x28_2).f1) : Int) := of_decide_eq_true (by first | (with_reducible assumption) | assumption)
                      have q46 : (((rd_T73 l0_1 x28_2).f1) : Int) < (((rd_L4 y169 ((rd_T73 l0_1 x28_2).f0)).length : Int) : Int) := of_decide_eq_true (by first | (with_reducible assumption) | assumption)
                      obtain ⟨go46, co46, eo46, gb46, gl46, cl46, HG46⟩ := Kd.R_form HL170_0.out (by omega)
                      (first | cases eo46 | (injection eo46 with ea_ en_ ec_; (first | subst ea_ | (injection ea_ with ea_; subst ea_)); subst ec_; clear en_))
                      have GB46 := Aside0.mk gb46
                      have GG46 := Aside0.mk HG46
                      clear gb46 gl46 HG46
                      (first | simp only [add_plain] at hx171_0 | skip)
                      obtain ⟨hx46_0, hf46_0⟩ := Kd.R_celln 0 HL170_0.out (((rd_T73 l0_1 x28_2).f1) : Int) p46 q46
                      replace p46 := eq_true p46
                      replace q46 := eq_true q46
                      have hq57 : (((rd_T73 l0_1 x28_2).f0) : Int) < (y169.length : Int) := (by have h_ : (((rd_T73 l0_1 x28_2).f0) : Int) < ((x7_23.length : Int) : Int) := of_decide_eq_true (by first | (with_reducible assumption) | assumption); first | exact h_ | (have e_ := (Kd.S_reads' HO_7.out).1; omega) | simpa only [Ny169.out, List.length_set] using h_)
                      obtain ⟨oki57, ce57, hcl57, hM57, hcc57, hok57, hbk57⟩ := Kd.S_borrow HO_7.out [] (((rd_T73 l0_1 x28_2).f0) : Int) (of_decide_eq_true (by first | (with_reducible assumption) | assumption)) (by first | exact hq57 | (have e_ := (Kd.S_reads' HO_7.out).1; omega))
                      obtain ⟨ve57_0, rfl, ge57_0⟩ := hM57
                      have hv57 := hcc57 0 _ rfl
                      rw [Nat.add_zero, show ((Kd.slice 3 (Kd.int .i64))).sz = 1 from rfl, Nat.mul_one] at hv57
                      replace hv57 := Option.some.inj (hv57.symm.trans HX170_0.out)
                      subst hv57
                      clear hcc57 hcl57
                      replace ge57_0 := (show Kd.R (Kd.int .i64) 3 _ _ _ _ (rd_L4 y169 ((rd_T73 l0_1 x28_2).f0)) from ge57_0)
                      have HP57 := Kd.R_putg ge57_0 (((rd_T73 l0_1 x28_2).f1) : Int) (wrap64 ((rd (rd_L4 y169 ((rd_T73 l0_1 x28_2).f0)) ((rd_T73 l0_1 x28_2).f1)) - 1))
                      rw [← Ny172.out] at HP57
                      have HS57 := hbk57 HP57.2 (fun k_ e_ => by injection e_ with e_; subst e_; exact ge57_0.1 _ rfl) (x' := y172) (Kd.M_row HP57.1)
                      rw [← Ny174.out] at HS57
                      have HQ57 := Aside0.mk HS57
                      clear HP57 HS57 hbk57 hok57
                      refine start_ (n := 12) (S := fun w' => w'.cell? ⟨gb159, 0, none⟩ = some (.int .i64 ((rd_T73 l0_1 x28_2).f0)) ∧ w'.cell? ⟨gb159, 1, none⟩ = some (.int .i64 ((rd_T73 l0_1 x28_2).f1)) ∧ w'.cell? (ad165.add (((rd_T73 l0_1 x28_2).f0)).toNat) = some (.slice (some ⟨go46, 0, none⟩) (rd_L4 y169 ((rd_T73 l0_1 x28_2).f0)).length c170_0) ∧ w'.cell? ⟨go46, (((rd_T73 l0_1 x28_2).f1)).toNat, none⟩ = some (.int .i64 (rd (rd_L4 y169 ((rd_T73 l0_1 x28_2).f0)) ((rd_T73 l0_1 x28_2).f1)))) (ds := [11]) #[false, false, false, false, false, false, false, false, false, false, false, false] (by kernel_rfl) rfl rfl ⟨(blk_cell BK159.out 0).trans rfl, (blk_cell BK159.out 1).trans rfl, hx170_0, hx171_0⟩ (fun hHeld => ?_); refine with_tabW spec_neTable.tab15 spec_neTable.bits15 (fun HT_ HW_ => ?_)
                      generalize w55.drew = w56 at HO_7 BK150 BK159 HB GG46 HL170_0 HQ52 HQ57 HR170_0 HX170_0 hf46_0 hx170_0 hx171_0 hx46_0 hHeld ⊢
                      refine pure_ (i := 0) (N := some 72) (v := ?_) (a' := ?_) #[true, false, false, false, false, false, false, false, false, false, false, false] rfl rfl (any_of HT_.out (by kernel_rfl)) (fun _ _ _ h => h) (Or.inl ⟨by rfl, ?_⟩) ?_ ?_
                      rotate_left
                      ·intro w'
                       go_simp
                       with_reducible rfl
                      rotate_left
                      ·simp only [Act.put, List.setIfInBounds_toArray, List.set_cons_zero, List.set_cons_succ, i64_w, i32_w]
                       rfl
                      refine pure_ (i := 1) (N := some 73) (v := ?_) (a' := ?_) #[true, true, false, false, false, false, false, false, false, false, false, false] rfl rfl (any_of HT_.out (by kernel_rfl)) (fun _ _ _ h => h) (Or.inl ⟨by rfl, ?_⟩) ?_ ?_
                      rotate_left
                      ·intro w'
                       go_simp
                       with_reducible rfl
                      rotate_left
                      ·simp only [Act.put, List.setIfInBounds_toArray, List.set_cons_zero, List.set_cons_succ, i64_w, i32_w]
                       rfl
                      refine pure_ (i := 5) (N := some 77) (v := ?_) (a' := ?_) #[true, true, false, false, false, true, false, false, false, false, false, false] rfl rfl (any_of HT_.out (by kernel_rfl)) (fun _ _ _ h => h) (Or.inl ⟨by rfl, ?_⟩) ?_ ?_
                      rotate_left
                      ·intro w'
                       go_simp
                       with_reducible rfl
                      rotate_left
                      ·simp only [Act.put, List.setIfInBounds_toArray, List.set_cons_zero, List.set_cons_succ, i64_w, i32_w]
                       rfl
                      refine take_ (i := 2) (N := some 74) (v := ?_) (a' := ?_) #[true, true, true, false, false, true, false, false, false, false, false, false] rfl rfl (take_ofW HT_.out HW_.out (by kernel_rfl)) (fun _ _ _ h => h) (Or.inl ⟨by rfl, ?_⟩) hHeld ?_ ?_
                      rotate_left
                      ·rintro w' ⟨s0, s1, s2, s3⟩
                       go_simp
                       with_reducible rfl
                      rotate_left
                      ·simp only [Act.put, List.setIfInBounds_toArray, List.set_cons_zero, List.set_cons_succ, i64_w, i32_w]
                       rfl
                      refine pure_ (i := 3) (N := some 75) (v := ?_) (a' := ?_) #[true, true, true, true, false, true, false, false, false, false, false, false] rfl rfl (any_of HT_.out (by kernel_rfl)) (fun _ _ _ h => h) (Or.inl ⟨by rfl, ?_⟩) ?_ ?_
                      rotate_left
                      ·intro w'
                       go_simp
                       with_reducible rfl
                      rotate_left
                      ·simp only [Act.put, List.setIfInBounds_toArray, List.set_cons_zero, List.set_cons_succ, i64_w, i32_w]
                       rfl
                      refine take_ (i := 4) (N := some 76) (v := ?_) (a' := ?_) #[true, true, true, true, true, true, false, false, false, false, false, false] rfl rfl (take_ofW HT_.out HW_.out (by kernel_rfl)) (fun _ _ _ h => h) (Or.inl ⟨by rfl, ?_⟩) hHeld ?_ ?_
                      rotate_left
                      ·rintro w' ⟨s0, s1, s2, s3⟩
                       go_simp
                       with_reducible rfl
                      rotate_left
                      ·simp only [Act.put, List.setIfInBounds_toArray, List.set_cons_zero, List.set_cons_succ, i64_w, i32_w]
                       rfl
                      refine take_ (i := 6) (N := some 78) (v := ?_) (a' := ?_) #[true, true, true, true, true, true, true, false, false, false, false, false] rfl rfl (take_ofW HT_.out HW_.out (by kernel_rfl)) (fun _ _ _ h => h) (Or.inl ⟨by rfl, ?_⟩) hHeld ?_ ?_
                      rotate_left
                      ·rintro w' ⟨s0, s1, s2, s3⟩
                       go_simp
                       with_reducible rfl
                      rotate_left
                      ·simp only [Act.put, List.setIfInBounds_toArray, List.set_cons_zero, List.set_cons_succ, i64_w, i32_w]
                       rfl
                      refine pure_ (i := 7) (N := some 79) (v := ?_) (a' := ?_) #[true, true, true, true, true, true, true, true, false, false, false, false] rfl rfl (any_of HT_.out (by kernel_rfl)) (fun _ _ _ h => h) (Or.inl ⟨by rfl, ?_⟩) ?_ ?_
                      rotate_left
                      ·intro w'
                       go_simp
                       with_reducible rfl
                      rotate_left
                      ·simp only [Act.put, List.setIfInBounds_toArray, List.set_cons_zero, List.set_cons_succ, i64_w, i32_w]
                       rfl
                      refine take_ (i := 8) (N := some 80) (v := ?_) (a' := ?_) #[true, true, true, true, true, true, true, true, true, false, false, false] rfl rfl (take_ofW HT_.out HW_.out (by kernel_rfl)) (fun _ _ _ h => h) (Or.inl ⟨by rfl, ?_⟩) hHeld ?_ ?_
                      rotate_left
                      ·rintro w' ⟨s0, s1, s2, s3⟩
                       go_simp
                       with_reducible rfl
                      rotate_left
                      ·simp only [Act.put, List.setIfInBounds_toArray, List.set_cons_zero, List.set_cons_succ, i64_w, i32_w]
                       rfl
                      refine pure_ (i := 9) (N := some 81) (v := ?_) (a' := ?_) #[true, true, true, true, true, true, true, true, true, true, false, false] rfl rfl (any_of HT_.out (by kernel_rfl)) (fun _ _ _ h => h) (Or.inl ⟨by rfl, ?_⟩) ?_ ?_
                      rotate_left
                      ·intro w'
                       go_simp
                       with_reducible rfl
                      rotate_left
                      ·simp only [Act.put, List.setIfInBounds_toArray, List.set_cons_zero, List.set_cons_succ, i64_w, i32_w]
                       rfl
                      refine pure_ (i := 10) (N := some 82) (v := ?_) (a' := ?_) #[true, true, true, true, true, true, true, true, true, true, true, false] rfl rfl (any_of HT_.out (by kernel_rfl)) (fun _ _ _ h => h) (Or.inl ⟨by rfl, ?_⟩) ?_ ?_
                      rotate_left
                      ·intro w'
                       go_simp
                       with_reducible rfl
                      rotate_left
                      ·simp only [Act.put, List.setIfInBounds_toArray, List.set_cons_zero, List.set_cons_succ, i64_w, i32_w]
                       rfl
                      refine last_ (i := 11) (N := none) #[true, true, true, true, true, true, true, true, true, true, true, true] rfl rfl (one_of HT_.out (by kernel_rfl)) (by decide) (fun K hK => ?_)
                      refine skip_ (w1 := ?_) (by rfl) rfl ?_ ?_
                      rotate_left
                      ·go_simp
                       rfl
                      refine hK.out _ _ ?_
                      clear hK K
                      refine done_ (done_of HT_.out (by kernel_rfl)) ?_
                      try go_wp2
                      have n0_ : Aside0 (Kd.S (Kd.slice 3 (Kd.int .i64)) 36 (w56.setCell ⟨go46, (((rd_T73 l0_1 x28_2).f1) : Int).toNat, none⟩ (.int .i64 (wrap64 ((rd (rd_L4 y169 ((rd_T73 l0_1 x28_2).f0)) ((rd_T73 l0_1 x28_2).f1)) - 1)))) w.heap.size (fun _ => True) (.slice (some ad165) x7_23.length co9) y174) := ⟨by (with_reducible repeat (first | apply Kd.S_alloc | apply Kd.S_drewN | apply Kd.S_drew)); exact HQ57.out⟩
                      have n1_ : Aside0 ((w56.setCell ⟨go46, (((rd_T73 l0_1 x28_2).f1) : Int).toNat, none⟩ (.int .i64 (wrap64 ((rd (rd_L4 y169 ((rd_T73 l0_1 x28_2).f0)) ((rd_T73 l0_1 x28_2).f1)) - 1)))).heap[gb150]? = some (.cells #[.int .i64 a0_0, .slice (some ad158) l0_1.length c0_1] 30 (0, 0))) := ⟨by (with_reducible repeat (first | refine blk_drewN ?_ _ | refine blk_drew ?_ | refine blk_alloc ?_ _)); refine blk_far ?_ (by have h_ := Kd.R_ne HL170_0.out BK150.out (by decide); intro e_; exact h_ (by rw [e_]; rfl)) _; (with_reducible repeat (first | refine blk_drewN ?_ _ | refine blk_drew ?_ | refine blk_alloc ?_ _)); exact BK150.out⟩
                      have n2_ : Aside0 ((w56.setCell ⟨go46, (((rd_T73 l0_1 x28_2).f1) : Int).toNat, none⟩ (.int .i64 (wrap64 ((rd (rd_L4 y169 ((rd_T73 l0_1 x28_2).f0)) ((rd_T73 l0_1 x28_2).f1)) - 1)))).heap[gb159]? = some (.cells #[.int .i64 ((rd_T73 l0_1 x28_2).f0), .int .i64 ((rd_T73 l0_1 x28_2).f1)] 73 (0, 0))) := ⟨by (with_reducible repeat (first | refine blk_drewN ?_ _ | refine blk_drew ?_ | refine blk_alloc ?_ _)); refine blk_far ?_ (by have h_ := Kd.R_ne HL170_0.out BK159.out (by decide); intro e_; exact h_ (by rw [e_]; rfl)) _; (with_reducible repeat (first | refine blk_drewN ?_ _ | refine blk_drew ?_ | refine blk_alloc ?_ _)); exact BK159.out⟩
                      have n3_ : Aside0 (Below w.heap.size w (w56.setCell ⟨go46, (((rd_T73 l0_1 x28_2).f1) : Int).toNat, none⟩ (.int .i64 (wrap64 ((rd (rd_L4 y169 ((rd_T73 l0_1 x28_2).f0)) ((rd_T73 l0_1 x28_2).f1)) - 1))))) := ⟨by repeat (first | (with_reducible first | exact HB.out | apply below_alloc | apply pw_below_drewN | apply below_drew1 | refine below_set ?_ GB46.out | refine below_set ?_ GE150.out | refine below_set ?_ GE159.out) | exact HB.out)⟩
                      (try clear HO_7)
                      (try clear BK150)
                      (try clear BK159)
                      (try clear HB)
                      (try simp only [drewN_setCell])
                      generalize (w56.setCell ⟨go46, (((rd_T73 l0_1 x28_2).f1) : Int).toNat, none⟩ (.int .i64 (wrap64 ((rd (rd_L4 y169 ((rd_T73 l0_1 x28_2).f0)) ((rd_T73 l0_1 x28_2).f1)) - 1)))) = w59 at n0_ n1_ n2_ n3_ ⊢
                      have HO_7 := n0_
                      have BK150 := n1_
                      have BK159 := n2_
                      have HB := n3_
                      clear n0_ n1_ n2_ n3_
                      have n0_ := Aside0.mk (Kd.S_drew HO_7.out)
                      have n1_ := Aside0.mk (blk_drew BK150.out)
                      have n2_ := Aside0.mk (blk_drew BK159.out)
                      have n3_ := Aside0.mk (below_drew1 HB.out)
                      clear HO_7
                      clear BK150
                      clear BK159
                      clear HB
                      have HO_7 := n0_
                      have BK150 := n1_
                      have BK159 := n2_
                      have HB := n3_
                      clear n0_ n1_ n2_ n3_
                      have p175 : 0 ≤ (((rd_T73 l0_1 x28_2).f1) : Int) := of_decide_eq_true (by first | (with_reducible assumption) | assumption)
                      have q175 : ((rd_T73 l0_1 x28_2).f1) < (y174.length : Int) := (by have h_ : (((rd_T73 l0_1 x28_2).f1) : Int) < ((x7_23.length : Int) : Int) := of_decide_eq_true (by first | (with_reducible assumption) | assumption); first | (have e_ := (Kd.S_reads' HO_7.out).1; omega) | simpa only [Ny169.out, Ny174.out, List.length_set] using h_)
                      have ql175 : ((((rd_T73 l0_1 x28_2).f1) : Int) < ((x7_23.length : Int) : Int)) = True := eq_true (of_decide_eq_true (by first | (with_reducible assumption) | assumption))
                      obtain ⟨ad175, A175_0, c175_0, e175, hx175_0, hl175_0, hi175_0⟩ := at_L4 (Kd.S_reads' HO_7.out).2.2 ((rd_T73 l0_1 x28_2).f1) p175 q175
                      obtain rfl : ad165 = ad175 := (by injection e175)
                      obtain ⟨ce175, hce175, hMe175, hcc175⟩ := Kd.S_get HO_7.out [] ((rd_T73 l0_1 x28_2).f1) p175 (by first | exact q175 | exact of_decide_eq_true (by first | (with_reducible assumption) | assumption) | (have e_ := (Kd.S_reads' HO_7.out).1; omega))
                      obtain ⟨ve175_0, rfl, ge175_0⟩ := hMe175
                      have hv175_0 := hcc175 0 _ rfl
                      rw [Nat.add_zero, show ((Kd.slice 3 (Kd.int .i64))).sz = 1 from rfl, Nat.mul_one] at hv175_0
                      replace hv175_0 := Option.some.inj (hv175_0.symm.trans hx175_0)
                      rw [hv175_0] at ge175_0
                      have HL175_0 := Aside0.mk (show Kd.R (Kd.int .i64) 3 _ _ _ _ (rd_L4 y174 ((rd_T73 l0_1 x28_2).f1)) from ge175_0)
                      clear hv175_0 ge175_0
                      have HX175_0 := Aside0.mk hx175_0
                      clear hcc175 hce175
                      have HR175_0 := Aside0.mk hi175_0
                      have HC175_0 := Aside0.mk hl175_0
                      clear hi175_0 hl175_0
                      replace p175 := eq_true p175
                      replace q175 := eq_true q175
                      have p176 : 0 ≤ (((rd_T73 l0_1 x28_2).f0) : Int) := of_decide_eq_true (by first | (with_reducible assumption) | assumption)
                      have q176 : ((rd_T73 l0_1 x28_2).f0) < ((rd_L4 y174 ((rd_T73 l0_1 x28_2).f1)).length : Int) := of_decide_eq_true (by first | (with_reducible assumption) | assumption)
                      obtain ⟨ad176, e176, hx176_0⟩ := Kd.at_int (by repeat (first | (with_reducible exact HR175_0.out) | (with_reducible refine Kd.C_alloc ?_ _) | (with_reducible refine Kd.C_drewN ?_ _) | (with_reducible refine Kd.C_drew ?_) | exact HR175_0.out)) ((rd_T73 l0_1 x28_2).f0) p176 q176
                      cases e176
                      replace p176 := eq_true p176
                      replace q176 := eq_true q176
                      have p48 : 0 ≤ (((rd_T73 l0_1 x28_2).f0) : Int) := of_decide_eq_true (by first | (with_reducible assumption) | assumption)
                      have q48 : (((rd_T73 l0_1 x28_2).f0) : Int) < (((rd_L4 y174 ((rd_T73 l0_1 x28_2).f1)).length : Int) : Int) := of_decide_eq_true (by first | (with_reducible assumption) | assumption)
                      obtain ⟨go48, co48, eo48, gb48, gl48, cl48, HG48⟩ := Kd.R_form HL175_0.out (by omega)
                      (first | cases eo48 | (injection eo48 with ea_ en_ ec_; (first | subst ea_ | (injection ea_ with ea_; subst ea_)); subst ec_; clear en_))
                      have GB48 := Aside0.mk gb48
                      have GG48 := Aside0.mk HG48
                      clear gb48 gl48 HG48
                      (first | simp only [add_plain] at hx176_0 | skip)
                      obtain ⟨hx48_0, hf48_0⟩ := Kd.R_celln 0 HL175_0.out (((rd_T73 l0_1 x28_2).f0) : Int) p48 q48
                      replace p48 := eq_true p48
                      replace q48 := eq_true q48
                      have hq61 : (((rd_T73 l0_1 x28_2).f1) : Int) < (y174.length : Int) := (by have h_ : (((rd_T73 l0_1 x28_2).f1) : Int) < ((x7_23.length : Int) : Int) := of_decide_eq_true (by first | (with_reducible assumption) | assumption); first | exact h_ | (have e_ := (Kd.S_reads' HO_7.out).1; omega) | simpa only [Ny169.out, Ny174.out, List.length_set] using h_)
                      obtain ⟨oki61, ce61, hcl61, hM61, hcc61, hok61, hbk61⟩ := Kd.S_borrow HO_7.out [] (((rd_T73 l0_1 x28_2).f1) : Int) (of_decide_eq_true (by first | (with_reducible assumption) | assumption)) (by first | exact hq61 | (have e_ := (Kd.S_reads' HO_7.out).1; omega))
                      obtain ⟨ve61_0, rfl, ge61_0⟩ := hM61
                      have hv61 := hcc61 0 _ rfl
                      rw [Nat.add_zero, show ((Kd.slice 3 (Kd.int .i64))).sz = 1 from rfl, Nat.mul_one] at hv61
                      replace hv61 := Option.some.inj (hv61.symm.trans HX175_0.out)
                      subst hv61
                      clear hcc61 hcl61
                      replace ge61_0 := (show Kd.R (Kd.int .i64) 3 _ _ _ _ (rd_L4 y174 ((rd_T73 l0_1 x28_2).f1)) from ge61_0)
                      have HP61 := Kd.R_putg ge61_0 (((rd_T73 l0_1 x28_2).f0) : Int) (wrap64 ((rd (rd_L4 y174 ((rd_T73 l0_1 x28_2).f1)) ((rd_T73 l0_1 x28_2).f0)) - 1))
                      rw [← Ny177.out] at HP61
                      have HS61 := hbk61 HP61.2 (fun k_ e_ => by injection e_ with e_; subst e_; exact ge61_0.1 _ rfl) (x' := y177) (Kd.M_row HP61.1)
                      rw [← Ny179.out] at HS61
                      have HQ61 := Aside0.mk HS61
                      clear HP61 HS61 hbk61 hok61
                      refine start_ (n := 12) (S := fun w' => w'.cell? ⟨gb159, 0, none⟩ = some (.int .i64 ((rd_T73 l0_1 x28_2).f0)) ∧ w'.cell? ⟨gb159, 1, none⟩ = some (.int .i64 ((rd_T73 l0_1 x28_2).f1)) ∧ w'.cell? (ad165.add (((rd_T73 l0_1 x28_2).f1)).toNat) = some (.slice (some ⟨go48, 0, none⟩) (rd_L4 y174 ((rd_T73 l0_1 x28_2).f1)).length c175_0) ∧ w'.cell? ⟨go48, (((rd_T73 l0_1 x28_2).f0)).toNat, none⟩ = some (.int .i64 (rd (rd_L4 y174 ((rd_T73 l0_1 x28_2).f1)) ((rd_T73 l0_1 x28_2).f0)))) (ds := [11]) #[false, false, false, false, false, false, false, false, false, false, false, false] (by kernel_rfl) rfl rfl ⟨(blk_cell BK159.out 0).trans rfl, (blk_cell BK159.out 1).trans rfl, hx175_0, hx176_0⟩ (fun hHeld => ?_); refine with_tabW spec_neTable.tab16 spec_neTable.bits16 (fun HT_ HW_ => ?_)
                      generalize w59.drew = w60 at HO_7 BK150 BK159 HB GG48 HL175_0 HQ57 HQ61 HR175_0 HX175_0 hf48_0 hx175_0 hx176_0 hx48_0 hHeld ⊢
                      refine pure_ (i := 0) (N := some 83) (v := ?_) (a' := ?_) #[true, false, false, false, false, false, false, false, false, false, false, false] rfl rfl (any_of HT_.out (by kernel_rfl)) (fun _ _ _ h => h) (Or.inl ⟨by rfl, ?_⟩) ?_ ?_
                      rotate_left
                      ·intro w'
                       go_simp
                       with_reducible rfl
                      rotate_left
                      ·simp only [Act.put, List.setIfInBounds_toArray, List.set_cons_zero, List.set_cons_succ, i64_w, i32_w]
                       rfl
                      refine pure_ (i := 1) (N := some 84) (v := ?_) (a' := ?_) #[true, true, false, false, false, false, false, false, false, false, false, false] rfl rfl (any_of HT_.out (by kernel_rfl)) (fun _ _ _ h => h) (Or.inl ⟨by rfl, ?_⟩) ?_ ?_
                      rotate_left
                      ·intro w'
                       go_simp
                       with_reducible rfl
                      rotate_left
                      ·simp only [Act.put, List.setIfInBounds_toArray, List.set_cons_zero, List.set_cons_succ, i64_w, i32_w]
                       rfl
                      refine pure_ (i := 5) (N := some 88) (v := ?_) (a' := ?_) #[true, true, false, false, false, true, false, false, false, false, false, false] rfl rfl (any_of HT_.out (by kernel_rfl)) (fun _ _ _ h => h) (Or.inl ⟨by rfl, ?_⟩) ?_ ?_
                      rotate_left
                      ·intro w'
                       go_simp
                       with_reducible rfl
                      rotate_left
                      ·simp only [Act.put, List.setIfInBounds_toArray, List.set_cons_zero, List.set_cons_succ, i64_w, i32_w]
                       rfl
                      refine take_ (i := 2) (N := some 85) (v := ?_) (a' := ?_) #[true, true, true, false, false, true, false, false, false, false, false, false] rfl rfl (take_ofW HT_.out HW_.out (by kernel_rfl)) (fun _ _ _ h => h) (Or.inl ⟨by rfl, ?_⟩) hHeld ?_ ?_
                      rotate_left
                      ·rintro w' ⟨s0, s1, s2, s3⟩
                       go_simp
                       with_reducible rfl
                      rotate_left
                      ·simp only [Act.put, List.setIfInBounds_toArray, List.set_cons_zero, List.set_cons_succ, i64_w, i32_w]
                       rfl
                      refine pure_ (i := 3) (N := some 86) (v := ?_) (a' := ?_) #[true, true, true, true, false, true, false, false, false, false, false, false] rfl rfl (any_of HT_.out (by kernel_rfl)) (fun _ _ _ h => h) (Or.inl ⟨by rfl, ?_⟩) ?_ ?_
                      rotate_left
                      ·intro w'
                       go_simp
                       with_reducible rfl
                      rotate_left
                      ·simp only [Act.put, List.setIfInBounds_toArray, List.set_cons_zero, List.set_cons_succ, i64_w, i32_w]
                       rfl
                      refine take_ (i := 4) (N := some 87) (v := ?_) (a' := ?_) #[true, true, true, true, true, true, false, false, false, false, false, false] rfl rfl (take_ofW HT_.out HW_.out (by kernel_rfl)) (fun _ _ _ h => h) (Or.inl ⟨by rfl, ?_⟩) hHeld ?_ ?_
                      rotate_left
                      ·rintro w' ⟨s0, s1, s2, s3⟩
                       go_simp
                       with_reducible rfl
                      rotate_left
                      ·simp only [Act.put, List.setIfInBounds_toArray, List.set_cons_zero, List.set_cons_succ, i64_w, i32_w]
                       rfl
                      refine take_ (i := 6) (N := some 89) (v := ?_) (a' := ?_) #[true, true, true, true, true, true, true, false, false, false, false, false] rfl rfl (take_ofW HT_.out HW_.out (by kernel_rfl)) (fun _ _ _ h => h) (Or.inl ⟨by rfl, ?_⟩) hHeld ?_ ?_
                      rotate_left
                      ·rintro w' ⟨s0, s1, s2, s3⟩
                       go_simp
                       with_reducible rfl
                      rotate_left
                      ·simp only [Act.put, List.setIfInBounds_toArray, List.set_cons_zero, List.set_cons_succ, i64_w, i32_w]
                       rfl
                      refine pure_ (i := 7) (N := some 90) (v := ?_) (a' := ?_) #[true, true, true, true, true, true, true, true, false, false, false, false] rfl rfl (any_of HT_.out (by kernel_rfl)) (fun _ _ _ h => h) (Or.inl ⟨by rfl, ?_⟩) ?_ ?_
                      rotate_left
                      ·intro w'
                       go_simp
                       with_reducible rfl
                      rotate_left
                      ·simp only [Act.put, List.setIfInBounds_toArray, List.set_cons_zero, List.set_cons_succ, i64_w, i32_w]
                       rfl
                      refine take_ (i := 8) (N := some 91) (v := ?_) (a' := ?_) #[true, true, true, true, true, true, true, true, true, false, false, false] rfl rfl (take_ofW HT_.out HW_.out (by kernel_rfl)) (fun _ _ _ h => h) (Or.inl ⟨by rfl, ?_⟩) hHeld ?_ ?_
                      rotate_left
                      ·rintro w' ⟨s0, s1, s2, s3⟩
                       go_simp
                       with_reducible rfl
                      rotate_left
                      ·simp only [Act.put, List.setIfInBounds_toArray, List.set_cons_zero, List.set_cons_succ, i64_w, i32_w]
                       rfl
                      refine pure_ (i := 9) (N := some 92) (v := ?_) (a' := ?_) #[true, true, true, true, true, true, true, true, true, true, false, false] rfl rfl (any_of HT_.out (by kernel_rfl)) (fun _ _ _ h => h) (Or.inl ⟨by rfl, ?_⟩) ?_ ?_
                      rotate_left
                      ·intro w'
                       go_simp
                       with_reducible rfl
                      rotate_left
                      ·simp only [Act.put, List.setIfInBounds_toArray, List.set_cons_zero, List.set_cons_succ, i64_w, i32_w]
                       rfl
                      refine pure_ (i := 10) (N := some 93) (v := ?_) (a' := ?_) #[true, true, true, true, true, true, true, true, true, true, true, false] rfl rfl (any_of HT_.out (by kernel_rfl)) (fun _ _ _ h => h) (Or.inl ⟨by rfl, ?_⟩) ?_ ?_
                      rotate_left
                      ·intro w'
                       go_simp
                       with_reducible rfl
                      rotate_left
                      ·simp only [Act.put, List.setIfInBounds_toArray, List.set_cons_zero, List.set_cons_succ, i64_w, i32_w]
                       rfl
                      refine last_ (i := 11) (N := none) #[true, true, true, true, true, true, true, true, true, true, true, true] rfl rfl (one_of HT_.out (by kernel_rfl)) (by decide) (fun K hK => ?_)
                      refine skip_ (w1 := ?_) (by rfl) rfl ?_ ?_
                      rotate_left
                      ·go_simp
                       rfl
                      refine hK.out _ _ ?_
                      clear hK K
                      refine done_ (done_of HT_.out (by kernel_rfl)) ?_
                      try go_wp2
                      (try simp only [← hl7_2, ← hl7_23])
                      go_roundg kj23
                      case measure => have := HK1.out; have := HK2.out; have := HJ23.out; omega
                      case rel => exact ⟨(y179), (wrap64 (x28_2 + 1)), (by first | rfl | (simp; done) | (simp [*]; done)), H', ⟨by have := HK1.out; have := HK2.out; have := HJ23.out; omega⟩, ⟨by (try simp only [hl7_1]); (try simp only [hl7_2]); (try simp only [hl7_23]); (with_reducible repeat (first | apply Kd.S_alloc | apply Kd.S_drewN | apply Kd.S_drew)); exact HQ61.out⟩, ⟨by (try simp only [hl7_1]); (try simp only [hl7_2]); (try simp only [hl7_23]); (with_reducible repeat (first | refine blk_drewN ?_ _ | refine blk_drew ?_ | refine blk_alloc ?_ _)); refine blk_far ?_ (by have h_ := Kd.R_ne HL175_0.out BK150.out (by decide); intro e_; exact h_ (by rw [e_]; rfl)) _; (with_reducible repeat (first | refine blk_drewN ?_ _ | refine blk_drew ?_ | refine blk_alloc ?_ _)); exact BK150.out⟩, ⟨by repeat (first | (with_reducible first | exact HB.out | apply below_alloc | apply pw_below_drewN | apply below_drew1 | refine below_set ?_ GB48.out | refine below_set ?_ GE150.out | refine below_set ?_ GE159.out) | exact HB.out)⟩⟩
                     ·rw [if_neg c47] at H
                      exact absurd H (by simp)
                    ·rw [if_neg c45] at H
                     exact absurd H (by simp)
                   ·rw [if_neg c44] at H
                    exact absurd H (by simp)
                  ·rw [if_neg c43] at H
                   exact absurd H (by simp)
                 ·rw [if_neg c42] at H
                  have c42b0 : decide (((rd_T73 l0_1 x28_2).f0) < a1) = false := decide_eq_false c42
                  clear c42
                  have H' := Aside0.mk H
                  clear H
                  have hnb63 := NB159_150.out
                  have hnc63 := NB150_159.out
                  have hcz64_0 : wc.cell? ⟨gb159, 0, none⟩ = some (.int .i64 ((rd_T73 l0_1 x28_2).f0)) := (blk_cell BK159.out 0).trans rfl
                  have hcz64_1 : wc.cell? ⟨gb159, 1, none⟩ = some (.int .i64 ((rd_T73 l0_1 x28_2).f1)) := (blk_cell BK159.out 1).trans rfl
                  have hfz64_0 := blk_frozen BK159.out 0
                  have hfz64_1 := blk_frozen BK159.out 1
                  try go_wp2
                  have n0_ := Aside0.mk (Kd.S_drew HO_7.out)
                  have n1_ := Aside0.mk (blk_drew BK150.out)
                  have n2_ := Aside0.mk (blk_drew BK159.out)
                  have n3_ := Aside0.mk (below_drew1 HB.out)
                  clear HO_7
                  clear BK150
                  clear BK159
                  clear HB
                  have HO_7 := n0_
                  have BK150 := n1_
                  have BK159 := n2_
                  have HB := n3_
                  clear n0_ n1_ n2_ n3_
                  have p165 : 0 ≤ (((rd_T73 l0_1 x28_2).f1) : Int) := of_decide_eq_true (by first | (with_reducible assumption) | assumption)
                  have q165 : ((rd_T73 l0_1 x28_2).f1) < (x7_23.length : Int) := of_decide_eq_true (by first | (with_reducible assumption) | assumption)
                  obtain ⟨ad165, A165_0, c165_0, e165, hx165_0, hl165_0, hi165_0⟩ := at_L4 (Kd.S_reads' HO_7.out).2.2 ((rd_T73 l0_1 x28_2).f1) p165 q165
                  cases e165
                  obtain ⟨ce165, hce165, hMe165, hcc165⟩ := Kd.S_get HO_7.out [] ((rd_T73 l0_1 x28_2).f1) p165 (by first | exact q165 | exact of_decide_eq_true (by first | (with_reducible assumption) | assumption) | (have e_ := (Kd.S_reads' HO_7.out).1; omega))
                  obtain ⟨ve165_0, rfl, ge165_0⟩ := hMe165
                  have hv165_0 := hcc165 0 _ rfl
                  rw [Nat.add_zero, show ((Kd.slice 3 (Kd.int .i64))).sz = 1 from rfl, Nat.mul_one] at hv165_0
                  replace hv165_0 := Option.some.inj (hv165_0.symm.trans hx165_0)
                  rw [hv165_0] at ge165_0
                  have HL165_0 := Aside0.mk (show Kd.R (Kd.int .i64) 3 _ _ _ _ (rd_L4 x7_23 ((rd_T73 l0_1 x28_2).f1)) from ge165_0)
                  clear hv165_0 ge165_0
                  have HX165_0 := Aside0.mk hx165_0
                  clear hcc165 hce165
                  have HR165_0 := Aside0.mk hi165_0
                  have HC165_0 := Aside0.mk hl165_0
                  clear hi165_0 hl165_0
                  replace p165 := eq_true p165
                  replace q165 := eq_true q165
                  have p166 : 0 ≤ (((rd_T73 l0_1 x28_2).f1) : Int) := of_decide_eq_true (by first | (with_reducible assumption) | assumption)
                  have q166 : ((rd_T73 l0_1 x28_2).f1) < ((rd_L4 x7_23 ((rd_T73 l0_1 x28_2).f1)).length : Int) := of_decide_eq_true (by first | (with_reducible assumption) | assumption)
                  obtain ⟨ad166, e166, hx166_0⟩ := Kd.at_int (by repeat (first | (with_reducible exact HR165_0.out) | (with_reducible refine Kd.C_alloc ?_ _) | (with_reducible refine Kd.C_drewN ?_ _) | (with_reducible refine Kd.C_drew ?_) | exact HR165_0.out)) ((rd_T73 l0_1 x28_2).f1) p166 q166
                  cases e166
                  replace p166 := eq_true p166
                  replace q166 := eq_true q166
                  have p41 : 0 ≤ (((rd_T73 l0_1 x28_2).f1) : Int) := of_decide_eq_true (by first | (with_reducible assumption) | assumption)
                  have q41 : (((rd_T73 l0_1 x28_2).f1) : Int) < (((rd_L4 x7_23 ((rd_T73 l0_1 x28_2).f1)).length : Int) : Int) := of_decide_eq_true (by first | (with_reducible assumption) | assumption)
                  obtain ⟨go41, co41, eo41, gb41, gl41, cl41, HG41⟩ := Kd.R_form HL165_0.out (by omega)
                  (first | cases eo41 | (injection eo41 with ea_ en_ ec_; (first | subst ea_ | (injection ea_ with ea_; subst ea_)); subst ec_; clear en_))
                  have GB41 := Aside0.mk gb41
                  have GG41 := Aside0.mk HG41
                  clear gb41 gl41 HG41
                  (first | simp only [add_plain] at hx166_0 | skip)
                  obtain ⟨hx41_0, hf41_0⟩ := Kd.R_celln 0 HL165_0.out (((rd_T73 l0_1 x28_2).f1) : Int) p41 q41
                  replace p41 := eq_true p41
                  replace q41 := eq_true q41
                  have hq66 : (((rd_T73 l0_1 x28_2).f1) : Int) < (x7_23.length : Int) := (by have h_ : (((rd_T73 l0_1 x28_2).f1) : Int) < ((x7_23.length : Int) : Int) := of_decide_eq_true (by first | (with_reducible assumption) | assumption); first | exact h_ | (have e_ := (Kd.S_reads' HO_7.out).1; omega) | simpa only [List.length_set, List.length_set] using h_)
                  obtain ⟨oki66, ce66, hcl66, hM66, hcc66, hok66, hbk66⟩ := Kd.S_borrow HO_7.out [] (((rd_T73 l0_1 x28_2).f1) : Int) (of_decide_eq_true (by first | (with_reducible assumption) | assumption)) (by first | exact hq66 | (have e_ := (Kd.S_reads' HO_7.out).1; omega))
                  obtain ⟨ve66_0, rfl, ge66_0⟩ := hM66
                  have hv66 := hcc66 0 _ rfl
                  rw [Nat.add_zero, show ((Kd.slice 3 (Kd.int .i64))).sz = 1 from rfl, Nat.mul_one] at hv66
                  replace hv66 := Option.some.inj (hv66.symm.trans HX165_0.out)
                  subst hv66
                  clear hcc66 hcl66
                  replace ge66_0 := (show Kd.R (Kd.int .i64) 3 _ _ _ _ (rd_L4 x7_23 ((rd_T73 l0_1 x28_2).f1)) from ge66_0)
                  have HP66 := Kd.R_putg ge66_0 (((rd_T73 l0_1 x28_2).f1) : Int) (wrap64 ((rd (rd_L4 x7_23 ((rd_T73 l0_1 x28_2).f1)) ((rd_T73 l0_1 x28_2).f1)) + 1))
                  rw [← Ny167.out] at HP66
                  have HS66 := hbk66 HP66.2 (fun k_ e_ => by injection e_ with e_; subst e_; exact ge66_0.1 _ rfl) (x' := y167) (Kd.M_row HP66.1)
                  rw [← Ny169.out] at HS66
                  have HQ66 := Aside0.mk HS66
                  clear HP66 HS66 hbk66 hok66
                  refine start_ (n := 12) (S := fun w' => w'.cell? ⟨gb159, 0, none⟩ = some (.int .i64 ((rd_T73 l0_1 x28_2).f0)) ∧ w'.cell? ⟨gb159, 1, none⟩ = some (.int .i64 ((rd_T73 l0_1 x28_2).f1)) ∧ w'.cell? (ad165.add (((rd_T73 l0_1 x28_2).f1)).toNat) = some (.slice (some ⟨go41, 0, none⟩) (rd_L4 x7_23 ((rd_T73 l0_1 x28_2).f1)).length c165_0) ∧ w'.cell? ⟨go41, (((rd_T73 l0_1 x28_2).f1)).toNat, none⟩ = some (.int .i64 (rd (rd_L4 x7_23 ((rd_T73 l0_1 x28_2).f1)) ((rd_T73 l0_1 x28_2).f1)))) (ds := [11]) #[false, false, false, false, false, false, false, false, false, false, false, false] (by kernel_rfl) rfl rfl ⟨(blk_cell BK159.out 0).trans rfl, (blk_cell BK159.out 1).trans rfl, hx165_0, hx166_0⟩ (fun hHeld => ?_); refine with_tabW spec_neTable.tab13 spec_neTable.bits13 (fun HT_ HW_ => ?_)
                  generalize wc.drew = w65 at HO_7 BK150 BK159 HB GG41 HL165_0 HQ66 HR165_0 HX165_0 hf41_0 hx165_0 hx166_0 hx41_0 hHeld ⊢
                  refine pure_ (i := 0) (N := some 51) (v := ?_) (a' := ?_) #[true, false, false, false, false, false, false, false, false, false, false, false] rfl rfl (any_of HT_.out (by kernel_rfl)) (fun _ _ _ h => h) (Or.inl ⟨by rfl, ?_⟩) ?_ ?_
                  rotate_left
                  ·intro w'
                   go_simp
                   with_reducible rfl
                  rotate_left
                  ·simp only [Act.put, List.setIfInBounds_toArray, List.set_cons_zero, List.set_cons_succ, i64_w, i32_w]
                   rfl
                  refine pure_ (i := 1) (N := some 52) (v := ?_) (a' := ?_) #[true, true, false, false, false, false, false, false, false, false, false, false] rfl rfl (any_of HT_.out (by kernel_rfl)) (fun _ _ _ h => h) (Or.inl ⟨by rfl, ?_⟩) ?_ ?_
                  rotate_left
                  ·intro w'
                   go_simp
                   with_reducible rfl
                  rotate_left
                  ·simp only [Act.put, List.setIfInBounds_toArray, List.set_cons_zero, List.set_cons_succ, i64_w, i32_w]
                   rfl
                  refine pure_ (i := 5) (N := some 56) (v := ?_) (a' := ?_) #[true, true, false, false, false, true, false, false, false, false, false, false] rfl rfl (any_of HT_.out (by kernel_rfl)) (fun _ _ _ h => h) (Or.inl ⟨by rfl, ?_⟩) ?_ ?_
                  rotate_left
                  ·intro w'
                   go_simp
                   with_reducible rfl
                  rotate_left
                  ·simp only [Act.put, List.setIfInBounds_toArray, List.set_cons_zero, List.set_cons_succ, i64_w, i32_w]
                   rfl
                  refine take_ (i := 2) (N := some 53) (v := ?_) (a' := ?_) #[true, true, true, false, false, true, false, false, false, false, false, false] rfl rfl (take_ofW HT_.out HW_.out (by kernel_rfl)) (fun _ _ _ h => h) (Or.inl ⟨by rfl, ?_⟩) hHeld ?_ ?_
                  rotate_left
                  ·rintro w' ⟨s0, s1, s2, s3⟩
                   go_simp
                   with_reducible rfl
                  rotate_left
                  ·simp only [Act.put, List.setIfInBounds_toArray, List.set_cons_zero, List.set_cons_succ, i64_w, i32_w]
                   rfl
                  refine pure_ (i := 3) (N := some 54) (v := ?_) (a' := ?_) #[true, true, true, true, false, true, false, false, false, false, false, false] rfl rfl (any_of HT_.out (by kernel_rfl)) (fun _ _ _ h => h) (Or.inl ⟨by rfl, ?_⟩) ?_ ?_
                  rotate_left
                  ·intro w'
                   go_simp
                   with_reducible rfl
                  rotate_left
                  ·simp only [Act.put, List.setIfInBounds_toArray, List.set_cons_zero, List.set_cons_succ, i64_w, i32_w]
                   rfl
                  refine take_ (i := 4) (N := some 55) (v := ?_) (a' := ?_) #[true, true, true, true, true, true, false, false, false, false, false, false] rfl rfl (take_ofW HT_.out HW_.out (by kernel_rfl)) (fun _ _ _ h => h) (Or.inl ⟨by rfl, ?_⟩) hHeld ?_ ?_
                  rotate_left
                  ·rintro w' ⟨s0, s1, s2, s3⟩
                   go_simp
                   with_reducible rfl
                  rotate_left
                  ·simp only [Act.put, List.setIfInBounds_toArray, List.set_cons_zero, List.set_cons_succ, i64_w, i32_w]
                   rfl
                  refine take_ (i := 6) (N := some 57) (v := ?_) (a' := ?_) #[true, true, true, true, true, true, true, false, false, false, false, false] rfl rfl (take_ofW HT_.out HW_.out (by kernel_rfl)) (fun _ _ _ h => h) (Or.inl ⟨by rfl, ?_⟩) hHeld ?_ ?_
                  rotate_left
                  ·rintro w' ⟨s0, s1, s2, s3⟩
                   go_simp
                   with_reducible rfl
                  rotate_left
                  ·simp only [Act.put, List.setIfInBounds_toArray, List.set_cons_zero, List.set_cons_succ, i64_w, i32_w]
                   rfl
                  refine pure_ (i := 7) (N := some 58) (v := ?_) (a' := ?_) #[true, true, true, true, true, true, true, true, false, false, false, false] rfl rfl (any_of HT_.out (by kernel_rfl)) (fun _ _ _ h => h) (Or.inl ⟨by rfl, ?_⟩) ?_ ?_
                  rotate_left
                  ·intro w'
                   go_simp
                   with_reducible rfl
                  rotate_left
                  ·simp only [Act.put, List.setIfInBounds_toArray, List.set_cons_zero, List.set_cons_succ, i64_w, i32_w]
                   rfl
                  refine take_ (i := 8) (N := some 59) (v := ?_) (a' := ?_) #[true, true, true, true, true, true, true, true, true, false, false, false] rfl rfl (take_ofW HT_.out HW_.out (by kernel_rfl)) (fun _ _ _ h => h) (Or.inl ⟨by rfl, ?_⟩) hHeld ?_ ?_
                  rotate_left
                  ·rintro w' ⟨s0, s1, s2, s3⟩
                   go_simp
                   with_reducible rfl
                  rotate_left
                  ·simp only [Act.put, List.setIfInBounds_toArray, List.set_cons_zero, List.set_cons_succ, i64_w, i32_w]
                   rfl
                  refine pure_ (i := 9) (N := some 60) (v := ?_) (a' := ?_) #[true, true, true, true, true, true, true, true, true, true, false, false] rfl rfl (any_of HT_.out (by kernel_rfl)) (fun _ _ _ h => h) (Or.inl ⟨by rfl, ?_⟩) ?_ ?_
                  rotate_left
                  ·intro w'
                   go_simp
                   with_reducible rfl
                  rotate_left
                  ·simp only [Act.put, List.setIfInBounds_toArray, List.set_cons_zero, List.set_cons_succ, i64_w, i32_w]
                   rfl
                  refine pure_ (i := 10) (N := some 61) (v := ?_) (a' := ?_) #[true, true, true, true, true, true, true, true, true, true, true, false] rfl rfl (any_of HT_.out (by kernel_rfl)) (fun _ _ _ h => h) (Or.inl ⟨by rfl, ?_⟩) ?_ ?_
                  rotate_left
                  ·intro w'
                   go_simp
                   with_reducible rfl
                  rotate_left
                  ·simp only [Act.put, List.setIfInBounds_toArray, List.set_cons_zero, List.set_cons_succ, i64_w, i32_w]
                   rfl
                  refine last_ (i := 11) (N := none) #[true, true, true, true, true, true, true, true, true, true, true, true] rfl rfl (one_of HT_.out (by kernel_rfl)) (by decide) (fun K hK => ?_)
                  refine skip_ (w1 := ?_) (by rfl) rfl ?_ ?_
                  rotate_left
                  ·go_simp
                   rfl
                  refine hK.out _ _ ?_
                  clear hK K
                  refine done_ (done_of HT_.out (by kernel_rfl)) ?_
                  have hcz68_0 : w65.cell? ⟨gb159, 0, none⟩ = some (.int .i64 ((rd_T73 l0_1 x28_2).f0)) := (blk_cell BK159.out 0).trans rfl
                  have hcz68_1 : w65.cell? ⟨gb159, 1, none⟩ = some (.int .i64 ((rd_T73 l0_1 x28_2).f1)) := (blk_cell BK159.out 1).trans rfl
                  have hfz68_0 := blk_frozen BK159.out 0
                  have hfz68_1 := blk_frozen BK159.out 1
                  (try (have hcz68_0s : ∀ (o_ : Nat) (v_ : Value), (w65.setCell ⟨go41, o_, none⟩ v_).cell? ⟨gb159, 0, none⟩ = some (.int .i64 ((rd_T73 l0_1 x28_2).f0)) := fun o_ v_ => (blk_cell (blk_far BK159.out (by have h_ := Kd.R_ne HL165_0.out BK159.out (by decide); intro e_; exact h_ (by rw [e_]; rfl)) v_) 0).trans rfl))
                  (try (have hcz68_1s : ∀ (o_ : Nat) (v_ : Value), (w65.setCell ⟨go41, o_, none⟩ v_).cell? ⟨gb159, 1, none⟩ = some (.int .i64 ((rd_T73 l0_1 x28_2).f1)) := fun o_ v_ => (blk_cell (blk_far BK159.out (by have h_ := Kd.R_ne HL165_0.out BK159.out (by decide); intro e_; exact h_ (by rw [e_]; rfl)) v_) 1).trans rfl))
                  (try (have hfz68_0s : ∀ (o_ : Nat) (v_ : Value), (w65.setCell ⟨go41, o_, none⟩ v_).frozen? ⟨gb159, 0, none⟩ = false := fun o_ v_ => blk_frozen (blk_far BK159.out (by have h_ := Kd.R_ne HL165_0.out BK159.out (by decide); intro e_; exact h_ (by rw [e_]; rfl)) v_) 0))
                  (try (have hfz68_1s : ∀ (o_ : Nat) (v_ : Value), (w65.setCell ⟨go41, o_, none⟩ v_).frozen? ⟨gb159, 1, none⟩ = false := fun o_ v_ => blk_frozen (blk_far BK159.out (by have h_ := Kd.R_ne HL165_0.out BK159.out (by decide); intro e_; exact h_ (by rw [e_]; rfl)) v_) 1))
                  try go_wp2
                  (try simp only [← hl7_2, ← hl7_23])
                  go_roundg kj23
                  case measure => have := HK1.out; have := HK2.out; have := HJ23.out; omega
                  case rel => exact ⟨(y169), (wrap64 (x28_2 + 1)), (by first | rfl | (simp; done) | (simp [*]; done)), H', ⟨by have := HK1.out; have := HK2.out; have := HJ23.out; omega⟩, ⟨by (try simp only [hl7_1]); (try simp only [hl7_2]); (try simp only [hl7_23]); (with_reducible repeat (first | apply Kd.S_alloc | apply Kd.S_drewN | apply Kd.S_drew)); exact HQ66.out⟩, ⟨by (try simp only [hl7_1]); (try simp only [hl7_2]); (try simp only [hl7_23]); (with_reducible repeat (first | refine blk_drewN ?_ _ | refine blk_drew ?_ | refine blk_alloc ?_ _)); refine blk_far ?_ (by have h_ := Kd.R_ne HL165_0.out BK150.out (by decide); intro e_; exact h_ (by rw [e_]; rfl)) _; (with_reducible repeat (first | refine blk_drewN ?_ _ | refine blk_drew ?_ | refine blk_alloc ?_ _)); exact BK150.out⟩, ⟨by repeat (first | (with_reducible first | exact HB.out | apply below_alloc | apply pw_below_drewN | apply below_drew1 | refine below_set ?_ GB41.out | refine below_set ?_ GE150.out | refine below_set ?_ GE159.out) | exact HB.out)⟩⟩
                ·rw [if_neg c40] at H
                 exact absurd H (by simp)
               ·rw [if_neg c39] at H
                exact absurd H (by simp)
              ·rw [if_neg c38] at H
               exact absurd H (by simp)
             ·rw [if_neg c37] at H
              have c37b0 : decide (((rd_T73 l0_1 x28_2).f1) < a1) = false := decide_eq_false c37
              clear c37
              by_cases c69 : ((rd_T73 l0_1 x28_2).f0) < a1
              ·rw [if_pos c69] at H
               have c69b0 : decide (((rd_T73 l0_1 x28_2).f0) < a1) = true := decide_eq_true c69
               clear c69
               have H' := Aside0.mk H
               clear H
               have hnb70 := NB159_150.out
               have hnc70 := NB150_159.out
               have hcz71_0 : wc.cell? ⟨gb159, 0, none⟩ = some (.int .i64 ((rd_T73 l0_1 x28_2).f0)) := (blk_cell BK159.out 0).trans rfl
               have hcz71_1 : wc.cell? ⟨gb159, 1, none⟩ = some (.int .i64 ((rd_T73 l0_1 x28_2).f1)) := (blk_cell BK159.out 1).trans rfl
               have hfz71_0 := blk_frozen BK159.out 0
               have hfz71_1 := blk_frozen BK159.out 1
               go_wp2
               (try simp only [← hl7_2, ← hl7_23])
               go_roundg kj23
               case measure => have := HK1.out; have := HK2.out; have := HJ23.out; omega
               case rel => exact ⟨(x7_23), (wrap64 (x28_2 + 1)), (by first | rfl | (simp; done) | (simp [*]; done)), H', ⟨by have := HK1.out; have := HK2.out; have := HJ23.out; omega⟩, ⟨by (try simp only [hl7_1]); (try simp only [hl7_2]); (try simp only [hl7_23]); (with_reducible repeat (first | apply Kd.S_alloc | apply Kd.S_drewN | apply Kd.S_drew)); exact HO_7.out⟩, ⟨by (try simp only [hl7_1]); (try simp only [hl7_2]); (try simp only [hl7_23]); (with_reducible repeat (first | refine blk_drewN ?_ _ | refine blk_drew ?_ | refine blk_alloc ?_ _)); exact BK150.out⟩, ⟨upW HB⟩⟩
              ·rw [if_neg c69] at H
               have c69b0 : decide (((rd_T73 l0_1 x28_2).f0) < a1) = false := decide_eq_false c69
               clear c69
               have H' := Aside0.mk H
               clear H
               have hnb72 := NB159_150.out
               have hnc72 := NB150_159.out
               have hcz73_0 : wc.cell? ⟨gb159, 0, none⟩ = some (.int .i64 ((rd_T73 l0_1 x28_2).f0)) := (blk_cell BK159.out 0).trans rfl
               have hcz73_1 : wc.cell? ⟨gb159, 1, none⟩ = some (.int .i64 ((rd_T73 l0_1 x28_2).f1)) := (blk_cell BK159.out 1).trans rfl
               have hfz73_0 := blk_frozen BK159.out 0
               have hfz73_1 := blk_frozen BK159.out 1
               go_wp2
               (try simp only [← hl7_2, ← hl7_23])
               go_roundg kj23
               case measure => have := HK1.out; have := HK2.out; have := HJ23.out; omega
               case rel => exact ⟨(x7_23), (wrap64 (x28_2 + 1)), (by first | rfl | (simp; done) | (simp [*]; done)), H', ⟨by have := HK1.out; have := HK2.out; have := HJ23.out; omega⟩, ⟨by (try simp only [hl7_1]); (try simp only [hl7_2]); (try simp only [hl7_23]); (with_reducible repeat (first | apply Kd.S_alloc | apply Kd.S_drewN | apply Kd.S_drew)); exact HO_7.out⟩, ⟨by (try simp only [hl7_1]); (try simp only [hl7_2]); (try simp only [hl7_23]); (with_reducible repeat (first | refine blk_drewN ?_ _ | refine blk_drew ?_ | refine blk_alloc ?_ _)); exact BK150.out⟩, ⟨upW HB⟩⟩
          ·rw [if_neg c23] at H
           exact absurd H (by simp)
         ·rw [if_neg c22] at H
          exact absurd H (by simp)
        ·rw [if_neg c21] at H
         have c21b0 : decide (x28_2 < (l0_1.length : Int)) = false := decide_eq_false c21
         (try (have c21b0h0 := c21b0; simp only [hl7_1] at c21b0h0))
         (try (have c21b0h1 := c21b0; simp only [hl7_2] at c21b0h1))
         clear c21
         by_cases c74 : a2 ≥ 0
         ·rw [if_pos c74] at H
          have c74b0 : decide (0 ≤ a2) = true := decide_eq_true c74
          clear c74
          have H' := Aside0.mk H
          clear H
          go_wp2
          go_loopg [99] k2 (fun kq v99 w' => ∃ (x7_3 : List (List Int)) (x99_3 : Int), v99 = .int .i64 x99_3 ∧ Aside0 (spec_neTable.l2 kq a2 x7_3 (x7_2.length : Int) x99_3 = some r) ∧ Aside0 (kq ≤ k2) ∧ Aside0 (Kd.S (Kd.slice 3 (Kd.int .i64)) 36 w' w.heap.size (fun _ => True) (.slice Ao9 x7_2.length co9) x7_3) ∧ Aside0 (w'.heap[gb150]? = some (.cells #[.int .i64 a0_0, (.slice A0_1 l0_1.length c0_1)] 30 (0, 0))) ∧ Aside0 (Below w.heap.size w w'))
          case atStart => exact ⟨(x7_2), (0), (by first | rfl | (simp; done) | (simp [*]; done)), H', ⟨Nat.le_refl _⟩, ⟨by (try simp only [hl7_1]); (try simp only [hl7_2]); (with_reducible repeat (first | apply Kd.S_alloc | apply Kd.S_drewN | apply Kd.S_drew)); exact HO_7.out⟩, ⟨by (try simp only [hl7_1]); (try simp only [hl7_2]); (with_reducible repeat (first | refine blk_drewN ?_ _ | refine blk_drew ?_ | refine blk_alloc ?_ _)); exact BK150.out⟩, ⟨upW HB⟩⟩
          case round =>
           clear H'
           try clear c1
           try clear p1
           try clear q1
           try clear hx1
           try clear c2
           try clear p2
           try clear c3
           try clear c4
           try clear p4
           try clear q4
           try clear hx4
           try clear hf4
           try clear c5
           try clear q5
           try clear c6
           try clear p6
           try clear q6
           try clear c7
           try clear c16
           try clear p16
           try clear q16
           try clear hx16
           try clear c17
           try clear p17
           try clear q17
           try clear hx17
           try clear c21
           try clear c21b0
           try clear c21b0h0
           try clear c21b0h1
           try clear c22
           try clear c23
           try clear c37
           try clear c37b0
           try clear c38
           try clear c39
           try clear c40
           try clear p41
           try clear q41
           try clear hx41
           try clear hf41
           try clear c42
           try clear c42b0
           try clear c43
           try clear c44
           try clear c45
           try clear p46
           try clear q46
           try clear hx46
           try clear hf46
           try clear c47
           try clear p48
           try clear q48
           try clear hx48
           try clear hf48
           try clear c57
           try clear q57
           try clear c61
           try clear q61
           try clear c63
           try clear p64
           try clear c66
           try clear q66
           try clear c69
           try clear c69b0
           try clear c70
           try clear c72
           try clear c74
           try clear c74b0
           try clear hcz64_0
           try clear hcz64_1
           try clear hcz68_0
           try clear hcz68_1
           try clear hcz71_0
           try clear hcz71_1
           try clear hcz73_0
           try clear hcz73_1
           try clear hfz64_0
           try clear hfz64_1
           try clear hfz68_0
           try clear hfz68_1
           try clear hfz71_0
           try clear hfz71_1
           try clear hfz73_0
           try clear hfz73_1
           try clear hx165_0
           try clear hx166_0
           try clear hx170_0
           try clear hx171_0
           try clear hx175_0
           try clear hx176_0
           try clear hx41_0
           try clear hx46_0
           try clear hx48_0
           try clear p165
           try clear p166
           try clear p170
           try clear p171
           try clear p175
           try clear p176
           try clear p41
           try clear p46
           try clear p48
           try clear q165
           try clear q166
           try clear q170
           try clear q171
           try clear q175
           try clear q176
           try clear q41
           try clear q46
           try clear q48
           obtain ⟨x7_3, x99_3, rfl, HA, HK3, HO_7, BK150, HB⟩ := hrel
           have hl7_3 := (Kd.S_reads' HO_7.out).1
           rw [hl7_3] at HO_7
           (try simp only [hl7_3])
           (try simp only [hl7_3] at BK150)
           cases gk with
           | zero => exact absurd HA.out (by simp [spec_neTable.l2])
           | succ k3 =>
            have H := HA.out
            clear HA
            simp only [spec_neTable.l2] at H
            by_cases c75 : x99_3 < (x7_2.length : Int)
            ·rw [if_pos c75] at H
             have c75b0 : decide (x99_3 < (x7_2.length : Int)) = true := decide_eq_true c75
             (try (have c75b0h0 := c75b0; simp only [hl7_1] at c75b0h0))
             (try (have c75b0h1 := c75b0; simp only [hl7_2] at c75b0h1))
             (try (have c75b0h2 := c75b0; simp only [hl7_3] at c75b0h2))
             clear c75
             by_cases c76 : 0 ≤ x99_3
             ·rw [if_pos c76] at H
              have c76b0 : decide (0 ≤ x99_3) = true := decide_eq_true c76
              clear c76
              by_cases c77 : x99_3 < (x7_3.length : Int)
              ·rw [if_pos c77] at H
               have c77b0 : decide (x99_3 < (x7_3.length : Int)) = true := decide_eq_true c77
               (try (have c77b0h0 := c77b0; simp only [hl7_1] at c77b0h0))
               (try (have c77b0h1 := c77b0; simp only [hl7_2] at c77b0h1))
               (try (have c77b0h2 := c77b0; simp only [hl7_3] at c77b0h2))
               clear c77
               by_cases c78 : 0 ≤ a2
               ·rw [if_pos c78] at H
                have c78b0 : decide (0 ≤ a2) = true := decide_eq_true c78
                clear c78
                by_cases c79 : a2 < ((rd_L4 x7_3 x99_3).length : Int)
                ·rw [if_pos c79] at H
                 have c79b0 : decide (a2 < ((rd_L4 x7_3 x99_3).length : Int)) = true := decide_eq_true c79
                 (try (have c79b0h0 := c79b0; simp only [hl7_1] at c79b0h0))
                 (try (have c79b0h1 := c79b0; simp only [hl7_2] at c79b0h1))
                 (try (have c79b0h2 := c79b0; simp only [hl7_3] at c79b0h2))
                 clear c79
                 obtain ⟨y181, hy181⟩ : ∃ y_ : List Int, y_ = ((rd_L4 x7_3 x99_3).set (a2 : Int).toNat 0) := ⟨_, rfl⟩
                 replace H : (spec_neTable.l2 k3 a2 (x7_3.set (x99_3 : Int).toNat y181) (x7_2.length : Int) (wrap64 (x99_3 + 1))) = some r := by first | (rw [hy181]; with_reducible exact H) | (have H2_ := (Option.bind_some _ _).symm.trans H; rw [hy181]; with_reducible exact H2_) | (have H2_ := (Option.bind_some _ _).symm.trans H; with_reducible exact H2_) | with_reducible exact H | (rw [hy181]; exact H) | exact H
                 have Ny181 := Aside0.mk hy181
                 clear hy181
                 obtain ⟨y183, hy183⟩ : ∃ y_ : List (List Int), y_ = (x7_3.set (x99_3 : Int).toNat y181) := ⟨_, rfl⟩
                 replace H : (spec_neTable.l2 k3 a2 y183 (x7_2.length : Int) (wrap64 (x99_3 + 1))) = some r := by first | (rw [hy183]; with_reducible exact H) | (have H2_ := (Option.bind_some _ _).symm.trans H; rw [hy183]; with_reducible exact H2_) | (have H2_ := (Option.bind_some _ _).symm.trans H; with_reducible exact H2_) | with_reducible exact H | (rw [hy183]; exact H) | exact H
                 have Ny183 := Aside0.mk hy183
                 clear hy183
                 have H' := Aside0.mk H
                 clear H
                 have p180 : 0 ≤ (x99_3 : Int) := of_decide_eq_true (by first | (with_reducible assumption) | assumption)
                 have q180 : x99_3 < (x7_3.length : Int) := of_decide_eq_true (by first | (with_reducible assumption) | assumption)
                 obtain ⟨ad180, A180_0, c180_0, e180, hx180_0, hl180_0, hi180_0⟩ := at_L4 (Kd.S_reads' HO_7.out).2.2 x99_3 p180 q180
                 cases e180
                 obtain ⟨ce180, hce180, hMe180, hcc180⟩ := Kd.S_get HO_7.out [] x99_3 p180 (by first | exact q180 | exact of_decide_eq_true (by first | (with_reducible assumption) | assumption) | (have e_ := (Kd.S_reads' HO_7.out).1; omega))
                 obtain ⟨ve180_0, rfl, ge180_0⟩ := hMe180
                 have hv180_0 := hcc180 0 _ rfl
                 rw [Nat.add_zero, show ((Kd.slice 3 (Kd.int .i64))).sz = 1 from rfl, Nat.mul_one] at hv180_0
                 replace hv180_0 := Option.some.inj (hv180_0.symm.trans hx180_0)
                 rw [hv180_0] at ge180_0
                 have HL180_0 := Aside0.mk (show Kd.R (Kd.int .i64) 3 _ _ _ _ (rd_L4 x7_3 x99_3) from ge180_0)
                 clear hv180_0 ge180_0
                 have HX180_0 := Aside0.mk hx180_0
                 clear hcc180 hce180
                 have HR180_0 := Aside0.mk hi180_0
                 have HC180_0 := Aside0.mk hl180_0
                 clear hi180_0 hl180_0
                 replace p180 := eq_true p180
                 replace q180 := eq_true q180
                 have p80 : 0 ≤ (a2 : Int) := of_decide_eq_true (by first | (with_reducible assumption) | assumption)
                 have q80 : (a2 : Int) < (((rd_L4 x7_3 x99_3).length : Int) : Int) := of_decide_eq_true (by first | (with_reducible assumption) | assumption)
                 obtain ⟨go80, co80, eo80, gb80, gl80, cl80, HG80⟩ := Kd.R_form HL180_0.out (by omega)
                 (first | cases eo80 | (injection eo80 with ea_ en_ ec_; (first | subst ea_ | (injection ea_ with ea_; subst ea_)); subst ec_; clear en_))
                 have GB80 := Aside0.mk gb80
                 have GG80 := Aside0.mk HG80
                 clear gb80 gl80 HG80
                 obtain ⟨hx80_0, hf80_0⟩ := Kd.R_celln 0 HL180_0.out (a2 : Int) p80 q80
                 replace p80 := eq_true p80
                 replace q80 := eq_true q80
                 have hq81 : (x99_3 : Int) < (x7_3.length : Int) := (by have h_ : (x99_3 : Int) < ((x7_3.length : Int) : Int) := of_decide_eq_true (by first | (with_reducible assumption) | assumption); first | exact h_ | (have e_ := (Kd.S_reads' HO_7.out).1; omega) | simpa only [List.length_set, List.length_set] using h_)
                 obtain ⟨oki81, ce81, hcl81, hM81, hcc81, hok81, hbk81⟩ := Kd.S_borrow HO_7.out [] (x99_3 : Int) (of_decide_eq_true (by first | (with_reducible assumption) | assumption)) (by first | exact hq81 | (have e_ := (Kd.S_reads' HO_7.out).1; omega))
                 obtain ⟨ve81_0, rfl, ge81_0⟩ := hM81
                 have hv81 := hcc81 0 _ rfl
                 rw [Nat.add_zero, show ((Kd.slice 3 (Kd.int .i64))).sz = 1 from rfl, Nat.mul_one] at hv81
                 replace hv81 := Option.some.inj (hv81.symm.trans HX180_0.out)
                 subst hv81
                 clear hcc81 hcl81
                 replace ge81_0 := (show Kd.R (Kd.int .i64) 3 _ _ _ _ (rd_L4 x7_3 x99_3) from ge81_0)
                 have HP81 := Kd.R_putg ge81_0 (a2 : Int) 0
                 go_wp2_with (first | ((with_reducible refine gate_store (t := 3) (p := 107) rfl ?_); refine store_event (t := 3) (p := 107) (v := ?vo_w82) (w1 := (wr.setCell ⟨go80, (a2 : Int).toNat, none⟩ (.int .i64 0))) ?hg ?ho ?hn ?hr ?_; (case ho => rfl); (case hg => rfl); (case hn => rfl); (case hr => first | (go_simp; done) | (go_simp; rfl)); intro w82 hw; have hg : wr.grownBy w82 (some go80) := (by rw [hw]; exact HP81.2); have hz_ : Kd.R (Kd.int .i64) 3 w82 w.heap.size oki81 (.slice (some ⟨go80, 0, none⟩) (rd_L4 x7_3 x99_3).length c180_0) y181 := (by rw [hw, Ny181.out]; exact HP81.1); have hp_ : Kd.S (Kd.slice 3 (Kd.int .i64)) 36 w82 w.heap.size (fun _ => True) (.slice (some ad180) x7_3.length co9) y183 := (by rw [Ny183.out]; exact hbk81 hg (fun k_ e_ => by injection e_ with e_; subst e_; exact ge81_0.1 _ rfl) (Kd.M_row hz_)); have hm_ := Kd.R_mono hz_ hok81; clear HP81 hbk81; have n0_ := Aside0.mk (hp_); have n1_ := Aside0.mk (blk_grown (upK BK150) hg (Kd.R_ne HL180_0.out BK150.out (by decide))); have n2_ := Aside0.mk ((by rw [hw]; exact below_set (HB.out) GB80.out : Below w.heap.size w w82)); have n3_ := Aside0.mk (hm_); have n4_ := Aside0.mk ((Kd.R_reads' hm_).2.1); clear HO_7; clear BK150; clear HB; clear HL180_0; have HO_7 := n0_; have BK150 := n1_; have HB := n2_; have HL188 := n3_; have HC182 := n4_; clear n0_ n1_ n2_ n3_ n4_; clear hg hw hp_ hz_ hm_ hok81))
                 (try simp only [← hl7_3])
                 go_roundg k3
                 case measure => have := HK1.out; have := HK2.out; have := HK3.out; omega
                 case rel => exact ⟨(y183), (wrap64 (x99_3 + 1)), (by first | rfl | (simp; done) | (simp [*]; done)), H', ⟨by have := HK1.out; have := HK2.out; have := HK3.out; omega⟩, ⟨by (try simp only [hl7_1]); (try simp only [hl7_2]); (try simp only [hl7_3]); (with_reducible repeat (first | apply Kd.S_alloc | apply Kd.S_drewN | apply Kd.S_drew)); exact HO_7.out⟩, ⟨by (try simp only [hl7_1]); (try simp only [hl7_2]); (try simp only [hl7_3]); (with_reducible repeat (first | refine blk_drewN ?_ _ | refine blk_drew ?_ | refine blk_alloc ?_ _)); exact BK150.out⟩, ⟨upW HB⟩⟩
                ·rw [if_neg c79] at H
                 exact absurd H (by simp)
               ·rw [if_neg c78] at H
                exact absurd H (by simp)
              ·rw [if_neg c77] at H
               exact absurd H (by simp)
             ·rw [if_neg c76] at H
              exact absurd H (by simp)
            ·rw [if_neg c75] at H
             have c75b0 : decide (x99_3 < (x7_2.length : Int)) = false := decide_eq_false c75
             (try (have c75b0h0 := c75b0; simp only [hl7_1] at c75b0h0))
             (try (have c75b0h1 := c75b0; simp only [hl7_2] at c75b0h1))
             (try (have c75b0h2 := c75b0; simp only [hl7_3] at c75b0h2))
             clear c75
             by_cases c83 : 0 < (x7_3.length : Int)
             ·rw [if_pos c83] at H
              have c83b0 : decide (0 < (x7_3.length : Int)) = true := decide_eq_true c83
              (try (have c83b0h0 := c83b0; simp only [hl7_1] at c83b0h0))
              (try (have c83b0h1 := c83b0; simp only [hl7_2] at c83b0h1))
              (try (have c83b0h2 := c83b0; simp only [hl7_3] at c83b0h2))
              have c83b1 : decide (0 < x7_3.length) = true := decide_eq_true (by omega)
              (try (have c83b1h0 := c83b1; simp only [hl7_1] at c83b1h0))
              (try (have c83b1h1 := c83b1; simp only [hl7_2] at c83b1h1))
              (try (have c83b1h2 := c83b1; simp only [hl7_3] at c83b1h2))
              clear c83
              by_cases c84 : 0 ≤ a2
              ·rw [if_pos c84] at H
               have c84b0 : decide (0 ≤ a2) = true := decide_eq_true c84
               clear c84
               by_cases c85 : a2 < ((rd_L4 x7_3 0).length : Int)
               ·rw [if_pos c85] at H
                have c85b0 : decide (a2 < ((rd_L4 x7_3 0).length : Int)) = true := decide_eq_true c85
                (try (have c85b0h0 := c85b0; simp only [hl7_1] at c85b0h0))
                (try (have c85b0h1 := c85b0; simp only [hl7_2] at c85b0h1))
                (try (have c85b0h2 := c85b0; simp only [hl7_3] at c85b0h2))
                clear c85
                obtain ⟨y185, hy185⟩ : ∃ y_ : List Int, y_ = ((rd_L4 x7_3 0).set (a2 : Int).toNat 1) := ⟨_, rfl⟩
                replace H : (some (x7_3.set (0 : Int).toNat y185)) = some r := by first | (rw [hy185]; with_reducible exact H) | (have H2_ := (Option.bind_some _ _).symm.trans H; rw [hy185]; with_reducible exact H2_) | (have H2_ := (Option.bind_some _ _).symm.trans H; with_reducible exact H2_) | with_reducible exact H | (rw [hy185]; exact H) | exact H
                have Ny185 := Aside0.mk hy185
                clear hy185
                obtain ⟨y187, hy187⟩ : ∃ y_ : List (List Int), y_ = (x7_3.set (0 : Int).toNat y185) := ⟨_, rfl⟩
                replace H : (some y187) = some r := by first | (rw [hy187]; with_reducible exact H) | (have H2_ := (Option.bind_some _ _).symm.trans H; rw [hy187]; with_reducible exact H2_) | (have H2_ := (Option.bind_some _ _).symm.trans H; with_reducible exact H2_) | with_reducible exact H | (rw [hy187]; exact H) | exact H
                have Ny187 := Aside0.mk hy187
                clear hy187
                obtain rfl := Option.some.inj H
                have p184 : 0 ≤ (0 : Int) := (by omega)
                have q184 : 0 < (x7_3.length : Int) := of_decide_eq_true (by first | (with_reducible assumption) | assumption)
                obtain ⟨ad184, A184_0, c184_0, e184, hx184_0, hl184_0, hi184_0⟩ := at_L4 (Kd.S_reads' HO_7.out).2.2 0 p184 q184
                cases e184
                obtain ⟨ce184, hce184, hMe184, hcc184⟩ := Kd.S_get HO_7.out [] 0 p184 (by first | exact q184 | exact of_decide_eq_true (by first | (with_reducible assumption) | assumption) | (have e_ := (Kd.S_reads' HO_7.out).1; omega))
                obtain ⟨ve184_0, rfl, ge184_0⟩ := hMe184
                have hv184_0 := hcc184 0 _ rfl
                rw [Nat.add_zero, show ((Kd.slice 3 (Kd.int .i64))).sz = 1 from rfl, Nat.mul_one] at hv184_0
                replace hv184_0 := Option.some.inj (hv184_0.symm.trans hx184_0)
                rw [hv184_0] at ge184_0
                have HL184_0 := Aside0.mk (show Kd.R (Kd.int .i64) 3 _ _ _ _ (rd_L4 x7_3 0) from ge184_0)
                clear hv184_0 ge184_0
                have HX184_0 := Aside0.mk hx184_0
                clear hcc184 hce184
                have qi184 : (0 < x7_3.length) = True := eq_true (by omega)
                (try rw [show ((0 : Int)).toNat = 0 from rfl] at hx184_0)
                (try rw [Addr.add_zero'] at hx184_0)
                have HR184_0 := Aside0.mk hi184_0
                have HC184_0 := Aside0.mk hl184_0
                clear hi184_0 hl184_0
                replace p184 := eq_true p184
                replace q184 := eq_true q184
                have p86 : 0 ≤ (a2 : Int) := of_decide_eq_true (by first | (with_reducible assumption) | assumption)
                have q86 : (a2 : Int) < (((rd_L4 x7_3 0).length : Int) : Int) := of_decide_eq_true (by first | (with_reducible assumption) | assumption)
                obtain ⟨go86, co86, eo86, gb86, gl86, cl86, HG86⟩ := Kd.R_form HL184_0.out (by omega)
                (first | cases eo86 | (injection eo86 with ea_ en_ ec_; (first | subst ea_ | (injection ea_ with ea_; subst ea_)); subst ec_; clear en_))
                have GB86 := Aside0.mk gb86
                have GG86 := Aside0.mk HG86
                clear gb86 gl86 HG86
                obtain ⟨hx86_0, hf86_0⟩ := Kd.R_celln 0 HL184_0.out (a2 : Int) p86 q86
                replace p86 := eq_true p86
                replace q86 := eq_true q86
                have hq87 : (0 : Int) < (x7_3.length : Int) := (by have h_ : (0 : Int) < ((x7_3.length : Int) : Int) := of_decide_eq_true (by first | (with_reducible assumption) | assumption); first | exact h_ | (have e_ := (Kd.S_reads' HO_7.out).1; omega) | simpa only [List.length_set, List.length_set] using h_)
                obtain ⟨oki87, ce87, hcl87, hM87, hcc87, hok87, hbk87⟩ := Kd.S_borrow HO_7.out [] (0 : Int) (by omega) (by first | exact hq87 | (have e_ := (Kd.S_reads' HO_7.out).1; omega))
                obtain ⟨ve87_0, rfl, ge87_0⟩ := hM87
                have hv87 := hcc87 0 _ rfl
                rw [Nat.add_zero, show ((Kd.slice 3 (Kd.int .i64))).sz = 1 from rfl, Nat.mul_one] at hv87
                replace hv87 := Option.some.inj (hv87.symm.trans HX184_0.out)
                subst hv87
                clear hcc87 hcl87
                replace ge87_0 := (show Kd.R (Kd.int .i64) 3 _ _ _ _ (rd_L4 x7_3 0) from ge87_0)
                have HP87 := Kd.R_putg ge87_0 (a2 : Int) 1
                go_wp2_with (first | ((with_reducible refine gate_store (t := 3) (p := 113) rfl ?_); refine store_event (t := 3) (p := 113) (v := ?vo_w88) (w1 := (wr.setCell ⟨go86, (a2 : Int).toNat, none⟩ (.int .i64 1))) ?hg ?ho ?hn ?hr ?_; (case ho => rfl); (case hg => rfl); (case hn => rfl); (case hr => first | (go_simp; done) | (go_simp; rfl)); intro w88 hw; have hg : wr.grownBy w88 (some go86) := (by rw [hw]; exact HP87.2); have hz_ : Kd.R (Kd.int .i64) 3 w88 w.heap.size oki87 (.slice (some ⟨go86, 0, none⟩) (rd_L4 x7_3 0).length c184_0) y185 := (by rw [hw, Ny185.out]; exact HP87.1); have hp_ : Kd.S (Kd.slice 3 (Kd.int .i64)) 36 w88 w.heap.size (fun _ => True) (.slice (some ad184) x7_3.length co9) y187 := (by rw [Ny187.out]; exact hbk87 hg (fun k_ e_ => by injection e_ with e_; subst e_; exact ge87_0.1 _ rfl) (Kd.M_row hz_)); have hm_ := Kd.R_mono hz_ hok87; clear HP87 hbk87; have n0_ := Aside0.mk (hp_); have n1_ := Aside0.mk (blk_grown (upK BK150) hg (Kd.R_ne HL184_0.out BK150.out (by decide))); have n2_ := Aside0.mk ((by rw [hw]; exact below_set (HB.out) GB86.out : Below w.heap.size w w88)); have n3_ := Aside0.mk (hm_); have n4_ := Aside0.mk ((Kd.R_reads' hm_).2.1); clear HO_7; clear BK150; clear HB; clear HL184_0; have HO_7 := n0_; have BK150 := n1_; have HB := n2_; have HL189 := n3_; have HC186 := n4_; clear n0_ n1_ n2_ n3_ n4_; clear hg hw hp_ hz_ hm_ hok87))
                go_ret
                exact ⟨_, by first | rfl | (simp [errW_none, errW_some] <;> rfl) | (simp [*, errW_none, errW_some] <;> rfl), by (with_reducible repeat (first | apply Kd.S_alloc | apply Kd.S_drewN | apply Kd.S_drew)); exact HO_7.out, by repeat (first | (with_reducible first | exact HB.out | apply below_alloc | apply pw_below_drewN | apply below_drew1 | refine below_set ?_ GE150.out) | exact HB.out)⟩
               ·rw [if_neg c85] at H
                exact absurd H (by simp)
              ·rw [if_neg c84] at H
               exact absurd H (by simp)
             ·rw [if_neg c83] at H
              exact absurd H (by simp)
         ·rw [if_neg c74] at H
          have c74b0 : decide (0 ≤ a2) = false := decide_eq_false c74
          clear c74
          obtain rfl := Option.some.inj H
          go_wp2
          go_ret
          exact ⟨_, by first | rfl | (simp [errW_none, errW_some] <;> rfl) | (simp [*, errW_none, errW_some] <;> rfl), by (with_reducible repeat (first | apply Kd.S_alloc | apply Kd.S_drewN | apply Kd.S_drew)); exact HO_7.out, by repeat (first | (with_reducible first | exact HB.out | apply below_alloc | apply pw_below_drewN | apply below_drew1 | refine below_set ?_ GE150.out) | exact HB.out)⟩
  ·rw [if_neg c5] at H
   exact absurd H (by simp)
 ·rw [if_neg c4] at H
  exact absurd H (by simp)

end Go.Proofs.Ytngbmjldnfljiaa.PFnExactJoinedTrees
