-- made for this claim by a program of this session
import Derived.Test.YtngbmjldnfljiaaPFnExactLowCutx0
namespace Go.Proofs.Ytngbmjldnfljiaa.PFnExactLowCut
open Go.RowKit Go.Proofs.YtngbmjldnfljiaaW.PrintWords Go.Proofs.YtngbmjldnfljiaaW.PrintLast Go.Proofs.YtngbmjldnfljiaaW.PrintMore
attribute [local go_sem] max2_int min2_int max_two min_two max_three min_three max_four min_four   -- for this text's walks alone
set_option linter.unusedVariables false
set_option linter.unusedSimpArgs false

/-! ### impl_common: function 61 -/
def impl_common.l0 : Nat → Int → Int → Option (Int)
 | 0, _, _ => none
 | k + 1, x0, x1 => if x1 > 0 then (if x1 = 0 then (none) else (impl_common.l0 k x1 (Int.tmod x0 x1))) else (some x0)
def impl_common.f (k : Nat) (a0 : Int) (a1 : Int) : Option (Int) := impl_common.l0 k a0 a1
set_option maxHeartbeats 8000000 in
set_option maxRecDepth 100000 in
theorem impl_common.calls (k : Nat) (a0 : Int) (a1 : Int) (r : Int) (w : World) (h : impl_common.f k a0 a1 = some r) :
  Calls Try.prog 61 #[.int .i64 a0, .int .i64 a1] w fun e w' => e = .returned (.int .i64 r) ∧ Drawn0 w w' := by
 have H : (impl_common.l0 k a0 a1) = some r := h
 clear h
 have H' := Aside0.mk H
 clear H
 go_enter Try.func61, Try.ntmps61
 go_wp2
 repeat (go_quiet (fail); try go_wp2)
 go_loopg [0, 1] k (fun kq v0 v1 w' => ∃ (x0_1 : Int) (x1_1 : Int), v0 = .int .i64 x0_1 ∧ v1 = .int .i64 x1_1 ∧ Aside0 (impl_common.l0 kq x0_1 x1_1 = some r) ∧ Aside0 (kq ≤ k) ∧ Drawn0 w w')
 case atStart => exact ⟨(a0), (a1), (by first | rfl | (simp; done) | (simp [*]; done)), (by first | rfl | (simp; done) | (simp [*]; done)), H', ⟨Nat.le_refl _⟩, by repeat (first | exact Drawn0.refl _ | apply Drawn0.step)⟩
 case round =>
  clear H'
  try clear p2
  obtain ⟨x0_1, x1_1, rfl, rfl, HA, HK1, ⟨m1, rfl⟩⟩ := hrel
  cases gk with
  | zero => exact absurd HA.out (by simp [impl_common.l0])
  | succ k1 =>
   have H := HA.out
   clear HA
   simp only [impl_common.l0] at H
   by_cases c3 : x1_1 > 0
   ·rw [if_pos c3] at H
    have c3b0 : decide (0 < x1_1) = true := decide_eq_true c3
    clear c3
    by_cases c4 : x1_1 = 0
    ·rw [if_pos c4] at H
     exact absurd H (by simp)
    ·rw [if_neg c4] at H
     have c4b0 : (x1_1 == 0) = false := beq_eq_false_iff_ne.mpr c4
     have c4b1 : (x1_1 != 0) = true := bne_iff_ne.mpr c4
     have H' := Aside0.mk H
     clear H
     go_wp2
     repeat (go_quiet (fail); try go_wp2)
     go_roundg k1
     case measure => have := HK1.out; omega
     case rel => exact ⟨(x1_1), (Int.tmod x0_1 x1_1), (by first | rfl | (simp; done) | (simp [*]; done)), (by first | rfl | (simp; done) | (simp [*]; done)), H', ⟨by have := HK1.out; omega⟩, by repeat (first | exact Drawn0.refl _ | apply Drawn0.step)⟩
   ·rw [if_neg c3] at H
    have c3b0 : decide (0 < x1_1) = false := decide_eq_false c3
    clear c3
    obtain rfl := Option.some.inj H
    go_wp2
    repeat (go_quiet (fail); try go_wp2)
    go_ret
    exact ⟨by first | rfl | (simp; done) | (simp [*]; done), by repeat (first | exact Drawn0.refl _ | apply Drawn0.step)⟩

-- left to its pairs: function 116 (impl_Square_116)

-- left to its pairs: function 106 (impl_Cut_changed)

-- NOT PRINTED: function 110 (impl_Cut_low_1)

/-! ### impl_Cut_low_1: function 100002 -/
def impl_Cut_low_1.f (a0_0 : Int) (a0_1 : Int) (a0_2 : Int) (a1_0 : Int) : Option (Int × Int × Int) := if a1_0 = 0 then (none) else (some (wrap64 (Int.tdiv a0_0 a1_0), wrap64 (Int.tdiv a0_1 a1_0), wrap64 (Int.tdiv a0_2 a1_0)))
def impl_Cut_low_1.T1 : Bool × List (List Nat × List Nat) := (true, [([], []), ([0], [0]), ([], []), ([1, 2], [1, 2]), ([], []), ([4], [4]), ([], []), ([5, 6], [5, 6]), ([], []), ([8], [8]), ([], []), ([9, 10], [9, 10]), ([3, 7, 11], [3, 7, 11]), ([12, 0, 1, 2, 3, 4, 5, 6, 7, 8, 9, 10, 11, 12], [12])])
def impl_Cut_low_1.B1 : List Nat := [0, 1, 0, 7, 0, 16, 0, 112, 0, 256, 0, 1792, 4095, 8191]
theorem impl_Cut_low_1.tab1 : rtab .any (opsOf Try.f110 1) = impl_Cut_low_1.T1 := by kernel_rfl
theorem impl_Cut_low_1.bits1 : waitsOk impl_Cut_low_1.T1.2 impl_Cut_low_1.B1 = true := by kernel_rfl
set_option maxHeartbeats 8000000 in
set_option maxRecDepth 100000 in
theorem impl_Cut_low_1.calls (a0_0 : Int) (a0_1 : Int) (a0_2 : Int) (gc1 : Nat) (a1_0 : Int) (r1 : Int) (r2 : Int) (r3 : Int) (w : World) (hb1 : w.heap[gc1]? = some (.cells #[.int .i64 a1_0] 3 (0, 0))) (h : impl_Cut_low_1.f a0_0 a0_1 a0_2 a1_0 = some (r1, r2, r3)) :
  Calls Try.prog 110 #[.agg #[.int .i64 a0_0, .int .i64 a0_1, .int .i64 a0_2], .pointer (some ⟨gc1, 0, none⟩)] w fun e w' => e = .returned (.agg #[.int .i64 r1, .int .i64 r2, .int .i64 r3]) ∧ Below w.heap.size w w' := by
 have hu83 := Try.underlying83
 have BK206 := Aside0.mk hb1
 clear hb1
 have HB := Aside0.mk (Below.refl w.heap.size w)
 have H : (if a1_0 = 0 then (none) else (some (wrap64 (Int.tdiv a0_0 a1_0), wrap64 (Int.tdiv a0_1 a1_0), wrap64 (Int.tdiv a0_2 a1_0)))) = some (r1, r2, r3) := h
 clear h
 by_cases c3 : a1_0 = 0
 ·rw [if_pos c3] at H
  exact absurd H (by simp)
 ·rw [if_neg c3] at H
  have c3b0 : (a1_0 == 0) = false := beq_eq_false_iff_ne.mpr c3
  have c3b1 : (a1_0 != 0) = true := bne_iff_ne.mpr c3
  simp only [Option.some.injEq, Prod.mk.injEq] at H
  obtain ⟨rfl, rfl, rfl⟩ := H
  go_enter Try.func110, Try.ntmps110
  try go_wp2_with (first | ((with_reducible refine gate_dst (N := 2) rfl ?_); refine box_event ?hg (N := 2) ?hd (cs := #[.int .i64 a0_0, .int .i64 a0_1, .int .i64 a0_2]) (t := 83) ?hr ?_; (case hd => rfl); (case hg => rfl); (case hr => first | (go_simp; done) | (go_simp; rfl)); intro gb207 hg w4 hbox hb; have n0_ := Aside0.mk (blk_below (g := gc1) (o := .cells #[.int .i64 a1_0] 3 (0, 0)) (upK BK206) hb); have n1_ := Aside0.mk (below_step (upW HB) hb); have n2_ := Aside0.mk (hbox); have n3_ := Aside0.mk ((by rw [hg]; exact (below_size (upW HB)) : w.heap.size ≤ gb207)); have n4_ := Aside0.mk ((by rw [hg]; exact (below_size (upW HB)) : w.heap.size ≤ gb207)); have n5_ := Aside0.mk ((by rw [hg]; exact Nat.ne_of_lt (blk_lt (g := gc1) (o := .cells #[.int .i64 a1_0] 3 (0, 0)) (upK BK206)) : gc1 ≠ gb207)); have n6_ := Aside0.mk ((by rw [hg]; exact Nat.ne_of_gt (blk_lt (g := gc1) (o := .cells #[.int .i64 a1_0] 3 (0, 0)) (upK BK206)) : gb207 ≠ gc1)); clear BK206; clear HB; have BK206 := n0_; have HB := n1_; have BK207 := n2_; have GW207 := n3_; have GE207 := n4_; have NB206_207 := n5_; have NB207_206 := n6_; clear n0_ n1_ n2_ n3_ n4_ n5_ n6_; clear hb hbox hg) | ((with_reducible refine gate_dst (N := 3) rfl ?_); refine box_event ?hg (N := 3) ?hd (cs := #[.int .i64 0, .int .i64 0, .int .i64 0]) (t := 83) ?hr ?_; (case hd => rfl); (case hg => rfl); (case hr => first | (go_simp; done) | (go_simp; rfl)); intro gb208 hg w5 hbox hb; have n0_ := Aside0.mk (blk_below (g := gc1) (o := .cells #[.int .i64 a1_0] 3 (0, 0)) (upK BK206) hb); have n1_ := Aside0.mk (blk_below (upK BK207) hb); have n2_ := Aside0.mk (below_step (upW HB) hb); have n3_ := Aside0.mk (hbox); have n4_ := Aside0.mk ((by rw [hg]; exact (below_size (upW HB)) : w.heap.size ≤ gb208)); have n5_ := Aside0.mk ((by rw [hg]; exact (below_size (upW HB)) : w.heap.size ≤ gb208)); have n6_ := Aside0.mk ((by rw [hg]; exact Nat.ne_of_lt (blk_lt (g := gc1) (o := .cells #[.int .i64 a1_0] 3 (0, 0)) (upK BK206)) : gc1 ≠ gb208)); have n7_ := Aside0.mk ((by rw [hg]; exact Nat.ne_of_gt (blk_lt (g := gc1) (o := .cells #[.int .i64 a1_0] 3 (0, 0)) (upK BK206)) : gb208 ≠ gc1)); have n8_ := Aside0.mk ((by rw [hg]; exact Nat.ne_of_lt (blk_lt (upK BK207)) : gb207 ≠ gb208)); have n9_ := Aside0.mk ((by rw [hg]; exact Nat.ne_of_gt (blk_lt (upK BK207)) : gb208 ≠ gb207)); clear BK206; clear BK207; clear HB; have BK206 := n0_; have BK207 := n1_; have HB := n2_; have BK208 := n3_; have GW208 := n4_; have GE208 := n5_; have NB206_208 := n6_; have NB208_206 := n7_; have NB207_208 := n8_; have NB208_207 := n9_; clear n0_ n1_ n2_ n3_ n4_ n5_ n6_ n7_ n8_ n9_; clear hb hbox hg))
  have n0_ := Aside0.mk (blk_drew BK206.out)
  have n1_ := Aside0.mk (blk_drew BK207.out)
  have n2_ := Aside0.mk (blk_drew BK208.out)
  have n3_ := Aside0.mk (below_drew1 HB.out)
  clear BK206
  clear BK207
  clear BK208
  clear HB
  have BK206 := n0_
  have BK207 := n1_
  have BK208 := n2_
  have HB := n3_
  clear n0_ n1_ n2_ n3_
  refine start_ (n := 14) (S := fun w' => w'.cell? ⟨gb207, 0, none⟩ = some (.int .i64 a0_0) ∧ w'.cell? ⟨gb207, 1, none⟩ = some (.int .i64 a0_1) ∧ w'.cell? ⟨gb207, 2, none⟩ = some (.int .i64 a0_2) ∧ w'.cell? ⟨gc1, 0, none⟩ = some (.int .i64 a1_0)) (ds := []) #[false, false, false, false, false, false, false, false, false, false, false, false, false, false] (by kernel_rfl) rfl rfl ⟨(blk_cell BK207.out 0).trans rfl, (blk_cell BK207.out 1).trans rfl, (blk_cell BK207.out 2).trans rfl, (blk_cell BK206.out 0).trans rfl⟩ (fun hHeld => ?_); refine with_tabW impl_Cut_low_1.tab1 impl_Cut_low_1.bits1 (fun HT_ HW_ => ?_)
  generalize w5.drew = w6 at BK206 BK207 BK208 HB hHeld ⊢
  refine pure_ (i := 0) (N := some 4) (v := ?_) (a' := ?_) #[true, false, false, false, false, false, false, false, false, false, false, false, false, false] rfl rfl (any_of HT_.out (by kernel_rfl)) (fun _ _ _ h => h) (Or.inl ⟨by rfl, ?_⟩) ?_ ?_
  rotate_left
  ·intro w'
   go_simp
   with_reducible rfl
  rotate_left
  ·simp only [Act.put, List.setIfInBounds_toArray, List.set_cons_zero, List.set_cons_succ, i64_w, i32_w]
   rfl
  refine pure_ (i := 4) (N := some 8) (v := ?_) (a' := ?_) #[true, false, false, false, true, false, false, false, false, false, false, false, false, false] rfl rfl (any_of HT_.out (by kernel_rfl)) (fun _ _ _ h => h) (Or.inl ⟨by rfl, ?_⟩) ?_ ?_
  rotate_left
  ·intro w'
   go_simp
   with_reducible rfl
  rotate_left
  ·simp only [Act.put, List.setIfInBounds_toArray, List.set_cons_zero, List.set_cons_succ, i64_w, i32_w]
   rfl
  refine pure_ (i := 8) (N := some 12) (v := ?_) (a' := ?_) #[true, false, false, false, true, false, false, false, true, false, false, false, false, false] rfl rfl (any_of HT_.out (by kernel_rfl)) (fun _ _ _ h => h) (Or.inl ⟨by rfl, ?_⟩) ?_ ?_
  rotate_left
  ·intro w'
   go_simp
   with_reducible rfl
  rotate_left
  ·simp only [Act.put, List.setIfInBounds_toArray, List.set_cons_zero, List.set_cons_succ, i64_w, i32_w]
   rfl
  refine take_ (i := 1) (N := some 5) (v := ?_) (a' := ?_) #[true, true, false, false, true, false, false, false, true, false, false, false, false, false] rfl rfl (take_ofW HT_.out HW_.out (by kernel_rfl)) (fun _ _ _ h => h) (Or.inl ⟨by rfl, ?_⟩) hHeld ?_ ?_
  rotate_left
  ·rintro w' ⟨s0, s1, s2, s3⟩
   go_simp
   with_reducible rfl
  rotate_left
  ·simp only [Act.put, List.setIfInBounds_toArray, List.set_cons_zero, List.set_cons_succ, i64_w, i32_w]
   rfl
  refine take_ (i := 2) (N := some 6) (v := ?_) (a' := ?_) #[true, true, true, false, true, false, false, false, true, false, false, false, false, false] rfl rfl (take_ofW HT_.out HW_.out (by kernel_rfl)) (fun _ _ _ h => h) (Or.inl ⟨by rfl, ?_⟩) hHeld ?_ ?_
  rotate_left
  ·rintro w' ⟨s0, s1, s2, s3⟩
   go_simp
   with_reducible rfl
  rotate_left
  ·simp only [Act.put, List.setIfInBounds_toArray, List.set_cons_zero, List.set_cons_succ, i64_w, i32_w]
   rfl
  refine pure_ (i := 3) (N := some 7) (v := ?_) (a' := ?_) #[true, true, true, true, true, false, false, false, true, false, false, false, false, false] rfl rfl (any_of HT_.out (by kernel_rfl)) (fun _ _ _ h => h) (Or.inl ⟨by rfl, ?_⟩) ?_ ?_
  rotate_left
  ·intro w'
   go_simp
   with_reducible rfl
  rotate_left
  ·simp only [Act.put, List.setIfInBounds_toArray, List.set_cons_zero, List.set_cons_succ, i64_w, i32_w]
   rfl
  refine take_ (i := 5) (N := some 9) (v := ?_) (a' := ?_) #[true, true, true, true, true, true, false, false, true, false, false, false, false, false] rfl rfl (take_ofW HT_.out HW_.out (by kernel_rfl)) (fun _ _ _ h => h) (Or.inl ⟨by rfl, ?_⟩) hHeld ?_ ?_
  rotate_left
  ·rintro w' ⟨s0, s1, s2, s3⟩
   go_simp
   with_reducible rfl
  rotate_left
  ·simp only [Act.put, List.setIfInBounds_toArray, List.set_cons_zero, List.set_cons_succ, i64_w, i32_w]
   rfl
  refine take_ (i := 6) (N := some 10) (v := ?_) (a' := ?_) #[true, true, true, true, true, true, true, false, true, false, false, false, false, false] rfl rfl (take_ofW HT_.out HW_.out (by kernel_rfl)) (fun _ _ _ h => h) (Or.inl ⟨by rfl, ?_⟩) hHeld ?_ ?_
  rotate_left
  ·rintro w' ⟨s0, s1, s2, s3⟩
   go_simp
   with_reducible rfl
  rotate_left
  ·simp only [Act.put, List.setIfInBounds_toArray, List.set_cons_zero, List.set_cons_succ, i64_w, i32_w]
   rfl
  refine pure_ (i := 7) (N := some 11) (v := ?_) (a' := ?_) #[true, true, true, true, true, true, true, true, true, false, false, false, false, false] rfl rfl (any_of HT_.out (by kernel_rfl)) (fun _ _ _ h => h) (Or.inl ⟨by rfl, ?_⟩) ?_ ?_
  rotate_left
  ·intro w'
   go_simp
   with_reducible rfl
  rotate_left
  ·simp only [Act.put, List.setIfInBounds_toArray, List.set_cons_zero, List.set_cons_succ, i64_w, i32_w]
   rfl
  refine take_ (i := 9) (N := some 13) (v := ?_) (a' := ?_) #[true, true, true, true, true, true, true, true, true, true, false, false, false, false] rfl rfl (take_ofW HT_.out HW_.out (by kernel_rfl)) (fun _ _ _ h => h) (Or.inl ⟨by rfl, ?_⟩) hHeld ?_ ?_
  rotate_left
  ·rintro w' ⟨s0, s1, s2, s3⟩
   go_simp
   with_reducible rfl
  rotate_left
  ·simp only [Act.put, List.setIfInBounds_toArray, List.set_cons_zero, List.set_cons_succ, i64_w, i32_w]
   rfl
  refine take_ (i := 10) (N := some 14) (v := ?_) (a' := ?_) #[true, true, true, true, true, true, true, true, true, true, true, false, false, false] rfl rfl (take_ofW HT_.out HW_.out (by kernel_rfl)) (fun _ _ _ h => h) (Or.inl ⟨by rfl, ?_⟩) hHeld ?_ ?_
  rotate_left
  ·rintro w' ⟨s0, s1, s2, s3⟩
   go_simp
   with_reducible rfl
  rotate_left
  ·simp only [Act.put, List.setIfInBounds_toArray, List.set_cons_zero, List.set_cons_succ, i64_w, i32_w]
   rfl
  refine pure_ (i := 11) (N := some 15) (v := ?_) (a' := ?_) #[true, true, true, true, true, true, true, true, true, true, true, true, false, false] rfl rfl (any_of HT_.out (by kernel_rfl)) (fun _ _ _ h => h) (Or.inl ⟨by rfl, ?_⟩) ?_ ?_
  rotate_left
  ·intro w'
   go_simp
   with_reducible rfl
  rotate_left
  ·simp only [Act.put, List.setIfInBounds_toArray, List.set_cons_zero, List.set_cons_succ, i64_w, i32_w]
   rfl
  refine pure_ (i := 12) (N := some 16) (v := ?_) (a' := ?_) #[true, true, true, true, true, true, true, true, true, true, true, true, true, false] rfl rfl (any_of HT_.out (by kernel_rfl)) (fun _ _ _ h => h) (Or.inl ⟨by rfl, ?_⟩) ?_ ?_
  rotate_left
  ·intro w'
   go_simp
   with_reducible rfl
  rotate_left
  ·simp only [Act.put, List.setIfInBounds_toArray, List.set_cons_zero, List.set_cons_succ, i64_w, i32_w]
   rfl
  refine one_ (i := 13) (N := none) #[true, true, true, true, true, true, true, true, true, true, true, true, true, true] rfl rfl (one_of HT_.out (by kernel_rfl)) (by decide) (fun K hK => ?_)
  have hs7 : w6.cell? ⟨gb208, 0, none⟩ = some (.int .i64 0) := (blk_cell BK208.out 0).trans rfl
  have hfs7 := blk_frozen BK208.out 0
  have hns7_0 := NB206_208.out
  have hns7_1 := NB207_208.out
  have hms7_0 := NB208_206.out
  have hms7_1 := NB208_207.out
  have hs8 : w6.cell? ⟨gb208, 1, none⟩ = some (.int .i64 0) := (blk_cell BK208.out 1).trans rfl
  have hfs8 := blk_frozen BK208.out 1
  have hns8_0 := NB206_208.out
  have hns8_1 := NB207_208.out
  have hms8_0 := NB208_206.out
  have hms8_1 := NB208_207.out
  have hs9 : w6.cell? ⟨gb208, 2, none⟩ = some (.int .i64 0) := (blk_cell BK208.out 2).trans rfl
  have hfs9 := blk_frozen BK208.out 2
  have hns9_0 := NB206_208.out
  have hns9_1 := NB207_208.out
  have hms9_0 := NB208_206.out
  have hms9_1 := NB208_207.out
  refine skip_ (w1 := ?_) (by rfl) rfl ?_ ?_
  rotate_left
  ·go_simp
   rfl
  refine hK.out _ _ ⟨((cell_far (p := ⟨gb208, _, none⟩) NB207_208.out _).trans (((cell_far (p := ⟨gb208, _, none⟩) NB207_208.out _).trans (((cell_far (p := ⟨gb208, _, none⟩) NB207_208.out _).trans (hHeld.1)))))), ((cell_far (p := ⟨gb208, _, none⟩) NB207_208.out _).trans (((cell_far (p := ⟨gb208, _, none⟩) NB207_208.out _).trans (((cell_far (p := ⟨gb208, _, none⟩) NB207_208.out _).trans (hHeld.2.1)))))), ((cell_far (p := ⟨gb208, _, none⟩) NB207_208.out _).trans (((cell_far (p := ⟨gb208, _, none⟩) NB207_208.out _).trans (((cell_far (p := ⟨gb208, _, none⟩) NB207_208.out _).trans (hHeld.2.2.1)))))), ((cell_far (p := ⟨gb208, _, none⟩) NB206_208.out _).trans (((cell_far (p := ⟨gb208, _, none⟩) NB206_208.out _).trans (((cell_far (p := ⟨gb208, _, none⟩) NB206_208.out _).trans (hHeld.2.2.2))))))⟩ (fun hHeld => ?_)
  clear hK K
  refine done_ (done_of HT_.out (by kernel_rfl)) ?_
  try go_wp2
  refine bodyPost_ret (results_cell_row rfl _ _ gb208 83 #[.int .i64 (wrap64 (Int.tdiv a0_0 a1_0)), .int .i64 (wrap64 (Int.tdiv a0_1 a1_0)), .int .i64 (wrap64 (Int.tdiv a0_2 a1_0))] (0, 0) _ rfl (by (with_reducible repeat (first | refine blk_drewN ?_ _ | refine blk_drew ?_ | refine blk_alloc ?_ _)); refine blk_put (cs := #[.int .i64 (wrap64 (Int.tdiv a0_0 a1_0)), .int .i64 (wrap64 (Int.tdiv a0_1 a1_0)), .int .i64 0]) ?_ 2 _ rfl; (with_reducible repeat (first | refine blk_drewN ?_ _ | refine blk_drew ?_ | refine blk_alloc ?_ _)); refine blk_put (cs := #[.int .i64 (wrap64 (Int.tdiv a0_0 a1_0)), .int .i64 0, .int .i64 0]) ?_ 1 _ rfl; (with_reducible repeat (first | refine blk_drewN ?_ _ | refine blk_drew ?_ | refine blk_alloc ?_ _)); refine blk_put (cs := #[.int .i64 0, .int .i64 0, .int .i64 0]) ?_ 0 _ rfl; (with_reducible repeat (first | refine blk_drewN ?_ _ | refine blk_drew ?_ | refine blk_alloc ?_ _)); exact BK208.out) Try.underlying83 rfl (by kernel_rfl)) rfl ?_
  exact ⟨by first | rfl | (simp [errW_none, errW_some] <;> rfl) | (simp [*, errW_none, errW_some] <;> rfl), by repeat (first | (with_reducible first | exact HB.out | apply below_alloc | apply pw_below_drewN | apply below_drew1 | refine below_set ?_ GE206.out | refine below_set ?_ GE207.out | refine below_set ?_ GE208.out) | exact HB.out)⟩

/-! ### a row of the call's own, elements of several cells, written anew by a library function -/
section
variable {α : Type} {d : Kd α} {enc : α → List Value}
theorem rowK_cells {e : TypeId} {w : World} {base : Nat} {ok : Nat → Prop} {g n cap : Nat} {xs : List α} (hop : ∀ {w base ok x cs}, d.M w base ok x cs → cs = enc x)
  (h : d.R e w base ok (.slice (some ⟨g, 0, none⟩) n cap) xs) :
  n = xs.length ∧ base ≤ g ∧ n ≤ cap ∧ cap ≤ maxLen ∧ ∃ cur : Array Value, w.heap[g]? = some (.cells cur e (0, 0)) ∧ cur.size = cap * d.sz ∧ ∀ (j : Nat) (x : α), xs[j]? = some x → (cur.toList.drop (j * d.sz)).take d.sz = enc x := by
 have hn := (Kd.R_reads' h).1
 obtain ⟨_, inner, ho, hr⟩ := h
 rcases ho.2 with ⟨h2, _⟩ | ⟨g2, cap2, cur, h2, hb, hh, hc, hm, hs, ht⟩
 ·cases h2
 ·injection h2 with ha hn2 hc2
  injection ha with ha2
  injection ha2 with hg2
  subst hg2 hc2
  refine ⟨hn, hb, by omega, hm, cur, hh, hs, fun j x hj => ?_⟩
  have hj' : j < xs.length := (List.getElem?_eq_some_iff.1 hj).1
  have hq := hop (hr.2 j x hj)
  rw [← hq, ← ht]
  have hle : j * d.sz + d.sz ≤ n * d.sz := by
   rw [hn, ← Nat.succ_mul]; exact Nat.mul_le_mul_right _ hj'
  rw [hn2] at hle
  rw [← hn2] at hle ⊢
  rw [List.drop_take, List.take_take, Nat.min_eq_left (by omega)]
end
section
variable {α : Type} [Inhabited α] {d : Kd α} {enc : α → List Value}
theorem rowK_holds {e : TypeId} {w : World} {base : Nat} {ok : Nat → Prop} {g n cap : Nat} {xs : List α} (hop : ∀ {w base ok x cs}, d.M w base ok x cs → cs = enc x) (hk : ∀ x, (enc x).length = d.sz)
  (h : d.R e w base ok (.slice (some ⟨g, 0, none⟩) n cap) xs) : Sort.HoldsK enc d.sz w g 0 xs.toArray := by
 obtain ⟨hn, _, hc, _, cur, hh, hs, ht⟩ := rowK_cells (enc := enc) hop h
 intro t htl
 rw [Sort.size_flatK] at htl
 have htl' : t < xs.length * d.sz := by simpa using htl
 have k0 : 0 < d.sz := by
  rcases Nat.eq_zero_or_pos d.sz with h0 | h0
  ·rw [h0] at htl'; simp at htl'
  ·exact h0
 have hj : t / d.sz < xs.length := (Nat.div_lt_iff_lt_mul k0).2 htl'
 have hx := ht (t / d.sz) xs[t / d.sz] (List.getElem?_eq_getElem hj)
 rw [Nat.zero_add, Sort.get_flatK _ _ _ _ htl]
 refine ⟨?_, blk_frozen hh t⟩
 rw [blk_cell hh t, getElem!_pos xs.toArray (t / d.sz) (by simpa using hj)]
 have hm : t % d.sz < d.sz := Nat.mod_lt _ k0
 have he : cur[t]? = (enc xs[t / d.sz])[t % d.sz]? := by
  rw [← hx, List.getElem?_take_of_lt hm, List.getElem?_drop, Array.getElem?_toList, Nat.mul_comm, Nat.div_add_mod]
 rw [he, List.getElem?_eq_getElem (by rw [hk]; exact hm)]
 simp only [List.getElem_toArray]
 rw [getElem!_pos _ _ (by rw [hk]; exact hm)]
 rfl
theorem rowK_heap {w : World} {g m : Nat} {F : Array Value} {os : Array Obj} {e : TypeId} {cur : Array Value} (hh : w.heap[g]? = some (.cells cur e (0, 0))) :
  (∀ k, k < w.heap.size → k ≠ g → (Sort.grow (Sort.putRow id (Sort.ahead w m) g 0 F) os).heap[k]? = w.heap[k]?) ∧ (Sort.grow (Sort.putRow id (Sort.ahead w m) g 0 F) os).heap[g]? = some (.cells (Sort.putCells id 0 F cur) e (0, 0)) ∧ w.heap.size ≤ (Sort.grow (Sort.putRow id (Sort.ahead w m) g 0 F) os).heap.size := by
 have hlt : g < w.heap.size := (Array.getElem?_eq_some_iff.1 hh).1
 have hsz : (Sort.putRow id (Sort.ahead w m) g 0 F).heap.size = w.heap.size := by simp [Sort.putRow, Sort.mapBlock, Sort.ahead]
 refine ⟨fun k hk hne => ?_, ?_, ?_⟩
 ·rw [Sort.heap_grow_old _ _ (by rw [hsz]; exact hk)]
  show (w.heap.modify g _)[k]? = _
  rw [Array.getElem?_modify, if_neg (fun h => hne h.symm)]
 ·rw [Sort.heap_grow_old _ _ (by rw [hsz]; exact hlt)]
  show (w.heap.modify g _)[g]? = _
  rw [Array.getElem?_modify, if_pos rfl, hh]
  rfl
 ·show w.heap.size ≤ (_ ++ os).size
  rw [Array.size_append, hsz]
  exact Nat.le_add_right _ _
theorem rowK_put {e : TypeId} {w w0 : World} {base : Nat} {ok S : Nat → Prop} {g n cap : Nat} {xs : List α} (hop : ∀ {w base ok x cs}, d.M w base ok x cs → cs = enc x) (hmk : ∀ w base ok x, d.M w base ok x (enc x)) (hk : ∀ x, (enc x).length = d.sz)
  (h : d.R e w base ok (.slice (some ⟨g, 0, none⟩) n cap) xs) (d' : Array α) (hd : d'.size = xs.length) (m : Nat) (os : Array Obj) (hb : Below w0.heap.size w0 w) (hg : w0.heap.size ≤ g) (hs : S g) :
  d.R e (sortWorldK enc d.sz w g 0 m d' os) base ok (.slice (some ⟨g, 0, none⟩) n cap) d'.toList ∧ Below w0.heap.size w0 (sortWorldK enc d.sz w g 0 m d' os) ∧ Kept w (sortWorldK enc d.sz w g 0 m d' os) S := by
 obtain ⟨hn, hbase, hc, hm, cur, hh, hsz, ht⟩ := rowK_cells (enc := enc) hop h
 unfold sortWorldK Sort.putRowK
 obtain ⟨a, b, c⟩ := rowK_heap (m := m) (F := Sort.flatK enc d.sz d') (os := os) hh
 refine ⟨⟨h.1, (Sort.putCells id 0 (Sort.flatK enc d.sz d') cur).toList.take (d'.toList.length * d.sz), ⟨?_, .inr ⟨g, cap, _, ?_, hbase, b, ?_, hm, ?_, rfl⟩⟩, ?_, fun j x hj => ?_⟩, ⟨hb.os, hb.tape, hb.output, Nat.le_trans hb.size c, fun k hk2 => ?_⟩, ⟨c, fun k hk2 hS => a k hk2 (fun e => hS (e ▸ hs))⟩⟩
 ·rw [List.length_take, Array.length_toList, Array.length_toList, Sort.putCells, Array.size_mapIdx, hsz]
  exact Nat.min_eq_left (Nat.mul_le_mul_right _ (by omega))
 ·rw [Array.length_toList, hd, hn]
 ·rw [Array.length_toList]; omega
 ·rw [Sort.putCells, Array.size_mapIdx, hsz]
 ·rw [List.length_take, Array.length_toList, Array.length_toList, Sort.putCells, Array.size_mapIdx, hsz]
  exact Nat.min_eq_left (Nat.mul_le_mul_right _ (by omega))
 ·have hj' : j < d'.size := by have := (List.getElem?_eq_some_iff.1 hj).1; rwa [Array.length_toList] at this
  have hx : d'[j]! = x := by
   rw [getElem!_pos d' j hj']
   rw [Array.getElem?_toList, Array.getElem?_eq_getElem hj'] at hj
   exact Option.some.inj hj
  have hle : j * d.sz + d.sz ≤ d'.size * d.sz := by rw [← Nat.succ_mul]; exact Nat.mul_le_mul_right _ hj'
  have hle2 : d'.size * d.sz ≤ cap * d.sz := Nat.mul_le_mul_right _ (by omega)
  have he : (((Sort.putCells id 0 (Sort.flatK enc d.sz d') cur).toList.take (d'.toList.length * d.sz)).drop (j * d.sz)).take d.sz = enc x := by
   apply List.ext_getElem?
   intro i
   by_cases hi : i < d.sz
   ·rw [List.getElem?_take_of_lt hi, List.getElem?_drop, List.getElem?_take_of_lt (by rw [Array.length_toList]; omega), Array.getElem?_toList, Sort.putCells, Array.getElem?_mapIdx, Array.getElem?_eq_getElem (by omega : j * d.sz + i < cur.size), Option.map_some, if_pos (by rw [Sort.size_flatK]; omega), Nat.sub_zero, Sort.get_flatK _ _ _ _ (by omega)]
    have q1 : (j * d.sz + i) / d.sz = j := (Sort.blk_iff d.sz j _ (by omega)).1 ⟨by omega, by omega⟩
    have q2 : (j * d.sz + i) % d.sz = i := by rw [Nat.mod_eq_sub_div_mul, q1]; omega
    rw [q1, q2, hx, getElem!_pos (enc x) i (by rw [hk]; exact hi), List.getElem?_eq_getElem (by rw [hk]; exact hi)]
    rfl
   ·rw [List.getElem?_eq_none (by rw [List.length_take]; omega), List.getElem?_eq_none (by rw [hk]; omega)]
  rw [he]
  exact hmk _ _ _ _
 ·have hk3 : k < w.heap.size := Nat.lt_of_lt_of_le hk2 hb.size
  rw [a k hk3 (by omega)]
  exact hb.block k hk2
end

/-! ### slices_SortFunc_impl_Square_impl_Square__impl_comparePlaces: the pair slices.SortFunc[[]loop.example/g01296/impl.Square,loop.example/g01296/impl.Square] -/
/-! squares whose places are small enough that comparePlaces does not wrap -/
def BdSq (s : S83) : Prop := (-1099511627776 ≤ s.f0 ∧ s.f0 ≤ 1099511627776) ∧ (-1099511627776 ≤ s.f1 ∧ s.f1 ≤ 1099511627776)
instance (s : S83) : Decidable (BdSq s) := by unfold BdSq; infer_instance
abbrev BSq := {s : S83 // BdSq s}
instance : Inhabited BSq := ⟨⟨⟨0, 0, 0⟩, by unfold BdSq; decide⟩⟩
def encSq (s : S83) : List Value := [.int .i64 s.f0, .int .i64 s.f1, .int .i64 s.f2]
instance : Inhabited S83 := ⟨⟨0, 0, 0⟩⟩
def cfSq (a b : BSq) : Int := if a.1.f1 ≠ b.1.f1 then a.1.f1 - b.1.f1 else a.1.f0 - b.1.f0
def placeLt (a b : S83) : Prop := a.f1 < b.f1 ∨ a.f1 = b.f1 ∧ a.f0 < b.f0
instance (a b : S83) : Decidable (placeLt a b) := by unfold placeLt; infer_instance
theorem ltSq (a b : BSq) : ltOf cfSq a b = decide (placeLt a.1 b.1) := by
 unfold ltOf cfSq placeLt
 by_cases h : a.1.f1 = b.1.f1
 ·simp [h]; omega
 ·simp [h]; omega
theorem swoSq : Sort.SWO (ltOf cfSq) where
 irrefl x := by rw [ltSq, decide_eq_false_iff_not]; unfold placeLt; omega
 trans x y z h1 h2 := by rw [ltSq, decide_eq_true_iff] at *; unfold placeLt at *; omega
 ntrans x y z h1 h2 := by rw [ltSq, decide_eq_false_iff_not] at *; unfold placeLt at *; omega
def slices_SortFunc_impl_Square_impl_Square__impl_comparePlaces_lay_ren : Go.Shelf.Ren := ⟨fun | 6 => 116 | 15 => 119 | 14 => 118 | 28 => 129 | 29 => 130 | 20 => 120 | 21 => 122 | 22 => 123 | 23 => 124 | 24 => 125 | 25 => 126 | 26 => 127 | 27 => 128 | 46 => 132 | 47 => 133 | 48 => 134 | 49 => 135 | 50 => 136 | 57 => 138 | n => n, fun | 22 => 46 | 24 => 83 | 25 => 103 | 3 => 3 | 39 => 115 | 0 => 0 | 53 => 124 | 55 => 126 | 4 => 4 | 46 => 118 | 45 => 117 | 50 => 26 | 5 => 5 | 9 => 9 | 66 => 127 | 70 => 131 | 76 => 133 | 77 => 134 | n => n, fun | n => n⟩
theorem slices_SortFunc_impl_Square_impl_Square__impl_comparePlaces_lay : Go.Proofs.SlLaysF0.n6 Try.prog slices_SortFunc_impl_Square_impl_Square__impl_comparePlaces_lay_ren where
 mixed := by kernel_rfl
 f6 := ⟨"slices.SortFunc[[]loop.example/g01296/impl.Square,loop.example/g01296/impl.Square]", by decide, Try.func116.trans (congrArg some (by kernel_rfl))⟩
 f14 := ⟨"slices.pdqsortCmpFunc[loop.example/g01296/impl.Square]", by decide, Try.func118.trans (congrArg some (by kernel_rfl))⟩
 f15 := Try.func119.trans (congrArg some (by kernel_rfl))
 f20 := ⟨"slices.insertionSortCmpFunc[loop.example/g01296/impl.Square]", by decide, Try.func120.trans (congrArg some (by kernel_rfl))⟩
 f21 := ⟨"slices.heapSortCmpFunc[loop.example/g01296/impl.Square]", by decide, Try.func122.trans (congrArg some (by kernel_rfl))⟩
 f22 := ⟨"slices.breakPatternsCmpFunc[loop.example/g01296/impl.Square]", by decide, Try.func123.trans (congrArg some (by kernel_rfl))⟩
 f23 := ⟨"slices.choosePivotCmpFunc[loop.example/g01296/impl.Square]", by decide, Try.func124.trans (congrArg some (by kernel_rfl))⟩
 f24 := ⟨"slices.reverseRangeCmpFunc[loop.example/g01296/impl.Square]", by decide, Try.func125.trans (congrArg some (by kernel_rfl))⟩
 f25 := ⟨"slices.partialInsertionSortCmpFunc[loop.example/g01296/impl.Square]", by decide, Try.func126.trans (congrArg some (by kernel_rfl))⟩
 f26 := ⟨"slices.partitionEqualCmpFunc[loop.example/g01296/impl.Square]", by decide, Try.func127.trans (congrArg some (by kernel_rfl))⟩
 f27 := ⟨"slices.partitionCmpFunc[loop.example/g01296/impl.Square]", by decide, Try.func128.trans (congrArg some (by kernel_rfl))⟩
 f28 := Try.func129.trans (congrArg some (by kernel_rfl))
 f29 := Try.func130.trans (congrArg some (by kernel_rfl))
 f46 := ⟨"slices.siftDownCmpFunc[loop.example/g01296/impl.Square]", by decide, Try.func132.trans (congrArg some (by kernel_rfl))⟩
 f47 := Try.func133.trans (congrArg some (by kernel_rfl))
 f48 := Try.func134.trans (congrArg some (by kernel_rfl))
 f49 := ⟨"slices.medianAdjacentCmpFunc[loop.example/g01296/impl.Square]", by decide, Try.func135.trans (congrArg some (by kernel_rfl))⟩
 f50 := ⟨"slices.medianCmpFunc[loop.example/g01296/impl.Square]", by decide, Try.func136.trans (congrArg some (by kernel_rfl))⟩
 f57 := ⟨"slices.order2CmpFunc[loop.example/g01296/impl.Square]", by decide, Try.func138.trans (congrArg some (by kernel_rfl))⟩
 t0 := Try.underlying0
 a0 := Try.isAgg0
 z0 := Try.sizeOf0
 v0 := Try.zeroValue0
 t3 := Try.underlying3
 a3 := Try.isAgg3
 z3 := Try.sizeOf3
 v3 := Try.zeroValue3
 t4 := Try.underlying4
 a4 := Try.isAgg4
 z4 := Try.sizeOf4
 v4 := Try.zeroValue4
 t5 := Try.underlying5
 a5 := Try.isAgg5
 z5 := Try.sizeOf5
 v5 := Try.zeroValue5
 t9 := Try.underlying9
 a9 := Try.isAgg9
 z9 := Try.sizeOf9
 v9 := Try.zeroValue9
 t22 := Try.underlying46
 a22 := Try.isAgg46
 z22 := Try.sizeOf46
 v22 := Try.zeroValue46
 t25 := Try.underlying103
 a25 := Try.isAgg103
 z25 := Try.sizeOf103
 v25 := Try.zeroValue103
 t39 := Try.underlying115
 a39 := Try.isAgg115
 z39 := Try.sizeOf115
 v39 := Try.zeroValue115
 t45 := Try.underlying117
 a45 := Try.isAgg117
 z45 := Try.sizeOf117
 v45 := Try.zeroValue117
 t46 := Try.underlying118
 a46 := Try.isAgg118
 z46 := Try.sizeOf118
 v46 := Try.zeroValue118
 t50 := Try.underlying26
 a50 := Try.isAgg26
 z50 := Try.sizeOf26
 v50 := Try.zeroValue26
 t53 := Try.underlying124
 a53 := Try.isAgg124
 z53 := Try.sizeOf124
 v53 := Try.zeroValue124
 t55 := Try.underlying126
 a55 := Try.isAgg126
 z55 := Try.sizeOf126
 v55 := Try.zeroValue126
 t66 := Try.underlying127
 a66 := Try.isAgg127
 z66 := Try.sizeOf127
 v66 := Try.zeroValue127
 t70 := Try.underlying131
 a70 := Try.isAgg131
 z70 := Try.sizeOf131
 v70 := Try.zeroValue131
 t76 := Try.underlying133
 a76 := Try.isAgg133
 z76 := Try.sizeOf133
 v76 := Try.zeroValue133
 t77 := Try.underlying134
 a77 := Try.isAgg134
 z77 := Try.sizeOf134
 v77 := Try.zeroValue134
def bsqOf (l : List S83) (h : ∀ s ∈ l, BdSq s) : Array BSq := (l.attach.map fun s => (⟨s.1, h s.1 s.2⟩ : BSq)).toArray
def slices_SortFunc_impl_Square_impl_Square__impl_comparePlaces.f (l : List S83) : Option (List S83) :=
 if h : (∀ s ∈ l, BdSq s) ∧ l.length ≤ 1000000 then some ((Sort.pdq (ltOf cfSq) (bsqOf l h.1) 0 l.length (Lib.bitLen l.length) true true).toList.map (·.1)) else none
set_option maxHeartbeats 8000000 in
theorem cmpSq (x y : BSq) (W : World) : Calls Try.prog 102 #[.agg #[.int .i64 x.1.f0, .int .i64 x.1.f1, .int .i64 x.1.f2], .agg #[.int .i64 y.1.f0, .int .i64 y.1.f1, .int .i64 y.1.f2]] W fun e w' => e = .returned (.int .i64 (cfSq x y)) ∧ ∃ q os', w' = Sort.grow (W.drewN q) os' := by
 obtain ⟨⟨x0, x1, x2⟩, bx⟩ := x
 obtain ⟨⟨y0, y1, y2⟩, bY⟩ := y
 have bx' := bx
 have bY' := bY
 unfold BdSq at bx' bY'
 dsimp only at bx' bY' ⊢
 have e1 : wrap64 (x1 - y1) = x1 - y1 := by unfold wrap64; omega
 have e0 : wrap64 (x0 - y0) = x0 - y0 := by unfold wrap64; omega
 clear bx' bY'
 by_cases hc : x1 = y1
 ·have hv : cfSq ⟨⟨x0, x1, x2⟩, bx⟩ ⟨⟨y0, y1, y2⟩, bY⟩ = wrap64 (x0 - y0) := by rw [e0]; unfold cfSq; simp [hc]
  rw [hv]
  clear hv e1 e0
  have c1 : (x1 != y1) = false := by simp [hc]
  have c2 : (x1 == y1) = true := by simp [hc]
  clear hc bx bY
  go_enter Try.func102, Try.ntmps102
  go_wp2
  go_ret
  exact ⟨rfl, 0, _, by rw [Sort.alloc_eq_grow, Sort.alloc_eq_grow, Sort.grow_grow]; rfl⟩
 ·have hv : cfSq ⟨⟨x0, x1, x2⟩, bx⟩ ⟨⟨y0, y1, y2⟩, bY⟩ = wrap64 (x1 - y1) := by rw [e1]; unfold cfSq; simp [hc]
  rw [hv]
  clear hv e1 e0
  have c1 : (x1 != y1) = true := by simp [hc]
  have c2 : (x1 == y1) = false := by simp [hc]
  clear hc bx bY
  go_enter Try.func102, Try.ntmps102
  go_wp2
  go_ret
  exact ⟨rfl, 0, _, by rw [Sort.alloc_eq_grow, Sort.alloc_eq_grow, Sort.grow_grow]; rfl⟩
theorem flat_val (d : Array BSq) : Sort.flatK (fun s : BSq => encSq s.1) 3 d = Sort.flatK encSq 3 (d.map (·.1)) := by
 refine Sort.ext_get! (by simp) fun t ht => ?_
 have ht' : t < d.size * 3 := by simpa using ht
 have hq : t / 3 < d.size := by omega
 rw [Sort.get_flatK _ _ _ _ ht', Sort.get_flatK _ _ _ _ (by simpa using ht'), getElem!_pos d (t / 3) hq, getElem!_pos (d.map (·.1)) (t / 3) (by simpa using hq)]
 simp
set_option maxHeartbeats 8000000 in
theorem slices_SortFunc_impl_Square_impl_Square__impl_comparePlaces.calls (P0_ : Nat → Prop) (u9000_ : Value) (l0 : List S83) (r : List S83) (w0 w : World) (hB : Below w0.heap.size w0 w) (ho0 : Kd.R k83 83 w w0.heap.size P0_ u9000_ l0) (h : slices_SortFunc_impl_Square_impl_Square__impl_comparePlaces.f l0 = some r) :
  Calls Try.prog 116 #[u9000_, .func (.func 102) #[] #[]] w fun e w' => e = .returned (.tuple #[]) ∧ Kd.R k83 83 w' w0.heap.size (fun k_ => (P0_ k_ ∨ w.heap.size ≤ k_)) u9000_ r ∧ Below w0.heap.size w0 w' ∧ Kept w w' (fun k_ => P0_ k_) := by
 unfold slices_SortFunc_impl_Square_impl_Square__impl_comparePlaces.f at h
 by_cases hbd0 : (∀ s ∈ l0, BdSq s) ∧ l0.length ≤ 1000000
 ·rw [dif_pos hbd0] at h
  obtain ⟨hbd, hlen⟩ := hbd0
  have h' := (Option.some.inj h).symm
  clear h
  have ho1 : Kd.R k83 83 w w0.heap.size (fun k_ => (P0_ k_ ∨ w.heap.size ≤ k_)) u9000_ l0 := Kd.R_mono ho0 (fun _ hk => .inl hk)
  by_cases hl : l0 = []
  ·subst hl
   have hr : r = [] := by
    rw [h']
    have hs : (bsqOf [] hbd).size = 0 := by simp [bsqOf]
    have hp := (Sort.pdq_sorts (ltOf cfSq) swoSq (bsqOf [] hbd) 0 0 (Lib.bitLen 0) true true (Nat.le_refl _) (by omega) (Or.inl rfl)).1.1
    rw [hs] at hp
    have he := Array.eq_empty_of_size_eq_zero hp
    show List.map _ (Sort.pdq (ltOf cfSq) (bsqOf [] hbd) 0 0 (Lib.bitLen 0) true true).toList = []
    rw [he]; rfl
   subst hr
   obtain ⟨A, c, rfl⟩ := Kd.R_slice ho0
   refine (AnyF.slices_SortFunc_none slices_SortFunc_impl_Square_impl_Square__impl_comparePlaces_lay A c (.func (.func 102) #[] #[]) w).mono ?_
   rintro e w' ⟨rfl, rfl⟩
   exact ⟨rfl, ho1, hB, Kept.refl _ _⟩
  ·have hp : 0 < l0.length := List.length_pos_iff.2 hl
   obtain ⟨g, cap, rfl, hbase, hlt, cells, hcells⟩ := Kd.R_form ho0 hp
   have hbig : l0.length < 4611686018427387904 := by omega
   have hH := rowK_holds (enc := encSq) (fun h => k83_openM h) (fun _ => rfl) ho0
   have hd : (bsqOf l0 hbd).map (·.1) = l0.toArray := by simp [bsqOf]
   have hH2 : Sort.HoldsK (fun s : BSq => encSq s.1) 3 w g 0 (bsqOf l0 hbd) := by
    unfold Sort.HoldsK
    rw [flat_val, hd]
    exact hH
   have hs : (bsqOf l0 hbd).size = l0.length := by simp [bsqOf]
   have eg : ∀ args w, (callFunc 102 args).run Try.prog w = .ok (.enter 102 args) w := enters_of Try.func102 (by kernel_rfl) rfl
   have hcon := AnyQ.slices_SortFunc_eq slices_SortFunc_impl_Square_impl_Square__impl_comparePlaces_lay 3 Try.isAgg83 Try.sizeOf83 (fun s : BSq => encSq s.1) (fun _ => rfl) (fun x v hv => by simp [encSq] at hv; rcases hv with rfl | rfl | rfl <;> rfl) cfSq swoSq 102 #[] g 0 cap (bsqOf l0 hbd) w eg (fun _ _ _ _ x y => cmpSq x y _) hH2 hlt (by rw [hs]; exact hbig)
   rw [hs] at hcon
   refine hcon.mono ?_
   rintro e w' ⟨rfl, q, os, rfl⟩
   have hps := (Sort.pdq_sorts (ltOf cfSq) swoSq (bsqOf l0 hbd) 0 l0.length (Lib.bitLen l0.length) true true (Nat.zero_le _) (by omega) (Or.inl rfl)).1.1
   generalize Sort.pdq (ltOf cfSq) (bsqOf l0 hbd) 0 l0.length (Lib.bitLen l0.length) true true = dd at h' hps ⊢
   have hw : sortWorldK (fun s : BSq => encSq s.1) 3 w g 0 q dd os = sortWorldK encSq 3 w g 0 q (dd.map (·.1)) os := by
    unfold sortWorldK Sort.putRowK
    rw [flat_val]
   have hput := rowK_put (enc := encSq) (S := fun k_ => P0_ k_) (fun h => k83_openM h) (fun _ _ _ x => k83_mkM _ _ _ x) (fun _ => rfl) ho1 (dd.map (·.1)) (by rw [Array.size_map, hps, hs]) q os hB hbase (ho0.1 g rfl)
   have hr : (dd.map (·.1)).toList = r := by rw [h', Array.toList_map]
   rw [hr] at hput
   rw [hw]
   exact ⟨rfl, hput⟩
 ·rw [dif_neg hbd0] at h
  exact absurd h (by simp)

/-! ### impl_Cut_changed__impl_Cut_low_1: function 100001 -/
def impl_Cut_changed__impl_Cut_low_1.l0 : Nat → List (S83) → Int → Int → Int → Int → Int → List (S83) → Option (Int × Int × (List (S83)))
 | 0, _, _, _, _, _, _, _ => none
 | k + 1, x16, x17, x18, x210000, x213000, x213001, x213002 => if x18 < x17 then (if 0 ≤ x18 then (if x18 < (x16.length : Int) then ((impl_Cut_low_1.f ((rd_T83 x16 x18).f0) ((rd_T83 x16 x18).f1) ((rd_T83 x16 x18).f2) x210000).bind fun bt215 => (if x213002.length < 5864062014805 then (impl_Cut_changed__impl_Cut_low_1.l0 k x16 x17 (wrap64 (x18 + 1)) x210000 x213000 x213001 (x213002 ++ [(⟨bt215.1, bt215.2.1, bt215.2.2⟩ : S83)])) else (none))) else (none)) else (none)) else ((slices_SortFunc_impl_Square_impl_Square__impl_comparePlaces.f x213002).bind fun t221 => (some (x213000, x213001, t221)))
def impl_Cut_changed__impl_Cut_low_1.f (k : Nat) (a0_0 : Int) (a0_1 : Int) (l0_2 : List (S83)) (a1 : Int) (a2 : Int) (a3_0_0 : Int) : Option (Int × Int × (List (S83))) := impl_Cut_changed__impl_Cut_low_1.l0 k l0_2 (l0_2.length : Int) 0 a3_0_0 a1 a2 ([] : List (S83))
def impl_Cut_changed__impl_Cut_low_1.T5 : Bool × List (List Nat × List Nat) := (true, [([], []), ([0], [0]), ([], []), ([], []), ([2, 3], [2, 3]), ([4], [4]), ([1, 5, 4], [1, 5]), ([0, 1, 2, 3, 4, 5, 6], []), ([7, 6, 6, 0, 1, 2, 3, 4, 5, 6], [6, 7])])
def impl_Cut_changed__impl_Cut_low_1.B5 : List Nat := [0, 1, 0, 0, 12, 28, 63, 127, 255]
theorem impl_Cut_changed__impl_Cut_low_1.tab5 : rtab .any (opsOf Try.f106 5) = impl_Cut_changed__impl_Cut_low_1.T5 := by kernel_rfl
theorem impl_Cut_changed__impl_Cut_low_1.bits5 : waitsOk impl_Cut_changed__impl_Cut_low_1.T5.2 impl_Cut_changed__impl_Cut_low_1.B5 = true := by kernel_rfl
set_option maxHeartbeats 8000000 in
set_option maxRecDepth 100000 in
theorem impl_Cut_changed__impl_Cut_low_1.calls (k : Nat) (a0_0 : Int) (a0_1 : Int) (A0_2 : Option Addr) (c0_2 : Nat) (l0_2 : List (S83)) (a1 : Int) (a2 : Int) (gc3_0 : Nat) (a3_0_0 : Int) (r1 : Int) (r2 : Int) (r3 : List (S83)) (w : World) (hr0_2 : Kd.C k83 w A0_2 l0_2.length l0_2) (hc0_2 : l0_2.length ≤ c0_2) (hb3_0 : w.heap[gc3_0]? = some (.cells #[.int .i64 a3_0_0] 3 (0, 0))) (h : impl_Cut_changed__impl_Cut_low_1.f k a0_0 a0_1 l0_2 a1 a2 a3_0_0 = some (r1, r2, r3)) :
  Calls Try.prog 106 #[.agg #[.int .i64 a0_0, .int .i64 a0_1, .slice A0_2 l0_2.length c0_2], .int .i64 a1, .int .i64 a2, .func (.func 110) #[] #[.pointer (some ⟨gc3_0, 0, none⟩)]] w fun e w' => ∃ v2_ : Value, e = .returned (.agg #[.int .i64 r1, .int .i64 r2, v2_]) ∧ Kd.R k83 83 w' w.heap.size (fun _ => True) v2_ r3 ∧ Below w.heap.size w w' := by
 have hu48 := Try.underlying48
 have hu83 := Try.underlying83
 have HR0_2 := Aside0.mk hr0_2
 have HC0_2 := Aside0.mk hc0_2
 clear hr0_2 hc0_2
 have BK209 := Aside0.mk hb3_0
 clear hb3_0
 have HB := Aside0.mk (Below.refl w.heap.size w)
 have H : (impl_Cut_changed__impl_Cut_low_1.l0 k l0_2 (l0_2.length : Int) 0 a3_0_0 a1 a2 ([] : List (S83))) = some (r1, r2, r3) := h
 clear h
 have H' := Aside0.mk H
 clear H
 go_enter Try.func106, Try.ntmps106
 go_wp2_with (first | ((with_reducible refine gate_dst (N := 4) rfl ?_); refine box_event ?hg (N := 4) ?hd (cs := #[.int .i64 a0_0, .int .i64 a0_1, .slice A0_2 l0_2.length c0_2]) (t := 48) ?hr ?_; (case hd => rfl); (case hg => rfl); (case hr => first | (go_simp; done) | (go_simp; rfl)); intro gb210 hg w5 hbox hb; have n0_ := Aside0.mk (blk_below (g := gc3_0) (o := .cells #[.int .i64 a3_0_0] 3 (0, 0)) (upK BK209) hb); have n1_ := Aside0.mk (below_step (upW HB) hb); have n2_ := Aside0.mk (hbox); have n3_ := Aside0.mk ((by rw [hg]; exact (below_size (upW HB)) : w.heap.size ≤ gb210)); have n4_ := Aside0.mk ((by rw [hg]; exact (below_size (upW HB)) : w.heap.size ≤ gb210)); have n5_ := Aside0.mk ((by rw [hg]; exact Nat.ne_of_lt (blk_lt (g := gc3_0) (o := .cells #[.int .i64 a3_0_0] 3 (0, 0)) (upK BK209)) : gc3_0 ≠ gb210)); have n6_ := Aside0.mk ((by rw [hg]; exact Nat.ne_of_gt (blk_lt (g := gc3_0) (o := .cells #[.int .i64 a3_0_0] 3 (0, 0)) (upK BK209)) : gb210 ≠ gc3_0)); clear BK209; clear HB; have BK209 := n0_; have HB := n1_; have BK210 := n2_; have GW210 := n3_; have GE210 := n4_; have NB209_210 := n5_; have NB210_209 := n6_; clear n0_ n1_ n2_ n3_ n4_ n5_ n6_; clear hb hbox hg) | ((with_reducible refine gate_dst (N := 8) rfl ?_); refine box_event ?hg (N := 8) ?hd (cs := #[.int .i64 0, .int .i64 0, .slice none 0 0]) (t := 48) ?hr ?_; (case hd => rfl); (case hg => rfl); (case hr => first | (go_simp; done) | (go_simp; rfl)); intro gb211 hg w6 hbox hb; have n0_ := Aside0.mk (blk_below (g := gc3_0) (o := .cells #[.int .i64 a3_0_0] 3 (0, 0)) (upK BK209) hb); have n1_ := Aside0.mk (blk_below (upK BK210) hb); have n2_ := Aside0.mk (below_step (upW HB) hb); have n3_ := Aside0.mk (hbox); have n4_ := Aside0.mk ((by rw [hg]; exact (below_size (upW HB)) : w.heap.size ≤ gb211)); have n5_ := Aside0.mk ((by rw [hg]; exact (below_size (upW HB)) : w.heap.size ≤ gb211)); have n6_ := Aside0.mk ((by rw [hg]; exact Nat.ne_of_lt (blk_lt (g := gc3_0) (o := .cells #[.int .i64 a3_0_0] 3 (0, 0)) (upK BK209)) : gc3_0 ≠ gb211)); have n7_ := Aside0.mk ((by rw [hg]; exact Nat.ne_of_gt (blk_lt (g := gc3_0) (o := .cells #[.int .i64 a3_0_0] 3 (0, 0)) (upK BK209)) : gb211 ≠ gc3_0)); have n8_ := Aside0.mk ((by rw [hg]; exact Nat.ne_of_lt (blk_lt (upK BK210)) : gb210 ≠ gb211)); have n9_ := Aside0.mk ((by rw [hg]; exact Nat.ne_of_gt (blk_lt (upK BK210)) : gb211 ≠ gb210)); clear BK209; clear BK210; clear HB; have BK209 := n0_; have BK210 := n1_; have HB := n2_; have BK211 := n3_; have GW211 := n4_; have GE211 := n5_; have NB209_211 := n6_; have NB211_209 := n7_; have NB210_211 := n8_; have NB211_210 := n9_; clear n0_ n1_ n2_ n3_ n4_ n5_ n6_ n7_ n8_ n9_; clear hb hbox hg) | ((with_reducible refine gate_dst (N := 9) rfl ?_); refine box_event ?hg (N := 9) ?hd (cs := #[.int .i64 0, .int .i64 0, .slice none 0 0]) (t := 48) ?hr ?_; (case hd => rfl); (case hg => rfl); (case hr => first | (go_simp; done) | (go_simp; rfl)); intro gb212 hg w7 hbox hb; have n0_ := Aside0.mk (blk_below (g := gc3_0) (o := .cells #[.int .i64 a3_0_0] 3 (0, 0)) (upK BK209) hb); have n1_ := Aside0.mk (blk_below (upK BK210) hb); have n2_ := Aside0.mk (blk_below (upK BK211) hb); have n3_ := Aside0.mk (below_step (upW HB) hb); have n4_ := Aside0.mk (hbox); have n5_ := Aside0.mk ((by rw [hg]; exact (below_size (upW HB)) : w.heap.size ≤ gb212)); have n6_ := Aside0.mk ((by rw [hg]; exact (below_size (upW HB)) : w.heap.size ≤ gb212)); have n7_ := Aside0.mk ((by rw [hg]; exact Nat.ne_of_lt (blk_lt (g := gc3_0) (o := .cells #[.int .i64 a3_0_0] 3 (0, 0)) (upK BK209)) : gc3_0 ≠ gb212)); have n8_ := Aside0.mk ((by rw [hg]; exact Nat.ne_of_gt (blk_lt (g := gc3_0) (o := .cells #[.int .i64 a3_0_0] 3 (0, 0)) (upK BK209)) : gb212 ≠ gc3_0)); have n9_ := Aside0.mk ((by rw [hg]; exact Nat.ne_of_lt (blk_lt (upK BK210)) : gb210 ≠ gb212)); have n10_ := Aside0.mk ((by rw [hg]; exact Nat.ne_of_gt (blk_lt (upK BK210)) : gb212 ≠ gb210)); have n11_ := Aside0.mk ((by rw [hg]; exact Nat.ne_of_lt (blk_lt (upK BK211)) : gb211 ≠ gb212)); have n12_ := Aside0.mk ((by rw [hg]; exact Nat.ne_of_gt (blk_lt (upK BK211)) : gb212 ≠ gb211)); clear BK209; clear BK210; clear BK211; clear HB; have BK209 := n0_; have BK210 := n1_; have BK211 := n2_; have HB := n3_; have BK212 := n4_; have GW212 := n5_; have GE212 := n6_; have NB209_212 := n7_; have NB212_209 := n8_; have NB210_212 := n9_; have NB212_210 := n10_; have NB211_212 := n11_; have NB212_211 := n12_; clear n0_ n1_ n2_ n3_ n4_ n5_ n6_ n7_ n8_ n9_ n10_ n11_ n12_; clear hb hbox hg; have hnb8 := NB212_209.out; have hnc8 := NB209_212.out; have hnb9 := NB212_210.out; have hnc9 := NB210_212.out; have hnb10 := NB212_211.out; have hnc10 := NB211_212.out; have hcz11_0 : w7.cell? ⟨gb212, 0, none⟩ = some (.int .i64 0) := (blk_cell BK212.out 0).trans rfl; have hcz11_1 : w7.cell? ⟨gb212, 1, none⟩ = some (.int .i64 0) := (blk_cell BK212.out 1).trans rfl; have hcz11_2 : w7.cell? ⟨gb212, 2, none⟩ = some (.slice none 0 0) := (blk_cell BK212.out 2).trans rfl; have hfz11_0 := blk_frozen BK212.out 0; have hfz11_1 := blk_frozen BK212.out 1; have hfz11_2 := blk_frozen BK212.out 2; have hnb12 := NB210_209.out; have hnc12 := NB209_210.out; have hnb13 := NB210_211.out; have hnc13 := NB211_210.out; have hcz14_0 : w7.cell? ⟨gb210, 0, none⟩ = some (.int .i64 a0_0) := (blk_cell BK210.out 0).trans rfl; have hcz14_1 : w7.cell? ⟨gb210, 1, none⟩ = some (.int .i64 a0_1) := (blk_cell BK210.out 1).trans rfl; have hcz14_2 : w7.cell? ⟨gb210, 2, none⟩ = some (.slice A0_2 l0_2.length c0_2) := (blk_cell BK210.out 2).trans rfl; have hfz14_0 := blk_frozen BK210.out 0; have hfz14_1 := blk_frozen BK210.out 1; have hfz14_2 := blk_frozen BK210.out 2))
 go_loopg [18] k (fun kq v18 w' => ∃ (x18_1 : Int) (x213002_1 : List (S83)) (u213002 : Value), v18 = .int .i64 x18_1 ∧ Aside0 (impl_Cut_changed__impl_Cut_low_1.l0 kq l0_2 (l0_2.length : Int) x18_1 a3_0_0 a1 a2 x213002_1 = some (r1, r2, r3)) ∧ Aside0 (kq ≤ k) ∧ Aside0 (Kd.R k83 83 w' w.heap.size (fun _ => True) u213002 x213002_1) ∧ Aside0 (w'.heap[gc3_0]? = some (.cells #[.int .i64 a3_0_0] 3 (0, 0))) ∧ Aside0 (w'.heap[gb210]? = some (.cells #[.int .i64 a0_0, .int .i64 a0_1, (.slice A0_2 l0_2.length c0_2)] 48 (0, 0))) ∧ Aside0 (w'.heap[gb211]? = some (.cells #[.int .i64 0, .int .i64 0, (.slice none 0 0)] 48 (0, 0))) ∧ Aside0 (w'.heap[gb212]? = some (.cells #[.int .i64 a1, .int .i64 a2, u213002] 48 (0, 0))) ∧ Aside0 (Below w.heap.size w w'))
 case atStart => exact ⟨(0), (([] : List (S83))), (.slice none 0 0), (by first | rfl | (simp; done) | (simp [*]; done)), H', ⟨Nat.le_refl _⟩, ⟨by first | exact Kd.R_nil _ _ _ _ _ | exact Kd.N_nil _ _ _ _ _ | exact Kd.V_nil _ _ _ _ _ | exact Kd.Q_nil _ _ _ _ _ | exact Kd.S_nil _ _ _ _ _⟩, ⟨upF BK209⟩, ⟨upF BK210⟩, ⟨upF BK211⟩, ⟨by (with_reducible repeat (first | refine blk_drewN ?_ _ | refine blk_drew ?_ | refine blk_alloc ?_ _)); refine blk_put (cs := #[.int .i64 a1, .int .i64 a2, .slice none 0 0]) ?_ 2 _ rfl; (with_reducible repeat (first | refine blk_drewN ?_ _ | refine blk_drew ?_ | refine blk_alloc ?_ _)); refine blk_put (cs := #[.int .i64 a1, .int .i64 0, .slice none 0 0]) ?_ 1 _ rfl; (with_reducible repeat (first | refine blk_drewN ?_ _ | refine blk_drew ?_ | refine blk_alloc ?_ _)); refine blk_put (cs := #[.int .i64 0, .int .i64 0, .slice none 0 0]) ?_ 0 _ rfl; (with_reducible repeat (first | refine blk_drewN ?_ _ | refine blk_drew ?_ | refine blk_alloc ?_ _)); exact BK212.out⟩, ⟨upW HB⟩⟩
 case round =>
  clear H'
  try clear c1
  try clear p2
  try clear c3
  try clear c8
  try clear c9
  try clear c10
  try clear c12
  try clear c13
  try clear hcz11_0
  try clear hcz11_1
  try clear hcz11_2
  try clear hcz14_0
  try clear hcz14_1
  try clear hcz14_2
  try clear hfz11_0
  try clear hfz11_1
  try clear hfz11_2
  try clear hfz14_0
  try clear hfz14_1
  try clear hfz14_2
  obtain ⟨x18_1, x213002_1, u213002, rfl, HA, HK1, HO_213002, BK209, BK210, BK211, BK212, HB⟩ := hrel
  cases gk with
  | zero => exact absurd HA.out (by simp [impl_Cut_changed__impl_Cut_low_1.l0])
  | succ k1 =>
   have H := HA.out
   clear HA
   simp only [impl_Cut_changed__impl_Cut_low_1.l0] at H
   by_cases c15 : x18_1 < (l0_2.length : Int)
   ·rw [if_pos c15] at H
    have c15b0 : decide (x18_1 < (l0_2.length : Int)) = true := decide_eq_true c15
    clear c15
    by_cases c16 : 0 ≤ x18_1
    ·rw [if_pos c16] at H
     have c16b0 : decide (0 ≤ x18_1) = true := decide_eq_true c16
     clear c16
     by_cases c17 : x18_1 < (l0_2.length : Int)
     ·rw [if_pos c17] at H
      have c17b0 : decide (x18_1 < (l0_2.length : Int)) = true := decide_eq_true c17
      clear c17
      replace H := Option.bind_eq_some_iff.mp H
      obtain ⟨⟨t215, t216, t217⟩, A180, H⟩ := H
      replace H : (if x213002_1.length < 5864062014805 then (impl_Cut_changed__impl_Cut_low_1.l0 k1 l0_2 (l0_2.length : Int) (wrap64 (x18_1 + 1)) a3_0_0 a1 a2 (x213002_1 ++ [(⟨t215, t216, t217⟩ : S83)])) else (none)) = some (r1, r2, r3) := H
      have A18 := Aside0.mk A180
      clear A180
      by_cases c19 : x213002_1.length < 5864062014805
      ·rw [if_pos c19] at H
       have LMc19 := Aside0.mk c19
       clear c19
       obtain ⟨y218, hy218⟩ : ∃ y_ : List (S83), y_ = (x213002_1 ++ [(⟨t215, t216, t217⟩ : S83)]) := ⟨_, rfl⟩
       replace H : (impl_Cut_changed__impl_Cut_low_1.l0 k1 l0_2 (l0_2.length : Int) (wrap64 (x18_1 + 1)) a3_0_0 a1 a2 y218) = some (r1, r2, r3) := by first | (rw [hy218]; with_reducible exact H) | (have H2_ := (Option.bind_some _ _).symm.trans H; rw [hy218]; with_reducible exact H2_) | (have H2_ := (Option.bind_some _ _).symm.trans H; with_reducible exact H2_) | with_reducible exact H | (rw [hy218]; exact H) | exact H
       have Ny218 := Aside0.mk hy218
       clear hy218
       have H' := Aside0.mk H
       clear H
       have p213 : 0 ≤ (x18_1 : Int) := of_decide_eq_true (by first | (with_reducible assumption) | assumption)
       have q213 : x18_1 < (l0_2.length : Int) := of_decide_eq_true (by first | (with_reducible assumption) | assumption)
       obtain ⟨ad213, e213, hx213_0, hx213_1, hx213_2⟩ := at_T83 HR0_2.out x18_1 p213 q213
       cases e213
       replace hx213_0 := (HB.out.cell (World.block_lt_of_cell? w _ hx213_0)).trans hx213_0
       replace hx213_1 := (HB.out.cell (World.block_lt_of_cell? w _ hx213_1)).trans hx213_1
       replace hx213_2 := (HB.out.cell (World.block_lt_of_cell? w _ hx213_2)).trans hx213_2
       replace p213 := eq_true p213
       replace q213 := eq_true q213
       try go_wp2_with (first | ((with_reducible refine gate_dst (N := 11) rfl ?_); refine box_event ?hg (N := 11) ?hd (cs := #[.int .i64 0, .int .i64 0, .int .i64 0]) (t := 83) ?hr ?_; (case hd => rfl); (case hg => rfl); (case hr => first | (go_simp; done) | (go_simp; rfl)); intro gb214 hg w20 hbox hb; have n0_ := Aside0.mk (Kd.R_below (Kd.R_elderB (upR HO_213002) gb214 (Nat.le_of_eq hg.symm)) hb); have n1_ := Aside0.mk (blk_below (g := gc3_0) (o := .cells #[.int .i64 a3_0_0] 3 (0, 0)) (upK BK209) hb); have n2_ := Aside0.mk (blk_below (upK BK210) hb); have n3_ := Aside0.mk (blk_below (upK BK211) hb); have n4_ := Aside0.mk (blk_below (upK BK212) hb); have n5_ := Aside0.mk (below_step (upW HB) hb); have n6_ := Aside0.mk (hbox); have n7_ := Aside0.mk ((by rw [hg]; exact (below_size (upW HB)) : w.heap.size ≤ gb214)); have n8_ := Aside0.mk ((by rw [hg]; exact (below_size (upW HB)) : w.heap.size ≤ gb214)); have n9_ := Aside0.mk ((by rw [hg]; exact Nat.ne_of_lt (blk_lt (g := gc3_0) (o := .cells #[.int .i64 a3_0_0] 3 (0, 0)) (upK BK209)) : gc3_0 ≠ gb214)); have n10_ := Aside0.mk ((by rw [hg]; exact Nat.ne_of_gt (blk_lt (g := gc3_0) (o := .cells #[.int .i64 a3_0_0] 3 (0, 0)) (upK BK209)) : gb214 ≠ gc3_0)); have n11_ := Aside0.mk ((by rw [hg]; exact Nat.ne_of_lt (blk_lt (upK BK210)) : gb210 ≠ gb214)); have n12_ := Aside0.mk ((by rw [hg]; exact Nat.ne_of_gt (blk_lt (upK BK210)) : gb214 ≠ gb210)); have n13_ := Aside0.mk ((by rw [hg]; exact Nat.ne_of_lt (blk_lt (upK BK211)) : gb211 ≠ gb214)); have n14_ := Aside0.mk ((by rw [hg]; exact Nat.ne_of_gt (blk_lt (upK BK211)) : gb214 ≠ gb211)); have n15_ := Aside0.mk ((by rw [hg]; exact Nat.ne_of_lt (blk_lt (upK BK212)) : gb212 ≠ gb214)); have n16_ := Aside0.mk ((by rw [hg]; exact Nat.ne_of_gt (blk_lt (upK BK212)) : gb214 ≠ gb212)); clear HO_213002; clear BK209; clear BK210; clear BK211; clear BK212; clear HB; have HO_213002 := n0_; have BK209 := n1_; have BK210 := n2_; have BK211 := n3_; have BK212 := n4_; have HB := n5_; have BK214 := n6_; have GW214 := n7_; have GE214 := n8_; have NB209_214 := n9_; have NB214_209 := n10_; have NB210_214 := n11_; have NB214_210 := n12_; have NB211_214 := n13_; have NB214_211 := n14_; have NB212_214 := n15_; have NB214_212 := n16_; clear n0_ n1_ n2_ n3_ n4_ n5_ n6_ n7_ n8_ n9_ n10_ n11_ n12_ n13_ n14_ n15_ n16_; clear hb hbox hg; have hnb21 := NB214_209.out; have hnc21 := NB209_214.out; have hnb22 := NB214_210.out; have hnc22 := NB210_214.out; have hnb23 := NB214_211.out; have hnc23 := NB211_214.out; have hnb24 := NB214_212.out; have hnc24 := NB212_214.out; have hcz25_0 : w20.cell? ⟨gb214, 0, none⟩ = some (.int .i64 0) := (blk_cell BK214.out 0).trans rfl; have hcz25_1 : w20.cell? ⟨gb214, 1, none⟩ = some (.int .i64 0) := (blk_cell BK214.out 1).trans rfl; have hcz25_2 : w20.cell? ⟨gb214, 2, none⟩ = some (.int .i64 0) := (blk_cell BK214.out 2).trans rfl; have hfz25_0 := blk_frozen BK214.out 0; have hfz25_1 := blk_frozen BK214.out 1; have hfz25_2 := blk_frozen BK214.out 2))
       have n0_ : Aside0 (Kd.R k83 83 (((w20.setCell ⟨gb214, 0, none⟩ (.int .i64 ((rd_T83 l0_2 x18_1).f0))).setCell ⟨gb214, 1, none⟩ (.int .i64 ((rd_T83 l0_2 x18_1).f1))).setCell ⟨gb214, 2, none⟩ (.int .i64 ((rd_T83 l0_2 x18_1).f2))) w.heap.size (fun k_ => k_ ≠ gb214) u213002 x213002_1) := ⟨by (with_reducible repeat (first | apply Kd.R_alloc | apply Kd.R_drewN | apply Kd.R_drew)); exact Kd.R_mono (Kd.R_far (p := ⟨gb214, 2, none⟩) (Kd.R_far (p := ⟨gb214, 1, none⟩) (Kd.R_far (p := ⟨gb214, 0, none⟩) (Kd.R_mono HO_213002.out (fun k_ hk => (⟨hk, hk.2⟩ : _ ∧ k_ ≠ gb214))) (fun _ hk => hk.2) (.int .i64 ((rd_T83 l0_2 x18_1).f0))) (fun _ hk => hk.2) (.int .i64 ((rd_T83 l0_2 x18_1).f1))) (fun _ hk => hk.2) (.int .i64 ((rd_T83 l0_2 x18_1).f2))) (fun _ hk => hk.1.2)⟩
       have n1_ : Aside0 ((((w20.setCell ⟨gb214, 0, none⟩ (.int .i64 ((rd_T83 l0_2 x18_1).f0))).setCell ⟨gb214, 1, none⟩ (.int .i64 ((rd_T83 l0_2 x18_1).f1))).setCell ⟨gb214, 2, none⟩ (.int .i64 ((rd_T83 l0_2 x18_1).f2))).heap[gc3_0]? = some (.cells #[.int .i64 a3_0_0] 3 (0, 0))) := ⟨upF BK209⟩
       have n2_ : Aside0 ((((w20.setCell ⟨gb214, 0, none⟩ (.int .i64 ((rd_T83 l0_2 x18_1).f0))).setCell ⟨gb214, 1, none⟩ (.int .i64 ((rd_T83 l0_2 x18_1).f1))).setCell ⟨gb214, 2, none⟩ (.int .i64 ((rd_T83 l0_2 x18_1).f2))).heap[gb210]? = some (.cells #[.int .i64 a0_0, .int .i64 a0_1, .slice (some ad213) l0_2.length c0_2] 48 (0, 0))) := ⟨upF BK210⟩
       have n3_ : Aside0 ((((w20.setCell ⟨gb214, 0, none⟩ (.int .i64 ((rd_T83 l0_2 x18_1).f0))).setCell ⟨gb214, 1, none⟩ (.int .i64 ((rd_T83 l0_2 x18_1).f1))).setCell ⟨gb214, 2, none⟩ (.int .i64 ((rd_T83 l0_2 x18_1).f2))).heap[gb211]? = some (.cells #[.int .i64 0, .int .i64 0, .slice none 0 0] 48 (0, 0))) := ⟨upF BK211⟩
       have n4_ : Aside0 ((((w20.setCell ⟨gb214, 0, none⟩ (.int .i64 ((rd_T83 l0_2 x18_1).f0))).setCell ⟨gb214, 1, none⟩ (.int .i64 ((rd_T83 l0_2 x18_1).f1))).setCell ⟨gb214, 2, none⟩ (.int .i64 ((rd_T83 l0_2 x18_1).f2))).heap[gb212]? = some (.cells #[.int .i64 a1, .int .i64 a2, u213002] 48 (0, 0))) := ⟨upF BK212⟩
       have n5_ : Aside0 ((((w20.setCell ⟨gb214, 0, none⟩ (.int .i64 ((rd_T83 l0_2 x18_1).f0))).setCell ⟨gb214, 1, none⟩ (.int .i64 ((rd_T83 l0_2 x18_1).f1))).setCell ⟨gb214, 2, none⟩ (.int .i64 ((rd_T83 l0_2 x18_1).f2))).heap[gb214]? = some (.cells #[.int .i64 ((rd_T83 l0_2 x18_1).f0), .int .i64 ((rd_T83 l0_2 x18_1).f1), .int .i64 ((rd_T83 l0_2 x18_1).f2)] 83 (0, 0))) := ⟨by (with_reducible repeat (first | refine blk_drewN ?_ _ | refine blk_drew ?_ | refine blk_alloc ?_ _)); refine blk_put (cs := #[.int .i64 ((rd_T83 l0_2 x18_1).f0), .int .i64 ((rd_T83 l0_2 x18_1).f1), .int .i64 0]) ?_ 2 _ rfl; (with_reducible repeat (first | refine blk_drewN ?_ _ | refine blk_drew ?_ | refine blk_alloc ?_ _)); refine blk_put (cs := #[.int .i64 ((rd_T83 l0_2 x18_1).f0), .int .i64 0, .int .i64 0]) ?_ 1 _ rfl; (with_reducible repeat (first | refine blk_drewN ?_ _ | refine blk_drew ?_ | refine blk_alloc ?_ _)); refine blk_put (cs := #[.int .i64 0, .int .i64 0, .int .i64 0]) ?_ 0 _ rfl; (with_reducible repeat (first | refine blk_drewN ?_ _ | refine blk_drew ?_ | refine blk_alloc ?_ _)); exact BK214.out⟩
       have n6_ : Aside0 (Below w.heap.size w (((w20.setCell ⟨gb214, 0, none⟩ (.int .i64 ((rd_T83 l0_2 x18_1).f0))).setCell ⟨gb214, 1, none⟩ (.int .i64 ((rd_T83 l0_2 x18_1).f1))).setCell ⟨gb214, 2, none⟩ (.int .i64 ((rd_T83 l0_2 x18_1).f2)))) := ⟨upW HB⟩
       (try clear HO_213002)
       (try clear BK209)
       (try clear BK210)
       (try clear BK211)
       (try clear BK212)
       (try clear BK214)
       (try clear HB)
       (try simp only [drewN_setCell])
       generalize (((w20.setCell ⟨gb214, 0, none⟩ (.int .i64 ((rd_T83 l0_2 x18_1).f0))).setCell ⟨gb214, 1, none⟩ (.int .i64 ((rd_T83 l0_2 x18_1).f1))).setCell ⟨gb214, 2, none⟩ (.int .i64 ((rd_T83 l0_2 x18_1).f2))) = w26 at n0_ n1_ n2_ n3_ n4_ n5_ n6_ ⊢
       have HO_213002 := n0_
       have BK209 := n1_
       have BK210 := n2_
       have BK211 := n3_
       have BK212 := n4_
       have BK214 := n5_
       have HB := n6_
       clear n0_ n1_ n2_ n3_ n4_ n5_ n6_
       have n0_ := Aside0.mk (Kd.R_drew HO_213002.out)
       have n1_ := Aside0.mk (blk_drew BK209.out)
       have n2_ := Aside0.mk (blk_drew BK210.out)
       have n3_ := Aside0.mk (blk_drew BK211.out)
       have n4_ := Aside0.mk (blk_drew BK212.out)
       have n5_ := Aside0.mk (blk_drew BK214.out)
       have n6_ := Aside0.mk (below_drew1 HB.out)
       clear HO_213002
       clear BK209
       clear BK210
       clear BK211
       clear BK212
       clear BK214
       clear HB
       have HO_213002 := n0_
       have BK209 := n1_
       have BK210 := n2_
       have BK211 := n3_
       have BK212 := n4_
       have BK214 := n5_
       have HB := n6_
       clear n0_ n1_ n2_ n3_ n4_ n5_ n6_
       refine start_ (n := 9) (S := fun w' => w'.cell? ⟨gb212, 0, none⟩ = some (.int .i64 a1) ∧ w'.cell? ⟨gb212, 1, none⟩ = some (.int .i64 a2) ∧ w'.cell? ⟨gb212, 2, none⟩ = some (u213002) ∧ w'.cell? ⟨gb214, 0, none⟩ = some (.int .i64 ((rd_T83 l0_2 x18_1).f0)) ∧ w'.cell? ⟨gb214, 1, none⟩ = some (.int .i64 ((rd_T83 l0_2 x18_1).f1)) ∧ w'.cell? ⟨gb214, 2, none⟩ = some (.int .i64 ((rd_T83 l0_2 x18_1).f2))) (ds := [8]) #[false, false, false, false, false, false, false, false, false] (by kernel_rfl) rfl rfl ⟨(blk_cell BK212.out 0).trans rfl, (blk_cell BK212.out 1).trans rfl, (blk_cell BK212.out 2).trans rfl, (blk_cell BK214.out 0).trans rfl, (blk_cell BK214.out 1).trans rfl, (blk_cell BK214.out 2).trans rfl⟩ (fun hHeld => ?_); refine with_tabW impl_Cut_changed__impl_Cut_low_1.tab5 impl_Cut_changed__impl_Cut_low_1.bits5 (fun HT_ HW_ => ?_)
       generalize w26.drew = w27 at HO_213002 BK209 BK210 BK211 BK212 BK214 HB hHeld ⊢
       refine pure_ (i := 0) (N := some 22) (v := ?_) (a' := ?_) #[true, false, false, false, false, false, false, false, false] rfl rfl (any_of HT_.out (by kernel_rfl)) (fun _ _ _ h => h) (Or.inl ⟨by rfl, ?_⟩) ?_ ?_
       rotate_left
       ·intro w'
        go_simp
        with_reducible rfl
       rotate_left
       ·simp only [Act.put, List.setIfInBounds_toArray, List.set_cons_zero, List.set_cons_succ, i64_w, i32_w]
        rfl
       refine pure_ (i := 2) (N := some 24) (v := ?_) (a' := ?_) #[true, false, true, false, false, false, false, false, false] rfl rfl (any_of HT_.out (by kernel_rfl)) (fun _ _ _ h => h) (Or.inl ⟨by rfl, ?_⟩) ?_ ?_
       rotate_left
       ·intro w'
        go_simp
        with_reducible rfl
       rotate_left
       ·simp only [Act.put, List.setIfInBounds_toArray, List.set_cons_zero, List.set_cons_succ, i64_w, i32_w]
        rfl
       refine take_ (i := 1) (N := some 23) (v := ?_) (a' := ?_) #[true, true, true, false, false, false, false, false, false] rfl rfl (take_ofW HT_.out HW_.out (by kernel_rfl)) (fun _ _ _ h => h) (Or.inl ⟨by rfl, ?_⟩) hHeld ?_ ?_
       rotate_left
       ·rintro w' ⟨s0, s1, s2, s3, s4, s5⟩
        go_simp
        with_reducible rfl
       rotate_left
       ·simp only [Act.put, List.setIfInBounds_toArray, List.set_cons_zero, List.set_cons_succ, i64_w, i32_w]
        rfl
       refine take_ (i := 3) (N := some 25) (v := ?_) (a' := ?_) #[true, true, true, true, false, false, false, false, false] rfl rfl (take_ofW HT_.out HW_.out (by kernel_rfl)) (fun _ _ _ h => h) (Or.inl ⟨by rfl, ?_⟩) hHeld ?_ ?_
       rotate_left
       ·rintro w' ⟨s0, s1, s2, s3, s4, s5⟩
        go_simp
        with_reducible rfl
       rotate_left
       ·simp only [Act.put, List.setIfInBounds_toArray, List.set_cons_zero, List.set_cons_succ, i64_w, i32_w]
        rfl
       refine one_ (i := 4) (N := some 26) #[true, true, true, true, true, false, false, false, false] rfl rfl (one_of HT_.out (by kernel_rfl)) (by decide) (fun K hK => ?_)
       (first | (refine goes_ Try.func110 (by kernel_rfl) rfl #[.agg #[.int .i64 ((rd_T83 l0_2 x18_1).f0), .int .i64 ((rd_T83 l0_2 x18_1).f1), .int .i64 ((rd_T83 l0_2 x18_1).f2)], .pointer (some ⟨gc3_0, 0, none⟩)] (by rfl) rfl rfl itp ?_) | (refine goesv_ Try.func110 (by kernel_rfl) rfl #[.agg #[.int .i64 ((rd_T83 l0_2 x18_1).f0), .int .i64 ((rd_T83 l0_2 x18_1).f1), .int .i64 ((rd_T83 l0_2 x18_1).f2)], .pointer (some ⟨gc3_0, 0, none⟩)] (by rfl) rfl rfl (by rfl) itpv ?_))
       with_reducible refine (impl_Cut_low_1.calls ((rd_T83 l0_2 x18_1).f0) ((rd_T83 l0_2 x18_1).f1) ((rd_T83 l0_2 x18_1).f2) gc3_0 a3_0_0 t215 t216 t217 _ ?side1 A18.out).mono ?_
       (case side1 => exact (upK BK209))
       rintro e w28 ⟨rfl, hb⟩
       refine ⟨_, rfl, ?_⟩
       have n0_ := Aside0.mk (Kd.R_below (upR HO_213002) hb)
       have n1_ := Aside0.mk (blk_below (g := gc3_0) (o := .cells #[.int .i64 a3_0_0] 3 (0, 0)) (upK BK209) hb)
       have n2_ := Aside0.mk (blk_below (upK BK210) hb)
       have n3_ := Aside0.mk (blk_below (upK BK211) hb)
       have n4_ := Aside0.mk (blk_below (upK BK212) hb)
       have n5_ := Aside0.mk (blk_below (upK BK214) hb)
       have n6_ := Aside0.mk (below_step (upW HB) hb)
       clear HO_213002
       clear BK209
       clear BK210
       clear BK211
       clear BK212
       clear BK214
       clear HB
       have HO_213002 := n0_
       have BK209 := n1_
       have BK210 := n2_
       have BK211 := n3_
       have BK212 := n4_
       have BK214 := n5_
       have HB := n6_
       clear n0_ n1_ n2_ n3_ n4_ n5_ n6_
       (try clear hb)
       (try clear hb2)
       (try clear hk)
       (try clear hi)
       refine hK.out _ _ ⟨(blk_cell BK212.out 0).trans rfl, (blk_cell BK212.out 1).trans rfl, (blk_cell BK212.out 2).trans rfl, (blk_cell BK214.out 0).trans rfl, (blk_cell BK214.out 1).trans rfl, (blk_cell BK214.out 2).trans rfl⟩ (fun hHeld => ?_)
       clear hK K
       refine norm_ (a' := ?_) ?_ ?_
       rotate_left
       ·show Act.put _ (some 26) _ = _
        simp only [Act.put, List.setIfInBounds_toArray, List.set_cons_zero, List.set_cons_succ, i64_w, i32_w]
        rfl
       refine one_ (i := 5) (N := some 27) #[true, true, true, true, true, true, false, false, false] rfl rfl (one_of HT_.out (by kernel_rfl)) (by decide) (fun K hK => ?_)
       refine value_ (w1 := ?_) (v := ?_) (by rfl) rfl ?_ ?_
       rotate_left 2
       ·go_simp
        constructor
        ·rfl
        ·rfl
       refine hK.out _ _ ⟨(blk_cell (blk_alloc BK212.out _) 0).trans rfl, (blk_cell (blk_alloc BK212.out _) 1).trans rfl, (blk_cell (blk_alloc BK212.out _) 2).trans rfl, (blk_cell (blk_alloc BK214.out _) 0).trans rfl, (blk_cell (blk_alloc BK214.out _) 1).trans rfl, (blk_cell (blk_alloc BK214.out _) 2).trans rfl⟩ (fun hHeld => ?_)
       clear hK K
       refine norm_ (a' := ?_) ?_ ?_
       rotate_left
       ·show Act.put _ (some 27) _ = _
        simp only [Act.put, List.setIfInBounds_toArray, List.set_cons_zero, List.set_cons_succ, i64_w, i32_w]
        rfl
       refine one_ (i := 6) (N := some 28) #[true, true, true, true, true, true, true, false, false] rfl rfl (one_of HT_.out (by kernel_rfl)) (by decide) (fun K hK => ?_)
       refine Kd.R_append_step k83 (w0 := w) w.heap.size (by rfl) (.tmp 23) (.tmp 27) 46 83 (.agg #[(.int .i64 0), (.int .i64 0), (.int .i64 0)]) 24 rfl Try.underlying46 info83 rfl (by decide) (by omega) u213002 x213002_1 (⟨t215, t216, t217⟩ : S83) [.int .i64 t215, .int .i64 t216, .int .i64 t217] (fun k_ => k_ ≠ gb214) (fun _ => False) rfl rfl ?aP (fun _ hk => hk.elim) ?aF ?aO ?aB ?aS ?aL ?_
       (case aP => exact k83_mkM _ _ _ (⟨t215, t216, t217⟩ : S83))
       (case aB => exact (upW HB))
       (case aF => exact (fun k_ hk => Kd.freshB (g := gb214) (o := .cells #[.int .i64 ((rd_T83 l0_2 x18_1).f0), .int .i64 ((rd_T83 l0_2 x18_1).f1), .int .i64 ((rd_T83 l0_2 x18_1).f2)] 83 (0, 0)) (upK BK214) k_ hk))
       (case aO => exact (upR HO_213002))
       (case aS => exact (below_size (upW HB)))
       (case aL => have := LMc19.out; omega)
       intro v219 w29 ho hb hg hat
       rw [← Ny218.out] at ho
       have n0_ := Aside0.mk (blk_grown (g := gc3_0) (o := .cells #[.int .i64 a3_0_0] 3 (0, 0)) (upK BK209) hg (Kd.R_ne HO_213002.out BK209.out (by decide)))
       have n1_ := Aside0.mk (blk_grown (upK BK210) hg (Kd.R_ne HO_213002.out BK210.out (by decide)))
       have n2_ := Aside0.mk (blk_grown (upK BK211) hg (Kd.R_ne HO_213002.out BK211.out (by decide)))
       have n3_ := Aside0.mk (blk_grown (upK BK212) hg (Kd.R_ne HO_213002.out BK212.out (by decide)))
       have n4_ := Aside0.mk (blk_grown (upK BK214) hg (Kd.R_away HO_213002.out (fun _ hk => hk)))
       have n5_ := Aside0.mk (hb)
       have n6_ := Aside0.mk (ho)
       clear BK209
       clear BK210
       clear BK211
       clear BK212
       clear BK214
       clear HB
       clear HO_213002
       have BK209 := n0_
       have BK210 := n1_
       have BK211 := n2_
       have BK212 := n3_
       have BK214 := n4_
       have HB := n5_
       have HO220 := n6_
       clear n0_ n1_ n2_ n3_ n4_ n5_ n6_
       clear ho hb hg hat
       obtain ⟨Ao30, co30, eo30⟩ := Kd.R_slice HO220.out
       (first | subst eo30 | (injection eo30 with f1_ f2_ f3_; have f4_ := f1_.symm; have f5_ := f3_.symm; clear f1_ f2_ f3_; subst f4_; subst f5_))
       refine hK.out _ _ ⟨(blk_cell BK212.out 0).trans rfl, (blk_cell BK212.out 1).trans rfl, (blk_cell BK212.out 2).trans rfl, (blk_cell BK214.out 0).trans rfl, (blk_cell BK214.out 1).trans rfl, (blk_cell BK214.out 2).trans rfl⟩ (fun hHeld => ?_)
       clear hK K
       refine norm_ (a' := ?_) ?_ ?_
       rotate_left
       ·show Act.put _ (some 28) _ = _
        simp only [Act.put, List.setIfInBounds_toArray, List.set_cons_zero, List.set_cons_succ, i64_w, i32_w]
        rfl
       refine pure_ (i := 7) (N := some 29) (v := ?_) (a' := ?_) #[true, true, true, true, true, true, true, true, false] rfl rfl (any_of HT_.out (by kernel_rfl)) (fun _ _ _ h => h) (Or.inl ⟨by rfl, ?_⟩) ?_ ?_
       rotate_left
       ·intro w'
        go_simp
        with_reducible rfl
       rotate_left
       ·simp only [Act.put, List.setIfInBounds_toArray, List.set_cons_zero, List.set_cons_succ, i64_w, i32_w]
        rfl
       refine last_ (i := 8) (N := none) #[true, true, true, true, true, true, true, true, true] rfl rfl (one_of HT_.out (by kernel_rfl)) (by decide) (fun K hK => ?_)
       have hs31 : w29.cell? ⟨gb212, 2, none⟩ = some (u213002) := (blk_cell BK212.out 2).trans rfl
       have hfs31 := blk_frozen BK212.out 2
       have hns31_0 := NB209_212.out
       have hns31_1 := NB210_212.out
       have hns31_2 := NB211_212.out
       have hns31_4 := NB214_212.out
       have hms31_0 := NB212_209.out
       have hms31_1 := NB212_210.out
       have hms31_2 := NB212_211.out
       have hms31_4 := NB212_214.out
       refine skip_ (w1 := ?_) (by rfl) rfl ?_ ?_
       rotate_left
       ·go_simp
        rfl
       refine hK.out _ _ ?_
       clear hK K
       refine done_ (done_of HT_.out (by kernel_rfl)) ?_
       try go_wp2
       go_roundg k1
       case measure => have := HK1.out; omega
       case rel => exact ⟨(wrap64 (x18_1 + 1)), (y218), (.slice Ao30 y218.length co30), (by first | rfl | (simp; done) | (simp [*]; done)), H', ⟨by have := HK1.out; omega⟩, ⟨by (with_reducible repeat (first | apply Kd.R_alloc | apply Kd.R_drewN | apply Kd.R_drew)); exact Kd.R_mono (Kd.R_far (p := ⟨gb212, 2, none⟩) (Kd.R_types HO220.out BK212.out (by decide)) (fun _ hk => hk.2) (.slice Ao30 y218.length co30)) (fun _ hk => trivial)⟩, ⟨upF BK209⟩, ⟨upF BK210⟩, ⟨upF BK211⟩, ⟨by (with_reducible repeat (first | refine blk_drewN ?_ _ | refine blk_drew ?_ | refine blk_alloc ?_ _)); refine blk_put (cs := #[.int .i64 a1, .int .i64 a2, u213002]) ?_ 2 _ rfl; (with_reducible repeat (first | refine blk_drewN ?_ _ | refine blk_drew ?_ | refine blk_alloc ?_ _)); exact BK212.out⟩, ⟨upW HB⟩⟩
      ·rw [if_neg c19] at H
       exact absurd H (by simp)
     ·rw [if_neg c17] at H
      exact absurd H (by simp)
    ·rw [if_neg c16] at H
     exact absurd H (by simp)
   ·rw [if_neg c15] at H
    have c15b0 : decide (x18_1 < (l0_2.length : Int)) = false := decide_eq_false c15
    clear c15
    replace H := Option.bind_eq_some_iff.mp H
    obtain ⟨t221, A320, H⟩ := H
    replace H : (some (a1, a2, t221)) = some (r1, r2, r3) := H
    have A32 := Aside0.mk A320
    clear A320
    simp only [Option.some.injEq, Prod.mk.injEq] at H
    obtain ⟨rfl, rfl, rfl⟩ := H
    have hnb33 := NB212_209.out
    have hnc33 := NB209_212.out
    have hnb34 := NB212_210.out
    have hnc34 := NB210_212.out
    have hnb35 := NB212_211.out
    have hnc35 := NB211_212.out
    have hcz36_0 : wr.cell? ⟨gb212, 0, none⟩ = some (.int .i64 a1) := (blk_cell BK212.out 0).trans rfl
    have hcz36_1 : wr.cell? ⟨gb212, 1, none⟩ = some (.int .i64 a2) := (blk_cell BK212.out 1).trans rfl
    have hcz36_2 : wr.cell? ⟨gb212, 2, none⟩ = some (u213002) := (blk_cell BK212.out 2).trans rfl
    have hfz36_0 := blk_frozen BK212.out 0
    have hfz36_1 := blk_frozen BK212.out 1
    have hfz36_2 := blk_frozen BK212.out 2
    obtain ⟨Ao37, co37, eo37⟩ := Kd.R_slice HO_213002.out
    subst eo37
    go_wp2_with (first | ((first | (with_reducible refine gate_callee (f := 116) rfl ?_) | refine gate_calleev (f := 116) rfl (by rfl) ?_); (first | (refine goesL_ (some 33) rfl rfl Try.func116 (by kernel_rfl) rfl #[.slice Ao37 x213002_1.length co37, .func (.func 102) #[] #[]] rfl itp ?_) | (refine goesvL_ (some 33) rfl rfl Try.func116 (by kernel_rfl) rfl #[.slice Ao37 x213002_1.length co37, .func (.func 102) #[] #[]] rfl (by rfl) itpv ?_)); (with_reducible refine (slices_SortFunc_impl_Square_impl_Square__impl_comparePlaces.calls (fun k_ => some k_ = (.slice Ao37 x213002_1.length co37 : Value).ownBlock) (.slice Ao37 x213002_1.length co37) x213002_1  t221 w _ ?side1 ?side2 A32.out).mono ?_); (case side1 => repeat (first | (with_reducible first | exact HB.out | apply below_alloc | apply pw_below_drewN | apply below_drew1 | refine below_set ?_ GE209.out | refine below_set ?_ GE210.out | refine below_set ?_ GE211.out | refine below_set ?_ GE212.out) | exact HB.out)); (case side2 => exact Kd.R_tight rfl HO_213002.out); rintro e w38 ⟨rfl, hy0, hb, hkp⟩; refine ⟨_, rfl, ?_⟩; have n0_ := Aside0.mk (Kd.R_reok rfl hy0 (fun k_ e_ => HO_213002.out.1 k_ e_)); have n1_ := Aside0.mk (blk_kept (upK BK209) hkp (fun hs_ => (fun e_ => (Kd.R_ne HO_213002.out BK209.out (by decide)) e_) hs_)); have n2_ := Aside0.mk (blk_kept (upK BK210) hkp (fun hs_ => (fun e_ => (Kd.R_ne HO_213002.out BK210.out (by decide)) e_) hs_)); have n3_ := Aside0.mk (blk_kept (upK BK211) hkp (fun hs_ => (fun e_ => (Kd.R_ne HO_213002.out BK211.out (by decide)) e_) hs_)); have n4_ := Aside0.mk (blk_kept (upK BK212) hkp (fun hs_ => (fun e_ => (Kd.R_ne HO_213002.out BK212.out (by decide)) e_) hs_)); have n5_ := Aside0.mk (hb); clear HO_213002; clear BK209; clear BK210; clear BK211; clear BK212; clear HB; have HO_213002 := n0_; have BK209 := n1_; have BK210 := n2_; have BK211 := n3_; have BK212 := n4_; have HB := n5_; clear n0_ n1_ n2_ n3_ n4_ n5_; (try clear hb); (try clear hkp); (try clear hy0); have hcz39_0 : w38.cell? ⟨gb212, 0, none⟩ = some (.int .i64 a1) := (blk_cell BK212.out 0).trans rfl; have hcz39_1 : w38.cell? ⟨gb212, 1, none⟩ = some (.int .i64 a2) := (blk_cell BK212.out 1).trans rfl; have hcz39_2 : w38.cell? ⟨gb212, 2, none⟩ = some (.slice Ao37 x213002_1.length co37) := (blk_cell BK212.out 2).trans rfl; have hfz39_0 := blk_frozen BK212.out 0; have hfz39_1 := blk_frozen BK212.out 1; have hfz39_2 := blk_frozen BK212.out 2; have hnb40 := NB211_209.out; have hnc40 := NB209_211.out; have hnb41 := NB211_210.out; have hnc41 := NB210_211.out; have hcz42_0 : w38.cell? ⟨gb211, 0, none⟩ = some (.int .i64 0) := (blk_cell BK211.out 0).trans rfl; have hcz42_1 : w38.cell? ⟨gb211, 1, none⟩ = some (.int .i64 0) := (blk_cell BK211.out 1).trans rfl; have hcz42_2 : w38.cell? ⟨gb211, 2, none⟩ = some (.slice none 0 0) := (blk_cell BK211.out 2).trans rfl; have hfz42_0 := blk_frozen BK211.out 0; have hfz42_1 := blk_frozen BK211.out 1; have hfz42_2 := blk_frozen BK211.out 2))
    refine bodyPost_ret (results_cell_row rfl _ _ gb211 48 #[.int .i64 a1, .int .i64 a2, .slice Ao37 x213002_1.length co37] (0, 0) _ rfl (by (with_reducible repeat (first | refine blk_drewN ?_ _ | refine blk_drew ?_ | refine blk_alloc ?_ _)); refine blk_put (cs := #[.int .i64 a1, .int .i64 a2, .slice none 0 0]) ?_ 2 _ rfl; (with_reducible repeat (first | refine blk_drewN ?_ _ | refine blk_drew ?_ | refine blk_alloc ?_ _)); refine blk_put (cs := #[.int .i64 a1, .int .i64 0, .slice none 0 0]) ?_ 1 _ rfl; (with_reducible repeat (first | refine blk_drewN ?_ _ | refine blk_drew ?_ | refine blk_alloc ?_ _)); refine blk_put (cs := #[.int .i64 0, .int .i64 0, .slice none 0 0]) ?_ 0 _ rfl; (with_reducible repeat (first | refine blk_drewN ?_ _ | refine blk_drew ?_ | refine blk_alloc ?_ _)); exact BK211.out) Try.underlying48 rfl (by kernel_rfl)) rfl ?_
    exact ⟨_, by first | rfl | (simp [errW_none, errW_some] <;> rfl) | (simp [*, errW_none, errW_some] <;> rfl), by (with_reducible repeat (first | apply Kd.R_alloc | apply Kd.R_drewN | apply Kd.R_drew)); exact Kd.R_mono (Kd.R_far (p := ⟨gb211, 2, none⟩) (Kd.R_far (p := ⟨gb211, 1, none⟩) (Kd.R_far (p := ⟨gb211, 0, none⟩) (Kd.R_types HO_213002.out BK211.out (by decide)) (fun _ hk => hk.2) (.int .i64 a1)) (fun _ hk => hk.2) (.int .i64 a2)) (fun _ hk => hk.2) (.slice Ao37 x213002_1.length co37)) (fun _ hk => trivial), by repeat (first | (with_reducible first | exact HB.out | apply below_alloc | apply pw_below_drewN | apply below_drew1 | refine below_set ?_ GE209.out | refine below_set ?_ GE210.out | refine below_set ?_ GE211.out | refine below_set ?_ GE212.out) | exact HB.out)⟩

end Go.Proofs.Ytngbmjldnfljiaa.PFnExactLowCut
