-- made for this claim by a program of this session
import Derived.Test.YthnjbpabiamkjaaPFnExactLongestLinex0
import Derived.Test.YthnjbpabiamkjaaPFnExactLongestLinex5
import Derived.Test.YthnjbpabiamkjaaPFnExactLongestLinex6
import Derived.Test.YthnjbpabiamkjaaPFnExactLongestLinex7
import Derived.Test.YthnjbpabiamkjaaPFnExactLongestLinex8
namespace Go.Proofs.Ythnjbpabiamkjaa.PFnExactLongestLine
open Go.RowKit Go.Proofs.YthnjbpabiamkjaaW.PrintWords Go.Proofs.YthnjbpabiamkjaaW.PrintLast Go.Proofs.YthnjbpabiamkjaaW.PrintMore
attribute [local go_sem] max2_int min2_int max_two min_two max_three min_three max_four min_four   -- for this text's walks alone
set_option linter.unusedVariables false
set_option linter.unusedSimpArgs false

/-! ### impl_Cut_longestLine: function 74 -/
mutual
def impl_Cut_longestLine.l0 : Nat → Int → List (S31) → Int → Int → Option (Int)
 | 0, _, _, _, _ => none
 | k + 1, x3, x11, x12, x13 => if x13 < x12 then (if 0 ≤ x13 then (if x13 < (x11.length : Int) then ((impl_Cut_linesAcross.f k ((rd_T31 x11 x13).f0) ((rd_T31 x11 x13).f1) ((rd_T31 x11 x13).f2)).bind fun t317 => (impl_Cut_longestLine.l1 k x3 x11 x12 x13 t317 (t317.length : Int) 0 ((rd_T31 x11 x13).f0) ((rd_T31 x11 x13).f1) ((rd_T31 x11 x13).f2))) else (none)) else (none)) else (some x3)
def impl_Cut_longestLine.l1 : Nat → Int → List (S31) → Int → Int → List (List Int) → Int → Int → Int → Int → List (S73) → Option (Int)
 | 0, _, _, _, _, _, _, _, _, _, _ => none
 | k + 1, x3, x11, x12, x13, x18, x19, x20, x317000, x317001, x317002 => if x20 < x19 then (if 0 ≤ x20 then (if x20 < (x18.length : Int) then (if 0 < ((rd_L5 x18 x20).length : Int) then ((impl_within.f (rd (rd_L5 x18 x20) 0) 1 (wrap64 (x317001 - 1))).bind fun t322 => (if t322 = true then (if 2 < ((rd_L5 x18 x20).length : Int) then (if 1 < ((rd_L5 x18 x20).length : Int) then (impl_Cut_longestLine.l1 k (mx x3 (wrap64 ((rd (rd_L5 x18 x20) 2) - (rd (rd_L5 x18 x20) 1)))) x11 x12 x13 x18 x19 (wrap64 (x20 + 1)) x317000 x317001 x317002) else (none)) else (none)) else (impl_Cut_longestLine.l1 k x3 x11 x12 x13 x18 x19 (wrap64 (x20 + 1)) x317000 x317001 x317002))) else (none)) else (none)) else (none)) else (impl_Cut_longestLine.l0 k x3 x11 x12 (wrap64 (x13 + 1)))
end
def impl_Cut_longestLine.f (k : Nat) (a0_0 : Int) (a0_1 : Int) (l0_2 : List (S73)) : Option (Int) := (impl_Cut_turned.f k a0_0 a0_1 l0_2).bind fun bt307 => ((some (([(⟨a0_0, a0_1, l0_2⟩ : S31), (⟨bt307.1, bt307.2.1, bt307.2.2⟩ : S31)] : List (S31)) : List (S31))).bind fun y312 => (impl_Cut_longestLine.l0 k 0 y312 (y312.length : Int) 0))
def impl_Cut_longestLine.T9 : Bool × List (List Nat × List Nat) := (true, [([], []), ([], []), ([1], [1]), ([2], [2]), ([], []), ([4], [4]), ([5], [5]), ([3, 6], [3, 6]), ([0, 7], [0, 7]), ([8, 0, 1, 2, 3, 4, 5, 6, 7, 8], [0, 8])])
def impl_Cut_longestLine.B9 : List Nat := [0, 0, 2, 6, 0, 16, 48, 126, 255, 511]
theorem impl_Cut_longestLine.tab9 : rtab .any (opsOf Try.f74 9) = impl_Cut_longestLine.T9 := by kernel_rfl
theorem impl_Cut_longestLine.bits9 : waitsOk impl_Cut_longestLine.T9.2 impl_Cut_longestLine.B9 = true := by kernel_rfl
set_option maxHeartbeats 8000000 in
set_option maxRecDepth 100000 in
theorem impl_Cut_longestLine.calls (k : Nat) (a0_0 : Int) (a0_1 : Int) (P0_2_ : Nat → Prop) (A0_2 : Option Addr) (c0_2 : Nat) (l0_2 : List (S73)) (r : Int) (w : World) (hs0_2 : Kd.V k73 73 w w.heap.size (fun k_ => P0_2_ k_) (.slice A0_2 l0_2.length c0_2) l0_2) (h : impl_Cut_longestLine.f k a0_0 a0_1 l0_2 = some r) :
  Calls Try.prog 74 #[.agg #[.int .i64 a0_0, .int .i64 a0_1, .slice A0_2 l0_2.length c0_2]] w fun e w' => e = .returned (.int .i64 r) ∧ Below w.heap.size w w' := by
 have hu31 := Try.underlying31
 have HO0_2 := Aside0.mk (show Kd.V k73 73 w w.heap.size (fun k_ => (P0_2_ k_ ∨ w.heap.size ≤ k_)) (.slice A0_2 l0_2.length c0_2) l0_2 from Kd.V_mono hs0_2 (fun k_ hk => .inl hk))
 have HB := Aside0.mk (Below.refl w.heap.size w)
 have H : ((impl_Cut_turned.f k a0_0 a0_1 l0_2).bind fun bt307 => ((some (([(⟨a0_0, a0_1, l0_2⟩ : S31), (⟨bt307.1, bt307.2.1, bt307.2.2⟩ : S31)] : List (S31)) : List (S31))).bind fun y312 => (impl_Cut_longestLine.l0 k 0 y312 (y312.length : Int) 0))) = some r := h
 clear h
 replace H := Option.bind_eq_some_iff.mp H
 obtain ⟨⟨t307, t308, t309⟩, A20, H⟩ := H
 replace H : ((some (([(⟨a0_0, a0_1, l0_2⟩ : S31), (⟨t307, t308, t309⟩ : S31)] : List (S31)) : List (S31))).bind fun y312 => (impl_Cut_longestLine.l0 k 0 y312 (y312.length : Int) 0)) = some r := H
 have A2 := Aside0.mk A20
 clear A20
 obtain ⟨y312, hy312⟩ : ∃ y_ : List (S31), y_ = (([(⟨a0_0, a0_1, l0_2⟩ : S31), (⟨t307, t308, t309⟩ : S31)] : List (S31))) := ⟨_, rfl⟩
 replace H : (impl_Cut_longestLine.l0 k 0 y312 (y312.length : Int) 0) = some r := by first | (rw [hy312]; with_reducible exact H) | (have H2_ := (Option.bind_some _ _).symm.trans H; rw [hy312]; with_reducible exact H2_) | (have H2_ := (Option.bind_some _ _).symm.trans H; with_reducible exact H2_) | with_reducible exact H | (rw [hy312]; exact H) | exact H
 have Ny312 := Aside0.mk hy312
 clear hy312
 have H' := Aside0.mk H
 clear H
 go_enter Try.func74, Try.ntmps74
 try go_wp2_with (first | ((with_reducible refine gate_dst (N := 1) rfl ?_); refine box_event ?hg (N := 1) ?hd (cs := #[.int .i64 a0_0, .int .i64 a0_1, .slice A0_2 l0_2.length c0_2]) (t := 31) ?hr ?_; (case hd => rfl); (case hg => rfl); (case hr => first | (go_simp; done) | (go_simp; rfl)); intro gb306 hg w3 hbox hb; have n0_ := Aside0.mk (Kd.V_below (Kd.V_elderB (by (with_reducible repeat (first | apply Kd.V_alloc | apply Kd.V_drewN | apply Kd.V_drew)); exact HO0_2.out) gb306 (Nat.le_of_eq hg.symm)) hb); have n1_ := Aside0.mk (below_step (upW HB) hb); have n2_ := Aside0.mk (hbox); have n3_ := Aside0.mk ((by rw [hg]; exact (below_size (upW HB)) : w.heap.size ≤ gb306)); have n4_ := Aside0.mk ((by rw [hg]; exact (below_size (upW HB)) : w.heap.size ≤ gb306)); clear HO0_2; clear HB; have HO0_2 := n0_; have HB := n1_; have BK306 := n2_; have GW306 := n3_; have GE306 := n4_; clear n0_ n1_ n2_ n3_ n4_; clear hb hbox hg))
 have n0_ := Aside0.mk (Kd.V_drew HO0_2.out)
 have n1_ := Aside0.mk (blk_drew BK306.out)
 have n2_ := Aside0.mk (below_drew1 HB.out)
 clear HO0_2
 clear BK306
 clear HB
 have HO0_2 := n0_
 have BK306 := n1_
 have HB := n2_
 clear n0_ n1_ n2_
 refine start_ (n := 6) (S := fun w' => w'.cell? ⟨gb306, 0, none⟩ = some (.int .i64 a0_0) ∧ w'.cell? ⟨gb306, 1, none⟩ = some (.int .i64 a0_1) ∧ w'.cell? ⟨gb306, 2, none⟩ = some (.slice A0_2 l0_2.length c0_2)) (ds := []) #[false, false, false, false, false, false] (by kernel_rfl) rfl rfl ⟨(blk_cell BK306.out 0).trans rfl, (blk_cell BK306.out 1).trans rfl, (blk_cell BK306.out 2).trans rfl⟩ (fun hHeld => ?_)
 generalize w3.drew = w4 at HO0_2 BK306 HB hHeld ⊢
 refine pure_ (i := 5) (N := some 13) (v := ?_) (a' := ?_) #[false, false, false, false, false, true] rfl rfl (by kernel_rfl) (fun _ _ _ h => h) (Or.inl ⟨by rfl, ?_⟩) ?_ ?_
 rotate_left
 ·intro w'
  go_simp
  with_reducible rfl
 rotate_left
 ·simp only [Act.put, List.setIfInBounds_toArray, List.set_cons_zero, List.set_cons_succ, i64_w, i32_w]
  rfl
 refine take_ (i := 0) (N := some 8) (v := ?_) (a' := ?_) #[true, false, false, false, false, true] rfl rfl (by kernel_rfl) (fun _ _ _ h => h) (Or.inl ⟨by rfl, ?_⟩) hHeld ?_ ?_
 rotate_left
 ·rintro w' ⟨s0, s1, s2⟩
  go_simp
  with_reducible rfl
 rotate_left
 ·simp only [Act.put, List.setIfInBounds_toArray, List.set_cons_zero, List.set_cons_succ, i64_w, i32_w]
  rfl
 refine take_ (i := 1) (N := some 9) (v := ?_) (a' := ?_) #[true, true, false, false, false, true] rfl rfl (by kernel_rfl) (fun _ _ _ h => h) (Or.inl ⟨by rfl, ?_⟩) hHeld ?_ ?_
 rotate_left
 ·rintro w' ⟨s0, s1, s2⟩
  go_simp
  with_reducible rfl
 rotate_left
 ·simp only [Act.put, List.setIfInBounds_toArray, List.set_cons_zero, List.set_cons_succ, i64_w, i32_w]
  rfl
 refine one_ (i := 2) (N := some 10) #[true, true, true, false, false, true] rfl rfl (by kernel_rfl) (by decide) (fun K hK => ?_)
 refine goes_ Try.func106 (by kernel_rfl) rfl #[.agg #[.int .i64 a0_0, .int .i64 a0_1, .slice A0_2 l0_2.length c0_2]] (by rfl) rfl rfl itp ?_
 with_reducible refine (impl_Cut_turned.calls k a0_0 a0_1 _ _ l0_2 t307 t308 t309 _ ?side1 ?side2 A2.out).mono ?_
 (case side1 => repeat (first | exact (Kd.V_reads' HO0_2.out).2.2 | (with_reducible refine Kd.C_alloc ?_ _) | (with_reducible refine Kd.C_drewN ?_ _) | (with_reducible refine Kd.C_drew ?_)))
 (case side2 => exact (Kd.V_reads' HO0_2.out).2.1)
 rintro e w5 ⟨v310, rfl, ho0, hb⟩
 refine ⟨_, rfl, ?_⟩
 have n0_ := Aside0.mk (Kd.V_elder' (by (with_reducible repeat (first | apply Kd.V_alloc | apply Kd.V_drewN | apply Kd.V_drew)); exact HO0_2.out) (Kd.R_base ho0) hb)
 have n1_ := Aside0.mk (Kd.R_lower (Kd.R_newM (M := fun k_ => (w.heap.size ≤ k_)) ho0 (below_size (upW HB)) (fun k_ h_ => h_)) (below_size (upW HB)))
 have n2_ := Aside0.mk (blk_below (upK BK306) hb)
 have n3_ := Aside0.mk (below_step (upW HB) hb)
 clear HO0_2
 clear BK306
 clear HB
 have HO0_2 := n0_
 have HO311 := n1_
 have BK306 := n2_
 have HB := n3_
 clear n0_ n1_ n2_ n3_
 (try clear hb)
 (try clear hb2)
 (try clear hk)
 (try clear hi)
 (try clear ho0)
 obtain ⟨Ao6, co6, eo6⟩ := Kd.R_slice HO311.out
 (first | subst eo6 | (injection eo6 with f1_ f2_ f3_; have f4_ := f1_.symm; have f5_ := f3_.symm; clear f1_ f2_ f3_; subst f4_; subst f5_))
 refine hK.out _ _ ⟨(blk_cell BK306.out 0).trans rfl, (blk_cell BK306.out 1).trans rfl, (blk_cell BK306.out 2).trans rfl⟩ (fun hHeld => ?_)
 clear hK K
 refine norm_ (a' := ?_) ?_ ?_
 rotate_left
 ·show Act.put _ (some 10) _ = _
  simp only [Act.put, List.setIfInBounds_toArray, List.set_cons_zero, List.set_cons_succ, i64_w, i32_w]
  rfl
 refine one_ (i := 3) (N := some 11) #[true, true, true, true, false, true] rfl rfl (by kernel_rfl) (by decide) (fun K hK => ?_)
 refine Kd.N_lit_step k31 _ 31 ?hg (N' := 11) ?hd (xs := ([(⟨a0_0, a0_1, l0_2⟩ : S31), (⟨t307, t308, t309⟩ : S31)] : List (S31))) (inner := [.int .i64 a0_0, .int .i64 a0_1, .slice A0_2 l0_2.length c0_2, .int .i64 t307, .int .i64 t308, .slice Ao6 t309.length co6]) (ok := (fun k_ => (P0_2_ k_ ∨ w.heap.size ≤ k_) ∧ k_ ≠ gb306)) (okp := (fun k_ => (P0_2_ k_ ∨ w.heap.size ≤ k_) ∧ k_ ≠ gb306)) ?hr ?hp (fun _ hk => hk) ((show ∀ k_, w5.heap.size ≤ k_ → (fun k_ => (P0_2_ k_ ∨ w.heap.size ≤ k_) ∧ k_ ≠ gb306) k_ from fun k_ hk => ⟨(.inr (Nat.le_trans (below_size (upW HB)) hk)), Kd.freshB (g := gb306) (o := .cells #[.int .i64 a0_0, .int .i64 a0_1, .slice A0_2 l0_2.length c0_2] 31 (0, 0)) (upK BK306) k_ hk⟩) _ (Nat.le_refl _)) (Below.refl _ _) (Nat.le_refl _) (by simp) ?_; (case hd => rfl); (case hg => rfl); (case hr => first | (go_simp; done) | (go_simp; rfl)); (case hp => exact (Reps.c3 (show Kd.FK k31 _ _ (⟨a0_0, a0_1, l0_2⟩ : S31) [.int .i64 a0_0, .int .i64 a0_1, .slice A0_2 l0_2.length c0_2] from (k31_mkF _ _ (⟨a0_0, a0_1, l0_2⟩ : S31) (Kd.V_reads' (Kd.V_mono (ok' := (fun k_ => (P0_2_ k_ ∨ w.heap.size ≤ k_) ∧ k_ ≠ gb306)) (HO0_2.out) (fun k_ hk => ⟨hk.1.1, hk.1.2⟩))).2.1 (Kd.V_F (Kd.V_mono (ok' := (fun k_ => (P0_2_ k_ ∨ w.heap.size ≤ k_) ∧ k_ ≠ gb306)) (HO0_2.out) (fun k_ hk => ⟨hk.1.1, hk.1.2⟩))))) (Reps.c3 (show Kd.FK k31 _ _ (⟨t307, t308, t309⟩ : S31) [.int .i64 t307, .int .i64 t308, .slice Ao6 t309.length co6] from (k31_mkF _ _ (⟨t307, t308, t309⟩ : S31) (Kd.R_reads' (Kd.R_mono (ok' := (fun k_ => (P0_2_ k_ ∨ w.heap.size ≤ k_) ∧ k_ ≠ gb306)) (Kd.R_types (HO311.out) BK306.out (by decide)) (fun k_ hk => ⟨(.inr (hk.1.1)), hk.2⟩))).2.1 (Kd.R_F (Kd.R_mono (ok' := (fun k_ => (P0_2_ k_ ∨ w.heap.size ≤ k_) ∧ k_ ≠ gb306)) (Kd.R_types (HO311.out) BK306.out (by decide)) (fun k_ hk => ⟨(.inr (hk.1.1)), hk.2⟩))))) (Reps.none _ _))))
 intro v313 w7 ho8 hb hg_ hnew_
 clear hg_ hnew_
 (first | rw [← Ny312.out] at ho8 | (simp only [Int.reduceToNat] at ho8; rw [← Ny312.out] at ho8))
 have n0_ := Aside0.mk (Kd.V_elder' (by (with_reducible repeat (first | apply Kd.V_alloc | apply Kd.V_drewN | apply Kd.V_drew)); exact HO0_2.out) (Kd.N_base ho8) hb)
 have n1_ := Aside0.mk (Kd.N_lower ho8 (below_size (upW HB)))
 have n2_ := Aside0.mk (blk_below (upK BK306) hb)
 have n3_ := Aside0.mk (below_step (upW HB) hb)
 clear HO0_2
 clear BK306
 clear HB
 clear HO311
 have HO0_2 := n0_
 have HO314 := n1_
 have BK306 := n2_
 have HB := n3_
 clear n0_ n1_ n2_ n3_
 clear hb ho8
 obtain ⟨Ao9, co9, eo9⟩ := Kd.N_slice HO314.out
 (first | subst eo9 | (injection eo9 with f1_ f2_ f3_; have f4_ := f1_.symm; have f5_ := f3_.symm; clear f1_ f2_ f3_; subst f4_; subst f5_))
 refine hK.out _ _ ⟨(blk_cell BK306.out 0).trans rfl, (blk_cell BK306.out 1).trans rfl, (blk_cell BK306.out 2).trans rfl⟩ (fun hHeld => ?_)
 clear hK K
 refine norm_ (a' := ?_) ?_ ?_
 rotate_left
 ·show Act.put _ (some 11) _ = _
  simp only [Act.put, List.setIfInBounds_toArray, List.set_cons_zero, List.set_cons_succ, i64_w, i32_w]
  rfl
 refine pure_ (i := 4) (N := some 12) (v := ?_) (a' := ?_) #[true, true, true, true, true, true] rfl rfl (by kernel_rfl) (fun _ _ _ h => h) (Or.inl ⟨by rfl, ?_⟩) ?_ ?_
 rotate_left
 ·intro w'
  go_simp
  with_reducible rfl
 rotate_left
 ·simp only [Act.put, List.setIfInBounds_toArray, List.set_cons_zero, List.set_cons_succ, i64_w, i32_w]
  rfl
 refine done_ (by kernel_rfl) ?_
 try go_wp2
 go_loopg [3, 13] k (fun kq v3 v13 w' => ∃ (x3_1 : Int) (x13_1 : Int), v3 = .int .i64 x3_1 ∧ v13 = .int .i64 x13_1 ∧ Aside0 (impl_Cut_longestLine.l0 kq x3_1 y312 (y312.length : Int) x13_1 = some r) ∧ Aside0 (kq ≤ k) ∧ Aside0 (Kd.N k31 31 w' w.heap.size (fun k_ => (P0_2_ k_ ∨ w.heap.size ≤ k_) ∧ k_ ≠ gb306) (.slice Ao9 y312.length co9) y312) ∧ Aside0 (Kd.V k73 73 w' w.heap.size (fun k_ => (P0_2_ k_ ∨ w.heap.size ≤ k_) ∧ some k_ ≠ ((.slice Ao9 y312.length co9) : Value).ownBlock ∧ k_ ≠ gb306) (.slice A0_2 l0_2.length c0_2) l0_2) ∧ Aside0 (w'.heap[gb306]? = some (.cells #[.int .i64 a0_0, .int .i64 a0_1, (.slice A0_2 l0_2.length c0_2)] 31 (0, 0))) ∧ Aside0 (Below w.heap.size w w'))
 case atStart => exact ⟨(0), (0), (by first | rfl | (simp; done) | (simp [*]; done)), (by first | rfl | (simp; done) | (simp [*]; done)), H', ⟨Nat.le_refl _⟩, ⟨by (with_reducible repeat (first | apply Kd.N_alloc | apply Kd.N_drewN | apply Kd.N_drew)); exact HO314.out⟩, ⟨by (with_reducible repeat (first | apply Kd.V_alloc | apply Kd.V_drewN | apply Kd.V_drew)); exact Kd.V_mono HO0_2.out (fun _ hk => ⟨hk.1.1.1, ⟨hk.2, hk.1.1.2⟩⟩)⟩, ⟨upK BK306⟩, ⟨upW HB⟩⟩
 case round =>
  clear H'
  try clear c1
  try clear p2
  try clear c3
  try clear c7
  obtain ⟨x3_1, x13_1, rfl, rfl, HA, HK1, HO_11, HO_307002, BK306, HB⟩ := hrel
  cases gk with
  | zero => exact absurd HA.out (by simp [impl_Cut_longestLine.l0])
  | succ k1 =>
   have H := HA.out
   clear HA
   simp only [impl_Cut_longestLine.l0] at H
   by_cases c10 : x13_1 < (y312.length : Int)
   ·rw [if_pos c10] at H
    have c10b0 : decide (x13_1 < (y312.length : Int)) = true := decide_eq_true c10
    clear c10
    by_cases c11 : 0 ≤ x13_1
    ·rw [if_pos c11] at H
     have c11b0 : decide (0 ≤ x13_1) = true := decide_eq_true c11
     clear c11
     by_cases c12 : x13_1 < (y312.length : Int)
     ·rw [if_pos c12] at H
      have c12b0 : decide (x13_1 < (y312.length : Int)) = true := decide_eq_true c12
      clear c12
      replace H := Option.bind_eq_some_iff.mp H
      obtain ⟨t317, A130, H⟩ := H
      replace H : (impl_Cut_longestLine.l1 k1 x3_1 y312 (y312.length : Int) x13_1 t317 (t317.length : Int) 0 ((rd_T31 y312 x13_1).f0) ((rd_T31 y312 x13_1).f1) ((rd_T31 y312 x13_1).f2)) = some r := H
      have A13 := Aside0.mk A130
      clear A130
      have H' := Aside0.mk H
      clear H
      have p315 : 0 ≤ (x13_1 : Int) := of_decide_eq_true (by first | (with_reducible assumption) | assumption)
      have q315 : x13_1 < (y312.length : Int) := of_decide_eq_true (by first | (with_reducible assumption) | assumption)
      obtain ⟨ad315, A315_2, c315_2, e315, hx315_0, hx315_1, hx315_2, hl315_2, hi315_2⟩ := at_T31 (Kd.N_reads' HO_11.out).2.2 x13_1 p315 q315
      cases e315
      obtain ⟨ce315, hce315, hMe315, hcc315⟩ := Kd.N_get HO_11.out z31 x13_1 p315 (by first | exact q315 | exact of_decide_eq_true (by first | (with_reducible assumption) | assumption) | (have e_ := (Kd.N_reads' HO_11.out).1; omega))
      obtain ⟨ua315_2, uc315_2, rfl, ul315_2, ge315_2⟩ := k31_openF hMe315
      have hv315_2 := hcc315 2 _ rfl
      rw [add_field _ _ 2 (by omega)] at hv315_2
      replace hv315_2 := Option.some.inj (hv315_2.symm.trans hx315_2)
      injection hv315_2 with hva_ hvn_ hvc_
      rw [hva_] at ge315_2
      rw [hvc_] at ul315_2
      have HL315_2 := Aside0.mk (show Kd.V k73 73 _ w.heap.size _ _ ((rd_T31 y312 x13_1).f2) from Kd.V_mk ul315_2 ge315_2)
      clear hva_ hvn_ hvc_ ge315_2 ul315_2
      clear hcc315 hce315
      have HR315_2 := Aside0.mk hi315_2
      have HC315_2 := Aside0.mk hl315_2
      clear hi315_2 hl315_2
      replace p315 := eq_true p315
      replace q315 := eq_true q315
      go_wp2_with (first | ((with_reducible refine gate_dst (N := 5) rfl ?_); refine box_event ?hg (N := 5) ?hd (cs := #[.int .i64 0, .int .i64 0, .slice none 0 0]) (t := 31) ?hr ?_; (case hd => rfl); (case hg => rfl); (case hr => first | (go_simp; done) | (go_simp; rfl)); intro gb316 hg w14 hbox hb; have n0_ := Aside0.mk (Kd.N_below (Kd.N_elderB (by (with_reducible repeat (first | apply Kd.N_alloc | apply Kd.N_drewN | apply Kd.N_drew)); exact HO_11.out) gb316 (Nat.le_of_eq hg.symm)) hb); have n1_ := Aside0.mk (Kd.V_below (Kd.V_elderB (by (with_reducible repeat (first | apply Kd.V_alloc | apply Kd.V_drewN | apply Kd.V_drew)); exact HO_307002.out) gb316 (Nat.le_of_eq hg.symm)) hb); have n2_ := Aside0.mk (Kd.V_below (Kd.V_elderB (by (with_reducible repeat (first | apply Kd.V_alloc | apply Kd.V_drewN | apply Kd.V_drew)); exact HL315_2.out) gb316 (Nat.le_of_eq hg.symm)) hb); have n3_ := Aside0.mk (blk_below (upK BK306) hb); have n4_ := Aside0.mk (Kd.C_below (by repeat (first | (with_reducible exact HR315_2.out) | (with_reducible refine Kd.C_alloc ?_ _) | (with_reducible refine Kd.C_drewN ?_ _) | (with_reducible refine Kd.C_drew ?_) | exact HR315_2.out)) hb); have n5_ := Aside0.mk (below_step (upW HB) hb); have n6_ := Aside0.mk (hbox); have n7_ := Aside0.mk ((by rw [hg]; exact (below_size (upW HB)) : w.heap.size ≤ gb316)); have n8_ := Aside0.mk ((by rw [hg]; exact (below_size (upW HB)) : w.heap.size ≤ gb316)); have n9_ := Aside0.mk ((by rw [hg]; exact Nat.ne_of_lt (blk_lt (upK BK306)) : gb306 ≠ gb316)); have n10_ := Aside0.mk ((by rw [hg]; exact Nat.ne_of_gt (blk_lt (upK BK306)) : gb316 ≠ gb306)); clear HO_11; clear HO_307002; clear HL315_2; clear BK306; clear HR315_2; clear HB; have HO_11 := n0_; have HO_307002 := n1_; have HL315_2 := n2_; have BK306 := n3_; have HR315_2 := n4_; have HB := n5_; have BK316 := n6_; have GW316 := n7_; have GE316 := n8_; have NB306_316 := n9_; have NB316_306 := n10_; clear n0_ n1_ n2_ n3_ n4_ n5_ n6_ n7_ n8_ n9_ n10_; clear hb hbox hg; have hnb15 := NB316_306.out; have hnc15 := NB306_316.out; have hcz16_0 : w14.cell? ⟨gb316, 0, none⟩ = some (.int .i64 0) := (blk_cell BK316.out 0).trans rfl; have hcz16_1 : w14.cell? ⟨gb316, 1, none⟩ = some (.int .i64 0) := (blk_cell BK316.out 1).trans rfl; have hcz16_2 : w14.cell? ⟨gb316, 2, none⟩ = some (.slice none 0 0) := (blk_cell BK316.out 2).trans rfl; have hfz16_0 := blk_frozen BK316.out 0; have hfz16_1 := blk_frozen BK316.out 1; have hfz16_2 := blk_frozen BK316.out 2) | ((with_reducible refine gate_callee (f := 61) rfl ?_); refine goesL_ (some 18) rfl rfl Try.func61 (by kernel_rfl) rfl #[.agg #[.int .i64 ((rd_T31 y312 x13_1).f0), .int .i64 ((rd_T31 y312 x13_1).f1), .slice A315_2 ((rd_T31 y312 x13_1).f2).length c315_2]] rfl itp ?_; (with_reducible refine (impl_Cut_linesAcross.calls k1 ((rd_T31 y312 x13_1).f0) ((rd_T31 y312 x13_1).f1) _ _ ((rd_T31 y312 x13_1).f2) t317 _ ?side1 ?side2 A13.out).mono ?_); (case side1 => repeat (first | exact ((Kd.V_reads' (by (with_reducible repeat (first | apply Kd.V_alloc | apply Kd.V_drewN | apply Kd.V_drew)); exact (Kd.V_mono (Kd.V_far (p := ⟨gb316, 2, none⟩) (Kd.V_far (p := ⟨gb316, 1, none⟩) (Kd.V_far (p := ⟨gb316, 0, none⟩) (Kd.V_mono HL315_2.out (fun k_ hk => (⟨hk, hk.2⟩ : _ ∧ k_ ≠ gb316))) (fun _ hk => hk.2) (.int .i64 ((rd_T31 y312 x13_1).f0))) (fun _ hk => hk.2) (.int .i64 ((rd_T31 y312 x13_1).f1))) (fun _ hk => hk.2) (.slice A315_2 ((rd_T31 y312 x13_1).f2).length c315_2)) (fun _ h_ => h_.1)))).2.2) | (with_reducible refine Kd.C_alloc ?_ _) | (with_reducible refine Kd.C_drewN ?_ _) | (with_reducible refine Kd.C_drew ?_))); (case side2 => exact HC315_2.out); rintro e w17 ⟨v318, rfl, ho0, hb⟩; refine ⟨_, rfl, ?_⟩; have n0_ := Aside0.mk (Kd.N_elder' (by (with_reducible repeat (first | apply Kd.N_alloc | apply Kd.N_drewN | apply Kd.N_drew)); exact (Kd.N_mono (Kd.N_far (p := ⟨gb316, 2, none⟩) (Kd.N_far (p := ⟨gb316, 1, none⟩) (Kd.N_far (p := ⟨gb316, 0, none⟩) (Kd.N_mono HO_11.out (fun k_ hk => (⟨hk, hk.2⟩ : _ ∧ k_ ≠ gb316))) (fun _ hk => hk.2) (.int .i64 ((rd_T31 y312 x13_1).f0))) (fun _ hk => hk.2) (.int .i64 ((rd_T31 y312 x13_1).f1))) (fun _ hk => hk.2) (.slice A315_2 ((rd_T31 y312 x13_1).f2).length c315_2)) (fun _ h_ => h_.1))) (Kd.S_base ho0) hb); have n1_ := Aside0.mk (Kd.V_elder' (by (with_reducible repeat (first | apply Kd.V_alloc | apply Kd.V_drewN | apply Kd.V_drew)); exact (Kd.V_mono (Kd.V_far (p := ⟨gb316, 2, none⟩) (Kd.V_far (p := ⟨gb316, 1, none⟩) (Kd.V_far (p := ⟨gb316, 0, none⟩) (Kd.V_mono HO_307002.out (fun k_ hk => (⟨hk, hk.2⟩ : _ ∧ k_ ≠ gb316))) (fun _ hk => hk.2) (.int .i64 ((rd_T31 y312 x13_1).f0))) (fun _ hk => hk.2) (.int .i64 ((rd_T31 y312 x13_1).f1))) (fun _ hk => hk.2) (.slice A315_2 ((rd_T31 y312 x13_1).f2).length c315_2)) (fun _ h_ => h_.1))) (Kd.S_base ho0) hb); have n2_ := Aside0.mk (Kd.V_elder' (by (with_reducible repeat (first | apply Kd.V_alloc | apply Kd.V_drewN | apply Kd.V_drew)); exact (Kd.V_mono (Kd.V_far (p := ⟨gb316, 2, none⟩) (Kd.V_far (p := ⟨gb316, 1, none⟩) (Kd.V_far (p := ⟨gb316, 0, none⟩) (Kd.V_mono HL315_2.out (fun k_ hk => (⟨hk, hk.2⟩ : _ ∧ k_ ≠ gb316))) (fun _ hk => hk.2) (.int .i64 ((rd_T31 y312 x13_1).f0))) (fun _ hk => hk.2) (.int .i64 ((rd_T31 y312 x13_1).f1))) (fun _ hk => hk.2) (.slice A315_2 ((rd_T31 y312 x13_1).f2).length c315_2)) (fun _ h_ => h_.1))) (Kd.S_base ho0) hb); have n3_ := Aside0.mk (Kd.N_lower (Kd.N_mono (ok' := fun k_ => (P0_2_ k_ ∨ w.heap.size ≤ k_) ∧ some k_ ≠ (.slice (some ad315) y312.length co9 : Value).ownBlock ∧ k_ ≠ gb306 ∧ k_ ≠ gb316) (Kd.S_N (Kd.S_bound ho0)) (fun k_ hk_ => ⟨(.inr (Nat.le_trans (below_size (upW HB)) hk_.2.1)), (Kd.fresh' (Kd.N_lt (by (with_reducible repeat (first | apply Kd.N_alloc | apply Kd.N_drewN | apply Kd.N_drew)); exact (Kd.N_mono (Kd.N_far (p := ⟨gb316, 2, none⟩) (Kd.N_far (p := ⟨gb316, 1, none⟩) (Kd.N_far (p := ⟨gb316, 0, none⟩) (Kd.N_mono HO_11.out (fun k_ hk => (⟨hk, hk.2⟩ : _ ∧ k_ ≠ gb316))) (fun _ hk => hk.2) (.int .i64 ((rd_T31 y312 x13_1).f0))) (fun _ hk => hk.2) (.int .i64 ((rd_T31 y312 x13_1).f1))) (fun _ hk => hk.2) (.slice A315_2 ((rd_T31 y312 x13_1).f2).length c315_2)) (fun _ h_ => h_.1)))) k_ hk_.2.1), (Kd.freshB (g := gb306) (o := .cells #[.int .i64 a0_0, .int .i64 a0_1, .slice A0_2 l0_2.length c0_2] 31 (0, 0)) (upF BK306) k_ hk_.2.1), (Kd.freshB (g := gb316) (o := .cells #[.int .i64 ((rd_T31 y312 x13_1).f0), .int .i64 ((rd_T31 y312 x13_1).f1), .slice A315_2 ((rd_T31 y312 x13_1).f2).length c315_2] 31 (0, 0)) (by (with_reducible repeat (first | refine blk_drewN ?_ _ | refine blk_drew ?_ | refine blk_alloc ?_ _)); refine blk_put (cs := #[.int .i64 ((rd_T31 y312 x13_1).f0), .int .i64 ((rd_T31 y312 x13_1).f1), .slice none 0 0]) ?_ 2 _ rfl; (with_reducible repeat (first | refine blk_drewN ?_ _ | refine blk_drew ?_ | refine blk_alloc ?_ _)); refine blk_put (cs := #[.int .i64 ((rd_T31 y312 x13_1).f0), .int .i64 0, .slice none 0 0]) ?_ 1 _ rfl; (with_reducible repeat (first | refine blk_drewN ?_ _ | refine blk_drew ?_ | refine blk_alloc ?_ _)); refine blk_put (cs := #[.int .i64 0, .int .i64 0, .slice none 0 0]) ?_ 0 _ rfl; (with_reducible repeat (first | refine blk_drewN ?_ _ | refine blk_drew ?_ | refine blk_alloc ?_ _)); exact BK316.out) k_ hk_.2.1)⟩)) (below_size (upW HB))); have n4_ := Aside0.mk (blk_below (upF BK306) hb); have n5_ := Aside0.mk (Kd.C_below ((Kd.V_reads' (by (with_reducible repeat (first | apply Kd.V_alloc | apply Kd.V_drewN | apply Kd.V_drew)); exact (Kd.V_mono (Kd.V_far (p := ⟨gb316, 2, none⟩) (Kd.V_far (p := ⟨gb316, 1, none⟩) (Kd.V_far (p := ⟨gb316, 0, none⟩) (Kd.V_mono HL315_2.out (fun k_ hk => (⟨hk, hk.2⟩ : _ ∧ k_ ≠ gb316))) (fun _ hk => hk.2) (.int .i64 ((rd_T31 y312 x13_1).f0))) (fun _ hk => hk.2) (.int .i64 ((rd_T31 y312 x13_1).f1))) (fun _ hk => hk.2) (.slice A315_2 ((rd_T31 y312 x13_1).f2).length c315_2)) (fun _ h_ => h_.1)))).2.2) hb); have n6_ := Aside0.mk (blk_below (g := gb316) (o := .cells #[.int .i64 ((rd_T31 y312 x13_1).f0), .int .i64 ((rd_T31 y312 x13_1).f1), .slice A315_2 ((rd_T31 y312 x13_1).f2).length c315_2] 31 (0, 0)) (by (with_reducible repeat (first | refine blk_drewN ?_ _ | refine blk_drew ?_ | refine blk_alloc ?_ _)); refine blk_put (cs := #[.int .i64 ((rd_T31 y312 x13_1).f0), .int .i64 ((rd_T31 y312 x13_1).f1), .slice none 0 0]) ?_ 2 _ rfl; (with_reducible repeat (first | refine blk_drewN ?_ _ | refine blk_drew ?_ | refine blk_alloc ?_ _)); refine blk_put (cs := #[.int .i64 ((rd_T31 y312 x13_1).f0), .int .i64 0, .slice none 0 0]) ?_ 1 _ rfl; (with_reducible repeat (first | refine blk_drewN ?_ _ | refine blk_drew ?_ | refine blk_alloc ?_ _)); refine blk_put (cs := #[.int .i64 0, .int .i64 0, .slice none 0 0]) ?_ 0 _ rfl; (with_reducible repeat (first | refine blk_drewN ?_ _ | refine blk_drew ?_ | refine blk_alloc ?_ _)); exact BK316.out) hb); have n7_ := Aside0.mk (below_step (upW HB) hb); clear HO_11; clear HO_307002; clear HL315_2; clear BK306; clear HR315_2; clear BK316; clear HB; have HO_11 := n0_; have HO_307002 := n1_; have HL315_2 := n2_; have HO319 := n3_; have BK306 := n4_; have HR315_2 := n5_; have BK316 := n6_; have HB := n7_; clear n0_ n1_ n2_ n3_ n4_ n5_ n6_ n7_; (try clear hb); (try clear hb2); (try clear hk); (try clear hi); (try clear ho0); obtain ⟨Ao18, co18, eo18⟩ := Kd.N_slice HO319.out; subst eo18))
      go_loopg [3, 20] k1 (fun kq v3 v20 w' => ∃ (x3_2 : Int) (x20_2 : Int), v3 = .int .i64 x3_2 ∧ v20 = .int .i64 x20_2 ∧ Aside0 (impl_Cut_longestLine.l1 kq x3_2 y312 (y312.length : Int) x13_1 t317 (t317.length : Int) x20_2 ((rd_T31 y312 x13_1).f0) ((rd_T31 y312 x13_1).f1) ((rd_T31 y312 x13_1).f2) = some r) ∧ Aside0 (kq ≤ k1) ∧ Aside0 (Kd.N k31 31 w' w.heap.size (fun k_ => (P0_2_ k_ ∨ w.heap.size ≤ k_) ∧ some k_ ≠ ((.slice Ao18 t317.length co18) : Value).ownBlock ∧ k_ ≠ gb306 ∧ k_ ≠ gb316) (.slice (some ad315) y312.length co9) y312) ∧ Aside0 (Kd.N (Kd.slice 3 (Kd.int .i64)) 41 w' w.heap.size (fun k_ => (P0_2_ k_ ∨ w.heap.size ≤ k_) ∧ some k_ ≠ ((.slice (some ad315) y312.length co9) : Value).ownBlock ∧ k_ ≠ gb306 ∧ k_ ≠ gb316) (.slice Ao18 t317.length co18) t317) ∧ Aside0 (Kd.V k73 73 w' w.heap.size (fun k_ => (P0_2_ k_ ∨ w.heap.size ≤ k_) ∧ some k_ ≠ ((.slice (some ad315) y312.length co9) : Value).ownBlock ∧ some k_ ≠ ((.slice Ao18 t317.length co18) : Value).ownBlock ∧ k_ ≠ gb306 ∧ k_ ≠ gb316) (.slice A0_2 l0_2.length c0_2) l0_2) ∧ Aside0 (w'.heap[gb306]? = some (.cells #[.int .i64 a0_0, .int .i64 a0_1, (.slice A0_2 l0_2.length c0_2)] 31 (0, 0))) ∧ Aside0 (w'.heap[gb316]? = some (.cells #[.int .i64 ((rd_T31 y312 x13_1).f0), .int .i64 ((rd_T31 y312 x13_1).f1), (.slice A315_2 ((rd_T31 y312 x13_1).f2).length c315_2)] 31 (0, 0))) ∧ Aside0 (Kd.C k73 w' A315_2 ((rd_T31 y312 x13_1).f2).length ((rd_T31 y312 x13_1).f2)) ∧ Aside0 (Below w.heap.size w w'))
      case atStart => exact ⟨(x3_1), (0), (by first | rfl | (simp; done) | (simp [*]; done)), (by first | rfl | (simp; done) | (simp [*]; done)), H', ⟨Nat.le_refl _⟩, ⟨by (with_reducible repeat (first | apply Kd.N_alloc | apply Kd.N_drewN | apply Kd.N_drew)); exact Kd.N_mono HO_11.out (fun _ hk => ⟨hk.1.1.1, ⟨hk.2, ⟨hk.1.1.2, hk.1.2⟩⟩⟩)⟩, ⟨by (with_reducible repeat (first | apply Kd.N_alloc | apply Kd.N_drewN | apply Kd.N_drew)); exact HO319.out⟩, ⟨by (with_reducible repeat (first | apply Kd.V_alloc | apply Kd.V_drewN | apply Kd.V_drew)); exact Kd.V_mono HO_307002.out (fun _ hk => ⟨hk.1.1.1, ⟨hk.1.1.2.1, ⟨hk.2, ⟨hk.1.1.2.2, hk.1.2⟩⟩⟩⟩)⟩, ⟨upK BK306⟩, ⟨upK BK316⟩, ⟨by repeat (first | (with_reducible exact HR315_2.out) | (with_reducible refine Kd.C_alloc ?_ _) | (with_reducible refine Kd.C_drewN ?_ _) | (with_reducible refine Kd.C_drew ?_) | exact HR315_2.out)⟩, ⟨upW HB⟩⟩
      case round =>
       clear H'
       try clear c1
       try clear p2
       try clear c3
       try clear p3
       try clear q3
       try clear hx3
       try clear c6
       try clear c7
       try clear c10
       try clear c10b0
       try clear c11
       try clear c11b0
       try clear c12
       try clear c12b0
       try clear c15
       try clear hcz16_0
       try clear hcz16_1
       try clear hcz16_2
       try clear hfz16_0
       try clear hfz16_1
       try clear hfz16_2
       try clear hx315_0
       try clear hx315_1
       try clear hx315_2
       try clear p2
       try clear p315
       try clear q315
       obtain ⟨x3_2, x20_2, rfl, rfl, HA, HK2, HO_11, HO_18, HO_307002, BK306, BK316, HR315_2, HB⟩ := hrel
       cases gk with
       | zero => exact absurd HA.out (by simp [impl_Cut_longestLine.l1])
       | succ k2 =>
        have H := HA.out
        clear HA
        simp only [impl_Cut_longestLine.l1] at H
        by_cases c19 : x20_2 < (t317.length : Int)
        ·rw [if_pos c19] at H
         have c19b0 : decide (x20_2 < (t317.length : Int)) = true := decide_eq_true c19
         clear c19
         by_cases c20 : 0 ≤ x20_2
         ·rw [if_pos c20] at H
          have c20b0 : decide (0 ≤ x20_2) = true := decide_eq_true c20
          clear c20
          by_cases c21 : x20_2 < (t317.length : Int)
          ·rw [if_pos c21] at H
           have c21b0 : decide (x20_2 < (t317.length : Int)) = true := decide_eq_true c21
           clear c21
           by_cases c22 : 0 < ((rd_L5 t317 x20_2).length : Int)
           ·rw [if_pos c22] at H
            have c22b0 : decide (0 < ((rd_L5 t317 x20_2).length : Int)) = true := decide_eq_true c22
            have c22b1 : decide (0 < (rd_L5 t317 x20_2).length) = true := decide_eq_true (by omega)
            clear c22
            replace H := Option.bind_eq_some_iff.mp H
            obtain ⟨t322, A230, H⟩ := H
            replace H : (if t322 = true then (if 2 < ((rd_L5 t317 x20_2).length : Int) then (if 1 < ((rd_L5 t317 x20_2).length : Int) then (impl_Cut_longestLine.l1 k2 (mx x3_2 (wrap64 ((rd (rd_L5 t317 x20_2) 2) - (rd (rd_L5 t317 x20_2) 1)))) y312 (y312.length : Int) x13_1 t317 (t317.length : Int) (wrap64 (x20_2 + 1)) ((rd_T31 y312 x13_1).f0) ((rd_T31 y312 x13_1).f1) ((rd_T31 y312 x13_1).f2)) else (none)) else (none)) else (impl_Cut_longestLine.l1 k2 x3_2 y312 (y312.length : Int) x13_1 t317 (t317.length : Int) (wrap64 (x20_2 + 1)) ((rd_T31 y312 x13_1).f0) ((rd_T31 y312 x13_1).f1) ((rd_T31 y312 x13_1).f2))) = some r := H
            have A23 := Aside0.mk A230
            clear A230
            by_cases c24 : t322 = true
            ·subst c24
             have H1 : (if 2 < ((rd_L5 t317 x20_2).length : Int) then (if 1 < ((rd_L5 t317 x20_2).length : Int) then (impl_Cut_longestLine.l1 k2 (mx x3_2 (wrap64 ((rd (rd_L5 t317 x20_2) 2) - (rd (rd_L5 t317 x20_2) 1)))) y312 (y312.length : Int) x13_1 t317 (t317.length : Int) (wrap64 (x20_2 + 1)) ((rd_T31 y312 x13_1).f0) ((rd_T31 y312 x13_1).f1) ((rd_T31 y312 x13_1).f2)) else (none)) else (none)) = some r := by rw [if_pos rfl] at H; exact H
             clear H
             have H := H1
             clear H1
             by_cases c25 : 2 < ((rd_L5 t317 x20_2).length : Int)
             ·rw [if_pos c25] at H
              have c25b0 : decide (2 < ((rd_L5 t317 x20_2).length : Int)) = true := decide_eq_true c25
              have c25b1 : decide (2 < (rd_L5 t317 x20_2).length) = true := decide_eq_true (by omega)
              clear c25
              by_cases c26 : 1 < ((rd_L5 t317 x20_2).length : Int)
              ·rw [if_pos c26] at H
               have c26b0 : decide (1 < ((rd_L5 t317 x20_2).length : Int)) = true := decide_eq_true c26
               have c26b1 : decide (1 < (rd_L5 t317 x20_2).length) = true := decide_eq_true (by omega)
               clear c26
               obtain ⟨ji27, hji27⟩ : ∃ j_ : Int, (mx x3_2 (wrap64 ((rd (rd_L5 t317 x20_2) 2) - (rd (rd_L5 t317 x20_2) 1)))) = j_ := ⟨_, rfl⟩
               replace H : (impl_Cut_longestLine.l1 k2 ji27 y312 (y312.length : Int) x13_1 t317 (t317.length : Int) (wrap64 (x20_2 + 1)) ((rd_T31 y312 x13_1).f0) ((rd_T31 y312 x13_1).f1) ((rd_T31 y312 x13_1).f2)) = some r := by first | (rw [hji27] at H; exact H) | (simp only [hji27] at H ⊢; exact H)
               (try rw [hji27] at A23)
               have hji27_ : (if x3_2 < (wrap64 ((rd (rd_L5 t317 x20_2) 2) - (rd (rd_L5 t317 x20_2) 1))) then (wrap64 ((rd (rd_L5 t317 x20_2) 2) - (rd (rd_L5 t317 x20_2) 1))) else x3_2) = ji27 := hji27
               have H' := Aside0.mk H
               clear H
               have p320 : 0 ≤ (x20_2 : Int) := of_decide_eq_true (by first | (with_reducible assumption) | assumption)
               have q320 : x20_2 < (t317.length : Int) := of_decide_eq_true (by first | (with_reducible assumption) | assumption)
               obtain ⟨ad320, A320_0, c320_0, e320, hx320_0, hl320_0, hi320_0⟩ := at_L5 (Kd.N_reads' HO_18.out).2.2 x20_2 p320 q320
               cases e320
               obtain ⟨ce320, hce320, hMe320, hcc320⟩ := Kd.N_get HO_18.out [] x20_2 p320 (by first | exact q320 | exact of_decide_eq_true (by first | (with_reducible assumption) | assumption) | (have e_ := (Kd.N_reads' HO_18.out).1; omega))
               obtain ⟨ua320_0, uc320_0, rfl, ul320_0, ge320_0⟩ := Kd.FK_slice_open hMe320
               have hv320_0 := hcc320 0 _ rfl
               rw [Nat.add_zero, show ((Kd.slice 3 (Kd.int .i64))).sz = 1 from rfl, Nat.mul_one] at hv320_0
               replace hv320_0 := Option.some.inj (hv320_0.symm.trans hx320_0)
               injection hv320_0 with hva_ hvn_ hvc_
               rw [hva_] at ge320_0
               rw [hvc_] at ul320_0
               have HL320_0 := Aside0.mk (show Kd.V (Kd.int .i64) 3 _ w.heap.size _ _ (rd_L5 t317 x20_2) from Kd.V_mk ul320_0 ge320_0)
               clear hva_ hvn_ hvc_ ge320_0 ul320_0
               clear hcc320 hce320
               have HR320_0 := Aside0.mk hi320_0
               have HC320_0 := Aside0.mk hl320_0
               clear hi320_0 hl320_0
               replace p320 := eq_true p320
               replace q320 := eq_true q320
               try go_wp2
               have n0_ := Aside0.mk (Kd.N_drew HO_11.out)
               have n1_ := Aside0.mk (Kd.N_drew HO_18.out)
               have n2_ := Aside0.mk (Kd.V_drew HO_307002.out)
               have n3_ := Aside0.mk (Kd.V_drew HL320_0.out)
               have n4_ := Aside0.mk (blk_drew BK306.out)
               have n5_ := Aside0.mk (blk_drew BK316.out)
               have n6_ := Aside0.mk (Kd.C_drew HR315_2.out)
               have n7_ := Aside0.mk (Kd.C_drew HR320_0.out)
               have n8_ := Aside0.mk (below_drew1 HB.out)
               clear HO_11
               clear HO_18
               clear HO_307002
               clear HL320_0
               clear BK306
               clear BK316
               clear HR315_2
               clear HR320_0
               clear HB
               have HO_11 := n0_
               have HO_18 := n1_
               have HO_307002 := n2_
               have HL320_0 := n3_
               have BK306 := n4_
               have BK316 := n5_
               have HR315_2 := n6_
               have HR320_0 := n7_
               have HB := n8_
               clear n0_ n1_ n2_ n3_ n4_ n5_ n6_ n7_ n8_
               have p321 : 0 ≤ (0 : Int) := (by omega)
               have q321 : 0 < ((rd_L5 t317 x20_2).length : Int) := of_decide_eq_true (by first | (with_reducible assumption) | assumption)
               obtain ⟨ad321, e321, hx321_0⟩ := Kd.at_int (by repeat (first | (with_reducible exact HR320_0.out) | (with_reducible refine Kd.C_alloc ?_ _) | (with_reducible refine Kd.C_drewN ?_ _) | (with_reducible refine Kd.C_drew ?_) | exact HR320_0.out)) 0 p321 q321
               cases e321
               have qi321 : (0 < (rd_L5 t317 x20_2).length) = True := eq_true (by omega)
               (try rw [show ((0 : Int)).toNat = 0 from rfl] at hx321_0)
               (try rw [Addr.add_zero'] at hx321_0)
               replace p321 := eq_true p321
               replace q321 := eq_true q321
               refine start_ (n := 7) (S := fun w' => w'.cell? ⟨gb316, 0, none⟩ = some (.int .i64 ((rd_T31 y312 x13_1).f0)) ∧ w'.cell? ⟨gb316, 1, none⟩ = some (.int .i64 ((rd_T31 y312 x13_1).f1)) ∧ w'.cell? ⟨gb316, 2, none⟩ = some (.slice A315_2 ((rd_T31 y312 x13_1).f2).length c315_2) ∧ w'.cell? ad321 = some (.int .i64 (rd (rd_L5 t317 x20_2) 0))) (ds := []) #[false, false, false, false, false, false, false] (by kernel_rfl) rfl rfl ⟨(blk_cell BK316.out 0).trans rfl, (blk_cell BK316.out 1).trans rfl, (blk_cell BK316.out 2).trans rfl, hx321_0⟩ (fun hHeld => ?_)
               generalize wr.drew = w28 at HO_11 HO_18 HO_307002 HL320_0 BK306 BK316 HR315_2 HR320_0 HB hx321_0 hHeld ⊢
               refine pure_ (i := 0) (N := some 24) (v := ?_) (a' := ?_) #[true, false, false, false, false, false, false] rfl rfl (by kernel_rfl) (fun _ _ _ h => h) (Or.inl ⟨by rfl, ?_⟩) ?_ ?_
               rotate_left
               ·intro w'
                go_simp
                with_reducible rfl
               rotate_left
               ·simp only [Act.put, List.setIfInBounds_toArray, List.set_cons_zero, List.set_cons_succ, i64_w, i32_w]
                rfl
               refine pure_ (i := 1) (N := some 25) (v := ?_) (a' := ?_) #[true, true, false, false, false, false, false] rfl rfl (by kernel_rfl) (fun _ _ _ h => h) (Or.inl ⟨by rfl, ?_⟩) ?_ ?_
               rotate_left
               ·intro w'
                go_simp
                with_reducible rfl
               rotate_left
               ·simp only [Act.put, List.setIfInBounds_toArray, List.set_cons_zero, List.set_cons_succ, i64_w, i32_w]
                rfl
               refine pure_ (i := 3) (N := some 27) (v := ?_) (a' := ?_) #[true, true, false, true, false, false, false] rfl rfl (by kernel_rfl) (fun _ _ _ h => h) (Or.inl ⟨by rfl, ?_⟩) ?_ ?_
               rotate_left
               ·intro w'
                go_simp
                with_reducible rfl
               rotate_left
               ·simp only [Act.put, List.setIfInBounds_toArray, List.set_cons_zero, List.set_cons_succ, i64_w, i32_w]
                rfl
               refine take_ (i := 2) (N := some 26) (v := ?_) (a' := ?_) #[true, true, true, true, false, false, false] rfl rfl (by kernel_rfl) (fun _ _ _ h => h) (Or.inl ⟨by rfl, ?_⟩) hHeld ?_ ?_
               rotate_left
               ·rintro w' ⟨s0, s1, s2, s3⟩
                go_simp
                with_reducible rfl
               rotate_left
               ·simp only [Act.put, List.setIfInBounds_toArray, List.set_cons_zero, List.set_cons_succ, i64_w, i32_w]
                rfl
               refine take_ (i := 4) (N := some 28) (v := ?_) (a' := ?_) #[true, true, true, true, true, false, false] rfl rfl (by kernel_rfl) (fun _ _ _ h => h) (Or.inl ⟨by rfl, ?_⟩) hHeld ?_ ?_
               rotate_left
               ·rintro w' ⟨s0, s1, s2, s3⟩
                go_simp
                with_reducible rfl
               rotate_left
               ·simp only [Act.put, List.setIfInBounds_toArray, List.set_cons_zero, List.set_cons_succ, i64_w, i32_w]
                rfl
               refine pure_ (i := 5) (N := some 29) (v := ?_) (a' := ?_) #[true, true, true, true, true, true, false] rfl rfl (by kernel_rfl) (fun _ _ _ h => h) (Or.inl ⟨by rfl, ?_⟩) ?_ ?_
               rotate_left
               ·intro w'
                go_simp
                with_reducible rfl
               rotate_left
               ·simp only [Act.put, List.setIfInBounds_toArray, List.set_cons_zero, List.set_cons_succ, i64_w, i32_w]
                rfl
               refine one_ (i := 6) (N := some 30) #[true, true, true, true, true, true, true] rfl rfl (by kernel_rfl) (by decide) (fun K hK => ?_)
               refine goes_ Try.func66 (by kernel_rfl) rfl #[.int .i64 (rd (rd_L5 t317 x20_2) 0), .int .i64 1, .int .i64 (wrap64 (((rd_T31 y312 x13_1).f1) - 1))] (by rfl) rfl rfl itp ?_
               with_reducible refine (impl_within.calls (rd (rd_L5 t317 x20_2) 0) 1 (wrap64 (((rd_T31 y312 x13_1).f1) - 1)) true _ A23.out).mono ?_
               rintro e w' ⟨rfl, ⟨nd, rfl⟩⟩
               refine ⟨_, rfl, ?_⟩
               refine hK.out _ _ ⟨(blk_cell BK316.out 0).trans rfl, (blk_cell BK316.out 1).trans rfl, (blk_cell BK316.out 2).trans rfl, hHeld.2.2.2⟩ (fun hHeld => ?_)
               clear hK K
               refine norm_ (a' := ?_) ?_ ?_
               rotate_left
               ·show Act.put _ (some 30) _ = _
                simp only [Act.put, List.setIfInBounds_toArray, List.set_cons_zero, List.set_cons_succ, i64_w, i32_w]
                rfl
               refine done_ (by kernel_rfl) ?_
               try go_wp2
               (try (rw [drewN_self w28]; generalize hq_ : World.drewN w28 _ = w28; have n0_ : Aside0 (Kd.V (Kd.int .i64) 3 w28 w.heap.size (fun k_ => (P0_2_ k_ ∨ w.heap.size ≤ k_) ∧ some k_ ≠ (.slice (some ad315) y312.length co9 : Value).ownBlock ∧ some k_ ≠ (.slice (some ad320) t317.length co18 : Value).ownBlock ∧ k_ ≠ gb306 ∧ k_ ≠ gb316) (.slice (some ad321) (rd_L5 t317 x20_2).length c320_0) (rd_L5 t317 x20_2)) := ⟨by rw [← hq_]; exact (by (with_reducible repeat (first | apply Kd.V_alloc | apply Kd.V_drewN | apply Kd.V_drew)); exact Kd.V_mono HL320_0.out (fun _ hk => ⟨hk.1.1, ⟨hk.1.2.1, ⟨hk.2, ⟨hk.1.2.2.1, hk.1.2.2.2⟩⟩⟩⟩))⟩; have n1_ : Aside0 (Kd.N k31 31 w28 w.heap.size (fun k_ => (P0_2_ k_ ∨ w.heap.size ≤ k_) ∧ some k_ ≠ (.slice (some ad320) t317.length co18 : Value).ownBlock ∧ k_ ≠ gb306 ∧ k_ ≠ gb316) (.slice (some ad315) y312.length co9) y312) := ⟨by rw [← hq_]; exact (by (with_reducible repeat (first | apply Kd.N_alloc | apply Kd.N_drewN | apply Kd.N_drew)); exact HO_11.out)⟩; have n2_ : Aside0 (Kd.N (Kd.slice 3 (Kd.int .i64)) 41 w28 w.heap.size (fun k_ => (P0_2_ k_ ∨ w.heap.size ≤ k_) ∧ some k_ ≠ (.slice (some ad315) y312.length co9 : Value).ownBlock ∧ k_ ≠ gb306 ∧ k_ ≠ gb316) (.slice (some ad320) t317.length co18) t317) := ⟨by rw [← hq_]; exact (by (with_reducible repeat (first | apply Kd.N_alloc | apply Kd.N_drewN | apply Kd.N_drew)); exact HO_18.out)⟩; have n3_ : Aside0 (Kd.V k73 73 w28 w.heap.size (fun k_ => (P0_2_ k_ ∨ w.heap.size ≤ k_) ∧ some k_ ≠ (.slice (some ad315) y312.length co9 : Value).ownBlock ∧ some k_ ≠ (.slice (some ad320) t317.length co18 : Value).ownBlock ∧ k_ ≠ gb306 ∧ k_ ≠ gb316) (.slice A0_2 l0_2.length c0_2) l0_2) := ⟨by rw [← hq_]; exact (by (with_reducible repeat (first | apply Kd.V_alloc | apply Kd.V_drewN | apply Kd.V_drew)); exact HO_307002.out)⟩; have n4_ : Aside0 (w28.heap[gb306]? = some (.cells #[.int .i64 a0_0, .int .i64 a0_1, .slice A0_2 l0_2.length c0_2] 31 (0, 0))) := ⟨by rw [← hq_]; exact (upK BK306)⟩; have n5_ : Aside0 (w28.heap[gb316]? = some (.cells #[.int .i64 ((rd_T31 y312 x13_1).f0), .int .i64 ((rd_T31 y312 x13_1).f1), .slice A315_2 ((rd_T31 y312 x13_1).f2).length c315_2] 31 (0, 0))) := ⟨by rw [← hq_]; exact (upK BK316)⟩; have n6_ : Aside0 (Below w.heap.size w w28) := ⟨by rw [← hq_]; exact (upW HB)⟩; have n7_ : Aside0 (Kd.C k73 w28 A315_2 ((rd_T31 y312 x13_1).f2).length ((rd_T31 y312 x13_1).f2)) := ⟨by rw [← hq_]; exact (by repeat (first | (with_reducible exact HR315_2.out) | (with_reducible refine Kd.C_alloc ?_ _) | (with_reducible refine Kd.C_drewN ?_ _) | (with_reducible refine Kd.C_drew ?_) | exact HR315_2.out))⟩; have n8_ : Aside0 (Kd.C (Kd.int .i64) w28 (some ad321) (rd_L5 t317 x20_2).length (rd_L5 t317 x20_2)) := ⟨by rw [← hq_]; exact (by repeat (first | (with_reducible exact HR320_0.out) | (with_reducible refine Kd.C_alloc ?_ _) | (with_reducible refine Kd.C_drewN ?_ _) | (with_reducible refine Kd.C_drew ?_) | exact HR320_0.out))⟩; clear HL320_0 HO_11 HO_18 HO_307002 BK306 BK316 HB HR315_2 HR320_0 hq_; have HL320_0 := n0_; have HO_11 := n1_; have HO_18 := n2_; have HO_307002 := n3_; have BK306 := n4_; have BK316 := n5_; have HB := n6_; have HR315_2 := n7_; have HR320_0 := n8_; clear n0_ n1_ n2_ n3_ n4_ n5_ n6_ n7_ n8_))
               have n0_ := Aside0.mk (Kd.N_drew HO_11.out)
               have n1_ := Aside0.mk (Kd.N_drew HO_18.out)
               have n2_ := Aside0.mk (Kd.V_drew HO_307002.out)
               have n3_ := Aside0.mk (Kd.V_drew HL320_0.out)
               have n4_ := Aside0.mk (blk_drew BK306.out)
               have n5_ := Aside0.mk (blk_drew BK316.out)
               have n6_ := Aside0.mk (Kd.C_drew HR315_2.out)
               have n7_ := Aside0.mk (Kd.C_drew HR320_0.out)
               have n8_ := Aside0.mk (below_drew1 HB.out)
               clear HO_11
               clear HO_18
               clear HO_307002
               clear HL320_0
               clear BK306
               clear BK316
               clear HR315_2
               clear HR320_0
               clear HB
               have HO_11 := n0_
               have HO_18 := n1_
               have HO_307002 := n2_
               have HL320_0 := n3_
               have BK306 := n4_
               have BK316 := n5_
               have HR315_2 := n6_
               have HR320_0 := n7_
               have HB := n8_
               clear n0_ n1_ n2_ n3_ n4_ n5_ n6_ n7_ n8_
               have p323 : 0 ≤ (2 : Int) := (by omega)
               have q323 : 2 < ((rd_L5 t317 x20_2).length : Int) := of_decide_eq_true (by first | (with_reducible assumption) | assumption)
               obtain ⟨ad323, e323, hx323_0⟩ := Kd.at_int (by repeat (first | (with_reducible exact HR320_0.out) | (with_reducible refine Kd.C_alloc ?_ _) | (with_reducible refine Kd.C_drewN ?_ _) | (with_reducible refine Kd.C_drew ?_) | exact HR320_0.out)) 2 p323 q323
               obtain rfl : ad321 = ad323 := (by injection e323)
               (try simp only [show (2 : Int).toNat = 2 from rfl, Nat.reduceMul, Nat.reduceEqDiff, Go.Addr.add, ↓reduceIte] at hx323_0)
               have qi323 : (2 < (rd_L5 t317 x20_2).length) = True := eq_true (by omega)
               (try rw [show ((2 : Int)).toNat = 2 from rfl] at hx323_0)
               replace p323 := eq_true p323
               replace q323 := eq_true q323
               have p324 : 0 ≤ (1 : Int) := (by omega)
               have q324 : 1 < ((rd_L5 t317 x20_2).length : Int) := of_decide_eq_true (by first | (with_reducible assumption) | assumption)
               obtain ⟨ad324, e324, hx324_0⟩ := Kd.at_int (by repeat (first | (with_reducible exact HR320_0.out) | (with_reducible refine Kd.C_alloc ?_ _) | (with_reducible refine Kd.C_drewN ?_ _) | (with_reducible refine Kd.C_drew ?_) | exact HR320_0.out)) 1 p324 q324
               obtain rfl : ad321 = ad324 := (by injection e324)
               (try simp only [show (1 : Int).toNat = 1 from rfl, Nat.reduceMul, Nat.reduceEqDiff, Go.Addr.add, ↓reduceIte] at hx324_0)
               have qi324 : (1 < (rd_L5 t317 x20_2).length) = True := eq_true (by omega)
               (try rw [show ((1 : Int)).toNat = 1 from rfl] at hx324_0)
               replace p324 := eq_true p324
               replace q324 := eq_true q324
               refine start_ (n := 10) (S := fun w' => w'.cell? ⟨ad321.block, ad321.off + 2, none⟩ = some (.int .i64 (rd (rd_L5 t317 x20_2) 2)) ∧ w'.cell? ⟨ad321.block, ad321.off + 1, none⟩ = some (.int .i64 (rd (rd_L5 t317 x20_2) 1))) (ds := []) #[false, false, false, false, false, false, false, false, false, false] (by kernel_rfl) rfl rfl ⟨hx323_0, hx324_0⟩ (fun hHeld => ?_); refine with_tabW impl_Cut_longestLine.tab9 impl_Cut_longestLine.bits9 (fun HT_ HW_ => ?_)
               generalize w28.drew = w29 at HO_11 HO_18 HO_307002 HL320_0 BK306 BK316 HR315_2 HR320_0 HB hx323_0 hx324_0 hHeld ⊢
               refine pure_ (i := 0) (N := some 31) (v := ?_) (a' := ?_) #[true, false, false, false, false, false, false, false, false, false] rfl rfl (any_of HT_.out (by kernel_rfl)) (fun _ _ _ h => h) (Or.inl ⟨by rfl, ?_⟩) ?_ ?_
               rotate_left
               ·intro w'
                go_simp
                with_reducible rfl
               rotate_left
               ·simp only [Act.put, List.setIfInBounds_toArray, List.set_cons_zero, List.set_cons_succ, i64_w, i32_w]
                rfl
               refine pure_ (i := 1) (N := some 32) (v := ?_) (a' := ?_) #[true, true, false, false, false, false, false, false, false, false] rfl rfl (any_of HT_.out (by kernel_rfl)) (fun _ _ _ h => h) (Or.inl ⟨by rfl, ?_⟩) ?_ ?_
               rotate_left
               ·intro w'
                go_simp
                with_reducible rfl
               rotate_left
               ·simp only [Act.put, List.setIfInBounds_toArray, List.set_cons_zero, List.set_cons_succ, i64_w, i32_w]
                rfl
               refine pure_ (i := 2) (N := some 33) (v := ?_) (a' := ?_) #[true, true, true, false, false, false, false, false, false, false] rfl rfl (any_of HT_.out (by kernel_rfl)) (fun _ _ _ h => h) (Or.inl ⟨by rfl, ?_⟩) ?_ ?_
               rotate_left
               ·intro w'
                go_simp
                with_reducible rfl
               rotate_left
               ·simp only [Act.put, List.setIfInBounds_toArray, List.set_cons_zero, List.set_cons_succ, i64_w, i32_w]
                rfl
               refine pure_ (i := 4) (N := some 35) (v := ?_) (a' := ?_) #[true, true, true, false, true, false, false, false, false, false] rfl rfl (any_of HT_.out (by kernel_rfl)) (fun _ _ _ h => h) (Or.inl ⟨by rfl, ?_⟩) ?_ ?_
               rotate_left
               ·intro w'
                go_simp
                with_reducible rfl
               rotate_left
               ·simp only [Act.put, List.setIfInBounds_toArray, List.set_cons_zero, List.set_cons_succ, i64_w, i32_w]
                rfl
               refine pure_ (i := 5) (N := some 36) (v := ?_) (a' := ?_) #[true, true, true, false, true, true, false, false, false, false] rfl rfl (any_of HT_.out (by kernel_rfl)) (fun _ _ _ h => h) (Or.inl ⟨by rfl, ?_⟩) ?_ ?_
               rotate_left
               ·intro w'
                go_simp
                with_reducible rfl
               rotate_left
               ·simp only [Act.put, List.setIfInBounds_toArray, List.set_cons_zero, List.set_cons_succ, i64_w, i32_w]
                rfl
               refine take_ (i := 3) (N := some 34) (v := ?_) (a' := ?_) #[true, true, true, true, true, true, false, false, false, false] rfl rfl (take_ofW HT_.out HW_.out (by kernel_rfl)) (fun _ _ _ h => h) (Or.inl ⟨by rfl, ?_⟩) hHeld ?_ ?_
               rotate_left
               ·rintro w' ⟨s0, s1⟩
                go_simp
                with_reducible rfl
               rotate_left
               ·simp only [Act.put, List.setIfInBounds_toArray, List.set_cons_zero, List.set_cons_succ, i64_w, i32_w]
                rfl
               refine take_ (i := 6) (N := some 37) (v := ?_) (a' := ?_) #[true, true, true, true, true, true, true, false, false, false] rfl rfl (take_ofW HT_.out HW_.out (by kernel_rfl)) (fun _ _ _ h => h) (Or.inl ⟨by rfl, ?_⟩) hHeld ?_ ?_
               rotate_left
               ·rintro w' ⟨s0, s1⟩
                go_simp
                with_reducible rfl
               rotate_left
               ·simp only [Act.put, List.setIfInBounds_toArray, List.set_cons_zero, List.set_cons_succ, i64_w, i32_w]
                rfl
               refine pure_ (i := 7) (N := some 38) (v := ?_) (a' := ?_) #[true, true, true, true, true, true, true, true, false, false] rfl rfl (any_of HT_.out (by kernel_rfl)) (fun _ _ _ h => h) (Or.inl ⟨by rfl, ?_⟩) ?_ ?_
               rotate_left
               ·intro w'
                go_simp
                with_reducible rfl
               rotate_left
               ·simp only [Act.put, List.setIfInBounds_toArray, List.set_cons_zero, List.set_cons_succ, i64_w, i32_w]
                rfl
               refine pure_ (i := 8) (N := some 39) (v := ?_) (a' := ?_) #[true, true, true, true, true, true, true, true, true, false] rfl rfl (any_of HT_.out (by kernel_rfl)) (fun _ _ _ h => h) (Or.inl ⟨by rfl, ?_⟩) ?_ ?_
               rotate_left
               ·intro w'
                go_simp
                with_reducible rfl
               rotate_left
               ·simp only [Act.put, List.setIfInBounds_toArray, List.set_cons_zero, List.set_cons_succ, i64_w, i32_w]
                rfl
               refine pure_ (i := 9) (N := some 3) (v := ?_) (a' := ?_) #[true, true, true, true, true, true, true, true, true, true] rfl rfl (any_of HT_.out (by kernel_rfl)) (fun _ _ _ h => h) (Or.inl ⟨by rfl, ?_⟩) ?_ ?_
               rotate_left
               ·intro w'
                go_simp
                with_reducible rfl
               rotate_left
               ·simp only [Act.put, List.setIfInBounds_toArray, List.set_cons_zero, List.set_cons_succ, i64_w, i32_w]
                rfl
               refine done_ (done_of HT_.out (by kernel_rfl)) ?_
               try go_wp2
               go_roundg k2
               case measure => have := HK1.out; have := HK2.out; omega
               case rel => exact ⟨(ji27), (wrap64 (x20_2 + 1)), (by first | rfl | (simp; done) | (simp only [← hji27] <;> (first | rfl | simp)) | (simp [*]; done)), (by first | rfl | (simp; done) | (simp [*]; done)), H', ⟨by have := HK1.out; have := HK2.out; omega⟩, ⟨by (with_reducible repeat (first | apply Kd.N_alloc | apply Kd.N_drewN | apply Kd.N_drew)); exact HO_11.out⟩, ⟨by (with_reducible repeat (first | apply Kd.N_alloc | apply Kd.N_drewN | apply Kd.N_drew)); exact HO_18.out⟩, ⟨by (with_reducible repeat (first | apply Kd.V_alloc | apply Kd.V_drewN | apply Kd.V_drew)); exact HO_307002.out⟩, ⟨upK BK306⟩, ⟨upK BK316⟩, ⟨by repeat (first | (with_reducible exact HR315_2.out) | (with_reducible refine Kd.C_alloc ?_ _) | (with_reducible refine Kd.C_drewN ?_ _) | (with_reducible refine Kd.C_drew ?_) | exact HR315_2.out)⟩, ⟨upW HB⟩⟩
              ·rw [if_neg c26] at H
               exact absurd H (by simp)
             ·rw [if_neg c25] at H
              exact absurd H (by simp)
            ·replace c24 := Bool.eq_false_iff.mpr c24
             subst c24
             have H1 : (impl_Cut_longestLine.l1 k2 x3_2 y312 (y312.length : Int) x13_1 t317 (t317.length : Int) (wrap64 (x20_2 + 1)) ((rd_T31 y312 x13_1).f0) ((rd_T31 y312 x13_1).f1) ((rd_T31 y312 x13_1).f2)) = some r := by rw [if_neg (show ¬ (false = true) by decide)] at H; exact H
             clear H
             have H := H1
             clear H1
             have H' := Aside0.mk H
             clear H
             have p320 : 0 ≤ (x20_2 : Int) := of_decide_eq_true (by first | (with_reducible assumption) | assumption)
             have q320 : x20_2 < (t317.length : Int) := of_decide_eq_true (by first | (with_reducible assumption) | assumption)
             obtain ⟨ad320, A320_0, c320_0, e320, hx320_0, hl320_0, hi320_0⟩ := at_L5 (Kd.N_reads' HO_18.out).2.2 x20_2 p320 q320
             cases e320
             obtain ⟨ce320, hce320, hMe320, hcc320⟩ := Kd.N_get HO_18.out [] x20_2 p320 (by first | exact q320 | exact of_decide_eq_true (by first | (with_reducible assumption) | assumption) | (have e_ := (Kd.N_reads' HO_18.out).1; omega))
             obtain ⟨ua320_0, uc320_0, rfl, ul320_0, ge320_0⟩ := Kd.FK_slice_open hMe320
             have hv320_0 := hcc320 0 _ rfl
             rw [Nat.add_zero, show ((Kd.slice 3 (Kd.int .i64))).sz = 1 from rfl, Nat.mul_one] at hv320_0
             replace hv320_0 := Option.some.inj (hv320_0.symm.trans hx320_0)
             injection hv320_0 with hva_ hvn_ hvc_
             rw [hva_] at ge320_0
             rw [hvc_] at ul320_0
             have HL320_0 := Aside0.mk (show Kd.V (Kd.int .i64) 3 _ w.heap.size _ _ (rd_L5 t317 x20_2) from Kd.V_mk ul320_0 ge320_0)
             clear hva_ hvn_ hvc_ ge320_0 ul320_0
             clear hcc320 hce320
             have HR320_0 := Aside0.mk hi320_0
             have HC320_0 := Aside0.mk hl320_0
             clear hi320_0 hl320_0
             replace p320 := eq_true p320
             replace q320 := eq_true q320
             try go_wp2
             have n0_ := Aside0.mk (Kd.N_drew HO_11.out)
             have n1_ := Aside0.mk (Kd.N_drew HO_18.out)
             have n2_ := Aside0.mk (Kd.V_drew HO_307002.out)
             have n3_ := Aside0.mk (Kd.V_drew HL320_0.out)
             have n4_ := Aside0.mk (blk_drew BK306.out)
             have n5_ := Aside0.mk (blk_drew BK316.out)
             have n6_ := Aside0.mk (Kd.C_drew HR315_2.out)
             have n7_ := Aside0.mk (Kd.C_drew HR320_0.out)
             have n8_ := Aside0.mk (below_drew1 HB.out)
             clear HO_11
             clear HO_18
             clear HO_307002
             clear HL320_0
             clear BK306
             clear BK316
             clear HR315_2
             clear HR320_0
             clear HB
             have HO_11 := n0_
             have HO_18 := n1_
             have HO_307002 := n2_
             have HL320_0 := n3_
             have BK306 := n4_
             have BK316 := n5_
             have HR315_2 := n6_
             have HR320_0 := n7_
             have HB := n8_
             clear n0_ n1_ n2_ n3_ n4_ n5_ n6_ n7_ n8_
             have p321 : 0 ≤ (0 : Int) := (by omega)
             have q321 : 0 < ((rd_L5 t317 x20_2).length : Int) := of_decide_eq_true (by first | (with_reducible assumption) | assumption)
             obtain ⟨ad321, e321, hx321_0⟩ := Kd.at_int (by repeat (first | (with_reducible exact HR320_0.out) | (with_reducible refine Kd.C_alloc ?_ _) | (with_reducible refine Kd.C_drewN ?_ _) | (with_reducible refine Kd.C_drew ?_) | exact HR320_0.out)) 0 p321 q321
             cases e321
             have qi321 : (0 < (rd_L5 t317 x20_2).length) = True := eq_true (by omega)
             (try rw [show ((0 : Int)).toNat = 0 from rfl] at hx321_0)
             (try rw [Addr.add_zero'] at hx321_0)
             replace p321 := eq_true p321
             replace q321 := eq_true q321
             refine start_ (n := 7) (S := fun w' => w'.cell? ⟨gb316, 0, none⟩ = some (.int .i64 ((rd_T31 y312 x13_1).f0)) ∧ w'.cell? ⟨gb316, 1, none⟩ = some (.int .i64 ((rd_T31 y312 x13_1).f1)) ∧ w'.cell? ⟨gb316, 2, none⟩ = some (.slice A315_2 ((rd_T31 y312 x13_1).f2).length c315_2) ∧ w'.cell? ad321 = some (.int .i64 (rd (rd_L5 t317 x20_2) 0))) (ds := []) #[false, false, false, false, false, false, false] (by kernel_rfl) rfl rfl ⟨(blk_cell BK316.out 0).trans rfl, (blk_cell BK316.out 1).trans rfl, (blk_cell BK316.out 2).trans rfl, hx321_0⟩ (fun hHeld => ?_)
             generalize wr.drew = w30 at HO_11 HO_18 HO_307002 HL320_0 BK306 BK316 HR315_2 HR320_0 HB hx321_0 hHeld ⊢
             refine pure_ (i := 0) (N := some 24) (v := ?_) (a' := ?_) #[true, false, false, false, false, false, false] rfl rfl (by kernel_rfl) (fun _ _ _ h => h) (Or.inl ⟨by rfl, ?_⟩) ?_ ?_
             rotate_left
             ·intro w'
              go_simp
              with_reducible rfl
             rotate_left
             ·simp only [Act.put, List.setIfInBounds_toArray, List.set_cons_zero, List.set_cons_succ, i64_w, i32_w]
              rfl
             refine pure_ (i := 1) (N := some 25) (v := ?_) (a' := ?_) #[true, true, false, false, false, false, false] rfl rfl (by kernel_rfl) (fun _ _ _ h => h) (Or.inl ⟨by rfl, ?_⟩) ?_ ?_
             rotate_left
             ·intro w'
              go_simp
              with_reducible rfl
             rotate_left
             ·simp only [Act.put, List.setIfInBounds_toArray, List.set_cons_zero, List.set_cons_succ, i64_w, i32_w]
              rfl
             refine pure_ (i := 3) (N := some 27) (v := ?_) (a' := ?_) #[true, true, false, true, false, false, false] rfl rfl (by kernel_rfl) (fun _ _ _ h => h) (Or.inl ⟨by rfl, ?_⟩) ?_ ?_
             rotate_left
             ·intro w'
              go_simp
              with_reducible rfl
             rotate_left
             ·simp only [Act.put, List.setIfInBounds_toArray, List.set_cons_zero, List.set_cons_succ, i64_w, i32_w]
              rfl
             refine take_ (i := 2) (N := some 26) (v := ?_) (a' := ?_) #[true, true, true, true, false, false, false] rfl rfl (by kernel_rfl) (fun _ _ _ h => h) (Or.inl ⟨by rfl, ?_⟩) hHeld ?_ ?_
             rotate_left
             ·rintro w' ⟨s0, s1, s2, s3⟩
              go_simp
              with_reducible rfl
             rotate_left
             ·simp only [Act.put, List.setIfInBounds_toArray, List.set_cons_zero, List.set_cons_succ, i64_w, i32_w]
              rfl
             refine take_ (i := 4) (N := some 28) (v := ?_) (a' := ?_) #[true, true, true, true, true, false, false] rfl rfl (by kernel_rfl) (fun _ _ _ h => h) (Or.inl ⟨by rfl, ?_⟩) hHeld ?_ ?_
             rotate_left
             ·rintro w' ⟨s0, s1, s2, s3⟩
              go_simp
              with_reducible rfl
             rotate_left
             ·simp only [Act.put, List.setIfInBounds_toArray, List.set_cons_zero, List.set_cons_succ, i64_w, i32_w]
              rfl
             refine pure_ (i := 5) (N := some 29) (v := ?_) (a' := ?_) #[true, true, true, true, true, true, false] rfl rfl (by kernel_rfl) (fun _ _ _ h => h) (Or.inl ⟨by rfl, ?_⟩) ?_ ?_
             rotate_left
             ·intro w'
              go_simp
              with_reducible rfl
             rotate_left
             ·simp only [Act.put, List.setIfInBounds_toArray, List.set_cons_zero, List.set_cons_succ, i64_w, i32_w]
              rfl
             refine one_ (i := 6) (N := some 30) #[true, true, true, true, true, true, true] rfl rfl (by kernel_rfl) (by decide) (fun K hK => ?_)
             refine goes_ Try.func66 (by kernel_rfl) rfl #[.int .i64 (rd (rd_L5 t317 x20_2) 0), .int .i64 1, .int .i64 (wrap64 (((rd_T31 y312 x13_1).f1) - 1))] (by rfl) rfl rfl itp ?_
             with_reducible refine (impl_within.calls (rd (rd_L5 t317 x20_2) 0) 1 (wrap64 (((rd_T31 y312 x13_1).f1) - 1)) false _ A23.out).mono ?_
             rintro e w' ⟨rfl, ⟨nd, rfl⟩⟩
             refine ⟨_, rfl, ?_⟩
             refine hK.out _ _ ⟨(blk_cell BK316.out 0).trans rfl, (blk_cell BK316.out 1).trans rfl, (blk_cell BK316.out 2).trans rfl, hHeld.2.2.2⟩ (fun hHeld => ?_)
             clear hK K
             refine norm_ (a' := ?_) ?_ ?_
             rotate_left
             ·show Act.put _ (some 30) _ = _
              simp only [Act.put, List.setIfInBounds_toArray, List.set_cons_zero, List.set_cons_succ, i64_w, i32_w]
              rfl
             refine done_ (by kernel_rfl) ?_
             try go_wp2
             go_roundg k2
             case measure => have := HK1.out; have := HK2.out; omega
             case rel => exact ⟨(x3_2), (wrap64 (x20_2 + 1)), (by first | rfl | (simp; done) | (simp [*]; done)), (by first | rfl | (simp; done) | (simp [*]; done)), H', ⟨by have := HK1.out; have := HK2.out; omega⟩, ⟨by (with_reducible repeat (first | apply Kd.N_alloc | apply Kd.N_drewN | apply Kd.N_drew)); exact HO_11.out⟩, ⟨by (with_reducible repeat (first | apply Kd.N_alloc | apply Kd.N_drewN | apply Kd.N_drew)); exact HO_18.out⟩, ⟨by (with_reducible repeat (first | apply Kd.V_alloc | apply Kd.V_drewN | apply Kd.V_drew)); exact HO_307002.out⟩, ⟨upK BK306⟩, ⟨upK BK316⟩, ⟨by repeat (first | (with_reducible exact HR315_2.out) | (with_reducible refine Kd.C_alloc ?_ _) | (with_reducible refine Kd.C_drewN ?_ _) | (with_reducible refine Kd.C_drew ?_) | exact HR315_2.out)⟩, ⟨upW HB⟩⟩
           ·rw [if_neg c22] at H
            exact absurd H (by simp)
          ·rw [if_neg c21] at H
           exact absurd H (by simp)
         ·rw [if_neg c20] at H
          exact absurd H (by simp)
        ·rw [if_neg c19] at H
         have c19b0 : decide (x20_2 < (t317.length : Int)) = false := decide_eq_false c19
         clear c19
         have H' := Aside0.mk H
         clear H
         go_wp2
         go_roundg k2
         case measure => have := HK1.out; have := HK2.out; omega
         case rel => exact ⟨(x3_2), (wrap64 (x13_1 + 1)), (by first | rfl | (simp; done) | (simp [*]; done)), (by first | rfl | (simp; done) | (simp [*]; done)), H', ⟨by have := HK1.out; have := HK2.out; omega⟩, ⟨by (with_reducible repeat (first | apply Kd.N_alloc | apply Kd.N_drewN | apply Kd.N_drew)); exact Kd.N_mono HO_11.out (fun _ hk => ⟨hk.1, hk.2.2.1⟩)⟩, ⟨by (with_reducible repeat (first | apply Kd.V_alloc | apply Kd.V_drewN | apply Kd.V_drew)); exact Kd.V_mono HO_307002.out (fun _ hk => ⟨hk.1, ⟨hk.2.1, hk.2.2.2.1⟩⟩)⟩, ⟨upK BK306⟩, ⟨upW HB⟩⟩
     ·rw [if_neg c12] at H
      exact absurd H (by simp)
    ·rw [if_neg c11] at H
     exact absurd H (by simp)
   ·rw [if_neg c10] at H
    have c10b0 : decide (x13_1 < (y312.length : Int)) = false := decide_eq_false c10
    clear c10
    obtain rfl := Option.some.inj H
    go_wp2
    go_ret
    exact ⟨by first | rfl | (simp [errW_none, errW_some] <;> rfl) | (simp [*, errW_none, errW_some] <;> rfl), by repeat (first | (with_reducible first | exact HB.out | apply below_alloc | apply pw_below_drewN | apply below_drew1 | refine below_set ?_ GE306.out) | exact HB.out)⟩

/-! ### impl_LongestLine: function 35 -/
def impl_LongestLine.f (k : Nat) (a0_0 : Int) (a0_1 : Int) (l0_2 : List (S73)) : Option (Int × Bool) := (impl_IsCut.f k a0_0 a0_1 l0_2).bind fun t326 => (if t326 = true then ((impl_Cut_longestLine.f k a0_0 a0_1 l0_2).bind fun t327 => (some (t327, true))) else (some (0, false)))
set_option maxHeartbeats 8000000 in
set_option maxRecDepth 100000 in
theorem impl_LongestLine.calls (k : Nat) (a0_0 : Int) (a0_1 : Int) (A0_2 : Option Addr) (c0_2 : Nat) (l0_2 : List (S73)) (r1 : Int) (r2 : Bool) (w : World) (hr0_2 : Kd.C k73 w A0_2 l0_2.length l0_2) (hc0_2 : l0_2.length ≤ c0_2) (h : impl_LongestLine.f k a0_0 a0_1 l0_2 = some (r1, r2)) :
  Calls Try.prog 35 #[.agg #[.int .i64 a0_0, .int .i64 a0_1, .slice A0_2 l0_2.length c0_2]] w fun e w' => e = .returned (.tuple #[.int .i64 r1, .bool r2]) ∧ Below w.heap.size w w' := by
 have hu31 := Try.underlying31
 have HR0_2 := Aside0.mk hr0_2
 have HC0_2 := Aside0.mk hc0_2
 clear hr0_2 hc0_2
 have HB := Aside0.mk (Below.refl w.heap.size w)
 have H : ((impl_IsCut.f k a0_0 a0_1 l0_2).bind fun t326 => (if t326 = true then ((impl_Cut_longestLine.f k a0_0 a0_1 l0_2).bind fun t327 => (some (t327, true))) else (some (0, false)))) = some (r1, r2) := h
 clear h
 replace H := Option.bind_eq_some_iff.mp H
 obtain ⟨t326, A20, H⟩ := H
 replace H : (if t326 = true then ((impl_Cut_longestLine.f k a0_0 a0_1 l0_2).bind fun t327 => (some (t327, true))) else (some (0, false))) = some (r1, r2) := H
 have A2 := Aside0.mk A20
 clear A20
 by_cases c3 : t326 = true
 ·subst c3
  have H1 : ((impl_Cut_longestLine.f k a0_0 a0_1 l0_2).bind fun t327 => (some (t327, true))) = some (r1, r2) := by rw [if_pos rfl] at H; exact H
  clear H
  have H := H1
  clear H1
  replace H := Option.bind_eq_some_iff.mp H
  obtain ⟨t327, A40, H⟩ := H
  replace H : (some (t327, true)) = some (r1, r2) := H
  have A4 := Aside0.mk A40
  clear A40
  simp only [Option.some.injEq, Prod.mk.injEq] at H
  obtain ⟨rfl, rfl⟩ := H
  go_enter Try.func35, Try.ntmps35
  go_wp2_with (first | ((with_reducible refine gate_dst (N := 1) rfl ?_); refine box_event ?hg (N := 1) ?hd (cs := #[.int .i64 a0_0, .int .i64 a0_1, .slice A0_2 l0_2.length c0_2]) (t := 31) ?hr ?_; (case hd => rfl); (case hg => rfl); (case hr => first | (go_simp; done) | (go_simp; rfl)); intro gb325 hg w5 hbox hb; have n0_ := Aside0.mk (below_step (upW HB) hb); have n1_ := Aside0.mk (hbox); have n2_ := Aside0.mk ((by rw [hg]; exact (below_size (upW HB)) : w.heap.size ≤ gb325)); have n3_ := Aside0.mk ((by rw [hg]; exact (below_size (upW HB)) : w.heap.size ≤ gb325)); clear HB; have HB := n0_; have BK325 := n1_; have GW325 := n2_; have GE325 := n3_; clear n0_ n1_ n2_ n3_; clear hb hbox hg; have hcz6_0 : w5.cell? ⟨gb325, 0, none⟩ = some (.int .i64 a0_0) := (blk_cell BK325.out 0).trans rfl; have hcz6_1 : w5.cell? ⟨gb325, 1, none⟩ = some (.int .i64 a0_1) := (blk_cell BK325.out 1).trans rfl; have hcz6_2 : w5.cell? ⟨gb325, 2, none⟩ = some (.slice A0_2 l0_2.length c0_2) := (blk_cell BK325.out 2).trans rfl; have hfz6_0 := blk_frozen BK325.out 0; have hfz6_1 := blk_frozen BK325.out 1; have hfz6_2 := blk_frozen BK325.out 2) | ((with_reducible refine gate_callee (f := 56) rfl ?_); refine goesL_ (some 5) rfl rfl Try.func56 (by kernel_rfl) rfl #[.agg #[.int .i64 a0_0, .int .i64 a0_1, .slice A0_2 l0_2.length c0_2]] rfl itp ?_; (with_reducible refine (impl_IsCut.calls k a0_0 a0_1 _ _ l0_2 true _ ?side1 ?side2 A2.out).mono ?_); (case side1 => repeat (first | exact (Kd.C_below HR0_2.out HB.out) | (with_reducible refine Kd.C_alloc ?_ _) | (with_reducible refine Kd.C_drewN ?_ _) | (with_reducible refine Kd.C_drew ?_))); (case side2 => exact HC0_2.out); rintro e w7 ⟨rfl, hb⟩; refine ⟨_, rfl, ?_⟩; have n0_ := Aside0.mk (blk_below (upK BK325) hb); have n1_ := Aside0.mk (below_step (upW HB) hb); clear BK325; clear HB; have BK325 := n0_; have HB := n1_; clear n0_ n1_; (try clear hb); (try clear hb2); (try clear hk); (try clear hi); have hcz8_0 : w7.cell? ⟨gb325, 0, none⟩ = some (.int .i64 a0_0) := (blk_cell BK325.out 0).trans rfl; have hcz8_1 : w7.cell? ⟨gb325, 1, none⟩ = some (.int .i64 a0_1) := (blk_cell BK325.out 1).trans rfl; have hcz8_2 : w7.cell? ⟨gb325, 2, none⟩ = some (.slice A0_2 l0_2.length c0_2) := (blk_cell BK325.out 2).trans rfl; have hfz8_0 := blk_frozen BK325.out 0; have hfz8_1 := blk_frozen BK325.out 1; have hfz8_2 := blk_frozen BK325.out 2) | ((with_reducible refine gate_callee (f := 74) rfl ?_); refine goesL_ (some 8) rfl rfl Try.func74 (by kernel_rfl) rfl #[.agg #[.int .i64 a0_0, .int .i64 a0_1, .slice A0_2 l0_2.length c0_2]] rfl itp ?_; (with_reducible refine (impl_Cut_longestLine.calls k a0_0 a0_1 (fun k_ => k_ < w.heap.size) _ _ l0_2 t327 _ ?side1 A4.out).mono ?_); (case side1 => exact Kd.V_mk HC0_2.out (Kd.F_below (Kd.C_F k73_heap HR0_2.out) (upW HB))); rintro e w9 ⟨rfl, hb⟩; refine ⟨_, rfl, ?_⟩; have n0_ := Aside0.mk (blk_below (upK BK325) hb); have n1_ := Aside0.mk (below_step (upW HB) hb); clear BK325; clear HB; have BK325 := n0_; have HB := n1_; clear n0_ n1_; (try clear hb); (try clear hb2); (try clear hk); (try clear hi)))
  go_ret2
  exact ⟨by first | rfl | (simp [errW_none, errW_some] <;> rfl) | (simp [*, errW_none, errW_some] <;> rfl), by repeat (first | (with_reducible first | exact HB.out | apply below_alloc | apply pw_below_drewN | apply below_drew1 | refine below_set ?_ GE325.out) | exact HB.out)⟩
 ·replace c3 := Bool.eq_false_iff.mpr c3
  subst c3
  have H1 : (some (0, false)) = some (r1, r2) := by rw [if_neg (show ¬ (false = true) by decide)] at H; exact H
  clear H
  have H := H1
  clear H1
  simp only [Option.some.injEq, Prod.mk.injEq] at H
  obtain ⟨rfl, rfl⟩ := H
  go_enter Try.func35, Try.ntmps35
  go_wp2_with (first | ((with_reducible refine gate_dst (N := 1) rfl ?_); refine box_event ?hg (N := 1) ?hd (cs := #[.int .i64 a0_0, .int .i64 a0_1, .slice A0_2 l0_2.length c0_2]) (t := 31) ?hr ?_; (case hd => rfl); (case hg => rfl); (case hr => first | (go_simp; done) | (go_simp; rfl)); intro gb325 hg w10 hbox hb; have n0_ := Aside0.mk (below_step (upW HB) hb); have n1_ := Aside0.mk (hbox); have n2_ := Aside0.mk ((by rw [hg]; exact (below_size (upW HB)) : w.heap.size ≤ gb325)); have n3_ := Aside0.mk ((by rw [hg]; exact (below_size (upW HB)) : w.heap.size ≤ gb325)); clear HB; have HB := n0_; have BK325 := n1_; have GW325 := n2_; have GE325 := n3_; clear n0_ n1_ n2_ n3_; clear hb hbox hg; have hcz11_0 : w10.cell? ⟨gb325, 0, none⟩ = some (.int .i64 a0_0) := (blk_cell BK325.out 0).trans rfl; have hcz11_1 : w10.cell? ⟨gb325, 1, none⟩ = some (.int .i64 a0_1) := (blk_cell BK325.out 1).trans rfl; have hcz11_2 : w10.cell? ⟨gb325, 2, none⟩ = some (.slice A0_2 l0_2.length c0_2) := (blk_cell BK325.out 2).trans rfl; have hfz11_0 := blk_frozen BK325.out 0; have hfz11_1 := blk_frozen BK325.out 1; have hfz11_2 := blk_frozen BK325.out 2) | ((with_reducible refine gate_callee (f := 56) rfl ?_); refine goesL_ (some 5) rfl rfl Try.func56 (by kernel_rfl) rfl #[.agg #[.int .i64 a0_0, .int .i64 a0_1, .slice A0_2 l0_2.length c0_2]] rfl itp ?_; (with_reducible refine (impl_IsCut.calls k a0_0 a0_1 _ _ l0_2 false _ ?side1 ?side2 A2.out).mono ?_); (case side1 => repeat (first | exact (Kd.C_below HR0_2.out HB.out) | (with_reducible refine Kd.C_alloc ?_ _) | (with_reducible refine Kd.C_drewN ?_ _) | (with_reducible refine Kd.C_drew ?_))); (case side2 => exact HC0_2.out); rintro e w12 ⟨rfl, hb⟩; refine ⟨_, rfl, ?_⟩; have n0_ := Aside0.mk (blk_below (upK BK325) hb); have n1_ := Aside0.mk (below_step (upW HB) hb); clear BK325; clear HB; have BK325 := n0_; have HB := n1_; clear n0_ n1_; (try clear hb); (try clear hb2); (try clear hk); (try clear hi)))
  go_ret2
  exact ⟨by first | rfl | (simp [errW_none, errW_some] <;> rfl) | (simp [*, errW_none, errW_some] <;> rfl), by repeat (first | (with_reducible first | exact HB.out | apply below_alloc | apply pw_below_drewN | apply below_drew1 | refine below_set ?_ GE325.out) | exact HB.out)⟩

end Go.Proofs.Ythnjbpabiamkjaa.PFnExactLongestLine
