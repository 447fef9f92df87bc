-- made for this claim by a program of this session
import Derived.Test.YthnjbpabiamkjaaPFnExactCutOfx0
import Derived.Test.YthnjbpabiamkjaaPFnExactCutOfx4
namespace Go.Proofs.Ythnjbpabiamkjaa.PFnExactCutOf
open Go.RowKit Go.Proofs.YthnjbpabiamkjaaW.PrintWords Go.Proofs.YthnjbpabiamkjaaW.PrintLast Go.Proofs.YthnjbpabiamkjaaW.PrintMore
attribute [local go_sem] max2_int min2_int max_two min_two max_three min_three max_four min_four   -- for this text's walks alone
set_option linter.unusedVariables false
set_option linter.unusedSimpArgs false

/-! ### impl_IsCut: function 56 -/
mutual
def impl_IsCut.j0 : Nat → Bool → Int → Int → List (S73) → Option (Bool)
 | 0, _, _, _, _ => none
 | k + 1, x21, x218000, x218001, x218002 => if x21 = true then (some false) else (impl_IsCut.l0 k 0 x218002 (x218002.length : Int) 0 x218000 x218001 x218002)
def impl_IsCut.l0 : Nat → Int → List (S73) → Int → Int → Int → Int → List (S73) → Option (Bool)
 | 0, _, _, _, _, _, _, _ => none
 | k + 1, x3, x23, x24, x25, x218000, x218001, x218002 => if x25 < x24 then (if 0 ≤ x25 then (if x25 < (x23.length : Int) then ((impl_within.f ((rd_T73 x23 x25).f2) 1 (mn x218000 x218001)).bind fun t222 => (if t222 = true then ((impl_within.f ((rd_T73 x23 x25).f0) 0 (wrap64 (x218000 - ((rd_T73 x23 x25).f2)))).bind fun t223 => (if t223 = true then ((impl_within.f ((rd_T73 x23 x25).f1) 0 (wrap64 (x218001 - ((rd_T73 x23 x25).f2)))).bind fun t224 => (impl_IsCut.j2 k x3 x25 x23 x24 x25 (!t224) x218000 x218001 x218002 ((rd_T73 x23 x25).f0) ((rd_T73 x23 x25).f1) ((rd_T73 x23 x25).f2))) else (impl_IsCut.j2 k x3 x25 x23 x24 x25 true x218000 x218001 x218002 ((rd_T73 x23 x25).f0) ((rd_T73 x23 x25).f1) ((rd_T73 x23 x25).f2)))) else (impl_IsCut.j2 k x3 x25 x23 x24 x25 true x218000 x218001 x218002 ((rd_T73 x23 x25).f0) ((rd_T73 x23 x25).f1) ((rd_T73 x23 x25).f2)))) else (none)) else (none)) else (some (x3 == (wrap64 (x218000 * x218001))))
def impl_IsCut.j2 : Nat → Int → Int → List (S73) → Int → Int → Bool → Int → Int → List (S73) → Int → Int → Int → Option (Bool)
 | 0, _, _, _, _, _, _, _, _, _, _, _, _ => none
 | k + 1, x3, x4, x23, x24, x25, x60, x218000, x218001, x218002, x222000, x222001, x222002 => if x60 = true then (some false) else (if x4 > 0 then (if 0 ≤ (wrap64 (x4 - 1)) then (if (wrap64 (x4 - 1)) < (x218002.length : Int) then ((impl_comparePlaces.f ((rd_T73 x218002 (wrap64 (x4 - 1))).f0) ((rd_T73 x218002 (wrap64 (x4 - 1))).f1) ((rd_T73 x218002 (wrap64 (x4 - 1))).f2) x222000 x222001 x222002).bind fun t226 => (if t226 ≥ 0 then (some false) else (if 0 ≤ x4 then (if x4 ≤ (x218002.length : Int) then ((slices_ContainsFunc_impl_Square_impl_Square__impl_IsCut_1.f (x218002.take (x4 : Int).toNat) x222000 x222001 x222002).bind fun t231 => (if t231 = true then (some false) else (impl_IsCut.l0 k (wrap64 (x3 + (wrap64 (x222002 * x222002)))) x23 x24 (wrap64 (x25 + 1)) x218000 x218001 x218002))) else (none)) else (none)))) else (none)) else (none)) else (if 0 ≤ x4 then (if x4 ≤ (x218002.length : Int) then ((slices_ContainsFunc_impl_Square_impl_Square__impl_IsCut_1.f (x218002.take (x4 : Int).toNat) x222000 x222001 x222002).bind fun t236 => (if t236 = true then (some false) else (impl_IsCut.l0 k (wrap64 (x3 + (wrap64 (x222002 * x222002)))) x23 x24 (wrap64 (x25 + 1)) x218000 x218001 x218002))) else (none)) else (none)))
end
def impl_IsCut.f (k : Nat) (a0_0 : Int) (a0_1 : Int) (l0_2 : List (S73)) : Option (Bool) := (impl_isWide.f a0_0).bind fun t218 => (if t218 = true then ((impl_isWide.f a0_1).bind fun t219 => (if t219 = true then (impl_IsCut.j0 k (decide ((l0_2.length : Int) > 30)) a0_0 a0_1 l0_2) else (impl_IsCut.j0 k true a0_0 a0_1 l0_2))) else (impl_IsCut.j0 k true a0_0 a0_1 l0_2))
def impl_IsCut.T9 : Bool × List (List Nat × List Nat) := (true, [([], []), ([0], [0]), ([1], [1]), ([2], [2]), ([3, 2], [2, 3]), ([2], [2]), ([5, 2], [2, 5]), ([4, 6, 2], [2, 4, 6]), ([7, 2], [2, 7]), ([2], [2]), ([8, 9, 2, 2], [2, 8, 9]), ([10, 2], [2, 10]), ([2, 11], [2, 11]), ([12, 10], [12]), ([13], [13]), ([14, 13], [13, 14]), ([13], [13]), ([15, 16, 13], [13, 15, 16]), ([13], [13]), ([17, 18, 13, 13], [13, 17, 18]), ([13, 19], [13, 19])])
def impl_IsCut.B9 : List Nat := [0, 1, 3, 7, 15, 7, 39, 127, 255, 7, 1023, 2047, 4095, 8191, 16383, 32767, 16383, 131071, 16383, 524287, 1048575]
theorem impl_IsCut.tab9 : rtab .any (opsOf Try.f56 9) = impl_IsCut.T9 := by kernel_rfl
theorem impl_IsCut.bits9 : waitsOk impl_IsCut.T9.2 impl_IsCut.B9 = true := by kernel_rfl
set_option maxHeartbeats 8000000 in
set_option maxRecDepth 100000 in
theorem impl_IsCut.calls (k : Nat) (a0_0 : Int) (a0_1 : Int) (A0_2 : Option Addr) (c0_2 : Nat) (l0_2 : List (S73)) (r : Bool) (w : World) (hr0_2 : Kd.C k73 w A0_2 l0_2.length l0_2) (hc0_2 : l0_2.length ≤ c0_2) (h : impl_IsCut.f k a0_0 a0_1 l0_2 = some r) :
  Calls Try.prog 56 #[.agg #[.int .i64 a0_0, .int .i64 a0_1, .slice A0_2 l0_2.length c0_2]] w fun e w' => e = .returned (.bool r) ∧ Below w.heap.size w w' := by
 have hu31 := Try.underlying31
 have hu73 := Try.underlying73
 have hmf : ∀ (fn : Fn) (first cap : Array Value) (w : World), (Instr.makeFunc fn first cap).run Try.prog w = .ok (.func fn first cap) w := fun _ _ _ _ => rfl
 have HR0_2 := Aside0.mk hr0_2
 have HC0_2 := Aside0.mk hc0_2
 clear hr0_2 hc0_2
 have HB := Aside0.mk (Below.refl w.heap.size w)
 have H : ((impl_isWide.f a0_0).bind fun t218 => (if t218 = true then ((impl_isWide.f a0_1).bind fun t219 => (if t219 = true then (impl_IsCut.j0 k (decide ((l0_2.length : Int) > 30)) a0_0 a0_1 l0_2) else (impl_IsCut.j0 k true a0_0 a0_1 l0_2))) else (impl_IsCut.j0 k true a0_0 a0_1 l0_2))) = some r := h
 clear h
 have HC2 := Aside0.mk H
 clear H
 go_enter Try.func56, Try.ntmps56
 go_upto_region 1 with (first | ((with_reducible refine gate_dst (N := 1) rfl ?_); (try (refine gate_guard (by rfl) ?_; dsimp only)); refine box_event ?hg (N := 1) ?hd (cs := #[.int .i64 a0_0, .int .i64 a0_1, .slice A0_2 l0_2.length c0_2]) (t := 31) ?hr ?_; (case hd => rfl); (case hg => rfl); (case hr => first | (go_simp; done) | (go_simp; rfl)); intro gb217 hg w3 hbox hb; have n0_ := Aside0.mk (below_step (upW HB) hb); have n1_ := Aside0.mk (hbox); have n2_ := Aside0.mk ((by rw [hg]; exact (below_size (upW HB)) : w.heap.size ≤ gb217)); have n3_ := Aside0.mk ((by rw [hg]; exact (below_size (upW HB)) : w.heap.size ≤ gb217)); clear HB; have HB := n0_; have BK217 := n1_; have GW217 := n2_; have GE217 := n3_; clear n0_ n1_ n2_ n3_; clear hb hbox hg))
 (try simp only [Act.put, List.setIfInBounds_toArray, List.set_cons_zero, List.set_cons_succ])
 go_cut [21] (fun v21 wc => ∃ (kq : Nat) (x21_1 : Bool), v21 = .bool x21_1 ∧ Aside0 (impl_IsCut.j0 kq x21_1 a0_0 a0_1 l0_2 = some r) ∧ Aside0 (kq ≤ k) ∧ Aside0 (wc.heap[gb217]? = some (.cells #[.int .i64 a0_0, .int .i64 a0_1, (.slice A0_2 l0_2.length c0_2)] 31 (0, 0))) ∧ Aside0 (Below w.heap.size w wc))
 case first =>
  have H := HC2.out
  clear HC2
  replace H := Option.bind_eq_some_iff.mp H
  obtain ⟨t218, A40, H⟩ := H
  replace H : (if t218 = true then ((impl_isWide.f a0_1).bind fun t219 => (if t219 = true then (impl_IsCut.j0 k (decide ((l0_2.length : Int) > 30)) a0_0 a0_1 l0_2) else (impl_IsCut.j0 k true a0_0 a0_1 l0_2))) else (impl_IsCut.j0 k true a0_0 a0_1 l0_2)) = some r := H
  have A4 := Aside0.mk A40
  clear A40
  by_cases c5 : t218 = true
  ·subst c5
   have H1 : ((impl_isWide.f a0_1).bind fun t219 => (if t219 = true then (impl_IsCut.j0 k (decide ((l0_2.length : Int) > 30)) a0_0 a0_1 l0_2) else (impl_IsCut.j0 k true a0_0 a0_1 l0_2))) = some r := by rw [if_pos rfl] at H; exact H
   clear H
   have H := H1
   clear H1
   replace H := Option.bind_eq_some_iff.mp H
   obtain ⟨t219, A60, H⟩ := H
   replace H : (if t219 = true then (impl_IsCut.j0 k (decide ((l0_2.length : Int) > 30)) a0_0 a0_1 l0_2) else (impl_IsCut.j0 k true a0_0 a0_1 l0_2)) = some r := H
   have A6 := Aside0.mk A60
   clear A60
   by_cases c7 : t219 = true
   ·subst c7
    have H1 : (impl_IsCut.j0 k (decide ((l0_2.length : Int) > 30)) a0_0 a0_1 l0_2) = some r := by rw [if_pos rfl] at H; exact H
    clear H
    have H := H1
    clear H1
    have H' := Aside0.mk H
    clear H
    have hcz8_0 : w3.cell? ⟨gb217, 0, none⟩ = some (.int .i64 a0_0) := (blk_cell BK217.out 0).trans rfl
    have hcz8_1 : w3.cell? ⟨gb217, 1, none⟩ = some (.int .i64 a0_1) := (blk_cell BK217.out 1).trans rfl
    have hcz8_2 : w3.cell? ⟨gb217, 2, none⟩ = some (.slice A0_2 l0_2.length c0_2) := (blk_cell BK217.out 2).trans rfl
    have hfz8_0 := blk_frozen BK217.out 0
    have hfz8_1 := blk_frozen BK217.out 1
    have hfz8_2 := blk_frozen BK217.out 2
    go_wp2_with (first | ((with_reducible refine gate_callee (f := 91) rfl ?_); refine goesL_ (some 8) rfl rfl Try.func91 (by kernel_rfl) rfl #[.int .i64 a0_0] rfl itp ?_; (with_reducible refine (impl_isWide.calls a0_0 true _ A4.out).mono ?_); rintro e w' ⟨rfl, ⟨nd, rfl⟩⟩; refine ⟨_, rfl, ?_⟩) | (go_at_call 91; (with_reducible refine (impl_isWide.calls a0_1 true _ A6.out).mono ?_); rintro e w' ⟨rfl, ⟨nd, rfl⟩⟩))
    go_meet
    case rel => exact ⟨_, (decide ((l0_2.length : Int) > 30)), (by first | rfl | (simp; done) | (simp [*]; done)), H', ⟨by first | omega | exact Nat.le_refl _⟩, ⟨upK BK217⟩, ⟨upW HB⟩⟩
   ·replace c7 := Bool.eq_false_iff.mpr c7
    subst c7
    have H1 : (impl_IsCut.j0 k true a0_0 a0_1 l0_2) = some r := by rw [if_neg (show ¬ (false = true) by decide)] at H; exact H
    clear H
    have H := H1
    clear H1
    have H' := Aside0.mk H
    clear H
    have hcz9_0 : w3.cell? ⟨gb217, 0, none⟩ = some (.int .i64 a0_0) := (blk_cell BK217.out 0).trans rfl
    have hcz9_1 : w3.cell? ⟨gb217, 1, none⟩ = some (.int .i64 a0_1) := (blk_cell BK217.out 1).trans rfl
    have hcz9_2 : w3.cell? ⟨gb217, 2, none⟩ = some (.slice A0_2 l0_2.length c0_2) := (blk_cell BK217.out 2).trans rfl
    have hfz9_0 := blk_frozen BK217.out 0
    have hfz9_1 := blk_frozen BK217.out 1
    have hfz9_2 := blk_frozen BK217.out 2
    go_wp2_with (first | ((with_reducible refine gate_callee (f := 91) rfl ?_); refine goesL_ (some 8) rfl rfl Try.func91 (by kernel_rfl) rfl #[.int .i64 a0_0] rfl itp ?_; (with_reducible refine (impl_isWide.calls a0_0 true _ A4.out).mono ?_); rintro e w' ⟨rfl, ⟨nd, rfl⟩⟩; refine ⟨_, rfl, ?_⟩) | (go_at_call 91; (with_reducible refine (impl_isWide.calls a0_1 false _ A6.out).mono ?_); rintro e w' ⟨rfl, ⟨nd, rfl⟩⟩))
    go_meet
    case rel => exact ⟨_, (true), (by first | rfl | (simp; done) | (simp [*]; done)), H', ⟨by first | omega | exact Nat.le_refl _⟩, ⟨upK BK217⟩, ⟨upW HB⟩⟩
  ·replace c5 := Bool.eq_false_iff.mpr c5
   subst c5
   have H1 : (impl_IsCut.j0 k true a0_0 a0_1 l0_2) = some r := by rw [if_neg (show ¬ (false = true) by decide)] at H; exact H
   clear H
   have H := H1
   clear H1
   have H' := Aside0.mk H
   clear H
   have hcz10_0 : w3.cell? ⟨gb217, 0, none⟩ = some (.int .i64 a0_0) := (blk_cell BK217.out 0).trans rfl
   have hcz10_1 : w3.cell? ⟨gb217, 1, none⟩ = some (.int .i64 a0_1) := (blk_cell BK217.out 1).trans rfl
   have hcz10_2 : w3.cell? ⟨gb217, 2, none⟩ = some (.slice A0_2 l0_2.length c0_2) := (blk_cell BK217.out 2).trans rfl
   have hfz10_0 := blk_frozen BK217.out 0
   have hfz10_1 := blk_frozen BK217.out 1
   have hfz10_2 := blk_frozen BK217.out 2
   go_wp2_with (first | ((with_reducible refine gate_callee (f := 91) rfl ?_); refine goesL_ (some 8) rfl rfl Try.func91 (by kernel_rfl) rfl #[.int .i64 a0_0] rfl itp ?_; (with_reducible refine (impl_isWide.calls a0_0 false _ A4.out).mono ?_); rintro e w' ⟨rfl, ⟨nd, rfl⟩⟩; refine ⟨_, rfl, ?_⟩))
   go_meet
   case rel => exact ⟨_, (true), (by first | rfl | (simp; done) | (simp [*]; done)), H', ⟨by first | omega | exact Nat.le_refl _⟩, ⟨upK BK217⟩, ⟨upW HB⟩⟩
 case rest =>
  clear HC2
  try clear p2
  try clear c5
  try clear c7
  try clear c9
  try clear hcz10_0
  try clear hcz10_1
  try clear hcz10_2
  try clear hcz8_0
  try clear hcz8_1
  try clear hcz8_2
  try clear hcz9_0
  try clear hcz9_1
  try clear hcz9_2
  try clear hfz10_0
  try clear hfz10_1
  try clear hfz10_2
  try clear hfz8_0
  try clear hfz8_1
  try clear hfz8_2
  try clear hfz9_0
  try clear hfz9_1
  try clear hfz9_2
  obtain ⟨kq, x21_1, rfl, HA, HJ1, BK217, HB⟩ := hcut
  cases kq with
  | zero => exact absurd HA.out (by simp [impl_IsCut.j0])
  | succ kj1 =>
   have H := HA.out
   clear HA
   simp only [impl_IsCut.j0] at H
   by_cases c11 : x21_1 = true
   ·subst c11
    have H1 : (some false) = some r := by rw [if_pos rfl] at H; exact H
    clear H
    have H := H1
    clear H1
    obtain rfl := Option.some.inj H
    go_wp2
    go_ret
    exact ⟨by first | rfl | (simp [errW_none, errW_some] <;> rfl) | (simp [*, errW_none, errW_some] <;> rfl), by repeat (first | (with_reducible first | exact HB.out | apply below_alloc | apply pw_below_drewN | apply below_drew1 | refine below_set ?_ GE217.out) | exact HB.out)⟩
   ·replace c11 := Bool.eq_false_iff.mpr c11
    subst c11
    have H1 : (impl_IsCut.l0 kj1 0 l0_2 (l0_2.length : Int) 0 a0_0 a0_1 l0_2) = some r := by rw [if_neg (show ¬ (false = true) by decide)] at H; exact H
    clear H
    have H := H1
    clear H1
    have H' := Aside0.mk H
    clear H
    have hcz12_0 : wc.cell? ⟨gb217, 0, none⟩ = some (.int .i64 a0_0) := (blk_cell BK217.out 0).trans rfl
    have hcz12_1 : wc.cell? ⟨gb217, 1, none⟩ = some (.int .i64 a0_1) := (blk_cell BK217.out 1).trans rfl
    have hcz12_2 : wc.cell? ⟨gb217, 2, none⟩ = some (.slice A0_2 l0_2.length c0_2) := (blk_cell BK217.out 2).trans rfl
    have hfz12_0 := blk_frozen BK217.out 0
    have hfz12_1 := blk_frozen BK217.out 1
    have hfz12_2 := blk_frozen BK217.out 2
    go_wp2
    go_loopg [3, 25] kj1 (fun kq v3 v25 w' => ∃ (x3_2 : Int) (x25_2 : Int), v3 = .int .i64 x3_2 ∧ v25 = .int .i64 x25_2 ∧ Aside0 (impl_IsCut.l0 kq x3_2 l0_2 (l0_2.length : Int) x25_2 a0_0 a0_1 l0_2 = some r) ∧ Aside0 (kq ≤ kj1) ∧ Aside0 (w'.heap[gb217]? = some (.cells #[.int .i64 a0_0, .int .i64 a0_1, (.slice A0_2 l0_2.length c0_2)] 31 (0, 0))) ∧ Aside0 (Below w.heap.size w w'))
    case atStart => exact ⟨(0), (0), (by first | rfl | (simp; done) | (simp [*]; done)), (by first | rfl | (simp; done) | (simp [*]; done)), H', ⟨Nat.le_refl _⟩, ⟨upK BK217⟩, ⟨upW HB⟩⟩
    case round =>
     clear H'
     try clear c1
     try clear p2
     try clear c5
     try clear c7
     try clear c9
     try clear c11
     try clear hcz10_0
     try clear hcz10_1
     try clear hcz10_2
     try clear hcz12_0
     try clear hcz12_1
     try clear hcz12_2
     try clear hcz8_0
     try clear hcz8_1
     try clear hcz8_2
     try clear hcz9_0
     try clear hcz9_1
     try clear hcz9_2
     try clear hfz10_0
     try clear hfz10_1
     try clear hfz10_2
     try clear hfz12_0
     try clear hfz12_1
     try clear hfz12_2
     try clear hfz8_0
     try clear hfz8_1
     try clear hfz8_2
     try clear hfz9_0
     try clear hfz9_1
     try clear hfz9_2
     try clear p2
     obtain ⟨x3_2, x25_2, rfl, rfl, HA, HK2, BK217, HB⟩ := hrel
     cases gk with
     | zero => exact absurd HA.out (by simp [impl_IsCut.l0])
     | succ k2 =>
      have H := HA.out
      clear HA
      simp only [impl_IsCut.l0] at H
      by_cases c13 : x25_2 < (l0_2.length : Int)
      ·rw [if_pos c13] at H
       have c13b0 : decide (x25_2 < (l0_2.length : Int)) = true := decide_eq_true c13
       clear c13
       by_cases c14 : 0 ≤ x25_2
       ·rw [if_pos c14] at H
        have c14b0 : decide (0 ≤ x25_2) = true := decide_eq_true c14
        clear c14
        by_cases c15 : x25_2 < (l0_2.length : Int)
        ·rw [if_pos c15] at H
         have c15b0 : decide (x25_2 < (l0_2.length : Int)) = true := decide_eq_true c15
         clear c15
         have HC16 := Aside0.mk H
         clear H
         have p220 : 0 ≤ (x25_2 : Int) := of_decide_eq_true (by first | (with_reducible assumption) | assumption)
         have q220 : x25_2 < (l0_2.length : Int) := of_decide_eq_true (by first | (with_reducible assumption) | assumption)
         obtain ⟨ad220, e220, hx220_0, hx220_1, hx220_2⟩ := at_T73 HR0_2.out x25_2 p220 q220
         cases e220
         replace hx220_0 := (HB.out.cell (World.block_lt_of_cell? w _ hx220_0)).trans hx220_0
         replace hx220_1 := (HB.out.cell (World.block_lt_of_cell? w _ hx220_1)).trans hx220_1
         replace hx220_2 := (HB.out.cell (World.block_lt_of_cell? w _ hx220_2)).trans hx220_2
         replace p220 := eq_true p220
         replace q220 := eq_true q220
         go_upto_region 7 with (first | ((with_reducible refine gate_dst (N := 5) rfl ?_); (try (refine gate_guard (by rfl) ?_; dsimp only)); refine box_event ?hg (N := 5) ?hd (cs := #[.int .i64 0, .int .i64 0, .int .i64 0]) (t := 73) ?hr ?_; (case hd => rfl); (case hg => rfl); (case hr => first | (go_simp; done) | (go_simp; rfl)); intro gb221 hg w17 hbox hb; have n0_ := Aside0.mk (blk_below (upK BK217) hb); have n1_ := Aside0.mk (below_step (upW HB) hb); have n2_ := Aside0.mk (hbox); have n3_ := Aside0.mk ((by rw [hg]; exact (below_size (upW HB)) : w.heap.size ≤ gb221)); have n4_ := Aside0.mk ((by rw [hg]; exact (below_size (upW HB)) : w.heap.size ≤ gb221)); have n5_ := Aside0.mk ((by rw [hg]; exact Nat.ne_of_lt (blk_lt (upK BK217)) : gb217 ≠ gb221)); have n6_ := Aside0.mk ((by rw [hg]; exact Nat.ne_of_gt (blk_lt (upK BK217)) : gb221 ≠ gb217)); clear BK217; clear HB; have BK217 := n0_; have HB := n1_; have BK221 := n2_; have GW221 := n3_; have GE221 := n4_; have NB217_221 := n5_; have NB221_217 := n6_; clear n0_ n1_ n2_ n3_ n4_ n5_ n6_; clear hb hbox hg; have hnb18 := NB221_217.out; have hnc18 := NB217_221.out; have hcz19_0 : w17.cell? ⟨gb221, 0, none⟩ = some (.int .i64 0) := (blk_cell BK221.out 0).trans rfl; have hcz19_1 : w17.cell? ⟨gb221, 1, none⟩ = some (.int .i64 0) := (blk_cell BK221.out 1).trans rfl; have hcz19_2 : w17.cell? ⟨gb221, 2, none⟩ = some (.int .i64 0) := (blk_cell BK221.out 2).trans rfl; have hfz19_0 := blk_frozen BK221.out 0; have hfz19_1 := blk_frozen BK221.out 1; have hfz19_2 := blk_frozen BK221.out 2))
         (try simp only [Act.put, List.setIfInBounds_toArray, List.set_cons_zero, List.set_cons_succ])
         go_cut [60] (fun v60 wc => ∃ (kq : Nat) (x60_15 : Bool), v60 = .bool x60_15 ∧ Aside0 (impl_IsCut.j2 kq x3_2 x25_2 l0_2 (l0_2.length : Int) x25_2 x60_15 a0_0 a0_1 l0_2 ((rd_T73 l0_2 x25_2).f0) ((rd_T73 l0_2 x25_2).f1) ((rd_T73 l0_2 x25_2).f2) = some r) ∧ Aside0 (kq ≤ k2) ∧ Aside0 (wc.heap[gb217]? = some (.cells #[.int .i64 a0_0, .int .i64 a0_1, (.slice (some ad220) l0_2.length c0_2)] 31 (0, 0))) ∧ Aside0 (wc.heap[gb221]? = some (.cells #[.int .i64 ((rd_T73 l0_2 x25_2).f0), .int .i64 ((rd_T73 l0_2 x25_2).f1), .int .i64 ((rd_T73 l0_2 x25_2).f2)] 73 (0, 0))) ∧ Aside0 (Below w.heap.size w wc))
         case first =>
          have H := HC16.out
          clear HC16
          obtain ⟨ji20, hji20⟩ : ∃ j_ : Int, (mn a0_0 a0_1) = j_ := ⟨_, rfl⟩
          replace H : ((impl_within.f ((rd_T73 l0_2 x25_2).f2) 1 (ji20)).bind fun t222 => (if t222 = true then ((impl_within.f ((rd_T73 l0_2 x25_2).f0) 0 (wrap64 (a0_0 - ((rd_T73 l0_2 x25_2).f2)))).bind fun t223 => (if t223 = true then ((impl_within.f ((rd_T73 l0_2 x25_2).f1) 0 (wrap64 (a0_1 - ((rd_T73 l0_2 x25_2).f2)))).bind fun t224 => (impl_IsCut.j2 k2 x3_2 x25_2 l0_2 (l0_2.length : Int) x25_2 (!t224) a0_0 a0_1 l0_2 ((rd_T73 l0_2 x25_2).f0) ((rd_T73 l0_2 x25_2).f1) ((rd_T73 l0_2 x25_2).f2))) else (impl_IsCut.j2 k2 x3_2 x25_2 l0_2 (l0_2.length : Int) x25_2 true a0_0 a0_1 l0_2 ((rd_T73 l0_2 x25_2).f0) ((rd_T73 l0_2 x25_2).f1) ((rd_T73 l0_2 x25_2).f2)))) else (impl_IsCut.j2 k2 x3_2 x25_2 l0_2 (l0_2.length : Int) x25_2 true a0_0 a0_1 l0_2 ((rd_T73 l0_2 x25_2).f0) ((rd_T73 l0_2 x25_2).f1) ((rd_T73 l0_2 x25_2).f2)))) = some r := by first | (rw [hji20] at H; exact H) | (simp only [hji20] at H ⊢; exact H)
          have hji20_ : (if a0_1 < a0_0 then a0_1 else a0_0) = ji20 := hji20
          replace H := Option.bind_eq_some_iff.mp H
          obtain ⟨t222, A210, H⟩ := H
          replace H : (if t222 = true then ((impl_within.f ((rd_T73 l0_2 x25_2).f0) 0 (wrap64 (a0_0 - ((rd_T73 l0_2 x25_2).f2)))).bind fun t223 => (if t223 = true then ((impl_within.f ((rd_T73 l0_2 x25_2).f1) 0 (wrap64 (a0_1 - ((rd_T73 l0_2 x25_2).f2)))).bind fun t224 => (impl_IsCut.j2 k2 x3_2 x25_2 l0_2 (l0_2.length : Int) x25_2 (!t224) a0_0 a0_1 l0_2 ((rd_T73 l0_2 x25_2).f0) ((rd_T73 l0_2 x25_2).f1) ((rd_T73 l0_2 x25_2).f2))) else (impl_IsCut.j2 k2 x3_2 x25_2 l0_2 (l0_2.length : Int) x25_2 true a0_0 a0_1 l0_2 ((rd_T73 l0_2 x25_2).f0) ((rd_T73 l0_2 x25_2).f1) ((rd_T73 l0_2 x25_2).f2)))) else (impl_IsCut.j2 k2 x3_2 x25_2 l0_2 (l0_2.length : Int) x25_2 true a0_0 a0_1 l0_2 ((rd_T73 l0_2 x25_2).f0) ((rd_T73 l0_2 x25_2).f1) ((rd_T73 l0_2 x25_2).f2))) = some r := H
          have A21 := Aside0.mk A210
          clear A210
          by_cases c22 : t222 = true
          ·subst c22
           have H1 : ((impl_within.f ((rd_T73 l0_2 x25_2).f0) 0 (wrap64 (a0_0 - ((rd_T73 l0_2 x25_2).f2)))).bind fun t223 => (if t223 = true then ((impl_within.f ((rd_T73 l0_2 x25_2).f1) 0 (wrap64 (a0_1 - ((rd_T73 l0_2 x25_2).f2)))).bind fun t224 => (impl_IsCut.j2 k2 x3_2 x25_2 l0_2 (l0_2.length : Int) x25_2 (!t224) a0_0 a0_1 l0_2 ((rd_T73 l0_2 x25_2).f0) ((rd_T73 l0_2 x25_2).f1) ((rd_T73 l0_2 x25_2).f2))) else (impl_IsCut.j2 k2 x3_2 x25_2 l0_2 (l0_2.length : Int) x25_2 true a0_0 a0_1 l0_2 ((rd_T73 l0_2 x25_2).f0) ((rd_T73 l0_2 x25_2).f1) ((rd_T73 l0_2 x25_2).f2)))) = some r := by rw [if_pos rfl] at H; exact H
           clear H
           have H := H1
           clear H1
           replace H := Option.bind_eq_some_iff.mp H
           obtain ⟨t223, A230, H⟩ := H
           replace H : (if t223 = true then ((impl_within.f ((rd_T73 l0_2 x25_2).f1) 0 (wrap64 (a0_1 - ((rd_T73 l0_2 x25_2).f2)))).bind fun t224 => (impl_IsCut.j2 k2 x3_2 x25_2 l0_2 (l0_2.length : Int) x25_2 (!t224) a0_0 a0_1 l0_2 ((rd_T73 l0_2 x25_2).f0) ((rd_T73 l0_2 x25_2).f1) ((rd_T73 l0_2 x25_2).f2))) else (impl_IsCut.j2 k2 x3_2 x25_2 l0_2 (l0_2.length : Int) x25_2 true a0_0 a0_1 l0_2 ((rd_T73 l0_2 x25_2).f0) ((rd_T73 l0_2 x25_2).f1) ((rd_T73 l0_2 x25_2).f2))) = some r := H
           have A23 := Aside0.mk A230
           clear A230
           by_cases c24 : t223 = true
           ·subst c24
            have H1 : ((impl_within.f ((rd_T73 l0_2 x25_2).f1) 0 (wrap64 (a0_1 - ((rd_T73 l0_2 x25_2).f2)))).bind fun t224 => (impl_IsCut.j2 k2 x3_2 x25_2 l0_2 (l0_2.length : Int) x25_2 (!t224) a0_0 a0_1 l0_2 ((rd_T73 l0_2 x25_2).f0) ((rd_T73 l0_2 x25_2).f1) ((rd_T73 l0_2 x25_2).f2))) = some r := by rw [if_pos rfl] at H; exact H
            clear H
            have H := H1
            clear H1
            replace H := Option.bind_eq_some_iff.mp H
            obtain ⟨t224, A250, H⟩ := H
            replace H : (impl_IsCut.j2 k2 x3_2 x25_2 l0_2 (l0_2.length : Int) x25_2 (!t224) a0_0 a0_1 l0_2 ((rd_T73 l0_2 x25_2).f0) ((rd_T73 l0_2 x25_2).f1) ((rd_T73 l0_2 x25_2).f2)) = some r := H
            have A25 := Aside0.mk A250
            clear A250
            have H' := Aside0.mk H
            clear H
            have hnb26 := NB221_217.out
            have hnc26 := NB217_221.out
            have hcz27_0 : w17.cell? ⟨gb221, 0, none⟩ = some (.int .i64 0) := (blk_cell BK221.out 0).trans rfl
            have hcz27_1 : w17.cell? ⟨gb221, 1, none⟩ = some (.int .i64 0) := (blk_cell BK221.out 1).trans rfl
            have hcz27_2 : w17.cell? ⟨gb221, 2, none⟩ = some (.int .i64 0) := (blk_cell BK221.out 2).trans rfl
            have hfz27_0 := blk_frozen BK221.out 0
            have hfz27_1 := blk_frozen BK221.out 1
            have hfz27_2 := blk_frozen BK221.out 2
            have hcz28_0 : w17.cell? ⟨gb217, 0, none⟩ = some (.int .i64 a0_0) := (blk_cell BK217.out 0).trans rfl
            have hcz28_1 : w17.cell? ⟨gb217, 1, none⟩ = some (.int .i64 a0_1) := (blk_cell BK217.out 1).trans rfl
            have hcz28_2 : w17.cell? ⟨gb217, 2, none⟩ = some (.slice (some ad220) l0_2.length c0_2) := (blk_cell BK217.out 2).trans rfl
            have hfz28_0 := blk_frozen BK217.out 0
            have hfz28_1 := blk_frozen BK217.out 1
            have hfz28_2 := blk_frozen BK217.out 2
            go_wp2_with (first | ((with_reducible refine gate_callee (f := 66) rfl ?_); refine goesL_ (some 37) rfl rfl Try.func66 (by kernel_rfl) rfl #[.int .i64 ((rd_T73 l0_2 x25_2).f2), .int .i64 1, .int .i64 ji20] rfl (by (try simp only [List.map_toArray, List.map_cons, List.map_nil]); first | done | (simp only [hji20]; rfl) | rfl | (simp only [List.length_drop, List.length_take]; rfl)) ?_; (with_reducible refine (impl_within.calls ((rd_T73 l0_2 x25_2).f2) 1 ji20 true _ A21.out).mono ?_); rintro e w' ⟨rfl, ⟨nd, rfl⟩⟩; refine ⟨_, rfl, ?_⟩) | (go_at_call 66; (with_reducible refine (impl_within.calls ((rd_T73 l0_2 x25_2).f0) 0 (wrap64 (a0_0 - ((rd_T73 l0_2 x25_2).f2))) true _ A23.out).mono ?_); rintro e w' ⟨rfl, ⟨nd, rfl⟩⟩) | (go_at_call 66; (with_reducible refine (impl_within.calls ((rd_T73 l0_2 x25_2).f1) 0 (wrap64 (a0_1 - ((rd_T73 l0_2 x25_2).f2))) t224 _ A25.out).mono ?_); rintro e w' ⟨rfl, ⟨nd, rfl⟩⟩))
            go_meet
            case rel => exact ⟨_, (!t224), (by first | rfl | (simp; done) | (simp [*]; done)), H', ⟨by have := HJ1.out; have := HK2.out; first | omega | exact Nat.le_refl _⟩, ⟨upF BK217⟩, ⟨by (with_reducible repeat (first | refine blk_drewN ?_ _ | refine blk_drew ?_ | refine blk_alloc ?_ _)); refine blk_put (cs := #[.int .i64 ((rd_T73 l0_2 x25_2).f0), .int .i64 ((rd_T73 l0_2 x25_2).f1), .int .i64 0]) ?_ 2 _ rfl; (with_reducible repeat (first | refine blk_drewN ?_ _ | refine blk_drew ?_ | refine blk_alloc ?_ _)); refine blk_put (cs := #[.int .i64 ((rd_T73 l0_2 x25_2).f0), .int .i64 0, .int .i64 0]) ?_ 1 _ rfl; (with_reducible repeat (first | refine blk_drewN ?_ _ | refine blk_drew ?_ | refine blk_alloc ?_ _)); refine blk_put (cs := #[.int .i64 0, .int .i64 0, .int .i64 0]) ?_ 0 _ rfl; (with_reducible repeat (first | refine blk_drewN ?_ _ | refine blk_drew ?_ | refine blk_alloc ?_ _)); exact BK221.out⟩, ⟨upW HB⟩⟩
           ·replace c24 := Bool.eq_false_iff.mpr c24
            subst c24
            have H1 : (impl_IsCut.j2 k2 x3_2 x25_2 l0_2 (l0_2.length : Int) x25_2 true a0_0 a0_1 l0_2 ((rd_T73 l0_2 x25_2).f0) ((rd_T73 l0_2 x25_2).f1) ((rd_T73 l0_2 x25_2).f2)) = some r := by rw [if_neg (show ¬ (false = true) by decide)] at H; exact H
            clear H
            have H := H1
            clear H1
            have H' := Aside0.mk H
            clear H
            have hnb29 := NB221_217.out
            have hnc29 := NB217_221.out
            have hcz30_0 : w17.cell? ⟨gb221, 0, none⟩ = some (.int .i64 0) := (blk_cell BK221.out 0).trans rfl
            have hcz30_1 : w17.cell? ⟨gb221, 1, none⟩ = some (.int .i64 0) := (blk_cell BK221.out 1).trans rfl
            have hcz30_2 : w17.cell? ⟨gb221, 2, none⟩ = some (.int .i64 0) := (blk_cell BK221.out 2).trans rfl
            have hfz30_0 := blk_frozen BK221.out 0
            have hfz30_1 := blk_frozen BK221.out 1
            have hfz30_2 := blk_frozen BK221.out 2
            have hcz31_0 : w17.cell? ⟨gb217, 0, none⟩ = some (.int .i64 a0_0) := (blk_cell BK217.out 0).trans rfl
            have hcz31_1 : w17.cell? ⟨gb217, 1, none⟩ = some (.int .i64 a0_1) := (blk_cell BK217.out 1).trans rfl
            have hcz31_2 : w17.cell? ⟨gb217, 2, none⟩ = some (.slice (some ad220) l0_2.length c0_2) := (blk_cell BK217.out 2).trans rfl
            have hfz31_0 := blk_frozen BK217.out 0
            have hfz31_1 := blk_frozen BK217.out 1
            have hfz31_2 := blk_frozen BK217.out 2
            go_wp2_with (first | ((with_reducible refine gate_callee (f := 66) rfl ?_); refine goesL_ (some 37) rfl rfl Try.func66 (by kernel_rfl) rfl #[.int .i64 ((rd_T73 l0_2 x25_2).f2), .int .i64 1, .int .i64 ji20] rfl (by (try simp only [List.map_toArray, List.map_cons, List.map_nil]); first | done | (simp only [hji20]; rfl) | rfl | (simp only [List.length_drop, List.length_take]; rfl)) ?_; (with_reducible refine (impl_within.calls ((rd_T73 l0_2 x25_2).f2) 1 ji20 true _ A21.out).mono ?_); rintro e w' ⟨rfl, ⟨nd, rfl⟩⟩; refine ⟨_, rfl, ?_⟩) | (go_at_call 66; (with_reducible refine (impl_within.calls ((rd_T73 l0_2 x25_2).f0) 0 (wrap64 (a0_0 - ((rd_T73 l0_2 x25_2).f2))) false _ A23.out).mono ?_); rintro e w' ⟨rfl, ⟨nd, rfl⟩⟩))
            go_meet
            case rel => exact ⟨_, (true), (by first | rfl | (simp; done) | (simp [*]; done)), H', ⟨by have := HJ1.out; have := HK2.out; first | omega | exact Nat.le_refl _⟩, ⟨upF BK217⟩, ⟨by (with_reducible repeat (first | refine blk_drewN ?_ _ | refine blk_drew ?_ | refine blk_alloc ?_ _)); refine blk_put (cs := #[.int .i64 ((rd_T73 l0_2 x25_2).f0), .int .i64 ((rd_T73 l0_2 x25_2).f1), .int .i64 0]) ?_ 2 _ rfl; (with_reducible repeat (first | refine blk_drewN ?_ _ | refine blk_drew ?_ | refine blk_alloc ?_ _)); refine blk_put (cs := #[.int .i64 ((rd_T73 l0_2 x25_2).f0), .int .i64 0, .int .i64 0]) ?_ 1 _ rfl; (with_reducible repeat (first | refine blk_drewN ?_ _ | refine blk_drew ?_ | refine blk_alloc ?_ _)); refine blk_put (cs := #[.int .i64 0, .int .i64 0, .int .i64 0]) ?_ 0 _ rfl; (with_reducible repeat (first | refine blk_drewN ?_ _ | refine blk_drew ?_ | refine blk_alloc ?_ _)); exact BK221.out⟩, ⟨upW HB⟩⟩
          ·replace c22 := Bool.eq_false_iff.mpr c22
           subst c22
           have H1 : (impl_IsCut.j2 k2 x3_2 x25_2 l0_2 (l0_2.length : Int) x25_2 true a0_0 a0_1 l0_2 ((rd_T73 l0_2 x25_2).f0) ((rd_T73 l0_2 x25_2).f1) ((rd_T73 l0_2 x25_2).f2)) = some r := by rw [if_neg (show ¬ (false = true) by decide)] at H; exact H
           clear H
           have H := H1
           clear H1
           have H' := Aside0.mk H
           clear H
           have hnb32 := NB221_217.out
           have hnc32 := NB217_221.out
           have hcz33_0 : w17.cell? ⟨gb221, 0, none⟩ = some (.int .i64 0) := (blk_cell BK221.out 0).trans rfl
           have hcz33_1 : w17.cell? ⟨gb221, 1, none⟩ = some (.int .i64 0) := (blk_cell BK221.out 1).trans rfl
           have hcz33_2 : w17.cell? ⟨gb221, 2, none⟩ = some (.int .i64 0) := (blk_cell BK221.out 2).trans rfl
           have hfz33_0 := blk_frozen BK221.out 0
           have hfz33_1 := blk_frozen BK221.out 1
           have hfz33_2 := blk_frozen BK221.out 2
           have hcz34_0 : w17.cell? ⟨gb217, 0, none⟩ = some (.int .i64 a0_0) := (blk_cell BK217.out 0).trans rfl
           have hcz34_1 : w17.cell? ⟨gb217, 1, none⟩ = some (.int .i64 a0_1) := (blk_cell BK217.out 1).trans rfl
           have hcz34_2 : w17.cell? ⟨gb217, 2, none⟩ = some (.slice (some ad220) l0_2.length c0_2) := (blk_cell BK217.out 2).trans rfl
           have hfz34_0 := blk_frozen BK217.out 0
           have hfz34_1 := blk_frozen BK217.out 1
           have hfz34_2 := blk_frozen BK217.out 2
           go_wp2_with (first | ((with_reducible refine gate_callee (f := 66) rfl ?_); refine goesL_ (some 37) rfl rfl Try.func66 (by kernel_rfl) rfl #[.int .i64 ((rd_T73 l0_2 x25_2).f2), .int .i64 1, .int .i64 ji20] rfl (by (try simp only [List.map_toArray, List.map_cons, List.map_nil]); first | done | (simp only [hji20]; rfl) | rfl | (simp only [List.length_drop, List.length_take]; rfl)) ?_; (with_reducible refine (impl_within.calls ((rd_T73 l0_2 x25_2).f2) 1 ji20 false _ A21.out).mono ?_); rintro e w' ⟨rfl, ⟨nd, rfl⟩⟩; refine ⟨_, rfl, ?_⟩))
           go_meet
           case rel => exact ⟨_, (true), (by first | rfl | (simp; done) | (simp [*]; done)), H', ⟨by have := HJ1.out; have := HK2.out; first | omega | exact Nat.le_refl _⟩, ⟨upF BK217⟩, ⟨by (with_reducible repeat (first | refine blk_drewN ?_ _ | refine blk_drew ?_ | refine blk_alloc ?_ _)); refine blk_put (cs := #[.int .i64 ((rd_T73 l0_2 x25_2).f0), .int .i64 ((rd_T73 l0_2 x25_2).f1), .int .i64 0]) ?_ 2 _ rfl; (with_reducible repeat (first | refine blk_drewN ?_ _ | refine blk_drew ?_ | refine blk_alloc ?_ _)); refine blk_put (cs := #[.int .i64 ((rd_T73 l0_2 x25_2).f0), .int .i64 0, .int .i64 0]) ?_ 1 _ rfl; (with_reducible repeat (first | refine blk_drewN ?_ _ | refine blk_drew ?_ | refine blk_alloc ?_ _)); refine blk_put (cs := #[.int .i64 0, .int .i64 0, .int .i64 0]) ?_ 0 _ rfl; (with_reducible repeat (first | refine blk_drewN ?_ _ | refine blk_drew ?_ | refine blk_alloc ?_ _)); exact BK221.out⟩, ⟨upW HB⟩⟩
         case rest =>
          clear HC16
          try clear c1
          try clear c2
          try clear p2
          try clear q2
          try clear hx2
          try clear c3
          try clear c5
          try clear c6
          try clear p6
          try clear c7
          try clear c9
          try clear c11
          try clear c13
          try clear c13b0
          try clear c14
          try clear c14b0
          try clear c15
          try clear c15b0
          try clear c18
          try clear c22
          try clear p22
          try clear q22
          try clear hx22
          try clear c24
          try clear c26
          try clear c29
          try clear c32
          try clear hcz10_0
          try clear hcz10_1
          try clear hcz10_2
          try clear hcz12_0
          try clear hcz12_1
          try clear hcz12_2
          try clear hcz19_0
          try clear hcz19_1
          try clear hcz19_2
          try clear hcz27_0
          try clear hcz27_1
          try clear hcz27_2
          try clear hcz28_0
          try clear hcz28_1
          try clear hcz28_2
          try clear hcz30_0
          try clear hcz30_1
          try clear hcz30_2
          try clear hcz31_0
          try clear hcz31_1
          try clear hcz31_2
          try clear hcz33_0
          try clear hcz33_1
          try clear hcz33_2
          try clear hcz34_0
          try clear hcz34_1
          try clear hcz34_2
          try clear hcz8_0
          try clear hcz8_1
          try clear hcz8_2
          try clear hcz9_0
          try clear hcz9_1
          try clear hcz9_2
          try clear hfz10_0
          try clear hfz10_1
          try clear hfz10_2
          try clear hfz12_0
          try clear hfz12_1
          try clear hfz12_2
          try clear hfz19_0
          try clear hfz19_1
          try clear hfz19_2
          try clear hfz27_0
          try clear hfz27_1
          try clear hfz27_2
          try clear hfz28_0
          try clear hfz28_1
          try clear hfz28_2
          try clear hfz30_0
          try clear hfz30_1
          try clear hfz30_2
          try clear hfz31_0
          try clear hfz31_1
          try clear hfz31_2
          try clear hfz33_0
          try clear hfz33_1
          try clear hfz33_2
          try clear hfz34_0
          try clear hfz34_1
          try clear hfz34_2
          try clear hfz8_0
          try clear hfz8_1
          try clear hfz8_2
          try clear hfz9_0
          try clear hfz9_1
          try clear hfz9_2
          try clear hx220_0
          try clear hx220_1
          try clear hx220_2
          try clear p2
          try clear p220
          try clear q220
          obtain ⟨kq, x60_15, rfl, HA, HJ15, BK217, BK221, HB⟩ := hcut
          cases kq with
          | zero => exact absurd HA.out (by simp [impl_IsCut.j2])
          | succ kj15 =>
           have H := HA.out
           clear HA
           simp only [impl_IsCut.j2] at H
           by_cases c35 : x60_15 = true
           ·subst c35
            have H1 : (some false) = some r := by rw [if_pos rfl] at H; exact H
            clear H
            have H := H1
            clear H1
            obtain rfl := Option.some.inj H
            go_wp2
            go_ret
            exact ⟨by first | rfl | (simp [errW_none, errW_some] <;> rfl) | (simp [*, errW_none, errW_some] <;> rfl), by repeat (first | (with_reducible first | exact HB.out | apply below_alloc | apply pw_below_drewN | apply below_drew1 | refine below_set ?_ GE217.out | refine below_set ?_ GE221.out) | exact HB.out)⟩
           ·replace c35 := Bool.eq_false_iff.mpr c35
            subst c35
            have H1 : (if x25_2 > 0 then (if 0 ≤ (wrap64 (x25_2 - 1)) then (if (wrap64 (x25_2 - 1)) < (l0_2.length : Int) then ((impl_comparePlaces.f ((rd_T73 l0_2 (wrap64 (x25_2 - 1))).f0) ((rd_T73 l0_2 (wrap64 (x25_2 - 1))).f1) ((rd_T73 l0_2 (wrap64 (x25_2 - 1))).f2) ((rd_T73 l0_2 x25_2).f0) ((rd_T73 l0_2 x25_2).f1) ((rd_T73 l0_2 x25_2).f2)).bind fun t226 => (if t226 ≥ 0 then (some false) else (if 0 ≤ x25_2 then (if x25_2 ≤ (l0_2.length : Int) then ((slices_ContainsFunc_impl_Square_impl_Square__impl_IsCut_1.f (l0_2.take (x25_2 : Int).toNat) ((rd_T73 l0_2 x25_2).f0) ((rd_T73 l0_2 x25_2).f1) ((rd_T73 l0_2 x25_2).f2)).bind fun t231 => (if t231 = true then (some false) else (impl_IsCut.l0 kj15 (wrap64 (x3_2 + (wrap64 (((rd_T73 l0_2 x25_2).f2) * ((rd_T73 l0_2 x25_2).f2))))) l0_2 (l0_2.length : Int) (wrap64 (x25_2 + 1)) a0_0 a0_1 l0_2))) else (none)) else (none)))) else (none)) else (none)) else (if 0 ≤ x25_2 then (if x25_2 ≤ (l0_2.length : Int) then ((slices_ContainsFunc_impl_Square_impl_Square__impl_IsCut_1.f (l0_2.take (x25_2 : Int).toNat) ((rd_T73 l0_2 x25_2).f0) ((rd_T73 l0_2 x25_2).f1) ((rd_T73 l0_2 x25_2).f2)).bind fun t236 => (if t236 = true then (some false) else (impl_IsCut.l0 kj15 (wrap64 (x3_2 + (wrap64 (((rd_T73 l0_2 x25_2).f2) * ((rd_T73 l0_2 x25_2).f2))))) l0_2 (l0_2.length : Int) (wrap64 (x25_2 + 1)) a0_0 a0_1 l0_2))) else (none)) else (none))) = some r := by rw [if_neg (show ¬ (false = true) by decide)] at H; exact H
            clear H
            have H := H1
            clear H1
            by_cases c36 : x25_2 > 0
            ·rw [if_pos c36] at H
             have c36b0 : decide (0 < x25_2) = true := decide_eq_true c36
             clear c36
             obtain ⟨ji37, hji37⟩ : ∃ j_ : Int, (wrap64 (x25_2 - 1)) = j_ := ⟨_, rfl⟩
             replace H : (if 0 ≤ (ji37) then (if (ji37) < (l0_2.length : Int) then ((impl_comparePlaces.f ((rd_T73 l0_2 (ji37)).f0) ((rd_T73 l0_2 (ji37)).f1) ((rd_T73 l0_2 (ji37)).f2) ((rd_T73 l0_2 x25_2).f0) ((rd_T73 l0_2 x25_2).f1) ((rd_T73 l0_2 x25_2).f2)).bind fun t226 => (if t226 ≥ 0 then (some false) else (if 0 ≤ x25_2 then (if x25_2 ≤ (l0_2.length : Int) then ((slices_ContainsFunc_impl_Square_impl_Square__impl_IsCut_1.f (l0_2.take (x25_2 : Int).toNat) ((rd_T73 l0_2 x25_2).f0) ((rd_T73 l0_2 x25_2).f1) ((rd_T73 l0_2 x25_2).f2)).bind fun t231 => (if t231 = true then (some false) else (impl_IsCut.l0 kj15 (wrap64 (x3_2 + (wrap64 (((rd_T73 l0_2 x25_2).f2) * ((rd_T73 l0_2 x25_2).f2))))) l0_2 (l0_2.length : Int) (wrap64 (x25_2 + 1)) a0_0 a0_1 l0_2))) else (none)) else (none)))) else (none)) else (none)) = some r := by first | (rw [hji37] at H; exact H) | (simp only [hji37] at H ⊢; exact H)
             have hji37w : (IntKind.i64.wrap (x25_2 - 1)) = ji37 := (i64_w _).trans hji37
             by_cases c38 : 0 ≤ (ji37)
             ·rw [if_pos c38] at H
              have c38b0 : decide (0 ≤ (ji37)) = true := decide_eq_true c38
              clear c38
              by_cases c39 : (ji37) < (l0_2.length : Int)
              ·rw [if_pos c39] at H
               have c39b0 : decide ((ji37) < (l0_2.length : Int)) = true := decide_eq_true c39
               clear c39
               replace H := Option.bind_eq_some_iff.mp H
               obtain ⟨t226, A400, H⟩ := H
               replace H : (if t226 ≥ 0 then (some false) else (if 0 ≤ x25_2 then (if x25_2 ≤ (l0_2.length : Int) then ((slices_ContainsFunc_impl_Square_impl_Square__impl_IsCut_1.f (l0_2.take (x25_2 : Int).toNat) ((rd_T73 l0_2 x25_2).f0) ((rd_T73 l0_2 x25_2).f1) ((rd_T73 l0_2 x25_2).f2)).bind fun t231 => (if t231 = true then (some false) else (impl_IsCut.l0 kj15 (wrap64 (x3_2 + (wrap64 (((rd_T73 l0_2 x25_2).f2) * ((rd_T73 l0_2 x25_2).f2))))) l0_2 (l0_2.length : Int) (wrap64 (x25_2 + 1)) a0_0 a0_1 l0_2))) else (none)) else (none))) = some r := H
               have A40 := Aside0.mk A400
               clear A400
               by_cases c41 : t226 ≥ 0
               ·rw [if_pos c41] at H
                have c41b0 : decide (0 ≤ t226) = true := decide_eq_true c41
                clear c41
                obtain rfl := Option.some.inj H
                try go_wp2
                have n0_ := Aside0.mk (blk_drew BK217.out)
                have n1_ := Aside0.mk (blk_drew BK221.out)
                have n2_ := Aside0.mk (below_drew1 HB.out)
                clear BK217
                clear BK221
                clear HB
                have BK217 := n0_
                have BK221 := n1_
                have HB := n2_
                clear n0_ n1_ n2_
                have p225 : 0 ≤ ((ji37) : Int) := of_decide_eq_true (by first | (with_reducible assumption) | assumption)
                have q225 : (ji37) < (l0_2.length : Int) := of_decide_eq_true (by first | (with_reducible assumption) | assumption)
                obtain ⟨ad225, e225, hx225_0, hx225_1, hx225_2⟩ := at_T73 HR0_2.out (ji37) p225 q225
                have hw225_2 := hx225_2
                have hw225_1 := hx225_1
                have hw225_0 := hx225_0
                obtain rfl : ad220 = ad225 := (by injection e225)
                replace hx225_0 := (HB.out.cell (World.block_lt_of_cell? w _ hx225_0)).trans hx225_0
                replace hx225_1 := (HB.out.cell (World.block_lt_of_cell? w _ hx225_1)).trans hx225_1
                replace hx225_2 := (HB.out.cell (World.block_lt_of_cell? w _ hx225_2)).trans hx225_2
                replace p225 := eq_true p225
                replace q225 := eq_true q225
                refine start_ (n := 21) (S := fun w' => w'.cell? ⟨gb217, 0, none⟩ = some (.int .i64 a0_0) ∧ w'.cell? ⟨gb217, 1, none⟩ = some (.int .i64 a0_1) ∧ w'.cell? ⟨gb217, 2, none⟩ = some (.slice (some ad220) l0_2.length c0_2) ∧ w'.cell? ⟨gb221, 0, none⟩ = some (.int .i64 ((rd_T73 l0_2 x25_2).f0)) ∧ w'.cell? ⟨gb221, 1, none⟩ = some (.int .i64 ((rd_T73 l0_2 x25_2).f1)) ∧ w'.cell? ⟨gb221, 2, none⟩ = some (.int .i64 ((rd_T73 l0_2 x25_2).f2)) ∧ w'.cell? (ad220.add (((ji37)).toNat * 3)) = some (.int .i64 ((rd_T73 l0_2 (ji37)).f0)) ∧ w'.cell? ⟨(ad220.add (((ji37)).toNat * 3)).block, (ad220.add (((ji37)).toNat * 3)).off + 1, none⟩ = some (.int .i64 ((rd_T73 l0_2 (ji37)).f1)) ∧ w'.cell? ⟨(ad220.add (((ji37)).toNat * 3)).block, (ad220.add (((ji37)).toNat * 3)).off + 2, none⟩ = some (.int .i64 ((rd_T73 l0_2 (ji37)).f2))) (ds := []) #[false, false, false, false, false, false, false, false, false, false, false, false, false, false, false, false, false, false, false, false, false] (by kernel_rfl) rfl rfl ⟨(blk_cell BK217.out 0).trans rfl, (blk_cell BK217.out 1).trans rfl, (blk_cell BK217.out 2).trans rfl, (blk_cell BK221.out 0).trans rfl, (blk_cell BK221.out 1).trans rfl, (blk_cell BK221.out 2).trans rfl, ((HB.out.cell (World.block_lt_of_cell? w _ hw225_0)).trans hw225_0), ((HB.out.cell (World.block_lt_of_cell? w _ hw225_1)).trans hw225_1), ((HB.out.cell (World.block_lt_of_cell? w _ hw225_2)).trans hw225_2)⟩ (fun hHeld => ?_); refine with_tabW impl_IsCut.tab9 impl_IsCut.bits9 (fun HT_ HW_ => ?_)
                generalize wc.drew = w42 at BK217 BK221 HB hx225_0 hx225_1 hx225_2 hHeld ⊢
                refine pure_ (i := 0) (N := some 61) (v := ?_) (a' := ?_) #[true, false, false, false, false, false, false, false, false, false, false, false, false, false, false, false, false, false, false, false, false] rfl rfl (any_of HT_.out (by kernel_rfl)) (fun _ _ _ h => h) (Or.inl ⟨by rfl, ?_⟩) ?_ ?_
                rotate_left
                ·intro w'
                 go_simp
                 with_reducible rfl
                rotate_left
                ·simp only [Act.put, List.setIfInBounds_toArray, List.set_cons_zero, List.set_cons_succ, i64_w, i32_w]
                 rfl
                refine pure_ (i := 1) (N := some 62) (v := ?_) (a' := ?_) #[true, true, false, false, false, false, false, false, false, false, false, false, false, false, false, false, false, false, false, false, false] rfl rfl (any_of HT_.out (by kernel_rfl)) (fun _ _ _ h => h) (Or.inl ⟨by rfl, ?_⟩) ?_ ?_
                rotate_left
                ·intro w'
                 go_simp
                 with_reducible rfl
                rotate_left
                ·simp only [Act.put, List.setIfInBounds_toArray, List.set_cons_zero, List.set_cons_succ, i64_w, i32_w]
                 rfl
                refine pure_ (i := 2) (N := some 63) (v := ?_) (a' := ?_) #[true, true, true, false, false, false, false, false, false, false, false, false, false, false, false, false, false, false, false, false, false] rfl rfl (any_of HT_.out (by kernel_rfl)) (fun _ _ _ h => h) (Or.inl ⟨by rfl, ?_⟩) ?_ ?_
                rotate_left
                ·intro w'
                 go_simp
                 with_reducible rfl
                rotate_left
                ·simp only [Act.put, List.setIfInBounds_toArray, List.set_cons_zero, List.set_cons_succ, i64_w, i32_w]
                 rfl
                refine pure_ (i := 3) (N := some 64) (v := ?_) (a' := ?_) #[true, true, true, true, false, false, false, false, false, false, false, false, false, false, false, false, false, false, false, false, false] rfl rfl (any_of HT_.out (by kernel_rfl)) (fun _ _ _ h => h) (Or.inl ⟨by rfl, ?_⟩) ?_ ?_
                rotate_left
                ·intro w'
                 go_simp
                 with_reducible rfl
                rotate_left
                ·simp only [Act.put, List.setIfInBounds_toArray, List.set_cons_zero, List.set_cons_succ, i64_w, i32_w]
                 rfl
                refine pure_ (i := 5) (N := some 66) (v := ?_) (a' := ?_) #[true, true, true, true, false, true, false, false, false, false, false, false, false, false, false, false, false, false, false, false, false] rfl rfl (any_of HT_.out (by kernel_rfl)) (fun _ _ _ h => h) (Or.inl ⟨by rfl, ?_⟩) ?_ ?_
                rotate_left
                ·intro w'
                 go_simp
                 with_reducible rfl
                rotate_left
                ·simp only [Act.put, List.setIfInBounds_toArray, List.set_cons_zero, List.set_cons_succ, i64_w, i32_w]
                 rfl
                refine pure_ (i := 6) (N := some 67) (v := ?_) (a' := ?_) #[true, true, true, true, false, true, true, false, false, false, false, false, false, false, false, false, false, false, false, false, false] rfl rfl (any_of HT_.out (by kernel_rfl)) (fun _ _ _ h => h) (Or.inl ⟨by rfl, ?_⟩) ?_ ?_
                rotate_left
                ·intro w'
                 go_simp
                 with_reducible rfl
                rotate_left
                ·simp only [Act.put, List.setIfInBounds_toArray, List.set_cons_zero, List.set_cons_succ, i64_w, i32_w]
                 rfl
                refine take_ (i := 4) (N := some 65) (v := ?_) (a' := ?_) #[true, true, true, true, true, true, true, false, false, false, false, false, false, false, false, false, false, false, false, false, false] rfl rfl (take_ofW HT_.out HW_.out (by kernel_rfl)) (fun _ _ _ h => h) (Or.inl ⟨by rfl, ?_⟩) hHeld ?_ ?_
                rotate_left
                ·rintro w' ⟨s0, s1, s2, s3, s4, s5, s6, s7, s8⟩
                 go_simp
                 with_reducible rfl
                rotate_left
                ·simp only [Act.put, List.setIfInBounds_toArray, List.set_cons_zero, List.set_cons_succ, i64_w, i32_w]
                 rfl
                refine pure_ (i := 7) (N := some 68) (v := ?_) (a' := ?_) #[true, true, true, true, true, true, true, true, false, false, false, false, false, false, false, false, false, false, false, false, false] rfl rfl (any_of HT_.out (by kernel_rfl)) (fun _ _ _ h => h) (Or.inl ⟨by rfl, ?_⟩) ?_ ?_
                rotate_left
                ·intro w'
                 go_simp
                 with_reducible rfl
                rotate_left
                ·simp only [Act.put, List.setIfInBounds_toArray, List.set_cons_zero, List.set_cons_succ, i64_w, i32_w]
                 rfl
                refine take_ (i := 8) (N := some 69) (v := ?_) (a' := ?_) #[true, true, true, true, true, true, true, true, true, false, false, false, false, false, false, false, false, false, false, false, false] rfl rfl (take_ofW HT_.out HW_.out (by kernel_rfl)) (fun _ _ _ h => h) (Or.inl ⟨by rfl, ?_⟩) hHeld ?_ ?_
                rotate_left
                ·rintro w' ⟨s0, s1, s2, s3, s4, s5, s6, s7, s8⟩
                 go_simp
                 with_reducible rfl
                rotate_left
                ·simp only [Act.put, List.setIfInBounds_toArray, List.set_cons_zero, List.set_cons_succ, i64_w, i32_w]
                 rfl
                refine take_ (i := 9) (N := some 70) (v := ?_) (a' := ?_) #[true, true, true, true, true, true, true, true, true, true, false, false, false, false, false, false, false, false, false, false, false] rfl rfl (take_ofW HT_.out HW_.out (by kernel_rfl)) (fun _ _ _ h => h) (Or.inl ⟨by rfl, ?_⟩) hHeld ?_ ?_
                rotate_left
                ·rintro w' ⟨s0, s1, s2, s3, s4, s5, s6, s7, s8⟩
                 go_simp
                 with_reducible rfl
                rotate_left
                ·simp only [Act.put, List.setIfInBounds_toArray, List.set_cons_zero, List.set_cons_succ, i64_w, i32_w]
                 rfl
                refine one_ (i := 10) (N := some 71) #[true, true, true, true, true, true, true, true, true, true, true, false, false, false, false, false, false, false, false, false, false] rfl rfl (one_of HT_.out (by kernel_rfl)) (by decide) (fun K hK => ?_)
                refine goes_ Try.func98 (by kernel_rfl) rfl #[.agg #[.int .i64 ((rd_T73 l0_2 (ji37)).f0), .int .i64 ((rd_T73 l0_2 (ji37)).f1), .int .i64 ((rd_T73 l0_2 (ji37)).f2)], .agg #[.int .i64 ((rd_T73 l0_2 x25_2).f0), .int .i64 ((rd_T73 l0_2 x25_2).f1), .int .i64 ((rd_T73 l0_2 x25_2).f2)]] (by rfl) rfl rfl (by (try simp only [List.map_toArray, List.map_cons, List.map_nil]); first | done | (simp only [hji37]; rfl) | rfl | (simp only [List.length_drop, List.length_take]; rfl)) ?_
                with_reducible refine (impl_comparePlaces.calls ((rd_T73 l0_2 (ji37)).f0) ((rd_T73 l0_2 (ji37)).f1) ((rd_T73 l0_2 (ji37)).f2) ((rd_T73 l0_2 x25_2).f0) ((rd_T73 l0_2 x25_2).f1) ((rd_T73 l0_2 x25_2).f2) t226 _ A40.out).mono ?_
                rintro e w43 ⟨rfl, hb⟩
                refine ⟨_, rfl, ?_⟩
                have n0_ := Aside0.mk (blk_below (upK BK217) hb)
                have n1_ := Aside0.mk (blk_below (upK BK221) hb)
                have n2_ := Aside0.mk (below_step (upW HB) hb)
                clear BK217
                clear BK221
                clear HB
                have BK217 := n0_
                have BK221 := n1_
                have HB := n2_
                clear n0_ n1_ n2_
                (try clear hb)
                (try clear hb2)
                (try clear hk)
                (try clear hi)
                refine hK.out _ _ ⟨(blk_cell BK217.out 0).trans rfl, (blk_cell BK217.out 1).trans rfl, (blk_cell BK217.out 2).trans rfl, (blk_cell BK221.out 0).trans rfl, (blk_cell BK221.out 1).trans rfl, (blk_cell BK221.out 2).trans rfl, ((HB.out.cell (World.block_lt_of_cell? w _ hw225_0)).trans hw225_0), ((HB.out.cell (World.block_lt_of_cell? w _ hw225_1)).trans hw225_1), ((HB.out.cell (World.block_lt_of_cell? w _ hw225_2)).trans hw225_2)⟩ (fun hHeld => ?_)
                clear hK K
                refine norm_ (a' := ?_) ?_ ?_
                rotate_left
                ·show Act.put _ (some 71) _ = _
                 simp only [Act.put, List.setIfInBounds_toArray, List.set_cons_zero, List.set_cons_succ, i64_w, i32_w]
                 rfl
                refine pure_ (i := 11) (N := some 72) (v := ?_) (a' := ?_) #[true, true, true, true, true, true, true, true, true, true, true, true, false, false, false, false, false, false, false, false, false] rfl rfl (any_of HT_.out (by kernel_rfl)) (fun _ _ _ h => h) (Or.inl ⟨by rfl, ?_⟩) ?_ ?_
                rotate_left
                ·intro w'
                 go_simp
                 with_reducible rfl
                rotate_left
                ·simp only [Act.put, List.setIfInBounds_toArray, List.set_cons_zero, List.set_cons_succ, i64_w, i32_w]
                 rfl
                refine pure_ (i := 12) (N := some 73) (v := ?_) (a' := ?_) #[true, true, true, true, true, true, true, true, true, true, true, true, true, false, false, false, false, false, false, false, false] rfl rfl (any_of HT_.out (by kernel_rfl)) (fun _ _ _ h => h) (Or.inl ⟨by rfl, ?_⟩) ?_ ?_
                rotate_left
                ·intro w'
                 go_simp
                 with_reducible rfl
                rotate_left
                ·simp only [Act.put, List.setIfInBounds_toArray, List.set_cons_zero, List.set_cons_succ, i64_w, i32_w]
                 rfl
                refine pure_ (i := 13) (N := some 74) (v := ?_) (a' := ?_) #[true, true, true, true, true, true, true, true, true, true, true, true, true, true, false, false, false, false, false, false, false] rfl rfl (any_of HT_.out (by kernel_rfl)) (fun _ _ _ h => h) (Or.inl ⟨by rfl, ?_⟩) ?_ ?_
                rotate_left
                ·intro w'
                 go_simp
                 with_reducible rfl
                rotate_left
                ·simp only [Act.put, List.setIfInBounds_toArray, List.set_cons_zero, List.set_cons_succ, i64_w, i32_w]
                 rfl
                refine pure_ (i := 14) (N := some 75) (v := undef) (a' := ?_) #[true, true, true, true, true, true, true, true, true, true, true, true, true, true, true, false, false, false, false, false, false] rfl rfl (any_of HT_.out (by kernel_rfl)) (fun _ _ _ h => h) (Or.inr ⟨by rfl, rfl⟩) ?_ ?_
                rotate_left
                ·simp only [Act.put, List.setIfInBounds_toArray, List.set_cons_zero, List.set_cons_succ, i64_w, i32_w]
                 rfl
                refine pure_ (i := 15) (N := some 76) (v := undef) (a' := ?_) #[true, true, true, true, true, true, true, true, true, true, true, true, true, true, true, true, false, false, false, false, false] rfl rfl (any_of HT_.out (by kernel_rfl)) (fun _ _ _ h => h) (Or.inr ⟨by rfl, rfl⟩) ?_ ?_
                rotate_left
                ·simp only [Act.put, List.setIfInBounds_toArray, List.set_cons_zero, List.set_cons_succ, i64_w, i32_w]
                 rfl
                refine pure_ (i := 16) (N := some 77) (v := undef) (a' := ?_) #[true, true, true, true, true, true, true, true, true, true, true, true, true, true, true, true, true, false, false, false, false] rfl rfl (any_of HT_.out (by kernel_rfl)) (fun _ _ _ h => h) (Or.inr ⟨by rfl, rfl⟩) ?_ ?_
                rotate_left
                ·simp only [Act.put, List.setIfInBounds_toArray, List.set_cons_zero, List.set_cons_succ, i64_w, i32_w]
                 rfl
                refine pure_ (i := 17) (N := some 78) (v := undef) (a' := ?_) #[true, true, true, true, true, true, true, true, true, true, true, true, true, true, true, true, true, true, false, false, false] rfl rfl (any_of HT_.out (by kernel_rfl)) (fun _ _ _ h => h) (Or.inr ⟨by rfl, rfl⟩) ?_ ?_
                rotate_left
                ·simp only [Act.put, List.setIfInBounds_toArray, List.set_cons_zero, List.set_cons_succ, i64_w, i32_w]
                 rfl
                refine pure_ (i := 18) (N := some 79) (v := undef) (a' := ?_) #[true, true, true, true, true, true, true, true, true, true, true, true, true, true, true, true, true, true, true, false, false] rfl rfl (any_of HT_.out (by kernel_rfl)) (fun _ _ _ h => h) (Or.inr ⟨by rfl, rfl⟩) ?_ ?_
                rotate_left
                ·simp only [Act.put, List.setIfInBounds_toArray, List.set_cons_zero, List.set_cons_succ, i64_w, i32_w]
                 rfl
                refine pure_ (i := 19) (N := some 80) (v := undef) (a' := ?_) #[true, true, true, true, true, true, true, true, true, true, true, true, true, true, true, true, true, true, true, true, false] rfl rfl (any_of HT_.out (by kernel_rfl)) (fun _ _ _ h => h) (Or.inr ⟨by rfl, rfl⟩) ?_ ?_
                rotate_left
                ·simp only [Act.put, List.setIfInBounds_toArray, List.set_cons_zero, List.set_cons_succ, i64_w, i32_w]
                 rfl
                refine pure_ (i := 20) (N := some 81) (v := ?_) (a' := ?_) #[true, true, true, true, true, true, true, true, true, true, true, true, true, true, true, true, true, true, true, true, true] rfl rfl (any_of HT_.out (by kernel_rfl)) (fun _ _ _ h => h) (Or.inl ⟨by rfl, ?_⟩) ?_ ?_
                rotate_left
                ·intro w'
                 go_simp
                 with_reducible rfl
                rotate_left
                ·simp only [Act.put, List.setIfInBounds_toArray, List.set_cons_zero, List.set_cons_succ, i64_w, i32_w]
                 rfl
                refine done_ (done_of HT_.out (by kernel_rfl)) ?_
                try go_wp2
                go_ret
                exact ⟨by first | rfl | (simp [errW_none, errW_some] <;> rfl) | (simp only [← hji37]; first | rfl | (simp [errW_none, errW_some] <;> rfl)) | (simp [*, errW_none, errW_some] <;> rfl), by repeat (first | (with_reducible first | exact HB.out | apply below_alloc | apply pw_below_drewN | apply below_drew1 | refine below_set ?_ GE217.out | refine below_set ?_ GE221.out) | exact HB.out)⟩
               ·rw [if_neg c41] at H
                have c41b0 : decide (0 ≤ t226) = false := decide_eq_false c41
                clear c41
                by_cases c44 : 0 ≤ x25_2
                ·rw [if_pos c44] at H
                 have c44b0 := eq_true c44
                 have c44b1 : decide (0 ≤ x25_2) = true := decide_eq_true c44
                 clear c44
                 by_cases c45 : x25_2 ≤ (l0_2.length : Int)
                 ·rw [if_pos c45] at H
                  have c45b0 := eq_true c45
                  have c45b1 : decide (x25_2 ≤ (l0_2.length : Int)) = true := decide_eq_true c45
                  clear c45
                  obtain ⟨y227, hy227⟩ : ∃ y_ : List (S73), y_ = (l0_2.take (x25_2 : Int).toNat) := ⟨_, rfl⟩
                  replace H : ((slices_ContainsFunc_impl_Square_impl_Square__impl_IsCut_1.f y227 ((rd_T73 l0_2 x25_2).f0) ((rd_T73 l0_2 x25_2).f1) ((rd_T73 l0_2 x25_2).f2)).bind fun t231 => (if t231 = true then (some false) else (impl_IsCut.l0 kj15 (wrap64 (x3_2 + (wrap64 (((rd_T73 l0_2 x25_2).f2) * ((rd_T73 l0_2 x25_2).f2))))) l0_2 (l0_2.length : Int) (wrap64 (x25_2 + 1)) a0_0 a0_1 l0_2))) = some r := by first | (rw [hy227]; with_reducible exact H) | (have H2_ := (Option.bind_some _ _).symm.trans H; rw [hy227]; with_reducible exact H2_) | (have H2_ := (Option.bind_some _ _).symm.trans H; with_reducible exact H2_) | with_reducible exact H | (rw [hy227]; exact H) | exact H
                  have Ny227 := Aside0.mk hy227
                  clear hy227
                  replace H := Option.bind_eq_some_iff.mp H
                  obtain ⟨t231, A460, H⟩ := H
                  replace H : (if t231 = true then (some false) else (impl_IsCut.l0 kj15 (wrap64 (x3_2 + (wrap64 (((rd_T73 l0_2 x25_2).f2) * ((rd_T73 l0_2 x25_2).f2))))) l0_2 (l0_2.length : Int) (wrap64 (x25_2 + 1)) a0_0 a0_1 l0_2)) = some r := H
                  have A46 := Aside0.mk A460
                  clear A460
                  by_cases c47 : t231 = true
                  ·subst c47
                   have H1 : (some false) = some r := by rw [if_pos rfl] at H; exact H
                   clear H
                   have H := H1
                   clear H1
                   obtain rfl := Option.some.inj H
                   try go_wp2
                   have n0_ := Aside0.mk (blk_drew BK217.out)
                   have n1_ := Aside0.mk (blk_drew BK221.out)
                   have n2_ := Aside0.mk (below_drew1 HB.out)
                   clear BK217
                   clear BK221
                   clear HB
                   have BK217 := n0_
                   have BK221 := n1_
                   have HB := n2_
                   clear n0_ n1_ n2_
                   have p225 : 0 ≤ ((ji37) : Int) := of_decide_eq_true (by first | (with_reducible assumption) | assumption)
                   have q225 : (ji37) < (l0_2.length : Int) := of_decide_eq_true (by first | (with_reducible assumption) | assumption)
                   obtain ⟨ad225, e225, hx225_0, hx225_1, hx225_2⟩ := at_T73 HR0_2.out (ji37) p225 q225
                   have hw225_2 := hx225_2
                   have hw225_1 := hx225_1
                   have hw225_0 := hx225_0
                   obtain rfl : ad220 = ad225 := (by injection e225)
                   replace hx225_0 := (HB.out.cell (World.block_lt_of_cell? w _ hx225_0)).trans hx225_0
                   replace hx225_1 := (HB.out.cell (World.block_lt_of_cell? w _ hx225_1)).trans hx225_1
                   replace hx225_2 := (HB.out.cell (World.block_lt_of_cell? w _ hx225_2)).trans hx225_2
                   replace p225 := eq_true p225
                   replace q225 := eq_true q225
                   refine start_ (n := 21) (S := fun w' => w'.cell? ⟨gb217, 0, none⟩ = some (.int .i64 a0_0) ∧ w'.cell? ⟨gb217, 1, none⟩ = some (.int .i64 a0_1) ∧ w'.cell? ⟨gb217, 2, none⟩ = some (.slice (some ad220) l0_2.length c0_2) ∧ w'.cell? ⟨gb221, 0, none⟩ = some (.int .i64 ((rd_T73 l0_2 x25_2).f0)) ∧ w'.cell? ⟨gb221, 1, none⟩ = some (.int .i64 ((rd_T73 l0_2 x25_2).f1)) ∧ w'.cell? ⟨gb221, 2, none⟩ = some (.int .i64 ((rd_T73 l0_2 x25_2).f2)) ∧ w'.cell? (ad220.add (((ji37)).toNat * 3)) = some (.int .i64 ((rd_T73 l0_2 (ji37)).f0)) ∧ w'.cell? ⟨(ad220.add (((ji37)).toNat * 3)).block, (ad220.add (((ji37)).toNat * 3)).off + 1, none⟩ = some (.int .i64 ((rd_T73 l0_2 (ji37)).f1)) ∧ w'.cell? ⟨(ad220.add (((ji37)).toNat * 3)).block, (ad220.add (((ji37)).toNat * 3)).off + 2, none⟩ = some (.int .i64 ((rd_T73 l0_2 (ji37)).f2))) (ds := []) #[false, false, false, false, false, false, false, false, false, false, false, false, false, false, false, false, false, false, false, false, false] (by kernel_rfl) rfl rfl ⟨(blk_cell BK217.out 0).trans rfl, (blk_cell BK217.out 1).trans rfl, (blk_cell BK217.out 2).trans rfl, (blk_cell BK221.out 0).trans rfl, (blk_cell BK221.out 1).trans rfl, (blk_cell BK221.out 2).trans rfl, ((HB.out.cell (World.block_lt_of_cell? w _ hw225_0)).trans hw225_0), ((HB.out.cell (World.block_lt_of_cell? w _ hw225_1)).trans hw225_1), ((HB.out.cell (World.block_lt_of_cell? w _ hw225_2)).trans hw225_2)⟩ (fun hHeld => ?_); refine with_tabW impl_IsCut.tab9 impl_IsCut.bits9 (fun HT_ HW_ => ?_)
                   generalize wc.drew = w48 at BK217 BK221 HB hx225_0 hx225_1 hx225_2 hHeld ⊢
                   refine pure_ (i := 0) (N := some 61) (v := ?_) (a' := ?_) #[true, false, false, false, false, false, false, false, false, false, false, false, false, false, false, false, false, false, false, false, false] rfl rfl (any_of HT_.out (by kernel_rfl)) (fun _ _ _ h => h) (Or.inl ⟨by rfl, ?_⟩) ?_ ?_
                   rotate_left
                   ·intro w'
                    go_simp
                    with_reducible rfl
                   rotate_left
                   ·simp only [Act.put, List.setIfInBounds_toArray, List.set_cons_zero, List.set_cons_succ, i64_w, i32_w]
                    rfl
                   refine pure_ (i := 1) (N := some 62) (v := ?_) (a' := ?_) #[true, true, false, false, false, false, false, false, false, false, false, false, false, false, false, false, false, false, false, false, false] rfl rfl (any_of HT_.out (by kernel_rfl)) (fun _ _ _ h => h) (Or.inl ⟨by rfl, ?_⟩) ?_ ?_
                   rotate_left
                   ·intro w'
                    go_simp
                    with_reducible rfl
                   rotate_left
                   ·simp only [Act.put, List.setIfInBounds_toArray, List.set_cons_zero, List.set_cons_succ, i64_w, i32_w]
                    rfl
                   refine pure_ (i := 2) (N := some 63) (v := ?_) (a' := ?_) #[true, true, true, false, false, false, false, false, false, false, false, false, false, false, false, false, false, false, false, false, false] rfl rfl (any_of HT_.out (by kernel_rfl)) (fun _ _ _ h => h) (Or.inl ⟨by rfl, ?_⟩) ?_ ?_
                   rotate_left
                   ·intro w'
                    go_simp
                    with_reducible rfl
                   rotate_left
                   ·simp only [Act.put, List.setIfInBounds_toArray, List.set_cons_zero, List.set_cons_succ, i64_w, i32_w]
                    rfl
                   refine pure_ (i := 3) (N := some 64) (v := ?_) (a' := ?_) #[true, true, true, true, false, false, false, false, false, false, false, false, false, false, false, false, false, false, false, false, false] rfl rfl (any_of HT_.out (by kernel_rfl)) (fun _ _ _ h => h) (Or.inl ⟨by rfl, ?_⟩) ?_ ?_
                   rotate_left
                   ·intro w'
                    go_simp
                    with_reducible rfl
                   rotate_left
                   ·simp only [Act.put, List.setIfInBounds_toArray, List.set_cons_zero, List.set_cons_succ, i64_w, i32_w]
                    rfl
                   refine pure_ (i := 5) (N := some 66) (v := ?_) (a' := ?_) #[true, true, true, true, false, true, false, false, false, false, false, false, false, false, false, false, false, false, false, false, false] rfl rfl (any_of HT_.out (by kernel_rfl)) (fun _ _ _ h => h) (Or.inl ⟨by rfl, ?_⟩) ?_ ?_
                   rotate_left
                   ·intro w'
                    go_simp
                    with_reducible rfl
                   rotate_left
                   ·simp only [Act.put, List.setIfInBounds_toArray, List.set_cons_zero, List.set_cons_succ, i64_w, i32_w]
                    rfl
                   refine pure_ (i := 6) (N := some 67) (v := ?_) (a' := ?_) #[true, true, true, true, false, true, true, false, false, false, false, false, false, false, false, false, false, false, false, false, false] rfl rfl (any_of HT_.out (by kernel_rfl)) (fun _ _ _ h => h) (Or.inl ⟨by rfl, ?_⟩) ?_ ?_
                   rotate_left
                   ·intro w'
                    go_simp
                    with_reducible rfl
                   rotate_left
                   ·simp only [Act.put, List.setIfInBounds_toArray, List.set_cons_zero, List.set_cons_succ, i64_w, i32_w]
                    rfl
                   refine take_ (i := 4) (N := some 65) (v := ?_) (a' := ?_) #[true, true, true, true, true, true, true, false, false, false, false, false, false, false, false, false, false, false, false, false, false] rfl rfl (take_ofW HT_.out HW_.out (by kernel_rfl)) (fun _ _ _ h => h) (Or.inl ⟨by rfl, ?_⟩) hHeld ?_ ?_
                   rotate_left
                   ·rintro w' ⟨s0, s1, s2, s3, s4, s5, s6, s7, s8⟩
                    go_simp
                    with_reducible rfl
                   rotate_left
                   ·simp only [Act.put, List.setIfInBounds_toArray, List.set_cons_zero, List.set_cons_succ, i64_w, i32_w]
                    rfl
                   refine pure_ (i := 7) (N := some 68) (v := ?_) (a' := ?_) #[true, true, true, true, true, true, true, true, false, false, false, false, false, false, false, false, false, false, false, false, false] rfl rfl (any_of HT_.out (by kernel_rfl)) (fun _ _ _ h => h) (Or.inl ⟨by rfl, ?_⟩) ?_ ?_
                   rotate_left
                   ·intro w'
                    go_simp
                    with_reducible rfl
                   rotate_left
                   ·simp only [Act.put, List.setIfInBounds_toArray, List.set_cons_zero, List.set_cons_succ, i64_w, i32_w]
                    rfl
                   refine take_ (i := 8) (N := some 69) (v := ?_) (a' := ?_) #[true, true, true, true, true, true, true, true, true, false, false, false, false, false, false, false, false, false, false, false, false] rfl rfl (take_ofW HT_.out HW_.out (by kernel_rfl)) (fun _ _ _ h => h) (Or.inl ⟨by rfl, ?_⟩) hHeld ?_ ?_
                   rotate_left
                   ·rintro w' ⟨s0, s1, s2, s3, s4, s5, s6, s7, s8⟩
                    go_simp
                    with_reducible rfl
                   rotate_left
                   ·simp only [Act.put, List.setIfInBounds_toArray, List.set_cons_zero, List.set_cons_succ, i64_w, i32_w]
                    rfl
                   refine take_ (i := 9) (N := some 70) (v := ?_) (a' := ?_) #[true, true, true, true, true, true, true, true, true, true, false, false, false, false, false, false, false, false, false, false, false] rfl rfl (take_ofW HT_.out HW_.out (by kernel_rfl)) (fun _ _ _ h => h) (Or.inl ⟨by rfl, ?_⟩) hHeld ?_ ?_
                   rotate_left
                   ·rintro w' ⟨s0, s1, s2, s3, s4, s5, s6, s7, s8⟩
                    go_simp
                    with_reducible rfl
                   rotate_left
                   ·simp only [Act.put, List.setIfInBounds_toArray, List.set_cons_zero, List.set_cons_succ, i64_w, i32_w]
                    rfl
                   refine one_ (i := 10) (N := some 71) #[true, true, true, true, true, true, true, true, true, true, true, false, false, false, false, false, false, false, false, false, false] rfl rfl (one_of HT_.out (by kernel_rfl)) (by decide) (fun K hK => ?_)
                   refine goes_ Try.func98 (by kernel_rfl) rfl #[.agg #[.int .i64 ((rd_T73 l0_2 (ji37)).f0), .int .i64 ((rd_T73 l0_2 (ji37)).f1), .int .i64 ((rd_T73 l0_2 (ji37)).f2)], .agg #[.int .i64 ((rd_T73 l0_2 x25_2).f0), .int .i64 ((rd_T73 l0_2 x25_2).f1), .int .i64 ((rd_T73 l0_2 x25_2).f2)]] (by rfl) rfl rfl (by (try simp only [List.map_toArray, List.map_cons, List.map_nil]); first | done | (simp only [hji37]; rfl) | rfl | (simp only [List.length_drop, List.length_take]; rfl)) ?_
                   with_reducible refine (impl_comparePlaces.calls ((rd_T73 l0_2 (ji37)).f0) ((rd_T73 l0_2 (ji37)).f1) ((rd_T73 l0_2 (ji37)).f2) ((rd_T73 l0_2 x25_2).f0) ((rd_T73 l0_2 x25_2).f1) ((rd_T73 l0_2 x25_2).f2) t226 _ A40.out).mono ?_
                   rintro e w49 ⟨rfl, hb⟩
                   refine ⟨_, rfl, ?_⟩
                   have n0_ := Aside0.mk (blk_below (upK BK217) hb)
                   have n1_ := Aside0.mk (blk_below (upK BK221) hb)
                   have n2_ := Aside0.mk (below_step (upW HB) hb)
                   clear BK217
                   clear BK221
                   clear HB
                   have BK217 := n0_
                   have BK221 := n1_
                   have HB := n2_
                   clear n0_ n1_ n2_
                   (try clear hb)
                   (try clear hb2)
                   (try clear hk)
                   (try clear hi)
                   have q50 : (x25_2 : Int) ≤ ((l0_2.length : Int) : Int) := of_decide_eq_true (by first | (with_reducible assumption) | assumption)
                   obtain ⟨i050, hi050, _, hsz50, _⟩ := info_parts info73
                   have hroom50 : l0_2.length ≤ c0_2 := HC0_2.out
                   have hC50 : Kd.C k73 _ (some ad220) l0_2.length l0_2 := HR0_2.out
                   have hcut50 := cut_to (P := Try.prog) 29 73 .i64 Try.underlying29 hi050 (some ad220) l0_2.length c0_2 x25_2 (of_decide_eq_true (by first | (with_reducible assumption) | assumption)) q50 hroom50
                   have hr50 := Kd.C_take (m := (x25_2 : Int).toNat) hC50 (by omega)
                   have hy50 : y227.length = (x25_2 : Int).toNat := (by rw [Ny227.out, List.length_take]; omega)
                   rw [← Ny227.out] at hr50
                   rw [← hy50] at hcut50
                   have HR230 := Aside0.mk hr50
                   have HC230 := Aside0.mk (show y227.length ≤ c0_2 from by omega)
                   clear hr50 hC50 hroom50 hi050 hsz50
                   have KY50 := Aside0.mk hy50
                   clear hy50
                   replace q50 := eq_true q50
                   refine hK.out _ _ ⟨(blk_cell BK217.out 0).trans rfl, (blk_cell BK217.out 1).trans rfl, (blk_cell BK217.out 2).trans rfl, (blk_cell BK221.out 0).trans rfl, (blk_cell BK221.out 1).trans rfl, (blk_cell BK221.out 2).trans rfl, ((HB.out.cell (World.block_lt_of_cell? w _ hw225_0)).trans hw225_0), ((HB.out.cell (World.block_lt_of_cell? w _ hw225_1)).trans hw225_1), ((HB.out.cell (World.block_lt_of_cell? w _ hw225_2)).trans hw225_2)⟩ (fun hHeld => ?_)
                   clear hK K
                   refine norm_ (a' := ?_) ?_ ?_
                   rotate_left
                   ·show Act.put _ (some 71) _ = _
                    simp only [Act.put, List.setIfInBounds_toArray, List.set_cons_zero, List.set_cons_succ, i64_w, i32_w]
                    rfl
                   refine pure_ (i := 11) (N := some 72) (v := ?_) (a' := ?_) #[true, true, true, true, true, true, true, true, true, true, true, true, false, false, false, false, false, false, false, false, false] rfl rfl (any_of HT_.out (by kernel_rfl)) (fun _ _ _ h => h) (Or.inl ⟨by rfl, ?_⟩) ?_ ?_
                   rotate_left
                   ·intro w'
                    go_simp
                    with_reducible rfl
                   rotate_left
                   ·simp only [Act.put, List.setIfInBounds_toArray, List.set_cons_zero, List.set_cons_succ, i64_w, i32_w]
                    rfl
                   refine pure_ (i := 12) (N := some 73) (v := ?_) (a' := ?_) #[true, true, true, true, true, true, true, true, true, true, true, true, true, false, false, false, false, false, false, false, false] rfl rfl (any_of HT_.out (by kernel_rfl)) (fun _ _ _ h => h) (Or.inl ⟨by rfl, ?_⟩) ?_ ?_
                   rotate_left
                   ·intro w'
                    go_simp
                    with_reducible rfl
                   rotate_left
                   ·simp only [Act.put, List.setIfInBounds_toArray, List.set_cons_zero, List.set_cons_succ, i64_w, i32_w]
                    rfl
                   refine pure_ (i := 13) (N := some 74) (v := ?_) (a' := ?_) #[true, true, true, true, true, true, true, true, true, true, true, true, true, true, false, false, false, false, false, false, false] rfl rfl (any_of HT_.out (by kernel_rfl)) (fun _ _ _ h => h) (Or.inl ⟨by rfl, ?_⟩) ?_ ?_
                   rotate_left
                   ·intro w'
                    go_simp
                    with_reducible rfl
                   rotate_left
                   ·simp only [Act.put, List.setIfInBounds_toArray, List.set_cons_zero, List.set_cons_succ, i64_w, i32_w]
                    rfl
                   refine pure_ (i := 14) (N := some 75) (v := ?_) (a' := ?_) #[true, true, true, true, true, true, true, true, true, true, true, true, true, true, true, false, false, false, false, false, false] rfl rfl (any_of HT_.out (by kernel_rfl)) (fun _ _ _ h => h) (Or.inl ⟨by rfl, ?_⟩) ?_ ?_
                   rotate_left
                   ·intro w'
                    go_simp
                    with_reducible rfl
                   rotate_left
                   ·simp only [Act.put, List.setIfInBounds_toArray, List.set_cons_zero, List.set_cons_succ, i64_w, i32_w]
                    rfl
                   refine pure_ (i := 16) (N := some 77) (v := ?_) (a' := ?_) #[true, true, true, true, true, true, true, true, true, true, true, true, true, true, true, false, true, false, false, false, false] rfl rfl (any_of HT_.out (by kernel_rfl)) (fun _ _ _ h => h) (Or.inl ⟨by rfl, ?_⟩) ?_ ?_
                   rotate_left
                   ·intro w'
                    go_simp
                    with_reducible rfl
                   rotate_left
                   ·simp only [Act.put, List.setIfInBounds_toArray, List.set_cons_zero, List.set_cons_succ, i64_w, i32_w]
                    rfl
                   refine pure_ (i := 18) (N := some 79) (v := ?_) (a' := ?_) #[true, true, true, true, true, true, true, true, true, true, true, true, true, true, true, false, true, false, true, false, false] rfl rfl (any_of HT_.out (by kernel_rfl)) (fun _ _ _ h => h) (Or.inl ⟨by rfl, ?_⟩) ?_ ?_
                   rotate_left
                   ·intro w'
                    go_simp
                    with_reducible rfl
                   rotate_left
                   ·simp only [Act.put, List.setIfInBounds_toArray, List.set_cons_zero, List.set_cons_succ, i64_w, i32_w]
                    rfl
                   refine take_ (i := 15) (N := some 76) (v := ?_) (a' := ?_) #[true, true, true, true, true, true, true, true, true, true, true, true, true, true, true, true, true, false, true, false, false] rfl rfl (take_ofW HT_.out HW_.out (by kernel_rfl)) (fun _ _ _ h => h) (Or.inl ⟨by rfl, ?_⟩) hHeld ?_ ?_
                   rotate_left
                   ·rintro w' ⟨s0, s1, s2, s3, s4, s5, s6, s7, s8⟩
                    go_simp
                    with_reducible rfl
                   rotate_left
                   ·simp only [Act.put, List.setIfInBounds_toArray, List.set_cons_zero, List.set_cons_succ, i64_w, i32_w]
                    rfl
                   refine pure_ (i := 17) (N := some 78) (v := ?_) (a' := ?_) #[true, true, true, true, true, true, true, true, true, true, true, true, true, true, true, true, true, true, true, false, false] rfl rfl (any_of HT_.out (by kernel_rfl)) (fun _ _ _ h => h) (Or.inl ⟨by rfl, ?_⟩) ?_ ?_
                   rotate_left
                   ·intro w'
                    go_simp
                    with_reducible rfl
                   rotate_left
                   ·simp only [Act.put, List.setIfInBounds_toArray, List.set_cons_zero, List.set_cons_succ, i64_w, i32_w]
                    rfl
                   refine one_ (i := 19) (N := some 80) #[true, true, true, true, true, true, true, true, true, true, true, true, true, true, true, true, true, true, true, true, false] rfl rfl (one_of HT_.out (by kernel_rfl)) (by decide) (fun K hK => ?_)
                   refine goes_ Try.func99 (by kernel_rfl) rfl #[.slice (some ad220) y227.length c0_2, .func (.func 100) #[] #[.pointer (some ⟨gb221, 0, none⟩)]] (by rfl) rfl rfl itp ?_
                   with_reducible refine (slices_ContainsFunc_impl_Square_impl_Square__impl_IsCut_1.calls _ _ y227 gb221 ((rd_T73 l0_2 x25_2).f0) ((rd_T73 l0_2 x25_2).f1) ((rd_T73 l0_2 x25_2).f2) true _ ?side1 ?side2 ?side3 A46.out).mono ?_
                   (case side1 => repeat (first | exact (Kd.C_below HR230.out HB.out) | (with_reducible refine Kd.C_alloc ?_ _) | (with_reducible refine Kd.C_drewN ?_ _) | (with_reducible refine Kd.C_drew ?_)))
                   (case side2 => exact HC230.out)
                   (case side3 => exact (upK BK221))
                   rintro e w51 ⟨rfl, hb⟩
                   refine ⟨_, rfl, ?_⟩
                   have n0_ := Aside0.mk (blk_below (upK BK217) hb)
                   have n1_ := Aside0.mk (blk_below (upK BK221) hb)
                   have n2_ := Aside0.mk (below_step (upW HB) hb)
                   clear BK217
                   clear BK221
                   clear HB
                   have BK217 := n0_
                   have BK221 := n1_
                   have HB := n2_
                   clear n0_ n1_ n2_
                   (try clear hb)
                   (try clear hb2)
                   (try clear hk)
                   (try clear hi)
                   refine hK.out _ _ ⟨(blk_cell BK217.out 0).trans rfl, (blk_cell BK217.out 1).trans rfl, (blk_cell BK217.out 2).trans rfl, (blk_cell BK221.out 0).trans rfl, (blk_cell BK221.out 1).trans rfl, (blk_cell BK221.out 2).trans rfl, ((HB.out.cell (World.block_lt_of_cell? w _ hw225_0)).trans hw225_0), ((HB.out.cell (World.block_lt_of_cell? w _ hw225_1)).trans hw225_1), ((HB.out.cell (World.block_lt_of_cell? w _ hw225_2)).trans hw225_2)⟩ (fun hHeld => ?_)
                   clear hK K
                   refine norm_ (a' := ?_) ?_ ?_
                   rotate_left
                   ·show Act.put _ (some 80) _ = _
                    simp only [Act.put, List.setIfInBounds_toArray, List.set_cons_zero, List.set_cons_succ, i64_w, i32_w]
                    rfl
                   refine pure_ (i := 20) (N := some 81) (v := ?_) (a' := ?_) #[true, true, true, true, true, true, true, true, true, true, true, true, true, true, true, true, true, true, true, true, true] rfl rfl (any_of HT_.out (by kernel_rfl)) (fun _ _ _ h => h) (Or.inl ⟨by rfl, ?_⟩) ?_ ?_
                   rotate_left
                   ·intro w'
                    go_simp
                    with_reducible rfl
                   rotate_left
                   ·simp only [Act.put, List.setIfInBounds_toArray, List.set_cons_zero, List.set_cons_succ, i64_w, i32_w]
                    rfl
                   refine done_ (done_of HT_.out (by kernel_rfl)) ?_
                   try go_wp2
                   go_ret
                   exact ⟨by first | rfl | (simp [errW_none, errW_some] <;> rfl) | (simp only [← hji37]; first | rfl | (simp [errW_none, errW_some] <;> rfl)) | (simp [*, errW_none, errW_some] <;> rfl), by repeat (first | (with_reducible first | exact HB.out | apply below_alloc | apply pw_below_drewN | apply below_drew1 | refine below_set ?_ GE217.out | refine below_set ?_ GE221.out) | exact HB.out)⟩
                  ·replace c47 := Bool.eq_false_iff.mpr c47
                   subst c47
                   have H1 : (impl_IsCut.l0 kj15 (wrap64 (x3_2 + (wrap64 (((rd_T73 l0_2 x25_2).f2) * ((rd_T73 l0_2 x25_2).f2))))) l0_2 (l0_2.length : Int) (wrap64 (x25_2 + 1)) a0_0 a0_1 l0_2) = some r := by rw [if_neg (show ¬ (false = true) by decide)] at H; exact H
                   clear H
                   have H := H1
                   clear H1
                   have H' := Aside0.mk H
                   clear H
                   try go_wp2
                   have n0_ := Aside0.mk (blk_drew BK217.out)
                   have n1_ := Aside0.mk (blk_drew BK221.out)
                   have n2_ := Aside0.mk (below_drew1 HB.out)
                   clear BK217
                   clear BK221
                   clear HB
                   have BK217 := n0_
                   have BK221 := n1_
                   have HB := n2_
                   clear n0_ n1_ n2_
                   have p225 : 0 ≤ ((ji37) : Int) := of_decide_eq_true (by first | (with_reducible assumption) | assumption)
                   have q225 : (ji37) < (l0_2.length : Int) := of_decide_eq_true (by first | (with_reducible assumption) | assumption)
                   obtain ⟨ad225, e225, hx225_0, hx225_1, hx225_2⟩ := at_T73 HR0_2.out (ji37) p225 q225
                   have hw225_2 := hx225_2
                   have hw225_1 := hx225_1
                   have hw225_0 := hx225_0
                   obtain rfl : ad220 = ad225 := (by injection e225)
                   replace hx225_0 := (HB.out.cell (World.block_lt_of_cell? w _ hx225_0)).trans hx225_0
                   replace hx225_1 := (HB.out.cell (World.block_lt_of_cell? w _ hx225_1)).trans hx225_1
                   replace hx225_2 := (HB.out.cell (World.block_lt_of_cell? w _ hx225_2)).trans hx225_2
                   replace p225 := eq_true p225
                   replace q225 := eq_true q225
                   refine start_ (n := 21) (S := fun w' => w'.cell? ⟨gb217, 0, none⟩ = some (.int .i64 a0_0) ∧ w'.cell? ⟨gb217, 1, none⟩ = some (.int .i64 a0_1) ∧ w'.cell? ⟨gb217, 2, none⟩ = some (.slice (some ad220) l0_2.length c0_2) ∧ w'.cell? ⟨gb221, 0, none⟩ = some (.int .i64 ((rd_T73 l0_2 x25_2).f0)) ∧ w'.cell? ⟨gb221, 1, none⟩ = some (.int .i64 ((rd_T73 l0_2 x25_2).f1)) ∧ w'.cell? ⟨gb221, 2, none⟩ = some (.int .i64 ((rd_T73 l0_2 x25_2).f2)) ∧ w'.cell? (ad220.add (((ji37)).toNat * 3)) = some (.int .i64 ((rd_T73 l0_2 (ji37)).f0)) ∧ w'.cell? ⟨(ad220.add (((ji37)).toNat * 3)).block, (ad220.add (((ji37)).toNat * 3)).off + 1, none⟩ = some (.int .i64 ((rd_T73 l0_2 (ji37)).f1)) ∧ w'.cell? ⟨(ad220.add (((ji37)).toNat * 3)).block, (ad220.add (((ji37)).toNat * 3)).off + 2, none⟩ = some (.int .i64 ((rd_T73 l0_2 (ji37)).f2))) (ds := []) #[false, false, false, false, false, false, false, false, false, false, false, false, false, false, false, false, false, false, false, false, false] (by kernel_rfl) rfl rfl ⟨(blk_cell BK217.out 0).trans rfl, (blk_cell BK217.out 1).trans rfl, (blk_cell BK217.out 2).trans rfl, (blk_cell BK221.out 0).trans rfl, (blk_cell BK221.out 1).trans rfl, (blk_cell BK221.out 2).trans rfl, ((HB.out.cell (World.block_lt_of_cell? w _ hw225_0)).trans hw225_0), ((HB.out.cell (World.block_lt_of_cell? w _ hw225_1)).trans hw225_1), ((HB.out.cell (World.block_lt_of_cell? w _ hw225_2)).trans hw225_2)⟩ (fun hHeld => ?_); refine with_tabW impl_IsCut.tab9 impl_IsCut.bits9 (fun HT_ HW_ => ?_)
                   generalize wc.drew = w52 at BK217 BK221 HB hx225_0 hx225_1 hx225_2 hHeld ⊢
                   refine pure_ (i := 0) (N := some 61) (v := ?_) (a' := ?_) #[true, false, false, false, false, false, false, false, false, false, false, false, false, false, false, false, false, false, false, false, false] rfl rfl (any_of HT_.out (by kernel_rfl)) (fun _ _ _ h => h) (Or.inl ⟨by rfl, ?_⟩) ?_ ?_
                   rotate_left
                   ·intro w'
                    go_simp
                    with_reducible rfl
                   rotate_left
                   ·simp only [Act.put, List.setIfInBounds_toArray, List.set_cons_zero, List.set_cons_succ, i64_w, i32_w]
                    rfl
                   refine pure_ (i := 1) (N := some 62) (v := ?_) (a' := ?_) #[true, true, false, false, false, false, false, false, false, false, false, false, false, false, false, false, false, false, false, false, false] rfl rfl (any_of HT_.out (by kernel_rfl)) (fun _ _ _ h => h) (Or.inl ⟨by rfl, ?_⟩) ?_ ?_
                   rotate_left
                   ·intro w'
                    go_simp
                    with_reducible rfl
                   rotate_left
                   ·simp only [Act.put, List.setIfInBounds_toArray, List.set_cons_zero, List.set_cons_succ, i64_w, i32_w]
                    rfl
                   refine pure_ (i := 2) (N := some 63) (v := ?_) (a' := ?_) #[true, true, true, false, false, false, false, false, false, false, false, false, false, false, false, false, false, false, false, false, false] rfl rfl (any_of HT_.out (by kernel_rfl)) (fun _ _ _ h => h) (Or.inl ⟨by rfl, ?_⟩) ?_ ?_
                   rotate_left
                   ·intro w'
                    go_simp
                    with_reducible rfl
                   rotate_left
                   ·simp only [Act.put, List.setIfInBounds_toArray, List.set_cons_zero, List.set_cons_succ, i64_w, i32_w]
                    rfl
                   refine pure_ (i := 3) (N := some 64) (v := ?_) (a' := ?_) #[true, true, true, true, false, false, false, false, false, false, false, false, false, false, false, false, false, false, false, false, false] rfl rfl (any_of HT_.out (by kernel_rfl)) (fun _ _ _ h => h) (Or.inl ⟨by rfl, ?_⟩) ?_ ?_
                   rotate_left
                   ·intro w'
                    go_simp
                    with_reducible rfl
                   rotate_left
                   ·simp only [Act.put, List.setIfInBounds_toArray, List.set_cons_zero, List.set_cons_succ, i64_w, i32_w]
                    rfl
                   refine pure_ (i := 5) (N := some 66) (v := ?_) (a' := ?_) #[true, true, true, true, false, true, false, false, false, false, false, false, false, false, false, false, false, false, false, false, false] rfl rfl (any_of HT_.out (by kernel_rfl)) (fun _ _ _ h => h) (Or.inl ⟨by rfl, ?_⟩) ?_ ?_
                   rotate_left
                   ·intro w'
                    go_simp
                    with_reducible rfl
                   rotate_left
                   ·simp only [Act.put, List.setIfInBounds_toArray, List.set_cons_zero, List.set_cons_succ, i64_w, i32_w]
                    rfl
                   refine pure_ (i := 6) (N := some 67) (v := ?_) (a' := ?_) #[true, true, true, true, false, true, true, false, false, false, false, false, false, false, false, false, false, false, false, false, false] rfl rfl (any_of HT_.out (by kernel_rfl)) (fun _ _ _ h => h) (Or.inl ⟨by rfl, ?_⟩) ?_ ?_
                   rotate_left
                   ·intro w'
                    go_simp
                    with_reducible rfl
                   rotate_left
                   ·simp only [Act.put, List.setIfInBounds_toArray, List.set_cons_zero, List.set_cons_succ, i64_w, i32_w]
                    rfl
                   refine take_ (i := 4) (N := some 65) (v := ?_) (a' := ?_) #[true, true, true, true, true, true, true, false, false, false, false, false, false, false, false, false, false, false, false, false, false] rfl rfl (take_ofW HT_.out HW_.out (by kernel_rfl)) (fun _ _ _ h => h) (Or.inl ⟨by rfl, ?_⟩) hHeld ?_ ?_
                   rotate_left
                   ·rintro w' ⟨s0, s1, s2, s3, s4, s5, s6, s7, s8⟩
                    go_simp
                    with_reducible rfl
                   rotate_left
                   ·simp only [Act.put, List.setIfInBounds_toArray, List.set_cons_zero, List.set_cons_succ, i64_w, i32_w]
                    rfl
                   refine pure_ (i := 7) (N := some 68) (v := ?_) (a' := ?_) #[true, true, true, true, true, true, true, true, false, false, false, false, false, false, false, false, false, false, false, false, false] rfl rfl (any_of HT_.out (by kernel_rfl)) (fun _ _ _ h => h) (Or.inl ⟨by rfl, ?_⟩) ?_ ?_
                   rotate_left
                   ·intro w'
                    go_simp
                    with_reducible rfl
                   rotate_left
                   ·simp only [Act.put, List.setIfInBounds_toArray, List.set_cons_zero, List.set_cons_succ, i64_w, i32_w]
                    rfl
                   refine take_ (i := 8) (N := some 69) (v := ?_) (a' := ?_) #[true, true, true, true, true, true, true, true, true, false, false, false, false, false, false, false, false, false, false, false, false] rfl rfl (take_ofW HT_.out HW_.out (by kernel_rfl)) (fun _ _ _ h => h) (Or.inl ⟨by rfl, ?_⟩) hHeld ?_ ?_
                   rotate_left
                   ·rintro w' ⟨s0, s1, s2, s3, s4, s5, s6, s7, s8⟩
                    go_simp
                    with_reducible rfl
                   rotate_left
                   ·simp only [Act.put, List.setIfInBounds_toArray, List.set_cons_zero, List.set_cons_succ, i64_w, i32_w]
                    rfl
                   refine take_ (i := 9) (N := some 70) (v := ?_) (a' := ?_) #[true, true, true, true, true, true, true, true, true, true, false, false, false, false, false, false, false, false, false, false, false] rfl rfl (take_ofW HT_.out HW_.out (by kernel_rfl)) (fun _ _ _ h => h) (Or.inl ⟨by rfl, ?_⟩) hHeld ?_ ?_
                   rotate_left
                   ·rintro w' ⟨s0, s1, s2, s3, s4, s5, s6, s7, s8⟩
                    go_simp
                    with_reducible rfl
                   rotate_left
                   ·simp only [Act.put, List.setIfInBounds_toArray, List.set_cons_zero, List.set_cons_succ, i64_w, i32_w]
                    rfl
                   refine one_ (i := 10) (N := some 71) #[true, true, true, true, true, true, true, true, true, true, true, false, false, false, false, false, false, false, false, false, false] rfl rfl (one_of HT_.out (by kernel_rfl)) (by decide) (fun K hK => ?_)
                   refine goes_ Try.func98 (by kernel_rfl) rfl #[.agg #[.int .i64 ((rd_T73 l0_2 (ji37)).f0), .int .i64 ((rd_T73 l0_2 (ji37)).f1), .int .i64 ((rd_T73 l0_2 (ji37)).f2)], .agg #[.int .i64 ((rd_T73 l0_2 x25_2).f0), .int .i64 ((rd_T73 l0_2 x25_2).f1), .int .i64 ((rd_T73 l0_2 x25_2).f2)]] (by rfl) rfl rfl (by (try simp only [List.map_toArray, List.map_cons, List.map_nil]); first | done | (simp only [hji37]; rfl) | rfl | (simp only [List.length_drop, List.length_take]; rfl)) ?_
                   with_reducible refine (impl_comparePlaces.calls ((rd_T73 l0_2 (ji37)).f0) ((rd_T73 l0_2 (ji37)).f1) ((rd_T73 l0_2 (ji37)).f2) ((rd_T73 l0_2 x25_2).f0) ((rd_T73 l0_2 x25_2).f1) ((rd_T73 l0_2 x25_2).f2) t226 _ A40.out).mono ?_
                   rintro e w53 ⟨rfl, hb⟩
                   refine ⟨_, rfl, ?_⟩
                   have n0_ := Aside0.mk (blk_below (upK BK217) hb)
                   have n1_ := Aside0.mk (blk_below (upK BK221) hb)
                   have n2_ := Aside0.mk (below_step (upW HB) hb)
                   clear BK217
                   clear BK221
                   clear HB
                   have BK217 := n0_
                   have BK221 := n1_
                   have HB := n2_
                   clear n0_ n1_ n2_
                   (try clear hb)
                   (try clear hb2)
                   (try clear hk)
                   (try clear hi)
                   have q54 : (x25_2 : Int) ≤ ((l0_2.length : Int) : Int) := of_decide_eq_true (by first | (with_reducible assumption) | assumption)
                   obtain ⟨i054, hi054, _, hsz54, _⟩ := info_parts info73
                   have hroom54 : l0_2.length ≤ c0_2 := HC0_2.out
                   have hC54 : Kd.C k73 _ (some ad220) l0_2.length l0_2 := HR0_2.out
                   have hcut54 := cut_to (P := Try.prog) 29 73 .i64 Try.underlying29 hi054 (some ad220) l0_2.length c0_2 x25_2 (of_decide_eq_true (by first | (with_reducible assumption) | assumption)) q54 hroom54
                   have hr54 := Kd.C_take (m := (x25_2 : Int).toNat) hC54 (by omega)
                   have hy54 : y227.length = (x25_2 : Int).toNat := (by rw [Ny227.out, List.length_take]; omega)
                   rw [← Ny227.out] at hr54
                   rw [← hy54] at hcut54
                   have HR230 := Aside0.mk hr54
                   have HC230 := Aside0.mk (show y227.length ≤ c0_2 from by omega)
                   clear hr54 hC54 hroom54 hi054 hsz54
                   have KY54 := Aside0.mk hy54
                   clear hy54
                   replace q54 := eq_true q54
                   refine hK.out _ _ ⟨(blk_cell BK217.out 0).trans rfl, (blk_cell BK217.out 1).trans rfl, (blk_cell BK217.out 2).trans rfl, (blk_cell BK221.out 0).trans rfl, (blk_cell BK221.out 1).trans rfl, (blk_cell BK221.out 2).trans rfl, ((HB.out.cell (World.block_lt_of_cell? w _ hw225_0)).trans hw225_0), ((HB.out.cell (World.block_lt_of_cell? w _ hw225_1)).trans hw225_1), ((HB.out.cell (World.block_lt_of_cell? w _ hw225_2)).trans hw225_2)⟩ (fun hHeld => ?_)
                   clear hK K
                   refine norm_ (a' := ?_) ?_ ?_
                   rotate_left
                   ·show Act.put _ (some 71) _ = _
                    simp only [Act.put, List.setIfInBounds_toArray, List.set_cons_zero, List.set_cons_succ, i64_w, i32_w]
                    rfl
                   refine pure_ (i := 11) (N := some 72) (v := ?_) (a' := ?_) #[true, true, true, true, true, true, true, true, true, true, true, true, false, false, false, false, false, false, false, false, false] rfl rfl (any_of HT_.out (by kernel_rfl)) (fun _ _ _ h => h) (Or.inl ⟨by rfl, ?_⟩) ?_ ?_
                   rotate_left
                   ·intro w'
                    go_simp
                    with_reducible rfl
                   rotate_left
                   ·simp only [Act.put, List.setIfInBounds_toArray, List.set_cons_zero, List.set_cons_succ, i64_w, i32_w]
                    rfl
                   refine pure_ (i := 12) (N := some 73) (v := ?_) (a' := ?_) #[true, true, true, true, true, true, true, true, true, true, true, true, true, false, false, false, false, false, false, false, false] rfl rfl (any_of HT_.out (by kernel_rfl)) (fun _ _ _ h => h) (Or.inl ⟨by rfl, ?_⟩) ?_ ?_
                   rotate_left
                   ·intro w'
                    go_simp
                    with_reducible rfl
                   rotate_left
                   ·simp only [Act.put, List.setIfInBounds_toArray, List.set_cons_zero, List.set_cons_succ, i64_w, i32_w]
                    rfl
                   refine pure_ (i := 13) (N := some 74) (v := ?_) (a' := ?_) #[true, true, true, true, true, true, true, true, true, true, true, true, true, true, false, false, false, false, false, false, false] rfl rfl (any_of HT_.out (by kernel_rfl)) (fun _ _ _ h => h) (Or.inl ⟨by rfl, ?_⟩) ?_ ?_
                   rotate_left
                   ·intro w'
                    go_simp
                    with_reducible rfl
                   rotate_left
                   ·simp only [Act.put, List.setIfInBounds_toArray, List.set_cons_zero, List.set_cons_succ, i64_w, i32_w]
                    rfl
                   refine pure_ (i := 14) (N := some 75) (v := ?_) (a' := ?_) #[true, true, true, true, true, true, true, true, true, true, true, true, true, true, true, false, false, false, false, false, false] rfl rfl (any_of HT_.out (by kernel_rfl)) (fun _ _ _ h => h) (Or.inl ⟨by rfl, ?_⟩) ?_ ?_
                   rotate_left
                   ·intro w'
                    go_simp
                    with_reducible rfl
                   rotate_left
                   ·simp only [Act.put, List.setIfInBounds_toArray, List.set_cons_zero, List.set_cons_succ, i64_w, i32_w]
                    rfl
                   refine pure_ (i := 16) (N := some 77) (v := ?_) (a' := ?_) #[true, true, true, true, true, true, true, true, true, true, true, true, true, true, true, false, true, false, false, false, false] rfl rfl (any_of HT_.out (by kernel_rfl)) (fun _ _ _ h => h) (Or.inl ⟨by rfl, ?_⟩) ?_ ?_
                   rotate_left
                   ·intro w'
                    go_simp
                    with_reducible rfl
                   rotate_left
                   ·simp only [Act.put, List.setIfInBounds_toArray, List.set_cons_zero, List.set_cons_succ, i64_w, i32_w]
                    rfl
                   refine pure_ (i := 18) (N := some 79) (v := ?_) (a' := ?_) #[true, true, true, true, true, true, true, true, true, true, true, true, true, true, true, false, true, false, true, false, false] rfl rfl (any_of HT_.out (by kernel_rfl)) (fun _ _ _ h => h) (Or.inl ⟨by rfl, ?_⟩) ?_ ?_
                   rotate_left
                   ·intro w'
                    go_simp
                    with_reducible rfl
                   rotate_left
                   ·simp only [Act.put, List.setIfInBounds_toArray, List.set_cons_zero, List.set_cons_succ, i64_w, i32_w]
                    rfl
                   refine take_ (i := 15) (N := some 76) (v := ?_) (a' := ?_) #[true, true, true, true, true, true, true, true, true, true, true, true, true, true, true, true, true, false, true, false, false] rfl rfl (take_ofW HT_.out HW_.out (by kernel_rfl)) (fun _ _ _ h => h) (Or.inl ⟨by rfl, ?_⟩) hHeld ?_ ?_
                   rotate_left
                   ·rintro w' ⟨s0, s1, s2, s3, s4, s5, s6, s7, s8⟩
                    go_simp
                    with_reducible rfl
                   rotate_left
                   ·simp only [Act.put, List.setIfInBounds_toArray, List.set_cons_zero, List.set_cons_succ, i64_w, i32_w]
                    rfl
                   refine pure_ (i := 17) (N := some 78) (v := ?_) (a' := ?_) #[true, true, true, true, true, true, true, true, true, true, true, true, true, true, true, true, true, true, true, false, false] rfl rfl (any_of HT_.out (by kernel_rfl)) (fun _ _ _ h => h) (Or.inl ⟨by rfl, ?_⟩) ?_ ?_
                   rotate_left
                   ·intro w'
                    go_simp
                    with_reducible rfl
                   rotate_left
                   ·simp only [Act.put, List.setIfInBounds_toArray, List.set_cons_zero, List.set_cons_succ, i64_w, i32_w]
                    rfl
                   refine one_ (i := 19) (N := some 80) #[true, true, true, true, true, true, true, true, true, true, true, true, true, true, true, true, true, true, true, true, false] rfl rfl (one_of HT_.out (by kernel_rfl)) (by decide) (fun K hK => ?_)
                   refine goes_ Try.func99 (by kernel_rfl) rfl #[.slice (some ad220) y227.length c0_2, .func (.func 100) #[] #[.pointer (some ⟨gb221, 0, none⟩)]] (by rfl) rfl rfl itp ?_
                   with_reducible refine (slices_ContainsFunc_impl_Square_impl_Square__impl_IsCut_1.calls _ _ y227 gb221 ((rd_T73 l0_2 x25_2).f0) ((rd_T73 l0_2 x25_2).f1) ((rd_T73 l0_2 x25_2).f2) false _ ?side1 ?side2 ?side3 A46.out).mono ?_
                   (case side1 => repeat (first | exact (Kd.C_below HR230.out HB.out) | (with_reducible refine Kd.C_alloc ?_ _) | (with_reducible refine Kd.C_drewN ?_ _) | (with_reducible refine Kd.C_drew ?_)))
                   (case side2 => exact HC230.out)
                   (case side3 => exact (upK BK221))
                   rintro e w55 ⟨rfl, hb⟩
                   refine ⟨_, rfl, ?_⟩
                   have n0_ := Aside0.mk (blk_below (upK BK217) hb)
                   have n1_ := Aside0.mk (blk_below (upK BK221) hb)
                   have n2_ := Aside0.mk (below_step (upW HB) hb)
                   clear BK217
                   clear BK221
                   clear HB
                   have BK217 := n0_
                   have BK221 := n1_
                   have HB := n2_
                   clear n0_ n1_ n2_
                   (try clear hb)
                   (try clear hb2)
                   (try clear hk)
                   (try clear hi)
                   refine hK.out _ _ ⟨(blk_cell BK217.out 0).trans rfl, (blk_cell BK217.out 1).trans rfl, (blk_cell BK217.out 2).trans rfl, (blk_cell BK221.out 0).trans rfl, (blk_cell BK221.out 1).trans rfl, (blk_cell BK221.out 2).trans rfl, ((HB.out.cell (World.block_lt_of_cell? w _ hw225_0)).trans hw225_0), ((HB.out.cell (World.block_lt_of_cell? w _ hw225_1)).trans hw225_1), ((HB.out.cell (World.block_lt_of_cell? w _ hw225_2)).trans hw225_2)⟩ (fun hHeld => ?_)
                   clear hK K
                   refine norm_ (a' := ?_) ?_ ?_
                   rotate_left
                   ·show Act.put _ (some 80) _ = _
                    simp only [Act.put, List.setIfInBounds_toArray, List.set_cons_zero, List.set_cons_succ, i64_w, i32_w]
                    rfl
                   refine pure_ (i := 20) (N := some 81) (v := ?_) (a' := ?_) #[true, true, true, true, true, true, true, true, true, true, true, true, true, true, true, true, true, true, true, true, true] rfl rfl (any_of HT_.out (by kernel_rfl)) (fun _ _ _ h => h) (Or.inl ⟨by rfl, ?_⟩) ?_ ?_
                   rotate_left
                   ·intro w'
                    go_simp
                    with_reducible rfl
                   rotate_left
                   ·simp only [Act.put, List.setIfInBounds_toArray, List.set_cons_zero, List.set_cons_succ, i64_w, i32_w]
                    rfl
                   refine done_ (done_of HT_.out (by kernel_rfl)) ?_
                   have hnb56 := NB221_217.out
                   have hnc56 := NB217_221.out
                   have hcz57_0 : w55.cell? ⟨gb221, 0, none⟩ = some (.int .i64 ((rd_T73 l0_2 x25_2).f0)) := (blk_cell BK221.out 0).trans rfl
                   have hcz57_1 : w55.cell? ⟨gb221, 1, none⟩ = some (.int .i64 ((rd_T73 l0_2 x25_2).f1)) := (blk_cell BK221.out 1).trans rfl
                   have hcz57_2 : w55.cell? ⟨gb221, 2, none⟩ = some (.int .i64 ((rd_T73 l0_2 x25_2).f2)) := (blk_cell BK221.out 2).trans rfl
                   have hfz57_0 := blk_frozen BK221.out 0
                   have hfz57_1 := blk_frozen BK221.out 1
                   have hfz57_2 := blk_frozen BK221.out 2
                   try go_wp2
                   go_roundg kj15
                   case measure => have := HJ1.out; have := HK2.out; have := HJ15.out; omega
                   case rel => exact ⟨(wrap64 (x3_2 + (wrap64 (((rd_T73 l0_2 x25_2).f2) * ((rd_T73 l0_2 x25_2).f2))))), (wrap64 (x25_2 + 1)), (by first | rfl | (simp; done) | (simp [*]; done)), (by first | rfl | (simp; done) | (simp [*]; done)), H', ⟨by have := HJ1.out; have := HK2.out; have := HJ15.out; omega⟩, ⟨upK BK217⟩, ⟨upW HB⟩⟩
                 ·rw [if_neg c45] at H
                  exact absurd H (by simp)
                ·rw [if_neg c44] at H
                 exact absurd H (by simp)
              ·rw [if_neg c39] at H
               exact absurd H (by simp)
             ·rw [if_neg c38] at H
              exact absurd H (by simp)
            ·rw [if_neg c36] at H
             have c36b0 : decide (0 < x25_2) = false := decide_eq_false c36
             clear c36
             by_cases c58 : 0 ≤ x25_2
             ·rw [if_pos c58] at H
              have c58b0 := eq_true c58
              have c58b1 : decide (0 ≤ x25_2) = true := decide_eq_true c58
              clear c58
              by_cases c59 : x25_2 ≤ (l0_2.length : Int)
              ·rw [if_pos c59] at H
               have c59b0 := eq_true c59
               have c59b1 : decide (x25_2 ≤ (l0_2.length : Int)) = true := decide_eq_true c59
               clear c59
               obtain ⟨y232, hy232⟩ : ∃ y_ : List (S73), y_ = (l0_2.take (x25_2 : Int).toNat) := ⟨_, rfl⟩
               replace H : ((slices_ContainsFunc_impl_Square_impl_Square__impl_IsCut_1.f y232 ((rd_T73 l0_2 x25_2).f0) ((rd_T73 l0_2 x25_2).f1) ((rd_T73 l0_2 x25_2).f2)).bind fun t236 => (if t236 = true then (some false) else (impl_IsCut.l0 kj15 (wrap64 (x3_2 + (wrap64 (((rd_T73 l0_2 x25_2).f2) * ((rd_T73 l0_2 x25_2).f2))))) l0_2 (l0_2.length : Int) (wrap64 (x25_2 + 1)) a0_0 a0_1 l0_2))) = some r := by first | (rw [hy232]; with_reducible exact H) | (have H2_ := (Option.bind_some _ _).symm.trans H; rw [hy232]; with_reducible exact H2_) | (have H2_ := (Option.bind_some _ _).symm.trans H; with_reducible exact H2_) | with_reducible exact H | (rw [hy232]; exact H) | exact H
               have Ny232 := Aside0.mk hy232
               clear hy232
               replace H := Option.bind_eq_some_iff.mp H
               obtain ⟨t236, A600, H⟩ := H
               replace H : (if t236 = true then (some false) else (impl_IsCut.l0 kj15 (wrap64 (x3_2 + (wrap64 (((rd_T73 l0_2 x25_2).f2) * ((rd_T73 l0_2 x25_2).f2))))) l0_2 (l0_2.length : Int) (wrap64 (x25_2 + 1)) a0_0 a0_1 l0_2)) = some r := H
               have A60 := Aside0.mk A600
               clear A600
               by_cases c61 : t236 = true
               ·subst c61
                have H1 : (some false) = some r := by rw [if_pos rfl] at H; exact H
                clear H
                have H := H1
                clear H1
                obtain rfl := Option.some.inj H
                try go_wp2
                have n0_ := Aside0.mk (blk_drew BK217.out)
                have n1_ := Aside0.mk (blk_drew BK221.out)
                have n2_ := Aside0.mk (below_drew1 HB.out)
                clear BK217
                clear BK221
                clear HB
                have BK217 := n0_
                have BK221 := n1_
                have HB := n2_
                clear n0_ n1_ n2_
                have q63 : (x25_2 : Int) ≤ ((l0_2.length : Int) : Int) := of_decide_eq_true (by first | (with_reducible assumption) | assumption)
                obtain ⟨i063, hi063, _, hsz63, _⟩ := info_parts info73
                have hroom63 : l0_2.length ≤ c0_2 := HC0_2.out
                have hC63 : Kd.C k73 _ (some ad220) l0_2.length l0_2 := HR0_2.out
                have hcut63 := cut_to (P := Try.prog) 29 73 .i64 Try.underlying29 hi063 (some ad220) l0_2.length c0_2 x25_2 (of_decide_eq_true (by first | (with_reducible assumption) | assumption)) q63 hroom63
                have hr63 := Kd.C_take (m := (x25_2 : Int).toNat) hC63 (by omega)
                have hy63 : y232.length = (x25_2 : Int).toNat := (by rw [Ny232.out, List.length_take]; omega)
                rw [← Ny232.out] at hr63
                rw [← hy63] at hcut63
                have HR235 := Aside0.mk hr63
                have HC235 := Aside0.mk (show y232.length ≤ c0_2 from by omega)
                clear hr63 hC63 hroom63 hi063 hsz63
                have KY63 := Aside0.mk hy63
                clear hy63
                replace q63 := eq_true q63
                refine start_ (n := 21) (S := fun w' => w'.cell? ⟨gb217, 0, none⟩ = some (.int .i64 a0_0) ∧ w'.cell? ⟨gb217, 1, none⟩ = some (.int .i64 a0_1) ∧ w'.cell? ⟨gb217, 2, none⟩ = some (.slice (some ad220) l0_2.length c0_2)) (ds := []) #[false, false, false, false, false, false, false, false, false, false, false, false, false, false, false, false, false, false, false, false, false] (by kernel_rfl) rfl rfl ⟨(blk_cell BK217.out 0).trans rfl, (blk_cell BK217.out 1).trans rfl, (blk_cell BK217.out 2).trans rfl⟩ (fun hHeld => ?_); refine with_tabW impl_IsCut.tab9 impl_IsCut.bits9 (fun HT_ HW_ => ?_)
                generalize wc.drew = w62 at BK217 BK221 HB HR235 hHeld ⊢
                refine pure_ (i := 0) (N := some 61) (v := ?_) (a' := ?_) #[true, false, false, false, false, false, false, false, false, false, false, false, false, false, false, false, false, false, false, false, false] rfl rfl (any_of HT_.out (by kernel_rfl)) (fun _ _ _ h => h) (Or.inl ⟨by rfl, ?_⟩) ?_ ?_
                rotate_left
                ·intro w'
                 go_simp
                 with_reducible rfl
                rotate_left
                ·simp only [Act.put, List.setIfInBounds_toArray, List.set_cons_zero, List.set_cons_succ, i64_w, i32_w]
                 rfl
                refine pure_ (i := 1) (N := some 62) (v := ?_) (a' := ?_) #[true, true, false, false, false, false, false, false, false, false, false, false, false, false, false, false, false, false, false, false, false] rfl rfl (any_of HT_.out (by kernel_rfl)) (fun _ _ _ h => h) (Or.inl ⟨by rfl, ?_⟩) ?_ ?_
                rotate_left
                ·intro w'
                 go_simp
                 with_reducible rfl
                rotate_left
                ·simp only [Act.put, List.setIfInBounds_toArray, List.set_cons_zero, List.set_cons_succ, i64_w, i32_w]
                 rfl
                refine pure_ (i := 2) (N := some 63) (v := ?_) (a' := ?_) #[true, true, true, false, false, false, false, false, false, false, false, false, false, false, false, false, false, false, false, false, false] rfl rfl (any_of HT_.out (by kernel_rfl)) (fun _ _ _ h => h) (Or.inl ⟨by rfl, ?_⟩) ?_ ?_
                rotate_left
                ·intro w'
                 go_simp
                 with_reducible rfl
                rotate_left
                ·simp only [Act.put, List.setIfInBounds_toArray, List.set_cons_zero, List.set_cons_succ, i64_w, i32_w]
                 rfl
                refine pure_ (i := 3) (N := some 64) (v := undef) (a' := ?_) #[true, true, true, true, false, false, false, false, false, false, false, false, false, false, false, false, false, false, false, false, false] rfl rfl (any_of HT_.out (by kernel_rfl)) (fun _ _ _ h => h) (Or.inr ⟨by rfl, rfl⟩) ?_ ?_
                rotate_left
                ·simp only [Act.put, List.setIfInBounds_toArray, List.set_cons_zero, List.set_cons_succ, i64_w, i32_w]
                 rfl
                refine pure_ (i := 4) (N := some 65) (v := undef) (a' := ?_) #[true, true, true, true, true, false, false, false, false, false, false, false, false, false, false, false, false, false, false, false, false] rfl rfl (any_of HT_.out (by kernel_rfl)) (fun _ _ _ h => h) (Or.inr ⟨by rfl, rfl⟩) ?_ ?_
                rotate_left
                ·simp only [Act.put, List.setIfInBounds_toArray, List.set_cons_zero, List.set_cons_succ, i64_w, i32_w]
                 rfl
                refine pure_ (i := 5) (N := some 66) (v := undef) (a' := ?_) #[true, true, true, true, true, true, false, false, false, false, false, false, false, false, false, false, false, false, false, false, false] rfl rfl (any_of HT_.out (by kernel_rfl)) (fun _ _ _ h => h) (Or.inr ⟨by rfl, rfl⟩) ?_ ?_
                rotate_left
                ·simp only [Act.put, List.setIfInBounds_toArray, List.set_cons_zero, List.set_cons_succ, i64_w, i32_w]
                 rfl
                refine pure_ (i := 6) (N := some 67) (v := undef) (a' := ?_) #[true, true, true, true, true, true, true, false, false, false, false, false, false, false, false, false, false, false, false, false, false] rfl rfl (any_of HT_.out (by kernel_rfl)) (fun _ _ _ h => h) (Or.inr ⟨by rfl, rfl⟩) ?_ ?_
                rotate_left
                ·simp only [Act.put, List.setIfInBounds_toArray, List.set_cons_zero, List.set_cons_succ, i64_w, i32_w]
                 rfl
                refine pure_ (i := 7) (N := some 68) (v := undef) (a' := ?_) #[true, true, true, true, true, true, true, true, false, false, false, false, false, false, false, false, false, false, false, false, false] rfl rfl (any_of HT_.out (by kernel_rfl)) (fun _ _ _ h => h) (Or.inr ⟨by rfl, rfl⟩) ?_ ?_
                rotate_left
                ·simp only [Act.put, List.setIfInBounds_toArray, List.set_cons_zero, List.set_cons_succ, i64_w, i32_w]
                 rfl
                refine pure_ (i := 8) (N := some 69) (v := undef) (a' := ?_) #[true, true, true, true, true, true, true, true, true, false, false, false, false, false, false, false, false, false, false, false, false] rfl rfl (any_of HT_.out (by kernel_rfl)) (fun _ _ _ h => h) (Or.inr ⟨by rfl, rfl⟩) ?_ ?_
                rotate_left
                ·simp only [Act.put, List.setIfInBounds_toArray, List.set_cons_zero, List.set_cons_succ, i64_w, i32_w]
                 rfl
                refine pure_ (i := 9) (N := some 70) (v := undef) (a' := ?_) #[true, true, true, true, true, true, true, true, true, true, false, false, false, false, false, false, false, false, false, false, false] rfl rfl (any_of HT_.out (by kernel_rfl)) (fun _ _ _ h => h) (Or.inr ⟨by rfl, rfl⟩) ?_ ?_
                rotate_left
                ·simp only [Act.put, List.setIfInBounds_toArray, List.set_cons_zero, List.set_cons_succ, i64_w, i32_w]
                 rfl
                refine pure_ (i := 10) (N := some 71) (v := undef) (a' := ?_) #[true, true, true, true, true, true, true, true, true, true, true, false, false, false, false, false, false, false, false, false, false] rfl rfl (any_of HT_.out (by kernel_rfl)) (fun _ _ _ h => h) (Or.inr ⟨by rfl, rfl⟩) ?_ ?_
                rotate_left
                ·simp only [Act.put, List.setIfInBounds_toArray, List.set_cons_zero, List.set_cons_succ, i64_w, i32_w]
                 rfl
                refine pure_ (i := 11) (N := some 72) (v := undef) (a' := ?_) #[true, true, true, true, true, true, true, true, true, true, true, true, false, false, false, false, false, false, false, false, false] rfl rfl (any_of HT_.out (by kernel_rfl)) (fun _ _ _ h => h) (Or.inr ⟨by rfl, rfl⟩) ?_ ?_
                rotate_left
                ·simp only [Act.put, List.setIfInBounds_toArray, List.set_cons_zero, List.set_cons_succ, i64_w, i32_w]
                 rfl
                refine pure_ (i := 12) (N := some 73) (v := ?_) (a' := ?_) #[true, true, true, true, true, true, true, true, true, true, true, true, true, false, false, false, false, false, false, false, false] rfl rfl (any_of HT_.out (by kernel_rfl)) (fun _ _ _ h => h) (Or.inl ⟨by rfl, ?_⟩) ?_ ?_
                rotate_left
                ·intro w'
                 go_simp
                 with_reducible rfl
                rotate_left
                ·simp only [Act.put, List.setIfInBounds_toArray, List.set_cons_zero, List.set_cons_succ, i64_w, i32_w]
                 rfl
                refine pure_ (i := 13) (N := some 74) (v := ?_) (a' := ?_) #[true, true, true, true, true, true, true, true, true, true, true, true, true, true, false, false, false, false, false, false, false] rfl rfl (any_of HT_.out (by kernel_rfl)) (fun _ _ _ h => h) (Or.inl ⟨by rfl, ?_⟩) ?_ ?_
                rotate_left
                ·intro w'
                 go_simp
                 with_reducible rfl
                rotate_left
                ·simp only [Act.put, List.setIfInBounds_toArray, List.set_cons_zero, List.set_cons_succ, i64_w, i32_w]
                 rfl
                refine pure_ (i := 14) (N := some 75) (v := ?_) (a' := ?_) #[true, true, true, true, true, true, true, true, true, true, true, true, true, true, true, false, false, false, false, false, false] rfl rfl (any_of HT_.out (by kernel_rfl)) (fun _ _ _ h => h) (Or.inl ⟨by rfl, ?_⟩) ?_ ?_
                rotate_left
                ·intro w'
                 go_simp
                 with_reducible rfl
                rotate_left
                ·simp only [Act.put, List.setIfInBounds_toArray, List.set_cons_zero, List.set_cons_succ, i64_w, i32_w]
                 rfl
                refine pure_ (i := 16) (N := some 77) (v := ?_) (a' := ?_) #[true, true, true, true, true, true, true, true, true, true, true, true, true, true, true, false, true, false, false, false, false] rfl rfl (any_of HT_.out (by kernel_rfl)) (fun _ _ _ h => h) (Or.inl ⟨by rfl, ?_⟩) ?_ ?_
                rotate_left
                ·intro w'
                 go_simp
                 with_reducible rfl
                rotate_left
                ·simp only [Act.put, List.setIfInBounds_toArray, List.set_cons_zero, List.set_cons_succ, i64_w, i32_w]
                 rfl
                refine pure_ (i := 18) (N := some 79) (v := ?_) (a' := ?_) #[true, true, true, true, true, true, true, true, true, true, true, true, true, true, true, false, true, false, true, false, false] rfl rfl (any_of HT_.out (by kernel_rfl)) (fun _ _ _ h => h) (Or.inl ⟨by rfl, ?_⟩) ?_ ?_
                rotate_left
                ·intro w'
                 go_simp
                 with_reducible rfl
                rotate_left
                ·simp only [Act.put, List.setIfInBounds_toArray, List.set_cons_zero, List.set_cons_succ, i64_w, i32_w]
                 rfl
                refine take_ (i := 15) (N := some 76) (v := ?_) (a' := ?_) #[true, true, true, true, true, true, true, true, true, true, true, true, true, true, true, true, true, false, true, false, false] rfl rfl (take_ofW HT_.out HW_.out (by kernel_rfl)) (fun _ _ _ h => h) (Or.inl ⟨by rfl, ?_⟩) hHeld ?_ ?_
                rotate_left
                ·rintro w' ⟨s0, s1, s2⟩
                 go_simp
                 with_reducible rfl
                rotate_left
                ·simp only [Act.put, List.setIfInBounds_toArray, List.set_cons_zero, List.set_cons_succ, i64_w, i32_w]
                 rfl
                refine pure_ (i := 17) (N := some 78) (v := ?_) (a' := ?_) #[true, true, true, true, true, true, true, true, true, true, true, true, true, true, true, true, true, true, true, false, false] rfl rfl (any_of HT_.out (by kernel_rfl)) (fun _ _ _ h => h) (Or.inl ⟨by rfl, ?_⟩) ?_ ?_
                rotate_left
                ·intro w'
                 go_simp
                 with_reducible rfl
                rotate_left
                ·simp only [Act.put, List.setIfInBounds_toArray, List.set_cons_zero, List.set_cons_succ, i64_w, i32_w]
                 rfl
                refine one_ (i := 19) (N := some 80) #[true, true, true, true, true, true, true, true, true, true, true, true, true, true, true, true, true, true, true, true, false] rfl rfl (one_of HT_.out (by kernel_rfl)) (by decide) (fun K hK => ?_)
                refine goes_ Try.func99 (by kernel_rfl) rfl #[.slice (some ad220) y232.length c0_2, .func (.func 100) #[] #[.pointer (some ⟨gb221, 0, none⟩)]] (by rfl) rfl rfl itp ?_
                with_reducible refine (slices_ContainsFunc_impl_Square_impl_Square__impl_IsCut_1.calls _ _ y232 gb221 ((rd_T73 l0_2 x25_2).f0) ((rd_T73 l0_2 x25_2).f1) ((rd_T73 l0_2 x25_2).f2) true _ ?side1 ?side2 ?side3 A60.out).mono ?_
                (case side1 => repeat (first | exact (Kd.C_below HR235.out HB.out) | (with_reducible refine Kd.C_alloc ?_ _) | (with_reducible refine Kd.C_drewN ?_ _) | (with_reducible refine Kd.C_drew ?_)))
                (case side2 => exact HC235.out)
                (case side3 => exact (upK BK221))
                rintro e w64 ⟨rfl, hb⟩
                refine ⟨_, rfl, ?_⟩
                have n0_ := Aside0.mk (blk_below (upK BK217) hb)
                have n1_ := Aside0.mk (blk_below (upK BK221) hb)
                have n2_ := Aside0.mk (below_step (upW HB) hb)
                clear BK217
                clear BK221
                clear HB
                have BK217 := n0_
                have BK221 := n1_
                have HB := n2_
                clear n0_ n1_ n2_
                (try clear hb)
                (try clear hb2)
                (try clear hk)
                (try clear hi)
                refine hK.out _ _ ⟨(blk_cell BK217.out 0).trans rfl, (blk_cell BK217.out 1).trans rfl, (blk_cell BK217.out 2).trans rfl⟩ (fun hHeld => ?_)
                clear hK K
                refine norm_ (a' := ?_) ?_ ?_
                rotate_left
                ·show Act.put _ (some 80) _ = _
                 simp only [Act.put, List.setIfInBounds_toArray, List.set_cons_zero, List.set_cons_succ, i64_w, i32_w]
                 rfl
                refine pure_ (i := 20) (N := some 81) (v := ?_) (a' := ?_) #[true, true, true, true, true, true, true, true, true, true, true, true, true, true, true, true, true, true, true, true, true] rfl rfl (any_of HT_.out (by kernel_rfl)) (fun _ _ _ h => h) (Or.inl ⟨by rfl, ?_⟩) ?_ ?_
                rotate_left
                ·intro w'
                 go_simp
                 with_reducible rfl
                rotate_left
                ·simp only [Act.put, List.setIfInBounds_toArray, List.set_cons_zero, List.set_cons_succ, i64_w, i32_w]
                 rfl
                refine done_ (done_of HT_.out (by kernel_rfl)) ?_
                try go_wp2
                go_ret
                exact ⟨by first | rfl | (simp [errW_none, errW_some] <;> rfl) | (simp [*, errW_none, errW_some] <;> rfl), by repeat (first | (with_reducible first | exact HB.out | apply below_alloc | apply pw_below_drewN | apply below_drew1 | refine below_set ?_ GE217.out | refine below_set ?_ GE221.out) | exact HB.out)⟩
               ·replace c61 := Bool.eq_false_iff.mpr c61
                subst c61
                have H1 : (impl_IsCut.l0 kj15 (wrap64 (x3_2 + (wrap64 (((rd_T73 l0_2 x25_2).f2) * ((rd_T73 l0_2 x25_2).f2))))) l0_2 (l0_2.length : Int) (wrap64 (x25_2 + 1)) a0_0 a0_1 l0_2) = some r := by rw [if_neg (show ¬ (false = true) by decide)] at H; exact H
                clear H
                have H := H1
                clear H1
                have H' := Aside0.mk H
                clear H
                try go_wp2
                have n0_ := Aside0.mk (blk_drew BK217.out)
                have n1_ := Aside0.mk (blk_drew BK221.out)
                have n2_ := Aside0.mk (below_drew1 HB.out)
                clear BK217
                clear BK221
                clear HB
                have BK217 := n0_
                have BK221 := n1_
                have HB := n2_
                clear n0_ n1_ n2_
                have q66 : (x25_2 : Int) ≤ ((l0_2.length : Int) : Int) := of_decide_eq_true (by first | (with_reducible assumption) | assumption)
                obtain ⟨i066, hi066, _, hsz66, _⟩ := info_parts info73
                have hroom66 : l0_2.length ≤ c0_2 := HC0_2.out
                have hC66 : Kd.C k73 _ (some ad220) l0_2.length l0_2 := HR0_2.out
                have hcut66 := cut_to (P := Try.prog) 29 73 .i64 Try.underlying29 hi066 (some ad220) l0_2.length c0_2 x25_2 (of_decide_eq_true (by first | (with_reducible assumption) | assumption)) q66 hroom66
                have hr66 := Kd.C_take (m := (x25_2 : Int).toNat) hC66 (by omega)
                have hy66 : y232.length = (x25_2 : Int).toNat := (by rw [Ny232.out, List.length_take]; omega)
                rw [← Ny232.out] at hr66
                rw [← hy66] at hcut66
                have HR235 := Aside0.mk hr66
                have HC235 := Aside0.mk (show y232.length ≤ c0_2 from by omega)
                clear hr66 hC66 hroom66 hi066 hsz66
                have KY66 := Aside0.mk hy66
                clear hy66
                replace q66 := eq_true q66
                refine start_ (n := 21) (S := fun w' => w'.cell? ⟨gb217, 0, none⟩ = some (.int .i64 a0_0) ∧ w'.cell? ⟨gb217, 1, none⟩ = some (.int .i64 a0_1) ∧ w'.cell? ⟨gb217, 2, none⟩ = some (.slice (some ad220) l0_2.length c0_2)) (ds := []) #[false, false, false, false, false, false, false, false, false, false, false, false, false, false, false, false, false, false, false, false, false] (by kernel_rfl) rfl rfl ⟨(blk_cell BK217.out 0).trans rfl, (blk_cell BK217.out 1).trans rfl, (blk_cell BK217.out 2).trans rfl⟩ (fun hHeld => ?_); refine with_tabW impl_IsCut.tab9 impl_IsCut.bits9 (fun HT_ HW_ => ?_)
                generalize wc.drew = w65 at BK217 BK221 HB HR235 hHeld ⊢
                refine pure_ (i := 0) (N := some 61) (v := ?_) (a' := ?_) #[true, false, false, false, false, false, false, false, false, false, false, false, false, false, false, false, false, false, false, false, false] rfl rfl (any_of HT_.out (by kernel_rfl)) (fun _ _ _ h => h) (Or.inl ⟨by rfl, ?_⟩) ?_ ?_
                rotate_left
                ·intro w'
                 go_simp
                 with_reducible rfl
                rotate_left
                ·simp only [Act.put, List.setIfInBounds_toArray, List.set_cons_zero, List.set_cons_succ, i64_w, i32_w]
                 rfl
                refine pure_ (i := 1) (N := some 62) (v := ?_) (a' := ?_) #[true, true, false, false, false, false, false, false, false, false, false, false, false, false, false, false, false, false, false, false, false] rfl rfl (any_of HT_.out (by kernel_rfl)) (fun _ _ _ h => h) (Or.inl ⟨by rfl, ?_⟩) ?_ ?_
                rotate_left
                ·intro w'
                 go_simp
                 with_reducible rfl
                rotate_left
                ·simp only [Act.put, List.setIfInBounds_toArray, List.set_cons_zero, List.set_cons_succ, i64_w, i32_w]
                 rfl
                refine pure_ (i := 2) (N := some 63) (v := ?_) (a' := ?_) #[true, true, true, false, false, false, false, false, false, false, false, false, false, false, false, false, false, false, false, false, false] rfl rfl (any_of HT_.out (by kernel_rfl)) (fun _ _ _ h => h) (Or.inl ⟨by rfl, ?_⟩) ?_ ?_
                rotate_left
                ·intro w'
                 go_simp
                 with_reducible rfl
                rotate_left
                ·simp only [Act.put, List.setIfInBounds_toArray, List.set_cons_zero, List.set_cons_succ, i64_w, i32_w]
                 rfl
                refine pure_ (i := 3) (N := some 64) (v := undef) (a' := ?_) #[true, true, true, true, false, false, false, false, false, false, false, false, false, false, false, false, false, false, false, false, false] rfl rfl (any_of HT_.out (by kernel_rfl)) (fun _ _ _ h => h) (Or.inr ⟨by rfl, rfl⟩) ?_ ?_
                rotate_left
                ·simp only [Act.put, List.setIfInBounds_toArray, List.set_cons_zero, List.set_cons_succ, i64_w, i32_w]
                 rfl
                refine pure_ (i := 4) (N := some 65) (v := undef) (a' := ?_) #[true, true, true, true, true, false, false, false, false, false, false, false, false, false, false, false, false, false, false, false, false] rfl rfl (any_of HT_.out (by kernel_rfl)) (fun _ _ _ h => h) (Or.inr ⟨by rfl, rfl⟩) ?_ ?_
                rotate_left
                ·simp only [Act.put, List.setIfInBounds_toArray, List.set_cons_zero, List.set_cons_succ, i64_w, i32_w]
                 rfl
                refine pure_ (i := 5) (N := some 66) (v := undef) (a' := ?_) #[true, true, true, true, true, true, false, false, false, false, false, false, false, false, false, false, false, false, false, false, false] rfl rfl (any_of HT_.out (by kernel_rfl)) (fun _ _ _ h => h) (Or.inr ⟨by rfl, rfl⟩) ?_ ?_
                rotate_left
                ·simp only [Act.put, List.setIfInBounds_toArray, List.set_cons_zero, List.set_cons_succ, i64_w, i32_w]
                 rfl
                refine pure_ (i := 6) (N := some 67) (v := undef) (a' := ?_) #[true, true, true, true, true, true, true, false, false, false, false, false, false, false, false, false, false, false, false, false, false] rfl rfl (any_of HT_.out (by kernel_rfl)) (fun _ _ _ h => h) (Or.inr ⟨by rfl, rfl⟩) ?_ ?_
                rotate_left
                ·simp only [Act.put, List.setIfInBounds_toArray, List.set_cons_zero, List.set_cons_succ, i64_w, i32_w]
                 rfl
                refine pure_ (i := 7) (N := some 68) (v := undef) (a' := ?_) #[true, true, true, true, true, true, true, true, false, false, false, false, false, false, false, false, false, false, false, false, false] rfl rfl (any_of HT_.out (by kernel_rfl)) (fun _ _ _ h => h) (Or.inr ⟨by rfl, rfl⟩) ?_ ?_
                rotate_left
                ·simp only [Act.put, List.setIfInBounds_toArray, List.set_cons_zero, List.set_cons_succ, i64_w, i32_w]
                 rfl
                refine pure_ (i := 8) (N := some 69) (v := undef) (a' := ?_) #[true, true, true, true, true, true, true, true, true, false, false, false, false, false, false, false, false, false, false, false, false] rfl rfl (any_of HT_.out (by kernel_rfl)) (fun _ _ _ h => h) (Or.inr ⟨by rfl, rfl⟩) ?_ ?_
                rotate_left
                ·simp only [Act.put, List.setIfInBounds_toArray, List.set_cons_zero, List.set_cons_succ, i64_w, i32_w]
                 rfl
                refine pure_ (i := 9) (N := some 70) (v := undef) (a' := ?_) #[true, true, true, true, true, true, true, true, true, true, false, false, false, false, false, false, false, false, false, false, false] rfl rfl (any_of HT_.out (by kernel_rfl)) (fun _ _ _ h => h) (Or.inr ⟨by rfl, rfl⟩) ?_ ?_
                rotate_left
                ·simp only [Act.put, List.setIfInBounds_toArray, List.set_cons_zero, List.set_cons_succ, i64_w, i32_w]
                 rfl
                refine pure_ (i := 10) (N := some 71) (v := undef) (a' := ?_) #[true, true, true, true, true, true, true, true, true, true, true, false, false, false, false, false, false, false, false, false, false] rfl rfl (any_of HT_.out (by kernel_rfl)) (fun _ _ _ h => h) (Or.inr ⟨by rfl, rfl⟩) ?_ ?_
                rotate_left
                ·simp only [Act.put, List.setIfInBounds_toArray, List.set_cons_zero, List.set_cons_succ, i64_w, i32_w]
                 rfl
                refine pure_ (i := 11) (N := some 72) (v := undef) (a' := ?_) #[true, true, true, true, true, true, true, true, true, true, true, true, false, false, false, false, false, false, false, false, false] rfl rfl (any_of HT_.out (by kernel_rfl)) (fun _ _ _ h => h) (Or.inr ⟨by rfl, rfl⟩) ?_ ?_
                rotate_left
                ·simp only [Act.put, List.setIfInBounds_toArray, List.set_cons_zero, List.set_cons_succ, i64_w, i32_w]
                 rfl
                refine pure_ (i := 12) (N := some 73) (v := ?_) (a' := ?_) #[true, true, true, true, true, true, true, true, true, true, true, true, true, false, false, false, false, false, false, false, false] rfl rfl (any_of HT_.out (by kernel_rfl)) (fun _ _ _ h => h) (Or.inl ⟨by rfl, ?_⟩) ?_ ?_
                rotate_left
                ·intro w'
                 go_simp
                 with_reducible rfl
                rotate_left
                ·simp only [Act.put, List.setIfInBounds_toArray, List.set_cons_zero, List.set_cons_succ, i64_w, i32_w]
                 rfl
                refine pure_ (i := 13) (N := some 74) (v := ?_) (a' := ?_) #[true, true, true, true, true, true, true, true, true, true, true, true, true, true, false, false, false, false, false, false, false] rfl rfl (any_of HT_.out (by kernel_rfl)) (fun _ _ _ h => h) (Or.inl ⟨by rfl, ?_⟩) ?_ ?_
                rotate_left
                ·intro w'
                 go_simp
                 with_reducible rfl
                rotate_left
                ·simp only [Act.put, List.setIfInBounds_toArray, List.set_cons_zero, List.set_cons_succ, i64_w, i32_w]
                 rfl
                refine pure_ (i := 14) (N := some 75) (v := ?_) (a' := ?_) #[true, true, true, true, true, true, true, true, true, true, true, true, true, true, true, false, false, false, false, false, false] rfl rfl (any_of HT_.out (by kernel_rfl)) (fun _ _ _ h => h) (Or.inl ⟨by rfl, ?_⟩) ?_ ?_
                rotate_left
                ·intro w'
                 go_simp
                 with_reducible rfl
                rotate_left
                ·simp only [Act.put, List.setIfInBounds_toArray, List.set_cons_zero, List.set_cons_succ, i64_w, i32_w]
                 rfl
                refine pure_ (i := 16) (N := some 77) (v := ?_) (a' := ?_) #[true, true, true, true, true, true, true, true, true, true, true, true, true, true, true, false, true, false, false, false, false] rfl rfl (any_of HT_.out (by kernel_rfl)) (fun _ _ _ h => h) (Or.inl ⟨by rfl, ?_⟩) ?_ ?_
                rotate_left
                ·intro w'
                 go_simp
                 with_reducible rfl
                rotate_left
                ·simp only [Act.put, List.setIfInBounds_toArray, List.set_cons_zero, List.set_cons_succ, i64_w, i32_w]
                 rfl
                refine pure_ (i := 18) (N := some 79) (v := ?_) (a' := ?_) #[true, true, true, true, true, true, true, true, true, true, true, true, true, true, true, false, true, false, true, false, false] rfl rfl (any_of HT_.out (by kernel_rfl)) (fun _ _ _ h => h) (Or.inl ⟨by rfl, ?_⟩) ?_ ?_
                rotate_left
                ·intro w'
                 go_simp
                 with_reducible rfl
                rotate_left
                ·simp only [Act.put, List.setIfInBounds_toArray, List.set_cons_zero, List.set_cons_succ, i64_w, i32_w]
                 rfl
                refine take_ (i := 15) (N := some 76) (v := ?_) (a' := ?_) #[true, true, true, true, true, true, true, true, true, true, true, true, true, true, true, true, true, false, true, false, false] rfl rfl (take_ofW HT_.out HW_.out (by kernel_rfl)) (fun _ _ _ h => h) (Or.inl ⟨by rfl, ?_⟩) hHeld ?_ ?_
                rotate_left
                ·rintro w' ⟨s0, s1, s2⟩
                 go_simp
                 with_reducible rfl
                rotate_left
                ·simp only [Act.put, List.setIfInBounds_toArray, List.set_cons_zero, List.set_cons_succ, i64_w, i32_w]
                 rfl
                refine pure_ (i := 17) (N := some 78) (v := ?_) (a' := ?_) #[true, true, true, true, true, true, true, true, true, true, true, true, true, true, true, true, true, true, true, false, false] rfl rfl (any_of HT_.out (by kernel_rfl)) (fun _ _ _ h => h) (Or.inl ⟨by rfl, ?_⟩) ?_ ?_
                rotate_left
                ·intro w'
                 go_simp
                 with_reducible rfl
                rotate_left
                ·simp only [Act.put, List.setIfInBounds_toArray, List.set_cons_zero, List.set_cons_succ, i64_w, i32_w]
                 rfl
                refine one_ (i := 19) (N := some 80) #[true, true, true, true, true, true, true, true, true, true, true, true, true, true, true, true, true, true, true, true, false] rfl rfl (one_of HT_.out (by kernel_rfl)) (by decide) (fun K hK => ?_)
                refine goes_ Try.func99 (by kernel_rfl) rfl #[.slice (some ad220) y232.length c0_2, .func (.func 100) #[] #[.pointer (some ⟨gb221, 0, none⟩)]] (by rfl) rfl rfl itp ?_
                with_reducible refine (slices_ContainsFunc_impl_Square_impl_Square__impl_IsCut_1.calls _ _ y232 gb221 ((rd_T73 l0_2 x25_2).f0) ((rd_T73 l0_2 x25_2).f1) ((rd_T73 l0_2 x25_2).f2) false _ ?side1 ?side2 ?side3 A60.out).mono ?_
                (case side1 => repeat (first | exact (Kd.C_below HR235.out HB.out) | (with_reducible refine Kd.C_alloc ?_ _) | (with_reducible refine Kd.C_drewN ?_ _) | (with_reducible refine Kd.C_drew ?_)))
                (case side2 => exact HC235.out)
                (case side3 => exact (upK BK221))
                rintro e w67 ⟨rfl, hb⟩
                refine ⟨_, rfl, ?_⟩
                have n0_ := Aside0.mk (blk_below (upK BK217) hb)
                have n1_ := Aside0.mk (blk_below (upK BK221) hb)
                have n2_ := Aside0.mk (below_step (upW HB) hb)
                clear BK217
                clear BK221
                clear HB
                have BK217 := n0_
                have BK221 := n1_
                have HB := n2_
                clear n0_ n1_ n2_
                (try clear hb)
                (try clear hb2)
                (try clear hk)
                (try clear hi)
                refine hK.out _ _ ⟨(blk_cell BK217.out 0).trans rfl, (blk_cell BK217.out 1).trans rfl, (blk_cell BK217.out 2).trans rfl⟩ (fun hHeld => ?_)
                clear hK K
                refine norm_ (a' := ?_) ?_ ?_
                rotate_left
                ·show Act.put _ (some 80) _ = _
                 simp only [Act.put, List.setIfInBounds_toArray, List.set_cons_zero, List.set_cons_succ, i64_w, i32_w]
                 rfl
                refine pure_ (i := 20) (N := some 81) (v := ?_) (a' := ?_) #[true, true, true, true, true, true, true, true, true, true, true, true, true, true, true, true, true, true, true, true, true] rfl rfl (any_of HT_.out (by kernel_rfl)) (fun _ _ _ h => h) (Or.inl ⟨by rfl, ?_⟩) ?_ ?_
                rotate_left
                ·intro w'
                 go_simp
                 with_reducible rfl
                rotate_left
                ·simp only [Act.put, List.setIfInBounds_toArray, List.set_cons_zero, List.set_cons_succ, i64_w, i32_w]
                 rfl
                refine done_ (done_of HT_.out (by kernel_rfl)) ?_
                have hnb68 := NB221_217.out
                have hnc68 := NB217_221.out
                have hcz69_0 : w67.cell? ⟨gb221, 0, none⟩ = some (.int .i64 ((rd_T73 l0_2 x25_2).f0)) := (blk_cell BK221.out 0).trans rfl
                have hcz69_1 : w67.cell? ⟨gb221, 1, none⟩ = some (.int .i64 ((rd_T73 l0_2 x25_2).f1)) := (blk_cell BK221.out 1).trans rfl
                have hcz69_2 : w67.cell? ⟨gb221, 2, none⟩ = some (.int .i64 ((rd_T73 l0_2 x25_2).f2)) := (blk_cell BK221.out 2).trans rfl
                have hfz69_0 := blk_frozen BK221.out 0
                have hfz69_1 := blk_frozen BK221.out 1
                have hfz69_2 := blk_frozen BK221.out 2
                try go_wp2
                go_roundg kj15
                case measure => have := HJ1.out; have := HK2.out; have := HJ15.out; omega
                case rel => exact ⟨(wrap64 (x3_2 + (wrap64 (((rd_T73 l0_2 x25_2).f2) * ((rd_T73 l0_2 x25_2).f2))))), (wrap64 (x25_2 + 1)), (by first | rfl | (simp; done) | (simp [*]; done)), (by first | rfl | (simp; done) | (simp [*]; done)), H', ⟨by have := HJ1.out; have := HK2.out; have := HJ15.out; omega⟩, ⟨upK BK217⟩, ⟨upW HB⟩⟩
              ·rw [if_neg c59] at H
               exact absurd H (by simp)
             ·rw [if_neg c58] at H
              exact absurd H (by simp)
        ·rw [if_neg c15] at H
         exact absurd H (by simp)
       ·rw [if_neg c14] at H
        exact absurd H (by simp)
      ·rw [if_neg c13] at H
       have c13b0 : decide (x25_2 < (l0_2.length : Int)) = false := decide_eq_false c13
       clear c13
       obtain rfl := Option.some.inj H
       have hcz70_0 : wr.cell? ⟨gb217, 0, none⟩ = some (.int .i64 a0_0) := (blk_cell BK217.out 0).trans rfl
       have hcz70_1 : wr.cell? ⟨gb217, 1, none⟩ = some (.int .i64 a0_1) := (blk_cell BK217.out 1).trans rfl
       have hcz70_2 : wr.cell? ⟨gb217, 2, none⟩ = some (.slice A0_2 l0_2.length c0_2) := (blk_cell BK217.out 2).trans rfl
       have hfz70_0 := blk_frozen BK217.out 0
       have hfz70_1 := blk_frozen BK217.out 1
       have hfz70_2 := blk_frozen BK217.out 2
       go_wp2
       go_ret
       exact ⟨by first | rfl | (simp [errW_none, errW_some] <;> rfl) | (simp [*, errW_none, errW_some] <;> rfl), by repeat (first | (with_reducible first | exact HB.out | apply below_alloc | apply pw_below_drewN | apply below_drew1 | refine below_set ?_ GE217.out) | exact HB.out)⟩

end Go.Proofs.Ythnjbpabiamkjaa.PFnExactCutOf
