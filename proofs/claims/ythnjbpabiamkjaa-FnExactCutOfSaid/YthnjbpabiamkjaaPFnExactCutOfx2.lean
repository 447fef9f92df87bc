-- made for this claim by a program of this session
import Derived.Test.YthnjbpabiamkjaaPFnExactCutOfx0
import Derived.Test.YthnjbpabiamkjaaPFnExactCutOfx1
namespace Go.Proofs.Ythnjbpabiamkjaa.PFnExactCutOf
open Go.RowKit Go.Proofs.YthnjbpabiamkjaaW.PrintWords Go.Proofs.YthnjbpabiamkjaaW.PrintLast Go.Proofs.YthnjbpabiamkjaaW.PrintMore
attribute [local go_sem] max2_int min2_int max_two min_two max_three min_three max_four min_four   -- for this text's walks alone
set_option linter.unusedVariables false
set_option linter.unusedSimpArgs false

/-! ### spec_cuGood: function 54 -/
mutual
def spec_cuGood.j0 : Nat → Bool → Int → Int → List (S73) → Option (Bool)
 | 0, _, _, _, _ => none
 | k + 1, x24, x123000, x123001, x123002 => if x24 = true then (some false) else (spec_cuGood.l0 k 0 x123002 (x123002.length : Int) 0 x123000 x123001 x123002)
def spec_cuGood.l0 : Nat → Int → List (S73) → Int → Int → Int → Int → List (S73) → Option (Bool)
 | 0, _, _, _, _, _, _, _ => none
 | k + 1, x3, x26, x27, x28, x123000, x123001, x123002 => if x28 < x27 then (if 0 ≤ x28 then (if x28 < (x26.length : Int) then ((spec_l1In.f ((rd_T73 x26 x28).f2) 1 500).bind fun t128 => (if t128 = true then ((spec_l1In.f ((rd_T73 x26 x28).f0) 0 (wrap64 (x123000 - ((rd_T73 x26 x28).f2)))).bind fun t129 => (if t129 = true then ((spec_l1In.f ((rd_T73 x26 x28).f1) 0 (wrap64 (x123001 - ((rd_T73 x26 x28).f2)))).bind fun t130 => (spec_cuGood.j2 k x3 x28 x26 x27 x28 (!t130) x123000 x123001 x123002 ((rd_T73 x26 x28).f0) ((rd_T73 x26 x28).f1) ((rd_T73 x26 x28).f2))) else (spec_cuGood.j2 k x3 x28 x26 x27 x28 true x123000 x123001 x123002 ((rd_T73 x26 x28).f0) ((rd_T73 x26 x28).f1) ((rd_T73 x26 x28).f2)))) else (spec_cuGood.j2 k x3 x28 x26 x27 x28 true x123000 x123001 x123002 ((rd_T73 x26 x28).f0) ((rd_T73 x26 x28).f1) ((rd_T73 x26 x28).f2)))) else (none)) else (none)) else (some (x3 == (wrap64 (x123000 * x123001))))
def spec_cuGood.j2 : Nat → Int → Int → List (S73) → Int → Int → Bool → Int → Int → List (S73) → Int → Int → Int → Option (Bool)
 | 0, _, _, _, _, _, _, _, _, _, _, _, _ => none
 | k + 1, x3, x4, x26, x27, x28, x58, x123000, x123001, x123002, x128000, x128001, x128002 => if x58 = true then (some false) else (if 0 ≤ x4 then (if x4 ≤ (x123002.length : Int) then ((some (x123002.take (x4 : Int).toNat : List (S73))).bind fun y131 => (spec_cuGood.l1 k (wrap64 (x3 + (wrap64 (x128002 * x128002)))) x4 x26 x27 x28 y131 (y131.length : Int) 0 x123000 x123001 x123002 x128000 x128001 x128002)) else (none)) else (none))
def spec_cuGood.l1 : Nat → Int → Int → List (S73) → Int → Int → List (S73) → Int → Int → Int → Int → List (S73) → Int → Int → Int → Option (Bool)
 | 0, _, _, _, _, _, _, _, _, _, _, _, _, _, _ => none
 | k + 1, x3, x4, x26, x27, x28, x69, x70, x71, x123000, x123001, x123002, x128000, x128001, x128002 => if x71 < x70 then (if 0 ≤ x71 then (if x71 < (x69.length : Int) then (if x128000 < (wrap64 (((rd_T73 x69 x71).f0) + ((rd_T73 x69 x71).f2))) then (if ((rd_T73 x69 x71).f0) < (wrap64 (x128000 + x128002)) then (if x128001 < (wrap64 (((rd_T73 x69 x71).f1) + ((rd_T73 x69 x71).f2))) then (spec_cuGood.j4 k x3 x4 x71 x26 x27 x28 x69 x70 x71 (decide (((rd_T73 x69 x71).f1) < (wrap64 (x128001 + x128002)))) x123000 x123001 x123002 x128000 x128001 x128002 ((rd_T73 x69 x71).f0) ((rd_T73 x69 x71).f1) ((rd_T73 x69 x71).f2)) else (spec_cuGood.j4 k x3 x4 x71 x26 x27 x28 x69 x70 x71 false x123000 x123001 x123002 x128000 x128001 x128002 ((rd_T73 x69 x71).f0) ((rd_T73 x69 x71).f1) ((rd_T73 x69 x71).f2))) else (spec_cuGood.j4 k x3 x4 x71 x26 x27 x28 x69 x70 x71 false x123000 x123001 x123002 x128000 x128001 x128002 ((rd_T73 x69 x71).f0) ((rd_T73 x69 x71).f1) ((rd_T73 x69 x71).f2))) else (spec_cuGood.j4 k x3 x4 x71 x26 x27 x28 x69 x70 x71 false x123000 x123001 x123002 x128000 x128001 x128002 ((rd_T73 x69 x71).f0) ((rd_T73 x69 x71).f1) ((rd_T73 x69 x71).f2))) else (none)) else (none)) else (spec_cuGood.l0 k x3 x26 x27 (wrap64 (x28 + 1)) x123000 x123001 x123002)
def spec_cuGood.j4 : Nat → Int → Int → Int → List (S73) → Int → Int → List (S73) → Int → Int → Bool → Int → Int → List (S73) → Int → Int → Int → Int → Int → Int → Option (Bool)
 | 0, _, _, _, _, _, _, _, _, _, _, _, _, _, _, _, _, _, _, _ => none
 | k + 1, x3, x4, x6, x26, x27, x28, x69, x70, x71, x113, x123000, x123001, x123002, x128000, x128001, x128002, x137000, x137001, x137002 => if x113 = true then (some false) else (if x6 = (wrap64 (x4 - 1)) then ((spec_cuLess.f x137000 x137001 x137002 x128000 x128001 x128002).bind fun t137 => (if t137 = true then (spec_cuGood.l1 k x3 x4 x26 x27 x28 x69 x70 (wrap64 (x71 + 1)) x123000 x123001 x123002 x128000 x128001 x128002) else (some false))) else (spec_cuGood.l1 k x3 x4 x26 x27 x28 x69 x70 (wrap64 (x71 + 1)) x123000 x123001 x123002 x128000 x128001 x128002))
end
def spec_cuGood.f (k : Nat) (a0_0 : Int) (a0_1 : Int) (l0_2 : List (S73)) : Option (Bool) := (spec_l1In.f a0_0 1 500).bind fun t123 => (if t123 = true then ((spec_l1In.f a0_1 1 500).bind fun t124 => (if t124 = true then ((spec_l1In.f (l0_2.length : Int) 1 30).bind fun t125 => (spec_cuGood.j0 k (!t125) a0_0 a0_1 l0_2)) else (spec_cuGood.j0 k true a0_0 a0_1 l0_2))) else (spec_cuGood.j0 k true a0_0 a0_1 l0_2))
set_option maxHeartbeats 8000000 in
set_option maxRecDepth 100000 in
theorem spec_cuGood.calls (k : Nat) (a0_0 : Int) (a0_1 : Int) (A0_2 : Option Addr) (c0_2 : Nat) (l0_2 : List (S73)) (r : Bool) (w : World) (hr0_2 : Kd.C k73 w A0_2 l0_2.length l0_2) (hc0_2 : l0_2.length ≤ c0_2) (h : spec_cuGood.f k a0_0 a0_1 l0_2 = some r) :
  Calls Try.prog 54 #[.agg #[.int .i64 a0_0, .int .i64 a0_1, .slice A0_2 l0_2.length c0_2]] w fun e w' => e = .returned (.bool r) ∧ Below w.heap.size w w' := by
 have hu31 := Try.underlying31
 have hu73 := Try.underlying73
 have HR0_2 := Aside0.mk hr0_2
 have HC0_2 := Aside0.mk hc0_2
 clear hr0_2 hc0_2
 have HB := Aside0.mk (Below.refl w.heap.size w)
 have H : ((spec_l1In.f a0_0 1 500).bind fun t123 => (if t123 = true then ((spec_l1In.f a0_1 1 500).bind fun t124 => (if t124 = true then ((spec_l1In.f (l0_2.length : Int) 1 30).bind fun t125 => (spec_cuGood.j0 k (!t125) a0_0 a0_1 l0_2)) else (spec_cuGood.j0 k true a0_0 a0_1 l0_2))) else (spec_cuGood.j0 k true a0_0 a0_1 l0_2))) = some r := h
 clear h
 have HC2 := Aside0.mk H
 clear H
 go_enter Try.func54, Try.ntmps54
 go_upto_region 1 with (first | ((with_reducible refine gate_dst (N := 1) rfl ?_); (try (refine gate_guard (by rfl) ?_; dsimp only)); refine box_event ?hg (N := 1) ?hd (cs := #[.int .i64 a0_0, .int .i64 a0_1, .slice A0_2 l0_2.length c0_2]) (t := 31) ?hr ?_; (case hd => rfl); (case hg => rfl); (case hr => first | (go_simp; done) | (go_simp; rfl)); intro gb122 hg w3 hbox hb; have n0_ := Aside0.mk (below_step (upW HB) hb); have n1_ := Aside0.mk (hbox); have n2_ := Aside0.mk ((by rw [hg]; exact (below_size (upW HB)) : w.heap.size ≤ gb122)); have n3_ := Aside0.mk ((by rw [hg]; exact (below_size (upW HB)) : w.heap.size ≤ gb122)); clear HB; have HB := n0_; have BK122 := n1_; have GW122 := n2_; have GE122 := n3_; clear n0_ n1_ n2_ n3_; clear hb hbox hg))
 (try simp only [Act.put, List.setIfInBounds_toArray, List.set_cons_zero, List.set_cons_succ])
 go_cut [24] (fun v24 wc => ∃ (kq : Nat) (x24_1 : Bool), v24 = .bool x24_1 ∧ Aside0 (spec_cuGood.j0 kq x24_1 a0_0 a0_1 l0_2 = some r) ∧ Aside0 (kq ≤ k) ∧ Aside0 (wc.heap[gb122]? = some (.cells #[.int .i64 a0_0, .int .i64 a0_1, (.slice A0_2 l0_2.length c0_2)] 31 (0, 0))) ∧ Aside0 (Below w.heap.size w wc))
 case first =>
  have H := HC2.out
  clear HC2
  replace H := Option.bind_eq_some_iff.mp H
  obtain ⟨t123, A40, H⟩ := H
  replace H : (if t123 = true then ((spec_l1In.f a0_1 1 500).bind fun t124 => (if t124 = true then ((spec_l1In.f (l0_2.length : Int) 1 30).bind fun t125 => (spec_cuGood.j0 k (!t125) a0_0 a0_1 l0_2)) else (spec_cuGood.j0 k true a0_0 a0_1 l0_2))) else (spec_cuGood.j0 k true a0_0 a0_1 l0_2)) = some r := H
  have A4 := Aside0.mk A40
  clear A40
  by_cases c5 : t123 = true
  ·subst c5
   have H1 : ((spec_l1In.f a0_1 1 500).bind fun t124 => (if t124 = true then ((spec_l1In.f (l0_2.length : Int) 1 30).bind fun t125 => (spec_cuGood.j0 k (!t125) a0_0 a0_1 l0_2)) else (spec_cuGood.j0 k true a0_0 a0_1 l0_2))) = some r := by rw [if_pos rfl] at H; exact H
   clear H
   have H := H1
   clear H1
   replace H := Option.bind_eq_some_iff.mp H
   obtain ⟨t124, A60, H⟩ := H
   replace H : (if t124 = true then ((spec_l1In.f (l0_2.length : Int) 1 30).bind fun t125 => (spec_cuGood.j0 k (!t125) a0_0 a0_1 l0_2)) else (spec_cuGood.j0 k true a0_0 a0_1 l0_2)) = some r := H
   have A6 := Aside0.mk A60
   clear A60
   by_cases c7 : t124 = true
   ·subst c7
    have H1 : ((spec_l1In.f (l0_2.length : Int) 1 30).bind fun t125 => (spec_cuGood.j0 k (!t125) a0_0 a0_1 l0_2)) = some r := by rw [if_pos rfl] at H; exact H
    clear H
    have H := H1
    clear H1
    replace H := Option.bind_eq_some_iff.mp H
    obtain ⟨t125, A80, H⟩ := H
    replace H : (spec_cuGood.j0 k (!t125) a0_0 a0_1 l0_2) = some r := H
    have A8 := Aside0.mk A80
    clear A80
    have H' := Aside0.mk H
    clear H
    have hcz9_0 : w3.cell? ⟨gb122, 0, none⟩ = some (.int .i64 a0_0) := (blk_cell BK122.out 0).trans rfl
    have hcz9_1 : w3.cell? ⟨gb122, 1, none⟩ = some (.int .i64 a0_1) := (blk_cell BK122.out 1).trans rfl
    have hcz9_2 : w3.cell? ⟨gb122, 2, none⟩ = some (.slice A0_2 l0_2.length c0_2) := (blk_cell BK122.out 2).trans rfl
    have hfz9_0 := blk_frozen BK122.out 0
    have hfz9_1 := blk_frozen BK122.out 1
    have hfz9_2 := blk_frozen BK122.out 2
    go_wp2_with (first | ((with_reducible refine gate_callee (f := 96) rfl ?_); refine goesL_ (some 10) rfl rfl Try.func96 (by kernel_rfl) rfl #[.int .i64 a0_0, .int .i64 1, .int .i64 500] rfl itp ?_; (with_reducible refine (spec_l1In.calls a0_0 1 500 true _ A4.out).mono ?_); rintro e w' ⟨rfl, ⟨nd, rfl⟩⟩; refine ⟨_, rfl, ?_⟩) | (go_at_call 96; (with_reducible refine (spec_l1In.calls a0_1 1 500 true _ A6.out).mono ?_); rintro e w' ⟨rfl, ⟨nd, rfl⟩⟩) | (go_at_call 96; (with_reducible refine (spec_l1In.calls (l0_2.length : Int) 1 30 t125 _ A8.out).mono ?_); rintro e w' ⟨rfl, ⟨nd, rfl⟩⟩))
    go_meet
    case rel => exact ⟨_, (!t125), (by first | rfl | (simp; done) | (simp [*]; done)), H', ⟨by first | omega | exact Nat.le_refl _⟩, ⟨upK BK122⟩, ⟨upW HB⟩⟩
   ·replace c7 := Bool.eq_false_iff.mpr c7
    subst c7
    have H1 : (spec_cuGood.j0 k true a0_0 a0_1 l0_2) = some r := by rw [if_neg (show ¬ (false = true) by decide)] at H; exact H
    clear H
    have H := H1
    clear H1
    have H' := Aside0.mk H
    clear H
    have hcz10_0 : w3.cell? ⟨gb122, 0, none⟩ = some (.int .i64 a0_0) := (blk_cell BK122.out 0).trans rfl
    have hcz10_1 : w3.cell? ⟨gb122, 1, none⟩ = some (.int .i64 a0_1) := (blk_cell BK122.out 1).trans rfl
    have hcz10_2 : w3.cell? ⟨gb122, 2, none⟩ = some (.slice A0_2 l0_2.length c0_2) := (blk_cell BK122.out 2).trans rfl
    have hfz10_0 := blk_frozen BK122.out 0
    have hfz10_1 := blk_frozen BK122.out 1
    have hfz10_2 := blk_frozen BK122.out 2
    go_wp2_with (first | ((with_reducible refine gate_callee (f := 96) rfl ?_); refine goesL_ (some 10) rfl rfl Try.func96 (by kernel_rfl) rfl #[.int .i64 a0_0, .int .i64 1, .int .i64 500] rfl itp ?_; (with_reducible refine (spec_l1In.calls a0_0 1 500 true _ A4.out).mono ?_); rintro e w' ⟨rfl, ⟨nd, rfl⟩⟩; refine ⟨_, rfl, ?_⟩) | (go_at_call 96; (with_reducible refine (spec_l1In.calls a0_1 1 500 false _ A6.out).mono ?_); rintro e w' ⟨rfl, ⟨nd, rfl⟩⟩))
    go_meet
    case rel => exact ⟨_, (true), (by first | rfl | (simp; done) | (simp [*]; done)), H', ⟨by first | omega | exact Nat.le_refl _⟩, ⟨upK BK122⟩, ⟨upW HB⟩⟩
  ·replace c5 := Bool.eq_false_iff.mpr c5
   subst c5
   have H1 : (spec_cuGood.j0 k true a0_0 a0_1 l0_2) = some r := by rw [if_neg (show ¬ (false = true) by decide)] at H; exact H
   clear H
   have H := H1
   clear H1
   have H' := Aside0.mk H
   clear H
   have hcz11_0 : w3.cell? ⟨gb122, 0, none⟩ = some (.int .i64 a0_0) := (blk_cell BK122.out 0).trans rfl
   have hcz11_1 : w3.cell? ⟨gb122, 1, none⟩ = some (.int .i64 a0_1) := (blk_cell BK122.out 1).trans rfl
   have hcz11_2 : w3.cell? ⟨gb122, 2, none⟩ = some (.slice A0_2 l0_2.length c0_2) := (blk_cell BK122.out 2).trans rfl
   have hfz11_0 := blk_frozen BK122.out 0
   have hfz11_1 := blk_frozen BK122.out 1
   have hfz11_2 := blk_frozen BK122.out 2
   go_wp2_with (first | ((with_reducible refine gate_callee (f := 96) rfl ?_); refine goesL_ (some 10) rfl rfl Try.func96 (by kernel_rfl) rfl #[.int .i64 a0_0, .int .i64 1, .int .i64 500] rfl itp ?_; (with_reducible refine (spec_l1In.calls a0_0 1 500 false _ A4.out).mono ?_); rintro e w' ⟨rfl, ⟨nd, rfl⟩⟩; refine ⟨_, rfl, ?_⟩))
   go_meet
   case rel => exact ⟨_, (true), (by first | rfl | (simp; done) | (simp [*]; done)), H', ⟨by first | omega | exact Nat.le_refl _⟩, ⟨upK BK122⟩, ⟨upW HB⟩⟩
 case rest =>
  clear HC2
  try clear p2
  try clear c5
  try clear c7
  try clear c9
  try clear hcz10_0
  try clear hcz10_1
  try clear hcz10_2
  try clear hcz11_0
  try clear hcz11_1
  try clear hcz11_2
  try clear hcz9_0
  try clear hcz9_1
  try clear hcz9_2
  try clear hfz10_0
  try clear hfz10_1
  try clear hfz10_2
  try clear hfz11_0
  try clear hfz11_1
  try clear hfz11_2
  try clear hfz9_0
  try clear hfz9_1
  try clear hfz9_2
  obtain ⟨kq, x24_1, rfl, HA, HJ1, BK122, HB⟩ := hcut
  cases kq with
  | zero => exact absurd HA.out (by simp [spec_cuGood.j0])
  | succ kj1 =>
   have H := HA.out
   clear HA
   simp only [spec_cuGood.j0] at H
   by_cases c12 : x24_1 = true
   ·subst c12
    have H1 : (some false) = some r := by rw [if_pos rfl] at H; exact H
    clear H
    have H := H1
    clear H1
    obtain rfl := Option.some.inj H
    go_wp2
    go_ret
    exact ⟨by first | rfl | (simp [errW_none, errW_some] <;> rfl) | (simp [*, errW_none, errW_some] <;> rfl), by repeat (first | (with_reducible first | exact HB.out | apply below_alloc | apply pw_below_drewN | apply below_drew1 | refine below_set ?_ GE122.out) | exact HB.out)⟩
   ·replace c12 := Bool.eq_false_iff.mpr c12
    subst c12
    have H1 : (spec_cuGood.l0 kj1 0 l0_2 (l0_2.length : Int) 0 a0_0 a0_1 l0_2) = some r := by rw [if_neg (show ¬ (false = true) by decide)] at H; exact H
    clear H
    have H := H1
    clear H1
    have H' := Aside0.mk H
    clear H
    have hcz13_0 : wc.cell? ⟨gb122, 0, none⟩ = some (.int .i64 a0_0) := (blk_cell BK122.out 0).trans rfl
    have hcz13_1 : wc.cell? ⟨gb122, 1, none⟩ = some (.int .i64 a0_1) := (blk_cell BK122.out 1).trans rfl
    have hcz13_2 : wc.cell? ⟨gb122, 2, none⟩ = some (.slice A0_2 l0_2.length c0_2) := (blk_cell BK122.out 2).trans rfl
    have hfz13_0 := blk_frozen BK122.out 0
    have hfz13_1 := blk_frozen BK122.out 1
    have hfz13_2 := blk_frozen BK122.out 2
    go_wp2
    go_loopg [3, 28] kj1 (fun kq v3 v28 w' => ∃ (x3_2 : Int) (x28_2 : Int), v3 = .int .i64 x3_2 ∧ v28 = .int .i64 x28_2 ∧ Aside0 (spec_cuGood.l0 kq x3_2 l0_2 (l0_2.length : Int) x28_2 a0_0 a0_1 l0_2 = some r) ∧ Aside0 (kq ≤ kj1) ∧ Aside0 (w'.heap[gb122]? = some (.cells #[.int .i64 a0_0, .int .i64 a0_1, (.slice A0_2 l0_2.length c0_2)] 31 (0, 0))) ∧ Aside0 (Below w.heap.size w w'))
    case atStart => exact ⟨(0), (0), (by first | rfl | (simp; done) | (simp [*]; done)), (by first | rfl | (simp; done) | (simp [*]; done)), H', ⟨Nat.le_refl _⟩, ⟨upK BK122⟩, ⟨upW HB⟩⟩
    case round =>
     clear H'
     try clear c1
     try clear p2
     try clear c5
     try clear c7
     try clear c9
     try clear c12
     try clear hcz10_0
     try clear hcz10_1
     try clear hcz10_2
     try clear hcz11_0
     try clear hcz11_1
     try clear hcz11_2
     try clear hcz13_0
     try clear hcz13_1
     try clear hcz13_2
     try clear hcz9_0
     try clear hcz9_1
     try clear hcz9_2
     try clear hfz10_0
     try clear hfz10_1
     try clear hfz10_2
     try clear hfz11_0
     try clear hfz11_1
     try clear hfz11_2
     try clear hfz13_0
     try clear hfz13_1
     try clear hfz13_2
     try clear hfz9_0
     try clear hfz9_1
     try clear hfz9_2
     try clear p2
     obtain ⟨x3_2, x28_2, rfl, rfl, HA, HK2, BK122, HB⟩ := hrel
     cases gk with
     | zero => exact absurd HA.out (by simp [spec_cuGood.l0])
     | succ k2 =>
      have H := HA.out
      clear HA
      simp only [spec_cuGood.l0] at H
      by_cases c14 : x28_2 < (l0_2.length : Int)
      ·rw [if_pos c14] at H
       have c14b0 : decide (x28_2 < (l0_2.length : Int)) = true := decide_eq_true c14
       clear c14
       by_cases c15 : 0 ≤ x28_2
       ·rw [if_pos c15] at H
        have c15b0 : decide (0 ≤ x28_2) = true := decide_eq_true c15
        clear c15
        by_cases c16 : x28_2 < (l0_2.length : Int)
        ·rw [if_pos c16] at H
         have c16b0 : decide (x28_2 < (l0_2.length : Int)) = true := decide_eq_true c16
         clear c16
         have HC17 := Aside0.mk H
         clear H
         have p126 : 0 ≤ (x28_2 : Int) := of_decide_eq_true (by first | (with_reducible assumption) | assumption)
         have q126 : x28_2 < (l0_2.length : Int) := of_decide_eq_true (by first | (with_reducible assumption) | assumption)
         obtain ⟨ad126, e126, hx126_0, hx126_1, hx126_2⟩ := at_T73 HR0_2.out x28_2 p126 q126
         cases e126
         replace hx126_0 := (HB.out.cell (World.block_lt_of_cell? w _ hx126_0)).trans hx126_0
         replace hx126_1 := (HB.out.cell (World.block_lt_of_cell? w _ hx126_1)).trans hx126_1
         replace hx126_2 := (HB.out.cell (World.block_lt_of_cell? w _ hx126_2)).trans hx126_2
         replace p126 := eq_true p126
         replace q126 := eq_true q126
         go_upto_region 7 with (first | ((with_reducible refine gate_dst (N := 5) rfl ?_); (try (refine gate_guard (by rfl) ?_; dsimp only)); refine box_event ?hg (N := 5) ?hd (cs := #[.int .i64 0, .int .i64 0, .int .i64 0]) (t := 73) ?hr ?_; (case hd => rfl); (case hg => rfl); (case hr => first | (go_simp; done) | (go_simp; rfl)); intro gb127 hg w18 hbox hb; have n0_ := Aside0.mk (blk_below (upK BK122) hb); have n1_ := Aside0.mk (below_step (upW HB) hb); have n2_ := Aside0.mk (hbox); have n3_ := Aside0.mk ((by rw [hg]; exact (below_size (upW HB)) : w.heap.size ≤ gb127)); have n4_ := Aside0.mk ((by rw [hg]; exact (below_size (upW HB)) : w.heap.size ≤ gb127)); have n5_ := Aside0.mk ((by rw [hg]; exact Nat.ne_of_lt (blk_lt (upK BK122)) : gb122 ≠ gb127)); have n6_ := Aside0.mk ((by rw [hg]; exact Nat.ne_of_gt (blk_lt (upK BK122)) : gb127 ≠ gb122)); clear BK122; clear HB; have BK122 := n0_; have HB := n1_; have BK127 := n2_; have GW127 := n3_; have GE127 := n4_; have NB122_127 := n5_; have NB127_122 := n6_; clear n0_ n1_ n2_ n3_ n4_ n5_ n6_; clear hb hbox hg; have hnb19 := NB127_122.out; have hnc19 := NB122_127.out; have hcz20_0 : w18.cell? ⟨gb127, 0, none⟩ = some (.int .i64 0) := (blk_cell BK127.out 0).trans rfl; have hcz20_1 : w18.cell? ⟨gb127, 1, none⟩ = some (.int .i64 0) := (blk_cell BK127.out 1).trans rfl; have hcz20_2 : w18.cell? ⟨gb127, 2, none⟩ = some (.int .i64 0) := (blk_cell BK127.out 2).trans rfl; have hfz20_0 := blk_frozen BK127.out 0; have hfz20_1 := blk_frozen BK127.out 1; have hfz20_2 := blk_frozen BK127.out 2))
         (try simp only [Act.put, List.setIfInBounds_toArray, List.set_cons_zero, List.set_cons_succ])
         go_cut [58] (fun v58 wc => ∃ (kq : Nat) (x58_16 : Bool), v58 = .bool x58_16 ∧ Aside0 (spec_cuGood.j2 kq x3_2 x28_2 l0_2 (l0_2.length : Int) x28_2 x58_16 a0_0 a0_1 l0_2 ((rd_T73 l0_2 x28_2).f0) ((rd_T73 l0_2 x28_2).f1) ((rd_T73 l0_2 x28_2).f2) = some r) ∧ Aside0 (kq ≤ k2) ∧ Aside0 (wc.heap[gb122]? = some (.cells #[.int .i64 a0_0, .int .i64 a0_1, (.slice (some ad126) l0_2.length c0_2)] 31 (0, 0))) ∧ Aside0 (wc.heap[gb127]? = some (.cells #[.int .i64 ((rd_T73 l0_2 x28_2).f0), .int .i64 ((rd_T73 l0_2 x28_2).f1), .int .i64 ((rd_T73 l0_2 x28_2).f2)] 73 (0, 0))) ∧ Aside0 (Below w.heap.size w wc))
         case first =>
          have H := HC17.out
          clear HC17
          replace H := Option.bind_eq_some_iff.mp H
          obtain ⟨t128, A210, H⟩ := H
          replace H : (if t128 = true then ((spec_l1In.f ((rd_T73 l0_2 x28_2).f0) 0 (wrap64 (a0_0 - ((rd_T73 l0_2 x28_2).f2)))).bind fun t129 => (if t129 = true then ((spec_l1In.f ((rd_T73 l0_2 x28_2).f1) 0 (wrap64 (a0_1 - ((rd_T73 l0_2 x28_2).f2)))).bind fun t130 => (spec_cuGood.j2 k2 x3_2 x28_2 l0_2 (l0_2.length : Int) x28_2 (!t130) a0_0 a0_1 l0_2 ((rd_T73 l0_2 x28_2).f0) ((rd_T73 l0_2 x28_2).f1) ((rd_T73 l0_2 x28_2).f2))) else (spec_cuGood.j2 k2 x3_2 x28_2 l0_2 (l0_2.length : Int) x28_2 true a0_0 a0_1 l0_2 ((rd_T73 l0_2 x28_2).f0) ((rd_T73 l0_2 x28_2).f1) ((rd_T73 l0_2 x28_2).f2)))) else (spec_cuGood.j2 k2 x3_2 x28_2 l0_2 (l0_2.length : Int) x28_2 true a0_0 a0_1 l0_2 ((rd_T73 l0_2 x28_2).f0) ((rd_T73 l0_2 x28_2).f1) ((rd_T73 l0_2 x28_2).f2))) = some r := H
          have A21 := Aside0.mk A210
          clear A210
          by_cases c22 : t128 = true
          ·subst c22
           have H1 : ((spec_l1In.f ((rd_T73 l0_2 x28_2).f0) 0 (wrap64 (a0_0 - ((rd_T73 l0_2 x28_2).f2)))).bind fun t129 => (if t129 = true then ((spec_l1In.f ((rd_T73 l0_2 x28_2).f1) 0 (wrap64 (a0_1 - ((rd_T73 l0_2 x28_2).f2)))).bind fun t130 => (spec_cuGood.j2 k2 x3_2 x28_2 l0_2 (l0_2.length : Int) x28_2 (!t130) a0_0 a0_1 l0_2 ((rd_T73 l0_2 x28_2).f0) ((rd_T73 l0_2 x28_2).f1) ((rd_T73 l0_2 x28_2).f2))) else (spec_cuGood.j2 k2 x3_2 x28_2 l0_2 (l0_2.length : Int) x28_2 true a0_0 a0_1 l0_2 ((rd_T73 l0_2 x28_2).f0) ((rd_T73 l0_2 x28_2).f1) ((rd_T73 l0_2 x28_2).f2)))) = some r := by rw [if_pos rfl] at H; exact H
           clear H
           have H := H1
           clear H1
           replace H := Option.bind_eq_some_iff.mp H
           obtain ⟨t129, A230, H⟩ := H
           replace H : (if t129 = true then ((spec_l1In.f ((rd_T73 l0_2 x28_2).f1) 0 (wrap64 (a0_1 - ((rd_T73 l0_2 x28_2).f2)))).bind fun t130 => (spec_cuGood.j2 k2 x3_2 x28_2 l0_2 (l0_2.length : Int) x28_2 (!t130) a0_0 a0_1 l0_2 ((rd_T73 l0_2 x28_2).f0) ((rd_T73 l0_2 x28_2).f1) ((rd_T73 l0_2 x28_2).f2))) else (spec_cuGood.j2 k2 x3_2 x28_2 l0_2 (l0_2.length : Int) x28_2 true a0_0 a0_1 l0_2 ((rd_T73 l0_2 x28_2).f0) ((rd_T73 l0_2 x28_2).f1) ((rd_T73 l0_2 x28_2).f2))) = some r := H
           have A23 := Aside0.mk A230
           clear A230
           by_cases c24 : t129 = true
           ·subst c24
            have H1 : ((spec_l1In.f ((rd_T73 l0_2 x28_2).f1) 0 (wrap64 (a0_1 - ((rd_T73 l0_2 x28_2).f2)))).bind fun t130 => (spec_cuGood.j2 k2 x3_2 x28_2 l0_2 (l0_2.length : Int) x28_2 (!t130) a0_0 a0_1 l0_2 ((rd_T73 l0_2 x28_2).f0) ((rd_T73 l0_2 x28_2).f1) ((rd_T73 l0_2 x28_2).f2))) = some r := by rw [if_pos rfl] at H; exact H
            clear H
            have H := H1
            clear H1
            replace H := Option.bind_eq_some_iff.mp H
            obtain ⟨t130, A250, H⟩ := H
            replace H : (spec_cuGood.j2 k2 x3_2 x28_2 l0_2 (l0_2.length : Int) x28_2 (!t130) a0_0 a0_1 l0_2 ((rd_T73 l0_2 x28_2).f0) ((rd_T73 l0_2 x28_2).f1) ((rd_T73 l0_2 x28_2).f2)) = some r := H
            have A25 := Aside0.mk A250
            clear A250
            have H' := Aside0.mk H
            clear H
            have hnb26 := NB127_122.out
            have hnc26 := NB122_127.out
            have hcz27_0 : w18.cell? ⟨gb127, 0, none⟩ = some (.int .i64 0) := (blk_cell BK127.out 0).trans rfl
            have hcz27_1 : w18.cell? ⟨gb127, 1, none⟩ = some (.int .i64 0) := (blk_cell BK127.out 1).trans rfl
            have hcz27_2 : w18.cell? ⟨gb127, 2, none⟩ = some (.int .i64 0) := (blk_cell BK127.out 2).trans rfl
            have hfz27_0 := blk_frozen BK127.out 0
            have hfz27_1 := blk_frozen BK127.out 1
            have hfz27_2 := blk_frozen BK127.out 2
            go_wp2_with (first | ((with_reducible refine gate_callee (f := 96) rfl ?_); refine goesL_ (some 35) rfl rfl Try.func96 (by kernel_rfl) rfl #[.int .i64 ((rd_T73 l0_2 x28_2).f2), .int .i64 1, .int .i64 500] rfl itp ?_; (with_reducible refine (spec_l1In.calls ((rd_T73 l0_2 x28_2).f2) 1 500 true _ A21.out).mono ?_); rintro e w' ⟨rfl, ⟨nd, rfl⟩⟩; refine ⟨_, rfl, ?_⟩; have hcz28_0 : w18.cell? ⟨gb122, 0, none⟩ = some (.int .i64 a0_0) := (blk_cell BK122.out 0).trans rfl; have hcz28_1 : w18.cell? ⟨gb122, 1, none⟩ = some (.int .i64 a0_1) := (blk_cell BK122.out 1).trans rfl; have hcz28_2 : w18.cell? ⟨gb122, 2, none⟩ = some (.slice (some ad126) l0_2.length c0_2) := (blk_cell BK122.out 2).trans rfl; have hfz28_0 := blk_frozen BK122.out 0; have hfz28_1 := blk_frozen BK122.out 1; have hfz28_2 := blk_frozen BK122.out 2) | (go_at_call 96; (with_reducible refine (spec_l1In.calls ((rd_T73 l0_2 x28_2).f0) 0 (wrap64 (a0_0 - ((rd_T73 l0_2 x28_2).f2))) true _ A23.out).mono ?_); rintro e w' ⟨rfl, ⟨nd, rfl⟩⟩) | (go_at_call 96; (with_reducible refine (spec_l1In.calls ((rd_T73 l0_2 x28_2).f1) 0 (wrap64 (a0_1 - ((rd_T73 l0_2 x28_2).f2))) t130 _ A25.out).mono ?_); rintro e w' ⟨rfl, ⟨nd, rfl⟩⟩))
            go_meet
            case rel => exact ⟨_, (!t130), (by first | rfl | (simp; done) | (simp [*]; done)), H', ⟨by have := HJ1.out; have := HK2.out; first | omega | exact Nat.le_refl _⟩, ⟨upF BK122⟩, ⟨by (with_reducible repeat (first | refine blk_drewN ?_ _ | refine blk_drew ?_ | refine blk_alloc ?_ _)); refine blk_put (cs := #[.int .i64 ((rd_T73 l0_2 x28_2).f0), .int .i64 ((rd_T73 l0_2 x28_2).f1), .int .i64 0]) ?_ 2 _ rfl; (with_reducible repeat (first | refine blk_drewN ?_ _ | refine blk_drew ?_ | refine blk_alloc ?_ _)); refine blk_put (cs := #[.int .i64 ((rd_T73 l0_2 x28_2).f0), .int .i64 0, .int .i64 0]) ?_ 1 _ rfl; (with_reducible repeat (first | refine blk_drewN ?_ _ | refine blk_drew ?_ | refine blk_alloc ?_ _)); refine blk_put (cs := #[.int .i64 0, .int .i64 0, .int .i64 0]) ?_ 0 _ rfl; (with_reducible repeat (first | refine blk_drewN ?_ _ | refine blk_drew ?_ | refine blk_alloc ?_ _)); exact BK127.out⟩, ⟨upW HB⟩⟩
           ·replace c24 := Bool.eq_false_iff.mpr c24
            subst c24
            have H1 : (spec_cuGood.j2 k2 x3_2 x28_2 l0_2 (l0_2.length : Int) x28_2 true a0_0 a0_1 l0_2 ((rd_T73 l0_2 x28_2).f0) ((rd_T73 l0_2 x28_2).f1) ((rd_T73 l0_2 x28_2).f2)) = some r := by rw [if_neg (show ¬ (false = true) by decide)] at H; exact H
            clear H
            have H := H1
            clear H1
            have H' := Aside0.mk H
            clear H
            have hnb29 := NB127_122.out
            have hnc29 := NB122_127.out
            have hcz30_0 : w18.cell? ⟨gb127, 0, none⟩ = some (.int .i64 0) := (blk_cell BK127.out 0).trans rfl
            have hcz30_1 : w18.cell? ⟨gb127, 1, none⟩ = some (.int .i64 0) := (blk_cell BK127.out 1).trans rfl
            have hcz30_2 : w18.cell? ⟨gb127, 2, none⟩ = some (.int .i64 0) := (blk_cell BK127.out 2).trans rfl
            have hfz30_0 := blk_frozen BK127.out 0
            have hfz30_1 := blk_frozen BK127.out 1
            have hfz30_2 := blk_frozen BK127.out 2
            go_wp2_with (first | ((with_reducible refine gate_callee (f := 96) rfl ?_); refine goesL_ (some 35) rfl rfl Try.func96 (by kernel_rfl) rfl #[.int .i64 ((rd_T73 l0_2 x28_2).f2), .int .i64 1, .int .i64 500] rfl itp ?_; (with_reducible refine (spec_l1In.calls ((rd_T73 l0_2 x28_2).f2) 1 500 true _ A21.out).mono ?_); rintro e w' ⟨rfl, ⟨nd, rfl⟩⟩; refine ⟨_, rfl, ?_⟩; have hcz31_0 : w18.cell? ⟨gb122, 0, none⟩ = some (.int .i64 a0_0) := (blk_cell BK122.out 0).trans rfl; have hcz31_1 : w18.cell? ⟨gb122, 1, none⟩ = some (.int .i64 a0_1) := (blk_cell BK122.out 1).trans rfl; have hcz31_2 : w18.cell? ⟨gb122, 2, none⟩ = some (.slice (some ad126) l0_2.length c0_2) := (blk_cell BK122.out 2).trans rfl; have hfz31_0 := blk_frozen BK122.out 0; have hfz31_1 := blk_frozen BK122.out 1; have hfz31_2 := blk_frozen BK122.out 2) | (go_at_call 96; (with_reducible refine (spec_l1In.calls ((rd_T73 l0_2 x28_2).f0) 0 (wrap64 (a0_0 - ((rd_T73 l0_2 x28_2).f2))) false _ A23.out).mono ?_); rintro e w' ⟨rfl, ⟨nd, rfl⟩⟩))
            go_meet
            case rel => exact ⟨_, (true), (by first | rfl | (simp; done) | (simp [*]; done)), H', ⟨by have := HJ1.out; have := HK2.out; first | omega | exact Nat.le_refl _⟩, ⟨upF BK122⟩, ⟨by (with_reducible repeat (first | refine blk_drewN ?_ _ | refine blk_drew ?_ | refine blk_alloc ?_ _)); refine blk_put (cs := #[.int .i64 ((rd_T73 l0_2 x28_2).f0), .int .i64 ((rd_T73 l0_2 x28_2).f1), .int .i64 0]) ?_ 2 _ rfl; (with_reducible repeat (first | refine blk_drewN ?_ _ | refine blk_drew ?_ | refine blk_alloc ?_ _)); refine blk_put (cs := #[.int .i64 ((rd_T73 l0_2 x28_2).f0), .int .i64 0, .int .i64 0]) ?_ 1 _ rfl; (with_reducible repeat (first | refine blk_drewN ?_ _ | refine blk_drew ?_ | refine blk_alloc ?_ _)); refine blk_put (cs := #[.int .i64 0, .int .i64 0, .int .i64 0]) ?_ 0 _ rfl; (with_reducible repeat (first | refine blk_drewN ?_ _ | refine blk_drew ?_ | refine blk_alloc ?_ _)); exact BK127.out⟩, ⟨upW HB⟩⟩
          ·replace c22 := Bool.eq_false_iff.mpr c22
           subst c22
           have H1 : (spec_cuGood.j2 k2 x3_2 x28_2 l0_2 (l0_2.length : Int) x28_2 true a0_0 a0_1 l0_2 ((rd_T73 l0_2 x28_2).f0) ((rd_T73 l0_2 x28_2).f1) ((rd_T73 l0_2 x28_2).f2)) = some r := by rw [if_neg (show ¬ (false = true) by decide)] at H; exact H
           clear H
           have H := H1
           clear H1
           have H' := Aside0.mk H
           clear H
           have hnb32 := NB127_122.out
           have hnc32 := NB122_127.out
           have hcz33_0 : w18.cell? ⟨gb127, 0, none⟩ = some (.int .i64 0) := (blk_cell BK127.out 0).trans rfl
           have hcz33_1 : w18.cell? ⟨gb127, 1, none⟩ = some (.int .i64 0) := (blk_cell BK127.out 1).trans rfl
           have hcz33_2 : w18.cell? ⟨gb127, 2, none⟩ = some (.int .i64 0) := (blk_cell BK127.out 2).trans rfl
           have hfz33_0 := blk_frozen BK127.out 0
           have hfz33_1 := blk_frozen BK127.out 1
           have hfz33_2 := blk_frozen BK127.out 2
           go_wp2_with (first | ((with_reducible refine gate_callee (f := 96) rfl ?_); refine goesL_ (some 35) rfl rfl Try.func96 (by kernel_rfl) rfl #[.int .i64 ((rd_T73 l0_2 x28_2).f2), .int .i64 1, .int .i64 500] rfl itp ?_; (with_reducible refine (spec_l1In.calls ((rd_T73 l0_2 x28_2).f2) 1 500 false _ A21.out).mono ?_); rintro e w' ⟨rfl, ⟨nd, rfl⟩⟩; refine ⟨_, rfl, ?_⟩))
           go_meet
           case rel => exact ⟨_, (true), (by first | rfl | (simp; done) | (simp [*]; done)), H', ⟨by have := HJ1.out; have := HK2.out; first | omega | exact Nat.le_refl _⟩, ⟨upF BK122⟩, ⟨by (with_reducible repeat (first | refine blk_drewN ?_ _ | refine blk_drew ?_ | refine blk_alloc ?_ _)); refine blk_put (cs := #[.int .i64 ((rd_T73 l0_2 x28_2).f0), .int .i64 ((rd_T73 l0_2 x28_2).f1), .int .i64 0]) ?_ 2 _ rfl; (with_reducible repeat (first | refine blk_drewN ?_ _ | refine blk_drew ?_ | refine blk_alloc ?_ _)); refine blk_put (cs := #[.int .i64 ((rd_T73 l0_2 x28_2).f0), .int .i64 0, .int .i64 0]) ?_ 1 _ rfl; (with_reducible repeat (first | refine blk_drewN ?_ _ | refine blk_drew ?_ | refine blk_alloc ?_ _)); refine blk_put (cs := #[.int .i64 0, .int .i64 0, .int .i64 0]) ?_ 0 _ rfl; (with_reducible repeat (first | refine blk_drewN ?_ _ | refine blk_drew ?_ | refine blk_alloc ?_ _)); exact BK127.out⟩, ⟨upW HB⟩⟩
         case rest =>
          clear HC17
          try clear c1
          try clear p1
          try clear q1
          try clear hx1
          try clear c2
          try clear p2
          try clear c3
          try clear c5
          try clear p6
          try clear c7
          try clear c9
          try clear c12
          try clear p12
          try clear q12
          try clear hx12
          try clear c14
          try clear c14b0
          try clear c15
          try clear c15b0
          try clear c16
          try clear c16b0
          try clear c19
          try clear c22
          try clear c24
          try clear c26
          try clear c29
          try clear c32
          try clear hcz10_0
          try clear hcz10_1
          try clear hcz10_2
          try clear hcz11_0
          try clear hcz11_1
          try clear hcz11_2
          try clear hcz13_0
          try clear hcz13_1
          try clear hcz13_2
          try clear hcz20_0
          try clear hcz20_1
          try clear hcz20_2
          try clear hcz27_0
          try clear hcz27_1
          try clear hcz27_2
          try clear hcz28_0
          try clear hcz28_1
          try clear hcz28_2
          try clear hcz30_0
          try clear hcz30_1
          try clear hcz30_2
          try clear hcz31_0
          try clear hcz31_1
          try clear hcz31_2
          try clear hcz33_0
          try clear hcz33_1
          try clear hcz33_2
          try clear hcz9_0
          try clear hcz9_1
          try clear hcz9_2
          try clear hfz10_0
          try clear hfz10_1
          try clear hfz10_2
          try clear hfz11_0
          try clear hfz11_1
          try clear hfz11_2
          try clear hfz13_0
          try clear hfz13_1
          try clear hfz13_2
          try clear hfz20_0
          try clear hfz20_1
          try clear hfz20_2
          try clear hfz27_0
          try clear hfz27_1
          try clear hfz27_2
          try clear hfz28_0
          try clear hfz28_1
          try clear hfz28_2
          try clear hfz30_0
          try clear hfz30_1
          try clear hfz30_2
          try clear hfz31_0
          try clear hfz31_1
          try clear hfz31_2
          try clear hfz33_0
          try clear hfz33_1
          try clear hfz33_2
          try clear hfz9_0
          try clear hfz9_1
          try clear hfz9_2
          try clear hx126_0
          try clear hx126_1
          try clear hx126_2
          try clear p126
          try clear p2
          try clear q126
          obtain ⟨kq, x58_16, rfl, HA, HJ16, BK122, BK127, HB⟩ := hcut
          cases kq with
          | zero => exact absurd HA.out (by simp [spec_cuGood.j2])
          | succ kj16 =>
           have H := HA.out
           clear HA
           simp only [spec_cuGood.j2] at H
           by_cases c34 : x58_16 = true
           ·subst c34
            have H1 : (some false) = some r := by rw [if_pos rfl] at H; exact H
            clear H
            have H := H1
            clear H1
            obtain rfl := Option.some.inj H
            go_wp2
            go_ret
            exact ⟨by first | rfl | (simp [errW_none, errW_some] <;> rfl) | (simp [*, errW_none, errW_some] <;> rfl), by repeat (first | (with_reducible first | exact HB.out | apply below_alloc | apply pw_below_drewN | apply below_drew1 | refine below_set ?_ GE122.out | refine below_set ?_ GE127.out) | exact HB.out)⟩
           ·replace c34 := Bool.eq_false_iff.mpr c34
            subst c34
            have H1 : (if 0 ≤ x28_2 then (if x28_2 ≤ (l0_2.length : Int) then ((some (l0_2.take (x28_2 : Int).toNat : List (S73))).bind fun y131 => (spec_cuGood.l1 kj16 (wrap64 (x3_2 + (wrap64 (((rd_T73 l0_2 x28_2).f2) * ((rd_T73 l0_2 x28_2).f2))))) x28_2 l0_2 (l0_2.length : Int) x28_2 y131 (y131.length : Int) 0 a0_0 a0_1 l0_2 ((rd_T73 l0_2 x28_2).f0) ((rd_T73 l0_2 x28_2).f1) ((rd_T73 l0_2 x28_2).f2))) else (none)) else (none)) = some r := by rw [if_neg (show ¬ (false = true) by decide)] at H; exact H
            clear H
            have H := H1
            clear H1
            by_cases c35 : 0 ≤ x28_2
            ·rw [if_pos c35] at H
             have c35b0 := eq_true c35
             have c35b1 : decide (0 ≤ x28_2) = true := decide_eq_true c35
             clear c35
             by_cases c36 : x28_2 ≤ (l0_2.length : Int)
             ·rw [if_pos c36] at H
              have c36b0 := eq_true c36
              have c36b1 : decide (x28_2 ≤ (l0_2.length : Int)) = true := decide_eq_true c36
              clear c36
              obtain ⟨y131, hy131⟩ : ∃ y_ : List (S73), y_ = (l0_2.take (x28_2 : Int).toNat) := ⟨_, rfl⟩
              replace H : (spec_cuGood.l1 kj16 (wrap64 (x3_2 + (wrap64 (((rd_T73 l0_2 x28_2).f2) * ((rd_T73 l0_2 x28_2).f2))))) x28_2 l0_2 (l0_2.length : Int) x28_2 y131 (y131.length : Int) 0 a0_0 a0_1 l0_2 ((rd_T73 l0_2 x28_2).f0) ((rd_T73 l0_2 x28_2).f1) ((rd_T73 l0_2 x28_2).f2)) = some r := by first | (rw [hy131]; with_reducible exact H) | (have H2_ := (Option.bind_some _ _).symm.trans H; rw [hy131]; with_reducible exact H2_) | (have H2_ := (Option.bind_some _ _).symm.trans H; with_reducible exact H2_) | with_reducible exact H | (rw [hy131]; exact H) | exact H
              have Ny131 := Aside0.mk hy131
              clear hy131
              have H' := Aside0.mk H
              clear H
              have hnb37 := NB127_122.out
              have hnc37 := NB122_127.out
              have hcz38_0 : wc.cell? ⟨gb127, 0, none⟩ = some (.int .i64 ((rd_T73 l0_2 x28_2).f0)) := (blk_cell BK127.out 0).trans rfl
              have hcz38_1 : wc.cell? ⟨gb127, 1, none⟩ = some (.int .i64 ((rd_T73 l0_2 x28_2).f1)) := (blk_cell BK127.out 1).trans rfl
              have hcz38_2 : wc.cell? ⟨gb127, 2, none⟩ = some (.int .i64 ((rd_T73 l0_2 x28_2).f2)) := (blk_cell BK127.out 2).trans rfl
              have hfz38_0 := blk_frozen BK127.out 0
              have hfz38_1 := blk_frozen BK127.out 1
              have hfz38_2 := blk_frozen BK127.out 2
              have hcz39_0 : wc.cell? ⟨gb122, 0, none⟩ = some (.int .i64 a0_0) := (blk_cell BK122.out 0).trans rfl
              have hcz39_1 : wc.cell? ⟨gb122, 1, none⟩ = some (.int .i64 a0_1) := (blk_cell BK122.out 1).trans rfl
              have hcz39_2 : wc.cell? ⟨gb122, 2, none⟩ = some (.slice (some ad126) l0_2.length c0_2) := (blk_cell BK122.out 2).trans rfl
              have hfz39_0 := blk_frozen BK122.out 0
              have hfz39_1 := blk_frozen BK122.out 1
              have hfz39_2 := blk_frozen BK122.out 2
              have q40 : (x28_2 : Int) ≤ ((l0_2.length : Int) : Int) := of_decide_eq_true (by first | (with_reducible assumption) | assumption)
              obtain ⟨i040, hi040, _, hsz40, _⟩ := info_parts info73
              have hroom40 : l0_2.length ≤ c0_2 := HC0_2.out
              have hC40 : Kd.C k73 _ (some ad126) l0_2.length l0_2 := HR0_2.out
              have hcut40 := cut_to (P := Try.prog) 29 73 .i64 Try.underlying29 hi040 (some ad126) l0_2.length c0_2 x28_2 (of_decide_eq_true (by first | (with_reducible assumption) | assumption)) q40 hroom40
              have hr40 := Kd.C_take (m := (x28_2 : Int).toNat) hC40 (by omega)
              have hy40 : y131.length = (x28_2 : Int).toNat := (by rw [Ny131.out, List.length_take]; omega)
              rw [← Ny131.out] at hr40
              rw [← hy40] at hcut40
              have HR134 := Aside0.mk hr40
              have HC134 := Aside0.mk (show y131.length ≤ c0_2 from by omega)
              clear hr40 hC40 hroom40 hi040 hsz40
              have KY40 := Aside0.mk hy40
              clear hy40
              replace q40 := eq_true q40
              go_wp2
              go_loopg [71] kj16 (fun kq v71 w' => ∃ (x71_4 : Int), v71 = .int .i64 x71_4 ∧ Aside0 (spec_cuGood.l1 kq (wrap64 (x3_2 + (wrap64 (((rd_T73 l0_2 x28_2).f2) * ((rd_T73 l0_2 x28_2).f2))))) x28_2 l0_2 (l0_2.length : Int) x28_2 y131 (y131.length : Int) x71_4 a0_0 a0_1 l0_2 ((rd_T73 l0_2 x28_2).f0) ((rd_T73 l0_2 x28_2).f1) ((rd_T73 l0_2 x28_2).f2) = some r) ∧ Aside0 (kq ≤ kj16) ∧ Aside0 (w'.heap[gb122]? = some (.cells #[.int .i64 a0_0, .int .i64 a0_1, (.slice (some ad126) l0_2.length c0_2)] 31 (0, 0))) ∧ Aside0 (w'.heap[gb127]? = some (.cells #[.int .i64 ((rd_T73 l0_2 x28_2).f0), .int .i64 ((rd_T73 l0_2 x28_2).f1), .int .i64 ((rd_T73 l0_2 x28_2).f2)] 73 (0, 0))) ∧ Aside0 (Below w.heap.size w w'))
              case atStart => exact ⟨(0), (by first | rfl | (simp; done) | (simp [*]; done)), H', ⟨Nat.le_refl _⟩, ⟨upK BK122⟩, ⟨upK BK127⟩, ⟨upW HB⟩⟩
              case round =>
               clear H'
               try clear c1
               try clear p1
               try clear q1
               try clear hx1
               try clear c2
               try clear p2
               try clear c3
               try clear q4
               try clear c5
               try clear p6
               try clear c7
               try clear c9
               try clear c12
               try clear p12
               try clear q12
               try clear hx12
               try clear c14
               try clear c14b0
               try clear c15
               try clear c15b0
               try clear c16
               try clear c16b0
               try clear c19
               try clear c22
               try clear c24
               try clear c26
               try clear c29
               try clear c32
               try clear c34
               try clear c35
               try clear c35b0
               try clear c35b1
               try clear c36
               try clear c36b0
               try clear c36b1
               try clear c37
               try clear q40
               try clear hcz10_0
               try clear hcz10_1
               try clear hcz10_2
               try clear hcz11_0
               try clear hcz11_1
               try clear hcz11_2
               try clear hcz13_0
               try clear hcz13_1
               try clear hcz13_2
               try clear hcz20_0
               try clear hcz20_1
               try clear hcz20_2
               try clear hcz27_0
               try clear hcz27_1
               try clear hcz27_2
               try clear hcz28_0
               try clear hcz28_1
               try clear hcz28_2
               try clear hcz30_0
               try clear hcz30_1
               try clear hcz30_2
               try clear hcz31_0
               try clear hcz31_1
               try clear hcz31_2
               try clear hcz33_0
               try clear hcz33_1
               try clear hcz33_2
               try clear hcz38_0
               try clear hcz38_1
               try clear hcz38_2
               try clear hcz39_0
               try clear hcz39_1
               try clear hcz39_2
               try clear hcz9_0
               try clear hcz9_1
               try clear hcz9_2
               try clear hfz10_0
               try clear hfz10_1
               try clear hfz10_2
               try clear hfz11_0
               try clear hfz11_1
               try clear hfz11_2
               try clear hfz13_0
               try clear hfz13_1
               try clear hfz13_2
               try clear hfz20_0
               try clear hfz20_1
               try clear hfz20_2
               try clear hfz27_0
               try clear hfz27_1
               try clear hfz27_2
               try clear hfz28_0
               try clear hfz28_1
               try clear hfz28_2
               try clear hfz30_0
               try clear hfz30_1
               try clear hfz30_2
               try clear hfz31_0
               try clear hfz31_1
               try clear hfz31_2
               try clear hfz33_0
               try clear hfz33_1
               try clear hfz33_2
               try clear hfz38_0
               try clear hfz38_1
               try clear hfz38_2
               try clear hfz39_0
               try clear hfz39_1
               try clear hfz39_2
               try clear hfz9_0
               try clear hfz9_1
               try clear hfz9_2
               try clear hx126_0
               try clear hx126_1
               try clear hx126_2
               try clear p1
               try clear p12
               try clear p126
               try clear p2
               try clear p6
               try clear q1
               try clear q12
               try clear q126
               try clear q40
               obtain ⟨x71_4, rfl, HA, HK4, BK122, BK127, HB⟩ := hrel
               cases gk with
               | zero => exact absurd HA.out (by simp [spec_cuGood.l1])
               | succ k4 =>
                have H := HA.out
                clear HA
                simp only [spec_cuGood.l1] at H
                by_cases c41 : x71_4 < (y131.length : Int)
                ·rw [if_pos c41] at H
                 have c41b0 : decide (x71_4 < (y131.length : Int)) = true := decide_eq_true c41
                 clear c41
                 by_cases c42 : 0 ≤ x71_4
                 ·rw [if_pos c42] at H
                  have c42b0 : decide (0 ≤ x71_4) = true := decide_eq_true c42
                  clear c42
                  by_cases c43 : x71_4 < (y131.length : Int)
                  ·rw [if_pos c43] at H
                   have c43b0 : decide (x71_4 < (y131.length : Int)) = true := decide_eq_true c43
                   clear c43
                   have HC44 := Aside0.mk H
                   clear H
                   have p135 : 0 ≤ (x71_4 : Int) := of_decide_eq_true (by first | (with_reducible assumption) | assumption)
                   have q135 : x71_4 < (y131.length : Int) := of_decide_eq_true (by first | (with_reducible assumption) | assumption)
                   obtain ⟨ad135, e135, hx135_0, hx135_1, hx135_2⟩ := at_T73 HR134.out x71_4 p135 q135
                   obtain rfl : ad126 = ad135 := (by injection e135)
                   replace hx135_0 := (HB.out.cell (World.block_lt_of_cell? w _ hx135_0)).trans hx135_0
                   replace hx135_1 := (HB.out.cell (World.block_lt_of_cell? w _ hx135_1)).trans hx135_1
                   replace hx135_2 := (HB.out.cell (World.block_lt_of_cell? w _ hx135_2)).trans hx135_2
                   replace p135 := eq_true p135
                   replace q135 := eq_true q135
                   go_upto_region 13 with (first | ((with_reducible refine gate_dst (N := 7) rfl ?_); (try (refine gate_guard (by rfl) ?_; dsimp only)); refine box_event ?hg (N := 7) ?hd (cs := #[.int .i64 0, .int .i64 0, .int .i64 0]) (t := 73) ?hr ?_; (case hd => rfl); (case hg => rfl); (case hr => first | (go_simp; done) | (go_simp; rfl)); intro gb136 hg w45 hbox hb; have n0_ := Aside0.mk (blk_below (upK BK122) hb); have n1_ := Aside0.mk (blk_below (upK BK127) hb); have n2_ := Aside0.mk (below_step (upW HB) hb); have n3_ := Aside0.mk (hbox); have n4_ := Aside0.mk ((by rw [hg]; exact (below_size (upW HB)) : w.heap.size ≤ gb136)); have n5_ := Aside0.mk ((by rw [hg]; exact (below_size (upW HB)) : w.heap.size ≤ gb136)); have n6_ := Aside0.mk ((by rw [hg]; exact Nat.ne_of_lt (blk_lt (upK BK122)) : gb122 ≠ gb136)); have n7_ := Aside0.mk ((by rw [hg]; exact Nat.ne_of_gt (blk_lt (upK BK122)) : gb136 ≠ gb122)); have n8_ := Aside0.mk ((by rw [hg]; exact Nat.ne_of_lt (blk_lt (upK BK127)) : gb127 ≠ gb136)); have n9_ := Aside0.mk ((by rw [hg]; exact Nat.ne_of_gt (blk_lt (upK BK127)) : gb136 ≠ gb127)); clear BK122; clear BK127; clear HB; have BK122 := n0_; have BK127 := n1_; have HB := n2_; have BK136 := n3_; have GW136 := n4_; have GE136 := n5_; have NB122_136 := n6_; have NB136_122 := n7_; have NB127_136 := n8_; have NB136_127 := n9_; clear n0_ n1_ n2_ n3_ n4_ n5_ n6_ n7_ n8_ n9_; clear hb hbox hg; have hnb46 := NB136_122.out; have hnc46 := NB122_136.out; have hnb47 := NB136_127.out; have hnc47 := NB127_136.out; have hcz48_0 : w45.cell? ⟨gb136, 0, none⟩ = some (.int .i64 0) := (blk_cell BK136.out 0).trans rfl; have hcz48_1 : w45.cell? ⟨gb136, 1, none⟩ = some (.int .i64 0) := (blk_cell BK136.out 1).trans rfl; have hcz48_2 : w45.cell? ⟨gb136, 2, none⟩ = some (.int .i64 0) := (blk_cell BK136.out 2).trans rfl; have hfz48_0 := blk_frozen BK136.out 0; have hfz48_1 := blk_frozen BK136.out 1; have hfz48_2 := blk_frozen BK136.out 2))
                   (try simp only [Act.put, List.setIfInBounds_toArray, List.set_cons_zero, List.set_cons_succ])
                   go_cut [113] (fun v113 wc => ∃ (kq : Nat) (x113_43 : Bool), v113 = .bool x113_43 ∧ Aside0 (spec_cuGood.j4 kq (wrap64 (x3_2 + (wrap64 (((rd_T73 l0_2 x28_2).f2) * ((rd_T73 l0_2 x28_2).f2))))) x28_2 x71_4 l0_2 (l0_2.length : Int) x28_2 y131 (y131.length : Int) x71_4 x113_43 a0_0 a0_1 l0_2 ((rd_T73 l0_2 x28_2).f0) ((rd_T73 l0_2 x28_2).f1) ((rd_T73 l0_2 x28_2).f2) ((rd_T73 y131 x71_4).f0) ((rd_T73 y131 x71_4).f1) ((rd_T73 y131 x71_4).f2) = some r) ∧ Aside0 (kq ≤ k4) ∧ Aside0 (wc.heap[gb122]? = some (.cells #[.int .i64 a0_0, .int .i64 a0_1, (.slice (some ad126) l0_2.length c0_2)] 31 (0, 0))) ∧ Aside0 (wc.heap[gb127]? = some (.cells #[.int .i64 ((rd_T73 l0_2 x28_2).f0), .int .i64 ((rd_T73 l0_2 x28_2).f1), .int .i64 ((rd_T73 l0_2 x28_2).f2)] 73 (0, 0))) ∧ Aside0 (wc.heap[gb136]? = some (.cells #[.int .i64 ((rd_T73 y131 x71_4).f0), .int .i64 ((rd_T73 y131 x71_4).f1), .int .i64 ((rd_T73 y131 x71_4).f2)] 73 (0, 0))) ∧ Aside0 (Below w.heap.size w wc))
                   case first =>
                    have H := HC44.out
                    clear HC44
                    by_cases c49 : ((rd_T73 l0_2 x28_2).f0) < (wrap64 (((rd_T73 y131 x71_4).f0) + ((rd_T73 y131 x71_4).f2)))
                    ·rw [if_pos c49] at H
                     have c49b0 : decide (((rd_T73 l0_2 x28_2).f0) < (wrap64 (((rd_T73 y131 x71_4).f0) + ((rd_T73 y131 x71_4).f2)))) = true := decide_eq_true c49
                     clear c49
                     (first | rw [c49b0] | (simp only [i64_w, i32_w]; rw [c49b0]) | skip)
                     by_cases c50 : ((rd_T73 y131 x71_4).f0) < (wrap64 (((rd_T73 l0_2 x28_2).f0) + ((rd_T73 l0_2 x28_2).f2)))
                     ·rw [if_pos c50] at H
                      have c50b0 : decide (((rd_T73 y131 x71_4).f0) < (wrap64 (((rd_T73 l0_2 x28_2).f0) + ((rd_T73 l0_2 x28_2).f2)))) = true := decide_eq_true c50
                      clear c50
                      by_cases c51 : ((rd_T73 l0_2 x28_2).f1) < (wrap64 (((rd_T73 y131 x71_4).f1) + ((rd_T73 y131 x71_4).f2)))
                      ·rw [if_pos c51] at H
                       have c51b0 : decide (((rd_T73 l0_2 x28_2).f1) < (wrap64 (((rd_T73 y131 x71_4).f1) + ((rd_T73 y131 x71_4).f2)))) = true := decide_eq_true c51
                       clear c51
                       have H' := Aside0.mk H
                       clear H
                       have hnb52 := NB127_122.out
                       have hnc52 := NB122_127.out
                       have hnb53 := NB127_136.out
                       have hnc53 := NB136_127.out
                       have hcz54_0 : w45.cell? ⟨gb127, 0, none⟩ = some (.int .i64 ((rd_T73 l0_2 x28_2).f0)) := (blk_cell BK127.out 0).trans rfl
                       have hcz54_1 : w45.cell? ⟨gb127, 1, none⟩ = some (.int .i64 ((rd_T73 l0_2 x28_2).f1)) := (blk_cell BK127.out 1).trans rfl
                       have hcz54_2 : w45.cell? ⟨gb127, 2, none⟩ = some (.int .i64 ((rd_T73 l0_2 x28_2).f2)) := (blk_cell BK127.out 2).trans rfl
                       have hfz54_0 := blk_frozen BK127.out 0
                       have hfz54_1 := blk_frozen BK127.out 1
                       have hfz54_2 := blk_frozen BK127.out 2
                       have hnb55 := NB136_122.out
                       have hnc55 := NB122_136.out
                       have hcz56_0 : w45.cell? ⟨gb136, 0, none⟩ = some (.int .i64 0) := (blk_cell BK136.out 0).trans rfl
                       have hcz56_1 : w45.cell? ⟨gb136, 1, none⟩ = some (.int .i64 0) := (blk_cell BK136.out 1).trans rfl
                       have hcz56_2 : w45.cell? ⟨gb136, 2, none⟩ = some (.int .i64 0) := (blk_cell BK136.out 2).trans rfl
                       have hfz56_0 := blk_frozen BK136.out 0
                       have hfz56_1 := blk_frozen BK136.out 1
                       have hfz56_2 := blk_frozen BK136.out 2
                       go_wp2
                       go_meet
                       case rel => exact ⟨_, (decide (((rd_T73 y131 x71_4).f1) < (wrap64 (((rd_T73 l0_2 x28_2).f1) + ((rd_T73 l0_2 x28_2).f2))))), (by first | rfl | (simp; done) | (simp [*]; done)), H', ⟨by have := HJ1.out; have := HK2.out; have := HJ16.out; have := HK4.out; first | omega | exact Nat.le_refl _⟩, ⟨upF BK122⟩, ⟨upF BK127⟩, ⟨by (with_reducible repeat (first | refine blk_drewN ?_ _ | refine blk_drew ?_ | refine blk_alloc ?_ _)); refine blk_put (cs := #[.int .i64 ((rd_T73 y131 x71_4).f0), .int .i64 ((rd_T73 y131 x71_4).f1), .int .i64 0]) ?_ 2 _ rfl; (with_reducible repeat (first | refine blk_drewN ?_ _ | refine blk_drew ?_ | refine blk_alloc ?_ _)); refine blk_put (cs := #[.int .i64 ((rd_T73 y131 x71_4).f0), .int .i64 0, .int .i64 0]) ?_ 1 _ rfl; (with_reducible repeat (first | refine blk_drewN ?_ _ | refine blk_drew ?_ | refine blk_alloc ?_ _)); refine blk_put (cs := #[.int .i64 0, .int .i64 0, .int .i64 0]) ?_ 0 _ rfl; (with_reducible repeat (first | refine blk_drewN ?_ _ | refine blk_drew ?_ | refine blk_alloc ?_ _)); exact BK136.out⟩, ⟨upW HB⟩⟩
                      ·rw [if_neg c51] at H
                       have c51b0 : decide (((rd_T73 l0_2 x28_2).f1) < (wrap64 (((rd_T73 y131 x71_4).f1) + ((rd_T73 y131 x71_4).f2)))) = false := decide_eq_false c51
                       clear c51
                       have H' := Aside0.mk H
                       clear H
                       have hnb57 := NB127_122.out
                       have hnc57 := NB122_127.out
                       have hnb58 := NB127_136.out
                       have hnc58 := NB136_127.out
                       have hcz59_0 : w45.cell? ⟨gb127, 0, none⟩ = some (.int .i64 ((rd_T73 l0_2 x28_2).f0)) := (blk_cell BK127.out 0).trans rfl
                       have hcz59_1 : w45.cell? ⟨gb127, 1, none⟩ = some (.int .i64 ((rd_T73 l0_2 x28_2).f1)) := (blk_cell BK127.out 1).trans rfl
                       have hcz59_2 : w45.cell? ⟨gb127, 2, none⟩ = some (.int .i64 ((rd_T73 l0_2 x28_2).f2)) := (blk_cell BK127.out 2).trans rfl
                       have hfz59_0 := blk_frozen BK127.out 0
                       have hfz59_1 := blk_frozen BK127.out 1
                       have hfz59_2 := blk_frozen BK127.out 2
                       have hnb60 := NB136_122.out
                       have hnc60 := NB122_136.out
                       have hcz61_0 : w45.cell? ⟨gb136, 0, none⟩ = some (.int .i64 0) := (blk_cell BK136.out 0).trans rfl
                       have hcz61_1 : w45.cell? ⟨gb136, 1, none⟩ = some (.int .i64 0) := (blk_cell BK136.out 1).trans rfl
                       have hcz61_2 : w45.cell? ⟨gb136, 2, none⟩ = some (.int .i64 0) := (blk_cell BK136.out 2).trans rfl
                       have hfz61_0 := blk_frozen BK136.out 0
                       have hfz61_1 := blk_frozen BK136.out 1
                       have hfz61_2 := blk_frozen BK136.out 2
                       go_wp2
                       go_meet
                       case rel => exact ⟨_, (false), (by first | rfl | (simp; done) | (simp [*]; done)), H', ⟨by have := HJ1.out; have := HK2.out; have := HJ16.out; have := HK4.out; first | omega | exact Nat.le_refl _⟩, ⟨upF BK122⟩, ⟨upF BK127⟩, ⟨by (with_reducible repeat (first | refine blk_drewN ?_ _ | refine blk_drew ?_ | refine blk_alloc ?_ _)); refine blk_put (cs := #[.int .i64 ((rd_T73 y131 x71_4).f0), .int .i64 ((rd_T73 y131 x71_4).f1), .int .i64 0]) ?_ 2 _ rfl; (with_reducible repeat (first | refine blk_drewN ?_ _ | refine blk_drew ?_ | refine blk_alloc ?_ _)); refine blk_put (cs := #[.int .i64 ((rd_T73 y131 x71_4).f0), .int .i64 0, .int .i64 0]) ?_ 1 _ rfl; (with_reducible repeat (first | refine blk_drewN ?_ _ | refine blk_drew ?_ | refine blk_alloc ?_ _)); refine blk_put (cs := #[.int .i64 0, .int .i64 0, .int .i64 0]) ?_ 0 _ rfl; (with_reducible repeat (first | refine blk_drewN ?_ _ | refine blk_drew ?_ | refine blk_alloc ?_ _)); exact BK136.out⟩, ⟨upW HB⟩⟩
                     ·rw [if_neg c50] at H
                      have c50b0 : decide (((rd_T73 y131 x71_4).f0) < (wrap64 (((rd_T73 l0_2 x28_2).f0) + ((rd_T73 l0_2 x28_2).f2)))) = false := decide_eq_false c50
                      clear c50
                      have H' := Aside0.mk H
                      clear H
                      have hnb62 := NB127_122.out
                      have hnc62 := NB122_127.out
                      have hnb63 := NB127_136.out
                      have hnc63 := NB136_127.out
                      have hcz64_0 : w45.cell? ⟨gb127, 0, none⟩ = some (.int .i64 ((rd_T73 l0_2 x28_2).f0)) := (blk_cell BK127.out 0).trans rfl
                      have hcz64_1 : w45.cell? ⟨gb127, 1, none⟩ = some (.int .i64 ((rd_T73 l0_2 x28_2).f1)) := (blk_cell BK127.out 1).trans rfl
                      have hcz64_2 : w45.cell? ⟨gb127, 2, none⟩ = some (.int .i64 ((rd_T73 l0_2 x28_2).f2)) := (blk_cell BK127.out 2).trans rfl
                      have hfz64_0 := blk_frozen BK127.out 0
                      have hfz64_1 := blk_frozen BK127.out 1
                      have hfz64_2 := blk_frozen BK127.out 2
                      have hnb65 := NB136_122.out
                      have hnc65 := NB122_136.out
                      have hcz66_0 : w45.cell? ⟨gb136, 0, none⟩ = some (.int .i64 0) := (blk_cell BK136.out 0).trans rfl
                      have hcz66_1 : w45.cell? ⟨gb136, 1, none⟩ = some (.int .i64 0) := (blk_cell BK136.out 1).trans rfl
                      have hcz66_2 : w45.cell? ⟨gb136, 2, none⟩ = some (.int .i64 0) := (blk_cell BK136.out 2).trans rfl
                      have hfz66_0 := blk_frozen BK136.out 0
                      have hfz66_1 := blk_frozen BK136.out 1
                      have hfz66_2 := blk_frozen BK136.out 2
                      go_wp2
                      go_meet
                      case rel => exact ⟨_, (false), (by first | rfl | (simp; done) | (simp [*]; done)), H', ⟨by have := HJ1.out; have := HK2.out; have := HJ16.out; have := HK4.out; first | omega | exact Nat.le_refl _⟩, ⟨upF BK122⟩, ⟨upF BK127⟩, ⟨by (with_reducible repeat (first | refine blk_drewN ?_ _ | refine blk_drew ?_ | refine blk_alloc ?_ _)); refine blk_put (cs := #[.int .i64 ((rd_T73 y131 x71_4).f0), .int .i64 ((rd_T73 y131 x71_4).f1), .int .i64 0]) ?_ 2 _ rfl; (with_reducible repeat (first | refine blk_drewN ?_ _ | refine blk_drew ?_ | refine blk_alloc ?_ _)); refine blk_put (cs := #[.int .i64 ((rd_T73 y131 x71_4).f0), .int .i64 0, .int .i64 0]) ?_ 1 _ rfl; (with_reducible repeat (first | refine blk_drewN ?_ _ | refine blk_drew ?_ | refine blk_alloc ?_ _)); refine blk_put (cs := #[.int .i64 0, .int .i64 0, .int .i64 0]) ?_ 0 _ rfl; (with_reducible repeat (first | refine blk_drewN ?_ _ | refine blk_drew ?_ | refine blk_alloc ?_ _)); exact BK136.out⟩, ⟨upW HB⟩⟩
                    ·rw [if_neg c49] at H
                     have c49b0 : decide (((rd_T73 l0_2 x28_2).f0) < (wrap64 (((rd_T73 y131 x71_4).f0) + ((rd_T73 y131 x71_4).f2)))) = false := decide_eq_false c49
                     clear c49
                     (first | rw [c49b0] | (simp only [i64_w, i32_w]; rw [c49b0]) | skip)
                     have H' := Aside0.mk H
                     clear H
                     have hnb67 := NB127_122.out
                     have hnc67 := NB122_127.out
                     have hnb68 := NB127_136.out
                     have hnc68 := NB136_127.out
                     have hcz69_0 : w45.cell? ⟨gb127, 0, none⟩ = some (.int .i64 ((rd_T73 l0_2 x28_2).f0)) := (blk_cell BK127.out 0).trans rfl
                     have hcz69_1 : w45.cell? ⟨gb127, 1, none⟩ = some (.int .i64 ((rd_T73 l0_2 x28_2).f1)) := (blk_cell BK127.out 1).trans rfl
                     have hcz69_2 : w45.cell? ⟨gb127, 2, none⟩ = some (.int .i64 ((rd_T73 l0_2 x28_2).f2)) := (blk_cell BK127.out 2).trans rfl
                     have hfz69_0 := blk_frozen BK127.out 0
                     have hfz69_1 := blk_frozen BK127.out 1
                     have hfz69_2 := blk_frozen BK127.out 2
                     have hnb70 := NB136_122.out
                     have hnc70 := NB122_136.out
                     have hcz71_0 : w45.cell? ⟨gb136, 0, none⟩ = some (.int .i64 0) := (blk_cell BK136.out 0).trans rfl
                     have hcz71_1 : w45.cell? ⟨gb136, 1, none⟩ = some (.int .i64 0) := (blk_cell BK136.out 1).trans rfl
                     have hcz71_2 : w45.cell? ⟨gb136, 2, none⟩ = some (.int .i64 0) := (blk_cell BK136.out 2).trans rfl
                     have hfz71_0 := blk_frozen BK136.out 0
                     have hfz71_1 := blk_frozen BK136.out 1
                     have hfz71_2 := blk_frozen BK136.out 2
                     go_wp2
                     go_meet
                     case rel => exact ⟨_, (false), (by first | rfl | (simp; done) | (simp [*]; done)), H', ⟨by have := HJ1.out; have := HK2.out; have := HJ16.out; have := HK4.out; first | omega | exact Nat.le_refl _⟩, ⟨upF BK122⟩, ⟨upF BK127⟩, ⟨by (with_reducible repeat (first | refine blk_drewN ?_ _ | refine blk_drew ?_ | refine blk_alloc ?_ _)); refine blk_put (cs := #[.int .i64 ((rd_T73 y131 x71_4).f0), .int .i64 ((rd_T73 y131 x71_4).f1), .int .i64 0]) ?_ 2 _ rfl; (with_reducible repeat (first | refine blk_drewN ?_ _ | refine blk_drew ?_ | refine blk_alloc ?_ _)); refine blk_put (cs := #[.int .i64 ((rd_T73 y131 x71_4).f0), .int .i64 0, .int .i64 0]) ?_ 1 _ rfl; (with_reducible repeat (first | refine blk_drewN ?_ _ | refine blk_drew ?_ | refine blk_alloc ?_ _)); refine blk_put (cs := #[.int .i64 0, .int .i64 0, .int .i64 0]) ?_ 0 _ rfl; (with_reducible repeat (first | refine blk_drewN ?_ _ | refine blk_drew ?_ | refine blk_alloc ?_ _)); exact BK136.out⟩, ⟨upW HB⟩⟩
                   case rest =>
                    clear HC44
                    try clear c1
                    try clear p1
                    try clear q1
                    try clear hx1
                    try clear c2
                    try clear p2
                    try clear c3
                    try clear c4
                    try clear q4
                    try clear c5
                    try clear c6
                    try clear p6
                    try clear c7
                    try clear c9
                    try clear c12
                    try clear p12
                    try clear q12
                    try clear hx12
                    try clear p13
                    try clear q13
                    try clear hx13
                    try clear c14
                    try clear c14b0
                    try clear c15
                    try clear c15b0
                    try clear c16
                    try clear c16b0
                    try clear c19
                    try clear c22
                    try clear c24
                    try clear c26
                    try clear c29
                    try clear c32
                    try clear c34
                    try clear c35
                    try clear c35b0
                    try clear c35b1
                    try clear c36
                    try clear c36b0
                    try clear c36b1
                    try clear c37
                    try clear q40
                    try clear c41
                    try clear c41b0
                    try clear c42
                    try clear c42b0
                    try clear c43
                    try clear c43b0
                    try clear c46
                    try clear c47
                    try clear c49
                    try clear c49b0
                    try clear c50
                    try clear c50b0
                    try clear c51
                    try clear c51b0
                    try clear c52
                    try clear c53
                    try clear c55
                    try clear c57
                    try clear c58
                    try clear c60
                    try clear c62
                    try clear c63
                    try clear p64
                    try clear c65
                    try clear c67
                    try clear c68
                    try clear c70
                    try clear hcz10_0
                    try clear hcz10_1
                    try clear hcz10_2
                    try clear hcz11_0
                    try clear hcz11_1
                    try clear hcz11_2
                    try clear hcz13_0
                    try clear hcz13_1
                    try clear hcz13_2
                    try clear hcz20_0
                    try clear hcz20_1
                    try clear hcz20_2
                    try clear hcz27_0
                    try clear hcz27_1
                    try clear hcz27_2
                    try clear hcz28_0
                    try clear hcz28_1
                    try clear hcz28_2
                    try clear hcz30_0
                    try clear hcz30_1
                    try clear hcz30_2
                    try clear hcz31_0
                    try clear hcz31_1
                    try clear hcz31_2
                    try clear hcz33_0
                    try clear hcz33_1
                    try clear hcz33_2
                    try clear hcz38_0
                    try clear hcz38_1
                    try clear hcz38_2
                    try clear hcz39_0
                    try clear hcz39_1
                    try clear hcz39_2
                    try clear hcz48_0
                    try clear hcz48_1
                    try clear hcz48_2
                    try clear hcz54_0
                    try clear hcz54_1
                    try clear hcz54_2
                    try clear hcz56_0
                    try clear hcz56_1
                    try clear hcz56_2
                    try clear hcz59_0
                    try clear hcz59_1
                    try clear hcz59_2
                    try clear hcz61_0
                    try clear hcz61_1
                    try clear hcz61_2
                    try clear hcz64_0
                    try clear hcz64_1
                    try clear hcz64_2
                    try clear hcz66_0
                    try clear hcz66_1
                    try clear hcz66_2
                    try clear hcz69_0
                    try clear hcz69_1
                    try clear hcz69_2
                    try clear hcz71_0
                    try clear hcz71_1
                    try clear hcz71_2
                    try clear hcz9_0
                    try clear hcz9_1
                    try clear hcz9_2
                    try clear hfz10_0
                    try clear hfz10_1
                    try clear hfz10_2
                    try clear hfz11_0
                    try clear hfz11_1
                    try clear hfz11_2
                    try clear hfz13_0
                    try clear hfz13_1
                    try clear hfz13_2
                    try clear hfz20_0
                    try clear hfz20_1
                    try clear hfz20_2
                    try clear hfz27_0
                    try clear hfz27_1
                    try clear hfz27_2
                    try clear hfz28_0
                    try clear hfz28_1
                    try clear hfz28_2
                    try clear hfz30_0
                    try clear hfz30_1
                    try clear hfz30_2
                    try clear hfz31_0
                    try clear hfz31_1
                    try clear hfz31_2
                    try clear hfz33_0
                    try clear hfz33_1
                    try clear hfz33_2
                    try clear hfz38_0
                    try clear hfz38_1
                    try clear hfz38_2
                    try clear hfz39_0
                    try clear hfz39_1
                    try clear hfz39_2
                    try clear hfz48_0
                    try clear hfz48_1
                    try clear hfz48_2
                    try clear hfz54_0
                    try clear hfz54_1
                    try clear hfz54_2
                    try clear hfz56_0
                    try clear hfz56_1
                    try clear hfz56_2
                    try clear hfz59_0
                    try clear hfz59_1
                    try clear hfz59_2
                    try clear hfz61_0
                    try clear hfz61_1
                    try clear hfz61_2
                    try clear hfz64_0
                    try clear hfz64_1
                    try clear hfz64_2
                    try clear hfz66_0
                    try clear hfz66_1
                    try clear hfz66_2
                    try clear hfz69_0
                    try clear hfz69_1
                    try clear hfz69_2
                    try clear hfz71_0
                    try clear hfz71_1
                    try clear hfz71_2
                    try clear hfz9_0
                    try clear hfz9_1
                    try clear hfz9_2
                    try clear hx126_0
                    try clear hx126_1
                    try clear hx126_2
                    try clear hx135_0
                    try clear hx135_1
                    try clear hx135_2
                    try clear p1
                    try clear p12
                    try clear p126
                    try clear p135
                    try clear p2
                    try clear p6
                    try clear q1
                    try clear q12
                    try clear q126
                    try clear q135
                    try clear q4
                    try clear q40
                    obtain ⟨kq, x113_43, rfl, HA, HJ43, BK122, BK127, BK136, HB⟩ := hcut
                    cases kq with
                    | zero => exact absurd HA.out (by simp [spec_cuGood.j4])
                    | succ kj43 =>
                     have H := HA.out
                     clear HA
                     simp only [spec_cuGood.j4] at H
                     by_cases c72 : x113_43 = true
                     ·subst c72
                      have H1 : (some false) = some r := by rw [if_pos rfl] at H; exact H
                      clear H
                      have H := H1
                      clear H1
                      obtain rfl := Option.some.inj H
                      go_wp2
                      go_ret
                      exact ⟨by first | rfl | (simp [errW_none, errW_some] <;> rfl) | (simp [*, errW_none, errW_some] <;> rfl), by repeat (first | (with_reducible first | exact HB.out | apply below_alloc | apply pw_below_drewN | apply below_drew1 | refine below_set ?_ GE122.out | refine below_set ?_ GE127.out | refine below_set ?_ GE136.out) | exact HB.out)⟩
                     ·replace c72 := Bool.eq_false_iff.mpr c72
                      subst c72
                      have H1 : (if x71_4 = (wrap64 (x28_2 - 1)) then ((spec_cuLess.f ((rd_T73 y131 x71_4).f0) ((rd_T73 y131 x71_4).f1) ((rd_T73 y131 x71_4).f2) ((rd_T73 l0_2 x28_2).f0) ((rd_T73 l0_2 x28_2).f1) ((rd_T73 l0_2 x28_2).f2)).bind fun t137 => (if t137 = true then (spec_cuGood.l1 kj43 (wrap64 (x3_2 + (wrap64 (((rd_T73 l0_2 x28_2).f2) * ((rd_T73 l0_2 x28_2).f2))))) x28_2 l0_2 (l0_2.length : Int) x28_2 y131 (y131.length : Int) (wrap64 (x71_4 + 1)) a0_0 a0_1 l0_2 ((rd_T73 l0_2 x28_2).f0) ((rd_T73 l0_2 x28_2).f1) ((rd_T73 l0_2 x28_2).f2)) else (some false))) else (spec_cuGood.l1 kj43 (wrap64 (x3_2 + (wrap64 (((rd_T73 l0_2 x28_2).f2) * ((rd_T73 l0_2 x28_2).f2))))) x28_2 l0_2 (l0_2.length : Int) x28_2 y131 (y131.length : Int) (wrap64 (x71_4 + 1)) a0_0 a0_1 l0_2 ((rd_T73 l0_2 x28_2).f0) ((rd_T73 l0_2 x28_2).f1) ((rd_T73 l0_2 x28_2).f2))) = some r := by rw [if_neg (show ¬ (false = true) by decide)] at H; exact H
                      clear H
                      have H := H1
                      clear H1
                      by_cases c73 : x71_4 = (wrap64 (x28_2 - 1))
                      ·rw [if_pos c73] at H
                       have c73b0 : (x71_4 == (wrap64 (x28_2 - 1))) = true := beq_iff_eq.mpr c73
                       have c73b1 : (x71_4 != (wrap64 (x28_2 - 1))) = false := bne_eq_false_iff_eq.mpr c73
                       clear c73
                       replace H := Option.bind_eq_some_iff.mp H
                       obtain ⟨t137, A740, H⟩ := H
                       replace H : (if t137 = true then (spec_cuGood.l1 kj43 (wrap64 (x3_2 + (wrap64 (((rd_T73 l0_2 x28_2).f2) * ((rd_T73 l0_2 x28_2).f2))))) x28_2 l0_2 (l0_2.length : Int) x28_2 y131 (y131.length : Int) (wrap64 (x71_4 + 1)) a0_0 a0_1 l0_2 ((rd_T73 l0_2 x28_2).f0) ((rd_T73 l0_2 x28_2).f1) ((rd_T73 l0_2 x28_2).f2)) else (some false)) = some r := H
                       have A74 := Aside0.mk A740
                       clear A740
                       by_cases c75 : t137 = true
                       ·subst c75
                        have H1 : (spec_cuGood.l1 kj43 (wrap64 (x3_2 + (wrap64 (((rd_T73 l0_2 x28_2).f2) * ((rd_T73 l0_2 x28_2).f2))))) x28_2 l0_2 (l0_2.length : Int) x28_2 y131 (y131.length : Int) (wrap64 (x71_4 + 1)) a0_0 a0_1 l0_2 ((rd_T73 l0_2 x28_2).f0) ((rd_T73 l0_2 x28_2).f1) ((rd_T73 l0_2 x28_2).f2)) = some r := by rw [if_pos rfl] at H; exact H
                        clear H
                        have H := H1
                        clear H1
                        have H' := Aside0.mk H
                        clear H
                        have hnb76 := NB136_122.out
                        have hnc76 := NB122_136.out
                        have hnb77 := NB136_127.out
                        have hnc77 := NB127_136.out
                        have hcz78_0 : wc.cell? ⟨gb136, 0, none⟩ = some (.int .i64 ((rd_T73 y131 x71_4).f0)) := (blk_cell BK136.out 0).trans rfl
                        have hcz78_1 : wc.cell? ⟨gb136, 1, none⟩ = some (.int .i64 ((rd_T73 y131 x71_4).f1)) := (blk_cell BK136.out 1).trans rfl
                        have hcz78_2 : wc.cell? ⟨gb136, 2, none⟩ = some (.int .i64 ((rd_T73 y131 x71_4).f2)) := (blk_cell BK136.out 2).trans rfl
                        have hfz78_0 := blk_frozen BK136.out 0
                        have hfz78_1 := blk_frozen BK136.out 1
                        have hfz78_2 := blk_frozen BK136.out 2
                        have hnb79 := NB127_122.out
                        have hnc79 := NB122_127.out
                        have hcz80_0 : wc.cell? ⟨gb127, 0, none⟩ = some (.int .i64 ((rd_T73 l0_2 x28_2).f0)) := (blk_cell BK127.out 0).trans rfl
                        have hcz80_1 : wc.cell? ⟨gb127, 1, none⟩ = some (.int .i64 ((rd_T73 l0_2 x28_2).f1)) := (blk_cell BK127.out 1).trans rfl
                        have hcz80_2 : wc.cell? ⟨gb127, 2, none⟩ = some (.int .i64 ((rd_T73 l0_2 x28_2).f2)) := (blk_cell BK127.out 2).trans rfl
                        have hfz80_0 := blk_frozen BK127.out 0
                        have hfz80_1 := blk_frozen BK127.out 1
                        have hfz80_2 := blk_frozen BK127.out 2
                        go_wp2_with (first | (go_at_call 97; (with_reducible refine (spec_cuLess.calls ((rd_T73 y131 x71_4).f0) ((rd_T73 y131 x71_4).f1) ((rd_T73 y131 x71_4).f2) ((rd_T73 l0_2 x28_2).f0) ((rd_T73 l0_2 x28_2).f1) ((rd_T73 l0_2 x28_2).f2) true _ A74.out).mono ?_); rintro e w81 ⟨rfl, hb⟩; have n0_ := Aside0.mk (blk_below (upK BK122) hb); have n1_ := Aside0.mk (blk_below (upK BK127) hb); have n2_ := Aside0.mk (blk_below (upK BK136) hb); have n3_ := Aside0.mk (below_step (upW HB) hb); clear BK122; clear BK127; clear BK136; clear HB; have BK122 := n0_; have BK127 := n1_; have BK136 := n2_; have HB := n3_; clear n0_ n1_ n2_ n3_; (try clear hb); (try clear hb2); (try clear hk); (try clear hi)))
                        go_roundg kj43
                        case measure => have := HJ1.out; have := HK2.out; have := HJ16.out; have := HK4.out; have := HJ43.out; omega
                        case rel => exact ⟨(wrap64 (x71_4 + 1)), (by first | rfl | (simp; done) | (simp [*]; done)), H', ⟨by have := HJ1.out; have := HK2.out; have := HJ16.out; have := HK4.out; have := HJ43.out; omega⟩, ⟨upK BK122⟩, ⟨upK BK127⟩, ⟨upW HB⟩⟩
                       ·replace c75 := Bool.eq_false_iff.mpr c75
                        subst c75
                        have H1 : (some false) = some r := by rw [if_neg (show ¬ (false = true) by decide)] at H; exact H
                        clear H
                        have H := H1
                        clear H1
                        obtain rfl := Option.some.inj H
                        have hnb82 := NB136_122.out
                        have hnc82 := NB122_136.out
                        have hnb83 := NB136_127.out
                        have hnc83 := NB127_136.out
                        have hcz84_0 : wc.cell? ⟨gb136, 0, none⟩ = some (.int .i64 ((rd_T73 y131 x71_4).f0)) := (blk_cell BK136.out 0).trans rfl
                        have hcz84_1 : wc.cell? ⟨gb136, 1, none⟩ = some (.int .i64 ((rd_T73 y131 x71_4).f1)) := (blk_cell BK136.out 1).trans rfl
                        have hcz84_2 : wc.cell? ⟨gb136, 2, none⟩ = some (.int .i64 ((rd_T73 y131 x71_4).f2)) := (blk_cell BK136.out 2).trans rfl
                        have hfz84_0 := blk_frozen BK136.out 0
                        have hfz84_1 := blk_frozen BK136.out 1
                        have hfz84_2 := blk_frozen BK136.out 2
                        have hnb85 := NB127_122.out
                        have hnc85 := NB122_127.out
                        have hcz86_0 : wc.cell? ⟨gb127, 0, none⟩ = some (.int .i64 ((rd_T73 l0_2 x28_2).f0)) := (blk_cell BK127.out 0).trans rfl
                        have hcz86_1 : wc.cell? ⟨gb127, 1, none⟩ = some (.int .i64 ((rd_T73 l0_2 x28_2).f1)) := (blk_cell BK127.out 1).trans rfl
                        have hcz86_2 : wc.cell? ⟨gb127, 2, none⟩ = some (.int .i64 ((rd_T73 l0_2 x28_2).f2)) := (blk_cell BK127.out 2).trans rfl
                        have hfz86_0 := blk_frozen BK127.out 0
                        have hfz86_1 := blk_frozen BK127.out 1
                        have hfz86_2 := blk_frozen BK127.out 2
                        go_wp2_with (first | (go_at_call 97; (with_reducible refine (spec_cuLess.calls ((rd_T73 y131 x71_4).f0) ((rd_T73 y131 x71_4).f1) ((rd_T73 y131 x71_4).f2) ((rd_T73 l0_2 x28_2).f0) ((rd_T73 l0_2 x28_2).f1) ((rd_T73 l0_2 x28_2).f2) false _ A74.out).mono ?_); rintro e w87 ⟨rfl, hb⟩; have n0_ := Aside0.mk (blk_below (upK BK122) hb); have n1_ := Aside0.mk (blk_below (upK BK127) hb); have n2_ := Aside0.mk (blk_below (upK BK136) hb); have n3_ := Aside0.mk (below_step (upW HB) hb); clear BK122; clear BK127; clear BK136; clear HB; have BK122 := n0_; have BK127 := n1_; have BK136 := n2_; have HB := n3_; clear n0_ n1_ n2_ n3_; (try clear hb); (try clear hb2); (try clear hk); (try clear hi)))
                        go_ret
                        exact ⟨by first | rfl | (simp [errW_none, errW_some] <;> rfl) | (simp [*, errW_none, errW_some] <;> rfl), by repeat (first | (with_reducible first | exact HB.out | apply below_alloc | apply pw_below_drewN | apply below_drew1 | refine below_set ?_ GE122.out | refine below_set ?_ GE127.out | refine below_set ?_ GE136.out) | exact HB.out)⟩
                      ·rw [if_neg c73] at H
                       have c73b0 : (x71_4 == (wrap64 (x28_2 - 1))) = false := beq_eq_false_iff_ne.mpr c73
                       have c73b1 : (x71_4 != (wrap64 (x28_2 - 1))) = true := bne_iff_ne.mpr c73
                       have H' := Aside0.mk H
                       clear H
                       go_wp2
                       go_roundg kj43
                       case measure => have := HJ1.out; have := HK2.out; have := HJ16.out; have := HK4.out; have := HJ43.out; omega
                       case rel => exact ⟨(wrap64 (x71_4 + 1)), (by first | rfl | (simp; done) | (simp [*]; done)), H', ⟨by have := HJ1.out; have := HK2.out; have := HJ16.out; have := HK4.out; have := HJ43.out; omega⟩, ⟨upK BK122⟩, ⟨upK BK127⟩, ⟨upW HB⟩⟩
                  ·rw [if_neg c43] at H
                   exact absurd H (by simp)
                 ·rw [if_neg c42] at H
                  exact absurd H (by simp)
                ·rw [if_neg c41] at H
                 have c41b0 : decide (x71_4 < (y131.length : Int)) = false := decide_eq_false c41
                 clear c41
                 have H' := Aside0.mk H
                 clear H
                 go_wp2
                 go_roundg k4
                 case measure => have := HJ1.out; have := HK2.out; have := HJ16.out; have := HK4.out; omega
                 case rel => exact ⟨((wrap64 (x3_2 + (wrap64 (((rd_T73 l0_2 x28_2).f2) * ((rd_T73 l0_2 x28_2).f2)))))), (wrap64 (x28_2 + 1)), (by first | rfl | (simp; done) | (simp [*]; done)), (by first | rfl | (simp; done) | (simp [*]; done)), H', ⟨by have := HJ1.out; have := HK2.out; have := HJ16.out; have := HK4.out; omega⟩, ⟨upK BK122⟩, ⟨upW HB⟩⟩
             ·rw [if_neg c36] at H
              exact absurd H (by simp)
            ·rw [if_neg c35] at H
             exact absurd H (by simp)
        ·rw [if_neg c16] at H
         exact absurd H (by simp)
       ·rw [if_neg c15] at H
        exact absurd H (by simp)
      ·rw [if_neg c14] at H
       have c14b0 : decide (x28_2 < (l0_2.length : Int)) = false := decide_eq_false c14
       clear c14
       obtain rfl := Option.some.inj H
       have hcz88_0 : wr.cell? ⟨gb122, 0, none⟩ = some (.int .i64 a0_0) := (blk_cell BK122.out 0).trans rfl
       have hcz88_1 : wr.cell? ⟨gb122, 1, none⟩ = some (.int .i64 a0_1) := (blk_cell BK122.out 1).trans rfl
       have hcz88_2 : wr.cell? ⟨gb122, 2, none⟩ = some (.slice A0_2 l0_2.length c0_2) := (blk_cell BK122.out 2).trans rfl
       have hfz88_0 := blk_frozen BK122.out 0
       have hfz88_1 := blk_frozen BK122.out 1
       have hfz88_2 := blk_frozen BK122.out 2
       go_wp2
       go_ret
       exact ⟨by first | rfl | (simp [errW_none, errW_some] <;> rfl) | (simp [*, errW_none, errW_some] <;> rfl), by repeat (first | (with_reducible first | exact HB.out | apply below_alloc | apply pw_below_drewN | apply below_drew1 | refine below_set ?_ GE122.out) | exact HB.out)⟩

end Go.Proofs.Ythnjbpabiamkjaa.PFnExactCutOf
