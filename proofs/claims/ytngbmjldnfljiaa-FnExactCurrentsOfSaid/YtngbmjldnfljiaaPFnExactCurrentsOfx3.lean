-- made for this claim by a program of this session
import Derived.Test.YtngbmjldnfljiaaPFnExactCurrentsOfx0
import Derived.Test.YtngbmjldnfljiaaPFnExactCurrentsOfx2
namespace Go.Proofs.Ytngbmjldnfljiaa.PFnExactCurrentsOf
open Go.RowKit Go.Proofs.YtngbmjldnfljiaaW.PrintWords Go.Proofs.YtngbmjldnfljiaaW.PrintLast Go.Proofs.YtngbmjldnfljiaaW.PrintMore
attribute [local go_sem] max2_int min2_int max_two min_two max_three min_three max_four min_four   -- for this text's walks alone
set_option linter.unusedVariables false
set_option linter.unusedSimpArgs false

/-! ### spec_neGood: function 53 -/
mutual
def spec_neGood.j0 : Nat → Bool → Int → List (S73) → Option (Bool)
 | 0, _, _, _ => none
 | k + 1, x15, x153000, x153001 => if x15 = true then (some false) else (spec_neGood.l0 k x153001 (x153001.length : Int) 0 x153000 x153001)
def spec_neGood.l0 : Nat → List (S73) → Int → Int → Int → List (S73) → Option (Bool)
 | 0, _, _, _, _, _ => none
 | k + 1, x17, x18, x19, x153000, x153001 => if x19 < x18 then (if 0 ≤ x19 then (if x19 < (x17.length : Int) then ((spec_neWire.f x153000 x153001 ((rd_T73 x17 x19).f0) ((rd_T73 x17 x19).f1)).bind fun t157 => (if t157 = true then (spec_neGood.l0 k x17 x18 (wrap64 (x19 + 1)) x153000 x153001) else (some false))) else (none)) else (none)) else ((spec_neJoined.f k x153000 x153001).bind fun t158 => (some t158))
end
def spec_neGood.f (k : Nat) (a0_0 : Int) (l0_1 : List (S73)) : Option (Bool) := (spec_l1In.f a0_0 2 12).bind fun t153 => (if t153 = true then ((spec_l1In.f (l0_1.length : Int) 1 30).bind fun t154 => (spec_neGood.j0 k (!t154) a0_0 l0_1)) else (spec_neGood.j0 k true a0_0 l0_1))
set_option maxHeartbeats 8000000 in
set_option maxRecDepth 100000 in
theorem spec_neGood.calls (k : Nat) (a0_0 : Int) (A0_1 : Option Addr) (c0_1 : Nat) (l0_1 : List (S73)) (r : Bool) (w : World) (hr0_1 : Kd.C k73 w A0_1 l0_1.length l0_1) (hc0_1 : l0_1.length ≤ c0_1) (h : spec_neGood.f k a0_0 l0_1 = some r) :
  Calls Try.prog 53 #[.agg #[.int .i64 a0_0, .slice A0_1 l0_1.length c0_1]] w fun e w' => e = .returned (.bool r) ∧ Below w.heap.size w w' := by
 have hu30 := Try.underlying30
 have hu73 := Try.underlying73
 have HR0_1 := Aside0.mk hr0_1
 have HC0_1 := Aside0.mk hc0_1
 clear hr0_1 hc0_1
 have HB := Aside0.mk (Below.refl w.heap.size w)
 have H : ((spec_l1In.f a0_0 2 12).bind fun t153 => (if t153 = true then ((spec_l1In.f (l0_1.length : Int) 1 30).bind fun t154 => (spec_neGood.j0 k (!t154) a0_0 l0_1)) else (spec_neGood.j0 k true a0_0 l0_1))) = some r := h
 clear h
 have HC2 := Aside0.mk H
 clear H
 go_enter Try.func53, Try.ntmps53
 go_upto_region 1 with (first | ((with_reducible refine gate_dst (N := 1) rfl ?_); (try (refine gate_guard (by rfl) ?_; dsimp only)); refine box_event ?hg (N := 1) ?hd (cs := #[.int .i64 a0_0, .slice A0_1 l0_1.length c0_1]) (t := 30) ?hr ?_; (case hd => rfl); (case hg => rfl); (case hr => first | (go_simp; done) | (go_simp; rfl)); intro gb152 hg w3 hbox hb; have n0_ := Aside0.mk (below_step (upW HB) hb); have n1_ := Aside0.mk (hbox); have n2_ := Aside0.mk ((by rw [hg]; exact (below_size (upW HB)) : w.heap.size ≤ gb152)); have n3_ := Aside0.mk ((by rw [hg]; exact (below_size (upW HB)) : w.heap.size ≤ gb152)); clear HB; have HB := n0_; have BK152 := n1_; have GW152 := n2_; have GE152 := n3_; clear n0_ n1_ n2_ n3_; clear hb hbox hg))
 (try simp only [Act.put, List.setIfInBounds_toArray, List.set_cons_zero, List.set_cons_succ])
 go_cut [15] (fun v15 wc => ∃ (kq : Nat) (x15_1 : Bool), v15 = .bool x15_1 ∧ Aside0 (spec_neGood.j0 kq x15_1 a0_0 l0_1 = some r) ∧ Aside0 (kq ≤ k) ∧ Aside0 (wc.heap[gb152]? = some (.cells #[.int .i64 a0_0, (.slice A0_1 l0_1.length c0_1)] 30 (0, 0))) ∧ Aside0 (Below w.heap.size w wc))
 case first =>
  have H := HC2.out
  clear HC2
  replace H := Option.bind_eq_some_iff.mp H
  obtain ⟨t153, A40, H⟩ := H
  replace H : (if t153 = true then ((spec_l1In.f (l0_1.length : Int) 1 30).bind fun t154 => (spec_neGood.j0 k (!t154) a0_0 l0_1)) else (spec_neGood.j0 k true a0_0 l0_1)) = some r := H
  have A4 := Aside0.mk A40
  clear A40
  by_cases c5 : t153 = true
  ·subst c5
   have H1 : ((spec_l1In.f (l0_1.length : Int) 1 30).bind fun t154 => (spec_neGood.j0 k (!t154) a0_0 l0_1)) = some r := by rw [if_pos rfl] at H; exact H
   clear H
   have H := H1
   clear H1
   replace H := Option.bind_eq_some_iff.mp H
   obtain ⟨t154, A60, H⟩ := H
   replace H : (spec_neGood.j0 k (!t154) a0_0 l0_1) = some r := H
   have A6 := Aside0.mk A60
   clear A60
   have H' := Aside0.mk H
   clear H
   have hcz7_0 : w3.cell? ⟨gb152, 0, none⟩ = some (.int .i64 a0_0) := (blk_cell BK152.out 0).trans rfl
   have hcz7_1 : w3.cell? ⟨gb152, 1, none⟩ = some (.slice A0_1 l0_1.length c0_1) := (blk_cell BK152.out 1).trans rfl
   have hfz7_0 := blk_frozen BK152.out 0
   have hfz7_1 := blk_frozen BK152.out 1
   go_wp2_with (first | ((with_reducible refine gate_callee (f := 78) rfl ?_); refine goesL_ (some 7) rfl rfl Try.func78 (by kernel_rfl) rfl #[.int .i64 a0_0, .int .i64 2, .int .i64 12] rfl itp ?_; (with_reducible refine (spec_l1In.calls a0_0 2 12 true _ A4.out).mono ?_); rintro e w' ⟨rfl, ⟨nd, rfl⟩⟩; refine ⟨_, rfl, ?_⟩) | (go_at_call 78; (with_reducible refine (spec_l1In.calls (l0_1.length : Int) 1 30 t154 _ A6.out).mono ?_); rintro e w' ⟨rfl, ⟨nd, rfl⟩⟩))
   go_meet
   case rel => exact ⟨_, (!t154), (by first | rfl | (simp; done) | (simp [*]; done)), H', ⟨by first | omega | exact Nat.le_refl _⟩, ⟨upK BK152⟩, ⟨upW HB⟩⟩
  ·replace c5 := Bool.eq_false_iff.mpr c5
   subst c5
   have H1 : (spec_neGood.j0 k true a0_0 l0_1) = some r := by rw [if_neg (show ¬ (false = true) by decide)] at H; exact H
   clear H
   have H := H1
   clear H1
   have H' := Aside0.mk H
   clear H
   have hcz8_0 : w3.cell? ⟨gb152, 0, none⟩ = some (.int .i64 a0_0) := (blk_cell BK152.out 0).trans rfl
   have hcz8_1 : w3.cell? ⟨gb152, 1, none⟩ = some (.slice A0_1 l0_1.length c0_1) := (blk_cell BK152.out 1).trans rfl
   have hfz8_0 := blk_frozen BK152.out 0
   have hfz8_1 := blk_frozen BK152.out 1
   go_wp2_with (first | ((with_reducible refine gate_callee (f := 78) rfl ?_); refine goesL_ (some 7) rfl rfl Try.func78 (by kernel_rfl) rfl #[.int .i64 a0_0, .int .i64 2, .int .i64 12] rfl itp ?_; (with_reducible refine (spec_l1In.calls a0_0 2 12 false _ A4.out).mono ?_); rintro e w' ⟨rfl, ⟨nd, rfl⟩⟩; refine ⟨_, rfl, ?_⟩))
   go_meet
   case rel => exact ⟨_, (true), (by first | rfl | (simp; done) | (simp [*]; done)), H', ⟨by first | omega | exact Nat.le_refl _⟩, ⟨upK BK152⟩, ⟨upW HB⟩⟩
 case rest =>
  clear HC2
  try clear p2
  try clear c5
  try clear c7
  try clear hcz7_0
  try clear hcz7_1
  try clear hcz8_0
  try clear hcz8_1
  try clear hfz7_0
  try clear hfz7_1
  try clear hfz8_0
  try clear hfz8_1
  obtain ⟨kq, x15_1, rfl, HA, HJ1, BK152, HB⟩ := hcut
  cases kq with
  | zero => exact absurd HA.out (by simp [spec_neGood.j0])
  | succ kj1 =>
   have H := HA.out
   clear HA
   simp only [spec_neGood.j0] at H
   by_cases c9 : x15_1 = true
   ·subst c9
    have H1 : (some false) = some r := by rw [if_pos rfl] at H; exact H
    clear H
    have H := H1
    clear H1
    obtain rfl := Option.some.inj H
    go_wp2
    go_ret
    exact ⟨by first | rfl | (simp [errW_none, errW_some] <;> rfl) | (simp [*, errW_none, errW_some] <;> rfl), by repeat (first | (with_reducible first | exact HB.out | apply below_alloc | apply pw_below_drewN | apply below_drew1 | refine below_set ?_ GE152.out) | exact HB.out)⟩
   ·replace c9 := Bool.eq_false_iff.mpr c9
    subst c9
    have H1 : (spec_neGood.l0 kj1 l0_1 (l0_1.length : Int) 0 a0_0 l0_1) = some r := by rw [if_neg (show ¬ (false = true) by decide)] at H; exact H
    clear H
    have H := H1
    clear H1
    have H' := Aside0.mk H
    clear H
    have hcz10_0 : wc.cell? ⟨gb152, 0, none⟩ = some (.int .i64 a0_0) := (blk_cell BK152.out 0).trans rfl
    have hcz10_1 : wc.cell? ⟨gb152, 1, none⟩ = some (.slice A0_1 l0_1.length c0_1) := (blk_cell BK152.out 1).trans rfl
    have hfz10_0 := blk_frozen BK152.out 0
    have hfz10_1 := blk_frozen BK152.out 1
    go_wp2
    go_loopg [19] kj1 (fun kq v19 w' => ∃ (x19_2 : Int), v19 = .int .i64 x19_2 ∧ Aside0 (spec_neGood.l0 kq l0_1 (l0_1.length : Int) x19_2 a0_0 l0_1 = some r) ∧ Aside0 (kq ≤ kj1) ∧ Aside0 (w'.heap[gb152]? = some (.cells #[.int .i64 a0_0, (.slice A0_1 l0_1.length c0_1)] 30 (0, 0))) ∧ Aside0 (Below w.heap.size w w'))
    case atStart => exact ⟨(0), (by first | rfl | (simp; done) | (simp [*]; done)), H', ⟨Nat.le_refl _⟩, ⟨upK BK152⟩, ⟨upW HB⟩⟩
    case round =>
     clear H'
     try clear p2
     try clear c5
     try clear c7
     try clear c9
     try clear hcz10_0
     try clear hcz10_1
     try clear hcz7_0
     try clear hcz7_1
     try clear hcz8_0
     try clear hcz8_1
     try clear hfz10_0
     try clear hfz10_1
     try clear hfz7_0
     try clear hfz7_1
     try clear hfz8_0
     try clear hfz8_1
     try clear p2
     obtain ⟨x19_2, rfl, HA, HK2, BK152, HB⟩ := hrel
     cases gk with
     | zero => exact absurd HA.out (by simp [spec_neGood.l0])
     | succ k2 =>
      have H := HA.out
      clear HA
      simp only [spec_neGood.l0] at H
      by_cases c11 : x19_2 < (l0_1.length : Int)
      ·rw [if_pos c11] at H
       have c11b0 : decide (x19_2 < (l0_1.length : Int)) = true := decide_eq_true c11
       clear c11
       by_cases c12 : 0 ≤ x19_2
       ·rw [if_pos c12] at H
        have c12b0 : decide (0 ≤ x19_2) = true := decide_eq_true c12
        clear c12
        by_cases c13 : x19_2 < (l0_1.length : Int)
        ·rw [if_pos c13] at H
         have c13b0 : decide (x19_2 < (l0_1.length : Int)) = true := decide_eq_true c13
         clear c13
         replace H := Option.bind_eq_some_iff.mp H
         obtain ⟨t157, A140, H⟩ := H
         replace H : (if t157 = true then (spec_neGood.l0 k2 l0_1 (l0_1.length : Int) (wrap64 (x19_2 + 1)) a0_0 l0_1) else (some false)) = some r := H
         have A14 := Aside0.mk A140
         clear A140
         by_cases c15 : t157 = true
         ·subst c15
          have H1 : (spec_neGood.l0 k2 l0_1 (l0_1.length : Int) (wrap64 (x19_2 + 1)) a0_0 l0_1) = some r := by rw [if_pos rfl] at H; exact H
          clear H
          have H := H1
          clear H1
          have H' := Aside0.mk H
          clear H
          have p155 : 0 ≤ (x19_2 : Int) := of_decide_eq_true (by first | (with_reducible assumption) | assumption)
          have q155 : x19_2 < (l0_1.length : Int) := of_decide_eq_true (by first | (with_reducible assumption) | assumption)
          obtain ⟨ad155, e155, hx155_0, hx155_1⟩ := at_T73 HR0_1.out x19_2 p155 q155
          cases e155
          replace hx155_0 := (HB.out.cell (World.block_lt_of_cell? w _ hx155_0)).trans hx155_0
          replace hx155_1 := (HB.out.cell (World.block_lt_of_cell? w _ hx155_1)).trans hx155_1
          replace p155 := eq_true p155
          replace q155 := eq_true q155
          go_wp2_with (first | ((with_reducible refine gate_dst (N := 4) rfl ?_); (try (refine gate_guard (by rfl) ?_; dsimp only)); refine box_event ?hg (N := 4) ?hd (cs := #[.int .i64 0, .int .i64 0]) (t := 73) ?hr ?_; (case hd => rfl); (case hg => rfl); (case hr => first | (go_simp; done) | (go_simp; rfl)); intro gb156 hg w16 hbox hb; have n0_ := Aside0.mk (blk_below (upK BK152) hb); have n1_ := Aside0.mk (below_step (upW HB) hb); have n2_ := Aside0.mk (hbox); have n3_ := Aside0.mk ((by rw [hg]; exact (below_size (upW HB)) : w.heap.size ≤ gb156)); have n4_ := Aside0.mk ((by rw [hg]; exact (below_size (upW HB)) : w.heap.size ≤ gb156)); have n5_ := Aside0.mk ((by rw [hg]; exact Nat.ne_of_lt (blk_lt (upK BK152)) : gb152 ≠ gb156)); have n6_ := Aside0.mk ((by rw [hg]; exact Nat.ne_of_gt (blk_lt (upK BK152)) : gb156 ≠ gb152)); clear BK152; clear HB; have BK152 := n0_; have HB := n1_; have BK156 := n2_; have GW156 := n3_; have GE156 := n4_; have NB152_156 := n5_; have NB156_152 := n6_; clear n0_ n1_ n2_ n3_ n4_ n5_ n6_; clear hb hbox hg; have hnb17 := NB156_152.out; have hnc17 := NB152_156.out; have hcz18_0 : w16.cell? ⟨gb156, 0, none⟩ = some (.int .i64 0) := (blk_cell BK156.out 0).trans rfl; have hcz18_1 : w16.cell? ⟨gb156, 1, none⟩ = some (.int .i64 0) := (blk_cell BK156.out 1).trans rfl; have hfz18_0 := blk_frozen BK156.out 0; have hfz18_1 := blk_frozen BK156.out 1; have hcz19_0 : w16.cell? ⟨gb152, 0, none⟩ = some (.int .i64 a0_0) := (blk_cell BK152.out 0).trans rfl; have hcz19_1 : w16.cell? ⟨gb152, 1, none⟩ = some (.slice (some ad155) l0_1.length c0_1) := (blk_cell BK152.out 1).trans rfl; have hfz19_0 := blk_frozen BK152.out 0; have hfz19_1 := blk_frozen BK152.out 1) | ((with_reducible refine gate_callee (f := 87) rfl ?_); refine goesL_ (some 25) rfl rfl Try.func87 (by kernel_rfl) rfl #[.agg #[.int .i64 a0_0, .slice (some ad155) l0_1.length c0_1], .agg #[.int .i64 ((rd_T73 l0_1 x19_2).f0), .int .i64 ((rd_T73 l0_1 x19_2).f1)]] rfl itp ?_; (with_reducible refine (spec_neWire.calls a0_0 _ _ l0_1 ((rd_T73 l0_1 x19_2).f0) ((rd_T73 l0_1 x19_2).f1) true _ ?side1 ?side2 A14.out).mono ?_); (case side1 => exact Kd.C_below HR0_1.out (upW HB)); (case side2 => exact HC0_1.out); rintro e w20 ⟨rfl, hb⟩; refine ⟨_, rfl, ?_⟩; have n0_ := Aside0.mk (blk_below (upF BK152) hb); have n1_ := Aside0.mk (blk_below (g := gb156) (o := .cells #[.int .i64 ((rd_T73 l0_1 x19_2).f0), .int .i64 ((rd_T73 l0_1 x19_2).f1)] 73 (0, 0)) (by (with_reducible repeat (first | refine blk_drewN ?_ _ | refine blk_drew ?_ | refine blk_alloc ?_ _)); refine blk_put (cs := #[.int .i64 ((rd_T73 l0_1 x19_2).f0), .int .i64 0]) ?_ 1 _ rfl; (with_reducible repeat (first | refine blk_drewN ?_ _ | refine blk_drew ?_ | refine blk_alloc ?_ _)); refine blk_put (cs := #[.int .i64 0, .int .i64 0]) ?_ 0 _ rfl; (with_reducible repeat (first | refine blk_drewN ?_ _ | refine blk_drew ?_ | refine blk_alloc ?_ _)); exact BK156.out) hb); have n2_ := Aside0.mk (below_step (upW HB) hb); clear BK152; clear BK156; clear HB; have BK152 := n0_; have BK156 := n1_; have HB := n2_; clear n0_ n1_ n2_; (try clear hb); (try clear hb2); (try clear hk); (try clear hi)))
          go_roundg k2
          case measure => have := HJ1.out; have := HK2.out; omega
          case rel => exact ⟨(wrap64 (x19_2 + 1)), (by first | rfl | (simp; done) | (simp [*]; done)), H', ⟨by have := HJ1.out; have := HK2.out; omega⟩, ⟨upK BK152⟩, ⟨upW HB⟩⟩
         ·replace c15 := Bool.eq_false_iff.mpr c15
          subst c15
          have H1 : (some false) = some r := by rw [if_neg (show ¬ (false = true) by decide)] at H; exact H
          clear H
          have H := H1
          clear H1
          obtain rfl := Option.some.inj H
          have p155 : 0 ≤ (x19_2 : Int) := of_decide_eq_true (by first | (with_reducible assumption) | assumption)
          have q155 : x19_2 < (l0_1.length : Int) := of_decide_eq_true (by first | (with_reducible assumption) | assumption)
          obtain ⟨ad155, e155, hx155_0, hx155_1⟩ := at_T73 HR0_1.out x19_2 p155 q155
          cases e155
          replace hx155_0 := (HB.out.cell (World.block_lt_of_cell? w _ hx155_0)).trans hx155_0
          replace hx155_1 := (HB.out.cell (World.block_lt_of_cell? w _ hx155_1)).trans hx155_1
          replace p155 := eq_true p155
          replace q155 := eq_true q155
          go_wp2_with (first | ((with_reducible refine gate_dst (N := 4) rfl ?_); (try (refine gate_guard (by rfl) ?_; dsimp only)); refine box_event ?hg (N := 4) ?hd (cs := #[.int .i64 0, .int .i64 0]) (t := 73) ?hr ?_; (case hd => rfl); (case hg => rfl); (case hr => first | (go_simp; done) | (go_simp; rfl)); intro gb156 hg w21 hbox hb; have n0_ := Aside0.mk (blk_below (upK BK152) hb); have n1_ := Aside0.mk (below_step (upW HB) hb); have n2_ := Aside0.mk (hbox); have n3_ := Aside0.mk ((by rw [hg]; exact (below_size (upW HB)) : w.heap.size ≤ gb156)); have n4_ := Aside0.mk ((by rw [hg]; exact (below_size (upW HB)) : w.heap.size ≤ gb156)); have n5_ := Aside0.mk ((by rw [hg]; exact Nat.ne_of_lt (blk_lt (upK BK152)) : gb152 ≠ gb156)); have n6_ := Aside0.mk ((by rw [hg]; exact Nat.ne_of_gt (blk_lt (upK BK152)) : gb156 ≠ gb152)); clear BK152; clear HB; have BK152 := n0_; have HB := n1_; have BK156 := n2_; have GW156 := n3_; have GE156 := n4_; have NB152_156 := n5_; have NB156_152 := n6_; clear n0_ n1_ n2_ n3_ n4_ n5_ n6_; clear hb hbox hg; have hnb22 := NB156_152.out; have hnc22 := NB152_156.out; have hcz23_0 : w21.cell? ⟨gb156, 0, none⟩ = some (.int .i64 0) := (blk_cell BK156.out 0).trans rfl; have hcz23_1 : w21.cell? ⟨gb156, 1, none⟩ = some (.int .i64 0) := (blk_cell BK156.out 1).trans rfl; have hfz23_0 := blk_frozen BK156.out 0; have hfz23_1 := blk_frozen BK156.out 1; have hcz24_0 : w21.cell? ⟨gb152, 0, none⟩ = some (.int .i64 a0_0) := (blk_cell BK152.out 0).trans rfl; have hcz24_1 : w21.cell? ⟨gb152, 1, none⟩ = some (.slice (some ad155) l0_1.length c0_1) := (blk_cell BK152.out 1).trans rfl; have hfz24_0 := blk_frozen BK152.out 0; have hfz24_1 := blk_frozen BK152.out 1) | ((with_reducible refine gate_callee (f := 87) rfl ?_); refine goesL_ (some 25) rfl rfl Try.func87 (by kernel_rfl) rfl #[.agg #[.int .i64 a0_0, .slice (some ad155) l0_1.length c0_1], .agg #[.int .i64 ((rd_T73 l0_1 x19_2).f0), .int .i64 ((rd_T73 l0_1 x19_2).f1)]] rfl itp ?_; (with_reducible refine (spec_neWire.calls a0_0 _ _ l0_1 ((rd_T73 l0_1 x19_2).f0) ((rd_T73 l0_1 x19_2).f1) false _ ?side1 ?side2 A14.out).mono ?_); (case side1 => exact Kd.C_below HR0_1.out (upW HB)); (case side2 => exact HC0_1.out); rintro e w25 ⟨rfl, hb⟩; refine ⟨_, rfl, ?_⟩; have n0_ := Aside0.mk (blk_below (upF BK152) hb); have n1_ := Aside0.mk (blk_below (g := gb156) (o := .cells #[.int .i64 ((rd_T73 l0_1 x19_2).f0), .int .i64 ((rd_T73 l0_1 x19_2).f1)] 73 (0, 0)) (by (with_reducible repeat (first | refine blk_drewN ?_ _ | refine blk_drew ?_ | refine blk_alloc ?_ _)); refine blk_put (cs := #[.int .i64 ((rd_T73 l0_1 x19_2).f0), .int .i64 0]) ?_ 1 _ rfl; (with_reducible repeat (first | refine blk_drewN ?_ _ | refine blk_drew ?_ | refine blk_alloc ?_ _)); refine blk_put (cs := #[.int .i64 0, .int .i64 0]) ?_ 0 _ rfl; (with_reducible repeat (first | refine blk_drewN ?_ _ | refine blk_drew ?_ | refine blk_alloc ?_ _)); exact BK156.out) hb); have n2_ := Aside0.mk (below_step (upW HB) hb); clear BK152; clear BK156; clear HB; have BK152 := n0_; have BK156 := n1_; have HB := n2_; clear n0_ n1_ n2_; (try clear hb); (try clear hb2); (try clear hk); (try clear hi)))
          go_ret
          exact ⟨by first | rfl | (simp [errW_none, errW_some] <;> rfl) | (simp [*, errW_none, errW_some] <;> rfl), by repeat (first | (with_reducible first | exact HB.out | apply below_alloc | apply pw_below_drewN | apply below_drew1 | refine below_set ?_ GE152.out | refine below_set ?_ GE156.out) | exact HB.out)⟩
        ·rw [if_neg c13] at H
         exact absurd H (by simp)
       ·rw [if_neg c12] at H
        exact absurd H (by simp)
      ·rw [if_neg c11] at H
       have c11b0 : decide (x19_2 < (l0_1.length : Int)) = false := decide_eq_false c11
       clear c11
       replace H := Option.bind_eq_some_iff.mp H
       obtain ⟨t158, A260, H⟩ := H
       replace H : (some t158) = some r := H
       have A26 := Aside0.mk A260
       clear A260
       obtain rfl := Option.some.inj H
       have hcz27_0 : wr.cell? ⟨gb152, 0, none⟩ = some (.int .i64 a0_0) := (blk_cell BK152.out 0).trans rfl
       have hcz27_1 : wr.cell? ⟨gb152, 1, none⟩ = some (.slice A0_1 l0_1.length c0_1) := (blk_cell BK152.out 1).trans rfl
       have hfz27_0 := blk_frozen BK152.out 0
       have hfz27_1 := blk_frozen BK152.out 1
       go_wp2_with (first | ((with_reducible refine gate_callee (f := 88) rfl ?_); refine goesL_ (some 29) rfl rfl Try.func88 (by kernel_rfl) rfl #[.agg #[.int .i64 a0_0, .slice A0_1 l0_1.length c0_1]] rfl itp ?_; (with_reducible refine (spec_neJoined.calls k2 a0_0 _ _ l0_1 t158 _ ?side1 ?side2 A26.out).mono ?_); (case side1 => repeat (first | exact (Kd.C_below HR0_1.out HB.out) | (with_reducible refine Kd.C_alloc ?_ _) | (with_reducible refine Kd.C_drewN ?_ _) | (with_reducible refine Kd.C_drew ?_))); (case side2 => exact HC0_1.out); rintro e w28 ⟨rfl, hb⟩; refine ⟨_, rfl, ?_⟩; have n0_ := Aside0.mk (blk_below (upK BK152) hb); have n1_ := Aside0.mk (below_step (upW HB) hb); clear BK152; clear HB; have BK152 := n0_; have HB := n1_; clear n0_ n1_; (try clear hb); (try clear hb2); (try clear hk); (try clear hi)))
       go_ret
       exact ⟨by first | rfl | (simp [errW_none, errW_some] <;> rfl) | (simp [*, errW_none, errW_some] <;> rfl), by repeat (first | (with_reducible first | exact HB.out | apply below_alloc | apply pw_below_drewN | apply below_drew1 | refine below_set ?_ GE152.out) | exact HB.out)⟩

/-! ### a square table, laid open by its blocks: what eliminates in it, and its determinant by exact divisions -/
theorem dwrap {n : Int} (h0 : -9223372036854775808 ≤ n) (h1 : n ≤ 9223372036854775807) : wrap64 n = n := by unfold wrap64; omega
def dAt (M : List (List Int)) (i j : Nat) : Int := (M.getD i []).getD j 0
def dPut (M : List (List Int)) (i j : Nat) (x : Int) : List (List Int) := M.set i ((M.getD i []).set j x)
def dSwap (M : List (List Int)) (i k : Nat) : List (List Int) := (M.set i (M.getD k [])).set k (M.getD i [])
def dFind (M : List (List Int)) (k : Nat) : Nat → Nat → Nat
 | 0, i => i
 | m + 1, i => if dAt M i k = 0 then dFind M k m (i + 1) else i
def dCell (M : List (List Int)) (k : Nat) (b : Int) (i j : Nat) : Int := wrap64 (Int.tdiv (wrap64 (wrap64 (dAt M i j * dAt M k k) - wrap64 (dAt M i k * dAt M k j))) b)
def dCol (k : Nat) (b : Int) (i : Nat) : Nat → Nat → List (List Int) → List (List Int)
 | 0, _, M => M
 | m + 1, j, M => dCol k b i m (j + 1) (dPut M i j (dCell M k b i j))
def dRow (n k : Nat) (b : Int) : Nat → Nat → List (List Int) → List (List Int)
 | 0, _, M => M
 | m + 1, i, M => dRow n k b m (i + 1) (dCol k b i (n - (k + 1)) (k + 1) M)
def dRun (n : Nat) : Nat → Nat → List (List Int) → Int → Int → Int
 | 0, _, _, b, s => wrap64 (s * b)
 | m + 1, k, M, b, s =>
  if dFind M k (n - k) k = n then 0 else
   dRun n m (k + 1) (dRow n k b (n - (k + 1)) (k + 1) (if dFind M k (n - k) k = k then M else dSwap M (dFind M k (n - k) k) k))
    (dAt (dRow n k b (n - (k + 1)) (k + 1) (if dFind M k (n - k) k = k then M else dSwap M (dFind M k (n - k) k) k)) k k)
    (if dFind M k (n - k) k = k then s else wrap64 (-s))
def detF (M : List (List Int)) : Option Int := if M ≠ [] ∧ ∀ r ∈ M, r.length = M.length then some (dRun M.length M.length 0 M 1 1) else none
/-- A table of n rows of n numbers: its rows' slices at block g, each row in a block of its own. -/
def DTab (w : World) (P : Nat → Prop) (g n : Nat) (rs cs : Nat → Nat) (M : List (List Int)) : Prop :=
 (M.length = n ∧ ∀ i, i < n → (M.getD i []).length = n) ∧
 (P g ∧ ∃ cur : Array Value, w.heap[g]? = some (.cells cur 36 (0, 0)) ∧ ∀ i, i < n → cur[i]? = some (.slice (some ⟨rs i, 0, none⟩) n (cs i))) ∧
 (∀ i, i < n → P (rs i) ∧ n ≤ cs i ∧ ∃ cur : Array Value, w.heap[rs i]? = some (.cells cur 3 (0, 0)) ∧ ∀ j, j < n → cur[j]? = some (.int .i64 (dAt M i j))) ∧
 (∀ i j, i < n → j < n → rs i = rs j → i = j)
theorem DTab.outer {w : World} {P : Nat → Prop} {g n : Nat} {rs cs : Nat → Nat} {M : List (List Int)} (h : DTab w P g n rs cs M) {i : Nat} (hi : i < n) : w.cell? ⟨g, i, none⟩ = some (.slice (some ⟨rs i, 0, none⟩) n (cs i)) ∧ w.frozen? ⟨g, i, none⟩ = false := by
 obtain ⟨_, ⟨_, cur, hc, hv⟩, _⟩ := h
 exact ⟨(blk_cell hc i).trans (hv i hi), blk_frozen hc i⟩
theorem DTab.cell {w : World} {P : Nat → Prop} {g n : Nat} {rs cs : Nat → Nat} {M : List (List Int)} (h : DTab w P g n rs cs M) {i j : Nat} (hi : i < n) (hj : j < n) : w.cell? ⟨rs i, j, none⟩ = some (.int .i64 (dAt M i j)) ∧ w.frozen? ⟨rs i, j, none⟩ = false := by
 obtain ⟨_, _, h, _⟩ := h
 obtain ⟨_, _, cur, hc, hv⟩ := h i hi
 exact ⟨(blk_cell hc j).trans (hv j hj), blk_frozen hc j⟩
theorem dPut_length (M : List (List Int)) (i j : Nat) (x : Int) : (dPut M i j x).length = M.length := by simp [dPut]
theorem dPut_row (M : List (List Int)) (i j : Nat) (x : Int) (q : Nat) : ((dPut M i j x).getD q []).length = (M.getD q []).length := by
 unfold dPut
 simp only [List.getD_eq_getElem?_getD, List.getElem?_set]
 by_cases hq : i = q
 ·subst hq
  by_cases hl : i < M.length
  ·simp [hl]
  ·simp [hl]
 ·simp [hq]
theorem dAt_dPut {M : List (List Int)} {i j : Nat} (hi : i < M.length) (hj : j < (M.getD i []).length) (x : Int) (p q : Nat) : dAt (dPut M i j x) p q = if p = i ∧ q = j then x else dAt M p q := by
 unfold dAt dPut
 simp only [List.getD_eq_getElem?_getD, List.getElem?_set] at hj ⊢
 by_cases hp : i = p
 ·subst hp
  rw [List.getElem?_eq_getElem hi] at hj ⊢
  by_cases hq : j = q
  ·subst hq
   simp only [Option.getD_some] at hj
   simp [hi, hj]
  ·have hq' : q ≠ j := fun e => hq e.symm
   simp [hi, hq, hq']
 ·have hp' : p ≠ i := fun e => hp e.symm
  simp [hp, hp']
theorem DTab.put {w : World} {P : Nat → Prop} {g n : Nat} {rs cs : Nat → Nat} {M : List (List Int)} (h : DTab w P g n rs cs M) {i j : Nat} (hi : i < n) (hj : j < n) (x : Int) : DTab (w.setCell ⟨rs i, j, none⟩ (.int .i64 x)) P g n rs cs (dPut M i j x) := by
 obtain ⟨⟨hl, hr⟩, ⟨hP, cur, hc, hv⟩, hrow, hinj⟩ := h
 have hAt := fun p q => dAt_dPut (M := M) (i := i) (j := j) (by omega) (by rw [hr i hi]; exact hj) x p q
 refine ⟨⟨by rw [dPut_length]; exact hl, fun q hq => by rw [dPut_row]; exact hr q hq⟩, ⟨hP, cur, ?_, hv⟩, fun q hq => ?_, hinj⟩
 ·obtain ⟨_, _, cur2, hc2, _⟩ := hrow i hi
  refine blk_far hc (fun e => ?_) _
  have e2 : g = rs i := e
  rw [← e2, hc] at hc2
  injection hc2 with hc2
  injection hc2 with _ hc2
  revert hc2
  decide
 ·obtain ⟨hP2, hcap, cur2, hc2, hv2⟩ := hrow q hq
  refine ⟨hP2, hcap, ?_⟩
  by_cases hqi : q = i
  ·subst hqi
   refine ⟨_, blk_set hc2 j _, fun p hp => ?_⟩
   have hs : j < cur2.size := by
    have := hv2 j hj
    exact (Array.getElem?_eq_some_iff.1 this).1
   rw [hAt]
   by_cases hpj : p = j
   ·subst hpj
    simp [hs]
   ·rw [Array.getElem?_setIfInBounds_ne (by omega), if_neg (fun e => hpj e.2)]
    exact hv2 p hp
  ·refine ⟨cur2, blk_far hc2 (fun e => hqi (hinj q i hq hi e)) _, fun p hp => ?_⟩
   rw [hAt, if_neg (fun e => hqi e.1)]
   exact hv2 p hp
theorem dSwap_getD {M : List (List Int)} {i k : Nat} (hi : i < M.length) (hk : k < M.length) (q : Nat) : (dSwap M i k).getD q [] = M.getD (if q = k then i else if q = i then k else q) [] := by
 unfold dSwap
 simp only [List.getD_eq_getElem?_getD, List.getElem?_set, List.length_set]
 by_cases h1 : k = q
 ·subst h1; simp [hk]
 ·have h1' : q ≠ k := fun e => h1 e.symm
  by_cases h2 : i = q
  ·subst h2; simp [h1, h1', hi]
  ·have h2' : q ≠ i := fun e => h2 e.symm
   simp [h1, h2, h1', h2']
theorem DTab.swap {w : World} {P : Nat → Prop} {g n : Nat} {rs cs : Nat → Nat} {M : List (List Int)} (h : DTab w P g n rs cs M) {i k : Nat} (hi : i < n) (hk : k < n) :
  ∃ rs' cs', DTab ((w.setCell ⟨g, i, none⟩ (.slice (some ⟨rs k, 0, none⟩) n (cs k))).setCell ⟨g, k, none⟩ (.slice (some ⟨rs i, 0, none⟩) n (cs i))) P g n rs' cs' (dSwap M i k) := by
 obtain ⟨⟨hl, hr⟩, ⟨hP, cur, hc, hv⟩, hrow, hinj⟩ := h
 have hG := fun q => dSwap_getD (M := M) (i := i) (k := k) (by omega) (by omega) q
 have hlt : ∀ q, q < n → (if q = k then i else if q = i then k else q) < n := by
  intro q hq
  split
  ·exact hi
  ·split
   ·exact hk
   ·exact hq
 refine ⟨fun q => rs (if q = k then i else if q = i then k else q), fun q => cs (if q = k then i else if q = i then k else q), ⟨by simp [dSwap, hl], fun q hq => by rw [hG]; exact hr _ (hlt q hq)⟩, ⟨hP, _, blk_set (blk_set hc i _) k _, fun q hq => ?_⟩, fun q hq => ?_, fun p q hp hq he => ?_⟩
 ·have hs : ∀ p, p < n → p < cur.size := fun p hp => (Array.getElem?_eq_some_iff.1 (hv p hp)).1
  by_cases h1 : q = k
  ·subst h1
   simp [hs q hq]
  ·rw [Array.getElem?_setIfInBounds_ne (by omega)]
   by_cases h2 : q = i
   ·subst h2
    simp [hs q hq, h1]
   ·rw [Array.getElem?_setIfInBounds_ne (by omega)]
    simp only [if_neg h1, if_neg h2]
    exact hv q hq
 ·obtain ⟨hP2, hcap, cur2, hc2, hv2⟩ := hrow _ (hlt q hq)
  refine ⟨hP2, hcap, cur2, ?_, fun p hp => ?_⟩
  ·have hne : rs (if q = k then i else if q = i then k else q) ≠ g := by
    intro e
    rw [e, hc] at hc2
    injection hc2 with hc2
    injection hc2 with _ hc2
    revert hc2
    decide
   exact blk_far (blk_far hc2 hne _) hne _
  ·rw [show dAt (dSwap M i k) q p = dAt M (if q = k then i else if q = i then k else q) p by unfold dAt; rw [hG]]
   exact hv2 p hp
 ·have := hinj _ _ (hlt p hp) (hlt q hq) he
  revert this
  split <;> split <;> (try split) <;> (try split) <;> omega
theorem DTab.step {w w1 : World} {P : Nat → Prop} {g n : Nat} {rs cs : Nat → Nat} {M : List (List Int)} (h : DTab w P g n rs cs M) (hh : w1.heap = w.heap) : DTab w1 P g n rs cs M := by
 unfold DTab at h ⊢
 rw [hh]
 exact h
/-- Of a table that is told as rows of the call's own, apart. -/
theorem DTab.of_S {w : World} {base : Nat} {P : Nat → Prop} {v : Value} {M : List (List Int)} (h : Kd.S (Kd.slice 3 (Kd.int .i64)) 36 w base P v M) (hne : M ≠ []) (hsq : ∀ r ∈ M, r.length = M.length) :
  ∃ g c rs cs, v = .slice (some ⟨g, 0, none⟩) M.length c ∧ DTab w P g M.length rs cs M := by
 obtain ⟨f, h0, inner, ho, hr⟩ := h
 have hpos : 0 < M.length := List.length_pos_iff.2 hne
 rw [List.length_zipIdx] at ho
 have hsz : (Kd.tag f (Kd.slice 3 (Kd.int .i64))).sz = 1 := rfl
 rw [hsz] at ho hr
 rcases ho.2 with ⟨_, h1⟩ | ⟨g, cap, cur, rfl, hb, hh, hnc, hcm, hcs, ht⟩
 ·omega
 have hrow : ∀ i, i < M.length → ∃ rg rc, inner[i]? = some (.slice (some ⟨rg, 0, none⟩) M.length rc) ∧ f rg = i ∧ P rg ∧ M.length ≤ rc ∧ ∃ cur : Array Value, w.heap[rg]? = some (.cells cur 3 (0, 0)) ∧ ∀ j, j < M.length → cur[j]? = some (.int .i64 (dAt M i j)) := by
  intro i hi
  have hz : M.zipIdx[i]? = some (M[i], i) := by simp [hi]
  have hm := hr.2 i _ hz
  obtain ⟨u, hu, hR⟩ : ∃ u, (inner.drop (i * 1)).take 1 = [u] ∧ (Kd.int .i64).R 3 w base (fun k => (P k ∧ some k ≠ (Value.slice (some ⟨g, 0, none⟩) M.length cap).ownBlock) ∧ f k = i) u M[i] := hm
  have hlen : M[i].length = M.length := hsq _ (List.getElem_mem hi)
  obtain ⟨rg, rc, rfl, _, _, _⟩ := Kd.R_form hR (by omega)
  have hin : inner[i]? = some (.slice (some ⟨rg, 0, none⟩) M[i].length rc) := by
   have := congrArg (fun l => l[0]?) hu
   simpa [List.getElem?_take, List.getElem?_drop] using this
  have hok := hR.1 rg rfl
  have hown := Kd.own_of_R hR
  refine ⟨rg, rc, by rw [hin, hlen], hok.2, hok.1.1, by have := (Kd.R_reads' hR).2.1; omega, ?_⟩
  rcases hown.2 with ⟨h2, _⟩ | ⟨g2, cap2, cur2, h2, _, h4, h5, _, _, h7⟩
  ·cases h2
  injection h2 with h2 _ _
  injection h2 with h2
  injection h2 with h2
  subst h2
  refine ⟨cur2, h4, fun j hj => ?_⟩
  have h8 : cur2.toList[j]? = (encs (Value.int .i64) M[i])[j]? := by
   rw [← h7, List.getElem?_take, if_pos (by omega)]
  rw [Array.getElem?_toList] at h8
  rw [h8, encs_get (d := (0 : Int)) _ _ (by omega)]
  simp [dAt, List.getD_eq_getElem?_getD, List.getElem?_eq_getElem hi]
 classical
 refine ⟨g, cap, fun i => if h : i < M.length then (hrow i h).choose else 0, fun i => if h : i < M.length then (hrow i h).choose_spec.choose else 0, rfl, ⟨rfl, fun i hi => ?_⟩, ⟨h0 g rfl, cur, hh, fun i hi => ?_⟩, fun i hi => ?_, fun i j hi hj he => ?_⟩
 ·rw [List.getD_eq_getElem?_getD, List.getElem?_eq_getElem hi]
  exact hsq _ (List.getElem_mem hi)
 ·have hs := (hrow i hi).choose_spec.choose_spec.1
  simp only [dif_pos hi]
  rw [← hs, ← Array.getElem?_toList, ← ht, List.getElem?_take, if_pos (by omega)]
 ·have hs := (hrow i hi).choose_spec.choose_spec.2.2
  simp only [dif_pos hi]
  exact ⟨hs.1, hs.2.1, hs.2.2⟩
 ·have h1 := (hrow i hi).choose_spec.choose_spec.2.1
  have h2 := (hrow j hj).choose_spec.choose_spec.2.1
  simp only [dif_pos hi, dif_pos hj] at he
  rw [← h1, ← h2, he]

end Go.Proofs.Ytngbmjldnfljiaa.PFnExactCurrentsOf
