-- made for this claim by a program of this session
import Derived.Test.YthnjbpabiamkjaaPFnExactCutOfx0
import Derived.Test.YthnjbpabiamkjaaPFnExactCutOfx1
namespace Go.Proofs.Ythnjbpabiamkjaa.PFnExactCutOf
open Go.RowKit Go.Proofs.YthnjbpabiamkjaaW.PrintWords Go.Proofs.YthnjbpabiamkjaaW.PrintLast Go.Proofs.YthnjbpabiamkjaaW.PrintMore
attribute [local go_sem] max2_int min2_int max_two min_two max_three min_three max_four min_four   -- for this text's walks alone
set_option linter.unusedVariables false
set_option linter.unusedSimpArgs false

/-! ### spec_cuSorted: function 105 -/
mutual
def spec_cuSorted.l0 : Nat → List (S73) → List (S73) → Int → Int → Option ((List (S73)))
 | 0, _, _, _, _ => none
 | k + 1, x3, x8, x9, x10 => if x10 < x9 then (if 0 ≤ x10 then (if x10 < (x8.length : Int) then (spec_cuSorted.l1 k x3 (x3.length : Int) x8 x9 x10 ((rd_T73 x8 x10).f0) ((rd_T73 x8 x10).f1) ((rd_T73 x8 x10).f2)) else (none)) else (none)) else (some x3)
def spec_cuSorted.l1 : Nat → List (S73) → Int → List (S73) → Int → Int → Int → Int → Int → Option ((List (S73)))
 | 0, _, _, _, _, _, _, _, _ => none
 | k + 1, x3, x6, x8, x9, x10, x140000, x140001, x140002 => if x6 > 0 then (if 0 ≤ (wrap64 (x6 - 1)) then (if (wrap64 (x6 - 1)) < (x3.length : Int) then ((spec_cuLess.f x140000 x140001 x140002 ((rd_T73 x3 (wrap64 (x6 - 1))).f0) ((rd_T73 x3 (wrap64 (x6 - 1))).f1) ((rd_T73 x3 (wrap64 (x6 - 1))).f2)).bind fun t141 => (if t141 = true then (spec_cuSorted.l1 k x3 (wrap64 (x6 - 1)) x8 x9 x10 x140000 x140001 x140002) else ((some (([] : List (S73)) : List (S73))).bind fun y142 => (if 0 ≤ x6 then (if x6 ≤ (x3.length : Int) then ((some (x3.take (x6 : Int).toNat : List (S73))).bind fun y145 => (if y142.length + y145.length < 5864062014805 then ((some (y142 ++ y145 : List (S73))).bind fun y149 => ((some (([(⟨x140000, x140001, x140002⟩ : S73)] : List (S73)) : List (S73))).bind fun y152 => (if y149.length + y152.length < 5864062014805 then ((some (y149 ++ y152 : List (S73))).bind fun y155 => ((some (x3.drop (x6 : Int).toNat : List (S73))).bind fun y158 => (if y155.length + y158.length < 5864062014805 then (spec_cuSorted.l0 k (y155 ++ y158) x8 x9 (wrap64 (x10 + 1))) else (none)))) else (none)))) else (none))) else (none)) else (none))))) else (none)) else (none)) else ((some (([] : List (S73)) : List (S73))).bind fun y165 => (if 0 ≤ x6 then (if x6 ≤ (x3.length : Int) then ((some (x3.take (x6 : Int).toNat : List (S73))).bind fun y168 => (if y165.length + y168.length < 5864062014805 then ((some (y165 ++ y168 : List (S73))).bind fun y172 => ((some (([(⟨x140000, x140001, x140002⟩ : S73)] : List (S73)) : List (S73))).bind fun y175 => (if y172.length + y175.length < 5864062014805 then ((some (y172 ++ y175 : List (S73))).bind fun y178 => ((some (x3.drop (x6 : Int).toNat : List (S73))).bind fun y181 => (if y178.length + y181.length < 5864062014805 then (spec_cuSorted.l0 k (y178 ++ y181) x8 x9 (wrap64 (x10 + 1))) else (none)))) else (none)))) else (none))) else (none)) else (none)))
end
def spec_cuSorted.f (k : Nat) (l0 : List (S73)) : Option ((List (S73))) := spec_cuSorted.l0 k ([] : List (S73)) l0 (l0.length : Int) 0
def spec_cuSorted.T6 : Bool × List (List Nat × List Nat) := (true, [([], []), ([0], [0]), ([1], [1]), ([2], [2]), ([2], [2]), ([2], [2]), ([5, 2], [2, 5]), ([4, 6, 2], [2, 4, 6]), ([7, 2], [2, 7]), ([3, 8, 2, 2], [2, 3, 8]), ([2, 9], [2, 9])])
def spec_cuSorted.B6 : List Nat := [0, 1, 3, 7, 7, 7, 39, 119, 247, 511, 1023]
theorem spec_cuSorted.tab6 : rtab .any (opsOf Try.f105 6) = spec_cuSorted.T6 := by kernel_rfl
theorem spec_cuSorted.bits6 : waitsOk spec_cuSorted.T6.2 spec_cuSorted.B6 = true := by kernel_rfl
def spec_cuSorted.T8 : Bool × List (List Nat × List Nat) := (true, [([], []), ([], []), ([], []), ([1, 2], [1, 2]), ([0, 3], [0, 3]), ([], []), ([5], [5]), ([4, 6, 4], [4, 6]), ([7, 7, 0, 1, 2, 3, 4, 5, 6, 7], [7])])
def spec_cuSorted.B8 : List Nat := [0, 0, 0, 6, 15, 0, 32, 127, 255]
theorem spec_cuSorted.tab8 : rtab .any (opsOf Try.f105 8) = spec_cuSorted.T8 := by kernel_rfl
theorem spec_cuSorted.bits8 : waitsOk spec_cuSorted.T8.2 spec_cuSorted.B8 = true := by kernel_rfl
set_option maxHeartbeats 8000000 in
set_option maxRecDepth 100000 in
theorem spec_cuSorted.calls (k : Nat) (A0 : Option Addr) (c0 : Nat) (l0 : List (S73)) (r : List (S73)) (w : World) (hr0 : Kd.C k73 w A0 l0.length l0) (hc0 : l0.length ≤ c0) (h : spec_cuSorted.f k l0 = some r) :
  Calls Try.prog 105 #[.slice A0 l0.length c0] w fun e w' => ∃ v0_ : Value, e = .returned (v0_) ∧ Kd.R k73 73 w' w.heap.size (fun _ => True) v0_ r ∧ Below w.heap.size w w' := by
 have hu73 := Try.underlying73
 have HR0 := Aside0.mk hr0
 have HC0 := Aside0.mk hc0
 clear hr0 hc0
 have HB := Aside0.mk (Below.refl w.heap.size w)
 have H : (spec_cuSorted.l0 k ([] : List (S73)) l0 (l0.length : Int) 0) = some r := h
 clear h
 have H' := Aside0.mk H
 clear H
 go_enter Try.func105, Try.ntmps105
 go_wp2
 go_loopg [3, 10] k (fun kq v3 v10 w' => ∃ (x3_1 : List (S73)) (x10_1 : Int), v10 = .int .i64 x10_1 ∧ Aside0 (spec_cuSorted.l0 kq x3_1 l0 (l0.length : Int) x10_1 = some r) ∧ Aside0 (kq ≤ k) ∧ Aside0 (Kd.R k73 73 w' w.heap.size (fun _ => True) v3 x3_1) ∧ Aside0 (Below w.heap.size w w'))
 case atStart => exact ⟨(([] : List (S73))), (0), (by first | rfl | (simp; done) | (simp [*]; done)), H', ⟨Nat.le_refl _⟩, ⟨by first | exact Kd.R_nil _ _ _ _ _ | exact Kd.N_nil _ _ _ _ _ | exact Kd.V_nil _ _ _ _ _ | exact Kd.Q_nil _ _ _ _ _ | exact Kd.S_nil _ _ _ _ _⟩, ⟨upW HB⟩⟩
 case round =>
  clear H'
  try clear c1
  obtain ⟨x3_1, x10_1, rfl, HA, HK1, HO_3, HB⟩ := hrel
  cases gk with
  | zero => exact absurd HA.out (by simp [spec_cuSorted.l0])
  | succ k1 =>
   have H := HA.out
   clear HA
   simp only [spec_cuSorted.l0] at H
   by_cases c2 : x10_1 < (l0.length : Int)
   ·rw [if_pos c2] at H
    have c2b0 : decide (x10_1 < (l0.length : Int)) = true := decide_eq_true c2
    clear c2
    by_cases c3 : 0 ≤ x10_1
    ·rw [if_pos c3] at H
     have c3b0 : decide (0 ≤ x10_1) = true := decide_eq_true c3
     clear c3
     by_cases c4 : x10_1 < (l0.length : Int)
     ·rw [if_pos c4] at H
      have c4b0 : decide (x10_1 < (l0.length : Int)) = true := decide_eq_true c4
      clear c4
      have H' := Aside0.mk H
      clear H
      have p138 : 0 ≤ (x10_1 : Int) := of_decide_eq_true (by first | (with_reducible assumption) | assumption)
      have q138 : x10_1 < (l0.length : Int) := of_decide_eq_true (by first | (with_reducible assumption) | assumption)
      obtain ⟨ad138, e138, hx138_0, hx138_1, hx138_2⟩ := at_T73 HR0.out x10_1 p138 q138
      cases e138
      replace hx138_0 := (HB.out.cell (World.block_lt_of_cell? w _ hx138_0)).trans hx138_0
      replace hx138_1 := (HB.out.cell (World.block_lt_of_cell? w _ hx138_1)).trans hx138_1
      replace hx138_2 := (HB.out.cell (World.block_lt_of_cell? w _ hx138_2)).trans hx138_2
      replace p138 := eq_true p138
      replace q138 := eq_true q138
      go_wp2_with (first | ((with_reducible refine gate_dst (N := 5) rfl ?_); refine box_event ?hg (N := 5) ?hd (cs := #[.int .i64 0, .int .i64 0, .int .i64 0]) (t := 73) ?hr ?_; (case hd => rfl); (case hg => rfl); (case hr => first | (go_simp; done) | (go_simp; rfl)); intro gb139 hg w5 hbox hb; have n0_ := Aside0.mk (Kd.R_below (Kd.R_elderB (upR HO_3) gb139 (Nat.le_of_eq hg.symm)) hb); have n1_ := Aside0.mk (below_step (upW HB) hb); have n2_ := Aside0.mk (hbox); have n3_ := Aside0.mk ((by rw [hg]; exact (below_size (upW HB)) : w.heap.size ≤ gb139)); have n4_ := Aside0.mk ((by rw [hg]; exact (below_size (upW HB)) : w.heap.size ≤ gb139)); clear HO_3; clear HB; have HO_3 := n0_; have HB := n1_; have BK139 := n2_; have GW139 := n3_; have GE139 := n4_; clear n0_ n1_ n2_ n3_ n4_; clear hb hbox hg; have hcz6_0 : w5.cell? ⟨gb139, 0, none⟩ = some (.int .i64 0) := (blk_cell BK139.out 0).trans rfl; have hcz6_1 : w5.cell? ⟨gb139, 1, none⟩ = some (.int .i64 0) := (blk_cell BK139.out 1).trans rfl; have hcz6_2 : w5.cell? ⟨gb139, 2, none⟩ = some (.int .i64 0) := (blk_cell BK139.out 2).trans rfl; have hfz6_0 := blk_frozen BK139.out 0; have hfz6_1 := blk_frozen BK139.out 1; have hfz6_2 := blk_frozen BK139.out 2; obtain ⟨Ao7, co7, eo7⟩ := Kd.R_slice HO_3.out; subst eo7))
      try simp only [Act.put, List.setIfInBounds_toArray, List.set_cons_succ, List.set_cons_zero]
      go_loopg [6] k1 (fun kq v6 w' => ∃ (x6_2 : Int), v6 = .int .i64 x6_2 ∧ Aside0 (spec_cuSorted.l1 kq x3_1 x6_2 l0 (l0.length : Int) x10_1 ((rd_T73 l0 x10_1).f0) ((rd_T73 l0 x10_1).f1) ((rd_T73 l0 x10_1).f2) = some r) ∧ Aside0 (kq ≤ k1) ∧ Aside0 (Kd.R k73 73 w' w.heap.size (fun k_ => k_ ≠ gb139) (.slice Ao7 x3_1.length co7) x3_1) ∧ Aside0 (w'.heap[gb139]? = some (.cells #[.int .i64 ((rd_T73 l0 x10_1).f0), .int .i64 ((rd_T73 l0 x10_1).f1), .int .i64 ((rd_T73 l0 x10_1).f2)] 73 (0, 0))) ∧ Aside0 (Below w.heap.size w w'))
      case atStart => exact ⟨((x3_1.length : Int)), (by first | rfl | (simp; done) | (simp [*]; done)), H', ⟨Nat.le_refl _⟩, ⟨by (with_reducible repeat (first | apply Kd.R_alloc | apply Kd.R_drewN | apply Kd.R_drew)); exact Kd.R_mono (Kd.R_far (p := ⟨gb139, 2, none⟩) (Kd.R_far (p := ⟨gb139, 1, none⟩) (Kd.R_far (p := ⟨gb139, 0, none⟩) (Kd.R_mono HO_3.out (fun k_ hk => (⟨hk, hk.2⟩ : _ ∧ k_ ≠ gb139))) (fun _ hk => hk.2) (.int .i64 ((rd_T73 l0 x10_1).f0))) (fun _ hk => hk.2) (.int .i64 ((rd_T73 l0 x10_1).f1))) (fun _ hk => hk.2) (.int .i64 ((rd_T73 l0 x10_1).f2))) (fun _ hk => hk.1.2)⟩, ⟨by (with_reducible repeat (first | refine blk_drewN ?_ _ | refine blk_drew ?_ | refine blk_alloc ?_ _)); refine blk_put (cs := #[.int .i64 ((rd_T73 l0 x10_1).f0), .int .i64 ((rd_T73 l0 x10_1).f1), .int .i64 0]) ?_ 2 _ rfl; (with_reducible repeat (first | refine blk_drewN ?_ _ | refine blk_drew ?_ | refine blk_alloc ?_ _)); refine blk_put (cs := #[.int .i64 ((rd_T73 l0 x10_1).f0), .int .i64 0, .int .i64 0]) ?_ 1 _ rfl; (with_reducible repeat (first | refine blk_drewN ?_ _ | refine blk_drew ?_ | refine blk_alloc ?_ _)); refine blk_put (cs := #[.int .i64 0, .int .i64 0, .int .i64 0]) ?_ 0 _ rfl; (with_reducible repeat (first | refine blk_drewN ?_ _ | refine blk_drew ?_ | refine blk_alloc ?_ _)); exact BK139.out⟩, ⟨upW HB⟩⟩
      case round =>
       clear H'
       try clear c1
       try clear p1
       try clear q1
       try clear hx1
       try clear c2
       try clear c2b0
       try clear p2
       try clear c3
       try clear c3b0
       try clear c4
       try clear c4b0
       try clear hcz6_0
       try clear hcz6_1
       try clear hcz6_2
       try clear hfz6_0
       try clear hfz6_1
       try clear hfz6_2
       try clear hx138_0
       try clear hx138_1
       try clear hx138_2
       try clear p138
       try clear q138
       obtain ⟨x6_2, rfl, HA, HK2, HO_3, BK139, HB⟩ := hrel
       cases gk with
       | zero => exact absurd HA.out (by simp [spec_cuSorted.l1])
       | succ k2 =>
        have H := HA.out
        clear HA
        simp only [spec_cuSorted.l1] at H
        by_cases c8 : x6_2 > 0
        ·rw [if_pos c8] at H
         have c8b0 : decide (0 < x6_2) = true := decide_eq_true c8
         clear c8
         obtain ⟨ji9, hji9⟩ : ∃ j_ : Int, (wrap64 (x6_2 - 1)) = j_ := ⟨_, rfl⟩
         replace H : (if 0 ≤ (ji9) then (if (ji9) < (x3_1.length : Int) then ((spec_cuLess.f ((rd_T73 l0 x10_1).f0) ((rd_T73 l0 x10_1).f1) ((rd_T73 l0 x10_1).f2) ((rd_T73 x3_1 (ji9)).f0) ((rd_T73 x3_1 (ji9)).f1) ((rd_T73 x3_1 (ji9)).f2)).bind fun t141 => (if t141 = true then (spec_cuSorted.l1 k2 x3_1 ji9 l0 (l0.length : Int) x10_1 ((rd_T73 l0 x10_1).f0) ((rd_T73 l0 x10_1).f1) ((rd_T73 l0 x10_1).f2)) else ((some (([] : List (S73)) : List (S73))).bind fun y142 => (if 0 ≤ x6_2 then (if x6_2 ≤ (x3_1.length : Int) then ((some (x3_1.take (x6_2 : Int).toNat : List (S73))).bind fun y145 => (if y142.length + y145.length < 5864062014805 then ((some (y142 ++ y145 : List (S73))).bind fun y149 => ((some (([(⟨((rd_T73 l0 x10_1).f0), ((rd_T73 l0 x10_1).f1), ((rd_T73 l0 x10_1).f2)⟩ : S73)] : List (S73)) : List (S73))).bind fun y152 => (if y149.length + y152.length < 5864062014805 then ((some (y149 ++ y152 : List (S73))).bind fun y155 => ((some (x3_1.drop (x6_2 : Int).toNat : List (S73))).bind fun y158 => (if y155.length + y158.length < 5864062014805 then (spec_cuSorted.l0 k2 (y155 ++ y158) l0 (l0.length : Int) (wrap64 (x10_1 + 1))) else (none)))) else (none)))) else (none))) else (none)) else (none))))) else (none)) else (none)) = some r := by first | (rw [hji9] at H; exact H) | (simp only [hji9] at H ⊢; exact H)
         have hji9w : (IntKind.i64.wrap (x6_2 - 1)) = ji9 := (i64_w _).trans hji9
         by_cases c10 : 0 ≤ (ji9)
         ·rw [if_pos c10] at H
          have c10b0 : decide (0 ≤ (ji9)) = true := decide_eq_true c10
          clear c10
          by_cases c11 : (ji9) < (x3_1.length : Int)
          ·rw [if_pos c11] at H
           have c11b0 : decide ((ji9) < (x3_1.length : Int)) = true := decide_eq_true c11
           clear c11
           replace H := Option.bind_eq_some_iff.mp H
           obtain ⟨t141, A120, H⟩ := H
           replace H : (if t141 = true then (spec_cuSorted.l1 k2 x3_1 ji9 l0 (l0.length : Int) x10_1 ((rd_T73 l0 x10_1).f0) ((rd_T73 l0 x10_1).f1) ((rd_T73 l0 x10_1).f2)) else ((some (([] : List (S73)) : List (S73))).bind fun y142 => (if 0 ≤ x6_2 then (if x6_2 ≤ (x3_1.length : Int) then ((some (x3_1.take (x6_2 : Int).toNat : List (S73))).bind fun y145 => (if y142.length + y145.length < 5864062014805 then ((some (y142 ++ y145 : List (S73))).bind fun y149 => ((some (([(⟨((rd_T73 l0 x10_1).f0), ((rd_T73 l0 x10_1).f1), ((rd_T73 l0 x10_1).f2)⟩ : S73)] : List (S73)) : List (S73))).bind fun y152 => (if y149.length + y152.length < 5864062014805 then ((some (y149 ++ y152 : List (S73))).bind fun y155 => ((some (x3_1.drop (x6_2 : Int).toNat : List (S73))).bind fun y158 => (if y155.length + y158.length < 5864062014805 then (spec_cuSorted.l0 k2 (y155 ++ y158) l0 (l0.length : Int) (wrap64 (x10_1 + 1))) else (none)))) else (none)))) else (none))) else (none)) else (none)))) = some r := H
           have A12 := Aside0.mk A120
           clear A120
           by_cases c13 : t141 = true
           ·subst c13
            have H1 : (spec_cuSorted.l1 k2 x3_1 ji9 l0 (l0.length : Int) x10_1 ((rd_T73 l0 x10_1).f0) ((rd_T73 l0 x10_1).f1) ((rd_T73 l0 x10_1).f2)) = some r := by rw [if_pos rfl] at H; exact H
            clear H
            have H := H1
            clear H1
            have H' := Aside0.mk H
            clear H
            try go_wp2
            have n0_ := Aside0.mk (Kd.R_drew HO_3.out)
            have n1_ := Aside0.mk (blk_drew BK139.out)
            have n2_ := Aside0.mk (below_drew1 HB.out)
            clear HO_3
            clear BK139
            clear HB
            have HO_3 := n0_
            have BK139 := n1_
            have HB := n2_
            clear n0_ n1_ n2_
            have p140 : 0 ≤ ((ji9) : Int) := of_decide_eq_true (by first | (with_reducible assumption) | assumption)
            have q140 : (ji9) < (x3_1.length : Int) := of_decide_eq_true (by first | (with_reducible assumption) | assumption)
            obtain ⟨ad140, e140, hx140_0, hx140_1, hx140_2⟩ := at_T73 (Kd.R_reads' HO_3.out).2.2 (ji9) p140 q140
            cases e140
            replace p140 := eq_true p140
            replace q140 := eq_true q140
            refine start_ (n := 11) (S := fun w' => w'.cell? ⟨gb139, 0, none⟩ = some (.int .i64 ((rd_T73 l0 x10_1).f0)) ∧ w'.cell? ⟨gb139, 1, none⟩ = some (.int .i64 ((rd_T73 l0 x10_1).f1)) ∧ w'.cell? ⟨gb139, 2, none⟩ = some (.int .i64 ((rd_T73 l0 x10_1).f2)) ∧ w'.cell? (ad140.add (((ji9)).toNat * 3)) = some (.int .i64 ((rd_T73 x3_1 (ji9)).f0)) ∧ w'.cell? ⟨(ad140.add (((ji9)).toNat * 3)).block, (ad140.add (((ji9)).toNat * 3)).off + 1, none⟩ = some (.int .i64 ((rd_T73 x3_1 (ji9)).f1)) ∧ w'.cell? ⟨(ad140.add (((ji9)).toNat * 3)).block, (ad140.add (((ji9)).toNat * 3)).off + 2, none⟩ = some (.int .i64 ((rd_T73 x3_1 (ji9)).f2))) (ds := []) #[false, false, false, false, false, false, false, false, false, false, false] (by kernel_rfl) rfl rfl ⟨(blk_cell BK139.out 0).trans rfl, (blk_cell BK139.out 1).trans rfl, (blk_cell BK139.out 2).trans rfl, hx140_0, hx140_1, hx140_2⟩ (fun hHeld => ?_); refine with_tabW spec_cuSorted.tab6 spec_cuSorted.bits6 (fun HT_ HW_ => ?_)
            generalize wr.drew = w14 at HO_3 BK139 HB hx140_0 hx140_1 hx140_2 hHeld ⊢
            refine pure_ (i := 0) (N := some 16) (v := ?_) (a' := ?_) #[true, false, false, false, false, false, false, false, false, false, false] rfl rfl (any_of HT_.out (by kernel_rfl)) (fun _ _ _ h => h) (Or.inl ⟨by rfl, ?_⟩) ?_ ?_
            rotate_left
            ·intro w'
             go_simp
             with_reducible rfl
            rotate_left
            ·simp only [Act.put, List.setIfInBounds_toArray, List.set_cons_zero, List.set_cons_succ, i64_w, i32_w]
             rfl
            refine pure_ (i := 1) (N := some 17) (v := ?_) (a' := ?_) #[true, true, false, false, false, false, false, false, false, false, false] rfl rfl (any_of HT_.out (by kernel_rfl)) (fun _ _ _ h => h) (Or.inl ⟨by rfl, ?_⟩) ?_ ?_
            rotate_left
            ·intro w'
             go_simp
             with_reducible rfl
            rotate_left
            ·simp only [Act.put, List.setIfInBounds_toArray, List.set_cons_zero, List.set_cons_succ, i64_w, i32_w]
             rfl
            refine pure_ (i := 2) (N := some 18) (v := ?_) (a' := ?_) #[true, true, true, false, false, false, false, false, false, false, false] rfl rfl (any_of HT_.out (by kernel_rfl)) (fun _ _ _ h => h) (Or.inl ⟨by rfl, ?_⟩) ?_ ?_
            rotate_left
            ·intro w'
             go_simp
             with_reducible rfl
            rotate_left
            ·simp only [Act.put, List.setIfInBounds_toArray, List.set_cons_zero, List.set_cons_succ, i64_w, i32_w]
             rfl
            refine pure_ (i := 4) (N := some 20) (v := ?_) (a' := ?_) #[true, true, true, false, true, false, false, false, false, false, false] rfl rfl (any_of HT_.out (by kernel_rfl)) (fun _ _ _ h => h) (Or.inl ⟨by rfl, ?_⟩) ?_ ?_
            rotate_left
            ·intro w'
             go_simp
             with_reducible rfl
            rotate_left
            ·simp only [Act.put, List.setIfInBounds_toArray, List.set_cons_zero, List.set_cons_succ, i64_w, i32_w]
             rfl
            refine pure_ (i := 5) (N := some 21) (v := ?_) (a' := ?_) #[true, true, true, false, true, true, false, false, false, false, false] rfl rfl (any_of HT_.out (by kernel_rfl)) (fun _ _ _ h => h) (Or.inl ⟨by rfl, ?_⟩) ?_ ?_
            rotate_left
            ·intro w'
             go_simp
             with_reducible rfl
            rotate_left
            ·simp only [Act.put, List.setIfInBounds_toArray, List.set_cons_zero, List.set_cons_succ, i64_w, i32_w]
             rfl
            refine pure_ (i := 6) (N := some 22) (v := ?_) (a' := ?_) #[true, true, true, false, true, true, true, false, false, false, false] rfl rfl (any_of HT_.out (by kernel_rfl)) (fun _ _ _ h => h) (Or.inl ⟨by rfl, ?_⟩) ?_ ?_
            rotate_left
            ·intro w'
             go_simp
             with_reducible rfl
            rotate_left
            ·simp only [Act.put, List.setIfInBounds_toArray, List.set_cons_zero, List.set_cons_succ, i64_w, i32_w]
             rfl
            refine pure_ (i := 7) (N := some 23) (v := ?_) (a' := ?_) #[true, true, true, false, true, true, true, true, false, false, false] rfl rfl (any_of HT_.out (by kernel_rfl)) (fun _ _ _ h => h) (Or.inl ⟨by rfl, ?_⟩) ?_ ?_
            rotate_left
            ·intro w'
             go_simp
             with_reducible rfl
            rotate_left
            ·simp only [Act.put, List.setIfInBounds_toArray, List.set_cons_zero, List.set_cons_succ, i64_w, i32_w]
             rfl
            refine take_ (i := 3) (N := some 19) (v := ?_) (a' := ?_) #[true, true, true, true, true, true, true, true, false, false, false] rfl rfl (take_ofW HT_.out HW_.out (by kernel_rfl)) (fun _ _ _ h => h) (Or.inl ⟨by rfl, ?_⟩) hHeld ?_ ?_
            rotate_left
            ·rintro w' ⟨s0, s1, s2, s3, s4, s5⟩
             go_simp
             with_reducible rfl
            rotate_left
            ·simp only [Act.put, List.setIfInBounds_toArray, List.set_cons_zero, List.set_cons_succ, i64_w, i32_w]
             rfl
            refine take_ (i := 8) (N := some 24) (v := ?_) (a' := ?_) #[true, true, true, true, true, true, true, true, true, false, false] rfl rfl (take_ofW HT_.out HW_.out (by kernel_rfl)) (fun _ _ _ h => h) (Or.inl ⟨by rfl, ?_⟩) hHeld ?_ ?_
            rotate_left
            ·rintro w' ⟨s0, s1, s2, s3, s4, s5⟩
             go_simp
             with_reducible rfl
            rotate_left
            ·simp only [Act.put, List.setIfInBounds_toArray, List.set_cons_zero, List.set_cons_succ, i64_w, i32_w]
             rfl
            refine one_ (i := 9) (N := some 25) #[true, true, true, true, true, true, true, true, true, true, false] rfl rfl (one_of HT_.out (by kernel_rfl)) (by decide) (fun K hK => ?_)
            refine goes_ Try.func97 (by kernel_rfl) rfl #[.agg #[.int .i64 ((rd_T73 l0 x10_1).f0), .int .i64 ((rd_T73 l0 x10_1).f1), .int .i64 ((rd_T73 l0 x10_1).f2)], .agg #[.int .i64 ((rd_T73 x3_1 (ji9)).f0), .int .i64 ((rd_T73 x3_1 (ji9)).f1), .int .i64 ((rd_T73 x3_1 (ji9)).f2)]] (by rfl) rfl rfl (by (try simp only [List.map_toArray, List.map_cons, List.map_nil]); first | done | (simp only [hji9]; rfl) | rfl | (simp only [List.length_drop, List.length_take]; rfl)) ?_
            with_reducible refine (spec_cuLess.calls ((rd_T73 l0 x10_1).f0) ((rd_T73 l0 x10_1).f1) ((rd_T73 l0 x10_1).f2) ((rd_T73 x3_1 (ji9)).f0) ((rd_T73 x3_1 (ji9)).f1) ((rd_T73 x3_1 (ji9)).f2) true _ A12.out).mono ?_
            rintro e w15 ⟨rfl, hb⟩
            have HS3_ := (hb.cell (World.block_lt_of_cell? _ _ (hHeld.2.2.2.1))).trans (hHeld.2.2.2.1)
            have HS4_ := (hb.cell (World.block_lt_of_cell? _ _ (hHeld.2.2.2.2.1))).trans (hHeld.2.2.2.2.1)
            have HS5_ := (hb.cell (World.block_lt_of_cell? _ _ (hHeld.2.2.2.2.2))).trans (hHeld.2.2.2.2.2)
            refine ⟨_, rfl, ?_⟩
            have n0_ := Aside0.mk (Kd.R_below (upR HO_3) hb)
            have n1_ := Aside0.mk (blk_below (upK BK139) hb)
            have n2_ := Aside0.mk (below_step (upW HB) hb)
            clear HO_3
            clear BK139
            clear HB
            have HO_3 := n0_
            have BK139 := n1_
            have HB := n2_
            clear n0_ n1_ n2_
            (try clear hb)
            (try clear hb2)
            (try clear hk)
            (try clear hi)
            refine hK.out _ _ ⟨(blk_cell BK139.out 0).trans rfl, (blk_cell BK139.out 1).trans rfl, (blk_cell BK139.out 2).trans rfl, HS3_, HS4_, HS5_⟩ (fun hHeld => ?_)
            clear hK K
            refine norm_ (a' := ?_) ?_ ?_
            rotate_left
            ·show Act.put _ (some 25) _ = _
             simp only [Act.put, List.setIfInBounds_toArray, List.set_cons_zero, List.set_cons_succ, i64_w, i32_w]
             rfl
            refine pure_ (i := 10) (N := some 26) (v := ?_) (a' := ?_) #[true, true, true, true, true, true, true, true, true, true, true] rfl rfl (any_of HT_.out (by kernel_rfl)) (fun _ _ _ h => h) (Or.inl ⟨by rfl, ?_⟩) ?_ ?_
            rotate_left
            ·intro w'
             go_simp
             with_reducible rfl
            rotate_left
            ·simp only [Act.put, List.setIfInBounds_toArray, List.set_cons_zero, List.set_cons_succ, i64_w, i32_w]
             rfl
            refine done_ (done_of HT_.out (by kernel_rfl)) ?_
            try go_wp2
            go_roundg k2
            case measure => have := HK1.out; have := HK2.out; omega
            case rel => exact ⟨(ji9), (by first | rfl | (simp; done) | (simp only [← hji9] <;> (first | rfl | simp)) | (simp [*]; done)), H', ⟨by have := HK1.out; have := HK2.out; omega⟩, ⟨upR HO_3⟩, ⟨upK BK139⟩, ⟨upW HB⟩⟩
           ·replace c13 := Bool.eq_false_iff.mpr c13
            subst c13
            have H1 : ((some (([] : List (S73)) : List (S73))).bind fun y142 => (if 0 ≤ x6_2 then (if x6_2 ≤ (x3_1.length : Int) then ((some (x3_1.take (x6_2 : Int).toNat : List (S73))).bind fun y145 => (if y142.length + y145.length < 5864062014805 then ((some (y142 ++ y145 : List (S73))).bind fun y149 => ((some (([(⟨((rd_T73 l0 x10_1).f0), ((rd_T73 l0 x10_1).f1), ((rd_T73 l0 x10_1).f2)⟩ : S73)] : List (S73)) : List (S73))).bind fun y152 => (if y149.length + y152.length < 5864062014805 then ((some (y149 ++ y152 : List (S73))).bind fun y155 => ((some (x3_1.drop (x6_2 : Int).toNat : List (S73))).bind fun y158 => (if y155.length + y158.length < 5864062014805 then (spec_cuSorted.l0 k2 (y155 ++ y158) l0 (l0.length : Int) (wrap64 (x10_1 + 1))) else (none)))) else (none)))) else (none))) else (none)) else (none))) = some r := by rw [if_neg (show ¬ (false = true) by decide)] at H; exact H
            clear H
            have H := H1
            clear H1
            obtain ⟨y142, hy142⟩ : ∃ y_ : List (S73), y_ = (([] : List (S73))) := ⟨_, rfl⟩
            replace H : (if 0 ≤ x6_2 then (if x6_2 ≤ (x3_1.length : Int) then ((some (x3_1.take (x6_2 : Int).toNat : List (S73))).bind fun y145 => (if y142.length + y145.length < 5864062014805 then ((some (y142 ++ y145 : List (S73))).bind fun y149 => ((some (([(⟨((rd_T73 l0 x10_1).f0), ((rd_T73 l0 x10_1).f1), ((rd_T73 l0 x10_1).f2)⟩ : S73)] : List (S73)) : List (S73))).bind fun y152 => (if y149.length + y152.length < 5864062014805 then ((some (y149 ++ y152 : List (S73))).bind fun y155 => ((some (x3_1.drop (x6_2 : Int).toNat : List (S73))).bind fun y158 => (if y155.length + y158.length < 5864062014805 then (spec_cuSorted.l0 k2 (y155 ++ y158) l0 (l0.length : Int) (wrap64 (x10_1 + 1))) else (none)))) else (none)))) else (none))) else (none)) else (none)) = some r := by first | (rw [hy142]; with_reducible exact H) | (have H2_ := (Option.bind_some _ _).symm.trans H; rw [hy142]; with_reducible exact H2_) | (have H2_ := (Option.bind_some _ _).symm.trans H; with_reducible exact H2_) | with_reducible exact H | (rw [hy142]; exact H) | exact H
            have Ny142 := Aside0.mk hy142
            clear hy142
            by_cases c16 : 0 ≤ x6_2
            ·rw [if_pos c16] at H
             have c16b0 := eq_true c16
             have c16b1 : decide (0 ≤ x6_2) = true := decide_eq_true c16
             clear c16
             by_cases c17 : x6_2 ≤ (x3_1.length : Int)
             ·rw [if_pos c17] at H
              have c17b0 := eq_true c17
              have c17b1 : decide (x6_2 ≤ (x3_1.length : Int)) = true := decide_eq_true c17
              clear c17
              obtain ⟨y145, hy145⟩ : ∃ y_ : List (S73), y_ = (x3_1.take (x6_2 : Int).toNat) := ⟨_, rfl⟩
              replace H : (if y142.length + y145.length < 5864062014805 then ((some (y142 ++ y145 : List (S73))).bind fun y149 => ((some (([(⟨((rd_T73 l0 x10_1).f0), ((rd_T73 l0 x10_1).f1), ((rd_T73 l0 x10_1).f2)⟩ : S73)] : List (S73)) : List (S73))).bind fun y152 => (if y149.length + y152.length < 5864062014805 then ((some (y149 ++ y152 : List (S73))).bind fun y155 => ((some (x3_1.drop (x6_2 : Int).toNat : List (S73))).bind fun y158 => (if y155.length + y158.length < 5864062014805 then (spec_cuSorted.l0 k2 (y155 ++ y158) l0 (l0.length : Int) (wrap64 (x10_1 + 1))) else (none)))) else (none)))) else (none)) = some r := by first | (rw [hy145]; with_reducible exact H) | (have H2_ := (Option.bind_some _ _).symm.trans H; rw [hy145]; with_reducible exact H2_) | (have H2_ := (Option.bind_some _ _).symm.trans H; with_reducible exact H2_) | with_reducible exact H | (rw [hy145]; exact H) | exact H
              have Ny145 := Aside0.mk hy145
              clear hy145
              by_cases c18 : y142.length + y145.length < 5864062014805
              ·rw [if_pos c18] at H
               have LMc18 := Aside0.mk c18
               clear c18
               obtain ⟨y149, hy149⟩ : ∃ y_ : List (S73), y_ = (y142 ++ y145) := ⟨_, rfl⟩
               replace H : ((some (([(⟨((rd_T73 l0 x10_1).f0), ((rd_T73 l0 x10_1).f1), ((rd_T73 l0 x10_1).f2)⟩ : S73)] : List (S73)) : List (S73))).bind fun y152 => (if y149.length + y152.length < 5864062014805 then ((some (y149 ++ y152 : List (S73))).bind fun y155 => ((some (x3_1.drop (x6_2 : Int).toNat : List (S73))).bind fun y158 => (if y155.length + y158.length < 5864062014805 then (spec_cuSorted.l0 k2 (y155 ++ y158) l0 (l0.length : Int) (wrap64 (x10_1 + 1))) else (none)))) else (none))) = some r := by first | (rw [hy149]; with_reducible exact H) | (have H2_ := (Option.bind_some _ _).symm.trans H; rw [hy149]; with_reducible exact H2_) | (have H2_ := (Option.bind_some _ _).symm.trans H; with_reducible exact H2_) | with_reducible exact H | (rw [hy149]; exact H) | exact H
               have Ny149 := Aside0.mk hy149
               clear hy149
               obtain ⟨y152, hy152⟩ : ∃ y_ : List (S73), y_ = (([(⟨((rd_T73 l0 x10_1).f0), ((rd_T73 l0 x10_1).f1), ((rd_T73 l0 x10_1).f2)⟩ : S73)] : List (S73))) := ⟨_, rfl⟩
               replace H : (if y149.length + y152.length < 5864062014805 then ((some (y149 ++ y152 : List (S73))).bind fun y155 => ((some (x3_1.drop (x6_2 : Int).toNat : List (S73))).bind fun y158 => (if y155.length + y158.length < 5864062014805 then (spec_cuSorted.l0 k2 (y155 ++ y158) l0 (l0.length : Int) (wrap64 (x10_1 + 1))) else (none)))) else (none)) = some r := by first | (rw [hy152]; with_reducible exact H) | (have H2_ := (Option.bind_some _ _).symm.trans H; rw [hy152]; with_reducible exact H2_) | (have H2_ := (Option.bind_some _ _).symm.trans H; with_reducible exact H2_) | with_reducible exact H | (rw [hy152]; exact H) | exact H
               have Ny152 := Aside0.mk hy152
               clear hy152
               by_cases c19 : y149.length + y152.length < 5864062014805
               ·rw [if_pos c19] at H
                have LMc19 := Aside0.mk c19
                clear c19
                obtain ⟨y155, hy155⟩ : ∃ y_ : List (S73), y_ = (y149 ++ y152) := ⟨_, rfl⟩
                replace H : ((some (x3_1.drop (x6_2 : Int).toNat : List (S73))).bind fun y158 => (if y155.length + y158.length < 5864062014805 then (spec_cuSorted.l0 k2 (y155 ++ y158) l0 (l0.length : Int) (wrap64 (x10_1 + 1))) else (none))) = some r := by first | (rw [hy155]; with_reducible exact H) | (have H2_ := (Option.bind_some _ _).symm.trans H; rw [hy155]; with_reducible exact H2_) | (have H2_ := (Option.bind_some _ _).symm.trans H; with_reducible exact H2_) | with_reducible exact H | (rw [hy155]; exact H) | exact H
                have Ny155 := Aside0.mk hy155
                clear hy155
                have c20b0 := eq_true (of_decide_eq_true (by first | (with_reducible assumption) | assumption) : 0 ≤ x6_2)
                have c21b0 := eq_true (of_decide_eq_true (by first | (with_reducible assumption) | assumption) : x6_2 ≤ (x3_1.length : Int))
                obtain ⟨y158, hy158⟩ : ∃ y_ : List (S73), y_ = (x3_1.drop (x6_2 : Int).toNat) := ⟨_, rfl⟩
                replace H : (if y155.length + y158.length < 5864062014805 then (spec_cuSorted.l0 k2 (y155 ++ y158) l0 (l0.length : Int) (wrap64 (x10_1 + 1))) else (none)) = some r := by first | (rw [hy158]; with_reducible exact H) | (have H2_ := (Option.bind_some _ _).symm.trans H; rw [hy158]; with_reducible exact H2_) | (have H2_ := (Option.bind_some _ _).symm.trans H; with_reducible exact H2_) | with_reducible exact H | (rw [hy158]; exact H) | exact H
                have Ny158 := Aside0.mk hy158
                clear hy158
                by_cases c22 : y155.length + y158.length < 5864062014805
                ·rw [if_pos c22] at H
                 have LMc22 := Aside0.mk c22
                 clear c22
                 obtain ⟨y162, hy162⟩ : ∃ y_ : List (S73), y_ = (y155 ++ y158) := ⟨_, rfl⟩
                 replace H : (spec_cuSorted.l0 k2 y162 l0 (l0.length : Int) (wrap64 (x10_1 + 1))) = some r := by first | (rw [hy162]; with_reducible exact H) | (have H2_ := (Option.bind_some _ _).symm.trans H; rw [hy162]; with_reducible exact H2_) | (have H2_ := (Option.bind_some _ _).symm.trans H; with_reducible exact H2_) | with_reducible exact H | (rw [hy162]; exact H) | exact H
                 have Ny162 := Aside0.mk hy162
                 clear hy162
                 have H' := Aside0.mk H
                 clear H
                 try go_wp2
                 have n0_ := Aside0.mk (Kd.R_drew HO_3.out)
                 have n1_ := Aside0.mk (blk_drew BK139.out)
                 have n2_ := Aside0.mk (below_drew1 HB.out)
                 clear HO_3
                 clear BK139
                 clear HB
                 have HO_3 := n0_
                 have BK139 := n1_
                 have HB := n2_
                 clear n0_ n1_ n2_
                 have p140 : 0 ≤ ((ji9) : Int) := of_decide_eq_true (by first | (with_reducible assumption) | assumption)
                 have q140 : (ji9) < (x3_1.length : Int) := of_decide_eq_true (by first | (with_reducible assumption) | assumption)
                 obtain ⟨ad140, e140, hx140_0, hx140_1, hx140_2⟩ := at_T73 (Kd.R_reads' HO_3.out).2.2 (ji9) p140 q140
                 cases e140
                 replace p140 := eq_true p140
                 replace q140 := eq_true q140
                 refine start_ (n := 11) (S := fun w' => w'.cell? ⟨gb139, 0, none⟩ = some (.int .i64 ((rd_T73 l0 x10_1).f0)) ∧ w'.cell? ⟨gb139, 1, none⟩ = some (.int .i64 ((rd_T73 l0 x10_1).f1)) ∧ w'.cell? ⟨gb139, 2, none⟩ = some (.int .i64 ((rd_T73 l0 x10_1).f2)) ∧ w'.cell? (ad140.add (((ji9)).toNat * 3)) = some (.int .i64 ((rd_T73 x3_1 (ji9)).f0)) ∧ w'.cell? ⟨(ad140.add (((ji9)).toNat * 3)).block, (ad140.add (((ji9)).toNat * 3)).off + 1, none⟩ = some (.int .i64 ((rd_T73 x3_1 (ji9)).f1)) ∧ w'.cell? ⟨(ad140.add (((ji9)).toNat * 3)).block, (ad140.add (((ji9)).toNat * 3)).off + 2, none⟩ = some (.int .i64 ((rd_T73 x3_1 (ji9)).f2))) (ds := []) #[false, false, false, false, false, false, false, false, false, false, false] (by kernel_rfl) rfl rfl ⟨(blk_cell BK139.out 0).trans rfl, (blk_cell BK139.out 1).trans rfl, (blk_cell BK139.out 2).trans rfl, hx140_0, hx140_1, hx140_2⟩ (fun hHeld => ?_); refine with_tabW spec_cuSorted.tab6 spec_cuSorted.bits6 (fun HT_ HW_ => ?_)
                 generalize wr.drew = w23 at HO_3 BK139 HB hx140_0 hx140_1 hx140_2 hHeld ⊢
                 refine pure_ (i := 0) (N := some 16) (v := ?_) (a' := ?_) #[true, false, false, false, false, false, false, false, false, false, false] rfl rfl (any_of HT_.out (by kernel_rfl)) (fun _ _ _ h => h) (Or.inl ⟨by rfl, ?_⟩) ?_ ?_
                 rotate_left
                 ·intro w'
                  go_simp
                  with_reducible rfl
                 rotate_left
                 ·simp only [Act.put, List.setIfInBounds_toArray, List.set_cons_zero, List.set_cons_succ, i64_w, i32_w]
                  rfl
                 refine pure_ (i := 1) (N := some 17) (v := ?_) (a' := ?_) #[true, true, false, false, false, false, false, false, false, false, false] rfl rfl (any_of HT_.out (by kernel_rfl)) (fun _ _ _ h => h) (Or.inl ⟨by rfl, ?_⟩) ?_ ?_
                 rotate_left
                 ·intro w'
                  go_simp
                  with_reducible rfl
                 rotate_left
                 ·simp only [Act.put, List.setIfInBounds_toArray, List.set_cons_zero, List.set_cons_succ, i64_w, i32_w]
                  rfl
                 refine pure_ (i := 2) (N := some 18) (v := ?_) (a' := ?_) #[true, true, true, false, false, false, false, false, false, false, false] rfl rfl (any_of HT_.out (by kernel_rfl)) (fun _ _ _ h => h) (Or.inl ⟨by rfl, ?_⟩) ?_ ?_
                 rotate_left
                 ·intro w'
                  go_simp
                  with_reducible rfl
                 rotate_left
                 ·simp only [Act.put, List.setIfInBounds_toArray, List.set_cons_zero, List.set_cons_succ, i64_w, i32_w]
                  rfl
                 refine pure_ (i := 4) (N := some 20) (v := ?_) (a' := ?_) #[true, true, true, false, true, false, false, false, false, false, false] rfl rfl (any_of HT_.out (by kernel_rfl)) (fun _ _ _ h => h) (Or.inl ⟨by rfl, ?_⟩) ?_ ?_
                 rotate_left
                 ·intro w'
                  go_simp
                  with_reducible rfl
                 rotate_left
                 ·simp only [Act.put, List.setIfInBounds_toArray, List.set_cons_zero, List.set_cons_succ, i64_w, i32_w]
                  rfl
                 refine pure_ (i := 5) (N := some 21) (v := ?_) (a' := ?_) #[true, true, true, false, true, true, false, false, false, false, false] rfl rfl (any_of HT_.out (by kernel_rfl)) (fun _ _ _ h => h) (Or.inl ⟨by rfl, ?_⟩) ?_ ?_
                 rotate_left
                 ·intro w'
                  go_simp
                  with_reducible rfl
                 rotate_left
                 ·simp only [Act.put, List.setIfInBounds_toArray, List.set_cons_zero, List.set_cons_succ, i64_w, i32_w]
                  rfl
                 refine pure_ (i := 6) (N := some 22) (v := ?_) (a' := ?_) #[true, true, true, false, true, true, true, false, false, false, false] rfl rfl (any_of HT_.out (by kernel_rfl)) (fun _ _ _ h => h) (Or.inl ⟨by rfl, ?_⟩) ?_ ?_
                 rotate_left
                 ·intro w'
                  go_simp
                  with_reducible rfl
                 rotate_left
                 ·simp only [Act.put, List.setIfInBounds_toArray, List.set_cons_zero, List.set_cons_succ, i64_w, i32_w]
                  rfl
                 refine pure_ (i := 7) (N := some 23) (v := ?_) (a' := ?_) #[true, true, true, false, true, true, true, true, false, false, false] rfl rfl (any_of HT_.out (by kernel_rfl)) (fun _ _ _ h => h) (Or.inl ⟨by rfl, ?_⟩) ?_ ?_
                 rotate_left
                 ·intro w'
                  go_simp
                  with_reducible rfl
                 rotate_left
                 ·simp only [Act.put, List.setIfInBounds_toArray, List.set_cons_zero, List.set_cons_succ, i64_w, i32_w]
                  rfl
                 refine take_ (i := 3) (N := some 19) (v := ?_) (a' := ?_) #[true, true, true, true, true, true, true, true, false, false, false] rfl rfl (take_ofW HT_.out HW_.out (by kernel_rfl)) (fun _ _ _ h => h) (Or.inl ⟨by rfl, ?_⟩) hHeld ?_ ?_
                 rotate_left
                 ·rintro w' ⟨s0, s1, s2, s3, s4, s5⟩
                  go_simp
                  with_reducible rfl
                 rotate_left
                 ·simp only [Act.put, List.setIfInBounds_toArray, List.set_cons_zero, List.set_cons_succ, i64_w, i32_w]
                  rfl
                 refine take_ (i := 8) (N := some 24) (v := ?_) (a' := ?_) #[true, true, true, true, true, true, true, true, true, false, false] rfl rfl (take_ofW HT_.out HW_.out (by kernel_rfl)) (fun _ _ _ h => h) (Or.inl ⟨by rfl, ?_⟩) hHeld ?_ ?_
                 rotate_left
                 ·rintro w' ⟨s0, s1, s2, s3, s4, s5⟩
                  go_simp
                  with_reducible rfl
                 rotate_left
                 ·simp only [Act.put, List.setIfInBounds_toArray, List.set_cons_zero, List.set_cons_succ, i64_w, i32_w]
                  rfl
                 refine one_ (i := 9) (N := some 25) #[true, true, true, true, true, true, true, true, true, true, false] rfl rfl (one_of HT_.out (by kernel_rfl)) (by decide) (fun K hK => ?_)
                 refine goes_ Try.func97 (by kernel_rfl) rfl #[.agg #[.int .i64 ((rd_T73 l0 x10_1).f0), .int .i64 ((rd_T73 l0 x10_1).f1), .int .i64 ((rd_T73 l0 x10_1).f2)], .agg #[.int .i64 ((rd_T73 x3_1 (ji9)).f0), .int .i64 ((rd_T73 x3_1 (ji9)).f1), .int .i64 ((rd_T73 x3_1 (ji9)).f2)]] (by rfl) rfl rfl (by (try simp only [List.map_toArray, List.map_cons, List.map_nil]); first | done | (simp only [hji9]; rfl) | rfl | (simp only [List.length_drop, List.length_take]; rfl)) ?_
                 with_reducible refine (spec_cuLess.calls ((rd_T73 l0 x10_1).f0) ((rd_T73 l0 x10_1).f1) ((rd_T73 l0 x10_1).f2) ((rd_T73 x3_1 (ji9)).f0) ((rd_T73 x3_1 (ji9)).f1) ((rd_T73 x3_1 (ji9)).f2) false _ A12.out).mono ?_
                 rintro e w24 ⟨rfl, hb⟩
                 have HS3_ := (hb.cell (World.block_lt_of_cell? _ _ (hHeld.2.2.2.1))).trans (hHeld.2.2.2.1)
                 have HS4_ := (hb.cell (World.block_lt_of_cell? _ _ (hHeld.2.2.2.2.1))).trans (hHeld.2.2.2.2.1)
                 have HS5_ := (hb.cell (World.block_lt_of_cell? _ _ (hHeld.2.2.2.2.2))).trans (hHeld.2.2.2.2.2)
                 refine ⟨_, rfl, ?_⟩
                 have n0_ := Aside0.mk (Kd.R_below (upR HO_3) hb)
                 have n1_ := Aside0.mk (blk_below (upK BK139) hb)
                 have n2_ := Aside0.mk (below_step (upW HB) hb)
                 clear HO_3
                 clear BK139
                 clear HB
                 have HO_3 := n0_
                 have BK139 := n1_
                 have HB := n2_
                 clear n0_ n1_ n2_
                 (try clear hb)
                 (try clear hb2)
                 (try clear hk)
                 (try clear hi)
                 refine hK.out _ _ ⟨(blk_cell BK139.out 0).trans rfl, (blk_cell BK139.out 1).trans rfl, (blk_cell BK139.out 2).trans rfl, HS3_, HS4_, HS5_⟩ (fun hHeld => ?_)
                 clear hK K
                 refine norm_ (a' := ?_) ?_ ?_
                 rotate_left
                 ·show Act.put _ (some 25) _ = _
                  simp only [Act.put, List.setIfInBounds_toArray, List.set_cons_zero, List.set_cons_succ, i64_w, i32_w]
                  rfl
                 refine pure_ (i := 10) (N := some 26) (v := ?_) (a' := ?_) #[true, true, true, true, true, true, true, true, true, true, true] rfl rfl (any_of HT_.out (by kernel_rfl)) (fun _ _ _ h => h) (Or.inl ⟨by rfl, ?_⟩) ?_ ?_
                 rotate_left
                 ·intro w'
                  go_simp
                  with_reducible rfl
                 rotate_left
                 ·simp only [Act.put, List.setIfInBounds_toArray, List.set_cons_zero, List.set_cons_succ, i64_w, i32_w]
                  rfl
                 refine done_ (done_of HT_.out (by kernel_rfl)) ?_
                 try go_wp2
                 have n0_ := Aside0.mk (Kd.R_drew HO_3.out)
                 have n1_ := Aside0.mk (blk_drew BK139.out)
                 have n2_ := Aside0.mk (below_drew1 HB.out)
                 clear HO_3
                 clear BK139
                 clear HB
                 have HO_3 := n0_
                 have BK139 := n1_
                 have HB := n2_
                 clear n0_ n1_ n2_
                 have q26 : (x6_2 : Int) ≤ ((x3_1.length : Int) : Int) := of_decide_eq_true (by first | (with_reducible assumption) | assumption)
                 obtain ⟨i026, hi026, _, hsz26, _⟩ := info_parts info73
                 have hroom26 : x3_1.length ≤ co7 := (Kd.R_reads' HO_3.out).2.1
                 have hC26 : Kd.C k73 _ (some ad140) x3_1.length x3_1 := (Kd.R_reads' HO_3.out).2.2
                 have hcut26 := cut_to (P := Try.prog) 29 73 .i64 Try.underlying29 hi026 (some ad140) x3_1.length co7 x6_2 (of_decide_eq_true (by first | (with_reducible assumption) | assumption)) q26 hroom26
                 have hr26 := Kd.C_take (m := (x6_2 : Int).toNat) hC26 (by omega)
                 have hy26 : y145.length = (x6_2 : Int).toNat := (by rw [Ny145.out, List.length_take]; omega)
                 rw [← Ny145.out] at hr26
                 rw [← hy26] at hcut26
                 have HR148 := Aside0.mk hr26
                 have HC148 := Aside0.mk (show y145.length ≤ co7 from by omega)
                 clear hr26 hC26 hroom26 hi026 hsz26
                 have KY26 := Aside0.mk hy26
                 clear hy26
                 have KL26 := Aside0.mk (show (x6_2 : Int).toNat ≤ x3_1.length from by omega)
                 replace q26 := eq_true q26
                 refine start_ (n := 9) (S := fun w' => w'.cell? ⟨gb139, 0, none⟩ = some (.int .i64 ((rd_T73 l0 x10_1).f0)) ∧ w'.cell? ⟨gb139, 1, none⟩ = some (.int .i64 ((rd_T73 l0 x10_1).f1)) ∧ w'.cell? ⟨gb139, 2, none⟩ = some (.int .i64 ((rd_T73 l0 x10_1).f2))) (ds := []) #[false, false, false, false, false, false, false, false, false] (by kernel_rfl) rfl rfl ⟨(blk_cell BK139.out 0).trans rfl, (blk_cell BK139.out 1).trans rfl, (blk_cell BK139.out 2).trans rfl⟩ (fun hHeld => ?_); refine with_tabW spec_cuSorted.tab8 spec_cuSorted.bits8 (fun HT_ HW_ => ?_)
                 generalize w24.drew = w25 at HO_3 BK139 HB HR148 hHeld ⊢
                 refine pure_ (i := 1) (N := some 30) (v := ?_) (a' := ?_) #[false, true, false, false, false, false, false, false, false] rfl rfl (any_of HT_.out (by kernel_rfl)) (fun _ _ _ h => h) (Or.inl ⟨by rfl, ?_⟩) ?_ ?_
                 rotate_left
                 ·intro w'
                  go_simp
                  with_reducible rfl
                 rotate_left
                 ·simp only [Act.put, List.setIfInBounds_toArray, List.set_cons_zero, List.set_cons_succ, i64_w, i32_w]
                  rfl
                 refine pure_ (i := 2) (N := some 31) (v := ?_) (a' := ?_) #[false, true, true, false, false, false, false, false, false] rfl rfl (any_of HT_.out (by kernel_rfl)) (fun _ _ _ h => h) (Or.inl ⟨by rfl, ?_⟩) ?_ ?_
                 rotate_left
                 ·intro w'
                  go_simp
                  with_reducible rfl
                 rotate_left
                 ·simp only [Act.put, List.setIfInBounds_toArray, List.set_cons_zero, List.set_cons_succ, i64_w, i32_w]
                  rfl
                 refine pure_ (i := 3) (N := some 32) (v := ?_) (a' := ?_) #[false, true, true, true, false, false, false, false, false] rfl rfl (any_of HT_.out (by kernel_rfl)) (fun _ _ _ h => h) (Or.inl ⟨by rfl, ?_⟩) ?_ ?_
                 rotate_left
                 ·intro w'
                  go_simp
                  with_reducible rfl
                 rotate_left
                 ·simp only [Act.put, List.setIfInBounds_toArray, List.set_cons_zero, List.set_cons_succ, i64_w, i32_w]
                  rfl
                 refine take_ (i := 5) (N := some 34) (v := ?_) (a' := ?_) #[false, true, true, true, false, true, false, false, false] rfl rfl (take_ofW HT_.out HW_.out (by kernel_rfl)) (fun _ _ _ h => h) (Or.inl ⟨by rfl, ?_⟩) hHeld ?_ ?_
                 rotate_left
                 ·rintro w' ⟨s0, s1, s2⟩
                  go_simp
                  with_reducible rfl
                 rotate_left
                 ·simp only [Act.put, List.setIfInBounds_toArray, List.set_cons_zero, List.set_cons_succ, i64_w, i32_w]
                  rfl
                 refine join_ (σ := Value × Value × Value) 2 #[true, true, true, true, true, true, true, false, false] (fun s_ => [(29, s_.1), (33, s_.2.1), (35, s_.2.2)]) (fun s_ w' => (w'.cell? ⟨gb139, 0, none⟩ = some (.int .i64 ((rd_T73 l0 x10_1).f0)) ∧ w'.cell? ⟨gb139, 1, none⟩ = some (.int .i64 ((rd_T73 l0 x10_1).f1)) ∧ w'.cell? ⟨gb139, 2, none⟩ = some (.int .i64 ((rd_T73 l0 x10_1).f2))) ∧ (Kd.R k73 73 w' w.heap.size (fun k_ => some k_ ≠ (s_.2.2 : Value).ownBlock ∧ some k_ ≠ (.slice (some ad140) x3_1.length co7 : Value).ownBlock ∧ k_ ≠ gb139) s_.2.1 y149) ∧ (Kd.R k73 73 w' w.heap.size (fun k_ => some k_ ≠ (s_.2.1 : Value).ownBlock ∧ some k_ ≠ (.slice (some ad140) x3_1.length co7 : Value).ownBlock ∧ k_ ≠ gb139) s_.2.2 y152) ∧ (Kd.R k73 73 w' w.heap.size (fun k_ => some k_ ≠ (s_.2.1 : Value).ownBlock ∧ some k_ ≠ (s_.2.2 : Value).ownBlock ∧ k_ ≠ gb139) (.slice (some ad140) x3_1.length co7) x3_1) ∧ (w'.heap[gb139]? = some (.cells #[.int .i64 ((rd_T73 l0 x10_1).f0), .int .i64 ((rd_T73 l0 x10_1).f1), .int .i64 ((rd_T73 l0 x10_1).f2)] 73 (0, 0))) ∧ (Below w.heap.size w w')) ?_ ?_
                 rotate_left
                 ·intro hCont
                  refine two_ (i := 0) (j := 6) (Ni := some 29) (Nj := some 35) #[true, true, true, true, false, true, false, false, false] #[false, true, true, true, false, true, true, false, false] rfl rfl rfl rfl (two_of HT_.out (by kernel_rfl)) (by decide) (by decide) (fun K hK => ?_) (fun K hK => ?_)
                  ·skip
                   refine Kd.R_lit_step k73 _ 73 ?hg (N := 29) ?hd (xs := ([] : List (S73))) (inner := []) (ok := fun _ => True) (okp := fun _ => True) ?hr ?hp (fun _ hk => hk) trivial (Below.refl _ _) (Nat.le_refl _) (by simp) ?_; (case hd => rfl); (case hg => rfl); (case hr => first | (go_simp; done) | (go_simp; rfl)); (case hp => exact (Reps.none _ _))
                   intro v143 w27 ho28 hb hg_ hnew_
                   clear hg_ hnew_
                   (first | rw [← Ny142.out] at ho28 | (simp only [Int.reduceToNat] at ho28; rw [← Ny142.out] at ho28))
                   have n0_ := Aside0.mk (Kd.R_elder' (upR HO_3) (Kd.R_base ho28) hb)
                   have n1_ := Aside0.mk (Kd.R_lower (Kd.R_newB (Kd.R_new' ho28 (Kd.R_lt (upR HO_3))) (g := gb139) (o := .cells #[.int .i64 ((rd_T73 l0 x10_1).f0), .int .i64 ((rd_T73 l0 x10_1).f1), .int .i64 ((rd_T73 l0 x10_1).f2)] 73 (0, 0)) (upK BK139)) (below_size (upW HB)))
                   have n2_ := Aside0.mk (blk_below (upK BK139) hb)
                   have n3_ := Aside0.mk (Kd.C_below (by repeat (first | (with_reducible exact HR148.out) | (with_reducible refine Kd.C_alloc ?_ _) | (with_reducible refine Kd.C_drewN ?_ _) | (with_reducible refine Kd.C_drew ?_) | exact HR148.out)) hb)
                   have n4_ := Aside0.mk (below_step (upW HB) hb)
                   clear HO_3
                   clear BK139
                   clear HR148
                   clear HB
                   have HO_3 := n0_
                   have HO144 := n1_
                   have BK139 := n2_
                   have HR148 := n3_
                   have HB := n4_
                   clear n0_ n1_ n2_ n3_ n4_
                   clear hb ho28
                   refine hK.out _ _ ⟨(blk_cell BK139.out 0).trans rfl, (blk_cell BK139.out 1).trans rfl, (blk_cell BK139.out 2).trans rfl⟩ (fun hHeld => ?_)
                   clear hK K
                   refine norm_ (a' := ?_) ?_ ?_
                   rotate_left
                   ·show Act.put _ (some 29) _ = _
                    simp only [Act.put, List.setIfInBounds_toArray, List.set_cons_zero, List.set_cons_succ, i64_w, i32_w]
                    rfl
                   refine two_ (i := 4) (j := 6) (Ni := some 33) (Nj := some 35) #[true, true, true, true, true, true, false, false, false] #[true, true, true, true, false, true, true, false, false] rfl rfl rfl rfl (two_of HT_.out (by kernel_rfl)) (by decide) (by decide) (fun K hK => ?_) (fun K hK => ?_)
                   ·skip
                    refine Kd.R_append_rows_step k73 (w0 := w) w.heap.size (by rfl) (.tmp 29) (.tmp 32) 29 73 (.agg #[(.int .i64 0), (.int .i64 0), (.int .i64 0)]) 24 rfl Try.underlying29 info73 rfl (by decide) (by omega) v143 y142 y145 _ _ _ (fun k_ => some k_ ≠ (.slice (some ad140) x3_1.length co7 : Value).ownBlock ∧ k_ ≠ gb139) (fun _ => False) rfl rfl ?aO ?aR (fun _ _ h => h) (fun _ h => h.elim) ?aF ?aB ?aS ?aL ?_
                    (case aR => repeat (first | exact (by repeat (first | (with_reducible exact HR148.out) | (with_reducible refine Kd.C_alloc ?_ _) | (with_reducible refine Kd.C_drewN ?_ _) | (with_reducible refine Kd.C_drew ?_) | exact HR148.out)) | (with_reducible refine Kd.C_alloc ?_ _) | (with_reducible refine Kd.C_drewN ?_ _) | (with_reducible refine Kd.C_drew ?_)))
                    (case aB => exact (upW HB))
                    (case aF => exact (fun k_ hk => ⟨Kd.fresh' (Kd.R_lt (upR HO_3)) k_ hk, Kd.freshB (g := gb139) (o := .cells #[.int .i64 ((rd_T73 l0 x10_1).f0), .int .i64 ((rd_T73 l0 x10_1).f1), .int .i64 ((rd_T73 l0 x10_1).f2)] 73 (0, 0)) (upK BK139) k_ hk⟩))
                    (case aO => exact (by (with_reducible repeat (first | apply Kd.R_alloc | apply Kd.R_drewN | apply Kd.R_drew)); exact Kd.R_mono HO144.out (fun _ hk => ⟨hk.1.2, hk.2⟩)))
                    (case aS => exact (below_size (upW HB)))
                    (case aL => have := LMc18.out; omega)
                    intro v150 w29 ho hb hg hat
                    rw [← Ny149.out] at ho
                    have n0_ := Aside0.mk (Kd.R_after (ok := (fun k_ => k_ ≠ gb139)) (upR HO_3) hg hat)
                    have n1_ := Aside0.mk (blk_grown (upK BK139) hg (Kd.R_away HO144.out (fun _ hk => hk.2)))
                    have n2_ := Aside0.mk (hb)
                    have n3_ := Aside0.mk ((show Kd.C k73 w29 (some ad140) y145.length y145 from by rw [Ny145.out]; exact Kd.C_take (m := (x6_2 : Int).toNat) ((Kd.R_reads' (Kd.R_after (ok := (fun k_ => k_ ≠ gb139)) (upR HO_3) hg hat)).2.2) KL26.out))
                    have n4_ := Aside0.mk (ho)
                    clear HO_3
                    clear BK139
                    clear HB
                    clear HR148
                    clear HO144
                    have HO_3 := n0_
                    have BK139 := n1_
                    have HB := n2_
                    have HR148 := n3_
                    have HO151 := n4_
                    clear n0_ n1_ n2_ n3_ n4_
                    clear ho hb hg hat
                    refine hK.out _ _ ⟨(blk_cell BK139.out 0).trans rfl, (blk_cell BK139.out 1).trans rfl, (blk_cell BK139.out 2).trans rfl⟩ (fun hHeld => ?_)
                    clear hK K
                    refine norm_ (a' := ?_) ?_ ?_
                    rotate_left
                    ·show Act.put _ (some 33) _ = _
                     simp only [Act.put, List.setIfInBounds_toArray, List.set_cons_zero, List.set_cons_succ, i64_w, i32_w]
                     rfl
                    refine one_ (i := 6) (N := some 35) #[true, true, true, true, true, true, true, false, false] rfl rfl (one_of HT_.out (by kernel_rfl)) (by decide) (fun K hK => ?_)
                    refine Kd.R_lit_step k73 _ 73 ?hg (N := 35) ?hd (xs := ([(⟨((rd_T73 l0 x10_1).f0), ((rd_T73 l0 x10_1).f1), ((rd_T73 l0 x10_1).f2)⟩ : S73)] : List (S73))) (inner := [.int .i64 ((rd_T73 l0 x10_1).f0), .int .i64 ((rd_T73 l0 x10_1).f1), .int .i64 ((rd_T73 l0 x10_1).f2)]) (ok := fun _ => True) (okp := fun _ => True) ?hr ?hp (fun _ hk => hk) trivial (Below.refl _ _) (Nat.le_refl _) (by simp) ?_; (case hd => rfl); (case hg => rfl); (case hr => first | (go_simp; done) | (go_simp; rfl)); (case hp => exact (Reps.c3 (show Kd.M k73 _ _ _ (⟨((rd_T73 l0 x10_1).f0), ((rd_T73 l0 x10_1).f1), ((rd_T73 l0 x10_1).f2)⟩ : S73) [.int .i64 ((rd_T73 l0 x10_1).f0), .int .i64 ((rd_T73 l0 x10_1).f1), .int .i64 ((rd_T73 l0 x10_1).f2)] from (k73_mkM _ _ _ (⟨((rd_T73 l0 x10_1).f0), ((rd_T73 l0 x10_1).f1), ((rd_T73 l0 x10_1).f2)⟩ : S73) )) (Reps.none _ _)))
                    intro v153 w30 ho31 hb hg_ hnew_
                    clear hg_ hnew_
                    (first | rw [← Ny152.out] at ho31 | (simp only [Int.reduceToNat] at ho31; rw [← Ny152.out] at ho31))
                    have n0_ := Aside0.mk (Kd.R_elder' (upR HO_3) (Kd.R_base ho31) hb)
                    have n1_ := Aside0.mk (Kd.R_elder' (upR HO151) (Kd.R_base ho31) hb)
                    have n2_ := Aside0.mk (Kd.R_lower (Kd.R_newB (Kd.R_new' (Kd.R_new' ho31 (Kd.R_lt (upR HO_3))) (Kd.R_lt (upR HO151))) (g := gb139) (o := .cells #[.int .i64 ((rd_T73 l0 x10_1).f0), .int .i64 ((rd_T73 l0 x10_1).f1), .int .i64 ((rd_T73 l0 x10_1).f2)] 73 (0, 0)) (upK BK139)) (below_size (upW HB)))
                    have n3_ := Aside0.mk (blk_below (upK BK139) hb)
                    have n4_ := Aside0.mk (Kd.C_below (by repeat (first | (with_reducible exact HR148.out) | (with_reducible refine Kd.C_alloc ?_ _) | (with_reducible refine Kd.C_drewN ?_ _) | (with_reducible refine Kd.C_drew ?_) | exact HR148.out)) hb)
                    have n5_ := Aside0.mk (below_step (upW HB) hb)
                    clear HO_3
                    clear HO151
                    clear BK139
                    clear HR148
                    clear HB
                    have HO_3 := n0_
                    have HO151 := n1_
                    have HO154 := n2_
                    have BK139 := n3_
                    have HR148 := n4_
                    have HB := n5_
                    clear n0_ n1_ n2_ n3_ n4_ n5_
                    clear hb ho31
                    refine hK.out _ _ ⟨(blk_cell BK139.out 0).trans rfl, (blk_cell BK139.out 1).trans rfl, (blk_cell BK139.out 2).trans rfl⟩ (fun hHeld => ?_)
                    clear hK K
                    refine norm_ (a' := ?_) ?_ ?_
                    rotate_left
                    ·show Act.put _ (some 35) _ = _
                     simp only [Act.put, List.setIfInBounds_toArray, List.set_cons_zero, List.set_cons_succ, i64_w, i32_w]
                     rfl
                    exact norm_ (by simp only [putAll, Act.put, List.setIfInBounds_toArray, List.set_cons_zero, List.set_cons_succ]) (hCont (v143, v150, v153) _ ⟨hHeld, (by (with_reducible repeat (first | apply Kd.R_alloc | apply Kd.R_drewN | apply Kd.R_drew)); exact Kd.R_mono HO151.out (fun _ hk => ⟨hk.2, ⟨hk.1.1, hk.1.2⟩⟩)), (by (with_reducible repeat (first | apply Kd.R_alloc | apply Kd.R_drewN | apply Kd.R_drew)); exact Kd.R_mono HO154.out (fun _ hk => ⟨hk.1.2, ⟨hk.1.1.2, hk.2⟩⟩)), (by (with_reducible repeat (first | apply Kd.R_alloc | apply Kd.R_drewN | apply Kd.R_drew)); exact Kd.R_mono HO_3.out (fun _ hk => ⟨hk.1.2, ⟨hk.2, hk.1.1⟩⟩)), (upK BK139), (upW HB)⟩)
                   ·skip
                    refine Kd.R_lit_step k73 _ 73 ?hg (N := 35) ?hd (xs := ([(⟨((rd_T73 l0 x10_1).f0), ((rd_T73 l0 x10_1).f1), ((rd_T73 l0 x10_1).f2)⟩ : S73)] : List (S73))) (inner := [.int .i64 ((rd_T73 l0 x10_1).f0), .int .i64 ((rd_T73 l0 x10_1).f1), .int .i64 ((rd_T73 l0 x10_1).f2)]) (ok := fun _ => True) (okp := fun _ => True) ?hr ?hp (fun _ hk => hk) trivial (Below.refl _ _) (Nat.le_refl _) (by simp) ?_; (case hd => rfl); (case hg => rfl); (case hr => first | (go_simp; done) | (go_simp; rfl)); (case hp => exact (Reps.c3 (show Kd.M k73 _ _ _ (⟨((rd_T73 l0 x10_1).f0), ((rd_T73 l0 x10_1).f1), ((rd_T73 l0 x10_1).f2)⟩ : S73) [.int .i64 ((rd_T73 l0 x10_1).f0), .int .i64 ((rd_T73 l0 x10_1).f1), .int .i64 ((rd_T73 l0 x10_1).f2)] from (k73_mkM _ _ _ (⟨((rd_T73 l0 x10_1).f0), ((rd_T73 l0 x10_1).f1), ((rd_T73 l0 x10_1).f2)⟩ : S73) )) (Reps.none _ _)))
                    intro v153 w29 ho30 hb hg_ hnew_
                    clear hg_ hnew_
                    (first | rw [← Ny152.out] at ho30 | (simp only [Int.reduceToNat] at ho30; rw [← Ny152.out] at ho30))
                    have n0_ := Aside0.mk (Kd.R_elder' (upR HO_3) (Kd.R_base ho30) hb)
                    have n1_ := Aside0.mk (Kd.R_elder' (upR HO144) (Kd.R_base ho30) hb)
                    have n2_ := Aside0.mk (Kd.R_lower (Kd.R_newB (Kd.R_new' (Kd.R_new' ho30 (Kd.R_lt (upR HO_3))) (Kd.R_lt (upR HO144))) (g := gb139) (o := .cells #[.int .i64 ((rd_T73 l0 x10_1).f0), .int .i64 ((rd_T73 l0 x10_1).f1), .int .i64 ((rd_T73 l0 x10_1).f2)] 73 (0, 0)) (upK BK139)) (below_size (upW HB)))
                    have n3_ := Aside0.mk (blk_below (upK BK139) hb)
                    have n4_ := Aside0.mk (Kd.C_below (by repeat (first | (with_reducible exact HR148.out) | (with_reducible refine Kd.C_alloc ?_ _) | (with_reducible refine Kd.C_drewN ?_ _) | (with_reducible refine Kd.C_drew ?_) | exact HR148.out)) hb)
                    have n5_ := Aside0.mk (below_step (upW HB) hb)
                    clear HO_3
                    clear HO144
                    clear BK139
                    clear HR148
                    clear HB
                    have HO_3 := n0_
                    have HO144 := n1_
                    have HO154 := n2_
                    have BK139 := n3_
                    have HR148 := n4_
                    have HB := n5_
                    clear n0_ n1_ n2_ n3_ n4_ n5_
                    clear hb ho30
                    refine hK.out _ _ ⟨(blk_cell BK139.out 0).trans rfl, (blk_cell BK139.out 1).trans rfl, (blk_cell BK139.out 2).trans rfl⟩ (fun hHeld => ?_)
                    clear hK K
                    refine norm_ (a' := ?_) ?_ ?_
                    rotate_left
                    ·show Act.put _ (some 35) _ = _
                     simp only [Act.put, List.setIfInBounds_toArray, List.set_cons_zero, List.set_cons_succ, i64_w, i32_w]
                     rfl
                    refine one_ (i := 4) (N := some 33) #[true, true, true, true, true, true, true, false, false] rfl rfl (one_of HT_.out (by kernel_rfl)) (by decide) (fun K hK => ?_)
                    refine Kd.R_append_rows_step k73 (w0 := w) w.heap.size (by rfl) (.tmp 29) (.tmp 32) 29 73 (.agg #[(.int .i64 0), (.int .i64 0), (.int .i64 0)]) 24 rfl Try.underlying29 info73 rfl (by decide) (by omega) v143 y142 y145 _ _ _ (fun k_ => some k_ ≠ (.slice (some ad140) x3_1.length co7 : Value).ownBlock ∧ some k_ ≠ (v153 : Value).ownBlock ∧ k_ ≠ gb139) (fun _ => False) rfl rfl ?aO ?aR (fun _ _ h => h) (fun _ h => h.elim) ?aF ?aB ?aS ?aL ?_
                    (case aR => repeat (first | exact (by repeat (first | (with_reducible exact HR148.out) | (with_reducible refine Kd.C_alloc ?_ _) | (with_reducible refine Kd.C_drewN ?_ _) | (with_reducible refine Kd.C_drew ?_) | exact HR148.out)) | (with_reducible refine Kd.C_alloc ?_ _) | (with_reducible refine Kd.C_drewN ?_ _) | (with_reducible refine Kd.C_drew ?_)))
                    (case aB => exact (upW HB))
                    (case aF => exact (fun k_ hk => ⟨Kd.fresh' (Kd.R_lt (upR HO_3)) k_ hk, Kd.fresh' (Kd.R_lt (upR HO154)) k_ hk, Kd.freshB (g := gb139) (o := .cells #[.int .i64 ((rd_T73 l0 x10_1).f0), .int .i64 ((rd_T73 l0 x10_1).f1), .int .i64 ((rd_T73 l0 x10_1).f2)] 73 (0, 0)) (upK BK139) k_ hk⟩))
                    (case aO => exact (by (with_reducible repeat (first | apply Kd.R_alloc | apply Kd.R_drewN | apply Kd.R_drew)); exact Kd.R_mono HO144.out (fun _ hk => ⟨hk.1.1.2, ⟨hk.2, hk.1.2⟩⟩)))
                    (case aS => exact (below_size (upW HB)))
                    (case aL => have := LMc18.out; omega)
                    intro v150 w31 ho hb hg hat
                    rw [← Ny149.out] at ho
                    have n0_ := Aside0.mk (Kd.R_after (ok := (fun k_ => some k_ ≠ (v153 : Value).ownBlock ∧ k_ ≠ gb139)) (by (with_reducible repeat (first | apply Kd.R_alloc | apply Kd.R_drewN | apply Kd.R_drew)); exact Kd.R_mono HO_3.out (fun _ hk => ⟨⟨hk.2, hk.1.1⟩, hk.1.2⟩)) hg hat)
                    have n1_ := Aside0.mk (blk_grown (upK BK139) hg (Kd.R_away HO144.out (fun _ hk => hk.1.2)))
                    have n2_ := Aside0.mk (Kd.R_after (ok := (fun k_ => some k_ ≠ (.slice (some ad140) x3_1.length co7 : Value).ownBlock ∧ k_ ≠ gb139)) (by (with_reducible repeat (first | apply Kd.R_alloc | apply Kd.R_drewN | apply Kd.R_drew)); exact Kd.R_mono HO154.out (fun _ hk => ⟨⟨hk.1.1.2, hk.2⟩, hk.1.2⟩)) hg hat)
                    have n3_ := Aside0.mk (hb)
                    have n4_ := Aside0.mk ((show Kd.C k73 w31 (some ad140) y145.length y145 from by rw [Ny145.out]; exact Kd.C_take (m := (x6_2 : Int).toNat) ((Kd.R_reads' (Kd.R_after (ok := (fun k_ => some k_ ≠ (v153 : Value).ownBlock ∧ k_ ≠ gb139)) (by (with_reducible repeat (first | apply Kd.R_alloc | apply Kd.R_drewN | apply Kd.R_drew)); exact Kd.R_mono HO_3.out (fun _ hk => ⟨⟨hk.2, hk.1.1⟩, hk.1.2⟩)) hg hat)).2.2) KL26.out))
                    have n5_ := Aside0.mk (ho)
                    clear HO_3
                    clear BK139
                    clear HO154
                    clear HB
                    clear HR148
                    clear HO144
                    have HO_3 := n0_
                    have BK139 := n1_
                    have HO154 := n2_
                    have HB := n3_
                    have HR148 := n4_
                    have HO151 := n5_
                    clear n0_ n1_ n2_ n3_ n4_ n5_
                    clear ho hb hg hat
                    refine hK.out _ _ ⟨(blk_cell BK139.out 0).trans rfl, (blk_cell BK139.out 1).trans rfl, (blk_cell BK139.out 2).trans rfl⟩ (fun hHeld => ?_)
                    clear hK K
                    refine norm_ (a' := ?_) ?_ ?_
                    rotate_left
                    ·show Act.put _ (some 33) _ = _
                     simp only [Act.put, List.setIfInBounds_toArray, List.set_cons_zero, List.set_cons_succ, i64_w, i32_w]
                     rfl
                    exact norm_ (by simp only [putAll, Act.put, List.setIfInBounds_toArray, List.set_cons_zero, List.set_cons_succ]) (hCont (v143, v150, v153) _ ⟨hHeld, (by (with_reducible repeat (first | apply Kd.R_alloc | apply Kd.R_drewN | apply Kd.R_drew)); exact Kd.R_mono HO151.out (fun _ hk => ⟨hk.2.1, ⟨hk.1, hk.2.2⟩⟩)), (by (with_reducible repeat (first | apply Kd.R_alloc | apply Kd.R_drewN | apply Kd.R_drew)); exact Kd.R_mono HO154.out (fun _ hk => ⟨hk.2, ⟨hk.1.1, hk.1.2⟩⟩)), (by (with_reducible repeat (first | apply Kd.R_alloc | apply Kd.R_drewN | apply Kd.R_drew)); exact Kd.R_mono HO_3.out (fun _ hk => ⟨hk.2, ⟨hk.1.1, hk.1.2⟩⟩)), (upK BK139), (upW HB)⟩)
                  ·skip
                   refine Kd.R_lit_step k73 _ 73 ?hg (N := 35) ?hd (xs := ([(⟨((rd_T73 l0 x10_1).f0), ((rd_T73 l0 x10_1).f1), ((rd_T73 l0 x10_1).f2)⟩ : S73)] : List (S73))) (inner := [.int .i64 ((rd_T73 l0 x10_1).f0), .int .i64 ((rd_T73 l0 x10_1).f1), .int .i64 ((rd_T73 l0 x10_1).f2)]) (ok := fun _ => True) (okp := fun _ => True) ?hr ?hp (fun _ hk => hk) trivial (Below.refl _ _) (Nat.le_refl _) (by simp) ?_; (case hd => rfl); (case hg => rfl); (case hr => first | (go_simp; done) | (go_simp; rfl)); (case hp => exact (Reps.c3 (show Kd.M k73 _ _ _ (⟨((rd_T73 l0 x10_1).f0), ((rd_T73 l0 x10_1).f1), ((rd_T73 l0 x10_1).f2)⟩ : S73) [.int .i64 ((rd_T73 l0 x10_1).f0), .int .i64 ((rd_T73 l0 x10_1).f1), .int .i64 ((rd_T73 l0 x10_1).f2)] from (k73_mkM _ _ _ (⟨((rd_T73 l0 x10_1).f0), ((rd_T73 l0 x10_1).f1), ((rd_T73 l0 x10_1).f2)⟩ : S73) )) (Reps.none _ _)))
                   intro v153 w27 ho28 hb hg_ hnew_
                   clear hg_ hnew_
                   (first | rw [← Ny152.out] at ho28 | (simp only [Int.reduceToNat] at ho28; rw [← Ny152.out] at ho28))
                   have n0_ := Aside0.mk (Kd.R_elder' (upR HO_3) (Kd.R_base ho28) hb)
                   have n1_ := Aside0.mk (Kd.R_lower (Kd.R_newB (Kd.R_new' ho28 (Kd.R_lt (upR HO_3))) (g := gb139) (o := .cells #[.int .i64 ((rd_T73 l0 x10_1).f0), .int .i64 ((rd_T73 l0 x10_1).f1), .int .i64 ((rd_T73 l0 x10_1).f2)] 73 (0, 0)) (upK BK139)) (below_size (upW HB)))
                   have n2_ := Aside0.mk (blk_below (upK BK139) hb)
                   have n3_ := Aside0.mk (Kd.C_below (by repeat (first | (with_reducible exact HR148.out) | (with_reducible refine Kd.C_alloc ?_ _) | (with_reducible refine Kd.C_drewN ?_ _) | (with_reducible refine Kd.C_drew ?_) | exact HR148.out)) hb)
                   have n4_ := Aside0.mk (below_step (upW HB) hb)
                   clear HO_3
                   clear BK139
                   clear HR148
                   clear HB
                   have HO_3 := n0_
                   have HO154 := n1_
                   have BK139 := n2_
                   have HR148 := n3_
                   have HB := n4_
                   clear n0_ n1_ n2_ n3_ n4_
                   clear hb ho28
                   refine hK.out _ _ ⟨(blk_cell BK139.out 0).trans rfl, (blk_cell BK139.out 1).trans rfl, (blk_cell BK139.out 2).trans rfl⟩ (fun hHeld => ?_)
                   clear hK K
                   refine norm_ (a' := ?_) ?_ ?_
                   rotate_left
                   ·show Act.put _ (some 35) _ = _
                    simp only [Act.put, List.setIfInBounds_toArray, List.set_cons_zero, List.set_cons_succ, i64_w, i32_w]
                    rfl
                   refine one_ (i := 0) (N := some 29) #[true, true, true, true, false, true, true, false, false] rfl rfl (one_of HT_.out (by kernel_rfl)) (by decide) (fun K hK => ?_)
                   refine Kd.R_lit_step k73 _ 73 ?hg (N := 29) ?hd (xs := ([] : List (S73))) (inner := []) (ok := fun _ => True) (okp := fun _ => True) ?hr ?hp (fun _ hk => hk) trivial (Below.refl _ _) (Nat.le_refl _) (by simp) ?_; (case hd => rfl); (case hg => rfl); (case hr => first | (go_simp; done) | (go_simp; rfl)); (case hp => exact (Reps.none _ _))
                   intro v143 w29 ho30 hb hg_ hnew_
                   clear hg_ hnew_
                   (first | rw [← Ny142.out] at ho30 | (simp only [Int.reduceToNat] at ho30; rw [← Ny142.out] at ho30))
                   have n0_ := Aside0.mk (Kd.R_elder' (upR HO_3) (Kd.R_base ho30) hb)
                   have n1_ := Aside0.mk (Kd.R_elder' (upR HO154) (Kd.R_base ho30) hb)
                   have n2_ := Aside0.mk (Kd.R_lower (Kd.R_newB (Kd.R_new' (Kd.R_new' ho30 (Kd.R_lt (upR HO_3))) (Kd.R_lt (upR HO154))) (g := gb139) (o := .cells #[.int .i64 ((rd_T73 l0 x10_1).f0), .int .i64 ((rd_T73 l0 x10_1).f1), .int .i64 ((rd_T73 l0 x10_1).f2)] 73 (0, 0)) (upK BK139)) (below_size (upW HB)))
                   have n3_ := Aside0.mk (blk_below (upK BK139) hb)
                   have n4_ := Aside0.mk (Kd.C_below (by repeat (first | (with_reducible exact HR148.out) | (with_reducible refine Kd.C_alloc ?_ _) | (with_reducible refine Kd.C_drewN ?_ _) | (with_reducible refine Kd.C_drew ?_) | exact HR148.out)) hb)
                   have n5_ := Aside0.mk (below_step (upW HB) hb)
                   clear HO_3
                   clear HO154
                   clear BK139
                   clear HR148
                   clear HB
                   have HO_3 := n0_
                   have HO154 := n1_
                   have HO144 := n2_
                   have BK139 := n3_
                   have HR148 := n4_
                   have HB := n5_
                   clear n0_ n1_ n2_ n3_ n4_ n5_
                   clear hb ho30
                   refine hK.out _ _ ⟨(blk_cell BK139.out 0).trans rfl, (blk_cell BK139.out 1).trans rfl, (blk_cell BK139.out 2).trans rfl⟩ (fun hHeld => ?_)
                   clear hK K
                   refine norm_ (a' := ?_) ?_ ?_
                   rotate_left
                   ·show Act.put _ (some 29) _ = _
                    simp only [Act.put, List.setIfInBounds_toArray, List.set_cons_zero, List.set_cons_succ, i64_w, i32_w]
                    rfl
                   refine one_ (i := 4) (N := some 33) #[true, true, true, true, true, true, true, false, false] rfl rfl (one_of HT_.out (by kernel_rfl)) (by decide) (fun K hK => ?_)
                   refine Kd.R_append_rows_step k73 (w0 := w) w.heap.size (by rfl) (.tmp 29) (.tmp 32) 29 73 (.agg #[(.int .i64 0), (.int .i64 0), (.int .i64 0)]) 24 rfl Try.underlying29 info73 rfl (by decide) (by omega) v143 y142 y145 _ _ _ (fun k_ => some k_ ≠ (.slice (some ad140) x3_1.length co7 : Value).ownBlock ∧ some k_ ≠ (v153 : Value).ownBlock ∧ k_ ≠ gb139) (fun _ => False) rfl rfl ?aO ?aR (fun _ _ h => h) (fun _ h => h.elim) ?aF ?aB ?aS ?aL ?_
                   (case aR => repeat (first | exact (by repeat (first | (with_reducible exact HR148.out) | (with_reducible refine Kd.C_alloc ?_ _) | (with_reducible refine Kd.C_drewN ?_ _) | (with_reducible refine Kd.C_drew ?_) | exact HR148.out)) | (with_reducible refine Kd.C_alloc ?_ _) | (with_reducible refine Kd.C_drewN ?_ _) | (with_reducible refine Kd.C_drew ?_)))
                   (case aB => exact (upW HB))
                   (case aF => exact (fun k_ hk => ⟨Kd.fresh' (Kd.R_lt (upR HO_3)) k_ hk, Kd.fresh' (Kd.R_lt (upR HO154)) k_ hk, Kd.freshB (g := gb139) (o := .cells #[.int .i64 ((rd_T73 l0 x10_1).f0), .int .i64 ((rd_T73 l0 x10_1).f1), .int .i64 ((rd_T73 l0 x10_1).f2)] 73 (0, 0)) (upK BK139) k_ hk⟩))
                   (case aO => exact (by (with_reducible repeat (first | apply Kd.R_alloc | apply Kd.R_drewN | apply Kd.R_drew)); exact Kd.R_mono HO144.out (fun _ hk => ⟨hk.1.1.2, ⟨hk.1.2, hk.2⟩⟩)))
                   (case aS => exact (below_size (upW HB)))
                   (case aL => have := LMc18.out; omega)
                   intro v150 w31 ho hb hg hat
                   rw [← Ny149.out] at ho
                   have n0_ := Aside0.mk (Kd.R_after (ok := (fun k_ => some k_ ≠ (v153 : Value).ownBlock ∧ k_ ≠ gb139)) (by (with_reducible repeat (first | apply Kd.R_alloc | apply Kd.R_drewN | apply Kd.R_drew)); exact Kd.R_mono HO_3.out (fun _ hk => ⟨⟨hk.1.2, hk.1.1⟩, hk.2⟩)) hg hat)
                   have n1_ := Aside0.mk (blk_grown (upK BK139) hg (Kd.R_away HO144.out (fun _ hk => hk.2)))
                   have n2_ := Aside0.mk (Kd.R_after (ok := (fun k_ => some k_ ≠ (.slice (some ad140) x3_1.length co7 : Value).ownBlock ∧ k_ ≠ gb139)) (by (with_reducible repeat (first | apply Kd.R_alloc | apply Kd.R_drewN | apply Kd.R_drew)); exact Kd.R_mono HO154.out (fun _ hk => ⟨⟨hk.1.1.2, hk.1.2⟩, hk.2⟩)) hg hat)
                   have n3_ := Aside0.mk (hb)
                   have n4_ := Aside0.mk ((show Kd.C k73 w31 (some ad140) y145.length y145 from by rw [Ny145.out]; exact Kd.C_take (m := (x6_2 : Int).toNat) ((Kd.R_reads' (Kd.R_after (ok := (fun k_ => some k_ ≠ (v153 : Value).ownBlock ∧ k_ ≠ gb139)) (by (with_reducible repeat (first | apply Kd.R_alloc | apply Kd.R_drewN | apply Kd.R_drew)); exact Kd.R_mono HO_3.out (fun _ hk => ⟨⟨hk.1.2, hk.1.1⟩, hk.2⟩)) hg hat)).2.2) KL26.out))
                   have n5_ := Aside0.mk (ho)
                   clear HO_3
                   clear BK139
                   clear HO154
                   clear HB
                   clear HR148
                   clear HO144
                   have HO_3 := n0_
                   have BK139 := n1_
                   have HO154 := n2_
                   have HB := n3_
                   have HR148 := n4_
                   have HO151 := n5_
                   clear n0_ n1_ n2_ n3_ n4_ n5_
                   clear ho hb hg hat
                   refine hK.out _ _ ⟨(blk_cell BK139.out 0).trans rfl, (blk_cell BK139.out 1).trans rfl, (blk_cell BK139.out 2).trans rfl⟩ (fun hHeld => ?_)
                   clear hK K
                   refine norm_ (a' := ?_) ?_ ?_
                   rotate_left
                   ·show Act.put _ (some 33) _ = _
                    simp only [Act.put, List.setIfInBounds_toArray, List.set_cons_zero, List.set_cons_succ, i64_w, i32_w]
                    rfl
                   exact norm_ (by simp only [putAll, Act.put, List.setIfInBounds_toArray, List.set_cons_zero, List.set_cons_succ]) (hCont (v143, v150, v153) _ ⟨hHeld, (by (with_reducible repeat (first | apply Kd.R_alloc | apply Kd.R_drewN | apply Kd.R_drew)); exact Kd.R_mono HO151.out (fun _ hk => ⟨hk.2.1, ⟨hk.1, hk.2.2⟩⟩)), (by (with_reducible repeat (first | apply Kd.R_alloc | apply Kd.R_drewN | apply Kd.R_drew)); exact Kd.R_mono HO154.out (fun _ hk => ⟨hk.2, ⟨hk.1.1, hk.1.2⟩⟩)), (by (with_reducible repeat (first | apply Kd.R_alloc | apply Kd.R_drewN | apply Kd.R_drew)); exact Kd.R_mono HO_3.out (fun _ hk => ⟨hk.2, ⟨hk.1.1, hk.1.2⟩⟩)), (upK BK139), (upW HB)⟩)
                 rintro ⟨v143, v150, v153⟩ w32 ⟨hS_, h0_, h1_, h2_, h3_, h4_⟩
                 have n0_ : Aside0 (Kd.R k73 73 w32 w.heap.size (fun k_ => some k_ ≠ (v153 : Value).ownBlock ∧ some k_ ≠ (.slice (some ad140) x3_1.length co7 : Value).ownBlock ∧ k_ ≠ gb139) v150 y149) := ⟨h0_⟩
                 have n1_ : Aside0 (Kd.R k73 73 w32 w.heap.size (fun k_ => some k_ ≠ (v150 : Value).ownBlock ∧ some k_ ≠ (.slice (some ad140) x3_1.length co7 : Value).ownBlock ∧ k_ ≠ gb139) v153 y152) := ⟨h1_⟩
                 have n2_ : Aside0 (Kd.R k73 73 w32 w.heap.size (fun k_ => some k_ ≠ (v150 : Value).ownBlock ∧ some k_ ≠ (v153 : Value).ownBlock ∧ k_ ≠ gb139) (.slice (some ad140) x3_1.length co7) x3_1) := ⟨h2_⟩
                 have n3_ : Aside0 (w32.heap[gb139]? = some (.cells #[.int .i64 ((rd_T73 l0 x10_1).f0), .int .i64 ((rd_T73 l0 x10_1).f1), .int .i64 ((rd_T73 l0 x10_1).f2)] 73 (0, 0))) := ⟨h3_⟩
                 have n4_ : Aside0 (Below w.heap.size w w32) := ⟨h4_⟩
                 clear HO_3
                 clear BK139
                 clear HB
                 clear h0_ h1_ h2_ h3_ h4_
                 have HO151 := n0_
                 have HO154 := n1_
                 have HO_3 := n2_
                 have BK139 := n3_
                 have HB := n4_
                 clear n0_ n1_ n2_ n3_ n4_
                 have hHeld : w32.cell? ⟨gb139, 0, none⟩ = some (.int .i64 ((rd_T73 l0 x10_1).f0)) ∧ w32.cell? ⟨gb139, 1, none⟩ = some (.int .i64 ((rd_T73 l0 x10_1).f1)) ∧ w32.cell? ⟨gb139, 2, none⟩ = some (.int .i64 ((rd_T73 l0 x10_1).f2)) := hS_
                 obtain ⟨Ao34, co34, eo34⟩ := Kd.R_slice HO154.out
                 (first | subst eo34 | (injection eo34 with f1_ f2_ f3_; have f4_ := f1_.symm; have f5_ := f3_.symm; clear f1_ f2_ f3_; subst f4_; subst f5_))
                 refine norm_ (a' := ?_) ?_ ?_
                 rotate_left
                 ·simp only [putAll, Act.put, List.setIfInBounds_toArray, List.set_cons_zero, List.set_cons_succ]
                  rfl
                 refine one_ (i := 7) (N := some 36) #[true, true, true, true, true, true, true, true, false] rfl rfl (one_of HT_.out (by kernel_rfl)) (by decide) (fun K hK => ?_)
                 refine Kd.R_append_rows_step k73 (w0 := w) w.heap.size (by rfl) (.tmp 33) (.tmp 35) 29 73 (.agg #[(.int .i64 0), (.int .i64 0), (.int .i64 0)]) 24 rfl Try.underlying29 info73 rfl (by decide) (by omega) v150 y149 y152 _ _ _ (fun k_ => some k_ ≠ (.slice (some ad140) x3_1.length co7 : Value).ownBlock ∧ some k_ ≠ (.slice Ao34 y152.length co34 : Value).ownBlock ∧ k_ ≠ gb139) (fun _ => False) rfl rfl ?aO ?aR (fun _ _ h => h) (fun _ h => h.elim) ?aF ?aB ?aS ?aL ?_
                 (case aR => repeat (first | exact (Kd.R_reads' HO154.out).2.2 | (with_reducible refine Kd.C_alloc ?_ _) | (with_reducible refine Kd.C_drewN ?_ _) | (with_reducible refine Kd.C_drew ?_)))
                 (case aB => exact (upW HB))
                 (case aF => exact (fun k_ hk => ⟨Kd.fresh' (Kd.R_lt (upR HO_3)) k_ hk, Kd.fresh' (Kd.R_lt (upR HO154)) k_ hk, Kd.freshB (g := gb139) (o := .cells #[.int .i64 ((rd_T73 l0 x10_1).f0), .int .i64 ((rd_T73 l0 x10_1).f1), .int .i64 ((rd_T73 l0 x10_1).f2)] 73 (0, 0)) (upK BK139) k_ hk⟩))
                 (case aO => exact (by (with_reducible repeat (first | apply Kd.R_alloc | apply Kd.R_drewN | apply Kd.R_drew)); exact Kd.R_mono HO151.out (fun _ hk => ⟨hk.2.1, ⟨hk.1, hk.2.2⟩⟩)))
                 (case aS => exact (below_size (upW HB)))
                 (case aL => have := LMc19.out; omega)
                 intro v156 w33 ho hb hg hat
                 rw [← Ny155.out] at ho
                 have n0_ := Aside0.mk (Kd.R_after (ok := (fun k_ => some k_ ≠ (.slice Ao34 y152.length co34 : Value).ownBlock ∧ k_ ≠ gb139)) (by (with_reducible repeat (first | apply Kd.R_alloc | apply Kd.R_drewN | apply Kd.R_drew)); exact Kd.R_mono HO_3.out (fun _ hk => ⟨⟨hk.2.1, hk.2.2⟩, hk.1⟩)) hg hat)
                 have n1_ := Aside0.mk (blk_grown (upK BK139) hg (Kd.R_away HO151.out (fun _ hk => hk.2.2)))
                 have n2_ := Aside0.mk (Kd.R_after (ok := (fun k_ => some k_ ≠ (.slice (some ad140) x3_1.length co7 : Value).ownBlock ∧ k_ ≠ gb139)) (by (with_reducible repeat (first | apply Kd.R_alloc | apply Kd.R_drewN | apply Kd.R_drew)); exact Kd.R_mono HO154.out (fun _ hk => ⟨⟨hk.2.1, hk.2.2⟩, hk.1⟩)) hg hat)
                 have n3_ := Aside0.mk (hb)
                 have n4_ := Aside0.mk (ho)
                 clear HO_3
                 clear BK139
                 clear HO154
                 clear HB
                 clear HO151
                 have HO_3 := n0_
                 have BK139 := n1_
                 have HO154 := n2_
                 have HB := n3_
                 have HO157 := n4_
                 clear n0_ n1_ n2_ n3_ n4_
                 clear ho hb hg hat
                 refine hK.out _ _ ⟨(blk_cell BK139.out 0).trans rfl, (blk_cell BK139.out 1).trans rfl, (blk_cell BK139.out 2).trans rfl⟩ (fun hHeld => ?_)
                 clear hK K
                 refine norm_ (a' := ?_) ?_ ?_
                 rotate_left
                 ·show Act.put _ (some 36) _ = _
                  simp only [Act.put, List.setIfInBounds_toArray, List.set_cons_zero, List.set_cons_succ, i64_w, i32_w]
                  rfl
                 refine pure_ (i := 8) (N := some 7) (v := ?_) (a' := ?_) #[true, true, true, true, true, true, true, true, true] rfl rfl (any_of HT_.out (by kernel_rfl)) (fun _ _ _ h => h) (Or.inl ⟨by rfl, ?_⟩) ?_ ?_
                 rotate_left
                 ·intro w'
                  go_simp
                  with_reducible rfl
                 rotate_left
                 ·simp only [Act.put, List.setIfInBounds_toArray, List.set_cons_zero, List.set_cons_succ, i64_w, i32_w]
                  rfl
                 refine done_ (done_of HT_.out (by kernel_rfl)) ?_
                 have q35 : (x6_2 : Int) ≤ ((x3_1.length : Int) : Int) := of_decide_eq_true (by first | (with_reducible assumption) | assumption)
                 obtain ⟨i035, hi035, _, hsz35, _⟩ := info_parts info73
                 have hroom35 : x3_1.length ≤ co7 := (Kd.R_reads' HO_3.out).2.1
                 have hC35 : Kd.C k73 _ (some ad140) x3_1.length x3_1 := (Kd.R_reads' HO_3.out).2.2
                 have q035 : (0 : Int) ≤ (x6_2 : Int) := of_decide_eq_true (by first | (with_reducible assumption) | assumption)
                 have hcut35 := cut_from (P := Try.prog) 29 73 .i64 Try.underlying29 hi035 3 hsz35 (some ad140) x3_1.length co7 x6_2 q035 q35
                 have hr35 := Kd.C_drop (m := (x6_2 : Int).toNat) (c := co7) hC35 (by omega) hroom35
                 obtain ⟨A35, hA35⟩ : ∃ A1, A1 = (if co7 = (x6_2 : Int).toNat then (some ad140) else ((some ad140) : Option Addr).map (·.add ((x6_2 : Int).toNat * 3))) := ⟨_, rfl⟩
                 obtain ⟨c35, hc35⟩ : ∃ c1, c1 = co7 - (x6_2 : Int).toNat := ⟨_, rfl⟩
                 have hy35 : y158.length = x3_1.length - (x6_2 : Int).toNat := (by rw [Ny158.out, List.length_drop] <;> omega)
                 rw [show (x3_1).drop (x6_2 : Int).toNat = y158 from Ny158.out.symm] at hr35
                 replace hr35 : Kd.C k73 _ A35 y158.length y158 := (by rw [hA35]; exact hr35)
                 rw [← hy35, ← hA35, ← hc35] at hcut35
                 have HR161 := Aside0.mk hr35
                 have HC161 := Aside0.mk (show y158.length ≤ c35 from by rw [hy35, hc35]; exact Nat.sub_le_sub_right hroom35 _)
                 clear hr35 hC35 hroom35 hi035 hsz35 hc35
                 have KY35 := Aside0.mk hy35
                 have KA35 := Aside0.mk hA35
                 clear hy35 hA35
                 have KL35 := Aside0.mk (show (x6_2 : Int).toNat ≤ x3_1.length from by omega)
                 replace q35 := eq_true q35
                 try go_wp2_with (first | ((with_reducible refine gate_builtin (b := .append) (xs := #[.tmp 37, .tmp 40]) rfl ?_); at_builtin; refine Kd.R_append_rows k73 (w0 := w) w.heap.size rfl (.tmp 37) (.tmp 40) 29 73 (.agg #[(.int .i64 0), (.int .i64 0), (.int .i64 0)]) 24 rfl Try.underlying29 info73 rfl (by decide) (by omega) v156 y155 y158 _ _ _ (fun k_ => some k_ ≠ (.slice (some ad140) x3_1.length co7 : Value).ownBlock ∧ some k_ ≠ (.slice Ao34 y152.length co34 : Value).ownBlock ∧ k_ ≠ gb139) (fun _ => False) rfl rfl ?aO ?aR (fun _ _ h => h) (fun _ h => h.elim) ?aF ?aB ?aS ?aL ?_; (case aR => repeat (first | exact (by repeat (first | (with_reducible exact HR161.out) | (with_reducible refine Kd.C_alloc ?_ _) | (with_reducible refine Kd.C_drewN ?_ _) | (with_reducible refine Kd.C_drew ?_) | exact HR161.out)) | (with_reducible refine Kd.C_alloc ?_ _) | (with_reducible refine Kd.C_drewN ?_ _) | (with_reducible refine Kd.C_drew ?_))); (case aB => exact (upW HB)); (case aF => exact (fun k_ hk => ⟨Kd.fresh' (Kd.R_lt (upR HO_3)) k_ hk, Kd.fresh' (Kd.R_lt (upR HO154)) k_ hk, Kd.freshB (g := gb139) (o := .cells #[.int .i64 ((rd_T73 l0 x10_1).f0), .int .i64 ((rd_T73 l0 x10_1).f1), .int .i64 ((rd_T73 l0 x10_1).f2)] 73 (0, 0)) (upK BK139) k_ hk⟩)); (case aO => exact (upR HO157)); (case aS => exact (below_size (upW HB))); (case aL => have := LMc22.out; omega); intro v163 w36 ho hb hg hat; rw [← Ny162.out] at ho; have n0_ := Aside0.mk (Kd.R_after (ok := (fun k_ => some k_ ≠ (.slice Ao34 y152.length co34 : Value).ownBlock ∧ k_ ≠ gb139)) (upR HO_3) hg hat); have n1_ := Aside0.mk (blk_grown (upK BK139) hg (Kd.R_away HO157.out (fun _ hk => hk.2.2))); have n2_ := Aside0.mk (Kd.R_after (ok := (fun k_ => some k_ ≠ (.slice (some ad140) x3_1.length co7 : Value).ownBlock ∧ k_ ≠ gb139)) (upR HO154) hg hat); have n3_ := Aside0.mk (hb); have n4_ := Aside0.mk ((show Kd.C k73 w36 A35 y158.length y158 from by rw [Ny158.out, KA35.out]; exact Kd.C_drop (m := (x6_2 : Int).toNat) (c := co7) ((Kd.R_reads' (Kd.R_after (ok := (fun k_ => some k_ ≠ (.slice Ao34 y152.length co34 : Value).ownBlock ∧ k_ ≠ gb139)) (upR HO_3) hg hat)).2.2) KL35.out ((Kd.R_reads' (Kd.R_after (ok := (fun k_ => some k_ ≠ (.slice Ao34 y152.length co34 : Value).ownBlock ∧ k_ ≠ gb139)) (upR HO_3) hg hat)).2.1))); have n5_ := Aside0.mk (ho); clear HO_3; clear BK139; clear HO154; clear HB; clear HR161; clear HO157; have HO_3 := n0_; have BK139 := n1_; have HO154 := n2_; have HB := n3_; have HR161 := n4_; have HO164 := n5_; clear n0_ n1_ n2_ n3_ n4_ n5_; clear ho hb hg hat))
                 go_roundg k2
                 case measure => have := HK1.out; have := HK2.out; omega
                 case rel => exact ⟨(y162), (wrap64 (x10_1 + 1)), (by first | rfl | (simp; done) | (simp [*]; done)), H', ⟨by have := HK1.out; have := HK2.out; omega⟩, ⟨by (with_reducible repeat (first | apply Kd.R_alloc | apply Kd.R_drewN | apply Kd.R_drew)); exact Kd.R_mono HO164.out (fun _ hk => trivial)⟩, ⟨upW HB⟩⟩
                ·rw [if_neg c22] at H
                 exact absurd H (by simp)
               ·rw [if_neg c19] at H
                exact absurd H (by simp)
              ·rw [if_neg c18] at H
               exact absurd H (by simp)
             ·rw [if_neg c17] at H
              exact absurd H (by simp)
            ·rw [if_neg c16] at H
             exact absurd H (by simp)
          ·rw [if_neg c11] at H
           exact absurd H (by simp)
         ·rw [if_neg c10] at H
          exact absurd H (by simp)
        ·rw [if_neg c8] at H
         have c8b0 : decide (0 < x6_2) = false := decide_eq_false c8
         clear c8
         obtain ⟨y165, hy165⟩ : ∃ y_ : List (S73), y_ = (([] : List (S73))) := ⟨_, rfl⟩
         replace H : (if 0 ≤ x6_2 then (if x6_2 ≤ (x3_1.length : Int) then ((some (x3_1.take (x6_2 : Int).toNat : List (S73))).bind fun y168 => (if y165.length + y168.length < 5864062014805 then ((some (y165 ++ y168 : List (S73))).bind fun y172 => ((some (([(⟨((rd_T73 l0 x10_1).f0), ((rd_T73 l0 x10_1).f1), ((rd_T73 l0 x10_1).f2)⟩ : S73)] : List (S73)) : List (S73))).bind fun y175 => (if y172.length + y175.length < 5864062014805 then ((some (y172 ++ y175 : List (S73))).bind fun y178 => ((some (x3_1.drop (x6_2 : Int).toNat : List (S73))).bind fun y181 => (if y178.length + y181.length < 5864062014805 then (spec_cuSorted.l0 k2 (y178 ++ y181) l0 (l0.length : Int) (wrap64 (x10_1 + 1))) else (none)))) else (none)))) else (none))) else (none)) else (none)) = some r := by first | (rw [hy165]; with_reducible exact H) | (have H2_ := (Option.bind_some _ _).symm.trans H; rw [hy165]; with_reducible exact H2_) | (have H2_ := (Option.bind_some _ _).symm.trans H; with_reducible exact H2_) | with_reducible exact H | (rw [hy165]; exact H) | exact H
         have Ny165 := Aside0.mk hy165
         clear hy165
         by_cases c37 : 0 ≤ x6_2
         ·rw [if_pos c37] at H
          have c37b0 := eq_true c37
          have c37b1 : decide (0 ≤ x6_2) = true := decide_eq_true c37
          clear c37
          by_cases c38 : x6_2 ≤ (x3_1.length : Int)
          ·rw [if_pos c38] at H
           have c38b0 := eq_true c38
           have c38b1 : decide (x6_2 ≤ (x3_1.length : Int)) = true := decide_eq_true c38
           clear c38
           obtain ⟨y168, hy168⟩ : ∃ y_ : List (S73), y_ = (x3_1.take (x6_2 : Int).toNat) := ⟨_, rfl⟩
           replace H : (if y165.length + y168.length < 5864062014805 then ((some (y165 ++ y168 : List (S73))).bind fun y172 => ((some (([(⟨((rd_T73 l0 x10_1).f0), ((rd_T73 l0 x10_1).f1), ((rd_T73 l0 x10_1).f2)⟩ : S73)] : List (S73)) : List (S73))).bind fun y175 => (if y172.length + y175.length < 5864062014805 then ((some (y172 ++ y175 : List (S73))).bind fun y178 => ((some (x3_1.drop (x6_2 : Int).toNat : List (S73))).bind fun y181 => (if y178.length + y181.length < 5864062014805 then (spec_cuSorted.l0 k2 (y178 ++ y181) l0 (l0.length : Int) (wrap64 (x10_1 + 1))) else (none)))) else (none)))) else (none)) = some r := by first | (rw [hy168]; with_reducible exact H) | (have H2_ := (Option.bind_some _ _).symm.trans H; rw [hy168]; with_reducible exact H2_) | (have H2_ := (Option.bind_some _ _).symm.trans H; with_reducible exact H2_) | with_reducible exact H | (rw [hy168]; exact H) | exact H
           have Ny168 := Aside0.mk hy168
           clear hy168
           by_cases c39 : y165.length + y168.length < 5864062014805
           ·rw [if_pos c39] at H
            have LMc39 := Aside0.mk c39
            clear c39
            obtain ⟨y172, hy172⟩ : ∃ y_ : List (S73), y_ = (y165 ++ y168) := ⟨_, rfl⟩
            replace H : ((some (([(⟨((rd_T73 l0 x10_1).f0), ((rd_T73 l0 x10_1).f1), ((rd_T73 l0 x10_1).f2)⟩ : S73)] : List (S73)) : List (S73))).bind fun y175 => (if y172.length + y175.length < 5864062014805 then ((some (y172 ++ y175 : List (S73))).bind fun y178 => ((some (x3_1.drop (x6_2 : Int).toNat : List (S73))).bind fun y181 => (if y178.length + y181.length < 5864062014805 then (spec_cuSorted.l0 k2 (y178 ++ y181) l0 (l0.length : Int) (wrap64 (x10_1 + 1))) else (none)))) else (none))) = some r := by first | (rw [hy172]; with_reducible exact H) | (have H2_ := (Option.bind_some _ _).symm.trans H; rw [hy172]; with_reducible exact H2_) | (have H2_ := (Option.bind_some _ _).symm.trans H; with_reducible exact H2_) | with_reducible exact H | (rw [hy172]; exact H) | exact H
            have Ny172 := Aside0.mk hy172
            clear hy172
            obtain ⟨y175, hy175⟩ : ∃ y_ : List (S73), y_ = (([(⟨((rd_T73 l0 x10_1).f0), ((rd_T73 l0 x10_1).f1), ((rd_T73 l0 x10_1).f2)⟩ : S73)] : List (S73))) := ⟨_, rfl⟩
            replace H : (if y172.length + y175.length < 5864062014805 then ((some (y172 ++ y175 : List (S73))).bind fun y178 => ((some (x3_1.drop (x6_2 : Int).toNat : List (S73))).bind fun y181 => (if y178.length + y181.length < 5864062014805 then (spec_cuSorted.l0 k2 (y178 ++ y181) l0 (l0.length : Int) (wrap64 (x10_1 + 1))) else (none)))) else (none)) = some r := by first | (rw [hy175]; with_reducible exact H) | (have H2_ := (Option.bind_some _ _).symm.trans H; rw [hy175]; with_reducible exact H2_) | (have H2_ := (Option.bind_some _ _).symm.trans H; with_reducible exact H2_) | with_reducible exact H | (rw [hy175]; exact H) | exact H
            have Ny175 := Aside0.mk hy175
            clear hy175
            by_cases c40 : y172.length + y175.length < 5864062014805
            ·rw [if_pos c40] at H
             have LMc40 := Aside0.mk c40
             clear c40
             obtain ⟨y178, hy178⟩ : ∃ y_ : List (S73), y_ = (y172 ++ y175) := ⟨_, rfl⟩
             replace H : ((some (x3_1.drop (x6_2 : Int).toNat : List (S73))).bind fun y181 => (if y178.length + y181.length < 5864062014805 then (spec_cuSorted.l0 k2 (y178 ++ y181) l0 (l0.length : Int) (wrap64 (x10_1 + 1))) else (none))) = some r := by first | (rw [hy178]; with_reducible exact H) | (have H2_ := (Option.bind_some _ _).symm.trans H; rw [hy178]; with_reducible exact H2_) | (have H2_ := (Option.bind_some _ _).symm.trans H; with_reducible exact H2_) | with_reducible exact H | (rw [hy178]; exact H) | exact H
             have Ny178 := Aside0.mk hy178
             clear hy178
             have c41b0 := eq_true (of_decide_eq_true (by first | (with_reducible assumption) | assumption) : 0 ≤ x6_2)
             have c42b0 := eq_true (of_decide_eq_true (by first | (with_reducible assumption) | assumption) : x6_2 ≤ (x3_1.length : Int))
             obtain ⟨y181, hy181⟩ : ∃ y_ : List (S73), y_ = (x3_1.drop (x6_2 : Int).toNat) := ⟨_, rfl⟩
             replace H : (if y178.length + y181.length < 5864062014805 then (spec_cuSorted.l0 k2 (y178 ++ y181) l0 (l0.length : Int) (wrap64 (x10_1 + 1))) else (none)) = some r := by first | (rw [hy181]; with_reducible exact H) | (have H2_ := (Option.bind_some _ _).symm.trans H; rw [hy181]; with_reducible exact H2_) | (have H2_ := (Option.bind_some _ _).symm.trans H; with_reducible exact H2_) | with_reducible exact H | (rw [hy181]; exact H) | exact H
             have Ny181 := Aside0.mk hy181
             clear hy181
             by_cases c43 : y178.length + y181.length < 5864062014805
             ·rw [if_pos c43] at H
              have LMc43 := Aside0.mk c43
              clear c43
              obtain ⟨y185, hy185⟩ : ∃ y_ : List (S73), y_ = (y178 ++ y181) := ⟨_, rfl⟩
              replace H : (spec_cuSorted.l0 k2 y185 l0 (l0.length : Int) (wrap64 (x10_1 + 1))) = some r := by first | (rw [hy185]; with_reducible exact H) | (have H2_ := (Option.bind_some _ _).symm.trans H; rw [hy185]; with_reducible exact H2_) | (have H2_ := (Option.bind_some _ _).symm.trans H; with_reducible exact H2_) | with_reducible exact H | (rw [hy185]; exact H) | exact H
              have Ny185 := Aside0.mk hy185
              clear hy185
              have H' := Aside0.mk H
              clear H
              try go_wp2
              have n0_ := Aside0.mk (Kd.R_drew HO_3.out)
              have n1_ := Aside0.mk (blk_drew BK139.out)
              have n2_ := Aside0.mk (below_drew1 HB.out)
              clear HO_3
              clear BK139
              clear HB
              have HO_3 := n0_
              have BK139 := n1_
              have HB := n2_
              clear n0_ n1_ n2_
              refine start_ (n := 11) (S := fun w' => True) (ds := []) #[false, false, false, false, false, false, false, false, false, false, false] (by kernel_rfl) rfl rfl trivial (fun hHeld => ?_); refine with_tabW spec_cuSorted.tab6 spec_cuSorted.bits6 (fun HT_ HW_ => ?_)
              generalize wr.drew = w44 at HO_3 BK139 HB hHeld ⊢
              refine pure_ (i := 0) (N := some 16) (v := ?_) (a' := ?_) #[true, false, false, false, false, false, false, false, false, false, false] rfl rfl (any_of HT_.out (by kernel_rfl)) (fun _ _ _ h => h) (Or.inl ⟨by rfl, ?_⟩) ?_ ?_
              rotate_left
              ·intro w'
               go_simp
               with_reducible rfl
              rotate_left
              ·simp only [Act.put, List.setIfInBounds_toArray, List.set_cons_zero, List.set_cons_succ, i64_w, i32_w]
               rfl
              refine pure_ (i := 1) (N := some 17) (v := ?_) (a' := ?_) #[true, true, false, false, false, false, false, false, false, false, false] rfl rfl (any_of HT_.out (by kernel_rfl)) (fun _ _ _ h => h) (Or.inl ⟨by rfl, ?_⟩) ?_ ?_
              rotate_left
              ·intro w'
               go_simp
               with_reducible rfl
              rotate_left
              ·simp only [Act.put, List.setIfInBounds_toArray, List.set_cons_zero, List.set_cons_succ, i64_w, i32_w]
               rfl
              refine pure_ (i := 2) (N := some 18) (v := ?_) (a' := ?_) #[true, true, true, false, false, false, false, false, false, false, false] rfl rfl (any_of HT_.out (by kernel_rfl)) (fun _ _ _ h => h) (Or.inl ⟨by rfl, ?_⟩) ?_ ?_
              rotate_left
              ·intro w'
               go_simp
               with_reducible rfl
              rotate_left
              ·simp only [Act.put, List.setIfInBounds_toArray, List.set_cons_zero, List.set_cons_succ, i64_w, i32_w]
               rfl
              refine pure_ (i := 3) (N := some 19) (v := undef) (a' := ?_) #[true, true, true, true, false, false, false, false, false, false, false] rfl rfl (any_of HT_.out (by kernel_rfl)) (fun _ _ _ h => h) (Or.inr ⟨by rfl, rfl⟩) ?_ ?_
              rotate_left
              ·simp only [Act.put, List.setIfInBounds_toArray, List.set_cons_zero, List.set_cons_succ, i64_w, i32_w]
               rfl
              refine pure_ (i := 4) (N := some 20) (v := undef) (a' := ?_) #[true, true, true, true, true, false, false, false, false, false, false] rfl rfl (any_of HT_.out (by kernel_rfl)) (fun _ _ _ h => h) (Or.inr ⟨by rfl, rfl⟩) ?_ ?_
              rotate_left
              ·simp only [Act.put, List.setIfInBounds_toArray, List.set_cons_zero, List.set_cons_succ, i64_w, i32_w]
               rfl
              refine pure_ (i := 5) (N := some 21) (v := undef) (a' := ?_) #[true, true, true, true, true, true, false, false, false, false, false] rfl rfl (any_of HT_.out (by kernel_rfl)) (fun _ _ _ h => h) (Or.inr ⟨by rfl, rfl⟩) ?_ ?_
              rotate_left
              ·simp only [Act.put, List.setIfInBounds_toArray, List.set_cons_zero, List.set_cons_succ, i64_w, i32_w]
               rfl
              refine pure_ (i := 6) (N := some 22) (v := undef) (a' := ?_) #[true, true, true, true, true, true, true, false, false, false, false] rfl rfl (any_of HT_.out (by kernel_rfl)) (fun _ _ _ h => h) (Or.inr ⟨by rfl, rfl⟩) ?_ ?_
              rotate_left
              ·simp only [Act.put, List.setIfInBounds_toArray, List.set_cons_zero, List.set_cons_succ, i64_w, i32_w]
               rfl
              refine pure_ (i := 7) (N := some 23) (v := undef) (a' := ?_) #[true, true, true, true, true, true, true, true, false, false, false] rfl rfl (any_of HT_.out (by kernel_rfl)) (fun _ _ _ h => h) (Or.inr ⟨by rfl, rfl⟩) ?_ ?_
              rotate_left
              ·simp only [Act.put, List.setIfInBounds_toArray, List.set_cons_zero, List.set_cons_succ, i64_w, i32_w]
               rfl
              refine pure_ (i := 8) (N := some 24) (v := undef) (a' := ?_) #[true, true, true, true, true, true, true, true, true, false, false] rfl rfl (any_of HT_.out (by kernel_rfl)) (fun _ _ _ h => h) (Or.inr ⟨by rfl, rfl⟩) ?_ ?_
              rotate_left
              ·simp only [Act.put, List.setIfInBounds_toArray, List.set_cons_zero, List.set_cons_succ, i64_w, i32_w]
               rfl
              refine pure_ (i := 9) (N := some 25) (v := undef) (a' := ?_) #[true, true, true, true, true, true, true, true, true, true, false] rfl rfl (any_of HT_.out (by kernel_rfl)) (fun _ _ _ h => h) (Or.inr ⟨by rfl, rfl⟩) ?_ ?_
              rotate_left
              ·simp only [Act.put, List.setIfInBounds_toArray, List.set_cons_zero, List.set_cons_succ, i64_w, i32_w]
               rfl
              refine pure_ (i := 10) (N := some 26) (v := ?_) (a' := ?_) #[true, true, true, true, true, true, true, true, true, true, true] rfl rfl (any_of HT_.out (by kernel_rfl)) (fun _ _ _ h => h) (Or.inl ⟨by rfl, ?_⟩) ?_ ?_
              rotate_left
              ·intro w'
               go_simp
               with_reducible rfl
              rotate_left
              ·simp only [Act.put, List.setIfInBounds_toArray, List.set_cons_zero, List.set_cons_succ, i64_w, i32_w]
               rfl
              refine done_ (done_of HT_.out (by kernel_rfl)) ?_
              try go_wp2
              have n0_ := Aside0.mk (Kd.R_drew HO_3.out)
              have n1_ := Aside0.mk (blk_drew BK139.out)
              have n2_ := Aside0.mk (below_drew1 HB.out)
              clear HO_3
              clear BK139
              clear HB
              have HO_3 := n0_
              have BK139 := n1_
              have HB := n2_
              clear n0_ n1_ n2_
              have q46 : (x6_2 : Int) ≤ ((x3_1.length : Int) : Int) := of_decide_eq_true (by first | (with_reducible assumption) | assumption)
              obtain ⟨i046, hi046, _, hsz46, _⟩ := info_parts info73
              have hroom46 : x3_1.length ≤ co7 := (Kd.R_reads' HO_3.out).2.1
              have hC46 : Kd.C k73 _ Ao7 x3_1.length x3_1 := (Kd.R_reads' HO_3.out).2.2
              have hcut46 := cut_to (P := Try.prog) 29 73 .i64 Try.underlying29 hi046 Ao7 x3_1.length co7 x6_2 (of_decide_eq_true (by first | (with_reducible assumption) | assumption)) q46 hroom46
              have hr46 := Kd.C_take (m := (x6_2 : Int).toNat) hC46 (by omega)
              have hy46 : y168.length = (x6_2 : Int).toNat := (by rw [Ny168.out, List.length_take]; omega)
              rw [← Ny168.out] at hr46
              rw [← hy46] at hcut46
              have HR171 := Aside0.mk hr46
              have HC171 := Aside0.mk (show y168.length ≤ co7 from by omega)
              clear hr46 hC46 hroom46 hi046 hsz46
              have KY46 := Aside0.mk hy46
              clear hy46
              have KL46 := Aside0.mk (show (x6_2 : Int).toNat ≤ x3_1.length from by omega)
              replace q46 := eq_true q46
              refine start_ (n := 9) (S := fun w' => w'.cell? ⟨gb139, 0, none⟩ = some (.int .i64 ((rd_T73 l0 x10_1).f0)) ∧ w'.cell? ⟨gb139, 1, none⟩ = some (.int .i64 ((rd_T73 l0 x10_1).f1)) ∧ w'.cell? ⟨gb139, 2, none⟩ = some (.int .i64 ((rd_T73 l0 x10_1).f2))) (ds := []) #[false, false, false, false, false, false, false, false, false] (by kernel_rfl) rfl rfl ⟨(blk_cell BK139.out 0).trans rfl, (blk_cell BK139.out 1).trans rfl, (blk_cell BK139.out 2).trans rfl⟩ (fun hHeld => ?_); refine with_tabW spec_cuSorted.tab8 spec_cuSorted.bits8 (fun HT_ HW_ => ?_)
              generalize w44.drew = w45 at HO_3 BK139 HB HR171 hHeld ⊢
              refine pure_ (i := 1) (N := some 30) (v := ?_) (a' := ?_) #[false, true, false, false, false, false, false, false, false] rfl rfl (any_of HT_.out (by kernel_rfl)) (fun _ _ _ h => h) (Or.inl ⟨by rfl, ?_⟩) ?_ ?_
              rotate_left
              ·intro w'
               go_simp
               with_reducible rfl
              rotate_left
              ·simp only [Act.put, List.setIfInBounds_toArray, List.set_cons_zero, List.set_cons_succ, i64_w, i32_w]
               rfl
              refine pure_ (i := 2) (N := some 31) (v := ?_) (a' := ?_) #[false, true, true, false, false, false, false, false, false] rfl rfl (any_of HT_.out (by kernel_rfl)) (fun _ _ _ h => h) (Or.inl ⟨by rfl, ?_⟩) ?_ ?_
              rotate_left
              ·intro w'
               go_simp
               with_reducible rfl
              rotate_left
              ·simp only [Act.put, List.setIfInBounds_toArray, List.set_cons_zero, List.set_cons_succ, i64_w, i32_w]
               rfl
              refine pure_ (i := 3) (N := some 32) (v := ?_) (a' := ?_) #[false, true, true, true, false, false, false, false, false] rfl rfl (any_of HT_.out (by kernel_rfl)) (fun _ _ _ h => h) (Or.inl ⟨by rfl, ?_⟩) ?_ ?_
              rotate_left
              ·intro w'
               go_simp
               with_reducible rfl
              rotate_left
              ·simp only [Act.put, List.setIfInBounds_toArray, List.set_cons_zero, List.set_cons_succ, i64_w, i32_w]
               rfl
              refine take_ (i := 5) (N := some 34) (v := ?_) (a' := ?_) #[false, true, true, true, false, true, false, false, false] rfl rfl (take_ofW HT_.out HW_.out (by kernel_rfl)) (fun _ _ _ h => h) (Or.inl ⟨by rfl, ?_⟩) hHeld ?_ ?_
              rotate_left
              ·rintro w' ⟨s0, s1, s2⟩
               go_simp
               with_reducible rfl
              rotate_left
              ·simp only [Act.put, List.setIfInBounds_toArray, List.set_cons_zero, List.set_cons_succ, i64_w, i32_w]
               rfl
              refine join_ (σ := Value × Value × Value) 2 #[true, true, true, true, true, true, true, false, false] (fun s_ => [(29, s_.1), (33, s_.2.1), (35, s_.2.2)]) (fun s_ w' => (w'.cell? ⟨gb139, 0, none⟩ = some (.int .i64 ((rd_T73 l0 x10_1).f0)) ∧ w'.cell? ⟨gb139, 1, none⟩ = some (.int .i64 ((rd_T73 l0 x10_1).f1)) ∧ w'.cell? ⟨gb139, 2, none⟩ = some (.int .i64 ((rd_T73 l0 x10_1).f2))) ∧ (Kd.R k73 73 w' w.heap.size (fun k_ => some k_ ≠ (s_.2.2 : Value).ownBlock ∧ some k_ ≠ (.slice Ao7 x3_1.length co7 : Value).ownBlock ∧ k_ ≠ gb139) s_.2.1 y172) ∧ (Kd.R k73 73 w' w.heap.size (fun k_ => some k_ ≠ (s_.2.1 : Value).ownBlock ∧ some k_ ≠ (.slice Ao7 x3_1.length co7 : Value).ownBlock ∧ k_ ≠ gb139) s_.2.2 y175) ∧ (Kd.R k73 73 w' w.heap.size (fun k_ => some k_ ≠ (s_.2.1 : Value).ownBlock ∧ some k_ ≠ (s_.2.2 : Value).ownBlock ∧ k_ ≠ gb139) (.slice Ao7 x3_1.length co7) x3_1) ∧ (w'.heap[gb139]? = some (.cells #[.int .i64 ((rd_T73 l0 x10_1).f0), .int .i64 ((rd_T73 l0 x10_1).f1), .int .i64 ((rd_T73 l0 x10_1).f2)] 73 (0, 0))) ∧ (Below w.heap.size w w')) ?_ ?_
              rotate_left
              ·intro hCont
               refine two_ (i := 0) (j := 6) (Ni := some 29) (Nj := some 35) #[true, true, true, true, false, true, false, false, false] #[false, true, true, true, false, true, true, false, false] rfl rfl rfl rfl (two_of HT_.out (by kernel_rfl)) (by decide) (by decide) (fun K hK => ?_) (fun K hK => ?_)
               ·skip
                refine Kd.R_lit_step k73 _ 73 ?hg (N := 29) ?hd (xs := ([] : List (S73))) (inner := []) (ok := fun _ => True) (okp := fun _ => True) ?hr ?hp (fun _ hk => hk) trivial (Below.refl _ _) (Nat.le_refl _) (by simp) ?_; (case hd => rfl); (case hg => rfl); (case hr => first | (go_simp; done) | (go_simp; rfl)); (case hp => exact (Reps.none _ _))
                intro v166 w47 ho48 hb hg_ hnew_
                clear hg_ hnew_
                (first | rw [← Ny165.out] at ho48 | (simp only [Int.reduceToNat] at ho48; rw [← Ny165.out] at ho48))
                have n0_ := Aside0.mk (Kd.R_elder' (upR HO_3) (Kd.R_base ho48) hb)
                have n1_ := Aside0.mk (Kd.R_lower (Kd.R_newB (Kd.R_new' ho48 (Kd.R_lt (upR HO_3))) (g := gb139) (o := .cells #[.int .i64 ((rd_T73 l0 x10_1).f0), .int .i64 ((rd_T73 l0 x10_1).f1), .int .i64 ((rd_T73 l0 x10_1).f2)] 73 (0, 0)) (upK BK139)) (below_size (upW HB)))
                have n2_ := Aside0.mk (blk_below (upK BK139) hb)
                have n3_ := Aside0.mk (Kd.C_below (by repeat (first | (with_reducible exact HR171.out) | (with_reducible refine Kd.C_alloc ?_ _) | (with_reducible refine Kd.C_drewN ?_ _) | (with_reducible refine Kd.C_drew ?_) | exact HR171.out)) hb)
                have n4_ := Aside0.mk (below_step (upW HB) hb)
                clear HO_3
                clear BK139
                clear HR171
                clear HB
                have HO_3 := n0_
                have HO167 := n1_
                have BK139 := n2_
                have HR171 := n3_
                have HB := n4_
                clear n0_ n1_ n2_ n3_ n4_
                clear hb ho48
                refine hK.out _ _ ⟨(blk_cell BK139.out 0).trans rfl, (blk_cell BK139.out 1).trans rfl, (blk_cell BK139.out 2).trans rfl⟩ (fun hHeld => ?_)
                clear hK K
                refine norm_ (a' := ?_) ?_ ?_
                rotate_left
                ·show Act.put _ (some 29) _ = _
                 simp only [Act.put, List.setIfInBounds_toArray, List.set_cons_zero, List.set_cons_succ, i64_w, i32_w]
                 rfl
                refine two_ (i := 4) (j := 6) (Ni := some 33) (Nj := some 35) #[true, true, true, true, true, true, false, false, false] #[true, true, true, true, false, true, true, false, false] rfl rfl rfl rfl (two_of HT_.out (by kernel_rfl)) (by decide) (by decide) (fun K hK => ?_) (fun K hK => ?_)
                ·skip
                 refine Kd.R_append_rows_step k73 (w0 := w) w.heap.size (by rfl) (.tmp 29) (.tmp 32) 29 73 (.agg #[(.int .i64 0), (.int .i64 0), (.int .i64 0)]) 24 rfl Try.underlying29 info73 rfl (by decide) (by omega) v166 y165 y168 _ _ _ (fun k_ => some k_ ≠ (.slice Ao7 x3_1.length co7 : Value).ownBlock ∧ k_ ≠ gb139) (fun _ => False) rfl rfl ?aO ?aR (fun _ _ h => h) (fun _ h => h.elim) ?aF ?aB ?aS ?aL ?_
                 (case aR => repeat (first | exact (by repeat (first | (with_reducible exact HR171.out) | (with_reducible refine Kd.C_alloc ?_ _) | (with_reducible refine Kd.C_drewN ?_ _) | (with_reducible refine Kd.C_drew ?_) | exact HR171.out)) | (with_reducible refine Kd.C_alloc ?_ _) | (with_reducible refine Kd.C_drewN ?_ _) | (with_reducible refine Kd.C_drew ?_)))
                 (case aB => exact (upW HB))
                 (case aF => exact (fun k_ hk => ⟨Kd.fresh' (Kd.R_lt (upR HO_3)) k_ hk, Kd.freshB (g := gb139) (o := .cells #[.int .i64 ((rd_T73 l0 x10_1).f0), .int .i64 ((rd_T73 l0 x10_1).f1), .int .i64 ((rd_T73 l0 x10_1).f2)] 73 (0, 0)) (upK BK139) k_ hk⟩))
                 (case aO => exact (by (with_reducible repeat (first | apply Kd.R_alloc | apply Kd.R_drewN | apply Kd.R_drew)); exact Kd.R_mono HO167.out (fun _ hk => ⟨hk.1.2, hk.2⟩)))
                 (case aS => exact (below_size (upW HB)))
                 (case aL => have := LMc39.out; omega)
                 intro v173 w49 ho hb hg hat
                 rw [← Ny172.out] at ho
                 have n0_ := Aside0.mk (Kd.R_after (ok := (fun k_ => k_ ≠ gb139)) (upR HO_3) hg hat)
                 have n1_ := Aside0.mk (blk_grown (upK BK139) hg (Kd.R_away HO167.out (fun _ hk => hk.2)))
                 have n2_ := Aside0.mk (hb)
                 have n3_ := Aside0.mk ((show Kd.C k73 w49 Ao7 y168.length y168 from by rw [Ny168.out]; exact Kd.C_take (m := (x6_2 : Int).toNat) ((Kd.R_reads' (Kd.R_after (ok := (fun k_ => k_ ≠ gb139)) (upR HO_3) hg hat)).2.2) KL46.out))
                 have n4_ := Aside0.mk (ho)
                 clear HO_3
                 clear BK139
                 clear HB
                 clear HR171
                 clear HO167
                 have HO_3 := n0_
                 have BK139 := n1_
                 have HB := n2_
                 have HR171 := n3_
                 have HO174 := n4_
                 clear n0_ n1_ n2_ n3_ n4_
                 clear ho hb hg hat
                 refine hK.out _ _ ⟨(blk_cell BK139.out 0).trans rfl, (blk_cell BK139.out 1).trans rfl, (blk_cell BK139.out 2).trans rfl⟩ (fun hHeld => ?_)
                 clear hK K
                 refine norm_ (a' := ?_) ?_ ?_
                 rotate_left
                 ·show Act.put _ (some 33) _ = _
                  simp only [Act.put, List.setIfInBounds_toArray, List.set_cons_zero, List.set_cons_succ, i64_w, i32_w]
                  rfl
                 refine one_ (i := 6) (N := some 35) #[true, true, true, true, true, true, true, false, false] rfl rfl (one_of HT_.out (by kernel_rfl)) (by decide) (fun K hK => ?_)
                 refine Kd.R_lit_step k73 _ 73 ?hg (N := 35) ?hd (xs := ([(⟨((rd_T73 l0 x10_1).f0), ((rd_T73 l0 x10_1).f1), ((rd_T73 l0 x10_1).f2)⟩ : S73)] : List (S73))) (inner := [.int .i64 ((rd_T73 l0 x10_1).f0), .int .i64 ((rd_T73 l0 x10_1).f1), .int .i64 ((rd_T73 l0 x10_1).f2)]) (ok := fun _ => True) (okp := fun _ => True) ?hr ?hp (fun _ hk => hk) trivial (Below.refl _ _) (Nat.le_refl _) (by simp) ?_; (case hd => rfl); (case hg => rfl); (case hr => first | (go_simp; done) | (go_simp; rfl)); (case hp => exact (Reps.c3 (show Kd.M k73 _ _ _ (⟨((rd_T73 l0 x10_1).f0), ((rd_T73 l0 x10_1).f1), ((rd_T73 l0 x10_1).f2)⟩ : S73) [.int .i64 ((rd_T73 l0 x10_1).f0), .int .i64 ((rd_T73 l0 x10_1).f1), .int .i64 ((rd_T73 l0 x10_1).f2)] from (k73_mkM _ _ _ (⟨((rd_T73 l0 x10_1).f0), ((rd_T73 l0 x10_1).f1), ((rd_T73 l0 x10_1).f2)⟩ : S73) )) (Reps.none _ _)))
                 intro v176 w50 ho51 hb hg_ hnew_
                 clear hg_ hnew_
                 (first | rw [← Ny175.out] at ho51 | (simp only [Int.reduceToNat] at ho51; rw [← Ny175.out] at ho51))
                 have n0_ := Aside0.mk (Kd.R_elder' (upR HO_3) (Kd.R_base ho51) hb)
                 have n1_ := Aside0.mk (Kd.R_elder' (upR HO174) (Kd.R_base ho51) hb)
                 have n2_ := Aside0.mk (Kd.R_lower (Kd.R_newB (Kd.R_new' (Kd.R_new' ho51 (Kd.R_lt (upR HO_3))) (Kd.R_lt (upR HO174))) (g := gb139) (o := .cells #[.int .i64 ((rd_T73 l0 x10_1).f0), .int .i64 ((rd_T73 l0 x10_1).f1), .int .i64 ((rd_T73 l0 x10_1).f2)] 73 (0, 0)) (upK BK139)) (below_size (upW HB)))
                 have n3_ := Aside0.mk (blk_below (upK BK139) hb)
                 have n4_ := Aside0.mk (Kd.C_below (by repeat (first | (with_reducible exact HR171.out) | (with_reducible refine Kd.C_alloc ?_ _) | (with_reducible refine Kd.C_drewN ?_ _) | (with_reducible refine Kd.C_drew ?_) | exact HR171.out)) hb)
                 have n5_ := Aside0.mk (below_step (upW HB) hb)
                 clear HO_3
                 clear HO174
                 clear BK139
                 clear HR171
                 clear HB
                 have HO_3 := n0_
                 have HO174 := n1_
                 have HO177 := n2_
                 have BK139 := n3_
                 have HR171 := n4_
                 have HB := n5_
                 clear n0_ n1_ n2_ n3_ n4_ n5_
                 clear hb ho51
                 refine hK.out _ _ ⟨(blk_cell BK139.out 0).trans rfl, (blk_cell BK139.out 1).trans rfl, (blk_cell BK139.out 2).trans rfl⟩ (fun hHeld => ?_)
                 clear hK K
                 refine norm_ (a' := ?_) ?_ ?_
                 rotate_left
                 ·show Act.put _ (some 35) _ = _
                  simp only [Act.put, List.setIfInBounds_toArray, List.set_cons_zero, List.set_cons_succ, i64_w, i32_w]
                  rfl
                 exact norm_ (by simp only [putAll, Act.put, List.setIfInBounds_toArray, List.set_cons_zero, List.set_cons_succ]) (hCont (v166, v173, v176) _ ⟨hHeld, (by (with_reducible repeat (first | apply Kd.R_alloc | apply Kd.R_drewN | apply Kd.R_drew)); exact Kd.R_mono HO174.out (fun _ hk => ⟨hk.2, ⟨hk.1.1, hk.1.2⟩⟩)), (by (with_reducible repeat (first | apply Kd.R_alloc | apply Kd.R_drewN | apply Kd.R_drew)); exact Kd.R_mono HO177.out (fun _ hk => ⟨hk.1.2, ⟨hk.1.1.2, hk.2⟩⟩)), (by (with_reducible repeat (first | apply Kd.R_alloc | apply Kd.R_drewN | apply Kd.R_drew)); exact Kd.R_mono HO_3.out (fun _ hk => ⟨hk.1.2, ⟨hk.2, hk.1.1⟩⟩)), (upK BK139), (upW HB)⟩)
                ·skip
                 refine Kd.R_lit_step k73 _ 73 ?hg (N := 35) ?hd (xs := ([(⟨((rd_T73 l0 x10_1).f0), ((rd_T73 l0 x10_1).f1), ((rd_T73 l0 x10_1).f2)⟩ : S73)] : List (S73))) (inner := [.int .i64 ((rd_T73 l0 x10_1).f0), .int .i64 ((rd_T73 l0 x10_1).f1), .int .i64 ((rd_T73 l0 x10_1).f2)]) (ok := fun _ => True) (okp := fun _ => True) ?hr ?hp (fun _ hk => hk) trivial (Below.refl _ _) (Nat.le_refl _) (by simp) ?_; (case hd => rfl); (case hg => rfl); (case hr => first | (go_simp; done) | (go_simp; rfl)); (case hp => exact (Reps.c3 (show Kd.M k73 _ _ _ (⟨((rd_T73 l0 x10_1).f0), ((rd_T73 l0 x10_1).f1), ((rd_T73 l0 x10_1).f2)⟩ : S73) [.int .i64 ((rd_T73 l0 x10_1).f0), .int .i64 ((rd_T73 l0 x10_1).f1), .int .i64 ((rd_T73 l0 x10_1).f2)] from (k73_mkM _ _ _ (⟨((rd_T73 l0 x10_1).f0), ((rd_T73 l0 x10_1).f1), ((rd_T73 l0 x10_1).f2)⟩ : S73) )) (Reps.none _ _)))
                 intro v176 w49 ho50 hb hg_ hnew_
                 clear hg_ hnew_
                 (first | rw [← Ny175.out] at ho50 | (simp only [Int.reduceToNat] at ho50; rw [← Ny175.out] at ho50))
                 have n0_ := Aside0.mk (Kd.R_elder' (upR HO_3) (Kd.R_base ho50) hb)
                 have n1_ := Aside0.mk (Kd.R_elder' (upR HO167) (Kd.R_base ho50) hb)
                 have n2_ := Aside0.mk (Kd.R_lower (Kd.R_newB (Kd.R_new' (Kd.R_new' ho50 (Kd.R_lt (upR HO_3))) (Kd.R_lt (upR HO167))) (g := gb139) (o := .cells #[.int .i64 ((rd_T73 l0 x10_1).f0), .int .i64 ((rd_T73 l0 x10_1).f1), .int .i64 ((rd_T73 l0 x10_1).f2)] 73 (0, 0)) (upK BK139)) (below_size (upW HB)))
                 have n3_ := Aside0.mk (blk_below (upK BK139) hb)
                 have n4_ := Aside0.mk (Kd.C_below (by repeat (first | (with_reducible exact HR171.out) | (with_reducible refine Kd.C_alloc ?_ _) | (with_reducible refine Kd.C_drewN ?_ _) | (with_reducible refine Kd.C_drew ?_) | exact HR171.out)) hb)
                 have n5_ := Aside0.mk (below_step (upW HB) hb)
                 clear HO_3
                 clear HO167
                 clear BK139
                 clear HR171
                 clear HB
                 have HO_3 := n0_
                 have HO167 := n1_
                 have HO177 := n2_
                 have BK139 := n3_
                 have HR171 := n4_
                 have HB := n5_
                 clear n0_ n1_ n2_ n3_ n4_ n5_
                 clear hb ho50
                 refine hK.out _ _ ⟨(blk_cell BK139.out 0).trans rfl, (blk_cell BK139.out 1).trans rfl, (blk_cell BK139.out 2).trans rfl⟩ (fun hHeld => ?_)
                 clear hK K
                 refine norm_ (a' := ?_) ?_ ?_
                 rotate_left
                 ·show Act.put _ (some 35) _ = _
                  simp only [Act.put, List.setIfInBounds_toArray, List.set_cons_zero, List.set_cons_succ, i64_w, i32_w]
                  rfl
                 refine one_ (i := 4) (N := some 33) #[true, true, true, true, true, true, true, false, false] rfl rfl (one_of HT_.out (by kernel_rfl)) (by decide) (fun K hK => ?_)
                 refine Kd.R_append_rows_step k73 (w0 := w) w.heap.size (by rfl) (.tmp 29) (.tmp 32) 29 73 (.agg #[(.int .i64 0), (.int .i64 0), (.int .i64 0)]) 24 rfl Try.underlying29 info73 rfl (by decide) (by omega) v166 y165 y168 _ _ _ (fun k_ => some k_ ≠ (.slice Ao7 x3_1.length co7 : Value).ownBlock ∧ some k_ ≠ (v176 : Value).ownBlock ∧ k_ ≠ gb139) (fun _ => False) rfl rfl ?aO ?aR (fun _ _ h => h) (fun _ h => h.elim) ?aF ?aB ?aS ?aL ?_
                 (case aR => repeat (first | exact (by repeat (first | (with_reducible exact HR171.out) | (with_reducible refine Kd.C_alloc ?_ _) | (with_reducible refine Kd.C_drewN ?_ _) | (with_reducible refine Kd.C_drew ?_) | exact HR171.out)) | (with_reducible refine Kd.C_alloc ?_ _) | (with_reducible refine Kd.C_drewN ?_ _) | (with_reducible refine Kd.C_drew ?_)))
                 (case aB => exact (upW HB))
                 (case aF => exact (fun k_ hk => ⟨Kd.fresh' (Kd.R_lt (upR HO_3)) k_ hk, Kd.fresh' (Kd.R_lt (upR HO177)) k_ hk, Kd.freshB (g := gb139) (o := .cells #[.int .i64 ((rd_T73 l0 x10_1).f0), .int .i64 ((rd_T73 l0 x10_1).f1), .int .i64 ((rd_T73 l0 x10_1).f2)] 73 (0, 0)) (upK BK139) k_ hk⟩))
                 (case aO => exact (by (with_reducible repeat (first | apply Kd.R_alloc | apply Kd.R_drewN | apply Kd.R_drew)); exact Kd.R_mono HO167.out (fun _ hk => ⟨hk.1.1.2, ⟨hk.2, hk.1.2⟩⟩)))
                 (case aS => exact (below_size (upW HB)))
                 (case aL => have := LMc39.out; omega)
                 intro v173 w51 ho hb hg hat
                 rw [← Ny172.out] at ho
                 have n0_ := Aside0.mk (Kd.R_after (ok := (fun k_ => some k_ ≠ (v176 : Value).ownBlock ∧ k_ ≠ gb139)) (by (with_reducible repeat (first | apply Kd.R_alloc | apply Kd.R_drewN | apply Kd.R_drew)); exact Kd.R_mono HO_3.out (fun _ hk => ⟨⟨hk.2, hk.1.1⟩, hk.1.2⟩)) hg hat)
                 have n1_ := Aside0.mk (blk_grown (upK BK139) hg (Kd.R_away HO167.out (fun _ hk => hk.1.2)))
                 have n2_ := Aside0.mk (Kd.R_after (ok := (fun k_ => some k_ ≠ (.slice Ao7 x3_1.length co7 : Value).ownBlock ∧ k_ ≠ gb139)) (by (with_reducible repeat (first | apply Kd.R_alloc | apply Kd.R_drewN | apply Kd.R_drew)); exact Kd.R_mono HO177.out (fun _ hk => ⟨⟨hk.1.1.2, hk.2⟩, hk.1.2⟩)) hg hat)
                 have n3_ := Aside0.mk (hb)
                 have n4_ := Aside0.mk ((show Kd.C k73 w51 Ao7 y168.length y168 from by rw [Ny168.out]; exact Kd.C_take (m := (x6_2 : Int).toNat) ((Kd.R_reads' (Kd.R_after (ok := (fun k_ => some k_ ≠ (v176 : Value).ownBlock ∧ k_ ≠ gb139)) (by (with_reducible repeat (first | apply Kd.R_alloc | apply Kd.R_drewN | apply Kd.R_drew)); exact Kd.R_mono HO_3.out (fun _ hk => ⟨⟨hk.2, hk.1.1⟩, hk.1.2⟩)) hg hat)).2.2) KL46.out))
                 have n5_ := Aside0.mk (ho)
                 clear HO_3
                 clear BK139
                 clear HO177
                 clear HB
                 clear HR171
                 clear HO167
                 have HO_3 := n0_
                 have BK139 := n1_
                 have HO177 := n2_
                 have HB := n3_
                 have HR171 := n4_
                 have HO174 := n5_
                 clear n0_ n1_ n2_ n3_ n4_ n5_
                 clear ho hb hg hat
                 refine hK.out _ _ ⟨(blk_cell BK139.out 0).trans rfl, (blk_cell BK139.out 1).trans rfl, (blk_cell BK139.out 2).trans rfl⟩ (fun hHeld => ?_)
                 clear hK K
                 refine norm_ (a' := ?_) ?_ ?_
                 rotate_left
                 ·show Act.put _ (some 33) _ = _
                  simp only [Act.put, List.setIfInBounds_toArray, List.set_cons_zero, List.set_cons_succ, i64_w, i32_w]
                  rfl
                 exact norm_ (by simp only [putAll, Act.put, List.setIfInBounds_toArray, List.set_cons_zero, List.set_cons_succ]) (hCont (v166, v173, v176) _ ⟨hHeld, (by (with_reducible repeat (first | apply Kd.R_alloc | apply Kd.R_drewN | apply Kd.R_drew)); exact Kd.R_mono HO174.out (fun _ hk => ⟨hk.2.1, ⟨hk.1, hk.2.2⟩⟩)), (by (with_reducible repeat (first | apply Kd.R_alloc | apply Kd.R_drewN | apply Kd.R_drew)); exact Kd.R_mono HO177.out (fun _ hk => ⟨hk.2, ⟨hk.1.1, hk.1.2⟩⟩)), (by (with_reducible repeat (first | apply Kd.R_alloc | apply Kd.R_drewN | apply Kd.R_drew)); exact Kd.R_mono HO_3.out (fun _ hk => ⟨hk.2, ⟨hk.1.1, hk.1.2⟩⟩)), (upK BK139), (upW HB)⟩)
               ·skip
                refine Kd.R_lit_step k73 _ 73 ?hg (N := 35) ?hd (xs := ([(⟨((rd_T73 l0 x10_1).f0), ((rd_T73 l0 x10_1).f1), ((rd_T73 l0 x10_1).f2)⟩ : S73)] : List (S73))) (inner := [.int .i64 ((rd_T73 l0 x10_1).f0), .int .i64 ((rd_T73 l0 x10_1).f1), .int .i64 ((rd_T73 l0 x10_1).f2)]) (ok := fun _ => True) (okp := fun _ => True) ?hr ?hp (fun _ hk => hk) trivial (Below.refl _ _) (Nat.le_refl _) (by simp) ?_; (case hd => rfl); (case hg => rfl); (case hr => first | (go_simp; done) | (go_simp; rfl)); (case hp => exact (Reps.c3 (show Kd.M k73 _ _ _ (⟨((rd_T73 l0 x10_1).f0), ((rd_T73 l0 x10_1).f1), ((rd_T73 l0 x10_1).f2)⟩ : S73) [.int .i64 ((rd_T73 l0 x10_1).f0), .int .i64 ((rd_T73 l0 x10_1).f1), .int .i64 ((rd_T73 l0 x10_1).f2)] from (k73_mkM _ _ _ (⟨((rd_T73 l0 x10_1).f0), ((rd_T73 l0 x10_1).f1), ((rd_T73 l0 x10_1).f2)⟩ : S73) )) (Reps.none _ _)))
                intro v176 w47 ho48 hb hg_ hnew_
                clear hg_ hnew_
                (first | rw [← Ny175.out] at ho48 | (simp only [Int.reduceToNat] at ho48; rw [← Ny175.out] at ho48))
                have n0_ := Aside0.mk (Kd.R_elder' (upR HO_3) (Kd.R_base ho48) hb)
                have n1_ := Aside0.mk (Kd.R_lower (Kd.R_newB (Kd.R_new' ho48 (Kd.R_lt (upR HO_3))) (g := gb139) (o := .cells #[.int .i64 ((rd_T73 l0 x10_1).f0), .int .i64 ((rd_T73 l0 x10_1).f1), .int .i64 ((rd_T73 l0 x10_1).f2)] 73 (0, 0)) (upK BK139)) (below_size (upW HB)))
                have n2_ := Aside0.mk (blk_below (upK BK139) hb)
                have n3_ := Aside0.mk (Kd.C_below (by repeat (first | (with_reducible exact HR171.out) | (with_reducible refine Kd.C_alloc ?_ _) | (with_reducible refine Kd.C_drewN ?_ _) | (with_reducible refine Kd.C_drew ?_) | exact HR171.out)) hb)
                have n4_ := Aside0.mk (below_step (upW HB) hb)
                clear HO_3
                clear BK139
                clear HR171
                clear HB
                have HO_3 := n0_
                have HO177 := n1_
                have BK139 := n2_
                have HR171 := n3_
                have HB := n4_
                clear n0_ n1_ n2_ n3_ n4_
                clear hb ho48
                refine hK.out _ _ ⟨(blk_cell BK139.out 0).trans rfl, (blk_cell BK139.out 1).trans rfl, (blk_cell BK139.out 2).trans rfl⟩ (fun hHeld => ?_)
                clear hK K
                refine norm_ (a' := ?_) ?_ ?_
                rotate_left
                ·show Act.put _ (some 35) _ = _
                 simp only [Act.put, List.setIfInBounds_toArray, List.set_cons_zero, List.set_cons_succ, i64_w, i32_w]
                 rfl
                refine one_ (i := 0) (N := some 29) #[true, true, true, true, false, true, true, false, false] rfl rfl (one_of HT_.out (by kernel_rfl)) (by decide) (fun K hK => ?_)
                refine Kd.R_lit_step k73 _ 73 ?hg (N := 29) ?hd (xs := ([] : List (S73))) (inner := []) (ok := fun _ => True) (okp := fun _ => True) ?hr ?hp (fun _ hk => hk) trivial (Below.refl _ _) (Nat.le_refl _) (by simp) ?_; (case hd => rfl); (case hg => rfl); (case hr => first | (go_simp; done) | (go_simp; rfl)); (case hp => exact (Reps.none _ _))
                intro v166 w49 ho50 hb hg_ hnew_
                clear hg_ hnew_
                (first | rw [← Ny165.out] at ho50 | (simp only [Int.reduceToNat] at ho50; rw [← Ny165.out] at ho50))
                have n0_ := Aside0.mk (Kd.R_elder' (upR HO_3) (Kd.R_base ho50) hb)
                have n1_ := Aside0.mk (Kd.R_elder' (upR HO177) (Kd.R_base ho50) hb)
                have n2_ := Aside0.mk (Kd.R_lower (Kd.R_newB (Kd.R_new' (Kd.R_new' ho50 (Kd.R_lt (upR HO_3))) (Kd.R_lt (upR HO177))) (g := gb139) (o := .cells #[.int .i64 ((rd_T73 l0 x10_1).f0), .int .i64 ((rd_T73 l0 x10_1).f1), .int .i64 ((rd_T73 l0 x10_1).f2)] 73 (0, 0)) (upK BK139)) (below_size (upW HB)))
                have n3_ := Aside0.mk (blk_below (upK BK139) hb)
                have n4_ := Aside0.mk (Kd.C_below (by repeat (first | (with_reducible exact HR171.out) | (with_reducible refine Kd.C_alloc ?_ _) | (with_reducible refine Kd.C_drewN ?_ _) | (with_reducible refine Kd.C_drew ?_) | exact HR171.out)) hb)
                have n5_ := Aside0.mk (below_step (upW HB) hb)
                clear HO_3
                clear HO177
                clear BK139
                clear HR171
                clear HB
                have HO_3 := n0_
                have HO177 := n1_
                have HO167 := n2_
                have BK139 := n3_
                have HR171 := n4_
                have HB := n5_
                clear n0_ n1_ n2_ n3_ n4_ n5_
                clear hb ho50
                refine hK.out _ _ ⟨(blk_cell BK139.out 0).trans rfl, (blk_cell BK139.out 1).trans rfl, (blk_cell BK139.out 2).trans rfl⟩ (fun hHeld => ?_)
                clear hK K
                refine norm_ (a' := ?_) ?_ ?_
                rotate_left
                ·show Act.put _ (some 29) _ = _
                 simp only [Act.put, List.setIfInBounds_toArray, List.set_cons_zero, List.set_cons_succ, i64_w, i32_w]
                 rfl
                refine one_ (i := 4) (N := some 33) #[true, true, true, true, true, true, true, false, false] rfl rfl (one_of HT_.out (by kernel_rfl)) (by decide) (fun K hK => ?_)
                refine Kd.R_append_rows_step k73 (w0 := w) w.heap.size (by rfl) (.tmp 29) (.tmp 32) 29 73 (.agg #[(.int .i64 0), (.int .i64 0), (.int .i64 0)]) 24 rfl Try.underlying29 info73 rfl (by decide) (by omega) v166 y165 y168 _ _ _ (fun k_ => some k_ ≠ (.slice Ao7 x3_1.length co7 : Value).ownBlock ∧ some k_ ≠ (v176 : Value).ownBlock ∧ k_ ≠ gb139) (fun _ => False) rfl rfl ?aO ?aR (fun _ _ h => h) (fun _ h => h.elim) ?aF ?aB ?aS ?aL ?_
                (case aR => repeat (first | exact (by repeat (first | (with_reducible exact HR171.out) | (with_reducible refine Kd.C_alloc ?_ _) | (with_reducible refine Kd.C_drewN ?_ _) | (with_reducible refine Kd.C_drew ?_) | exact HR171.out)) | (with_reducible refine Kd.C_alloc ?_ _) | (with_reducible refine Kd.C_drewN ?_ _) | (with_reducible refine Kd.C_drew ?_)))
                (case aB => exact (upW HB))
                (case aF => exact (fun k_ hk => ⟨Kd.fresh' (Kd.R_lt (upR HO_3)) k_ hk, Kd.fresh' (Kd.R_lt (upR HO177)) k_ hk, Kd.freshB (g := gb139) (o := .cells #[.int .i64 ((rd_T73 l0 x10_1).f0), .int .i64 ((rd_T73 l0 x10_1).f1), .int .i64 ((rd_T73 l0 x10_1).f2)] 73 (0, 0)) (upK BK139) k_ hk⟩))
                (case aO => exact (by (with_reducible repeat (first | apply Kd.R_alloc | apply Kd.R_drewN | apply Kd.R_drew)); exact Kd.R_mono HO167.out (fun _ hk => ⟨hk.1.1.2, ⟨hk.1.2, hk.2⟩⟩)))
                (case aS => exact (below_size (upW HB)))
                (case aL => have := LMc39.out; omega)
                intro v173 w51 ho hb hg hat
                rw [← Ny172.out] at ho
                have n0_ := Aside0.mk (Kd.R_after (ok := (fun k_ => some k_ ≠ (v176 : Value).ownBlock ∧ k_ ≠ gb139)) (by (with_reducible repeat (first | apply Kd.R_alloc | apply Kd.R_drewN | apply Kd.R_drew)); exact Kd.R_mono HO_3.out (fun _ hk => ⟨⟨hk.1.2, hk.1.1⟩, hk.2⟩)) hg hat)
                have n1_ := Aside0.mk (blk_grown (upK BK139) hg (Kd.R_away HO167.out (fun _ hk => hk.2)))
                have n2_ := Aside0.mk (Kd.R_after (ok := (fun k_ => some k_ ≠ (.slice Ao7 x3_1.length co7 : Value).ownBlock ∧ k_ ≠ gb139)) (by (with_reducible repeat (first | apply Kd.R_alloc | apply Kd.R_drewN | apply Kd.R_drew)); exact Kd.R_mono HO177.out (fun _ hk => ⟨⟨hk.1.1.2, hk.1.2⟩, hk.2⟩)) hg hat)
                have n3_ := Aside0.mk (hb)
                have n4_ := Aside0.mk ((show Kd.C k73 w51 Ao7 y168.length y168 from by rw [Ny168.out]; exact Kd.C_take (m := (x6_2 : Int).toNat) ((Kd.R_reads' (Kd.R_after (ok := (fun k_ => some k_ ≠ (v176 : Value).ownBlock ∧ k_ ≠ gb139)) (by (with_reducible repeat (first | apply Kd.R_alloc | apply Kd.R_drewN | apply Kd.R_drew)); exact Kd.R_mono HO_3.out (fun _ hk => ⟨⟨hk.1.2, hk.1.1⟩, hk.2⟩)) hg hat)).2.2) KL46.out))
                have n5_ := Aside0.mk (ho)
                clear HO_3
                clear BK139
                clear HO177
                clear HB
                clear HR171
                clear HO167
                have HO_3 := n0_
                have BK139 := n1_
                have HO177 := n2_
                have HB := n3_
                have HR171 := n4_
                have HO174 := n5_
                clear n0_ n1_ n2_ n3_ n4_ n5_
                clear ho hb hg hat
                refine hK.out _ _ ⟨(blk_cell BK139.out 0).trans rfl, (blk_cell BK139.out 1).trans rfl, (blk_cell BK139.out 2).trans rfl⟩ (fun hHeld => ?_)
                clear hK K
                refine norm_ (a' := ?_) ?_ ?_
                rotate_left
                ·show Act.put _ (some 33) _ = _
                 simp only [Act.put, List.setIfInBounds_toArray, List.set_cons_zero, List.set_cons_succ, i64_w, i32_w]
                 rfl
                exact norm_ (by simp only [putAll, Act.put, List.setIfInBounds_toArray, List.set_cons_zero, List.set_cons_succ]) (hCont (v166, v173, v176) _ ⟨hHeld, (by (with_reducible repeat (first | apply Kd.R_alloc | apply Kd.R_drewN | apply Kd.R_drew)); exact Kd.R_mono HO174.out (fun _ hk => ⟨hk.2.1, ⟨hk.1, hk.2.2⟩⟩)), (by (with_reducible repeat (first | apply Kd.R_alloc | apply Kd.R_drewN | apply Kd.R_drew)); exact Kd.R_mono HO177.out (fun _ hk => ⟨hk.2, ⟨hk.1.1, hk.1.2⟩⟩)), (by (with_reducible repeat (first | apply Kd.R_alloc | apply Kd.R_drewN | apply Kd.R_drew)); exact Kd.R_mono HO_3.out (fun _ hk => ⟨hk.2, ⟨hk.1.1, hk.1.2⟩⟩)), (upK BK139), (upW HB)⟩)
              rintro ⟨v166, v173, v176⟩ w52 ⟨hS_, h0_, h1_, h2_, h3_, h4_⟩
              have n0_ : Aside0 (Kd.R k73 73 w52 w.heap.size (fun k_ => some k_ ≠ (v176 : Value).ownBlock ∧ some k_ ≠ (.slice Ao7 x3_1.length co7 : Value).ownBlock ∧ k_ ≠ gb139) v173 y172) := ⟨h0_⟩
              have n1_ : Aside0 (Kd.R k73 73 w52 w.heap.size (fun k_ => some k_ ≠ (v173 : Value).ownBlock ∧ some k_ ≠ (.slice Ao7 x3_1.length co7 : Value).ownBlock ∧ k_ ≠ gb139) v176 y175) := ⟨h1_⟩
              have n2_ : Aside0 (Kd.R k73 73 w52 w.heap.size (fun k_ => some k_ ≠ (v173 : Value).ownBlock ∧ some k_ ≠ (v176 : Value).ownBlock ∧ k_ ≠ gb139) (.slice Ao7 x3_1.length co7) x3_1) := ⟨h2_⟩
              have n3_ : Aside0 (w52.heap[gb139]? = some (.cells #[.int .i64 ((rd_T73 l0 x10_1).f0), .int .i64 ((rd_T73 l0 x10_1).f1), .int .i64 ((rd_T73 l0 x10_1).f2)] 73 (0, 0))) := ⟨h3_⟩
              have n4_ : Aside0 (Below w.heap.size w w52) := ⟨h4_⟩
              clear HO_3
              clear BK139
              clear HB
              clear h0_ h1_ h2_ h3_ h4_
              have HO174 := n0_
              have HO177 := n1_
              have HO_3 := n2_
              have BK139 := n3_
              have HB := n4_
              clear n0_ n1_ n2_ n3_ n4_
              have hHeld : w52.cell? ⟨gb139, 0, none⟩ = some (.int .i64 ((rd_T73 l0 x10_1).f0)) ∧ w52.cell? ⟨gb139, 1, none⟩ = some (.int .i64 ((rd_T73 l0 x10_1).f1)) ∧ w52.cell? ⟨gb139, 2, none⟩ = some (.int .i64 ((rd_T73 l0 x10_1).f2)) := hS_
              obtain ⟨Ao54, co54, eo54⟩ := Kd.R_slice HO177.out
              (first | subst eo54 | (injection eo54 with f1_ f2_ f3_; have f4_ := f1_.symm; have f5_ := f3_.symm; clear f1_ f2_ f3_; subst f4_; subst f5_))
              refine norm_ (a' := ?_) ?_ ?_
              rotate_left
              ·simp only [putAll, Act.put, List.setIfInBounds_toArray, List.set_cons_zero, List.set_cons_succ]
               rfl
              refine one_ (i := 7) (N := some 36) #[true, true, true, true, true, true, true, true, false] rfl rfl (one_of HT_.out (by kernel_rfl)) (by decide) (fun K hK => ?_)
              refine Kd.R_append_rows_step k73 (w0 := w) w.heap.size (by rfl) (.tmp 33) (.tmp 35) 29 73 (.agg #[(.int .i64 0), (.int .i64 0), (.int .i64 0)]) 24 rfl Try.underlying29 info73 rfl (by decide) (by omega) v173 y172 y175 _ _ _ (fun k_ => some k_ ≠ (.slice Ao7 x3_1.length co7 : Value).ownBlock ∧ some k_ ≠ (.slice Ao54 y175.length co54 : Value).ownBlock ∧ k_ ≠ gb139) (fun _ => False) rfl rfl ?aO ?aR (fun _ _ h => h) (fun _ h => h.elim) ?aF ?aB ?aS ?aL ?_
              (case aR => repeat (first | exact (Kd.R_reads' HO177.out).2.2 | (with_reducible refine Kd.C_alloc ?_ _) | (with_reducible refine Kd.C_drewN ?_ _) | (with_reducible refine Kd.C_drew ?_)))
              (case aB => exact (upW HB))
              (case aF => exact (fun k_ hk => ⟨Kd.fresh' (Kd.R_lt (upR HO_3)) k_ hk, Kd.fresh' (Kd.R_lt (upR HO177)) k_ hk, Kd.freshB (g := gb139) (o := .cells #[.int .i64 ((rd_T73 l0 x10_1).f0), .int .i64 ((rd_T73 l0 x10_1).f1), .int .i64 ((rd_T73 l0 x10_1).f2)] 73 (0, 0)) (upK BK139) k_ hk⟩))
              (case aO => exact (by (with_reducible repeat (first | apply Kd.R_alloc | apply Kd.R_drewN | apply Kd.R_drew)); exact Kd.R_mono HO174.out (fun _ hk => ⟨hk.2.1, ⟨hk.1, hk.2.2⟩⟩)))
              (case aS => exact (below_size (upW HB)))
              (case aL => have := LMc40.out; omega)
              intro v179 w53 ho hb hg hat
              rw [← Ny178.out] at ho
              have n0_ := Aside0.mk (Kd.R_after (ok := (fun k_ => some k_ ≠ (.slice Ao54 y175.length co54 : Value).ownBlock ∧ k_ ≠ gb139)) (by (with_reducible repeat (first | apply Kd.R_alloc | apply Kd.R_drewN | apply Kd.R_drew)); exact Kd.R_mono HO_3.out (fun _ hk => ⟨⟨hk.2.1, hk.2.2⟩, hk.1⟩)) hg hat)
              have n1_ := Aside0.mk (blk_grown (upK BK139) hg (Kd.R_away HO174.out (fun _ hk => hk.2.2)))
              have n2_ := Aside0.mk (Kd.R_after (ok := (fun k_ => some k_ ≠ (.slice Ao7 x3_1.length co7 : Value).ownBlock ∧ k_ ≠ gb139)) (by (with_reducible repeat (first | apply Kd.R_alloc | apply Kd.R_drewN | apply Kd.R_drew)); exact Kd.R_mono HO177.out (fun _ hk => ⟨⟨hk.2.1, hk.2.2⟩, hk.1⟩)) hg hat)
              have n3_ := Aside0.mk (hb)
              have n4_ := Aside0.mk (ho)
              clear HO_3
              clear BK139
              clear HO177
              clear HB
              clear HO174
              have HO_3 := n0_
              have BK139 := n1_
              have HO177 := n2_
              have HB := n3_
              have HO180 := n4_
              clear n0_ n1_ n2_ n3_ n4_
              clear ho hb hg hat
              refine hK.out _ _ ⟨(blk_cell BK139.out 0).trans rfl, (blk_cell BK139.out 1).trans rfl, (blk_cell BK139.out 2).trans rfl⟩ (fun hHeld => ?_)
              clear hK K
              refine norm_ (a' := ?_) ?_ ?_
              rotate_left
              ·show Act.put _ (some 36) _ = _
               simp only [Act.put, List.setIfInBounds_toArray, List.set_cons_zero, List.set_cons_succ, i64_w, i32_w]
               rfl
              refine pure_ (i := 8) (N := some 7) (v := ?_) (a' := ?_) #[true, true, true, true, true, true, true, true, true] rfl rfl (any_of HT_.out (by kernel_rfl)) (fun _ _ _ h => h) (Or.inl ⟨by rfl, ?_⟩) ?_ ?_
              rotate_left
              ·intro w'
               go_simp
               with_reducible rfl
              rotate_left
              ·simp only [Act.put, List.setIfInBounds_toArray, List.set_cons_zero, List.set_cons_succ, i64_w, i32_w]
               rfl
              refine done_ (done_of HT_.out (by kernel_rfl)) ?_
              have q55 : (x6_2 : Int) ≤ ((x3_1.length : Int) : Int) := of_decide_eq_true (by first | (with_reducible assumption) | assumption)
              obtain ⟨i055, hi055, _, hsz55, _⟩ := info_parts info73
              have hroom55 : x3_1.length ≤ co7 := (Kd.R_reads' HO_3.out).2.1
              have hC55 : Kd.C k73 _ Ao7 x3_1.length x3_1 := (Kd.R_reads' HO_3.out).2.2
              have q055 : (0 : Int) ≤ (x6_2 : Int) := of_decide_eq_true (by first | (with_reducible assumption) | assumption)
              have hcut55 := cut_from (P := Try.prog) 29 73 .i64 Try.underlying29 hi055 3 hsz55 Ao7 x3_1.length co7 x6_2 q055 q55
              have hr55 := Kd.C_drop (m := (x6_2 : Int).toNat) (c := co7) hC55 (by omega) hroom55
              obtain ⟨A55, hA55⟩ : ∃ A1, A1 = (if co7 = (x6_2 : Int).toNat then Ao7 else (Ao7 : Option Addr).map (·.add ((x6_2 : Int).toNat * 3))) := ⟨_, rfl⟩
              obtain ⟨c55, hc55⟩ : ∃ c1, c1 = co7 - (x6_2 : Int).toNat := ⟨_, rfl⟩
              have hy55 : y181.length = x3_1.length - (x6_2 : Int).toNat := (by rw [Ny181.out, List.length_drop] <;> omega)
              rw [show (x3_1).drop (x6_2 : Int).toNat = y181 from Ny181.out.symm] at hr55
              replace hr55 : Kd.C k73 _ A55 y181.length y181 := (by rw [hA55]; exact hr55)
              rw [← hy55, ← hA55, ← hc55] at hcut55
              have HR184 := Aside0.mk hr55
              have HC184 := Aside0.mk (show y181.length ≤ c55 from by rw [hy55, hc55]; exact Nat.sub_le_sub_right hroom55 _)
              clear hr55 hC55 hroom55 hi055 hsz55 hc55
              have KY55 := Aside0.mk hy55
              have KA55 := Aside0.mk hA55
              clear hy55 hA55
              have KL55 := Aside0.mk (show (x6_2 : Int).toNat ≤ x3_1.length from by omega)
              replace q55 := eq_true q55
              try go_wp2_with (first | ((with_reducible refine gate_builtin (b := .append) (xs := #[.tmp 37, .tmp 40]) rfl ?_); at_builtin; refine Kd.R_append_rows k73 (w0 := w) w.heap.size rfl (.tmp 37) (.tmp 40) 29 73 (.agg #[(.int .i64 0), (.int .i64 0), (.int .i64 0)]) 24 rfl Try.underlying29 info73 rfl (by decide) (by omega) v179 y178 y181 _ _ _ (fun k_ => some k_ ≠ (.slice Ao7 x3_1.length co7 : Value).ownBlock ∧ some k_ ≠ (.slice Ao54 y175.length co54 : Value).ownBlock ∧ k_ ≠ gb139) (fun _ => False) rfl rfl ?aO ?aR (fun _ _ h => h) (fun _ h => h.elim) ?aF ?aB ?aS ?aL ?_; (case aR => repeat (first | exact (by repeat (first | (with_reducible exact HR184.out) | (with_reducible refine Kd.C_alloc ?_ _) | (with_reducible refine Kd.C_drewN ?_ _) | (with_reducible refine Kd.C_drew ?_) | exact HR184.out)) | (with_reducible refine Kd.C_alloc ?_ _) | (with_reducible refine Kd.C_drewN ?_ _) | (with_reducible refine Kd.C_drew ?_))); (case aB => exact (upW HB)); (case aF => exact (fun k_ hk => ⟨Kd.fresh' (Kd.R_lt (upR HO_3)) k_ hk, Kd.fresh' (Kd.R_lt (upR HO177)) k_ hk, Kd.freshB (g := gb139) (o := .cells #[.int .i64 ((rd_T73 l0 x10_1).f0), .int .i64 ((rd_T73 l0 x10_1).f1), .int .i64 ((rd_T73 l0 x10_1).f2)] 73 (0, 0)) (upK BK139) k_ hk⟩)); (case aO => exact (upR HO180)); (case aS => exact (below_size (upW HB))); (case aL => have := LMc43.out; omega); intro v186 w56 ho hb hg hat; rw [← Ny185.out] at ho; have n0_ := Aside0.mk (Kd.R_after (ok := (fun k_ => some k_ ≠ (.slice Ao54 y175.length co54 : Value).ownBlock ∧ k_ ≠ gb139)) (upR HO_3) hg hat); have n1_ := Aside0.mk (blk_grown (upK BK139) hg (Kd.R_away HO180.out (fun _ hk => hk.2.2))); have n2_ := Aside0.mk (Kd.R_after (ok := (fun k_ => some k_ ≠ (.slice Ao7 x3_1.length co7 : Value).ownBlock ∧ k_ ≠ gb139)) (upR HO177) hg hat); have n3_ := Aside0.mk (hb); have n4_ := Aside0.mk ((show Kd.C k73 w56 A55 y181.length y181 from by rw [Ny181.out, KA55.out]; exact Kd.C_drop (m := (x6_2 : Int).toNat) (c := co7) ((Kd.R_reads' (Kd.R_after (ok := (fun k_ => some k_ ≠ (.slice Ao54 y175.length co54 : Value).ownBlock ∧ k_ ≠ gb139)) (upR HO_3) hg hat)).2.2) KL55.out ((Kd.R_reads' (Kd.R_after (ok := (fun k_ => some k_ ≠ (.slice Ao54 y175.length co54 : Value).ownBlock ∧ k_ ≠ gb139)) (upR HO_3) hg hat)).2.1))); have n5_ := Aside0.mk (ho); clear HO_3; clear BK139; clear HO177; clear HB; clear HR184; clear HO180; have HO_3 := n0_; have BK139 := n1_; have HO177 := n2_; have HB := n3_; have HR184 := n4_; have HO187 := n5_; clear n0_ n1_ n2_ n3_ n4_ n5_; clear ho hb hg hat))
              go_roundg k2
              case measure => have := HK1.out; have := HK2.out; omega
              case rel => exact ⟨(y185), (wrap64 (x10_1 + 1)), (by first | rfl | (simp; done) | (simp [*]; done)), H', ⟨by have := HK1.out; have := HK2.out; omega⟩, ⟨by (with_reducible repeat (first | apply Kd.R_alloc | apply Kd.R_drewN | apply Kd.R_drew)); exact Kd.R_mono HO187.out (fun _ hk => trivial)⟩, ⟨upW HB⟩⟩
             ·rw [if_neg c43] at H
              exact absurd H (by simp)
            ·rw [if_neg c40] at H
             exact absurd H (by simp)
           ·rw [if_neg c39] at H
            exact absurd H (by simp)
          ·rw [if_neg c38] at H
           exact absurd H (by simp)
         ·rw [if_neg c37] at H
          exact absurd H (by simp)
     ·rw [if_neg c4] at H
      exact absurd H (by simp)
    ·rw [if_neg c3] at H
     exact absurd H (by simp)
   ·rw [if_neg c2] at H
    have c2b0 : decide (x10_1 < (l0.length : Int)) = false := decide_eq_false c2
    clear c2
    obtain rfl := Option.some.inj H
    go_wp2
    go_ret
    exact ⟨_, by first | rfl | (simp [errW_none, errW_some] <;> rfl) | (simp [*, errW_none, errW_some] <;> rfl), by (with_reducible repeat (first | apply Kd.R_alloc | apply Kd.R_drewN | apply Kd.R_drew)); exact HO_3.out, by repeat (first | (with_reducible first | exact HB.out | apply below_alloc | apply pw_below_drewN | apply below_drew1) | exact HB.out)⟩

end Go.Proofs.Ythnjbpabiamkjaa.PFnExactCutOf
