-- made for this claim by a program of this session
import Derived.Test.YtngbmjldnfljiaaPFnExactGrowCutx0
import Derived.Test.YtngbmjldnfljiaaPFnExactGrowCutx2
namespace Go.Proofs.Ytngbmjldnfljiaa.PFnExactGrowCut
open Go.RowKit Go.Proofs.YtngbmjldnfljiaaW.PrintWords Go.Proofs.YtngbmjldnfljiaaW.PrintLast Go.Proofs.YtngbmjldnfljiaaW.PrintMore
attribute [local go_sem] max2_int min2_int max_two min_two max_three min_three max_four min_four   -- for this text's walks alone
set_option linter.unusedVariables false
set_option linter.unusedSimpArgs false

/-! ### spec_cuSorted: function 99 -/
mutual
def spec_cuSorted.l0 : Nat → List (S83) → List (S83) → Int → Int → Option ((List (S83)))
 | 0, _, _, _, _ => none
 | k + 1, x3, x8, x9, x10 => if x10 < x9 then (if 0 ≤ x10 then (if x10 < (x8.length : Int) then (spec_cuSorted.l1 k x3 (x3.length : Int) x8 x9 x10 ((rd_T83 x8 x10).f0) ((rd_T83 x8 x10).f1) ((rd_T83 x8 x10).f2)) else (none)) else (none)) else (some x3)
def spec_cuSorted.l1 : Nat → List (S83) → Int → List (S83) → Int → Int → Int → Int → Int → Option ((List (S83)))
 | 0, _, _, _, _, _, _, _, _ => none
 | k + 1, x3, x6, x8, x9, x10, x159000, x159001, x159002 => if x6 > 0 then (if 0 ≤ (wrap64 (x6 - 1)) then (if (wrap64 (x6 - 1)) < (x3.length : Int) then ((spec_cuLess.f x159000 x159001 x159002 ((rd_T83 x3 (wrap64 (x6 - 1))).f0) ((rd_T83 x3 (wrap64 (x6 - 1))).f1) ((rd_T83 x3 (wrap64 (x6 - 1))).f2)).bind fun t160 => (if t160 = true then (spec_cuSorted.l1 k x3 (wrap64 (x6 - 1)) x8 x9 x10 x159000 x159001 x159002) else ((some (([] : List (S83)) : List (S83))).bind fun y161 => (if 0 ≤ x6 then (if x6 ≤ (x3.length : Int) then ((some (x3.take (x6 : Int).toNat : List (S83))).bind fun y164 => (if y161.length + y164.length < 5864062014805 then ((some (y161 ++ y164 : List (S83))).bind fun y168 => ((some (([(⟨x159000, x159001, x159002⟩ : S83)] : List (S83)) : List (S83))).bind fun y171 => (if y168.length + y171.length < 5864062014805 then ((some (y168 ++ y171 : List (S83))).bind fun y174 => ((some (x3.drop (x6 : Int).toNat : List (S83))).bind fun y177 => (if y174.length + y177.length < 5864062014805 then (spec_cuSorted.l0 k (y174 ++ y177) x8 x9 (wrap64 (x10 + 1))) else (none)))) else (none)))) else (none))) else (none)) else (none))))) else (none)) else (none)) else ((some (([] : List (S83)) : List (S83))).bind fun y184 => (if 0 ≤ x6 then (if x6 ≤ (x3.length : Int) then ((some (x3.take (x6 : Int).toNat : List (S83))).bind fun y187 => (if y184.length + y187.length < 5864062014805 then ((some (y184 ++ y187 : List (S83))).bind fun y191 => ((some (([(⟨x159000, x159001, x159002⟩ : S83)] : List (S83)) : List (S83))).bind fun y194 => (if y191.length + y194.length < 5864062014805 then ((some (y191 ++ y194 : List (S83))).bind fun y197 => ((some (x3.drop (x6 : Int).toNat : List (S83))).bind fun y200 => (if y197.length + y200.length < 5864062014805 then (spec_cuSorted.l0 k (y197 ++ y200) x8 x9 (wrap64 (x10 + 1))) else (none)))) else (none)))) else (none))) else (none)) else (none)))
end
def spec_cuSorted.f (k : Nat) (l0 : List (S83)) : Option ((List (S83))) := spec_cuSorted.l0 k ([] : List (S83)) l0 (l0.length : Int) 0
def spec_cuSorted.T6 : Bool × List (List Nat × List Nat) := (true, [([], []), ([0], [0]), ([1], [1]), ([2], [2]), ([2], [2]), ([2], [2]), ([5, 2], [2, 5]), ([4, 6, 2], [2, 4, 6]), ([7, 2], [2, 7]), ([3, 8, 2, 2], [2, 3, 8]), ([2, 9], [2, 9])])
def spec_cuSorted.B6 : List Nat := [0, 1, 3, 7, 7, 7, 39, 119, 247, 511, 1023]
theorem spec_cuSorted.tab6 : rtab .any (opsOf Try.f99 6) = spec_cuSorted.T6 := by kernel_rfl
theorem spec_cuSorted.bits6 : waitsOk spec_cuSorted.T6.2 spec_cuSorted.B6 = true := by kernel_rfl
def spec_cuSorted.T8 : Bool × List (List Nat × List Nat) := (true, [([], []), ([], []), ([], []), ([1, 2], [1, 2]), ([0, 3], [0, 3]), ([], []), ([5], [5]), ([4, 6, 4], [4, 6]), ([7, 7, 0, 1, 2, 3, 4, 5, 6, 7], [7])])
def spec_cuSorted.B8 : List Nat := [0, 0, 0, 6, 15, 0, 32, 127, 255]
theorem spec_cuSorted.tab8 : rtab .any (opsOf Try.f99 8) = spec_cuSorted.T8 := by kernel_rfl
theorem spec_cuSorted.bits8 : waitsOk spec_cuSorted.T8.2 spec_cuSorted.B8 = true := by kernel_rfl
set_option maxHeartbeats 8000000 in
set_option maxRecDepth 100000 in
theorem spec_cuSorted.calls (k : Nat) (A0 : Option Addr) (c0 : Nat) (l0 : List (S83)) (r : List (S83)) (w : World) (hr0 : Kd.C k83 w A0 l0.length l0) (hc0 : l0.length ≤ c0) (h : spec_cuSorted.f k l0 = some r) :
  Calls Try.prog 99 #[.slice A0 l0.length c0] w fun e w' => ∃ v0_ : Value, e = .returned (v0_) ∧ Kd.R k83 83 w' w.heap.size (fun _ => True) v0_ r ∧ Below w.heap.size w w' := by
 have hu83 := Try.underlying83
 have HR0 := Aside0.mk hr0
 have HC0 := Aside0.mk hc0
 clear hr0 hc0
 have HB := Aside0.mk (Below.refl w.heap.size w)
 have H : (spec_cuSorted.l0 k ([] : List (S83)) l0 (l0.length : Int) 0) = some r := h
 clear h
 have H' := Aside0.mk H
 clear H
 go_enter Try.func99, Try.ntmps99
 go_wp2
 go_loopg [3, 10] k (fun kq v3 v10 w' => ∃ (x3_1 : List (S83)) (x10_1 : Int), v10 = .int .i64 x10_1 ∧ Aside0 (spec_cuSorted.l0 kq x3_1 l0 (l0.length : Int) x10_1 = some r) ∧ Aside0 (kq ≤ k) ∧ Aside0 (Kd.R k83 83 w' w.heap.size (fun _ => True) v3 x3_1) ∧ Aside0 (Below w.heap.size w w'))
 case atStart => exact ⟨(([] : List (S83))), (0), (by first | rfl | (simp; done) | (simp [*]; done)), H', ⟨Nat.le_refl _⟩, ⟨by first | exact Kd.R_nil _ _ _ _ _ | exact Kd.N_nil _ _ _ _ _ | exact Kd.V_nil _ _ _ _ _ | exact Kd.Q_nil _ _ _ _ _ | exact Kd.S_nil _ _ _ _ _⟩, ⟨upW HB⟩⟩
 case round =>
  clear H'
  obtain ⟨x3_1, x10_1, rfl, HA, HK1, HO_3, HB⟩ := hrel
  cases gk with
  | zero => exact absurd HA.out (by simp [spec_cuSorted.l0])
  | succ k1 =>
   have H := HA.out
   clear HA
   simp only [spec_cuSorted.l0] at H
   by_cases c2 : x10_1 < (l0.length : Int)
   ·rw [if_pos c2] at H
    have c2b0 : decide (x10_1 < (l0.length : Int)) = true := decide_eq_true c2
    clear c2
    by_cases c3 : 0 ≤ x10_1
    ·rw [if_pos c3] at H
     have c3b0 : decide (0 ≤ x10_1) = true := decide_eq_true c3
     clear c3
     by_cases c4 : x10_1 < (l0.length : Int)
     ·rw [if_pos c4] at H
      have c4b0 : decide (x10_1 < (l0.length : Int)) = true := decide_eq_true c4
      clear c4
      have H' := Aside0.mk H
      clear H
      have p157 : 0 ≤ (x10_1 : Int) := of_decide_eq_true (by first | (with_reducible assumption) | assumption)
      have q157 : x10_1 < (l0.length : Int) := of_decide_eq_true (by first | (with_reducible assumption) | assumption)
      obtain ⟨ad157, e157, hx157_0, hx157_1, hx157_2⟩ := at_T83 HR0.out x10_1 p157 q157
      cases e157
      replace hx157_0 := (HB.out.cell (World.block_lt_of_cell? w _ hx157_0)).trans hx157_0
      replace hx157_1 := (HB.out.cell (World.block_lt_of_cell? w _ hx157_1)).trans hx157_1
      replace hx157_2 := (HB.out.cell (World.block_lt_of_cell? w _ hx157_2)).trans hx157_2
      replace p157 := eq_true p157
      replace q157 := eq_true q157
      go_wp2_with (first | ((with_reducible refine gate_dst (N := 5) rfl ?_); refine box_event ?hg (N := 5) ?hd (cs := #[.int .i64 0, .int .i64 0, .int .i64 0]) (t := 83) ?hr ?_; (case hd => rfl); (case hg => rfl); (case hr => first | (go_simp; done) | (go_simp; rfl)); intro gb158 hg w5 hbox hb; have n0_ := Aside0.mk (Kd.R_below (Kd.R_elderB (upR HO_3) gb158 (Nat.le_of_eq hg.symm)) hb); have n1_ := Aside0.mk (below_step (upW HB) hb); have n2_ := Aside0.mk (hbox); have n3_ := Aside0.mk ((by rw [hg]; exact (below_size (upW HB)) : w.heap.size ≤ gb158)); have n4_ := Aside0.mk ((by rw [hg]; exact (below_size (upW HB)) : w.heap.size ≤ gb158)); clear HO_3; clear HB; have HO_3 := n0_; have HB := n1_; have BK158 := n2_; have GW158 := n3_; have GE158 := n4_; clear n0_ n1_ n2_ n3_ n4_; clear hb hbox hg; have hcz6_0 : w5.cell? ⟨gb158, 0, none⟩ = some (.int .i64 0) := (blk_cell BK158.out 0).trans rfl; have hcz6_1 : w5.cell? ⟨gb158, 1, none⟩ = some (.int .i64 0) := (blk_cell BK158.out 1).trans rfl; have hcz6_2 : w5.cell? ⟨gb158, 2, none⟩ = some (.int .i64 0) := (blk_cell BK158.out 2).trans rfl; have hfz6_0 := blk_frozen BK158.out 0; have hfz6_1 := blk_frozen BK158.out 1; have hfz6_2 := blk_frozen BK158.out 2; obtain ⟨Ao7, co7, eo7⟩ := Kd.R_slice HO_3.out; subst eo7))
      go_loopg [6] k1 (fun kq v6 w' => ∃ (x6_2 : Int), v6 = .int .i64 x6_2 ∧ Aside0 (spec_cuSorted.l1 kq x3_1 x6_2 l0 (l0.length : Int) x10_1 ((rd_T83 l0 x10_1).f0) ((rd_T83 l0 x10_1).f1) ((rd_T83 l0 x10_1).f2) = some r) ∧ Aside0 (kq ≤ k1) ∧ Aside0 (Kd.R k83 83 w' w.heap.size (fun k_ => k_ ≠ gb158) (.slice Ao7 x3_1.length co7) x3_1) ∧ Aside0 (w'.heap[gb158]? = some (.cells #[.int .i64 ((rd_T83 l0 x10_1).f0), .int .i64 ((rd_T83 l0 x10_1).f1), .int .i64 ((rd_T83 l0 x10_1).f2)] 83 (0, 0))) ∧ Aside0 (Below w.heap.size w w'))
      case atStart => exact ⟨((x3_1.length : Int)), (by first | rfl | (simp; done) | (simp [*]; done)), H', ⟨Nat.le_refl _⟩, ⟨by (with_reducible repeat (first | apply Kd.R_alloc | apply Kd.R_drewN | apply Kd.R_drew)); exact Kd.R_mono (Kd.R_far (p := ⟨gb158, 2, none⟩) (Kd.R_far (p := ⟨gb158, 1, none⟩) (Kd.R_far (p := ⟨gb158, 0, none⟩) (Kd.R_mono HO_3.out (fun k_ hk => (⟨hk, hk.2⟩ : _ ∧ k_ ≠ gb158))) (fun _ hk => hk.2) (.int .i64 ((rd_T83 l0 x10_1).f0))) (fun _ hk => hk.2) (.int .i64 ((rd_T83 l0 x10_1).f1))) (fun _ hk => hk.2) (.int .i64 ((rd_T83 l0 x10_1).f2))) (fun _ hk => hk.1.2)⟩, ⟨by (with_reducible repeat (first | refine blk_drewN ?_ _ | refine blk_drew ?_ | refine blk_alloc ?_ _)); refine blk_put (cs := #[.int .i64 ((rd_T83 l0 x10_1).f0), .int .i64 ((rd_T83 l0 x10_1).f1), .int .i64 0]) ?_ 2 _ rfl; (with_reducible repeat (first | refine blk_drewN ?_ _ | refine blk_drew ?_ | refine blk_alloc ?_ _)); refine blk_put (cs := #[.int .i64 ((rd_T83 l0 x10_1).f0), .int .i64 0, .int .i64 0]) ?_ 1 _ rfl; (with_reducible repeat (first | refine blk_drewN ?_ _ | refine blk_drew ?_ | refine blk_alloc ?_ _)); refine blk_put (cs := #[.int .i64 0, .int .i64 0, .int .i64 0]) ?_ 0 _ rfl; (with_reducible repeat (first | refine blk_drewN ?_ _ | refine blk_drew ?_ | refine blk_alloc ?_ _)); exact BK158.out⟩, ⟨upW HB⟩⟩
      case round =>
       clear H'
       try clear p1
       try clear q1
       try clear hx1
       try clear c2
       try clear c2b0
       try clear p2
       try clear c3
       try clear c3b0
       try clear c4
       try clear c4b0
       try clear hcz6_0
       try clear hcz6_1
       try clear hcz6_2
       try clear hfz6_0
       try clear hfz6_1
       try clear hfz6_2
       try clear hx157_0
       try clear hx157_1
       try clear hx157_2
       try clear p157
       try clear q157
       obtain ⟨x6_2, rfl, HA, HK2, HO_3, BK158, HB⟩ := hrel
       cases gk with
       | zero => exact absurd HA.out (by simp [spec_cuSorted.l1])
       | succ k2 =>
        have H := HA.out
        clear HA
        simp only [spec_cuSorted.l1] at H
        by_cases c8 : x6_2 > 0
        ·rw [if_pos c8] at H
         have c8b0 : decide (0 < x6_2) = true := decide_eq_true c8
         clear c8
         obtain ⟨ji9, hji9⟩ : ∃ j_ : Int, (wrap64 (x6_2 - 1)) = j_ := ⟨_, rfl⟩
         replace H : (if 0 ≤ (ji9) then (if (ji9) < (x3_1.length : Int) then ((spec_cuLess.f ((rd_T83 l0 x10_1).f0) ((rd_T83 l0 x10_1).f1) ((rd_T83 l0 x10_1).f2) ((rd_T83 x3_1 (ji9)).f0) ((rd_T83 x3_1 (ji9)).f1) ((rd_T83 x3_1 (ji9)).f2)).bind fun t160 => (if t160 = true then (spec_cuSorted.l1 k2 x3_1 ji9 l0 (l0.length : Int) x10_1 ((rd_T83 l0 x10_1).f0) ((rd_T83 l0 x10_1).f1) ((rd_T83 l0 x10_1).f2)) else ((some (([] : List (S83)) : List (S83))).bind fun y161 => (if 0 ≤ x6_2 then (if x6_2 ≤ (x3_1.length : Int) then ((some (x3_1.take (x6_2 : Int).toNat : List (S83))).bind fun y164 => (if y161.length + y164.length < 5864062014805 then ((some (y161 ++ y164 : List (S83))).bind fun y168 => ((some (([(⟨((rd_T83 l0 x10_1).f0), ((rd_T83 l0 x10_1).f1), ((rd_T83 l0 x10_1).f2)⟩ : S83)] : List (S83)) : List (S83))).bind fun y171 => (if y168.length + y171.length < 5864062014805 then ((some (y168 ++ y171 : List (S83))).bind fun y174 => ((some (x3_1.drop (x6_2 : Int).toNat : List (S83))).bind fun y177 => (if y174.length + y177.length < 5864062014805 then (spec_cuSorted.l0 k2 (y174 ++ y177) l0 (l0.length : Int) (wrap64 (x10_1 + 1))) else (none)))) else (none)))) else (none))) else (none)) else (none))))) else (none)) else (none)) = some r := by first | (rw [hji9] at H; exact H) | (simp only [hji9] at H ⊢; exact H)
         have hji9w : (IntKind.i64.wrap (x6_2 - 1)) = ji9 := (i64_w _).trans hji9
         by_cases c10 : 0 ≤ (ji9)
         ·rw [if_pos c10] at H
          have c10b0 : decide (0 ≤ (ji9)) = true := decide_eq_true c10
          clear c10
          by_cases c11 : (ji9) < (x3_1.length : Int)
          ·rw [if_pos c11] at H
           have c11b0 : decide ((ji9) < (x3_1.length : Int)) = true := decide_eq_true c11
           clear c11
           replace H := Option.bind_eq_some_iff.mp H
           obtain ⟨t160, A120, H⟩ := H
           replace H : (if t160 = true then (spec_cuSorted.l1 k2 x3_1 ji9 l0 (l0.length : Int) x10_1 ((rd_T83 l0 x10_1).f0) ((rd_T83 l0 x10_1).f1) ((rd_T83 l0 x10_1).f2)) else ((some (([] : List (S83)) : List (S83))).bind fun y161 => (if 0 ≤ x6_2 then (if x6_2 ≤ (x3_1.length : Int) then ((some (x3_1.take (x6_2 : Int).toNat : List (S83))).bind fun y164 => (if y161.length + y164.length < 5864062014805 then ((some (y161 ++ y164 : List (S83))).bind fun y168 => ((some (([(⟨((rd_T83 l0 x10_1).f0), ((rd_T83 l0 x10_1).f1), ((rd_T83 l0 x10_1).f2)⟩ : S83)] : List (S83)) : List (S83))).bind fun y171 => (if y168.length + y171.length < 5864062014805 then ((some (y168 ++ y171 : List (S83))).bind fun y174 => ((some (x3_1.drop (x6_2 : Int).toNat : List (S83))).bind fun y177 => (if y174.length + y177.length < 5864062014805 then (spec_cuSorted.l0 k2 (y174 ++ y177) l0 (l0.length : Int) (wrap64 (x10_1 + 1))) else (none)))) else (none)))) else (none))) else (none)) else (none)))) = some r := H
           have A12 := Aside0.mk A120
           clear A120
           by_cases c13 : t160 = true
           ·subst c13
            have H1 : (spec_cuSorted.l1 k2 x3_1 ji9 l0 (l0.length : Int) x10_1 ((rd_T83 l0 x10_1).f0) ((rd_T83 l0 x10_1).f1) ((rd_T83 l0 x10_1).f2)) = some r := by rw [if_pos rfl] at H; exact H
            clear H
            have H := H1
            clear H1
            have H' := Aside0.mk H
            clear H
            try go_wp2
            have n0_ := Aside0.mk (Kd.R_drew HO_3.out)
            have n1_ := Aside0.mk (blk_drew BK158.out)
            have n2_ := Aside0.mk (below_drew1 HB.out)
            clear HO_3
            clear BK158
            clear HB
            have HO_3 := n0_
            have BK158 := n1_
            have HB := n2_
            clear n0_ n1_ n2_
            have p159 : 0 ≤ ((ji9) : Int) := of_decide_eq_true (by first | (with_reducible assumption) | assumption)
            have q159 : (ji9) < (x3_1.length : Int) := of_decide_eq_true (by first | (with_reducible assumption) | assumption)
            obtain ⟨ad159, e159, hx159_0, hx159_1, hx159_2⟩ := at_T83 (Kd.R_reads' HO_3.out).2.2 (ji9) p159 q159
            cases e159
            replace p159 := eq_true p159
            replace q159 := eq_true q159
            refine start_ (n := 11) (S := fun w' => w'.cell? ⟨gb158, 0, none⟩ = some (.int .i64 ((rd_T83 l0 x10_1).f0)) ∧ w'.cell? ⟨gb158, 1, none⟩ = some (.int .i64 ((rd_T83 l0 x10_1).f1)) ∧ w'.cell? ⟨gb158, 2, none⟩ = some (.int .i64 ((rd_T83 l0 x10_1).f2)) ∧ w'.cell? (ad159.add (((ji9)).toNat * 3)) = some (.int .i64 ((rd_T83 x3_1 (ji9)).f0)) ∧ w'.cell? ⟨(ad159.add (((ji9)).toNat * 3)).block, (ad159.add (((ji9)).toNat * 3)).off + 1, none⟩ = some (.int .i64 ((rd_T83 x3_1 (ji9)).f1)) ∧ w'.cell? ⟨(ad159.add (((ji9)).toNat * 3)).block, (ad159.add (((ji9)).toNat * 3)).off + 2, none⟩ = some (.int .i64 ((rd_T83 x3_1 (ji9)).f2))) (ds := []) #[false, false, false, false, false, false, false, false, false, false, false] (by kernel_rfl) rfl rfl ⟨(blk_cell BK158.out 0).trans rfl, (blk_cell BK158.out 1).trans rfl, (blk_cell BK158.out 2).trans rfl, hx159_0, hx159_1, hx159_2⟩ (fun hHeld => ?_); refine with_tabW spec_cuSorted.tab6 spec_cuSorted.bits6 (fun HT_ HW_ => ?_)
            generalize wr.drew = w14 at HO_3 BK158 HB hx159_0 hx159_1 hx159_2 hHeld ⊢
            refine pure_ (i := 0) (N := some 16) (v := ?_) (a' := ?_) #[true, false, false, false, false, false, false, false, false, false, false] rfl rfl (any_of HT_.out (by kernel_rfl)) (fun _ _ _ h => h) (Or.inl ⟨by rfl, ?_⟩) ?_ ?_
            rotate_left
            ·intro w'
             go_simp
             with_reducible rfl
            rotate_left
            ·simp only [Act.put, List.setIfInBounds_toArray, List.set_cons_zero, List.set_cons_succ, i64_w, i32_w]
             rfl
            refine pure_ (i := 1) (N := some 17) (v := ?_) (a' := ?_) #[true, true, false, false, false, false, false, false, false, false, false] rfl rfl (any_of HT_.out (by kernel_rfl)) (fun _ _ _ h => h) (Or.inl ⟨by rfl, ?_⟩) ?_ ?_
            rotate_left
            ·intro w'
             go_simp
             with_reducible rfl
            rotate_left
            ·simp only [Act.put, List.setIfInBounds_toArray, List.set_cons_zero, List.set_cons_succ, i64_w, i32_w]
             rfl
            refine pure_ (i := 2) (N := some 18) (v := ?_) (a' := ?_) #[true, true, true, false, false, false, false, false, false, false, false] rfl rfl (any_of HT_.out (by kernel_rfl)) (fun _ _ _ h => h) (Or.inl ⟨by rfl, ?_⟩) ?_ ?_
            rotate_left
            ·intro w'
             go_simp
             with_reducible rfl
            rotate_left
            ·simp only [Act.put, List.setIfInBounds_toArray, List.set_cons_zero, List.set_cons_succ, i64_w, i32_w]
             rfl
            refine pure_ (i := 4) (N := some 20) (v := ?_) (a' := ?_) #[true, true, true, false, true, false, false, false, false, false, false] rfl rfl (any_of HT_.out (by kernel_rfl)) (fun _ _ _ h => h) (Or.inl ⟨by rfl, ?_⟩) ?_ ?_
            rotate_left
            ·intro w'
             go_simp
             with_reducible rfl
            rotate_left
            ·simp only [Act.put, List.setIfInBounds_toArray, List.set_cons_zero, List.set_cons_succ, i64_w, i32_w]
             rfl
            refine pure_ (i := 5) (N := some 21) (v := ?_) (a' := ?_) #[true, true, true, false, true, true, false, false, false, false, false] rfl rfl (any_of HT_.out (by kernel_rfl)) (fun _ _ _ h => h) (Or.inl ⟨by rfl, ?_⟩) ?_ ?_
            rotate_left
            ·intro w'
             go_simp
             with_reducible rfl
            rotate_left
            ·simp only [Act.put, List.setIfInBounds_toArray, List.set_cons_zero, List.set_cons_succ, i64_w, i32_w]
             rfl
            refine pure_ (i := 6) (N := some 22) (v := ?_) (a' := ?_) #[true, true, true, false, true, true, true, false, false, false, false] rfl rfl (any_of HT_.out (by kernel_rfl)) (fun _ _ _ h => h) (Or.inl ⟨by rfl, ?_⟩) ?_ ?_
            rotate_left
            ·intro w'
             go_simp
             with_reducible rfl
            rotate_left
            ·simp only [Act.put, List.setIfInBounds_toArray, List.set_cons_zero, List.set_cons_succ, i64_w, i32_w]
             rfl
            refine pure_ (i := 7) (N := some 23) (v := ?_) (a' := ?_) #[true, true, true, false, true, true, true, true, false, false, false] rfl rfl (any_of HT_.out (by kernel_rfl)) (fun _ _ _ h => h) (Or.inl ⟨by rfl, ?_⟩) ?_ ?_
            rotate_left
            ·intro w'
             go_simp
             with_reducible rfl
            rotate_left
            ·simp only [Act.put, List.setIfInBounds_toArray, List.set_cons_zero, List.set_cons_succ, i64_w, i32_w]
             rfl
            refine take_ (i := 3) (N := some 19) (v := ?_) (a' := ?_) #[true, true, true, true, true, true, true, true, false, false, false] rfl rfl (take_ofW HT_.out HW_.out (by kernel_rfl)) (fun _ _ _ h => h) (Or.inl ⟨by rfl, ?_⟩) hHeld ?_ ?_
            rotate_left
            ·rintro w' ⟨s0, s1, s2, s3, s4, s5⟩
             go_simp
             with_reducible rfl
            rotate_left
            ·simp only [Act.put, List.setIfInBounds_toArray, List.set_cons_zero, List.set_cons_succ, i64_w, i32_w]
             rfl
            refine take_ (i := 8) (N := some 24) (v := ?_) (a' := ?_) #[true, true, true, true, true, true, true, true, true, false, false] rfl rfl (take_ofW HT_.out HW_.out (by kernel_rfl)) (fun _ _ _ h => h) (Or.inl ⟨by rfl, ?_⟩) hHeld ?_ ?_
            rotate_left
            ·rintro w' ⟨s0, s1, s2, s3, s4, s5⟩
             go_simp
             with_reducible rfl
            rotate_left
            ·simp only [Act.put, List.setIfInBounds_toArray, List.set_cons_zero, List.set_cons_succ, i64_w, i32_w]
             rfl
            refine one_ (i := 9) (N := some 25) #[true, true, true, true, true, true, true, true, true, true, false] rfl rfl (one_of HT_.out (by kernel_rfl)) (by decide) (fun K hK => ?_)
            refine goes_ Try.func98 (by kernel_rfl) rfl #[.agg #[.int .i64 ((rd_T83 l0 x10_1).f0), .int .i64 ((rd_T83 l0 x10_1).f1), .int .i64 ((rd_T83 l0 x10_1).f2)], .agg #[.int .i64 ((rd_T83 x3_1 (ji9)).f0), .int .i64 ((rd_T83 x3_1 (ji9)).f1), .int .i64 ((rd_T83 x3_1 (ji9)).f2)]] (by rfl) rfl rfl (by (try simp only [List.map_toArray, List.map_cons, List.map_nil]); first | done | (simp only [hji9]; rfl) | rfl | (simp only [List.length_drop, List.length_take]; rfl)) ?_
            with_reducible refine (spec_cuLess.calls ((rd_T83 l0 x10_1).f0) ((rd_T83 l0 x10_1).f1) ((rd_T83 l0 x10_1).f2) ((rd_T83 x3_1 (ji9)).f0) ((rd_T83 x3_1 (ji9)).f1) ((rd_T83 x3_1 (ji9)).f2) true _ A12.out).mono ?_
            rintro e w15 ⟨rfl, hb⟩
            have HS3_ := (hb.cell (World.block_lt_of_cell? _ _ (hHeld.2.2.2.1))).trans (hHeld.2.2.2.1)
            have HS4_ := (hb.cell (World.block_lt_of_cell? _ _ (hHeld.2.2.2.2.1))).trans (hHeld.2.2.2.2.1)
            have HS5_ := (hb.cell (World.block_lt_of_cell? _ _ (hHeld.2.2.2.2.2))).trans (hHeld.2.2.2.2.2)
            refine ⟨_, rfl, ?_⟩
            have n0_ := Aside0.mk (Kd.R_below (upR HO_3) hb)
            have n1_ := Aside0.mk (blk_below (upK BK158) hb)
            have n2_ := Aside0.mk (below_step (upW HB) hb)
            clear HO_3
            clear BK158
            clear HB
            have HO_3 := n0_
            have BK158 := n1_
            have HB := n2_
            clear n0_ n1_ n2_
            (try clear hb)
            (try clear hb2)
            (try clear hk)
            (try clear hi)
            refine hK.out _ _ ⟨(blk_cell BK158.out 0).trans rfl, (blk_cell BK158.out 1).trans rfl, (blk_cell BK158.out 2).trans rfl, HS3_, HS4_, HS5_⟩ (fun hHeld => ?_)
            clear hK K
            refine norm_ (a' := ?_) ?_ ?_
            rotate_left
            ·show Act.put _ (some 25) _ = _
             simp only [Act.put, List.setIfInBounds_toArray, List.set_cons_zero, List.set_cons_succ, i64_w, i32_w]
             rfl
            refine pure_ (i := 10) (N := some 26) (v := ?_) (a' := ?_) #[true, true, true, true, true, true, true, true, true, true, true] rfl rfl (any_of HT_.out (by kernel_rfl)) (fun _ _ _ h => h) (Or.inl ⟨by rfl, ?_⟩) ?_ ?_
            rotate_left
            ·intro w'
             go_simp
             with_reducible rfl
            rotate_left
            ·simp only [Act.put, List.setIfInBounds_toArray, List.set_cons_zero, List.set_cons_succ, i64_w, i32_w]
             rfl
            refine done_ (done_of HT_.out (by kernel_rfl)) ?_
            try go_wp2
            go_roundg k2
            case measure => have := HK1.out; have := HK2.out; omega
            case rel => exact ⟨(ji9), (by first | rfl | (simp; done) | (simp only [← hji9] <;> (first | rfl | simp)) | (simp [*]; done)), H', ⟨by have := HK1.out; have := HK2.out; omega⟩, ⟨upR HO_3⟩, ⟨upK BK158⟩, ⟨upW HB⟩⟩
           ·replace c13 := Bool.eq_false_iff.mpr c13
            subst c13
            have H1 : ((some (([] : List (S83)) : List (S83))).bind fun y161 => (if 0 ≤ x6_2 then (if x6_2 ≤ (x3_1.length : Int) then ((some (x3_1.take (x6_2 : Int).toNat : List (S83))).bind fun y164 => (if y161.length + y164.length < 5864062014805 then ((some (y161 ++ y164 : List (S83))).bind fun y168 => ((some (([(⟨((rd_T83 l0 x10_1).f0), ((rd_T83 l0 x10_1).f1), ((rd_T83 l0 x10_1).f2)⟩ : S83)] : List (S83)) : List (S83))).bind fun y171 => (if y168.length + y171.length < 5864062014805 then ((some (y168 ++ y171 : List (S83))).bind fun y174 => ((some (x3_1.drop (x6_2 : Int).toNat : List (S83))).bind fun y177 => (if y174.length + y177.length < 5864062014805 then (spec_cuSorted.l0 k2 (y174 ++ y177) l0 (l0.length : Int) (wrap64 (x10_1 + 1))) else (none)))) else (none)))) else (none))) else (none)) else (none))) = some r := by rw [if_neg (show ¬ (false = true) by decide)] at H; exact H
            clear H
            have H := H1
            clear H1
            obtain ⟨y161, hy161⟩ : ∃ y_ : List (S83), y_ = (([] : List (S83))) := ⟨_, rfl⟩
            replace H : (if 0 ≤ x6_2 then (if x6_2 ≤ (x3_1.length : Int) then ((some (x3_1.take (x6_2 : Int).toNat : List (S83))).bind fun y164 => (if y161.length + y164.length < 5864062014805 then ((some (y161 ++ y164 : List (S83))).bind fun y168 => ((some (([(⟨((rd_T83 l0 x10_1).f0), ((rd_T83 l0 x10_1).f1), ((rd_T83 l0 x10_1).f2)⟩ : S83)] : List (S83)) : List (S83))).bind fun y171 => (if y168.length + y171.length < 5864062014805 then ((some (y168 ++ y171 : List (S83))).bind fun y174 => ((some (x3_1.drop (x6_2 : Int).toNat : List (S83))).bind fun y177 => (if y174.length + y177.length < 5864062014805 then (spec_cuSorted.l0 k2 (y174 ++ y177) l0 (l0.length : Int) (wrap64 (x10_1 + 1))) else (none)))) else (none)))) else (none))) else (none)) else (none)) = some r := by first | (rw [hy161]; with_reducible exact H) | (have H2_ := (Option.bind_some _ _).symm.trans H; rw [hy161]; with_reducible exact H2_) | (have H2_ := (Option.bind_some _ _).symm.trans H; with_reducible exact H2_) | with_reducible exact H | (rw [hy161]; exact H) | exact H
            have Ny161 := Aside0.mk hy161
            clear hy161
            by_cases c16 : 0 ≤ x6_2
            ·rw [if_pos c16] at H
             have c16b0 := eq_true c16
             have c16b1 : decide (0 ≤ x6_2) = true := decide_eq_true c16
             clear c16
             by_cases c17 : x6_2 ≤ (x3_1.length : Int)
             ·rw [if_pos c17] at H
              have c17b0 := eq_true c17
              have c17b1 : decide (x6_2 ≤ (x3_1.length : Int)) = true := decide_eq_true c17
              clear c17
              obtain ⟨y164, hy164⟩ : ∃ y_ : List (S83), y_ = (x3_1.take (x6_2 : Int).toNat) := ⟨_, rfl⟩
              replace H : (if y161.length + y164.length < 5864062014805 then ((some (y161 ++ y164 : List (S83))).bind fun y168 => ((some (([(⟨((rd_T83 l0 x10_1).f0), ((rd_T83 l0 x10_1).f1), ((rd_T83 l0 x10_1).f2)⟩ : S83)] : List (S83)) : List (S83))).bind fun y171 => (if y168.length + y171.length < 5864062014805 then ((some (y168 ++ y171 : List (S83))).bind fun y174 => ((some (x3_1.drop (x6_2 : Int).toNat : List (S83))).bind fun y177 => (if y174.length + y177.length < 5864062014805 then (spec_cuSorted.l0 k2 (y174 ++ y177) l0 (l0.length : Int) (wrap64 (x10_1 + 1))) else (none)))) else (none)))) else (none)) = some r := by first | (rw [hy164]; with_reducible exact H) | (have H2_ := (Option.bind_some _ _).symm.trans H; rw [hy164]; with_reducible exact H2_) | (have H2_ := (Option.bind_some _ _).symm.trans H; with_reducible exact H2_) | with_reducible exact H | (rw [hy164]; exact H) | exact H
              have Ny164 := Aside0.mk hy164
              clear hy164
              by_cases c18 : y161.length + y164.length < 5864062014805
              ·rw [if_pos c18] at H
               have LMc18 := Aside0.mk c18
               clear c18
               obtain ⟨y168, hy168⟩ : ∃ y_ : List (S83), y_ = (y161 ++ y164) := ⟨_, rfl⟩
               replace H : ((some (([(⟨((rd_T83 l0 x10_1).f0), ((rd_T83 l0 x10_1).f1), ((rd_T83 l0 x10_1).f2)⟩ : S83)] : List (S83)) : List (S83))).bind fun y171 => (if y168.length + y171.length < 5864062014805 then ((some (y168 ++ y171 : List (S83))).bind fun y174 => ((some (x3_1.drop (x6_2 : Int).toNat : List (S83))).bind fun y177 => (if y174.length + y177.length < 5864062014805 then (spec_cuSorted.l0 k2 (y174 ++ y177) l0 (l0.length : Int) (wrap64 (x10_1 + 1))) else (none)))) else (none))) = some r := by first | (rw [hy168]; with_reducible exact H) | (have H2_ := (Option.bind_some _ _).symm.trans H; rw [hy168]; with_reducible exact H2_) | (have H2_ := (Option.bind_some _ _).symm.trans H; with_reducible exact H2_) | with_reducible exact H | (rw [hy168]; exact H) | exact H
               have Ny168 := Aside0.mk hy168
               clear hy168
               obtain ⟨y171, hy171⟩ : ∃ y_ : List (S83), y_ = (([(⟨((rd_T83 l0 x10_1).f0), ((rd_T83 l0 x10_1).f1), ((rd_T83 l0 x10_1).f2)⟩ : S83)] : List (S83))) := ⟨_, rfl⟩
               replace H : (if y168.length + y171.length < 5864062014805 then ((some (y168 ++ y171 : List (S83))).bind fun y174 => ((some (x3_1.drop (x6_2 : Int).toNat : List (S83))).bind fun y177 => (if y174.length + y177.length < 5864062014805 then (spec_cuSorted.l0 k2 (y174 ++ y177) l0 (l0.length : Int) (wrap64 (x10_1 + 1))) else (none)))) else (none)) = some r := by first | (rw [hy171]; with_reducible exact H) | (have H2_ := (Option.bind_some _ _).symm.trans H; rw [hy171]; with_reducible exact H2_) | (have H2_ := (Option.bind_some _ _).symm.trans H; with_reducible exact H2_) | with_reducible exact H | (rw [hy171]; exact H) | exact H
               have Ny171 := Aside0.mk hy171
               clear hy171
               by_cases c19 : y168.length + y171.length < 5864062014805
               ·rw [if_pos c19] at H
                have LMc19 := Aside0.mk c19
                clear c19
                obtain ⟨y174, hy174⟩ : ∃ y_ : List (S83), y_ = (y168 ++ y171) := ⟨_, rfl⟩
                replace H : ((some (x3_1.drop (x6_2 : Int).toNat : List (S83))).bind fun y177 => (if y174.length + y177.length < 5864062014805 then (spec_cuSorted.l0 k2 (y174 ++ y177) l0 (l0.length : Int) (wrap64 (x10_1 + 1))) else (none))) = some r := by first | (rw [hy174]; with_reducible exact H) | (have H2_ := (Option.bind_some _ _).symm.trans H; rw [hy174]; with_reducible exact H2_) | (have H2_ := (Option.bind_some _ _).symm.trans H; with_reducible exact H2_) | with_reducible exact H | (rw [hy174]; exact H) | exact H
                have Ny174 := Aside0.mk hy174
                clear hy174
                have c20b0 := eq_true (of_decide_eq_true (by first | (with_reducible assumption) | assumption) : 0 ≤ x6_2)
                have c21b0 := eq_true (of_decide_eq_true (by first | (with_reducible assumption) | assumption) : x6_2 ≤ (x3_1.length : Int))
                obtain ⟨y177, hy177⟩ : ∃ y_ : List (S83), y_ = (x3_1.drop (x6_2 : Int).toNat) := ⟨_, rfl⟩
                replace H : (if y174.length + y177.length < 5864062014805 then (spec_cuSorted.l0 k2 (y174 ++ y177) l0 (l0.length : Int) (wrap64 (x10_1 + 1))) else (none)) = some r := by first | (rw [hy177]; with_reducible exact H) | (have H2_ := (Option.bind_some _ _).symm.trans H; rw [hy177]; with_reducible exact H2_) | (have H2_ := (Option.bind_some _ _).symm.trans H; with_reducible exact H2_) | with_reducible exact H | (rw [hy177]; exact H) | exact H
                have Ny177 := Aside0.mk hy177
                clear hy177
                by_cases c22 : y174.length + y177.length < 5864062014805
                ·rw [if_pos c22] at H
                 have LMc22 := Aside0.mk c22
                 clear c22
                 obtain ⟨y181, hy181⟩ : ∃ y_ : List (S83), y_ = (y174 ++ y177) := ⟨_, rfl⟩
                 replace H : (spec_cuSorted.l0 k2 y181 l0 (l0.length : Int) (wrap64 (x10_1 + 1))) = some r := by first | (rw [hy181]; with_reducible exact H) | (have H2_ := (Option.bind_some _ _).symm.trans H; rw [hy181]; with_reducible exact H2_) | (have H2_ := (Option.bind_some _ _).symm.trans H; with_reducible exact H2_) | with_reducible exact H | (rw [hy181]; exact H) | exact H
                 have Ny181 := Aside0.mk hy181
                 clear hy181
                 have H' := Aside0.mk H
                 clear H
                 try go_wp2
                 have n0_ := Aside0.mk (Kd.R_drew HO_3.out)
                 have n1_ := Aside0.mk (blk_drew BK158.out)
                 have n2_ := Aside0.mk (below_drew1 HB.out)
                 clear HO_3
                 clear BK158
                 clear HB
                 have HO_3 := n0_
                 have BK158 := n1_
                 have HB := n2_
                 clear n0_ n1_ n2_
                 have p159 : 0 ≤ ((ji9) : Int) := of_decide_eq_true (by first | (with_reducible assumption) | assumption)
                 have q159 : (ji9) < (x3_1.length : Int) := of_decide_eq_true (by first | (with_reducible assumption) | assumption)
                 obtain ⟨ad159, e159, hx159_0, hx159_1, hx159_2⟩ := at_T83 (Kd.R_reads' HO_3.out).2.2 (ji9) p159 q159
                 cases e159
                 replace p159 := eq_true p159
                 replace q159 := eq_true q159
                 refine start_ (n := 11) (S := fun w' => w'.cell? ⟨gb158, 0, none⟩ = some (.int .i64 ((rd_T83 l0 x10_1).f0)) ∧ w'.cell? ⟨gb158, 1, none⟩ = some (.int .i64 ((rd_T83 l0 x10_1).f1)) ∧ w'.cell? ⟨gb158, 2, none⟩ = some (.int .i64 ((rd_T83 l0 x10_1).f2)) ∧ w'.cell? (ad159.add (((ji9)).toNat * 3)) = some (.int .i64 ((rd_T83 x3_1 (ji9)).f0)) ∧ w'.cell? ⟨(ad159.add (((ji9)).toNat * 3)).block, (ad159.add (((ji9)).toNat * 3)).off + 1, none⟩ = some (.int .i64 ((rd_T83 x3_1 (ji9)).f1)) ∧ w'.cell? ⟨(ad159.add (((ji9)).toNat * 3)).block, (ad159.add (((ji9)).toNat * 3)).off + 2, none⟩ = some (.int .i64 ((rd_T83 x3_1 (ji9)).f2))) (ds := []) #[false, false, false, false, false, false, false, false, false, false, false] (by kernel_rfl) rfl rfl ⟨(blk_cell BK158.out 0).trans rfl, (blk_cell BK158.out 1).trans rfl, (blk_cell BK158.out 2).trans rfl, hx159_0, hx159_1, hx159_2⟩ (fun hHeld => ?_); refine with_tabW spec_cuSorted.tab6 spec_cuSorted.bits6 (fun HT_ HW_ => ?_)
                 generalize wr.drew = w23 at HO_3 BK158 HB hx159_0 hx159_1 hx159_2 hHeld ⊢
                 refine pure_ (i := 0) (N := some 16) (v := ?_) (a' := ?_) #[true, false, false, false, false, false, false, false, false, false, false] rfl rfl (any_of HT_.out (by kernel_rfl)) (fun _ _ _ h => h) (Or.inl ⟨by rfl, ?_⟩) ?_ ?_
                 rotate_left
                 ·intro w'
                  go_simp
                  with_reducible rfl
                 rotate_left
                 ·simp only [Act.put, List.setIfInBounds_toArray, List.set_cons_zero, List.set_cons_succ, i64_w, i32_w]
                  rfl
                 refine pure_ (i := 1) (N := some 17) (v := ?_) (a' := ?_) #[true, true, false, false, false, false, false, false, false, false, false] rfl rfl (any_of HT_.out (by kernel_rfl)) (fun _ _ _ h => h) (Or.inl ⟨by rfl, ?_⟩) ?_ ?_
                 rotate_left
                 ·intro w'
                  go_simp
                  with_reducible rfl
                 rotate_left
                 ·simp only [Act.put, List.setIfInBounds_toArray, List.set_cons_zero, List.set_cons_succ, i64_w, i32_w]
                  rfl
                 refine pure_ (i := 2) (N := some 18) (v := ?_) (a' := ?_) #[true, true, true, false, false, false, false, false, false, false, false] rfl rfl (any_of HT_.out (by kernel_rfl)) (fun _ _ _ h => h) (Or.inl ⟨by rfl, ?_⟩) ?_ ?_
                 rotate_left
                 ·intro w'
                  go_simp
                  with_reducible rfl
                 rotate_left
                 ·simp only [Act.put, List.setIfInBounds_toArray, List.set_cons_zero, List.set_cons_succ, i64_w, i32_w]
                  rfl
                 refine pure_ (i := 4) (N := some 20) (v := ?_) (a' := ?_) #[true, true, true, false, true, false, false, false, false, false, false] rfl rfl (any_of HT_.out (by kernel_rfl)) (fun _ _ _ h => h) (Or.inl ⟨by rfl, ?_⟩) ?_ ?_
                 rotate_left
                 ·intro w'
                  go_simp
                  with_reducible rfl
                 rotate_left
                 ·simp only [Act.put, List.setIfInBounds_toArray, List.set_cons_zero, List.set_cons_succ, i64_w, i32_w]
                  rfl
                 refine pure_ (i := 5) (N := some 21) (v := ?_) (a' := ?_) #[true, true, true, false, true, true, false, false, false, false, false] rfl rfl (any_of HT_.out (by kernel_rfl)) (fun _ _ _ h => h) (Or.inl ⟨by rfl, ?_⟩) ?_ ?_
                 rotate_left
                 ·intro w'
                  go_simp
                  with_reducible rfl
                 rotate_left
                 ·simp only [Act.put, List.setIfInBounds_toArray, List.set_cons_zero, List.set_cons_succ, i64_w, i32_w]
                  rfl
                 refine pure_ (i := 6) (N := some 22) (v := ?_) (a' := ?_) #[true, true, true, false, true, true, true, false, false, false, false] rfl rfl (any_of HT_.out (by kernel_rfl)) (fun _ _ _ h => h) (Or.inl ⟨by rfl, ?_⟩) ?_ ?_
                 rotate_left
                 ·intro w'
                  go_simp
                  with_reducible rfl
                 rotate_left
                 ·simp only [Act.put, List.setIfInBounds_toArray, List.set_cons_zero, List.set_cons_succ, i64_w, i32_w]
                  rfl
                 refine pure_ (i := 7) (N := some 23) (v := ?_) (a' := ?_) #[true, true, true, false, true, true, true, true, false, false, false] rfl rfl (any_of HT_.out (by kernel_rfl)) (fun _ _ _ h => h) (Or.inl ⟨by rfl, ?_⟩) ?_ ?_
                 rotate_left
                 ·intro w'
                  go_simp
                  with_reducible rfl
                 rotate_left
                 ·simp only [Act.put, List.setIfInBounds_toArray, List.set_cons_zero, List.set_cons_succ, i64_w, i32_w]
                  rfl
                 refine take_ (i := 3) (N := some 19) (v := ?_) (a' := ?_) #[true, true, true, true, true, true, true, true, false, false, false] rfl rfl (take_ofW HT_.out HW_.out (by kernel_rfl)) (fun _ _ _ h => h) (Or.inl ⟨by rfl, ?_⟩) hHeld ?_ ?_
                 rotate_left
                 ·rintro w' ⟨s0, s1, s2, s3, s4, s5⟩
                  go_simp
                  with_reducible rfl
                 rotate_left
                 ·simp only [Act.put, List.setIfInBounds_toArray, List.set_cons_zero, List.set_cons_succ, i64_w, i32_w]
                  rfl
                 refine take_ (i := 8) (N := some 24) (v := ?_) (a' := ?_) #[true, true, true, true, true, true, true, true, true, false, false] rfl rfl (take_ofW HT_.out HW_.out (by kernel_rfl)) (fun _ _ _ h => h) (Or.inl ⟨by rfl, ?_⟩) hHeld ?_ ?_
                 rotate_left
                 ·rintro w' ⟨s0, s1, s2, s3, s4, s5⟩
                  go_simp
                  with_reducible rfl
                 rotate_left
                 ·simp only [Act.put, List.setIfInBounds_toArray, List.set_cons_zero, List.set_cons_succ, i64_w, i32_w]
                  rfl
                 refine one_ (i := 9) (N := some 25) #[true, true, true, true, true, true, true, true, true, true, false] rfl rfl (one_of HT_.out (by kernel_rfl)) (by decide) (fun K hK => ?_)
                 refine goes_ Try.func98 (by kernel_rfl) rfl #[.agg #[.int .i64 ((rd_T83 l0 x10_1).f0), .int .i64 ((rd_T83 l0 x10_1).f1), .int .i64 ((rd_T83 l0 x10_1).f2)], .agg #[.int .i64 ((rd_T83 x3_1 (ji9)).f0), .int .i64 ((rd_T83 x3_1 (ji9)).f1), .int .i64 ((rd_T83 x3_1 (ji9)).f2)]] (by rfl) rfl rfl (by (try simp only [List.map_toArray, List.map_cons, List.map_nil]); first | done | (simp only [hji9]; rfl) | rfl | (simp only [List.length_drop, List.length_take]; rfl)) ?_
                 with_reducible refine (spec_cuLess.calls ((rd_T83 l0 x10_1).f0) ((rd_T83 l0 x10_1).f1) ((rd_T83 l0 x10_1).f2) ((rd_T83 x3_1 (ji9)).f0) ((rd_T83 x3_1 (ji9)).f1) ((rd_T83 x3_1 (ji9)).f2) false _ A12.out).mono ?_
                 rintro e w24 ⟨rfl, hb⟩
                 have HS3_ := (hb.cell (World.block_lt_of_cell? _ _ (hHeld.2.2.2.1))).trans (hHeld.2.2.2.1)
                 have HS4_ := (hb.cell (World.block_lt_of_cell? _ _ (hHeld.2.2.2.2.1))).trans (hHeld.2.2.2.2.1)
                 have HS5_ := (hb.cell (World.block_lt_of_cell? _ _ (hHeld.2.2.2.2.2))).trans (hHeld.2.2.2.2.2)
                 refine ⟨_, rfl, ?_⟩
                 have n0_ := Aside0.mk (Kd.R_below (upR HO_3) hb)
                 have n1_ := Aside0.mk (blk_below (upK BK158) hb)
                 have n2_ := Aside0.mk (below_step (upW HB) hb)
                 clear HO_3
                 clear BK158
                 clear HB
                 have HO_3 := n0_
                 have BK158 := n1_
                 have HB := n2_
                 clear n0_ n1_ n2_
                 (try clear hb)
                 (try clear hb2)
                 (try clear hk)
                 (try clear hi)
                 refine hK.out _ _ ⟨(blk_cell BK158.out 0).trans rfl, (blk_cell BK158.out 1).trans rfl, (blk_cell BK158.out 2).trans rfl, HS3_, HS4_, HS5_⟩ (fun hHeld => ?_)
                 clear hK K
                 refine norm_ (a' := ?_) ?_ ?_
                 rotate_left
                 ·show Act.put _ (some 25) _ = _
                  simp only [Act.put, List.setIfInBounds_toArray, List.set_cons_zero, List.set_cons_succ, i64_w, i32_w]
                  rfl
                 refine pure_ (i := 10) (N := some 26) (v := ?_) (a' := ?_) #[true, true, true, true, true, true, true, true, true, true, true] rfl rfl (any_of HT_.out (by kernel_rfl)) (fun _ _ _ h => h) (Or.inl ⟨by rfl, ?_⟩) ?_ ?_
                 rotate_left
                 ·intro w'
                  go_simp
                  with_reducible rfl
                 rotate_left
                 ·simp only [Act.put, List.setIfInBounds_toArray, List.set_cons_zero, List.set_cons_succ, i64_w, i32_w]
                  rfl
                 refine done_ (done_of HT_.out (by kernel_rfl)) ?_
                 try go_wp2
                 have n0_ := Aside0.mk (Kd.R_drew HO_3.out)
                 have n1_ := Aside0.mk (blk_drew BK158.out)
                 have n2_ := Aside0.mk (below_drew1 HB.out)
                 clear HO_3
                 clear BK158
                 clear HB
                 have HO_3 := n0_
                 have BK158 := n1_
                 have HB := n2_
                 clear n0_ n1_ n2_
                 have q26 : (x6_2 : Int) ≤ ((x3_1.length : Int) : Int) := of_decide_eq_true (by first | (with_reducible assumption) | assumption)
                 obtain ⟨i026, hi026, _, hsz26, _⟩ := info_parts info83
                 have hroom26 : x3_1.length ≤ co7 := (Kd.R_reads' HO_3.out).2.1
                 have hC26 : Kd.C k83 _ (some ad159) x3_1.length x3_1 := (Kd.R_reads' HO_3.out).2.2
                 have hcut26 := cut_to (P := Try.prog) 46 83 .i64 Try.underlying46 hi026 (some ad159) x3_1.length co7 x6_2 (of_decide_eq_true (by first | (with_reducible assumption) | assumption)) q26 hroom26
                 have hr26 := Kd.C_take (m := (x6_2 : Int).toNat) hC26 (by omega)
                 have hy26 : y164.length = (x6_2 : Int).toNat := (by rw [Ny164.out, List.length_take]; omega)
                 rw [← Ny164.out] at hr26
                 rw [← hy26] at hcut26
                 have HR167 := Aside0.mk hr26
                 have HC167 := Aside0.mk (show y164.length ≤ co7 from by omega)
                 clear hr26 hC26 hroom26 hi026 hsz26
                 have KY26 := Aside0.mk hy26
                 clear hy26
                 have KL26 := Aside0.mk (show (x6_2 : Int).toNat ≤ x3_1.length from by omega)
                 replace q26 := eq_true q26
                 refine start_ (n := 9) (S := fun w' => w'.cell? ⟨gb158, 0, none⟩ = some (.int .i64 ((rd_T83 l0 x10_1).f0)) ∧ w'.cell? ⟨gb158, 1, none⟩ = some (.int .i64 ((rd_T83 l0 x10_1).f1)) ∧ w'.cell? ⟨gb158, 2, none⟩ = some (.int .i64 ((rd_T83 l0 x10_1).f2))) (ds := []) #[false, false, false, false, false, false, false, false, false] (by kernel_rfl) rfl rfl ⟨(blk_cell BK158.out 0).trans rfl, (blk_cell BK158.out 1).trans rfl, (blk_cell BK158.out 2).trans rfl⟩ (fun hHeld => ?_); refine with_tabW spec_cuSorted.tab8 spec_cuSorted.bits8 (fun HT_ HW_ => ?_)
                 generalize w24.drew = w25 at HO_3 BK158 HB HR167 hHeld ⊢
                 refine pure_ (i := 1) (N := some 30) (v := ?_) (a' := ?_) #[false, true, false, false, false, false, false, false, false] rfl rfl (any_of HT_.out (by kernel_rfl)) (fun _ _ _ h => h) (Or.inl ⟨by rfl, ?_⟩) ?_ ?_
                 rotate_left
                 ·intro w'
                  go_simp
                  with_reducible rfl
                 rotate_left
                 ·simp only [Act.put, List.setIfInBounds_toArray, List.set_cons_zero, List.set_cons_succ, i64_w, i32_w]
                  rfl
                 refine pure_ (i := 2) (N := some 31) (v := ?_) (a' := ?_) #[false, true, true, false, false, false, false, false, false] rfl rfl (any_of HT_.out (by kernel_rfl)) (fun _ _ _ h => h) (Or.inl ⟨by rfl, ?_⟩) ?_ ?_
                 rotate_left
                 ·intro w'
                  go_simp
                  with_reducible rfl
                 rotate_left
                 ·simp only [Act.put, List.setIfInBounds_toArray, List.set_cons_zero, List.set_cons_succ, i64_w, i32_w]
                  rfl
                 refine pure_ (i := 3) (N := some 32) (v := ?_) (a' := ?_) #[false, true, true, true, false, false, false, false, false] rfl rfl (any_of HT_.out (by kernel_rfl)) (fun _ _ _ h => h) (Or.inl ⟨by rfl, ?_⟩) ?_ ?_
                 rotate_left
                 ·intro w'
                  go_simp
                  with_reducible rfl
                 rotate_left
                 ·simp only [Act.put, List.setIfInBounds_toArray, List.set_cons_zero, List.set_cons_succ, i64_w, i32_w]
                  rfl
                 refine take_ (i := 5) (N := some 34) (v := ?_) (a' := ?_) #[false, true, true, true, false, true, false, false, false] rfl rfl (take_ofW HT_.out HW_.out (by kernel_rfl)) (fun _ _ _ h => h) (Or.inl ⟨by rfl, ?_⟩) hHeld ?_ ?_
                 rotate_left
                 ·rintro w' ⟨s0, s1, s2⟩
                  go_simp
                  with_reducible rfl
                 rotate_left
                 ·simp only [Act.put, List.setIfInBounds_toArray, List.set_cons_zero, List.set_cons_succ, i64_w, i32_w]
                  rfl
                 refine join_ (σ := Value × Value × Value) 2 #[true, true, true, true, true, true, true, false, false] (fun s_ => [(29, s_.1), (33, s_.2.1), (35, s_.2.2)]) (fun s_ w' => (w'.cell? ⟨gb158, 0, none⟩ = some (.int .i64 ((rd_T83 l0 x10_1).f0)) ∧ w'.cell? ⟨gb158, 1, none⟩ = some (.int .i64 ((rd_T83 l0 x10_1).f1)) ∧ w'.cell? ⟨gb158, 2, none⟩ = some (.int .i64 ((rd_T83 l0 x10_1).f2))) ∧ (Kd.R k83 83 w' w.heap.size (fun k_ => some k_ ≠ (s_.2.2 : Value).ownBlock ∧ some k_ ≠ (.slice (some ad159) x3_1.length co7 : Value).ownBlock ∧ k_ ≠ gb158) s_.2.1 y168) ∧ (Kd.R k83 83 w' w.heap.size (fun k_ => some k_ ≠ (s_.2.1 : Value).ownBlock ∧ some k_ ≠ (.slice (some ad159) x3_1.length co7 : Value).ownBlock ∧ k_ ≠ gb158) s_.2.2 y171) ∧ (Kd.R k83 83 w' w.heap.size (fun k_ => some k_ ≠ (s_.2.1 : Value).ownBlock ∧ some k_ ≠ (s_.2.2 : Value).ownBlock ∧ k_ ≠ gb158) (.slice (some ad159) x3_1.length co7) x3_1) ∧ (w'.heap[gb158]? = some (.cells #[.int .i64 ((rd_T83 l0 x10_1).f0), .int .i64 ((rd_T83 l0 x10_1).f1), .int .i64 ((rd_T83 l0 x10_1).f2)] 83 (0, 0))) ∧ (Below w.heap.size w w')) ?_ ?_
                 rotate_left
                 ·intro hCont
                  refine two_ (i := 0) (j := 6) (Ni := some 29) (Nj := some 35) #[true, true, true, true, false, true, false, false, false] #[false, true, true, true, false, true, true, false, false] rfl rfl rfl rfl (two_of HT_.out (by kernel_rfl)) (by decide) (by decide) (fun K hK => ?_) (fun K hK => ?_)
                  ·skip
                   refine Kd.R_lit_step k83 _ 83 ?hg (N := 29) ?hd (xs := ([] : List (S83))) (inner := []) (ok := fun _ => True) (okp := fun _ => True) ?hr ?hp (fun _ hk => hk) trivial (Below.refl _ _) (Nat.le_refl _) (by simp) ?_; (case hd => rfl); (case hg => rfl); (case hr => first | (go_simp; done) | (go_simp; rfl)); (case hp => exact (Reps.none _ _))
                   intro v162 w27 ho28 hb hg_ hnew_
                   clear hg_ hnew_
                   (first | rw [← Ny161.out] at ho28 | (simp only [Int.reduceToNat] at ho28; rw [← Ny161.out] at ho28))
                   have n0_ := Aside0.mk (Kd.R_elder' (upR HO_3) (Kd.R_base ho28) hb)
                   have n1_ := Aside0.mk (Kd.R_lower (Kd.R_newB (Kd.R_new' ho28 (Kd.R_lt (upR HO_3))) (g := gb158) (o := .cells #[.int .i64 ((rd_T83 l0 x10_1).f0), .int .i64 ((rd_T83 l0 x10_1).f1), .int .i64 ((rd_T83 l0 x10_1).f2)] 83 (0, 0)) (upK BK158)) (below_size (upW HB)))
                   have n2_ := Aside0.mk (blk_below (upK BK158) hb)
                   have n3_ := Aside0.mk (Kd.C_below (by repeat (first | (with_reducible exact HR167.out) | (with_reducible refine Kd.C_alloc ?_ _) | (with_reducible refine Kd.C_drewN ?_ _) | (with_reducible refine Kd.C_drew ?_) | exact HR167.out)) hb)
                   have n4_ := Aside0.mk (below_step (upW HB) hb)
                   clear HO_3
                   clear BK158
                   clear HR167
                   clear HB
                   have HO_3 := n0_
                   have HO163 := n1_
                   have BK158 := n2_
                   have HR167 := n3_
                   have HB := n4_
                   clear n0_ n1_ n2_ n3_ n4_
                   clear hb ho28
                   refine hK.out _ _ ⟨(blk_cell BK158.out 0).trans rfl, (blk_cell BK158.out 1).trans rfl, (blk_cell BK158.out 2).trans rfl⟩ (fun hHeld => ?_)
                   clear hK K
                   refine norm_ (a' := ?_) ?_ ?_
                   rotate_left
                   ·show Act.put _ (some 29) _ = _
                    simp only [Act.put, List.setIfInBounds_toArray, List.set_cons_zero, List.set_cons_succ, i64_w, i32_w]
                    rfl
                   refine two_ (i := 4) (j := 6) (Ni := some 33) (Nj := some 35) #[true, true, true, true, true, true, false, false, false] #[true, true, true, true, false, true, true, false, false] rfl rfl rfl rfl (two_of HT_.out (by kernel_rfl)) (by decide) (by decide) (fun K hK => ?_) (fun K hK => ?_)
                   ·skip
                    refine Kd.R_append_rows_step k83 (w0 := w) w.heap.size (by rfl) (.tmp 29) (.tmp 32) 46 83 (.agg #[(.int .i64 0), (.int .i64 0), (.int .i64 0)]) 24 rfl Try.underlying46 info83 rfl (by decide) (by omega) v162 y161 y164 _ _ _ (fun k_ => some k_ ≠ (.slice (some ad159) x3_1.length co7 : Value).ownBlock ∧ k_ ≠ gb158) (fun _ => False) rfl rfl ?aO ?aR (fun _ _ h => h) (fun _ h => h.elim) ?aF ?aB ?aS ?aL ?_
                    (case aR => repeat (first | exact (by repeat (first | (with_reducible exact HR167.out) | (with_reducible refine Kd.C_alloc ?_ _) | (with_reducible refine Kd.C_drewN ?_ _) | (with_reducible refine Kd.C_drew ?_) | exact HR167.out)) | (with_reducible refine Kd.C_alloc ?_ _) | (with_reducible refine Kd.C_drewN ?_ _) | (with_reducible refine Kd.C_drew ?_)))
                    (case aB => exact (upW HB))
                    (case aF => exact (fun k_ hk => ⟨Kd.fresh' (Kd.R_lt (upR HO_3)) k_ hk, Kd.freshB (g := gb158) (o := .cells #[.int .i64 ((rd_T83 l0 x10_1).f0), .int .i64 ((rd_T83 l0 x10_1).f1), .int .i64 ((rd_T83 l0 x10_1).f2)] 83 (0, 0)) (upK BK158) k_ hk⟩))
                    (case aO => exact (by (with_reducible repeat (first | apply Kd.R_alloc | apply Kd.R_drewN | apply Kd.R_drew)); exact Kd.R_mono HO163.out (fun _ hk => ⟨hk.1.2, hk.2⟩)))
                    (case aS => exact (below_size (upW HB)))
                    (case aL => have := LMc18.out; omega)
                    intro v169 w29 ho hb hg hat
                    rw [← Ny168.out] at ho
                    have n0_ := Aside0.mk (Kd.R_after (ok := (fun k_ => k_ ≠ gb158)) (upR HO_3) hg hat)
                    have n1_ := Aside0.mk (blk_grown (upK BK158) hg (Kd.R_away HO163.out (fun _ hk => hk.2)))
                    have n2_ := Aside0.mk (hb)
                    have n3_ := Aside0.mk ((show Kd.C k83 w29 (some ad159) y164.length y164 from by rw [Ny164.out]; exact Kd.C_take (m := (x6_2 : Int).toNat) ((Kd.R_reads' (Kd.R_after (ok := (fun k_ => k_ ≠ gb158)) (upR HO_3) hg hat)).2.2) KL26.out))
                    have n4_ := Aside0.mk (ho)
                    clear HO_3
                    clear BK158
                    clear HB
                    clear HR167
                    clear HO163
                    have HO_3 := n0_
                    have BK158 := n1_
                    have HB := n2_
                    have HR167 := n3_
                    have HO170 := n4_
                    clear n0_ n1_ n2_ n3_ n4_
                    clear ho hb hg hat
                    refine hK.out _ _ ⟨(blk_cell BK158.out 0).trans rfl, (blk_cell BK158.out 1).trans rfl, (blk_cell BK158.out 2).trans rfl⟩ (fun hHeld => ?_)
                    clear hK K
                    refine norm_ (a' := ?_) ?_ ?_
                    rotate_left
                    ·show Act.put _ (some 33) _ = _
                     simp only [Act.put, List.setIfInBounds_toArray, List.set_cons_zero, List.set_cons_succ, i64_w, i32_w]
                     rfl
                    refine one_ (i := 6) (N := some 35) #[true, true, true, true, true, true, true, false, false] rfl rfl (one_of HT_.out (by kernel_rfl)) (by decide) (fun K hK => ?_)
                    refine Kd.R_lit_step k83 _ 83 ?hg (N := 35) ?hd (xs := ([(⟨((rd_T83 l0 x10_1).f0), ((rd_T83 l0 x10_1).f1), ((rd_T83 l0 x10_1).f2)⟩ : S83)] : List (S83))) (inner := [.int .i64 ((rd_T83 l0 x10_1).f0), .int .i64 ((rd_T83 l0 x10_1).f1), .int .i64 ((rd_T83 l0 x10_1).f2)]) (ok := fun _ => True) (okp := fun _ => True) ?hr ?hp (fun _ hk => hk) trivial (Below.refl _ _) (Nat.le_refl _) (by simp) ?_; (case hd => rfl); (case hg => rfl); (case hr => first | (go_simp; done) | (go_simp; rfl)); (case hp => exact (Reps.c3 (show Kd.M k83 _ _ _ (⟨((rd_T83 l0 x10_1).f0), ((rd_T83 l0 x10_1).f1), ((rd_T83 l0 x10_1).f2)⟩ : S83) [.int .i64 ((rd_T83 l0 x10_1).f0), .int .i64 ((rd_T83 l0 x10_1).f1), .int .i64 ((rd_T83 l0 x10_1).f2)] from (k83_mkM _ _ _ (⟨((rd_T83 l0 x10_1).f0), ((rd_T83 l0 x10_1).f1), ((rd_T83 l0 x10_1).f2)⟩ : S83) )) (Reps.none _ _)))
                    intro v172 w30 ho31 hb hg_ hnew_
                    clear hg_ hnew_
                    (first | rw [← Ny171.out] at ho31 | (simp only [Int.reduceToNat] at ho31; rw [← Ny171.out] at ho31))
                    have n0_ := Aside0.mk (Kd.R_elder' (upR HO_3) (Kd.R_base ho31) hb)
                    have n1_ := Aside0.mk (Kd.R_elder' (upR HO170) (Kd.R_base ho31) hb)
                    have n2_ := Aside0.mk (Kd.R_lower (Kd.R_newB (Kd.R_new' (Kd.R_new' ho31 (Kd.R_lt (upR HO_3))) (Kd.R_lt (upR HO170))) (g := gb158) (o := .cells #[.int .i64 ((rd_T83 l0 x10_1).f0), .int .i64 ((rd_T83 l0 x10_1).f1), .int .i64 ((rd_T83 l0 x10_1).f2)] 83 (0, 0)) (upK BK158)) (below_size (upW HB)))
                    have n3_ := Aside0.mk (blk_below (upK BK158) hb)
                    have n4_ := Aside0.mk (Kd.C_below (by repeat (first | (with_reducible exact HR167.out) | (with_reducible refine Kd.C_alloc ?_ _) | (with_reducible refine Kd.C_drewN ?_ _) | (with_reducible refine Kd.C_drew ?_) | exact HR167.out)) hb)
                    have n5_ := Aside0.mk (below_step (upW HB) hb)
                    clear HO_3
                    clear HO170
                    clear BK158
                    clear HR167
                    clear HB
                    have HO_3 := n0_
                    have HO170 := n1_
                    have HO173 := n2_
                    have BK158 := n3_
                    have HR167 := n4_
                    have HB := n5_
                    clear n0_ n1_ n2_ n3_ n4_ n5_
                    clear hb ho31
                    refine hK.out _ _ ⟨(blk_cell BK158.out 0).trans rfl, (blk_cell BK158.out 1).trans rfl, (blk_cell BK158.out 2).trans rfl⟩ (fun hHeld => ?_)
                    clear hK K
                    refine norm_ (a' := ?_) ?_ ?_
                    rotate_left
                    ·show Act.put _ (some 35) _ = _
                     simp only [Act.put, List.setIfInBounds_toArray, List.set_cons_zero, List.set_cons_succ, i64_w, i32_w]
                     rfl
                    exact norm_ (by simp only [putAll, Act.put, List.setIfInBounds_toArray, List.set_cons_zero, List.set_cons_succ]) (hCont (v162, v169, v172) _ ⟨hHeld, (by (with_reducible repeat (first | apply Kd.R_alloc | apply Kd.R_drewN | apply Kd.R_drew)); exact Kd.R_mono HO170.out (fun _ hk => ⟨hk.2, ⟨hk.1.1, hk.1.2⟩⟩)), (by (with_reducible repeat (first | apply Kd.R_alloc | apply Kd.R_drewN | apply Kd.R_drew)); exact Kd.R_mono HO173.out (fun _ hk => ⟨hk.1.2, ⟨hk.1.1.2, hk.2⟩⟩)), (by (with_reducible repeat (first | apply Kd.R_alloc | apply Kd.R_drewN | apply Kd.R_drew)); exact Kd.R_mono HO_3.out (fun _ hk => ⟨hk.1.2, ⟨hk.2, hk.1.1⟩⟩)), (upK BK158), (upW HB)⟩)
                   ·skip
                    refine Kd.R_lit_step k83 _ 83 ?hg (N := 35) ?hd (xs := ([(⟨((rd_T83 l0 x10_1).f0), ((rd_T83 l0 x10_1).f1), ((rd_T83 l0 x10_1).f2)⟩ : S83)] : List (S83))) (inner := [.int .i64 ((rd_T83 l0 x10_1).f0), .int .i64 ((rd_T83 l0 x10_1).f1), .int .i64 ((rd_T83 l0 x10_1).f2)]) (ok := fun _ => True) (okp := fun _ => True) ?hr ?hp (fun _ hk => hk) trivial (Below.refl _ _) (Nat.le_refl _) (by simp) ?_; (case hd => rfl); (case hg => rfl); (case hr => first | (go_simp; done) | (go_simp; rfl)); (case hp => exact (Reps.c3 (show Kd.M k83 _ _ _ (⟨((rd_T83 l0 x10_1).f0), ((rd_T83 l0 x10_1).f1), ((rd_T83 l0 x10_1).f2)⟩ : S83) [.int .i64 ((rd_T83 l0 x10_1).f0), .int .i64 ((rd_T83 l0 x10_1).f1), .int .i64 ((rd_T83 l0 x10_1).f2)] from (k83_mkM _ _ _ (⟨((rd_T83 l0 x10_1).f0), ((rd_T83 l0 x10_1).f1), ((rd_T83 l0 x10_1).f2)⟩ : S83) )) (Reps.none _ _)))
                    intro v172 w29 ho30 hb hg_ hnew_
                    clear hg_ hnew_
                    (first | rw [← Ny171.out] at ho30 | (simp only [Int.reduceToNat] at ho30; rw [← Ny171.out] at ho30))
                    have n0_ := Aside0.mk (Kd.R_elder' (upR HO_3) (Kd.R_base ho30) hb)
                    have n1_ := Aside0.mk (Kd.R_elder' (upR HO163) (Kd.R_base ho30) hb)
                    have n2_ := Aside0.mk (Kd.R_lower (Kd.R_newB (Kd.R_new' (Kd.R_new' ho30 (Kd.R_lt (upR HO_3))) (Kd.R_lt (upR HO163))) (g := gb158) (o := .cells #[.int .i64 ((rd_T83 l0 x10_1).f0), .int .i64 ((rd_T83 l0 x10_1).f1), .int .i64 ((rd_T83 l0 x10_1).f2)] 83 (0, 0)) (upK BK158)) (below_size (upW HB)))
                    have n3_ := Aside0.mk (blk_below (upK BK158) hb)
                    have n4_ := Aside0.mk (Kd.C_below (by repeat (first | (with_reducible exact HR167.out) | (with_reducible refine Kd.C_alloc ?_ _) | (with_reducible refine Kd.C_drewN ?_ _) | (with_reducible refine Kd.C_drew ?_) | exact HR167.out)) hb)
                    have n5_ := Aside0.mk (below_step (upW HB) hb)
                    clear HO_3
                    clear HO163
                    clear BK158
                    clear HR167
                    clear HB
                    have HO_3 := n0_
                    have HO163 := n1_
                    have HO173 := n2_
                    have BK158 := n3_
                    have HR167 := n4_
                    have HB := n5_
                    clear n0_ n1_ n2_ n3_ n4_ n5_
                    clear hb ho30
                    refine hK.out _ _ ⟨(blk_cell BK158.out 0).trans rfl, (blk_cell BK158.out 1).trans rfl, (blk_cell BK158.out 2).trans rfl⟩ (fun hHeld => ?_)
                    clear hK K
                    refine norm_ (a' := ?_) ?_ ?_
                    rotate_left
                    ·show Act.put _ (some 35) _ = _
                     simp only [Act.put, List.setIfInBounds_toArray, List.set_cons_zero, List.set_cons_succ, i64_w, i32_w]
                     rfl
                    refine one_ (i := 4) (N := some 33) #[true, true, true, true, true, true, true, false, false] rfl rfl (one_of HT_.out (by kernel_rfl)) (by decide) (fun K hK => ?_)
                    refine Kd.R_append_rows_step k83 (w0 := w) w.heap.size (by rfl) (.tmp 29) (.tmp 32) 46 83 (.agg #[(.int .i64 0), (.int .i64 0), (.int .i64 0)]) 24 rfl Try.underlying46 info83 rfl (by decide) (by omega) v162 y161 y164 _ _ _ (fun k_ => some k_ ≠ (.slice (some ad159) x3_1.length co7 : Value).ownBlock ∧ some k_ ≠ (v172 : Value).ownBlock ∧ k_ ≠ gb158) (fun _ => False) rfl rfl ?aO ?aR (fun _ _ h => h) (fun _ h => h.elim) ?aF ?aB ?aS ?aL ?_
                    (case aR => repeat (first | exact (by repeat (first | (with_reducible exact HR167.out) | (with_reducible refine Kd.C_alloc ?_ _) | (with_reducible refine Kd.C_drewN ?_ _) | (with_reducible refine Kd.C_drew ?_) | exact HR167.out)) | (with_reducible refine Kd.C_alloc ?_ _) | (with_reducible refine Kd.C_drewN ?_ _) | (with_reducible refine Kd.C_drew ?_)))
                    (case aB => exact (upW HB))
                    (case aF => exact (fun k_ hk => ⟨Kd.fresh' (Kd.R_lt (upR HO_3)) k_ hk, Kd.fresh' (Kd.R_lt (upR HO173)) k_ hk, Kd.freshB (g := gb158) (o := .cells #[.int .i64 ((rd_T83 l0 x10_1).f0), .int .i64 ((rd_T83 l0 x10_1).f1), .int .i64 ((rd_T83 l0 x10_1).f2)] 83 (0, 0)) (upK BK158) k_ hk⟩))
                    (case aO => exact (by (with_reducible repeat (first | apply Kd.R_alloc | apply Kd.R_drewN | apply Kd.R_drew)); exact Kd.R_mono HO163.out (fun _ hk => ⟨hk.1.1.2, ⟨hk.2, hk.1.2⟩⟩)))
                    (case aS => exact (below_size (upW HB)))
                    (case aL => have := LMc18.out; omega)
                    intro v169 w31 ho hb hg hat
                    rw [← Ny168.out] at ho
                    have n0_ := Aside0.mk (Kd.R_after (ok := (fun k_ => some k_ ≠ (v172 : Value).ownBlock ∧ k_ ≠ gb158)) (by (with_reducible repeat (first | apply Kd.R_alloc | apply Kd.R_drewN | apply Kd.R_drew)); exact Kd.R_mono HO_3.out (fun _ hk => ⟨⟨hk.2, hk.1.1⟩, hk.1.2⟩)) hg hat)
                    have n1_ := Aside0.mk (blk_grown (upK BK158) hg (Kd.R_away HO163.out (fun _ hk => hk.1.2)))
                    have n2_ := Aside0.mk (Kd.R_after (ok := (fun k_ => some k_ ≠ (.slice (some ad159) x3_1.length co7 : Value).ownBlock ∧ k_ ≠ gb158)) (by (with_reducible repeat (first | apply Kd.R_alloc | apply Kd.R_drewN | apply Kd.R_drew)); exact Kd.R_mono HO173.out (fun _ hk => ⟨⟨hk.1.1.2, hk.2⟩, hk.1.2⟩)) hg hat)
                    have n3_ := Aside0.mk (hb)
                    have n4_ := Aside0.mk ((show Kd.C k83 w31 (some ad159) y164.length y164 from by rw [Ny164.out]; exact Kd.C_take (m := (x6_2 : Int).toNat) ((Kd.R_reads' (Kd.R_after (ok := (fun k_ => some k_ ≠ (v172 : Value).ownBlock ∧ k_ ≠ gb158)) (by (with_reducible repeat (first | apply Kd.R_alloc | apply Kd.R_drewN | apply Kd.R_drew)); exact Kd.R_mono HO_3.out (fun _ hk => ⟨⟨hk.2, hk.1.1⟩, hk.1.2⟩)) hg hat)).2.2) KL26.out))
                    have n5_ := Aside0.mk (ho)
                    clear HO_3
                    clear BK158
                    clear HO173
                    clear HB
                    clear HR167
                    clear HO163
                    have HO_3 := n0_
                    have BK158 := n1_
                    have HO173 := n2_
                    have HB := n3_
                    have HR167 := n4_
                    have HO170 := n5_
                    clear n0_ n1_ n2_ n3_ n4_ n5_
                    clear ho hb hg hat
                    refine hK.out _ _ ⟨(blk_cell BK158.out 0).trans rfl, (blk_cell BK158.out 1).trans rfl, (blk_cell BK158.out 2).trans rfl⟩ (fun hHeld => ?_)
                    clear hK K
                    refine norm_ (a' := ?_) ?_ ?_
                    rotate_left
                    ·show Act.put _ (some 33) _ = _
                     simp only [Act.put, List.setIfInBounds_toArray, List.set_cons_zero, List.set_cons_succ, i64_w, i32_w]
                     rfl
                    exact norm_ (by simp only [putAll, Act.put, List.setIfInBounds_toArray, List.set_cons_zero, List.set_cons_succ]) (hCont (v162, v169, v172) _ ⟨hHeld, (by (with_reducible repeat (first | apply Kd.R_alloc | apply Kd.R_drewN | apply Kd.R_drew)); exact Kd.R_mono HO170.out (fun _ hk => ⟨hk.2.1, ⟨hk.1, hk.2.2⟩⟩)), (by (with_reducible repeat (first | apply Kd.R_alloc | apply Kd.R_drewN | apply Kd.R_drew)); exact Kd.R_mono HO173.out (fun _ hk => ⟨hk.2, ⟨hk.1.1, hk.1.2⟩⟩)), (by (with_reducible repeat (first | apply Kd.R_alloc | apply Kd.R_drewN | apply Kd.R_drew)); exact Kd.R_mono HO_3.out (fun _ hk => ⟨hk.2, ⟨hk.1.1, hk.1.2⟩⟩)), (upK BK158), (upW HB)⟩)
                  ·skip
                   refine Kd.R_lit_step k83 _ 83 ?hg (N := 35) ?hd (xs := ([(⟨((rd_T83 l0 x10_1).f0), ((rd_T83 l0 x10_1).f1), ((rd_T83 l0 x10_1).f2)⟩ : S83)] : List (S83))) (inner := [.int .i64 ((rd_T83 l0 x10_1).f0), .int .i64 ((rd_T83 l0 x10_1).f1), .int .i64 ((rd_T83 l0 x10_1).f2)]) (ok := fun _ => True) (okp := fun _ => True) ?hr ?hp (fun _ hk => hk) trivial (Below.refl _ _) (Nat.le_refl _) (by simp) ?_; (case hd => rfl); (case hg => rfl); (case hr => first | (go_simp; done) | (go_simp; rfl)); (case hp => exact (Reps.c3 (show Kd.M k83 _ _ _ (⟨((rd_T83 l0 x10_1).f0), ((rd_T83 l0 x10_1).f1), ((rd_T83 l0 x10_1).f2)⟩ : S83) [.int .i64 ((rd_T83 l0 x10_1).f0), .int .i64 ((rd_T83 l0 x10_1).f1), .int .i64 ((rd_T83 l0 x10_1).f2)] from (k83_mkM _ _ _ (⟨((rd_T83 l0 x10_1).f0), ((rd_T83 l0 x10_1).f1), ((rd_T83 l0 x10_1).f2)⟩ : S83) )) (Reps.none _ _)))
                   intro v172 w27 ho28 hb hg_ hnew_
                   clear hg_ hnew_
                   (first | rw [← Ny171.out] at ho28 | (simp only [Int.reduceToNat] at ho28; rw [← Ny171.out] at ho28))
                   have n0_ := Aside0.mk (Kd.R_elder' (upR HO_3) (Kd.R_base ho28) hb)
                   have n1_ := Aside0.mk (Kd.R_lower (Kd.R_newB (Kd.R_new' ho28 (Kd.R_lt (upR HO_3))) (g := gb158) (o := .cells #[.int .i64 ((rd_T83 l0 x10_1).f0), .int .i64 ((rd_T83 l0 x10_1).f1), .int .i64 ((rd_T83 l0 x10_1).f2)] 83 (0, 0)) (upK BK158)) (below_size (upW HB)))
                   have n2_ := Aside0.mk (blk_below (upK BK158) hb)
                   have n3_ := Aside0.mk (Kd.C_below (by repeat (first | (with_reducible exact HR167.out) | (with_reducible refine Kd.C_alloc ?_ _) | (with_reducible refine Kd.C_drewN ?_ _) | (with_reducible refine Kd.C_drew ?_) | exact HR167.out)) hb)
                   have n4_ := Aside0.mk (below_step (upW HB) hb)
                   clear HO_3
                   clear BK158
                   clear HR167
                   clear HB
                   have HO_3 := n0_
                   have HO173 := n1_
                   have BK158 := n2_
                   have HR167 := n3_
                   have HB := n4_
                   clear n0_ n1_ n2_ n3_ n4_
                   clear hb ho28
                   refine hK.out _ _ ⟨(blk_cell BK158.out 0).trans rfl, (blk_cell BK158.out 1).trans rfl, (blk_cell BK158.out 2).trans rfl⟩ (fun hHeld => ?_)
                   clear hK K
                   refine norm_ (a' := ?_) ?_ ?_
                   rotate_left
                   ·show Act.put _ (some 35) _ = _
                    simp only [Act.put, List.setIfInBounds_toArray, List.set_cons_zero, List.set_cons_succ, i64_w, i32_w]
                    rfl
                   refine one_ (i := 0) (N := some 29) #[true, true, true, true, false, true, true, false, false] rfl rfl (one_of HT_.out (by kernel_rfl)) (by decide) (fun K hK => ?_)
                   refine Kd.R_lit_step k83 _ 83 ?hg (N := 29) ?hd (xs := ([] : List (S83))) (inner := []) (ok := fun _ => True) (okp := fun _ => True) ?hr ?hp (fun _ hk => hk) trivial (Below.refl _ _) (Nat.le_refl _) (by simp) ?_; (case hd => rfl); (case hg => rfl); (case hr => first | (go_simp; done) | (go_simp; rfl)); (case hp => exact (Reps.none _ _))
                   intro v162 w29 ho30 hb hg_ hnew_
                   clear hg_ hnew_
                   (first | rw [← Ny161.out] at ho30 | (simp only [Int.reduceToNat] at ho30; rw [← Ny161.out] at ho30))
                   have n0_ := Aside0.mk (Kd.R_elder' (upR HO_3) (Kd.R_base ho30) hb)
                   have n1_ := Aside0.mk (Kd.R_elder' (upR HO173) (Kd.R_base ho30) hb)
                   have n2_ := Aside0.mk (Kd.R_lower (Kd.R_newB (Kd.R_new' (Kd.R_new' ho30 (Kd.R_lt (upR HO_3))) (Kd.R_lt (upR HO173))) (g := gb158) (o := .cells #[.int .i64 ((rd_T83 l0 x10_1).f0), .int .i64 ((rd_T83 l0 x10_1).f1), .int .i64 ((rd_T83 l0 x10_1).f2)] 83 (0, 0)) (upK BK158)) (below_size (upW HB)))
                   have n3_ := Aside0.mk (blk_below (upK BK158) hb)
                   have n4_ := Aside0.mk (Kd.C_below (by repeat (first | (with_reducible exact HR167.out) | (with_reducible refine Kd.C_alloc ?_ _) | (with_reducible refine Kd.C_drewN ?_ _) | (with_reducible refine Kd.C_drew ?_) | exact HR167.out)) hb)
                   have n5_ := Aside0.mk (below_step (upW HB) hb)
                   clear HO_3
                   clear HO173
                   clear BK158
                   clear HR167
                   clear HB
                   have HO_3 := n0_
                   have HO173 := n1_
                   have HO163 := n2_
                   have BK158 := n3_
                   have HR167 := n4_
                   have HB := n5_
                   clear n0_ n1_ n2_ n3_ n4_ n5_
                   clear hb ho30
                   refine hK.out _ _ ⟨(blk_cell BK158.out 0).trans rfl, (blk_cell BK158.out 1).trans rfl, (blk_cell BK158.out 2).trans rfl⟩ (fun hHeld => ?_)
                   clear hK K
                   refine norm_ (a' := ?_) ?_ ?_
                   rotate_left
                   ·show Act.put _ (some 29) _ = _
                    simp only [Act.put, List.setIfInBounds_toArray, List.set_cons_zero, List.set_cons_succ, i64_w, i32_w]
                    rfl
                   refine one_ (i := 4) (N := some 33) #[true, true, true, true, true, true, true, false, false] rfl rfl (one_of HT_.out (by kernel_rfl)) (by decide) (fun K hK => ?_)
                   refine Kd.R_append_rows_step k83 (w0 := w) w.heap.size (by rfl) (.tmp 29) (.tmp 32) 46 83 (.agg #[(.int .i64 0), (.int .i64 0), (.int .i64 0)]) 24 rfl Try.underlying46 info83 rfl (by decide) (by omega) v162 y161 y164 _ _ _ (fun k_ => some k_ ≠ (.slice (some ad159) x3_1.length co7 : Value).ownBlock ∧ some k_ ≠ (v172 : Value).ownBlock ∧ k_ ≠ gb158) (fun _ => False) rfl rfl ?aO ?aR (fun _ _ h => h) (fun _ h => h.elim) ?aF ?aB ?aS ?aL ?_
                   (case aR => repeat (first | exact (by repeat (first | (with_reducible exact HR167.out) | (with_reducible refine Kd.C_alloc ?_ _) | (with_reducible refine Kd.C_drewN ?_ _) | (with_reducible refine Kd.C_drew ?_) | exact HR167.out)) | (with_reducible refine Kd.C_alloc ?_ _) | (with_reducible refine Kd.C_drewN ?_ _) | (with_reducible refine Kd.C_drew ?_)))
                   (case aB => exact (upW HB))
                   (case aF => exact (fun k_ hk => ⟨Kd.fresh' (Kd.R_lt (upR HO_3)) k_ hk, Kd.fresh' (Kd.R_lt (upR HO173)) k_ hk, Kd.freshB (g := gb158) (o := .cells #[.int .i64 ((rd_T83 l0 x10_1).f0), .int .i64 ((rd_T83 l0 x10_1).f1), .int .i64 ((rd_T83 l0 x10_1).f2)] 83 (0, 0)) (upK BK158) k_ hk⟩))
                   (case aO => exact (by (with_reducible repeat (first | apply Kd.R_alloc | apply Kd.R_drewN | apply Kd.R_drew)); exact Kd.R_mono HO163.out (fun _ hk => ⟨hk.1.1.2, ⟨hk.1.2, hk.2⟩⟩)))
                   (case aS => exact (below_size (upW HB)))
                   (case aL => have := LMc18.out; omega)
                   intro v169 w31 ho hb hg hat
                   rw [← Ny168.out] at ho
                   have n0_ := Aside0.mk (Kd.R_after (ok := (fun k_ => some k_ ≠ (v172 : Value).ownBlock ∧ k_ ≠ gb158)) (by (with_reducible repeat (first | apply Kd.R_alloc | apply Kd.R_drewN | apply Kd.R_drew)); exact Kd.R_mono HO_3.out (fun _ hk => ⟨⟨hk.1.2, hk.1.1⟩, hk.2⟩)) hg hat)
                   have n1_ := Aside0.mk (blk_grown (upK BK158) hg (Kd.R_away HO163.out (fun _ hk => hk.2)))
                   have n2_ := Aside0.mk (Kd.R_after (ok := (fun k_ => some k_ ≠ (.slice (some ad159) x3_1.length co7 : Value).ownBlock ∧ k_ ≠ gb158)) (by (with_reducible repeat (first | apply Kd.R_alloc | apply Kd.R_drewN | apply Kd.R_drew)); exact Kd.R_mono HO173.out (fun _ hk => ⟨⟨hk.1.1.2, hk.1.2⟩, hk.2⟩)) hg hat)
                   have n3_ := Aside0.mk (hb)
                   have n4_ := Aside0.mk ((show Kd.C k83 w31 (some ad159) y164.length y164 from by rw [Ny164.out]; exact Kd.C_take (m := (x6_2 : Int).toNat) ((Kd.R_reads' (Kd.R_after (ok := (fun k_ => some k_ ≠ (v172 : Value).ownBlock ∧ k_ ≠ gb158)) (by (with_reducible repeat (first | apply Kd.R_alloc | apply Kd.R_drewN | apply Kd.R_drew)); exact Kd.R_mono HO_3.out (fun _ hk => ⟨⟨hk.1.2, hk.1.1⟩, hk.2⟩)) hg hat)).2.2) KL26.out))
                   have n5_ := Aside0.mk (ho)
                   clear HO_3
                   clear BK158
                   clear HO173
                   clear HB
                   clear HR167
                   clear HO163
                   have HO_3 := n0_
                   have BK158 := n1_
                   have HO173 := n2_
                   have HB := n3_
                   have HR167 := n4_
                   have HO170 := n5_
                   clear n0_ n1_ n2_ n3_ n4_ n5_
                   clear ho hb hg hat
                   refine hK.out _ _ ⟨(blk_cell BK158.out 0).trans rfl, (blk_cell BK158.out 1).trans rfl, (blk_cell BK158.out 2).trans rfl⟩ (fun hHeld => ?_)
                   clear hK K
                   refine norm_ (a' := ?_) ?_ ?_
                   rotate_left
                   ·show Act.put _ (some 33) _ = _
                    simp only [Act.put, List.setIfInBounds_toArray, List.set_cons_zero, List.set_cons_succ, i64_w, i32_w]
                    rfl
                   exact norm_ (by simp only [putAll, Act.put, List.setIfInBounds_toArray, List.set_cons_zero, List.set_cons_succ]) (hCont (v162, v169, v172) _ ⟨hHeld, (by (with_reducible repeat (first | apply Kd.R_alloc | apply Kd.R_drewN | apply Kd.R_drew)); exact Kd.R_mono HO170.out (fun _ hk => ⟨hk.2.1, ⟨hk.1, hk.2.2⟩⟩)), (by (with_reducible repeat (first | apply Kd.R_alloc | apply Kd.R_drewN | apply Kd.R_drew)); exact Kd.R_mono HO173.out (fun _ hk => ⟨hk.2, ⟨hk.1.1, hk.1.2⟩⟩)), (by (with_reducible repeat (first | apply Kd.R_alloc | apply Kd.R_drewN | apply Kd.R_drew)); exact Kd.R_mono HO_3.out (fun _ hk => ⟨hk.2, ⟨hk.1.1, hk.1.2⟩⟩)), (upK BK158), (upW HB)⟩)
                 rintro ⟨v162, v169, v172⟩ w32 ⟨hS_, h0_, h1_, h2_, h3_, h4_⟩
                 have n0_ : Aside0 (Kd.R k83 83 w32 w.heap.size (fun k_ => some k_ ≠ (v172 : Value).ownBlock ∧ some k_ ≠ (.slice (some ad159) x3_1.length co7 : Value).ownBlock ∧ k_ ≠ gb158) v169 y168) := ⟨h0_⟩
                 have n1_ : Aside0 (Kd.R k83 83 w32 w.heap.size (fun k_ => some k_ ≠ (v169 : Value).ownBlock ∧ some k_ ≠ (.slice (some ad159) x3_1.length co7 : Value).ownBlock ∧ k_ ≠ gb158) v172 y171) := ⟨h1_⟩
                 have n2_ : Aside0 (Kd.R k83 83 w32 w.heap.size (fun k_ => some k_ ≠ (v169 : Value).ownBlock ∧ some k_ ≠ (v172 : Value).ownBlock ∧ k_ ≠ gb158) (.slice (some ad159) x3_1.length co7) x3_1) := ⟨h2_⟩
                 have n3_ : Aside0 (w32.heap[gb158]? = some (.cells #[.int .i64 ((rd_T83 l0 x10_1).f0), .int .i64 ((rd_T83 l0 x10_1).f1), .int .i64 ((rd_T83 l0 x10_1).f2)] 83 (0, 0))) := ⟨h3_⟩
                 have n4_ : Aside0 (Below w.heap.size w w32) := ⟨h4_⟩
                 clear HO_3
                 clear BK158
                 clear HB
                 clear h0_ h1_ h2_ h3_ h4_
                 have HO170 := n0_
                 have HO173 := n1_
                 have HO_3 := n2_
                 have BK158 := n3_
                 have HB := n4_
                 clear n0_ n1_ n2_ n3_ n4_
                 have hHeld : w32.cell? ⟨gb158, 0, none⟩ = some (.int .i64 ((rd_T83 l0 x10_1).f0)) ∧ w32.cell? ⟨gb158, 1, none⟩ = some (.int .i64 ((rd_T83 l0 x10_1).f1)) ∧ w32.cell? ⟨gb158, 2, none⟩ = some (.int .i64 ((rd_T83 l0 x10_1).f2)) := hS_
                 obtain ⟨Ao34, co34, eo34⟩ := Kd.R_slice HO173.out
                 (first | subst eo34 | (injection eo34 with f1_ f2_ f3_; have f4_ := f1_.symm; have f5_ := f3_.symm; clear f1_ f2_ f3_; subst f4_; subst f5_))
                 refine norm_ (a' := ?_) ?_ ?_
                 rotate_left
                 ·simp only [putAll, Act.put, List.setIfInBounds_toArray, List.set_cons_zero, List.set_cons_succ]
                  rfl
                 refine one_ (i := 7) (N := some 36) #[true, true, true, true, true, true, true, true, false] rfl rfl (one_of HT_.out (by kernel_rfl)) (by decide) (fun K hK => ?_)
                 refine Kd.R_append_rows_step k83 (w0 := w) w.heap.size (by rfl) (.tmp 33) (.tmp 35) 46 83 (.agg #[(.int .i64 0), (.int .i64 0), (.int .i64 0)]) 24 rfl Try.underlying46 info83 rfl (by decide) (by omega) v169 y168 y171 _ _ _ (fun k_ => some k_ ≠ (.slice (some ad159) x3_1.length co7 : Value).ownBlock ∧ some k_ ≠ (.slice Ao34 y171.length co34 : Value).ownBlock ∧ k_ ≠ gb158) (fun _ => False) rfl rfl ?aO ?aR (fun _ _ h => h) (fun _ h => h.elim) ?aF ?aB ?aS ?aL ?_
                 (case aR => repeat (first | exact (Kd.R_reads' HO173.out).2.2 | (with_reducible refine Kd.C_alloc ?_ _) | (with_reducible refine Kd.C_drewN ?_ _) | (with_reducible refine Kd.C_drew ?_)))
                 (case aB => exact (upW HB))
                 (case aF => exact (fun k_ hk => ⟨Kd.fresh' (Kd.R_lt (upR HO_3)) k_ hk, Kd.fresh' (Kd.R_lt (upR HO173)) k_ hk, Kd.freshB (g := gb158) (o := .cells #[.int .i64 ((rd_T83 l0 x10_1).f0), .int .i64 ((rd_T83 l0 x10_1).f1), .int .i64 ((rd_T83 l0 x10_1).f2)] 83 (0, 0)) (upK BK158) k_ hk⟩))
                 (case aO => exact (by (with_reducible repeat (first | apply Kd.R_alloc | apply Kd.R_drewN | apply Kd.R_drew)); exact Kd.R_mono HO170.out (fun _ hk => ⟨hk.2.1, ⟨hk.1, hk.2.2⟩⟩)))
                 (case aS => exact (below_size (upW HB)))
                 (case aL => have := LMc19.out; omega)
                 intro v175 w33 ho hb hg hat
                 rw [← Ny174.out] at ho
                 have n0_ := Aside0.mk (Kd.R_after (ok := (fun k_ => some k_ ≠ (.slice Ao34 y171.length co34 : Value).ownBlock ∧ k_ ≠ gb158)) (by (with_reducible repeat (first | apply Kd.R_alloc | apply Kd.R_drewN | apply Kd.R_drew)); exact Kd.R_mono HO_3.out (fun _ hk => ⟨⟨hk.2.1, hk.2.2⟩, hk.1⟩)) hg hat)
                 have n1_ := Aside0.mk (blk_grown (upK BK158) hg (Kd.R_away HO170.out (fun _ hk => hk.2.2)))
                 have n2_ := Aside0.mk (Kd.R_after (ok := (fun k_ => some k_ ≠ (.slice (some ad159) x3_1.length co7 : Value).ownBlock ∧ k_ ≠ gb158)) (by (with_reducible repeat (first | apply Kd.R_alloc | apply Kd.R_drewN | apply Kd.R_drew)); exact Kd.R_mono HO173.out (fun _ hk => ⟨⟨hk.2.1, hk.2.2⟩, hk.1⟩)) hg hat)
                 have n3_ := Aside0.mk (hb)
                 have n4_ := Aside0.mk (ho)
                 clear HO_3
                 clear BK158
                 clear HO173
                 clear HB
                 clear HO170
                 have HO_3 := n0_
                 have BK158 := n1_
                 have HO173 := n2_
                 have HB := n3_
                 have HO176 := n4_
                 clear n0_ n1_ n2_ n3_ n4_
                 clear ho hb hg hat
                 refine hK.out _ _ ⟨(blk_cell BK158.out 0).trans rfl, (blk_cell BK158.out 1).trans rfl, (blk_cell BK158.out 2).trans rfl⟩ (fun hHeld => ?_)
                 clear hK K
                 refine norm_ (a' := ?_) ?_ ?_
                 rotate_left
                 ·show Act.put _ (some 36) _ = _
                  simp only [Act.put, List.setIfInBounds_toArray, List.set_cons_zero, List.set_cons_succ, i64_w, i32_w]
                  rfl
                 refine pure_ (i := 8) (N := some 7) (v := ?_) (a' := ?_) #[true, true, true, true, true, true, true, true, true] rfl rfl (any_of HT_.out (by kernel_rfl)) (fun _ _ _ h => h) (Or.inl ⟨by rfl, ?_⟩) ?_ ?_
                 rotate_left
                 ·intro w'
                  go_simp
                  with_reducible rfl
                 rotate_left
                 ·simp only [Act.put, List.setIfInBounds_toArray, List.set_cons_zero, List.set_cons_succ, i64_w, i32_w]
                  rfl
                 refine done_ (done_of HT_.out (by kernel_rfl)) ?_
                 have q35 : (x6_2 : Int) ≤ ((x3_1.length : Int) : Int) := of_decide_eq_true (by first | (with_reducible assumption) | assumption)
                 obtain ⟨i035, hi035, _, hsz35, _⟩ := info_parts info83
                 have hroom35 : x3_1.length ≤ co7 := (Kd.R_reads' HO_3.out).2.1
                 have hC35 : Kd.C k83 _ (some ad159) x3_1.length x3_1 := (Kd.R_reads' HO_3.out).2.2
                 have q035 : (0 : Int) ≤ (x6_2 : Int) := of_decide_eq_true (by first | (with_reducible assumption) | assumption)
                 have hcut35 := cut_from (P := Try.prog) 46 83 .i64 Try.underlying46 hi035 3 hsz35 (some ad159) x3_1.length co7 x6_2 q035 q35
                 have hr35 := Kd.C_drop (m := (x6_2 : Int).toNat) (c := co7) hC35 (by omega) hroom35
                 obtain ⟨A35, hA35⟩ : ∃ A1, A1 = (if co7 = (x6_2 : Int).toNat then (some ad159) else ((some ad159) : Option Addr).map (·.add ((x6_2 : Int).toNat * 3))) := ⟨_, rfl⟩
                 obtain ⟨c35, hc35⟩ : ∃ c1, c1 = co7 - (x6_2 : Int).toNat := ⟨_, rfl⟩
                 have hy35 : y177.length = x3_1.length - (x6_2 : Int).toNat := (by rw [Ny177.out, List.length_drop] <;> omega)
                 rw [show (x3_1).drop (x6_2 : Int).toNat = y177 from Ny177.out.symm] at hr35
                 replace hr35 : Kd.C k83 _ A35 y177.length y177 := (by rw [hA35]; exact hr35)
                 rw [← hy35, ← hA35, ← hc35] at hcut35
                 have HR180 := Aside0.mk hr35
                 have HC180 := Aside0.mk (show y177.length ≤ c35 from by rw [hy35, hc35]; exact Nat.sub_le_sub_right hroom35 _)
                 clear hr35 hC35 hroom35 hi035 hsz35 hc35
                 have KY35 := Aside0.mk hy35
                 have KA35 := Aside0.mk hA35
                 clear hy35 hA35
                 have KL35 := Aside0.mk (show (x6_2 : Int).toNat ≤ x3_1.length from by omega)
                 replace q35 := eq_true q35
                 try go_wp2_with (first | ((with_reducible refine gate_builtin (b := .append) (xs := #[.tmp 37, .tmp 40]) rfl ?_); at_builtin; refine Kd.R_append_rows k83 (w0 := w) w.heap.size rfl (.tmp 37) (.tmp 40) 46 83 (.agg #[(.int .i64 0), (.int .i64 0), (.int .i64 0)]) 24 rfl Try.underlying46 info83 rfl (by decide) (by omega) v175 y174 y177 _ _ _ (fun k_ => some k_ ≠ (.slice (some ad159) x3_1.length co7 : Value).ownBlock ∧ some k_ ≠ (.slice Ao34 y171.length co34 : Value).ownBlock ∧ k_ ≠ gb158) (fun _ => False) rfl rfl ?aO ?aR (fun _ _ h => h) (fun _ h => h.elim) ?aF ?aB ?aS ?aL ?_; (case aR => repeat (first | exact (by repeat (first | (with_reducible exact HR180.out) | (with_reducible refine Kd.C_alloc ?_ _) | (with_reducible refine Kd.C_drewN ?_ _) | (with_reducible refine Kd.C_drew ?_) | exact HR180.out)) | (with_reducible refine Kd.C_alloc ?_ _) | (with_reducible refine Kd.C_drewN ?_ _) | (with_reducible refine Kd.C_drew ?_))); (case aB => exact (upW HB)); (case aF => exact (fun k_ hk => ⟨Kd.fresh' (Kd.R_lt (upR HO_3)) k_ hk, Kd.fresh' (Kd.R_lt (upR HO173)) k_ hk, Kd.freshB (g := gb158) (o := .cells #[.int .i64 ((rd_T83 l0 x10_1).f0), .int .i64 ((rd_T83 l0 x10_1).f1), .int .i64 ((rd_T83 l0 x10_1).f2)] 83 (0, 0)) (upK BK158) k_ hk⟩)); (case aO => exact (upR HO176)); (case aS => exact (below_size (upW HB))); (case aL => have := LMc22.out; omega); intro v182 w36 ho hb hg hat; rw [← Ny181.out] at ho; have n0_ := Aside0.mk (Kd.R_after (ok := (fun k_ => some k_ ≠ (.slice Ao34 y171.length co34 : Value).ownBlock ∧ k_ ≠ gb158)) (upR HO_3) hg hat); have n1_ := Aside0.mk (blk_grown (upK BK158) hg (Kd.R_away HO176.out (fun _ hk => hk.2.2))); have n2_ := Aside0.mk (Kd.R_after (ok := (fun k_ => some k_ ≠ (.slice (some ad159) x3_1.length co7 : Value).ownBlock ∧ k_ ≠ gb158)) (upR HO173) hg hat); have n3_ := Aside0.mk (hb); have n4_ := Aside0.mk ((show Kd.C k83 w36 A35 y177.length y177 from by rw [Ny177.out, KA35.out]; exact Kd.C_drop (m := (x6_2 : Int).toNat) (c := co7) ((Kd.R_reads' (Kd.R_after (ok := (fun k_ => some k_ ≠ (.slice Ao34 y171.length co34 : Value).ownBlock ∧ k_ ≠ gb158)) (upR HO_3) hg hat)).2.2) KL35.out ((Kd.R_reads' (Kd.R_after (ok := (fun k_ => some k_ ≠ (.slice Ao34 y171.length co34 : Value).ownBlock ∧ k_ ≠ gb158)) (upR HO_3) hg hat)).2.1))); have n5_ := Aside0.mk (ho); clear HO_3; clear BK158; clear HO173; clear HB; clear HR180; clear HO176; have HO_3 := n0_; have BK158 := n1_; have HO173 := n2_; have HB := n3_; have HR180 := n4_; have HO183 := n5_; clear n0_ n1_ n2_ n3_ n4_ n5_; clear ho hb hg hat))
                 go_roundg k2
                 case measure => have := HK1.out; have := HK2.out; omega
                 case rel => exact ⟨(y181), (wrap64 (x10_1 + 1)), (by first | rfl | (simp; done) | (simp [*]; done)), H', ⟨by have := HK1.out; have := HK2.out; omega⟩, ⟨by (with_reducible repeat (first | apply Kd.R_alloc | apply Kd.R_drewN | apply Kd.R_drew)); exact Kd.R_mono HO183.out (fun _ hk => trivial)⟩, ⟨upW HB⟩⟩
                ·rw [if_neg c22] at H
                 exact absurd H (by simp)
               ·rw [if_neg c19] at H
                exact absurd H (by simp)
              ·rw [if_neg c18] at H
               exact absurd H (by simp)
             ·rw [if_neg c17] at H
              exact absurd H (by simp)
            ·rw [if_neg c16] at H
             exact absurd H (by simp)
          ·rw [if_neg c11] at H
           exact absurd H (by simp)
         ·rw [if_neg c10] at H
          exact absurd H (by simp)
        ·rw [if_neg c8] at H
         have c8b0 : decide (0 < x6_2) = false := decide_eq_false c8
         clear c8
         obtain ⟨y184, hy184⟩ : ∃ y_ : List (S83), y_ = (([] : List (S83))) := ⟨_, rfl⟩
         replace H : (if 0 ≤ x6_2 then (if x6_2 ≤ (x3_1.length : Int) then ((some (x3_1.take (x6_2 : Int).toNat : List (S83))).bind fun y187 => (if y184.length + y187.length < 5864062014805 then ((some (y184 ++ y187 : List (S83))).bind fun y191 => ((some (([(⟨((rd_T83 l0 x10_1).f0), ((rd_T83 l0 x10_1).f1), ((rd_T83 l0 x10_1).f2)⟩ : S83)] : List (S83)) : List (S83))).bind fun y194 => (if y191.length + y194.length < 5864062014805 then ((some (y191 ++ y194 : List (S83))).bind fun y197 => ((some (x3_1.drop (x6_2 : Int).toNat : List (S83))).bind fun y200 => (if y197.length + y200.length < 5864062014805 then (spec_cuSorted.l0 k2 (y197 ++ y200) l0 (l0.length : Int) (wrap64 (x10_1 + 1))) else (none)))) else (none)))) else (none))) else (none)) else (none)) = some r := by first | (rw [hy184]; with_reducible exact H) | (have H2_ := (Option.bind_some _ _).symm.trans H; rw [hy184]; with_reducible exact H2_) | (have H2_ := (Option.bind_some _ _).symm.trans H; with_reducible exact H2_) | with_reducible exact H | (rw [hy184]; exact H) | exact H
         have Ny184 := Aside0.mk hy184
         clear hy184
         by_cases c37 : 0 ≤ x6_2
         ·rw [if_pos c37] at H
          have c37b0 := eq_true c37
          have c37b1 : decide (0 ≤ x6_2) = true := decide_eq_true c37
          clear c37
          by_cases c38 : x6_2 ≤ (x3_1.length : Int)
          ·rw [if_pos c38] at H
           have c38b0 := eq_true c38
           have c38b1 : decide (x6_2 ≤ (x3_1.length : Int)) = true := decide_eq_true c38
           clear c38
           obtain ⟨y187, hy187⟩ : ∃ y_ : List (S83), y_ = (x3_1.take (x6_2 : Int).toNat) := ⟨_, rfl⟩
           replace H : (if y184.length + y187.length < 5864062014805 then ((some (y184 ++ y187 : List (S83))).bind fun y191 => ((some (([(⟨((rd_T83 l0 x10_1).f0), ((rd_T83 l0 x10_1).f1), ((rd_T83 l0 x10_1).f2)⟩ : S83)] : List (S83)) : List (S83))).bind fun y194 => (if y191.length + y194.length < 5864062014805 then ((some (y191 ++ y194 : List (S83))).bind fun y197 => ((some (x3_1.drop (x6_2 : Int).toNat : List (S83))).bind fun y200 => (if y197.length + y200.length < 5864062014805 then (spec_cuSorted.l0 k2 (y197 ++ y200) l0 (l0.length : Int) (wrap64 (x10_1 + 1))) else (none)))) else (none)))) else (none)) = some r := by first | (rw [hy187]; with_reducible exact H) | (have H2_ := (Option.bind_some _ _).symm.trans H; rw [hy187]; with_reducible exact H2_) | (have H2_ := (Option.bind_some _ _).symm.trans H; with_reducible exact H2_) | with_reducible exact H | (rw [hy187]; exact H) | exact H
           have Ny187 := Aside0.mk hy187
           clear hy187
           by_cases c39 : y184.length + y187.length < 5864062014805
           ·rw [if_pos c39] at H
            have LMc39 := Aside0.mk c39
            clear c39
            obtain ⟨y191, hy191⟩ : ∃ y_ : List (S83), y_ = (y184 ++ y187) := ⟨_, rfl⟩
            replace H : ((some (([(⟨((rd_T83 l0 x10_1).f0), ((rd_T83 l0 x10_1).f1), ((rd_T83 l0 x10_1).f2)⟩ : S83)] : List (S83)) : List (S83))).bind fun y194 => (if y191.length + y194.length < 5864062014805 then ((some (y191 ++ y194 : List (S83))).bind fun y197 => ((some (x3_1.drop (x6_2 : Int).toNat : List (S83))).bind fun y200 => (if y197.length + y200.length < 5864062014805 then (spec_cuSorted.l0 k2 (y197 ++ y200) l0 (l0.length : Int) (wrap64 (x10_1 + 1))) else (none)))) else (none))) = some r := by first | (rw [hy191]; with_reducible exact H) | (have H2_ := (Option.bind_some _ _).symm.trans H; rw [hy191]; with_reducible exact H2_) | (have H2_ := (Option.bind_some _ _).symm.trans H; with_reducible exact H2_) | with_reducible exact H | (rw [hy191]; exact H) | exact H
            have Ny191 := Aside0.mk hy191
            clear hy191
            obtain ⟨y194, hy194⟩ : ∃ y_ : List (S83), y_ = (([(⟨((rd_T83 l0 x10_1).f0), ((rd_T83 l0 x10_1).f1), ((rd_T83 l0 x10_1).f2)⟩ : S83)] : List (S83))) := ⟨_, rfl⟩
            replace H : (if y191.length + y194.length < 5864062014805 then ((some (y191 ++ y194 : List (S83))).bind fun y197 => ((some (x3_1.drop (x6_2 : Int).toNat : List (S83))).bind fun y200 => (if y197.length + y200.length < 5864062014805 then (spec_cuSorted.l0 k2 (y197 ++ y200) l0 (l0.length : Int) (wrap64 (x10_1 + 1))) else (none)))) else (none)) = some r := by first | (rw [hy194]; with_reducible exact H) | (have H2_ := (Option.bind_some _ _).symm.trans H; rw [hy194]; with_reducible exact H2_) | (have H2_ := (Option.bind_some _ _).symm.trans H; with_reducible exact H2_) | with_reducible exact H | (rw [hy194]; exact H) | exact H
            have Ny194 := Aside0.mk hy194
            clear hy194
            by_cases c40 : y191.length + y194.length < 5864062014805
            ·rw [if_pos c40] at H
             have LMc40 := Aside0.mk c40
             clear c40
             obtain ⟨y197, hy197⟩ : ∃ y_ : List (S83), y_ = (y191 ++ y194) := ⟨_, rfl⟩
             replace H : ((some (x3_1.drop (x6_2 : Int).toNat : List (S83))).bind fun y200 => (if y197.length + y200.length < 5864062014805 then (spec_cuSorted.l0 k2 (y197 ++ y200) l0 (l0.length : Int) (wrap64 (x10_1 + 1))) else (none))) = some r := by first | (rw [hy197]; with_reducible exact H) | (have H2_ := (Option.bind_some _ _).symm.trans H; rw [hy197]; with_reducible exact H2_) | (have H2_ := (Option.bind_some _ _).symm.trans H; with_reducible exact H2_) | with_reducible exact H | (rw [hy197]; exact H) | exact H
             have Ny197 := Aside0.mk hy197
             clear hy197
             have c41b0 := eq_true (of_decide_eq_true (by first | (with_reducible assumption) | assumption) : 0 ≤ x6_2)
             have c42b0 := eq_true (of_decide_eq_true (by first | (with_reducible assumption) | assumption) : x6_2 ≤ (x3_1.length : Int))
             obtain ⟨y200, hy200⟩ : ∃ y_ : List (S83), y_ = (x3_1.drop (x6_2 : Int).toNat) := ⟨_, rfl⟩
             replace H : (if y197.length + y200.length < 5864062014805 then (spec_cuSorted.l0 k2 (y197 ++ y200) l0 (l0.length : Int) (wrap64 (x10_1 + 1))) else (none)) = some r := by first | (rw [hy200]; with_reducible exact H) | (have H2_ := (Option.bind_some _ _).symm.trans H; rw [hy200]; with_reducible exact H2_) | (have H2_ := (Option.bind_some _ _).symm.trans H; with_reducible exact H2_) | with_reducible exact H | (rw [hy200]; exact H) | exact H
             have Ny200 := Aside0.mk hy200
             clear hy200
             by_cases c43 : y197.length + y200.length < 5864062014805
             ·rw [if_pos c43] at H
              have LMc43 := Aside0.mk c43
              clear c43
              obtain ⟨y204, hy204⟩ : ∃ y_ : List (S83), y_ = (y197 ++ y200) := ⟨_, rfl⟩
              replace H : (spec_cuSorted.l0 k2 y204 l0 (l0.length : Int) (wrap64 (x10_1 + 1))) = some r := by first | (rw [hy204]; with_reducible exact H) | (have H2_ := (Option.bind_some _ _).symm.trans H; rw [hy204]; with_reducible exact H2_) | (have H2_ := (Option.bind_some _ _).symm.trans H; with_reducible exact H2_) | with_reducible exact H | (rw [hy204]; exact H) | exact H
              have Ny204 := Aside0.mk hy204
              clear hy204
              have H' := Aside0.mk H
              clear H
              try go_wp2
              have n0_ := Aside0.mk (Kd.R_drew HO_3.out)
              have n1_ := Aside0.mk (blk_drew BK158.out)
              have n2_ := Aside0.mk (below_drew1 HB.out)
              clear HO_3
              clear BK158
              clear HB
              have HO_3 := n0_
              have BK158 := n1_
              have HB := n2_
              clear n0_ n1_ n2_
              refine start_ (n := 11) (S := fun w' => True) (ds := []) #[false, false, false, false, false, false, false, false, false, false, false] (by kernel_rfl) rfl rfl trivial (fun hHeld => ?_); refine with_tabW spec_cuSorted.tab6 spec_cuSorted.bits6 (fun HT_ HW_ => ?_)
              generalize wr.drew = w44 at HO_3 BK158 HB hHeld ⊢
              refine pure_ (i := 0) (N := some 16) (v := ?_) (a' := ?_) #[true, false, false, false, false, false, false, false, false, false, false] rfl rfl (any_of HT_.out (by kernel_rfl)) (fun _ _ _ h => h) (Or.inl ⟨by rfl, ?_⟩) ?_ ?_
              rotate_left
              ·intro w'
               go_simp
               with_reducible rfl
              rotate_left
              ·simp only [Act.put, List.setIfInBounds_toArray, List.set_cons_zero, List.set_cons_succ, i64_w, i32_w]
               rfl
              refine pure_ (i := 1) (N := some 17) (v := ?_) (a' := ?_) #[true, true, false, false, false, false, false, false, false, false, false] rfl rfl (any_of HT_.out (by kernel_rfl)) (fun _ _ _ h => h) (Or.inl ⟨by rfl, ?_⟩) ?_ ?_
              rotate_left
              ·intro w'
               go_simp
               with_reducible rfl
              rotate_left
              ·simp only [Act.put, List.setIfInBounds_toArray, List.set_cons_zero, List.set_cons_succ, i64_w, i32_w]
               rfl
              refine pure_ (i := 2) (N := some 18) (v := ?_) (a' := ?_) #[true, true, true, false, false, false, false, false, false, false, false] rfl rfl (any_of HT_.out (by kernel_rfl)) (fun _ _ _ h => h) (Or.inl ⟨by rfl, ?_⟩) ?_ ?_
              rotate_left
              ·intro w'
               go_simp
               with_reducible rfl
              rotate_left
              ·simp only [Act.put, List.setIfInBounds_toArray, List.set_cons_zero, List.set_cons_succ, i64_w, i32_w]
               rfl
              refine pure_ (i := 3) (N := some 19) (v := undef) (a' := ?_) #[true, true, true, true, false, false, false, false, false, false, false] rfl rfl (any_of HT_.out (by kernel_rfl)) (fun _ _ _ h => h) (Or.inr ⟨by rfl, rfl⟩) ?_ ?_
              rotate_left
              ·simp only [Act.put, List.setIfInBounds_toArray, List.set_cons_zero, List.set_cons_succ, i64_w, i32_w]
               rfl
              refine pure_ (i := 4) (N := some 20) (v := undef) (a' := ?_) #[true, true, true, true, true, false, false, false, false, false, false] rfl rfl (any_of HT_.out (by kernel_rfl)) (fun _ _ _ h => h) (Or.inr ⟨by rfl, rfl⟩) ?_ ?_
              rotate_left
              ·simp only [Act.put, List.setIfInBounds_toArray, List.set_cons_zero, List.set_cons_succ, i64_w, i32_w]
               rfl
              refine pure_ (i := 5) (N := some 21) (v := undef) (a' := ?_) #[true, true, true, true, true, true, false, false, false, false, false] rfl rfl (any_of HT_.out (by kernel_rfl)) (fun _ _ _ h => h) (Or.inr ⟨by rfl, rfl⟩) ?_ ?_
              rotate_left
              ·simp only [Act.put, List.setIfInBounds_toArray, List.set_cons_zero, List.set_cons_succ, i64_w, i32_w]
               rfl
              refine pure_ (i := 6) (N := some 22) (v := undef) (a' := ?_) #[true, true, true, true, true, true, true, false, false, false, false] rfl rfl (any_of HT_.out (by kernel_rfl)) (fun _ _ _ h => h) (Or.inr ⟨by rfl, rfl⟩) ?_ ?_
              rotate_left
              ·simp only [Act.put, List.setIfInBounds_toArray, List.set_cons_zero, List.set_cons_succ, i64_w, i32_w]
               rfl
              refine pure_ (i := 7) (N := some 23) (v := undef) (a' := ?_) #[true, true, true, true, true, true, true, true, false, false, false] rfl rfl (any_of HT_.out (by kernel_rfl)) (fun _ _ _ h => h) (Or.inr ⟨by rfl, rfl⟩) ?_ ?_
              rotate_left
              ·simp only [Act.put, List.setIfInBounds_toArray, List.set_cons_zero, List.set_cons_succ, i64_w, i32_w]
               rfl
              refine pure_ (i := 8) (N := some 24) (v := undef) (a' := ?_) #[true, true, true, true, true, true, true, true, true, false, false] rfl rfl (any_of HT_.out (by kernel_rfl)) (fun _ _ _ h => h) (Or.inr ⟨by rfl, rfl⟩) ?_ ?_
              rotate_left
              ·simp only [Act.put, List.setIfInBounds_toArray, List.set_cons_zero, List.set_cons_succ, i64_w, i32_w]
               rfl
              refine pure_ (i := 9) (N := some 25) (v := undef) (a' := ?_) #[true, true, true, true, true, true, true, true, true, true, false] rfl rfl (any_of HT_.out (by kernel_rfl)) (fun _ _ _ h => h) (Or.inr ⟨by rfl, rfl⟩) ?_ ?_
              rotate_left
              ·simp only [Act.put, List.setIfInBounds_toArray, List.set_cons_zero, List.set_cons_succ, i64_w, i32_w]
               rfl
              refine pure_ (i := 10) (N := some 26) (v := ?_) (a' := ?_) #[true, true, true, true, true, true, true, true, true, true, true] rfl rfl (any_of HT_.out (by kernel_rfl)) (fun _ _ _ h => h) (Or.inl ⟨by rfl, ?_⟩) ?_ ?_
              rotate_left
              ·intro w'
               go_simp
               with_reducible rfl
              rotate_left
              ·simp only [Act.put, List.setIfInBounds_toArray, List.set_cons_zero, List.set_cons_succ, i64_w, i32_w]
               rfl
              refine done_ (done_of HT_.out (by kernel_rfl)) ?_
              try go_wp2
              have n0_ := Aside0.mk (Kd.R_drew HO_3.out)
              have n1_ := Aside0.mk (blk_drew BK158.out)
              have n2_ := Aside0.mk (below_drew1 HB.out)
              clear HO_3
              clear BK158
              clear HB
              have HO_3 := n0_
              have BK158 := n1_
              have HB := n2_
              clear n0_ n1_ n2_
              have q46 : (x6_2 : Int) ≤ ((x3_1.length : Int) : Int) := of_decide_eq_true (by first | (with_reducible assumption) | assumption)
              obtain ⟨i046, hi046, _, hsz46, _⟩ := info_parts info83
              have hroom46 : x3_1.length ≤ co7 := (Kd.R_reads' HO_3.out).2.1
              have hC46 : Kd.C k83 _ Ao7 x3_1.length x3_1 := (Kd.R_reads' HO_3.out).2.2
              have hcut46 := cut_to (P := Try.prog) 46 83 .i64 Try.underlying46 hi046 Ao7 x3_1.length co7 x6_2 (of_decide_eq_true (by first | (with_reducible assumption) | assumption)) q46 hroom46
              have hr46 := Kd.C_take (m := (x6_2 : Int).toNat) hC46 (by omega)
              have hy46 : y187.length = (x6_2 : Int).toNat := (by rw [Ny187.out, List.length_take]; omega)
              rw [← Ny187.out] at hr46
              rw [← hy46] at hcut46
              have HR190 := Aside0.mk hr46
              have HC190 := Aside0.mk (show y187.length ≤ co7 from by omega)
              clear hr46 hC46 hroom46 hi046 hsz46
              have KY46 := Aside0.mk hy46
              clear hy46
              have KL46 := Aside0.mk (show (x6_2 : Int).toNat ≤ x3_1.length from by omega)
              replace q46 := eq_true q46
              refine start_ (n := 9) (S := fun w' => w'.cell? ⟨gb158, 0, none⟩ = some (.int .i64 ((rd_T83 l0 x10_1).f0)) ∧ w'.cell? ⟨gb158, 1, none⟩ = some (.int .i64 ((rd_T83 l0 x10_1).f1)) ∧ w'.cell? ⟨gb158, 2, none⟩ = some (.int .i64 ((rd_T83 l0 x10_1).f2))) (ds := []) #[false, false, false, false, false, false, false, false, false] (by kernel_rfl) rfl rfl ⟨(blk_cell BK158.out 0).trans rfl, (blk_cell BK158.out 1).trans rfl, (blk_cell BK158.out 2).trans rfl⟩ (fun hHeld => ?_); refine with_tabW spec_cuSorted.tab8 spec_cuSorted.bits8 (fun HT_ HW_ => ?_)
              generalize w44.drew = w45 at HO_3 BK158 HB HR190 hHeld ⊢
              refine pure_ (i := 1) (N := some 30) (v := ?_) (a' := ?_) #[false, true, false, false, false, false, false, false, false] rfl rfl (any_of HT_.out (by kernel_rfl)) (fun _ _ _ h => h) (Or.inl ⟨by rfl, ?_⟩) ?_ ?_
              rotate_left
              ·intro w'
               go_simp
               with_reducible rfl
              rotate_left
              ·simp only [Act.put, List.setIfInBounds_toArray, List.set_cons_zero, List.set_cons_succ, i64_w, i32_w]
               rfl
              refine pure_ (i := 2) (N := some 31) (v := ?_) (a' := ?_) #[false, true, true, false, false, false, false, false, false] rfl rfl (any_of HT_.out (by kernel_rfl)) (fun _ _ _ h => h) (Or.inl ⟨by rfl, ?_⟩) ?_ ?_
              rotate_left
              ·intro w'
               go_simp
               with_reducible rfl
              rotate_left
              ·simp only [Act.put, List.setIfInBounds_toArray, List.set_cons_zero, List.set_cons_succ, i64_w, i32_w]
               rfl
              refine pure_ (i := 3) (N := some 32) (v := ?_) (a' := ?_) #[false, true, true, true, false, false, false, false, false] rfl rfl (any_of HT_.out (by kernel_rfl)) (fun _ _ _ h => h) (Or.inl ⟨by rfl, ?_⟩) ?_ ?_
              rotate_left
              ·intro w'
               go_simp
               with_reducible rfl
              rotate_left
              ·simp only [Act.put, List.setIfInBounds_toArray, List.set_cons_zero, List.set_cons_succ, i64_w, i32_w]
               rfl
              refine take_ (i := 5) (N := some 34) (v := ?_) (a' := ?_) #[false, true, true, true, false, true, false, false, false] rfl rfl (take_ofW HT_.out HW_.out (by kernel_rfl)) (fun _ _ _ h => h) (Or.inl ⟨by rfl, ?_⟩) hHeld ?_ ?_
              rotate_left
              ·rintro w' ⟨s0, s1, s2⟩
               go_simp
               with_reducible rfl
              rotate_left
              ·simp only [Act.put, List.setIfInBounds_toArray, List.set_cons_zero, List.set_cons_succ, i64_w, i32_w]
               rfl
              refine join_ (σ := Value × Value × Value) 2 #[true, true, true, true, true, true, true, false, false] (fun s_ => [(29, s_.1), (33, s_.2.1), (35, s_.2.2)]) (fun s_ w' => (w'.cell? ⟨gb158, 0, none⟩ = some (.int .i64 ((rd_T83 l0 x10_1).f0)) ∧ w'.cell? ⟨gb158, 1, none⟩ = some (.int .i64 ((rd_T83 l0 x10_1).f1)) ∧ w'.cell? ⟨gb158, 2, none⟩ = some (.int .i64 ((rd_T83 l0 x10_1).f2))) ∧ (Kd.R k83 83 w' w.heap.size (fun k_ => some k_ ≠ (s_.2.2 : Value).ownBlock ∧ some k_ ≠ (.slice Ao7 x3_1.length co7 : Value).ownBlock ∧ k_ ≠ gb158) s_.2.1 y191) ∧ (Kd.R k83 83 w' w.heap.size (fun k_ => some k_ ≠ (s_.2.1 : Value).ownBlock ∧ some k_ ≠ (.slice Ao7 x3_1.length co7 : Value).ownBlock ∧ k_ ≠ gb158) s_.2.2 y194) ∧ (Kd.R k83 83 w' w.heap.size (fun k_ => some k_ ≠ (s_.2.1 : Value).ownBlock ∧ some k_ ≠ (s_.2.2 : Value).ownBlock ∧ k_ ≠ gb158) (.slice Ao7 x3_1.length co7) x3_1) ∧ (w'.heap[gb158]? = some (.cells #[.int .i64 ((rd_T83 l0 x10_1).f0), .int .i64 ((rd_T83 l0 x10_1).f1), .int .i64 ((rd_T83 l0 x10_1).f2)] 83 (0, 0))) ∧ (Below w.heap.size w w')) ?_ ?_
              rotate_left
              ·intro hCont
               refine two_ (i := 0) (j := 6) (Ni := some 29) (Nj := some 35) #[true, true, true, true, false, true, false, false, false] #[false, true, true, true, false, true, true, false, false] rfl rfl rfl rfl (two_of HT_.out (by kernel_rfl)) (by decide) (by decide) (fun K hK => ?_) (fun K hK => ?_)
               ·skip
                refine Kd.R_lit_step k83 _ 83 ?hg (N := 29) ?hd (xs := ([] : List (S83))) (inner := []) (ok := fun _ => True) (okp := fun _ => True) ?hr ?hp (fun _ hk => hk) trivial (Below.refl _ _) (Nat.le_refl _) (by simp) ?_; (case hd => rfl); (case hg => rfl); (case hr => first | (go_simp; done) | (go_simp; rfl)); (case hp => exact (Reps.none _ _))
                intro v185 w47 ho48 hb hg_ hnew_
                clear hg_ hnew_
                (first | rw [← Ny184.out] at ho48 | (simp only [Int.reduceToNat] at ho48; rw [← Ny184.out] at ho48))
                have n0_ := Aside0.mk (Kd.R_elder' (upR HO_3) (Kd.R_base ho48) hb)
                have n1_ := Aside0.mk (Kd.R_lower (Kd.R_newB (Kd.R_new' ho48 (Kd.R_lt (upR HO_3))) (g := gb158) (o := .cells #[.int .i64 ((rd_T83 l0 x10_1).f0), .int .i64 ((rd_T83 l0 x10_1).f1), .int .i64 ((rd_T83 l0 x10_1).f2)] 83 (0, 0)) (upK BK158)) (below_size (upW HB)))
                have n2_ := Aside0.mk (blk_below (upK BK158) hb)
                have n3_ := Aside0.mk (Kd.C_below (by repeat (first | (with_reducible exact HR190.out) | (with_reducible refine Kd.C_alloc ?_ _) | (with_reducible refine Kd.C_drewN ?_ _) | (with_reducible refine Kd.C_drew ?_) | exact HR190.out)) hb)
                have n4_ := Aside0.mk (below_step (upW HB) hb)
                clear HO_3
                clear BK158
                clear HR190
                clear HB
                have HO_3 := n0_
                have HO186 := n1_
                have BK158 := n2_
                have HR190 := n3_
                have HB := n4_
                clear n0_ n1_ n2_ n3_ n4_
                clear hb ho48
                refine hK.out _ _ ⟨(blk_cell BK158.out 0).trans rfl, (blk_cell BK158.out 1).trans rfl, (blk_cell BK158.out 2).trans rfl⟩ (fun hHeld => ?_)
                clear hK K
                refine norm_ (a' := ?_) ?_ ?_
                rotate_left
                ·show Act.put _ (some 29) _ = _
                 simp only [Act.put, List.setIfInBounds_toArray, List.set_cons_zero, List.set_cons_succ, i64_w, i32_w]
                 rfl
                refine two_ (i := 4) (j := 6) (Ni := some 33) (Nj := some 35) #[true, true, true, true, true, true, false, false, false] #[true, true, true, true, false, true, true, false, false] rfl rfl rfl rfl (two_of HT_.out (by kernel_rfl)) (by decide) (by decide) (fun K hK => ?_) (fun K hK => ?_)
                ·skip
                 refine Kd.R_append_rows_step k83 (w0 := w) w.heap.size (by rfl) (.tmp 29) (.tmp 32) 46 83 (.agg #[(.int .i64 0), (.int .i64 0), (.int .i64 0)]) 24 rfl Try.underlying46 info83 rfl (by decide) (by omega) v185 y184 y187 _ _ _ (fun k_ => some k_ ≠ (.slice Ao7 x3_1.length co7 : Value).ownBlock ∧ k_ ≠ gb158) (fun _ => False) rfl rfl ?aO ?aR (fun _ _ h => h) (fun _ h => h.elim) ?aF ?aB ?aS ?aL ?_
                 (case aR => repeat (first | exact (by repeat (first | (with_reducible exact HR190.out) | (with_reducible refine Kd.C_alloc ?_ _) | (with_reducible refine Kd.C_drewN ?_ _) | (with_reducible refine Kd.C_drew ?_) | exact HR190.out)) | (with_reducible refine Kd.C_alloc ?_ _) | (with_reducible refine Kd.C_drewN ?_ _) | (with_reducible refine Kd.C_drew ?_)))
                 (case aB => exact (upW HB))
                 (case aF => exact (fun k_ hk => ⟨Kd.fresh' (Kd.R_lt (upR HO_3)) k_ hk, Kd.freshB (g := gb158) (o := .cells #[.int .i64 ((rd_T83 l0 x10_1).f0), .int .i64 ((rd_T83 l0 x10_1).f1), .int .i64 ((rd_T83 l0 x10_1).f2)] 83 (0, 0)) (upK BK158) k_ hk⟩))
                 (case aO => exact (by (with_reducible repeat (first | apply Kd.R_alloc | apply Kd.R_drewN | apply Kd.R_drew)); exact Kd.R_mono HO186.out (fun _ hk => ⟨hk.1.2, hk.2⟩)))
                 (case aS => exact (below_size (upW HB)))
                 (case aL => have := LMc39.out; omega)
                 intro v192 w49 ho hb hg hat
                 rw [← Ny191.out] at ho
                 have n0_ := Aside0.mk (Kd.R_after (ok := (fun k_ => k_ ≠ gb158)) (upR HO_3) hg hat)
                 have n1_ := Aside0.mk (blk_grown (upK BK158) hg (Kd.R_away HO186.out (fun _ hk => hk.2)))
                 have n2_ := Aside0.mk (hb)
                 have n3_ := Aside0.mk ((show Kd.C k83 w49 Ao7 y187.length y187 from by rw [Ny187.out]; exact Kd.C_take (m := (x6_2 : Int).toNat) ((Kd.R_reads' (Kd.R_after (ok := (fun k_ => k_ ≠ gb158)) (upR HO_3) hg hat)).2.2) KL46.out))
                 have n4_ := Aside0.mk (ho)
                 clear HO_3
                 clear BK158
                 clear HB
                 clear HR190
                 clear HO186
                 have HO_3 := n0_
                 have BK158 := n1_
                 have HB := n2_
                 have HR190 := n3_
                 have HO193 := n4_
                 clear n0_ n1_ n2_ n3_ n4_
                 clear ho hb hg hat
                 refine hK.out _ _ ⟨(blk_cell BK158.out 0).trans rfl, (blk_cell BK158.out 1).trans rfl, (blk_cell BK158.out 2).trans rfl⟩ (fun hHeld => ?_)
                 clear hK K
                 refine norm_ (a' := ?_) ?_ ?_
                 rotate_left
                 ·show Act.put _ (some 33) _ = _
                  simp only [Act.put, List.setIfInBounds_toArray, List.set_cons_zero, List.set_cons_succ, i64_w, i32_w]
                  rfl
                 refine one_ (i := 6) (N := some 35) #[true, true, true, true, true, true, true, false, false] rfl rfl (one_of HT_.out (by kernel_rfl)) (by decide) (fun K hK => ?_)
                 refine Kd.R_lit_step k83 _ 83 ?hg (N := 35) ?hd (xs := ([(⟨((rd_T83 l0 x10_1).f0), ((rd_T83 l0 x10_1).f1), ((rd_T83 l0 x10_1).f2)⟩ : S83)] : List (S83))) (inner := [.int .i64 ((rd_T83 l0 x10_1).f0), .int .i64 ((rd_T83 l0 x10_1).f1), .int .i64 ((rd_T83 l0 x10_1).f2)]) (ok := fun _ => True) (okp := fun _ => True) ?hr ?hp (fun _ hk => hk) trivial (Below.refl _ _) (Nat.le_refl _) (by simp) ?_; (case hd => rfl); (case hg => rfl); (case hr => first | (go_simp; done) | (go_simp; rfl)); (case hp => exact (Reps.c3 (show Kd.M k83 _ _ _ (⟨((rd_T83 l0 x10_1).f0), ((rd_T83 l0 x10_1).f1), ((rd_T83 l0 x10_1).f2)⟩ : S83) [.int .i64 ((rd_T83 l0 x10_1).f0), .int .i64 ((rd_T83 l0 x10_1).f1), .int .i64 ((rd_T83 l0 x10_1).f2)] from (k83_mkM _ _ _ (⟨((rd_T83 l0 x10_1).f0), ((rd_T83 l0 x10_1).f1), ((rd_T83 l0 x10_1).f2)⟩ : S83) )) (Reps.none _ _)))
                 intro v195 w50 ho51 hb hg_ hnew_
                 clear hg_ hnew_
                 (first | rw [← Ny194.out] at ho51 | (simp only [Int.reduceToNat] at ho51; rw [← Ny194.out] at ho51))
                 have n0_ := Aside0.mk (Kd.R_elder' (upR HO_3) (Kd.R_base ho51) hb)
                 have n1_ := Aside0.mk (Kd.R_elder' (upR HO193) (Kd.R_base ho51) hb)
                 have n2_ := Aside0.mk (Kd.R_lower (Kd.R_newB (Kd.R_new' (Kd.R_new' ho51 (Kd.R_lt (upR HO_3))) (Kd.R_lt (upR HO193))) (g := gb158) (o := .cells #[.int .i64 ((rd_T83 l0 x10_1).f0), .int .i64 ((rd_T83 l0 x10_1).f1), .int .i64 ((rd_T83 l0 x10_1).f2)] 83 (0, 0)) (upK BK158)) (below_size (upW HB)))
                 have n3_ := Aside0.mk (blk_below (upK BK158) hb)
                 have n4_ := Aside0.mk (Kd.C_below (by repeat (first | (with_reducible exact HR190.out) | (with_reducible refine Kd.C_alloc ?_ _) | (with_reducible refine Kd.C_drewN ?_ _) | (with_reducible refine Kd.C_drew ?_) | exact HR190.out)) hb)
                 have n5_ := Aside0.mk (below_step (upW HB) hb)
                 clear HO_3
                 clear HO193
                 clear BK158
                 clear HR190
                 clear HB
                 have HO_3 := n0_
                 have HO193 := n1_
                 have HO196 := n2_
                 have BK158 := n3_
                 have HR190 := n4_
                 have HB := n5_
                 clear n0_ n1_ n2_ n3_ n4_ n5_
                 clear hb ho51
                 refine hK.out _ _ ⟨(blk_cell BK158.out 0).trans rfl, (blk_cell BK158.out 1).trans rfl, (blk_cell BK158.out 2).trans rfl⟩ (fun hHeld => ?_)
                 clear hK K
                 refine norm_ (a' := ?_) ?_ ?_
                 rotate_left
                 ·show Act.put _ (some 35) _ = _
                  simp only [Act.put, List.setIfInBounds_toArray, List.set_cons_zero, List.set_cons_succ, i64_w, i32_w]
                  rfl
                 exact norm_ (by simp only [putAll, Act.put, List.setIfInBounds_toArray, List.set_cons_zero, List.set_cons_succ]) (hCont (v185, v192, v195) _ ⟨hHeld, (by (with_reducible repeat (first | apply Kd.R_alloc | apply Kd.R_drewN | apply Kd.R_drew)); exact Kd.R_mono HO193.out (fun _ hk => ⟨hk.2, ⟨hk.1.1, hk.1.2⟩⟩)), (by (with_reducible repeat (first | apply Kd.R_alloc | apply Kd.R_drewN | apply Kd.R_drew)); exact Kd.R_mono HO196.out (fun _ hk => ⟨hk.1.2, ⟨hk.1.1.2, hk.2⟩⟩)), (by (with_reducible repeat (first | apply Kd.R_alloc | apply Kd.R_drewN | apply Kd.R_drew)); exact Kd.R_mono HO_3.out (fun _ hk => ⟨hk.1.2, ⟨hk.2, hk.1.1⟩⟩)), (upK BK158), (upW HB)⟩)
                ·skip
                 refine Kd.R_lit_step k83 _ 83 ?hg (N := 35) ?hd (xs := ([(⟨((rd_T83 l0 x10_1).f0), ((rd_T83 l0 x10_1).f1), ((rd_T83 l0 x10_1).f2)⟩ : S83)] : List (S83))) (inner := [.int .i64 ((rd_T83 l0 x10_1).f0), .int .i64 ((rd_T83 l0 x10_1).f1), .int .i64 ((rd_T83 l0 x10_1).f2)]) (ok := fun _ => True) (okp := fun _ => True) ?hr ?hp (fun _ hk => hk) trivial (Below.refl _ _) (Nat.le_refl _) (by simp) ?_; (case hd => rfl); (case hg => rfl); (case hr => first | (go_simp; done) | (go_simp; rfl)); (case hp => exact (Reps.c3 (show Kd.M k83 _ _ _ (⟨((rd_T83 l0 x10_1).f0), ((rd_T83 l0 x10_1).f1), ((rd_T83 l0 x10_1).f2)⟩ : S83) [.int .i64 ((rd_T83 l0 x10_1).f0), .int .i64 ((rd_T83 l0 x10_1).f1), .int .i64 ((rd_T83 l0 x10_1).f2)] from (k83_mkM _ _ _ (⟨((rd_T83 l0 x10_1).f0), ((rd_T83 l0 x10_1).f1), ((rd_T83 l0 x10_1).f2)⟩ : S83) )) (Reps.none _ _)))
                 intro v195 w49 ho50 hb hg_ hnew_
                 clear hg_ hnew_
                 (first | rw [← Ny194.out] at ho50 | (simp only [Int.reduceToNat] at ho50; rw [← Ny194.out] at ho50))
                 have n0_ := Aside0.mk (Kd.R_elder' (upR HO_3) (Kd.R_base ho50) hb)
                 have n1_ := Aside0.mk (Kd.R_elder' (upR HO186) (Kd.R_base ho50) hb)
                 have n2_ := Aside0.mk (Kd.R_lower (Kd.R_newB (Kd.R_new' (Kd.R_new' ho50 (Kd.R_lt (upR HO_3))) (Kd.R_lt (upR HO186))) (g := gb158) (o := .cells #[.int .i64 ((rd_T83 l0 x10_1).f0), .int .i64 ((rd_T83 l0 x10_1).f1), .int .i64 ((rd_T83 l0 x10_1).f2)] 83 (0, 0)) (upK BK158)) (below_size (upW HB)))
                 have n3_ := Aside0.mk (blk_below (upK BK158) hb)
                 have n4_ := Aside0.mk (Kd.C_below (by repeat (first | (with_reducible exact HR190.out) | (with_reducible refine Kd.C_alloc ?_ _) | (with_reducible refine Kd.C_drewN ?_ _) | (with_reducible refine Kd.C_drew ?_) | exact HR190.out)) hb)
                 have n5_ := Aside0.mk (below_step (upW HB) hb)
                 clear HO_3
                 clear HO186
                 clear BK158
                 clear HR190
                 clear HB
                 have HO_3 := n0_
                 have HO186 := n1_
                 have HO196 := n2_
                 have BK158 := n3_
                 have HR190 := n4_
                 have HB := n5_
                 clear n0_ n1_ n2_ n3_ n4_ n5_
                 clear hb ho50
                 refine hK.out _ _ ⟨(blk_cell BK158.out 0).trans rfl, (blk_cell BK158.out 1).trans rfl, (blk_cell BK158.out 2).trans rfl⟩ (fun hHeld => ?_)
                 clear hK K
                 refine norm_ (a' := ?_) ?_ ?_
                 rotate_left
                 ·show Act.put _ (some 35) _ = _
                  simp only [Act.put, List.setIfInBounds_toArray, List.set_cons_zero, List.set_cons_succ, i64_w, i32_w]
                  rfl
                 refine one_ (i := 4) (N := some 33) #[true, true, true, true, true, true, true, false, false] rfl rfl (one_of HT_.out (by kernel_rfl)) (by decide) (fun K hK => ?_)
                 refine Kd.R_append_rows_step k83 (w0 := w) w.heap.size (by rfl) (.tmp 29) (.tmp 32) 46 83 (.agg #[(.int .i64 0), (.int .i64 0), (.int .i64 0)]) 24 rfl Try.underlying46 info83 rfl (by decide) (by omega) v185 y184 y187 _ _ _ (fun k_ => some k_ ≠ (.slice Ao7 x3_1.length co7 : Value).ownBlock ∧ some k_ ≠ (v195 : Value).ownBlock ∧ k_ ≠ gb158) (fun _ => False) rfl rfl ?aO ?aR (fun _ _ h => h) (fun _ h => h.elim) ?aF ?aB ?aS ?aL ?_
                 (case aR => repeat (first | exact (by repeat (first | (with_reducible exact HR190.out) | (with_reducible refine Kd.C_alloc ?_ _) | (with_reducible refine Kd.C_drewN ?_ _) | (with_reducible refine Kd.C_drew ?_) | exact HR190.out)) | (with_reducible refine Kd.C_alloc ?_ _) | (with_reducible refine Kd.C_drewN ?_ _) | (with_reducible refine Kd.C_drew ?_)))
                 (case aB => exact (upW HB))
                 (case aF => exact (fun k_ hk => ⟨Kd.fresh' (Kd.R_lt (upR HO_3)) k_ hk, Kd.fresh' (Kd.R_lt (upR HO196)) k_ hk, Kd.freshB (g := gb158) (o := .cells #[.int .i64 ((rd_T83 l0 x10_1).f0), .int .i64 ((rd_T83 l0 x10_1).f1), .int .i64 ((rd_T83 l0 x10_1).f2)] 83 (0, 0)) (upK BK158) k_ hk⟩))
                 (case aO => exact (by (with_reducible repeat (first | apply Kd.R_alloc | apply Kd.R_drewN | apply Kd.R_drew)); exact Kd.R_mono HO186.out (fun _ hk => ⟨hk.1.1.2, ⟨hk.2, hk.1.2⟩⟩)))
                 (case aS => exact (below_size (upW HB)))
                 (case aL => have := LMc39.out; omega)
                 intro v192 w51 ho hb hg hat
                 rw [← Ny191.out] at ho
                 have n0_ := Aside0.mk (Kd.R_after (ok := (fun k_ => some k_ ≠ (v195 : Value).ownBlock ∧ k_ ≠ gb158)) (by (with_reducible repeat (first | apply Kd.R_alloc | apply Kd.R_drewN | apply Kd.R_drew)); exact Kd.R_mono HO_3.out (fun _ hk => ⟨⟨hk.2, hk.1.1⟩, hk.1.2⟩)) hg hat)
                 have n1_ := Aside0.mk (blk_grown (upK BK158) hg (Kd.R_away HO186.out (fun _ hk => hk.1.2)))
                 have n2_ := Aside0.mk (Kd.R_after (ok := (fun k_ => some k_ ≠ (.slice Ao7 x3_1.length co7 : Value).ownBlock ∧ k_ ≠ gb158)) (by (with_reducible repeat (first | apply Kd.R_alloc | apply Kd.R_drewN | apply Kd.R_drew)); exact Kd.R_mono HO196.out (fun _ hk => ⟨⟨hk.1.1.2, hk.2⟩, hk.1.2⟩)) hg hat)
                 have n3_ := Aside0.mk (hb)
                 have n4_ := Aside0.mk ((show Kd.C k83 w51 Ao7 y187.length y187 from by rw [Ny187.out]; exact Kd.C_take (m := (x6_2 : Int).toNat) ((Kd.R_reads' (Kd.R_after (ok := (fun k_ => some k_ ≠ (v195 : Value).ownBlock ∧ k_ ≠ gb158)) (by (with_reducible repeat (first | apply Kd.R_alloc | apply Kd.R_drewN | apply Kd.R_drew)); exact Kd.R_mono HO_3.out (fun _ hk => ⟨⟨hk.2, hk.1.1⟩, hk.1.2⟩)) hg hat)).2.2) KL46.out))
                 have n5_ := Aside0.mk (ho)
                 clear HO_3
                 clear BK158
                 clear HO196
                 clear HB
                 clear HR190
                 clear HO186
                 have HO_3 := n0_
                 have BK158 := n1_
                 have HO196 := n2_
                 have HB := n3_
                 have HR190 := n4_
                 have HO193 := n5_
                 clear n0_ n1_ n2_ n3_ n4_ n5_
                 clear ho hb hg hat
                 refine hK.out _ _ ⟨(blk_cell BK158.out 0).trans rfl, (blk_cell BK158.out 1).trans rfl, (blk_cell BK158.out 2).trans rfl⟩ (fun hHeld => ?_)
                 clear hK K
                 refine norm_ (a' := ?_) ?_ ?_
                 rotate_left
                 ·show Act.put _ (some 33) _ = _
                  simp only [Act.put, List.setIfInBounds_toArray, List.set_cons_zero, List.set_cons_succ, i64_w, i32_w]
                  rfl
                 exact norm_ (by simp only [putAll, Act.put, List.setIfInBounds_toArray, List.set_cons_zero, List.set_cons_succ]) (hCont (v185, v192, v195) _ ⟨hHeld, (by (with_reducible repeat (first | apply Kd.R_alloc | apply Kd.R_drewN | apply Kd.R_drew)); exact Kd.R_mono HO193.out (fun _ hk => ⟨hk.2.1, ⟨hk.1, hk.2.2⟩⟩)), (by (with_reducible repeat (first | apply Kd.R_alloc | apply Kd.R_drewN | apply Kd.R_drew)); exact Kd.R_mono HO196.out (fun _ hk => ⟨hk.2, ⟨hk.1.1, hk.1.2⟩⟩)), (by (with_reducible repeat (first | apply Kd.R_alloc | apply Kd.R_drewN | apply Kd.R_drew)); exact Kd.R_mono HO_3.out (fun _ hk => ⟨hk.2, ⟨hk.1.1, hk.1.2⟩⟩)), (upK BK158), (upW HB)⟩)
               ·skip
                refine Kd.R_lit_step k83 _ 83 ?hg (N := 35) ?hd (xs := ([(⟨((rd_T83 l0 x10_1).f0), ((rd_T83 l0 x10_1).f1), ((rd_T83 l0 x10_1).f2)⟩ : S83)] : List (S83))) (inner := [.int .i64 ((rd_T83 l0 x10_1).f0), .int .i64 ((rd_T83 l0 x10_1).f1), .int .i64 ((rd_T83 l0 x10_1).f2)]) (ok := fun _ => True) (okp := fun _ => True) ?hr ?hp (fun _ hk => hk) trivial (Below.refl _ _) (Nat.le_refl _) (by simp) ?_; (case hd => rfl); (case hg => rfl); (case hr => first | (go_simp; done) | (go_simp; rfl)); (case hp => exact (Reps.c3 (show Kd.M k83 _ _ _ (⟨((rd_T83 l0 x10_1).f0), ((rd_T83 l0 x10_1).f1), ((rd_T83 l0 x10_1).f2)⟩ : S83) [.int .i64 ((rd_T83 l0 x10_1).f0), .int .i64 ((rd_T83 l0 x10_1).f1), .int .i64 ((rd_T83 l0 x10_1).f2)] from (k83_mkM _ _ _ (⟨((rd_T83 l0 x10_1).f0), ((rd_T83 l0 x10_1).f1), ((rd_T83 l0 x10_1).f2)⟩ : S83) )) (Reps.none _ _)))
                intro v195 w47 ho48 hb hg_ hnew_
                clear hg_ hnew_
                (first | rw [← Ny194.out] at ho48 | (simp only [Int.reduceToNat] at ho48; rw [← Ny194.out] at ho48))
                have n0_ := Aside0.mk (Kd.R_elder' (upR HO_3) (Kd.R_base ho48) hb)
                have n1_ := Aside0.mk (Kd.R_lower (Kd.R_newB (Kd.R_new' ho48 (Kd.R_lt (upR HO_3))) (g := gb158) (o := .cells #[.int .i64 ((rd_T83 l0 x10_1).f0), .int .i64 ((rd_T83 l0 x10_1).f1), .int .i64 ((rd_T83 l0 x10_1).f2)] 83 (0, 0)) (upK BK158)) (below_size (upW HB)))
                have n2_ := Aside0.mk (blk_below (upK BK158) hb)
                have n3_ := Aside0.mk (Kd.C_below (by repeat (first | (with_reducible exact HR190.out) | (with_reducible refine Kd.C_alloc ?_ _) | (with_reducible refine Kd.C_drewN ?_ _) | (with_reducible refine Kd.C_drew ?_) | exact HR190.out)) hb)
                have n4_ := Aside0.mk (below_step (upW HB) hb)
                clear HO_3
                clear BK158
                clear HR190
                clear HB
                have HO_3 := n0_
                have HO196 := n1_
                have BK158 := n2_
                have HR190 := n3_
                have HB := n4_
                clear n0_ n1_ n2_ n3_ n4_
                clear hb ho48
                refine hK.out _ _ ⟨(blk_cell BK158.out 0).trans rfl, (blk_cell BK158.out 1).trans rfl, (blk_cell BK158.out 2).trans rfl⟩ (fun hHeld => ?_)
                clear hK K
                refine norm_ (a' := ?_) ?_ ?_
                rotate_left
                ·show Act.put _ (some 35) _ = _
                 simp only [Act.put, List.setIfInBounds_toArray, List.set_cons_zero, List.set_cons_succ, i64_w, i32_w]
                 rfl
                refine one_ (i := 0) (N := some 29) #[true, true, true, true, false, true, true, false, false] rfl rfl (one_of HT_.out (by kernel_rfl)) (by decide) (fun K hK => ?_)
                refine Kd.R_lit_step k83 _ 83 ?hg (N := 29) ?hd (xs := ([] : List (S83))) (inner := []) (ok := fun _ => True) (okp := fun _ => True) ?hr ?hp (fun _ hk => hk) trivial (Below.refl _ _) (Nat.le_refl _) (by simp) ?_; (case hd => rfl); (case hg => rfl); (case hr => first | (go_simp; done) | (go_simp; rfl)); (case hp => exact (Reps.none _ _))
                intro v185 w49 ho50 hb hg_ hnew_
                clear hg_ hnew_
                (first | rw [← Ny184.out] at ho50 | (simp only [Int.reduceToNat] at ho50; rw [← Ny184.out] at ho50))
                have n0_ := Aside0.mk (Kd.R_elder' (upR HO_3) (Kd.R_base ho50) hb)
                have n1_ := Aside0.mk (Kd.R_elder' (upR HO196) (Kd.R_base ho50) hb)
                have n2_ := Aside0.mk (Kd.R_lower (Kd.R_newB (Kd.R_new' (Kd.R_new' ho50 (Kd.R_lt (upR HO_3))) (Kd.R_lt (upR HO196))) (g := gb158) (o := .cells #[.int .i64 ((rd_T83 l0 x10_1).f0), .int .i64 ((rd_T83 l0 x10_1).f1), .int .i64 ((rd_T83 l0 x10_1).f2)] 83 (0, 0)) (upK BK158)) (below_size (upW HB)))
                have n3_ := Aside0.mk (blk_below (upK BK158) hb)
                have n4_ := Aside0.mk (Kd.C_below (by repeat (first | (with_reducible exact HR190.out) | (with_reducible refine Kd.C_alloc ?_ _) | (with_reducible refine Kd.C_drewN ?_ _) | (with_reducible refine Kd.C_drew ?_) | exact HR190.out)) hb)
                have n5_ := Aside0.mk (below_step (upW HB) hb)
                clear HO_3
                clear HO196
                clear BK158
                clear HR190
                clear HB
                have HO_3 := n0_
                have HO196 := n1_
                have HO186 := n2_
                have BK158 := n3_
                have HR190 := n4_
                have HB := n5_
                clear n0_ n1_ n2_ n3_ n4_ n5_
                clear hb ho50
                refine hK.out _ _ ⟨(blk_cell BK158.out 0).trans rfl, (blk_cell BK158.out 1).trans rfl, (blk_cell BK158.out 2).trans rfl⟩ (fun hHeld => ?_)
                clear hK K
                refine norm_ (a' := ?_) ?_ ?_
                rotate_left
                ·show Act.put _ (some 29) _ = _
                 simp only [Act.put, List.setIfInBounds_toArray, List.set_cons_zero, List.set_cons_succ, i64_w, i32_w]
                 rfl
                refine one_ (i := 4) (N := some 33) #[true, true, true, true, true, true, true, false, false] rfl rfl (one_of HT_.out (by kernel_rfl)) (by decide) (fun K hK => ?_)
                refine Kd.R_append_rows_step k83 (w0 := w) w.heap.size (by rfl) (.tmp 29) (.tmp 32) 46 83 (.agg #[(.int .i64 0), (.int .i64 0), (.int .i64 0)]) 24 rfl Try.underlying46 info83 rfl (by decide) (by omega) v185 y184 y187 _ _ _ (fun k_ => some k_ ≠ (.slice Ao7 x3_1.length co7 : Value).ownBlock ∧ some k_ ≠ (v195 : Value).ownBlock ∧ k_ ≠ gb158) (fun _ => False) rfl rfl ?aO ?aR (fun _ _ h => h) (fun _ h => h.elim) ?aF ?aB ?aS ?aL ?_
                (case aR => repeat (first | exact (by repeat (first | (with_reducible exact HR190.out) | (with_reducible refine Kd.C_alloc ?_ _) | (with_reducible refine Kd.C_drewN ?_ _) | (with_reducible refine Kd.C_drew ?_) | exact HR190.out)) | (with_reducible refine Kd.C_alloc ?_ _) | (with_reducible refine Kd.C_drewN ?_ _) | (with_reducible refine Kd.C_drew ?_)))
                (case aB => exact (upW HB))
                (case aF => exact (fun k_ hk => ⟨Kd.fresh' (Kd.R_lt (upR HO_3)) k_ hk, Kd.fresh' (Kd.R_lt (upR HO196)) k_ hk, Kd.freshB (g := gb158) (o := .cells #[.int .i64 ((rd_T83 l0 x10_1).f0), .int .i64 ((rd_T83 l0 x10_1).f1), .int .i64 ((rd_T83 l0 x10_1).f2)] 83 (0, 0)) (upK BK158) k_ hk⟩))
                (case aO => exact (by (with_reducible repeat (first | apply Kd.R_alloc | apply Kd.R_drewN | apply Kd.R_drew)); exact Kd.R_mono HO186.out (fun _ hk => ⟨hk.1.1.2, ⟨hk.1.2, hk.2⟩⟩)))
                (case aS => exact (below_size (upW HB)))
                (case aL => have := LMc39.out; omega)
                intro v192 w51 ho hb hg hat
                rw [← Ny191.out] at ho
                have n0_ := Aside0.mk (Kd.R_after (ok := (fun k_ => some k_ ≠ (v195 : Value).ownBlock ∧ k_ ≠ gb158)) (by (with_reducible repeat (first | apply Kd.R_alloc | apply Kd.R_drewN | apply Kd.R_drew)); exact Kd.R_mono HO_3.out (fun _ hk => ⟨⟨hk.1.2, hk.1.1⟩, hk.2⟩)) hg hat)
                have n1_ := Aside0.mk (blk_grown (upK BK158) hg (Kd.R_away HO186.out (fun _ hk => hk.2)))
                have n2_ := Aside0.mk (Kd.R_after (ok := (fun k_ => some k_ ≠ (.slice Ao7 x3_1.length co7 : Value).ownBlock ∧ k_ ≠ gb158)) (by (with_reducible repeat (first | apply Kd.R_alloc | apply Kd.R_drewN | apply Kd.R_drew)); exact Kd.R_mono HO196.out (fun _ hk => ⟨⟨hk.1.1.2, hk.1.2⟩, hk.2⟩)) hg hat)
                have n3_ := Aside0.mk (hb)
                have n4_ := Aside0.mk ((show Kd.C k83 w51 Ao7 y187.length y187 from by rw [Ny187.out]; exact Kd.C_take (m := (x6_2 : Int).toNat) ((Kd.R_reads' (Kd.R_after (ok := (fun k_ => some k_ ≠ (v195 : Value).ownBlock ∧ k_ ≠ gb158)) (by (with_reducible repeat (first | apply Kd.R_alloc | apply Kd.R_drewN | apply Kd.R_drew)); exact Kd.R_mono HO_3.out (fun _ hk => ⟨⟨hk.1.2, hk.1.1⟩, hk.2⟩)) hg hat)).2.2) KL46.out))
                have n5_ := Aside0.mk (ho)
                clear HO_3
                clear BK158
                clear HO196
                clear HB
                clear HR190
                clear HO186
                have HO_3 := n0_
                have BK158 := n1_
                have HO196 := n2_
                have HB := n3_
                have HR190 := n4_
                have HO193 := n5_
                clear n0_ n1_ n2_ n3_ n4_ n5_
                clear ho hb hg hat
                refine hK.out _ _ ⟨(blk_cell BK158.out 0).trans rfl, (blk_cell BK158.out 1).trans rfl, (blk_cell BK158.out 2).trans rfl⟩ (fun hHeld => ?_)
                clear hK K
                refine norm_ (a' := ?_) ?_ ?_
                rotate_left
                ·show Act.put _ (some 33) _ = _
                 simp only [Act.put, List.setIfInBounds_toArray, List.set_cons_zero, List.set_cons_succ, i64_w, i32_w]
                 rfl
                exact norm_ (by simp only [putAll, Act.put, List.setIfInBounds_toArray, List.set_cons_zero, List.set_cons_succ]) (hCont (v185, v192, v195) _ ⟨hHeld, (by (with_reducible repeat (first | apply Kd.R_alloc | apply Kd.R_drewN | apply Kd.R_drew)); exact Kd.R_mono HO193.out (fun _ hk => ⟨hk.2.1, ⟨hk.1, hk.2.2⟩⟩)), (by (with_reducible repeat (first | apply Kd.R_alloc | apply Kd.R_drewN | apply Kd.R_drew)); exact Kd.R_mono HO196.out (fun _ hk => ⟨hk.2, ⟨hk.1.1, hk.1.2⟩⟩)), (by (with_reducible repeat (first | apply Kd.R_alloc | apply Kd.R_drewN | apply Kd.R_drew)); exact Kd.R_mono HO_3.out (fun _ hk => ⟨hk.2, ⟨hk.1.1, hk.1.2⟩⟩)), (upK BK158), (upW HB)⟩)
              rintro ⟨v185, v192, v195⟩ w52 ⟨hS_, h0_, h1_, h2_, h3_, h4_⟩
              have n0_ : Aside0 (Kd.R k83 83 w52 w.heap.size (fun k_ => some k_ ≠ (v195 : Value).ownBlock ∧ some k_ ≠ (.slice Ao7 x3_1.length co7 : Value).ownBlock ∧ k_ ≠ gb158) v192 y191) := ⟨h0_⟩
              have n1_ : Aside0 (Kd.R k83 83 w52 w.heap.size (fun k_ => some k_ ≠ (v192 : Value).ownBlock ∧ some k_ ≠ (.slice Ao7 x3_1.length co7 : Value).ownBlock ∧ k_ ≠ gb158) v195 y194) := ⟨h1_⟩
              have n2_ : Aside0 (Kd.R k83 83 w52 w.heap.size (fun k_ => some k_ ≠ (v192 : Value).ownBlock ∧ some k_ ≠ (v195 : Value).ownBlock ∧ k_ ≠ gb158) (.slice Ao7 x3_1.length co7) x3_1) := ⟨h2_⟩
              have n3_ : Aside0 (w52.heap[gb158]? = some (.cells #[.int .i64 ((rd_T83 l0 x10_1).f0), .int .i64 ((rd_T83 l0 x10_1).f1), .int .i64 ((rd_T83 l0 x10_1).f2)] 83 (0, 0))) := ⟨h3_⟩
              have n4_ : Aside0 (Below w.heap.size w w52) := ⟨h4_⟩
              clear HO_3
              clear BK158
              clear HB
              clear h0_ h1_ h2_ h3_ h4_
              have HO193 := n0_
              have HO196 := n1_
              have HO_3 := n2_
              have BK158 := n3_
              have HB := n4_
              clear n0_ n1_ n2_ n3_ n4_
              have hHeld : w52.cell? ⟨gb158, 0, none⟩ = some (.int .i64 ((rd_T83 l0 x10_1).f0)) ∧ w52.cell? ⟨gb158, 1, none⟩ = some (.int .i64 ((rd_T83 l0 x10_1).f1)) ∧ w52.cell? ⟨gb158, 2, none⟩ = some (.int .i64 ((rd_T83 l0 x10_1).f2)) := hS_
              obtain ⟨Ao54, co54, eo54⟩ := Kd.R_slice HO196.out
              (first | subst eo54 | (injection eo54 with f1_ f2_ f3_; have f4_ := f1_.symm; have f5_ := f3_.symm; clear f1_ f2_ f3_; subst f4_; subst f5_))
              refine norm_ (a' := ?_) ?_ ?_
              rotate_left
              ·simp only [putAll, Act.put, List.setIfInBounds_toArray, List.set_cons_zero, List.set_cons_succ]
               rfl
              refine one_ (i := 7) (N := some 36) #[true, true, true, true, true, true, true, true, false] rfl rfl (one_of HT_.out (by kernel_rfl)) (by decide) (fun K hK => ?_)
              refine Kd.R_append_rows_step k83 (w0 := w) w.heap.size (by rfl) (.tmp 33) (.tmp 35) 46 83 (.agg #[(.int .i64 0), (.int .i64 0), (.int .i64 0)]) 24 rfl Try.underlying46 info83 rfl (by decide) (by omega) v192 y191 y194 _ _ _ (fun k_ => some k_ ≠ (.slice Ao7 x3_1.length co7 : Value).ownBlock ∧ some k_ ≠ (.slice Ao54 y194.length co54 : Value).ownBlock ∧ k_ ≠ gb158) (fun _ => False) rfl rfl ?aO ?aR (fun _ _ h => h) (fun _ h => h.elim) ?aF ?aB ?aS ?aL ?_
              (case aR => repeat (first | exact (Kd.R_reads' HO196.out).2.2 | (with_reducible refine Kd.C_alloc ?_ _) | (with_reducible refine Kd.C_drewN ?_ _) | (with_reducible refine Kd.C_drew ?_)))
              (case aB => exact (upW HB))
              (case aF => exact (fun k_ hk => ⟨Kd.fresh' (Kd.R_lt (upR HO_3)) k_ hk, Kd.fresh' (Kd.R_lt (upR HO196)) k_ hk, Kd.freshB (g := gb158) (o := .cells #[.int .i64 ((rd_T83 l0 x10_1).f0), .int .i64 ((rd_T83 l0 x10_1).f1), .int .i64 ((rd_T83 l0 x10_1).f2)] 83 (0, 0)) (upK BK158) k_ hk⟩))
              (case aO => exact (by (with_reducible repeat (first | apply Kd.R_alloc | apply Kd.R_drewN | apply Kd.R_drew)); exact Kd.R_mono HO193.out (fun _ hk => ⟨hk.2.1, ⟨hk.1, hk.2.2⟩⟩)))
              (case aS => exact (below_size (upW HB)))
              (case aL => have := LMc40.out; omega)
              intro v198 w53 ho hb hg hat
              rw [← Ny197.out] at ho
              have n0_ := Aside0.mk (Kd.R_after (ok := (fun k_ => some k_ ≠ (.slice Ao54 y194.length co54 : Value).ownBlock ∧ k_ ≠ gb158)) (by (with_reducible repeat (first | apply Kd.R_alloc | apply Kd.R_drewN | apply Kd.R_drew)); exact Kd.R_mono HO_3.out (fun _ hk => ⟨⟨hk.2.1, hk.2.2⟩, hk.1⟩)) hg hat)
              have n1_ := Aside0.mk (blk_grown (upK BK158) hg (Kd.R_away HO193.out (fun _ hk => hk.2.2)))
              have n2_ := Aside0.mk (Kd.R_after (ok := (fun k_ => some k_ ≠ (.slice Ao7 x3_1.length co7 : Value).ownBlock ∧ k_ ≠ gb158)) (by (with_reducible repeat (first | apply Kd.R_alloc | apply Kd.R_drewN | apply Kd.R_drew)); exact Kd.R_mono HO196.out (fun _ hk => ⟨⟨hk.2.1, hk.2.2⟩, hk.1⟩)) hg hat)
              have n3_ := Aside0.mk (hb)
              have n4_ := Aside0.mk (ho)
              clear HO_3
              clear BK158
              clear HO196
              clear HB
              clear HO193
              have HO_3 := n0_
              have BK158 := n1_
              have HO196 := n2_
              have HB := n3_
              have HO199 := n4_
              clear n0_ n1_ n2_ n3_ n4_
              clear ho hb hg hat
              refine hK.out _ _ ⟨(blk_cell BK158.out 0).trans rfl, (blk_cell BK158.out 1).trans rfl, (blk_cell BK158.out 2).trans rfl⟩ (fun hHeld => ?_)
              clear hK K
              refine norm_ (a' := ?_) ?_ ?_
              rotate_left
              ·show Act.put _ (some 36) _ = _
               simp only [Act.put, List.setIfInBounds_toArray, List.set_cons_zero, List.set_cons_succ, i64_w, i32_w]
               rfl
              refine pure_ (i := 8) (N := some 7) (v := ?_) (a' := ?_) #[true, true, true, true, true, true, true, true, true] rfl rfl (any_of HT_.out (by kernel_rfl)) (fun _ _ _ h => h) (Or.inl ⟨by rfl, ?_⟩) ?_ ?_
              rotate_left
              ·intro w'
               go_simp
               with_reducible rfl
              rotate_left
              ·simp only [Act.put, List.setIfInBounds_toArray, List.set_cons_zero, List.set_cons_succ, i64_w, i32_w]
               rfl
              refine done_ (done_of HT_.out (by kernel_rfl)) ?_
              have q55 : (x6_2 : Int) ≤ ((x3_1.length : Int) : Int) := of_decide_eq_true (by first | (with_reducible assumption) | assumption)
              obtain ⟨i055, hi055, _, hsz55, _⟩ := info_parts info83
              have hroom55 : x3_1.length ≤ co7 := (Kd.R_reads' HO_3.out).2.1
              have hC55 : Kd.C k83 _ Ao7 x3_1.length x3_1 := (Kd.R_reads' HO_3.out).2.2
              have q055 : (0 : Int) ≤ (x6_2 : Int) := of_decide_eq_true (by first | (with_reducible assumption) | assumption)
              have hcut55 := cut_from (P := Try.prog) 46 83 .i64 Try.underlying46 hi055 3 hsz55 Ao7 x3_1.length co7 x6_2 q055 q55
              have hr55 := Kd.C_drop (m := (x6_2 : Int).toNat) (c := co7) hC55 (by omega) hroom55
              obtain ⟨A55, hA55⟩ : ∃ A1, A1 = (if co7 = (x6_2 : Int).toNat then Ao7 else (Ao7 : Option Addr).map (·.add ((x6_2 : Int).toNat * 3))) := ⟨_, rfl⟩
              obtain ⟨c55, hc55⟩ : ∃ c1, c1 = co7 - (x6_2 : Int).toNat := ⟨_, rfl⟩
              have hy55 : y200.length = x3_1.length - (x6_2 : Int).toNat := (by rw [Ny200.out, List.length_drop] <;> omega)
              rw [show (x3_1).drop (x6_2 : Int).toNat = y200 from Ny200.out.symm] at hr55
              replace hr55 : Kd.C k83 _ A55 y200.length y200 := (by rw [hA55]; exact hr55)
              rw [← hy55, ← hA55, ← hc55] at hcut55
              have HR203 := Aside0.mk hr55
              have HC203 := Aside0.mk (show y200.length ≤ c55 from by rw [hy55, hc55]; exact Nat.sub_le_sub_right hroom55 _)
              clear hr55 hC55 hroom55 hi055 hsz55 hc55
              have KY55 := Aside0.mk hy55
              have KA55 := Aside0.mk hA55
              clear hy55 hA55
              have KL55 := Aside0.mk (show (x6_2 : Int).toNat ≤ x3_1.length from by omega)
              replace q55 := eq_true q55
              try go_wp2_with (first | ((with_reducible refine gate_builtin (b := .append) (xs := #[.tmp 37, .tmp 40]) rfl ?_); at_builtin; refine Kd.R_append_rows k83 (w0 := w) w.heap.size rfl (.tmp 37) (.tmp 40) 46 83 (.agg #[(.int .i64 0), (.int .i64 0), (.int .i64 0)]) 24 rfl Try.underlying46 info83 rfl (by decide) (by omega) v198 y197 y200 _ _ _ (fun k_ => some k_ ≠ (.slice Ao7 x3_1.length co7 : Value).ownBlock ∧ some k_ ≠ (.slice Ao54 y194.length co54 : Value).ownBlock ∧ k_ ≠ gb158) (fun _ => False) rfl rfl ?aO ?aR (fun _ _ h => h) (fun _ h => h.elim) ?aF ?aB ?aS ?aL ?_; (case aR => repeat (first | exact (by repeat (first | (with_reducible exact HR203.out) | (with_reducible refine Kd.C_alloc ?_ _) | (with_reducible refine Kd.C_drewN ?_ _) | (with_reducible refine Kd.C_drew ?_) | exact HR203.out)) | (with_reducible refine Kd.C_alloc ?_ _) | (with_reducible refine Kd.C_drewN ?_ _) | (with_reducible refine Kd.C_drew ?_))); (case aB => exact (upW HB)); (case aF => exact (fun k_ hk => ⟨Kd.fresh' (Kd.R_lt (upR HO_3)) k_ hk, Kd.fresh' (Kd.R_lt (upR HO196)) k_ hk, Kd.freshB (g := gb158) (o := .cells #[.int .i64 ((rd_T83 l0 x10_1).f0), .int .i64 ((rd_T83 l0 x10_1).f1), .int .i64 ((rd_T83 l0 x10_1).f2)] 83 (0, 0)) (upK BK158) k_ hk⟩)); (case aO => exact (upR HO199)); (case aS => exact (below_size (upW HB))); (case aL => have := LMc43.out; omega); intro v205 w56 ho hb hg hat; rw [← Ny204.out] at ho; have n0_ := Aside0.mk (Kd.R_after (ok := (fun k_ => some k_ ≠ (.slice Ao54 y194.length co54 : Value).ownBlock ∧ k_ ≠ gb158)) (upR HO_3) hg hat); have n1_ := Aside0.mk (blk_grown (upK BK158) hg (Kd.R_away HO199.out (fun _ hk => hk.2.2))); have n2_ := Aside0.mk (Kd.R_after (ok := (fun k_ => some k_ ≠ (.slice Ao7 x3_1.length co7 : Value).ownBlock ∧ k_ ≠ gb158)) (upR HO196) hg hat); have n3_ := Aside0.mk (hb); have n4_ := Aside0.mk ((show Kd.C k83 w56 A55 y200.length y200 from by rw [Ny200.out, KA55.out]; exact Kd.C_drop (m := (x6_2 : Int).toNat) (c := co7) ((Kd.R_reads' (Kd.R_after (ok := (fun k_ => some k_ ≠ (.slice Ao54 y194.length co54 : Value).ownBlock ∧ k_ ≠ gb158)) (upR HO_3) hg hat)).2.2) KL55.out ((Kd.R_reads' (Kd.R_after (ok := (fun k_ => some k_ ≠ (.slice Ao54 y194.length co54 : Value).ownBlock ∧ k_ ≠ gb158)) (upR HO_3) hg hat)).2.1))); have n5_ := Aside0.mk (ho); clear HO_3; clear BK158; clear HO196; clear HB; clear HR203; clear HO199; have HO_3 := n0_; have BK158 := n1_; have HO196 := n2_; have HB := n3_; have HR203 := n4_; have HO206 := n5_; clear n0_ n1_ n2_ n3_ n4_ n5_; clear ho hb hg hat))
              go_roundg k2
              case measure => have := HK1.out; have := HK2.out; omega
              case rel => exact ⟨(y204), (wrap64 (x10_1 + 1)), (by first | rfl | (simp; done) | (simp [*]; done)), H', ⟨by have := HK1.out; have := HK2.out; omega⟩, ⟨by (with_reducible repeat (first | apply Kd.R_alloc | apply Kd.R_drewN | apply Kd.R_drew)); exact Kd.R_mono HO206.out (fun _ hk => trivial)⟩, ⟨upW HB⟩⟩
             ·rw [if_neg c43] at H
              exact absurd H (by simp)
            ·rw [if_neg c40] at H
             exact absurd H (by simp)
           ·rw [if_neg c39] at H
            exact absurd H (by simp)
          ·rw [if_neg c38] at H
           exact absurd H (by simp)
         ·rw [if_neg c37] at H
          exact absurd H (by simp)
     ·rw [if_neg c4] at H
      exact absurd H (by simp)
    ·rw [if_neg c3] at H
     exact absurd H (by simp)
   ·rw [if_neg c2] at H
    have c2b0 : decide (x10_1 < (l0.length : Int)) = false := decide_eq_false c2
    clear c2
    obtain rfl := Option.some.inj H
    go_wp2
    go_ret
    exact ⟨_, by first | rfl | (simp [errW_none, errW_some] <;> rfl) | (simp [*, errW_none, errW_some] <;> rfl), by (with_reducible repeat (first | apply Kd.R_alloc | apply Kd.R_drewN | apply Kd.R_drew)); exact HO_3.out, by repeat (first | (with_reducible first | exact HB.out | apply below_alloc | apply pw_below_drewN | apply below_drew1) | exact HB.out)⟩

end Go.Proofs.Ytngbmjldnfljiaa.PFnExactGrowCut
