-- made for this claim by a program of this session
import Derived.Test.YtngbmjldnfljiaaPFnExactDropWirex0
import Derived.Test.YtngbmjldnfljiaaPFnExactDropWirex1
namespace Go.Proofs.Ytngbmjldnfljiaa.PFnExactDropWire
open Go.RowKit Go.Proofs.YtngbmjldnfljiaaW.PrintWords Go.Proofs.YtngbmjldnfljiaaW.PrintLast Go.Proofs.YtngbmjldnfljiaaW.PrintMore
attribute [local go_sem] max2_int min2_int max_two min_two max_three min_three max_four min_four   -- for this text's walks alone
set_option linter.unusedVariables false
set_option linter.unusedSimpArgs false

/-! ### spec_neJoined: function 88 -/
mutual
def spec_neJoined.l0 : Nat → List Bool → Bool → Int → List (S73) → Option (Bool)
 | 0, _, _, _, _ => none
 | k + 1, x3, x4, x137000, x137001 => if x4 = true then (spec_neJoined.l1 k x3 false x137001 (x137001.length : Int) 0 x137000 x137001) else (spec_neJoined.l2 k x3 (x3.length : Int) 0)
def spec_neJoined.l1 : Nat → List Bool → Bool → List (S73) → Int → Int → Int → List (S73) → Option (Bool)
 | 0, _, _, _, _, _, _, _ => none
 | k + 1, x3, x4, x16, x17, x18, x137000, x137001 => if x18 < x17 then (if 0 ≤ x18 then (if x18 < (x16.length : Int) then (if 0 ≤ ((rd_T73 x16 x18).f0) then (if ((rd_T73 x16 x18).f0) < (x3.length : Int) then (if 0 ≤ ((rd_T73 x16 x18).f1) then (if ((rd_T73 x16 x18).f1) < (x3.length : Int) then (if ((rdOf false x3 ((rd_T73 x16 x18).f0)) != (rdOf false x3 ((rd_T73 x16 x18).f1))) = true then (spec_neJoined.l1 k ((x3.set (((rd_T73 x16 x18).f0) : Int).toNat true).set (((rd_T73 x16 x18).f1) : Int).toNat true) true x16 x17 (wrap64 (x18 + 1)) x137000 x137001) else (spec_neJoined.l1 k x3 x4 x16 x17 (wrap64 (x18 + 1)) x137000 x137001)) else (none)) else (none)) else (none)) else (none)) else (none)) else (none)) else (spec_neJoined.l0 k x3 x4 x137000 x137001)
def spec_neJoined.l2 : Nat → List Bool → Int → Int → Option (Bool)
 | 0, _, _, _ => none
 | k + 1, x42, x43, x44 => if x44 < x43 then (if 0 ≤ x44 then (if x44 < (x42.length : Int) then (if rdOf false x42 x44 = true then (spec_neJoined.l2 k x42 x43 (wrap64 (x44 + 1))) else (some false)) else (none)) else (none)) else (some true)
end
def spec_neJoined.f (k : Nat) (a0_0 : Int) (l0_1 : List (S73)) : Option (Bool) := if 0 ≤ a0_0 then (if (a0_0 : Int).toNat ≤ 281474976710656 then ((some (List.replicate (a0_0 : Int).toNat false : List Bool)).bind fun y137 => (if 0 < (y137.length : Int) then (spec_neJoined.l0 k (y137.set (0 : Int).toNat true) true a0_0 l0_1) else (none))) else (none)) else (none)
set_option maxHeartbeats 8000000 in
set_option maxRecDepth 100000 in
theorem spec_neJoined.calls (k : Nat) (a0_0 : Int) (A0_1 : Option Addr) (c0_1 : Nat) (l0_1 : List (S73)) (r : Bool) (w : World) (hr0_1 : Kd.C k73 w A0_1 l0_1.length l0_1) (hc0_1 : l0_1.length ≤ c0_1) (h : spec_neJoined.f k a0_0 l0_1 = some r) :
  Calls Try.prog 88 #[.agg #[.int .i64 a0_0, .slice A0_1 l0_1.length c0_1]] w fun e w' => e = .returned (.bool r) ∧ Below w.heap.size w w' := by
 have hu30 := Try.underlying30
 have hu73 := Try.underlying73
 have HR0_1 := Aside0.mk hr0_1
 have HC0_1 := Aside0.mk hc0_1
 clear hr0_1 hc0_1
 have HB := Aside0.mk (Below.refl w.heap.size w)
 have H : (if 0 ≤ a0_0 then (if (a0_0 : Int).toNat ≤ 281474976710656 then ((some (List.replicate (a0_0 : Int).toNat false : List Bool)).bind fun y137 => (if 0 < (y137.length : Int) then (spec_neJoined.l0 k (y137.set (0 : Int).toNat true) true a0_0 l0_1) else (none))) else (none)) else (none)) = some r := h
 clear h
 by_cases c2 : 0 ≤ a0_0
 ·rw [if_pos c2] at H
  have c2b0 := eq_true c2
  have c2b1 : decide (0 ≤ a0_0) = true := decide_eq_true c2
  clear c2
  by_cases c3 : (a0_0 : Int).toNat ≤ 281474976710656
  ·rw [if_pos c3] at H
   have c3b0 := eq_true c3
   have c3b1 : decide ((a0_0 : Int).toNat ≤ 281474976710656) = true := decide_eq_true c3
   clear c3
   obtain ⟨y137, hy137⟩ : ∃ y_ : List Bool, y_ = (List.replicate (a0_0 : Int).toNat false) := ⟨_, rfl⟩
   replace H : (if 0 < (y137.length : Int) then (spec_neJoined.l0 k (y137.set (0 : Int).toNat true) true a0_0 l0_1) else (none)) = some r := by first | (rw [hy137]; with_reducible exact H) | (have H2_ := (Option.bind_some _ _).symm.trans H; rw [hy137]; with_reducible exact H2_) | (have H2_ := (Option.bind_some _ _).symm.trans H; with_reducible exact H2_) | with_reducible exact H | (rw [hy137]; exact H) | exact H
   have Ny137 := Aside0.mk hy137
   clear hy137
   by_cases c4 : 0 < (y137.length : Int)
   ·rw [if_pos c4] at H
    have c4b0 : decide (0 < (y137.length : Int)) = true := decide_eq_true c4
    have c4b1 : decide (0 < y137.length) = true := decide_eq_true (by omega)
    clear c4
    obtain ⟨y140, hy140⟩ : ∃ y_ : List Bool, y_ = (y137.set (0 : Int).toNat true) := ⟨_, rfl⟩
    replace H : (spec_neJoined.l0 k y140 true a0_0 l0_1) = some r := by first | (rw [hy140]; with_reducible exact H) | (have H2_ := (Option.bind_some _ _).symm.trans H; rw [hy140]; with_reducible exact H2_) | (have H2_ := (Option.bind_some _ _).symm.trans H; with_reducible exact H2_) | with_reducible exact H | (rw [hy140]; exact H) | exact H
    have Ny140 := Aside0.mk hy140
    clear hy140
    have H' := Aside0.mk H
    clear H
    go_enter Try.func88, Try.ntmps88
    go_wp2_with (first | ((with_reducible refine gate_dst (N := 1) rfl ?_); refine box_event ?hg (N := 1) ?hd (cs := #[.int .i64 a0_0, .slice A0_1 l0_1.length c0_1]) (t := 30) ?hr ?_; (case hd => rfl); (case hg => rfl); (case hr => first | (go_simp; done) | (go_simp; rfl)); intro gb136 hg w6 hbox hb; have n0_ := Aside0.mk (below_step (upW HB) hb); have n1_ := Aside0.mk (hbox); have n2_ := Aside0.mk ((by rw [hg]; exact (below_size (upW HB)) : w.heap.size ≤ gb136)); have n3_ := Aside0.mk ((by rw [hg]; exact (below_size (upW HB)) : w.heap.size ≤ gb136)); clear HB; have HB := n0_; have BK136 := n1_; have GW136 := n2_; have GE136 := n3_; clear n0_ n1_ n2_ n3_; clear hb hbox hg; have hcz7_0 : w6.cell? ⟨gb136, 0, none⟩ = some (.int .i64 a0_0) := (blk_cell BK136.out 0).trans rfl; have hcz7_1 : w6.cell? ⟨gb136, 1, none⟩ = some (.slice A0_1 l0_1.length c0_1) := (blk_cell BK136.out 1).trans rfl; have hfz7_0 := blk_frozen BK136.out 0; have hfz7_1 := blk_frozen BK136.out 1) | ((with_reducible refine gate_dst (N := 11) rfl ?_); refine Kd.R_make Kd.bool _ 4 rfl (N := 11) rfl 109 _ _ rfl a0_0 rfl rfl Try.underlying109 (.bool false) 1 info4 rfl (by decide) (by omega) false (ok := fun _ => True) (okp := fun _ => True) rfl (fun _ hk => hk) trivial (of_decide_eq_true (by first | (with_reducible assumption) | assumption)) (Nat.le_trans (Nat.mul_le_mul_right _ (of_decide_eq_true (by first | (with_reducible assumption) | assumption) : a0_0.toNat ≤ 281474976710656)) (by omega)) (Below.refl _ _) (Nat.le_refl _) ?_; intro v138 w8 ho9 hb hg_ hnew_; clear hg_ hnew_; (first | rw [← Ny137.out] at ho9 | (simp only [Int.reduceToNat] at ho9; rw [← Ny137.out] at ho9)); have n0_ := Aside0.mk (Kd.R_lower ho9 (below_size (upW HB))); have n1_ := Aside0.mk (blk_below (upK BK136) hb); have n2_ := Aside0.mk (below_step (upW HB) hb); clear BK136; clear HB; have HO139 := n0_; have BK136 := n1_; have HB := n2_; clear n0_ n1_ n2_; clear hb ho9; have p5 : 0 ≤ (0 : Int) := (by omega); have q5 : (0 : Int) < ((y137.length : Int) : Int) := of_decide_eq_true (by first | (with_reducible assumption) | assumption); have qi5 : (0 < y137.length) = True := eq_true (by omega); obtain ⟨go5, co5, eo5, gb5, gl5, cl5, HG5⟩ := Kd.R_form HO139.out (by omega); (first | cases eo5 | (injection eo5 with ea_ en_ ec_; (first | subst ea_ | (injection ea_ with ea_; subst ea_)); subst ec_; clear en_)); have GB5 := Aside0.mk gb5; have GG5 := Aside0.mk HG5; clear gb5 gl5 HG5; obtain ⟨hx5_0, hf5_0⟩ := Kd.R_celln false HO139.out (0 : Int) p5 q5; (try rw [show ((0 : Int)).toNat = 0 from rfl] at hx5_0); (try simp only [Nat.reduceMul, Nat.zero_mul, Nat.zero_add, Nat.reduceAdd] at hx5_0); (try rw [show ((0 : Int)).toNat = 0 from rfl] at hf5_0); (try simp only [Nat.reduceMul, Nat.zero_mul, Nat.zero_add, Nat.reduceAdd] at hf5_0); replace p5 := eq_true p5; replace q5 := eq_true q5; obtain ⟨hy10_, hz10_⟩ := Kd.R_celln false HO139.out (0 : Int) (by omega) (of_decide_eq_true (by first | (with_reducible assumption) | assumption)); (try simp only [Int.reduceToNat, Int.toNat_zero, Int.toNat_ofNat, Nat.reduceMul, Nat.zero_mul, Nat.zero_add] at hy10_ hz10_); (try rw [show ((0 : Int)).toNat = 0 from rfl] at hy10_); (try rw [show ((0 : Int)).toNat = 0 from rfl] at hz10_); have HP10 := Kd.R_putg HO139.out (0 : Int) true) | ((with_reducible refine gate_store (t := 4) (p := 13) rfl ?_); (try (rw [drewN_self w8]; generalize hq_ : World.drewN w8 _ = w8; have n0_ := Aside0.mk (Kd.R_at hq_ HO139.out); have n1_ := Aside0.mk (blk_at hq_ BK136.out); have n2_ := Aside0.mk (below_at hq_ HB.out); clear hq_ HO139 BK136 HB; have HO139 := n0_; have BK136 := n1_; have HB := n2_; clear n0_ n1_ n2_; (try (obtain ⟨hy10_, hz10_⟩ := Kd.R_celln false HO139.out (0 : Int) (by omega) (of_decide_eq_true (by first | (with_reducible assumption) | assumption)))); (try (try simp only [Int.reduceToNat, Int.toNat_zero, Int.toNat_ofNat, Nat.reduceMul, Nat.zero_mul, Nat.zero_add] at hy10_ hz10_)); (try (try rw [show ((0 : Int)).toNat = 0 from rfl] at hy10_)); (try (try rw [show ((0 : Int)).toNat = 0 from rfl] at hz10_)); (try (have HP10 := Kd.R_putg HO139.out (0 : Int) true)))); refine store_event (t := 4) (p := 13) (v := ?vo_w11) (w1 := (w8.setCell ⟨go5, (0 : Int).toNat, none⟩ (.bool true))) ?hg ?ho ?hn ?hr ?_; (case ho => rfl); (case hg => rfl); (case hn => rfl); (case hr => first | (go_simp; done) | (go_simp; rfl)); intro w11 hw; have hg : w8.grownBy w11 (some go5) := (by rw [hw]; exact HP10.2); have hp_ : Kd.R Kd.bool 4 w11 w.heap.size (fun _ => True) (.slice (some ⟨go5, 0, none⟩) y137.length co5) y140 := (by rw [hw, Ny140.out]; exact HP10.1); clear HP10; have n0_ := Aside0.mk (blk_grown (upK BK136) hg (Kd.R_ne HO139.out BK136.out (by decide))); have n1_ := Aside0.mk (hp_); have n2_ := Aside0.mk ((by rw [hw]; exact below_set (HB.out) GB5.out : Below w.heap.size w w11)); clear BK136; clear HO139; clear HB; have BK136 := n0_; have HO139 := n1_; have HB := n2_; clear n0_ n1_ n2_; clear hg hw hp_))
    repeat (go_quiet (first | ((with_reducible refine gate_dst (N := 1) rfl ?_); refine box_event ?hg (N := 1) ?hd (cs := #[.int .i64 a0_0, .slice A0_1 l0_1.length c0_1]) (t := 30) ?hr ?_; (case hd => rfl); (case hg => rfl); (case hr => first | (go_simp; done) | (go_simp; rfl)); intro gb136 hg w6 hbox hb; have n0_ := Aside0.mk (below_step (upW HB) hb); have n1_ := Aside0.mk (hbox); have n2_ := Aside0.mk ((by rw [hg]; exact (below_size (upW HB)) : w.heap.size ≤ gb136)); have n3_ := Aside0.mk ((by rw [hg]; exact (below_size (upW HB)) : w.heap.size ≤ gb136)); clear HB; have HB := n0_; have BK136 := n1_; have GW136 := n2_; have GE136 := n3_; clear n0_ n1_ n2_ n3_; clear hb hbox hg; have hcz7_0 : w6.cell? ⟨gb136, 0, none⟩ = some (.int .i64 a0_0) := (blk_cell BK136.out 0).trans rfl; have hcz7_1 : w6.cell? ⟨gb136, 1, none⟩ = some (.slice A0_1 l0_1.length c0_1) := (blk_cell BK136.out 1).trans rfl; have hfz7_0 := blk_frozen BK136.out 0; have hfz7_1 := blk_frozen BK136.out 1) | ((with_reducible refine gate_dst (N := 11) rfl ?_); refine Kd.R_make Kd.bool _ 4 rfl (N := 11) rfl 109 _ _ rfl a0_0 rfl rfl Try.underlying109 (.bool false) 1 info4 rfl (by decide) (by omega) false (ok := fun _ => True) (okp := fun _ => True) rfl (fun _ hk => hk) trivial (of_decide_eq_true (by first | (with_reducible assumption) | assumption)) (Nat.le_trans (Nat.mul_le_mul_right _ (of_decide_eq_true (by first | (with_reducible assumption) | assumption) : a0_0.toNat ≤ 281474976710656)) (by omega)) (Below.refl _ _) (Nat.le_refl _) ?_; intro v138 w8 ho9 hb hg_ hnew_; clear hg_ hnew_; (first | rw [← Ny137.out] at ho9 | (simp only [Int.reduceToNat] at ho9; rw [← Ny137.out] at ho9)); have n0_ := Aside0.mk (Kd.R_lower ho9 (below_size (upW HB))); have n1_ := Aside0.mk (blk_below (upK BK136) hb); have n2_ := Aside0.mk (below_step (upW HB) hb); clear BK136; clear HB; have HO139 := n0_; have BK136 := n1_; have HB := n2_; clear n0_ n1_ n2_; clear hb ho9; have p5 : 0 ≤ (0 : Int) := (by omega); have q5 : (0 : Int) < ((y137.length : Int) : Int) := of_decide_eq_true (by first | (with_reducible assumption) | assumption); have qi5 : (0 < y137.length) = True := eq_true (by omega); obtain ⟨go5, co5, eo5, gb5, gl5, cl5, HG5⟩ := Kd.R_form HO139.out (by omega); (first | cases eo5 | (injection eo5 with ea_ en_ ec_; (first | subst ea_ | (injection ea_ with ea_; subst ea_)); subst ec_; clear en_)); have GB5 := Aside0.mk gb5; have GG5 := Aside0.mk HG5; clear gb5 gl5 HG5; obtain ⟨hx5_0, hf5_0⟩ := Kd.R_celln false HO139.out (0 : Int) p5 q5; (try rw [show ((0 : Int)).toNat = 0 from rfl] at hx5_0); (try simp only [Nat.reduceMul, Nat.zero_mul, Nat.zero_add, Nat.reduceAdd] at hx5_0); (try rw [show ((0 : Int)).toNat = 0 from rfl] at hf5_0); (try simp only [Nat.reduceMul, Nat.zero_mul, Nat.zero_add, Nat.reduceAdd] at hf5_0); replace p5 := eq_true p5; replace q5 := eq_true q5; obtain ⟨hy10_, hz10_⟩ := Kd.R_celln false HO139.out (0 : Int) (by omega) (of_decide_eq_true (by first | (with_reducible assumption) | assumption)); (try simp only [Int.reduceToNat, Int.toNat_zero, Int.toNat_ofNat, Nat.reduceMul, Nat.zero_mul, Nat.zero_add] at hy10_ hz10_); (try rw [show ((0 : Int)).toNat = 0 from rfl] at hy10_); (try rw [show ((0 : Int)).toNat = 0 from rfl] at hz10_); have HP10 := Kd.R_putg HO139.out (0 : Int) true) | ((with_reducible refine gate_store (t := 4) (p := 13) rfl ?_); (try (rw [drewN_self w8]; generalize hq_ : World.drewN w8 _ = w8; have n0_ := Aside0.mk (Kd.R_at hq_ HO139.out); have n1_ := Aside0.mk (blk_at hq_ BK136.out); have n2_ := Aside0.mk (below_at hq_ HB.out); clear hq_ HO139 BK136 HB; have HO139 := n0_; have BK136 := n1_; have HB := n2_; clear n0_ n1_ n2_; (try (obtain ⟨hy10_, hz10_⟩ := Kd.R_celln false HO139.out (0 : Int) (by omega) (of_decide_eq_true (by first | (with_reducible assumption) | assumption)))); (try (try simp only [Int.reduceToNat, Int.toNat_zero, Int.toNat_ofNat, Nat.reduceMul, Nat.zero_mul, Nat.zero_add] at hy10_ hz10_)); (try (try rw [show ((0 : Int)).toNat = 0 from rfl] at hy10_)); (try (try rw [show ((0 : Int)).toNat = 0 from rfl] at hz10_)); (try (have HP10 := Kd.R_putg HO139.out (0 : Int) true)))); refine store_event (t := 4) (p := 13) (v := ?vo_w11) (w1 := (w8.setCell ⟨go5, (0 : Int).toNat, none⟩ (.bool true))) ?hg ?ho ?hn ?hr ?_; (case ho => rfl); (case hg => rfl); (case hn => rfl); (case hr => first | (go_simp; done) | (go_simp; rfl)); intro w11 hw; have hg : w8.grownBy w11 (some go5) := (by rw [hw]; exact HP10.2); have hp_ : Kd.R Kd.bool 4 w11 w.heap.size (fun _ => True) (.slice (some ⟨go5, 0, none⟩) y137.length co5) y140 := (by rw [hw, Ny140.out]; exact HP10.1); clear HP10; have n0_ := Aside0.mk (blk_grown (upK BK136) hg (Kd.R_ne HO139.out BK136.out (by decide))); have n1_ := Aside0.mk (hp_); have n2_ := Aside0.mk ((by rw [hw]; exact below_set (HB.out) GB5.out : Below w.heap.size w w11)); clear BK136; clear HO139; clear HB; have BK136 := n0_; have HO139 := n1_; have HB := n2_; clear n0_ n1_ n2_; clear hg hw hp_)); try go_wp2_with (first | ((with_reducible refine gate_dst (N := 1) rfl ?_); refine box_event ?hg (N := 1) ?hd (cs := #[.int .i64 a0_0, .slice A0_1 l0_1.length c0_1]) (t := 30) ?hr ?_; (case hd => rfl); (case hg => rfl); (case hr => first | (go_simp; done) | (go_simp; rfl)); intro gb136 hg w6 hbox hb; have n0_ := Aside0.mk (below_step (upW HB) hb); have n1_ := Aside0.mk (hbox); have n2_ := Aside0.mk ((by rw [hg]; exact (below_size (upW HB)) : w.heap.size ≤ gb136)); have n3_ := Aside0.mk ((by rw [hg]; exact (below_size (upW HB)) : w.heap.size ≤ gb136)); clear HB; have HB := n0_; have BK136 := n1_; have GW136 := n2_; have GE136 := n3_; clear n0_ n1_ n2_ n3_; clear hb hbox hg; have hcz7_0 : w6.cell? ⟨gb136, 0, none⟩ = some (.int .i64 a0_0) := (blk_cell BK136.out 0).trans rfl; have hcz7_1 : w6.cell? ⟨gb136, 1, none⟩ = some (.slice A0_1 l0_1.length c0_1) := (blk_cell BK136.out 1).trans rfl; have hfz7_0 := blk_frozen BK136.out 0; have hfz7_1 := blk_frozen BK136.out 1) | ((with_reducible refine gate_dst (N := 11) rfl ?_); refine Kd.R_make Kd.bool _ 4 rfl (N := 11) rfl 109 _ _ rfl a0_0 rfl rfl Try.underlying109 (.bool false) 1 info4 rfl (by decide) (by omega) false (ok := fun _ => True) (okp := fun _ => True) rfl (fun _ hk => hk) trivial (of_decide_eq_true (by first | (with_reducible assumption) | assumption)) (Nat.le_trans (Nat.mul_le_mul_right _ (of_decide_eq_true (by first | (with_reducible assumption) | assumption) : a0_0.toNat ≤ 281474976710656)) (by omega)) (Below.refl _ _) (Nat.le_refl _) ?_; intro v138 w8 ho9 hb hg_ hnew_; clear hg_ hnew_; (first | rw [← Ny137.out] at ho9 | (simp only [Int.reduceToNat] at ho9; rw [← Ny137.out] at ho9)); have n0_ := Aside0.mk (Kd.R_lower ho9 (below_size (upW HB))); have n1_ := Aside0.mk (blk_below (upK BK136) hb); have n2_ := Aside0.mk (below_step (upW HB) hb); clear BK136; clear HB; have HO139 := n0_; have BK136 := n1_; have HB := n2_; clear n0_ n1_ n2_; clear hb ho9; have p5 : 0 ≤ (0 : Int) := (by omega); have q5 : (0 : Int) < ((y137.length : Int) : Int) := of_decide_eq_true (by first | (with_reducible assumption) | assumption); have qi5 : (0 < y137.length) = True := eq_true (by omega); obtain ⟨go5, co5, eo5, gb5, gl5, cl5, HG5⟩ := Kd.R_form HO139.out (by omega); (first | cases eo5 | (injection eo5 with ea_ en_ ec_; (first | subst ea_ | (injection ea_ with ea_; subst ea_)); subst ec_; clear en_)); have GB5 := Aside0.mk gb5; have GG5 := Aside0.mk HG5; clear gb5 gl5 HG5; obtain ⟨hx5_0, hf5_0⟩ := Kd.R_celln false HO139.out (0 : Int) p5 q5; (try rw [show ((0 : Int)).toNat = 0 from rfl] at hx5_0); (try simp only [Nat.reduceMul, Nat.zero_mul, Nat.zero_add, Nat.reduceAdd] at hx5_0); (try rw [show ((0 : Int)).toNat = 0 from rfl] at hf5_0); (try simp only [Nat.reduceMul, Nat.zero_mul, Nat.zero_add, Nat.reduceAdd] at hf5_0); replace p5 := eq_true p5; replace q5 := eq_true q5; obtain ⟨hy10_, hz10_⟩ := Kd.R_celln false HO139.out (0 : Int) (by omega) (of_decide_eq_true (by first | (with_reducible assumption) | assumption)); (try simp only [Int.reduceToNat, Int.toNat_zero, Int.toNat_ofNat, Nat.reduceMul, Nat.zero_mul, Nat.zero_add] at hy10_ hz10_); (try rw [show ((0 : Int)).toNat = 0 from rfl] at hy10_); (try rw [show ((0 : Int)).toNat = 0 from rfl] at hz10_); have HP10 := Kd.R_putg HO139.out (0 : Int) true) | ((with_reducible refine gate_store (t := 4) (p := 13) rfl ?_); (try (rw [drewN_self w8]; generalize hq_ : World.drewN w8 _ = w8; have n0_ := Aside0.mk (Kd.R_at hq_ HO139.out); have n1_ := Aside0.mk (blk_at hq_ BK136.out); have n2_ := Aside0.mk (below_at hq_ HB.out); clear hq_ HO139 BK136 HB; have HO139 := n0_; have BK136 := n1_; have HB := n2_; clear n0_ n1_ n2_; (try (obtain ⟨hy10_, hz10_⟩ := Kd.R_celln false HO139.out (0 : Int) (by omega) (of_decide_eq_true (by first | (with_reducible assumption) | assumption)))); (try (try simp only [Int.reduceToNat, Int.toNat_zero, Int.toNat_ofNat, Nat.reduceMul, Nat.zero_mul, Nat.zero_add] at hy10_ hz10_)); (try (try rw [show ((0 : Int)).toNat = 0 from rfl] at hy10_)); (try (try rw [show ((0 : Int)).toNat = 0 from rfl] at hz10_)); (try (have HP10 := Kd.R_putg HO139.out (0 : Int) true)))); refine store_event (t := 4) (p := 13) (v := ?vo_w11) (w1 := (w8.setCell ⟨go5, (0 : Int).toNat, none⟩ (.bool true))) ?hg ?ho ?hn ?hr ?_; (case ho => rfl); (case hg => rfl); (case hn => rfl); (case hr => first | (go_simp; done) | (go_simp; rfl)); intro w11 hw; have hg : w8.grownBy w11 (some go5) := (by rw [hw]; exact HP10.2); have hp_ : Kd.R Kd.bool 4 w11 w.heap.size (fun _ => True) (.slice (some ⟨go5, 0, none⟩) y137.length co5) y140 := (by rw [hw, Ny140.out]; exact HP10.1); clear HP10; have n0_ := Aside0.mk (blk_grown (upK BK136) hg (Kd.R_ne HO139.out BK136.out (by decide))); have n1_ := Aside0.mk (hp_); have n2_ := Aside0.mk ((by rw [hw]; exact below_set (HB.out) GB5.out : Below w.heap.size w w11)); clear BK136; clear HO139; clear HB; have BK136 := n0_; have HO139 := n1_; have HB := n2_; clear n0_ n1_ n2_; clear hg hw hp_)))
    go_loopg [4] k (fun kq v4 w' => ∃ (x3_1 : List Bool) (x4_1 : Bool), v4 = .bool x4_1 ∧ Aside0 (spec_neJoined.l0 kq x3_1 x4_1 a0_0 l0_1 = some r) ∧ Aside0 (kq ≤ k) ∧ Aside0 (Kd.R Kd.bool 4 w' w.heap.size (fun _ => True) (.slice (some ⟨go5, 0, none⟩) y137.length co5) x3_1) ∧ Aside0 (w'.heap[gb136]? = some (.cells #[.int .i64 a0_0, (.slice A0_1 l0_1.length c0_1)] 30 (0, 0))) ∧ Aside0 (Below w.heap.size w w'))
    case atStart => exact ⟨(y140), (true), (by first | rfl | (simp; done) | (simp [*]; done)), H', ⟨Nat.le_refl _⟩, ⟨upR HO139⟩, ⟨upK BK136⟩, ⟨upW HB⟩⟩
    case round =>
     clear H'
     try clear c2
     try clear c2b0
     try clear c2b1
     try clear p2
     try clear c3
     try clear c3b0
     try clear c3b1
     try clear c4
     try clear c4b0
     try clear c4b1
     try clear p5
     try clear q5
     try clear hx5
     try clear qi5
     try clear hf5
     try clear c8
     try clear hcz7_0
     try clear hcz7_1
     try clear hfz7_0
     try clear hfz7_1
     try clear hx5_0
     try clear p5
     try clear q5
     obtain ⟨x3_1, x4_1, rfl, HA, HK1, HO_3, BK136, HB⟩ := hrel
     have hl3_1 := (Kd.R_reads' HO_3.out).1
     rw [hl3_1] at HO_3
     (try simp only [hl3_1])
     (try simp only [hl3_1] at BK136)
     cases gk with
     | zero => exact absurd HA.out (by simp [spec_neJoined.l0])
     | succ k1 =>
      have H := HA.out
      clear HA
      simp only [spec_neJoined.l0] at H
      by_cases c12 : x4_1 = true
      ·subst c12
       have H1 : (spec_neJoined.l1 k1 x3_1 false l0_1 (l0_1.length : Int) 0 a0_0 l0_1) = some r := by rw [if_pos rfl] at H; exact H
       clear H
       have H := H1
       clear H1
       have H' := Aside0.mk H
       clear H
       have hcz13_0 : wr.cell? ⟨gb136, 0, none⟩ = some (.int .i64 a0_0) := (blk_cell BK136.out 0).trans rfl
       have hcz13_1 : wr.cell? ⟨gb136, 1, none⟩ = some (.slice A0_1 l0_1.length c0_1) := (blk_cell BK136.out 1).trans rfl
       have hfz13_0 := blk_frozen BK136.out 0
       have hfz13_1 := blk_frozen BK136.out 1
       go_wp2
       repeat (go_quiet (fail); try go_wp2)
       go_loopg [4, 18] k1 (fun kq v4 v18 w' => ∃ (x3_2 : List Bool) (x4_2 : Bool) (x18_2 : Int), v4 = .bool x4_2 ∧ v18 = .int .i64 x18_2 ∧ Aside0 (spec_neJoined.l1 kq x3_2 x4_2 l0_1 (l0_1.length : Int) x18_2 a0_0 l0_1 = some r) ∧ Aside0 (kq ≤ k1) ∧ Aside0 (Kd.R Kd.bool 4 w' w.heap.size (fun _ => True) (.slice (some ⟨go5, 0, none⟩) x3_1.length co5) x3_2) ∧ Aside0 (w'.heap[gb136]? = some (.cells #[.int .i64 a0_0, (.slice A0_1 l0_1.length c0_1)] 30 (0, 0))) ∧ Aside0 (Below w.heap.size w w'))
       case atStart => exact ⟨(x3_1), (false), (0), (by first | rfl | (simp; done) | (simp [*]; done)), (by first | rfl | (simp; done) | (simp [*]; done)), H', ⟨Nat.le_refl _⟩, ⟨by (try simp only [hl3_1]); (with_reducible repeat (first | apply Kd.R_alloc | apply Kd.R_drewN | apply Kd.R_drew)); exact HO_3.out⟩, ⟨by (try simp only [hl3_1]); (with_reducible repeat (first | refine blk_drewN ?_ _ | refine blk_drew ?_ | refine blk_alloc ?_ _)); exact BK136.out⟩, ⟨upW HB⟩⟩
       case round =>
        clear H'
        try clear c1
        try clear c2
        try clear c2b0
        try clear c2b1
        try clear p2
        try clear c3
        try clear c3b0
        try clear c3b1
        try clear c4
        try clear c4b0
        try clear c4b1
        try clear p5
        try clear q5
        try clear hx5
        try clear qi5
        try clear hf5
        try clear c8
        try clear c12
        try clear hcz13_0
        try clear hcz13_1
        try clear hcz7_0
        try clear hcz7_1
        try clear hfz13_0
        try clear hfz13_1
        try clear hfz7_0
        try clear hfz7_1
        try clear hx5_0
        try clear p2
        try clear p5
        try clear q5
        obtain ⟨x3_2, x4_2, x18_2, rfl, rfl, HA, HK2, HO_3, BK136, HB⟩ := hrel
        have hl3_2 := (Kd.R_reads' HO_3.out).1
        rw [hl3_2] at HO_3
        (try simp only [hl3_2])
        (try simp only [hl3_2] at BK136)
        cases gk with
        | zero => exact absurd HA.out (by simp [spec_neJoined.l1])
        | succ k2 =>
         have H := HA.out
         clear HA
         simp only [spec_neJoined.l1] at H
         by_cases c14 : x18_2 < (l0_1.length : Int)
         ·rw [if_pos c14] at H
          have c14b0 : decide (x18_2 < (l0_1.length : Int)) = true := decide_eq_true c14
          (try (have c14b0h0 := c14b0; simp only [hl3_1] at c14b0h0))
          (try (have c14b0h1 := c14b0; simp only [hl3_2] at c14b0h1))
          clear c14
          by_cases c15 : 0 ≤ x18_2
          ·rw [if_pos c15] at H
           have c15b0 : decide (0 ≤ x18_2) = true := decide_eq_true c15
           clear c15
           by_cases c16 : x18_2 < (l0_1.length : Int)
           ·rw [if_pos c16] at H
            have c16b0 : decide (x18_2 < (l0_1.length : Int)) = true := decide_eq_true c16
            (try (have c16b0h0 := c16b0; simp only [hl3_1] at c16b0h0))
            (try (have c16b0h1 := c16b0; simp only [hl3_2] at c16b0h1))
            clear c16
            by_cases c17 : 0 ≤ ((rd_T73 l0_1 x18_2).f0)
            ·rw [if_pos c17] at H
             have c17b0 : decide (0 ≤ ((rd_T73 l0_1 x18_2).f0)) = true := decide_eq_true c17
             clear c17
             by_cases c18 : ((rd_T73 l0_1 x18_2).f0) < (x3_2.length : Int)
             ·rw [if_pos c18] at H
              have c18b0 : decide (((rd_T73 l0_1 x18_2).f0) < (x3_2.length : Int)) = true := decide_eq_true c18
              (try (have c18b0h0 := c18b0; simp only [hl3_1] at c18b0h0))
              (try (have c18b0h1 := c18b0; simp only [hl3_2] at c18b0h1))
              clear c18
              by_cases c19 : 0 ≤ ((rd_T73 l0_1 x18_2).f1)
              ·rw [if_pos c19] at H
               have c19b0 : decide (0 ≤ ((rd_T73 l0_1 x18_2).f1)) = true := decide_eq_true c19
               clear c19
               by_cases c20 : ((rd_T73 l0_1 x18_2).f1) < (x3_2.length : Int)
               ·rw [if_pos c20] at H
                have c20b0 : decide (((rd_T73 l0_1 x18_2).f1) < (x3_2.length : Int)) = true := decide_eq_true c20
                (try (have c20b0h0 := c20b0; simp only [hl3_1] at c20b0h0))
                (try (have c20b0h1 := c20b0; simp only [hl3_2] at c20b0h1))
                clear c20
                by_cases c21 : ((rdOf false x3_2 ((rd_T73 l0_1 x18_2).f0)) != (rdOf false x3_2 ((rd_T73 l0_1 x18_2).f1))) = true
                ·rw [if_pos c21] at H
                 have c21b0 : ((rdOf false x3_2 ((rd_T73 l0_1 x18_2).f0)) != (rdOf false x3_2 ((rd_T73 l0_1 x18_2).f1))) = true := c21
                 (try (have c21b1 : decide ((rdOf false x3_2 ((rd_T73 l0_1 x18_2).f0)) = (rdOf false x3_2 ((rd_T73 l0_1 x18_2).f1))) = false := by simpa using c21))
                 (try (have c21b2 : ((rdOf false x3_2 ((rd_T73 l0_1 x18_2).f0)) == (rdOf false x3_2 ((rd_T73 l0_1 x18_2).f1))) = false := by simpa using c21))
                 (try (have c21b3 : ¬ ((rdOf false x3_2 ((rd_T73 l0_1 x18_2).f0)) = (rdOf false x3_2 ((rd_T73 l0_1 x18_2).f1))) := by simpa using c21))
                 clear c21
                 obtain ⟨y145, hy145⟩ : ∃ y_ : List Bool, y_ = (x3_2.set (((rd_T73 l0_1 x18_2).f0) : Int).toNat true) := ⟨_, rfl⟩
                 replace H : (spec_neJoined.l1 k2 (y145.set (((rd_T73 l0_1 x18_2).f1) : Int).toNat true) true l0_1 (l0_1.length : Int) (wrap64 (x18_2 + 1)) a0_0 l0_1) = some r := by first | (rw [hy145]; with_reducible exact H) | (have H2_ := (Option.bind_some _ _).symm.trans H; rw [hy145]; with_reducible exact H2_) | (have H2_ := (Option.bind_some _ _).symm.trans H; with_reducible exact H2_) | with_reducible exact H | (rw [hy145]; exact H) | exact H
                 have Ny145 := Aside0.mk hy145
                 clear hy145
                 obtain ⟨y146, hy146⟩ : ∃ y_ : List Bool, y_ = (y145.set (((rd_T73 l0_1 x18_2).f1) : Int).toNat true) := ⟨_, rfl⟩
                 replace H : (spec_neJoined.l1 k2 y146 true l0_1 (l0_1.length : Int) (wrap64 (x18_2 + 1)) a0_0 l0_1) = some r := by first | (rw [hy146]; with_reducible exact H) | (have H2_ := (Option.bind_some _ _).symm.trans H; rw [hy146]; with_reducible exact H2_) | (have H2_ := (Option.bind_some _ _).symm.trans H; with_reducible exact H2_) | with_reducible exact H | (rw [hy146]; exact H) | exact H
                 have Ny146 := Aside0.mk hy146
                 clear hy146
                 have H' := Aside0.mk H
                 clear H
                 have p141 : 0 ≤ (x18_2 : Int) := of_decide_eq_true (by first | (with_reducible assumption) | assumption)
                 have q141 : x18_2 < (l0_1.length : Int) := of_decide_eq_true (by first | (with_reducible assumption) | assumption)
                 obtain ⟨ad141, e141, hx141_0, hx141_1⟩ := at_T73 HR0_1.out x18_2 p141 q141
                 cases e141
                 replace hx141_0 := (HB.out.cell (World.block_lt_of_cell? w _ hx141_0)).trans hx141_0
                 replace hx141_1 := (HB.out.cell (World.block_lt_of_cell? w _ hx141_1)).trans hx141_1
                 replace p141 := eq_true p141
                 replace q141 := eq_true q141
                 go_wp2_with (first | ((with_reducible refine gate_dst (N := 6) rfl ?_); refine box_event ?hg (N := 6) ?hd (cs := #[.int .i64 0, .int .i64 0]) (t := 73) ?hr ?_; (case hd => rfl); (case hg => rfl); (case hr => first | (go_simp; done) | (go_simp; rfl)); intro gb142 hg w24 hbox hb; have n0_ := Aside0.mk (Kd.R_below (upR HO_3) hb); have n1_ := Aside0.mk (blk_below (upK BK136) hb); have n2_ := Aside0.mk (below_step (upW HB) hb); have n3_ := Aside0.mk (hbox); have n4_ := Aside0.mk ((by rw [hg]; exact (below_size (upW HB)) : w.heap.size ≤ gb142)); have n5_ := Aside0.mk ((by rw [hg]; exact (below_size (upW HB)) : w.heap.size ≤ gb142)); have n6_ := Aside0.mk ((by rw [hg]; exact Nat.ne_of_lt (blk_lt (upK BK136)) : gb136 ≠ gb142)); have n7_ := Aside0.mk ((by rw [hg]; exact Nat.ne_of_gt (blk_lt (upK BK136)) : gb142 ≠ gb136)); clear HO_3; clear BK136; clear HB; have HO_3 := n0_; have BK136 := n1_; have HB := n2_; have BK142 := n3_; have GW142 := n4_; have GE142 := n5_; have NB136_142 := n6_; have NB142_136 := n7_; clear n0_ n1_ n2_ n3_ n4_ n5_ n6_ n7_; clear hb hbox hg; have hnb25 := NB142_136.out; have hnc25 := NB136_142.out; have hcz26_0 : w24.cell? ⟨gb142, 0, none⟩ = some (.int .i64 0) := (blk_cell BK142.out 0).trans rfl; have hcz26_1 : w24.cell? ⟨gb142, 1, none⟩ = some (.int .i64 0) := (blk_cell BK142.out 1).trans rfl; have hfz26_0 := blk_frozen BK142.out 0; have hfz26_1 := blk_frozen BK142.out 1) | ((with_reducible refine gate_store (t := 73) (p := 6) rfl ?_); (try (rw [drewN_self w24]; generalize hq_ : World.drewN w24 _ = w24; have n0_ := Aside0.mk (Kd.R_at hq_ HO_3.out); have n1_ := Aside0.mk (blk_at hq_ BK136.out); have n2_ := Aside0.mk (blk_at hq_ BK142.out); have n3_ := Aside0.mk (below_at hq_ HB.out); clear hq_ HO_3 BK136 BK142 HB; have HO_3 := n0_; have BK136 := n1_; have BK142 := n2_; have HB := n3_; clear n0_ n1_ n2_ n3_)); refine store_event (t := 73) (p := 6) (v := ?vo_w27) (w1 := ((w24.setCell ⟨gb142, 0, none⟩ (.int .i64 ((rd_T73 l0_1 x18_2).f0))).setCell ⟨gb142, 1, none⟩ (.int .i64 ((rd_T73 l0_1 x18_2).f1)))) ?hg ?ho ?hn ?hr ?_; (case ho => rfl); (case hg => rfl); (case hn => rfl); (case hr => first | (go_simp; done) | (go_simp; rfl)); intro w27 hw; have n0_ : Aside0 (Kd.R Kd.bool 4 w27 w.heap.size (fun _ => True) (.slice (some ⟨go5, 0, none⟩) x3_2.length co5) x3_2) := ⟨(by rw [hw]; exact (by (with_reducible repeat (first | apply Kd.R_alloc | apply Kd.R_drewN | apply Kd.R_drew)); exact Kd.R_mono (Kd.R_far (p := ⟨gb142, 1, none⟩) (Kd.R_far (p := ⟨gb142, 0, none⟩) (Kd.R_types HO_3.out BK142.out (by decide)) (fun _ hk => hk.2) (.int .i64 ((rd_T73 l0_1 x18_2).f0))) (fun _ hk => hk.2) (.int .i64 ((rd_T73 l0_1 x18_2).f1))) (fun _ hk => trivial)))⟩; have n1_ : Aside0 (w27.heap[gb136]? = some (.cells #[.int .i64 a0_0, .slice (some ad141) l0_1.length c0_1] 30 (0, 0))) := ⟨(by rw [hw]; exact (upF BK136))⟩; have n2_ : Aside0 (w27.heap[gb142]? = some (.cells #[.int .i64 ((rd_T73 l0_1 x18_2).f0), .int .i64 ((rd_T73 l0_1 x18_2).f1)] 73 (0, 0))) := ⟨(by rw [hw]; exact (by (with_reducible repeat (first | refine blk_drewN ?_ _ | refine blk_drew ?_ | refine blk_alloc ?_ _)); refine blk_put (cs := #[.int .i64 ((rd_T73 l0_1 x18_2).f0), .int .i64 0]) ?_ 1 _ rfl; (with_reducible repeat (first | refine blk_drewN ?_ _ | refine blk_drew ?_ | refine blk_alloc ?_ _)); refine blk_put (cs := #[.int .i64 0, .int .i64 0]) ?_ 0 _ rfl; (with_reducible repeat (first | refine blk_drewN ?_ _ | refine blk_drew ?_ | refine blk_alloc ?_ _)); exact BK142.out))⟩; have n3_ : Aside0 (Below w.heap.size w w27) := ⟨(by rw [hw]; exact (upW HB))⟩; clear hw; clear HO_3; clear BK136; clear BK142; clear HB; have HO_3 := n0_; have BK136 := n1_; have BK142 := n2_; have HB := n3_; clear n0_ n1_ n2_ n3_; have hcz28_0 : w27.cell? ⟨gb142, 0, none⟩ = some (.int .i64 ((rd_T73 l0_1 x18_2).f0)) := (blk_cell BK142.out 0).trans rfl; have hcz28_1 : w27.cell? ⟨gb142, 1, none⟩ = some (.int .i64 ((rd_T73 l0_1 x18_2).f1)) := (blk_cell BK142.out 1).trans rfl; have hfz28_0 := blk_frozen BK142.out 0; have hfz28_1 := blk_frozen BK142.out 1; have p143 : 0 ≤ (((rd_T73 l0_1 x18_2).f0) : Int) := of_decide_eq_true (by first | (with_reducible assumption) | assumption); have q143 : ((rd_T73 l0_1 x18_2).f0) < (x3_2.length : Int) := of_decide_eq_true (by first | (with_reducible assumption) | assumption); obtain ⟨ad143, e143, hx143_0⟩ := Kd.at_bool (Kd.R_reads' HO_3.out).2.2 ((rd_T73 l0_1 x18_2).f0) p143 q143; obtain rfl : (⟨go5, 0, none⟩ : Addr) = ad143 := (by injection e143); (first | simp only [add_plain] at hx143_0 | simp only [add_at] at hx143_0 | simp only [Addr.add, Nat.zero_add] at hx143_0 | skip); replace p143 := eq_true p143; replace q143 := eq_true q143; have p144 : 0 ≤ (((rd_T73 l0_1 x18_2).f1) : Int) := of_decide_eq_true (by first | (with_reducible assumption) | assumption); have q144 : ((rd_T73 l0_1 x18_2).f1) < (x3_2.length : Int) := of_decide_eq_true (by first | (with_reducible assumption) | assumption); obtain ⟨ad144, e144, hx144_0⟩ := Kd.at_bool (Kd.R_reads' HO_3.out).2.2 ((rd_T73 l0_1 x18_2).f1) p144 q144; obtain rfl : (⟨go5, 0, none⟩ : Addr) = ad144 := (by injection e144); (first | simp only [add_plain] at hx144_0 | simp only [add_at] at hx144_0 | simp only [Addr.add, Nat.zero_add] at hx144_0 | skip); replace p144 := eq_true p144; replace q144 := eq_true q144; have p22 : 0 ≤ (((rd_T73 l0_1 x18_2).f0) : Int) := of_decide_eq_true (by first | (with_reducible assumption) | assumption); have q22 : (((rd_T73 l0_1 x18_2).f0) : Int) < ((x3_2.length : Int) : Int) := of_decide_eq_true (by first | (with_reducible assumption) | assumption); obtain ⟨hx22_0, hf22_0⟩ := Kd.R_celln false HO_3.out (((rd_T73 l0_1 x18_2).f0) : Int) p22 q22; replace p22 := eq_true p22; replace q22 := eq_true q22; obtain ⟨hy29_, hz29_⟩ := Kd.R_celln false HO_3.out (((rd_T73 l0_1 x18_2).f0) : Int) (of_decide_eq_true (by first | (with_reducible assumption) | assumption)) (of_decide_eq_true (by first | (with_reducible assumption) | assumption)); have HP29 := Kd.R_putg HO_3.out (((rd_T73 l0_1 x18_2).f0) : Int) true) | ((with_reducible refine gate_store (t := 4) (p := 36) rfl ?_); (try (rw [drewN_self w27]; generalize hq_ : World.drewN w27 _ = w27; have n0_ := Aside0.mk (Kd.R_at hq_ HO_3.out); have n1_ := Aside0.mk (blk_at hq_ BK136.out); have n2_ := Aside0.mk (blk_at hq_ BK142.out); have n3_ := Aside0.mk (below_at hq_ HB.out); clear hq_ HO_3 BK136 BK142 HB; have HO_3 := n0_; have BK136 := n1_; have BK142 := n2_; have HB := n3_; clear n0_ n1_ n2_ n3_; (try (obtain ⟨hy29_, hz29_⟩ := Kd.R_celln false HO_3.out (((rd_T73 l0_1 x18_2).f0) : Int) (of_decide_eq_true (by first | (with_reducible assumption) | assumption)) (of_decide_eq_true (by first | (with_reducible assumption) | assumption)))); (try (have HP29 := Kd.R_putg HO_3.out (((rd_T73 l0_1 x18_2).f0) : Int) true)))); refine store_event (t := 4) (p := 36) (v := ?vo_w30) (w1 := (w27.setCell ⟨go5, (((rd_T73 l0_1 x18_2).f0) : Int).toNat, none⟩ (.bool true))) ?hg ?ho ?hn ?hr ?_; (case ho => rfl); (case hg => rfl); (case hn => rfl); (case hr => first | (go_simp; done) | (go_simp; rfl)); intro w30 hw; have hg : w27.grownBy w30 (some go5) := (by rw [hw]; exact HP29.2); have hp_ : Kd.R Kd.bool 4 w30 w.heap.size (fun _ => True) (.slice (some ⟨go5, 0, none⟩) x3_2.length co5) y145 := (by rw [hw, Ny145.out]; exact HP29.1); clear HP29; have n0_ := Aside0.mk (hp_); have n1_ := Aside0.mk (blk_grown (upK BK136) hg (Kd.R_ne HO_3.out BK136.out (by decide))); have n2_ := Aside0.mk (blk_grown (upK BK142) hg (Kd.R_ne HO_3.out BK142.out (by decide))); have n3_ := Aside0.mk ((by rw [hw]; exact below_set (HB.out) GB5.out : Below w.heap.size w w30)); clear HO_3; clear BK136; clear BK142; clear HB; have HO_3 := n0_; have BK136 := n1_; have BK142 := n2_; have HB := n3_; clear n0_ n1_ n2_ n3_; clear hg hw hp_; have hcz31_0 : w30.cell? ⟨gb142, 0, none⟩ = some (.int .i64 ((rd_T73 l0_1 x18_2).f0)) := (blk_cell BK142.out 0).trans rfl; have hcz31_1 : w30.cell? ⟨gb142, 1, none⟩ = some (.int .i64 ((rd_T73 l0_1 x18_2).f1)) := (blk_cell BK142.out 1).trans rfl; have hfz31_0 := blk_frozen BK142.out 0; have hfz31_1 := blk_frozen BK142.out 1; have p23 : 0 ≤ (((rd_T73 l0_1 x18_2).f1) : Int) := of_decide_eq_true (by first | (with_reducible assumption) | assumption); have q23 : (((rd_T73 l0_1 x18_2).f1) : Int) < ((x3_2.length : Int) : Int) := of_decide_eq_true (by first | (with_reducible assumption) | assumption); obtain ⟨hx23_0, hf23_0⟩ := Kd.R_celln false HO_3.out (((rd_T73 l0_1 x18_2).f1) : Int) p23 q23; replace p23 := eq_true p23; replace q23 := eq_true q23; obtain ⟨hy32_, hz32_⟩ := Kd.R_celln false HO_3.out (((rd_T73 l0_1 x18_2).f1) : Int) (of_decide_eq_true (by first | (with_reducible assumption) | assumption)) (of_decide_eq_true (by first | (with_reducible assumption) | assumption)); have HP32 := Kd.R_putg HO_3.out (((rd_T73 l0_1 x18_2).f1) : Int) true) | ((with_reducible refine gate_store (t := 4) (p := 40) rfl ?_); (try (rw [drewN_self w30]; generalize hq_ : World.drewN w30 _ = w30; have n0_ := Aside0.mk (Kd.R_at hq_ HO_3.out); have n1_ := Aside0.mk (blk_at hq_ BK136.out); have n2_ := Aside0.mk (blk_at hq_ BK142.out); have n3_ := Aside0.mk (below_at hq_ HB.out); clear hq_ HO_3 BK136 BK142 HB; have HO_3 := n0_; have BK136 := n1_; have BK142 := n2_; have HB := n3_; clear n0_ n1_ n2_ n3_; (try (obtain ⟨hy32_, hz32_⟩ := Kd.R_celln false HO_3.out (((rd_T73 l0_1 x18_2).f1) : Int) (of_decide_eq_true (by first | (with_reducible assumption) | assumption)) (of_decide_eq_true (by first | (with_reducible assumption) | assumption)))); (try (have HP32 := Kd.R_putg HO_3.out (((rd_T73 l0_1 x18_2).f1) : Int) true)))); refine store_event (t := 4) (p := 40) (v := ?vo_w33) (w1 := (w30.setCell ⟨go5, (((rd_T73 l0_1 x18_2).f1) : Int).toNat, none⟩ (.bool true))) ?hg ?ho ?hn ?hr ?_; (case ho => rfl); (case hg => rfl); (case hn => rfl); (case hr => first | (go_simp; done) | (go_simp; rfl)); intro w33 hw; have hg : w30.grownBy w33 (some go5) := (by rw [hw]; exact HP32.2); have hp_ : Kd.R Kd.bool 4 w33 w.heap.size (fun _ => True) (.slice (some ⟨go5, 0, none⟩) x3_2.length co5) y146 := (by rw [hw, Ny146.out]; exact HP32.1); clear HP32; have n0_ := Aside0.mk (hp_); have n1_ := Aside0.mk (blk_grown (upK BK136) hg (Kd.R_ne HO_3.out BK136.out (by decide))); have n2_ := Aside0.mk (blk_grown (upK BK142) hg (Kd.R_ne HO_3.out BK142.out (by decide))); have n3_ := Aside0.mk ((by rw [hw]; exact below_set (HB.out) GB5.out : Below w.heap.size w w33)); clear HO_3; clear BK136; clear BK142; clear HB; have HO_3 := n0_; have BK136 := n1_; have BK142 := n2_; have HB := n3_; clear n0_ n1_ n2_ n3_; clear hg hw hp_))
                 repeat (go_quiet (first | ((with_reducible refine gate_dst (N := 6) rfl ?_); refine box_event ?hg (N := 6) ?hd (cs := #[.int .i64 0, .int .i64 0]) (t := 73) ?hr ?_; (case hd => rfl); (case hg => rfl); (case hr => first | (go_simp; done) | (go_simp; rfl)); intro gb142 hg w24 hbox hb; have n0_ := Aside0.mk (Kd.R_below (upR HO_3) hb); have n1_ := Aside0.mk (blk_below (upK BK136) hb); have n2_ := Aside0.mk (below_step (upW HB) hb); have n3_ := Aside0.mk (hbox); have n4_ := Aside0.mk ((by rw [hg]; exact (below_size (upW HB)) : w.heap.size ≤ gb142)); have n5_ := Aside0.mk ((by rw [hg]; exact (below_size (upW HB)) : w.heap.size ≤ gb142)); have n6_ := Aside0.mk ((by rw [hg]; exact Nat.ne_of_lt (blk_lt (upK BK136)) : gb136 ≠ gb142)); have n7_ := Aside0.mk ((by rw [hg]; exact Nat.ne_of_gt (blk_lt (upK BK136)) : gb142 ≠ gb136)); clear HO_3; clear BK136; clear HB; have HO_3 := n0_; have BK136 := n1_; have HB := n2_; have BK142 := n3_; have GW142 := n4_; have GE142 := n5_; have NB136_142 := n6_; have NB142_136 := n7_; clear n0_ n1_ n2_ n3_ n4_ n5_ n6_ n7_; clear hb hbox hg; have hnb25 := NB142_136.out; have hnc25 := NB136_142.out; have hcz26_0 : w24.cell? ⟨gb142, 0, none⟩ = some (.int .i64 0) := (blk_cell BK142.out 0).trans rfl; have hcz26_1 : w24.cell? ⟨gb142, 1, none⟩ = some (.int .i64 0) := (blk_cell BK142.out 1).trans rfl; have hfz26_0 := blk_frozen BK142.out 0; have hfz26_1 := blk_frozen BK142.out 1) | ((with_reducible refine gate_store (t := 73) (p := 6) rfl ?_); (try (rw [drewN_self w24]; generalize hq_ : World.drewN w24 _ = w24; have n0_ := Aside0.mk (Kd.R_at hq_ HO_3.out); have n1_ := Aside0.mk (blk_at hq_ BK136.out); have n2_ := Aside0.mk (blk_at hq_ BK142.out); have n3_ := Aside0.mk (below_at hq_ HB.out); clear hq_ HO_3 BK136 BK142 HB; have HO_3 := n0_; have BK136 := n1_; have BK142 := n2_; have HB := n3_; clear n0_ n1_ n2_ n3_)); refine store_event (t := 73) (p := 6) (v := ?vo_w27) (w1 := ((w24.setCell ⟨gb142, 0, none⟩ (.int .i64 ((rd_T73 l0_1 x18_2).f0))).setCell ⟨gb142, 1, none⟩ (.int .i64 ((rd_T73 l0_1 x18_2).f1)))) ?hg ?ho ?hn ?hr ?_; (case ho => rfl); (case hg => rfl); (case hn => rfl); (case hr => first | (go_simp; done) | (go_simp; rfl)); intro w27 hw; have n0_ : Aside0 (Kd.R Kd.bool 4 w27 w.heap.size (fun _ => True) (.slice (some ⟨go5, 0, none⟩) x3_2.length co5) x3_2) := ⟨(by rw [hw]; exact (by (with_reducible repeat (first | apply Kd.R_alloc | apply Kd.R_drewN | apply Kd.R_drew)); exact Kd.R_mono (Kd.R_far (p := ⟨gb142, 1, none⟩) (Kd.R_far (p := ⟨gb142, 0, none⟩) (Kd.R_types HO_3.out BK142.out (by decide)) (fun _ hk => hk.2) (.int .i64 ((rd_T73 l0_1 x18_2).f0))) (fun _ hk => hk.2) (.int .i64 ((rd_T73 l0_1 x18_2).f1))) (fun _ hk => trivial)))⟩; have n1_ : Aside0 (w27.heap[gb136]? = some (.cells #[.int .i64 a0_0, .slice (some ad141) l0_1.length c0_1] 30 (0, 0))) := ⟨(by rw [hw]; exact (upF BK136))⟩; have n2_ : Aside0 (w27.heap[gb142]? = some (.cells #[.int .i64 ((rd_T73 l0_1 x18_2).f0), .int .i64 ((rd_T73 l0_1 x18_2).f1)] 73 (0, 0))) := ⟨(by rw [hw]; exact (by (with_reducible repeat (first | refine blk_drewN ?_ _ | refine blk_drew ?_ | refine blk_alloc ?_ _)); refine blk_put (cs := #[.int .i64 ((rd_T73 l0_1 x18_2).f0), .int .i64 0]) ?_ 1 _ rfl; (with_reducible repeat (first | refine blk_drewN ?_ _ | refine blk_drew ?_ | refine blk_alloc ?_ _)); refine blk_put (cs := #[.int .i64 0, .int .i64 0]) ?_ 0 _ rfl; (with_reducible repeat (first | refine blk_drewN ?_ _ | refine blk_drew ?_ | refine blk_alloc ?_ _)); exact BK142.out))⟩; have n3_ : Aside0 (Below w.heap.size w w27) := ⟨(by rw [hw]; exact (upW HB))⟩; clear hw; clear HO_3; clear BK136; clear BK142; clear HB; have HO_3 := n0_; have BK136 := n1_; have BK142 := n2_; have HB := n3_; clear n0_ n1_ n2_ n3_; have hcz28_0 : w27.cell? ⟨gb142, 0, none⟩ = some (.int .i64 ((rd_T73 l0_1 x18_2).f0)) := (blk_cell BK142.out 0).trans rfl; have hcz28_1 : w27.cell? ⟨gb142, 1, none⟩ = some (.int .i64 ((rd_T73 l0_1 x18_2).f1)) := (blk_cell BK142.out 1).trans rfl; have hfz28_0 := blk_frozen BK142.out 0; have hfz28_1 := blk_frozen BK142.out 1; have p143 : 0 ≤ (((rd_T73 l0_1 x18_2).f0) : Int) := of_decide_eq_true (by first | (with_reducible assumption) | assumption); have q143 : ((rd_T73 l0_1 x18_2).f0) < (x3_2.length : Int) := of_decide_eq_true (by first | (with_reducible assumption) | assumption); obtain ⟨ad143, e143, hx143_0⟩ := Kd.at_bool (Kd.R_reads' HO_3.out).2.2 ((rd_T73 l0_1 x18_2).f0) p143 q143; obtain rfl : (⟨go5, 0, none⟩ : Addr) = ad143 := (by injection e143); (first | simp only [add_plain] at hx143_0 | simp only [add_at] at hx143_0 | simp only [Addr.add, Nat.zero_add] at hx143_0 | skip); replace p143 := eq_true p143; replace q143 := eq_true q143; have p144 : 0 ≤ (((rd_T73 l0_1 x18_2).f1) : Int) := of_decide_eq_true (by first | (with_reducible assumption) | assumption); have q144 : ((rd_T73 l0_1 x18_2).f1) < (x3_2.length : Int) := of_decide_eq_true (by first | (with_reducible assumption) | assumption); obtain ⟨ad144, e144, hx144_0⟩ := Kd.at_bool (Kd.R_reads' HO_3.out).2.2 ((rd_T73 l0_1 x18_2).f1) p144 q144; obtain rfl : (⟨go5, 0, none⟩ : Addr) = ad144 := (by injection e144); (first | simp only [add_plain] at hx144_0 | simp only [add_at] at hx144_0 | simp only [Addr.add, Nat.zero_add] at hx144_0 | skip); replace p144 := eq_true p144; replace q144 := eq_true q144; have p22 : 0 ≤ (((rd_T73 l0_1 x18_2).f0) : Int) := of_decide_eq_true (by first | (with_reducible assumption) | assumption); have q22 : (((rd_T73 l0_1 x18_2).f0) : Int) < ((x3_2.length : Int) : Int) := of_decide_eq_true (by first | (with_reducible assumption) | assumption); obtain ⟨hx22_0, hf22_0⟩ := Kd.R_celln false HO_3.out (((rd_T73 l0_1 x18_2).f0) : Int) p22 q22; replace p22 := eq_true p22; replace q22 := eq_true q22; obtain ⟨hy29_, hz29_⟩ := Kd.R_celln false HO_3.out (((rd_T73 l0_1 x18_2).f0) : Int) (of_decide_eq_true (by first | (with_reducible assumption) | assumption)) (of_decide_eq_true (by first | (with_reducible assumption) | assumption)); have HP29 := Kd.R_putg HO_3.out (((rd_T73 l0_1 x18_2).f0) : Int) true) | ((with_reducible refine gate_store (t := 4) (p := 36) rfl ?_); (try (rw [drewN_self w27]; generalize hq_ : World.drewN w27 _ = w27; have n0_ := Aside0.mk (Kd.R_at hq_ HO_3.out); have n1_ := Aside0.mk (blk_at hq_ BK136.out); have n2_ := Aside0.mk (blk_at hq_ BK142.out); have n3_ := Aside0.mk (below_at hq_ HB.out); clear hq_ HO_3 BK136 BK142 HB; have HO_3 := n0_; have BK136 := n1_; have BK142 := n2_; have HB := n3_; clear n0_ n1_ n2_ n3_; (try (obtain ⟨hy29_, hz29_⟩ := Kd.R_celln false HO_3.out (((rd_T73 l0_1 x18_2).f0) : Int) (of_decide_eq_true (by first | (with_reducible assumption) | assumption)) (of_decide_eq_true (by first | (with_reducible assumption) | assumption)))); (try (have HP29 := Kd.R_putg HO_3.out (((rd_T73 l0_1 x18_2).f0) : Int) true)))); refine store_event (t := 4) (p := 36) (v := ?vo_w30) (w1 := (w27.setCell ⟨go5, (((rd_T73 l0_1 x18_2).f0) : Int).toNat, none⟩ (.bool true))) ?hg ?ho ?hn ?hr ?_; (case ho => rfl); (case hg => rfl); (case hn => rfl); (case hr => first | (go_simp; done) | (go_simp; rfl)); intro w30 hw; have hg : w27.grownBy w30 (some go5) := (by rw [hw]; exact HP29.2); have hp_ : Kd.R Kd.bool 4 w30 w.heap.size (fun _ => True) (.slice (some ⟨go5, 0, none⟩) x3_2.length co5) y145 := (by rw [hw, Ny145.out]; exact HP29.1); clear HP29; have n0_ := Aside0.mk (hp_); have n1_ := Aside0.mk (blk_grown (upK BK136) hg (Kd.R_ne HO_3.out BK136.out (by decide))); have n2_ := Aside0.mk (blk_grown (upK BK142) hg (Kd.R_ne HO_3.out BK142.out (by decide))); have n3_ := Aside0.mk ((by rw [hw]; exact below_set (HB.out) GB5.out : Below w.heap.size w w30)); clear HO_3; clear BK136; clear BK142; clear HB; have HO_3 := n0_; have BK136 := n1_; have BK142 := n2_; have HB := n3_; clear n0_ n1_ n2_ n3_; clear hg hw hp_; have hcz31_0 : w30.cell? ⟨gb142, 0, none⟩ = some (.int .i64 ((rd_T73 l0_1 x18_2).f0)) := (blk_cell BK142.out 0).trans rfl; have hcz31_1 : w30.cell? ⟨gb142, 1, none⟩ = some (.int .i64 ((rd_T73 l0_1 x18_2).f1)) := (blk_cell BK142.out 1).trans rfl; have hfz31_0 := blk_frozen BK142.out 0; have hfz31_1 := blk_frozen BK142.out 1; have p23 : 0 ≤ (((rd_T73 l0_1 x18_2).f1) : Int) := of_decide_eq_true (by first | (with_reducible assumption) | assumption); have q23 : (((rd_T73 l0_1 x18_2).f1) : Int) < ((x3_2.length : Int) : Int) := of_decide_eq_true (by first | (with_reducible assumption) | assumption); obtain ⟨hx23_0, hf23_0⟩ := Kd.R_celln false HO_3.out (((rd_T73 l0_1 x18_2).f1) : Int) p23 q23; replace p23 := eq_true p23; replace q23 := eq_true q23; obtain ⟨hy32_, hz32_⟩ := Kd.R_celln false HO_3.out (((rd_T73 l0_1 x18_2).f1) : Int) (of_decide_eq_true (by first | (with_reducible assumption) | assumption)) (of_decide_eq_true (by first | (with_reducible assumption) | assumption)); have HP32 := Kd.R_putg HO_3.out (((rd_T73 l0_1 x18_2).f1) : Int) true) | ((with_reducible refine gate_store (t := 4) (p := 40) rfl ?_); (try (rw [drewN_self w30]; generalize hq_ : World.drewN w30 _ = w30; have n0_ := Aside0.mk (Kd.R_at hq_ HO_3.out); have n1_ := Aside0.mk (blk_at hq_ BK136.out); have n2_ := Aside0.mk (blk_at hq_ BK142.out); have n3_ := Aside0.mk (below_at hq_ HB.out); clear hq_ HO_3 BK136 BK142 HB; have HO_3 := n0_; have BK136 := n1_; have BK142 := n2_; have HB := n3_; clear n0_ n1_ n2_ n3_; (try (obtain ⟨hy32_, hz32_⟩ := Kd.R_celln false HO_3.out (((rd_T73 l0_1 x18_2).f1) : Int) (of_decide_eq_true (by first | (with_reducible assumption) | assumption)) (of_decide_eq_true (by first | (with_reducible assumption) | assumption)))); (try (have HP32 := Kd.R_putg HO_3.out (((rd_T73 l0_1 x18_2).f1) : Int) true)))); refine store_event (t := 4) (p := 40) (v := ?vo_w33) (w1 := (w30.setCell ⟨go5, (((rd_T73 l0_1 x18_2).f1) : Int).toNat, none⟩ (.bool true))) ?hg ?ho ?hn ?hr ?_; (case ho => rfl); (case hg => rfl); (case hn => rfl); (case hr => first | (go_simp; done) | (go_simp; rfl)); intro w33 hw; have hg : w30.grownBy w33 (some go5) := (by rw [hw]; exact HP32.2); have hp_ : Kd.R Kd.bool 4 w33 w.heap.size (fun _ => True) (.slice (some ⟨go5, 0, none⟩) x3_2.length co5) y146 := (by rw [hw, Ny146.out]; exact HP32.1); clear HP32; have n0_ := Aside0.mk (hp_); have n1_ := Aside0.mk (blk_grown (upK BK136) hg (Kd.R_ne HO_3.out BK136.out (by decide))); have n2_ := Aside0.mk (blk_grown (upK BK142) hg (Kd.R_ne HO_3.out BK142.out (by decide))); have n3_ := Aside0.mk ((by rw [hw]; exact below_set (HB.out) GB5.out : Below w.heap.size w w33)); clear HO_3; clear BK136; clear BK142; clear HB; have HO_3 := n0_; have BK136 := n1_; have BK142 := n2_; have HB := n3_; clear n0_ n1_ n2_ n3_; clear hg hw hp_)); try go_wp2_with (first | ((with_reducible refine gate_dst (N := 6) rfl ?_); refine box_event ?hg (N := 6) ?hd (cs := #[.int .i64 0, .int .i64 0]) (t := 73) ?hr ?_; (case hd => rfl); (case hg => rfl); (case hr => first | (go_simp; done) | (go_simp; rfl)); intro gb142 hg w24 hbox hb; have n0_ := Aside0.mk (Kd.R_below (upR HO_3) hb); have n1_ := Aside0.mk (blk_below (upK BK136) hb); have n2_ := Aside0.mk (below_step (upW HB) hb); have n3_ := Aside0.mk (hbox); have n4_ := Aside0.mk ((by rw [hg]; exact (below_size (upW HB)) : w.heap.size ≤ gb142)); have n5_ := Aside0.mk ((by rw [hg]; exact (below_size (upW HB)) : w.heap.size ≤ gb142)); have n6_ := Aside0.mk ((by rw [hg]; exact Nat.ne_of_lt (blk_lt (upK BK136)) : gb136 ≠ gb142)); have n7_ := Aside0.mk ((by rw [hg]; exact Nat.ne_of_gt (blk_lt (upK BK136)) : gb142 ≠ gb136)); clear HO_3; clear BK136; clear HB; have HO_3 := n0_; have BK136 := n1_; have HB := n2_; have BK142 := n3_; have GW142 := n4_; have GE142 := n5_; have NB136_142 := n6_; have NB142_136 := n7_; clear n0_ n1_ n2_ n3_ n4_ n5_ n6_ n7_; clear hb hbox hg; have hnb25 := NB142_136.out; have hnc25 := NB136_142.out; have hcz26_0 : w24.cell? ⟨gb142, 0, none⟩ = some (.int .i64 0) := (blk_cell BK142.out 0).trans rfl; have hcz26_1 : w24.cell? ⟨gb142, 1, none⟩ = some (.int .i64 0) := (blk_cell BK142.out 1).trans rfl; have hfz26_0 := blk_frozen BK142.out 0; have hfz26_1 := blk_frozen BK142.out 1) | ((with_reducible refine gate_store (t := 73) (p := 6) rfl ?_); (try (rw [drewN_self w24]; generalize hq_ : World.drewN w24 _ = w24; have n0_ := Aside0.mk (Kd.R_at hq_ HO_3.out); have n1_ := Aside0.mk (blk_at hq_ BK136.out); have n2_ := Aside0.mk (blk_at hq_ BK142.out); have n3_ := Aside0.mk (below_at hq_ HB.out); clear hq_ HO_3 BK136 BK142 HB; have HO_3 := n0_; have BK136 := n1_; have BK142 := n2_; have HB := n3_; clear n0_ n1_ n2_ n3_)); refine store_event (t := 73) (p := 6) (v := ?vo_w27) (w1 := ((w24.setCell ⟨gb142, 0, none⟩ (.int .i64 ((rd_T73 l0_1 x18_2).f0))).setCell ⟨gb142, 1, none⟩ (.int .i64 ((rd_T73 l0_1 x18_2).f1)))) ?hg ?ho ?hn ?hr ?_; (case ho => rfl); (case hg => rfl); (case hn => rfl); (case hr => first | (go_simp; done) | (go_simp; rfl)); intro w27 hw; have n0_ : Aside0 (Kd.R Kd.bool 4 w27 w.heap.size (fun _ => True) (.slice (some ⟨go5, 0, none⟩) x3_2.length co5) x3_2) := ⟨(by rw [hw]; exact (by (with_reducible repeat (first | apply Kd.R_alloc | apply Kd.R_drewN | apply Kd.R_drew)); exact Kd.R_mono (Kd.R_far (p := ⟨gb142, 1, none⟩) (Kd.R_far (p := ⟨gb142, 0, none⟩) (Kd.R_types HO_3.out BK142.out (by decide)) (fun _ hk => hk.2) (.int .i64 ((rd_T73 l0_1 x18_2).f0))) (fun _ hk => hk.2) (.int .i64 ((rd_T73 l0_1 x18_2).f1))) (fun _ hk => trivial)))⟩; have n1_ : Aside0 (w27.heap[gb136]? = some (.cells #[.int .i64 a0_0, .slice (some ad141) l0_1.length c0_1] 30 (0, 0))) := ⟨(by rw [hw]; exact (upF BK136))⟩; have n2_ : Aside0 (w27.heap[gb142]? = some (.cells #[.int .i64 ((rd_T73 l0_1 x18_2).f0), .int .i64 ((rd_T73 l0_1 x18_2).f1)] 73 (0, 0))) := ⟨(by rw [hw]; exact (by (with_reducible repeat (first | refine blk_drewN ?_ _ | refine blk_drew ?_ | refine blk_alloc ?_ _)); refine blk_put (cs := #[.int .i64 ((rd_T73 l0_1 x18_2).f0), .int .i64 0]) ?_ 1 _ rfl; (with_reducible repeat (first | refine blk_drewN ?_ _ | refine blk_drew ?_ | refine blk_alloc ?_ _)); refine blk_put (cs := #[.int .i64 0, .int .i64 0]) ?_ 0 _ rfl; (with_reducible repeat (first | refine blk_drewN ?_ _ | refine blk_drew ?_ | refine blk_alloc ?_ _)); exact BK142.out))⟩; have n3_ : Aside0 (Below w.heap.size w w27) := ⟨(by rw [hw]; exact (upW HB))⟩; clear hw; clear HO_3; clear BK136; clear BK142; clear HB; have HO_3 := n0_; have BK136 := n1_; have BK142 := n2_; have HB := n3_; clear n0_ n1_ n2_ n3_; have hcz28_0 : w27.cell? ⟨gb142, 0, none⟩ = some (.int .i64 ((rd_T73 l0_1 x18_2).f0)) := (blk_cell BK142.out 0).trans rfl; have hcz28_1 : w27.cell? ⟨gb142, 1, none⟩ = some (.int .i64 ((rd_T73 l0_1 x18_2).f1)) := (blk_cell BK142.out 1).trans rfl; have hfz28_0 := blk_frozen BK142.out 0; have hfz28_1 := blk_frozen BK142.out 1; have p143 : 0 ≤ (((rd_T73 l0_1 x18_2).f0) : Int) := of_decide_eq_true (by first | (with_reducible assumption) | assumption); have q143 : ((rd_T73 l0_1 x18_2).f0) < (x3_2.length : Int) := of_decide_eq_true (by first | (with_reducible assumption) | assumption); obtain ⟨ad143, e143, hx143_0⟩ := Kd.at_bool (Kd.R_reads' HO_3.out).2.2 ((rd_T73 l0_1 x18_2).f0) p143 q143; obtain rfl : (⟨go5, 0, none⟩ : Addr) = ad143 := (by injection e143); (first | simp only [add_plain] at hx143_0 | simp only [add_at] at hx143_0 | simp only [Addr.add, Nat.zero_add] at hx143_0 | skip); replace p143 := eq_true p143; replace q143 := eq_true q143; have p144 : 0 ≤ (((rd_T73 l0_1 x18_2).f1) : Int) := of_decide_eq_true (by first | (with_reducible assumption) | assumption); have q144 : ((rd_T73 l0_1 x18_2).f1) < (x3_2.length : Int) := of_decide_eq_true (by first | (with_reducible assumption) | assumption); obtain ⟨ad144, e144, hx144_0⟩ := Kd.at_bool (Kd.R_reads' HO_3.out).2.2 ((rd_T73 l0_1 x18_2).f1) p144 q144; obtain rfl : (⟨go5, 0, none⟩ : Addr) = ad144 := (by injection e144); (first | simp only [add_plain] at hx144_0 | simp only [add_at] at hx144_0 | simp only [Addr.add, Nat.zero_add] at hx144_0 | skip); replace p144 := eq_true p144; replace q144 := eq_true q144; have p22 : 0 ≤ (((rd_T73 l0_1 x18_2).f0) : Int) := of_decide_eq_true (by first | (with_reducible assumption) | assumption); have q22 : (((rd_T73 l0_1 x18_2).f0) : Int) < ((x3_2.length : Int) : Int) := of_decide_eq_true (by first | (with_reducible assumption) | assumption); obtain ⟨hx22_0, hf22_0⟩ := Kd.R_celln false HO_3.out (((rd_T73 l0_1 x18_2).f0) : Int) p22 q22; replace p22 := eq_true p22; replace q22 := eq_true q22; obtain ⟨hy29_, hz29_⟩ := Kd.R_celln false HO_3.out (((rd_T73 l0_1 x18_2).f0) : Int) (of_decide_eq_true (by first | (with_reducible assumption) | assumption)) (of_decide_eq_true (by first | (with_reducible assumption) | assumption)); have HP29 := Kd.R_putg HO_3.out (((rd_T73 l0_1 x18_2).f0) : Int) true) | ((with_reducible refine gate_store (t := 4) (p := 36) rfl ?_); (try (rw [drewN_self w27]; generalize hq_ : World.drewN w27 _ = w27; have n0_ := Aside0.mk (Kd.R_at hq_ HO_3.out); have n1_ := Aside0.mk (blk_at hq_ BK136.out); have n2_ := Aside0.mk (blk_at hq_ BK142.out); have n3_ := Aside0.mk (below_at hq_ HB.out); clear hq_ HO_3 BK136 BK142 HB; have HO_3 := n0_; have BK136 := n1_; have BK142 := n2_; have HB := n3_; clear n0_ n1_ n2_ n3_; (try (obtain ⟨hy29_, hz29_⟩ := Kd.R_celln false HO_3.out (((rd_T73 l0_1 x18_2).f0) : Int) (of_decide_eq_true (by first | (with_reducible assumption) | assumption)) (of_decide_eq_true (by first | (with_reducible assumption) | assumption)))); (try (have HP29 := Kd.R_putg HO_3.out (((rd_T73 l0_1 x18_2).f0) : Int) true)))); refine store_event (t := 4) (p := 36) (v := ?vo_w30) (w1 := (w27.setCell ⟨go5, (((rd_T73 l0_1 x18_2).f0) : Int).toNat, none⟩ (.bool true))) ?hg ?ho ?hn ?hr ?_; (case ho => rfl); (case hg => rfl); (case hn => rfl); (case hr => first | (go_simp; done) | (go_simp; rfl)); intro w30 hw; have hg : w27.grownBy w30 (some go5) := (by rw [hw]; exact HP29.2); have hp_ : Kd.R Kd.bool 4 w30 w.heap.size (fun _ => True) (.slice (some ⟨go5, 0, none⟩) x3_2.length co5) y145 := (by rw [hw, Ny145.out]; exact HP29.1); clear HP29; have n0_ := Aside0.mk (hp_); have n1_ := Aside0.mk (blk_grown (upK BK136) hg (Kd.R_ne HO_3.out BK136.out (by decide))); have n2_ := Aside0.mk (blk_grown (upK BK142) hg (Kd.R_ne HO_3.out BK142.out (by decide))); have n3_ := Aside0.mk ((by rw [hw]; exact below_set (HB.out) GB5.out : Below w.heap.size w w30)); clear HO_3; clear BK136; clear BK142; clear HB; have HO_3 := n0_; have BK136 := n1_; have BK142 := n2_; have HB := n3_; clear n0_ n1_ n2_ n3_; clear hg hw hp_; have hcz31_0 : w30.cell? ⟨gb142, 0, none⟩ = some (.int .i64 ((rd_T73 l0_1 x18_2).f0)) := (blk_cell BK142.out 0).trans rfl; have hcz31_1 : w30.cell? ⟨gb142, 1, none⟩ = some (.int .i64 ((rd_T73 l0_1 x18_2).f1)) := (blk_cell BK142.out 1).trans rfl; have hfz31_0 := blk_frozen BK142.out 0; have hfz31_1 := blk_frozen BK142.out 1; have p23 : 0 ≤ (((rd_T73 l0_1 x18_2).f1) : Int) := of_decide_eq_true (by first | (with_reducible assumption) | assumption); have q23 : (((rd_T73 l0_1 x18_2).f1) : Int) < ((x3_2.length : Int) : Int) := of_decide_eq_true (by first | (with_reducible assumption) | assumption); obtain ⟨hx23_0, hf23_0⟩ := Kd.R_celln false HO_3.out (((rd_T73 l0_1 x18_2).f1) : Int) p23 q23; replace p23 := eq_true p23; replace q23 := eq_true q23; obtain ⟨hy32_, hz32_⟩ := Kd.R_celln false HO_3.out (((rd_T73 l0_1 x18_2).f1) : Int) (of_decide_eq_true (by first | (with_reducible assumption) | assumption)) (of_decide_eq_true (by first | (with_reducible assumption) | assumption)); have HP32 := Kd.R_putg HO_3.out (((rd_T73 l0_1 x18_2).f1) : Int) true) | ((with_reducible refine gate_store (t := 4) (p := 40) rfl ?_); (try (rw [drewN_self w30]; generalize hq_ : World.drewN w30 _ = w30; have n0_ := Aside0.mk (Kd.R_at hq_ HO_3.out); have n1_ := Aside0.mk (blk_at hq_ BK136.out); have n2_ := Aside0.mk (blk_at hq_ BK142.out); have n3_ := Aside0.mk (below_at hq_ HB.out); clear hq_ HO_3 BK136 BK142 HB; have HO_3 := n0_; have BK136 := n1_; have BK142 := n2_; have HB := n3_; clear n0_ n1_ n2_ n3_; (try (obtain ⟨hy32_, hz32_⟩ := Kd.R_celln false HO_3.out (((rd_T73 l0_1 x18_2).f1) : Int) (of_decide_eq_true (by first | (with_reducible assumption) | assumption)) (of_decide_eq_true (by first | (with_reducible assumption) | assumption)))); (try (have HP32 := Kd.R_putg HO_3.out (((rd_T73 l0_1 x18_2).f1) : Int) true)))); refine store_event (t := 4) (p := 40) (v := ?vo_w33) (w1 := (w30.setCell ⟨go5, (((rd_T73 l0_1 x18_2).f1) : Int).toNat, none⟩ (.bool true))) ?hg ?ho ?hn ?hr ?_; (case ho => rfl); (case hg => rfl); (case hn => rfl); (case hr => first | (go_simp; done) | (go_simp; rfl)); intro w33 hw; have hg : w30.grownBy w33 (some go5) := (by rw [hw]; exact HP32.2); have hp_ : Kd.R Kd.bool 4 w33 w.heap.size (fun _ => True) (.slice (some ⟨go5, 0, none⟩) x3_2.length co5) y146 := (by rw [hw, Ny146.out]; exact HP32.1); clear HP32; have n0_ := Aside0.mk (hp_); have n1_ := Aside0.mk (blk_grown (upK BK136) hg (Kd.R_ne HO_3.out BK136.out (by decide))); have n2_ := Aside0.mk (blk_grown (upK BK142) hg (Kd.R_ne HO_3.out BK142.out (by decide))); have n3_ := Aside0.mk ((by rw [hw]; exact below_set (HB.out) GB5.out : Below w.heap.size w w33)); clear HO_3; clear BK136; clear BK142; clear HB; have HO_3 := n0_; have BK136 := n1_; have BK142 := n2_; have HB := n3_; clear n0_ n1_ n2_ n3_; clear hg hw hp_)))
                 (try simp only [← hl3_2])
                 go_roundg k2
                 case measure => have := HK1.out; have := HK2.out; omega
                 case rel => exact ⟨(y146), (true), (wrap64 (x18_2 + 1)), (by first | rfl | (simp; done) | (simp [*]; done)), (by first | rfl | (simp; done) | (simp [*]; done)), H', ⟨by have := HK1.out; have := HK2.out; omega⟩, ⟨by (try simp only [hl3_1]); (try simp only [hl3_2]); (with_reducible repeat (first | apply Kd.R_alloc | apply Kd.R_drewN | apply Kd.R_drew)); exact HO_3.out⟩, ⟨by (try simp only [hl3_1]); (try simp only [hl3_2]); (with_reducible repeat (first | refine blk_drewN ?_ _ | refine blk_drew ?_ | refine blk_alloc ?_ _)); exact BK136.out⟩, ⟨upW HB⟩⟩
                ·rw [if_neg c21] at H
                 have c21b0 : ((rdOf false x3_2 ((rd_T73 l0_1 x18_2).f0)) != (rdOf false x3_2 ((rd_T73 l0_1 x18_2).f1))) = false := by simpa using c21
                 (try (have c21b1 : decide ((rdOf false x3_2 ((rd_T73 l0_1 x18_2).f0)) = (rdOf false x3_2 ((rd_T73 l0_1 x18_2).f1))) = true := by simpa using c21))
                 (try (have c21b2 : ((rdOf false x3_2 ((rd_T73 l0_1 x18_2).f0)) == (rdOf false x3_2 ((rd_T73 l0_1 x18_2).f1))) = true := by simpa using c21))
                 clear c21
                 have H' := Aside0.mk H
                 clear H
                 have p141 : 0 ≤ (x18_2 : Int) := of_decide_eq_true (by first | (with_reducible assumption) | assumption)
                 have q141 : x18_2 < (l0_1.length : Int) := of_decide_eq_true (by first | (with_reducible assumption) | assumption)
                 obtain ⟨ad141, e141, hx141_0, hx141_1⟩ := at_T73 HR0_1.out x18_2 p141 q141
                 cases e141
                 replace hx141_0 := (HB.out.cell (World.block_lt_of_cell? w _ hx141_0)).trans hx141_0
                 replace hx141_1 := (HB.out.cell (World.block_lt_of_cell? w _ hx141_1)).trans hx141_1
                 replace p141 := eq_true p141
                 replace q141 := eq_true q141
                 go_wp2_with (first | ((with_reducible refine gate_dst (N := 6) rfl ?_); refine box_event ?hg (N := 6) ?hd (cs := #[.int .i64 0, .int .i64 0]) (t := 73) ?hr ?_; (case hd => rfl); (case hg => rfl); (case hr => first | (go_simp; done) | (go_simp; rfl)); intro gb142 hg w34 hbox hb; have n0_ := Aside0.mk (Kd.R_below (upR HO_3) hb); have n1_ := Aside0.mk (blk_below (upK BK136) hb); have n2_ := Aside0.mk (below_step (upW HB) hb); have n3_ := Aside0.mk (hbox); have n4_ := Aside0.mk ((by rw [hg]; exact (below_size (upW HB)) : w.heap.size ≤ gb142)); have n5_ := Aside0.mk ((by rw [hg]; exact (below_size (upW HB)) : w.heap.size ≤ gb142)); have n6_ := Aside0.mk ((by rw [hg]; exact Nat.ne_of_lt (blk_lt (upK BK136)) : gb136 ≠ gb142)); have n7_ := Aside0.mk ((by rw [hg]; exact Nat.ne_of_gt (blk_lt (upK BK136)) : gb142 ≠ gb136)); clear HO_3; clear BK136; clear HB; have HO_3 := n0_; have BK136 := n1_; have HB := n2_; have BK142 := n3_; have GW142 := n4_; have GE142 := n5_; have NB136_142 := n6_; have NB142_136 := n7_; clear n0_ n1_ n2_ n3_ n4_ n5_ n6_ n7_; clear hb hbox hg; have hnb35 := NB142_136.out; have hnc35 := NB136_142.out; have hcz36_0 : w34.cell? ⟨gb142, 0, none⟩ = some (.int .i64 0) := (blk_cell BK142.out 0).trans rfl; have hcz36_1 : w34.cell? ⟨gb142, 1, none⟩ = some (.int .i64 0) := (blk_cell BK142.out 1).trans rfl; have hfz36_0 := blk_frozen BK142.out 0; have hfz36_1 := blk_frozen BK142.out 1; have p143 : 0 ≤ (((rd_T73 l0_1 x18_2).f0) : Int) := of_decide_eq_true (by first | (with_reducible assumption) | assumption); have q143 : ((rd_T73 l0_1 x18_2).f0) < (x3_2.length : Int) := of_decide_eq_true (by first | (with_reducible assumption) | assumption); obtain ⟨ad143, e143, hx143_0⟩ := Kd.at_bool (Kd.R_reads' HO_3.out).2.2 ((rd_T73 l0_1 x18_2).f0) p143 q143; obtain rfl : (⟨go5, 0, none⟩ : Addr) = ad143 := (by injection e143); (first | simp only [add_plain] at hx143_0 | simp only [add_at] at hx143_0 | simp only [Addr.add, Nat.zero_add] at hx143_0 | skip); have hn143_0 : (⟨go5, 0, none⟩ : Addr).block ≠ gb142 := Kd.own_blk (Kd.R_ne HO_3.out BK142.out (by decide)); have hn143_1 : (⟨go5, 0, none⟩ : Addr).block ≠ gb142 := Kd.own_blk (Kd.R_ne HO_3.out BK142.out (by decide)); replace hx143_0 := (cell_far (p := ⟨gb142, 0, none⟩) (by first | (rw [add_block]; exact hn143_0) | (show (Addr.add _ _).block ≠ _; rw [add_block]; exact hn143_0) | exact hn143_0) (.int .i64 ((rd_T73 l0_1 x18_2).f0))).trans hx143_0; replace hx143_0 := (cell_far (p := ⟨gb142, 1, none⟩) (by first | (rw [add_block]; exact hn143_1) | (show (Addr.add _ _).block ≠ _; rw [add_block]; exact hn143_1) | exact hn143_1) (.int .i64 ((rd_T73 l0_1 x18_2).f1))).trans hx143_0; (try have hy143_0 := fun (n_ : Nat) => (show ((((w34.drewN n_).setCell ⟨gb142, 0, none⟩ (.int .i64 ((rd_T73 l0_1 x18_2).f0))).setCell ⟨gb142, 1, none⟩ (.int .i64 ((rd_T73 l0_1 x18_2).f1)))).cell? _ = some _ from hx143_0)); clear hn143_0; clear hn143_1; replace p143 := eq_true p143; replace q143 := eq_true q143; have p144 : 0 ≤ (((rd_T73 l0_1 x18_2).f1) : Int) := of_decide_eq_true (by first | (with_reducible assumption) | assumption); have q144 : ((rd_T73 l0_1 x18_2).f1) < (x3_2.length : Int) := of_decide_eq_true (by first | (with_reducible assumption) | assumption); obtain ⟨ad144, e144, hx144_0⟩ := Kd.at_bool (Kd.R_reads' HO_3.out).2.2 ((rd_T73 l0_1 x18_2).f1) p144 q144; obtain rfl : (⟨go5, 0, none⟩ : Addr) = ad144 := (by injection e144); (first | simp only [add_plain] at hx144_0 | simp only [add_at] at hx144_0 | simp only [Addr.add, Nat.zero_add] at hx144_0 | skip); have hn144_0 : (⟨go5, 0, none⟩ : Addr).block ≠ gb142 := Kd.own_blk (Kd.R_ne HO_3.out BK142.out (by decide)); have hn144_1 : (⟨go5, 0, none⟩ : Addr).block ≠ gb142 := Kd.own_blk (Kd.R_ne HO_3.out BK142.out (by decide)); replace hx144_0 := (cell_far (p := ⟨gb142, 0, none⟩) (by first | (rw [add_block]; exact hn144_0) | (show (Addr.add _ _).block ≠ _; rw [add_block]; exact hn144_0) | exact hn144_0) (.int .i64 ((rd_T73 l0_1 x18_2).f0))).trans hx144_0; replace hx144_0 := (cell_far (p := ⟨gb142, 1, none⟩) (by first | (rw [add_block]; exact hn144_1) | (show (Addr.add _ _).block ≠ _; rw [add_block]; exact hn144_1) | exact hn144_1) (.int .i64 ((rd_T73 l0_1 x18_2).f1))).trans hx144_0; (try have hy144_0 := fun (n_ : Nat) => (show ((((w34.drewN n_).setCell ⟨gb142, 0, none⟩ (.int .i64 ((rd_T73 l0_1 x18_2).f0))).setCell ⟨gb142, 1, none⟩ (.int .i64 ((rd_T73 l0_1 x18_2).f1)))).cell? _ = some _ from hx144_0)); clear hn144_0; clear hn144_1; replace p144 := eq_true p144; replace q144 := eq_true q144))
                 repeat (go_quiet (first | ((with_reducible refine gate_dst (N := 6) rfl ?_); refine box_event ?hg (N := 6) ?hd (cs := #[.int .i64 0, .int .i64 0]) (t := 73) ?hr ?_; (case hd => rfl); (case hg => rfl); (case hr => first | (go_simp; done) | (go_simp; rfl)); intro gb142 hg w34 hbox hb; have n0_ := Aside0.mk (Kd.R_below (upR HO_3) hb); have n1_ := Aside0.mk (blk_below (upK BK136) hb); have n2_ := Aside0.mk (below_step (upW HB) hb); have n3_ := Aside0.mk (hbox); have n4_ := Aside0.mk ((by rw [hg]; exact (below_size (upW HB)) : w.heap.size ≤ gb142)); have n5_ := Aside0.mk ((by rw [hg]; exact (below_size (upW HB)) : w.heap.size ≤ gb142)); have n6_ := Aside0.mk ((by rw [hg]; exact Nat.ne_of_lt (blk_lt (upK BK136)) : gb136 ≠ gb142)); have n7_ := Aside0.mk ((by rw [hg]; exact Nat.ne_of_gt (blk_lt (upK BK136)) : gb142 ≠ gb136)); clear HO_3; clear BK136; clear HB; have HO_3 := n0_; have BK136 := n1_; have HB := n2_; have BK142 := n3_; have GW142 := n4_; have GE142 := n5_; have NB136_142 := n6_; have NB142_136 := n7_; clear n0_ n1_ n2_ n3_ n4_ n5_ n6_ n7_; clear hb hbox hg; have hnb35 := NB142_136.out; have hnc35 := NB136_142.out; have hcz36_0 : w34.cell? ⟨gb142, 0, none⟩ = some (.int .i64 0) := (blk_cell BK142.out 0).trans rfl; have hcz36_1 : w34.cell? ⟨gb142, 1, none⟩ = some (.int .i64 0) := (blk_cell BK142.out 1).trans rfl; have hfz36_0 := blk_frozen BK142.out 0; have hfz36_1 := blk_frozen BK142.out 1; have p143 : 0 ≤ (((rd_T73 l0_1 x18_2).f0) : Int) := of_decide_eq_true (by first | (with_reducible assumption) | assumption); have q143 : ((rd_T73 l0_1 x18_2).f0) < (x3_2.length : Int) := of_decide_eq_true (by first | (with_reducible assumption) | assumption); obtain ⟨ad143, e143, hx143_0⟩ := Kd.at_bool (Kd.R_reads' HO_3.out).2.2 ((rd_T73 l0_1 x18_2).f0) p143 q143; obtain rfl : (⟨go5, 0, none⟩ : Addr) = ad143 := (by injection e143); (first | simp only [add_plain] at hx143_0 | simp only [add_at] at hx143_0 | simp only [Addr.add, Nat.zero_add] at hx143_0 | skip); have hn143_0 : (⟨go5, 0, none⟩ : Addr).block ≠ gb142 := Kd.own_blk (Kd.R_ne HO_3.out BK142.out (by decide)); have hn143_1 : (⟨go5, 0, none⟩ : Addr).block ≠ gb142 := Kd.own_blk (Kd.R_ne HO_3.out BK142.out (by decide)); replace hx143_0 := (cell_far (p := ⟨gb142, 0, none⟩) (by first | (rw [add_block]; exact hn143_0) | (show (Addr.add _ _).block ≠ _; rw [add_block]; exact hn143_0) | exact hn143_0) (.int .i64 ((rd_T73 l0_1 x18_2).f0))).trans hx143_0; replace hx143_0 := (cell_far (p := ⟨gb142, 1, none⟩) (by first | (rw [add_block]; exact hn143_1) | (show (Addr.add _ _).block ≠ _; rw [add_block]; exact hn143_1) | exact hn143_1) (.int .i64 ((rd_T73 l0_1 x18_2).f1))).trans hx143_0; (try have hy143_0 := fun (n_ : Nat) => (show ((((w34.drewN n_).setCell ⟨gb142, 0, none⟩ (.int .i64 ((rd_T73 l0_1 x18_2).f0))).setCell ⟨gb142, 1, none⟩ (.int .i64 ((rd_T73 l0_1 x18_2).f1)))).cell? _ = some _ from hx143_0)); clear hn143_0; clear hn143_1; replace p143 := eq_true p143; replace q143 := eq_true q143; have p144 : 0 ≤ (((rd_T73 l0_1 x18_2).f1) : Int) := of_decide_eq_true (by first | (with_reducible assumption) | assumption); have q144 : ((rd_T73 l0_1 x18_2).f1) < (x3_2.length : Int) := of_decide_eq_true (by first | (with_reducible assumption) | assumption); obtain ⟨ad144, e144, hx144_0⟩ := Kd.at_bool (Kd.R_reads' HO_3.out).2.2 ((rd_T73 l0_1 x18_2).f1) p144 q144; obtain rfl : (⟨go5, 0, none⟩ : Addr) = ad144 := (by injection e144); (first | simp only [add_plain] at hx144_0 | simp only [add_at] at hx144_0 | simp only [Addr.add, Nat.zero_add] at hx144_0 | skip); have hn144_0 : (⟨go5, 0, none⟩ : Addr).block ≠ gb142 := Kd.own_blk (Kd.R_ne HO_3.out BK142.out (by decide)); have hn144_1 : (⟨go5, 0, none⟩ : Addr).block ≠ gb142 := Kd.own_blk (Kd.R_ne HO_3.out BK142.out (by decide)); replace hx144_0 := (cell_far (p := ⟨gb142, 0, none⟩) (by first | (rw [add_block]; exact hn144_0) | (show (Addr.add _ _).block ≠ _; rw [add_block]; exact hn144_0) | exact hn144_0) (.int .i64 ((rd_T73 l0_1 x18_2).f0))).trans hx144_0; replace hx144_0 := (cell_far (p := ⟨gb142, 1, none⟩) (by first | (rw [add_block]; exact hn144_1) | (show (Addr.add _ _).block ≠ _; rw [add_block]; exact hn144_1) | exact hn144_1) (.int .i64 ((rd_T73 l0_1 x18_2).f1))).trans hx144_0; (try have hy144_0 := fun (n_ : Nat) => (show ((((w34.drewN n_).setCell ⟨gb142, 0, none⟩ (.int .i64 ((rd_T73 l0_1 x18_2).f0))).setCell ⟨gb142, 1, none⟩ (.int .i64 ((rd_T73 l0_1 x18_2).f1)))).cell? _ = some _ from hx144_0)); clear hn144_0; clear hn144_1; replace p144 := eq_true p144; replace q144 := eq_true q144)); try go_wp2_with (first | ((with_reducible refine gate_dst (N := 6) rfl ?_); refine box_event ?hg (N := 6) ?hd (cs := #[.int .i64 0, .int .i64 0]) (t := 73) ?hr ?_; (case hd => rfl); (case hg => rfl); (case hr => first | (go_simp; done) | (go_simp; rfl)); intro gb142 hg w34 hbox hb; have n0_ := Aside0.mk (Kd.R_below (upR HO_3) hb); have n1_ := Aside0.mk (blk_below (upK BK136) hb); have n2_ := Aside0.mk (below_step (upW HB) hb); have n3_ := Aside0.mk (hbox); have n4_ := Aside0.mk ((by rw [hg]; exact (below_size (upW HB)) : w.heap.size ≤ gb142)); have n5_ := Aside0.mk ((by rw [hg]; exact (below_size (upW HB)) : w.heap.size ≤ gb142)); have n6_ := Aside0.mk ((by rw [hg]; exact Nat.ne_of_lt (blk_lt (upK BK136)) : gb136 ≠ gb142)); have n7_ := Aside0.mk ((by rw [hg]; exact Nat.ne_of_gt (blk_lt (upK BK136)) : gb142 ≠ gb136)); clear HO_3; clear BK136; clear HB; have HO_3 := n0_; have BK136 := n1_; have HB := n2_; have BK142 := n3_; have GW142 := n4_; have GE142 := n5_; have NB136_142 := n6_; have NB142_136 := n7_; clear n0_ n1_ n2_ n3_ n4_ n5_ n6_ n7_; clear hb hbox hg; have hnb35 := NB142_136.out; have hnc35 := NB136_142.out; have hcz36_0 : w34.cell? ⟨gb142, 0, none⟩ = some (.int .i64 0) := (blk_cell BK142.out 0).trans rfl; have hcz36_1 : w34.cell? ⟨gb142, 1, none⟩ = some (.int .i64 0) := (blk_cell BK142.out 1).trans rfl; have hfz36_0 := blk_frozen BK142.out 0; have hfz36_1 := blk_frozen BK142.out 1; have p143 : 0 ≤ (((rd_T73 l0_1 x18_2).f0) : Int) := of_decide_eq_true (by first | (with_reducible assumption) | assumption); have q143 : ((rd_T73 l0_1 x18_2).f0) < (x3_2.length : Int) := of_decide_eq_true (by first | (with_reducible assumption) | assumption); obtain ⟨ad143, e143, hx143_0⟩ := Kd.at_bool (Kd.R_reads' HO_3.out).2.2 ((rd_T73 l0_1 x18_2).f0) p143 q143; obtain rfl : (⟨go5, 0, none⟩ : Addr) = ad143 := (by injection e143); (first | simp only [add_plain] at hx143_0 | simp only [add_at] at hx143_0 | simp only [Addr.add, Nat.zero_add] at hx143_0 | skip); have hn143_0 : (⟨go5, 0, none⟩ : Addr).block ≠ gb142 := Kd.own_blk (Kd.R_ne HO_3.out BK142.out (by decide)); have hn143_1 : (⟨go5, 0, none⟩ : Addr).block ≠ gb142 := Kd.own_blk (Kd.R_ne HO_3.out BK142.out (by decide)); replace hx143_0 := (cell_far (p := ⟨gb142, 0, none⟩) (by first | (rw [add_block]; exact hn143_0) | (show (Addr.add _ _).block ≠ _; rw [add_block]; exact hn143_0) | exact hn143_0) (.int .i64 ((rd_T73 l0_1 x18_2).f0))).trans hx143_0; replace hx143_0 := (cell_far (p := ⟨gb142, 1, none⟩) (by first | (rw [add_block]; exact hn143_1) | (show (Addr.add _ _).block ≠ _; rw [add_block]; exact hn143_1) | exact hn143_1) (.int .i64 ((rd_T73 l0_1 x18_2).f1))).trans hx143_0; (try have hy143_0 := fun (n_ : Nat) => (show ((((w34.drewN n_).setCell ⟨gb142, 0, none⟩ (.int .i64 ((rd_T73 l0_1 x18_2).f0))).setCell ⟨gb142, 1, none⟩ (.int .i64 ((rd_T73 l0_1 x18_2).f1)))).cell? _ = some _ from hx143_0)); clear hn143_0; clear hn143_1; replace p143 := eq_true p143; replace q143 := eq_true q143; have p144 : 0 ≤ (((rd_T73 l0_1 x18_2).f1) : Int) := of_decide_eq_true (by first | (with_reducible assumption) | assumption); have q144 : ((rd_T73 l0_1 x18_2).f1) < (x3_2.length : Int) := of_decide_eq_true (by first | (with_reducible assumption) | assumption); obtain ⟨ad144, e144, hx144_0⟩ := Kd.at_bool (Kd.R_reads' HO_3.out).2.2 ((rd_T73 l0_1 x18_2).f1) p144 q144; obtain rfl : (⟨go5, 0, none⟩ : Addr) = ad144 := (by injection e144); (first | simp only [add_plain] at hx144_0 | simp only [add_at] at hx144_0 | simp only [Addr.add, Nat.zero_add] at hx144_0 | skip); have hn144_0 : (⟨go5, 0, none⟩ : Addr).block ≠ gb142 := Kd.own_blk (Kd.R_ne HO_3.out BK142.out (by decide)); have hn144_1 : (⟨go5, 0, none⟩ : Addr).block ≠ gb142 := Kd.own_blk (Kd.R_ne HO_3.out BK142.out (by decide)); replace hx144_0 := (cell_far (p := ⟨gb142, 0, none⟩) (by first | (rw [add_block]; exact hn144_0) | (show (Addr.add _ _).block ≠ _; rw [add_block]; exact hn144_0) | exact hn144_0) (.int .i64 ((rd_T73 l0_1 x18_2).f0))).trans hx144_0; replace hx144_0 := (cell_far (p := ⟨gb142, 1, none⟩) (by first | (rw [add_block]; exact hn144_1) | (show (Addr.add _ _).block ≠ _; rw [add_block]; exact hn144_1) | exact hn144_1) (.int .i64 ((rd_T73 l0_1 x18_2).f1))).trans hx144_0; (try have hy144_0 := fun (n_ : Nat) => (show ((((w34.drewN n_).setCell ⟨gb142, 0, none⟩ (.int .i64 ((rd_T73 l0_1 x18_2).f0))).setCell ⟨gb142, 1, none⟩ (.int .i64 ((rd_T73 l0_1 x18_2).f1)))).cell? _ = some _ from hx144_0)); clear hn144_0; clear hn144_1; replace p144 := eq_true p144; replace q144 := eq_true q144)))
                 (try simp only [← hl3_2])
                 go_roundg k2
                 case measure => have := HK1.out; have := HK2.out; omega
                 case rel => exact ⟨(x3_2), (x4_2), (wrap64 (x18_2 + 1)), (by first | rfl | (simp; done) | (simp [*]; done)), (by first | rfl | (simp; done) | (simp [*]; done)), H', ⟨by have := HK1.out; have := HK2.out; omega⟩, ⟨by (try simp only [hl3_1]); (try simp only [hl3_2]); (with_reducible repeat (first | apply Kd.R_alloc | apply Kd.R_drewN | apply Kd.R_drew)); exact Kd.R_mono (Kd.R_far (p := ⟨gb142, 1, none⟩) (Kd.R_far (p := ⟨gb142, 0, none⟩) (Kd.R_types HO_3.out BK142.out (by decide)) (fun _ hk => hk.2) (.int .i64 ((rd_T73 l0_1 x18_2).f0))) (fun _ hk => hk.2) (.int .i64 ((rd_T73 l0_1 x18_2).f1))) (fun _ hk => trivial)⟩, ⟨by (try simp only [hl3_1]); (try simp only [hl3_2]); (with_reducible repeat (first | refine blk_drewN ?_ _ | refine blk_drew ?_ | refine blk_alloc ?_ _)); refine blk_far ?_ NB136_142.out _; (with_reducible repeat (first | refine blk_drewN ?_ _ | refine blk_drew ?_ | refine blk_alloc ?_ _)); refine blk_far ?_ NB136_142.out _; (with_reducible repeat (first | refine blk_drewN ?_ _ | refine blk_drew ?_ | refine blk_alloc ?_ _)); exact BK136.out⟩, ⟨upW HB⟩⟩
               ·rw [if_neg c20] at H
                exact absurd H (by simp)
              ·rw [if_neg c19] at H
               exact absurd H (by simp)
             ·rw [if_neg c18] at H
              exact absurd H (by simp)
            ·rw [if_neg c17] at H
             exact absurd H (by simp)
           ·rw [if_neg c16] at H
            exact absurd H (by simp)
          ·rw [if_neg c15] at H
           exact absurd H (by simp)
         ·rw [if_neg c14] at H
          have c14b0 : decide (x18_2 < (l0_1.length : Int)) = false := decide_eq_false c14
          (try (have c14b0h0 := c14b0; simp only [hl3_1] at c14b0h0))
          (try (have c14b0h1 := c14b0; simp only [hl3_2] at c14b0h1))
          clear c14
          have H' := Aside0.mk H
          clear H
          go_wp2
          repeat (go_quiet (fail); try go_wp2)
          (try simp only [← hl3_1, ← hl3_2])
          go_roundg k2
          case measure => have := HK1.out; have := HK2.out; omega
          case rel => exact ⟨(x3_2), (x4_2), (by first | rfl | (simp; done) | (simp [*]; done)), H', ⟨by have := HK1.out; have := HK2.out; omega⟩, ⟨by (try simp only [hl3_1]); (try simp only [hl3_2]); (with_reducible repeat (first | apply Kd.R_alloc | apply Kd.R_drewN | apply Kd.R_drew)); exact HO_3.out⟩, ⟨by (try simp only [hl3_1]); (try simp only [hl3_2]); (with_reducible repeat (first | refine blk_drewN ?_ _ | refine blk_drew ?_ | refine blk_alloc ?_ _)); exact BK136.out⟩, ⟨upW HB⟩⟩
      ·replace c12 := Bool.eq_false_iff.mpr c12
       subst c12
       have H1 : (spec_neJoined.l2 k1 x3_1 (x3_1.length : Int) 0) = some r := by rw [if_neg (show ¬ (false = true) by decide)] at H; exact H
       clear H
       have H := H1
       clear H1
       have H' := Aside0.mk H
       clear H
       go_wp2
       repeat (go_quiet (fail); try go_wp2)
       go_loopg [44] k1 (fun kq v44 w' => ∃ (x44_2 : Int), v44 = .int .i64 x44_2 ∧ Aside0 (spec_neJoined.l2 kq x3_1 (x3_1.length : Int) x44_2 = some r) ∧ Aside0 (kq ≤ k1) ∧ Aside0 (Kd.R Kd.bool 4 w' w.heap.size (fun _ => True) (.slice (some ⟨go5, 0, none⟩) x3_1.length co5) x3_1) ∧ Aside0 (w'.heap[gb136]? = some (.cells #[.int .i64 a0_0, (.slice A0_1 l0_1.length c0_1)] 30 (0, 0))) ∧ Aside0 (Below w.heap.size w w'))
       case atStart => exact ⟨(0), (by first | rfl | (simp; done) | (simp [*]; done)), H', ⟨Nat.le_refl _⟩, ⟨by (try simp only [hl3_1]); (with_reducible repeat (first | apply Kd.R_alloc | apply Kd.R_drewN | apply Kd.R_drew)); exact HO_3.out⟩, ⟨by (try simp only [hl3_1]); (with_reducible repeat (first | refine blk_drewN ?_ _ | refine blk_drew ?_ | refine blk_alloc ?_ _)); exact BK136.out⟩, ⟨upW HB⟩⟩
       case round =>
        clear H'
        try clear c1
        try clear p1
        try clear q1
        try clear hx1
        try clear c2
        try clear c2b0
        try clear c2b1
        try clear p2
        try clear q2
        try clear hx2
        try clear hf2
        try clear c3
        try clear c3b0
        try clear c3b1
        try clear c4
        try clear c4b0
        try clear c4b1
        try clear p5
        try clear q5
        try clear hx5
        try clear qi5
        try clear hf5
        try clear p6
        try clear c8
        try clear c12
        try clear c14
        try clear c14b0
        try clear c14b0h0
        try clear c14b0h1
        try clear p14
        try clear q14
        try clear hx14
        try clear c15
        try clear c15b0
        try clear c16
        try clear c16b0
        try clear c16b0h0
        try clear c16b0h1
        try clear c17
        try clear c17b0
        try clear c18
        try clear c18b0
        try clear c18b0h0
        try clear c18b0h1
        try clear c19
        try clear c19b0
        try clear c20
        try clear c20b0
        try clear c20b0h0
        try clear c20b0h1
        try clear c21
        try clear c21b0
        try clear c21b1
        try clear c21b2
        try clear p22
        try clear q22
        try clear hx22
        try clear hf22
        try clear p23
        try clear q23
        try clear hx23
        try clear hf23
        try clear c25
        try clear c35
        try clear hcz13_0
        try clear hcz13_1
        try clear hcz26_0
        try clear hcz26_1
        try clear hcz28_0
        try clear hcz28_1
        try clear hcz31_0
        try clear hcz31_1
        try clear hcz36_0
        try clear hcz36_1
        try clear hcz7_0
        try clear hcz7_1
        try clear hfz13_0
        try clear hfz13_1
        try clear hfz26_0
        try clear hfz26_1
        try clear hfz28_0
        try clear hfz28_1
        try clear hfz31_0
        try clear hfz31_1
        try clear hfz36_0
        try clear hfz36_1
        try clear hfz7_0
        try clear hfz7_1
        try clear hx141_0
        try clear hx141_1
        try clear hx143_0
        try clear hx144_0
        try clear hx22_0
        try clear hx23_0
        try clear hx5_0
        try clear p141
        try clear p143
        try clear p144
        try clear p2
        try clear p22
        try clear p23
        try clear p5
        try clear q141
        try clear q143
        try clear q144
        try clear q22
        try clear q23
        try clear q5
        obtain ⟨x44_2, rfl, HA, HK2, HO_42, BK136, HB⟩ := hrel
        cases gk with
        | zero => exact absurd HA.out (by simp [spec_neJoined.l2])
        | succ k2 =>
         have H := HA.out
         clear HA
         simp only [spec_neJoined.l2] at H
         by_cases c37 : x44_2 < (x3_1.length : Int)
         ·rw [if_pos c37] at H
          have c37b0 : decide (x44_2 < (x3_1.length : Int)) = true := decide_eq_true c37
          (try (have c37b0h0 := c37b0; simp only [hl3_1] at c37b0h0))
          clear c37
          by_cases c38 : 0 ≤ x44_2
          ·rw [if_pos c38] at H
           have c38b0 : decide (0 ≤ x44_2) = true := decide_eq_true c38
           clear c38
           by_cases c39 : x44_2 < (x3_1.length : Int)
           ·rw [if_pos c39] at H
            have c39b0 : decide (x44_2 < (x3_1.length : Int)) = true := decide_eq_true c39
            (try (have c39b0h0 := c39b0; simp only [hl3_1] at c39b0h0))
            clear c39
            obtain ⟨bq40, hbq40⟩ : ∃ b_ : Bool, b_ = (rdOf false x3_1 x44_2) := ⟨_, rfl⟩
            replace H : (if bq40 = true then (spec_neJoined.l2 k2 x3_1 (x3_1.length : Int) (wrap64 (x44_2 + 1))) else (some false)) = some r := by rw [← hbq40] at H; exact H
            have Nbq40 := Aside0.mk hbq40
            clear hbq40
            by_cases c41 : bq40 = true
            ·subst c41
             have H1 : (spec_neJoined.l2 k2 x3_1 (x3_1.length : Int) (wrap64 (x44_2 + 1))) = some r := by rw [if_pos rfl] at H; exact H
             clear H
             have H := H1
             clear H1
             have H' := Aside0.mk H
             clear H
             have p147 : 0 ≤ (x44_2 : Int) := of_decide_eq_true (by first | (with_reducible assumption) | assumption)
             have q147 : x44_2 < (x3_1.length : Int) := of_decide_eq_true (by first | (with_reducible assumption) | assumption)
             obtain ⟨ad147, e147, hx147_0⟩ := Kd.at_bool (Kd.R_reads' HO_42.out).2.2 x44_2 p147 q147
             (try rw [← Nbq40.out] at hx147_0)
             obtain rfl : (⟨go5, 0, none⟩ : Addr) = ad147 := (by injection e147)
             (first | simp only [add_plain] at hx147_0 | simp only [add_at] at hx147_0 | simp only [Addr.add, Nat.zero_add] at hx147_0 | skip)
             replace p147 := eq_true p147
             replace q147 := eq_true q147
             go_wp2
             repeat (go_quiet (fail); try go_wp2)
             go_roundg k2
             case measure => have := HK1.out; have := HK2.out; omega
             case rel => exact ⟨(wrap64 (x44_2 + 1)), (by first | rfl | (simp; done) | (simp [*]; done)), H', ⟨by have := HK1.out; have := HK2.out; omega⟩, ⟨by (try simp only [hl3_1]); (with_reducible repeat (first | apply Kd.R_alloc | apply Kd.R_drewN | apply Kd.R_drew)); exact HO_42.out⟩, ⟨by (try simp only [hl3_1]); (with_reducible repeat (first | refine blk_drewN ?_ _ | refine blk_drew ?_ | refine blk_alloc ?_ _)); exact BK136.out⟩, ⟨upW HB⟩⟩
            ·replace c41 := Bool.eq_false_iff.mpr c41
             subst c41
             have H1 : (some false) = some r := by rw [if_neg (show ¬ (false = true) by decide)] at H; exact H
             clear H
             have H := H1
             clear H1
             obtain rfl := Option.some.inj H
             have p147 : 0 ≤ (x44_2 : Int) := of_decide_eq_true (by first | (with_reducible assumption) | assumption)
             have q147 : x44_2 < (x3_1.length : Int) := of_decide_eq_true (by first | (with_reducible assumption) | assumption)
             obtain ⟨ad147, e147, hx147_0⟩ := Kd.at_bool (Kd.R_reads' HO_42.out).2.2 x44_2 p147 q147
             (try rw [← Nbq40.out] at hx147_0)
             obtain rfl : (⟨go5, 0, none⟩ : Addr) = ad147 := (by injection e147)
             (first | simp only [add_plain] at hx147_0 | simp only [add_at] at hx147_0 | simp only [Addr.add, Nat.zero_add] at hx147_0 | skip)
             replace p147 := eq_true p147
             replace q147 := eq_true q147
             go_wp2
             repeat (go_quiet (fail); try go_wp2)
             go_ret
             exact ⟨by first | rfl | (simp [errW_none, errW_some] <;> rfl) | (simp [*, errW_none, errW_some] <;> rfl), by repeat (first | (with_reducible first | exact HB.out | apply below_alloc | apply pw_below_drewN | apply below_drew1 | refine below_set ?_ GE136.out) | exact HB.out)⟩
           ·rw [if_neg c39] at H
            exact absurd H (by simp)
          ·rw [if_neg c38] at H
           exact absurd H (by simp)
         ·rw [if_neg c37] at H
          have c37b0 : decide (x44_2 < (x3_1.length : Int)) = false := decide_eq_false c37
          (try (have c37b0h0 := c37b0; simp only [hl3_1] at c37b0h0))
          clear c37
          obtain rfl := Option.some.inj H
          go_wp2
          repeat (go_quiet (fail); try go_wp2)
          go_ret
          exact ⟨by first | rfl | (simp [errW_none, errW_some] <;> rfl) | (simp [*, errW_none, errW_some] <;> rfl), by repeat (first | (with_reducible first | exact HB.out | apply below_alloc | apply pw_below_drewN | apply below_drew1 | refine below_set ?_ GE136.out) | exact HB.out)⟩
   ·rw [if_neg c4] at H
    exact absurd H (by simp)
  ·rw [if_neg c3] at H
   exact absurd H (by simp)
 ·rw [if_neg c2] at H
  exact absurd H (by simp)

/-! ### spec_neGood: function 53 -/
mutual
def spec_neGood.j0 : Nat → Bool → Int → List (S73) → Option (Bool)
 | 0, _, _, _ => none
 | k + 1, x15, x149000, x149001 => if x15 = true then (some false) else (spec_neGood.l0 k x149001 (x149001.length : Int) 0 x149000 x149001)
def spec_neGood.l0 : Nat → List (S73) → Int → Int → Int → List (S73) → Option (Bool)
 | 0, _, _, _, _, _ => none
 | k + 1, x17, x18, x19, x149000, x149001 => if x19 < x18 then (if 0 ≤ x19 then (if x19 < (x17.length : Int) then ((spec_neWire.f x149000 x149001 ((rd_T73 x17 x19).f0) ((rd_T73 x17 x19).f1)).bind fun t153 => (if t153 = true then (spec_neGood.l0 k x17 x18 (wrap64 (x19 + 1)) x149000 x149001) else (some false))) else (none)) else (none)) else ((spec_neJoined.f k x149000 x149001).bind fun t154 => (some t154))
end
def spec_neGood.f (k : Nat) (a0_0 : Int) (l0_1 : List (S73)) : Option (Bool) := (spec_l1In.f a0_0 2 12).bind fun t149 => (if t149 = true then ((spec_l1In.f (l0_1.length : Int) 1 30).bind fun t150 => (spec_neGood.j0 k (!t150) a0_0 l0_1)) else (spec_neGood.j0 k true a0_0 l0_1))
set_option maxHeartbeats 8000000 in
set_option maxRecDepth 100000 in
theorem spec_neGood.calls (k : Nat) (a0_0 : Int) (A0_1 : Option Addr) (c0_1 : Nat) (l0_1 : List (S73)) (r : Bool) (w : World) (hr0_1 : Kd.C k73 w A0_1 l0_1.length l0_1) (hc0_1 : l0_1.length ≤ c0_1) (h : spec_neGood.f k a0_0 l0_1 = some r) :
  Calls Try.prog 53 #[.agg #[.int .i64 a0_0, .slice A0_1 l0_1.length c0_1]] w fun e w' => e = .returned (.bool r) ∧ Below w.heap.size w w' := by
 have hu30 := Try.underlying30
 have hu73 := Try.underlying73
 have HR0_1 := Aside0.mk hr0_1
 have HC0_1 := Aside0.mk hc0_1
 clear hr0_1 hc0_1
 have HB := Aside0.mk (Below.refl w.heap.size w)
 have H : ((spec_l1In.f a0_0 2 12).bind fun t149 => (if t149 = true then ((spec_l1In.f (l0_1.length : Int) 1 30).bind fun t150 => (spec_neGood.j0 k (!t150) a0_0 l0_1)) else (spec_neGood.j0 k true a0_0 l0_1))) = some r := h
 clear h
 have HC2 := Aside0.mk H
 clear H
 go_enter Try.func53, Try.ntmps53
 go_upto_region 1 with (first | ((with_reducible refine gate_dst (N := 1) rfl ?_); (try (refine gate_guard (by rfl) ?_; dsimp only)); refine box_event ?hg (N := 1) ?hd (cs := #[.int .i64 a0_0, .slice A0_1 l0_1.length c0_1]) (t := 30) ?hr ?_; (case hd => rfl); (case hg => rfl); (case hr => first | (go_simp; done) | (go_simp; rfl)); intro gb148 hg w3 hbox hb; have n0_ := Aside0.mk (below_step (upW HB) hb); have n1_ := Aside0.mk (hbox); have n2_ := Aside0.mk ((by rw [hg]; exact (below_size (upW HB)) : w.heap.size ≤ gb148)); have n3_ := Aside0.mk ((by rw [hg]; exact (below_size (upW HB)) : w.heap.size ≤ gb148)); clear HB; have HB := n0_; have BK148 := n1_; have GW148 := n2_; have GE148 := n3_; clear n0_ n1_ n2_ n3_; clear hb hbox hg))
 (try simp only [Act.put, List.setIfInBounds_toArray, List.set_cons_zero, List.set_cons_succ])
 go_cut [15] (fun v15 wc => ∃ (kq : Nat) (x15_1 : Bool), v15 = .bool x15_1 ∧ Aside0 (spec_neGood.j0 kq x15_1 a0_0 l0_1 = some r) ∧ Aside0 (kq ≤ k) ∧ Aside0 (wc.heap[gb148]? = some (.cells #[.int .i64 a0_0, (.slice A0_1 l0_1.length c0_1)] 30 (0, 0))) ∧ Aside0 (Below w.heap.size w wc))
 case first =>
  have H := HC2.out
  clear HC2
  replace H := Option.bind_eq_some_iff.mp H
  obtain ⟨t149, A40, H⟩ := H
  replace H : (if t149 = true then ((spec_l1In.f (l0_1.length : Int) 1 30).bind fun t150 => (spec_neGood.j0 k (!t150) a0_0 l0_1)) else (spec_neGood.j0 k true a0_0 l0_1)) = some r := H
  have A4 := Aside0.mk A40
  clear A40
  by_cases c5 : t149 = true
  ·subst c5
   have H1 : ((spec_l1In.f (l0_1.length : Int) 1 30).bind fun t150 => (spec_neGood.j0 k (!t150) a0_0 l0_1)) = some r := by rw [if_pos rfl] at H; exact H
   clear H
   have H := H1
   clear H1
   replace H := Option.bind_eq_some_iff.mp H
   obtain ⟨t150, A60, H⟩ := H
   replace H : (spec_neGood.j0 k (!t150) a0_0 l0_1) = some r := H
   have A6 := Aside0.mk A60
   clear A60
   have H' := Aside0.mk H
   clear H
   have hcz7_0 : w3.cell? ⟨gb148, 0, none⟩ = some (.int .i64 a0_0) := (blk_cell BK148.out 0).trans rfl
   have hcz7_1 : w3.cell? ⟨gb148, 1, none⟩ = some (.slice A0_1 l0_1.length c0_1) := (blk_cell BK148.out 1).trans rfl
   have hfz7_0 := blk_frozen BK148.out 0
   have hfz7_1 := blk_frozen BK148.out 1
   go_wp2_with (first | ((with_reducible refine gate_callee (f := 78) rfl ?_); refine goesL_ (some 7) rfl rfl Try.func78 (by kernel_rfl) rfl #[.int .i64 a0_0, .int .i64 2, .int .i64 12] rfl itp ?_; (with_reducible refine (spec_l1In.calls a0_0 2 12 true _ A4.out).mono ?_); rintro e w' ⟨rfl, ⟨nd, rfl⟩⟩; refine ⟨_, rfl, ?_⟩) | (go_at_call 78; (with_reducible refine (spec_l1In.calls (l0_1.length : Int) 1 30 t150 _ A6.out).mono ?_); rintro e w' ⟨rfl, ⟨nd, rfl⟩⟩))
   go_meet
   case rel => exact ⟨_, (!t150), (by first | rfl | (simp; done) | (simp [*]; done)), H', ⟨by first | omega | exact Nat.le_refl _⟩, ⟨upK BK148⟩, ⟨upW HB⟩⟩
  ·replace c5 := Bool.eq_false_iff.mpr c5
   subst c5
   have H1 : (spec_neGood.j0 k true a0_0 l0_1) = some r := by rw [if_neg (show ¬ (false = true) by decide)] at H; exact H
   clear H
   have H := H1
   clear H1
   have H' := Aside0.mk H
   clear H
   have hcz8_0 : w3.cell? ⟨gb148, 0, none⟩ = some (.int .i64 a0_0) := (blk_cell BK148.out 0).trans rfl
   have hcz8_1 : w3.cell? ⟨gb148, 1, none⟩ = some (.slice A0_1 l0_1.length c0_1) := (blk_cell BK148.out 1).trans rfl
   have hfz8_0 := blk_frozen BK148.out 0
   have hfz8_1 := blk_frozen BK148.out 1
   go_wp2_with (first | ((with_reducible refine gate_callee (f := 78) rfl ?_); refine goesL_ (some 7) rfl rfl Try.func78 (by kernel_rfl) rfl #[.int .i64 a0_0, .int .i64 2, .int .i64 12] rfl itp ?_; (with_reducible refine (spec_l1In.calls a0_0 2 12 false _ A4.out).mono ?_); rintro e w' ⟨rfl, ⟨nd, rfl⟩⟩; refine ⟨_, rfl, ?_⟩))
   go_meet
   case rel => exact ⟨_, (true), (by first | rfl | (simp; done) | (simp [*]; done)), H', ⟨by first | omega | exact Nat.le_refl _⟩, ⟨upK BK148⟩, ⟨upW HB⟩⟩
 case rest =>
  clear HC2
  try clear p2
  try clear c5
  try clear c7
  try clear hcz7_0
  try clear hcz7_1
  try clear hcz8_0
  try clear hcz8_1
  try clear hfz7_0
  try clear hfz7_1
  try clear hfz8_0
  try clear hfz8_1
  obtain ⟨kq, x15_1, rfl, HA, HJ1, BK148, HB⟩ := hcut
  cases kq with
  | zero => exact absurd HA.out (by simp [spec_neGood.j0])
  | succ kj1 =>
   have H := HA.out
   clear HA
   simp only [spec_neGood.j0] at H
   by_cases c9 : x15_1 = true
   ·subst c9
    have H1 : (some false) = some r := by rw [if_pos rfl] at H; exact H
    clear H
    have H := H1
    clear H1
    obtain rfl := Option.some.inj H
    go_wp2
    go_ret
    exact ⟨by first | rfl | (simp [errW_none, errW_some] <;> rfl) | (simp [*, errW_none, errW_some] <;> rfl), by repeat (first | (with_reducible first | exact HB.out | apply below_alloc | apply pw_below_drewN | apply below_drew1 | refine below_set ?_ GE148.out) | exact HB.out)⟩
   ·replace c9 := Bool.eq_false_iff.mpr c9
    subst c9
    have H1 : (spec_neGood.l0 kj1 l0_1 (l0_1.length : Int) 0 a0_0 l0_1) = some r := by rw [if_neg (show ¬ (false = true) by decide)] at H; exact H
    clear H
    have H := H1
    clear H1
    have H' := Aside0.mk H
    clear H
    have hcz10_0 : wc.cell? ⟨gb148, 0, none⟩ = some (.int .i64 a0_0) := (blk_cell BK148.out 0).trans rfl
    have hcz10_1 : wc.cell? ⟨gb148, 1, none⟩ = some (.slice A0_1 l0_1.length c0_1) := (blk_cell BK148.out 1).trans rfl
    have hfz10_0 := blk_frozen BK148.out 0
    have hfz10_1 := blk_frozen BK148.out 1
    go_wp2
    go_loopg [19] kj1 (fun kq v19 w' => ∃ (x19_2 : Int), v19 = .int .i64 x19_2 ∧ Aside0 (spec_neGood.l0 kq l0_1 (l0_1.length : Int) x19_2 a0_0 l0_1 = some r) ∧ Aside0 (kq ≤ kj1) ∧ Aside0 (w'.heap[gb148]? = some (.cells #[.int .i64 a0_0, (.slice A0_1 l0_1.length c0_1)] 30 (0, 0))) ∧ Aside0 (Below w.heap.size w w'))
    case atStart => exact ⟨(0), (by first | rfl | (simp; done) | (simp [*]; done)), H', ⟨Nat.le_refl _⟩, ⟨upK BK148⟩, ⟨upW HB⟩⟩
    case round =>
     clear H'
     try clear p2
     try clear c5
     try clear c7
     try clear c9
     try clear hcz10_0
     try clear hcz10_1
     try clear hcz7_0
     try clear hcz7_1
     try clear hcz8_0
     try clear hcz8_1
     try clear hfz10_0
     try clear hfz10_1
     try clear hfz7_0
     try clear hfz7_1
     try clear hfz8_0
     try clear hfz8_1
     try clear p2
     obtain ⟨x19_2, rfl, HA, HK2, BK148, HB⟩ := hrel
     cases gk with
     | zero => exact absurd HA.out (by simp [spec_neGood.l0])
     | succ k2 =>
      have H := HA.out
      clear HA
      simp only [spec_neGood.l0] at H
      by_cases c11 : x19_2 < (l0_1.length : Int)
      ·rw [if_pos c11] at H
       have c11b0 : decide (x19_2 < (l0_1.length : Int)) = true := decide_eq_true c11
       clear c11
       by_cases c12 : 0 ≤ x19_2
       ·rw [if_pos c12] at H
        have c12b0 : decide (0 ≤ x19_2) = true := decide_eq_true c12
        clear c12
        by_cases c13 : x19_2 < (l0_1.length : Int)
        ·rw [if_pos c13] at H
         have c13b0 : decide (x19_2 < (l0_1.length : Int)) = true := decide_eq_true c13
         clear c13
         replace H := Option.bind_eq_some_iff.mp H
         obtain ⟨t153, A140, H⟩ := H
         replace H : (if t153 = true then (spec_neGood.l0 k2 l0_1 (l0_1.length : Int) (wrap64 (x19_2 + 1)) a0_0 l0_1) else (some false)) = some r := H
         have A14 := Aside0.mk A140
         clear A140
         by_cases c15 : t153 = true
         ·subst c15
          have H1 : (spec_neGood.l0 k2 l0_1 (l0_1.length : Int) (wrap64 (x19_2 + 1)) a0_0 l0_1) = some r := by rw [if_pos rfl] at H; exact H
          clear H
          have H := H1
          clear H1
          have H' := Aside0.mk H
          clear H
          have p151 : 0 ≤ (x19_2 : Int) := of_decide_eq_true (by first | (with_reducible assumption) | assumption)
          have q151 : x19_2 < (l0_1.length : Int) := of_decide_eq_true (by first | (with_reducible assumption) | assumption)
          obtain ⟨ad151, e151, hx151_0, hx151_1⟩ := at_T73 HR0_1.out x19_2 p151 q151
          cases e151
          replace hx151_0 := (HB.out.cell (World.block_lt_of_cell? w _ hx151_0)).trans hx151_0
          replace hx151_1 := (HB.out.cell (World.block_lt_of_cell? w _ hx151_1)).trans hx151_1
          replace p151 := eq_true p151
          replace q151 := eq_true q151
          go_wp2_with (first | ((with_reducible refine gate_dst (N := 4) rfl ?_); (try (refine gate_guard (by rfl) ?_; dsimp only)); refine box_event ?hg (N := 4) ?hd (cs := #[.int .i64 0, .int .i64 0]) (t := 73) ?hr ?_; (case hd => rfl); (case hg => rfl); (case hr => first | (go_simp; done) | (go_simp; rfl)); intro gb152 hg w16 hbox hb; have n0_ := Aside0.mk (blk_below (upK BK148) hb); have n1_ := Aside0.mk (below_step (upW HB) hb); have n2_ := Aside0.mk (hbox); have n3_ := Aside0.mk ((by rw [hg]; exact (below_size (upW HB)) : w.heap.size ≤ gb152)); have n4_ := Aside0.mk ((by rw [hg]; exact (below_size (upW HB)) : w.heap.size ≤ gb152)); have n5_ := Aside0.mk ((by rw [hg]; exact Nat.ne_of_lt (blk_lt (upK BK148)) : gb148 ≠ gb152)); have n6_ := Aside0.mk ((by rw [hg]; exact Nat.ne_of_gt (blk_lt (upK BK148)) : gb152 ≠ gb148)); clear BK148; clear HB; have BK148 := n0_; have HB := n1_; have BK152 := n2_; have GW152 := n3_; have GE152 := n4_; have NB148_152 := n5_; have NB152_148 := n6_; clear n0_ n1_ n2_ n3_ n4_ n5_ n6_; clear hb hbox hg; have hnb17 := NB152_148.out; have hnc17 := NB148_152.out; have hcz18_0 : w16.cell? ⟨gb152, 0, none⟩ = some (.int .i64 0) := (blk_cell BK152.out 0).trans rfl; have hcz18_1 : w16.cell? ⟨gb152, 1, none⟩ = some (.int .i64 0) := (blk_cell BK152.out 1).trans rfl; have hfz18_0 := blk_frozen BK152.out 0; have hfz18_1 := blk_frozen BK152.out 1; have hcz19_0 : w16.cell? ⟨gb148, 0, none⟩ = some (.int .i64 a0_0) := (blk_cell BK148.out 0).trans rfl; have hcz19_1 : w16.cell? ⟨gb148, 1, none⟩ = some (.slice (some ad151) l0_1.length c0_1) := (blk_cell BK148.out 1).trans rfl; have hfz19_0 := blk_frozen BK148.out 0; have hfz19_1 := blk_frozen BK148.out 1) | ((with_reducible refine gate_callee (f := 87) rfl ?_); refine goesL_ (some 25) rfl rfl Try.func87 (by kernel_rfl) rfl #[.agg #[.int .i64 a0_0, .slice (some ad151) l0_1.length c0_1], .agg #[.int .i64 ((rd_T73 l0_1 x19_2).f0), .int .i64 ((rd_T73 l0_1 x19_2).f1)]] rfl itp ?_; (with_reducible refine (spec_neWire.calls a0_0 _ _ l0_1 ((rd_T73 l0_1 x19_2).f0) ((rd_T73 l0_1 x19_2).f1) true _ ?side1 ?side2 A14.out).mono ?_); (case side1 => exact Kd.C_below HR0_1.out (upW HB)); (case side2 => exact HC0_1.out); rintro e w20 ⟨rfl, hb⟩; refine ⟨_, rfl, ?_⟩; have n0_ := Aside0.mk (blk_below (upF BK148) hb); have n1_ := Aside0.mk (blk_below (g := gb152) (o := .cells #[.int .i64 ((rd_T73 l0_1 x19_2).f0), .int .i64 ((rd_T73 l0_1 x19_2).f1)] 73 (0, 0)) (by (with_reducible repeat (first | refine blk_drewN ?_ _ | refine blk_drew ?_ | refine blk_alloc ?_ _)); refine blk_put (cs := #[.int .i64 ((rd_T73 l0_1 x19_2).f0), .int .i64 0]) ?_ 1 _ rfl; (with_reducible repeat (first | refine blk_drewN ?_ _ | refine blk_drew ?_ | refine blk_alloc ?_ _)); refine blk_put (cs := #[.int .i64 0, .int .i64 0]) ?_ 0 _ rfl; (with_reducible repeat (first | refine blk_drewN ?_ _ | refine blk_drew ?_ | refine blk_alloc ?_ _)); exact BK152.out) hb); have n2_ := Aside0.mk (below_step (upW HB) hb); clear BK148; clear BK152; clear HB; have BK148 := n0_; have BK152 := n1_; have HB := n2_; clear n0_ n1_ n2_; (try clear hb); (try clear hb2); (try clear hk); (try clear hi)))
          go_roundg k2
          case measure => have := HJ1.out; have := HK2.out; omega
          case rel => exact ⟨(wrap64 (x19_2 + 1)), (by first | rfl | (simp; done) | (simp [*]; done)), H', ⟨by have := HJ1.out; have := HK2.out; omega⟩, ⟨upK BK148⟩, ⟨upW HB⟩⟩
         ·replace c15 := Bool.eq_false_iff.mpr c15
          subst c15
          have H1 : (some false) = some r := by rw [if_neg (show ¬ (false = true) by decide)] at H; exact H
          clear H
          have H := H1
          clear H1
          obtain rfl := Option.some.inj H
          have p151 : 0 ≤ (x19_2 : Int) := of_decide_eq_true (by first | (with_reducible assumption) | assumption)
          have q151 : x19_2 < (l0_1.length : Int) := of_decide_eq_true (by first | (with_reducible assumption) | assumption)
          obtain ⟨ad151, e151, hx151_0, hx151_1⟩ := at_T73 HR0_1.out x19_2 p151 q151
          cases e151
          replace hx151_0 := (HB.out.cell (World.block_lt_of_cell? w _ hx151_0)).trans hx151_0
          replace hx151_1 := (HB.out.cell (World.block_lt_of_cell? w _ hx151_1)).trans hx151_1
          replace p151 := eq_true p151
          replace q151 := eq_true q151
          go_wp2_with (first | ((with_reducible refine gate_dst (N := 4) rfl ?_); (try (refine gate_guard (by rfl) ?_; dsimp only)); refine box_event ?hg (N := 4) ?hd (cs := #[.int .i64 0, .int .i64 0]) (t := 73) ?hr ?_; (case hd => rfl); (case hg => rfl); (case hr => first | (go_simp; done) | (go_simp; rfl)); intro gb152 hg w21 hbox hb; have n0_ := Aside0.mk (blk_below (upK BK148) hb); have n1_ := Aside0.mk (below_step (upW HB) hb); have n2_ := Aside0.mk (hbox); have n3_ := Aside0.mk ((by rw [hg]; exact (below_size (upW HB)) : w.heap.size ≤ gb152)); have n4_ := Aside0.mk ((by rw [hg]; exact (below_size (upW HB)) : w.heap.size ≤ gb152)); have n5_ := Aside0.mk ((by rw [hg]; exact Nat.ne_of_lt (blk_lt (upK BK148)) : gb148 ≠ gb152)); have n6_ := Aside0.mk ((by rw [hg]; exact Nat.ne_of_gt (blk_lt (upK BK148)) : gb152 ≠ gb148)); clear BK148; clear HB; have BK148 := n0_; have HB := n1_; have BK152 := n2_; have GW152 := n3_; have GE152 := n4_; have NB148_152 := n5_; have NB152_148 := n6_; clear n0_ n1_ n2_ n3_ n4_ n5_ n6_; clear hb hbox hg; have hnb22 := NB152_148.out; have hnc22 := NB148_152.out; have hcz23_0 : w21.cell? ⟨gb152, 0, none⟩ = some (.int .i64 0) := (blk_cell BK152.out 0).trans rfl; have hcz23_1 : w21.cell? ⟨gb152, 1, none⟩ = some (.int .i64 0) := (blk_cell BK152.out 1).trans rfl; have hfz23_0 := blk_frozen BK152.out 0; have hfz23_1 := blk_frozen BK152.out 1; have hcz24_0 : w21.cell? ⟨gb148, 0, none⟩ = some (.int .i64 a0_0) := (blk_cell BK148.out 0).trans rfl; have hcz24_1 : w21.cell? ⟨gb148, 1, none⟩ = some (.slice (some ad151) l0_1.length c0_1) := (blk_cell BK148.out 1).trans rfl; have hfz24_0 := blk_frozen BK148.out 0; have hfz24_1 := blk_frozen BK148.out 1) | ((with_reducible refine gate_callee (f := 87) rfl ?_); refine goesL_ (some 25) rfl rfl Try.func87 (by kernel_rfl) rfl #[.agg #[.int .i64 a0_0, .slice (some ad151) l0_1.length c0_1], .agg #[.int .i64 ((rd_T73 l0_1 x19_2).f0), .int .i64 ((rd_T73 l0_1 x19_2).f1)]] rfl itp ?_; (with_reducible refine (spec_neWire.calls a0_0 _ _ l0_1 ((rd_T73 l0_1 x19_2).f0) ((rd_T73 l0_1 x19_2).f1) false _ ?side1 ?side2 A14.out).mono ?_); (case side1 => exact Kd.C_below HR0_1.out (upW HB)); (case side2 => exact HC0_1.out); rintro e w25 ⟨rfl, hb⟩; refine ⟨_, rfl, ?_⟩; have n0_ := Aside0.mk (blk_below (upF BK148) hb); have n1_ := Aside0.mk (blk_below (g := gb152) (o := .cells #[.int .i64 ((rd_T73 l0_1 x19_2).f0), .int .i64 ((rd_T73 l0_1 x19_2).f1)] 73 (0, 0)) (by (with_reducible repeat (first | refine blk_drewN ?_ _ | refine blk_drew ?_ | refine blk_alloc ?_ _)); refine blk_put (cs := #[.int .i64 ((rd_T73 l0_1 x19_2).f0), .int .i64 0]) ?_ 1 _ rfl; (with_reducible repeat (first | refine blk_drewN ?_ _ | refine blk_drew ?_ | refine blk_alloc ?_ _)); refine blk_put (cs := #[.int .i64 0, .int .i64 0]) ?_ 0 _ rfl; (with_reducible repeat (first | refine blk_drewN ?_ _ | refine blk_drew ?_ | refine blk_alloc ?_ _)); exact BK152.out) hb); have n2_ := Aside0.mk (below_step (upW HB) hb); clear BK148; clear BK152; clear HB; have BK148 := n0_; have BK152 := n1_; have HB := n2_; clear n0_ n1_ n2_; (try clear hb); (try clear hb2); (try clear hk); (try clear hi)))
          go_ret
          exact ⟨by first | rfl | (simp [errW_none, errW_some] <;> rfl) | (simp [*, errW_none, errW_some] <;> rfl), by repeat (first | (with_reducible first | exact HB.out | apply below_alloc | apply pw_below_drewN | apply below_drew1 | refine below_set ?_ GE148.out | refine below_set ?_ GE152.out) | exact HB.out)⟩
        ·rw [if_neg c13] at H
         exact absurd H (by simp)
       ·rw [if_neg c12] at H
        exact absurd H (by simp)
      ·rw [if_neg c11] at H
       have c11b0 : decide (x19_2 < (l0_1.length : Int)) = false := decide_eq_false c11
       clear c11
       replace H := Option.bind_eq_some_iff.mp H
       obtain ⟨t154, A260, H⟩ := H
       replace H : (some t154) = some r := H
       have A26 := Aside0.mk A260
       clear A260
       obtain rfl := Option.some.inj H
       have hcz27_0 : wr.cell? ⟨gb148, 0, none⟩ = some (.int .i64 a0_0) := (blk_cell BK148.out 0).trans rfl
       have hcz27_1 : wr.cell? ⟨gb148, 1, none⟩ = some (.slice A0_1 l0_1.length c0_1) := (blk_cell BK148.out 1).trans rfl
       have hfz27_0 := blk_frozen BK148.out 0
       have hfz27_1 := blk_frozen BK148.out 1
       go_wp2_with (first | ((with_reducible refine gate_callee (f := 88) rfl ?_); refine goesL_ (some 29) rfl rfl Try.func88 (by kernel_rfl) rfl #[.agg #[.int .i64 a0_0, .slice A0_1 l0_1.length c0_1]] rfl itp ?_; (with_reducible refine (spec_neJoined.calls k2 a0_0 _ _ l0_1 t154 _ ?side1 ?side2 A26.out).mono ?_); (case side1 => repeat (first | exact (Kd.C_below HR0_1.out HB.out) | (with_reducible refine Kd.C_alloc ?_ _) | (with_reducible refine Kd.C_drewN ?_ _) | (with_reducible refine Kd.C_drew ?_))); (case side2 => exact HC0_1.out); rintro e w28 ⟨rfl, hb⟩; refine ⟨_, rfl, ?_⟩; have n0_ := Aside0.mk (blk_below (upK BK148) hb); have n1_ := Aside0.mk (below_step (upW HB) hb); clear BK148; clear HB; have BK148 := n0_; have HB := n1_; clear n0_ n1_; (try clear hb); (try clear hb2); (try clear hk); (try clear hi)))
       go_ret
       exact ⟨by first | rfl | (simp [errW_none, errW_some] <;> rfl) | (simp [*, errW_none, errW_some] <;> rfl), by repeat (first | (with_reducible first | exact HB.out | apply below_alloc | apply pw_below_drewN | apply below_drew1 | refine below_set ?_ GE148.out) | exact HB.out)⟩

end Go.Proofs.Ytngbmjldnfljiaa.PFnExactDropWire
