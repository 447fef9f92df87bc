-- made for this claim by a program of this session
import Derived.Test.YtmmcbdndelaeoaaPFnExactIsSimplex0
import Derived.Test.YtmmcbdndelaeoaaPFnExactIsSimplex3
namespace Go.Proofs.Ytmmcbdndelaeoaa.PFnExactIsSimple
open Go.RowKit Go.Proofs.YtmmcbdndelaeoaaW.PrintWords Go.Proofs.YtmmcbdndelaeoaaW.PrintLast Go.Proofs.YtmmcbdndelaeoaaW.PrintMore
attribute [local go_sem] max2_int min2_int max_two min_two max_three min_three max_four min_four   -- for this text's walks alone
set_option linter.unusedVariables false
set_option linter.unusedSimpArgs false

/-! ### impl_Square_133: function 133 -/
set_option maxHeartbeats 8000000 in
theorem impl_Square_133.with (p : S97 → Bool) (fv : Nat) (lb : Array Value) (A : Option Addr) (c : Nat) (l : List S97) (w : World) (hr : Kd.C k97 w A l.length l)
  (eg : ∀ args w, (callFunc fv args).run Try.prog w = .ok (.enter fv args) w)
  (hp : ∀ (W : World) (t : S97), t ∈ l → Below w.heap.size w W → Calls Try.prog fv (#[.agg #[.int .i64 t.f0, .int .i64 t.f1, .int .i64 t.f2]] ++ lb) W fun e w' => e = .returned (.bool (p t)) ∧ Below w.heap.size w w') :
  Calls Try.prog 133 #[.slice A l.length c, .func (.func fv) #[] lb] w fun e w' => e = .returned (.int .i64 (pidx p l)) ∧ Below w.heap.size w w' := by
 have hu97 := Try.underlying97;have hbig : l.length ≤ 9223372036854775807 := hr.2.1;have HP := Lib.hid hp;clear hp;go_enter Try.func133, Try.ntmps133;go_wp2;(go_loopg [5, 8] l.length (fun gg _ s8 wr => ∃ kk : Nat, kk ≤ l.length ∧ l.length - kk ≤ gg ∧ s8 = .int .i64 kk ∧ Aside (Below w.heap.size w wr) ∧ Aside (∀ j, j < kk → ∀ b, l[j]? = some b → p b = false)));(case atStart => exact ⟨0, Nat.zero_le _, by omega, rfl, Below.refl _ w, fun j hj => absurd hj (Nat.not_lt_zero _)⟩)
 case round =>
  obtain ⟨kk, hkk, hg, rfl, BW, HA⟩ := hrel;(by_cases hlt : kk < l.length)
  ·(have hltz : (kk : Int) < (l.length : Int) := by omega);obtain ⟨ad, rfl, hx0, hx1, hx2⟩ := at_T97 hr (kk : Int) (by omega) hltz;replace hx0 := (BW.out.cell (World.block_lt_of_cell? w _ hx0)).trans hx0;replace hx1 := (BW.out.cell (World.block_lt_of_cell? w _ hx1)).trans hx1;replace hx2 := (BW.out.cell (World.block_lt_of_cell? w _ hx2)).trans hx2;(have hm : rd_T97 l kk ∈ l := by unfold rd_T97; simp [List.getD, hlt]);(have he : l[kk]? = some (rd_T97 l kk) := by unfold rd_T97; simp [List.getD, hlt]);have hcall := HP.out wr (rd_T97 l kk) hm BW.out;generalize hy : rd_T97 l kk = y at hx0 hx1 hx2 hcall he;have HE := Lib.hid he;clear hy hm he;simp only [Int.toNat_natCast] at hx0 hx1 hx2
   cases hq : p y with
   | true =>
    rw [hq] at hcall;(have HQ := Lib.hid hq; clear hq);(go_wp2_with (go_at_fn fv; refine hcall.mono ?_; rintro e w' ⟨rfl, hb'⟩));go_ret;refine ⟨?_, hb'⟩;(rw [pidx_hit p l kk y HE.out HQ.out HA.out]; rfl)
   | false =>
    rw [hq] at hcall;(have HQ := Lib.hid hq; clear hq);(go_wp2_with (go_at_fn fv; refine hcall.mono ?_; rintro e w' ⟨rfl, hb'⟩));go_roundg (l.length - (kk + 1));(case measure => omega)
    case rel =>
     refine ⟨kk + 1, by omega, by omega, by go_num, hb', (show Aside _ from fun j hj b hb => ?_)⟩;(by_cases e : j = kk)
     ·subst e;(rw [HE.out] at hb; obtain rfl := Option.some.inj hb; exact HQ.out)
     ·exact HA.out j (by omega) b hb
  ·(have hltz : ¬ (kk : Int) < (l.length : Int) := by omega);(have : kk = l.length := by omega);subst this;go_wp2;go_ret;refine ⟨?_, BW.out⟩;(rw [pidx_miss p l HA.out]; rfl)

/-! ### impl_Square_98: function 98 -/
set_option maxHeartbeats 8000000 in
theorem impl_Square_98.with (p : S97 → Bool) (fv : Nat) (lb : Array Value) (A : Option Addr) (c : Nat) (l : List S97) (w : World) (hr : Kd.C k97 w A l.length l)
  (eg : ∀ args w, (callFunc fv args).run Try.prog w = .ok (.enter fv args) w)
  (hp : ∀ (W : World) (t : S97), t ∈ l → Below w.heap.size w W → Calls Try.prog fv (#[.agg #[.int .i64 t.f0, .int .i64 t.f1, .int .i64 t.f2]] ++ lb) W fun e w' => e = .returned (.bool (p t)) ∧ Below w.heap.size w w') :
  Calls Try.prog 98 #[.slice A l.length c, .func (.func fv) #[] lb] w fun e w' => e = .returned (.bool (l.any p)) ∧ Below w.heap.size w w' := by
 have HP := Lib.hid hp;clear hp;have e0 : decide (0 ≤ pidx p l) = l.any p := pidx_any p l;generalize l.any p = b at e0 ⊢;have HE := Lib.hid e0;clear e0;go_enter Try.func98, Try.ntmps98;(go_wp2_with (go_at_call 133; refine (impl_Square_133.with p fv lb A c l _ hr eg HP.out).mono ?_; rintro e w' ⟨rfl, hb'⟩));go_ret;exact ⟨by rw [← HE.out]; rfl, hb'⟩

/-! ### impl_overlap: function 100 -/
def impl_overlap.f (a0_0 : Int) (a0_1 : Int) (a0_2 : Int) (a1_0 : Int) (a1_1 : Int) (a1_2 : Int) : Option (Bool) := if a0_0 < (wrap64 (a1_0 + a1_2)) then (if a1_0 < (wrap64 (a0_0 + a0_2)) then (if a0_1 < (wrap64 (a1_1 + a1_2)) then (some (decide (a1_1 < (wrap64 (a0_1 + a0_2))))) else (some false)) else (some false)) else (some false)
set_option maxHeartbeats 8000000 in
set_option maxRecDepth 100000 in
theorem impl_overlap.calls (a0_0 : Int) (a0_1 : Int) (a0_2 : Int) (a1_0 : Int) (a1_1 : Int) (a1_2 : Int) (r : Bool) (w : World) (h : impl_overlap.f a0_0 a0_1 a0_2 a1_0 a1_1 a1_2 = some r) :
  Calls Try.prog 100 #[.agg #[.int .i64 a0_0, .int .i64 a0_1, .int .i64 a0_2], .agg #[.int .i64 a1_0, .int .i64 a1_1, .int .i64 a1_2]] w fun e w' => e = .returned (.bool r) ∧ Below w.heap.size w w' := by
 have hu97 := Try.underlying97;have HB := Aside0.mk (Below.refl w.heap.size w);have H : (if a0_0 < (wrap64 (a1_0 + a1_2)) then (if a1_0 < (wrap64 (a0_0 + a0_2)) then (if a0_1 < (wrap64 (a1_1 + a1_2)) then (some (decide (a1_1 < (wrap64 (a0_1 + a0_2))))) else (some false)) else (some false)) else (some false)) = some r := h;clear h;(by_cases c3 : a0_0 < (wrap64 (a1_0 + a1_2)))
 ·rw [if_pos c3] at H;have c3b0 := decide_eq_true c3;clear c3;(by_cases c4 : a1_0 < (wrap64 (a0_0 + a0_2)))
  ·rw [if_pos c4] at H;have c4b0 := decide_eq_true c4;clear c4;(by_cases c5 : a0_1 < (wrap64 (a1_1 + a1_2)))
   ·rw [if_pos c5] at H;have c5b0 := decide_eq_true c5;clear c5;obtain rfl := Option.some.inj H;go_enter Try.func100, Try.ntmps100;(go_wp2_with (first | ((with_reducible refine gate_dst (N := 2) rfl ?_); refine boxE 2 (#[.int .i64 a0_0, .int .i64 a0_1, .int .i64 a0_2]) 97 ?_; intro gb167 hg w6 hbox hb; have BK167 := Aside0.mk (hbox);have GW167 := Aside0.mk (gz hg HB);have GE167 := Aside0.mk (gz hg HB);replace HB := Aside0.mk (below_step (upW HB) hb); clear hb hbox hg) | ((with_reducible refine gate_dst (N := 3) rfl ?_); refine boxE 3 (#[.int .i64 a1_0, .int .i64 a1_1, .int .i64 a1_2]) 97 ?_; intro gb168 hg w7 hbox hb; have BK168 := Aside0.mk (hbox);have GW168 := Aside0.mk (gz hg HB);have GE168 := Aside0.mk (gz hg HB);replace HB := Aside0.mk (below_step (upW HB) hb);have NB167_168 := Aside0.mk (gn hg BK167);have NB168_167 := Aside0.mk ((by rw [hg]; exact Nat.ne_of_gt (blk_lt (upK BK167)) : gb168 ≠ gb167));replace BK167 := Aside0.mk (blk_below (upK BK167) hb); clear hb hbox hg; have hnb8 := NB167_168.out; have hnc8 := NB168_167.out; obtain ⟨hcz9_0, hcz9_1, hcz9_2, hfz9_0, hfz9_1, hfz9_2⟩ := cz3 BK167 (.int .i64 a0_0) (.int .i64 a0_1) (.int .i64 a0_2); obtain ⟨hcz10_0, hcz10_1, hcz10_2, hfz10_0, hfz10_1, hfz10_2⟩ := cz3 BK168 (.int .i64 a1_0) (.int .i64 a1_1) (.int .i64 a1_2))));go_ret;exact ⟨eqv, upW HB⟩
   ·rw [if_neg c5] at H;have c5b0 := decide_eq_false c5;clear c5;obtain rfl := Option.some.inj H;go_enter Try.func100, Try.ntmps100;(go_wp2_with (first | ((with_reducible refine gate_dst (N := 2) rfl ?_); refine boxE 2 (#[.int .i64 a0_0, .int .i64 a0_1, .int .i64 a0_2]) 97 ?_; intro gb167 hg w11 hbox hb; have BK167 := Aside0.mk (hbox);have GW167 := Aside0.mk (gz hg HB);have GE167 := Aside0.mk (gz hg HB);replace HB := Aside0.mk (below_step (upW HB) hb); clear hb hbox hg) | ((with_reducible refine gate_dst (N := 3) rfl ?_); refine boxE 3 (#[.int .i64 a1_0, .int .i64 a1_1, .int .i64 a1_2]) 97 ?_; intro gb168 hg w12 hbox hb; have BK168 := Aside0.mk (hbox);have GW168 := Aside0.mk (gz hg HB);have GE168 := Aside0.mk (gz hg HB);replace HB := Aside0.mk (below_step (upW HB) hb);have NB167_168 := Aside0.mk (gn hg BK167);have NB168_167 := Aside0.mk ((by rw [hg]; exact Nat.ne_of_gt (blk_lt (upK BK167)) : gb168 ≠ gb167));replace BK167 := Aside0.mk (blk_below (upK BK167) hb); clear hb hbox hg; have hnb13 := NB167_168.out; have hnc13 := NB168_167.out; obtain ⟨hcz14_0, hcz14_1, hcz14_2, hfz14_0, hfz14_1, hfz14_2⟩ := cz3 BK167 (.int .i64 a0_0) (.int .i64 a0_1) (.int .i64 a0_2); obtain ⟨hcz15_0, hcz15_1, hcz15_2, hfz15_0, hfz15_1, hfz15_2⟩ := cz3 BK168 (.int .i64 a1_0) (.int .i64 a1_1) (.int .i64 a1_2))));go_ret;exact ⟨eqv, upW HB⟩
  ·rw [if_neg c4] at H;have c4b0 := decide_eq_false c4;clear c4;obtain rfl := Option.some.inj H;go_enter Try.func100, Try.ntmps100;(go_wp2_with (first | ((with_reducible refine gate_dst (N := 2) rfl ?_); refine boxE 2 (#[.int .i64 a0_0, .int .i64 a0_1, .int .i64 a0_2]) 97 ?_; intro gb167 hg w16 hbox hb; have BK167 := Aside0.mk (hbox);have GW167 := Aside0.mk (gz hg HB);have GE167 := Aside0.mk (gz hg HB);replace HB := Aside0.mk (below_step (upW HB) hb); clear hb hbox hg) | ((with_reducible refine gate_dst (N := 3) rfl ?_); refine boxE 3 (#[.int .i64 a1_0, .int .i64 a1_1, .int .i64 a1_2]) 97 ?_; intro gb168 hg w17 hbox hb; have BK168 := Aside0.mk (hbox);have GW168 := Aside0.mk (gz hg HB);have GE168 := Aside0.mk (gz hg HB);replace HB := Aside0.mk (below_step (upW HB) hb);have NB167_168 := Aside0.mk (gn hg BK167);have NB168_167 := Aside0.mk ((by rw [hg]; exact Nat.ne_of_gt (blk_lt (upK BK167)) : gb168 ≠ gb167));replace BK167 := Aside0.mk (blk_below (upK BK167) hb); clear hb hbox hg; have hnb18 := NB167_168.out; have hnc18 := NB168_167.out; obtain ⟨hcz19_0, hcz19_1, hcz19_2, hfz19_0, hfz19_1, hfz19_2⟩ := cz3 BK167 (.int .i64 a0_0) (.int .i64 a0_1) (.int .i64 a0_2); obtain ⟨hcz20_0, hcz20_1, hcz20_2, hfz20_0, hfz20_1, hfz20_2⟩ := cz3 BK168 (.int .i64 a1_0) (.int .i64 a1_1) (.int .i64 a1_2))));go_ret;exact ⟨eqv, upW HB⟩
 ·rw [if_neg c3] at H;have c3b0 := decide_eq_false c3;clear c3;obtain rfl := Option.some.inj H;go_enter Try.func100, Try.ntmps100;(go_wp2_with (first | ((with_reducible refine gate_dst (N := 2) rfl ?_); refine boxE 2 (#[.int .i64 a0_0, .int .i64 a0_1, .int .i64 a0_2]) 97 ?_; intro gb167 hg w21 hbox hb; have BK167 := Aside0.mk (hbox);have GW167 := Aside0.mk (gz hg HB);have GE167 := Aside0.mk (gz hg HB);replace HB := Aside0.mk (below_step (upW HB) hb); clear hb hbox hg) | ((with_reducible refine gate_dst (N := 3) rfl ?_); refine boxE 3 (#[.int .i64 a1_0, .int .i64 a1_1, .int .i64 a1_2]) 97 ?_; intro gb168 hg w22 hbox hb; have BK168 := Aside0.mk (hbox);have GW168 := Aside0.mk (gz hg HB);have GE168 := Aside0.mk (gz hg HB);replace HB := Aside0.mk (below_step (upW HB) hb);have NB167_168 := Aside0.mk (gn hg BK167);have NB168_167 := Aside0.mk ((by rw [hg]; exact Nat.ne_of_gt (blk_lt (upK BK167)) : gb168 ≠ gb167));replace BK167 := Aside0.mk (blk_below (upK BK167) hb); clear hb hbox hg; have hnb23 := NB167_168.out; have hnc23 := NB168_167.out; obtain ⟨hcz24_0, hcz24_1, hcz24_2, hfz24_0, hfz24_1, hfz24_2⟩ := cz3 BK167 (.int .i64 a0_0) (.int .i64 a0_1) (.int .i64 a0_2); obtain ⟨hcz25_0, hcz25_1, hcz25_2, hfz25_0, hfz25_1, hfz25_2⟩ := cz3 BK168 (.int .i64 a1_0) (.int .i64 a1_1) (.int .i64 a1_2))));go_ret;exact ⟨eqv, upW HB⟩

/-! ### impl_IsCut_1: function 99 -/
set_option maxHeartbeats 8000000 in
theorem impl_IsCut_1.calls (x y s a0_0 a0_1 a0_2 : Int) (g : Nat) (r : Bool) (w : World) (hg : w.heap[g]? = some (.cells #[.int .i64 x, .int .i64 y, .int .i64 s] 97 (0, 0))) (h : impl_overlap.f x y s a0_0 a0_1 a0_2 = some r) :
  Calls Try.prog 99 #[.agg #[.int .i64 a0_0, .int .i64 a0_1, .int .i64 a0_2], .pointer (some ⟨g, 0, none⟩)] w fun e w' => e = .returned (.bool r) ∧ Below w.heap.size w w' := by
 have hu97 := Try.underlying97;have h0 : w.cell? ⟨g, 0, none⟩ = some (.int .i64 x) := (blk_cell hg 0).trans rfl;have h1 : w.cell? ⟨g, 1, none⟩ = some (.int .i64 y) := (blk_cell hg 1).trans rfl;have h2 : w.cell? ⟨g, 2, none⟩ = some (.int .i64 s) := (blk_cell hg 2).trans rfl;have hlt : g < w.heap.size := blk_lt hg;have HG := Aside0.mk hg;have HH := Aside0.mk h;clear hg h;go_enter Try.func99, Try.ntmps99;(go_wp2_with (go_at_call 100; (with_reducible refine (impl_overlap.calls x y s a0_0 a0_1 a0_2 r _ HH.out).mono ?_); rintro e w' ⟨rfl, hb⟩));go_ret;exact ⟨rfl, below_step (below_alloc (Below.refl _ _) _) hb⟩


/-! ### slices_ContainsFunc_impl_Square_impl_Square__impl_IsCut_1: the pair slices.ContainsFunc[[]loop.example/g01296/impl.Square,loop.example/g01296/impl.Square] -/
def slices_ContainsFunc_impl_Square_impl_Square__impl_IsCut_1.f (l : List S97) (x y s : Int) : Option Bool := some (l.any fun t => (impl_overlap.f x y s t.f0 t.f1 t.f2).getD false)
theorem slices_ContainsFunc_impl_Square_impl_Square__impl_IsCut_1.some_ (x y s a b c : Int) : impl_overlap.f x y s a b c = some ((impl_overlap.f x y s a b c).getD false) := by
 unfold impl_overlap.f;(split)
 ·(split)
  ·(split)
   ·rfl
   ·rfl
  ·rfl
 ·rfl
theorem slices_ContainsFunc_impl_Square_impl_Square__impl_IsCut_1.calls (A0 : Option Addr) (c0 : Nat) (l0 : List S97) (g1 : Nat) (x y s : Int) (r : Bool) (w : World) (hr0 : Kd.C k97 w A0 l0.length l0) (hc0 : l0.length ≤ c0)
  (hg1 : w.heap[g1]? = some (.cells #[.int .i64 x, .int .i64 y, .int .i64 s] 97 (0, 0))) (h : slices_ContainsFunc_impl_Square_impl_Square__impl_IsCut_1.f l0 x y s = some r) :
  Calls Try.prog 98 #[.slice A0 l0.length c0, .func (.func 99) #[] #[.pointer (some ⟨g1, 0, none⟩)]] w fun e w' => e = .returned (.bool r) ∧ Below w.heap.size w w' := by
 obtain rfl := Option.some.inj h;(refine impl_Square_98.with _ 99 _ A0 c0 l0 w hr0 (fun args w => enters_ Try.func99 (by kernel_rfl) rfl args w) fun W t _ hb => ?_);(exact (impl_IsCut_1.calls x y s t.f0 t.f1 t.f2 g1 _ W (blk_below hg1 hb) (slices_ContainsFunc_impl_Square_impl_Square__impl_IsCut_1.some_ ..)).mono fun e w' ⟨he, hb'⟩ => ⟨he, below_step hb hb'⟩)

end Go.Proofs.Ytmmcbdndelaeoaa.PFnExactIsSimple
