-- made for this claim by a program of this session
import Derived.Test.YtocblinaclehdaaPFnExactCompareCodesx0
import Derived.Test.YtocblinaclehdaaPFnExactCompareCodesx5
namespace Go.Proofs.Ytocblinaclehdaa.PFnExactCompareCodes
open Go.RowKit Go.Proofs.YtocblinaclehdaaW.PrintWords Go.Proofs.YtocblinaclehdaaW.PrintLast Go.Proofs.YtocblinaclehdaaW.PrintMore
attribute [local go_sem] max2_int min2_int max_two min_two max_three min_three max_four min_four   -- for this text's walks alone
set_option linter.unusedVariables false
set_option linter.unusedSimpArgs false

/-! ### slices_Concat_int_int: function 83 -/
mutual
def slices_Concat_int_int.l0 : Nat → List (List Int) → Int → List (List Int) → Int → Int → Option (List Int)
 | 0, _, _, _, _, _ => none
 | k + 1, x0, x3, x9, x10, x11 => if x11 < x10 then (if 0 ≤ x11 then (if x11 < (x9.length : Int) then (if (wrap64 (x3 + ((rd_L1 x9 x11).length : Int))) < 0 then (none) else (slices_Concat_int_int.l0 k x0 (wrap64 (x3 + ((rd_L1 x9 x11).length : Int))) x9 x10 (wrap64 (x11 + 1)))) else (none)) else (none)) else ((slices_Grow_int_int.f ([] : List Int) x3).bind fun t246 => (slices_Concat_int_int.l1 k t246 x0 (x0.length : Int) 0))
def slices_Concat_int_int.l1 : Nat → List Int → List (List Int) → Int → Int → Option (List Int)
 | 0, _, _, _, _ => none
 | k + 1, x6, x25, x26, x27 => if x27 < x26 then (if 0 ≤ x27 then (if x27 < (x25.length : Int) then (if x6.length + (rd_L1 x25 x27).length < 17592186044416 then (slices_Concat_int_int.l1 k (x6 ++ (rd_L1 x25 x27)) x25 x26 (wrap64 (x27 + 1))) else (none)) else (none)) else (none)) else (some x6)
end
def slices_Concat_int_int.f (k : Nat) (l0 : List (List Int)) : Option (List Int) := slices_Concat_int_int.l0 k l0 0 l0 (l0.length : Int) 0
set_option maxHeartbeats 8000000 in
set_option maxRecDepth 100000 in
theorem slices_Concat_int_int.calls (k : Nat) (A0 : Option Addr) (c0 : Nat) (l0 : List (List Int)) (r : List Int) (w : World) (hr0 : Kd.C (Kd.slice 3 (Kd.int .i64)) w A0 l0.length l0) (hc0 : l0.length ≤ c0) (h : slices_Concat_int_int.f k l0 = some r) :
  Calls Try.prog 83 #[.slice A0 l0.length c0] w fun e w' => ∃ v0_ : Value, e = .returned (v0_) ∧ Kd.R (Kd.int .i64) 3 w' w.heap.size (fun _ => True) v0_ r ∧ Below w.heap.size w w' := by
 have HR0 := Aside0.mk hr0;have HC0 := Aside0.mk hc0;clear hr0 hc0;have HB := Aside0.mk (Below.refl w.heap.size w);have H : (slices_Concat_int_int.l0 k l0 0 l0 (l0.length : Int) 0) = some r := h;clear h;have H' := Aside0.mk H;clear H;go_enter Try.func83, Try.ntmps83;go_wp2;(go_loopg [3, 11] k (fun kq v3 v11 w' => ∃ (x3_1 : Int) (x11_1 : Int), v3 = .int .i64 x3_1 ∧ v11 = .int .i64 x11_1 ∧ Aside0 (slices_Concat_int_int.l0 kq l0 x3_1 l0 (l0.length : Int) x11_1 = some r) ∧ Aside0 (kq ≤ k) ∧ Aside0 (Below w.heap.size w w')));(case atStart => exact ⟨(0), (0), (eqw), (eqw), H', ⟨Nat.le_refl _⟩, ⟨upW HB⟩⟩)
 case round =>
  clear H';obtain ⟨x3_1, x11_1, rfl, rfl, HA, HK1, HB⟩ := hrel
  cases gk with
  | zero => exact absurd HA.out (by simp [slices_Concat_int_int.l0])
  | succ k1 =>
   have H := HA.out;clear HA;simp only [slices_Concat_int_int.l0] at H;(by_cases c2 : x11_1 < (l0.length : Int))
   ·rw [if_pos c2] at H;have c2b0 := decide_eq_true c2;clear c2;(by_cases c3 : 0 ≤ x11_1)
    ·rw [if_pos c3] at H;have c3b0 := decide_eq_true c3;clear c3;(by_cases c4 : x11_1 < (l0.length : Int))
     ·rw [if_pos c4] at H;have c4b0 := decide_eq_true c4;clear c4;(by_cases c5 : (wrap64 (x3_1 + ((rd_L1 l0 x11_1).length : Int))) < 0)
      ·rw [if_pos c5] at H;exact absurd H (by simp)
      ·rw [if_neg c5] at H;have c5b0 : decide ((wrap64 (x3_1 + ((rd_L1 l0 x11_1).length : Int))) < 0) = false := decide_eq_false c5;clear c5;have H' := Aside0.mk H;clear H;have p245 : 0 ≤ (x11_1 : Int) := oda;have q245 : x11_1 < (l0.length : Int) := oda;obtain ⟨ad245, A245_0, c245_0, e245, hx245_0, hl245_0, hi245_0⟩ := at_L1 HR0.out x11_1 p245 q245;cases e245;replace hx245_0 := cb HB hx245_0;have HR245_0 := Aside0.mk hi245_0;have HC245_0 := Aside0.mk hl245_0;clear hi245_0 hl245_0;replace p245 := eq_true p245;replace q245 := eq_true q245;go_wp2;go_roundg k1;(case measure => have := HK1.out; omega);(case rel => exact ⟨(wrap64 (x3_1 + ((rd_L1 l0 x11_1).length : Int))), (wrap64 (x11_1 + 1)), (eqw), (eqw), H', ⟨by have := HK1.out; omega⟩, ⟨upW HB⟩⟩)
     ·rw [if_neg c4] at H;exact absurd H (by simp)
    ·rw [if_neg c3] at H;exact absurd H (by simp)
   ·rw [if_neg c2] at H;have c2b0 := decide_eq_false c2;clear c2;replace H := Option.bind_eq_some_iff.mp H;obtain ⟨t246, A60, H⟩ := H;replace H : (slices_Concat_int_int.l1 k1 t246 l0 (l0.length : Int) 0) = some r := H;have A6 := Aside0.mk A60;clear A60;have H' := Aside0.mk H;clear H;(go_wp2_with (first | ((with_reducible refine gate_callee (f := 116) rfl ?_); refine goesL_ (some 24) rfl rfl Try.func116 (by kernel_rfl) rfl #[.slice none 0 0, .int .i64 x3_1] rfl itp ?_; (refine (slices_Grow_int_int.calls (fun k_ => some k_ = (.slice none 0 0 : Value).ownBlock) (.slice none 0 0) ([] : List Int) x3_1 t246 w _ ?side1 ?side2 A6.out).mono ?_); (case side1 => exact upW HB); (case side2 => exact Kd.R_nil _ _ _ _ _); rintro e w7 ⟨v247, rfl, ho0, hb, hkp⟩; refine ⟨_, rfl, ?_⟩; have HO248 := Aside0.mk (Kd.R_mono (ok' := fun k_ => True) ho0 (fun k_ hk_ => trivial));replace HB := Aside0.mk (hb); (try clear hb hkp ho0))));(try simp only [Act.put, List.setIfInBounds_toArray, List.set_cons_succ, List.set_cons_zero]);(go_loopg [6, 27] k1 (fun kq v6 v27 w' => ∃ (x6_2 : List Int) (x27_2 : Int), v27 = .int .i64 x27_2 ∧ Aside0 (slices_Concat_int_int.l1 kq x6_2 l0 (l0.length : Int) x27_2 = some r) ∧ Aside0 (kq ≤ k1) ∧ Aside0 (Kd.R (Kd.int .i64) 3 w' w.heap.size (fun _ => True) v6 x6_2) ∧ Aside0 (Below w.heap.size w w')));(case atStart => exact ⟨(t246), (0), (eqw), H', ⟨Nat.le_refl _⟩, ⟨upR HO248⟩, ⟨upW HB⟩⟩)
    case round =>
     clear H';(try clear c2b0);obtain ⟨x6_2, x27_2, rfl, HA, HK2, HO_6, HB⟩ := hrel
     cases gk with
     | zero => exact absurd HA.out (by simp [slices_Concat_int_int.l1])
     | succ k2 =>
      have H := HA.out;clear HA;simp only [slices_Concat_int_int.l1] at H;(by_cases c8 : x27_2 < (l0.length : Int))
      ·rw [if_pos c8] at H;have c8b0 := decide_eq_true c8;clear c8;(by_cases c9 : 0 ≤ x27_2)
       ·rw [if_pos c9] at H;have c9b0 := decide_eq_true c9;clear c9;(by_cases c10 : x27_2 < (l0.length : Int))
        ·rw [if_pos c10] at H;have c10b0 := decide_eq_true c10;clear c10;(by_cases c11 : x6_2.length + (rd_L1 l0 x27_2).length < 17592186044416)
         ·rw [if_pos c11] at H;have LMc11 := Aside0.mk c11;clear c11;obtain ⟨y250, hy250⟩ : ∃ y_ : List Int, y_ = (x6_2 ++ (rd_L1 l0 x27_2)) := ⟨_, rfl⟩;(replace H : (slices_Concat_int_int.l1 k2 y250 l0 (l0.length : Int) (wrap64 (x27_2 + 1))) = some r := rwH hy250 H);have Ny250 := Aside0.mk hy250;clear hy250;have H' := Aside0.mk H;clear H;have p249 : 0 ≤ (x27_2 : Int) := oda;have q249 : x27_2 < (l0.length : Int) := oda;obtain ⟨ad249, A249_0, c249_0, e249, hx249_0, hl249_0, hi249_0⟩ := at_L1 HR0.out x27_2 p249 q249;cases e249;replace hx249_0 := cb HB hx249_0;have HR249_0 := Aside0.mk hi249_0;have HC249_0 := Aside0.mk hl249_0;clear hi249_0 hl249_0;replace p249 := eq_true p249;replace q249 := eq_true q249;(go_wp2_with (first | ((with_reducible refine gate_builtin (b := .append) (xs := #[.tmp 31, .tmp 32]) rfl ?_); at_builtin; refine Kd.R_append_rows (Kd.int .i64) (w0 := w) w.heap.size rfl (.tmp 31) (.tmp 32) 26 3 (.int .i64 0) 8 rfl Try.underlying26 info3 rfl (by decide) (by omega) u6 x6_2 (rd_L1 l0 x27_2) _ _ _ (fun _ => True) (fun _ => False) rfl rfl ?aO ?aR (fun _ _ h => h) (fun _ h => h.elim) ?aF ?aB ?aS ?aL ?_; (case aR => repeat (first | exact (Kd.C_below HR249_0.out HB.out) | (with_reducible refine Kd.C_alloc ?_ _) | (with_reducible refine Kd.C_drewN ?_ _) | (with_reducible refine Kd.C_drew ?_))); (case aB => exact (upW HB)); (case aF => exact (fun _ _ => trivial)); (case aO => exact (upR HO_6)); (case aS => exact (below_size (upW HB))); (case aL => have := LMc11.out; omega); intro v251 w12 ho hb hg hat; rw [← Ny250.out] at ho; have n0_ := Aside0.mk (hb); have n1_ := Aside0.mk (ho); clear HB; clear HO_6; have HB := n0_; have HO252 := n1_; clear n0_ n1_; clear ho hb hg hat)));go_roundg k2;(case measure => have := HK1.out; have := HK2.out; omega);(case rel => exact ⟨(y250), (wrap64 (x27_2 + 1)), (eqw), H', ⟨by have := HK1.out; have := HK2.out; omega⟩, ⟨upR HO252⟩, ⟨upW HB⟩⟩)
         ·rw [if_neg c11] at H;exact absurd H (by simp)
        ·rw [if_neg c10] at H;exact absurd H (by simp)
       ·rw [if_neg c9] at H;exact absurd H (by simp)
      ·rw [if_neg c8] at H;have c8b0 := decide_eq_false c8;clear c8;obtain rfl := Option.some.inj H;go_wp2;go_ret;exact ⟨_, eqv, by (with_reducible repeat (first | apply Kd.R_alloc | apply Kd.R_drewN | apply Kd.R_drew)); exact HO_6.out, upW HB⟩

/-! ### impl_within: function 85 -/
def impl_within.f (a0 : Int) (a1 : Int) (a2 : Int) : Option (Bool) := if a1 ≤ a0 then (some (decide (a0 ≤ a2))) else (some false)
set_option maxHeartbeats 8000000 in
set_option maxRecDepth 100000 in
theorem impl_within.calls (a0 : Int) (a1 : Int) (a2 : Int) (r : Bool) (w : World) (h : impl_within.f a0 a1 a2 = some r) :
  Calls Try.prog 85 #[.int .i64 a0, .int .i64 a1, .int .i64 a2] w fun e w' => e = .returned (.bool r) ∧ Drawn0 w w' := by
 have H : (if a1 ≤ a0 then (some (decide (a0 ≤ a2))) else (some false)) = some r := h;clear h;(by_cases c4 : a1 ≤ a0)
 ·rw [if_pos c4] at H;have c4b0 := decide_eq_true c4;clear c4;obtain rfl := Option.some.inj H;go_enter Try.func85, Try.ntmps85;go_wp2;go_ret;exact ⟨eqw, dz⟩
 ·rw [if_neg c4] at H;have c4b0 := decide_eq_false c4;clear c4;obtain rfl := Option.some.inj H;go_enter Try.func85, Try.ntmps85;go_wp2;go_ret;exact ⟨eqw, dz⟩

-- left to its pairs: function 118 (slices_IndexFunc_int_int_118)

-- left to its pairs: function 86 (slices_ContainsFunc_int_int_86)

/-- the first place at which p holds, or -1 -/
def pidx {α : Type} (p : α → Bool) (l : List α) : Int := if l.any p then ((l.findIdx p : Nat) : Int) else -1
theorem pidx_hit {α : Type} (p : α → Bool) (l : List α) (k : Nat) (a : α) (hk : l[k]? = some a) (ha : p a = true) (h : ∀ j, j < k → ∀ b, l[j]? = some b → p b = false) : pidx p l = k := by
 have hlt : k < l.length := (List.getElem?_eq_some_iff.1 hk).1;have e : l[k] = a := (List.getElem?_eq_some_iff.1 hk).2;have h1 : l.any p = true := List.any_eq_true.2 ⟨a, by rw [← e]; exact List.getElem_mem hlt, ha⟩;unfold pidx;rw [if_pos h1];(congr 1);rw [List.findIdx_eq hlt];exact ⟨by rw [e]; exact ha, fun j hj => h j hj _ (List.getElem?_eq_getElem (by omega))⟩
theorem pidx_miss {α : Type} (p : α → Bool) (l : List α) (h : ∀ j, j < l.length → ∀ b, l[j]? = some b → p b = false) : pidx p l = -1 := by
 unfold pidx;rw [if_neg];intro hc;obtain ⟨a, ha, hp⟩ := List.any_eq_true.1 hc;obtain ⟨i, hi⟩ := List.getElem?_of_mem ha;have := h i (List.getElem?_eq_some_iff.1 hi).1 a hi;(rw [this] at hp; cases hp)

theorem pidx_any {α : Type} (p : α → Bool) (l : List α) : decide (0 ≤ pidx p l) = l.any p := by
 unfold pidx;cases h : l.any p
 ·rfl
 ·simp

/-! ### slices_IndexFunc_int_int_142: function 142 -/
set_option maxHeartbeats 8000000 in
theorem slices_IndexFunc_int_int_142.with (p : Int → Bool) (fv : Nat) (lb : Array Value) (A : Option Addr) (c : Nat) (l : List Int) (w : World) (hr : Kd.C (Kd.int .i64) w A l.length l)
  (eg : ∀ args w, (callFunc fv args).run Try.prog w = .ok (.enter fv args) w)
  (hp : ∀ (W : World) (t : Int), t ∈ l → Below w.heap.size w W → Calls Try.prog fv (#[.int .i64 t] ++ lb) W fun e w' => e = .returned (.bool (p t)) ∧ Below w.heap.size w w') :
  Calls Try.prog 142 #[.slice A l.length c, .func (.func fv) #[] lb] w fun e w' => e = .returned (.int .i64 (pidx p l)) ∧ Below w.heap.size w w' := by
 have hbig : l.length ≤ 9223372036854775807 := hr.2.1;have HP := Lib.hid hp;clear hp;go_enter Try.func142, Try.ntmps142;go_wp2;(go_loopg [5, 8] l.length (fun gg _ s8 wr => ∃ kk : Nat, kk ≤ l.length ∧ l.length - kk ≤ gg ∧ s8 = .int .i64 kk ∧ Aside (Below w.heap.size w wr) ∧ Aside (∀ j, j < kk → ∀ b, l[j]? = some b → p b = false)));(case atStart => exact ⟨0, Nat.zero_le _, by omega, rfl, Below.refl _ w, fun j hj => absurd hj (Nat.not_lt_zero _)⟩)
 case round =>
  obtain ⟨kk, hkk, hg, rfl, BW, HA⟩ := hrel;(by_cases hlt : kk < l.length)
  ·(have hltz : (kk : Int) < (l.length : Int) := by omega);obtain ⟨ad, rfl, hx0⟩ := Kd.at_int hr (kk : Int) (by omega) hltz;replace hx0 := (BW.out.cell (World.block_lt_of_cell? w _ hx0)).trans hx0;(have hm : rd l kk ∈ l := by unfold rd; simp [List.getD, hlt]);(have he : l[kk]? = some (rd l kk) := by unfold rd; simp [List.getD, hlt]);have hcall := HP.out wr (rd l kk) hm BW.out;generalize hy : rd l kk = y at hx0 hcall he;have HE := Lib.hid he;clear hy hm he;simp only [Int.toNat_natCast] at hx0
   cases hq : p y with
   | true =>
    rw [hq] at hcall;(have HQ := Lib.hid hq; clear hq);(go_wp2_with (go_at_fn fv; refine hcall.mono ?_; rintro e w' ⟨rfl, hb'⟩));go_ret;refine ⟨?_, hb'⟩;(rw [pidx_hit p l kk y HE.out HQ.out HA.out]; rfl)
   | false =>
    rw [hq] at hcall;(have HQ := Lib.hid hq; clear hq);(go_wp2_with (go_at_fn fv; refine hcall.mono ?_; rintro e w' ⟨rfl, hb'⟩));go_roundg (l.length - (kk + 1));(case measure => omega)
    case rel =>
     refine ⟨kk + 1, by omega, by omega, by go_num, hb', (show Aside _ from fun j hj b hb => ?_)⟩;(by_cases e : j = kk)
     ·subst e;(rw [HE.out] at hb; obtain rfl := Option.some.inj hb; exact HQ.out)
     ·exact HA.out j (by omega) b hb
  ·(have hltz : ¬ (kk : Int) < (l.length : Int) := by omega);(have : kk = l.length := by omega);subst this;go_wp2;go_ret;refine ⟨?_, BW.out⟩;(rw [pidx_miss p l HA.out]; rfl)

/-! ### slices_ContainsFunc_int_int_119: function 119 -/
set_option maxHeartbeats 8000000 in
theorem slices_ContainsFunc_int_int_119.with (p : Int → Bool) (fv : Nat) (lb : Array Value) (A : Option Addr) (c : Nat) (l : List Int) (w : World) (hr : Kd.C (Kd.int .i64) w A l.length l)
  (eg : ∀ args w, (callFunc fv args).run Try.prog w = .ok (.enter fv args) w)
  (hp : ∀ (W : World) (t : Int), t ∈ l → Below w.heap.size w W → Calls Try.prog fv (#[.int .i64 t] ++ lb) W fun e w' => e = .returned (.bool (p t)) ∧ Below w.heap.size w w') :
  Calls Try.prog 119 #[.slice A l.length c, .func (.func fv) #[] lb] w fun e w' => e = .returned (.bool (l.any p)) ∧ Below w.heap.size w w' := by
 have HP := Lib.hid hp;clear hp;have e0 : decide (0 ≤ pidx p l) = l.any p := pidx_any p l;generalize l.any p = b at e0 ⊢;have HE := Lib.hid e0;clear e0;go_enter Try.func119, Try.ntmps119;(go_wp2_with (go_at_call 142; refine (slices_IndexFunc_int_int_142.with p fv lb A c l _ hr eg HP.out).mono ?_; rintro e w' ⟨rfl, hb'⟩));go_ret;exact ⟨by rw [← HE.out]; rfl, hb'⟩

/-! ### impl_areWithin_1: function 120 -/
set_option maxHeartbeats 8000000 in
theorem impl_areWithin_1.calls (n : Int) (g1 : Nat) (lo : Int) (g2 : Nat) (hi : Int) (w : World) (h1 : w.heap[g1]? = some (.cells #[.int .i64 lo] 3 (0, 0))) (h2 : w.heap[g2]? = some (.cells #[.int .i64 hi] 3 (0, 0))) :
  Calls Try.prog 120 #[.int .i64 n, .pointer (some ⟨g1, 0, none⟩), .pointer (some ⟨g2, 0, none⟩)] w fun e w' => e = .returned (.bool (!(decide (lo ≤ n ∧ n ≤ hi)))) ∧ Below w.heap.size w w' := by
 have c1 : w.cell? ⟨g1, 0, none⟩ = some (.int .i64 lo) := (blk_cell h1 0).trans rfl;have c2 : w.cell? ⟨g2, 0, none⟩ = some (.int .i64 hi) := (blk_cell h2 0).trans rfl;clear h1 h2;obtain ⟨b, hb⟩ : ∃ b, b = decide (lo ≤ n ∧ n ≤ hi) := ⟨_, rfl⟩
 have hf : impl_within.f n lo hi = some b := by
  (rw [hb]; unfold impl_within.f);(by_cases h : lo ≤ n)
  ·(rw [if_pos h]; simp [h])
  ·(rw [if_neg h]; simp [h])
 have HF := Lib.hid hf;rw [← hb];clear hb hf;go_enter Try.func120, Try.ntmps120;(go_wp2_with (go_at_call 85; (with_reducible refine (impl_within.calls n lo hi b _ HF.out).mono ?_); rintro e w' ⟨rfl, ⟨nd, rfl⟩⟩));go_ret;exact ⟨rfl, by repeat (first | exact Below.refl _ _ | apply below_alloc | apply pw_below_drewN | apply below_drew1)⟩

/-! ### slices_ContainsFunc_int_int__impl_areWithin_1: the pair slices.ContainsFunc[[]int,int] -/
def slices_ContainsFunc_int_int__impl_areWithin_1.f (l : List Int) (lo hi : Int) : Option Bool := some (l.any fun n => !(decide (lo ≤ n ∧ n ≤ hi)))
theorem slices_ContainsFunc_int_int__impl_areWithin_1.calls (A0 : Option Addr) (c0 : Nat) (l0 : List Int) (g1 : Nat) (lo : Int) (g2 : Nat) (hi : Int) (r : Bool) (w : World) (hr0 : Kd.C (Kd.int .i64) w A0 l0.length l0) (hc0 : l0.length ≤ c0)
  (h1 : w.heap[g1]? = some (.cells #[.int .i64 lo] 3 (0, 0))) (h2 : w.heap[g2]? = some (.cells #[.int .i64 hi] 3 (0, 0))) (h : slices_ContainsFunc_int_int__impl_areWithin_1.f l0 lo hi = some r) :
  Calls Try.prog 119 #[.slice A0 l0.length c0, .func (.func 120) #[] #[.pointer (some ⟨g1, 0, none⟩), .pointer (some ⟨g2, 0, none⟩)]] w fun e w' => e = .returned (.bool r) ∧ Below w.heap.size w w' := by
 obtain rfl := Option.some.inj h;(refine slices_ContainsFunc_int_int_119.with _ 120 _ A0 c0 l0 w hr0 (fun args w => enters_ Try.func120 (by kernel_rfl) rfl args w) fun W t _ hb => ?_);(exact (impl_areWithin_1.calls t g1 lo g2 hi W (blk_below h1 hb) (blk_below h2 hb)).mono fun e w' ⟨he, hb'⟩ => ⟨he, below_step hb hb'⟩)

/-! ### impl_areWithin: function 88 -/
def impl_areWithin.f (l0 : List Int) (a1 : Int) (a2 : Int) : Option (Bool) := (slices_ContainsFunc_int_int__impl_areWithin_1.f l0 a1 a2).bind fun t255 => (some (!t255))
set_option maxHeartbeats 8000000 in
set_option maxRecDepth 100000 in
theorem impl_areWithin.calls (A0 : Option Addr) (c0 : Nat) (l0 : List Int) (a1 : Int) (a2 : Int) (r : Bool) (w : World) (hr0 : Kd.C (Kd.int .i64) w A0 l0.length l0) (hc0 : l0.length ≤ c0) (h : impl_areWithin.f l0 a1 a2 = some r) :
  Calls Try.prog 88 #[.slice A0 l0.length c0, .int .i64 a1, .int .i64 a2] w fun e w' => e = .returned (.bool r) ∧ Below w.heap.size w w' := by
 (have hmf : ∀ (fn : Fn) (first cap : Array Value) (w : World), (Instr.makeFunc fn first cap).run Try.prog w = .ok (.func fn first cap) w := fun _ _ _ _ => rfl);have HR0 := Aside0.mk hr0;have HC0 := Aside0.mk hc0;clear hr0 hc0;have HB := Aside0.mk (Below.refl w.heap.size w);have H : ((slices_ContainsFunc_int_int__impl_areWithin_1.f l0 a1 a2).bind fun t255 => (some (!t255))) = some r := h;clear h;replace H := Option.bind_eq_some_iff.mp H;obtain ⟨t255, A40, H⟩ := H;replace H : (some (!t255)) = some r := H;have A4 := Aside0.mk A40;clear A40;obtain rfl := Option.some.inj H;go_enter Try.func88, Try.ntmps88;(go_wp2_with (first | ((with_reducible refine gate_dst (N := 4) rfl ?_); refine boxE 4 (#[.int .i64 a1]) 3 ?_; intro gb253 hg w5 hbox hb; have BK253 := Aside0.mk (hbox);have GW253 := Aside0.mk (gz hg HB);have GE253 := Aside0.mk (gz hg HB);replace HB := Aside0.mk (below_step (upW HB) hb); clear hb hbox hg) | ((with_reducible refine gate_dst (N := 5) rfl ?_); refine boxE 5 (#[.int .i64 a2]) 3 ?_; intro gb254 hg w6 hbox hb; have BK254 := Aside0.mk (hbox);have GW254 := Aside0.mk (gz hg HB);have GE254 := Aside0.mk (gz hg HB);replace HB := Aside0.mk (below_step (upW HB) hb);have NB253_254 := Aside0.mk (gn hg BK253);have NB254_253 := Aside0.mk ((by rw [hg]; exact Nat.ne_of_gt (blk_lt (upK BK253)) : gb254 ≠ gb253));replace BK253 := Aside0.mk (blk_below (upK BK253) hb); clear hb hbox hg) | ((with_reducible refine gate_callee (f := 119) rfl ?_); refine goesL_ (some 9) rfl rfl Try.func119 (by kernel_rfl) rfl #[.slice A0 l0.length c0, .func (.func 120) #[] #[.pointer (some ⟨gb253, 0, none⟩), .pointer (some ⟨gb254, 0, none⟩)]] rfl itp ?_; (with_reducible refine (slices_ContainsFunc_int_int__impl_areWithin_1.calls _ _ l0 gb253 a1 gb254 a2 t255 _ ?side1 ?side2 ?side3 ?side4 A4.out).mono ?_); (case side1 => exact upC (Kd.C_below HR0.out HB.out)); (case side2 => exact HC0.out); (case side3 => exact (upK BK253)); (case side4 => exact (upK BK254)); rintro e w7 ⟨rfl, hb⟩; refine ⟨_, rfl, ?_⟩; replace BK253 := Aside0.mk (blk_below (upK BK253) hb);replace BK254 := Aside0.mk (blk_below (upK BK254) hb);replace HB := Aside0.mk (below_step (upW HB) hb); (try clear hb))));go_ret;exact ⟨eqv, upW HB⟩

/-! ### impl_CutOfCode_1: function 87 -/
def impl_CutOfCode_1.f (l0 : List Int) : Option (Bool) := (impl_areWithin.f l0 1 500).bind fun t256 => (if t256 = true then (some (decide ((l0.length : Int) > 30))) else (some true))
set_option maxHeartbeats 8000000 in
set_option maxRecDepth 100000 in
theorem impl_CutOfCode_1.calls (A0 : Option Addr) (c0 : Nat) (l0 : List Int) (r : Bool) (w : World) (hr0 : Kd.C (Kd.int .i64) w A0 l0.length l0) (hc0 : l0.length ≤ c0) (h : impl_CutOfCode_1.f l0 = some r) :
  Calls Try.prog 87 #[.slice A0 l0.length c0] w fun e w' => e = .returned (.bool r) ∧ Below w.heap.size w w' := by
 have HR0 := Aside0.mk hr0;have HC0 := Aside0.mk hc0;clear hr0 hc0;have HB := Aside0.mk (Below.refl w.heap.size w);have H : ((impl_areWithin.f l0 1 500).bind fun t256 => (if t256 = true then (some (decide ((l0.length : Int) > 30))) else (some true))) = some r := h;clear h;replace H := Option.bind_eq_some_iff.mp H;obtain ⟨t256, A20, H⟩ := H;replace H : (if t256 = true then (some (decide ((l0.length : Int) > 30))) else (some true)) = some r := H;have A2 := Aside0.mk A20;clear A20;(by_cases c3 : t256 = true)
 ·subst c3;(have H1 : (some (decide ((l0.length : Int) > 30))) = some r := by rw [if_pos rfl] at H; exact H);clear H;have H := H1;clear H1;obtain rfl := Option.some.inj H;go_enter Try.func87, Try.ntmps87;(go_wp2_with (first | ((with_reducible refine gate_callee (f := 88) rfl ?_); refine goesL_ (some 4) rfl rfl Try.func88 (by kernel_rfl) rfl #[.slice A0 l0.length c0, .int .i64 1, .int .i64 500] rfl itp ?_; (with_reducible refine (impl_areWithin.calls _ _ l0 1 500 true _ ?side1 ?side2 A2.out).mono ?_); (case side1 => exact upC HR0.out); (case side2 => exact HC0.out); rintro e w4 ⟨rfl, hb⟩; refine ⟨_, rfl, ?_⟩; replace HB := Aside0.mk (below_step (upW HB) hb); (try clear hb))));go_ret;exact ⟨eqv, upW HB⟩
 ·replace c3 := Bool.eq_false_iff.mpr c3;subst c3;(have H1 : (some true) = some r := by rw [if_neg (show ¬ (false = true) by decide)] at H; exact H);clear H;have H := H1;clear H1;obtain rfl := Option.some.inj H;go_enter Try.func87, Try.ntmps87;(go_wp2_with (first | ((with_reducible refine gate_callee (f := 88) rfl ?_); refine goesL_ (some 4) rfl rfl Try.func88 (by kernel_rfl) rfl #[.slice A0 l0.length c0, .int .i64 1, .int .i64 500] rfl itp ?_; (with_reducible refine (impl_areWithin.calls _ _ l0 1 500 false _ ?side1 ?side2 A2.out).mono ?_); (case side1 => exact upC HR0.out); (case side2 => exact HC0.out); rintro e w5 ⟨rfl, hb⟩; refine ⟨_, rfl, ?_⟩; replace HB := Aside0.mk (below_step (upW HB) hb); (try clear hb))));go_ret;exact ⟨eqv, upW HB⟩

/-! ### impl_isWide: function 95 -/
def impl_isWide.f (a0 : Int) : Option (Bool) := (impl_within.f a0 1 500).bind fun t257 => (some t257)
set_option maxHeartbeats 8000000 in
set_option maxRecDepth 100000 in
theorem impl_isWide.calls (a0 : Int) (r : Bool) (w : World) (h : impl_isWide.f a0 = some r) :
  Calls Try.prog 95 #[.int .i64 a0] w fun e w' => e = .returned (.bool r) ∧ Drawn0 w w' := by
 have H : ((impl_within.f a0 1 500).bind fun t257 => (some t257)) = some r := h;clear h;replace H := Option.bind_eq_some_iff.mp H;obtain ⟨t257, A20, H⟩ := H;replace H : (some t257) = some r := H;have A2 := Aside0.mk A20;clear A20;obtain rfl := Option.some.inj H;go_enter Try.func95, Try.ntmps95;(go_wp2_with (first | ((with_reducible refine gate_callee (f := 85) rfl ?_); refine goesL_ (some 4) rfl rfl Try.func85 (by kernel_rfl) rfl #[.int .i64 a0, .int .i64 1, .int .i64 500] rfl itp ?_; (with_reducible refine (impl_within.calls a0 1 500 t257 _ A2.out).mono ?_); rintro e w' ⟨rfl, ⟨nd, rfl⟩⟩; refine ⟨_, rfl, ?_⟩)));go_ret;exact ⟨eqw, dz⟩

/-! ### slices_Min_int_int: function 121 -/
def slices_Min_int_int.l0 : Nat → List Int → Int → Int → Option (Int)
 | 0, _, _, _ => none
 | k + 1, x0, x3, x4 => if x4 < (x0.length : Int) then (if 0 ≤ x4 then (slices_Min_int_int.l0 k x0 (mn x3 (rd x0 x4)) (wrap64 (x4 + 1))) else (none)) else (some x3)
def slices_Min_int_int.f (k : Nat) (l0 : List Int) : Option (Int) := if (l0.length : Int) < 1 then (none) else (if 0 < (l0.length : Int) then (slices_Min_int_int.l0 k l0 (rd l0 0) 1) else (none))
set_option maxHeartbeats 8000000 in
set_option maxRecDepth 100000 in
theorem slices_Min_int_int.calls (k : Nat) (A0 : Option Addr) (c0 : Nat) (l0 : List Int) (r : Int) (w : World) (hr0 : Kd.C (Kd.int .i64) w A0 l0.length l0) (hc0 : l0.length ≤ c0) (h : slices_Min_int_int.f k l0 = some r) :
  Calls Try.prog 121 #[.slice A0 l0.length c0] w fun e w' => e = .returned (.int .i64 r) ∧ Below w.heap.size w w' := by
 have HR0 := Aside0.mk hr0;have HC0 := Aside0.mk hc0;clear hr0 hc0;have HB := Aside0.mk (Below.refl w.heap.size w);have H : (if (l0.length : Int) < 1 then (none) else (if 0 < (l0.length : Int) then (slices_Min_int_int.l0 k l0 (rd l0 0) 1) else (none))) = some r := h;clear h;(by_cases c2 : (l0.length : Int) < 1)
 ·rw [if_pos c2] at H;exact absurd H (by simp)
 ·rw [if_neg c2] at H;have c2b0 := decide_eq_false c2;have c2b1 : decide (l0.length < 1) = false := decide_eq_false (by omega);clear c2;(by_cases c3 : 0 < (l0.length : Int))
  ·rw [if_pos c3] at H;have c3b0 := decide_eq_true c3;have c3b1 : decide (0 < l0.length) = true := decide_eq_true (by omega);clear c3;have H' := Aside0.mk H;clear H;have p258 : 0 ≤ (0 : Int) := (by omega);have q258 : 0 < (l0.length : Int) := oda;obtain ⟨ad258, e258, hx258_0⟩ := Kd.at_int HR0.out 0 p258 q258;cases e258;have qi258 : (0 < l0.length) = True := eq_true (by omega);(try rw [show ((0 : Int)).toNat = 0 from rfl] at hx258_0);(try rw [Addr.add_zero'] at hx258_0);replace p258 := eq_true p258;replace q258 := eq_true q258;go_enter Try.func121, Try.ntmps121;go_wp2;(go_loopg [3, 4] k (fun kq v3 v4 w' => ∃ (x3_1 : Int) (x4_1 : Int), v3 = .int .i64 x3_1 ∧ v4 = .int .i64 x4_1 ∧ Aside0 (slices_Min_int_int.l0 kq l0 x3_1 x4_1 = some r) ∧ Aside0 (kq ≤ k) ∧ Aside0 (Below w.heap.size w w')));(case atStart => exact ⟨(rd l0 0), (1), (eqw), (eqw), H', ⟨Nat.le_refl _⟩, ⟨upW HB⟩⟩)
   case round =>
    clear H';(try clear c2b0 c2b1 c3b0 c3b1 hx258_0 p258 q258);obtain ⟨x3_1, x4_1, rfl, rfl, HA, HK1, HB⟩ := hrel
    cases gk with
    | zero => exact absurd HA.out (by simp [slices_Min_int_int.l0])
    | succ k1 =>
     have H := HA.out;clear HA;simp only [slices_Min_int_int.l0] at H;(by_cases c4 : x4_1 < (l0.length : Int))
     ·rw [if_pos c4] at H;have c4b0 := decide_eq_true c4;clear c4;(by_cases c5 : 0 ≤ x4_1)
      ·rw [if_pos c5] at H;have c5b0 := decide_eq_true c5;clear c5;obtain ⟨ji6, hji6⟩ : ∃ j_ : Int, (mn x3_1 (rd l0 x4_1)) = j_ := ⟨_, rfl⟩;(replace H : (slices_Min_int_int.l0 k1 l0 ji6 (wrap64 (x4_1 + 1))) = some r := by first | (rw [hji6] at H; exact H) | (simp only [hji6] at H ⊢; exact H));have hji6_ : (if (rd l0 x4_1) < x3_1 then (rd l0 x4_1) else x3_1) = ji6 := hji6;have H' := Aside0.mk H;clear H;have p259 : 0 ≤ (x4_1 : Int) := oda;have q259 : x4_1 < (l0.length : Int) := oda;obtain ⟨ad259, e259, hx259_0⟩ := Kd.at_int HR0.out x4_1 p259 q259;obtain rfl : ad258 = ad259 := (by injection e259);replace hx259_0 := cb HB hx259_0;replace p259 := eq_true p259;replace q259 := eq_true q259;go_wp2;go_roundg k1;(case measure => have := HK1.out; omega);(case rel => exact ⟨(ji6), (wrap64 (x4_1 + 1)), (by first | rfl | (simp; done) | (simp only [← hji6] <;> (first | rfl | simp)) | (simp [*]; done)), (eqw), H', ⟨by have := HK1.out; omega⟩, ⟨upW HB⟩⟩)
      ·rw [if_neg c5] at H;exact absurd H (by simp)
     ·rw [if_neg c4] at H;have c4b0 := decide_eq_false c4;clear c4;obtain rfl := Option.some.inj H;go_wp2;go_ret;exact ⟨eqv, upW HB⟩
  ·rw [if_neg c3] at H;exact absurd H (by simp)

/-! ### slices_Index_int_int: function 122 -/
def slices_Index_int_int.l0 : Nat → List Int → Int → Int → Int → Option (Int)
 | 0, _, _, _, _ => none
 | k + 1, x0, x1, x7, x8 => if x8 < x7 then (if 0 ≤ x8 then (if x8 < (x0.length : Int) then (if x1 = (rd x0 x8) then (some x8) else (slices_Index_int_int.l0 k x0 x1 x7 (wrap64 (x8 + 1)))) else (none)) else (none)) else (some (-1))
def slices_Index_int_int.f (k : Nat) (l0 : List Int) (a1 : Int) : Option (Int) := slices_Index_int_int.l0 k l0 a1 (l0.length : Int) 0
set_option maxHeartbeats 8000000 in
set_option maxRecDepth 100000 in
theorem slices_Index_int_int.calls (k : Nat) (A0 : Option Addr) (c0 : Nat) (l0 : List Int) (a1 : Int) (r : Int) (w : World) (hr0 : Kd.C (Kd.int .i64) w A0 l0.length l0) (hc0 : l0.length ≤ c0) (h : slices_Index_int_int.f k l0 a1 = some r) :
  Calls Try.prog 122 #[.slice A0 l0.length c0, .int .i64 a1] w fun e w' => e = .returned (.int .i64 r) ∧ Drawn0 w w' := by
 have HR0 := Aside0.mk hr0;have HC0 := Aside0.mk hc0;clear hr0 hc0;have H : (slices_Index_int_int.l0 k l0 a1 (l0.length : Int) 0) = some r := h;clear h;have H' := Aside0.mk H;clear H;go_enter Try.func122, Try.ntmps122;go_wp2;(go_loopg [8] k (fun kq v8 w' => ∃ (x8_1 : Int), v8 = .int .i64 x8_1 ∧ Aside0 (slices_Index_int_int.l0 kq l0 a1 (l0.length : Int) x8_1 = some r) ∧ Aside0 (kq ≤ k) ∧ Drawn0 w w'));(case atStart => exact ⟨(0), (eqw), H', ⟨Nat.le_refl _⟩, dz⟩)
 case round =>
  clear H';obtain ⟨x8_1, rfl, HA, HK1, ⟨m1, rfl⟩⟩ := hrel
  cases gk with
  | zero => exact absurd HA.out (by simp [slices_Index_int_int.l0])
  | succ k1 =>
   have H := HA.out;clear HA;simp only [slices_Index_int_int.l0] at H;(by_cases c3 : x8_1 < (l0.length : Int))
   ·rw [if_pos c3] at H;have c3b0 := decide_eq_true c3;clear c3;(by_cases c4 : 0 ≤ x8_1)
    ·rw [if_pos c4] at H;have c4b0 := decide_eq_true c4;clear c4;(by_cases c5 : x8_1 < (l0.length : Int))
     ·rw [if_pos c5] at H;have c5b0 := decide_eq_true c5;clear c5;(by_cases c6 : a1 = (rd l0 x8_1))
      ·rw [if_pos c6] at H;have c6b0 : (a1 == (rd l0 x8_1)) = true := beq_iff_eq.mpr c6;have c6b1 : (a1 != (rd l0 x8_1)) = false := bne_eq_false_iff_eq.mpr c6;clear c6;obtain rfl := Option.some.inj H;have p260 : 0 ≤ (x8_1 : Int) := oda;have q260 : x8_1 < (l0.length : Int) := oda;obtain ⟨ad260, e260, hx260_0⟩ := Kd.at_int HR0.out x8_1 p260 q260;cases e260;replace p260 := eq_true p260;replace q260 := eq_true q260;go_wp2;go_ret;exact ⟨eqw, dz⟩
      ·rw [if_neg c6] at H;have c6b0 : (a1 == (rd l0 x8_1)) = false := beq_eq_false_iff_ne.mpr c6;have c6b1 : (a1 != (rd l0 x8_1)) = true := bne_iff_ne.mpr c6;have H' := Aside0.mk H;clear H;have p260 : 0 ≤ (x8_1 : Int) := oda;have q260 : x8_1 < (l0.length : Int) := oda;obtain ⟨ad260, e260, hx260_0⟩ := Kd.at_int HR0.out x8_1 p260 q260;cases e260;replace p260 := eq_true p260;replace q260 := eq_true q260;go_wp2;go_roundg k1;(case measure => have := HK1.out; omega);(case rel => exact ⟨(wrap64 (x8_1 + 1)), (eqw), H', ⟨by have := HK1.out; omega⟩, dz⟩)
     ·rw [if_neg c5] at H;exact absurd H (by simp)
    ·rw [if_neg c4] at H;exact absurd H (by simp)
   ·rw [if_neg c3] at H;have c3b0 := decide_eq_false c3;clear c3;obtain rfl := Option.some.inj H;go_wp2;go_ret;exact ⟨eqw, dz⟩

/-! ### slices_Max_int_int: function 123 -/
def slices_Max_int_int.l0 : Nat → List Int → Int → Int → Option (Int)
 | 0, _, _, _ => none
 | k + 1, x0, x3, x4 => if x4 < (x0.length : Int) then (if 0 ≤ x4 then (slices_Max_int_int.l0 k x0 (mx x3 (rd x0 x4)) (wrap64 (x4 + 1))) else (none)) else (some x3)
def slices_Max_int_int.f (k : Nat) (l0 : List Int) : Option (Int) := if (l0.length : Int) < 1 then (none) else (if 0 < (l0.length : Int) then (slices_Max_int_int.l0 k l0 (rd l0 0) 1) else (none))
set_option maxHeartbeats 8000000 in
set_option maxRecDepth 100000 in
theorem slices_Max_int_int.calls (k : Nat) (A0 : Option Addr) (c0 : Nat) (l0 : List Int) (r : Int) (w : World) (hr0 : Kd.C (Kd.int .i64) w A0 l0.length l0) (hc0 : l0.length ≤ c0) (h : slices_Max_int_int.f k l0 = some r) :
  Calls Try.prog 123 #[.slice A0 l0.length c0] w fun e w' => e = .returned (.int .i64 r) ∧ Below w.heap.size w w' := by
 have HR0 := Aside0.mk hr0;have HC0 := Aside0.mk hc0;clear hr0 hc0;have HB := Aside0.mk (Below.refl w.heap.size w);have H : (if (l0.length : Int) < 1 then (none) else (if 0 < (l0.length : Int) then (slices_Max_int_int.l0 k l0 (rd l0 0) 1) else (none))) = some r := h;clear h;(by_cases c2 : (l0.length : Int) < 1)
 ·rw [if_pos c2] at H;exact absurd H (by simp)
 ·rw [if_neg c2] at H;have c2b0 := decide_eq_false c2;have c2b1 : decide (l0.length < 1) = false := decide_eq_false (by omega);clear c2;(by_cases c3 : 0 < (l0.length : Int))
  ·rw [if_pos c3] at H;have c3b0 := decide_eq_true c3;have c3b1 : decide (0 < l0.length) = true := decide_eq_true (by omega);clear c3;have H' := Aside0.mk H;clear H;have p261 : 0 ≤ (0 : Int) := (by omega);have q261 : 0 < (l0.length : Int) := oda;obtain ⟨ad261, e261, hx261_0⟩ := Kd.at_int HR0.out 0 p261 q261;cases e261;have qi261 : (0 < l0.length) = True := eq_true (by omega);(try rw [show ((0 : Int)).toNat = 0 from rfl] at hx261_0);(try rw [Addr.add_zero'] at hx261_0);replace p261 := eq_true p261;replace q261 := eq_true q261;go_enter Try.func123, Try.ntmps123;go_wp2;(go_loopg [3, 4] k (fun kq v3 v4 w' => ∃ (x3_1 : Int) (x4_1 : Int), v3 = .int .i64 x3_1 ∧ v4 = .int .i64 x4_1 ∧ Aside0 (slices_Max_int_int.l0 kq l0 x3_1 x4_1 = some r) ∧ Aside0 (kq ≤ k) ∧ Aside0 (Below w.heap.size w w')));(case atStart => exact ⟨(rd l0 0), (1), (eqw), (eqw), H', ⟨Nat.le_refl _⟩, ⟨upW HB⟩⟩)
   case round =>
    clear H';(try clear c2b0 c2b1 c3b0 c3b1 hx261_0 p261 q261);obtain ⟨x3_1, x4_1, rfl, rfl, HA, HK1, HB⟩ := hrel
    cases gk with
    | zero => exact absurd HA.out (by simp [slices_Max_int_int.l0])
    | succ k1 =>
     have H := HA.out;clear HA;simp only [slices_Max_int_int.l0] at H;(by_cases c4 : x4_1 < (l0.length : Int))
     ·rw [if_pos c4] at H;have c4b0 := decide_eq_true c4;clear c4;(by_cases c5 : 0 ≤ x4_1)
      ·rw [if_pos c5] at H;have c5b0 := decide_eq_true c5;clear c5;obtain ⟨ji6, hji6⟩ : ∃ j_ : Int, (mx x3_1 (rd l0 x4_1)) = j_ := ⟨_, rfl⟩;(replace H : (slices_Max_int_int.l0 k1 l0 ji6 (wrap64 (x4_1 + 1))) = some r := by first | (rw [hji6] at H; exact H) | (simp only [hji6] at H ⊢; exact H));have hji6_ : (if x3_1 < (rd l0 x4_1) then (rd l0 x4_1) else x3_1) = ji6 := hji6;have H' := Aside0.mk H;clear H;have p262 : 0 ≤ (x4_1 : Int) := oda;have q262 : x4_1 < (l0.length : Int) := oda;obtain ⟨ad262, e262, hx262_0⟩ := Kd.at_int HR0.out x4_1 p262 q262;obtain rfl : ad261 = ad262 := (by injection e262);replace hx262_0 := cb HB hx262_0;replace p262 := eq_true p262;replace q262 := eq_true q262;go_wp2;go_roundg k1;(case measure => have := HK1.out; omega);(case rel => exact ⟨(ji6), (wrap64 (x4_1 + 1)), (by first | rfl | (simp; done) | (simp only [← hji6] <;> (first | rfl | simp)) | (simp [*]; done)), (eqw), H', ⟨by have := HK1.out; omega⟩, ⟨upW HB⟩⟩)
      ·rw [if_neg c5] at H;exact absurd H (by simp)
     ·rw [if_neg c4] at H;have c4b0 := decide_eq_false c4;clear c4;obtain rfl := Option.some.inj H;go_wp2;go_ret;exact ⟨eqv, upW HB⟩
  ·rw [if_neg c3] at H;exact absurd H (by simp)

/-! ### impl_comparePlaces: function 96 -/
def impl_comparePlaces.f (a0_0 : Int) (a0_1 : Int) (a0_2 : Int) (a1_0 : Int) (a1_1 : Int) (a1_2 : Int) : Option (Int) := if a0_1 = a1_1 then (some (wrap64 (a0_0 - a1_0))) else (some (wrap64 (a0_1 - a1_1)))
set_option maxHeartbeats 8000000 in
set_option maxRecDepth 100000 in
theorem impl_comparePlaces.calls (a0_0 : Int) (a0_1 : Int) (a0_2 : Int) (a1_0 : Int) (a1_1 : Int) (a1_2 : Int) (r : Int) (w : World) (h : impl_comparePlaces.f a0_0 a0_1 a0_2 a1_0 a1_1 a1_2 = some r) :
  Calls Try.prog 96 #[.agg #[.int .i64 a0_0, .int .i64 a0_1, .int .i64 a0_2], .agg #[.int .i64 a1_0, .int .i64 a1_1, .int .i64 a1_2]] w fun e w' => e = .returned (.int .i64 r) ∧ Below w.heap.size w w' := by
 have hu59 := Try.underlying59;have HB := Aside0.mk (Below.refl w.heap.size w);have H : (if a0_1 = a1_1 then (some (wrap64 (a0_0 - a1_0))) else (some (wrap64 (a0_1 - a1_1)))) = some r := h;clear h;(by_cases c3 : a0_1 = a1_1)
 ·rw [if_pos c3] at H;have c3b0 : (a0_1 == a1_1) = true := beq_iff_eq.mpr c3;have c3b1 : (a0_1 != a1_1) = false := bne_eq_false_iff_eq.mpr c3;clear c3;obtain rfl := Option.some.inj H;go_enter Try.func96, Try.ntmps96;(go_wp2_with (first | ((with_reducible refine gate_dst (N := 2) rfl ?_); refine boxE 2 (#[.int .i64 a0_0, .int .i64 a0_1, .int .i64 a0_2]) 59 ?_; intro gb263 hg w4 hbox hb; have BK263 := Aside0.mk (hbox);have GW263 := Aside0.mk (gz hg HB);have GE263 := Aside0.mk (gz hg HB);replace HB := Aside0.mk (below_step (upW HB) hb); clear hb hbox hg) | ((with_reducible refine gate_dst (N := 3) rfl ?_); refine boxE 3 (#[.int .i64 a1_0, .int .i64 a1_1, .int .i64 a1_2]) 59 ?_; intro gb264 hg w5 hbox hb; have BK264 := Aside0.mk (hbox);have GW264 := Aside0.mk (gz hg HB);have GE264 := Aside0.mk (gz hg HB);replace HB := Aside0.mk (below_step (upW HB) hb);have NB263_264 := Aside0.mk (gn hg BK263);have NB264_263 := Aside0.mk ((by rw [hg]; exact Nat.ne_of_gt (blk_lt (upK BK263)) : gb264 ≠ gb263));replace BK263 := Aside0.mk (blk_below (upK BK263) hb); clear hb hbox hg; have hnb6 := NB263_264.out; have hnc6 := NB264_263.out; obtain ⟨hcz7_0, hcz7_1, hcz7_2, hfz7_0, hfz7_1, hfz7_2⟩ := cz3 BK263 (.int .i64 a0_0) (.int .i64 a0_1) (.int .i64 a0_2); obtain ⟨hcz8_0, hcz8_1, hcz8_2, hfz8_0, hfz8_1, hfz8_2⟩ := cz3 BK264 (.int .i64 a1_0) (.int .i64 a1_1) (.int .i64 a1_2))));go_ret;exact ⟨eqv, upW HB⟩
 ·rw [if_neg c3] at H;have c3b0 : (a0_1 == a1_1) = false := beq_eq_false_iff_ne.mpr c3;have c3b1 : (a0_1 != a1_1) = true := bne_iff_ne.mpr c3;obtain rfl := Option.some.inj H;go_enter Try.func96, Try.ntmps96;(go_wp2_with (first | ((with_reducible refine gate_dst (N := 2) rfl ?_); refine boxE 2 (#[.int .i64 a0_0, .int .i64 a0_1, .int .i64 a0_2]) 59 ?_; intro gb263 hg w9 hbox hb; have BK263 := Aside0.mk (hbox);have GW263 := Aside0.mk (gz hg HB);have GE263 := Aside0.mk (gz hg HB);replace HB := Aside0.mk (below_step (upW HB) hb); clear hb hbox hg) | ((with_reducible refine gate_dst (N := 3) rfl ?_); refine boxE 3 (#[.int .i64 a1_0, .int .i64 a1_1, .int .i64 a1_2]) 59 ?_; intro gb264 hg w10 hbox hb; have BK264 := Aside0.mk (hbox);have GW264 := Aside0.mk (gz hg HB);have GE264 := Aside0.mk (gz hg HB);replace HB := Aside0.mk (below_step (upW HB) hb);have NB263_264 := Aside0.mk (gn hg BK263);have NB264_263 := Aside0.mk ((by rw [hg]; exact Nat.ne_of_gt (blk_lt (upK BK263)) : gb264 ≠ gb263));replace BK263 := Aside0.mk (blk_below (upK BK263) hb); clear hb hbox hg; have hnb11 := NB263_264.out; have hnc11 := NB264_263.out; obtain ⟨hcz12_0, hcz12_1, hcz12_2, hfz12_0, hfz12_1, hfz12_2⟩ := cz3 BK263 (.int .i64 a0_0) (.int .i64 a0_1) (.int .i64 a0_2); obtain ⟨hcz13_0, hcz13_1, hcz13_2, hfz13_0, hfz13_1, hfz13_2⟩ := cz3 BK264 (.int .i64 a1_0) (.int .i64 a1_1) (.int .i64 a1_2))));go_ret;exact ⟨eqv, upW HB⟩

/-! ### impl_Square_128: function 128 -/
set_option maxHeartbeats 8000000 in
theorem impl_Square_128.with (p : S59 → Bool) (fv : Nat) (lb : Array Value) (A : Option Addr) (c : Nat) (l : List S59) (w : World) (hr : Kd.C k59 w A l.length l)
  (eg : ∀ args w, (callFunc fv args).run Try.prog w = .ok (.enter fv args) w)
  (hp : ∀ (W : World) (t : S59), t ∈ l → Below w.heap.size w W → Calls Try.prog fv (#[.agg #[.int .i64 t.f0, .int .i64 t.f1, .int .i64 t.f2]] ++ lb) W fun e w' => e = .returned (.bool (p t)) ∧ Below w.heap.size w w') :
  Calls Try.prog 128 #[.slice A l.length c, .func (.func fv) #[] lb] w fun e w' => e = .returned (.int .i64 (pidx p l)) ∧ Below w.heap.size w w' := by
 have hu59 := Try.underlying59;have hbig : l.length ≤ 9223372036854775807 := hr.2.1;have HP := Lib.hid hp;clear hp;go_enter Try.func128, Try.ntmps128;go_wp2;(go_loopg [5, 8] l.length (fun gg _ s8 wr => ∃ kk : Nat, kk ≤ l.length ∧ l.length - kk ≤ gg ∧ s8 = .int .i64 kk ∧ Aside (Below w.heap.size w wr) ∧ Aside (∀ j, j < kk → ∀ b, l[j]? = some b → p b = false)));(case atStart => exact ⟨0, Nat.zero_le _, by omega, rfl, Below.refl _ w, fun j hj => absurd hj (Nat.not_lt_zero _)⟩)
 case round =>
  obtain ⟨kk, hkk, hg, rfl, BW, HA⟩ := hrel;(by_cases hlt : kk < l.length)
  ·(have hltz : (kk : Int) < (l.length : Int) := by omega);obtain ⟨ad, rfl, hx0, hx1, hx2⟩ := at_T59 hr (kk : Int) (by omega) hltz;replace hx0 := (BW.out.cell (World.block_lt_of_cell? w _ hx0)).trans hx0;replace hx1 := (BW.out.cell (World.block_lt_of_cell? w _ hx1)).trans hx1;replace hx2 := (BW.out.cell (World.block_lt_of_cell? w _ hx2)).trans hx2;(have hm : rd_T59 l kk ∈ l := by unfold rd_T59; simp [List.getD, hlt]);(have he : l[kk]? = some (rd_T59 l kk) := by unfold rd_T59; simp [List.getD, hlt]);have hcall := HP.out wr (rd_T59 l kk) hm BW.out;generalize hy : rd_T59 l kk = y at hx0 hx1 hx2 hcall he;have HE := Lib.hid he;clear hy hm he;simp only [Int.toNat_natCast] at hx0 hx1 hx2
   cases hq : p y with
   | true =>
    rw [hq] at hcall;(have HQ := Lib.hid hq; clear hq);(go_wp2_with (go_at_fn fv; refine hcall.mono ?_; rintro e w' ⟨rfl, hb'⟩));go_ret;refine ⟨?_, hb'⟩;(rw [pidx_hit p l kk y HE.out HQ.out HA.out]; rfl)
   | false =>
    rw [hq] at hcall;(have HQ := Lib.hid hq; clear hq);(go_wp2_with (go_at_fn fv; refine hcall.mono ?_; rintro e w' ⟨rfl, hb'⟩));go_roundg (l.length - (kk + 1));(case measure => omega)
    case rel =>
     refine ⟨kk + 1, by omega, by omega, by go_num, hb', (show Aside _ from fun j hj b hb => ?_)⟩;(by_cases e : j = kk)
     ·subst e;(rw [HE.out] at hb; obtain rfl := Option.some.inj hb; exact HQ.out)
     ·exact HA.out j (by omega) b hb
  ·(have hltz : ¬ (kk : Int) < (l.length : Int) := by omega);(have : kk = l.length := by omega);subst this;go_wp2;go_ret;refine ⟨?_, BW.out⟩;(rw [pidx_miss p l HA.out]; rfl)

/-! ### impl_Square_97: function 97 -/
set_option maxHeartbeats 8000000 in
theorem impl_Square_97.with (p : S59 → Bool) (fv : Nat) (lb : Array Value) (A : Option Addr) (c : Nat) (l : List S59) (w : World) (hr : Kd.C k59 w A l.length l)
  (eg : ∀ args w, (callFunc fv args).run Try.prog w = .ok (.enter fv args) w)
  (hp : ∀ (W : World) (t : S59), t ∈ l → Below w.heap.size w W → Calls Try.prog fv (#[.agg #[.int .i64 t.f0, .int .i64 t.f1, .int .i64 t.f2]] ++ lb) W fun e w' => e = .returned (.bool (p t)) ∧ Below w.heap.size w w') :
  Calls Try.prog 97 #[.slice A l.length c, .func (.func fv) #[] lb] w fun e w' => e = .returned (.bool (l.any p)) ∧ Below w.heap.size w w' := by
 have HP := Lib.hid hp;clear hp;have e0 : decide (0 ≤ pidx p l) = l.any p := pidx_any p l;generalize l.any p = b at e0 ⊢;have HE := Lib.hid e0;clear e0;go_enter Try.func97, Try.ntmps97;(go_wp2_with (go_at_call 128; refine (impl_Square_128.with p fv lb A c l _ hr eg HP.out).mono ?_; rintro e w' ⟨rfl, hb'⟩));go_ret;exact ⟨by rw [← HE.out]; rfl, hb'⟩

/-! ### impl_overlap: function 99 -/
def impl_overlap.f (a0_0 : Int) (a0_1 : Int) (a0_2 : Int) (a1_0 : Int) (a1_1 : Int) (a1_2 : Int) : Option (Bool) := if a0_0 < (wrap64 (a1_0 + a1_2)) then (if a1_0 < (wrap64 (a0_0 + a0_2)) then (if a0_1 < (wrap64 (a1_1 + a1_2)) then (some (decide (a1_1 < (wrap64 (a0_1 + a0_2))))) else (some false)) else (some false)) else (some false)
set_option maxHeartbeats 8000000 in
set_option maxRecDepth 100000 in
theorem impl_overlap.calls (a0_0 : Int) (a0_1 : Int) (a0_2 : Int) (a1_0 : Int) (a1_1 : Int) (a1_2 : Int) (r : Bool) (w : World) (h : impl_overlap.f a0_0 a0_1 a0_2 a1_0 a1_1 a1_2 = some r) :
  Calls Try.prog 99 #[.agg #[.int .i64 a0_0, .int .i64 a0_1, .int .i64 a0_2], .agg #[.int .i64 a1_0, .int .i64 a1_1, .int .i64 a1_2]] w fun e w' => e = .returned (.bool r) ∧ Below w.heap.size w w' := by
 have hu59 := Try.underlying59;have HB := Aside0.mk (Below.refl w.heap.size w);have H : (if a0_0 < (wrap64 (a1_0 + a1_2)) then (if a1_0 < (wrap64 (a0_0 + a0_2)) then (if a0_1 < (wrap64 (a1_1 + a1_2)) then (some (decide (a1_1 < (wrap64 (a0_1 + a0_2))))) else (some false)) else (some false)) else (some false)) = some r := h;clear h;(by_cases c3 : a0_0 < (wrap64 (a1_0 + a1_2)))
 ·rw [if_pos c3] at H;have c3b0 := decide_eq_true c3;clear c3;(by_cases c4 : a1_0 < (wrap64 (a0_0 + a0_2)))
  ·rw [if_pos c4] at H;have c4b0 := decide_eq_true c4;clear c4;(by_cases c5 : a0_1 < (wrap64 (a1_1 + a1_2)))
   ·rw [if_pos c5] at H;have c5b0 := decide_eq_true c5;clear c5;obtain rfl := Option.some.inj H;go_enter Try.func99, Try.ntmps99;(go_wp2_with (first | ((with_reducible refine gate_dst (N := 2) rfl ?_); refine boxE 2 (#[.int .i64 a0_0, .int .i64 a0_1, .int .i64 a0_2]) 59 ?_; intro gb265 hg w6 hbox hb; have BK265 := Aside0.mk (hbox);have GW265 := Aside0.mk (gz hg HB);have GE265 := Aside0.mk (gz hg HB);replace HB := Aside0.mk (below_step (upW HB) hb); clear hb hbox hg) | ((with_reducible refine gate_dst (N := 3) rfl ?_); refine boxE 3 (#[.int .i64 a1_0, .int .i64 a1_1, .int .i64 a1_2]) 59 ?_; intro gb266 hg w7 hbox hb; have BK266 := Aside0.mk (hbox);have GW266 := Aside0.mk (gz hg HB);have GE266 := Aside0.mk (gz hg HB);replace HB := Aside0.mk (below_step (upW HB) hb);have NB265_266 := Aside0.mk (gn hg BK265);have NB266_265 := Aside0.mk ((by rw [hg]; exact Nat.ne_of_gt (blk_lt (upK BK265)) : gb266 ≠ gb265));replace BK265 := Aside0.mk (blk_below (upK BK265) hb); clear hb hbox hg; have hnb8 := NB265_266.out; have hnc8 := NB266_265.out; obtain ⟨hcz9_0, hcz9_1, hcz9_2, hfz9_0, hfz9_1, hfz9_2⟩ := cz3 BK265 (.int .i64 a0_0) (.int .i64 a0_1) (.int .i64 a0_2); obtain ⟨hcz10_0, hcz10_1, hcz10_2, hfz10_0, hfz10_1, hfz10_2⟩ := cz3 BK266 (.int .i64 a1_0) (.int .i64 a1_1) (.int .i64 a1_2))));go_ret;exact ⟨eqv, upW HB⟩
   ·rw [if_neg c5] at H;have c5b0 := decide_eq_false c5;clear c5;obtain rfl := Option.some.inj H;go_enter Try.func99, Try.ntmps99;(go_wp2_with (first | ((with_reducible refine gate_dst (N := 2) rfl ?_); refine boxE 2 (#[.int .i64 a0_0, .int .i64 a0_1, .int .i64 a0_2]) 59 ?_; intro gb265 hg w11 hbox hb; have BK265 := Aside0.mk (hbox);have GW265 := Aside0.mk (gz hg HB);have GE265 := Aside0.mk (gz hg HB);replace HB := Aside0.mk (below_step (upW HB) hb); clear hb hbox hg) | ((with_reducible refine gate_dst (N := 3) rfl ?_); refine boxE 3 (#[.int .i64 a1_0, .int .i64 a1_1, .int .i64 a1_2]) 59 ?_; intro gb266 hg w12 hbox hb; have BK266 := Aside0.mk (hbox);have GW266 := Aside0.mk (gz hg HB);have GE266 := Aside0.mk (gz hg HB);replace HB := Aside0.mk (below_step (upW HB) hb);have NB265_266 := Aside0.mk (gn hg BK265);have NB266_265 := Aside0.mk ((by rw [hg]; exact Nat.ne_of_gt (blk_lt (upK BK265)) : gb266 ≠ gb265));replace BK265 := Aside0.mk (blk_below (upK BK265) hb); clear hb hbox hg; have hnb13 := NB265_266.out; have hnc13 := NB266_265.out; obtain ⟨hcz14_0, hcz14_1, hcz14_2, hfz14_0, hfz14_1, hfz14_2⟩ := cz3 BK265 (.int .i64 a0_0) (.int .i64 a0_1) (.int .i64 a0_2); obtain ⟨hcz15_0, hcz15_1, hcz15_2, hfz15_0, hfz15_1, hfz15_2⟩ := cz3 BK266 (.int .i64 a1_0) (.int .i64 a1_1) (.int .i64 a1_2))));go_ret;exact ⟨eqv, upW HB⟩
  ·rw [if_neg c4] at H;have c4b0 := decide_eq_false c4;clear c4;obtain rfl := Option.some.inj H;go_enter Try.func99, Try.ntmps99;(go_wp2_with (first | ((with_reducible refine gate_dst (N := 2) rfl ?_); refine boxE 2 (#[.int .i64 a0_0, .int .i64 a0_1, .int .i64 a0_2]) 59 ?_; intro gb265 hg w16 hbox hb; have BK265 := Aside0.mk (hbox);have GW265 := Aside0.mk (gz hg HB);have GE265 := Aside0.mk (gz hg HB);replace HB := Aside0.mk (below_step (upW HB) hb); clear hb hbox hg) | ((with_reducible refine gate_dst (N := 3) rfl ?_); refine boxE 3 (#[.int .i64 a1_0, .int .i64 a1_1, .int .i64 a1_2]) 59 ?_; intro gb266 hg w17 hbox hb; have BK266 := Aside0.mk (hbox);have GW266 := Aside0.mk (gz hg HB);have GE266 := Aside0.mk (gz hg HB);replace HB := Aside0.mk (below_step (upW HB) hb);have NB265_266 := Aside0.mk (gn hg BK265);have NB266_265 := Aside0.mk ((by rw [hg]; exact Nat.ne_of_gt (blk_lt (upK BK265)) : gb266 ≠ gb265));replace BK265 := Aside0.mk (blk_below (upK BK265) hb); clear hb hbox hg; have hnb18 := NB265_266.out; have hnc18 := NB266_265.out; obtain ⟨hcz19_0, hcz19_1, hcz19_2, hfz19_0, hfz19_1, hfz19_2⟩ := cz3 BK265 (.int .i64 a0_0) (.int .i64 a0_1) (.int .i64 a0_2); obtain ⟨hcz20_0, hcz20_1, hcz20_2, hfz20_0, hfz20_1, hfz20_2⟩ := cz3 BK266 (.int .i64 a1_0) (.int .i64 a1_1) (.int .i64 a1_2))));go_ret;exact ⟨eqv, upW HB⟩
 ·rw [if_neg c3] at H;have c3b0 := decide_eq_false c3;clear c3;obtain rfl := Option.some.inj H;go_enter Try.func99, Try.ntmps99;(go_wp2_with (first | ((with_reducible refine gate_dst (N := 2) rfl ?_); refine boxE 2 (#[.int .i64 a0_0, .int .i64 a0_1, .int .i64 a0_2]) 59 ?_; intro gb265 hg w21 hbox hb; have BK265 := Aside0.mk (hbox);have GW265 := Aside0.mk (gz hg HB);have GE265 := Aside0.mk (gz hg HB);replace HB := Aside0.mk (below_step (upW HB) hb); clear hb hbox hg) | ((with_reducible refine gate_dst (N := 3) rfl ?_); refine boxE 3 (#[.int .i64 a1_0, .int .i64 a1_1, .int .i64 a1_2]) 59 ?_; intro gb266 hg w22 hbox hb; have BK266 := Aside0.mk (hbox);have GW266 := Aside0.mk (gz hg HB);have GE266 := Aside0.mk (gz hg HB);replace HB := Aside0.mk (below_step (upW HB) hb);have NB265_266 := Aside0.mk (gn hg BK265);have NB266_265 := Aside0.mk ((by rw [hg]; exact Nat.ne_of_gt (blk_lt (upK BK265)) : gb266 ≠ gb265));replace BK265 := Aside0.mk (blk_below (upK BK265) hb); clear hb hbox hg; have hnb23 := NB265_266.out; have hnc23 := NB266_265.out; obtain ⟨hcz24_0, hcz24_1, hcz24_2, hfz24_0, hfz24_1, hfz24_2⟩ := cz3 BK265 (.int .i64 a0_0) (.int .i64 a0_1) (.int .i64 a0_2); obtain ⟨hcz25_0, hcz25_1, hcz25_2, hfz25_0, hfz25_1, hfz25_2⟩ := cz3 BK266 (.int .i64 a1_0) (.int .i64 a1_1) (.int .i64 a1_2))));go_ret;exact ⟨eqv, upW HB⟩

/-! ### impl_IsCut_1: function 98 -/
set_option maxHeartbeats 8000000 in
theorem impl_IsCut_1.calls (x y s a0_0 a0_1 a0_2 : Int) (g : Nat) (r : Bool) (w : World) (hg : w.heap[g]? = some (.cells #[.int .i64 x, .int .i64 y, .int .i64 s] 59 (0, 0))) (h : impl_overlap.f x y s a0_0 a0_1 a0_2 = some r) :
  Calls Try.prog 98 #[.agg #[.int .i64 a0_0, .int .i64 a0_1, .int .i64 a0_2], .pointer (some ⟨g, 0, none⟩)] w fun e w' => e = .returned (.bool r) ∧ Below w.heap.size w w' := by
 have hu59 := Try.underlying59;have h0 : w.cell? ⟨g, 0, none⟩ = some (.int .i64 x) := (blk_cell hg 0).trans rfl;have h1 : w.cell? ⟨g, 1, none⟩ = some (.int .i64 y) := (blk_cell hg 1).trans rfl;have h2 : w.cell? ⟨g, 2, none⟩ = some (.int .i64 s) := (blk_cell hg 2).trans rfl;have hlt : g < w.heap.size := blk_lt hg;have HG := Aside0.mk hg;have HH := Aside0.mk h;clear hg h;go_enter Try.func98, Try.ntmps98;(go_wp2_with (go_at_call 99; (with_reducible refine (impl_overlap.calls x y s a0_0 a0_1 a0_2 r _ HH.out).mono ?_); rintro e w' ⟨rfl, hb⟩));go_ret;exact ⟨rfl, below_step (below_alloc (Below.refl _ _) _) hb⟩


/-! ### slices_ContainsFunc_impl_Square_impl_Square__impl_IsCut_1: the pair slices.ContainsFunc[[]loop.example/g01296/impl.Square,loop.example/g01296/impl.Square] -/
def slices_ContainsFunc_impl_Square_impl_Square__impl_IsCut_1.f (l : List S59) (x y s : Int) : Option Bool := some (l.any fun t => (impl_overlap.f x y s t.f0 t.f1 t.f2).getD false)
theorem slices_ContainsFunc_impl_Square_impl_Square__impl_IsCut_1.some_ (x y s a b c : Int) : impl_overlap.f x y s a b c = some ((impl_overlap.f x y s a b c).getD false) := by
 unfold impl_overlap.f;(split)
 ·(split)
  ·(split)
   ·rfl
   ·rfl
  ·rfl
 ·rfl
theorem slices_ContainsFunc_impl_Square_impl_Square__impl_IsCut_1.calls (A0 : Option Addr) (c0 : Nat) (l0 : List S59) (g1 : Nat) (x y s : Int) (r : Bool) (w : World) (hr0 : Kd.C k59 w A0 l0.length l0) (hc0 : l0.length ≤ c0)
  (hg1 : w.heap[g1]? = some (.cells #[.int .i64 x, .int .i64 y, .int .i64 s] 59 (0, 0))) (h : slices_ContainsFunc_impl_Square_impl_Square__impl_IsCut_1.f l0 x y s = some r) :
  Calls Try.prog 97 #[.slice A0 l0.length c0, .func (.func 98) #[] #[.pointer (some ⟨g1, 0, none⟩)]] w fun e w' => e = .returned (.bool r) ∧ Below w.heap.size w w' := by
 obtain rfl := Option.some.inj h;(refine impl_Square_97.with _ 98 _ A0 c0 l0 w hr0 (fun args w => enters_ Try.func98 (by kernel_rfl) rfl args w) fun W t _ hb => ?_);(exact (impl_IsCut_1.calls x y s t.f0 t.f1 t.f2 g1 _ W (blk_below hg1 hb) (slices_ContainsFunc_impl_Square_impl_Square__impl_IsCut_1.some_ ..)).mono fun e w' ⟨he, hb'⟩ => ⟨he, below_step hb hb'⟩)

end Go.Proofs.Ytocblinaclehdaa.PFnExactCompareCodes
