/- The law FnExactWordOfRatio answers true for every two whole numbers of 64 bits. -/
import Derived.Test.YtpeldebkflpjbaaPFnExactWordOfRatiox2
namespace Go.Proofs.Ytpeldebkflpjbaa.Pure
open Go.RowKit Go.Proofs.Ytpeldebkflpjbaa.PFnExactWordOfRatio Go.Proofs.YtpeldebkflpjbaaW.PrintWords Go.Proofs.YtpeldebkflpjbaaW.PrintLast

theorem l1In_eq (a b c : Int) : spec_l1In.f a b c = some (decide (b ≤ a ∧ a ≤ c)) := by
  unfold spec_l1In.f
  by_cases h : b ≤ a
  · rw [if_pos h]; simp [h]
  · rw [if_neg h]; simp [h]

theorem within_eq (a b c : Int) : impl_within.f a b c = some (decide (b ≤ a ∧ a ≤ c)) := by
  unfold impl_within.f
  by_cases h : b ≤ a
  · rw [if_pos h]; simp [h]
  · rw [if_neg h]; simp [h]

theorem wrap64_id {n : Int} (h1 : -9223372036854775808 ≤ n) (h2 : n < 9223372036854775808) : wrap64 n = n := by
  unfold wrap64; omega

/-- the signs of a word, the last one that is put first in the program's list -/
def wd : Nat → Int → Int → List Int
  | 0, _, _ => []
  | n + 1, w, h => if w = h then [] else if w > h then 98 :: wd n (w - h) h else 117 :: wd n w (h - w)

theorem wd_scale (g : Int) (hg : 0 < g) : ∀ (n : Nat) (w h : Int), wd n (g * w) (g * h) = wd n w h
  | 0, _, _ => rfl
  | n + 1, w, h => by
    simp only [wd]
    have e1 : (g * w = g * h) ↔ w = h := ⟨fun e => Int.eq_of_mul_eq_mul_left (by omega) e, fun e => by rw [e]⟩
    have e2 : (g * w > g * h) ↔ w > h := ⟨fun e => Int.lt_of_mul_lt_mul_left e (by omega), fun e => Int.mul_lt_mul_of_pos_left e hg⟩
    simp only [e1, e2, ← Int.mul_sub, wd_scale g hg n]

theorem raGood_eq (a b : Int) : spec_raGood.f a b = some (decide ((1 ≤ a ∧ a ≤ 1000) ∧ (1 ≤ b ∧ b ≤ 1000))) := by
  unfold spec_raGood.f; rw [l1In_eq, l1In_eq]
  by_cases h : 1 ≤ a ∧ a ≤ 1000 <;> simp [h]

theorem isRatio_eq (a b : Int) : impl_isRatio.f a b = some (decide ((1 ≤ a ∧ a ≤ 1000) ∧ (1 ≤ b ∧ b ≤ 1000))) := by
  unfold impl_isRatio.f; rw [within_eq, within_eq]
  by_cases h : 1 ≤ a ∧ a ≤ 1000 <;> simp [h]

theorem con_98 (l : List Int) : (⟨#[98]⟩ : ByteArray) ++ strOfNums l = strOfNums (98 :: l) := by
  apply ByteArray.ext; rw [ByteArray.data_append]; simp [strOfNums]

theorem con_117 (l : List Int) : (⟨#[117]⟩ : ByteArray) ++ strOfNums l = strOfNums (117 :: l) := by
  apply ByteArray.ext; rw [ByteArray.data_append]; simp [strOfNums]

theorem spec_word : ∀ (d k : Nat) (w h : Int) (l : List Int), 1 ≤ w → 1 ≤ h → w + h ≤ d → l.length + d ≤ 5000 → d < k →
    spec_raOf.l0 k w h (strOfNums l) = some (strOfNums ((wd d w h).reverse ++ l)) ∧ (wd d w h).length ≤ d
  | 0, k, w, h, l, h0, h1, h2, _, _ => by omega
  | d + 1, k, w, h, l, h0, h1, h2, h3, h4 => by
    obtain ⟨k, rfl⟩ : ∃ m, k = m + 1 := ⟨k - 1, by omega⟩
    simp only [spec_raOf.l0, wd]
    by_cases e : w = h
    · rw [if_pos e, if_pos e]; simp
    · rw [if_neg e, if_neg e]
      by_cases g : w > h
      · rw [if_pos g, if_pos g, strOfNums_size, if_pos (by omega), con_98, wrap64_id (by omega) (by omega)]
        obtain ⟨i1, i2⟩ := spec_word d k (w - h) h (98 :: l) (by omega) (by omega) (by omega) (by simp; omega) (by omega)
        rw [i1]; simp; omega
      · rw [if_neg g, if_neg g, strOfNums_size, if_pos (by omega), con_117, wrap64_id (by omega) (by omega)]
        obtain ⟨i1, i2⟩ := spec_word d k w (h - w) (117 :: l) (by omega) (by omega) (by omega) (by simp; omega) (by omega)
        rw [i1]; simp; omega

theorem raOf_eq (k : Nat) (w h : Int) (h0 : 1 ≤ w) (h1 : 1 ≤ h) (hd : w + h ≤ 2000) (hk : 2000 < k) :
    spec_raOf.f k w h = some (strOfNums (wd 2000 w h).reverse) ∧ (wd 2000 w h).length ≤ 2000 := by
  have e := spec_word 2000 k w h [] h0 h1 (by omega) (by simp) hk
  refine ⟨?_, e.2⟩
  unfold spec_raOf.f
  have e1 := e.1
  simp only [List.append_nil] at e1
  exact e1

theorem common_tells : ∀ (d k : Nat) (a b : Int), 0 ≤ a → 0 ≤ b → (0 < a ∨ 0 < b) → b < d → d < k →
    ∃ g, impl_common.l0 k a b = some g ∧ 0 < g ∧ g ∣ a ∧ g ∣ b
  | 0, k, a, b, _, h1, _, h2, _ => by omega
  | d + 1, k, a, b, h0, h1, h2, h3, h4 => by
    obtain ⟨k, rfl⟩ : ∃ m, k = m + 1 := ⟨k - 1, by omega⟩
    simp only [impl_common.l0]
    by_cases hb : b > 0
    · rw [if_pos hb, if_neg (by omega)]
      have m0 := Int.tmod_nonneg b h0
      have m1 := Int.tmod_lt_of_pos a hb
      obtain ⟨g, hg, g0, g1, g2⟩ := common_tells d k b (Int.tmod a b) h1 m0 (Or.inl hb) (by omega) (by omega)
      refine ⟨g, hg, g0, ?_, g1⟩
      have e := Int.mul_tdiv_add_tmod a b
      rw [← e]
      exact Int.dvd_add (Int.dvd_trans g1 (Int.dvd_mul_right b _)) g2
    · rw [if_neg hb]
      obtain rfl : b = 0 := by omega
      exact ⟨a, rfl, by omega, Int.dvd_refl a, Int.dvd_zero a⟩

theorem rd_set (l : List Int) (i : Int) (v : Int) (hi : 0 ≤ i) (hl : i < l.length) (m : Nat) :
    (l.set i.toNat v).getD m 0 = if m = i.toNat then v else l.getD m 0 := by
  by_cases e : m = i.toNat
  · subst e; simp [List.getD, show i.toNat < l.length by omega]
  · have e' : i.toNat ≠ m := fun h => e h.symm
    simp [List.getD, e', e]

theorem rev_tells : ∀ (d k : Nat) (x : List Int) (i j : Int), 0 ≤ i → j < x.length → -1 ≤ j → x.length ≤ 5000 → j - i < d → d < k → i ≤ x.length →
    ∃ y, slices_Reverse_byte_byte.l0 k x i j = some y ∧ y.length = x.length ∧
      ∀ m : Nat, y.getD m 0 = if i ≤ m ∧ (m : Int) ≤ j then x.getD (i + j - m).toNat 0 else x.getD m 0
  | d, k, x, i, j, h0, h1, h2, h3, h4, h5, h6 => by
    obtain ⟨k, rfl⟩ : ∃ m, k = m + 1 := ⟨k - 1, by omega⟩
    simp only [slices_Reverse_byte_byte.l0]
    by_cases hij : i < j
    · obtain ⟨d, rfl⟩ : ∃ m, d = m + 1 := ⟨d - 1, by omega⟩
      rw [if_pos hij, if_pos (by omega), if_pos (by omega), if_pos (by omega), if_pos (by omega), wrap64_id (by omega) (by omega), wrap64_id (by omega) (by omega)]
      obtain ⟨y, y1, y2, y3⟩ := rev_tells d k ((x.set i.toNat (rd x j)).set j.toNat (rd x i)) (i + 1) (j - 1) (by omega) (by simp; omega) (by omega) (by simp; omega) (by omega) (by omega) (by simp; omega)
      refine ⟨y, y1, by simpa using y2, fun m => ?_⟩
      rw [y3 m]
      have s : ∀ q : Nat, ((x.set i.toNat (rd x j)).set j.toNat (rd x i)).getD q 0 = if q = j.toNat then rd x i else if q = i.toNat then rd x j else x.getD q 0 := by
        intro q
        rw [rd_set _ _ _ (by omega) (by simp; omega), rd_set _ _ _ (by omega) (by omega)]
      by_cases c : i + 1 ≤ (m : Int) ∧ (m : Int) ≤ j - 1
      · rw [if_pos c, if_pos (by omega), s, if_neg (by omega), if_neg (by omega)]
        congr 2; omega
      · rw [if_neg c, s]
        by_cases cj : m = j.toNat
        · rw [if_pos cj, if_pos (by omega)]; unfold rd; congr 1; omega
        · rw [if_neg cj]
          by_cases ci : m = i.toNat
          · rw [if_pos ci, if_pos (by omega)]; unfold rd; congr 1; omega
          · rw [if_neg ci, if_neg (by omega)]
    · rw [if_neg hij]
      refine ⟨x, rfl, rfl, fun m => ?_⟩
      by_cases c : i ≤ (m : Int) ∧ (m : Int) ≤ j
      · rw [if_pos c]; congr 1; omega
      · rw [if_neg c]

theorem rev_eq (k : Nat) (x : List Int) (hx : x.length ≤ 5000) (hk : 5001 < k) : slices_Reverse_byte_byte.f k x = some x.reverse := by
  unfold slices_Reverse_byte_byte.f
  rw [wrap64_id (by omega) (by omega)]
  obtain ⟨y, y1, y2, y3⟩ := rev_tells 5001 k x 0 ((x.length : Int) - 1) (by omega) (by omega) (by omega) hx (by omega) hk (by omega)
  rw [y1]
  congr 1
  apply List.ext_getElem
  · simp [y2]
  · intro m m1 m2
    have e := y3 m
    rw [if_pos (by omega)] at e
    simp only [List.getD, List.getElem?_eq_getElem m1, Option.getD_some] at e
    rw [e, List.getElem_reverse]
    have e2 : (0 + ((x.length : Int) - 1) - (m : Int)).toNat = x.length - 1 - m := by omega
    rw [e2, List.getElem?_eq_getElem (by omega)]
    rfl

theorem impl_word (k : Nat) (hk : 8000 < k) : ∀ (d q : Nat) (w h : Int) (l : List Int), 1 ≤ w → 1 ≤ h → w + h ≤ d → d ≤ 2000 → l.length ≤ 20 → q = k + d →
    impl_wordOf.l0 q l w h = if l.length + (wd d w h).length ≤ 20 then some (strOfNums (l ++ wd d w h).reverse, true) else some (strOfNums [], false)
  | 0, q, w, h, l, h0, h1, h2, _, _, _ => by omega
  | d + 1, q, w, h, l, h0, h1, h2, h3, h5, h4 => by
    obtain ⟨q, rfl⟩ : ∃ m, q = m + 1 := ⟨q - 1, by omega⟩
    simp only [impl_wordOf.l0]
    by_cases e : w = h
    · have ew : wd (d + 1) w h = [] := by simp [wd, e]
      rw [ew, if_pos e, rev_eq q l (by omega) (by omega), if_pos (by simp; omega)]; simp
    · rw [if_neg e]
      by_cases c : (l.length : Int) = 20
      · rw [if_pos c]
        by_cases g : w > h
        · have ew : wd (d + 1) w h = 98 :: wd d (w - h) h := by simp [wd, e, g]
          rw [ew, if_neg (by simp; omega)]; rfl
        · have ew : wd (d + 1) w h = 117 :: wd d w (h - w) := by simp [wd, e, g]
          rw [ew, if_neg (by simp; omega)]; rfl
      · rw [if_neg c]
        by_cases g : w > h
        · have ew : wd (d + 1) w h = 98 :: wd d (w - h) h := by simp [wd, e, g]
          rw [ew, if_pos g, if_pos (by omega), wrap64_id (by omega) (by omega), impl_word k hk d q (w - h) h (l ++ [98]) (by omega) (by omega) (by omega) (by omega) (by simp; omega) (by omega)]
          simp only [List.length_append, List.length_cons, List.length_nil, List.append_assoc, List.cons_append, List.nil_append]
          by_cases z : l.length + 1 + (wd d (w - h) h).length ≤ 20
          · rw [if_pos (by omega), if_pos (by omega)]
          · rw [if_neg (by omega), if_neg (by omega)]
        · have ew : wd (d + 1) w h = 117 :: wd d w (h - w) := by simp [wd, e, g]
          rw [ew, if_neg g, if_pos (by omega), wrap64_id (by omega) (by omega), impl_word k hk d q w (h - w) (l ++ [117]) (by omega) (by omega) (by omega) (by omega) (by simp; omega) (by omega)]
          simp only [List.length_append, List.length_cons, List.length_nil, List.append_assoc, List.cons_append, List.nil_append]
          by_cases z : l.length + 1 + (wd d w (h - w)).length ≤ 20
          · rw [if_pos (by omega), if_pos (by omega)]
          · rw [if_neg (by omega), if_neg (by omega)]

theorem wordOf_eq (w h : Int) (h0 : 1 ≤ w ∧ w ≤ 1000) (h1 : 1 ≤ h ∧ h ≤ 1000) :
    ∀ K : Nat, K = 11000 → impl_wordOf.f K w h = if (wd 2000 w h).length ≤ 20 then some (strOfNums (wd 2000 w h).reverse, true) else some (strOfNums [], false) := by
  intro K hK
  unfold impl_wordOf.f impl_common.f
  obtain ⟨g, hg, g0, ⟨a, ha⟩, ⟨b, hb⟩⟩ := common_tells 1001 K w h (by omega) (by omega) (by omega) (by omega) (by omega)
  rw [hg]; simp only [Option.bind_some]
  rw [if_neg (by omega)]
  have da : Int.tdiv w g = a := by rw [ha]; exact Int.mul_tdiv_cancel_left a (by omega)
  have db : Int.tdiv h g = b := by rw [hb]; exact Int.mul_tdiv_cancel_left b (by omega)
  have a1 : 1 ≤ a := by
    have : 0 < g * a := by omega
    have := Int.pos_of_mul_pos_right this (by omega) 
    omega
  have b1 : 1 ≤ b := by
    have : 0 < g * b := by omega
    have := Int.pos_of_mul_pos_right this (by omega)
    omega
  have a2 : a ≤ w := by
    have : 1 * a ≤ g * a := Int.mul_le_mul_of_nonneg_right (by omega) (by omega)
    omega
  have b2 : b ≤ h := by
    have : 1 * b ≤ g * b := Int.mul_le_mul_of_nonneg_right (by omega) (by omega)
    omega
  rw [da, db, wrap64_id (by omega) (by omega), wrap64_id (by omega) (by omega)]
  rw [impl_word 9000 (by omega) 2000 K a b [] a1 b1 (by omega) (by omega) (by simp) (by omega)]
  have s := wd_scale g g0 2000 a b
  rw [← ha, ← hb] at s
  rw [← s]; simp

theorem both (w h : Int) (h0 : 1 ≤ w ∧ w ≤ 1000) (h1 : 1 ≤ h ∧ h ≤ 1000) (K : Nat) (hK : K = 11000) : ∃ W : List Int, W.length ≤ 2000 ∧
    spec_raOf.f K w h = some (strOfNums W.reverse) ∧ impl_wordOf.f K w h = if W.length ≤ 20 then some (strOfNums W.reverse, true) else some (strOfNums [], false) := by
  obtain ⟨r1, r2⟩ := raOf_eq K w h h0.1 h1.1 (by omega) (by omega)
  exact ⟨wd 2000 w h, r2, r1, wordOf_eq w h h0 h1 K hK⟩


theorem FnExactWordOfRatio : laws_FnExactWordOfRatio.Pure := by
  intro a0 a1 w0 w1
  obtain ⟨K, hK⟩ : ∃ k : Nat, k = 11000 := ⟨11000, rfl⟩
  refine ⟨K, ?_⟩
  unfold laws_FnExactWordOfRatio.f spec_WordOfRatio.f impl_WordOfRatio.f
  rw [raGood_eq, isRatio_eq]
  by_cases h : (1 ≤ a0 ∧ a0 ≤ 1000) ∧ (1 ≤ a1 ∧ a1 ≤ 1000)
  · obtain ⟨W, r2, r1, r3⟩ := both a0 a1 h.1 h.2 K hK
    rw [r3, r1]
    simp only [h, and_self, decide_true, Option.bind_some, if_true, strOfNums_size, List.length_reverse]
    by_cases c : W.length ≤ 20
    · rw [if_pos c, if_neg (by omega)]; simp
    · rw [if_neg c, if_pos (by omega)]; simp [strOfNums]
  · simp [h]

end Go.Proofs.Ytpeldebkflpjbaa.Pure
