/- The law FnExactCountGreedy answers true for every two whole numbers of 64 bits. -/
import Derived.Test.YtpeldebkflpjbaaPFnExactCountGreedyx1
namespace Go.Proofs.Ytpeldebkflpjbaa.Pure
open Go.RowKit Go.Proofs.Ytpeldebkflpjbaa.PFnExactCountGreedy Go.Proofs.YtpeldebkflpjbaaW.PrintWords Go.Proofs.YtpeldebkflpjbaaW.PrintLast

theorem l1In_eq (a b c : Int) : spec_l1In.f a b c = some (decide (b ≤ a ∧ a ≤ c)) := by
  unfold spec_l1In.f
  by_cases h : b ≤ a
  · rw [if_pos h]; simp [h]
  · rw [if_neg h]; simp [h]

theorem within_eq (a b c : Int) : impl_within.f a b c = some (decide (b ≤ a ∧ a ≤ c)) := by
  unfold impl_within.f
  by_cases h : b ≤ a
  · rw [if_pos h]; simp [h]
  · rw [if_neg h]; simp [h]

theorem wrap64_id {n : Int} (h1 : -9223372036854775808 ≤ n) (h2 : n < 9223372036854775808) : wrap64 n = n := by
  unfold wrap64; omega


theorem raGood_eq (a b : Int) : spec_raGood.f a b = some (decide ((1 ≤ a ∧ a ≤ 1000) ∧ (1 ≤ b ∧ b ≤ 1000))) := by
  unfold spec_raGood.f; rw [l1In_eq, l1In_eq]
  by_cases h : 1 ≤ a ∧ a ≤ 1000 <;> simp [h]

theorem isRatio_eq (a b : Int) : impl_isRatio.f a b = some (decide ((1 ≤ a ∧ a ≤ 1000) ∧ (1 ≤ b ∧ b ≤ 1000))) := by
  unfold impl_isRatio.f; rw [within_eq, within_eq]
  by_cases h : 1 ≤ a ∧ a ≤ 1000 <;> simp [h]

theorem loops_same : ∀ (k : Nat) (a b : Int) (l : List Int), spec_raQuotients.l0 k a b l = impl_quotients.l0 k a b l
  | 0, _, _, _ => rfl
  | k + 1, a, b, l => by
    simp only [spec_raQuotients.l0, impl_quotients.l0]
    rw [loops_same k]

theorem sums_same : ∀ (k : Nat) (a : Int) (l : List Int) (n i : Int), spec_raSum.l0 k a l n i = impl_sum.l0 k a l n i
  | 0, _, _, _, _ => rfl
  | k + 1, a, l, n, i => by
    simp only [spec_raSum.l0, impl_sum.l0]
    rw [sums_same k]

theorem quots_ends : ∀ (d k : Nat) (a b : Int) (l : List Int), 0 ≤ b → b < d → l.length + d ≤ 5000 → d < k →
    ∃ r, impl_quotients.l0 k a b l = some r ∧ r.length ≤ 5000
  | 0, k, a, b, l, h0, h1, _, _ => by omega
  | d + 1, k, a, b, l, h0, h1, h2, h3 => by
    obtain ⟨k, rfl⟩ : ∃ m, k = m + 1 := ⟨k - 1, by omega⟩
    simp only [impl_quotients.l0]
    by_cases hb : b > 0
    · rw [if_pos hb, if_neg (by omega), if_pos (by omega)]
      have g1 : 0 ≤ Int.tmod a b ∨ Int.tmod a b < 0 := by omega
      by_cases g : b.toNat ≤ d
      · by_cases ha : 0 ≤ a
        · exact quots_ends d k b (Int.tmod a b) _ (Int.tmod_nonneg b ha) (by have := Int.tmod_lt_of_pos a hb; omega) (by simp; omega) (by omega)
        · -- a negative number ahead: the loop ends at once behind this round
          by_cases hm : 0 ≤ Int.tmod a b
          · exact quots_ends d k b (Int.tmod a b) _ hm (by have := Int.tmod_lt_of_pos a hb; omega) (by simp; omega) (by omega)
          · obtain ⟨k, rfl⟩ : ∃ m, k = m + 1 := ⟨k - 1, by omega⟩
            refine ⟨l ++ [wrap64 (Int.tdiv a b)], ?_, by simp; omega⟩
            simp only [impl_quotients.l0]
            rw [if_neg (by omega)]
      · omega
    · rw [if_neg hb]; exact ⟨l, rfl, by omega⟩

theorem sum_ends (l : List Int) (hl : l.length ≤ 5000) : ∀ (d k : Nat) (a : Int) (i : Int), 0 ≤ i → i ≤ l.length → (l.length : Int) - i = d → d < k →
    ∃ r, impl_sum.l0 k a l l.length i = some r
  | d, k, a, i, h0, h1, h2, h3 => by
    obtain ⟨k, rfl⟩ : ∃ m, k = m + 1 := ⟨k - 1, by omega⟩
    simp only [impl_sum.l0]
    by_cases hi : i < (l.length : Int)
    · obtain ⟨d, rfl⟩ : ∃ m, d = m + 1 := ⟨d - 1, by omega⟩
      rw [if_pos hi, if_pos h0, if_pos hi, wrap64_id (n := i + 1) (by omega) (by omega)]
      exact sum_ends l hl d k _ (i + 1) (by omega) (by omega) (by omega) (by omega)
    · rw [if_neg hi]; exact ⟨a, rfl⟩

theorem FnExactCountGreedy : laws_FnExactCountGreedy.Pure := by
  intro a0 a1 w0 w1
  refine ⟨5005, ?_⟩
  unfold laws_FnExactCountGreedy.f spec_CountGreedy.f impl_CountGreedy.f impl_QuotientsOf.f
  rw [raGood_eq, isRatio_eq]
  by_cases h : (1 ≤ a0 ∧ a0 ≤ 1000) ∧ (1 ≤ a1 ∧ a1 ≤ 1000)
  · simp only [h, and_self, decide_true, Option.bind_some, if_true]
    have q : spec_raQuotients.f 5005 a0 a1 = impl_quotients.f 5005 a0 a1 := by
      unfold spec_raQuotients.f impl_quotients.f spec_l1Most.f spec_l1Least.f mx mn
      by_cases c1 : a0 > a1
      · rw [if_pos c1, if_neg (by omega : ¬ a0 < a1), if_neg (by omega : ¬ a0 < a1), if_pos (by omega : a1 < a0)]
        exact loops_same _ _ _ _
      · by_cases c2 : a0 < a1
        · rw [if_neg c1, if_pos c2, if_pos c2, if_neg (by omega : ¬ a1 < a0)]
          exact loops_same _ _ _ _
        · obtain rfl : a0 = a1 := by omega
          simp only [Int.lt_irrefl, gt_iff_lt, if_false, Option.bind_some]
          exact loops_same _ _ _ _
    rw [q]
    obtain ⟨r, hr, hl⟩ : ∃ r, impl_quotients.f 5005 a0 a1 = some r ∧ r.length ≤ 5000 := by
      unfold impl_quotients.f
      refine quots_ends 1001 5005 _ _ _ ?_ ?_ (by simp) (by omega)
      · unfold mn; split <;> omega
      · unfold mn; split <;> omega
    rw [hr]; simp only [Option.bind_some]
    obtain ⟨s, hs⟩ := sum_ends r hl r.length 5005 0 0 (by omega) (by omega) (by omega) (by omega)
    have e1 : spec_raSum.f 5005 r = some s := by unfold spec_raSum.f; rw [sums_same]; exact hs
    have e2 : impl_sum.f 5005 r = some s := hs
    rw [e1, e2]; simp
  · simp only [h, decide_false, Option.bind_some, Bool.false_eq_true, if_false]
    have e2 : impl_sum.f 5005 [] = some 0 := by rfl
    rw [e2]; simp

end Go.Proofs.Ytpeldebkflpjbaa.Pure
