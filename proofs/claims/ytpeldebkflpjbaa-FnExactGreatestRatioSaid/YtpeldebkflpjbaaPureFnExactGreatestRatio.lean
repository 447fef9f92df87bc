/- The law FnExactGreatestRatio answers true for every whole number of 64 bits. -/
import Derived.Test.YtpeldebkflpjbaaPFnExactGreatestRatiox1
namespace Go.Proofs.Ytpeldebkflpjbaa.Pure
open Go.RowKit Go.Proofs.Ytpeldebkflpjbaa.PFnExactGreatestRatio Go.Proofs.YtpeldebkflpjbaaW.PrintWords Go.Proofs.YtpeldebkflpjbaaW.PrintLast

theorem l1In_eq (a b c : Int) : spec_l1In.f a b c = some (decide (b ≤ a ∧ a ≤ c)) := by
  unfold spec_l1In.f
  by_cases h : b ≤ a
  · rw [if_pos h]; simp [h]
  · rw [if_neg h]; simp [h]

theorem within_eq (a b c : Int) : impl_within.f a b c = some (decide (b ≤ a ∧ a ≤ c)) := by
  unfold impl_within.f
  by_cases h : b ≤ a
  · rw [if_pos h]; simp [h]
  · rw [if_neg h]; simp [h]

theorem wrap64_id {n : Int} (h1 : -9223372036854775808 ≤ n) (h2 : n < 9223372036854775808) : wrap64 n = n := by
  unfold wrap64; omega


theorem spec_out (k : Nat) (a0 : Int) (h : ¬ (1 ≤ a0 ∧ a0 ≤ 21)) : spec_GreatestRatio.f k a0 = some (0, 0, false) := by
  unfold spec_GreatestRatio.f spec_raMany.f
  rw [l1In_eq]; simp [h]

theorem impl_out (k : Nat) (a0 : Int) (h : ¬ (1 ≤ a0 ∧ a0 ≤ 21)) : impl_GreatestRatio.f k a0 = some (0, 0, false) := by
  unfold impl_GreatestRatio.f impl_isOrder.f
  rw [within_eq]; simp [h]

theorem all_in : ∀ n : Fin 21, laws_FnExactGreatestRatio.f 30 ((n.val : Int) + 1) = some true := by decide +kernel

theorem FnExactGreatestRatio : laws_FnExactGreatestRatio.Pure := by
  intro a0 w0
  refine ⟨30, ?_⟩
  by_cases h : 1 ≤ a0 ∧ a0 ≤ 21
  · have e := all_in ⟨(a0 - 1).toNat, by omega⟩
    have e2 : (((a0 - 1).toNat : Nat) : Int) + 1 = a0 := by omega
    simp only [e2] at e
    exact e
  · unfold laws_FnExactGreatestRatio.f
    rw [spec_out _ _ h, impl_out _ _ h]; simp

end Go.Proofs.Ytpeldebkflpjbaa.Pure
