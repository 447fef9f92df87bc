/- The law FnExactCountRatios answers true for every whole number of 64 bits. -/
import Derived.Test.YtpeldebkflpjbaaPFnExactCountRatiosx1
namespace Go.Proofs.Ytpeldebkflpjbaa.Pure
open Go.RowKit Go.Proofs.Ytpeldebkflpjbaa.PFnExactCountRatios Go.Proofs.YtpeldebkflpjbaaW.PrintWords Go.Proofs.YtpeldebkflpjbaaW.PrintLast

theorem l1In_eq (a b c : Int) : spec_l1In.f a b c = some (decide (b ≤ a ∧ a ≤ c)) := by
  unfold spec_l1In.f
  by_cases h : b ≤ a
  · rw [if_pos h]; simp [h]
  · rw [if_neg h]; simp [h]

theorem within_eq (a b c : Int) : impl_within.f a b c = some (decide (b ≤ a ∧ a ≤ c)) := by
  unfold impl_within.f
  by_cases h : b ≤ a
  · rw [if_pos h]; simp [h]
  · rw [if_neg h]; simp [h]

theorem wrap64_id {n : Int} (h1 : -9223372036854775808 ≤ n) (h2 : n < 9223372036854775808) : wrap64 n = n := by
  unfold wrap64; omega

theorem FnExactCountRatios : laws_FnExactCountRatios.Pure := by
  intro a0 w0
  unfold laws_FnExactCountRatios.f spec_CountRatios.f impl_CountRatios.f spec_raMany.f impl_isOrder.f
  rw [l1In_eq, within_eq]
  by_cases h : 1 ≤ a0 ∧ a0 ≤ 21
  · have e : wrap64 (a0 - 1) = a0 - 1 := wrap64_id (by omega) (by omega)
    simp [h, e]
  · simp [h]

end Go.Proofs.Ytpeldebkflpjbaa.Pure
