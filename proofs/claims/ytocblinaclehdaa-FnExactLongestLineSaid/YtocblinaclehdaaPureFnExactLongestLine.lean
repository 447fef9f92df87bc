/- The longest line: between two heights just one square covers each place, so a side runs there or a square goes across; the longest runs are the same. -/
import Derived.Test.YtocblinaclehdaaPFnExactLongestLinex10
import Derived.Test.YtocblinaclehdaaPFnExactLongestLinex0
import Derived.Test.YtocblinaclehdaaPFnExactLongestLinex1
import Derived.Test.YtocblinaclehdaaPFnExactLongestLinex2
import Derived.Test.YtocblinaclehdaaPFnExactLongestLinex3
import Derived.Test.YtocblinaclehdaaPFnExactLongestLinex4
import Derived.Test.YtocblinaclehdaaPFnExactLongestLinex5
import Derived.Test.YtocblinaclehdaaPFnExactLongestLinex6
import Derived.Test.YtocblinaclehdaaPFnExactLongestLinex7
import Derived.Test.YtocblinaclehdaaPFnExactLongestLinex8
import Derived.Test.YtocblinaclehdaaPFnExactLongestLinex9
import Derived.Test.YtocblinaclehdaaWGuardMoreInvWords
namespace Go.Proofs.Ytocblinaclehdaa.Pure
open Go.RowKit Go.Proofs.Ytocblinaclehdaa.PFnExactLongestLine Go.Proofs.YtocblinaclehdaaW.PrintWords Go.Proofs.YtocblinaclehdaaW.PrintLast Go.Proofs.YtocblinaclehdaaW.PrintMore Go.Proofs.YtocblinaclehdaaW.Evs
set_option linter.unusedVariables false
set_option linter.unusedSimpArgs false
/-! ### a cut: what the program's IsCut and the reference's cuGood answer -/
abbrev Sq := S59
def sqAt (l : List Sq) (j : Nat) : Sq := l.getD j z59
theorem rd_sq (l : List Sq) (j : Nat) : rd_T59 l (j : Int) = sqAt l j := by unfold rd_T59 sqAt; rw [Int.toNat_natCast]
theorem sqAt_get (l : List Sq) (j : Nat) (h : j < l.length) : sqAt l j = l[j] := by unfold sqAt; simp [List.getD, h]
theorem sqAt_mem (l : List Sq) (j : Nat) (h : j < l.length) : sqAt l j ∈ l := by rw [sqAt_get l j h]; exact List.getElem_mem h
/-- a square lies in the rectangle -/
def Ins (W H : Int) (s : Sq) : Prop := 1 ≤ s.f2 ∧ 0 ≤ s.f0 ∧ s.f0 + s.f2 ≤ W ∧ 0 ≤ s.f1 ∧ s.f1 + s.f2 ≤ H
instance (W H : Int) (s : Sq) : Decidable (Ins W H s) := by unfold Ins; infer_instance
def Less (a b : Sq) : Prop := a.f1 < b.f1 ∨ a.f1 = b.f1 ∧ a.f0 < b.f0
instance (a b : Sq) : Decidable (Less a b) := by unfold Less; infer_instance
def Ovl (a b : Sq) : Prop := a.f0 < b.f0 + b.f2 ∧ b.f0 < a.f0 + a.f2 ∧ a.f1 < b.f1 + b.f2 ∧ b.f1 < a.f1 + a.f2
instance (a b : Sq) : Decidable (Ovl a b) := by unfold Ovl; infer_instance
def OkAt (W H : Int) (l : List Sq) (i : Nat) : Prop := Ins W H (sqAt l i) ∧ (0 < i → Less (sqAt l (i - 1)) (sqAt l i)) ∧ ∀ j, j < i → ¬ Ovl (sqAt l i) (sqAt l j)
instance (W H : Int) (l : List Sq) (i : Nat) : Decidable (OkAt W H l i) := by unfold OkAt; infer_instance
def areaTo (l : List Sq) : Nat → Int
  | 0 => 0
  | n + 1 => areaTo l n + (sqAt l n).f2 * (sqAt l n).f2
/-- a width, a height and squares are a cut -/
def Good (W H : Int) (l : List Sq) : Prop := (1 ≤ W ∧ W ≤ 500) ∧ (1 ≤ H ∧ H ≤ 500) ∧ (1 ≤ l.length ∧ l.length ≤ 30) ∧ (∀ i, i < l.length → OkAt W H l i) ∧ areaTo l l.length = W * H
instance (W H : Int) (l : List Sq) : Decidable (Good W H l) := by unfold Good; infer_instance

theorem within_eq (a b c : Int) : impl_within.f a b c = some (decide (b ≤ a ∧ a ≤ c)) := by
  unfold impl_within.f
  by_cases h : b ≤ a
  · rw [if_pos h]; simp [h]
  · rw [if_neg h]; simp [h]
theorem isWide_eq (a : Int) : impl_isWide.f a = some (decide (1 ≤ a ∧ a ≤ 500)) := by
  unfold impl_isWide.f; rw [within_eq]; rfl
theorem l1In_eq (a b c : Int) : spec_l1In.f a b c = some (decide (b ≤ a ∧ a ≤ c)) := by
  unfold spec_l1In.f
  by_cases h : b ≤ a
  · rw [if_pos h]; simp [h]
  · rw [if_neg h]; simp [h]
theorem areaTo_bd (W H : Int) (l : List Sq) (hW : W ≤ 500) (hH : H ≤ 500) : ∀ n, n ≤ 30 → (∀ m, m < n → Ins W H (sqAt l m)) → 0 ≤ areaTo l n ∧ areaTo l n ≤ n * 250000
  | 0, _, _ => by simp [areaTo]
  | n + 1, hn, h => by
    obtain ⟨h1, h2⟩ := areaTo_bd W H l hW hH n (by omega) (fun m hm => h m (by omega))
    have hi := h n (by omega)
    unfold Ins at hi
    have q1 : 0 ≤ (sqAt l n).f2 * (sqAt l n).f2 := Int.mul_nonneg (by omega) (by omega)
    have q2 : (sqAt l n).f2 * (sqAt l n).f2 ≤ 500 * 500 := Int.mul_le_mul (by omega) (by omega) (by omega) (by omega)
    simp only [areaTo]
    omega
theorem sq_bd {W H : Int} {s : Sq} (hW : W ≤ 500) (hH : H ≤ 500) (h : Ins W H s) : 0 ≤ s.f2 * s.f2 ∧ s.f2 * s.f2 ≤ 250000 := by
  unfold Ins at h
  have q1 : 0 ≤ s.f2 * s.f2 := Int.mul_nonneg (by omega) (by omega)
  have q2 : s.f2 * s.f2 ≤ 500 * 500 := Int.mul_le_mul (by omega) (by omega) (by omega) (by omega)
  omega

theorem compare_eq {W H : Int} {a b : Sq} (hW : W ≤ 500) (hH : H ≤ 500) (ha : Ins W H a) (hb : Ins W H b) :
    ∃ c, impl_comparePlaces.f a.f0 a.f1 a.f2 b.f0 b.f1 b.f2 = some c ∧ (c < 0 ↔ Less a b) := by
  unfold Ins at ha hb
  unfold impl_comparePlaces.f Less
  by_cases e : a.f1 = b.f1
  · rw [if_pos e]; exact ⟨_, rfl, by rw [wrap64_id (by omega) (by omega)]; omega⟩
  · rw [if_neg e]; exact ⟨_, rfl, by rw [wrap64_id (by omega) (by omega)]; omega⟩
theorem overlap_eq {W H : Int} {a b : Sq} (hW : W ≤ 500) (hH : H ≤ 500) (ha : Ins W H a) (hb : Ins W H b) :
    impl_overlap.f a.f0 a.f1 a.f2 b.f0 b.f1 b.f2 = some (decide (Ovl a b)) := by
  unfold Ins at ha hb
  unfold impl_overlap.f Ovl
  rw [wrap64_id (by omega) (by omega), wrap64_id (by omega) (by omega), wrap64_id (by omega) (by omega), wrap64_id (by omega) (by omega)]
  by_cases h1 : a.f0 < b.f0 + b.f2
  · by_cases h2 : b.f0 < a.f0 + a.f2
    · by_cases h3 : a.f1 < b.f1 + b.f2
      · simp [h1, h2, h3]
      · simp [h1, h2, h3]
    · simp [h1, h2]
  · simp [h1]
theorem less_eq (a b : Sq) : spec_cuLess.f a.f0 a.f1 a.f2 b.f0 b.f1 b.f2 = some (decide (Less a b)) := by
  unfold spec_cuLess.f Less
  by_cases h1 : a.f1 < b.f1
  · rw [if_pos h1]; simp [h1]
  · rw [if_neg h1]
    by_cases h2 : a.f1 = b.f1
    · rw [if_pos h2]; simp [h2]
    · rw [if_neg h2]; simp [h1, h2]

/-! the program's own -/
theorem contains_eq {W H : Int} {l : List Sq} (hW : W ≤ 500) (hH : H ≤ 500) (i : Nat) (hi : i < l.length) (h : ∀ m, m ≤ i → Ins W H (sqAt l m)) :
    slices_ContainsFunc_impl_Square_impl_Square__impl_IsCut_1.f (l.take i) (sqAt l i).f0 (sqAt l i).f1 (sqAt l i).f2 = some (decide (∃ j, j < i ∧ Ovl (sqAt l i) (sqAt l j))) := by
  unfold slices_ContainsFunc_impl_Square_impl_Square__impl_IsCut_1.f
  congr 1
  rw [Bool.eq_iff_iff, List.any_eq_true, decide_eq_true_eq]
  constructor
  · rintro ⟨t, ht, hp⟩
    obtain ⟨j, hj⟩ := List.getElem?_of_mem ht
    have hj1 : j < (l.take i).length := (List.getElem?_eq_some_iff.1 hj).1
    have hj2 : j < i := by simp at hj1; omega
    have e : t = sqAt l j := by
      rw [List.getElem?_take_of_lt hj2, List.getElem?_eq_getElem (by omega)] at hj
      rw [sqAt_get l j (by omega)]; exact (Option.some.inj hj).symm
    subst e
    rw [overlap_eq hW hH (h i (Nat.le_refl _)) (h j (by omega))] at hp
    exact ⟨j, hj2, by simpa using hp⟩
  · rintro ⟨j, hj, ho⟩
    refine ⟨sqAt l j, ?_, ?_⟩
    · rw [sqAt_get l j (by omega)]
      exact List.mem_take_iff_getElem.2 ⟨j, by omega, rfl⟩
    · rw [overlap_eq hW hH (h i (Nat.le_refl _)) (h j (by omega))]; simpa using ho

theorem okFrom_step (W H : Int) (l : List Sq) (i : Nat) : (∀ m, i ≤ m → m < l.length → OkAt W H l m) ↔ (i < l.length → OkAt W H l i) ∧ (∀ m, i + 1 ≤ m → m < l.length → OkAt W H l m) :=
  ⟨fun h => ⟨fun hi => h i (Nat.le_refl _) hi, fun m h1 h2 => h m (by omega) h2⟩, fun ⟨h1, h2⟩ m h3 h4 => by
    by_cases e : i = m
    · subst e; exact h1 h4
    · exact h2 m (by omega) h4⟩

theorem impl_loop {W H : Int} {l : List Sq} (hW : 1 ≤ W ∧ W ≤ 500) (hH : 1 ≤ H ∧ H ≤ 500) (hl : l.length ≤ 30) : ∀ (d i : Nat), l.length - i = d → i ≤ l.length → (∀ m, m < i → OkAt W H l m) →
    ∀ r : Bool, (r = true ↔ (∀ m, i ≤ m → m < l.length → OkAt W H l m) ∧ areaTo l l.length = W * H) → Ev (fun k => impl_IsCut.l0 k (areaTo l i) l (l.length : Int) (i : Int) W H l) r := by
  intro d
  induction d with
  | zero =>
    intro i hd hi hok r hr
    obtain rfl : i = l.length := by omega
    have bd := areaTo_bd W H l hW.2 hH.2 l.length hl (fun m hm => (hok m hm).1)
    have w1 : W * H ≤ 500 * 500 := Int.mul_le_mul (by omega) (by omega) (by omega) (by omega)
    have w0 : 0 ≤ W * H := Int.mul_nonneg (by omega) (by omega)
    refine Ev.succ ?_
    simp only [impl_IsCut.l0]
    refine Ev.neg (by omega) ?_
    rw [wrap64_id (by omega) (by omega)]
    refine Ev.eqr (Ev.now _) ?_
    rw [Bool.eq_iff_iff, hr, beq_iff_eq]
    exact ⟨fun h => ⟨fun m h1 h2 => by omega, h⟩, fun h => h.2⟩
  | succ d ih =>
    intro i hd hi hok r hr
    have hlt : i < l.length := by omega
    rw [okFrom_step] at hr
    refine Ev.succ ?_
    simp only [impl_IsCut.l0, rd_sq]
    refine Ev.pos (by omega) (Ev.pos (by omega) (Ev.pos (by omega) ?_))
    have hmn : mn W H ≤ 500 := by unfold mn; split <;> omega
    have fall : ∀ r : Bool, r = false → Ev (fun k => impl_IsCut.j2 k (areaTo l i) (i : Int) l (l.length : Int) (i : Int) true W H l (sqAt l i).f0 (sqAt l i).f1 (sqAt l i).f2) r := by
      rintro _ rfl
      refine Ev.succ ?_
      simp only [impl_IsCut.j2]
      exact Ev.pos trivial (Ev.now _)
    have rf : ¬ OkAt W H l i → r = false := fun h => by
      cases hq : r with
      | false => rfl
      | true => exact absurd ((hr.1 hq).1.1 hlt) h
    have mnle : mn W H ≤ W ∧ mn W H ≤ H ∧ (mn W H = W ∨ mn W H = H) := by unfold mn; split <;> omega
    refine Ev.bindc (within_eq _ _ _) ?_
    by_cases c1 : 1 ≤ (sqAt l i).f2 ∧ (sqAt l i).f2 ≤ mn W H
    · rw [decide_eq_true c1]
      refine Ev.pos rfl (Ev.bindc (within_eq _ _ _) ?_)
      rw [wrap64_id (by omega) (by omega)]
      by_cases c2 : 0 ≤ (sqAt l i).f0 ∧ (sqAt l i).f0 ≤ W - (sqAt l i).f2
      · rw [decide_eq_true c2]
        refine Ev.pos rfl (Ev.bindc (within_eq _ _ _) ?_)
        rw [wrap64_id (by omega) (by omega)]
        by_cases c3 : 0 ≤ (sqAt l i).f1 ∧ (sqAt l i).f1 ≤ H - (sqAt l i).f2
        · rw [decide_eq_true c3]
          have hins : Ins W H (sqAt l i) := by unfold Ins; omega
          have hall : ∀ m, m ≤ i → Ins W H (sqAt l m) := fun m hm => by
            by_cases e : m = i
            · rw [e]; exact hins
            · exact (hok m (by omega)).1
          refine Ev.succ ?_
          simp only [impl_IsCut.j2, Bool.not_true]
          refine Ev.neg (by decide) ?_
          have bd := areaTo_bd W H l hW.2 hH.2 i (by omega) (fun m hm => hall m (by omega))
          have qb := sq_bd hW.2 hH.2 hins
          have tn : ((i : Int)).toNat = i := Int.toNat_natCast i
          have next : (∀ j, j < i → ¬ Ovl (sqAt l i) (sqAt l j)) → (0 < i → Less (sqAt l (i - 1)) (sqAt l i)) → Ev (fun k => impl_IsCut.l0 k (wrap64 (areaTo l i + wrap64 ((sqAt l i).f2 * (sqAt l i).f2))) l (l.length : Int) (wrap64 ((i : Int) + 1)) W H l) r := by
            intro ho hlss
            have hk : OkAt W H l i := ⟨hins, hlss, ho⟩
            rw [wrap64_id (n := (sqAt l i).f2 * (sqAt l i).f2) (by omega) (by omega), wrap64_id (n := areaTo l i + (sqAt l i).f2 * (sqAt l i).f2) (by omega) (by omega), wrap64_id (n := (i : Int) + 1) (by omega) (by omega)]
            have := ih (i + 1) (by omega) (by omega) (fun m hm => by
              by_cases e : m = i
              · rw [e]; exact hk
              · exact hok m (by omega)) r (by rw [hr]; exact ⟨fun h => ⟨h.1.2, h.2⟩, fun h => ⟨⟨fun _ => hk, h.1⟩, h.2⟩⟩)
            exact this
          have cont : (0 < i → Less (sqAt l (i - 1)) (sqAt l i)) → Ev (fun k => if 0 ≤ (i : Int) then if (i : Int) ≤ (l.length : Int) then (slices_ContainsFunc_impl_Square_impl_Square__impl_IsCut_1.f (l.take ((i : Int)).toNat) (sqAt l i).f0 (sqAt l i).f1 (sqAt l i).f2).bind fun t => if t = true then some false else impl_IsCut.l0 k (wrap64 (areaTo l i + wrap64 ((sqAt l i).f2 * (sqAt l i).f2))) l (l.length : Int) (wrap64 ((i : Int) + 1)) W H l else none else none) r := by
            intro hlss
            refine Ev.pos (by omega) (Ev.pos (by omega) ?_)
            rw [tn]
            refine Ev.bindc (contains_eq hW.2 hH.2 i hlt hall) ?_
            by_cases ho : ∃ j, j < i ∧ Ovl (sqAt l i) (sqAt l j)
            · rw [decide_eq_true ho]
              refine Ev.pos rfl (Ev.eqr (Ev.now _) (rf fun hk => ?_).symm)
              obtain ⟨j, hj, hq⟩ := ho
              exact hk.2.2 j hj hq
            · rw [decide_eq_false ho]
              exact Ev.neg (by decide) (next (fun j hj hq => ho ⟨j, hj, hq⟩) hlss)
          by_cases hi0 : (i : Int) > 0
          · refine Ev.pos hi0 ?_
            have e1 : wrap64 ((i : Int) - 1) = ((i - 1 : Nat) : Int) := by rw [wrap64_id (by omega) (by omega)]; omega
            simp only [e1, rd_sq]
            refine Ev.pos (by omega) (Ev.pos (by omega) ?_)
            obtain ⟨c, hc, hcl⟩ := compare_eq hW.2 hH.2 (hall (i - 1) (by omega)) hins
            refine Ev.bindc hc ?_
            by_cases c4 : c ≥ 0
            · refine Ev.pos c4 (Ev.eqr (Ev.now _) (rf fun hk => ?_).symm)
              have := hcl.2 (hk.2.1 (by omega))
              omega
            · exact Ev.neg c4 (cont fun _ => hcl.1 (by omega))
          · exact Ev.neg hi0 (cont fun h => by omega)
        · rw [decide_eq_false c3]
          exact fall _ (rf fun h => c3 (by have := h.1; unfold Ins at this; omega))
      · rw [decide_eq_false c2]
        exact Ev.neg (by decide) (fall _ (rf fun h => c2 (by have := h.1; unfold Ins at this; omega)))
    · rw [decide_eq_false c1]
      refine Ev.neg (by decide) (fall _ (rf fun h => c1 ?_))
      have := h.1
      unfold Ins at this
      rcases mnle.2.2 with e | e <;> omega

theorem impl_IsCut_ev (W H : Int) (l : List Sq) : Ev (fun k => impl_IsCut.f k W H l) (decide (Good W H l)) := by
  unfold impl_IsCut.f
  have fall : ∀ r : Bool, r = false → Ev (fun k => impl_IsCut.j0 k true W H l) r := by
    rintro _ rfl
    refine Ev.succ ?_
    simp only [impl_IsCut.j0]
    exact Ev.pos trivial (Ev.now _)
  refine Ev.bindc (isWide_eq _) ?_
  by_cases c1 : 1 ≤ W ∧ W ≤ 500
  · rw [decide_eq_true c1]
    refine Ev.pos rfl (Ev.bindc (isWide_eq _) ?_)
    by_cases c2 : 1 ≤ H ∧ H ≤ 500
    · rw [decide_eq_true c2]
      refine Ev.pos rfl ?_
      by_cases c3 : (l.length : Int) > 30
      · rw [decide_eq_true c3]
        exact fall _ (decide_eq_false fun h => by have := h.2.2.1; omega)
      · rw [decide_eq_false c3]
        refine Ev.succ ?_
        simp only [impl_IsCut.j0]
        refine Ev.neg (by decide) ?_
        have := impl_loop (l := l) c1 c2 (by omega) l.length 0 (by omega) (Nat.zero_le _) (fun m hm => by omega) (decide (Good W H l)) ?_
        · exact this
        · rw [decide_eq_true_eq]
          constructor
          · intro h; exact ⟨fun m _ h2 => h.2.2.2.1 m h2, h.2.2.2.2⟩
          · intro h
            refine ⟨c1, c2, ⟨?_, (by omega : l.length ≤ 30)⟩, fun m hm => h.1 m (Nat.zero_le _) hm, h.2⟩
            cases hl : l with
            | nil =>
              subst hl
              have e : (0 : Int) = W * H := h.2
              have : 0 < W * H := Int.mul_pos (by omega) (by omega)
              omega
            | cons a t => simp
    · rw [decide_eq_false c2]
      exact Ev.neg (by decide) (fall _ (decide_eq_false fun h => c2 h.2.1))
  · rw [decide_eq_false c1]
    exact Ev.neg (by decide) (fall _ (decide_eq_false fun h => c1 h.1))

/-! the reference's own -/
/-- what the inner loop of the reference asks of the squares from place j on -/
def InnerOk (l : List Sq) (i j : Nat) : Prop := ∀ m, j ≤ m → m < i → ¬ Ovl (sqAt l i) (sqAt l m) ∧ (m + 1 = i → Less (sqAt l m) (sqAt l i))
theorem inner_step (l : List Sq) (i j : Nat) (h : j < i) : InnerOk l i j ↔ (¬ Ovl (sqAt l i) (sqAt l j) ∧ (j + 1 = i → Less (sqAt l j) (sqAt l i))) ∧ InnerOk l i (j + 1) :=
  ⟨fun h1 => ⟨h1 j (Nat.le_refl _) h, fun m h2 h3 => h1 m (by omega) h3⟩, fun ⟨h1, h2⟩ m h3 h4 => by
    by_cases e : j = m
    · subst e; exact h1
    · exact h2 m (by omega) h4⟩
theorem inner_ok (W H : Int) (l : List Sq) (i : Nat) : OkAt W H l i ↔ Ins W H (sqAt l i) ∧ InnerOk l i 0 := by
  unfold OkAt InnerOk
  constructor
  · rintro ⟨h1, h2, h3⟩
    refine ⟨h1, fun m _ hm => ⟨h3 m hm, fun e => ?_⟩⟩
    have := h2 (by omega)
    rw [show i - 1 = m by omega] at this
    exact this
  · rintro ⟨h1, h2⟩
    exact ⟨h1, fun hi => (h2 (i - 1) (Nat.zero_le _) (by omega)).2 (by omega), fun j hj => (h2 j (Nat.zero_le _) hj).1⟩

theorem spec_inner {W H : Int} {l : List Sq} (hW : 1 ≤ W ∧ W ≤ 500) (hH : 1 ≤ H ∧ H ≤ 500) (hl : l.length ≤ 30) (i : Nat) (hi : i < l.length) (hall : ∀ m, m ≤ i → Ins W H (sqAt l m)) (A : Int) (r : Bool)
    (hgood : InnerOk l i 0 → Ev (fun k => spec_cuGood.l0 k A l (l.length : Int) ((i : Int) + 1) W H l) r) (hbad : ¬ InnerOk l i 0 → r = false) :
    ∀ (d j : Nat), i - j = d → j ≤ i → (InnerOk l i j ↔ InnerOk l i 0) →
      Ev (fun k => spec_cuGood.l1 k A (i : Int) l (l.length : Int) (i : Int) (l.take i) (i : Int) (j : Int) W H l (sqAt l i).f0 (sqAt l i).f1 (sqAt l i).f2) r := by
  intro d
  induction d with
  | zero =>
    intro j hd hj hiff
    obtain rfl : j = i := by omega
    refine Ev.succ ?_
    simp only [spec_cuGood.l1]
    refine Ev.neg (by omega) ?_
    rw [wrap64_id (by omega) (by omega)]
    exact hgood (hiff.1 fun m h1 h2 => by omega)
  | succ d ih =>
    intro j hd hj hiff
    have hlt : j < i := by omega
    have tk : (l.take i).length = i := by rw [List.length_take]; omega
    have et : sqAt (l.take i) j = sqAt l j := by
      rw [sqAt_get _ _ (by omega), sqAt_get _ _ (by omega), List.getElem_take]
    rw [inner_step l i j hlt] at hiff
    refine Ev.succ ?_
    simp only [spec_cuGood.l1, rd_sq, et, tk]
    refine Ev.pos (by omega) (Ev.pos (by omega) (Ev.pos (by omega) ?_))
    have a := hall i (Nat.le_refl _)
    have b := hall j (by omega)
    have j4 : ∀ b : Bool, b = decide (Ovl (sqAt l i) (sqAt l j)) → Ev (fun k => spec_cuGood.j4 k A (i : Int) (j : Int) l (l.length : Int) (i : Int) (l.take i) (i : Int) (j : Int) b W H l (sqAt l i).f0 (sqAt l i).f1 (sqAt l i).f2 (sqAt l j).f0 (sqAt l j).f1 (sqAt l j).f2) r := by
      rintro b rfl
      refine Ev.succ ?_
      simp only [spec_cuGood.j4]
      by_cases ho : Ovl (sqAt l i) (sqAt l j)
      · exact Ev.pos (decide_eq_true ho) (Ev.eqr (Ev.now _) (hbad fun h => (hiff.2 h).1.1 ho).symm)
      · refine Ev.neg (by simpa using ho) ?_
        have e1 : wrap64 ((i : Int) - 1) = (i : Int) - 1 := wrap64_id (by omega) (by omega)
        have e2 : wrap64 ((j : Int) + 1) = ((j + 1 : Nat) : Int) := by rw [wrap64_id (by omega) (by omega)]; omega
        rw [e1, e2]
        by_cases hj1 : j + 1 = i
        · refine Ev.pos (by omega) (Ev.bindc (less_eq _ _) ?_)
          by_cases hls : Less (sqAt l j) (sqAt l i)
          · exact Ev.pos (decide_eq_true hls) (ih (j + 1) (by omega) (by omega) ⟨fun h => hiff.1 ⟨⟨ho, fun _ => hls⟩, h⟩, fun h => (hiff.2 h).2⟩)
          · exact Ev.neg (by simpa using hls) (Ev.eqr (Ev.now _) (hbad fun h => hls ((hiff.2 h).1.2 hj1)).symm)
        · exact Ev.neg (by omega) (ih (j + 1) (by omega) (by omega) ⟨fun h => hiff.1 ⟨⟨ho, fun e => absurd e hj1⟩, h⟩, fun h => (hiff.2 h).2⟩)
    unfold Ins at a b
    rw [wrap64_id (n := (sqAt l j).f0 + (sqAt l j).f2) (by omega) (by omega), wrap64_id (n := (sqAt l i).f0 + (sqAt l i).f2) (by omega) (by omega), wrap64_id (n := (sqAt l j).f1 + (sqAt l j).f2) (by omega) (by omega), wrap64_id (n := (sqAt l i).f1 + (sqAt l i).f2) (by omega) (by omega)]
    by_cases c1 : (sqAt l i).f0 < (sqAt l j).f0 + (sqAt l j).f2
    · refine Ev.pos c1 ?_
      by_cases c2 : (sqAt l j).f0 < (sqAt l i).f0 + (sqAt l i).f2
      · refine Ev.pos c2 ?_
        by_cases c3 : (sqAt l i).f1 < (sqAt l j).f1 + (sqAt l j).f2
        · refine Ev.pos c3 (j4 _ ?_)
          unfold Ovl
          simp [c1, c2, c3]
        · exact Ev.neg c3 (j4 _ (decide_eq_false fun h => c3 h.2.2.1).symm)
      · exact Ev.neg c2 (j4 _ (decide_eq_false fun h => c2 h.2.1).symm)
    · exact Ev.neg c1 (j4 _ (decide_eq_false fun h => c1 h.1).symm)

theorem spec_loop {W H : Int} {l : List Sq} (hW : 1 ≤ W ∧ W ≤ 500) (hH : 1 ≤ H ∧ H ≤ 500) (hl : l.length ≤ 30) : ∀ (d i : Nat), l.length - i = d → i ≤ l.length → (∀ m, m < i → OkAt W H l m) →
    ∀ r : Bool, (r = true ↔ (∀ m, i ≤ m → m < l.length → OkAt W H l m) ∧ areaTo l l.length = W * H) → Ev (fun k => spec_cuGood.l0 k (areaTo l i) l (l.length : Int) (i : Int) W H l) r := by
  intro d
  induction d with
  | zero =>
    intro i hd hi hok r hr
    obtain rfl : i = l.length := by omega
    have bd := areaTo_bd W H l hW.2 hH.2 l.length hl (fun m hm => (hok m hm).1)
    have w1 : W * H ≤ 500 * 500 := Int.mul_le_mul (by omega) (by omega) (by omega) (by omega)
    have w0 : 0 ≤ W * H := Int.mul_nonneg (by omega) (by omega)
    refine Ev.succ ?_
    simp only [spec_cuGood.l0]
    refine Ev.neg (by omega) ?_
    rw [wrap64_id (by omega) (by omega)]
    refine Ev.eqr (Ev.now _) ?_
    rw [Bool.eq_iff_iff, hr, beq_iff_eq]
    exact ⟨fun h => ⟨fun m h1 h2 => by omega, h⟩, fun h => h.2⟩
  | succ d ih =>
    intro i hd hi hok r hr
    have hlt : i < l.length := by omega
    rw [okFrom_step] at hr
    refine Ev.succ ?_
    simp only [spec_cuGood.l0, rd_sq]
    refine Ev.pos (by omega) (Ev.pos (by omega) (Ev.pos (by omega) ?_))
    have fall : ∀ r : Bool, r = false → Ev (fun k => spec_cuGood.j2 k (areaTo l i) (i : Int) l (l.length : Int) (i : Int) true W H l (sqAt l i).f0 (sqAt l i).f1 (sqAt l i).f2) r := by
      rintro _ rfl
      refine Ev.succ ?_
      simp only [spec_cuGood.j2]
      exact Ev.pos trivial (Ev.now _)
    have rf : ¬ OkAt W H l i → r = false := fun h => by
      cases hq : r with
      | false => rfl
      | true => exact absurd ((hr.1 hq).1.1 hlt) h
    refine Ev.bindc (l1In_eq _ _ _) ?_
    by_cases c1 : 1 ≤ (sqAt l i).f2 ∧ (sqAt l i).f2 ≤ 500
    · rw [decide_eq_true c1]
      refine Ev.pos rfl (Ev.bindc (l1In_eq _ _ _) ?_)
      rw [wrap64_id (by omega) (by omega)]
      by_cases c2 : 0 ≤ (sqAt l i).f0 ∧ (sqAt l i).f0 ≤ W - (sqAt l i).f2
      · rw [decide_eq_true c2]
        refine Ev.pos rfl (Ev.bindc (l1In_eq _ _ _) ?_)
        rw [wrap64_id (by omega) (by omega)]
        by_cases c3 : 0 ≤ (sqAt l i).f1 ∧ (sqAt l i).f1 ≤ H - (sqAt l i).f2
        · rw [decide_eq_true c3]
          have hins : Ins W H (sqAt l i) := by unfold Ins; omega
          have hall : ∀ m, m ≤ i → Ins W H (sqAt l m) := fun m hm => by
            by_cases e : m = i
            · rw [e]; exact hins
            · exact (hok m (by omega)).1
          have bd := areaTo_bd W H l hW.2 hH.2 i (by omega) (fun m hm => hall m (by omega))
          have qb := sq_bd hW.2 hH.2 hins
          refine Ev.succ ?_
          simp only [spec_cuGood.j2, Bool.not_true]
          refine Ev.neg (by decide) (Ev.pos (by omega) (Ev.pos (by omega) (Ev.bindc rfl ?_)))
          have tk : (l.take ((i : Int)).toNat).length = i := by rw [List.length_take]; omega
          have tn : ((i : Int)).toNat = i := Int.toNat_natCast i
          rw [tk, tn, wrap64_id (n := (sqAt l i).f2 * (sqAt l i).f2) (by omega) (by omega), wrap64_id (n := areaTo l i + (sqAt l i).f2 * (sqAt l i).f2) (by omega) (by omega)]
          have iok := inner_ok W H l i
          refine spec_inner hW hH hl i hlt hall _ r (fun hin => ?_) (fun hin => rf fun h => hin (iok.1 h).2) i 0 (by omega) (Nat.zero_le _) Iff.rfl
          have hk : OkAt W H l i := iok.2 ⟨hins, hin⟩
          have := ih (i + 1) (by omega) (by omega) (fun m hm => by
              by_cases e : m = i
              · rw [e]; exact hk
              · exact hok m (by omega)) r (by rw [hr]; exact ⟨fun h => ⟨h.1.2, h.2⟩, fun h => ⟨⟨fun _ => hk, h.1⟩, h.2⟩⟩)
          exact this
        · rw [decide_eq_false c3]
          exact fall _ (rf fun h => c3 (by have := h.1; unfold Ins at this; omega))
      · rw [decide_eq_false c2]
        exact Ev.neg (by decide) (fall _ (rf fun h => c2 (by have := h.1; unfold Ins at this; omega)))
    · rw [decide_eq_false c1]
      refine Ev.neg (by decide) (fall _ (rf fun h => c1 ?_))
      have := h.1
      unfold Ins at this
      omega

theorem spec_cuGood_ev (W H : Int) (l : List Sq) : Ev (fun k => spec_cuGood.f k W H l) (decide (Good W H l)) := by
  unfold spec_cuGood.f
  have fall : ∀ r : Bool, r = false → Ev (fun k => spec_cuGood.j0 k true W H l) r := by
    rintro _ rfl
    refine Ev.succ ?_
    simp only [spec_cuGood.j0]
    exact Ev.pos trivial (Ev.now _)
  refine Ev.bindc (l1In_eq _ _ _) ?_
  by_cases c1 : 1 ≤ W ∧ W ≤ 500
  · rw [decide_eq_true c1]
    refine Ev.pos rfl (Ev.bindc (l1In_eq _ _ _) ?_)
    by_cases c2 : 1 ≤ H ∧ H ≤ 500
    · rw [decide_eq_true c2]
      refine Ev.pos rfl (Ev.bindc (l1In_eq _ _ _) ?_)
      by_cases c3 : 1 ≤ (l.length : Int) ∧ (l.length : Int) ≤ 30
      · rw [decide_eq_true c3]
        refine Ev.succ ?_
        simp only [spec_cuGood.j0, Bool.not_true]
        refine Ev.neg (by decide) ?_
        refine spec_loop (l := l) c1 c2 (by omega) l.length 0 (by omega) (Nat.zero_le _) (fun m hm => by omega) (decide (Good W H l)) ?_
        rw [decide_eq_true_eq]
        exact ⟨fun h => ⟨fun m _ h2 => h.2.2.2.1 m h2, h.2.2.2.2⟩, fun h => ⟨c1, c2, by omega, fun m hm => h.1 m (Nat.zero_le _) hm, h.2⟩⟩
      · rw [decide_eq_false c3]
        exact fall _ (decide_eq_false fun h => c3 (by have := h.2.2.1; omega))
    · rw [decide_eq_false c2]
      exact Ev.neg (by decide) (fall _ (decide_eq_false fun h => c2 h.2.1))
  · rw [decide_eq_false c1]
    exact Ev.neg (by decide) (fall _ (decide_eq_false fun h => c1 h.1))

/-! ### the squares of a cut cover its rectangle: by counting cells -/
def sumTo : Nat → (Nat → Int) → Int
  | 0, _ => 0
  | n + 1, f => sumTo n f + f n
theorem sumTo_add (n : Nat) (f g : Nat → Int) : sumTo n (fun i => f i + g i) = sumTo n f + sumTo n g := by
  induction n with
  | zero => rfl
  | succ n ih => simp only [sumTo, ih]; omega
theorem sumTo_zero (n : Nat) : sumTo n (fun _ => 0) = 0 := by
  induction n with
  | zero => rfl
  | succ n ih => simp only [sumTo, ih]; rfl
theorem sumTo_congr (n : Nat) (f g : Nat → Int) (h : ∀ i, i < n → f i = g i) : sumTo n f = sumTo n g := by
  induction n with
  | zero => rfl
  | succ n ih => simp only [sumTo]; rw [ih (fun i hi => h i (by omega)), h n (by omega)]
theorem sumTo_mul (n : Nat) (f : Nat → Int) (c : Int) : sumTo n (fun i => f i * c) = sumTo n f * c := by
  induction n with
  | zero => simp [sumTo]
  | succ n ih => simp only [sumTo, ih, Int.add_mul]
theorem sumTo_le (n : Nat) (f g : Nat → Int) (h : ∀ i, i < n → f i ≤ g i) : sumTo n f ≤ sumTo n g := by
  induction n with
  | zero => exact Int.le_refl _
  | succ n ih => simp only [sumTo]; have := ih (fun i hi => h i (by omega)); have := h n (by omega); omega
theorem sumTo_lt (n : Nat) (f g : Nat → Int) (h : ∀ i, i < n → f i ≤ g i) (j : Nat) (hj : j < n) (hlt : f j < g j) : sumTo n f < sumTo n g := by
  induction n with
  | zero => omega
  | succ n ih =>
    simp only [sumTo]
    by_cases e : j = n
    · subst e
      have := sumTo_le j f g (fun i hi => h i (by omega)); omega
    · have := ih (fun i hi => h i (by omega)) (by omega); have := h n (by omega); omega
theorem sumTo_const (n : Nat) (c : Int) : sumTo n (fun _ => c) = n * c := by
  induction n with
  | zero => simp [sumTo]
  | succ n ih =>
    simp only [sumTo, ih]
    rw [show ((n + 1 : Nat) : Int) = (n : Int) + 1 by omega, Int.add_mul]; omega
/-- 1 in a .. a+s-1, else 0 -/
def ind (a s : Int) (i : Nat) : Int := if a ≤ (i : Int) ∧ (i : Int) < a + s then 1 else 0
theorem sum_ind (a s : Int) (ha : 0 ≤ a) (hs : 0 ≤ s) : ∀ n : Nat, sumTo n (ind a s) = if (n : Int) ≤ a then 0 else if (n : Int) ≤ a + s then n - a else s
  | 0 => by simp [sumTo]; intro h; omega
  | n + 1 => by
    simp only [sumTo, sum_ind a s ha hs n]
    unfold ind
    split <;> split <;> split <;> (try split) <;> omega
theorem sum_ind_all (a s : Int) (n : Nat) (ha : 0 ≤ a) (hs : 0 ≤ s) (h : a + s ≤ n) : sumTo n (ind a s) = s := by
  rw [sum_ind a s ha hs n]
  split
  · omega
  · split <;> omega
/-- does cell x, y lie in the square -/
def InSq (s : Sq) (x y : Int) : Prop := s.f0 ≤ x ∧ x < s.f0 + s.f2 ∧ s.f1 ≤ y ∧ y < s.f1 + s.f2
instance (s : Sq) (x y : Int) : Decidable (InSq s x y) := by unfold InSq; infer_instance
def cell (s : Sq) (x y : Nat) : Int := if InSq s x y then 1 else 0
theorem cell_eq (s : Sq) (x y : Nat) : cell s x y = ind s.f0 s.f2 x * ind s.f1 s.f2 y := by
  unfold cell ind
  by_cases h1 : s.f0 ≤ (x : Int) ∧ (x : Int) < s.f0 + s.f2
  · by_cases h2 : s.f1 ≤ (y : Int) ∧ (y : Int) < s.f1 + s.f2
    · have h : InSq s x y := ⟨h1.1, h1.2, h2.1, h2.2⟩
      rw [if_pos h1, if_pos h2, if_pos h]; rfl
    · have h : ¬ InSq s x y := fun h => h2 ⟨h.2.2.1, h.2.2.2⟩
      rw [if_pos h1, if_neg h2, if_neg h]; rfl
  · have h : ¬ InSq s x y := fun h => h1 ⟨h.1, h.2.1⟩
    rw [if_neg h1, if_neg h]; simp
theorem sum_cell {W H : Int} {s : Sq} (h : Ins W H s) (w h' : Nat) (hw : (w : Int) = W) (hh : (h' : Int) = H) : sumTo w (fun x => sumTo h' (fun y => cell s x y)) = s.f2 * s.f2 := by
  unfold Ins at h
  have e : ∀ x, sumTo h' (fun y => cell s x y) = s.f2 * ind s.f0 s.f2 x := by
    intro x
    rw [sumTo_congr h' _ (fun y => ind s.f1 s.f2 y * ind s.f0 s.f2 x) (fun y _ => by rw [cell_eq, Int.mul_comm]), sumTo_mul, sum_ind_all _ _ _ (by omega) (by omega) (by omega)]
  rw [sumTo_congr w _ (fun x => ind s.f0 s.f2 x * s.f2) (fun x _ => by rw [e, Int.mul_comm]), sumTo_mul, sum_ind_all _ _ _ (by omega) (by omega) (by omega)]
/-- how many of the first n squares a cell lies in -/
def many (l : List Sq) : Nat → Nat → Nat → Int
  | 0, _, _ => 0
  | n + 1, x, y => many l n x y + cell (sqAt l n) x y
theorem sum_many {W H : Int} (l : List Sq) (w h : Nat) (hw : (w : Int) = W) (hh : (h : Int) = H) : ∀ n, (∀ m, m < n → Ins W H (sqAt l m)) → sumTo w (fun x => sumTo h (fun y => many l n x y)) = areaTo l n
  | 0, _ => by
    simp only [many, areaTo]
    rw [sumTo_congr w _ (fun _ => 0) (fun x _ => sumTo_zero h), sumTo_zero]
  | n + 1, hi => by
    simp only [many, areaTo]
    rw [sumTo_congr w _ (fun x => sumTo h (fun y => many l n x y) + sumTo h (fun y => cell (sqAt l n) x y)) (fun x _ => sumTo_add h _ _), sumTo_add, sum_many l w h hw hh n (fun m hm => hi m (by omega)), sum_cell (hi n (by omega)) w h hw hh]
theorem many_zero (l : List Sq) (x y : Nat) : ∀ n, (∀ m, m < n → ¬ InSq (sqAt l m) x y) → many l n x y = 0
  | 0, _ => rfl
  | n + 1, h => by
    simp only [many, many_zero l x y n (fun m hm => h m (by omega))]
    unfold cell
    rw [if_neg (h n (by omega))]; rfl
theorem in_ovl {a b : Sq} {x y : Int} (ha : InSq a x y) (hb : InSq b x y) : Ovl a b := by
  unfold InSq at ha hb
  unfold Ovl
  omega
theorem many_one {W H : Int} (l : List Sq) (x y : Nat) : ∀ n, (∀ m, m < n → OkAt W H l m) → many l n x y ≤ 1
  | 0, _ => by simp [many]
  | n + 1, h => by
    simp only [many]
    unfold cell
    by_cases hn : InSq (sqAt l n) x y
    · rw [if_pos hn, many_zero l x y n (fun m hm hc => (h n (by omega)).2.2 m hm (in_ovl hn hc))]; omega
    · rw [if_neg hn]; have := many_one l x y n (fun m hm => h m (by omega)); omega
theorem covered {W H : Int} {l : List Sq} (hg : Good W H l) (x y : Int) (hx : 0 ≤ x ∧ x < W) (hy : 0 ≤ y ∧ y < H) : ∃ j, j < l.length ∧ InSq (sqAt l j) x y := by
  apply Decidable.byContradiction
  intro hno
  obtain ⟨w, rfl⟩ : ∃ w : Nat, (w : Int) = W := ⟨W.toNat, by have := hg.1; omega⟩
  obtain ⟨h, rfl⟩ : ∃ h : Nat, (h : Int) = H := ⟨H.toNat, by have := hg.2.1; omega⟩
  obtain ⟨a, rfl⟩ : ∃ a : Nat, (a : Int) = x := ⟨x.toNat, by omega⟩
  obtain ⟨b, rfl⟩ : ∃ b : Nat, (b : Int) = y := ⟨y.toNat, by omega⟩
  have ok := hg.2.2.2.1
  have s1 := sum_many l w h rfl rfl l.length (fun m hm => (ok m hm).1)
  have z := many_zero l a b l.length (fun m hm hc => hno ⟨m, hm, hc⟩)
  have row : ∀ x : Nat, sumTo h (fun y => many l l.length x y) ≤ h := fun x => by
    have := sumTo_le h (fun y => many l l.length x y) (fun _ => 1) (fun y _ => many_one l x y l.length ok)
    rw [sumTo_const] at this; omega
  have rowa : sumTo h (fun y => many l l.length a y) < h := by
    have := sumTo_lt h (fun y => many l l.length a y) (fun _ => 1) (fun y _ => many_one l a y l.length ok) b (by omega) (by show many l l.length a b < 1; omega)
    rw [sumTo_const] at this; omega
  have := sumTo_lt w (fun x => sumTo h (fun y => many l l.length x y)) (fun _ => (h : Int)) (fun x _ => row x) a (by omega) rowa
  rw [s1, sumTo_const, hg.2.2.2.2] at this
  omega

/-! ### squares from one package's type to the other's; lists that are the same -/
abbrev MSq := S87
def conv (q : MSq) : Sq := ⟨q.f0, q.f1, q.f2⟩
theorem rd_msq (l : List MSq) (j : Nat) (h : j < l.length) : rd_T87 l (j : Int) = l[j] := by unfold rd_T87; rw [Int.toNat_natCast]; simp [List.getD, h]
theorem toSq_loop (l : List MSq) (hl : l.length ≤ 1048576) : ∀ (d i : Nat) (x : List Sq), l.length - i = d → i ≤ l.length → x.length = l.length → (∀ m, m < i → x[m]? = (l.map conv)[m]?) →
    Ev (fun k => laws_toSquareS.l0 k l x (i : Int)) (l.map conv) := by
  intro d
  induction d with
  | zero =>
    intro i x hd hi hx h
    refine Ev.succ ?_
    simp only [laws_toSquareS.l0]
    refine Ev.neg (by omega) (Ev.eqr (Ev.now _) ?_)
    apply List.ext_getElem?
    intro m
    by_cases hm : m < i
    · exact h m hm
    · rw [List.getElem?_eq_none (by omega), List.getElem?_eq_none (by simp; omega)]
  | succ d ih =>
    intro i x hd hi hx h
    refine Ev.succ ?_
    simp only [laws_toSquareS.l0]
    refine Ev.pos (by omega) (Ev.pos (by omega) (Ev.bindc rfl (Ev.pos (by omega) ?_)))
    rw [Int.toNat_natCast, wrap64_id (by omega) (by omega)]
    refine ih (i + 1) _ (by omega) (by omega) (by simp; omega) (fun m hm => ?_)
    rw [rd_msq l i (by omega)]
    by_cases e : m = i
    · subst e
      rw [List.getElem?_set_self (by omega), List.getElem?_map, List.getElem?_eq_getElem (by omega)]; rfl
    · rw [List.getElem?_set_ne (by omega)]; exact h m (by omega)
theorem toSquareS_ev (l : List MSq) (hl : l.length ≤ 1048576) : Ev (fun k => laws_toSquareS.f k l) (l.map conv) := by
  unfold laws_toSquareS.f
  refine Ev.pos (by omega) (Ev.pos (by omega) ?_)
  exact toSq_loop l hl l.length 0 _ (by omega) (Nat.zero_le _) (by simp) (fun m hm => by omega)
theorem toCut_ev (W H : Int) (l : List MSq) (hl : l.length ≤ 1048576) : Ev (fun k => laws_toCut.f k W H l) (W, H, l.map conv) := by
  unfold laws_toCut.f
  exact Ev.bind (toSquareS_ev l hl) (Ev.now _)
theorem eqSquareS_loop (l : List Sq) (hl : l.length ≤ 1099511627776) : ∀ (d i : Nat), l.length - i = d → i ≤ l.length → Ev (fun k => laws_eqSquareS.l0 k l l (i : Int)) true := by
  intro d
  induction d with
  | zero =>
    intro i hd hi
    refine Ev.succ ?_
    simp only [laws_eqSquareS.l0]
    exact Ev.neg (by omega) (Ev.now _)
  | succ d ih =>
    intro i hd hi
    refine Ev.succ ?_
    simp only [laws_eqSquareS.l0]
    refine Ev.pos (by omega) (Ev.pos (by omega) (Ev.pos (by omega) (Ev.bindc (a := true) (by unfold laws_eqSquare.f; simp) (Ev.pos rfl ?_))))
    rw [wrap64_id (by omega) (by omega)]
    exact ih (i + 1) (by omega) (by omega)
theorem eqSquareS_ev (l : List Sq) (hl : l.length ≤ 1099511627776) : Ev (fun k => laws_eqSquareS.f k l l) true := by
  unfold laws_eqSquareS.f
  exact Ev.pos rfl (eqSquareS_loop l hl l.length 0 (by omega) (Nat.zero_le _))
theorem eqCut_ev (W H : Int) (l : List Sq) (hl : l.length ≤ 1099511627776) : Ev (fun k => laws_eqCut.f k W H l W H l) true := by
  unfold laws_eqCut.f
  exact Ev.pos rfl (Ev.pos rfl (Ev.bind (eqSquareS_ev l hl) (Ev.pos rfl (Ev.now _))))
theorem szCut_eq (W H : Int) (l : List MSq) (hl : l.length ≤ maxLen) : laws_szCut.f W H l 1048576 = some (if l.length ≤ 1048576 then 1048576 - (l.length : Int) else -1) := by
  have h0 : maxLen ≤ 9223372036854775807 := by decide
  unfold laws_szCut.f laws_szSquareS.f
  rw [wrap64_id (by omega) (by omega)]
  by_cases h : l.length ≤ 1048576
  · rw [if_neg (by omega), Option.bind_some, if_neg (by omega), if_pos h]
  · rw [if_pos (by omega), Option.bind_some, if_pos (by omega), if_neg h]

/-! ### squares in order: what the two sorts answer -/
def LeP (a b : Sq) : Prop := ¬ Less b a
theorem LeP.trans {a b c : Sq} (h : LeP a b) (k : LeP b c) : LeP a c := by unfold LeP Less at *; omega
theorem LeP.of_less {a b : Sq} (h : Less a b) : LeP a b := by unfold LeP Less at *; omega
def Dist (l : List Sq) : Prop := ∀ a ∈ l, ∀ b ∈ l, a.f0 = b.f0 → a.f1 = b.f1 → a = b
theorem eq_of_sorted {l r r' : List Sq} (hd : Dist l) (hp : r.Perm l) (hp' : r'.Perm l) (hs : r.Pairwise LeP) (hs' : r'.Pairwise LeP) : r = r' :=
  List.Perm.eq_of_pairwise (fun a b ha hb h1 h2 => hd a (hp.mem_iff.1 ha) b (hp'.mem_iff.1 hb) (by unfold LeP Less at *; omega) (by unfold LeP Less at *; omega)) hs hs' (hp.trans hp'.symm)
theorem mem_take_at {o : List Sq} {k : Nat} (hk : k ≤ o.length) {a : Sq} (h : a ∈ o.take k) : ∃ j, j < k ∧ a = sqAt o j := by
  obtain ⟨j, hj, rfl⟩ := List.mem_iff_getElem.1 h
  rw [List.length_take] at hj
  exact ⟨j, by omega, by rw [List.getElem_take, sqAt_get o j (by omega)]⟩
theorem mem_drop_at {o : List Sq} {k : Nat} {a : Sq} (h : a ∈ o.drop k) : ∃ j, k ≤ j ∧ j < o.length ∧ a = sqAt o j := by
  obtain ⟨j, hj, rfl⟩ := List.mem_iff_getElem.1 h
  rw [List.length_drop] at hj
  exact ⟨k + j, by omega, by omega, by rw [List.getElem_drop, sqAt_get o (k + j) (by omega)]⟩
theorem sorted_at {o : List Sq} (ho : o.Pairwise LeP) {i j : Nat} (hij : i ≤ j) (hj : j < o.length) : LeP (sqAt o i) (sqAt o j) := by
  rcases Nat.lt_or_eq_of_le hij with h | h
  · rw [sqAt_get o i (by omega), sqAt_get o j hj]
    exact List.pairwise_iff_getElem.1 ho i j (by omega) hj h
  · subst h; unfold LeP Less; omega
theorem ins_sorted {o : List Sq} {s : Sq} {k : Nat} (hk : k ≤ o.length) (ho : o.Pairwise LeP) (h1 : ∀ j, k ≤ j → j < o.length → Less s (sqAt o j)) (h2 : k = 0 ∨ ¬ Less s (sqAt o (k - 1))) :
    (o.take k ++ [s] ++ o.drop k).Pairwise LeP := by
  have hts : ∀ a ∈ o.take k, LeP a s := by
    intro a ha
    obtain ⟨j, hj, rfl⟩ := mem_take_at hk ha
    rcases h2 with h2 | h2
    · omega
    · exact LeP.trans (sorted_at ho (show j ≤ k - 1 by omega) (by omega)) h2
  refine List.pairwise_append.2 ⟨List.pairwise_append.2 ⟨ho.sublist (List.take_sublist _ _), List.pairwise_singleton _ _, fun a ha b hb => ?_⟩, ho.sublist (List.drop_sublist _ _), fun a ha b hb => ?_⟩
  · rw [List.mem_singleton.1 hb]; exact hts a ha
  · obtain ⟨j, hj, hj2, rfl⟩ := mem_drop_at hb
    have hsb := LeP.of_less (h1 j hj hj2)
    rcases List.mem_append.1 ha with ha | ha
    · exact (hts a ha).trans hsb
    · rw [List.mem_singleton.1 ha]; exact hsb
theorem ins_perm (o : List Sq) (s : Sq) (k : Nat) : (o.take k ++ [s] ++ o.drop k).Perm (s :: o) := by
  rw [List.append_assoc]
  have h := List.perm_middle (l₁ := o.take k) (a := s) (l₂ := o.drop k)
  rw [List.take_append_drop] at h
  exact h
theorem sqs_drop (l : List Sq) (i : Nat) (w : Sq) (t : List Sq) (h : l.drop i = w :: t) : i < l.length ∧ sqAt l i = w ∧ l.drop (i + 1) = t := by
  have h1 : i < l.length := by
    apply Decidable.byContradiction
    intro hn
    rw [List.drop_eq_nil_of_le (by omega)] at h; cases h
  rw [List.drop_eq_getElem_cons h1] at h
  injection h with ha hb
  exact ⟨h1, by rw [sqAt_get l i h1]; exact ha, hb⟩
theorem ins_loop (l : List Sq) (n i : Int) (s : Sq) (o : List Sq) (hol : o.length ≤ 1000) (ho : o.Pairwise LeP) : ∀ c : Nat, c ≤ o.length → (∀ j, c ≤ j → j < o.length → Less s (sqAt o j)) →
    ∃ o', o'.Pairwise LeP ∧ o'.Perm (s :: o) ∧ ∀ r, Ev (fun k => spec_cuSorted.l0 k o' l n (wrap64 (i + 1))) r → Ev (fun k => spec_cuSorted.l1 k o (c : Int) l n i s.f0 s.f1 s.f2) r := by
  intro c
  induction c with
  | zero =>
    intro hc h
    refine ⟨_, ins_sorted hc ho h (.inl rfl), ins_perm o s 0, fun r hr => Ev.succ ?_⟩
    simp only [spec_cuSorted.l1]
    refine Ev.neg (by omega) (Ev.bindc rfl (Ev.pos (by omega) (Ev.pos (by omega) (Ev.bindc rfl (Ev.pos (by simp only [List.length_nil, List.length_take]; omega) (Ev.bindc rfl (Ev.bindc rfl (Ev.pos (by simp only [List.length_nil, List.length_append, List.length_take, List.length_cons]; omega) (Ev.bindc rfl (Ev.bindc rfl (Ev.pos (by simp only [List.length_nil, List.length_append, List.length_take, List.length_cons, List.length_drop]; omega) ?_)))))))))))
    exact hr
  | succ c ih =>
    intro hc h
    have hw : wrap64 (((c + 1 : Nat) : Int) - 1) = (c : Int) := by rw [wrap64_id (n := ((c + 1 : Nat) : Int) - 1) (by omega) (by omega)]; omega
    by_cases hl : Less s (sqAt o c)
    · obtain ⟨o', a, b, d⟩ := ih (by omega) (fun j hj hj2 => by
        rcases Nat.lt_or_eq_of_le hj with h3 | h3
        · exact h j h3 hj2
        · rw [← h3]; exact hl)
      refine ⟨o', a, b, fun r hr => Ev.succ ?_⟩
      simp only [spec_cuSorted.l1]
      rw [hw]
      refine Ev.pos (by omega) (Ev.pos (by omega) (Ev.pos (by omega) ?_))
      rw [rd_sq]
      exact Ev.bindc (less_eq s (sqAt o c)) (Ev.pos (by simpa using hl) (d r hr))
    · refine ⟨_, ins_sorted hc ho h (.inr (by rw [Nat.add_sub_cancel]; exact hl)), ins_perm o s (c + 1), fun r hr => Ev.succ ?_⟩
      simp only [spec_cuSorted.l1]
      rw [hw]
      refine Ev.pos (by omega) (Ev.pos (by omega) (Ev.pos (by omega) ?_))
      rw [rd_sq]
      refine Ev.bindc (less_eq s (sqAt o c)) (Ev.neg (by simpa using hl) ?_)
      refine Ev.bindc rfl (Ev.pos (by omega) (Ev.pos (by omega) (Ev.bindc rfl (Ev.pos (by simp only [List.length_nil, List.length_take]; omega) (Ev.bindc rfl (Ev.bindc rfl (Ev.pos (by simp only [List.length_nil, List.length_append, List.length_take, List.length_cons]; omega) (Ev.bindc rfl (Ev.bindc rfl (Ev.pos (by simp only [List.length_nil, List.length_append, List.length_take, List.length_cons, List.length_drop]; omega) ?_))))))))))
      exact hr
theorem cuSorted_l0 (l : List Sq) (hl : l.length ≤ 1000) : ∀ (t : List Sq) (i : Nat) (o : List Sq), l.drop i = t → i + t.length = l.length → o.Pairwise LeP → o.Perm (l.take i) →
    ∃ R, R.Pairwise LeP ∧ R.Perm l ∧ Ev (fun k => spec_cuSorted.l0 k o l (l.length : Int) (i : Int)) R := by
  intro t
  induction t with
  | nil =>
    intro i o hd hi ho hp
    simp only [List.length_nil] at hi
    refine ⟨o, ho, by rw [List.take_of_length_le (by omega)] at hp; exact hp, Ev.succ ?_⟩
    simp only [spec_cuSorted.l0]
    exact Ev.neg (by omega) (Ev.now _)
  | cons s t ih =>
    intro i o hd hi ho hp
    obtain ⟨h1, h2, h3⟩ := sqs_drop l i s t hd
    have hol : o.length ≤ 1000 := by rw [hp.length_eq, List.length_take]; omega
    obtain ⟨o', a, b, d⟩ := ins_loop l (l.length : Int) (i : Int) s o hol ho o.length (Nat.le_refl _) (fun j hj hj2 => by omega)
    simp only [List.length_cons] at hi
    have htk : l.take (i + 1) = l.take i ++ [s] := by
      rw [List.take_add_one, List.getElem?_eq_getElem h1, ← h2, sqAt_get l i h1]; rfl
    obtain ⟨R, e, f, g⟩ := ih (i + 1) o' h3 (by omega) a (by
      rw [htk]
      exact (b.trans ((hp.cons s))).trans (List.perm_append_singleton s (l.take i)).symm)
    refine ⟨R, e, f, Ev.succ ?_⟩
    simp only [spec_cuSorted.l0]
    refine Ev.pos (by omega) (Ev.pos (by omega) (Ev.pos (by omega) ?_))
    rw [rd_sq, h2]
    refine d R ?_
    rw [wrap64_id (n := (i : Int) + 1) (by omega) (by omega)]
    exact g
theorem cuSorted_ev (l : List Sq) (hl : l.length ≤ 1000) : ∃ R, R.Pairwise LeP ∧ R.Perm l ∧ Ev (fun k => spec_cuSorted.f k l) R := cuSorted_l0 l hl l 0 [] rfl (by omega) List.Pairwise.nil (List.Perm.refl _)

/-! ### what SortFunc answers -/
theorem sortF_spec (l : List Sq) (hb : ∀ s ∈ l, BdSq s) (hl : l.length ≤ 1000000) : ∃ r, slices_SortFunc_impl_Square_impl_Square__impl_comparePlaces.f l = some r ∧ r.Perm l ∧ r.Pairwise LeP := by
  unfold slices_SortFunc_impl_Square_impl_Square__impl_comparePlaces.f
  rw [dif_pos ⟨hb, hl⟩]
  have hs : (bsqOf l hb).size = l.length := by simp [bsqOf]
  have hps := Sort.pdq_sorts (ltOf cfSq) swoSq (bsqOf l hb) 0 l.length (Lib.bitLen l.length) true true (Nat.zero_le _) (by omega) (Or.inl rfl)
  generalize Sort.pdq (ltOf cfSq) (bsqOf l hb) 0 l.length (Lib.bitLen l.length) true true = dd at hps ⊢
  have hsz : dd.size = l.length := by rw [hps.1.1, hs]
  refine ⟨_, rfl, ?_, ?_⟩
  · have hp := hps.1.2.2
    rw [Array.toList_extract, Array.toList_extract] at hp
    simp only [List.extract_eq_take_drop, List.drop_zero, Nat.sub_zero] at hp
    rw [List.take_of_length_le (by rw [Array.length_toList, hsz]; exact Nat.le_refl _), List.take_of_length_le (by rw [Array.length_toList, hs]; exact Nat.le_refl _)] at hp
    have hm := hp.map (fun s : BSq => s.1)
    have e : (bsqOf l hb).toList.map (fun s : BSq => s.1) = l := by simp [bsqOf]
    rw [e] at hm
    exact hm
  · rw [List.pairwise_map, List.pairwise_iff_getElem]
    intro i j hi hj hij
    rw [Array.length_toList] at hi hj
    have h := hps.2 i j (Nat.zero_le _) hij (by omega)
    rw [ltSq, decide_eq_false_iff_not, getElem!_pos dd i hi, getElem!_pos dd j hj] at h
    simpa [LeP, Less, placeLt] using h

/-! ### a cut's squares -/
theorem good_in {W H : Int} {l : List Sq} (hg : Good W H l) {s : Sq} (hs : s ∈ l) : Ins W H s := by
  obtain ⟨j, hj, rfl⟩ := List.mem_iff_getElem.1 hs
  rw [← sqAt_get l j hj]
  exact (hg.2.2.2.1 j hj).1
theorem ovl_symm {a b : Sq} (h : Ovl a b) : Ovl b a := ⟨h.2.1, h.1, h.2.2.2, h.2.2.1⟩
theorem good_inj {W H : Int} {l : List Sq} (hg : Good W H l) {a b : Sq} (ha : a ∈ l) (hb : b ∈ l) (h : Ovl a b) : a = b := by
  obtain ⟨i, hi, rfl⟩ := List.mem_iff_getElem.1 ha
  obtain ⟨j, hj, rfl⟩ := List.mem_iff_getElem.1 hb
  rw [← sqAt_get l i hi, ← sqAt_get l j hj] at h ⊢
  rcases Nat.lt_trichotomy i j with hlt | rfl | hlt
  · exact absurd (ovl_symm h) ((hg.2.2.2.1 j hj).2.2 i hlt)
  · rfl
  · exact absurd h ((hg.2.2.2.1 i hi).2.2 j hlt)
theorem take_map_succ (l : List Sq) (f : Sq → Sq) (i : Nat) (s : Sq) (t : List Sq) (h : l.drop i = s :: t) : (l.take i).map f ++ [f s] = (l.take (i + 1)).map f := by
  obtain ⟨h1, h2, _⟩ := sqs_drop l i s t h
  have e : l.take (i + 1) = l.take i ++ [s] := by
    rw [List.take_add_one, List.getElem?_eq_getElem h1, ← h2, sqAt_get l i h1]; rfl
  rw [e, List.map_append]; rfl

/-! ### cuts whose squares are changed and put in order -/
def areaL : List Sq → Int
  | [] => 0
  | s :: t => s.f2 * s.f2 + areaL t
theorem areaL_append : ∀ a b : List Sq, areaL (a ++ b) = areaL a + areaL b
  | [], b => by simp [areaL]
  | s :: a, b => by simp only [List.cons_append, areaL, areaL_append a b]; omega
theorem areaL_perm {a b : List Sq} (h : a.Perm b) : areaL a = areaL b := by
  induction h with
  | nil => rfl
  | cons x _ ih => simp only [areaL, ih]
  | swap x y l => simp only [areaL]; omega
  | trans _ _ ih1 ih2 => exact ih1.trans ih2
theorem areaTo_take (l : List Sq) : ∀ n, n ≤ l.length → areaTo l n = areaL (l.take n)
  | 0, _ => by simp [areaTo, areaL]
  | n + 1, h => by
    rw [areaTo, areaTo_take l n (by omega), List.take_succ_eq_append_getElem (by omega), areaL_append, sqAt_get l n (by omega)]
    simp only [areaL]; omega
theorem areaTo_all (l : List Sq) : areaTo l l.length = areaL l := by rw [areaTo_take l l.length (Nat.le_refl _), List.take_length]
theorem areaL_map (f : Sq → Sq) : ∀ l : List Sq, (∀ s ∈ l, (f s).f2 = s.f2) → areaL (l.map f) = areaL l
  | [], _ => rfl
  | s :: t, h => by simp only [List.map_cons, areaL, h s List.mem_cons_self, areaL_map f t (fun r hr => h r (List.mem_cons_of_mem _ hr))]
theorem good_apart {W H : Int} {l : List Sq} (hg : Good W H l) : l.Pairwise (fun a b => ¬ Ovl a b) := by
  rw [List.pairwise_iff_getElem]
  intro i j hi hj hij ho
  have := (hg.2.2.2.1 j hj).2.2 i hij
  rw [sqAt_get l i hi, sqAt_get l j hj] at this
  exact this (ovl_symm ho)
theorem good_of {W H : Int} {r : List Sq} (hW : 1 ≤ W ∧ W ≤ 500) (hH : 1 ≤ H ∧ H ≤ 500) (hl : 1 ≤ r.length ∧ r.length ≤ 30) (hin : ∀ s ∈ r, Ins W H s) (hs : r.Pairwise LeP) (hno : r.Pairwise (fun a b => ¬ Ovl a b)) (ha : areaL r = W * H) : Good W H r := by
  rw [List.pairwise_iff_getElem] at hs hno
  refine ⟨hW, hH, hl, fun i hi => ⟨hin _ (sqAt_mem r i hi), fun h0 => ?_, fun j hj ho => ?_⟩, by rw [areaTo_all, ha]⟩
  · have h1 := hs (i - 1) i (by omega) hi (by omega)
    have h2 := hno (i - 1) i (by omega) hi (by omega)
    have i1 := hin _ (sqAt_mem r (i - 1) (by omega))
    have i2 := hin _ (sqAt_mem r i hi)
    rw [sqAt_get r (i - 1) (by omega)] at i1 ⊢
    rw [sqAt_get r i hi] at i2 ⊢
    unfold LeP at h1
    unfold Less Ovl Ins at *
    omega
  · have := hno j i (by omega) hi hj
    rw [sqAt_get r i hi, sqAt_get r j (by omega)] at ho
    exact this (ovl_symm ho)
theorem good_changed {W H W' H' : Int} {l r : List Sq} (f : Sq → Sq) (hg : Good W H l) (hW : 1 ≤ W' ∧ W' ≤ 500) (hH : 1 ≤ H' ∧ H' ≤ 500) (hWH : W' * H' = W * H)
    (hin : ∀ s, Ins W H s → Ins W' H' (f s)) (hf2 : ∀ s, Ins W H s → (f s).f2 = s.f2) (hov : ∀ a b, Ins W H a → Ins W H b → Ovl (f a) (f b) → Ovl a b) (hp : r.Perm (l.map f)) (hs : r.Pairwise LeP) : Good W' H' r := by
  have hl := hp.length_eq
  rw [List.length_map] at hl
  have h30 := hg.2.2.1
  refine good_of hW hH (by omega) (fun s hs' => ?_) hs ?_ ?_
  · obtain ⟨q, hq, rfl⟩ := List.mem_map.1 (hp.mem_iff.1 hs')
    exact hin q (good_in hg hq)
  · rw [hp.pairwise_iff (fun h k => h (ovl_symm k)), List.pairwise_map]
    have := good_apart hg
    rw [List.pairwise_iff_getElem] at this ⊢
    intro i j hi hj hij ho
    exact this i j hi hj hij (hov _ _ (good_in hg (List.getElem_mem hi)) (good_in hg (List.getElem_mem hj)) ho)
  · rw [areaL_perm hp, areaL_map f l (fun s hs' => hf2 s (good_in hg hs')), ← areaTo_all, hg.2.2.2.2, hWH]

/-! ### cuts that are turned -/
def tur (H : Int) (s : Sq) : Sq := ⟨wrap64 ((wrap64 (H - s.f1)) - s.f2), s.f0, s.f2⟩
theorem tur_eq {W H : Int} (hH : H ≤ 500) {s : Sq} (h : Ins W H s) : tur H s = ⟨H - s.f1 - s.f2, s.f0, s.f2⟩ := by
  obtain ⟨h1, _, _, h2, h3⟩ := h
  unfold tur
  rw [wrap64_id (n := H - s.f1) (by omega) (by omega), wrap64_id (n := H - s.f1 - s.f2) (by omega) (by omega)]
theorem tur_bd {W H : Int} (hW : W ≤ 500) (hH : H ≤ 500) {s : Sq} (h : Ins W H s) : BdSq (tur H s) := by
  rw [tur_eq hH h]
  obtain ⟨h1, h2, h3, h4, h5⟩ := h
  unfold BdSq
  dsimp only
  omega
theorem tur_dist {W H : Int} {l : List Sq} (hg : Good W H l) : Dist (l.map (tur H)) := by
  intro a ha b hb e0 e1
  obtain ⟨p, hp, rfl⟩ := List.mem_map.1 ha
  obtain ⟨q, hq, rfl⟩ := List.mem_map.1 hb
  have ip := good_in hg hp
  have iq := good_in hg hq
  have hH := hg.2.1.2
  rw [tur_eq hH ip, tur_eq hH iq] at e0 e1
  dsimp only at e0 e1
  obtain ⟨p1, p2, p3, p4, p5⟩ := ip
  obtain ⟨q1, q2, q3, q4, q5⟩ := iq
  rw [good_inj hg hp hq (by unfold Ovl; omega)]
theorem spec_tur_loop (W H : Int) (l : List Sq) (hl : l.length ≤ 1000) (R : List Sq) (hR : Ev (fun k => spec_cuSorted.f k (l.map (tur H))) R) : ∀ (t : List Sq) (i : Nat), l.drop i = t → i + t.length = l.length →
    Ev (fun k => spec_cuTurn.l0 k ((l.take i).map (tur H)) l (l.length : Int) (i : Int) W H l) (H, W, R) := by
  intro t
  induction t with
  | nil =>
    intro i hd hi
    simp only [List.length_nil] at hi
    refine Ev.succ ?_
    simp only [spec_cuTurn.l0]
    rw [List.take_of_length_le (by omega)]
    exact Ev.neg (by omega) (Ev.bind hR (Ev.now _))
  | cons s t ih =>
    intro i hd hi
    obtain ⟨h1, h2, h3⟩ := sqs_drop l i s t hd
    simp only [List.length_cons] at hi
    refine Ev.succ ?_
    simp only [spec_cuTurn.l0]
    refine Ev.pos (by omega) (Ev.pos (by omega) (Ev.pos (by omega) (Ev.pos (by rw [List.length_map, List.length_take]; omega) ?_)))
    rw [rd_sq, h2, wrap64_id (n := (i : Int) + 1) (by omega) (by omega)]
    have e := take_map_succ l (tur H) i s t hd
    have h := ih (i + 1) h3 (by omega)
    rw [← e] at h
    exact h
theorem impl_tur_loop (W H : Int) (l : List Sq) (hl : l.length ≤ 1000) (R : List Sq) (hR : slices_SortFunc_impl_Square_impl_Square__impl_comparePlaces.f (l.map (tur H)) = some R) : ∀ (t : List Sq) (i : Nat), l.drop i = t → i + t.length = l.length →
    Ev (fun k => impl_Cut_changed__impl_Cut_turned_1.l0 k l (l.length : Int) (i : Int) W H l H W ((l.take i).map (tur H))) (H, W, R) := by
  intro t
  induction t with
  | nil =>
    intro i hd hi
    simp only [List.length_nil] at hi
    refine Ev.succ ?_
    simp only [impl_Cut_changed__impl_Cut_turned_1.l0]
    rw [List.take_of_length_le (by omega)]
    exact Ev.neg (by omega) (Ev.bindc hR (Ev.now _))
  | cons s t ih =>
    intro i hd hi
    obtain ⟨h1, h2, h3⟩ := sqs_drop l i s t hd
    simp only [List.length_cons] at hi
    refine Ev.succ ?_
    simp only [impl_Cut_changed__impl_Cut_turned_1.l0]
    refine Ev.pos (by omega) (Ev.pos (by omega) (Ev.pos (by omega) ?_))
    rw [rd_sq, h2, wrap64_id (n := (i : Int) + 1) (by omega) (by omega)]
    refine Ev.bindc rfl (Ev.pos (by rw [List.length_map, List.length_take]; omega) ?_)
    have e := take_map_succ l (tur H) i s t hd
    have h := ih (i + 1) h3 (by omega)
    rw [← e] at h
    exact h

/-! ### the straight lines across: those of a height, column by column -/
def sideP (l : List Sq) (y x : Int) : Nat → Bool
  | 0 => false
  | n + 1 => sideP l y x n || decide (((sqAt l n).f1 = y ∨ (sqAt l n).f1 + (sqAt l n).f2 = y) ∧ (sqAt l n).f0 ≤ x ∧ x < (sqAt l n).f0 + (sqAt l n).f2)
theorem sideP_iff (l : List Sq) (y x : Int) : ∀ n, sideP l y x n = true ↔ ∃ m, m < n ∧ ((sqAt l m).f1 = y ∨ (sqAt l m).f1 + (sqAt l m).f2 = y) ∧ (sqAt l m).f0 ≤ x ∧ x < (sqAt l m).f0 + (sqAt l m).f2
  | 0 => by simp [sideP]
  | n + 1 => by
    rw [sideP, Bool.or_eq_true, sideP_iff l y x n, decide_eq_true_eq]
    constructor
    · rintro (⟨m, hm, h⟩ | h)
      · exact ⟨m, by ((try clear ew); (try clear es); (try clear e1); (try clear e2); (try clear ec); omega), h⟩
      · exact ⟨n, by ((try clear ew); (try clear es); (try clear e1); (try clear e2); (try clear ec); omega), h⟩
    · rintro ⟨m, hm, h⟩
      by_cases e : m = n
      · subst e; exact .inr h
      · exact .inl ⟨m, by ((try clear ew); (try clear es); (try clear e1); (try clear e2); (try clear ec); omega), h⟩
def rowB (w : Nat) (f : Nat → Bool) : List Bool := (List.range w).map f
theorem rowB_len (w : Nat) (f : Nat → Bool) : (rowB w f).length = w := by simp [rowB]
theorem rowB_congr {w : Nat} {f g : Nat → Bool} (h : ∀ x, x < w → f x = g x) : rowB w f = rowB w g := by
  unfold rowB
  apply List.map_congr_left
  intro x hx
  exact h x (List.mem_range.1 hx)
theorem rowB_rd (w : Nat) (f : Nat → Bool) (i : Nat) (h : i < w) : rdOf false (rowB w f) (i : Int) = f i := by
  unfold rdOf rowB; rw [Int.toNat_natCast]; simp [List.getD, h]
theorem rowB_set (w : Nat) (f : Nat → Bool) (j : Nat) (h : j < w) : (rowB w f).set j true = rowB w (fun x => f x || decide (x = j)) := by
  apply List.ext_getElem
  · simp [rowB]
  · intro i h1 h2
    simp only [rowB, List.length_map, List.length_range] at h2
    rw [List.getElem_set]
    simp only [rowB, List.getElem_map, List.getElem_range]
    by_cases e : j = i
    · subst e; simp
    · rw [if_neg e]; simp; intro h'; ((try clear ew); (try clear es); (try clear e1); (try clear e2); (try clear ec); omega)
theorem rowB_false (w : Nat) : List.replicate w false = rowB w (fun _ => false) := by
  apply List.ext_getElem
  · simp [rowB]
  · intro i h1 h2; simp [rowB]
def st (b : Nat → Bool) (y : Int) : Nat → List (List Int) × Int
  | 0 => ([], -1)
  | n + 1 => if b n = true then ((st b y n).1, if (st b y n).2 < 0 then (n : Int) else (st b y n).2) else if (st b y n).2 < 0 then st b y n else ((st b y n).1 ++ [[y, (st b y n).2, (n : Int)]], -1)
def fin (b : Nat → Bool) (y : Int) (n : Nat) : List (List Int) := (st b y n).1 ++ (if (st b y n).2 < 0 then [] else [[y, (st b y n).2, (n : Int)]])
theorem st_open (b : Nat → Bool) (y : Int) (n : Nat) : ¬ (st b y n).2 < 0 ↔ 0 < n ∧ b (n - 1) = true := by
  cases n with
  | zero => simp [st]
  | succ n =>
    rw [Nat.add_sub_cancel]
    by_cases h : b n = true
    · simp only [st, if_pos h]
      by_cases h2 : (st b y n).2 < 0
      · rw [if_pos h2]; simp [h]
      · rw [if_neg h2]; simp [h]; ((try clear ew); (try clear es); (try clear e1); (try clear e2); (try clear ec); omega)
    · simp only [st, if_neg h]
      by_cases h2 : (st b y n).2 < 0
      · rw [if_pos h2]; simp [h, h2]
      · rw [if_neg h2]; simp [h]
theorem fin_false {b : Nat → Bool} {y : Int} {n : Nat} (h : ¬ b n = true) : fin b y (n + 1) = fin b y n := by
  unfold fin
  simp only [st, if_neg h]
  by_cases h2 : (st b y n).2 < 0
  · rw [if_pos h2]; simp [h2]
  · rw [if_neg h2]; simp [h2]
theorem fin_new {b : Nat → Bool} {y : Int} {n : Nat} (h : b n = true) (h2 : (st b y n).2 < 0) : fin b y (n + 1) = fin b y n ++ [[y, (n : Int), (n : Int) + 1]] := by
  unfold fin
  simp only [st, if_pos h, if_pos h2]
  rw [if_neg (by ((try clear ew); (try clear es); (try clear e1); (try clear e2); (try clear ec); omega))]
  simp
theorem fin_open {b : Nat → Bool} {y : Int} {n : Nat} (h2 : ¬ (st b y n).2 < 0) : fin b y n = (st b y n).1 ++ [[y, (st b y n).2, (n : Int)]] := by
  unfold fin; rw [if_neg h2]
theorem fin_more {b : Nat → Bool} {y : Int} {n : Nat} (h : b n = true) (h2 : ¬ (st b y n).2 < 0) : fin b y (n + 1) = (st b y n).1 ++ [[y, (st b y n).2, (n : Int) + 1]] := by
  unfold fin
  simp only [st, if_pos h, if_neg h2]
  simp
theorem st_close {b : Nat → Bool} {y : Int} {n : Nat} (h : ¬ b n = true) : (st b y (n + 1)).1 = fin b y n := by
  unfold fin
  simp only [st, if_neg h]
  by_cases h2 : (st b y n).2 < 0
  · simp [h2]
  · simp [h2]
theorem fin_len (b : Nat → Bool) (y : Int) : ∀ n, (fin b y n).length ≤ n
  | 0 => by simp [fin, st]
  | n + 1 => by
    have ih := fin_len b y n
    by_cases h : b n = true
    · by_cases h2 : (st b y n).2 < 0
      · rw [fin_new h h2]; simp; ((try clear ew); (try clear es); (try clear e1); (try clear e2); (try clear ec); omega)
      · rw [fin_more h h2]; rw [fin_open h2] at ih; simp at ih ⊢; ((try clear ew); (try clear es); (try clear e1); (try clear e2); (try clear ec); omega)
    · rw [fin_false h]; ((try clear ew); (try clear es); (try clear e1); (try clear e2); (try clear ec); omega)
theorem st_len (b : Nat → Bool) (y : Int) (n : Nat) : (st b y n).1.length ≤ n := by
  have := fin_len b y n; unfold fin at this; rw [List.length_append] at this; ((try clear ew); (try clear es); (try clear e1); (try clear e2); (try clear ec); omega)
theorem fin_row (b : Nat → Bool) (y : Int) : ∀ n, ∀ r ∈ fin b y n, ∃ a z, r = [y, a, z]
  | 0, r, hr => by simp [fin, st] at hr
  | n + 1, r, hr => by
    have ih := fin_row b y n
    by_cases h : b n = true
    · by_cases h2 : (st b y n).2 < 0
      · rw [fin_new h h2, List.mem_append] at hr
        rcases hr with hr | hr
        · exact ih r hr
        · exact ⟨_, _, List.mem_singleton.1 hr⟩
      · rw [fin_more h h2, List.mem_append] at hr
        rw [fin_open h2] at ih
        rcases hr with hr | hr
        · exact ih r (List.mem_append_left _ hr)
        · exact ⟨_, _, List.mem_singleton.1 hr⟩
    · rw [fin_false h] at hr; exact ih r hr
def bAt (l : List Sq) (y : Int) (x : Nat) : Bool := sideP l y (x : Int) l.length
def allL (l : List Sq) (w : Nat) : Nat → List (List Int)
  | 0 => []
  | y + 1 => allL l w y ++ fin (bAt l (y : Int)) (y : Int) w
theorem allL_len (l : List Sq) (w : Nat) : ∀ n, (allL l w n).length ≤ n * w
  | 0 => by simp [allL]
  | n + 1 => by
    have := allL_len l w n
    have := fin_len (bAt l (n : Int)) (n : Int) w
    simp only [allL, List.length_append, Nat.add_mul, Nat.one_mul]; ((try clear ew); (try clear es); (try clear e1); (try clear e2); (try clear ec); omega)
theorem allL_row (l : List Sq) (w : Nat) : ∀ n, ∀ r ∈ allL l w n, r.length = 3
  | 0, r, hr => by simp [allL] at hr
  | n + 1, r, hr => by
    simp only [allL, List.mem_append] at hr
    rcases hr with hr | hr
    · exact allL_row l w n r hr
    · obtain ⟨a, z, rfl⟩ := fin_row _ _ _ r hr; rfl
/-! ### the program's -/
theorem acr_l2 (O : List (List Int)) (y : Int) (w : Nat) (n1 i1 : Int) (l : List Sq) (len i W H f0 f1 f2 : Int) (R : List (List Int)) (h0 : 0 ≤ f0) (h2 : 0 ≤ f2) (hw : f0 + f2 ≤ w) (hw5 : w ≤ 1000) :
    ∀ (d j : Nat) (g : Nat → Bool), (f0 + f2 - (j : Int)) = d → Ev (fun k => impl_Cut_linesAcross.l1 k O y (rowB w (fun x => g x || decide ((j : Int) ≤ x ∧ (x : Int) < f0 + f2))) n1 i1 l len (wrap64 (i + 1)) W H l) R →
      Ev (fun k => impl_Cut_linesAcross.l2 k O y (rowB w g) (j : Int) n1 i1 l len i W H l f0 f1 f2) R := by
  intro d
  induction d with
  | zero =>
    intro j g hd h
    refine Ev.succ ?_
    simp only [impl_Cut_linesAcross.l2]
    rw [wrap64_id (n := f0 + f2) (by ((try clear ew); (try clear es); (try clear e1); (try clear e2); (try clear ec); omega)) (by ((try clear ew); (try clear es); (try clear e1); (try clear e2); (try clear ec); omega))]
    refine Ev.neg (by ((try clear ew); (try clear es); (try clear e1); (try clear e2); (try clear ec); omega)) ?_
    rw [show rowB w g = rowB w (fun x => g x || decide ((j : Int) ≤ x ∧ (x : Int) < f0 + f2)) from rowB_congr (fun x hx => by rw [decide_eq_false (by ((try clear ew); (try clear es); (try clear e1); (try clear e2); (try clear ec); omega)), Bool.or_false])]
    exact h
  | succ d ih =>
    intro j g hd h
    refine Ev.succ ?_
    simp only [impl_Cut_linesAcross.l2]
    rw [wrap64_id (n := f0 + f2) (by ((try clear ew); (try clear es); (try clear e1); (try clear e2); (try clear ec); omega)) (by ((try clear ew); (try clear es); (try clear e1); (try clear e2); (try clear ec); omega)), wrap64_id (n := (j : Int) + 1) (by ((try clear ew); (try clear es); (try clear e1); (try clear e2); (try clear ec); omega)) (by ((try clear ew); (try clear es); (try clear e1); (try clear e2); (try clear ec); omega))]
    refine Ev.pos (by ((try clear ew); (try clear es); (try clear e1); (try clear e2); (try clear ec); omega)) (Ev.pos (by ((try clear ew); (try clear es); (try clear e1); (try clear e2); (try clear ec); omega)) (Ev.pos (by rw [rowB_len]; ((try clear ew); (try clear es); (try clear e1); (try clear e2); (try clear ec); omega)) ?_))
    rw [Int.toNat_natCast, rowB_set w g j (by ((try clear ew); (try clear es); (try clear e1); (try clear e2); (try clear ec); omega))]
    refine ih (j + 1) _ (by ((try clear ew); (try clear es); (try clear e1); (try clear e2); (try clear ec); omega)) ?_
    rw [show rowB w (fun x => (g x || decide (x = j)) || decide (((j + 1 : Nat) : Int) ≤ x ∧ (x : Int) < f0 + f2)) = rowB w (fun x => g x || decide ((j : Int) ≤ x ∧ (x : Int) < f0 + f2)) from rowB_congr (fun x hx => by
      rw [Bool.or_assoc]; congr 1
      by_cases e : x = j
      · subst e; rw [decide_eq_true rfl, Bool.true_or]; exact (decide_eq_true (by ((try clear ew); (try clear es); (try clear e1); (try clear e2); (try clear ec); omega))).symm
      · rw [decide_eq_false e, Bool.false_or]; exact decide_eq_decide.2 (by ((try clear ew); (try clear es); (try clear e1); (try clear e2); (try clear ec); omega)))]
    exact h
theorem acr_l1 {W H : Int} {l : List Sq} (hg : Good W H l) (w : Nat) (hw : (w : Int) = W) (O : List (List Int)) (y n1 i1 : Int) (R : List (List Int))
    (h : Ev (fun k => impl_Cut_linesAcross.l3 k O y (rowB w (bAt l y)) n1 i1 (rowB w (bAt l y)) (w : Int) 0 W H l) R) :
    ∀ (d i : Nat), l.length - i = d → i ≤ l.length → Ev (fun k => impl_Cut_linesAcross.l1 k O y (rowB w (fun x => sideP l y (x : Int) i)) n1 i1 l (l.length : Int) (i : Int) W H l) R := by
  intro d
  have h30 := hg.2.2.1
  have hW := hg.1
  have hH := hg.2.1
  induction d with
  | zero =>
    intro i hd hi
    obtain rfl : i = l.length := by ((try clear ew); (try clear es); (try clear e1); (try clear e2); (try clear ec); omega)
    refine Ev.succ ?_
    simp only [impl_Cut_linesAcross.l1, rowB_len]
    exact Ev.neg (by ((try clear ew); (try clear es); (try clear e1); (try clear e2); (try clear ec); omega)) h
  | succ d ih =>
    intro i hd hi
    have hok := (hg.2.2.2.1 i (by ((try clear ew); (try clear es); (try clear e1); (try clear e2); (try clear ec); omega))).1
    unfold Ins at hok
    have hn := ih (i + 1) (by ((try clear ew); (try clear es); (try clear e1); (try clear e2); (try clear ec); omega)) (by ((try clear ew); (try clear es); (try clear e1); (try clear e2); (try clear ec); omega))
    have ew : wrap64 ((i : Int) + 1) = ((i + 1 : Nat) : Int) := by rw [wrap64_id (by ((try clear ew); (try clear es); (try clear e1); (try clear e2); (try clear ec); omega)) (by ((try clear ew); (try clear es); (try clear e1); (try clear e2); (try clear ec); omega))]; ((try clear ew); (try clear es); (try clear e1); (try clear e2); (try clear ec); omega)
    have yes : ((sqAt l i).f1 = y ∨ (sqAt l i).f1 + (sqAt l i).f2 = y) → Ev (fun k => impl_Cut_linesAcross.j2 k O y (rowB w (fun x => sideP l y (x : Int) i)) n1 i1 l (l.length : Int) (i : Int) true W H l (sqAt l i).f0 (sqAt l i).f1 (sqAt l i).f2) R := by
      intro hy
      refine Ev.succ ?_
      simp only [impl_Cut_linesAcross.j2]
      refine Ev.pos trivial ?_
      have e0 : (sqAt l i).f0 = (((sqAt l i).f0.toNat : Nat) : Int) := by ((try clear ew); (try clear es); (try clear e1); (try clear e2); (try clear ec); omega)
      have := acr_l2 O y w n1 i1 l (l.length : Int) (i : Int) W H (sqAt l i).f0 (sqAt l i).f1 (sqAt l i).f2 R (by ((try clear ew); (try clear es); (try clear e1); (try clear e2); (try clear ec); omega)) (by ((try clear ew); (try clear es); (try clear e1); (try clear e2); (try clear ec); omega)) (by ((try clear ew); (try clear es); (try clear e1); (try clear e2); (try clear ec); omega)) (by ((try clear ew); (try clear es); (try clear e1); (try clear e2); (try clear ec); omega)) (sqAt l i).f2.toNat (sqAt l i).f0.toNat (fun x => sideP l y (x : Int) i) (by ((try clear ew); (try clear es); (try clear e1); (try clear e2); (try clear ec); omega)) (by
        rw [ew, show rowB w (fun x => sideP l y (x : Int) i || decide ((((sqAt l i).f0.toNat : Nat) : Int) ≤ x ∧ (x : Int) < (sqAt l i).f0 + (sqAt l i).f2)) = rowB w (fun x => sideP l y (x : Int) (i + 1)) from rowB_congr (fun x hx => by
          rw [sideP]; congr 1; exact decide_eq_decide.2 (by rw [← e0]; exact ⟨fun h => ⟨hy, h⟩, fun h => h.2⟩))]
        exact hn)
      rw [← e0] at this
      exact this
    have no : ¬ ((sqAt l i).f1 = y ∨ (sqAt l i).f1 + (sqAt l i).f2 = y) → Ev (fun k => impl_Cut_linesAcross.j2 k O y (rowB w (fun x => sideP l y (x : Int) i)) n1 i1 l (l.length : Int) (i : Int) false W H l (sqAt l i).f0 (sqAt l i).f1 (sqAt l i).f2) R := by
      intro hy
      refine Ev.succ ?_
      simp only [impl_Cut_linesAcross.j2]
      refine Ev.neg (by simp) ?_
      rw [ew, show rowB w (fun x => sideP l y (x : Int) i) = rowB w (fun x => sideP l y (x : Int) (i + 1)) from rowB_congr (fun x hx => by
        rw [sideP, decide_eq_false (fun h => hy h.1), Bool.or_false])]
      exact hn
    refine Ev.succ ?_
    simp only [impl_Cut_linesAcross.l1, rd_sq]
    refine Ev.pos (by ((try clear ew); (try clear es); (try clear e1); (try clear e2); (try clear ec); omega)) (Ev.pos (by ((try clear ew); (try clear es); (try clear e1); (try clear e2); (try clear ec); omega)) (Ev.pos (by ((try clear ew); (try clear es); (try clear e1); (try clear e2); (try clear ec); omega)) ?_))
    by_cases c1 : (sqAt l i).f1 = y
    · exact Ev.pos c1 (yes (.inl c1))
    · refine Ev.neg c1 ?_
      rw [wrap64_id (by ((try clear ew); (try clear es); (try clear e1); (try clear e2); (try clear ec); omega)) (by ((try clear ew); (try clear es); (try clear e1); (try clear e2); (try clear ec); omega))]
      by_cases c2 : (sqAt l i).f1 + (sqAt l i).f2 = y
      · rw [show ((sqAt l i).f1 + (sqAt l i).f2 == y) = true from by rw [c2]; exact beq_self_eq_true _]
        exact yes (.inr c2)
      · rw [show ((sqAt l i).f1 + (sqAt l i).f2 == y) = false from by simpa using c2]
        exact no (fun h => h.elim c1 c2)
theorem last_get (O : List (List Int)) (r : List Int) : (O ++ [r]).getD ((O ++ [r]).length - 1) [] = r := by simp [List.getD]
theorem last_set (O : List (List Int)) (r s : List Int) : (O ++ [r]).set ((O ++ [r]).length - 1) s = O ++ [s] := by simp
theorem acr_l3 {W H : Int} {l : List Sq} (w : Nat) (hw5 : w ≤ 1000) (b : Nat → Bool) (O : List (List Int)) (hO : O.length ≤ 1000000) (y n1 i1 : Int) (R : List (List Int))
    (h : Ev (fun k => impl_Cut_linesAcross.l0 k (O ++ fin b y w) n1 (wrap64 (i1 + 1)) W H l) R) :
    ∀ (d n : Nat), w - n = d → n ≤ w → Ev (fun k => impl_Cut_linesAcross.l3 k (O ++ fin b y n) y (rowB w b) n1 i1 (rowB w b) (w : Int) (n : Int) W H l) R := by
  intro d
  induction d with
  | zero =>
    intro n hd hn
    obtain rfl : n = w := by ((try clear ew); (try clear es); (try clear e1); (try clear e2); (try clear ec); omega)
    refine Ev.succ ?_
    simp only [impl_Cut_linesAcross.l3]
    exact Ev.neg (by ((try clear ew); (try clear es); (try clear e1); (try clear e2); (try clear ec); omega)) h
  | succ d ih =>
    intro n hd hn
    have hnx := ih (n + 1) (by ((try clear ew); (try clear es); (try clear e1); (try clear e2); (try clear ec); omega)) (by ((try clear ew); (try clear es); (try clear e1); (try clear e2); (try clear ec); omega))
    have hfl := fin_len b y n
    have ew : wrap64 ((n : Int) + 1) = (n : Int) + 1 := wrap64_id (by ((try clear ew); (try clear es); (try clear e1); (try clear e2); (try clear ec); omega)) (by ((try clear ew); (try clear es); (try clear e1); (try clear e2); (try clear ec); omega))
    have ec : ((n + 1 : Nat) : Int) = (n : Int) + 1 := by ((try clear ew); (try clear es); (try clear e1); (try clear e2); (try clear ec); omega)
    refine Ev.succ ?_
    simp only [impl_Cut_linesAcross.l3, rowB_len, rowB_rd w b n (by ((try clear ew); (try clear es); (try clear e1); (try clear e2); (try clear ec); omega)), ew]
    refine Ev.pos (by ((try clear ew); (try clear es); (try clear e1); (try clear e2); (try clear ec); omega)) (Ev.pos (by ((try clear ew); (try clear es); (try clear e1); (try clear e2); (try clear ec); omega)) (Ev.pos (by ((try clear ew); (try clear es); (try clear e1); (try clear e2); (try clear ec); omega)) ?_))
    by_cases hb : b n = true
    · refine Ev.pos hb ?_
      have new : (st b y n).2 < 0 → Ev (fun k => if (O ++ fin b y n).length < 5864062014805 then impl_Cut_linesAcross.l3 k (O ++ fin b y n ++ [[y, (n : Int), (n : Int) + 1]]) y (rowB w b) n1 i1 (rowB w b) (w : Int) ((n : Int) + 1) W H l else none) R := by
        intro h2
        refine Ev.pos (by rw [List.length_append]; ((try clear ew); (try clear es); (try clear e1); (try clear e2); (try clear ec); omega)) ?_
        rw [List.append_assoc, ← fin_new hb h2, ← ec]
        exact hnx
      by_cases h0 : 0 < n
      · refine Ev.pos (by ((try clear ew); (try clear es); (try clear e1); (try clear e2); (try clear ec); omega)) ?_
        have e1 : wrap64 ((n : Int) - 1) = ((n - 1 : Nat) : Int) := by rw [wrap64_id (by ((try clear ew); (try clear es); (try clear e1); (try clear e2); (try clear ec); omega)) (by ((try clear ew); (try clear es); (try clear e1); (try clear e2); (try clear ec); omega))]; ((try clear ew); (try clear es); (try clear e1); (try clear e2); (try clear ec); omega)
        rw [e1, rowB_rd w b (n - 1) (by ((try clear ew); (try clear es); (try clear e1); (try clear e2); (try clear ec); omega))]
        refine Ev.pos (by ((try clear ew); (try clear es); (try clear e1); (try clear e2); (try clear ec); omega)) (Ev.pos (by ((try clear ew); (try clear es); (try clear e1); (try clear e2); (try clear ec); omega)) ?_)
        by_cases hb1 : b (n - 1) = true
        · refine Ev.pos hb1 ?_
          have h2 := (st_open b y n).2 ⟨h0, hb1⟩
          rw [fin_open h2] at hfl
          rw [fin_open h2, ← List.append_assoc]
          have e2 : wrap64 (((O ++ (st b y n).1 ++ [[y, (st b y n).2, (n : Int)]]).length : Int) - 1) = (((O ++ (st b y n).1 ++ [[y, (st b y n).2, (n : Int)]]).length - 1 : Nat) : Int) := by
            rw [List.length_append] at hfl
            rw [wrap64_id (by simp only [List.length_append, List.length_singleton] at hfl ⊢; ((try clear ew); (try clear es); (try clear e1); (try clear e2); (try clear ec); omega)) (by simp only [List.length_append, List.length_singleton] at hfl ⊢; ((try clear ew); (try clear es); (try clear e1); (try clear e2); (try clear ec); omega))]; simp only [List.length_append, List.length_singleton]; ((try clear ew); (try clear es); (try clear e1); (try clear e2); (try clear ec); omega)
          have e3 : rd_L5 (O ++ (st b y n).1 ++ [[y, (st b y n).2, (n : Int)]]) (((O ++ (st b y n).1 ++ [[y, (st b y n).2, (n : Int)]]).length - 1 : Nat) : Int) = [y, (st b y n).2, (n : Int)] := by
            unfold rd_L5; rw [Int.toNat_natCast, last_get]
          rw [e2, e3, Int.toNat_natCast, last_set]
          refine Ev.pos (by ((try clear ew); (try clear es); (try clear e1); (try clear e2); (try clear ec); omega)) (Ev.pos (by simp; ((try clear ew); (try clear es); (try clear e1); (try clear e2); (try clear ec); omega)) (Ev.pos (by simp) ?_))
          show Ev (fun k => impl_Cut_linesAcross.l3 k (O ++ (st b y n).1 ++ [[y, (st b y n).2, (n : Int) + 1]]) y (rowB w b) n1 i1 (rowB w b) (w : Int) ((n : Int) + 1) W H l) R
          rw [List.append_assoc, ← fin_more hb h2, ← ec]
          exact hnx
        · refine Ev.neg hb1 (new ?_)
          have := (not_congr (st_open b y n)).2 (fun h => hb1 h.2)
          ((try clear ew); (try clear es); (try clear e1); (try clear e2); (try clear ec); omega)
      · refine Ev.neg (by ((try clear ew); (try clear es); (try clear e1); (try clear e2); (try clear ec); omega)) (new ?_)
        have := (not_congr (st_open b y n)).2 (fun h => h0 h.1)
        ((try clear ew); (try clear es); (try clear e1); (try clear e2); (try clear ec); omega)
    · refine Ev.neg hb ?_
      rw [← fin_false hb, ← ec]
      exact hnx
theorem acr_l0 {W H : Int} {l : List Sq} (hg : Good W H l) (w h : Nat) (hw : (w : Int) = W) (hh : (h : Int) = H) :
    ∀ (d y : Nat), h + 1 - y = d → y ≤ h + 1 → Ev (fun k => impl_Cut_linesAcross.l0 k (allL l w y) (H + 1) (y : Int) W H l) (allL l w (h + 1)) := by
  intro d
  have hW := hg.1
  have hH := hg.2.1
  induction d with
  | zero =>
    intro y hd hy
    obtain rfl : y = h + 1 := by ((try clear ew); (try clear es); (try clear e1); (try clear e2); (try clear ec); omega)
    refine Ev.succ ?_
    simp only [impl_Cut_linesAcross.l0]
    exact Ev.neg (by ((try clear ew); (try clear es); (try clear e1); (try clear e2); (try clear ec); omega)) (Ev.now _)
  | succ d ih =>
    intro y hd hy
    have hnx := ih (y + 1) (by ((try clear ew); (try clear es); (try clear e1); (try clear e2); (try clear ec); omega)) (by ((try clear ew); (try clear es); (try clear e1); (try clear e2); (try clear ec); omega))
    refine Ev.succ ?_
    simp only [impl_Cut_linesAcross.l0]
    refine Ev.pos (by ((try clear ew); (try clear es); (try clear e1); (try clear e2); (try clear ec); omega)) (Ev.pos (by ((try clear ew); (try clear es); (try clear e1); (try clear e2); (try clear ec); omega)) (Ev.pos (by ((try clear ew); (try clear es); (try clear e1); (try clear e2); (try clear ec); omega)) ?_))
    rw [show W.toNat = w by ((try clear ew); (try clear es); (try clear e1); (try clear e2); (try clear ec); omega), rowB_false]
    have hl := allL_len l w y
    have hyw : y * w ≤ 501 * 500 := Nat.mul_le_mul (by ((try clear ew); (try clear es); (try clear e1); (try clear e2); (try clear ec); omega)) (by ((try clear ew); (try clear es); (try clear e1); (try clear e2); (try clear ec); omega))
    have e0 : fin (bAt l (y : Int)) (y : Int) 0 = [] := rfl
    have := acr_l1 hg w hw (allL l w y) (y : Int) (H + 1) (y : Int) (allL l w (h + 1)) (by
      have := acr_l3 (W := W) (H := H) (l := l) w (by ((try clear ew); (try clear es); (try clear e1); (try clear e2); (try clear ec); omega)) (bAt l (y : Int)) (allL l w y) (by ((try clear ew); (try clear es); (try clear e1); (try clear e2); (try clear ec); omega)) (y : Int) (H + 1) (y : Int) (allL l w (h + 1)) (by
        rw [wrap64_id (by ((try clear ew); (try clear es); (try clear e1); (try clear e2); (try clear ec); omega)) (by ((try clear ew); (try clear es); (try clear e1); (try clear e2); (try clear ec); omega))]
        have e : ((y + 1 : Nat) : Int) = (y : Int) + 1 := by ((try clear ew); (try clear es); (try clear e1); (try clear e2); (try clear ec); omega)
        rw [e] at hnx
        exact hnx) w 0 (by ((try clear ew); (try clear es); (try clear e1); (try clear e2); (try clear ec); omega)) (by ((try clear ew); (try clear es); (try clear e1); (try clear e2); (try clear ec); omega))
      rw [e0, List.append_nil] at this
      exact this) l.length 0 (by ((try clear ew); (try clear es); (try clear e1); (try clear e2); (try clear ec); omega)) (by ((try clear ew); (try clear es); (try clear e1); (try clear e2); (try clear ec); omega))
    exact this
theorem impl_across_ev {W H : Int} {l : List Sq} (hg : Good W H l) : Ev (fun k => impl_Cut_linesAcross.f k W H l) (allL l W.toNat (H.toNat + 1)) := by
  have hW := hg.1
  have hH := hg.2.1
  unfold impl_Cut_linesAcross.f
  rw [wrap64_id (by ((try clear ew); (try clear es); (try clear e1); (try clear e2); (try clear ec); omega)) (by ((try clear ew); (try clear es); (try clear e1); (try clear e2); (try clear ec); omega))]
  exact acr_l0 hg W.toNat H.toNat (by ((try clear ew); (try clear es); (try clear e1); (try clear e2); (try clear ec); omega)) (by ((try clear ew); (try clear es); (try clear e1); (try clear e2); (try clear ec); omega)) (H.toNat + 1) 0 (by ((try clear ew); (try clear es); (try clear e1); (try clear e2); (try clear ec); omega)) (by ((try clear ew); (try clear es); (try clear e1); (try clear e2); (try clear ec); omega))

theorem tur_good {W H : Int} {l r : List Sq} (hg : Good W H l) (hp : r.Perm (l.map (tur H))) (hs : r.Pairwise LeP) : Good H W r := by
  have hH := hg.2.1.2
  refine good_changed (tur H) hg hg.2.1 hg.1 (Int.mul_comm _ _) (fun s h => ?_) (fun s h => ?_) (fun a b ha hb ho => ?_) hp hs
  · rw [tur_eq hH h]; unfold Ins at *; dsimp only; ((try clear ew); (try clear es); (try clear e1); (try clear e2); (try clear ec); omega)
  · rw [tur_eq hH h]
  · rw [tur_eq hH ha, tur_eq hH hb] at ho
    unfold Ovl Ins at *
    dsimp only at ho
    ((try clear ew); (try clear es); (try clear e1); (try clear e2); (try clear ec); omega)
/-! ### lines without a square across -/
def crsP (l : List Sq) (y x : Int) : Nat → Bool
  | 0 => false
  | n + 1 => crsP l y x n || decide (((sqAt l n).f1 < y ∧ y < (sqAt l n).f1 + (sqAt l n).f2) ∧ (sqAt l n).f0 ≤ x ∧ x < (sqAt l n).f0 + (sqAt l n).f2)
theorem crsP_iff (l : List Sq) (y x : Int) : ∀ n, crsP l y x n = true ↔ ∃ m, m < n ∧ ((sqAt l m).f1 < y ∧ y < (sqAt l m).f1 + (sqAt l m).f2) ∧ (sqAt l m).f0 ≤ x ∧ x < (sqAt l m).f0 + (sqAt l m).f2
  | 0 => by simp [crsP]
  | n + 1 => by
    rw [crsP, Bool.or_eq_true, crsP_iff l y x n, decide_eq_true_eq]
    constructor
    · rintro (⟨m, hm, h⟩ | h)
      · exact ⟨m, by ((try clear ew); (try clear es); (try clear e1); (try clear e2); (try clear ec); omega), h⟩
      · exact ⟨n, by ((try clear ew); (try clear es); (try clear e1); (try clear e2); (try clear ec); omega), h⟩
    · rintro ⟨m, hm, h⟩
      by_cases e : m = n
      · subst e; exact .inr h
      · exact .inl ⟨m, by ((try clear ew); (try clear es); (try clear e1); (try clear e2); (try clear ec); omega), h⟩
theorem bAt_free {W H : Int} {l : List Sq} (hg : Good W H l) (y : Int) (hy : 1 ≤ y ∧ y < H) (x : Nat) (hx : (x : Int) < W) : bAt l y x = !crsP l y (x : Int) l.length := by
  unfold bAt
  by_cases hc : crsP l y (x : Int) l.length = true
  · rw [hc]
    rw [Bool.not_true, ← Bool.not_eq_true, sideP_iff]
    rintro ⟨m, hm, h1, h2⟩
    obtain ⟨m', hm', h3, h4⟩ := (crsP_iff l y x l.length).1 hc
    have i1 := (hg.2.2.2.1 m hm).1
    have i2 := (hg.2.2.2.1 m' hm').1
    have : sqAt l m = sqAt l m' := by
      rcases h1 with h1 | h1
      · exact good_inj hg (sqAt_mem l m hm) (sqAt_mem l m' hm') (in_ovl (x := x) (y := y) (by unfold InSq; unfold Ins at i1; ((try clear ew); (try clear es); (try clear e1); (try clear e2); (try clear ec); omega)) (by unfold InSq; unfold Ins at i2; ((try clear ew); (try clear es); (try clear e1); (try clear e2); (try clear ec); omega)))
      · exact good_inj hg (sqAt_mem l m hm) (sqAt_mem l m' hm') (in_ovl (x := x) (y := y - 1) (by unfold InSq; unfold Ins at i1; ((try clear ew); (try clear es); (try clear e1); (try clear e2); (try clear ec); omega)) (by unfold InSq; unfold Ins at i2; ((try clear ew); (try clear es); (try clear e1); (try clear e2); (try clear ec); omega)))
    rw [this] at h1
    ((try clear ew); (try clear es); (try clear e1); (try clear e2); (try clear ec); omega)
  · rw [Bool.eq_false_iff.2 hc, Bool.not_false, sideP_iff]
    obtain ⟨j, hj, h1⟩ := covered hg (x : Int) y (by ((try clear ew); (try clear es); (try clear e1); (try clear e2); (try clear ec); omega)) (by ((try clear ew); (try clear es); (try clear e1); (try clear e2); (try clear ec); omega))
    unfold InSq at h1
    have : ¬ (sqAt l j).f1 < y := fun h => hc ((crsP_iff l y x l.length).2 ⟨j, hj, by ((try clear ew); (try clear es); (try clear e1); (try clear e2); (try clear ec); omega), by ((try clear ew); (try clear es); (try clear e1); (try clear e2); (try clear ec); omega)⟩)
    exact ⟨j, hj, .inl (by ((try clear ew); (try clear es); (try clear e1); (try clear e2); (try clear ec); omega)), by ((try clear ew); (try clear es); (try clear e1); (try clear e2); (try clear ec); omega)⟩
/-! ### the longest run -/
def rn (b : Nat → Bool) : Nat → Int
  | 0 => 0
  | n + 1 => if b n = true then rn b n + 1 else 0
def mo (b : Nat → Bool) (m : Int) : Nat → Int
  | 0 => m
  | n + 1 => mx (mo b m n) (rn b (n + 1))
def stp (H m : Int) (r : List Int) : Int := if 1 ≤ rd r 0 ∧ rd r 0 ≤ H - 1 then mx m (rd r 2 - rd r 1) else m
def bst (H m : Int) (L : List (List Int)) : Int := L.foldl (stp H) m
theorem mx_assoc (a b c : Int) : mx (mx a b) c = mx a (mx b c) := by unfold mx; split <;> split <;> (try split) <;> (try split) <;> omega
theorem rn_bd (b : Nat → Bool) : ∀ n, 0 ≤ rn b n ∧ rn b n ≤ n
  | 0 => by simp [rn]
  | n + 1 => by have := rn_bd b n; simp only [rn]; split <;> ((try clear ew); (try clear es); (try clear e1); (try clear e2); (try clear ec); omega)
theorem mo_bd (b : Nat → Bool) (m : Int) (hm : 0 ≤ m) : ∀ n, m ≤ mo b m n ∧ mo b m n ≤ mx m n
  | 0 => by simp only [mo]; unfold mx; split <;> ((try clear ew); (try clear es); (try clear e1); (try clear e2); (try clear ec); omega)
  | n + 1 => by
    have h1 := mo_bd b m hm n
    have h2 := rn_bd b (n + 1)
    simp only [mo]
    unfold mx at *
    constructor
    · split <;> ((try clear ew); (try clear es); (try clear e1); (try clear e2); (try clear ec); omega)
    · split at h1 <;> split <;> split <;> ((try clear ew); (try clear es); (try clear e1); (try clear e2); (try clear ec); omega)
theorem mo_congr {b c : Nat → Bool} (m : Int) : ∀ n, (∀ i, i < n → b i = c i) → rn b n = rn c n ∧ mo b m n = mo c m n
  | 0, _ => ⟨rfl, rfl⟩
  | n + 1, h => by
    obtain ⟨h1, h2⟩ := mo_congr (b := b) (c := c) m n (fun i hi => h i (by ((try clear ew); (try clear es); (try clear e1); (try clear e2); (try clear ec); omega)))
    have hr : rn b (n + 1) = rn c (n + 1) := by simp only [rn, h1, h n (by ((try clear ew); (try clear es); (try clear e1); (try clear e2); (try clear ec); omega))]
    exact ⟨hr, by simp only [mo, h2, hr]⟩
theorem rn_st (b : Nat → Bool) (y : Int) : ∀ n, rn b n = if (st b y n).2 < 0 then 0 else (n : Int) - (st b y n).2
  | 0 => by simp [rn, st]
  | n + 1 => by
    have ih := rn_st b y n
    by_cases h : b n = true
    · simp only [rn, st, if_pos h, ih]
      by_cases h2 : (st b y n).2 < 0
      · rw [if_pos h2, if_pos h2, if_neg (by ((try clear ew); (try clear es); (try clear e1); (try clear e2); (try clear ec); omega))]; ((try clear ew); (try clear es); (try clear e1); (try clear e2); (try clear ec); omega)
      · rw [if_neg h2, if_neg h2, if_neg h2]; ((try clear ew); (try clear es); (try clear e1); (try clear e2); (try clear ec); omega)
    · simp only [rn, st, if_neg h]
      by_cases h2 : (st b y n).2 < 0
      · rw [if_pos h2, if_pos h2]
      · rw [if_neg h2]; simp
theorem bst_snoc (H m : Int) (L : List (List Int)) (r : List Int) : bst H m (L ++ [r]) = stp H (bst H m L) r := by unfold bst; rw [List.foldl_append]; rfl
theorem stp_row (H m y a z : Int) : stp H m [y, a, z] = if 1 ≤ y ∧ y ≤ H - 1 then mx m (z - a) else m := rfl
theorem mo_fin (b : Nat → Bool) (y H : Int) (hy : 1 ≤ y ∧ y ≤ H - 1) (m : Int) (hm : 0 ≤ m) : ∀ n, mo b m n = bst H m (fin b y n)
  | 0 => by simp [mo, fin, st, bst]
  | n + 1 => by
    have ih := mo_fin b y H hy m hm n
    have hr := rn_st b y n
    have hb := mo_bd b m hm n
    by_cases h : b n = true
    · by_cases h2 : (st b y n).2 < 0
      · rw [fin_new h h2, bst_snoc, ← ih, stp_row, if_pos hy]
        rw [if_pos h2] at hr
        simp only [mo, rn, if_pos h, hr]
        congr 1; ((try clear ew); (try clear es); (try clear e1); (try clear e2); (try clear ec); omega)
      · rw [fin_more h h2, bst_snoc, stp_row, if_pos hy]
        rw [fin_open h2, bst_snoc, stp_row, if_pos hy] at ih
        rw [if_neg h2] at hr
        simp only [mo, rn, if_pos h, ih, hr, mx_assoc]
        congr 1
        unfold mx; split <;> ((try clear ew); (try clear es); (try clear e1); (try clear e2); (try clear ec); omega)
    · rw [fin_false h, ← ih]
      simp only [mo, rn, if_neg h]
      unfold mx; split <;> ((try clear ew); (try clear es); (try clear e1); (try clear e2); (try clear ec); omega)
def lin (l : List Sq) (w : Nat) (H m : Int) (n : Nat) : Int := bst H m (allL l w n)
theorem fin_bd (b : Nat → Bool) (y : Int) : ∀ n, (∀ r ∈ fin b y n, ∃ a z, r = [y, a, z] ∧ 0 ≤ a ∧ a ≤ n ∧ 0 ≤ z ∧ z ≤ n) ∧ (st b y n).2 ≤ n
  | 0 => by simp [fin, st]
  | n + 1 => by
    obtain ⟨ih, ih2⟩ := fin_bd b y n
    constructor
    · intro r hr
      by_cases h : b n = true
      · by_cases h2 : (st b y n).2 < 0
        · rw [fin_new h h2, List.mem_append] at hr
          rcases hr with hr | hr
          · obtain ⟨a, z, rfl, h1⟩ := ih r hr; exact ⟨a, z, rfl, by ((try clear ew); (try clear es); (try clear e1); (try clear e2); (try clear ec); omega)⟩
          · exact ⟨_, _, List.mem_singleton.1 hr, by ((try clear ew); (try clear es); (try clear e1); (try clear e2); (try clear ec); omega)⟩
        · rw [fin_more h h2, List.mem_append] at hr
          rw [fin_open h2] at ih
          rcases hr with hr | hr
          · obtain ⟨a, z, rfl, h1⟩ := ih r (List.mem_append_left _ hr); exact ⟨a, z, rfl, by ((try clear ew); (try clear es); (try clear e1); (try clear e2); (try clear ec); omega)⟩
          · exact ⟨_, _, List.mem_singleton.1 hr, by ((try clear ew); (try clear es); (try clear e1); (try clear e2); (try clear ec); omega)⟩
      · rw [fin_false h] at hr
        obtain ⟨a, z, rfl, h1⟩ := ih r hr; exact ⟨a, z, rfl, by ((try clear ew); (try clear es); (try clear e1); (try clear e2); (try clear ec); omega)⟩
    · simp only [st]
      split
      · dsimp only; split <;> ((try clear ew); (try clear es); (try clear e1); (try clear e2); (try clear ec); omega)
      · split
        · ((try clear ew); (try clear es); (try clear e1); (try clear e2); (try clear ec); omega)
        · dsimp only; ((try clear ew); (try clear es); (try clear e1); (try clear e2); (try clear ec); omega)
theorem allL_bd (l : List Sq) (w : Nat) : ∀ n, ∀ r ∈ allL l w n, ∃ y a z : Int, r = [y, a, z] ∧ 0 ≤ a ∧ a ≤ w ∧ 0 ≤ z ∧ z ≤ w
  | 0, r, hr => by simp [allL] at hr
  | n + 1, r, hr => by
    simp only [allL, List.mem_append] at hr
    rcases hr with hr | hr
    · exact allL_bd l w n r hr
    · obtain ⟨a, z, rfl, h⟩ := (fin_bd (bAt l (n : Int)) (n : Int) w).1 r hr
      exact ⟨_, a, z, rfl, h⟩
theorem lin_succ (l : List Sq) (w : Nat) (H m : Int) (n : Nat) : lin l w H m (n + 1) = bst H (lin l w H m n) (fin (bAt l (n : Int)) (n : Int) w) := by
  unfold lin bst; rw [allL, List.foldl_append]
theorem bst_out (H m y : Int) (hy : ¬ (1 ≤ y ∧ y ≤ H - 1)) : ∀ L : List (List Int), (∀ r ∈ L, ∃ a z, r = [y, a, z]) → bst H m L = m
  | [], _ => rfl
  | r :: t, h => by
    obtain ⟨a, z, rfl⟩ := h r List.mem_cons_self
    unfold bst
    rw [List.foldl_cons, stp_row, if_neg hy]
    exact bst_out H m y hy t (fun r hr => h r (List.mem_cons_of_mem _ hr))
theorem lin_succ' (l : List Sq) (w : Nat) (H m : Int) (n : Nat) (hm : 0 ≤ lin l w H m n) : lin l w H m (n + 1) = if 1 ≤ (n : Int) ∧ (n : Int) ≤ H - 1 then mo (bAt l (n : Int)) (lin l w H m n) w else lin l w H m n := by
  rw [lin_succ]
  by_cases h : 1 ≤ (n : Int) ∧ (n : Int) ≤ H - 1
  · rw [if_pos h, mo_fin (bAt l (n : Int)) (n : Int) H h _ hm]
  · rw [if_neg h]; exact bst_out H _ (n : Int) h _ (fun r hr => fin_row _ _ _ r hr)
theorem lin_bd (l : List Sq) (w : Nat) (H m : Int) (hm : 0 ≤ m) : ∀ n, 0 ≤ lin l w H m n ∧ lin l w H m n ≤ mx m w
  | 0 => by unfold lin bst allL mx; simp only [List.foldl_nil]; split <;> ((try clear ew); (try clear es); (try clear e1); (try clear e2); (try clear ec); omega)
  | n + 1 => by
    have ih := lin_bd l w H m hm n
    rw [lin_succ' l w H m n ih.1]
    split
    · have := mo_bd (bAt l (n : Int)) (lin l w H m n) ih.1 w
      unfold mx at *
      split at this <;> split at ih <;> split <;> ((try clear ew); (try clear es); (try clear e1); (try clear e2); (try clear ec); omega)
    · exact ih
theorem bst_mx (H : Int) : ∀ (L : List (List Int)) (a m : Int), bst H (mx a m) L = mx a (bst H m L)
  | [], a, m => rfl
  | r :: t, a, m => by
    have ih := bst_mx H t
    unfold bst at ih ⊢
    rw [List.foldl_cons, List.foldl_cons]
    have : stp H (mx a m) r = mx a (stp H m r) := by
      unfold stp; split
      · exact mx_assoc _ _ _
      · rfl
    rw [this]
    exact ih a _
/-! ### the reference's -/
theorem most_eq (a b : Int) : spec_l1Most.f a b = some (mx a b) := by
  unfold spec_l1Most.f mx
  by_cases h : a > b
  · rw [if_pos h]; split <;> simp <;> ((try clear ew); (try clear es); (try clear e1); (try clear e2); (try clear ec); omega)
  · rw [if_neg h]; split <;> simp <;> ((try clear ew); (try clear es); (try clear e1); (try clear e2); (try clear ec); omega)
theorem cl_l2 {W H : Int} {l : List Sq} (hg : Good W H l) (m y run : Int) (hr : 0 ≤ run ∧ run ≤ 1000) (x : Nat) (hx : (x : Int) < W) (R : Int)
    (h : Ev (fun k => spec_cuLine.l1 k (mx m (if crsP l y (x : Int) l.length = true then 0 else run + 1)) y (if crsP l y (x : Int) l.length = true then 0 else run + 1) (wrap64 ((x : Int) + 1)) W H l) R) :
    ∀ (d i : Nat), l.length - i = d → i ≤ l.length → Ev (fun k => spec_cuLine.l2 k m y (if crsP l y (x : Int) i = true then 0 else run + 1) (x : Int) l (l.length : Int) (i : Int) W H l) R := by
  intro d
  have h30 := hg.2.2.1
  have hW := hg.1
  have hH := hg.2.1
  induction d with
  | zero =>
    intro i hd hi
    obtain rfl : i = l.length := by ((try clear ew); (try clear es); (try clear e1); (try clear e2); (try clear ec); omega)
    refine Ev.succ ?_
    simp only [spec_cuLine.l2]
    exact Ev.neg (by ((try clear ew); (try clear es); (try clear e1); (try clear e2); (try clear ec); omega)) (Ev.bindc (most_eq _ _) h)
  | succ d ih =>
    intro i hd hi
    have hok := (hg.2.2.2.1 i (by ((try clear ew); (try clear es); (try clear e1); (try clear e2); (try clear ec); omega))).1
    unfold Ins at hok
    have hn := ih (i + 1) (by ((try clear ew); (try clear es); (try clear e1); (try clear e2); (try clear ec); omega)) (by ((try clear ew); (try clear es); (try clear e1); (try clear e2); (try clear ec); omega))
    have ew : wrap64 ((i : Int) + 1) = ((i + 1 : Nat) : Int) := by rw [wrap64_id (by ((try clear ew); (try clear es); (try clear e1); (try clear e2); (try clear ec); omega)) (by ((try clear ew); (try clear es); (try clear e1); (try clear e2); (try clear ec); omega))]; ((try clear ew); (try clear es); (try clear e1); (try clear e2); (try clear ec); omega)
    have es : wrap64 (wrap64 ((sqAt l i).f0 + (sqAt l i).f2) - 1) = (sqAt l i).f0 + (sqAt l i).f2 - 1 := by
      rw [wrap64_id (n := (sqAt l i).f0 + (sqAt l i).f2) (by ((try clear ew); (try clear es); (try clear e1); (try clear e2); (try clear ec); omega)) (by ((try clear ew); (try clear es); (try clear e1); (try clear e2); (try clear ec); omega)), wrap64_id (by ((try clear ew); (try clear es); (try clear e1); (try clear e2); (try clear ec); omega)) (by ((try clear ew); (try clear es); (try clear e1); (try clear e2); (try clear ec); omega))]
    have no : ¬ (((sqAt l i).f1 < y ∧ y < (sqAt l i).f1 + (sqAt l i).f2) ∧ (sqAt l i).f0 ≤ (x : Int) ∧ (x : Int) < (sqAt l i).f0 + (sqAt l i).f2) → Ev (fun k => spec_cuLine.l2 k m y (if crsP l y (x : Int) i = true then 0 else run + 1) (x : Int) l (l.length : Int) ((i + 1 : Nat) : Int) W H l) R := fun hno => by
      rw [crsP, decide_eq_false hno, Bool.or_false] at hn; exact hn
    refine Ev.succ ?_
    simp only [spec_cuLine.l2, rd_sq, ew]
    rw [wrap64_id (n := (sqAt l i).f1 + (sqAt l i).f2) (by ((try clear ew); (try clear es); (try clear e1); (try clear e2); (try clear ec); omega)) (by ((try clear ew); (try clear es); (try clear e1); (try clear e2); (try clear ec); omega))]
    refine Ev.pos (by ((try clear ew); (try clear es); (try clear e1); (try clear e2); (try clear ec); omega)) (Ev.pos (by ((try clear ew); (try clear es); (try clear e1); (try clear e2); (try clear ec); omega)) (Ev.pos (by ((try clear ew); (try clear es); (try clear e1); (try clear e2); (try clear ec); omega)) ?_))
    by_cases c1 : (sqAt l i).f1 < y
    · refine Ev.pos c1 ?_
      by_cases c2 : y < (sqAt l i).f1 + (sqAt l i).f2
      · refine Ev.pos c2 (Ev.bindc (l1In_eq _ _ _) ?_)
        rw [es]
        by_cases c3 : (sqAt l i).f0 ≤ (x : Int) ∧ (x : Int) ≤ (sqAt l i).f0 + (sqAt l i).f2 - 1
        · rw [decide_eq_true c3]
          rw [crsP, decide_eq_true (show ((sqAt l i).f1 < y ∧ y < (sqAt l i).f1 + (sqAt l i).f2) ∧ (sqAt l i).f0 ≤ (x : Int) ∧ (x : Int) < (sqAt l i).f0 + (sqAt l i).f2 by ((try clear ew); (try clear es); (try clear e1); (try clear e2); (try clear ec); omega)), Bool.or_true, if_pos rfl] at hn
          exact Ev.pos rfl hn
        · rw [decide_eq_false c3]
          exact Ev.neg (by decide) (no (by ((try clear ew); (try clear es); (try clear e1); (try clear e2); (try clear ec); omega)))
      · exact Ev.neg c2 (no (by ((try clear ew); (try clear es); (try clear e1); (try clear e2); (try clear ec); omega)))
    · exact Ev.neg c1 (no (by ((try clear ew); (try clear es); (try clear e1); (try clear e2); (try clear ec); omega)))
theorem cl_l1 {W H : Int} {l : List Sq} (hg : Good W H l) (w : Nat) (hw : (w : Int) = W) (y m : Int) (R : Int) (b : Nat → Bool) (hb : ∀ x, x < w → b x = !crsP l y (x : Int) l.length)
    (h : Ev (fun k => spec_cuLine.l0 k (mo b m w) (wrap64 (y + 1)) W H l) R) :
    ∀ (d n : Nat), w - n = d → n ≤ w → Ev (fun k => spec_cuLine.l1 k (mo b m n) y (rn b n) (n : Int) W H l) R := by
  intro d
  have hW := hg.1
  induction d with
  | zero =>
    intro n hd hn
    obtain rfl : n = w := by ((try clear ew); (try clear es); (try clear e1); (try clear e2); (try clear ec); omega)
    refine Ev.succ ?_
    simp only [spec_cuLine.l1]
    exact Ev.neg (by ((try clear ew); (try clear es); (try clear e1); (try clear e2); (try clear ec); omega)) h
  | succ d ih =>
    intro n hd hn
    have hnx := ih (n + 1) (by ((try clear ew); (try clear es); (try clear e1); (try clear e2); (try clear ec); omega)) (by ((try clear ew); (try clear es); (try clear e1); (try clear e2); (try clear ec); omega))
    have hr := rn_bd b n
    have ew : wrap64 ((n : Int) + 1) = ((n + 1 : Nat) : Int) := by rw [wrap64_id (by ((try clear ew); (try clear es); (try clear e1); (try clear e2); (try clear ec); omega)) (by ((try clear ew); (try clear es); (try clear e1); (try clear e2); (try clear ec); omega))]; ((try clear ew); (try clear es); (try clear e1); (try clear e2); (try clear ec); omega)
    refine Ev.succ ?_
    simp only [spec_cuLine.l1]
    rw [wrap64_id (n := rn b n + 1) (by ((try clear ew); (try clear es); (try clear e1); (try clear e2); (try clear ec); omega)) (by ((try clear ew); (try clear es); (try clear e1); (try clear e2); (try clear ec); omega))]
    refine Ev.pos (by ((try clear ew); (try clear es); (try clear e1); (try clear e2); (try clear ec); omega)) ?_
    have := cl_l2 hg (mo b m n) y (rn b n) (by ((try clear ew); (try clear es); (try clear e1); (try clear e2); (try clear ec); omega)) n (by ((try clear ew); (try clear es); (try clear e1); (try clear e2); (try clear ec); omega)) R (by
      have e : (if crsP l y (n : Int) l.length = true then (0 : Int) else rn b n + 1) = rn b (n + 1) := by
        simp only [rn, hb n (by ((try clear ew); (try clear es); (try clear e1); (try clear e2); (try clear ec); omega))]
        by_cases c : crsP l y (n : Int) l.length = true
        · rw [c]; rfl
        · rw [Bool.eq_false_iff.2 c]; rfl
      rw [e, ew]
      exact hnx) l.length 0 (by ((try clear ew); (try clear es); (try clear e1); (try clear e2); (try clear ec); omega)) (by ((try clear ew); (try clear es); (try clear e1); (try clear e2); (try clear ec); omega))
    simpa [crsP] using this
theorem cl_l0 {W H : Int} {l : List Sq} (hg : Good W H l) (w h : Nat) (hw : (w : Int) = W) (hh : (h : Int) = H) :
    ∀ (d y : Nat), h - y = d → 1 ≤ y → y ≤ h → Ev (fun k => spec_cuLine.l0 k (lin l w H 0 y) (y : Int) W H l) (lin l w H 0 h) := by
  intro d
  have hW := hg.1
  have hH := hg.2.1
  induction d with
  | zero =>
    intro y hd hy hy2
    obtain rfl : y = h := by ((try clear ew); (try clear es); (try clear e1); (try clear e2); (try clear ec); omega)
    refine Ev.succ ?_
    simp only [spec_cuLine.l0]
    exact Ev.neg (by ((try clear ew); (try clear es); (try clear e1); (try clear e2); (try clear ec); omega)) (Ev.now _)
  | succ d ih =>
    intro y hd hy hy2
    have hnx := ih (y + 1) (by ((try clear ew); (try clear es); (try clear e1); (try clear e2); (try clear ec); omega)) (by ((try clear ew); (try clear es); (try clear e1); (try clear e2); (try clear ec); omega)) (by ((try clear ew); (try clear es); (try clear e1); (try clear e2); (try clear ec); omega))
    rw [lin_succ' l w H 0 y (lin_bd l w H 0 (by ((try clear ew); (try clear es); (try clear e1); (try clear e2); (try clear ec); omega)) y).1, if_pos (by ((try clear ew); (try clear es); (try clear e1); (try clear e2); (try clear ec); omega))] at hnx
    refine Ev.succ ?_
    simp only [spec_cuLine.l0]
    refine Ev.pos (by ((try clear ew); (try clear es); (try clear e1); (try clear e2); (try clear ec); omega)) ?_
    exact cl_l1 hg w hw (y : Int) (lin l w H 0 y) (lin l w H 0 h) (bAt l (y : Int)) (fun x hx => bAt_free hg (y : Int) (by ((try clear ew); (try clear es); (try clear e1); (try clear e2); (try clear ec); omega)) x (by ((try clear ew); (try clear es); (try clear e1); (try clear e2); (try clear ec); omega))) (by
      rw [wrap64_id (by ((try clear ew); (try clear es); (try clear e1); (try clear e2); (try clear ec); omega)) (by ((try clear ew); (try clear es); (try clear e1); (try clear e2); (try clear ec); omega))]
      have e : ((y + 1 : Nat) : Int) = (y : Int) + 1 := by ((try clear ew); (try clear es); (try clear e1); (try clear e2); (try clear ec); omega)
      rw [e] at hnx
      exact hnx) w 0 (by ((try clear ew); (try clear es); (try clear e1); (try clear e2); (try clear ec); omega)) (by ((try clear ew); (try clear es); (try clear e1); (try clear e2); (try clear ec); omega))
theorem lin_one (l : List Sq) (w : Nat) (H m : Int) (hm : 0 ≤ m) : lin l w H m 1 = m := by
  rw [lin_succ' l w H m 0 (by unfold lin bst allL; simpa using hm), if_neg (by simp)]
  rfl
theorem spec_line_ev {W H : Int} {l : List Sq} (hg : Good W H l) : Ev (fun k => spec_cuLine.f k W H l) (lin l W.toNat H 0 (H.toNat + 1)) := by
  have hW := hg.1
  have hH := hg.2.1
  have := cl_l0 hg W.toNat H.toNat (by ((try clear ew); (try clear es); (try clear e1); (try clear e2); (try clear ec); omega)) (by ((try clear ew); (try clear es); (try clear e1); (try clear e2); (try clear ec); omega)) (H.toNat - 1) 1 (by ((try clear ew); (try clear es); (try clear e1); (try clear e2); (try clear ec); omega)) (by ((try clear ew); (try clear es); (try clear e1); (try clear e2); (try clear ec); omega)) (by ((try clear ew); (try clear es); (try clear e1); (try clear e2); (try clear ec); omega))
  rw [lin_one _ _ _ _ (by ((try clear ew); (try clear es); (try clear e1); (try clear e2); (try clear ec); omega))] at this
  unfold spec_cuLine.f
  rw [lin_succ' l W.toNat H 0 H.toNat (lin_bd l W.toNat H 0 (by ((try clear ew); (try clear es); (try clear e1); (try clear e2); (try clear ec); omega)) H.toNat).1, if_neg (by ((try clear ew); (try clear es); (try clear e1); (try clear e2); (try clear ec); omega))]
  exact this
/-! ### the program's -/
theorem ll_l1 (m : Int) (hm : 0 ≤ m ∧ m ≤ 1000) (C : List (S31)) (nC iC W H : Int) (hH : 1 ≤ H ∧ H ≤ 500) (l : List Sq) (L : List (List Int)) (hL : L.length ≤ 1000000) (hr : ∀ r ∈ L, ∃ y a z : Int, r = [y, a, z] ∧ 0 ≤ a ∧ a ≤ 500 ∧ 0 ≤ z ∧ z ≤ 500) (R : Int)
    (h : Ev (fun k => impl_Cut_longestLine.l0 k (bst H m L) C nC (wrap64 (iC + 1))) R) :
    ∀ (t D : List (List Int)), L = D ++ t → Ev (fun k => impl_Cut_longestLine.l1 k (bst H m D) C nC iC L (L.length : Int) (D.length : Int) W H l) R
  | [], D, e => by
    refine Ev.succ ?_
    simp only [impl_Cut_longestLine.l1]
    rw [List.append_nil] at e
    subst e
    exact Ev.neg (by ((try clear ew); (try clear es); (try clear e1); (try clear e2); (try clear ec); omega)) h
  | r :: t, D, e => by
    obtain ⟨y, a, z, er, h1⟩ := hr r (by rw [e]; simp)
    have hlen : L.length = D.length + (t.length + 1) := by rw [e]; simp
    have hrd : rd_L5 L (D.length : Int) = r := by unfold rd_L5; rw [Int.toNat_natCast, e]; simp [List.getD]
    have hn := ll_l1 m hm C nC iC W H hH l L hL hr R h t (D ++ [r]) (by rw [e]; simp)
    rw [bst_snoc, er, stp_row] at hn
    simp only [List.length_append, List.length_singleton, Int.natCast_add, Int.natCast_one] at hn
    refine Ev.succ ?_
    simp only [impl_Cut_longestLine.l1, hrd, er]
    rw [wrap64_id (n := H - 1) (by ((try clear ew); (try clear es); (try clear e1); (try clear e2); (try clear ec); omega)) (by ((try clear ew); (try clear es); (try clear e1); (try clear e2); (try clear ec); omega)), wrap64_id (n := (D.length : Int) + 1) (by ((try clear ew); (try clear es); (try clear e1); (try clear e2); (try clear ec); omega)) (by ((try clear ew); (try clear es); (try clear e1); (try clear e2); (try clear ec); omega))]
    refine Ev.pos (by ((try clear ew); (try clear es); (try clear e1); (try clear e2); (try clear ec); omega)) (Ev.pos (by ((try clear ew); (try clear es); (try clear e1); (try clear e2); (try clear ec); omega)) (Ev.pos (by ((try clear ew); (try clear es); (try clear e1); (try clear e2); (try clear ec); omega)) (Ev.pos (by simp) (Ev.bindc (within_eq _ _ _) ?_))))
    show Ev (fun k => if decide (1 ≤ y ∧ y ≤ H - 1) = true then (if 2 < (([y, a, z] : List Int).length : Int) then (if 1 < (([y, a, z] : List Int).length : Int) then impl_Cut_longestLine.l1 k (mx (bst H m D) (wrap64 (z - a))) C nC iC L (L.length : Int) ((D.length : Int) + 1) W H l else none) else none) else impl_Cut_longestLine.l1 k (bst H m D) C nC iC L (L.length : Int) ((D.length : Int) + 1) W H l) R
    rw [wrap64_id (n := z - a) (by ((try clear ew); (try clear es); (try clear e1); (try clear e2); (try clear ec); omega)) (by ((try clear ew); (try clear es); (try clear e1); (try clear e2); (try clear ec); omega))]
    by_cases c : 1 ≤ y ∧ y ≤ H - 1
    · rw [if_pos c] at hn
      exact Ev.pos (decide_eq_true c) (Ev.pos (by simp) (Ev.pos (by simp) hn))
    · rw [if_neg c] at hn
      exact Ev.neg (by simpa using c) hn
theorem both_ev (W H : Int) (l : List Sq) : ∃ B : Int × Bool, Ev (fun k => spec_LongestLine.f k W H l) B ∧ Ev (fun k => impl_LongestLine.f k W H l) B := by
  by_cases h : Good W H l
  · have hl := h.2.2.1.2
    have hW := h.1
    have hH := h.2.1
    obtain ⟨R, hs, hp, hev⟩ := cuSorted_ev (l.map (tur H)) (by rw [List.length_map]; ((try clear ew); (try clear es); (try clear e1); (try clear e2); (try clear ec); omega))
    obtain ⟨R', hf, hp', hs'⟩ := sortF_spec (l.map (tur H)) (fun s hq => by
      obtain ⟨p, hpl, rfl⟩ := List.mem_map.1 hq
      exact tur_bd h.1.2 h.2.1.2 (good_in h hpl)) (by rw [List.length_map]; ((try clear ew); (try clear es); (try clear e1); (try clear e2); (try clear ec); omega))
    obtain rfl : R' = R := eq_of_sorted (tur_dist h) hp' hp hs' hs
    have hg' := tur_good h hp hs
    have b1 := lin_bd l W.toNat H 0 (by ((try clear ew); (try clear es); (try clear e1); (try clear e2); (try clear ec); omega)) (H.toNat + 1)
    have b1' : lin l W.toNat H 0 (H.toNat + 1) ≤ 500 := by have := b1.2; unfold mx at this; split at this <;> ((try clear ew); (try clear es); (try clear e1); (try clear e2); (try clear ec); omega)
    refine ⟨(mx (lin l W.toNat H 0 (H.toNat + 1)) (lin R' H.toNat W 0 (W.toNat + 1)), true), ?_, ?_⟩
    · unfold spec_LongestLine.f
      refine Ev.bind (spec_cuGood_ev W H l) (Ev.pos (by simpa using h) (Ev.bind (spec_line_ev h) (Ev.bind (a := (H, W, R')) ?_ (Ev.bind (spec_line_ev hg') (Ev.bindc (most_eq _ _) (Ev.now _))))))
      exact spec_tur_loop W H l (by ((try clear ew); (try clear es); (try clear e1); (try clear e2); (try clear ec); omega)) R' hev l 0 rfl (by ((try clear ew); (try clear es); (try clear e1); (try clear e2); (try clear ec); omega))
    · unfold impl_LongestLine.f impl_Cut_longestLine.f impl_Cut_turned.f
      refine Ev.bind (impl_IsCut_ev W H l) (Ev.pos (by simpa using h) (Ev.bind (a := mx (lin l W.toNat H 0 (H.toNat + 1)) (lin R' H.toNat W 0 (W.toNat + 1))) ?_ (Ev.now _)))
      refine Ev.bind (a := (H, W, R')) (Ev.bind (a := (H, W, R')) (impl_tur_loop W H l (by ((try clear ew); (try clear es); (try clear e1); (try clear e2); (try clear ec); omega)) R' hf l 0 rfl (by ((try clear ew); (try clear es); (try clear e1); (try clear e2); (try clear ec); omega))) (Ev.now _)) (Ev.bindc rfl ?_)
      have a1 := allL_len l W.toNat (H.toNat + 1)
      have a1' : (H.toNat + 1) * W.toNat ≤ 501 * 500 := Nat.mul_le_mul (by ((try clear ew); (try clear es); (try clear e1); (try clear e2); (try clear ec); omega)) (by ((try clear ew); (try clear es); (try clear e1); (try clear e2); (try clear ec); omega))
      have a2 := allL_len R' H.toNat (W.toNat + 1)
      have a2' : (W.toNat + 1) * H.toNat ≤ 501 * 500 := Nat.mul_le_mul (by ((try clear ew); (try clear es); (try clear e1); (try clear e2); (try clear ec); omega)) (by ((try clear ew); (try clear es); (try clear e1); (try clear e2); (try clear ec); omega))
      refine Ev.succ ?_
      simp only [impl_Cut_longestLine.l0]
      refine Ev.pos (by simp) (Ev.pos (by ((try clear ew); (try clear es); (try clear e1); (try clear e2); (try clear ec); omega)) (Ev.pos (by simp) (Ev.bind (impl_across_ev h) ?_)))
      have f2 : Ev (fun k => impl_Cut_longestLine.l0 k (bst H 0 (allL l W.toNat (H.toNat + 1))) [(⟨W, H, l⟩ : S31), (⟨H, W, R'⟩ : S31)] (([(⟨W, H, l⟩ : S31), (⟨H, W, R'⟩ : S31)] : List (S31)).length : Int) (wrap64 (0 + 1))) (mx (lin l W.toNat H 0 (H.toNat + 1)) (lin R' H.toNat W 0 (W.toNat + 1))) := by
        rw [show wrap64 (0 + 1) = 1 from by rw [wrap64_id (by omega) (by omega)]; rfl]
        refine Ev.succ ?_
        simp only [impl_Cut_longestLine.l0]
        refine Ev.pos (by simp) (Ev.pos (by ((try clear ew); (try clear es); (try clear e1); (try clear e2); (try clear ec); omega)) (Ev.pos (by simp) (Ev.bind (impl_across_ev hg') ?_)))
        refine ll_l1 (bst H 0 (allL l W.toNat (H.toNat + 1))) (by unfold lin at b1 b1'; ((try clear ew); (try clear es); (try clear e1); (try clear e2); (try clear ec); omega)) _ _ _ _ _ hW _ (allL R' H.toNat (W.toNat + 1)) (by ((try clear ew); (try clear es); (try clear e1); (try clear e2); (try clear ec); omega)) (fun r hr => ?_) _ ?_ (allL R' H.toNat (W.toNat + 1)) [] rfl
        · obtain ⟨y, a, z, e, hb⟩ := allL_bd R' H.toNat (W.toNat + 1) r hr
          exact ⟨y, a, z, e, by ((try clear ew); (try clear es); (try clear e1); (try clear e2); (try clear ec); omega)⟩
        · rw [show wrap64 (1 + 1) = 2 from by rw [wrap64_id (by omega) (by omega)]; rfl]
          refine Ev.succ ?_
          simp only [impl_Cut_longestLine.l0]
          refine Ev.neg (by simp) (Ev.eqr (Ev.now _) ?_)
          show bst W (bst H 0 (allL l W.toNat (H.toNat + 1))) (allL R' H.toNat (W.toNat + 1)) = _
          have e0 : bst H 0 (allL l W.toNat (H.toNat + 1)) = mx (lin l W.toNat H 0 (H.toNat + 1)) 0 := by
            show lin l W.toNat H 0 (H.toNat + 1) = _
            unfold mx; split <;> ((try clear ew); (try clear es); (try clear e1); (try clear e2); (try clear ec); omega)
          rw [e0, bst_mx]
          rfl
      refine ll_l1 0 (by ((try clear ew); (try clear es); (try clear e1); (try clear e2); (try clear ec); omega)) _ _ _ _ _ hH _ (allL l W.toNat (H.toNat + 1)) (by ((try clear ew); (try clear es); (try clear e1); (try clear e2); (try clear ec); omega)) (fun r hr => ?_) _ f2 (allL l W.toNat (H.toNat + 1)) [] rfl
      obtain ⟨y, a, z, e, hb⟩ := allL_bd l W.toNat (H.toNat + 1) r hr
      exact ⟨y, a, z, e, by ((try clear ew); (try clear es); (try clear e1); (try clear e2); (try clear ec); omega)⟩
  · refine ⟨(0, false), ?_, ?_⟩
    · unfold spec_LongestLine.f
      exact Ev.bind (spec_cuGood_ev W H l) (Ev.neg (by simpa using h) (Ev.now _))
    · unfold impl_LongestLine.f
      exact Ev.bind (impl_IsCut_ev W H l) (Ev.neg (by simpa using h) (Ev.now _))
theorem FnExactLongestLine : laws_FnExactLongestLine.Pure := by
  intro W H l _ _ hm _
  refine Ev.rounds (g := fun k => laws_FnExactLongestLine.f k W H l) ?_
  unfold laws_FnExactLongestLine.f
  refine Ev.bindc (szCut_eq W H l hm) ?_
  by_cases h : l.length ≤ 1048576
  · rw [if_pos h]
    obtain ⟨⟨R1, R2⟩, hs, hi⟩ := both_ev W H (l.map conv)
    have hc : (l.map conv).length ≤ 1099511627776 := by simp; ((try clear ew); (try clear es); (try clear e1); (try clear e2); (try clear ec); omega)
    refine Ev.neg (by ((try clear ew); (try clear es); (try clear e1); (try clear e2); (try clear ec); omega)) (Ev.bind (toCut_ev W H l h) (Ev.bind hs (Ev.bind (toCut_ev W H l h) (Ev.bind hi (Ev.pos rfl (Ev.succ ?_))))))
    simp only [laws_FnExactLongestLine.j0]
    refine Ev.neg (by simp) (Ev.bind (toCut_ev W H l h) (Ev.bind (eqCut_ev W H _ hc) (Ev.pos rfl (Ev.now _))))
  · rw [if_neg h]
    exact Ev.pos (by ((try clear ew); (try clear es); (try clear e1); (try clear e2); (try clear ec); omega)) (Ev.now _)

end Go.Proofs.Ytocblinaclehdaa.Pure
