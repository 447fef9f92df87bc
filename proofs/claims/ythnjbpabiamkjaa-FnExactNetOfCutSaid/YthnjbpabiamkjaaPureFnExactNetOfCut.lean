/- The program's NetOfCut and the reference's return the same for all arguments: each square is a wire from the first line above it to the first line below it, and there are such lines. -/
import Derived.Test.YthnjbpabiamkjaaPFnExactNetOfCutx11
import Derived.Test.YthnjbpabiamkjaaPFnExactNetOfCutx0
import Derived.Test.YthnjbpabiamkjaaPFnExactNetOfCutx1
import Derived.Test.YthnjbpabiamkjaaPFnExactNetOfCutx2
import Derived.Test.YthnjbpabiamkjaaPFnExactNetOfCutx3
import Derived.Test.YthnjbpabiamkjaaPFnExactNetOfCutx4
import Derived.Test.YthnjbpabiamkjaaPFnExactNetOfCutx5
import Derived.Test.YthnjbpabiamkjaaPFnExactNetOfCutx6
import Derived.Test.YthnjbpabiamkjaaPFnExactNetOfCutx7
import Derived.Test.YthnjbpabiamkjaaPFnExactNetOfCutx8
import Derived.Test.YthnjbpabiamkjaaPFnExactNetOfCutx9
import Derived.Test.YthnjbpabiamkjaaPFnExactNetOfCutx10
import Derived.Test.YthnjbpabiamkjaaWGuardMoreInvWords
namespace Go.Proofs.Ythnjbpabiamkjaa.Pure
open Go.RowKit Go.Proofs.Ythnjbpabiamkjaa.PFnExactNetOfCut Go.Proofs.YthnjbpabiamkjaaW.PrintWords Go.Proofs.YthnjbpabiamkjaaW.PrintLast Go.Proofs.YthnjbpabiamkjaaW.PrintMore Go.Proofs.YthnjbpabiamkjaaW.Evs
set_option linter.unusedVariables false
set_option linter.unusedSimpArgs false
/-! ### a cut: what the program's IsCut and the reference's cuGood answer -/
abbrev Sq := S73
def sqAt (l : List Sq) (j : Nat) : Sq := l.getD j z73
theorem rd_sq (l : List Sq) (j : Nat) : rd_T73 l (j : Int) = sqAt l j := by unfold rd_T73 sqAt; rw [Int.toNat_natCast]
theorem sqAt_get (l : List Sq) (j : Nat) (h : j < l.length) : sqAt l j = l[j] := by unfold sqAt; simp [List.getD, h]
theorem sqAt_mem (l : List Sq) (j : Nat) (h : j < l.length) : sqAt l j ∈ l := by rw [sqAt_get l j h]; exact List.getElem_mem h
/-- a square lies in the rectangle -/
def Ins (W H : Int) (s : Sq) : Prop := 1 ≤ s.f2 ∧ 0 ≤ s.f0 ∧ s.f0 + s.f2 ≤ W ∧ 0 ≤ s.f1 ∧ s.f1 + s.f2 ≤ H
instance (W H : Int) (s : Sq) : Decidable (Ins W H s) := by unfold Ins; infer_instance
def Less (a b : Sq) : Prop := a.f1 < b.f1 ∨ a.f1 = b.f1 ∧ a.f0 < b.f0
instance (a b : Sq) : Decidable (Less a b) := by unfold Less; infer_instance
def Ovl (a b : Sq) : Prop := a.f0 < b.f0 + b.f2 ∧ b.f0 < a.f0 + a.f2 ∧ a.f1 < b.f1 + b.f2 ∧ b.f1 < a.f1 + a.f2
instance (a b : Sq) : Decidable (Ovl a b) := by unfold Ovl; infer_instance
def OkAt (W H : Int) (l : List Sq) (i : Nat) : Prop := Ins W H (sqAt l i) ∧ (0 < i → Less (sqAt l (i - 1)) (sqAt l i)) ∧ ∀ j, j < i → ¬ Ovl (sqAt l i) (sqAt l j)
instance (W H : Int) (l : List Sq) (i : Nat) : Decidable (OkAt W H l i) := by unfold OkAt; infer_instance
def areaTo (l : List Sq) : Nat → Int
  | 0 => 0
  | n + 1 => areaTo l n + (sqAt l n).f2 * (sqAt l n).f2
/-- a width, a height and squares are a cut -/
def Good (W H : Int) (l : List Sq) : Prop := (1 ≤ W ∧ W ≤ 500) ∧ (1 ≤ H ∧ H ≤ 500) ∧ (1 ≤ l.length ∧ l.length ≤ 30) ∧ (∀ i, i < l.length → OkAt W H l i) ∧ areaTo l l.length = W * H
instance (W H : Int) (l : List Sq) : Decidable (Good W H l) := by unfold Good; infer_instance

theorem within_eq (a b c : Int) : impl_within.f a b c = some (decide (b ≤ a ∧ a ≤ c)) := by
  unfold impl_within.f
  by_cases h : b ≤ a
  · rw [if_pos h]; simp [h]
  · rw [if_neg h]; simp [h]
theorem isWide_eq (a : Int) : impl_isWide.f a = some (decide (1 ≤ a ∧ a ≤ 500)) := by
  unfold impl_isWide.f; rw [within_eq]; rfl
theorem l1In_eq (a b c : Int) : spec_l1In.f a b c = some (decide (b ≤ a ∧ a ≤ c)) := by
  unfold spec_l1In.f
  by_cases h : b ≤ a
  · rw [if_pos h]; simp [h]
  · rw [if_neg h]; simp [h]
theorem areaTo_bd (W H : Int) (l : List Sq) (hW : W ≤ 500) (hH : H ≤ 500) : ∀ n, n ≤ 30 → (∀ m, m < n → Ins W H (sqAt l m)) → 0 ≤ areaTo l n ∧ areaTo l n ≤ n * 250000
  | 0, _, _ => by simp [areaTo]
  | n + 1, hn, h => by
    obtain ⟨h1, h2⟩ := areaTo_bd W H l hW hH n (by omega) (fun m hm => h m (by omega))
    have hi := h n (by omega)
    unfold Ins at hi
    have q1 : 0 ≤ (sqAt l n).f2 * (sqAt l n).f2 := Int.mul_nonneg (by omega) (by omega)
    have q2 : (sqAt l n).f2 * (sqAt l n).f2 ≤ 500 * 500 := Int.mul_le_mul (by omega) (by omega) (by omega) (by omega)
    simp only [areaTo]
    omega
theorem sq_bd {W H : Int} {s : Sq} (hW : W ≤ 500) (hH : H ≤ 500) (h : Ins W H s) : 0 ≤ s.f2 * s.f2 ∧ s.f2 * s.f2 ≤ 250000 := by
  unfold Ins at h
  have q1 : 0 ≤ s.f2 * s.f2 := Int.mul_nonneg (by omega) (by omega)
  have q2 : s.f2 * s.f2 ≤ 500 * 500 := Int.mul_le_mul (by omega) (by omega) (by omega) (by omega)
  omega

theorem compare_eq {W H : Int} {a b : Sq} (hW : W ≤ 500) (hH : H ≤ 500) (ha : Ins W H a) (hb : Ins W H b) :
    ∃ c, impl_comparePlaces.f a.f0 a.f1 a.f2 b.f0 b.f1 b.f2 = some c ∧ (c < 0 ↔ Less a b) := by
  unfold Ins at ha hb
  unfold impl_comparePlaces.f Less
  by_cases e : a.f1 = b.f1
  · rw [if_pos e]; exact ⟨_, rfl, by rw [wrap64_id (by omega) (by omega)]; omega⟩
  · rw [if_neg e]; exact ⟨_, rfl, by rw [wrap64_id (by omega) (by omega)]; omega⟩
theorem overlap_eq {W H : Int} {a b : Sq} (hW : W ≤ 500) (hH : H ≤ 500) (ha : Ins W H a) (hb : Ins W H b) :
    impl_overlap.f a.f0 a.f1 a.f2 b.f0 b.f1 b.f2 = some (decide (Ovl a b)) := by
  unfold Ins at ha hb
  unfold impl_overlap.f Ovl
  rw [wrap64_id (by omega) (by omega), wrap64_id (by omega) (by omega), wrap64_id (by omega) (by omega), wrap64_id (by omega) (by omega)]
  by_cases h1 : a.f0 < b.f0 + b.f2
  · by_cases h2 : b.f0 < a.f0 + a.f2
    · by_cases h3 : a.f1 < b.f1 + b.f2
      · simp [h1, h2, h3]
      · simp [h1, h2, h3]
    · simp [h1, h2]
  · simp [h1]
theorem less_eq (a b : Sq) : spec_cuLess.f a.f0 a.f1 a.f2 b.f0 b.f1 b.f2 = some (decide (Less a b)) := by
  unfold spec_cuLess.f Less
  by_cases h1 : a.f1 < b.f1
  · rw [if_pos h1]; simp [h1]
  · rw [if_neg h1]
    by_cases h2 : a.f1 = b.f1
    · rw [if_pos h2]; simp [h2]
    · rw [if_neg h2]; simp [h1, h2]

/-! the program's own -/
theorem contains_eq {W H : Int} {l : List Sq} (hW : W ≤ 500) (hH : H ≤ 500) (i : Nat) (hi : i < l.length) (h : ∀ m, m ≤ i → Ins W H (sqAt l m)) :
    slices_ContainsFunc_impl_Square_impl_Square__impl_IsCut_1.f (l.take i) (sqAt l i).f0 (sqAt l i).f1 (sqAt l i).f2 = some (decide (∃ j, j < i ∧ Ovl (sqAt l i) (sqAt l j))) := by
  unfold slices_ContainsFunc_impl_Square_impl_Square__impl_IsCut_1.f
  congr 1
  rw [Bool.eq_iff_iff, List.any_eq_true, decide_eq_true_eq]
  constructor
  · rintro ⟨t, ht, hp⟩
    obtain ⟨j, hj⟩ := List.getElem?_of_mem ht
    have hj1 : j < (l.take i).length := (List.getElem?_eq_some_iff.1 hj).1
    have hj2 : j < i := by simp at hj1; omega
    have e : t = sqAt l j := by
      rw [List.getElem?_take_of_lt hj2, List.getElem?_eq_getElem (by omega)] at hj
      rw [sqAt_get l j (by omega)]; exact (Option.some.inj hj).symm
    subst e
    rw [overlap_eq hW hH (h i (Nat.le_refl _)) (h j (by omega))] at hp
    exact ⟨j, hj2, by simpa using hp⟩
  · rintro ⟨j, hj, ho⟩
    refine ⟨sqAt l j, ?_, ?_⟩
    · rw [sqAt_get l j (by omega)]
      exact List.mem_take_iff_getElem.2 ⟨j, by omega, rfl⟩
    · rw [overlap_eq hW hH (h i (Nat.le_refl _)) (h j (by omega))]; simpa using ho

theorem okFrom_step (W H : Int) (l : List Sq) (i : Nat) : (∀ m, i ≤ m → m < l.length → OkAt W H l m) ↔ (i < l.length → OkAt W H l i) ∧ (∀ m, i + 1 ≤ m → m < l.length → OkAt W H l m) :=
  ⟨fun h => ⟨fun hi => h i (Nat.le_refl _) hi, fun m h1 h2 => h m (by omega) h2⟩, fun ⟨h1, h2⟩ m h3 h4 => by
    by_cases e : i = m
    · subst e; exact h1 h4
    · exact h2 m (by omega) h4⟩

theorem impl_loop {W H : Int} {l : List Sq} (hW : 1 ≤ W ∧ W ≤ 500) (hH : 1 ≤ H ∧ H ≤ 500) (hl : l.length ≤ 30) : ∀ (d i : Nat), l.length - i = d → i ≤ l.length → (∀ m, m < i → OkAt W H l m) →
    ∀ r : Bool, (r = true ↔ (∀ m, i ≤ m → m < l.length → OkAt W H l m) ∧ areaTo l l.length = W * H) → Ev (fun k => impl_IsCut.l0 k (areaTo l i) l (l.length : Int) (i : Int) W H l) r := by
  intro d
  induction d with
  | zero =>
    intro i hd hi hok r hr
    obtain rfl : i = l.length := by omega
    have bd := areaTo_bd W H l hW.2 hH.2 l.length hl (fun m hm => (hok m hm).1)
    have w1 : W * H ≤ 500 * 500 := Int.mul_le_mul (by omega) (by omega) (by omega) (by omega)
    have w0 : 0 ≤ W * H := Int.mul_nonneg (by omega) (by omega)
    refine Ev.succ ?_
    simp only [impl_IsCut.l0]
    refine Ev.neg (by omega) ?_
    rw [wrap64_id (by omega) (by omega)]
    refine Ev.eqr (Ev.now _) ?_
    rw [Bool.eq_iff_iff, hr, beq_iff_eq]
    exact ⟨fun h => ⟨fun m h1 h2 => by omega, h⟩, fun h => h.2⟩
  | succ d ih =>
    intro i hd hi hok r hr
    have hlt : i < l.length := by omega
    rw [okFrom_step] at hr
    refine Ev.succ ?_
    simp only [impl_IsCut.l0, rd_sq]
    refine Ev.pos (by omega) (Ev.pos (by omega) (Ev.pos (by omega) ?_))
    have hmn : mn W H ≤ 500 := by unfold mn; split <;> omega
    have fall : ∀ r : Bool, r = false → Ev (fun k => impl_IsCut.j2 k (areaTo l i) (i : Int) l (l.length : Int) (i : Int) true W H l (sqAt l i).f0 (sqAt l i).f1 (sqAt l i).f2) r := by
      rintro _ rfl
      refine Ev.succ ?_
      simp only [impl_IsCut.j2]
      exact Ev.pos trivial (Ev.now _)
    have rf : ¬ OkAt W H l i → r = false := fun h => by
      cases hq : r with
      | false => rfl
      | true => exact absurd ((hr.1 hq).1.1 hlt) h
    have mnle : mn W H ≤ W ∧ mn W H ≤ H ∧ (mn W H = W ∨ mn W H = H) := by unfold mn; split <;> omega
    refine Ev.bindc (within_eq _ _ _) ?_
    by_cases c1 : 1 ≤ (sqAt l i).f2 ∧ (sqAt l i).f2 ≤ mn W H
    · rw [decide_eq_true c1]
      refine Ev.pos rfl (Ev.bindc (within_eq _ _ _) ?_)
      rw [wrap64_id (by omega) (by omega)]
      by_cases c2 : 0 ≤ (sqAt l i).f0 ∧ (sqAt l i).f0 ≤ W - (sqAt l i).f2
      · rw [decide_eq_true c2]
        refine Ev.pos rfl (Ev.bindc (within_eq _ _ _) ?_)
        rw [wrap64_id (by omega) (by omega)]
        by_cases c3 : 0 ≤ (sqAt l i).f1 ∧ (sqAt l i).f1 ≤ H - (sqAt l i).f2
        · rw [decide_eq_true c3]
          have hins : Ins W H (sqAt l i) := by unfold Ins; omega
          have hall : ∀ m, m ≤ i → Ins W H (sqAt l m) := fun m hm => by
            by_cases e : m = i
            · rw [e]; exact hins
            · exact (hok m (by omega)).1
          refine Ev.succ ?_
          simp only [impl_IsCut.j2, Bool.not_true]
          refine Ev.neg (by decide) ?_
          have bd := areaTo_bd W H l hW.2 hH.2 i (by omega) (fun m hm => hall m (by omega))
          have qb := sq_bd hW.2 hH.2 hins
          have tn : ((i : Int)).toNat = i := Int.toNat_natCast i
          have next : (∀ j, j < i → ¬ Ovl (sqAt l i) (sqAt l j)) → (0 < i → Less (sqAt l (i - 1)) (sqAt l i)) → Ev (fun k => impl_IsCut.l0 k (wrap64 (areaTo l i + wrap64 ((sqAt l i).f2 * (sqAt l i).f2))) l (l.length : Int) (wrap64 ((i : Int) + 1)) W H l) r := by
            intro ho hlss
            have hk : OkAt W H l i := ⟨hins, hlss, ho⟩
            rw [wrap64_id (n := (sqAt l i).f2 * (sqAt l i).f2) (by omega) (by omega), wrap64_id (n := areaTo l i + (sqAt l i).f2 * (sqAt l i).f2) (by omega) (by omega), wrap64_id (n := (i : Int) + 1) (by omega) (by omega)]
            have := ih (i + 1) (by omega) (by omega) (fun m hm => by
              by_cases e : m = i
              · rw [e]; exact hk
              · exact hok m (by omega)) r (by rw [hr]; exact ⟨fun h => ⟨h.1.2, h.2⟩, fun h => ⟨⟨fun _ => hk, h.1⟩, h.2⟩⟩)
            exact this
          have cont : (0 < i → Less (sqAt l (i - 1)) (sqAt l i)) → Ev (fun k => if 0 ≤ (i : Int) then if (i : Int) ≤ (l.length : Int) then (slices_ContainsFunc_impl_Square_impl_Square__impl_IsCut_1.f (l.take ((i : Int)).toNat) (sqAt l i).f0 (sqAt l i).f1 (sqAt l i).f2).bind fun t => if t = true then some false else impl_IsCut.l0 k (wrap64 (areaTo l i + wrap64 ((sqAt l i).f2 * (sqAt l i).f2))) l (l.length : Int) (wrap64 ((i : Int) + 1)) W H l else none else none) r := by
            intro hlss
            refine Ev.pos (by omega) (Ev.pos (by omega) ?_)
            rw [tn]
            refine Ev.bindc (contains_eq hW.2 hH.2 i hlt hall) ?_
            by_cases ho : ∃ j, j < i ∧ Ovl (sqAt l i) (sqAt l j)
            · rw [decide_eq_true ho]
              refine Ev.pos rfl (Ev.eqr (Ev.now _) (rf fun hk => ?_).symm)
              obtain ⟨j, hj, hq⟩ := ho
              exact hk.2.2 j hj hq
            · rw [decide_eq_false ho]
              exact Ev.neg (by decide) (next (fun j hj hq => ho ⟨j, hj, hq⟩) hlss)
          by_cases hi0 : (i : Int) > 0
          · refine Ev.pos hi0 ?_
            have e1 : wrap64 ((i : Int) - 1) = ((i - 1 : Nat) : Int) := by rw [wrap64_id (by omega) (by omega)]; omega
            simp only [e1, rd_sq]
            refine Ev.pos (by omega) (Ev.pos (by omega) ?_)
            obtain ⟨c, hc, hcl⟩ := compare_eq hW.2 hH.2 (hall (i - 1) (by omega)) hins
            refine Ev.bindc hc ?_
            by_cases c4 : c ≥ 0
            · refine Ev.pos c4 (Ev.eqr (Ev.now _) (rf fun hk => ?_).symm)
              have := hcl.2 (hk.2.1 (by omega))
              omega
            · exact Ev.neg c4 (cont fun _ => hcl.1 (by omega))
          · exact Ev.neg hi0 (cont fun h => by omega)
        · rw [decide_eq_false c3]
          exact fall _ (rf fun h => c3 (by have := h.1; unfold Ins at this; omega))
      · rw [decide_eq_false c2]
        exact Ev.neg (by decide) (fall _ (rf fun h => c2 (by have := h.1; unfold Ins at this; omega)))
    · rw [decide_eq_false c1]
      refine Ev.neg (by decide) (fall _ (rf fun h => c1 ?_))
      have := h.1
      unfold Ins at this
      rcases mnle.2.2 with e | e <;> omega

theorem impl_IsCut_ev (W H : Int) (l : List Sq) : Ev (fun k => impl_IsCut.f k W H l) (decide (Good W H l)) := by
  unfold impl_IsCut.f
  have fall : ∀ r : Bool, r = false → Ev (fun k => impl_IsCut.j0 k true W H l) r := by
    rintro _ rfl
    refine Ev.succ ?_
    simp only [impl_IsCut.j0]
    exact Ev.pos trivial (Ev.now _)
  refine Ev.bindc (isWide_eq _) ?_
  by_cases c1 : 1 ≤ W ∧ W ≤ 500
  · rw [decide_eq_true c1]
    refine Ev.pos rfl (Ev.bindc (isWide_eq _) ?_)
    by_cases c2 : 1 ≤ H ∧ H ≤ 500
    · rw [decide_eq_true c2]
      refine Ev.pos rfl ?_
      by_cases c3 : (l.length : Int) > 30
      · rw [decide_eq_true c3]
        exact fall _ (decide_eq_false fun h => by have := h.2.2.1; omega)
      · rw [decide_eq_false c3]
        refine Ev.succ ?_
        simp only [impl_IsCut.j0]
        refine Ev.neg (by decide) ?_
        have := impl_loop (l := l) c1 c2 (by omega) l.length 0 (by omega) (Nat.zero_le _) (fun m hm => by omega) (decide (Good W H l)) ?_
        · exact this
        · rw [decide_eq_true_eq]
          constructor
          · intro h; exact ⟨fun m _ h2 => h.2.2.2.1 m h2, h.2.2.2.2⟩
          · intro h
            refine ⟨c1, c2, ⟨?_, (by omega : l.length ≤ 30)⟩, fun m hm => h.1 m (Nat.zero_le _) hm, h.2⟩
            cases hl : l with
            | nil =>
              subst hl
              have e : (0 : Int) = W * H := h.2
              have : 0 < W * H := Int.mul_pos (by omega) (by omega)
              omega
            | cons a t => simp
    · rw [decide_eq_false c2]
      exact Ev.neg (by decide) (fall _ (decide_eq_false fun h => c2 h.2.1))
  · rw [decide_eq_false c1]
    exact Ev.neg (by decide) (fall _ (decide_eq_false fun h => c1 h.1))

/-! the reference's own -/
/-- what the inner loop of the reference asks of the squares from place j on -/
def InnerOk (l : List Sq) (i j : Nat) : Prop := ∀ m, j ≤ m → m < i → ¬ Ovl (sqAt l i) (sqAt l m) ∧ (m + 1 = i → Less (sqAt l m) (sqAt l i))
theorem inner_step (l : List Sq) (i j : Nat) (h : j < i) : InnerOk l i j ↔ (¬ Ovl (sqAt l i) (sqAt l j) ∧ (j + 1 = i → Less (sqAt l j) (sqAt l i))) ∧ InnerOk l i (j + 1) :=
  ⟨fun h1 => ⟨h1 j (Nat.le_refl _) h, fun m h2 h3 => h1 m (by omega) h3⟩, fun ⟨h1, h2⟩ m h3 h4 => by
    by_cases e : j = m
    · subst e; exact h1
    · exact h2 m (by omega) h4⟩
theorem inner_ok (W H : Int) (l : List Sq) (i : Nat) : OkAt W H l i ↔ Ins W H (sqAt l i) ∧ InnerOk l i 0 := by
  unfold OkAt InnerOk
  constructor
  · rintro ⟨h1, h2, h3⟩
    refine ⟨h1, fun m _ hm => ⟨h3 m hm, fun e => ?_⟩⟩
    have := h2 (by omega)
    rw [show i - 1 = m by omega] at this
    exact this
  · rintro ⟨h1, h2⟩
    exact ⟨h1, fun hi => (h2 (i - 1) (Nat.zero_le _) (by omega)).2 (by omega), fun j hj => (h2 j (Nat.zero_le _) hj).1⟩

theorem spec_inner {W H : Int} {l : List Sq} (hW : 1 ≤ W ∧ W ≤ 500) (hH : 1 ≤ H ∧ H ≤ 500) (hl : l.length ≤ 30) (i : Nat) (hi : i < l.length) (hall : ∀ m, m ≤ i → Ins W H (sqAt l m)) (A : Int) (r : Bool)
    (hgood : InnerOk l i 0 → Ev (fun k => spec_cuGood.l0 k A l (l.length : Int) ((i : Int) + 1) W H l) r) (hbad : ¬ InnerOk l i 0 → r = false) :
    ∀ (d j : Nat), i - j = d → j ≤ i → (InnerOk l i j ↔ InnerOk l i 0) →
      Ev (fun k => spec_cuGood.l1 k A (i : Int) l (l.length : Int) (i : Int) (l.take i) (i : Int) (j : Int) W H l (sqAt l i).f0 (sqAt l i).f1 (sqAt l i).f2) r := by
  intro d
  induction d with
  | zero =>
    intro j hd hj hiff
    obtain rfl : j = i := by omega
    refine Ev.succ ?_
    simp only [spec_cuGood.l1]
    refine Ev.neg (by omega) ?_
    rw [wrap64_id (by omega) (by omega)]
    exact hgood (hiff.1 fun m h1 h2 => by omega)
  | succ d ih =>
    intro j hd hj hiff
    have hlt : j < i := by omega
    have tk : (l.take i).length = i := by rw [List.length_take]; omega
    have et : sqAt (l.take i) j = sqAt l j := by
      rw [sqAt_get _ _ (by omega), sqAt_get _ _ (by omega), List.getElem_take]
    rw [inner_step l i j hlt] at hiff
    refine Ev.succ ?_
    simp only [spec_cuGood.l1, rd_sq, et, tk]
    refine Ev.pos (by omega) (Ev.pos (by omega) (Ev.pos (by omega) ?_))
    have a := hall i (Nat.le_refl _)
    have b := hall j (by omega)
    have j4 : ∀ b : Bool, b = decide (Ovl (sqAt l i) (sqAt l j)) → Ev (fun k => spec_cuGood.j4 k A (i : Int) (j : Int) l (l.length : Int) (i : Int) (l.take i) (i : Int) (j : Int) b W H l (sqAt l i).f0 (sqAt l i).f1 (sqAt l i).f2 (sqAt l j).f0 (sqAt l j).f1 (sqAt l j).f2) r := by
      rintro b rfl
      refine Ev.succ ?_
      simp only [spec_cuGood.j4]
      by_cases ho : Ovl (sqAt l i) (sqAt l j)
      · exact Ev.pos (decide_eq_true ho) (Ev.eqr (Ev.now _) (hbad fun h => (hiff.2 h).1.1 ho).symm)
      · refine Ev.neg (by simpa using ho) ?_
        have e1 : wrap64 ((i : Int) - 1) = (i : Int) - 1 := wrap64_id (by omega) (by omega)
        have e2 : wrap64 ((j : Int) + 1) = ((j + 1 : Nat) : Int) := by rw [wrap64_id (by omega) (by omega)]; omega
        rw [e1, e2]
        by_cases hj1 : j + 1 = i
        · refine Ev.pos (by omega) (Ev.bindc (less_eq _ _) ?_)
          by_cases hls : Less (sqAt l j) (sqAt l i)
          · exact Ev.pos (decide_eq_true hls) (ih (j + 1) (by omega) (by omega) ⟨fun h => hiff.1 ⟨⟨ho, fun _ => hls⟩, h⟩, fun h => (hiff.2 h).2⟩)
          · exact Ev.neg (by simpa using hls) (Ev.eqr (Ev.now _) (hbad fun h => hls ((hiff.2 h).1.2 hj1)).symm)
        · exact Ev.neg (by omega) (ih (j + 1) (by omega) (by omega) ⟨fun h => hiff.1 ⟨⟨ho, fun e => absurd e hj1⟩, h⟩, fun h => (hiff.2 h).2⟩)
    unfold Ins at a b
    rw [wrap64_id (n := (sqAt l j).f0 + (sqAt l j).f2) (by omega) (by omega), wrap64_id (n := (sqAt l i).f0 + (sqAt l i).f2) (by omega) (by omega), wrap64_id (n := (sqAt l j).f1 + (sqAt l j).f2) (by omega) (by omega), wrap64_id (n := (sqAt l i).f1 + (sqAt l i).f2) (by omega) (by omega)]
    by_cases c1 : (sqAt l i).f0 < (sqAt l j).f0 + (sqAt l j).f2
    · refine Ev.pos c1 ?_
      by_cases c2 : (sqAt l j).f0 < (sqAt l i).f0 + (sqAt l i).f2
      · refine Ev.pos c2 ?_
        by_cases c3 : (sqAt l i).f1 < (sqAt l j).f1 + (sqAt l j).f2
        · refine Ev.pos c3 (j4 _ ?_)
          unfold Ovl
          simp [c1, c2, c3]
        · exact Ev.neg c3 (j4 _ (decide_eq_false fun h => c3 h.2.2.1).symm)
      · exact Ev.neg c2 (j4 _ (decide_eq_false fun h => c2 h.2.1).symm)
    · exact Ev.neg c1 (j4 _ (decide_eq_false fun h => c1 h.1).symm)

theorem spec_loop {W H : Int} {l : List Sq} (hW : 1 ≤ W ∧ W ≤ 500) (hH : 1 ≤ H ∧ H ≤ 500) (hl : l.length ≤ 30) : ∀ (d i : Nat), l.length - i = d → i ≤ l.length → (∀ m, m < i → OkAt W H l m) →
    ∀ r : Bool, (r = true ↔ (∀ m, i ≤ m → m < l.length → OkAt W H l m) ∧ areaTo l l.length = W * H) → Ev (fun k => spec_cuGood.l0 k (areaTo l i) l (l.length : Int) (i : Int) W H l) r := by
  intro d
  induction d with
  | zero =>
    intro i hd hi hok r hr
    obtain rfl : i = l.length := by omega
    have bd := areaTo_bd W H l hW.2 hH.2 l.length hl (fun m hm => (hok m hm).1)
    have w1 : W * H ≤ 500 * 500 := Int.mul_le_mul (by omega) (by omega) (by omega) (by omega)
    have w0 : 0 ≤ W * H := Int.mul_nonneg (by omega) (by omega)
    refine Ev.succ ?_
    simp only [spec_cuGood.l0]
    refine Ev.neg (by omega) ?_
    rw [wrap64_id (by omega) (by omega)]
    refine Ev.eqr (Ev.now _) ?_
    rw [Bool.eq_iff_iff, hr, beq_iff_eq]
    exact ⟨fun h => ⟨fun m h1 h2 => by omega, h⟩, fun h => h.2⟩
  | succ d ih =>
    intro i hd hi hok r hr
    have hlt : i < l.length := by omega
    rw [okFrom_step] at hr
    refine Ev.succ ?_
    simp only [spec_cuGood.l0, rd_sq]
    refine Ev.pos (by omega) (Ev.pos (by omega) (Ev.pos (by omega) ?_))
    have fall : ∀ r : Bool, r = false → Ev (fun k => spec_cuGood.j2 k (areaTo l i) (i : Int) l (l.length : Int) (i : Int) true W H l (sqAt l i).f0 (sqAt l i).f1 (sqAt l i).f2) r := by
      rintro _ rfl
      refine Ev.succ ?_
      simp only [spec_cuGood.j2]
      exact Ev.pos trivial (Ev.now _)
    have rf : ¬ OkAt W H l i → r = false := fun h => by
      cases hq : r with
      | false => rfl
      | true => exact absurd ((hr.1 hq).1.1 hlt) h
    refine Ev.bindc (l1In_eq _ _ _) ?_
    by_cases c1 : 1 ≤ (sqAt l i).f2 ∧ (sqAt l i).f2 ≤ 500
    · rw [decide_eq_true c1]
      refine Ev.pos rfl (Ev.bindc (l1In_eq _ _ _) ?_)
      rw [wrap64_id (by omega) (by omega)]
      by_cases c2 : 0 ≤ (sqAt l i).f0 ∧ (sqAt l i).f0 ≤ W - (sqAt l i).f2
      · rw [decide_eq_true c2]
        refine Ev.pos rfl (Ev.bindc (l1In_eq _ _ _) ?_)
        rw [wrap64_id (by omega) (by omega)]
        by_cases c3 : 0 ≤ (sqAt l i).f1 ∧ (sqAt l i).f1 ≤ H - (sqAt l i).f2
        · rw [decide_eq_true c3]
          have hins : Ins W H (sqAt l i) := by unfold Ins; omega
          have hall : ∀ m, m ≤ i → Ins W H (sqAt l m) := fun m hm => by
            by_cases e : m = i
            · rw [e]; exact hins
            · exact (hok m (by omega)).1
          have bd := areaTo_bd W H l hW.2 hH.2 i (by omega) (fun m hm => hall m (by omega))
          have qb := sq_bd hW.2 hH.2 hins
          refine Ev.succ ?_
          simp only [spec_cuGood.j2, Bool.not_true]
          refine Ev.neg (by decide) (Ev.pos (by omega) (Ev.pos (by omega) (Ev.bindc rfl ?_)))
          have tk : (l.take ((i : Int)).toNat).length = i := by rw [List.length_take]; omega
          have tn : ((i : Int)).toNat = i := Int.toNat_natCast i
          rw [tk, tn, wrap64_id (n := (sqAt l i).f2 * (sqAt l i).f2) (by omega) (by omega), wrap64_id (n := areaTo l i + (sqAt l i).f2 * (sqAt l i).f2) (by omega) (by omega)]
          have iok := inner_ok W H l i
          refine spec_inner hW hH hl i hlt hall _ r (fun hin => ?_) (fun hin => rf fun h => hin (iok.1 h).2) i 0 (by omega) (Nat.zero_le _) Iff.rfl
          have hk : OkAt W H l i := iok.2 ⟨hins, hin⟩
          have := ih (i + 1) (by omega) (by omega) (fun m hm => by
              by_cases e : m = i
              · rw [e]; exact hk
              · exact hok m (by omega)) r (by rw [hr]; exact ⟨fun h => ⟨h.1.2, h.2⟩, fun h => ⟨⟨fun _ => hk, h.1⟩, h.2⟩⟩)
          exact this
        · rw [decide_eq_false c3]
          exact fall _ (rf fun h => c3 (by have := h.1; unfold Ins at this; omega))
      · rw [decide_eq_false c2]
        exact Ev.neg (by decide) (fall _ (rf fun h => c2 (by have := h.1; unfold Ins at this; omega)))
    · rw [decide_eq_false c1]
      refine Ev.neg (by decide) (fall _ (rf fun h => c1 ?_))
      have := h.1
      unfold Ins at this
      omega

theorem spec_cuGood_ev (W H : Int) (l : List Sq) : Ev (fun k => spec_cuGood.f k W H l) (decide (Good W H l)) := by
  unfold spec_cuGood.f
  have fall : ∀ r : Bool, r = false → Ev (fun k => spec_cuGood.j0 k true W H l) r := by
    rintro _ rfl
    refine Ev.succ ?_
    simp only [spec_cuGood.j0]
    exact Ev.pos trivial (Ev.now _)
  refine Ev.bindc (l1In_eq _ _ _) ?_
  by_cases c1 : 1 ≤ W ∧ W ≤ 500
  · rw [decide_eq_true c1]
    refine Ev.pos rfl (Ev.bindc (l1In_eq _ _ _) ?_)
    by_cases c2 : 1 ≤ H ∧ H ≤ 500
    · rw [decide_eq_true c2]
      refine Ev.pos rfl (Ev.bindc (l1In_eq _ _ _) ?_)
      by_cases c3 : 1 ≤ (l.length : Int) ∧ (l.length : Int) ≤ 30
      · rw [decide_eq_true c3]
        refine Ev.succ ?_
        simp only [spec_cuGood.j0, Bool.not_true]
        refine Ev.neg (by decide) ?_
        refine spec_loop (l := l) c1 c2 (by omega) l.length 0 (by omega) (Nat.zero_le _) (fun m hm => by omega) (decide (Good W H l)) ?_
        rw [decide_eq_true_eq]
        exact ⟨fun h => ⟨fun m _ h2 => h.2.2.2.1 m h2, h.2.2.2.2⟩, fun h => ⟨c1, c2, by omega, fun m hm => h.1 m (Nat.zero_le _) hm, h.2⟩⟩
      · rw [decide_eq_false c3]
        exact fall _ (decide_eq_false fun h => c3 (by have := h.2.2.1; omega))
    · rw [decide_eq_false c2]
      exact Ev.neg (by decide) (fall _ (decide_eq_false fun h => c2 h.2.1))
  · rw [decide_eq_false c1]
    exact Ev.neg (by decide) (fall _ (decide_eq_false fun h => c1 h.1))

/-! ### squares from one package's type to the other's; lists that are the same -/
abbrev MSq := S97
def conv (q : MSq) : Sq := ⟨q.f0, q.f1, q.f2⟩
theorem rd_msq (l : List MSq) (j : Nat) (h : j < l.length) : rd_T97 l (j : Int) = l[j] := by unfold rd_T97; rw [Int.toNat_natCast]; simp [List.getD, h]
theorem toSq_loop (l : List MSq) (hl : l.length ≤ 1048576) : ∀ (d i : Nat) (x : List Sq), l.length - i = d → i ≤ l.length → x.length = l.length → (∀ m, m < i → x[m]? = (l.map conv)[m]?) →
    Ev (fun k => laws_toSquareS.l0 k l x (i : Int)) (l.map conv) := by
  intro d
  induction d with
  | zero =>
    intro i x hd hi hx h
    refine Ev.succ ?_
    simp only [laws_toSquareS.l0]
    refine Ev.neg (by omega) (Ev.eqr (Ev.now _) ?_)
    apply List.ext_getElem?
    intro m
    by_cases hm : m < i
    · exact h m hm
    · rw [List.getElem?_eq_none (by omega), List.getElem?_eq_none (by simp; omega)]
  | succ d ih =>
    intro i x hd hi hx h
    refine Ev.succ ?_
    simp only [laws_toSquareS.l0]
    refine Ev.pos (by omega) (Ev.pos (by omega) (Ev.bindc rfl (Ev.pos (by omega) ?_)))
    rw [Int.toNat_natCast, wrap64_id (by omega) (by omega)]
    refine ih (i + 1) _ (by omega) (by omega) (by simp; omega) (fun m hm => ?_)
    rw [rd_msq l i (by omega)]
    by_cases e : m = i
    · subst e
      rw [List.getElem?_set_self (by omega), List.getElem?_map, List.getElem?_eq_getElem (by omega)]; rfl
    · rw [List.getElem?_set_ne (by omega)]; exact h m (by omega)
theorem toSquareS_ev (l : List MSq) (hl : l.length ≤ 1048576) : Ev (fun k => laws_toSquareS.f k l) (l.map conv) := by
  unfold laws_toSquareS.f
  refine Ev.pos (by omega) (Ev.pos (by omega) ?_)
  exact toSq_loop l hl l.length 0 _ (by omega) (Nat.zero_le _) (by simp) (fun m hm => by omega)
theorem toCut_ev (W H : Int) (l : List MSq) (hl : l.length ≤ 1048576) : Ev (fun k => laws_toCut.f k W H l) (W, H, l.map conv) := by
  unfold laws_toCut.f
  exact Ev.bind (toSquareS_ev l hl) (Ev.now _)
theorem eqSquareS_loop (l : List Sq) (hl : l.length ≤ 1099511627776) : ∀ (d i : Nat), l.length - i = d → i ≤ l.length → Ev (fun k => laws_eqSquareS.l0 k l l (i : Int)) true := by
  intro d
  induction d with
  | zero =>
    intro i hd hi
    refine Ev.succ ?_
    simp only [laws_eqSquareS.l0]
    exact Ev.neg (by omega) (Ev.now _)
  | succ d ih =>
    intro i hd hi
    refine Ev.succ ?_
    simp only [laws_eqSquareS.l0]
    refine Ev.pos (by omega) (Ev.pos (by omega) (Ev.pos (by omega) (Ev.bindc (a := true) (by unfold laws_eqSquare.f; simp) (Ev.pos rfl ?_))))
    rw [wrap64_id (by omega) (by omega)]
    exact ih (i + 1) (by omega) (by omega)
theorem eqSquareS_ev (l : List Sq) (hl : l.length ≤ 1099511627776) : Ev (fun k => laws_eqSquareS.f k l l) true := by
  unfold laws_eqSquareS.f
  exact Ev.pos rfl (eqSquareS_loop l hl l.length 0 (by omega) (Nat.zero_le _))
theorem eqCut_ev (W H : Int) (l : List Sq) (hl : l.length ≤ 1099511627776) : Ev (fun k => laws_eqCut.f k W H l W H l) true := by
  unfold laws_eqCut.f
  exact Ev.pos rfl (Ev.pos rfl (Ev.bind (eqSquareS_ev l hl) (Ev.pos rfl (Ev.now _))))
theorem szCut_eq (W H : Int) (l : List MSq) (hl : l.length ≤ maxLen) : laws_szCut.f W H l 1048576 = some (if l.length ≤ 1048576 then 1048576 - (l.length : Int) else -1) := by
  have h0 : maxLen ≤ 9223372036854775807 := by decide
  unfold laws_szCut.f laws_szSquareS.f
  rw [wrap64_id (by omega) (by omega)]
  by_cases h : l.length ≤ 1048576
  · rw [if_neg (by omega), Option.bind_some, if_neg (by omega), if_pos h]
  · rw [if_pos (by omega), Option.bind_some, if_pos (by omega), if_neg h]

/-! ### cuts that are marked and held -/
def upS (s : Int) : Nat → List Sq
  | 0 => []
  | n + 1 => ⟨s, s + 1, s + 1 + 1⟩ :: upS (s + 3) n
theorem upS_length (n : Nat) : ∀ s, (upS s n).length = n := by
  induction n with
  | zero => intro s; rfl
  | succ n ih => intro s; simp [upS, ih]
theorem upS_get (n : Nat) : ∀ (s : Int) (i : Nat), i < n → (upS s n)[i]? = some ⟨s + 3 * i, s + 3 * i + 1, s + 3 * i + 1 + 1⟩ := by
  induction n with
  | zero => intro s i h; omega
  | succ n ih =>
    intro s i h
    cases i with
    | zero => simp [upS]
    | succ i =>
      simp only [upS, List.getElem?_cons_succ]; rw [ih (s + 3) i (by omega)]
      have e : s + 3 + 3 * (i : Int) = s + 3 * ((i + 1 : Nat) : Int) := by omega
      rw [e]
theorem markSq_loop (N : Nat) (hN : N ≤ 1099511627776) (s : Int) (hs : 0 ≤ s) (hs2 : s ≤ 1099511627776) : ∀ (d i : Nat) (x : List Sq), N - i = d → i ≤ N → x.length = N → (∀ m, m < i → x[m]? = (upS s N)[m]?) →
    Ev (fun k => laws_markSquareS.l0 k x (s + 3 * i) (i : Int)) (s + 3 * N, upS s N) := by
  intro d
  induction d with
  | zero =>
    intro i x hd hi hx h
    obtain rfl : i = N := by omega
    refine Ev.succ ?_
    simp only [laws_markSquareS.l0]
    refine Ev.neg (by omega) (Ev.eqr (Ev.now _) ?_)
    congr 1
    apply List.ext_getElem?
    intro m
    by_cases hm : m < i
    · exact h m hm
    · rw [List.getElem?_eq_none (by omega), List.getElem?_eq_none (by rw [upS_length]; omega)]
  | succ d ih =>
    intro i x hd hi hx h
    refine Ev.succ ?_
    simp only [laws_markSquareS.l0]
    refine Ev.pos (by omega) (Ev.pos (by omega) (Ev.bindc rfl (Ev.bindc rfl ?_)))
    rw [wrap64_id (n := s + 3 * i + 1) (by omega) (by omega), wrap64_id (n := s + 3 * i + 1 + 1) (by omega) (by omega), wrap64_id (n := s + 3 * i + 1 + 1 + 1) (by omega) (by omega), wrap64_id (n := (i : Int) + 1) (by omega) (by omega)]
    have hi' : i < x.length := by omega
    have g1 : ∀ q : Sq, sqAt (x.set i q) i = q := fun q => by unfold sqAt; simp [List.getD, hi']
    have g2 : ∀ q p : Sq, sqAt ((x.set i q).set i p) i = p := fun q p => by unfold sqAt; simp [List.getD, hi']
    simp only [Int.toNat_natCast, rd_sq, g1, g2]
    have e : s + 3 * (i : Int) + 1 + 1 + 1 = s + 3 * ((i + 1 : Nat) : Int) := by omega
    rw [e]
    refine ih (i + 1) _ (by omega) (by omega) (by simp; omega) (fun m hm => ?_)
    by_cases e : m = i
    · subst e
      rw [List.getElem?_set_self (by simp; omega), upS_get _ _ _ (by omega)]
    · rw [List.getElem?_set_ne (by omega), List.getElem?_set_ne (by omega), List.getElem?_set_ne (by omega)]; exact h m (by omega)
theorem markC_ev (W H : Int) (l : List Sq) (hl : l.length ≤ 1099511627776) (s : Int) (hs : 0 ≤ s) (hs2 : s ≤ 1099511627776) : Ev (fun k => laws_markCut.f k W H l s) (s + 3 * (l.length : Int), upS s l.length) := by
  unfold laws_markCut.f laws_markSquareS.f
  have := markSq_loop l.length hl s hs hs2 l.length 0 l (by omega) (Nat.zero_le _) rfl (fun m hm => by omega)
  exact Ev.bind (by simpa using this) (Ev.now _)

/-! ### squares in order: what the two sorts answer -/
def LeP (a b : Sq) : Prop := ¬ Less b a
theorem LeP.trans {a b c : Sq} (h : LeP a b) (k : LeP b c) : LeP a c := by unfold LeP Less at *; omega
theorem LeP.of_less {a b : Sq} (h : Less a b) : LeP a b := by unfold LeP Less at *; omega
def Dist (l : List Sq) : Prop := ∀ a ∈ l, ∀ b ∈ l, a.f0 = b.f0 → a.f1 = b.f1 → a = b
theorem eq_of_sorted {l r r' : List Sq} (hd : Dist l) (hp : r.Perm l) (hp' : r'.Perm l) (hs : r.Pairwise LeP) (hs' : r'.Pairwise LeP) : r = r' :=
  List.Perm.eq_of_pairwise (fun a b ha hb h1 h2 => hd a (hp.mem_iff.1 ha) b (hp'.mem_iff.1 hb) (by unfold LeP Less at *; omega) (by unfold LeP Less at *; omega)) hs hs' (hp.trans hp'.symm)
theorem mem_take_at {o : List Sq} {k : Nat} (hk : k ≤ o.length) {a : Sq} (h : a ∈ o.take k) : ∃ j, j < k ∧ a = sqAt o j := by
  obtain ⟨j, hj, rfl⟩ := List.mem_iff_getElem.1 h
  rw [List.length_take] at hj
  exact ⟨j, by omega, by rw [List.getElem_take, sqAt_get o j (by omega)]⟩
theorem mem_drop_at {o : List Sq} {k : Nat} {a : Sq} (h : a ∈ o.drop k) : ∃ j, k ≤ j ∧ j < o.length ∧ a = sqAt o j := by
  obtain ⟨j, hj, rfl⟩ := List.mem_iff_getElem.1 h
  rw [List.length_drop] at hj
  exact ⟨k + j, by omega, by omega, by rw [List.getElem_drop, sqAt_get o (k + j) (by omega)]⟩
theorem sorted_at {o : List Sq} (ho : o.Pairwise LeP) {i j : Nat} (hij : i ≤ j) (hj : j < o.length) : LeP (sqAt o i) (sqAt o j) := by
  rcases Nat.lt_or_eq_of_le hij with h | h
  · rw [sqAt_get o i (by omega), sqAt_get o j hj]
    exact List.pairwise_iff_getElem.1 ho i j (by omega) hj h
  · subst h; unfold LeP Less; omega
theorem ins_sorted {o : List Sq} {s : Sq} {k : Nat} (hk : k ≤ o.length) (ho : o.Pairwise LeP) (h1 : ∀ j, k ≤ j → j < o.length → Less s (sqAt o j)) (h2 : k = 0 ∨ ¬ Less s (sqAt o (k - 1))) :
    (o.take k ++ [s] ++ o.drop k).Pairwise LeP := by
  have hts : ∀ a ∈ o.take k, LeP a s := by
    intro a ha
    obtain ⟨j, hj, rfl⟩ := mem_take_at hk ha
    rcases h2 with h2 | h2
    · omega
    · exact LeP.trans (sorted_at ho (show j ≤ k - 1 by omega) (by omega)) h2
  refine List.pairwise_append.2 ⟨List.pairwise_append.2 ⟨ho.sublist (List.take_sublist _ _), List.pairwise_singleton _ _, fun a ha b hb => ?_⟩, ho.sublist (List.drop_sublist _ _), fun a ha b hb => ?_⟩
  · rw [List.mem_singleton.1 hb]; exact hts a ha
  · obtain ⟨j, hj, hj2, rfl⟩ := mem_drop_at hb
    have hsb := LeP.of_less (h1 j hj hj2)
    rcases List.mem_append.1 ha with ha | ha
    · exact (hts a ha).trans hsb
    · rw [List.mem_singleton.1 ha]; exact hsb
theorem ins_perm (o : List Sq) (s : Sq) (k : Nat) : (o.take k ++ [s] ++ o.drop k).Perm (s :: o) := by
  rw [List.append_assoc]
  have h := List.perm_middle (l₁ := o.take k) (a := s) (l₂ := o.drop k)
  rw [List.take_append_drop] at h
  exact h
theorem sqs_drop (l : List Sq) (i : Nat) (w : Sq) (t : List Sq) (h : l.drop i = w :: t) : i < l.length ∧ sqAt l i = w ∧ l.drop (i + 1) = t := by
  have h1 : i < l.length := by
    apply Decidable.byContradiction
    intro hn
    rw [List.drop_eq_nil_of_le (by omega)] at h; cases h
  rw [List.drop_eq_getElem_cons h1] at h
  injection h with ha hb
  exact ⟨h1, by rw [sqAt_get l i h1]; exact ha, hb⟩

/-! ### a cut's squares -/
theorem good_in {W H : Int} {l : List Sq} (hg : Good W H l) {s : Sq} (hs : s ∈ l) : Ins W H s := by
  obtain ⟨j, hj, rfl⟩ := List.mem_iff_getElem.1 hs
  rw [← sqAt_get l j hj]
  exact (hg.2.2.2.1 j hj).1
theorem ovl_symm {a b : Sq} (h : Ovl a b) : Ovl b a := ⟨h.2.1, h.1, h.2.2.2, h.2.2.1⟩
theorem good_inj {W H : Int} {l : List Sq} (hg : Good W H l) {a b : Sq} (ha : a ∈ l) (hb : b ∈ l) (h : Ovl a b) : a = b := by
  obtain ⟨i, hi, rfl⟩ := List.mem_iff_getElem.1 ha
  obtain ⟨j, hj, rfl⟩ := List.mem_iff_getElem.1 hb
  rw [← sqAt_get l i hi, ← sqAt_get l j hj] at h ⊢
  rcases Nat.lt_trichotomy i j with hlt | rfl | hlt
  · exact absurd (ovl_symm h) ((hg.2.2.2.1 j hj).2.2 i hlt)
  · rfl
  · exact absurd h ((hg.2.2.2.1 i hi).2.2 j hlt)
theorem take_map_succ (l : List Sq) (f : Sq → Sq) (i : Nat) (s : Sq) (t : List Sq) (h : l.drop i = s :: t) : (l.take i).map f ++ [f s] = (l.take (i + 1)).map f := by
  obtain ⟨h1, h2, _⟩ := sqs_drop l i s t h
  have e : l.take (i + 1) = l.take i ++ [s] := by
    rw [List.take_add_one, List.getElem?_eq_getElem h1, ← h2, sqAt_get l i h1]; rfl
  rw [e, List.map_append]; rfl

/-! ### the sides -/
theorem impl_sides_loop (l : List Sq) (hl : l.length ≤ 10000) : ∀ (d i : Nat), l.length - i = d → i ≤ l.length →
    Ev (fun k => impl_sides.l0 k ((l.take i).map (fun s => s.f2)) l (l.length : Int) (i : Int)) (l.map fun s => s.f2) := by
  intro d
  induction d with
  | zero =>
    intro i hd hi
    obtain rfl : i = l.length := by omega
    refine Ev.succ ?_
    simp only [impl_sides.l0]
    exact Ev.neg (by omega) (Ev.eqr (Ev.now _) (by rw [List.take_length]))
  | succ d ih =>
    intro i hd hi
    have hlt : i < l.length := by omega
    refine Ev.succ ?_
    simp only [impl_sides.l0, rd_sq]
    refine Ev.pos (by omega) (Ev.pos (by omega) (Ev.pos (by omega) (Ev.pos (by rw [List.length_map, List.length_take]; omega) ?_)))
    rw [wrap64_id (by omega) (by omega)]
    have e : (l.take i).map (fun s => s.f2) ++ [(sqAt l i).f2] = (l.take (i + 1)).map (fun s => s.f2) := by
      rw [List.take_succ_eq_append_getElem hlt, List.map_append, sqAt_get l i hlt]; rfl
    rw [e]
    exact ih (i + 1) (by omega) (by omega)
theorem impl_sides_ev (l : List Sq) (hl : l.length ≤ 10000) : Ev (fun k => impl_sides.f k l) (l.map fun s => s.f2) := by
  unfold impl_sides.f
  exact impl_sides_loop l hl l.length 0 (by omega) (Nat.zero_le _)

/-! ### the straight lines across: those of a height, column by column -/
def sideP (l : List Sq) (y x : Int) : Nat → Bool
  | 0 => false
  | n + 1 => sideP l y x n || decide (((sqAt l n).f1 = y ∨ (sqAt l n).f1 + (sqAt l n).f2 = y) ∧ (sqAt l n).f0 ≤ x ∧ x < (sqAt l n).f0 + (sqAt l n).f2)
theorem sideP_iff (l : List Sq) (y x : Int) : ∀ n, sideP l y x n = true ↔ ∃ m, m < n ∧ ((sqAt l m).f1 = y ∨ (sqAt l m).f1 + (sqAt l m).f2 = y) ∧ (sqAt l m).f0 ≤ x ∧ x < (sqAt l m).f0 + (sqAt l m).f2
  | 0 => by simp [sideP]
  | n + 1 => by
    rw [sideP, Bool.or_eq_true, sideP_iff l y x n, decide_eq_true_eq]
    constructor
    · rintro (⟨m, hm, h⟩ | h)
      · exact ⟨m, by ((try clear ew); (try clear es); (try clear e1); (try clear e2); (try clear ec); omega), h⟩
      · exact ⟨n, by ((try clear ew); (try clear es); (try clear e1); (try clear e2); (try clear ec); omega), h⟩
    · rintro ⟨m, hm, h⟩
      by_cases e : m = n
      · subst e; exact .inr h
      · exact .inl ⟨m, by ((try clear ew); (try clear es); (try clear e1); (try clear e2); (try clear ec); omega), h⟩
def rowB (w : Nat) (f : Nat → Bool) : List Bool := (List.range w).map f
theorem rowB_len (w : Nat) (f : Nat → Bool) : (rowB w f).length = w := by simp [rowB]
theorem rowB_congr {w : Nat} {f g : Nat → Bool} (h : ∀ x, x < w → f x = g x) : rowB w f = rowB w g := by
  unfold rowB
  apply List.map_congr_left
  intro x hx
  exact h x (List.mem_range.1 hx)
theorem rowB_rd (w : Nat) (f : Nat → Bool) (i : Nat) (h : i < w) : rdOf false (rowB w f) (i : Int) = f i := by
  unfold rdOf rowB; rw [Int.toNat_natCast]; simp [List.getD, h]
theorem rowB_set (w : Nat) (f : Nat → Bool) (j : Nat) (h : j < w) : (rowB w f).set j true = rowB w (fun x => f x || decide (x = j)) := by
  apply List.ext_getElem
  · simp [rowB]
  · intro i h1 h2
    simp only [rowB, List.length_map, List.length_range] at h2
    rw [List.getElem_set]
    simp only [rowB, List.getElem_map, List.getElem_range]
    by_cases e : j = i
    · subst e; simp
    · rw [if_neg e]; simp; intro h'; ((try clear ew); (try clear es); (try clear e1); (try clear e2); (try clear ec); omega)
theorem rowB_false (w : Nat) : List.replicate w false = rowB w (fun _ => false) := by
  apply List.ext_getElem
  · simp [rowB]
  · intro i h1 h2; simp [rowB]
def st (b : Nat → Bool) (y : Int) : Nat → List (List Int) × Int
  | 0 => ([], -1)
  | n + 1 => if b n = true then ((st b y n).1, if (st b y n).2 < 0 then (n : Int) else (st b y n).2) else if (st b y n).2 < 0 then st b y n else ((st b y n).1 ++ [[y, (st b y n).2, (n : Int)]], -1)
def fin (b : Nat → Bool) (y : Int) (n : Nat) : List (List Int) := (st b y n).1 ++ (if (st b y n).2 < 0 then [] else [[y, (st b y n).2, (n : Int)]])
theorem st_open (b : Nat → Bool) (y : Int) (n : Nat) : ¬ (st b y n).2 < 0 ↔ 0 < n ∧ b (n - 1) = true := by
  cases n with
  | zero => simp [st]
  | succ n =>
    rw [Nat.add_sub_cancel]
    by_cases h : b n = true
    · simp only [st, if_pos h]
      by_cases h2 : (st b y n).2 < 0
      · rw [if_pos h2]; simp [h]
      · rw [if_neg h2]; simp [h]; ((try clear ew); (try clear es); (try clear e1); (try clear e2); (try clear ec); omega)
    · simp only [st, if_neg h]
      by_cases h2 : (st b y n).2 < 0
      · rw [if_pos h2]; simp [h, h2]
      · rw [if_neg h2]; simp [h]
theorem fin_false {b : Nat → Bool} {y : Int} {n : Nat} (h : ¬ b n = true) : fin b y (n + 1) = fin b y n := by
  unfold fin
  simp only [st, if_neg h]
  by_cases h2 : (st b y n).2 < 0
  · rw [if_pos h2]; simp [h2]
  · rw [if_neg h2]; simp [h2]
theorem fin_new {b : Nat → Bool} {y : Int} {n : Nat} (h : b n = true) (h2 : (st b y n).2 < 0) : fin b y (n + 1) = fin b y n ++ [[y, (n : Int), (n : Int) + 1]] := by
  unfold fin
  simp only [st, if_pos h, if_pos h2]
  rw [if_neg (by ((try clear ew); (try clear es); (try clear e1); (try clear e2); (try clear ec); omega))]
  simp
theorem fin_open {b : Nat → Bool} {y : Int} {n : Nat} (h2 : ¬ (st b y n).2 < 0) : fin b y n = (st b y n).1 ++ [[y, (st b y n).2, (n : Int)]] := by
  unfold fin; rw [if_neg h2]
theorem fin_more {b : Nat → Bool} {y : Int} {n : Nat} (h : b n = true) (h2 : ¬ (st b y n).2 < 0) : fin b y (n + 1) = (st b y n).1 ++ [[y, (st b y n).2, (n : Int) + 1]] := by
  unfold fin
  simp only [st, if_pos h, if_neg h2]
  simp
theorem st_close {b : Nat → Bool} {y : Int} {n : Nat} (h : ¬ b n = true) : (st b y (n + 1)).1 = fin b y n := by
  unfold fin
  simp only [st, if_neg h]
  by_cases h2 : (st b y n).2 < 0
  · simp [h2]
  · simp [h2]
theorem fin_len (b : Nat → Bool) (y : Int) : ∀ n, (fin b y n).length ≤ n
  | 0 => by simp [fin, st]
  | n + 1 => by
    have ih := fin_len b y n
    by_cases h : b n = true
    · by_cases h2 : (st b y n).2 < 0
      · rw [fin_new h h2]; simp; ((try clear ew); (try clear es); (try clear e1); (try clear e2); (try clear ec); omega)
      · rw [fin_more h h2]; rw [fin_open h2] at ih; simp at ih ⊢; ((try clear ew); (try clear es); (try clear e1); (try clear e2); (try clear ec); omega)
    · rw [fin_false h]; ((try clear ew); (try clear es); (try clear e1); (try clear e2); (try clear ec); omega)
theorem st_len (b : Nat → Bool) (y : Int) (n : Nat) : (st b y n).1.length ≤ n := by
  have := fin_len b y n; unfold fin at this; rw [List.length_append] at this; ((try clear ew); (try clear es); (try clear e1); (try clear e2); (try clear ec); omega)
theorem fin_row (b : Nat → Bool) (y : Int) : ∀ n, ∀ r ∈ fin b y n, ∃ a z, r = [y, a, z]
  | 0, r, hr => by simp [fin, st] at hr
  | n + 1, r, hr => by
    have ih := fin_row b y n
    by_cases h : b n = true
    · by_cases h2 : (st b y n).2 < 0
      · rw [fin_new h h2, List.mem_append] at hr
        rcases hr with hr | hr
        · exact ih r hr
        · exact ⟨_, _, List.mem_singleton.1 hr⟩
      · rw [fin_more h h2, List.mem_append] at hr
        rw [fin_open h2] at ih
        rcases hr with hr | hr
        · exact ih r (List.mem_append_left _ hr)
        · exact ⟨_, _, List.mem_singleton.1 hr⟩
    · rw [fin_false h] at hr; exact ih r hr
def bAt (l : List Sq) (y : Int) (x : Nat) : Bool := sideP l y (x : Int) l.length
def allL (l : List Sq) (w : Nat) : Nat → List (List Int)
  | 0 => []
  | y + 1 => allL l w y ++ fin (bAt l (y : Int)) (y : Int) w
theorem allL_len (l : List Sq) (w : Nat) : ∀ n, (allL l w n).length ≤ n * w
  | 0 => by simp [allL]
  | n + 1 => by
    have := allL_len l w n
    have := fin_len (bAt l (n : Int)) (n : Int) w
    simp only [allL, List.length_append, Nat.add_mul, Nat.one_mul]; ((try clear ew); (try clear es); (try clear e1); (try clear e2); (try clear ec); omega)
theorem allL_row (l : List Sq) (w : Nat) : ∀ n, ∀ r ∈ allL l w n, r.length = 3
  | 0, r, hr => by simp [allL] at hr
  | n + 1, r, hr => by
    simp only [allL, List.mem_append] at hr
    rcases hr with hr | hr
    · exact allL_row l w n r hr
    · obtain ⟨a, z, rfl⟩ := fin_row _ _ _ r hr; rfl
/-! ### the program's -/
theorem acr_l2 (O : List (List Int)) (y : Int) (w : Nat) (n1 i1 : Int) (l : List Sq) (len i W H f0 f1 f2 : Int) (R : List (List Int)) (h0 : 0 ≤ f0) (h2 : 0 ≤ f2) (hw : f0 + f2 ≤ w) (hw5 : w ≤ 1000) :
    ∀ (d j : Nat) (g : Nat → Bool), (f0 + f2 - (j : Int)) = d → Ev (fun k => impl_Cut_linesAcross.l1 k O y (rowB w (fun x => g x || decide ((j : Int) ≤ x ∧ (x : Int) < f0 + f2))) n1 i1 l len (wrap64 (i + 1)) W H l) R →
      Ev (fun k => impl_Cut_linesAcross.l2 k O y (rowB w g) (j : Int) n1 i1 l len i W H l f0 f1 f2) R := by
  intro d
  induction d with
  | zero =>
    intro j g hd h
    refine Ev.succ ?_
    simp only [impl_Cut_linesAcross.l2]
    rw [wrap64_id (n := f0 + f2) (by ((try clear ew); (try clear es); (try clear e1); (try clear e2); (try clear ec); omega)) (by ((try clear ew); (try clear es); (try clear e1); (try clear e2); (try clear ec); omega))]
    refine Ev.neg (by ((try clear ew); (try clear es); (try clear e1); (try clear e2); (try clear ec); omega)) ?_
    rw [show rowB w g = rowB w (fun x => g x || decide ((j : Int) ≤ x ∧ (x : Int) < f0 + f2)) from rowB_congr (fun x hx => by rw [decide_eq_false (by ((try clear ew); (try clear es); (try clear e1); (try clear e2); (try clear ec); omega)), Bool.or_false])]
    exact h
  | succ d ih =>
    intro j g hd h
    refine Ev.succ ?_
    simp only [impl_Cut_linesAcross.l2]
    rw [wrap64_id (n := f0 + f2) (by ((try clear ew); (try clear es); (try clear e1); (try clear e2); (try clear ec); omega)) (by ((try clear ew); (try clear es); (try clear e1); (try clear e2); (try clear ec); omega)), wrap64_id (n := (j : Int) + 1) (by ((try clear ew); (try clear es); (try clear e1); (try clear e2); (try clear ec); omega)) (by ((try clear ew); (try clear es); (try clear e1); (try clear e2); (try clear ec); omega))]
    refine Ev.pos (by ((try clear ew); (try clear es); (try clear e1); (try clear e2); (try clear ec); omega)) (Ev.pos (by ((try clear ew); (try clear es); (try clear e1); (try clear e2); (try clear ec); omega)) (Ev.pos (by rw [rowB_len]; ((try clear ew); (try clear es); (try clear e1); (try clear e2); (try clear ec); omega)) ?_))
    rw [Int.toNat_natCast, rowB_set w g j (by ((try clear ew); (try clear es); (try clear e1); (try clear e2); (try clear ec); omega))]
    refine ih (j + 1) _ (by ((try clear ew); (try clear es); (try clear e1); (try clear e2); (try clear ec); omega)) ?_
    rw [show rowB w (fun x => (g x || decide (x = j)) || decide (((j + 1 : Nat) : Int) ≤ x ∧ (x : Int) < f0 + f2)) = rowB w (fun x => g x || decide ((j : Int) ≤ x ∧ (x : Int) < f0 + f2)) from rowB_congr (fun x hx => by
      rw [Bool.or_assoc]; congr 1
      by_cases e : x = j
      · subst e; rw [decide_eq_true rfl, Bool.true_or]; exact (decide_eq_true (by ((try clear ew); (try clear es); (try clear e1); (try clear e2); (try clear ec); omega))).symm
      · rw [decide_eq_false e, Bool.false_or]; exact decide_eq_decide.2 (by ((try clear ew); (try clear es); (try clear e1); (try clear e2); (try clear ec); omega)))]
    exact h
theorem acr_l1 {W H : Int} {l : List Sq} (hg : Good W H l) (w : Nat) (hw : (w : Int) = W) (O : List (List Int)) (y n1 i1 : Int) (R : List (List Int))
    (h : Ev (fun k => impl_Cut_linesAcross.l3 k O y (rowB w (bAt l y)) n1 i1 (rowB w (bAt l y)) (w : Int) 0 W H l) R) :
    ∀ (d i : Nat), l.length - i = d → i ≤ l.length → Ev (fun k => impl_Cut_linesAcross.l1 k O y (rowB w (fun x => sideP l y (x : Int) i)) n1 i1 l (l.length : Int) (i : Int) W H l) R := by
  intro d
  have h30 := hg.2.2.1
  have hW := hg.1
  have hH := hg.2.1
  induction d with
  | zero =>
    intro i hd hi
    obtain rfl : i = l.length := by ((try clear ew); (try clear es); (try clear e1); (try clear e2); (try clear ec); omega)
    refine Ev.succ ?_
    simp only [impl_Cut_linesAcross.l1, rowB_len]
    exact Ev.neg (by ((try clear ew); (try clear es); (try clear e1); (try clear e2); (try clear ec); omega)) h
  | succ d ih =>
    intro i hd hi
    have hok := (hg.2.2.2.1 i (by ((try clear ew); (try clear es); (try clear e1); (try clear e2); (try clear ec); omega))).1
    unfold Ins at hok
    have hn := ih (i + 1) (by ((try clear ew); (try clear es); (try clear e1); (try clear e2); (try clear ec); omega)) (by ((try clear ew); (try clear es); (try clear e1); (try clear e2); (try clear ec); omega))
    have ew : wrap64 ((i : Int) + 1) = ((i + 1 : Nat) : Int) := by rw [wrap64_id (by ((try clear ew); (try clear es); (try clear e1); (try clear e2); (try clear ec); omega)) (by ((try clear ew); (try clear es); (try clear e1); (try clear e2); (try clear ec); omega))]; ((try clear ew); (try clear es); (try clear e1); (try clear e2); (try clear ec); omega)
    have yes : ((sqAt l i).f1 = y ∨ (sqAt l i).f1 + (sqAt l i).f2 = y) → Ev (fun k => impl_Cut_linesAcross.j2 k O y (rowB w (fun x => sideP l y (x : Int) i)) n1 i1 l (l.length : Int) (i : Int) true W H l (sqAt l i).f0 (sqAt l i).f1 (sqAt l i).f2) R := by
      intro hy
      refine Ev.succ ?_
      simp only [impl_Cut_linesAcross.j2]
      refine Ev.pos trivial ?_
      have e0 : (sqAt l i).f0 = (((sqAt l i).f0.toNat : Nat) : Int) := by ((try clear ew); (try clear es); (try clear e1); (try clear e2); (try clear ec); omega)
      have := acr_l2 O y w n1 i1 l (l.length : Int) (i : Int) W H (sqAt l i).f0 (sqAt l i).f1 (sqAt l i).f2 R (by ((try clear ew); (try clear es); (try clear e1); (try clear e2); (try clear ec); omega)) (by ((try clear ew); (try clear es); (try clear e1); (try clear e2); (try clear ec); omega)) (by ((try clear ew); (try clear es); (try clear e1); (try clear e2); (try clear ec); omega)) (by ((try clear ew); (try clear es); (try clear e1); (try clear e2); (try clear ec); omega)) (sqAt l i).f2.toNat (sqAt l i).f0.toNat (fun x => sideP l y (x : Int) i) (by ((try clear ew); (try clear es); (try clear e1); (try clear e2); (try clear ec); omega)) (by
        rw [ew, show rowB w (fun x => sideP l y (x : Int) i || decide ((((sqAt l i).f0.toNat : Nat) : Int) ≤ x ∧ (x : Int) < (sqAt l i).f0 + (sqAt l i).f2)) = rowB w (fun x => sideP l y (x : Int) (i + 1)) from rowB_congr (fun x hx => by
          rw [sideP]; congr 1; exact decide_eq_decide.2 (by rw [← e0]; exact ⟨fun h => ⟨hy, h⟩, fun h => h.2⟩))]
        exact hn)
      rw [← e0] at this
      exact this
    have no : ¬ ((sqAt l i).f1 = y ∨ (sqAt l i).f1 + (sqAt l i).f2 = y) → Ev (fun k => impl_Cut_linesAcross.j2 k O y (rowB w (fun x => sideP l y (x : Int) i)) n1 i1 l (l.length : Int) (i : Int) false W H l (sqAt l i).f0 (sqAt l i).f1 (sqAt l i).f2) R := by
      intro hy
      refine Ev.succ ?_
      simp only [impl_Cut_linesAcross.j2]
      refine Ev.neg (by simp) ?_
      rw [ew, show rowB w (fun x => sideP l y (x : Int) i) = rowB w (fun x => sideP l y (x : Int) (i + 1)) from rowB_congr (fun x hx => by
        rw [sideP, decide_eq_false (fun h => hy h.1), Bool.or_false])]
      exact hn
    refine Ev.succ ?_
    simp only [impl_Cut_linesAcross.l1, rd_sq]
    refine Ev.pos (by ((try clear ew); (try clear es); (try clear e1); (try clear e2); (try clear ec); omega)) (Ev.pos (by ((try clear ew); (try clear es); (try clear e1); (try clear e2); (try clear ec); omega)) (Ev.pos (by ((try clear ew); (try clear es); (try clear e1); (try clear e2); (try clear ec); omega)) ?_))
    by_cases c1 : (sqAt l i).f1 = y
    · exact Ev.pos c1 (yes (.inl c1))
    · refine Ev.neg c1 ?_
      rw [wrap64_id (by ((try clear ew); (try clear es); (try clear e1); (try clear e2); (try clear ec); omega)) (by ((try clear ew); (try clear es); (try clear e1); (try clear e2); (try clear ec); omega))]
      by_cases c2 : (sqAt l i).f1 + (sqAt l i).f2 = y
      · rw [show ((sqAt l i).f1 + (sqAt l i).f2 == y) = true from by rw [c2]; exact beq_self_eq_true _]
        exact yes (.inr c2)
      · rw [show ((sqAt l i).f1 + (sqAt l i).f2 == y) = false from by simpa using c2]
        exact no (fun h => h.elim c1 c2)
theorem last_get (O : List (List Int)) (r : List Int) : (O ++ [r]).getD ((O ++ [r]).length - 1) [] = r := by simp [List.getD]
theorem last_set (O : List (List Int)) (r s : List Int) : (O ++ [r]).set ((O ++ [r]).length - 1) s = O ++ [s] := by simp
theorem acr_l3 {W H : Int} {l : List Sq} (w : Nat) (hw5 : w ≤ 1000) (b : Nat → Bool) (O : List (List Int)) (hO : O.length ≤ 1000000) (y n1 i1 : Int) (R : List (List Int))
    (h : Ev (fun k => impl_Cut_linesAcross.l0 k (O ++ fin b y w) n1 (wrap64 (i1 + 1)) W H l) R) :
    ∀ (d n : Nat), w - n = d → n ≤ w → Ev (fun k => impl_Cut_linesAcross.l3 k (O ++ fin b y n) y (rowB w b) n1 i1 (rowB w b) (w : Int) (n : Int) W H l) R := by
  intro d
  induction d with
  | zero =>
    intro n hd hn
    obtain rfl : n = w := by ((try clear ew); (try clear es); (try clear e1); (try clear e2); (try clear ec); omega)
    refine Ev.succ ?_
    simp only [impl_Cut_linesAcross.l3]
    exact Ev.neg (by ((try clear ew); (try clear es); (try clear e1); (try clear e2); (try clear ec); omega)) h
  | succ d ih =>
    intro n hd hn
    have hnx := ih (n + 1) (by ((try clear ew); (try clear es); (try clear e1); (try clear e2); (try clear ec); omega)) (by ((try clear ew); (try clear es); (try clear e1); (try clear e2); (try clear ec); omega))
    have hfl := fin_len b y n
    have ew : wrap64 ((n : Int) + 1) = (n : Int) + 1 := wrap64_id (by ((try clear ew); (try clear es); (try clear e1); (try clear e2); (try clear ec); omega)) (by ((try clear ew); (try clear es); (try clear e1); (try clear e2); (try clear ec); omega))
    have ec : ((n + 1 : Nat) : Int) = (n : Int) + 1 := by ((try clear ew); (try clear es); (try clear e1); (try clear e2); (try clear ec); omega)
    refine Ev.succ ?_
    simp only [impl_Cut_linesAcross.l3, rowB_len, rowB_rd w b n (by ((try clear ew); (try clear es); (try clear e1); (try clear e2); (try clear ec); omega)), ew]
    refine Ev.pos (by ((try clear ew); (try clear es); (try clear e1); (try clear e2); (try clear ec); omega)) (Ev.pos (by ((try clear ew); (try clear es); (try clear e1); (try clear e2); (try clear ec); omega)) (Ev.pos (by ((try clear ew); (try clear es); (try clear e1); (try clear e2); (try clear ec); omega)) ?_))
    by_cases hb : b n = true
    · refine Ev.pos hb ?_
      have new : (st b y n).2 < 0 → Ev (fun k => if (O ++ fin b y n).length < 5864062014805 then impl_Cut_linesAcross.l3 k (O ++ fin b y n ++ [[y, (n : Int), (n : Int) + 1]]) y (rowB w b) n1 i1 (rowB w b) (w : Int) ((n : Int) + 1) W H l else none) R := by
        intro h2
        refine Ev.pos (by rw [List.length_append]; ((try clear ew); (try clear es); (try clear e1); (try clear e2); (try clear ec); omega)) ?_
        rw [List.append_assoc, ← fin_new hb h2, ← ec]
        exact hnx
      by_cases h0 : 0 < n
      · refine Ev.pos (by ((try clear ew); (try clear es); (try clear e1); (try clear e2); (try clear ec); omega)) ?_
        have e1 : wrap64 ((n : Int) - 1) = ((n - 1 : Nat) : Int) := by rw [wrap64_id (by ((try clear ew); (try clear es); (try clear e1); (try clear e2); (try clear ec); omega)) (by ((try clear ew); (try clear es); (try clear e1); (try clear e2); (try clear ec); omega))]; ((try clear ew); (try clear es); (try clear e1); (try clear e2); (try clear ec); omega)
        rw [e1, rowB_rd w b (n - 1) (by ((try clear ew); (try clear es); (try clear e1); (try clear e2); (try clear ec); omega))]
        refine Ev.pos (by ((try clear ew); (try clear es); (try clear e1); (try clear e2); (try clear ec); omega)) (Ev.pos (by ((try clear ew); (try clear es); (try clear e1); (try clear e2); (try clear ec); omega)) ?_)
        by_cases hb1 : b (n - 1) = true
        · refine Ev.pos hb1 ?_
          have h2 := (st_open b y n).2 ⟨h0, hb1⟩
          rw [fin_open h2] at hfl
          rw [fin_open h2, ← List.append_assoc]
          have e2 : wrap64 (((O ++ (st b y n).1 ++ [[y, (st b y n).2, (n : Int)]]).length : Int) - 1) = (((O ++ (st b y n).1 ++ [[y, (st b y n).2, (n : Int)]]).length - 1 : Nat) : Int) := by
            rw [List.length_append] at hfl
            rw [wrap64_id (by simp only [List.length_append, List.length_singleton] at hfl ⊢; ((try clear ew); (try clear es); (try clear e1); (try clear e2); (try clear ec); omega)) (by simp only [List.length_append, List.length_singleton] at hfl ⊢; ((try clear ew); (try clear es); (try clear e1); (try clear e2); (try clear ec); omega))]; simp only [List.length_append, List.length_singleton]; ((try clear ew); (try clear es); (try clear e1); (try clear e2); (try clear ec); omega)
          have e3 : rd_L3 (O ++ (st b y n).1 ++ [[y, (st b y n).2, (n : Int)]]) (((O ++ (st b y n).1 ++ [[y, (st b y n).2, (n : Int)]]).length - 1 : Nat) : Int) = [y, (st b y n).2, (n : Int)] := by
            unfold rd_L3; rw [Int.toNat_natCast, last_get]
          rw [e2, e3, Int.toNat_natCast, last_set]
          refine Ev.pos (by ((try clear ew); (try clear es); (try clear e1); (try clear e2); (try clear ec); omega)) (Ev.pos (by simp; ((try clear ew); (try clear es); (try clear e1); (try clear e2); (try clear ec); omega)) (Ev.pos (by simp) ?_))
          show Ev (fun k => impl_Cut_linesAcross.l3 k (O ++ (st b y n).1 ++ [[y, (st b y n).2, (n : Int) + 1]]) y (rowB w b) n1 i1 (rowB w b) (w : Int) ((n : Int) + 1) W H l) R
          rw [List.append_assoc, ← fin_more hb h2, ← ec]
          exact hnx
        · refine Ev.neg hb1 (new ?_)
          have := (not_congr (st_open b y n)).2 (fun h => hb1 h.2)
          ((try clear ew); (try clear es); (try clear e1); (try clear e2); (try clear ec); omega)
      · refine Ev.neg (by ((try clear ew); (try clear es); (try clear e1); (try clear e2); (try clear ec); omega)) (new ?_)
        have := (not_congr (st_open b y n)).2 (fun h => h0 h.1)
        ((try clear ew); (try clear es); (try clear e1); (try clear e2); (try clear ec); omega)
    · refine Ev.neg hb ?_
      rw [← fin_false hb, ← ec]
      exact hnx
theorem acr_l0 {W H : Int} {l : List Sq} (hg : Good W H l) (w h : Nat) (hw : (w : Int) = W) (hh : (h : Int) = H) :
    ∀ (d y : Nat), h + 1 - y = d → y ≤ h + 1 → Ev (fun k => impl_Cut_linesAcross.l0 k (allL l w y) (H + 1) (y : Int) W H l) (allL l w (h + 1)) := by
  intro d
  have hW := hg.1
  have hH := hg.2.1
  induction d with
  | zero =>
    intro y hd hy
    obtain rfl : y = h + 1 := by ((try clear ew); (try clear es); (try clear e1); (try clear e2); (try clear ec); omega)
    refine Ev.succ ?_
    simp only [impl_Cut_linesAcross.l0]
    exact Ev.neg (by ((try clear ew); (try clear es); (try clear e1); (try clear e2); (try clear ec); omega)) (Ev.now _)
  | succ d ih =>
    intro y hd hy
    have hnx := ih (y + 1) (by ((try clear ew); (try clear es); (try clear e1); (try clear e2); (try clear ec); omega)) (by ((try clear ew); (try clear es); (try clear e1); (try clear e2); (try clear ec); omega))
    refine Ev.succ ?_
    simp only [impl_Cut_linesAcross.l0]
    refine Ev.pos (by ((try clear ew); (try clear es); (try clear e1); (try clear e2); (try clear ec); omega)) (Ev.pos (by ((try clear ew); (try clear es); (try clear e1); (try clear e2); (try clear ec); omega)) (Ev.pos (by ((try clear ew); (try clear es); (try clear e1); (try clear e2); (try clear ec); omega)) ?_))
    rw [show W.toNat = w by ((try clear ew); (try clear es); (try clear e1); (try clear e2); (try clear ec); omega), rowB_false]
    have hl := allL_len l w y
    have hyw : y * w ≤ 501 * 500 := Nat.mul_le_mul (by ((try clear ew); (try clear es); (try clear e1); (try clear e2); (try clear ec); omega)) (by ((try clear ew); (try clear es); (try clear e1); (try clear e2); (try clear ec); omega))
    have e0 : fin (bAt l (y : Int)) (y : Int) 0 = [] := rfl
    have := acr_l1 hg w hw (allL l w y) (y : Int) (H + 1) (y : Int) (allL l w (h + 1)) (by
      have := acr_l3 (W := W) (H := H) (l := l) w (by ((try clear ew); (try clear es); (try clear e1); (try clear e2); (try clear ec); omega)) (bAt l (y : Int)) (allL l w y) (by ((try clear ew); (try clear es); (try clear e1); (try clear e2); (try clear ec); omega)) (y : Int) (H + 1) (y : Int) (allL l w (h + 1)) (by
        rw [wrap64_id (by ((try clear ew); (try clear es); (try clear e1); (try clear e2); (try clear ec); omega)) (by ((try clear ew); (try clear es); (try clear e1); (try clear e2); (try clear ec); omega))]
        have e : ((y + 1 : Nat) : Int) = (y : Int) + 1 := by ((try clear ew); (try clear es); (try clear e1); (try clear e2); (try clear ec); omega)
        rw [e] at hnx
        exact hnx) w 0 (by ((try clear ew); (try clear es); (try clear e1); (try clear e2); (try clear ec); omega)) (by ((try clear ew); (try clear es); (try clear e1); (try clear e2); (try clear ec); omega))
      rw [e0, List.append_nil] at this
      exact this) l.length 0 (by ((try clear ew); (try clear es); (try clear e1); (try clear e2); (try clear ec); omega)) (by ((try clear ew); (try clear es); (try clear e1); (try clear e2); (try clear ec); omega))
    exact this
theorem impl_across_ev {W H : Int} {l : List Sq} (hg : Good W H l) : Ev (fun k => impl_Cut_linesAcross.f k W H l) (allL l W.toNat (H.toNat + 1)) := by
  have hW := hg.1
  have hH := hg.2.1
  unfold impl_Cut_linesAcross.f
  rw [wrap64_id (by ((try clear ew); (try clear es); (try clear e1); (try clear e2); (try clear ec); omega)) (by ((try clear ew); (try clear es); (try clear e1); (try clear e2); (try clear ec); omega))]
  exact acr_l0 hg W.toNat H.toNat (by ((try clear ew); (try clear es); (try clear e1); (try clear e2); (try clear ec); omega)) (by ((try clear ew); (try clear es); (try clear e1); (try clear e2); (try clear ec); omega)) (H.toNat + 1) 0 (by ((try clear ew); (try clear es); (try clear e1); (try clear e2); (try clear ec); omega)) (by ((try clear ew); (try clear es); (try clear e1); (try clear e2); (try clear ec); omega))

theorem ne_l2 {W H : Int} {l : List Sq} (hg : Good W H l) (O : List (List Int)) (y fr : Int) (n : Nat) (hn : n ≤ 1000) (R : List (List Int))
    (h : Ev (fun k => spec_neLines.j3 k O y fr (n : Int) (bAt l y n) (if bAt l y n = true then decide (fr < 0) else false) W H l) R) :
    ∀ (d i : Nat), l.length - i = d → i ≤ l.length → Ev (fun k => spec_neLines.l2 k O y fr (n : Int) (sideP l y (n : Int) i) l (l.length : Int) (i : Int) W H l) R := by
  intro d
  have h30 := hg.2.2.1
  have hW := hg.1
  have hH := hg.2.1
  induction d with
  | zero =>
    intro i hd hi
    obtain rfl : i = l.length := by ((try clear ew); (try clear es); (try clear e1); (try clear e2); (try clear ec); omega)
    refine Ev.succ ?_
    simp only [spec_neLines.l2]
    refine Ev.neg (by ((try clear ew); (try clear es); (try clear e1); (try clear e2); (try clear ec); omega)) ?_
    unfold bAt at h
    by_cases hb : sideP l y (n : Int) l.length = true
    · rw [if_pos hb] at h
      exact Ev.pos hb h
    · rw [if_neg hb] at h
      exact Ev.neg hb h
  | succ d ih =>
    intro i hd hi
    have hok := (hg.2.2.2.1 i (by ((try clear ew); (try clear es); (try clear e1); (try clear e2); (try clear ec); omega))).1
    unfold Ins at hok
    have hn2 := ih (i + 1) (by ((try clear ew); (try clear es); (try clear e1); (try clear e2); (try clear ec); omega)) (by ((try clear ew); (try clear es); (try clear e1); (try clear e2); (try clear ec); omega))
    have ew : wrap64 ((i : Int) + 1) = ((i + 1 : Nat) : Int) := by rw [wrap64_id (by ((try clear ew); (try clear es); (try clear e1); (try clear e2); (try clear ec); omega)) (by ((try clear ew); (try clear es); (try clear e1); (try clear e2); (try clear ec); omega))]; ((try clear ew); (try clear es); (try clear e1); (try clear e2); (try clear ec); omega)
    have es : wrap64 (wrap64 ((sqAt l i).f0 + (sqAt l i).f2) - 1) = (sqAt l i).f0 + (sqAt l i).f2 - 1 := by
      rw [wrap64_id (n := (sqAt l i).f0 + (sqAt l i).f2) (by ((try clear ew); (try clear es); (try clear e1); (try clear e2); (try clear ec); omega)) (by ((try clear ew); (try clear es); (try clear e1); (try clear e2); (try clear ec); omega)), wrap64_id (by ((try clear ew); (try clear es); (try clear e1); (try clear e2); (try clear ec); omega)) (by ((try clear ew); (try clear es); (try clear e1); (try clear e2); (try clear ec); omega))]
    refine Ev.succ ?_
    simp only [spec_neLines.l2, rd_sq, ew]
    refine Ev.pos (by ((try clear ew); (try clear es); (try clear e1); (try clear e2); (try clear ec); omega)) (Ev.pos (by ((try clear ew); (try clear es); (try clear e1); (try clear e2); (try clear ec); omega)) (Ev.pos (by ((try clear ew); (try clear es); (try clear e1); (try clear e2); (try clear ec); omega)) ?_))
    by_cases hs : sideP l y (n : Int) i = true
    · refine Ev.pos hs ?_
      rw [show sideP l y (n : Int) (i + 1) = true from by rw [sideP, hs, Bool.true_or]] at hn2
      exact hn2
    · refine Ev.neg hs ?_
      have hs' := Bool.eq_false_iff.2 hs
      have hin : sideP l y (n : Int) (i + 1) = decide (((sqAt l i).f1 = y ∨ (sqAt l i).f1 + (sqAt l i).f2 = y) ∧ (sqAt l i).f0 ≤ (n : Int) ∧ (n : Int) < (sqAt l i).f0 + (sqAt l i).f2) := by rw [sideP, hs', Bool.false_or]
      have yes : ((sqAt l i).f1 = y ∨ (sqAt l i).f1 + (sqAt l i).f2 = y) → Ev (fun k => (spec_l1In.f (n : Int) (sqAt l i).f0 (wrap64 (wrap64 ((sqAt l i).f0 + (sqAt l i).f2) - 1))).bind fun t => spec_neLines.l2 k O y fr (n : Int) t l (l.length : Int) ((i + 1 : Nat) : Int) W H l) R := by
        intro hy
        refine Ev.bindc (l1In_eq _ _ _) ?_
        rw [es]
        rw [hin] at hn2
        rw [show decide ((sqAt l i).f0 ≤ (n : Int) ∧ (n : Int) ≤ (sqAt l i).f0 + (sqAt l i).f2 - 1) = decide (((sqAt l i).f1 = y ∨ (sqAt l i).f1 + (sqAt l i).f2 = y) ∧ (sqAt l i).f0 ≤ (n : Int) ∧ (n : Int) < (sqAt l i).f0 + (sqAt l i).f2) from decide_eq_decide.2 ⟨fun h => ⟨hy, h.1, by ((try clear ew); (try clear es); (try clear e1); (try clear e2); (try clear ec); omega)⟩, fun h => ⟨h.2.1, by ((try clear ew); (try clear es); (try clear e1); (try clear e2); (try clear ec); omega)⟩⟩]
        exact hn2
      by_cases c1 : (sqAt l i).f1 = y
      · exact Ev.pos c1 (yes (.inl c1))
      · refine Ev.neg c1 ?_
        rw [wrap64_id (n := (sqAt l i).f1 + (sqAt l i).f2) (by ((try clear ew); (try clear es); (try clear e1); (try clear e2); (try clear ec); omega)) (by ((try clear ew); (try clear es); (try clear e1); (try clear e2); (try clear ec); omega))]
        by_cases c2 : (sqAt l i).f1 + (sqAt l i).f2 = y
        · exact Ev.pos c2 (yes (.inr c2))
        · refine Ev.neg c2 ?_
          rw [hin, decide_eq_false (fun h => h.1.elim c1 c2)] at hn2
          exact hn2
theorem ne_l1 {W H : Int} {l : List Sq} (hg : Good W H l) (w : Nat) (hw : (w : Int) = W) (O : List (List Int)) (hO : O.length ≤ 1000000) (y : Int) (R : List (List Int))
    (h : Ev (fun k => spec_neLines.l0 k (O ++ fin (bAt l y) y w) (wrap64 (y + 1)) W H l) R) :
    ∀ (d n : Nat), w + 1 - n = d → n ≤ w + 1 → Ev (fun k => spec_neLines.l1 k (O ++ (st (bAt l y) y n).1) y (st (bAt l y) y n).2 (n : Int) W H l) R := by
  intro d
  have h30 := hg.2.2.1
  have hW := hg.1
  have hH := hg.2.1
  induction d with
  | zero =>
    intro n hd hn
    obtain rfl : n = w + 1 := by ((try clear ew); (try clear es); (try clear e1); (try clear e2); (try clear ec); omega)
    refine Ev.succ ?_
    simp only [spec_neLines.l1]
    refine Ev.neg (by ((try clear ew); (try clear es); (try clear e1); (try clear e2); (try clear ec); omega)) ?_
    have hb : ¬ bAt l y w = true := by
      unfold bAt
      rw [sideP_iff]
      rintro ⟨m, hm, _, h1, h2⟩
      have hok := (hg.2.2.2.1 m hm).1
      unfold Ins at hok
      ((try clear ew); (try clear es); (try clear e1); (try clear e2); (try clear ec); omega)
    rw [st_close hb]
    exact h
  | succ d ih =>
    intro n hd hn
    have hnx := ih (n + 1) (by ((try clear ew); (try clear es); (try clear e1); (try clear e2); (try clear ec); omega)) (by ((try clear ew); (try clear es); (try clear e1); (try clear e2); (try clear ec); omega))
    have hsl := st_len (bAt l y) y n
    have ew : wrap64 ((n : Int) + 1) = ((n + 1 : Nat) : Int) := by rw [wrap64_id (by ((try clear ew); (try clear es); (try clear e1); (try clear e2); (try clear ec); omega)) (by ((try clear ew); (try clear es); (try clear e1); (try clear e2); (try clear ec); omega))]; ((try clear ew); (try clear es); (try clear e1); (try clear e2); (try clear ec); omega)
    refine Ev.succ ?_
    simp only [spec_neLines.l1]
    refine Ev.pos (by ((try clear ew); (try clear es); (try clear e1); (try clear e2); (try clear ec); omega)) ?_
    refine ne_l2 hg (O ++ (st (bAt l y) y n).1) y (st (bAt l y) y n).2 n (by ((try clear ew); (try clear es); (try clear e1); (try clear e2); (try clear ec); omega)) R ?_ l.length 0 (by ((try clear ew); (try clear es); (try clear e1); (try clear e2); (try clear ec); omega)) (by ((try clear ew); (try clear es); (try clear e1); (try clear e2); (try clear ec); omega))
    refine Ev.succ ?_
    simp only [spec_neLines.j3, ew]
    by_cases hb : bAt l y n = true
    · rw [if_pos hb]
      simp only [st, if_pos hb] at hnx
      by_cases h2 : (st (bAt l y) y n).2 < 0
      · rw [if_pos h2] at hnx
        rw [decide_eq_true h2]
        exact Ev.pos rfl (Ev.pos hb hnx)
      · rw [if_neg h2] at hnx
        rw [decide_eq_false h2]
        exact Ev.neg (by decide) (Ev.pos hb hnx)
    · have hb' := Bool.eq_false_iff.2 hb
      rw [if_neg hb]
      simp only [st, if_neg hb] at hnx
      refine Ev.neg (by decide) (Ev.neg hb ?_)
      by_cases h2 : (st (bAt l y) y n).2 < 0
      · rw [if_pos h2] at hnx
        exact Ev.neg (by ((try clear ew); (try clear es); (try clear e1); (try clear e2); (try clear ec); omega)) hnx
      · rw [if_neg h2, ← List.append_assoc] at hnx
        exact Ev.pos (by ((try clear ew); (try clear es); (try clear e1); (try clear e2); (try clear ec); omega)) (Ev.pos (by rw [List.length_append]; ((try clear ew); (try clear es); (try clear e1); (try clear e2); (try clear ec); omega)) hnx)
theorem ne_l0 {W H : Int} {l : List Sq} (hg : Good W H l) (w h : Nat) (hw : (w : Int) = W) (hh : (h : Int) = H) :
    ∀ (d y : Nat), h + 1 - y = d → y ≤ h + 1 → Ev (fun k => spec_neLines.l0 k (allL l w y) (y : Int) W H l) (allL l w (h + 1)) := by
  intro d
  have hW := hg.1
  have hH := hg.2.1
  induction d with
  | zero =>
    intro y hd hy
    obtain rfl : y = h + 1 := by ((try clear ew); (try clear es); (try clear e1); (try clear e2); (try clear ec); omega)
    refine Ev.succ ?_
    simp only [spec_neLines.l0]
    exact Ev.neg (by ((try clear ew); (try clear es); (try clear e1); (try clear e2); (try clear ec); omega)) (Ev.now _)
  | succ d ih =>
    intro y hd hy
    have hnx := ih (y + 1) (by ((try clear ew); (try clear es); (try clear e1); (try clear e2); (try clear ec); omega)) (by ((try clear ew); (try clear es); (try clear e1); (try clear e2); (try clear ec); omega))
    refine Ev.succ ?_
    simp only [spec_neLines.l0]
    refine Ev.pos (by ((try clear ew); (try clear es); (try clear e1); (try clear e2); (try clear ec); omega)) ?_
    have hl := allL_len l w y
    have hyw : y * w ≤ 501 * 500 := Nat.mul_le_mul (by ((try clear ew); (try clear es); (try clear e1); (try clear e2); (try clear ec); omega)) (by ((try clear ew); (try clear es); (try clear e1); (try clear e2); (try clear ec); omega))
    have := ne_l1 hg w hw (allL l w y) (by ((try clear ew); (try clear es); (try clear e1); (try clear e2); (try clear ec); omega)) (y : Int) (allL l w (h + 1)) (by
      rw [wrap64_id (by ((try clear ew); (try clear es); (try clear e1); (try clear e2); (try clear ec); omega)) (by ((try clear ew); (try clear es); (try clear e1); (try clear e2); (try clear ec); omega))]
      have e : ((y + 1 : Nat) : Int) = (y : Int) + 1 := by ((try clear ew); (try clear es); (try clear e1); (try clear e2); (try clear ec); omega)
      rw [e] at hnx
      exact hnx) (w + 1) 0 (by ((try clear ew); (try clear es); (try clear e1); (try clear e2); (try clear ec); omega)) (by ((try clear ew); (try clear es); (try clear e1); (try clear e2); (try clear ec); omega))
    simpa [st] using this
theorem spec_lines_ev {W H : Int} {l : List Sq} (hg : Good W H l) : Ev (fun k => spec_neLines.f k W H l) (allL l W.toNat (H.toNat + 1)) := by
  have hW := hg.1
  have hH := hg.2.1
  unfold spec_neLines.f
  exact ne_l0 hg W.toNat H.toNat (by ((try clear ew); (try clear es); (try clear e1); (try clear e2); (try clear ec); omega)) (by ((try clear ew); (try clear es); (try clear e1); (try clear e2); (try clear ec); omega)) (H.toNat + 1) 0 (by ((try clear ew); (try clear es); (try clear e1); (try clear e2); (try clear ec); omega)) (by ((try clear ew); (try clear es); (try clear e1); (try clear e2); (try clear ec); omega))

/-! ### lists of numbers: the same, marked, held -/
theorem rd_int (l : List Int) (j : Nat) (h : j < l.length) : rd l (j : Int) = l[j] := by unfold rd; rw [Int.toNat_natCast]; simp [List.getD, h]
theorem eqIntS_loop (l : List Int) (hl : l.length ≤ 1099511627776) : ∀ (d i : Nat), l.length - i = d → i ≤ l.length → Ev (fun k => laws_eqIntS.l0 k l l (i : Int)) true := by
  intro d
  induction d with
  | zero =>
    intro i hd hi
    refine Ev.succ ?_
    simp only [laws_eqIntS.l0]
    exact Ev.neg (by omega) (Ev.now _)
  | succ d ih =>
    intro i hd hi
    refine Ev.succ ?_
    simp only [laws_eqIntS.l0]
    refine Ev.pos (by omega) (Ev.pos (by omega) (Ev.pos (by omega) (Ev.pos trivial ?_)))
    rw [wrap64_id (by omega) (by omega)]
    exact ih (i + 1) (by omega) (by omega)
theorem eqIntS_ev (l : List Int) (hl : l.length ≤ 1099511627776) : Ev (fun k => laws_eqIntS.f k l l) true := by
  unfold laws_eqIntS.f
  exact Ev.pos rfl (eqIntS_loop l hl l.length 0 (by omega) (Nat.zero_le _))
/-- the numbers from s on -/
def upFrom (s : Int) : Nat → List Int
  | 0 => []
  | n + 1 => s :: upFrom (s + 1) n
theorem upFrom_length (n : Nat) : ∀ s, (upFrom s n).length = n := by
  induction n with
  | zero => intro s; rfl
  | succ n ih => intro s; simp [upFrom, ih]
theorem upFrom_get (n : Nat) : ∀ (s : Int) (i : Nat), i < n → (upFrom s n)[i]? = some (s + i) := by
  induction n with
  | zero => intro s i h; omega
  | succ n ih =>
    intro s i h
    cases i with
    | zero => simp [upFrom]
    | succ i => simp only [upFrom, List.getElem?_cons_succ]; rw [ih (s + 1) i (by omega)]; congr 1; omega
theorem markIntS_loop (N : Nat) (hN : N ≤ 1099511627776) (s : Int) (hs : 0 ≤ s) (hs2 : s ≤ 1099511627776) : ∀ (d i : Nat) (x : List Int), N - i = d → i ≤ N → x.length = N → (∀ m, m < i → x[m]? = (upFrom s N)[m]?) →
    Ev (fun k => laws_markIntS.l0 k x (s + i) (i : Int)) (s + N, upFrom s N) := by
  intro d
  induction d with
  | zero =>
    intro i x hd hi hx h
    obtain rfl : i = N := by omega
    refine Ev.succ ?_
    simp only [laws_markIntS.l0]
    refine Ev.neg (by omega) (Ev.eqr (Ev.now _) ?_)
    congr 1
    apply List.ext_getElem?
    intro m
    by_cases hm : m < i
    · exact h m hm
    · rw [List.getElem?_eq_none (by omega), List.getElem?_eq_none (by rw [upFrom_length]; omega)]
  | succ d ih =>
    intro i x hd hi hx h
    refine Ev.succ ?_
    simp only [laws_markIntS.l0]
    refine Ev.pos (by omega) (Ev.pos (by omega) ?_)
    rw [Int.toNat_natCast, wrap64_id (n := s + i + 1) (by omega) (by omega), wrap64_id (n := (i : Int) + 1) (by omega) (by omega)]
    have e : s + (i : Int) + 1 = s + ((i + 1 : Nat) : Int) := by omega
    rw [e]
    refine ih (i + 1) _ (by omega) (by omega) (by simp; omega) (fun m hm => ?_)
    by_cases e : m = i
    · subst e
      rw [List.getElem?_set_self (by omega), upFrom_get _ _ _ (by omega)]
    · rw [List.getElem?_set_ne (by omega)]; exact h m (by omega)
theorem heldIntS_loop (N : Nat) (hN : N ≤ 1099511627776) (s : Int) (hs : 0 ≤ s) (hs2 : s ≤ 1099511627776) : ∀ (d i : Nat), N - i = d → i ≤ N →
    Ev (fun k => laws_heldIntS.l0 k (upFrom s N) (s + i) (i : Int)) (s + N) := by
  intro d
  induction d with
  | zero =>
    intro i hd hi
    obtain rfl : i = N := by omega
    refine Ev.succ ?_
    simp only [laws_heldIntS.l0, upFrom_length]
    exact Ev.neg (by omega) (Ev.now _)
  | succ d ih =>
    intro i hd hi
    refine Ev.succ ?_
    simp only [laws_heldIntS.l0, upFrom_length]
    have hr : rd (upFrom s N) (i : Int) = s + i := by
      unfold rd; rw [Int.toNat_natCast, List.getD_eq_getElem?_getD, upFrom_get _ _ _ (by omega)]; rfl
    refine Ev.pos (by omega) (Ev.pos (by omega) (Ev.pos hr ?_))
    rw [wrap64_id (n := s + i + 1) (by omega) (by omega), wrap64_id (n := (i : Int) + 1) (by omega) (by omega)]
    have e : s + (i : Int) + 1 = s + ((i + 1 : Nat) : Int) := by omega
    rw [e]
    exact ih (i + 1) (by omega) (by omega)
theorem markIntS_ev (l : List Int) (hl : l.length ≤ 1099511627776) (s : Int) (hs : 0 ≤ s) (hs2 : s ≤ 1099511627776) : Ev (fun k => laws_markIntS.f k l s) (s + (l.length : Int), upFrom s l.length) := by
  unfold laws_markIntS.f
  have := markIntS_loop l.length hl s hs hs2 l.length 0 l (by omega) (Nat.zero_le _) rfl (fun m hm => by omega)
  simpa using this
theorem heldIntS_ev (n : Nat) (hl : n ≤ 1099511627776) (s : Int) (hs : 0 ≤ s) (hs2 : s ≤ 1099511627776) : Ev (fun k => laws_heldIntS.f k (upFrom s n) s) (s + (n : Int)) := by
  unfold laws_heldIntS.f
  have := heldIntS_loop n hl s hs hs2 n 0 (by omega) (Nat.zero_le _)
  simpa using this

/-! ### wires -/
abbrev Wr := S83
def wrAt (l : List Wr) (j : Nat) : Wr := l.getD j z83
theorem rd_wr (l : List Wr) (j : Nat) : rd_T83 l (j : Int) = wrAt l j := by unfold rd_T83 wrAt; rw [Int.toNat_natCast]
theorem wrAt_get (l : List Wr) (j : Nat) (h : j < l.length) : wrAt l j = l[j] := by unfold wrAt; simp [List.getD, h]
theorem wr_drop (l : List Wr) (i : Nat) (w : Wr) (t : List Wr) (h : l.drop i = w :: t) : i < l.length ∧ wrAt l i = w ∧ l.drop (i + 1) = t ∧ w ∈ l ∧ i + 1 + t.length = l.length := by
  have h1 : i < l.length := by
    apply Decidable.byContradiction
    intro hn
    rw [List.drop_eq_nil_of_le (by omega)] at h; cases h
  rw [List.drop_eq_getElem_cons h1] at h
  injection h with ha hb
  refine ⟨h1, by rw [wrAt_get l i h1]; exact ha, hb, by rw [← ha]; exact List.getElem_mem h1, ?_⟩
  rw [← hb, List.length_drop]; omega

theorem eqWireS_loop (l : List Wr) (hl : l.length ≤ 1099511627776) : ∀ (d i : Nat), l.length - i = d → i ≤ l.length → Ev (fun k => laws_eqWireS.l0 k l l (i : Int)) true := by
  intro d
  induction d with
  | zero =>
    intro i hd hi
    refine Ev.succ ?_
    simp only [laws_eqWireS.l0]
    exact Ev.neg (by omega) (Ev.now _)
  | succ d ih =>
    intro i hd hi
    refine Ev.succ ?_
    simp only [laws_eqWireS.l0]
    refine Ev.pos (by omega) (Ev.pos (by omega) (Ev.pos (by omega) (Ev.bindc (a := true) (by unfold laws_eqWire.f; simp) (Ev.pos rfl ?_))))
    rw [wrap64_id (by omega) (by omega)]
    exact ih (i + 1) (by omega) (by omega)
theorem eqWireS_ev (l : List Wr) (hl : l.length ≤ 1099511627776) : Ev (fun k => laws_eqWireS.f k l l) true := by
  unfold laws_eqWireS.f
  exact Ev.pos rfl (eqWireS_loop l hl l.length 0 (by omega) (Nat.zero_le _))
theorem eqNet_ev (n : Int) (l : List Wr) (hl : l.length ≤ 1099511627776) : Ev (fun k => laws_eqNet.f k n l n l) true := by
  unfold laws_eqNet.f
  exact Ev.pos rfl (Ev.bind (eqWireS_ev l hl) (Ev.pos rfl (Ev.now _)))

/-! ### wires that are marked and held -/
def upW (s : Int) : Nat → List Wr
  | 0 => []
  | n + 1 => ⟨s, s + 1⟩ :: upW (s + 2) n
theorem upW_length (n : Nat) : ∀ s, (upW s n).length = n := by
  induction n with
  | zero => intro s; rfl
  | succ n ih => intro s; simp [upW, ih]
theorem upW_get (n : Nat) : ∀ (s : Int) (i : Nat), i < n → (upW s n)[i]? = some ⟨s + 2 * i, s + 2 * i + 1⟩ := by
  induction n with
  | zero => intro s i h; omega
  | succ n ih =>
    intro s i h
    cases i with
    | zero => simp [upW]
    | succ i =>
      simp only [upW, List.getElem?_cons_succ]; rw [ih (s + 2) i (by omega)]
      have e : s + 2 + 2 * (i : Int) = s + 2 * ((i + 1 : Nat) : Int) := by omega
      rw [e]
theorem markWireS_loop (N : Nat) (hN : N ≤ 1099511627776) (s : Int) (hs : 0 ≤ s) (hs2 : s ≤ 1099511627776) : ∀ (d i : Nat) (x : List Wr), N - i = d → i ≤ N → x.length = N → (∀ m, m < i → x[m]? = (upW s N)[m]?) →
    Ev (fun k => laws_markWireS.l0 k x (s + 2 * i) (i : Int)) (s + 2 * N, upW s N) := by
  intro d
  induction d with
  | zero =>
    intro i x hd hi hx h
    obtain rfl : i = N := by omega
    refine Ev.succ ?_
    simp only [laws_markWireS.l0]
    refine Ev.neg (by omega) (Ev.eqr (Ev.now _) ?_)
    congr 1
    apply List.ext_getElem?
    intro m
    by_cases hm : m < i
    · exact h m hm
    · rw [List.getElem?_eq_none (by omega), List.getElem?_eq_none (by rw [upW_length]; omega)]
  | succ d ih =>
    intro i x hd hi hx h
    refine Ev.succ ?_
    simp only [laws_markWireS.l0]
    refine Ev.pos (by omega) (Ev.pos (by omega) (Ev.bindc rfl ?_))
    have hi' : i < x.length := by omega
    have g1 : ∀ q : Wr, wrAt (x.set i q) i = q := fun q => by unfold wrAt; simp [List.getD, hi']
    simp only [Int.toNat_natCast, rd_wr, g1]
    rw [wrap64_id (n := s + 2 * i + 1) (by omega) (by omega), wrap64_id (n := s + 2 * i + 1 + 1) (by omega) (by omega), wrap64_id (n := (i : Int) + 1) (by omega) (by omega)]
    have e : s + 2 * (i : Int) + 1 + 1 = s + 2 * ((i + 1 : Nat) : Int) := by omega
    rw [e]
    refine ih (i + 1) _ (by omega) (by omega) (by simp; omega) (fun m hm => ?_)
    by_cases e : m = i
    · subst e
      rw [List.getElem?_set_self (by simp; omega), upW_get _ _ _ (by omega)]
    · rw [List.getElem?_set_ne (by omega), List.getElem?_set_ne (by omega)]; exact h m (by omega)
theorem heldWireS_loop (N : Nat) (hN : N ≤ 1099511627776) (s : Int) (hs : 0 ≤ s) (hs2 : s ≤ 1099511627776) : ∀ (d i : Nat), N - i = d → i ≤ N →
    Ev (fun k => laws_heldWireS.l0 k (upW s N) (s + 2 * i) (i : Int)) (s + 2 * N) := by
  intro d
  induction d with
  | zero =>
    intro i hd hi
    obtain rfl : i = N := by omega
    refine Ev.succ ?_
    simp only [laws_heldWireS.l0, upW_length]
    exact Ev.neg (by omega) (Ev.now _)
  | succ d ih =>
    intro i hd hi
    refine Ev.succ ?_
    simp only [laws_heldWireS.l0, upW_length]
    have hr : rd_T83 (upW s N) (i : Int) = ⟨s + 2 * i, s + 2 * i + 1⟩ := by
      rw [rd_wr]; unfold wrAt; rw [List.getD_eq_getElem?_getD, upW_get _ _ _ (by omega)]; rfl
    rw [hr, wrap64_id (n := s + 2 * i + 1) (by omega) (by omega), wrap64_id (n := s + 2 * i + 1 + 1) (by omega) (by omega), wrap64_id (n := (i : Int) + 1) (by omega) (by omega)]
    refine Ev.pos (by omega) (Ev.pos (by omega) (Ev.pos rfl (Ev.pos rfl ?_)))
    have e : s + 2 * (i : Int) + 1 + 1 = s + 2 * ((i + 1 : Nat) : Int) := by omega
    rw [e]
    exact ih (i + 1) (by omega) (by omega)
theorem markNet_ev (n : Int) (l : List Wr) (hl : l.length ≤ 1099511627776) (s : Int) (hs : 0 ≤ s) (hs2 : s ≤ 1099511627776) : Ev (fun k => laws_markNet.f k n l s) (s + 2 * (l.length : Int), upW s l.length) := by
  unfold laws_markNet.f laws_markWireS.f
  have := markWireS_loop l.length hl s hs hs2 l.length 0 l (by omega) (Nat.zero_le _) rfl (fun m hm => by omega)
  exact Ev.bind (by simpa using this) (Ev.now _)

theorem heldNet_ev (n : Int) (N : Nat) (hl : N ≤ 1099511627776) (s : Int) (hs : 0 ≤ s) (hs2 : s ≤ 1099511627776) : Ev (fun k => laws_heldNet.f k n (upW s N) s) (s + 2 * (N : Int)) := by
  unfold laws_heldNet.f laws_heldWireS.f
  have := heldWireS_loop N hl s hs hs2 N 0 (by omega) (Nat.zero_le _)
  exact Ev.bind (by simpa using this) (Ev.neg (by omega) (Ev.now _))

/-! ### the net of a cut: the line that a square's edge lies in -/
theorem st_le (b : Nat → Bool) (y : Int) : ∀ n, (st b y n).2 ≤ n
  | 0 => by simp [st]
  | n + 1 => by
    have := st_le b y n
    simp only [st]
    split
    · split <;> omega
    · split
      · omega
      · simp only; omega
theorem fin_cover (b : Nat → Bool) (y : Int) : ∀ n x, x < n → b x = true → ∃ a z, [y, a, z] ∈ fin b y n ∧ a ≤ (x : Int) ∧ (x : Int) < z ∧ z ≤ n
  | 0, x, h, _ => by omega
  | n + 1, x, h, hb => by
    by_cases e : b n = true
    · by_cases h2 : (st b y n).2 < 0
      · rw [fin_new e h2]
        by_cases q : x = n
        · subst q; exact ⟨_, _, List.mem_append_right _ (List.mem_singleton_self _), by omega, by omega, by omega⟩
        · obtain ⟨a, z, h3, h4, h5, h6⟩ := fin_cover b y n x (by omega) hb
          exact ⟨a, z, List.mem_append_left _ h3, h4, h5, by omega⟩
      · rw [fin_more e h2]
        have hle := st_le b y n
        by_cases q : x = n
        · subst q; exact ⟨_, _, List.mem_append_right _ (List.mem_singleton_self _), hle, by omega, by omega⟩
        · obtain ⟨a, z, h3, h4, h5, h6⟩ := fin_cover b y n x (by omega) hb
          rw [fin_open h2] at h3
          rcases List.mem_append.1 h3 with h3 | h3
          · exact ⟨a, z, List.mem_append_left _ h3, h4, h5, by omega⟩
          · have := List.mem_singleton.1 h3
            injection this with _ this
            injection this with ha this
            injection this with hz _
            exact ⟨a, (n : Int) + 1, List.mem_append_right _ (by rw [ha]; exact List.mem_singleton_self _), h4, by omega, by omega⟩
    · rw [fin_false e]
      by_cases q : x = n
      · subst q; exact absurd hb e
      · obtain ⟨a, z, h3, h4, h5, h6⟩ := fin_cover b y n x (by omega) hb
        exact ⟨a, z, h3, h4, h5, by omega⟩
theorem allL_mem (l : List Sq) (w : Nat) : ∀ (n y : Nat), y < n → ∀ r ∈ fin (bAt l (y : Int)) (y : Int) w, r ∈ allL l w n
  | 0, y, h, _, _ => by omega
  | n + 1, y, h, r, hr => by
    rw [allL]
    by_cases e : y = n
    · subst e; exact List.mem_append_right _ hr
    · exact List.mem_append_left _ (allL_mem l w n y (by omega) r hr)
def linP (L : List (List Int)) (y x : Int) (k : Nat) : Bool := decide (rd (L.getD k []) 0 = y ∧ rd (L.getD k []) 1 ≤ x ∧ x ≤ wrap64 (rd (L.getD k []) 2 - 1))
def ixF (P : Nat → Bool) : Nat → Nat → Nat
  | 0, i => i
  | d + 1, i => if P i = true then i else ixF P d (i + 1)
theorem line_at {W H : Int} {l : List Sq} (hg : Good W H l) {s : Sq} (hs : s ∈ l) (y : Int) (hy : y = s.f1 ∨ y = s.f1 + s.f2) : ∃ k, k < (allL l W.toNat (H.toNat + 1)).length ∧ linP (allL l W.toNat (H.toNat + 1)) y s.f0 k = true := by
  have hW := hg.1
  have hH := hg.2.1
  obtain ⟨m, hm, rfl⟩ := List.mem_iff_getElem.1 hs
  have hi := (hg.2.2.2.1 m hm).1
  rw [sqAt_get l m hm] at hi
  unfold Ins at hi
  have cov : bAt l ((y.toNat : Nat) : Int) ((l[m]).f0.toNat) = true := by
    unfold bAt
    rw [sideP_iff]
    refine ⟨m, hm, ?_⟩
    rw [sqAt_get l m hm]
    omega
  obtain ⟨a, z, h1, h2, h3, h4⟩ := fin_cover (bAt l ((y.toNat : Nat) : Int)) ((y.toNat : Nat) : Int) W.toNat (l[m]).f0.toNat (by omega) cov
  have hmem := allL_mem l W.toNat (H.toNat + 1) y.toNat (by omega) _ h1
  obtain ⟨k, hk, e⟩ := List.mem_iff_getElem.1 hmem
  refine ⟨k, hk, ?_⟩
  unfold linP
  rw [List.getD_eq_getElem?_getD, List.getElem?_eq_getElem hk, Option.getD_some, e]
  have e0 : rd [((y.toNat : Nat) : Int), a, z] 0 = ((y.toNat : Nat) : Int) := rfl
  have e1 : rd [((y.toNat : Nat) : Int), a, z] 1 = a := rfl
  have e2 : rd [((y.toNat : Nat) : Int), a, z] 2 = z := rfl
  rw [e0, e1, e2, wrap64_id (by omega) (by omega), decide_eq_true_eq]
  omega
theorem rd_rows (L : List (List Int)) (k : Nat) : rd_L3 L (k : Int) = L.getD k [] := by unfold rd_L3; rw [Int.toNat_natCast]
theorem spec_line_loop (L : List (List Int)) (hl : L.length ≤ 1000000) (h3 : ∀ r ∈ L, r.length = 3) (y x : Int) : ∀ (d i : Nat), L.length - i = d → (∃ k, i ≤ k ∧ k < L.length ∧ linP L y x k = true) → Ev (fun k => spec_neLine.l0 k y x L (L.length : Int) (i : Int)) (ixF (linP L y x) d i : Int) := by
  intro d
  induction d with
  | zero => intro i hd hk; obtain ⟨k, h1, h2, _⟩ := hk; omega
  | succ d ih =>
    intro i hd hk
    have hi : i < L.length := by omega
    have hr : (L.getD i []).length = 3 := by
      rw [List.getD_eq_getElem?_getD, List.getElem?_eq_getElem hi, Option.getD_some]; exact h3 _ (List.getElem_mem hi)
    have nx : linP L y x i = false → Ev (fun k => spec_neLine.l0 k y x L (L.length : Int) (wrap64 ((i : Int) + 1))) (ixF (linP L y x) (d + 1) i : Int) := by
      intro hf
      rw [wrap64_id (by omega) (by omega), ixF, if_neg (by rw [hf]; decide)]
      refine ih (i + 1) (by omega) ?_
      obtain ⟨k, h1, h2, h4⟩ := hk
      have hne : k ≠ i := fun e => by rw [e, hf] at h4; cases h4
      exact ⟨k, by omega, h2, h4⟩
    have hdef : linP L y x i = decide (rd (L.getD i []) 0 = y ∧ rd (L.getD i []) 1 ≤ x ∧ x ≤ wrap64 (rd (L.getD i []) 2 - 1)) := rfl
    refine Ev.succ ?_
    simp only [spec_neLine.l0, rd_rows, hr]
    refine Ev.pos (by omega) (Ev.pos (by omega) (Ev.pos (by omega) (Ev.pos (by omega) ?_)))
    by_cases c : rd (L.getD i []) 0 = y
    · refine Ev.pos c (Ev.pos (by omega) (Ev.pos (by omega) (Ev.bindc (l1In_eq _ _ _) ?_)))
      by_cases c2 : rd (L.getD i []) 1 ≤ x ∧ x ≤ wrap64 (rd (L.getD i []) 2 - 1)
      · refine Ev.pos (decide_eq_true c2) (Ev.eqr (Ev.now _) ?_)
        rw [ixF, if_pos (by rw [hdef]; exact decide_eq_true ⟨c, c2⟩)]
      · exact Ev.neg (by simpa using c2) (nx (by rw [hdef]; exact decide_eq_false (fun h => c2 h.2)))
    · exact Ev.neg c (nx (by rw [hdef]; exact decide_eq_false (fun h => c h.1)))
theorem impl_line_loop (L : List (List Int)) (hl : L.length ≤ 1000000) (h3 : ∀ r ∈ L, r.length = 3) (y x : Int) : ∀ (d i : Nat), L.length - i = d → (∃ k, i ≤ k ∧ k < L.length ∧ linP L y x k = true) → Ev (fun k => slices_IndexFunc_int_int__impl_NetOfCut_1_1.l0 k L (L.length : Int) (i : Int) y x) (ixF (linP L y x) d i : Int) := by
  intro d
  induction d with
  | zero => intro i hd hk; obtain ⟨k, h1, h2, _⟩ := hk; omega
  | succ d ih =>
    intro i hd hk
    have hi : i < L.length := by omega
    have hr : (L.getD i []).length = 3 := by
      rw [List.getD_eq_getElem?_getD, List.getElem?_eq_getElem hi, Option.getD_some]; exact h3 _ (List.getElem_mem hi)
    have nx : linP L y x i = false → Ev (fun k => slices_IndexFunc_int_int__impl_NetOfCut_1_1.l0 k L (L.length : Int) (wrap64 ((i : Int) + 1)) y x) (ixF (linP L y x) (d + 1) i : Int) := by
      intro hf
      rw [wrap64_id (by omega) (by omega), ixF, if_neg (by rw [hf]; decide)]
      refine ih (i + 1) (by omega) ?_
      obtain ⟨k, h1, h2, h4⟩ := hk
      have hne : k ≠ i := fun e => by rw [e, hf] at h4; cases h4
      exact ⟨k, by omega, h2, h4⟩
    have cl : impl_NetOfCut_1_1.f (L.getD i []) y x = some (linP L y x i) := by
      unfold impl_NetOfCut_1_1.f linP
      rw [hr, if_pos (by omega)]
      by_cases c : rd (L.getD i []) 0 = y
      · rw [if_pos c, if_pos (by omega), if_pos (by omega), within_eq, Option.bind_some]
        congr 1
        exact decide_eq_decide.2 ⟨fun h => ⟨c, h⟩, fun h => h.2⟩
      · rw [if_neg c, decide_eq_false (fun h => c h.1)]
    refine Ev.succ ?_
    simp only [slices_IndexFunc_int_int__impl_NetOfCut_1_1.l0, rd_rows]
    refine Ev.pos (by omega) (Ev.pos (by omega) (Ev.pos (by omega) (Ev.bindc cl ?_)))
    by_cases c : linP L y x i = true
    · refine Ev.pos c (Ev.eqr (Ev.now _) ?_)
      rw [ixF, if_pos c]
    · exact Ev.neg c (nx (by simpa using c))
def wireOf (L : List (List Int)) (s : Sq) : Wr := ⟨(ixF (linP L s.f1 s.f0) L.length 0 : Nat), (ixF (linP L (s.f1 + s.f2) s.f0) L.length 0 : Nat)⟩
theorem take_mapG {β : Type} (l : List Sq) (f : Sq → β) (i : Nat) (s : Sq) (t : List Sq) (h : l.drop i = s :: t) : (l.take i).map f ++ [f s] = (l.take (i + 1)).map f := by
  obtain ⟨h1, h2, _⟩ := sqs_drop l i s t h
  have e : l.take (i + 1) = l.take i ++ [s] := by
    rw [List.take_add_one, List.getElem?_eq_getElem h1, ← h2, sqAt_get l i h1]; rfl
  rw [e, List.map_append]; rfl
theorem neOf_loop {W H : Int} {l : List Sq} (hg : Good W H l) (L : List (List Int)) (hL : L = allL l W.toNat (H.toNat + 1)) (hl : L.length ≤ 1000000) : ∀ (t : List Sq) (i : Nat), l.drop i = t → i + t.length = l.length →
    Ev (fun k => spec_neOf.l0 k L ((l.take i).map (fun s => s.f2)) l (l.length : Int) (i : Int) (L.length : Int) ((l.take i).map (wireOf L))) ((L.length : Int), l.map (wireOf L), l.map (fun s => s.f2)) := by
  have h30 := hg.2.2.1
  intro t
  induction t with
  | nil =>
    intro i hd hi
    simp only [List.length_nil] at hi
    refine Ev.succ ?_
    simp only [spec_neOf.l0]
    rw [List.take_of_length_le (by omega)]
    exact Ev.neg (by omega) (Ev.now _)
  | cons s t ih =>
    intro i hd hi
    obtain ⟨h1, h2, h3⟩ := sqs_drop l i s t hd
    have hs : s ∈ l := by rw [← h2]; exact sqAt_mem l i h1
    simp only [List.length_cons] at hi
    have hW := hg.1; have hH := hg.2.1
    have hin := (hg.2.2.2.1 i h1).1
    rw [h2] at hin
    unfold Ins at hin
    have r3 : ∀ r ∈ L, r.length = 3 := by rw [hL]; exact allL_row l _ _
    obtain ⟨k1, a1, b1⟩ := line_at hg hs s.f1 (Or.inl rfl)
    obtain ⟨k2, a2, b2⟩ := line_at hg hs (s.f1 + s.f2) (Or.inr rfl)
    rw [← hL] at a1 b1 a2 b2
    have v1 := spec_line_loop L hl r3 s.f1 s.f0 L.length 0 (by omega) ⟨k1, Nat.zero_le _, a1, b1⟩
    have v2 := spec_line_loop L hl r3 (s.f1 + s.f2) s.f0 L.length 0 (by omega) ⟨k2, Nat.zero_le _, a2, b2⟩
    have hn := ih (i + 1) h3 (by omega)
    rw [← take_mapG l (wireOf L) i s t hd, ← take_mapG l (fun s => s.f2) i s t hd] at hn
    refine Ev.succ ?_
    simp only [spec_neOf.l0, rd_sq, h2]
    refine Ev.pos (by omega) (Ev.pos (by omega) (Ev.pos (by omega) (Ev.bind v1 ?_)))
    rw [wrap64_id (n := s.f1 + s.f2) (by omega) (by omega)]
    refine Ev.bind v2 (Ev.pos (by rw [List.length_map, List.length_take]; omega) (Ev.pos (by rw [List.length_map, List.length_take]; omega) ?_))
    rw [wrap64_id (n := (i : Int) + 1) (by omega) (by omega)]
    exact hn
theorem impl_net_loop {W H : Int} {l : List Sq} (hg : Good W H l) (L : List (List Int)) (hL : L = allL l W.toNat (H.toNat + 1)) (hl : L.length ≤ 1000000) : ∀ (t : List Sq) (i : Nat), l.drop i = t → i + t.length = l.length →
    Ev (fun k => impl_NetOfCut.l0 k l (l.length : Int) (i : Int) W H l L (L.length : Int) ((l.take i).map (wireOf L))) ((L.length : Int), l.map (wireOf L), l.map (fun s => s.f2), true) := by
  have h30 := hg.2.2.1
  intro t
  induction t with
  | nil =>
    intro i hd hi
    simp only [List.length_nil] at hi
    refine Ev.succ ?_
    simp only [impl_NetOfCut.l0]
    rw [List.take_of_length_le (by omega)]
    exact Ev.neg (by omega) (Ev.bind (impl_sides_ev l (by omega)) (Ev.now _))
  | cons s t ih =>
    intro i hd hi
    obtain ⟨h1, h2, h3⟩ := sqs_drop l i s t hd
    have hs : s ∈ l := by rw [← h2]; exact sqAt_mem l i h1
    simp only [List.length_cons] at hi
    have hW := hg.1; have hH := hg.2.1
    have hin := (hg.2.2.2.1 i h1).1
    rw [h2] at hin
    unfold Ins at hin
    have r3 : ∀ r ∈ L, r.length = 3 := by rw [hL]; exact allL_row l _ _
    obtain ⟨k1, a1, b1⟩ := line_at hg hs s.f1 (Or.inl rfl)
    obtain ⟨k2, a2, b2⟩ := line_at hg hs (s.f1 + s.f2) (Or.inr rfl)
    rw [← hL] at a1 b1 a2 b2
    have v1 : Ev (fun k => impl_NetOfCut_1.f k s.f0 s.f1 L) (ixF (linP L s.f1 s.f0) L.length 0 : Int) := by
      unfold impl_NetOfCut_1.f slices_IndexFunc_int_int__impl_NetOfCut_1_1.f
      exact Ev.bind (impl_line_loop L hl r3 s.f1 s.f0 L.length 0 (by omega) ⟨k1, Nat.zero_le _, a1, b1⟩) (Ev.now _)
    have v2 : Ev (fun k => impl_NetOfCut_1.f k s.f0 (s.f1 + s.f2) L) (ixF (linP L (s.f1 + s.f2) s.f0) L.length 0 : Int) := by
      unfold impl_NetOfCut_1.f slices_IndexFunc_int_int__impl_NetOfCut_1_1.f
      exact Ev.bind (impl_line_loop L hl r3 (s.f1 + s.f2) s.f0 L.length 0 (by omega) ⟨k2, Nat.zero_le _, a2, b2⟩) (Ev.now _)
    have hn := ih (i + 1) h3 (by omega)
    rw [← take_mapG l (wireOf L) i s t hd] at hn
    refine Ev.succ ?_
    simp only [impl_NetOfCut.l0, rd_sq, h2]
    refine Ev.pos (by omega) (Ev.pos (by omega) (Ev.pos (by omega) (Ev.bind v1 ?_)))
    rw [wrap64_id (n := s.f1 + s.f2) (by omega) (by omega)]
    refine Ev.bind v2 (Ev.pos (by rw [List.length_map, List.length_take]; omega) ?_)
    rw [wrap64_id (n := (i : Int) + 1) (by omega) (by omega)]
    exact hn
open Classical in
noncomputable def netOfCut (W H : Int) (l : List Sq) : Int × List Wr × List Int × Bool := if Good W H l ∧ (allL l W.toNat (H.toNat + 1)).length ≤ 12 then (((allL l W.toNat (H.toNat + 1)).length : Int), l.map (wireOf (allL l W.toNat (H.toNat + 1))), l.map (fun s => s.f2), true) else (0, [], [], false)
theorem netOfCut_len (W H : Int) (l : List Sq) : (netOfCut W H l).2.1.length ≤ 30 ∧ (netOfCut W H l).2.2.1.length ≤ 30 := by
  unfold netOfCut; split
  · rename_i h
    have := h.1.2.2.1
    simp only [List.length_map]; omega
  · simp
theorem lines_len {W H : Int} {l : List Sq} (hg : Good W H l) : (allL l W.toNat (H.toNat + 1)).length ≤ 1000000 := by
  have hW := hg.1
  have hH := hg.2.1
  have h1 := allL_len l W.toNat (H.toNat + 1)
  have h2 : (H.toNat + 1) * W.toNat ≤ 501 * 500 := Nat.mul_le_mul (by omega) (by omega)
  omega
theorem spec_NetOfCut_ev (W H : Int) (l : List Sq) : Ev (fun k => spec_NetOfCut.f k W H l) (netOfCut W H l) := by
  unfold spec_NetOfCut.f netOfCut
  refine Ev.bind (spec_cuGood_ev W H l) ?_
  by_cases hg : Good W H l
  · refine Ev.pos (decide_eq_true hg) (Ev.bind (a := (((allL l W.toNat (H.toNat + 1)).length : Int), l.map (wireOf (allL l W.toNat (H.toNat + 1))), l.map (fun s => s.f2))) ?_ ?_)
    · unfold spec_neOf.f
      exact Ev.bind (spec_lines_ev hg) (neOf_loop hg _ rfl (lines_len hg) l 0 rfl (by omega))
    · by_cases c : (allL l W.toNat (H.toNat + 1)).length ≤ 12
      · rw [if_pos (show Good W H l ∧ (allL l W.toNat (H.toNat + 1)).length ≤ 12 from ⟨hg, c⟩)]
        exact Ev.neg (by omega) (Ev.now _)
      · rw [if_neg (show ¬ (Good W H l ∧ (allL l W.toNat (H.toNat + 1)).length ≤ 12) from fun h => c h.2)]
        exact Ev.pos (by omega) (Ev.now _)
  · rw [if_neg (show ¬ (Good W H l ∧ (allL l W.toNat (H.toNat + 1)).length ≤ 12) from fun h => hg h.1)]
    exact Ev.neg (by simpa using hg) (Ev.now _)
theorem impl_NetOfCut_ev (W H : Int) (l : List Sq) : Ev (fun k => impl_NetOfCut.f k W H l) (netOfCut W H l) := by
  unfold impl_NetOfCut.f impl_LinesOf.f netOfCut
  by_cases hg : Good W H l
  · refine Ev.bind (a := (allL l W.toNat (H.toNat + 1), true)) (Ev.bind (impl_IsCut_ev W H l) (Ev.pos (decide_eq_true hg) (Ev.bind (impl_across_ev hg) (Ev.now _)))) (Ev.pos rfl ?_)
    refine Ev.succ ?_
    simp only [impl_NetOfCut.j0]
    by_cases c : (allL l W.toNat (H.toNat + 1)).length ≤ 12
    · rw [if_pos (show Good W H l ∧ (allL l W.toNat (H.toNat + 1)).length ≤ 12 from ⟨hg, c⟩)]
      exact Ev.neg (by rw [decide_eq_true_eq]; omega) (impl_net_loop hg _ rfl (lines_len hg) l 0 rfl (by omega))
    · rw [if_neg (show ¬ (Good W H l ∧ (allL l W.toNat (H.toNat + 1)).length ≤ 12) from fun h => c h.2)]
      exact Ev.pos (by rw [decide_eq_true_eq]; omega) (Ev.now _)
  · rw [if_neg (show ¬ (Good W H l ∧ (allL l W.toNat (H.toNat + 1)).length ≤ 12) from fun h => hg h.1)]
    refine Ev.bind (a := ([], false)) (Ev.bind (impl_IsCut_ev W H l) (Ev.neg (by simpa using hg) (Ev.now _))) (Ev.neg (by decide) ?_)
    refine Ev.succ ?_
    simp only [impl_NetOfCut.j0]
    exact Ev.pos trivial (Ev.now _)
theorem FnExactNetOfCut : laws_FnExactNetOfCut.Pure := by
  intro W H l _ _ hm _
  refine Ev.rounds (g := fun k => laws_FnExactNetOfCut.f k W H l) ?_
  unfold laws_FnExactNetOfCut.f
  refine Ev.bindc (szCut_eq W H l hm) ?_
  by_cases h : l.length ≤ 1048576
  · rw [if_pos h]
    have hm1 : (l.map conv).length ≤ 1099511627776 := by simp; omega
    have s1 := spec_NetOfCut_ev W H (l.map conv)
    have s2 := impl_NetOfCut_ev W H (l.map conv)
    obtain ⟨hb1, hb2⟩ := netOfCut_len W H (l.map conv)
    generalize netOfCut W H (l.map conv) = B at s1 s2 hb1 hb2
    obtain ⟨B1, B2, B3, B4⟩ := B
    dsimp only at hb1 hb2
    have qB := eqNet_ev B1 B2 (by omega)
    have qI := eqIntS_ev B3 (by omega)
    have qN := eqCut_ev W H (l.map conv) hm1
    have mN := markC_ev W H (l.map conv) hm1 1 (by omega) (by omega)
    have mB := markNet_ev B1 B2 (by omega) 1 (by omega) (by omega)
    have mI := markIntS_ev B3 (by omega) (1 + 2 * (B2.length : Int)) (by omega) (by omega)
    have hB := heldNet_ev B1 B2.length (by omega) 1 (by omega) (by omega)
    have hI := heldIntS_ev B3.length (by omega) (1 + 2 * (B2.length : Int)) (by omega) (by omega)
    have tN := toCut_ev W H l h
    refine Ev.neg (by omega) (Ev.bind tN (Ev.bind s1 (Ev.bind tN (Ev.bind s2 (Ev.bind qB (Ev.pos rfl (Ev.bind qI (Ev.pos rfl ?_))))))))
    refine Ev.succ ?_
    simp only [laws_FnExactNetOfCut.j0]
    refine Ev.neg (by simp) (Ev.bind tN (Ev.bind qN (Ev.pos rfl (Ev.bind mN (Ev.neg (by dsimp only; omega) (Ev.bind qB (Ev.pos rfl (Ev.bind qI (Ev.pos rfl ?_)))))))))
    refine Ev.succ ?_
    simp only [laws_FnExactNetOfCut.j1]
    refine Ev.neg (by simp) (Ev.bind mB (Ev.bind mI (Ev.bind hB (Ev.neg (by omega) (Ev.bind hI (Ev.neg (by omega) (Ev.pos rfl (Ev.bind tN (Ev.bind s2 (Ev.bind qB (Ev.pos rfl (Ev.bind qI (Ev.pos rfl ?_)))))))))))))
    refine Ev.succ ?_
    simp only [laws_FnExactNetOfCut.j2]
    exact Ev.neg (by simp) (Ev.bind hB (Ev.neg (by omega) (Ev.bind hI (Ev.neg (by omega) (Ev.pos rfl (Ev.now _))))))
  · rw [if_neg h]
    exact Ev.pos (by omega) (Ev.now _)

end Go.Proofs.Ythnjbpabiamkjaa.Pure
