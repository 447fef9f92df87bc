/- The program's ParseCut and the reference's return the same for all arguments: both say yes just at the text that a cut has, under the listed variables of the library. -/
import Derived.Test.YtnmaeekclpmmnaaDoorPFnExactParseCutx10
import Derived.Test.YtnmaeekclpmmnaaDoorPFnExactParseCutx0
import Derived.Test.YtnmaeekclpmmnaaDoorPFnExactParseCutx1
import Derived.Test.YtnmaeekclpmmnaaDoorPFnExactParseCutx2
import Derived.Test.YtnmaeekclpmmnaaDoorPFnExactParseCutx3
import Derived.Test.YtnmaeekclpmmnaaDoorPFnExactParseCutx4
import Derived.Test.YtnmaeekclpmmnaaDoorPFnExactParseCutx5
import Derived.Test.YtnmaeekclpmmnaaDoorPFnExactParseCutx6
import Derived.Test.YtnmaeekclpmmnaaDoorPFnExactParseCutx7
import Derived.Test.YtnmaeekclpmmnaaDoorPFnExactParseCutx8
import Derived.Test.YtnmaeekclpmmnaaDoorPFnExactParseCutx9
import Derived.Test.YtnmaeekclpmmnaaDoorWGuardMoreInvWords
namespace Go.Proofs.YtnmaeekclpmmnaaDoor.Pure
open Go.RowKit Go.Proofs.YtnmaeekclpmmnaaDoor.PFnExactParseCut Go.Proofs.YtnmaeekclpmmnaaDoorW.PrintWords Go.Proofs.YtnmaeekclpmmnaaDoorW.PrintLast Go.Proofs.YtnmaeekclpmmnaaDoorW.PrintMore Go.Proofs.YtnmaeekclpmmnaaDoorW.Evs
set_option linter.unusedVariables false
set_option linter.unusedSimpArgs false
/-! ### a cut: what the program's IsCut and the reference's cuGood answer -/
abbrev Sq := S52
def sqAt (l : List Sq) (j : Nat) : Sq := l.getD j z52
theorem rd_sq (l : List Sq) (j : Nat) : rd_T52 l (j : Int) = sqAt l j := by unfold rd_T52 sqAt; rw [Int.toNat_natCast]
theorem sqAt_get (l : List Sq) (j : Nat) (h : j < l.length) : sqAt l j = l[j] := by unfold sqAt; simp [List.getD, h]
theorem sqAt_mem (l : List Sq) (j : Nat) (h : j < l.length) : sqAt l j ∈ l := by rw [sqAt_get l j h]; exact List.getElem_mem h
/-- a square lies in the rectangle -/
def Ins (W H : Int) (s : Sq) : Prop := 1 ≤ s.f2 ∧ 0 ≤ s.f0 ∧ s.f0 + s.f2 ≤ W ∧ 0 ≤ s.f1 ∧ s.f1 + s.f2 ≤ H
instance (W H : Int) (s : Sq) : Decidable (Ins W H s) := by unfold Ins; infer_instance
def Less (a b : Sq) : Prop := a.f1 < b.f1 ∨ a.f1 = b.f1 ∧ a.f0 < b.f0
instance (a b : Sq) : Decidable (Less a b) := by unfold Less; infer_instance
def Ovl (a b : Sq) : Prop := a.f0 < b.f0 + b.f2 ∧ b.f0 < a.f0 + a.f2 ∧ a.f1 < b.f1 + b.f2 ∧ b.f1 < a.f1 + a.f2
instance (a b : Sq) : Decidable (Ovl a b) := by unfold Ovl; infer_instance
def OkAt (W H : Int) (l : List Sq) (i : Nat) : Prop := Ins W H (sqAt l i) ∧ (0 < i → Less (sqAt l (i - 1)) (sqAt l i)) ∧ ∀ j, j < i → ¬ Ovl (sqAt l i) (sqAt l j)
instance (W H : Int) (l : List Sq) (i : Nat) : Decidable (OkAt W H l i) := by unfold OkAt; infer_instance
def areaTo (l : List Sq) : Nat → Int
  | 0 => 0
  | n + 1 => areaTo l n + (sqAt l n).f2 * (sqAt l n).f2
/-- a width, a height and squares are a cut -/
def Good (W H : Int) (l : List Sq) : Prop := (1 ≤ W ∧ W ≤ 500) ∧ (1 ≤ H ∧ H ≤ 500) ∧ (1 ≤ l.length ∧ l.length ≤ 30) ∧ (∀ i, i < l.length → OkAt W H l i) ∧ areaTo l l.length = W * H
instance (W H : Int) (l : List Sq) : Decidable (Good W H l) := by unfold Good; infer_instance

theorem within_eq (a b c : Int) : impl_within.f a b c = some (decide (b ≤ a ∧ a ≤ c)) := by
  unfold impl_within.f
  by_cases h : b ≤ a
  · rw [if_pos h]; simp [h]
  · rw [if_neg h]; simp [h]
theorem isWide_eq (a : Int) : impl_isWide.f a = some (decide (1 ≤ a ∧ a ≤ 500)) := by
  unfold impl_isWide.f; rw [within_eq]; rfl
theorem l1In_eq (a b c : Int) : spec_l1In.f a b c = some (decide (b ≤ a ∧ a ≤ c)) := by
  unfold spec_l1In.f
  by_cases h : b ≤ a
  · rw [if_pos h]; simp [h]
  · rw [if_neg h]; simp [h]
theorem areaTo_bd (W H : Int) (l : List Sq) (hW : W ≤ 500) (hH : H ≤ 500) : ∀ n, n ≤ 30 → (∀ m, m < n → Ins W H (sqAt l m)) → 0 ≤ areaTo l n ∧ areaTo l n ≤ n * 250000
  | 0, _, _ => by simp [areaTo]
  | n + 1, hn, h => by
    obtain ⟨h1, h2⟩ := areaTo_bd W H l hW hH n (by omega) (fun m hm => h m (by omega))
    have hi := h n (by omega)
    unfold Ins at hi
    have q1 : 0 ≤ (sqAt l n).f2 * (sqAt l n).f2 := Int.mul_nonneg (by omega) (by omega)
    have q2 : (sqAt l n).f2 * (sqAt l n).f2 ≤ 500 * 500 := Int.mul_le_mul (by omega) (by omega) (by omega) (by omega)
    simp only [areaTo]
    omega
theorem sq_bd {W H : Int} {s : Sq} (hW : W ≤ 500) (hH : H ≤ 500) (h : Ins W H s) : 0 ≤ s.f2 * s.f2 ∧ s.f2 * s.f2 ≤ 250000 := by
  unfold Ins at h
  have q1 : 0 ≤ s.f2 * s.f2 := Int.mul_nonneg (by omega) (by omega)
  have q2 : s.f2 * s.f2 ≤ 500 * 500 := Int.mul_le_mul (by omega) (by omega) (by omega) (by omega)
  omega

theorem compare_eq {W H : Int} {a b : Sq} (hW : W ≤ 500) (hH : H ≤ 500) (ha : Ins W H a) (hb : Ins W H b) :
    ∃ c, impl_comparePlaces.f a.f0 a.f1 a.f2 b.f0 b.f1 b.f2 = some c ∧ (c < 0 ↔ Less a b) := by
  unfold Ins at ha hb
  unfold impl_comparePlaces.f Less
  by_cases e : a.f1 = b.f1
  · rw [if_pos e]; exact ⟨_, rfl, by rw [wrap64_id (by omega) (by omega)]; omega⟩
  · rw [if_neg e]; exact ⟨_, rfl, by rw [wrap64_id (by omega) (by omega)]; omega⟩
theorem overlap_eq {W H : Int} {a b : Sq} (hW : W ≤ 500) (hH : H ≤ 500) (ha : Ins W H a) (hb : Ins W H b) :
    impl_overlap.f a.f0 a.f1 a.f2 b.f0 b.f1 b.f2 = some (decide (Ovl a b)) := by
  unfold Ins at ha hb
  unfold impl_overlap.f Ovl
  rw [wrap64_id (by omega) (by omega), wrap64_id (by omega) (by omega), wrap64_id (by omega) (by omega), wrap64_id (by omega) (by omega)]
  by_cases h1 : a.f0 < b.f0 + b.f2
  · by_cases h2 : b.f0 < a.f0 + a.f2
    · by_cases h3 : a.f1 < b.f1 + b.f2
      · simp [h1, h2, h3]
      · simp [h1, h2, h3]
    · simp [h1, h2]
  · simp [h1]
theorem less_eq (a b : Sq) : spec_cuLess.f a.f0 a.f1 a.f2 b.f0 b.f1 b.f2 = some (decide (Less a b)) := by
  unfold spec_cuLess.f Less
  by_cases h1 : a.f1 < b.f1
  · rw [if_pos h1]; simp [h1]
  · rw [if_neg h1]
    by_cases h2 : a.f1 = b.f1
    · rw [if_pos h2]; simp [h2]
    · rw [if_neg h2]; simp [h1, h2]

/-! the program's own -/
theorem contains_eq {W H : Int} {l : List Sq} (hW : W ≤ 500) (hH : H ≤ 500) (i : Nat) (hi : i < l.length) (h : ∀ m, m ≤ i → Ins W H (sqAt l m)) :
    slices_ContainsFunc_impl_Square_impl_Square__impl_IsCut_1.f (l.take i) (sqAt l i).f0 (sqAt l i).f1 (sqAt l i).f2 = some (decide (∃ j, j < i ∧ Ovl (sqAt l i) (sqAt l j))) := by
  unfold slices_ContainsFunc_impl_Square_impl_Square__impl_IsCut_1.f
  congr 1
  rw [Bool.eq_iff_iff, List.any_eq_true, decide_eq_true_eq]
  constructor
  · rintro ⟨t, ht, hp⟩
    obtain ⟨j, hj⟩ := List.getElem?_of_mem ht
    have hj1 : j < (l.take i).length := (List.getElem?_eq_some_iff.1 hj).1
    have hj2 : j < i := by simp at hj1; omega
    have e : t = sqAt l j := by
      rw [List.getElem?_take_of_lt hj2, List.getElem?_eq_getElem (by omega)] at hj
      rw [sqAt_get l j (by omega)]; exact (Option.some.inj hj).symm
    subst e
    rw [overlap_eq hW hH (h i (Nat.le_refl _)) (h j (by omega))] at hp
    exact ⟨j, hj2, by simpa using hp⟩
  · rintro ⟨j, hj, ho⟩
    refine ⟨sqAt l j, ?_, ?_⟩
    · rw [sqAt_get l j (by omega)]
      exact List.mem_take_iff_getElem.2 ⟨j, by omega, rfl⟩
    · rw [overlap_eq hW hH (h i (Nat.le_refl _)) (h j (by omega))]; simpa using ho

theorem okFrom_step (W H : Int) (l : List Sq) (i : Nat) : (∀ m, i ≤ m → m < l.length → OkAt W H l m) ↔ (i < l.length → OkAt W H l i) ∧ (∀ m, i + 1 ≤ m → m < l.length → OkAt W H l m) :=
  ⟨fun h => ⟨fun hi => h i (Nat.le_refl _) hi, fun m h1 h2 => h m (by omega) h2⟩, fun ⟨h1, h2⟩ m h3 h4 => by
    by_cases e : i = m
    · subst e; exact h1 h4
    · exact h2 m (by omega) h4⟩

theorem impl_loop {W H : Int} {l : List Sq} (hW : 1 ≤ W ∧ W ≤ 500) (hH : 1 ≤ H ∧ H ≤ 500) (hl : l.length ≤ 30) : ∀ (d i : Nat), l.length - i = d → i ≤ l.length → (∀ m, m < i → OkAt W H l m) →
    ∀ r : Bool, (r = true ↔ (∀ m, i ≤ m → m < l.length → OkAt W H l m) ∧ areaTo l l.length = W * H) → Ev (fun k => impl_IsCut.l0 k (areaTo l i) l (l.length : Int) (i : Int) W H l) r := by
  intro d
  induction d with
  | zero =>
    intro i hd hi hok r hr
    obtain rfl : i = l.length := by omega
    have bd := areaTo_bd W H l hW.2 hH.2 l.length hl (fun m hm => (hok m hm).1)
    have w1 : W * H ≤ 500 * 500 := Int.mul_le_mul (by omega) (by omega) (by omega) (by omega)
    have w0 : 0 ≤ W * H := Int.mul_nonneg (by omega) (by omega)
    refine Ev.succ ?_
    simp only [impl_IsCut.l0]
    refine Ev.neg (by omega) ?_
    rw [wrap64_id (by omega) (by omega)]
    refine Ev.eqr (Ev.now _) ?_
    rw [Bool.eq_iff_iff, hr, beq_iff_eq]
    exact ⟨fun h => ⟨fun m h1 h2 => by omega, h⟩, fun h => h.2⟩
  | succ d ih =>
    intro i hd hi hok r hr
    have hlt : i < l.length := by omega
    rw [okFrom_step] at hr
    refine Ev.succ ?_
    simp only [impl_IsCut.l0, rd_sq]
    refine Ev.pos (by omega) (Ev.pos (by omega) (Ev.pos (by omega) ?_))
    have hmn : mn W H ≤ 500 := by unfold mn; split <;> omega
    have fall : ∀ r : Bool, r = false → Ev (fun k => impl_IsCut.j2 k (areaTo l i) (i : Int) l (l.length : Int) (i : Int) true W H l (sqAt l i).f0 (sqAt l i).f1 (sqAt l i).f2) r := by
      rintro _ rfl
      refine Ev.succ ?_
      simp only [impl_IsCut.j2]
      exact Ev.pos trivial (Ev.now _)
    have rf : ¬ OkAt W H l i → r = false := fun h => by
      cases hq : r with
      | false => rfl
      | true => exact absurd ((hr.1 hq).1.1 hlt) h
    have mnle : mn W H ≤ W ∧ mn W H ≤ H ∧ (mn W H = W ∨ mn W H = H) := by unfold mn; split <;> omega
    refine Ev.bindc (within_eq _ _ _) ?_
    by_cases c1 : 1 ≤ (sqAt l i).f2 ∧ (sqAt l i).f2 ≤ mn W H
    · rw [decide_eq_true c1]
      refine Ev.pos rfl (Ev.bindc (within_eq _ _ _) ?_)
      rw [wrap64_id (by omega) (by omega)]
      by_cases c2 : 0 ≤ (sqAt l i).f0 ∧ (sqAt l i).f0 ≤ W - (sqAt l i).f2
      · rw [decide_eq_true c2]
        refine Ev.pos rfl (Ev.bindc (within_eq _ _ _) ?_)
        rw [wrap64_id (by omega) (by omega)]
        by_cases c3 : 0 ≤ (sqAt l i).f1 ∧ (sqAt l i).f1 ≤ H - (sqAt l i).f2
        · rw [decide_eq_true c3]
          have hins : Ins W H (sqAt l i) := by unfold Ins; omega
          have hall : ∀ m, m ≤ i → Ins W H (sqAt l m) := fun m hm => by
            by_cases e : m = i
            · rw [e]; exact hins
            · exact (hok m (by omega)).1
          refine Ev.succ ?_
          simp only [impl_IsCut.j2, Bool.not_true]
          refine Ev.neg (by decide) ?_
          have bd := areaTo_bd W H l hW.2 hH.2 i (by omega) (fun m hm => hall m (by omega))
          have qb := sq_bd hW.2 hH.2 hins
          have tn : ((i : Int)).toNat = i := Int.toNat_natCast i
          have next : (∀ j, j < i → ¬ Ovl (sqAt l i) (sqAt l j)) → (0 < i → Less (sqAt l (i - 1)) (sqAt l i)) → Ev (fun k => impl_IsCut.l0 k (wrap64 (areaTo l i + wrap64 ((sqAt l i).f2 * (sqAt l i).f2))) l (l.length : Int) (wrap64 ((i : Int) + 1)) W H l) r := by
            intro ho hlss
            have hk : OkAt W H l i := ⟨hins, hlss, ho⟩
            rw [wrap64_id (n := (sqAt l i).f2 * (sqAt l i).f2) (by omega) (by omega), wrap64_id (n := areaTo l i + (sqAt l i).f2 * (sqAt l i).f2) (by omega) (by omega), wrap64_id (n := (i : Int) + 1) (by omega) (by omega)]
            have := ih (i + 1) (by omega) (by omega) (fun m hm => by
              by_cases e : m = i
              · rw [e]; exact hk
              · exact hok m (by omega)) r (by rw [hr]; exact ⟨fun h => ⟨h.1.2, h.2⟩, fun h => ⟨⟨fun _ => hk, h.1⟩, h.2⟩⟩)
            exact this
          have cont : (0 < i → Less (sqAt l (i - 1)) (sqAt l i)) → Ev (fun k => if 0 ≤ (i : Int) then if (i : Int) ≤ (l.length : Int) then (slices_ContainsFunc_impl_Square_impl_Square__impl_IsCut_1.f (l.take ((i : Int)).toNat) (sqAt l i).f0 (sqAt l i).f1 (sqAt l i).f2).bind fun t => if t = true then some false else impl_IsCut.l0 k (wrap64 (areaTo l i + wrap64 ((sqAt l i).f2 * (sqAt l i).f2))) l (l.length : Int) (wrap64 ((i : Int) + 1)) W H l else none else none) r := by
            intro hlss
            refine Ev.pos (by omega) (Ev.pos (by omega) ?_)
            rw [tn]
            refine Ev.bindc (contains_eq hW.2 hH.2 i hlt hall) ?_
            by_cases ho : ∃ j, j < i ∧ Ovl (sqAt l i) (sqAt l j)
            · rw [decide_eq_true ho]
              refine Ev.pos rfl (Ev.eqr (Ev.now _) (rf fun hk => ?_).symm)
              obtain ⟨j, hj, hq⟩ := ho
              exact hk.2.2 j hj hq
            · rw [decide_eq_false ho]
              exact Ev.neg (by decide) (next (fun j hj hq => ho ⟨j, hj, hq⟩) hlss)
          by_cases hi0 : (i : Int) > 0
          · refine Ev.pos hi0 ?_
            have e1 : wrap64 ((i : Int) - 1) = ((i - 1 : Nat) : Int) := by rw [wrap64_id (by omega) (by omega)]; omega
            simp only [e1, rd_sq]
            refine Ev.pos (by omega) (Ev.pos (by omega) ?_)
            obtain ⟨c, hc, hcl⟩ := compare_eq hW.2 hH.2 (hall (i - 1) (by omega)) hins
            refine Ev.bindc hc ?_
            by_cases c4 : c ≥ 0
            · refine Ev.pos c4 (Ev.eqr (Ev.now _) (rf fun hk => ?_).symm)
              have := hcl.2 (hk.2.1 (by omega))
              omega
            · exact Ev.neg c4 (cont fun _ => hcl.1 (by omega))
          · exact Ev.neg hi0 (cont fun h => by omega)
        · rw [decide_eq_false c3]
          exact fall _ (rf fun h => c3 (by have := h.1; unfold Ins at this; omega))
      · rw [decide_eq_false c2]
        exact Ev.neg (by decide) (fall _ (rf fun h => c2 (by have := h.1; unfold Ins at this; omega)))
    · rw [decide_eq_false c1]
      refine Ev.neg (by decide) (fall _ (rf fun h => c1 ?_))
      have := h.1
      unfold Ins at this
      rcases mnle.2.2 with e | e <;> omega

theorem impl_IsCut_ev (W H : Int) (l : List Sq) : Ev (fun k => impl_IsCut.f k W H l) (decide (Good W H l)) := by
  unfold impl_IsCut.f
  have fall : ∀ r : Bool, r = false → Ev (fun k => impl_IsCut.j0 k true W H l) r := by
    rintro _ rfl
    refine Ev.succ ?_
    simp only [impl_IsCut.j0]
    exact Ev.pos trivial (Ev.now _)
  refine Ev.bindc (isWide_eq _) ?_
  by_cases c1 : 1 ≤ W ∧ W ≤ 500
  · rw [decide_eq_true c1]
    refine Ev.pos rfl (Ev.bindc (isWide_eq _) ?_)
    by_cases c2 : 1 ≤ H ∧ H ≤ 500
    · rw [decide_eq_true c2]
      refine Ev.pos rfl ?_
      by_cases c3 : (l.length : Int) > 30
      · rw [decide_eq_true c3]
        exact fall _ (decide_eq_false fun h => by have := h.2.2.1; omega)
      · rw [decide_eq_false c3]
        refine Ev.succ ?_
        simp only [impl_IsCut.j0]
        refine Ev.neg (by decide) ?_
        have := impl_loop (l := l) c1 c2 (by omega) l.length 0 (by omega) (Nat.zero_le _) (fun m hm => by omega) (decide (Good W H l)) ?_
        · exact this
        · rw [decide_eq_true_eq]
          constructor
          · intro h; exact ⟨fun m _ h2 => h.2.2.2.1 m h2, h.2.2.2.2⟩
          · intro h
            refine ⟨c1, c2, ⟨?_, (by omega : l.length ≤ 30)⟩, fun m hm => h.1 m (Nat.zero_le _) hm, h.2⟩
            cases hl : l with
            | nil =>
              subst hl
              have e : (0 : Int) = W * H := h.2
              have : 0 < W * H := Int.mul_pos (by omega) (by omega)
              omega
            | cons a t => simp
    · rw [decide_eq_false c2]
      exact Ev.neg (by decide) (fall _ (decide_eq_false fun h => c2 h.2.1))
  · rw [decide_eq_false c1]
    exact Ev.neg (by decide) (fall _ (decide_eq_false fun h => c1 h.1))

/-! the reference's own -/
/-- what the inner loop of the reference asks of the squares from place j on -/
def InnerOk (l : List Sq) (i j : Nat) : Prop := ∀ m, j ≤ m → m < i → ¬ Ovl (sqAt l i) (sqAt l m) ∧ (m + 1 = i → Less (sqAt l m) (sqAt l i))
theorem inner_step (l : List Sq) (i j : Nat) (h : j < i) : InnerOk l i j ↔ (¬ Ovl (sqAt l i) (sqAt l j) ∧ (j + 1 = i → Less (sqAt l j) (sqAt l i))) ∧ InnerOk l i (j + 1) :=
  ⟨fun h1 => ⟨h1 j (Nat.le_refl _) h, fun m h2 h3 => h1 m (by omega) h3⟩, fun ⟨h1, h2⟩ m h3 h4 => by
    by_cases e : j = m
    · subst e; exact h1
    · exact h2 m (by omega) h4⟩
theorem inner_ok (W H : Int) (l : List Sq) (i : Nat) : OkAt W H l i ↔ Ins W H (sqAt l i) ∧ InnerOk l i 0 := by
  unfold OkAt InnerOk
  constructor
  · rintro ⟨h1, h2, h3⟩
    refine ⟨h1, fun m _ hm => ⟨h3 m hm, fun e => ?_⟩⟩
    have := h2 (by omega)
    rw [show i - 1 = m by omega] at this
    exact this
  · rintro ⟨h1, h2⟩
    exact ⟨h1, fun hi => (h2 (i - 1) (Nat.zero_le _) (by omega)).2 (by omega), fun j hj => (h2 j (Nat.zero_le _) hj).1⟩

theorem spec_inner {W H : Int} {l : List Sq} (hW : 1 ≤ W ∧ W ≤ 500) (hH : 1 ≤ H ∧ H ≤ 500) (hl : l.length ≤ 30) (i : Nat) (hi : i < l.length) (hall : ∀ m, m ≤ i → Ins W H (sqAt l m)) (A : Int) (r : Bool)
    (hgood : InnerOk l i 0 → Ev (fun k => spec_cuGood.l0 k A l (l.length : Int) ((i : Int) + 1) W H l) r) (hbad : ¬ InnerOk l i 0 → r = false) :
    ∀ (d j : Nat), i - j = d → j ≤ i → (InnerOk l i j ↔ InnerOk l i 0) →
      Ev (fun k => spec_cuGood.l1 k A (i : Int) l (l.length : Int) (i : Int) (l.take i) (i : Int) (j : Int) W H l (sqAt l i).f0 (sqAt l i).f1 (sqAt l i).f2) r := by
  intro d
  induction d with
  | zero =>
    intro j hd hj hiff
    obtain rfl : j = i := by omega
    refine Ev.succ ?_
    simp only [spec_cuGood.l1]
    refine Ev.neg (by omega) ?_
    rw [wrap64_id (by omega) (by omega)]
    exact hgood (hiff.1 fun m h1 h2 => by omega)
  | succ d ih =>
    intro j hd hj hiff
    have hlt : j < i := by omega
    have tk : (l.take i).length = i := by rw [List.length_take]; omega
    have et : sqAt (l.take i) j = sqAt l j := by
      rw [sqAt_get _ _ (by omega), sqAt_get _ _ (by omega), List.getElem_take]
    rw [inner_step l i j hlt] at hiff
    refine Ev.succ ?_
    simp only [spec_cuGood.l1, rd_sq, et, tk]
    refine Ev.pos (by omega) (Ev.pos (by omega) (Ev.pos (by omega) ?_))
    have a := hall i (Nat.le_refl _)
    have b := hall j (by omega)
    have j4 : ∀ b : Bool, b = decide (Ovl (sqAt l i) (sqAt l j)) → Ev (fun k => spec_cuGood.j4 k A (i : Int) (j : Int) l (l.length : Int) (i : Int) (l.take i) (i : Int) (j : Int) b W H l (sqAt l i).f0 (sqAt l i).f1 (sqAt l i).f2 (sqAt l j).f0 (sqAt l j).f1 (sqAt l j).f2) r := by
      rintro b rfl
      refine Ev.succ ?_
      simp only [spec_cuGood.j4]
      by_cases ho : Ovl (sqAt l i) (sqAt l j)
      · exact Ev.pos (decide_eq_true ho) (Ev.eqr (Ev.now _) (hbad fun h => (hiff.2 h).1.1 ho).symm)
      · refine Ev.neg (by simpa using ho) ?_
        have e1 : wrap64 ((i : Int) - 1) = (i : Int) - 1 := wrap64_id (by omega) (by omega)
        have e2 : wrap64 ((j : Int) + 1) = ((j + 1 : Nat) : Int) := by rw [wrap64_id (by omega) (by omega)]; omega
        rw [e1, e2]
        by_cases hj1 : j + 1 = i
        · refine Ev.pos (by omega) (Ev.bindc (less_eq _ _) ?_)
          by_cases hls : Less (sqAt l j) (sqAt l i)
          · exact Ev.pos (decide_eq_true hls) (ih (j + 1) (by omega) (by omega) ⟨fun h => hiff.1 ⟨⟨ho, fun _ => hls⟩, h⟩, fun h => (hiff.2 h).2⟩)
          · exact Ev.neg (by simpa using hls) (Ev.eqr (Ev.now _) (hbad fun h => hls ((hiff.2 h).1.2 hj1)).symm)
        · exact Ev.neg (by omega) (ih (j + 1) (by omega) (by omega) ⟨fun h => hiff.1 ⟨⟨ho, fun e => absurd e hj1⟩, h⟩, fun h => (hiff.2 h).2⟩)
    unfold Ins at a b
    rw [wrap64_id (n := (sqAt l j).f0 + (sqAt l j).f2) (by omega) (by omega), wrap64_id (n := (sqAt l i).f0 + (sqAt l i).f2) (by omega) (by omega), wrap64_id (n := (sqAt l j).f1 + (sqAt l j).f2) (by omega) (by omega), wrap64_id (n := (sqAt l i).f1 + (sqAt l i).f2) (by omega) (by omega)]
    by_cases c1 : (sqAt l i).f0 < (sqAt l j).f0 + (sqAt l j).f2
    · refine Ev.pos c1 ?_
      by_cases c2 : (sqAt l j).f0 < (sqAt l i).f0 + (sqAt l i).f2
      · refine Ev.pos c2 ?_
        by_cases c3 : (sqAt l i).f1 < (sqAt l j).f1 + (sqAt l j).f2
        · refine Ev.pos c3 (j4 _ ?_)
          unfold Ovl
          simp [c1, c2, c3]
        · exact Ev.neg c3 (j4 _ (decide_eq_false fun h => c3 h.2.2.1).symm)
      · exact Ev.neg c2 (j4 _ (decide_eq_false fun h => c2 h.2.1).symm)
    · exact Ev.neg c1 (j4 _ (decide_eq_false fun h => c1 h.1).symm)

theorem spec_loop {W H : Int} {l : List Sq} (hW : 1 ≤ W ∧ W ≤ 500) (hH : 1 ≤ H ∧ H ≤ 500) (hl : l.length ≤ 30) : ∀ (d i : Nat), l.length - i = d → i ≤ l.length → (∀ m, m < i → OkAt W H l m) →
    ∀ r : Bool, (r = true ↔ (∀ m, i ≤ m → m < l.length → OkAt W H l m) ∧ areaTo l l.length = W * H) → Ev (fun k => spec_cuGood.l0 k (areaTo l i) l (l.length : Int) (i : Int) W H l) r := by
  intro d
  induction d with
  | zero =>
    intro i hd hi hok r hr
    obtain rfl : i = l.length := by omega
    have bd := areaTo_bd W H l hW.2 hH.2 l.length hl (fun m hm => (hok m hm).1)
    have w1 : W * H ≤ 500 * 500 := Int.mul_le_mul (by omega) (by omega) (by omega) (by omega)
    have w0 : 0 ≤ W * H := Int.mul_nonneg (by omega) (by omega)
    refine Ev.succ ?_
    simp only [spec_cuGood.l0]
    refine Ev.neg (by omega) ?_
    rw [wrap64_id (by omega) (by omega)]
    refine Ev.eqr (Ev.now _) ?_
    rw [Bool.eq_iff_iff, hr, beq_iff_eq]
    exact ⟨fun h => ⟨fun m h1 h2 => by omega, h⟩, fun h => h.2⟩
  | succ d ih =>
    intro i hd hi hok r hr
    have hlt : i < l.length := by omega
    rw [okFrom_step] at hr
    refine Ev.succ ?_
    simp only [spec_cuGood.l0, rd_sq]
    refine Ev.pos (by omega) (Ev.pos (by omega) (Ev.pos (by omega) ?_))
    have fall : ∀ r : Bool, r = false → Ev (fun k => spec_cuGood.j2 k (areaTo l i) (i : Int) l (l.length : Int) (i : Int) true W H l (sqAt l i).f0 (sqAt l i).f1 (sqAt l i).f2) r := by
      rintro _ rfl
      refine Ev.succ ?_
      simp only [spec_cuGood.j2]
      exact Ev.pos trivial (Ev.now _)
    have rf : ¬ OkAt W H l i → r = false := fun h => by
      cases hq : r with
      | false => rfl
      | true => exact absurd ((hr.1 hq).1.1 hlt) h
    refine Ev.bindc (l1In_eq _ _ _) ?_
    by_cases c1 : 1 ≤ (sqAt l i).f2 ∧ (sqAt l i).f2 ≤ 500
    · rw [decide_eq_true c1]
      refine Ev.pos rfl (Ev.bindc (l1In_eq _ _ _) ?_)
      rw [wrap64_id (by omega) (by omega)]
      by_cases c2 : 0 ≤ (sqAt l i).f0 ∧ (sqAt l i).f0 ≤ W - (sqAt l i).f2
      · rw [decide_eq_true c2]
        refine Ev.pos rfl (Ev.bindc (l1In_eq _ _ _) ?_)
        rw [wrap64_id (by omega) (by omega)]
        by_cases c3 : 0 ≤ (sqAt l i).f1 ∧ (sqAt l i).f1 ≤ H - (sqAt l i).f2
        · rw [decide_eq_true c3]
          have hins : Ins W H (sqAt l i) := by unfold Ins; omega
          have hall : ∀ m, m ≤ i → Ins W H (sqAt l m) := fun m hm => by
            by_cases e : m = i
            · rw [e]; exact hins
            · exact (hok m (by omega)).1
          have bd := areaTo_bd W H l hW.2 hH.2 i (by omega) (fun m hm => hall m (by omega))
          have qb := sq_bd hW.2 hH.2 hins
          refine Ev.succ ?_
          simp only [spec_cuGood.j2, Bool.not_true]
          refine Ev.neg (by decide) (Ev.pos (by omega) (Ev.pos (by omega) (Ev.bindc rfl ?_)))
          have tk : (l.take ((i : Int)).toNat).length = i := by rw [List.length_take]; omega
          have tn : ((i : Int)).toNat = i := Int.toNat_natCast i
          rw [tk, tn, wrap64_id (n := (sqAt l i).f2 * (sqAt l i).f2) (by omega) (by omega), wrap64_id (n := areaTo l i + (sqAt l i).f2 * (sqAt l i).f2) (by omega) (by omega)]
          have iok := inner_ok W H l i
          refine spec_inner hW hH hl i hlt hall _ r (fun hin => ?_) (fun hin => rf fun h => hin (iok.1 h).2) i 0 (by omega) (Nat.zero_le _) Iff.rfl
          have hk : OkAt W H l i := iok.2 ⟨hins, hin⟩
          have := ih (i + 1) (by omega) (by omega) (fun m hm => by
              by_cases e : m = i
              · rw [e]; exact hk
              · exact hok m (by omega)) r (by rw [hr]; exact ⟨fun h => ⟨h.1.2, h.2⟩, fun h => ⟨⟨fun _ => hk, h.1⟩, h.2⟩⟩)
          exact this
        · rw [decide_eq_false c3]
          exact fall _ (rf fun h => c3 (by have := h.1; unfold Ins at this; omega))
      · rw [decide_eq_false c2]
        exact Ev.neg (by decide) (fall _ (rf fun h => c2 (by have := h.1; unfold Ins at this; omega)))
    · rw [decide_eq_false c1]
      refine Ev.neg (by decide) (fall _ (rf fun h => c1 ?_))
      have := h.1
      unfold Ins at this
      omega

theorem spec_cuGood_ev (W H : Int) (l : List Sq) : Ev (fun k => spec_cuGood.f k W H l) (decide (Good W H l)) := by
  unfold spec_cuGood.f
  have fall : ∀ r : Bool, r = false → Ev (fun k => spec_cuGood.j0 k true W H l) r := by
    rintro _ rfl
    refine Ev.succ ?_
    simp only [spec_cuGood.j0]
    exact Ev.pos trivial (Ev.now _)
  refine Ev.bindc (l1In_eq _ _ _) ?_
  by_cases c1 : 1 ≤ W ∧ W ≤ 500
  · rw [decide_eq_true c1]
    refine Ev.pos rfl (Ev.bindc (l1In_eq _ _ _) ?_)
    by_cases c2 : 1 ≤ H ∧ H ≤ 500
    · rw [decide_eq_true c2]
      refine Ev.pos rfl (Ev.bindc (l1In_eq _ _ _) ?_)
      by_cases c3 : 1 ≤ (l.length : Int) ∧ (l.length : Int) ≤ 30
      · rw [decide_eq_true c3]
        refine Ev.succ ?_
        simp only [spec_cuGood.j0, Bool.not_true]
        refine Ev.neg (by decide) ?_
        refine spec_loop (l := l) c1 c2 (by omega) l.length 0 (by omega) (Nat.zero_le _) (fun m hm => by omega) (decide (Good W H l)) ?_
        rw [decide_eq_true_eq]
        exact ⟨fun h => ⟨fun m _ h2 => h.2.2.2.1 m h2, h.2.2.2.2⟩, fun h => ⟨c1, c2, by omega, fun m hm => h.1 m (Nat.zero_le _) hm, h.2⟩⟩
      · rw [decide_eq_false c3]
        exact fall _ (decide_eq_false fun h => c3 (by have := h.2.2.1; omega))
    · rw [decide_eq_false c2]
      exact Ev.neg (by decide) (fall _ (decide_eq_false fun h => c2 h.2.1))
  · rw [decide_eq_false c1]
    exact Ev.neg (by decide) (fall _ (decide_eq_false fun h => c1 h.1))

/-! ### cuts that are the same -/
theorem eqSquareS_loop (l : List Sq) (hl : l.length ≤ 1099511627776) : ∀ (d i : Nat), l.length - i = d → i ≤ l.length → Ev (fun k => laws_eqSquareS.l0 k l l (i : Int)) true := by
  intro d
  induction d with
  | zero =>
    intro i hd hi
    refine Ev.succ ?_
    simp only [laws_eqSquareS.l0]
    exact Ev.neg (by omega) (Ev.now _)
  | succ d ih =>
    intro i hd hi
    refine Ev.succ ?_
    simp only [laws_eqSquareS.l0]
    refine Ev.pos (by omega) (Ev.pos (by omega) (Ev.pos (by omega) (Ev.bindc (a := true) (by unfold laws_eqSquare.f; simp) (Ev.pos rfl ?_))))
    rw [wrap64_id (by omega) (by omega)]
    exact ih (i + 1) (by omega) (by omega)
theorem eqSquareS_ev (l : List Sq) (hl : l.length ≤ 1099511627776) : Ev (fun k => laws_eqSquareS.f k l l) true := by
  unfold laws_eqSquareS.f
  exact Ev.pos rfl (eqSquareS_loop l hl l.length 0 (by omega) (Nat.zero_le _))
theorem eqCut_ev (W H : Int) (l : List Sq) (hl : l.length ≤ 1099511627776) : Ev (fun k => laws_eqCut.f k W H l W H l) true := by
  unfold laws_eqCut.f
  exact Ev.pos rfl (Ev.pos rfl (Ev.bind (eqSquareS_ev l hl) (Ev.pos rfl (Ev.now _))))

/-! ### cuts that are marked and held -/
def upS (s : Int) : Nat → List Sq
  | 0 => []
  | n + 1 => ⟨s, s + 1, s + 1 + 1⟩ :: upS (s + 3) n
theorem upS_length (n : Nat) : ∀ s, (upS s n).length = n := by
  induction n with
  | zero => intro s; rfl
  | succ n ih => intro s; simp [upS, ih]
theorem upS_get (n : Nat) : ∀ (s : Int) (i : Nat), i < n → (upS s n)[i]? = some ⟨s + 3 * i, s + 3 * i + 1, s + 3 * i + 1 + 1⟩ := by
  induction n with
  | zero => intro s i h; omega
  | succ n ih =>
    intro s i h
    cases i with
    | zero => simp [upS]
    | succ i =>
      simp only [upS, List.getElem?_cons_succ]; rw [ih (s + 3) i (by omega)]
      have e : s + 3 + 3 * (i : Int) = s + 3 * ((i + 1 : Nat) : Int) := by omega
      rw [e]
theorem markSq_loop (N : Nat) (hN : N ≤ 1099511627776) (s : Int) (hs : 0 ≤ s) (hs2 : s ≤ 1099511627776) : ∀ (d i : Nat) (x : List Sq), N - i = d → i ≤ N → x.length = N → (∀ m, m < i → x[m]? = (upS s N)[m]?) →
    Ev (fun k => laws_markSquareS.l0 k x (s + 3 * i) (i : Int)) (s + 3 * N, upS s N) := by
  intro d
  induction d with
  | zero =>
    intro i x hd hi hx h
    obtain rfl : i = N := by omega
    refine Ev.succ ?_
    simp only [laws_markSquareS.l0]
    refine Ev.neg (by omega) (Ev.eqr (Ev.now _) ?_)
    congr 1
    apply List.ext_getElem?
    intro m
    by_cases hm : m < i
    · exact h m hm
    · rw [List.getElem?_eq_none (by omega), List.getElem?_eq_none (by rw [upS_length]; omega)]
  | succ d ih =>
    intro i x hd hi hx h
    refine Ev.succ ?_
    simp only [laws_markSquareS.l0]
    refine Ev.pos (by omega) (Ev.pos (by omega) (Ev.bindc rfl (Ev.bindc rfl ?_)))
    rw [wrap64_id (n := s + 3 * i + 1) (by omega) (by omega), wrap64_id (n := s + 3 * i + 1 + 1) (by omega) (by omega), wrap64_id (n := s + 3 * i + 1 + 1 + 1) (by omega) (by omega), wrap64_id (n := (i : Int) + 1) (by omega) (by omega)]
    have hi' : i < x.length := by omega
    have g1 : ∀ q : Sq, sqAt (x.set i q) i = q := fun q => by unfold sqAt; simp [List.getD, hi']
    have g2 : ∀ q p : Sq, sqAt ((x.set i q).set i p) i = p := fun q p => by unfold sqAt; simp [List.getD, hi']
    simp only [Int.toNat_natCast, rd_sq, g1, g2]
    have e : s + 3 * (i : Int) + 1 + 1 + 1 = s + 3 * ((i + 1 : Nat) : Int) := by omega
    rw [e]
    refine ih (i + 1) _ (by omega) (by omega) (by simp; omega) (fun m hm => ?_)
    by_cases e : m = i
    · subst e
      rw [List.getElem?_set_self (by simp; omega), upS_get _ _ _ (by omega)]
    · rw [List.getElem?_set_ne (by omega), List.getElem?_set_ne (by omega), List.getElem?_set_ne (by omega)]; exact h m (by omega)
theorem heldSq_loop (N : Nat) (hN : N ≤ 1099511627776) (s : Int) (hs : 0 ≤ s) (hs2 : s ≤ 1099511627776) : ∀ (d i : Nat), N - i = d → i ≤ N →
    Ev (fun k => laws_heldSquareS.l0 k (upS s N) (s + 3 * i) (i : Int)) (s + 3 * N) := by
  intro d
  induction d with
  | zero =>
    intro i hd hi
    obtain rfl : i = N := by omega
    refine Ev.succ ?_
    simp only [laws_heldSquareS.l0, upS_length]
    exact Ev.neg (by omega) (Ev.now _)
  | succ d ih =>
    intro i hd hi
    refine Ev.succ ?_
    simp only [laws_heldSquareS.l0, upS_length]
    have hr : rd_T52 (upS s N) (i : Int) = ⟨s + 3 * i, s + 3 * i + 1, s + 3 * i + 1 + 1⟩ := by
      rw [rd_sq]; unfold sqAt; rw [List.getD_eq_getElem?_getD, upS_get _ _ _ (by omega)]; rfl
    rw [hr, wrap64_id (n := s + 3 * i + 1) (by omega) (by omega), wrap64_id (n := s + 3 * i + 1 + 1) (by omega) (by omega), wrap64_id (n := s + 3 * i + 1 + 1 + 1) (by omega) (by omega), wrap64_id (n := (i : Int) + 1) (by omega) (by omega)]
    refine Ev.pos (by omega) (Ev.pos (by omega) (Ev.pos rfl (Ev.pos rfl (Ev.pos rfl ?_))))
    have e : s + 3 * (i : Int) + 1 + 1 + 1 = s + 3 * ((i + 1 : Nat) : Int) := by omega
    rw [e]
    exact ih (i + 1) (by omega) (by omega)
theorem markC_ev (W H : Int) (l : List Sq) (hl : l.length ≤ 1099511627776) (s : Int) (hs : 0 ≤ s) (hs2 : s ≤ 1099511627776) : Ev (fun k => laws_markCut.f k W H l s) (s + 3 * (l.length : Int), upS s l.length) := by
  unfold laws_markCut.f laws_markSquareS.f
  have := markSq_loop l.length hl s hs hs2 l.length 0 l (by omega) (Nat.zero_le _) rfl (fun m hm => by omega)
  exact Ev.bind (by simpa using this) (Ev.now _)
theorem heldC_ev (W H : Int) (N : Nat) (hl : N ≤ 1099511627776) (s : Int) (hs : 0 ≤ s) (hs2 : s ≤ 1099511627776) : Ev (fun k => laws_heldCut.f k W H (upS s N) s) (s + 3 * (N : Int)) := by
  unfold laws_heldCut.f laws_heldSquareS.f
  have := heldSq_loop N hl s hs hs2 N 0 (by omega) (Nat.zero_le _)
  exact Ev.bind (by simpa using this) (Ev.neg (by omega) (Ev.now _))

theorem l1In_eqN (a b c : Int) : spec_l1In.f a b c = some (decide (b ≤ a ∧ a ≤ c)) := l1In_eq a b c

/-! ### texts: numerals and what is joined -/
def mk (l : List UInt8) : ByteArray := ⟨l.toArray⟩
theorem mk_app (a b : List UInt8) : mk a ++ mk b = mk (a ++ b) := by
  unfold mk
  apply ByteArray.ext
  rw [ByteArray.data_append]
  simp
theorem mk_size (a : List UInt8) : (mk a).size = a.length := by simp [mk, ByteArray.size]
theorem mk_data (a : List UInt8) : (mk a).data.toList = a := by simp [mk]
abbrev dd (a : Int) : List UInt8 := Lib.decDigits a.toNat
theorem dd_one (u : Nat) (h : u < 10) : Lib.decDigits u = [UInt8.ofNat (48 + u)] := by rw [Lib.decDigits, dif_pos h]
theorem dd_two (u : Nat) (h : ¬ u < 10) : Lib.decDigits u = Lib.decDigits (u / 10) ++ [UInt8.ofNat (48 + u % 10)] := by rw [Lib.decDigits, dif_neg h]
theorem dd_len2 (u : Nat) (h : u < 100) : (Lib.decDigits u).length ≤ 2 := by
  by_cases h1 : u < 10
  · rw [dd_one u h1]; simp
  · rw [dd_two u h1, dd_one (u / 10) (by omega)]; simp
theorem dd_len (u : Nat) (h : u < 1000) : (Lib.decDigits u).length ≤ 3 := by
  by_cases h1 : u < 10
  · rw [dd_one u h1]; simp
  · rw [dd_two u h1]
    have := dd_len2 (u / 10) (by omega)
    simp only [List.length_append, List.length_cons, List.length_nil]
    omega
theorem num_one (a : Int) (h0 : 0 ≤ a) (h1 : a < 10) : strOfNums [(wrap64 (48 + a)) % 256] = mk (dd a) := by
  rw [wrap64_id (by omega) (by omega)]
  unfold mk dd strOfNums
  rw [dd_one a.toNat (by omega)]
  simp only [List.map_cons, List.map_nil]
  rw [show ((48 + a) % 256).toNat = 48 + a.toNat by omega]
theorem l1Num_one (a : Int) (h0 : 0 ≤ a) (h : a < 10) : Ev (fun k => spec_l1Num.f k a) (mk (dd a)) := by
  refine Ev.succ ?_
  simp only [spec_l1Num.f]
  exact Ev.pos h (Ev.eqr (Ev.now _) (num_one a h0 h))
theorem l1Num_step (a : Int) (h0 : 10 ≤ a) (h1 : a < 1000) (hq : Ev (fun k => spec_l1Num.f k (a / 10)) (mk (dd (a / 10)))) : Ev (fun k => spec_l1Num.f k a) (mk (dd a)) := by
  refine Ev.succ ?_
  simp only [spec_l1Num.f]
  refine Ev.neg (by omega) ?_
  have e1 : Int.tdiv a 10 = a / 10 := Int.tdiv_eq_ediv_of_nonneg (by omega)
  have e2 : Int.tmod a 10 = a % 10 := Int.tmod_eq_emod_of_nonneg (by omega)
  rw [e1, e2, wrap64_id (n := a / 10) (by omega) (by omega)]
  refine Ev.bind hq (Ev.bindc rfl ?_)
  have e3 := num_one (a % 10) (by omega) (by omega)
  rw [e3]
  have l1 := dd_len (a / 10).toNat (by omega)
  have l2 := dd_len (a % 10).toNat (by omega)
  refine Ev.pos (by rw [mk_size, mk_size]; show (Lib.decDigits (a / 10).toNat).length + (Lib.decDigits (a % 10).toNat).length ≤ _; omega) (Ev.eqr (Ev.now _) ?_)
  rw [mk_app]
  congr 1
  show Lib.decDigits (a / 10).toNat ++ Lib.decDigits (a % 10).toNat = Lib.decDigits a.toNat
  rw [dd_two a.toNat (by omega), dd_one (a % 10).toNat (by omega), show (a / 10).toNat = a.toNat / 10 by omega, show (a % 10).toNat = a.toNat % 10 by omega]
theorem l1Num_ev (a : Int) (h0 : 0 ≤ a) (h1 : a < 1000) : Ev (fun k => spec_l1Num.f k a) (mk (dd a)) := by
  by_cases h : a < 10
  · exact l1Num_one a h0 h
  · refine l1Num_step a (by omega) h1 ?_
    by_cases h2 : a / 10 < 10
    · exact l1Num_one (a / 10) (by omega) h2
    · exact l1Num_step (a / 10) (by omega) (by omega) (l1Num_one (a / 10 / 10) (by omega) (by omega))

/-! ### texts split at a byte -/
def spl (b : UInt8) : List UInt8 → List (List UInt8)
  | [] => [[]]
  | c :: t => if c = b then [] :: spl b t else match spl b t with
    | [] => [[c]]
    | g :: r => (c :: g) :: r
theorem spl_ne (b : UInt8) : ∀ l, spl b l ≠ [] := by
  intro l
  cases l with
  | nil => simp [spl]
  | cons c t =>
    simp only [spl]
    split
    · simp
    · split <;> simp
theorem spl_none (b : UInt8) : ∀ p : List UInt8, b ∉ p → spl b p = [p] := by
  intro p
  induction p with
  | nil => intro _; rfl
  | cons c t ih =>
    intro h
    have h1 : c ≠ b := fun e => h (by rw [e]; exact List.mem_cons_self)
    simp only [spl]
    rw [if_neg h1, ih (fun hm => h (List.mem_cons_of_mem _ hm))]
theorem spl_some (b : UInt8) (q : List UInt8) : ∀ p : List UInt8, b ∉ p → spl b (p ++ b :: q) = p :: spl b q := by
  intro p
  induction p with
  | nil => intro _; simp [spl]
  | cons c t ih =>
    intro h
    have h1 : c ≠ b := fun e => h (by rw [e]; exact List.mem_cons_self)
    rw [List.cons_append]
    simp only [spl]
    rw [if_neg h1, ih (fun hm => h (List.mem_cons_of_mem _ hm))]
theorem spl_parts (b : UInt8) : ∀ l, ∀ g ∈ spl b l, b ∉ g := by
  intro l
  induction l with
  | nil => intro g hg; simp only [spl, List.mem_singleton] at hg; subst hg; exact List.not_mem_nil
  | cons c t ih =>
    intro g hg
    simp only [spl] at hg
    split at hg
    · rcases List.mem_cons.1 hg with e | e
      · subst e; exact List.not_mem_nil
      · exact ih g e
    · rename_i h1
      cases hs : spl b t with
      | nil => exact absurd hs (spl_ne b t)
      | cons g0 r =>
        rw [hs] at hg ih
        rcases List.mem_cons.1 hg with e | e
        · subst e
          intro hm
          rcases List.mem_cons.1 hm with e2 | e2
          · exact h1 e2.symm
          · exact ih g0 List.mem_cons_self e2
        · exact ih g (List.mem_cons_of_mem _ e)
theorem spl_join (b : UInt8) : ∀ l, Lib.join (spl b l) [b] = l := by
  intro l
  induction l with
  | nil => exact Lib.join_one _ _
  | cons c t ih =>
    simp only [spl]
    cases hs : spl b t with
    | nil => exact absurd hs (spl_ne b t)
    | cons g r =>
      rw [hs, Lib.join_cons] at ih
      split
      · rename_i h1
        rw [Lib.join_cons]
        simp only [List.nil_append]
        rw [h1, ← ih]
        simp [Lib.joinTail]
      · rw [Lib.join_cons, List.cons_append, ih]
theorem spl_of_join (b : UInt8) : ∀ ps : List (List UInt8), ps ≠ [] → (∀ p ∈ ps, b ∉ p) → spl b (Lib.join ps [b]) = ps := by
  intro ps
  induction ps with
  | nil => intro h _; exact absurd rfl h
  | cons p r ih =>
    intro _ hb
    cases r with
    | nil => rw [Lib.join_one]; exact spl_none b p (hb p List.mem_cons_self)
    | cons q r =>
      have h2 := ih (by simp) (fun z hz => hb z (List.mem_cons_of_mem _ hz))
      rw [Lib.join_cons]
      have e : p ++ Lib.joinTail [b] (q :: r) = p ++ b :: Lib.join (q :: r) [b] := by
        rw [Lib.join_cons]
        simp [Lib.joinTail]
      rw [e, spl_some b _ p (hb p List.mem_cons_self), h2]
theorem first_at (b : UInt8) : ∀ l : List UInt8, b ∈ l → ∃ p q, l = p ++ b :: q ∧ b ∉ p := by
  intro l
  induction l with
  | nil => intro h; exact absurd h List.not_mem_nil
  | cons c t ih =>
    intro h
    by_cases e : c = b
    · exact ⟨[], t, by rw [e]; rfl, List.not_mem_nil⟩
    · have hm : b ∈ t := (List.mem_cons.1 h).elim (fun e2 => absurd e2.symm e) id
      obtain ⟨p, q, h1, h2⟩ := ih hm
      exact ⟨c :: p, q, by rw [h1]; rfl, fun hx => (List.mem_cons.1 hx).elim (fun e2 => e e2.symm) h2⟩
theorem index_none (b : UInt8) : ∀ l : List UInt8, b ∉ l → Lib.index l [b] = -1 := by
  intro l
  induction l with
  | nil => intro _; rfl
  | cons c t ih =>
    intro h
    have h1 : ¬ b = c := fun e => h (by rw [e]; exact List.mem_cons_self)
    have h2 := ih (fun hm => h (List.mem_cons_of_mem _ hm))
    simp [Lib.index, List.isPrefixOf, h1, h2]
theorem index_some (b : UInt8) (q : List UInt8) : ∀ p : List UInt8, b ∉ p → Lib.index (p ++ b :: q) [b] = p.length := by
  intro p
  induction p with
  | nil => intro _; simp [Lib.index, List.isPrefixOf]
  | cons c t ih =>
    intro h
    have h1 : ¬ b = c := fun e => h (by rw [e]; exact List.mem_cons_self)
    have h2 := ih (fun hm => h (List.mem_cons_of_mem _ hm))
    rw [List.cons_append]
    simp only [Lib.index, List.isPrefixOf, Bool.and_true, beq_iff_eq, h1, if_false, h2]
    rw [if_neg (by omega), List.length_cons]
    omega
theorem count_fuel (b : UInt8) : ∀ (n f : Nat) (s : List UInt8), s.length ≤ n → s.length + 1 ≤ f → Lib.countFrom [b] f s = Lib.countFrom [b] (s.length + 1) s := by
  intro n
  induction n with
  | zero =>
    intro f s hn hf
    obtain ⟨f, rfl⟩ : ∃ g, f = g + 1 := ⟨f - 1, by omega⟩
    have e : s = [] := List.eq_nil_of_length_eq_zero (by omega)
    subst e
    simp [Lib.countFrom, Lib.index]
  | succ n ih =>
    intro f s hn hf
    obtain ⟨f, rfl⟩ : ∃ g, f = g + 1 := ⟨f - 1, by omega⟩
    by_cases hb : b ∈ s
    · obtain ⟨p, q, e, hp⟩ := first_at b s hb
      have hl : s.length = p.length + (q.length + 1) := by rw [e, List.length_append, List.length_cons]
      have hi : Lib.index s [b] = p.length := by rw [e]; exact index_some b q p hp
      have hd : s.drop ((Lib.index s [b]).toNat + [b].length) = q := by
        rw [hi, e, Int.toNat_natCast]
        simp
      have hne : ¬ (Lib.index s [b] == -1) = true := by rw [hi]; simp
      simp only [Lib.countFrom]
      rw [if_neg hne, if_neg hne, hd, ih f q (by omega) (by omega), ih s.length q (by omega) (by omega)]
    · have hi := index_none b s hb
      simp [Lib.countFrom, hi]
theorem splitK_spl (b : UInt8) : ∀ (n : Nat) (s : List UInt8), s.length ≤ n → Lib.splitK [b] 0 (Lib.count s [b]) s = spl b s := by
  intro n
  induction n with
  | zero =>
    intro s hn
    have e : s = [] := List.eq_nil_of_length_eq_zero (by omega)
    subst e
    rfl
  | succ n ih =>
    intro s hn
    by_cases hb : b ∈ s
    · obtain ⟨p, q, e, hp⟩ := first_at b s hb
      have hl : s.length = p.length + (q.length + 1) := by rw [e, List.length_append, List.length_cons]
      have hi : Lib.index s [b] = p.length := by rw [e]; exact index_some b q p hp
      have hd : s.drop ((Lib.index s [b]).toNat + [b].length) = q := by
        rw [hi, e, Int.toNat_natCast]
        simp
      have hne : ¬ (Lib.index s [b] == -1) = true := by rw [hi]; simp
      have hc : Lib.count s [b] = Lib.count q [b] + 1 := by
        unfold Lib.count
        simp only [Lib.countFrom]
        rw [if_neg hne, hd, count_fuel b q.length s.length q (Nat.le_refl _) (by omega)]
        simp only [Lib.countFrom]
        omega
      rw [hc]
      simp only [Lib.splitK]
      rw [if_neg hne, hd, ih q (by omega), hi, e, spl_some b q p hp]
      simp
    · have hi := index_none b s hb
      rw [spl_none b s hb]
      unfold Lib.count
      simp [Lib.countFrom, hi, Lib.splitK]

/-! ### what strconv.Atoi makes of a numeral -/
theorem dig_val : ∀ x : Nat, x < 10 → Lib.digitVal (UInt8.ofNat (48 + x)) = some x := by decide
theorem dig_ne : ∀ x : Nat, x < 10 → (UInt8.ofNat (48 + x)).toNat ≠ 43 ∧ (UInt8.ofNat (48 + x)).toNat ≠ 45 := by decide
theorem dd_form (u : Nat) (h : u < 1000) : ∃ x : Nat, x < 10 ∧ ∃ r : List UInt8, Lib.decDigits u = UInt8.ofNat (48 + x) :: r ∧ r.length ≤ 2 ∧ Lib.decFrom 0 (UInt8.ofNat (48 + x) :: r) = some u ∧ (r = [] ∨ 0 < x) := by
  have one : ∀ v : Nat, v < 10 → Lib.decDigits v = [UInt8.ofNat (48 + v)] := fun v hv => by rw [Lib.decDigits, dif_pos hv]
  have two : ∀ v : Nat, ¬ v < 10 → Lib.decDigits v = Lib.decDigits (v / 10) ++ [UInt8.ofNat (48 + v % 10)] := fun v hv => by rw [Lib.decDigits, dif_neg hv]
  by_cases h1 : u < 10
  · refine ⟨u, h1, [], one u h1, by simp, ?_⟩
    simp only [Lib.decFrom, dig_val u h1]
    exact ⟨by simp, .inl (by trivial)⟩
  · by_cases h2 : u < 100
    · refine ⟨u / 10, by omega, [UInt8.ofNat (48 + u % 10)], ?_, by simp, ?_⟩
      · rw [two u h1, one (u / 10) (by omega)]; rfl
      · simp only [Lib.decFrom, dig_val (u / 10) (by omega), dig_val (u % 10) (by omega)]
        exact ⟨by congr 1; omega, .inr (by omega)⟩
    · refine ⟨u / 10 / 10, by omega, [UInt8.ofNat (48 + u / 10 % 10), UInt8.ofNat (48 + u % 10)], ?_, by simp, ?_⟩
      · rw [two u h1, two (u / 10) (by omega), one (u / 10 / 10) (by omega)]; rfl
      · simp only [Lib.decFrom, dig_val (u / 10 / 10) (by omega), dig_val (u / 10 % 10) (by omega), dig_val (u % 10) (by omega)]
        exact ⟨by congr 1; omega, .inr (by omega)⟩
theorem atoi_dd (u : Nat) (h : u < 1000) : Lib.atoiAll (Lib.decDigits u) = .ok (u : Int) := by
  obtain ⟨x, hx, r, e, hr, hd, _⟩ := dd_form u h
  obtain ⟨n1, n2⟩ := dig_ne x hx
  rw [e, Lib.atoiAll_plain _ r n1 n2, Lib.signless_short (by simp only [List.length_cons]; omega)]
  have e2 : Lib.decNat (UInt8.ofNat (48 + x) :: r) = some u := by
    unfold Lib.decNat
    rw [if_neg (by simp)]
    exact hd
  rw [e2]
  rfl
theorem dig_nat : ∀ x : Nat, x < 10 → (UInt8.ofNat (48 + x)).toNat = 48 + x := by decide
theorem dd_dig (u : Nat) (h : u < 1000) : ∀ c ∈ Lib.decDigits u, 48 ≤ c.toNat ∧ c.toNat ≤ 57 := by
  have one : ∀ v : Nat, v < 10 → ∀ c ∈ Lib.decDigits v, 48 ≤ c.toNat ∧ c.toNat ≤ 57 := fun v hv c hc => by
    rw [Lib.decDigits, dif_pos hv] at hc
    rw [List.mem_singleton.1 hc, dig_nat v hv]
    omega
  have step : ∀ v : Nat, ¬ v < 10 → (∀ c ∈ Lib.decDigits (v / 10), 48 ≤ c.toNat ∧ c.toNat ≤ 57) → ∀ c ∈ Lib.decDigits v, 48 ≤ c.toNat ∧ c.toNat ≤ 57 := fun v hv hq c hc => by
    rw [Lib.decDigits, dif_neg hv] at hc
    rcases List.mem_append.1 hc with hc | hc
    · exact hq c hc
    · rw [List.mem_singleton.1 hc, dig_nat (v % 10) (by omega)]
      omega
  by_cases h1 : u < 10
  · exact one u h1
  · refine step u h1 ?_
    by_cases h2 : u / 10 < 10
    · exact one (u / 10) h2
    · exact step (u / 10) h2 (one (u / 10 / 10) (by omega))
theorem dd_no (u : Nat) (h : u < 1000) (b : UInt8) (hb : b.toNat < 48 ∨ 57 < b.toNat) : b ∉ Lib.decDigits u := fun hm => by
  have := dd_dig u h b hm
  omega

/-! ### numerals, and texts cut and split, as the program reads them -/
theorem mk_list (l : List UInt8) : (mk l).toList = l := by rw [ByteArray.toList_eq]; exact mk_data l
theorem number_ok (a most : Int) (h0 : 0 ≤ a) (h1 : a ≤ most) (hm : most ≤ 500) : impl_number.f (mk (dd a)) most = some (a, true) := by
  unfold impl_number.f
  have hl := dd_len a.toNat (by omega)
  rw [if_pos (by rw [mk_size]; show (Lib.decDigits a.toNat).length ≤ _; omega), mk_data, mk_list]
  have e := atoi_dd a.toNat (by omega)
  have e2 : ((a.toNat : Nat) : Int) = a := by omega
  rw [e2] at e
  show some (match Lib.atoiAll (Lib.decDigits a.toNat) with | .ok v => _ | _ => _) = _
  rw [e]
  have e3 : Lib.itoa a = dd a := by unfold Lib.itoa; rw [if_neg (by omega)]
  simp only
  rw [if_pos e3, if_pos ⟨h0, h1⟩]
theorem number_bad (t : List UInt8) (ht : t.length ≤ 2000000) (most : Int) (hb : ∀ a : Int, 0 ≤ a → a ≤ most → t ≠ dd a) : impl_number.f (mk t) most = some (0, false) := by
  unfold impl_number.f
  rw [if_pos (by rw [mk_size]; exact ht), mk_data, mk_list]
  congr 1
  split
  · rename_i v hv
    split
    · rename_i h1
      rw [if_neg]
      intro h2
      refine hb v h2.1 h2.2 ?_
      rw [← h1]
      unfold Lib.itoa
      rw [if_neg (by omega)]
    · rfl
  · rfl
theorem number_cases (t : List UInt8) (ht : t.length ≤ 2000000) (most : Int) (hm : most ≤ 500) : (∃ a : Int, 0 ≤ a ∧ a ≤ most ∧ t = dd a ∧ impl_number.f (mk t) most = some (a, true)) ∨ ((∀ a : Int, 0 ≤ a → a ≤ most → t ≠ dd a) ∧ impl_number.f (mk t) most = some (0, false)) := by
  by_cases h : ∃ a : Int, 0 ≤ a ∧ a ≤ most ∧ t = dd a
  · obtain ⟨a, h0, h1, e⟩ := h
    exact .inl ⟨a, h0, h1, e, by rw [e]; exact number_ok a most h0 h1 hm⟩
  · have hb : ∀ a : Int, 0 ≤ a → a ≤ most → t ≠ dd a := fun a h0 h1 e => h ⟨a, h0, h1, e⟩
    exact .inr ⟨hb, number_bad t ht most hb⟩
theorem split_eq (b : UInt8) (s : List UInt8) (hs : s.length ≤ 2000000) : strings_Split.f (mk s) (mk [b]) = some ((spl b s).map mk) := by
  unfold strings_Split.f
  rw [if_pos ⟨by rw [mk_size]; exact hs, by rw [mk_size]; simp⟩]
  congr 1
  have h := Lib.splitB_data (mk [b]) 0 (Lib.countB (mk s) (mk [b])) (mk s)
  rw [mk_data, mk_data] at h
  have hc : Lib.countB (mk s) (mk [b]) = Lib.count s [b] := by unfold Lib.countB; rw [mk_data, mk_data]
  rw [hc, splitK_spl b s.length s (Nat.le_refl _)] at h
  rw [hc, ← h, List.map_map]
  refine ((List.map_congr_left (fun x _ => ?_)).trans (List.map_id _)).symm
  show mk x.data.toList = x
  rfl
theorem rd_str (l : List (List UInt8)) (i : Nat) (h : i < l.length) : rdOf ByteArray.empty (l.map mk) (i : Int) = mk l[i] := by
  unfold rdOf
  rw [Int.toNat_natCast]
  simp [List.getD, h]
/-- numbers of a text with signs between them: all of them numerals, and so many, or no numbers at all -/
theorem numbers_loop (m : Nat) (hm : m ≤ 100) (most : Int) (hmost : most ≤ 500) (ps : List (List UInt8)) (hl : ps.length ≤ 2000001) (hp : ∀ p ∈ ps, p.length ≤ 2000000) : ∀ (t : List (List UInt8)) (i : Nat) (out : List Int), ps.drop i = t → i + t.length = ps.length → out.length = i →
    (∃ ns : List Int, (∀ a ∈ ns, 0 ≤ a ∧ a ≤ most) ∧ t = ns.map dd ∧ Ev (fun k => impl_numbers.l0 k (m : Int) most out (ps.map mk) ((ps.map mk).length : Int) (i : Int)) (if (out ++ ns).length = m then (out ++ ns, true) else (List.replicate m 0, false))) ∨
    ((¬ ∃ ns : List Int, (∀ a ∈ ns, 0 ≤ a ∧ a ≤ most) ∧ t = ns.map dd) ∧ Ev (fun k => impl_numbers.l0 k (m : Int) most out (ps.map mk) ((ps.map mk).length : Int) (i : Int)) (List.replicate m 0, false)) := by
  intro t
  have hml : (ps.map mk).length = ps.length := List.length_map _
  induction t with
  | nil =>
    intro i out hd hi ho
    simp only [List.length_nil] at hi
    refine .inl ⟨[], fun a ha => absurd ha List.not_mem_nil, rfl, ?_⟩
    refine Ev.succ ?_
    simp only [impl_numbers.l0]
    refine Ev.neg (by omega) ?_
    rw [List.append_nil]
    by_cases h : out.length = m
    · rw [if_pos h]
      exact Ev.pos (by omega) (Ev.now _)
    · rw [if_neg h]
      exact Ev.neg (by omega) (Ev.pos (by omega) (Ev.pos (by omega) (Ev.eqr (Ev.now _) (by rw [Int.toNat_natCast]))))
  | cons p t ih =>
    intro i out hd hi ho
    simp only [List.length_cons] at hi
    have hi1 : i < ps.length := by omega
    have e1 := List.drop_eq_getElem_cons hi1
    rw [hd] at e1
    injection e1 with e2 e3
    have hpp := hp p (by rw [e2]; exact List.getElem_mem _)
    rcases number_cases p hpp most hmost with ⟨a, h0, h1, e, hn⟩ | ⟨hb, hn⟩
    · have step : ∀ R, Ev (fun k => impl_numbers.l0 k (m : Int) most (out ++ [a]) (ps.map mk) ((ps.map mk).length : Int) ((i + 1 : Nat) : Int)) R → Ev (fun k => impl_numbers.l0 k (m : Int) most out (ps.map mk) ((ps.map mk).length : Int) (i : Int)) R := by
        intro R hR
        refine Ev.succ ?_
        simp only [impl_numbers.l0]
        rw [rd_str ps i hi1, ← e2]
        refine Ev.pos (by omega) (Ev.pos (by omega) (Ev.pos (by omega) (Ev.bindc hn (Ev.pos rfl (Ev.pos (by omega) ?_)))))
        rw [wrap64_id (n := (i : Int) + 1) (by omega) (by omega)]
        exact hR
      rcases ih (i + 1) (out ++ [a]) e3.symm (by omega) (by simp [ho]) with ⟨ns, q1, q2, q3⟩ | ⟨q1, q2⟩
      · refine .inl ⟨a :: ns, fun x hx => (List.mem_cons.1 hx).elim (fun z => by rw [z]; exact ⟨h0, h1⟩) (q1 x), by rw [q2, e]; rfl, ?_⟩
        have := step _ q3
        rw [List.append_assoc, List.singleton_append] at this
        exact this
      · refine .inr ⟨fun ⟨ns, z1, z2⟩ => ?_, step _ q2⟩
        cases ns with
        | nil => simp at z2
        | cons x ns =>
          rw [List.map_cons] at z2
          injection z2 with _ z3
          exact q1 ⟨ns, fun y hy => z1 y (List.mem_cons_of_mem _ hy), z3⟩
    · refine .inr ⟨fun ⟨ns, z1, z2⟩ => ?_, ?_⟩
      · cases ns with
        | nil => simp at z2
        | cons x ns =>
          rw [List.map_cons] at z2
          injection z2 with z3 _
          have := z1 x List.mem_cons_self
          exact hb x this.1 this.2 z3
      · refine Ev.succ ?_
        simp only [impl_numbers.l0]
        rw [rd_str ps i hi1, ← e2]
        refine Ev.pos (by omega) (Ev.pos (by omega) (Ev.pos (by omega) (Ev.bindc hn (Ev.neg (by simp) (Ev.pos (by omega) (Ev.pos (by omega) (Ev.eqr (Ev.now _) (by rw [Int.toNat_natCast]))))))))

/-! ### texts split and numerals read, as the reference does it -/
theorem bt_mk (s : List UInt8) (i : Nat) (h : i < s.length) : bt (mk s) (i : Int) = ((s[i]).toNat : Int) := by
  unfold bt
  rw [Int.toNat_natCast, dif_pos (by rw [mk_size]; exact h)]
  rfl
theorem ext_mk (s : List UInt8) (a b : Nat) : (mk s).extract a b = mk ((s.drop a).take (b - a)) := by
  apply ByteArray.ext
  rw [ByteArray.data_extract]
  unfold mk
  simp [List.extract_eq_take_drop]
theorem l1Split_loop (s : List UInt8) (hs : s.length ≤ 2000000) (b : UInt8) : ∀ (t : List UInt8) (i fr : Nat) (acc : List (List UInt8)), s.drop i = t → i + t.length = s.length → fr ≤ i → acc.length ≤ i → b ∉ (s.drop fr).take (i - fr) →
    Ev (fun k => spec_l1Split.l0 k (mk s) (b.toNat : Int) (acc.map mk) (fr : Int) (i : Int)) ((acc ++ spl b (s.drop fr)).map mk) := by
  intro t
  induction t with
  | nil =>
    intro i fr acc hd hi hf ha hb
    simp only [List.length_nil] at hi
    refine Ev.succ ?_
    simp only [spec_l1Split.l0]
    have hz : (mk s).size = s.length := mk_size s
    refine Ev.neg (by omega) (Ev.pos (by omega) (Ev.pos (by omega) (Ev.pos (by simp only [List.length_map]; omega) (Ev.eqr (Ev.now _) ?_))))
    rw [Int.toNat_natCast, hz, ext_mk]
    have e : (s.drop fr).take (s.length - fr) = s.drop fr := List.take_of_length_le (by simp)
    rw [show i - fr = s.length - fr by omega, e] at hb
    rw [e, spl_none b _ hb]
    simp
  | cons c t ih =>
    intro i fr acc hd hi hf ha hb
    simp only [List.length_cons] at hi
    have hi1 : i < s.length := by omega
    have e1 := List.drop_eq_getElem_cons hi1
    rw [hd] at e1
    injection e1 with e2 e3
    have hz : (mk s).size = s.length := mk_size s
    have hcut : s.drop fr = (s.drop fr).take (i - fr) ++ c :: t := by
      have h := (List.take_append_drop (i - fr) (s.drop fr)).symm
      rw [List.drop_drop, show fr + (i - fr) = i by omega, hd] at h
      exact h
    refine Ev.succ ?_
    simp only [spec_l1Split.l0]
    rw [bt_mk s i hi1, ← e2]
    have ei : wrap64 ((i : Int) + 1) = ((i + 1 : Nat) : Int) := (wrap64_id (by omega) (by omega)).trans (by omega)
    refine Ev.pos (by omega) (Ev.pos (by omega) ?_)
    by_cases h : c = b
    · refine Ev.pos (by rw [h]) (Ev.pos (by omega) (Ev.pos (by omega) (Ev.pos (by omega) (Ev.pos (by simp only [List.length_map]; omega) ?_))))
      rw [ei, Int.toNat_natCast, Int.toNat_natCast, ext_mk]
      have hr := ih (i + 1) (i + 1) (acc ++ [(s.drop fr).take (i - fr)]) e3.symm (by omega) (Nat.le_refl _) (by simp only [List.length_append, List.length_cons, List.length_nil]; omega) (by simp)
      rw [List.map_append, List.map_cons, List.map_nil] at hr
      refine Ev.eqr hr ?_
      congr 1
      rw [List.append_assoc]
      congr 1
      have h9 := spl_some b t _ hb
      rw [h] at hcut
      have h8 : spl b (s.drop fr) = (s.drop fr).take (i - fr) :: spl b t := by rw [← h9]; exact congrArg (spl b) hcut
      rw [h8, ← e3]
      rfl
    · refine Ev.neg (fun e => h (UInt8.toNat_inj.1 (by omega))) ?_
      rw [ei]
      refine ih (i + 1) fr acc e3.symm (by omega) (by omega) (by omega) ?_
      rw [show i + 1 - fr = (i - fr) + 1 by omega, List.take_add_one]
      intro hm
      rcases List.mem_append.1 hm with hm | hm
      · exact hb hm
      · rw [List.getElem?_drop, show fr + (i - fr) = i by omega, List.getElem?_eq_getElem hi1, ← e2] at hm
        simp at hm
        exact h hm.symm
theorem l1Split_ev (s : List UInt8) (hs : s.length ≤ 2000000) (b : UInt8) : Ev (fun k => spec_l1Split.f k (mk s) (b.toNat : Int)) ((spl b s).map mk) := by
  unfold spec_l1Split.f
  exact l1Split_loop s hs b s 0 0 [] rfl (by omega) (Nat.le_refl _) (Nat.zero_le _) (by simp)
/-- reading a text's number ends, whatever the text -/
theorem l1Read_any (t : List UInt8) (ht : t.length ≤ 100) : ∀ (d i : Nat) (x : Int), t.length - i = d → i ≤ t.length → ∃ v : Int, Ev (fun k => spec_l1Read.l0 k (mk t) x (i : Int)) v := by
  have hz : (mk t).size = t.length := mk_size t
  intro d
  induction d with
  | zero =>
    intro i x hd hi
    refine ⟨x, Ev.succ ?_⟩
    simp only [spec_l1Read.l0]
    exact Ev.neg (by omega) (Ev.now _)
  | succ d ih =>
    intro i x hd hi
    have ei : wrap64 ((i : Int) + 1) = ((i + 1 : Nat) : Int) := (wrap64_id (by omega) (by omega)).trans (by omega)
    obtain ⟨v, hv⟩ := ih (i + 1) (wrap64 ((wrap64 (10 * x)) + (((bt (mk t) (i : Int)) - 48) % 256))) (by omega) (by omega)
    by_cases h1 : bt (mk t) (i : Int) < 48
    · refine ⟨-1, Ev.succ ?_⟩
      simp only [spec_l1Read.l0]
      exact Ev.pos (by omega) (Ev.pos (by omega) (Ev.pos h1 (Ev.now _)))
    · by_cases h2 : bt (mk t) (i : Int) > 57
      · refine ⟨-1, Ev.succ ?_⟩
        simp only [spec_l1Read.l0]
        exact Ev.pos (by omega) (Ev.pos (by omega) (Ev.neg h1 (Ev.pos h2 (Ev.now _))))
      · refine ⟨v, Ev.succ ?_⟩
        simp only [spec_l1Read.l0]
        rw [ei]
        exact Ev.pos (by omega) (Ev.pos (by omega) (Ev.neg h1 (Ev.neg h2 hv)))
theorem dig_of {c : UInt8} {d : Nat} (h : Lib.digitVal c = some d) : 48 ≤ c.toNat ∧ c.toNat ≤ 57 ∧ d = c.toNat - 48 := by
  unfold Lib.digitVal at h
  split at h
  · rename_i h1
    have h2 := Option.some.inj h
    exact ⟨h1.1, h1.2, h2.symm⟩
  · cases h
theorem dec_le : ∀ (r : List UInt8) (x m : Nat), Lib.decFrom x r = some m → x ≤ m := by
  intro r
  induction r with
  | nil => intro x m h; simp only [Lib.decFrom] at h; exact Nat.le_of_eq (Option.some.inj h)
  | cons c r ih =>
    intro x m h
    simp only [Lib.decFrom] at h
    split at h
    · have := ih _ _ h; omega
    · cases h
theorem l1Read_num (t : List UInt8) (ht : t.length ≤ 100) : ∀ (r : List UInt8) (i x m : Nat), t.drop i = r → i + r.length = t.length → Lib.decFrom x r = some m → m < 1000000 → x ≤ m → Ev (fun k => spec_l1Read.l0 k (mk t) (x : Int) (i : Int)) (m : Int) := by
  have hz : (mk t).size = t.length := mk_size t
  intro r
  induction r with
  | nil =>
    intro i x m hd hi hm hb hx
    simp only [List.length_nil] at hi
    simp only [Lib.decFrom] at hm
    have e := Option.some.inj hm
    subst e
    refine Ev.succ ?_
    simp only [spec_l1Read.l0]
    exact Ev.neg (by omega) (Ev.now _)
  | cons c r ih =>
    intro i x m hd hi hm hb hx
    simp only [List.length_cons] at hi
    have hi1 : i < t.length := by omega
    have e1 := List.drop_eq_getElem_cons hi1
    rw [hd] at e1
    injection e1 with e2 e3
    simp only [Lib.decFrom] at hm
    cases hv : Lib.digitVal c with
    | none => rw [hv] at hm; cases hm
    | some d =>
      rw [hv] at hm
      obtain ⟨d1, d2, d3⟩ := dig_of hv
      have hle : x * 10 + d ≤ m := dec_le r _ _ hm
      have ei : wrap64 ((i : Int) + 1) = ((i + 1 : Nat) : Int) := (wrap64_id (by omega) (by omega)).trans (by omega)
      refine Ev.succ ?_
      simp only [spec_l1Read.l0]
      rw [bt_mk t i hi1, ← e2]
      refine Ev.pos (by omega) (Ev.pos (by omega) (Ev.neg (by omega) (Ev.neg (by omega) ?_)))
      rw [ei, wrap64_id (n := 10 * (x : Int)) (by omega) (by omega), show (((c.toNat : Nat) : Int) - 48) % 256 = (d : Int) by omega, wrap64_id (n := 10 * (x : Int) + (d : Int)) (by omega) (by omega), show 10 * (x : Int) + (d : Int) = ((x * 10 + d : Nat) : Int) by omega]
      exact ih (i + 1) (x * 10 + d) m e3.symm (by omega) hm hb hle
theorem read_any (t : List UInt8) : ∃ v : Int, Ev (fun k => spec_l1Read.f k (mk t)) v := by
  unfold spec_l1Read.f
  have hz : (mk t).size = t.length := mk_size t
  by_cases h : 1 ≤ ((mk t).size : Int) ∧ ((mk t).size : Int) ≤ 6
  · obtain ⟨v, hv⟩ := l1Read_any t (by omega) t.length 0 0 (by omega) (Nat.zero_le _)
    by_cases h2 : bt (mk t) 0 = 48
    · by_cases h3 : ((mk t).size : Int) > 1
      · refine ⟨-1, Ev.bindc (l1In_eqN _ _ _) (Ev.pos (decide_eq_true h) (Ev.pos (by omega) (Ev.pos h2 (Ev.succ ?_))))⟩
        simp only [spec_l1Read.j0]
        exact Ev.pos (decide_eq_true h3) (Ev.now _)
      · refine ⟨v, Ev.bindc (l1In_eqN _ _ _) (Ev.pos (decide_eq_true h) (Ev.pos (by omega) (Ev.pos h2 (Ev.succ ?_))))⟩
        simp only [spec_l1Read.j0]
        exact Ev.neg (by simpa using h3) hv
    · refine ⟨v, Ev.bindc (l1In_eqN _ _ _) (Ev.pos (decide_eq_true h) (Ev.pos (by omega) (Ev.neg h2 (Ev.succ ?_))))⟩
      simp only [spec_l1Read.j0]
      exact Ev.neg (by decide) hv
  · refine ⟨-1, Ev.bindc (l1In_eqN _ _ _) (Ev.neg (by simpa using h) (Ev.succ ?_))⟩
    simp only [spec_l1Read.j0]
    exact Ev.pos (by simp) (Ev.now _)
theorem read_dd (a : Int) (h0 : 0 ≤ a) (h1 : a < 1000) : Ev (fun k => spec_l1Read.f k (mk (dd a))) a := by
  obtain ⟨x, hx, r, e, hr, hd, hz0⟩ := dd_form a.toNat (by omega)
  have ea : ((a.toNat : Nat) : Int) = a := by omega
  have et : dd a = UInt8.ofNat (48 + x) :: r := e
  rw [et]
  have hz : (mk (UInt8.ofNat (48 + x) :: r)).size = r.length + 1 := by rw [mk_size]; rfl
  have hn := l1Read_num (UInt8.ofNat (48 + x) :: r) (by simp only [List.length_cons]; omega) (UInt8.ofNat (48 + x) :: r) 0 0 a.toNat rfl (by omega) hd (by omega) (Nat.zero_le _)
  rw [ea] at hn
  have hb : bt (mk (UInt8.ofNat (48 + x) :: r)) 0 = 48 + (x : Int) := by
    have h := bt_mk (UInt8.ofNat (48 + x) :: r) 0 (by simp)
    rw [show ((0 : Nat) : Int) = 0 from rfl] at h
    rw [h, List.getElem_cons_zero, dig_nat x hx]
    omega
  unfold spec_l1Read.f
  refine Ev.bindc (l1In_eqN _ _ _) (Ev.pos (decide_eq_true (by omega)) (Ev.pos (by omega) ?_))
  rw [hb]
  by_cases h2 : 48 + (x : Int) = 48
  · refine Ev.pos h2 (Ev.succ ?_)
    simp only [spec_l1Read.j0]
    have hr0 : r = [] := hz0.resolve_right (by omega)
    refine Ev.neg ?_ hn
    rw [hz, hr0]
    simp
  · refine Ev.neg h2 (Ev.succ ?_)
    simp only [spec_l1Read.j0]
    exact Ev.neg (by decide) hn

/-! ### texts of numbers with signs between them -/
theorem spl_len (b : UInt8) : ∀ l : List UInt8, (spl b l).length ≤ l.length + 1 ∧ ∀ g ∈ spl b l, g.length ≤ l.length := by
  intro l
  induction l with
  | nil => exact ⟨by simp [spl], fun g hg => by simp only [spl, List.mem_singleton] at hg; subst hg; simp⟩
  | cons c t ih =>
    simp only [spl]
    split
    · refine ⟨by simp only [List.length_cons]; omega, fun g hg => ?_⟩
      rcases List.mem_cons.1 hg with e | e
      · subst e; simp
      · have := ih.2 g e; simp only [List.length_cons]; omega
    · cases hs : spl b t with
      | nil => exact absurd hs (spl_ne b t)
      | cons g0 r =>
        rw [hs] at ih
        refine ⟨by simp only [List.length_cons] at ih ⊢; omega, fun g hg => ?_⟩
        rcases List.mem_cons.1 hg with e | e
        · subst e
          have := ih.2 g0 List.mem_cons_self
          simp only [List.length_cons]; omega
        · have := ih.2 g (List.mem_cons_of_mem _ e)
          simp only [List.length_cons]; omega
theorem dd_sign (a : Int) (h0 : 0 ≤ a) (h1 : a < 1000) (b : UInt8) (hb : b.toNat < 48 ∨ 57 < b.toNat) : b ∉ dd a := dd_no a.toNat (by omega) b hb
theorem dd_inj (a b : Int) (ha0 : 0 ≤ a) (ha1 : a < 1000) (hb0 : 0 ≤ b) (hb1 : b < 1000) (e : dd a = dd b) : a = b := by
  have h1 := atoi_dd a.toNat (by omega)
  have h2 := atoi_dd b.toNat (by omega)
  have e' : Lib.decDigits a.toNat = Lib.decDigits b.toNat := e
  rw [e', h2] at h1
  injection h1 with h3
  omega
theorem dds_inj : ∀ V W : List Int, (∀ w ∈ V, 0 ≤ w ∧ w ≤ 500) → (∀ w ∈ W, 0 ≤ w ∧ w ≤ 500) → V.map dd = W.map dd → V = W := by
  intro V
  induction V with
  | nil => intro W _ _ h; cases W with
    | nil => rfl
    | cons w W => simp at h
  | cons v V ih =>
    intro W hV hW h
    cases W with
    | nil => simp at h
    | cons w W =>
      rw [List.map_cons, List.map_cons] at h
      injection h with h1 h2
      have a := hV v List.mem_cons_self
      have b := hW w List.mem_cons_self
      rw [dd_inj v w a.1 (by omega) b.1 (by omega) h1, ih W (fun x hx => hV x (List.mem_cons_of_mem _ hx)) (fun x hx => hW x (List.mem_cons_of_mem _ hx)) h2]
theorem tail_cons (s y : List UInt8) (r : List (List UInt8)) : Lib.joinTail s (y :: r) = s ++ (y ++ Lib.joinTail s r) := by simp [Lib.joinTail]
theorem join_no (x b : UInt8) (hx : x ≠ b) (ps : List (List UInt8)) (h : ∀ p ∈ ps, x ∉ p) : x ∉ Lib.join ps [b] := by
  have tl : ∀ ps : List (List UInt8), (∀ p ∈ ps, x ∉ p) → x ∉ Lib.joinTail [b] ps := by
    intro ps
    induction ps with
    | nil => intro _; simp [Lib.joinTail]
    | cons p r ih =>
      intro h hm
      rw [tail_cons] at hm
      rcases List.mem_append.1 hm with z | z
      · exact hx (List.mem_singleton.1 z)
      · rcases List.mem_append.1 z with z | z
        · exact h p List.mem_cons_self z
        · exact ih (fun q hq => h q (List.mem_cons_of_mem _ hq)) z
  cases ps with
  | nil => simp [Lib.join]
  | cons p r =>
    rw [Lib.join_cons]
    intro hm
    rcases List.mem_append.1 hm with z | z
    · exact h p List.mem_cons_self z
    · exact tl r (fun q hq => h q (List.mem_cons_of_mem _ hq)) z
theorem join_len (s : List UInt8) (b : Nat) : ∀ l : List (List UInt8), (∀ x ∈ l, x.length ≤ b) → (Lib.join l s).length ≤ l.length * (b + s.length) := by
  have tl : ∀ ps : List (List UInt8), (∀ p ∈ ps, p.length ≤ b) → (Lib.joinTail s ps).length ≤ ps.length * (b + s.length) := by
    intro ps
    induction ps with
    | nil => intro _; simp [Lib.joinTail]
    | cons p r ih =>
      intro h
      have h1 := h p List.mem_cons_self
      have h2 := ih (fun q hq => h q (List.mem_cons_of_mem _ hq))
      rw [tail_cons]
      simp only [List.length_append, List.length_cons, Nat.add_mul, Nat.one_mul]
      simp only [Nat.mul_add] at h2 ⊢
      omega
  intro l h
  cases l with
  | nil => simp [Lib.join]
  | cons p r =>
    have h1 := h p List.mem_cons_self
    have h2 := tl r (fun q hq => h q (List.mem_cons_of_mem _ hq))
    rw [Lib.join_cons]
    simp only [List.length_append, List.length_cons, Nat.add_mul, Nat.one_mul]
    simp only [Nat.mul_add] at h2 ⊢
    omega
abbrev numL (b : UInt8) (ns : List Int) : List UInt8 := Lib.join (ns.map dd) [b]
def Sg (b : UInt8) : Prop := b.toNat < 48 ∨ 57 < b.toNat
theorem num_spl (b : UInt8) (hb : Sg b) (ns : List Int) (hne : ns ≠ []) (hr : ∀ a ∈ ns, 0 ≤ a ∧ a ≤ 500) : spl b (numL b ns) = ns.map dd := by
  refine spl_of_join b _ (by simpa using hne) (fun p hp => ?_)
  obtain ⟨a, ha, e⟩ := List.mem_map.1 hp
  have := hr a ha
  rw [← e]
  exact dd_sign a this.1 (by omega) b hb
theorem num_no (b x : UInt8) (hx : Sg x) (hxb : x ≠ b) (ns : List Int) (hr : ∀ a ∈ ns, 0 ≤ a ∧ a ≤ 500) : x ∉ numL b ns := by
  refine join_no x b hxb _ (fun p hp => ?_)
  obtain ⟨a, ha, e⟩ := List.mem_map.1 hp
  have := hr a ha
  rw [← e]
  exact dd_sign a this.1 (by omega) x hx
theorem num_inj (b : UInt8) (hb : Sg b) (V W : List Int) (hV : V ≠ []) (hW : W ≠ []) (h1 : ∀ w ∈ V, 0 ≤ w ∧ w ≤ 500) (h2 : ∀ w ∈ W, 0 ≤ w ∧ w ≤ 500) (e : numL b V = numL b W) : V = W := by
  refine dds_inj V W h1 h2 ?_
  rw [← num_spl b hb V hV h1, ← num_spl b hb W hW h2, e]
/-- what the program reads: so many numerals, or none -/
theorem numbers_ev (b : UInt8) (hb : Sg b) (m : Nat) (hm : 1 ≤ m ∧ m ≤ 100) (p : List UInt8) (hp : p.length ≤ 2000000) :
    (∃ ns : List Int, ns.length = m ∧ (∀ a ∈ ns, 0 ≤ a ∧ a ≤ 500) ∧ p = numL b ns ∧ Ev (fun k => impl_numbers.f k (mk p) (mk [b]) (m : Int) 500) (ns, true)) ∨
    ((¬ ∃ ns : List Int, ns.length = m ∧ (∀ a ∈ ns, 0 ≤ a ∧ a ≤ 500) ∧ p = numL b ns) ∧ Ev (fun k => impl_numbers.f k (mk p) (mk [b]) (m : Int) 500) (List.replicate m 0, false)) := by
  have hl := spl_len b p
  have start : ∀ R, Ev (fun k => impl_numbers.l0 k (m : Int) 500 [] ((spl b p).map mk) (((spl b p).map mk).length : Int) ((0 : Nat) : Int)) R → Ev (fun k => impl_numbers.f k (mk p) (mk [b]) (m : Int) 500) R := by
    intro R hR
    unfold impl_numbers.f
    exact Ev.bindc (split_eq b p hp) hR
  have back : ∀ ns : List Int, ns.length = m → (∀ a ∈ ns, 0 ≤ a ∧ a ≤ 500) → p = numL b ns → spl b p = ns.map dd := fun ns hn hr e => by
    rw [e]
    exact num_spl b hb ns (by intro h; rw [h] at hn; simp at hn; omega) hr
  rcases numbers_loop m hm.2 500 (by omega) (spl b p) (by omega) (fun g hg => by have := hl.2 g hg; omega) (spl b p) 0 [] rfl (by simp) rfl with ⟨ns, h1, h2, h3⟩ | ⟨h1, h2⟩
  · have h4 := start _ h3
    rw [List.nil_append] at h4
    by_cases hn : ns.length = m
    · rw [if_pos hn] at h4
      refine .inl ⟨ns, hn, h1, ?_, h4⟩
      have e := spl_join b p
      rw [h2] at e
      exact e.symm
    · rw [if_neg hn] at h4
      refine .inr ⟨fun ⟨ms, q1, q2, q3⟩ => hn ?_, h4⟩
      have e := back ms q1 q2 q3
      rw [h2] at e
      rw [dds_inj ns ms h1 q2 e, q1]
  · exact .inr ⟨fun ⟨ms, q1, q2, q3⟩ => h1 ⟨ms, q2, back ms q1 q2 q3⟩, start _ h2⟩

/-! ### the text of a cut -/
abbrev sqL (s : Sq) : List UInt8 := numL 44 [s.f0, s.f1, s.f2]
abbrev sizeL (W H : Int) : List UInt8 := numL 120 [W, H]
def cutL (W H : Int) (l : List Sq) : List UInt8 := Lib.join (sizeL W H :: l.map sqL) [59]
def InS (s : Sq) : Prop := (0 ≤ s.f0 ∧ s.f0 ≤ 500) ∧ (0 ≤ s.f1 ∧ s.f1 ≤ 500) ∧ (0 ≤ s.f2 ∧ s.f2 ≤ 500)
theorem inS_all {s : Sq} (h : InS s) : ∀ a ∈ [s.f0, s.f1, s.f2], 0 ≤ a ∧ a ≤ 500 := by
  obtain ⟨h0, h1, h2⟩ := h
  intro a ha
  simp only [List.mem_cons, List.not_mem_nil, or_false] at ha
  rcases ha with rfl | rfl | rfl
  · exact h0
  · exact h1
  · exact h2
theorem size_all {W H : Int} (hW : 0 ≤ W ∧ W ≤ 500) (hH : 0 ≤ H ∧ H ≤ 500) : ∀ a ∈ [W, H], 0 ≤ a ∧ a ≤ 500 := by
  intro a ha
  simp only [List.mem_cons, List.not_mem_nil, or_false] at ha
  rcases ha with rfl | rfl
  · exact hW
  · exact hH
theorem good_in {W H : Int} {l : List Sq} (hg : Good W H l) : ((0 ≤ W ∧ W ≤ 500) ∧ (0 ≤ H ∧ H ≤ 500)) ∧ ∀ s ∈ l, InS s := by
  have hw := hg.1
  have hh := hg.2.1
  refine ⟨⟨by omega, by omega⟩, fun s hs => ?_⟩
  obtain ⟨m, hm, rfl⟩ := List.mem_iff_getElem.1 hs
  have hi := (hg.2.2.2.1 m hm).1
  rw [sqAt_get l m hm] at hi
  unfold Ins at hi
  unfold InS
  omega
theorem sq_inj (v w : Sq) (hv : InS v) (hw : InS w) (e : sqL v = sqL w) : v = w := by
  have := num_inj 44 (.inl (by decide)) _ _ (by simp) (by simp) (inS_all hv) (inS_all hw) e
  injection this with a this
  injection this with b this
  injection this with c _
  cases v; cases w
  simp only at a b c
  rw [a, b, c]
theorem sqs_inj : ∀ V W : List Sq, (∀ w ∈ V, InS w) → (∀ w ∈ W, InS w) → V.map sqL = W.map sqL → V = W := by
  intro V
  induction V with
  | nil => intro W _ _ h; cases W with
    | nil => rfl
    | cons w W => simp at h
  | cons v V ih =>
    intro W hV hW h
    cases W with
    | nil => simp at h
    | cons w W =>
      rw [List.map_cons, List.map_cons] at h
      injection h with h1 h2
      rw [sq_inj v w (hV v List.mem_cons_self) (hW w List.mem_cons_self) h1, ih W (fun x hx => hV x (List.mem_cons_of_mem _ hx)) (fun x hx => hW x (List.mem_cons_of_mem _ hx)) h2]
theorem size_inj (W H V K : Int) (h1 : 0 ≤ W ∧ W ≤ 500) (h2 : 0 ≤ H ∧ H ≤ 500) (h3 : 0 ≤ V ∧ V ≤ 500) (h4 : 0 ≤ K ∧ K ≤ 500) (e : sizeL W H = sizeL V K) : W = V ∧ H = K := by
  have := num_inj 120 (.inr (by decide)) _ _ (by simp) (by simp) (size_all h1 h2) (size_all h3 h4) e
  injection this with a this
  injection this with b _
  exact ⟨a, b⟩
theorem cut_spl {W H : Int} {l : List Sq} (h : ((0 ≤ W ∧ W ≤ 500) ∧ (0 ≤ H ∧ H ≤ 500)) ∧ ∀ s ∈ l, InS s) : spl 59 (cutL W H l) = sizeL W H :: l.map sqL := by
  refine spl_of_join 59 _ (by simp) (fun p hp => ?_)
  rcases List.mem_cons.1 hp with e | e
  · rw [e]; exact num_no 120 59 (.inr (by decide)) (by decide) _ (size_all h.1.1 h.1.2)
  · obtain ⟨s, hs, e⟩ := List.mem_map.1 e
    rw [← e]; exact num_no 44 59 (.inr (by decide)) (by decide) _ (inS_all (h.2 s hs))
theorem sq_len {s : Sq} (h : InS s) : (sqL s).length ≤ 11 := by
  have a := dd_len s.f0.toNat (by have := h.1; omega)
  have b := dd_len s.f1.toNat (by have := h.2.1; omega)
  have c := dd_len s.f2.toNat (by have := h.2.2; omega)
  unfold sqL numL
  rw [List.map_cons, List.map_cons, List.map_cons, List.map_nil, Lib.join_cons, tail_cons, tail_cons]
  simp only [List.length_append, List.length_cons, List.length_nil, Lib.joinTail]
  show (Lib.decDigits s.f0.toNat).length + (0 + 1 + ((Lib.decDigits s.f1.toNat).length + (0 + 1 + ((Lib.decDigits s.f2.toNat).length + _)))) ≤ _
  simp
  omega
theorem size_len {W H : Int} (h1 : 0 ≤ W ∧ W ≤ 500) (h2 : 0 ≤ H ∧ H ≤ 500) : (sizeL W H).length ≤ 7 := by
  have a := dd_len W.toNat (by omega)
  have b := dd_len H.toNat (by omega)
  unfold sizeL numL
  rw [List.map_cons, List.map_cons, List.map_nil, Lib.join_cons, tail_cons]
  simp only [List.length_append, List.length_cons, List.length_nil, Lib.joinTail]
  show (Lib.decDigits W.toNat).length + (0 + 1 + ((Lib.decDigits H.toNat).length + _)) ≤ _
  simp
  omega
theorem cut_len {W H : Int} {l : List Sq} (hg : Good W H l) : (cutL W H l).length ≤ 400 := by
  have hin := good_in hg
  have := join_len [59] 11 (sizeL W H :: l.map sqL) (fun x hx => by
    rcases List.mem_cons.1 hx with e | e
    · rw [e]; have := size_len hin.1.1 hin.1.2; omega
    · obtain ⟨s, hs, e⟩ := List.mem_map.1 e
      rw [← e]; exact sq_len (hin.2 s hs))
  have hl := hg.2.2.1
  simp only [List.length_cons, List.length_map, List.length_nil] at this
  unfold cutL
  omega
theorem cuText_loop {W H : Int} {l : List Sq} (hg : Good W H l) : ∀ (d i : Nat) (out : List UInt8), l.length - i = d → i ≤ l.length → out.length + 100 * d ≤ 100000 →
    Ev (fun k => spec_cuText.l0 k (mk out) l (l.length : Int) (i : Int)) (mk (out ++ Lib.joinTail [59] ((l.drop i).map sqL))) := by
  have hl := hg.2.2.1
  intro d
  induction d with
  | zero =>
    intro i out hd hi ho
    refine Ev.succ ?_
    simp only [spec_cuText.l0]
    refine Ev.neg (by omega) (Ev.eqr (Ev.now _) ?_)
    rw [List.drop_eq_nil_of_le (by omega)]
    simp [Lib.joinTail]
  | succ d ih =>
    intro i out hd hi ho
    have hi1 : i < l.length := by omega
    obtain ⟨i1, i2, i3, i4, i5⟩ := (hg.2.2.2.1 i hi1).1
    have hw := hg.1
    have hh := hg.2.1
    have num_all : ∀ a : Int, 0 ≤ a → a ≤ 500 → ∃ D : List UInt8, D = dd a ∧ D.length ≤ 3 ∧ Ev (fun k => spec_l1Num.f k a) (mk D) := fun a h0 h1 => ⟨dd a, rfl, dd_len a.toNat (by omega), l1Num_ev a h0 (by omega)⟩
    obtain ⟨D0, e0, l0, v0⟩ := num_all (sqAt l i).f0 (by omega) (by omega)
    obtain ⟨D1, e1, l1, v1⟩ := num_all (sqAt l i).f1 (by omega) (by omega)
    obtain ⟨D2, e2, l2, v2⟩ := num_all (sqAt l i).f2 (by omega) (by omega)
    have es : sqL (sqAt l i) = D0 ++ ([44] ++ (D1 ++ ([44] ++ D2))) := by
      unfold sqL numL
      rw [List.map_cons, List.map_cons, List.map_cons, List.map_nil, Lib.join_cons, tail_cons, tail_cons, e0, e1, e2]
      simp [Lib.joinTail]
    refine Ev.succ ?_
    simp only [spec_cuText.l0]
    rw [rd_sq]
    have c44 : (⟨#[44]⟩ : ByteArray) = mk [44] := rfl
    have c59 : (⟨#[59]⟩ : ByteArray) = mk [59] := rfl
    have c1 : (1 : Nat) + (mk D0).size ≤ 9223372036854775807 := by rw [mk_size]; omega
    rw [c44, c59]
    refine Ev.pos (by omega) (Ev.pos (by omega) (Ev.pos (by omega) (Ev.bind v0 (Ev.pos (by rw [mk_size]; omega) (Ev.pos (by simp only [mk_app, mk_size, List.length_append, List.length_cons, List.length_nil]; omega) (Ev.bind v1 (Ev.pos (by simp only [mk_app, mk_size, List.length_append, List.length_cons, List.length_nil]; omega) (Ev.pos (by simp only [mk_app, mk_size, List.length_append, List.length_cons, List.length_nil]; omega) (Ev.bind v2 (Ev.pos (by simp only [mk_app, mk_size, List.length_append, List.length_cons, List.length_nil]; omega) (Ev.pos (by simp only [mk_app, mk_size, List.length_append, List.length_cons, List.length_nil]; omega) ?_)))))))))))
    simp only [mk_app]
    rw [wrap64_id (n := (i : Int) + 1) (by omega) (by omega)]
    have h := ih (i + 1) (out ++ ([59] ++ D0 ++ [44] ++ D1 ++ [44] ++ D2)) (by omega) (by omega) (by
      simp only [List.length_append, List.length_cons, List.length_nil]
      omega)
    refine Ev.eqr h ?_
    rw [List.drop_eq_getElem_cons hi1, List.map_cons, tail_cons, ← sqAt_get l i hi1, es]
    congr 1
    simp only [List.append_assoc]
theorem cuText_ev {W H : Int} {l : List Sq} (hg : Good W H l) : Ev (fun k => spec_cuText.f k W H l) (mk (cutL W H l)) := by
  have hw := hg.1
  have hh := hg.2.1
  have hl := hg.2.2.1
  have l0 := dd_len W.toNat (by omega)
  have l1 := dd_len H.toNat (by omega)
  have v0 := l1Num_ev W (by omega) (by omega)
  have v1 := l1Num_ev H (by omega) (by omega)
  have h0 : dd W = Lib.decDigits W.toNat := rfl
  have h1 : dd H = Lib.decDigits H.toNat := rfl
  rw [← h0] at l0
  rw [← h1] at l1
  clear h0 h1
  unfold spec_cuText.f
  have c120 : (⟨#[120]⟩ : ByteArray) = mk [120] := rfl
  rw [c120]
  refine Ev.bind v0 (Ev.pos (by rw [mk_size]; omega) (Ev.bind v1 (Ev.pos (by simp only [mk_app, mk_size, List.length_append, List.length_cons, List.length_nil]; omega) ?_)))
  simp only [mk_app]
  have h := cuText_loop hg l.length 0 (dd W ++ [120] ++ dd H) (by omega) (Nat.zero_le _) (by simp only [List.length_append, List.length_cons, List.length_nil]; omega)
  refine Ev.eqr h ?_
  unfold cutL
  rw [Lib.join_cons, List.drop_zero]
  congr 2
  unfold sizeL numL
  rw [List.map_cons, List.map_cons, List.map_nil, Lib.join_cons, tail_cons]
  simp [Lib.joinTail]

/-! ### the program's loop over the parts of a cut's text -/
theorem part_step (ok r : Bool) (W0 H0 : Int) (ps : List (List UInt8)) (hl : ps.length ≤ 2000001) (i : Nat) (hi : i < ps.length) (acc : List Sq) (ha : acc.length ≤ i) (a b c : Int) {R : Int × Int × List Sq × Bool}
    (h : Ev (fun k => impl_numbers.f k (mk ps[i]) (mk [44]) 3 500) ([a, b, c], r))
    (hR : Ev (fun k => impl_ParseCut.l0 k (ok && r) (ps.map mk) ((ps.map mk).length : Int) ((i + 1 : Nat) : Int) W0 H0 (acc ++ [⟨a, b, c⟩])) R) :
    Ev (fun k => impl_ParseCut.l0 k ok (ps.map mk) ((ps.map mk).length : Int) (i : Int) W0 H0 acc) R := by
  have hml : (ps.map mk).length = ps.length := List.length_map _
  refine Ev.succ ?_
  simp only [impl_ParseCut.l0]
  rw [rd_str ps i hi]
  have c44 : (⟨#[44]⟩ : ByteArray) = mk [44] := rfl
  rw [c44, wrap64_id (n := (i : Int) + 1) (by omega) (by omega)]
  refine Ev.pos (by omega) (Ev.pos (by omega) (Ev.pos (by omega) (Ev.bind h (Ev.pos (by simp) (Ev.pos (by simp) (Ev.pos (by simp) (Ev.pos (by omega) (Ev.bindc rfl ?_))))))))
  cases ok with
  | true => exact Ev.pos rfl hR
  | false => exact Ev.neg (by simp) hR
theorem three {ns : List Int} (h : ns.length = 3) : ∃ a b c, ns = [a, b, c] := by
  match ns, h with
  | [a, b, c], _ => exact ⟨a, b, c, rfl⟩
theorem two {ns : List Int} (h : ns.length = 2) : ∃ a b, ns = [a, b] := by
  match ns, h with
  | [a, b], _ => exact ⟨a, b, rfl⟩
theorem part_num (p : List UInt8) (hp : p.length ≤ 2000000) :
    (∃ s : Sq, InS s ∧ p = sqL s ∧ Ev (fun k => impl_numbers.f k (mk p) (mk [44]) 3 500) ([s.f0, s.f1, s.f2], true)) ∨
    ((∀ s, InS s → p ≠ sqL s) ∧ Ev (fun k => impl_numbers.f k (mk p) (mk [44]) 3 500) ([0, 0, 0], false)) := by
  rcases numbers_ev 44 (.inl (by decide)) 3 (by omega) p hp with ⟨ns, h1, h2, h3, h4⟩ | ⟨h1, h2⟩
  · obtain ⟨a, b, c, rfl⟩ := three h1
    exact .inl ⟨⟨a, b, c⟩, ⟨h2 a (by simp), h2 b (by simp), h2 c (by simp)⟩, h3, h4⟩
  · exact .inr ⟨fun s hs e => h1 ⟨_, rfl, inS_all hs, e⟩, h2⟩
theorem part_ev (p : List UInt8) (hp : p.length ≤ 2000000) : ∃ (a b c : Int) (r : Bool), Ev (fun k => impl_numbers.f k (mk p) (mk [44]) 3 500) ([a, b, c], r) := by
  rcases part_num p hp with ⟨s, _, _, h⟩ | ⟨_, h⟩
  · exact ⟨_, _, _, true, h⟩
  · exact ⟨0, 0, 0, false, h⟩
theorem parse_false (W0 H0 : Int) (ps : List (List UInt8)) (hl : ps.length ≤ 2000001) (hp : ∀ p ∈ ps, p.length ≤ 2000000) : ∀ (t : List (List UInt8)) (i : Nat) (acc : List Sq), ps.drop i = t → i + t.length = ps.length → acc.length ≤ i →
    Ev (fun k => impl_ParseCut.l0 k false (ps.map mk) ((ps.map mk).length : Int) (i : Int) W0 H0 acc) (0, 0, [], false) := by
  intro t
  have hml : (ps.map mk).length = ps.length := List.length_map _
  induction t with
  | nil =>
    intro i acc hd hi ha
    simp only [List.length_nil] at hi
    refine Ev.succ ?_
    simp only [impl_ParseCut.l0]
    exact Ev.neg (by omega) (Ev.neg (by simp) (Ev.now _))
  | cons p t ih =>
    intro i acc hd hi ha
    simp only [List.length_cons] at hi
    have hi1 : i < ps.length := by omega
    have e1 := List.drop_eq_getElem_cons hi1
    rw [hd] at e1
    injection e1 with e2 e3
    obtain ⟨a, b, c, r, h⟩ := part_ev ps[i] (hp _ (List.getElem_mem _))
    exact part_step false r W0 H0 ps hl i hi1 acc ha a b c h (ih (i + 1) _ e3.symm (by omega) (by simp only [List.length_append, List.length_cons, List.length_nil]; omega))
def goodOf (W H : Int) (l : List Sq) : Int × Int × List Sq × Bool := if Good W H l then (W, H, l, true) else (0, 0, [], false)
theorem good_ev (W H : Int) (l : List Sq) : Ev (fun k => (impl_IsCut.f k W H l).bind fun t => (if t = true then (some (W, H, l, true)) else (some (0, 0, ([] : List Sq), false)))) (goodOf W H l) := by
  unfold goodOf
  by_cases h : Good W H l
  · rw [if_pos h]
    exact Ev.bind (impl_IsCut_ev W H l) (Ev.pos (decide_eq_true h) (Ev.now _))
  · rw [if_neg h]
    exact Ev.bind (impl_IsCut_ev W H l) (Ev.neg (by rw [decide_eq_false h]; simp) (Ev.now _))
theorem parse_true (W0 H0 : Int) (ps : List (List UInt8)) (hl : ps.length ≤ 2000001) (hp : ∀ p ∈ ps, p.length ≤ 2000000) : ∀ (t : List (List UInt8)) (i : Nat) (acc : List Sq), ps.drop i = t → i + t.length = ps.length → acc.length ≤ i →
    (∃ l : List Sq, (∀ s ∈ l, InS s) ∧ t = l.map sqL ∧ Ev (fun k => impl_ParseCut.l0 k true (ps.map mk) ((ps.map mk).length : Int) (i : Int) W0 H0 acc) (goodOf W0 H0 (acc ++ l))) ∨
    ((¬ ∃ l : List Sq, (∀ s ∈ l, InS s) ∧ t = l.map sqL) ∧ Ev (fun k => impl_ParseCut.l0 k true (ps.map mk) ((ps.map mk).length : Int) (i : Int) W0 H0 acc) (0, 0, [], false)) := by
  intro t
  have hml : (ps.map mk).length = ps.length := List.length_map _
  induction t with
  | nil =>
    intro i acc hd hi ha
    simp only [List.length_nil] at hi
    refine .inl ⟨[], fun a ha => absurd ha List.not_mem_nil, rfl, ?_⟩
    rw [List.append_nil]
    refine Ev.succ ?_
    simp only [impl_ParseCut.l0]
    exact Ev.neg (by omega) (Ev.pos (by simp) (good_ev W0 H0 acc))
  | cons p t ih =>
    intro i acc hd hi ha
    simp only [List.length_cons] at hi
    have hi1 : i < ps.length := by omega
    have e1 := List.drop_eq_getElem_cons hi1
    rw [hd] at e1
    injection e1 with e2 e3
    have hpp := hp _ (List.getElem_mem hi1)
    rcases part_num ps[i] hpp with ⟨s, hs, e, h⟩ | ⟨hb, h⟩
    · rcases ih (i + 1) (acc ++ [s]) e3.symm (by omega) (by simp only [List.length_append, List.length_cons, List.length_nil]; omega) with ⟨l, q1, q2, q3⟩ | ⟨q1, q2⟩
      · refine .inl ⟨s :: l, fun w hw => (List.mem_cons.1 hw).elim (fun z => by rw [z]; exact hs) (q1 w), by rw [e2, e, q2]; rfl, ?_⟩
        have h2 := part_step true true W0 H0 ps hl i hi1 acc ha _ _ _ h q3
        rw [List.append_assoc, List.singleton_append] at h2
        exact h2
      · refine .inr ⟨fun ⟨l, z1, z2⟩ => ?_, part_step true true W0 H0 ps hl i hi1 acc ha _ _ _ h q2⟩
        cases l with
        | nil => simp at z2
        | cons w l =>
          rw [List.map_cons] at z2
          injection z2 with _ z3
          exact q1 ⟨l, fun y hy => z1 y (List.mem_cons_of_mem _ hy), z3⟩
    · refine .inr ⟨fun ⟨l, z1, z2⟩ => ?_, part_step true false W0 H0 ps hl i hi1 acc ha 0 0 0 h (parse_false W0 H0 ps hl hp t (i + 1) _ e3.symm (by omega) (by simp only [List.length_append, List.length_cons, List.length_nil]; omega))⟩
      cases l with
      | nil => simp at z2
      | cons w l =>
        rw [List.map_cons] at z2
        injection z2 with z3 _
        exact hb w (z1 w List.mem_cons_self) (by rw [← e2, z3])
def IsText (s : List UInt8) : Prop := ∃ (W H : Int) (l : List Sq), Good W H l ∧ s = cutL W H l
theorem text_parts {s : List UInt8} {p : List UInt8} {r : List (List UInt8)} (hs : spl 59 s = p :: r) {W H : Int} {l : List Sq} (hg : Good W H l) (e : s = cutL W H l) : p = sizeL W H ∧ r = l.map sqL := by
  rw [e, cut_spl (good_in hg)] at hs
  injection hs with a b
  exact ⟨a.symm, b.symm⟩
theorem parts_ok {s : List UInt8} (hs : s.length ≤ 1048576) {p : List UInt8} {r : List (List UInt8)} (e : spl 59 s = p :: r) : p.length ≤ 2000000 ∧ r.length ≤ 2000001 ∧ ∀ q ∈ r, q.length ≤ 2000000 := by
  have h := spl_len 59 s
  rw [e] at h
  simp only [List.length_cons] at h
  refine ⟨by have := h.2 p List.mem_cons_self; omega, by omega, fun q hq => by have := h.2 q (List.mem_cons_of_mem _ hq); omega⟩
theorem impl_parse (s : List UInt8) (hs : s.length ≤ 1048576) :
    (∃ W H l, Good W H l ∧ s = cutL W H l ∧ Ev (fun k => impl_ParseCut.f k (mk s)) (W, H, l, true)) ∨
    (¬ IsText s ∧ Ev (fun k => impl_ParseCut.f k (mk s)) (0, 0, [], false)) := by
  cases hq : spl 59 s with
  | nil => exact absurd hq (spl_ne 59 s)
  | cons p r =>
    obtain ⟨p1, r1, r2⟩ := parts_ok hs hq
    have hml : (r.map mk).length = r.length := List.length_map _
    have start : ∀ (a b : Int) (ok : Bool) (R : Int × Int × List Sq × Bool), Ev (fun k => impl_numbers.f k (mk p) (mk [120]) 2 500) ([a, b], ok) → Ev (fun k => impl_ParseCut.l0 k ok (r.map mk) ((r.map mk).length : Int) ((0 : Nat) : Int) a b []) R → Ev (fun k => impl_ParseCut.f k (mk s)) R := by
      intro a b ok R h1 h2
      unfold impl_ParseCut.f
      have c59 : (⟨#[59]⟩ : ByteArray) = mk [59] := rfl
      have c120 : (⟨#[120]⟩ : ByteArray) = mk [120] := rfl
      rw [c59, c120]
      refine Ev.bindc (split_eq 59 s (by omega)) ?_
      rw [hq]
      have e0 : rdOf ByteArray.empty ((p :: r).map mk) 0 = mk p := rfl
      rw [e0]
      exact Ev.pos (by simp <;> omega) (Ev.bind h1 (Ev.pos (by simp) (Ev.pos (by simp) (Ev.pos (by simp <;> omega) (Ev.bindc rfl h2)))))
    rcases numbers_ev 120 (.inr (by decide)) 2 (by omega) p p1 with ⟨ns, h1, h2, h3, h4⟩ | ⟨h1, h2⟩
    · obtain ⟨a, b, rfl⟩ := two h1
      have ha := h2 a (by simp)
      have hb := h2 b (by simp)
      rcases parse_true a b r r1 r2 r 0 [] rfl (by simp) (by simp) with ⟨l, q1, q2, q3⟩ | ⟨q1, q2⟩
      · have h5 := start a b true _ h4 q3
        rw [List.nil_append] at h5
        unfold goodOf at h5
        by_cases hg : Good a b l
        · rw [if_pos hg] at h5
          refine .inl ⟨a, b, l, hg, ?_, h5⟩
          have e := spl_join 59 s
          rw [hq, h3, q2] at e
          exact e.symm
        · rw [if_neg hg] at h5
          refine .inr ⟨fun ⟨W, H, l', hg', e⟩ => hg ?_, h5⟩
          obtain ⟨e1, e2⟩ := text_parts hq hg' e
          have hin := good_in hg'
          obtain ⟨z1, z2⟩ := size_inj a b W H ha hb hin.1.1 hin.1.2 (h3.symm.trans e1)
          rw [z1, z2, sqs_inj l l' q1 hin.2 (q2.symm.trans e2)]
          exact hg'
      · refine .inr ⟨fun ⟨W, H, l', hg', e⟩ => q1 ⟨l', (good_in hg').2, (text_parts hq hg' e).2⟩, start a b true _ h4 q2⟩
    · refine .inr ⟨fun ⟨W, H, l', hg', e⟩ => h1 ⟨[W, H], rfl, size_all (good_in hg').1.1 (good_in hg').1.2, (text_parts hq hg' e).1⟩, start 0 0 false _ h2 (parse_false 0 0 r r1 r2 r 0 [] rfl (by simp) (by simp))⟩
/-! ### the reference's -/
theorem read3 (p : List UInt8) :
    (∃ (u v w : List UInt8) (x y z : Int), spl 44 p = [u, v, w] ∧ Ev (fun k => spec_l1Read.f k (mk u)) x ∧ Ev (fun k => spec_l1Read.f k (mk v)) y ∧ Ev (fun k => spec_l1Read.f k (mk w)) z ∧ ∀ s, InS s → p = sqL s → s = ⟨x, y, z⟩) ∨
    ((spl 44 p).length ≠ 3 ∧ ∀ s, InS s → p ≠ sqL s) := by
  by_cases hw : ∃ s, InS s ∧ p = sqL s
  · obtain ⟨s, hi, e⟩ := hw
    have hi' := hi
    obtain ⟨h0, h1, h2⟩ := hi'
    refine .inl ⟨dd s.f0, dd s.f1, dd s.f2, s.f0, s.f1, s.f2, ?_, read_dd _ h0.1 (by omega), read_dd _ h1.1 (by omega), read_dd _ h2.1 (by omega), fun t ht e' => sq_inj t s ht hi (e'.symm.trans e)⟩
    rw [e, num_spl 44 (.inl (by decide)) _ (by simp) (inS_all hi)]; rfl
  · have hno : ∀ s, InS s → p ≠ sqL s := fun s hi e => hw ⟨s, hi, e⟩
    by_cases h3 : (spl 44 p).length = 3
    · match hs : spl 44 p, h3 with
      | [u, v, w], _ =>
        obtain ⟨x, hx⟩ := read_any u
        obtain ⟨y, hy⟩ := read_any v
        obtain ⟨z, hz⟩ := read_any w
        exact .inl ⟨u, v, w, x, y, z, rfl, hx, hy, hz, fun s hi e => absurd e (hno s hi)⟩
    · exact .inr ⟨h3, hno⟩
theorem read2 (p : List UInt8) :
    (∃ (u v : List UInt8) (x y : Int), spl 120 p = [u, v] ∧ Ev (fun k => spec_l1Read.f k (mk u)) x ∧ Ev (fun k => spec_l1Read.f k (mk v)) y ∧ ∀ W H, (0 ≤ W ∧ W ≤ 500) → (0 ≤ H ∧ H ≤ 500) → p = sizeL W H → W = x ∧ H = y) ∨
    ((spl 120 p).length ≠ 2 ∧ ∀ W H, (0 ≤ W ∧ W ≤ 500) → (0 ≤ H ∧ H ≤ 500) → p ≠ sizeL W H) := by
  by_cases hw : ∃ W H, (0 ≤ W ∧ W ≤ 500) ∧ (0 ≤ H ∧ H ≤ 500) ∧ p = sizeL W H
  · obtain ⟨W, H, h0, h1, e⟩ := hw
    refine .inl ⟨dd W, dd H, W, H, ?_, read_dd _ h0.1 (by omega), read_dd _ h1.1 (by omega), fun V K h2 h3 e' => size_inj V K W H h2 h3 h0 h1 (e'.symm.trans e)⟩
    rw [e, num_spl 120 (.inr (by decide)) _ (by simp) (size_all h0 h1)]; rfl
  · have hno : ∀ W H, (0 ≤ W ∧ W ≤ 500) → (0 ≤ H ∧ H ≤ 500) → p ≠ sizeL W H := fun W H h0 h1 e => hw ⟨W, H, h0, h1, e⟩
    by_cases h2 : (spl 120 p).length = 2
    · match hs : spl 120 p, h2 with
      | [u, v], _ =>
        obtain ⟨x, hx⟩ := read_any u
        obtain ⟨y, hy⟩ := read_any v
        exact .inl ⟨u, v, x, y, rfl, hx, hy, fun W H h0 h1 e => absurd e (hno W H h0 h1)⟩
    · exact .inr ⟨h2, hno⟩
def endOf (s : List UInt8) (W H : Int) (l : List Sq) : Int × Int × List Sq × Bool := if Good W H l then (W, H, l, decide (cutL W H l = s)) else (W, H, l, false)
theorem end_ev (s : List UInt8) (W H : Int) (l : List Sq) : Ev (fun k => (spec_cuGood.f k W H l).bind fun t157 => (if t157 = true then ((spec_cuText.f k W H l).bind fun t158 => (some (W, H, l, (t158.toList == (mk s).toList)))) else (some (W, H, l, false)))) (endOf s W H l) := by
  unfold endOf
  by_cases h : Good W H l
  · rw [if_pos h]
    refine Ev.bind (spec_cuGood_ev W H l) (Ev.pos (decide_eq_true h) (Ev.bind (cuText_ev h) (Ev.eqr (Ev.now _) ?_)))
    rw [mk_list, mk_list]
    by_cases hs : cutL W H l = s
    · simp [hs]
    · simp [hs]
  · rw [if_neg h]
    exact Ev.bind (spec_cuGood_ev W H l) (Ev.neg (by rw [decide_eq_false h]; simp) (Ev.now _))
theorem spec_parse_loop (s : List UInt8) (W0 H0 : Int) (ps : List (List UInt8)) (hl : ps.length ≤ 2000001) (hp : ∀ p ∈ ps, p.length ≤ 2000000) : ∀ (t : List (List UInt8)) (i : Nat) (acc : List Sq), ps.drop i = t → i + t.length = ps.length → acc.length ≤ i →
    (∃ V : List Sq, (∀ l : List Sq, (∀ w ∈ l, InS w) → t = l.map sqL → V = l) ∧ Ev (fun k => spec_cuParse.l0 k (mk s) (ps.map mk) ((ps.map mk).length : Int) (i : Int) W0 H0 acc) (endOf s W0 H0 (acc ++ V))) ∨
    ((¬ ∃ l : List Sq, (∀ w ∈ l, InS w) ∧ t = l.map sqL) ∧ Ev (fun k => spec_cuParse.l0 k (mk s) (ps.map mk) ((ps.map mk).length : Int) (i : Int) W0 H0 acc) (0, 0, [], false)) := by
  intro t
  have hml : (ps.map mk).length = ps.length := List.length_map _
  induction t with
  | nil =>
    intro i acc hd hi ha
    simp only [List.length_nil] at hi
    refine .inl ⟨[], fun W _ e => (by cases W with
      | nil => rfl
      | cons w W => simp at e), ?_⟩
    rw [List.append_nil]
    refine Ev.succ ?_
    simp only [spec_cuParse.l0]
    exact Ev.neg (by omega) (end_ev s W0 H0 acc)
  | cons p t ih =>
    intro i acc hd hi ha
    simp only [List.length_cons] at hi
    have hi1 : i < ps.length := by omega
    have e1 := List.drop_eq_getElem_cons hi1
    rw [hd] at e1
    injection e1 with e2 e3
    have hpp := hp _ (List.getElem_mem hi1)
    have hsp := l1Split_ev ps[i] hpp 44
    have c44 : ((44 : UInt8).toNat : Int) = 44 := by decide
    rw [c44] at hsp
    rcases read3 ps[i] with ⟨u, v, w, x, y, z, hs, hx, hy, hz, hw⟩ | ⟨h2, hno⟩
    · rw [hs] at hsp
      have step : ∀ R, Ev (fun k => spec_cuParse.l0 k (mk s) (ps.map mk) ((ps.map mk).length : Int) ((i + 1 : Nat) : Int) W0 H0 (acc ++ [⟨x, y, z⟩])) R → Ev (fun k => spec_cuParse.l0 k (mk s) (ps.map mk) ((ps.map mk).length : Int) (i : Int) W0 H0 acc) R := by
        intro R hR
        refine Ev.succ ?_
        simp only [spec_cuParse.l0]
        rw [rd_str ps i hi1, wrap64_id (n := (i : Int) + 1) (by omega) (by omega)]
        exact Ev.pos (by omega) (Ev.pos (by omega) (Ev.pos (by omega) (Ev.bind hsp (Ev.pos (by simp) (Ev.pos (by simp) (Ev.bind hx (Ev.pos (by simp) (Ev.bind hy (Ev.pos (by simp) (Ev.bind hz (Ev.pos (by omega) hR)))))))))))
      rcases ih (i + 1) (acc ++ [⟨x, y, z⟩]) e3.symm (by omega) (by simp only [List.length_append, List.length_cons, List.length_nil]; omega) with ⟨V, q1, q3⟩ | ⟨q1, q2⟩
      · have h2 := step _ q3
        rw [List.append_assoc, List.singleton_append] at h2
        refine .inl ⟨⟨x, y, z⟩ :: V, fun W hW e => ?_, h2⟩
        cases W with
        | nil => simp at e
        | cons w W =>
          rw [List.map_cons] at e
          injection e with z1 z2
          rw [hw w (hW w List.mem_cons_self) (by rw [← e2, z1]), q1 W (fun z hz => hW z (List.mem_cons_of_mem _ hz)) z2]
      · refine .inr ⟨fun ⟨W, z1, z2⟩ => ?_, step _ q2⟩
        cases W with
        | nil => simp at z2
        | cons w W =>
          rw [List.map_cons] at z2
          injection z2 with _ z3
          exact q1 ⟨W, fun y hy => z1 y (List.mem_cons_of_mem _ hy), z3⟩
    · refine .inr ⟨fun ⟨W, z1, z2⟩ => ?_, ?_⟩
      · cases W with
        | nil => simp at z2
        | cons w W =>
          rw [List.map_cons] at z2
          injection z2 with z3 _
          exact hno w (z1 w List.mem_cons_self) (by rw [← e2, z3])
      · refine Ev.succ ?_
        simp only [spec_cuParse.l0]
        rw [rd_str ps i hi1]
        refine Ev.pos (by omega) (Ev.pos (by omega) (Ev.pos (by omega) (Ev.bind hsp (Ev.neg ?_ (Ev.now _)))))
        rw [List.length_map]
        omega
theorem spec_parse (s : List UInt8) (hs : s.length ≤ 1048576) :
    (∃ W H l, Good W H l ∧ s = cutL W H l ∧ Ev (fun k => spec_ParseCut.f k (mk s)) (W, H, l, true)) ∨
    (¬ IsText s ∧ Ev (fun k => spec_ParseCut.f k (mk s)) (0, 0, [], false)) := by
  have c59 : ((59 : UInt8).toNat : Int) = 59 := by decide
  have c120 : ((120 : UInt8).toNat : Int) = 120 := by decide
  have hsp := l1Split_ev s (by omega) 59
  rw [c59] at hsp
  have good : ∀ (W H : Int) (l : List Sq), Ev (fun k => spec_cuParse.f k (mk s)) (W, H, l, true) → Ev (fun k => spec_ParseCut.f k (mk s)) (W, H, l, true) := fun W H l h => Ev.bind h (Ev.pos rfl (Ev.now _))
  have bad : ∀ (W H : Int) (l : List Sq), Ev (fun k => spec_cuParse.f k (mk s)) (W, H, l, false) → Ev (fun k => spec_ParseCut.f k (mk s)) (0, 0, [], false) := fun W H l h => Ev.bind h (Ev.neg (by simp) (Ev.now _))
  by_cases hsz : s.length ≤ 400
  · cases hq : spl 59 s with
    | nil => exact absurd hq (spl_ne 59 s)
    | cons p r =>
      obtain ⟨p1, r1, r2⟩ := parts_ok hs hq
      have hml : (r.map mk).length = r.length := List.length_map _
      have hp120 := l1Split_ev p (by omega) 120
      rw [c120] at hp120
      have e0 : rdOf ByteArray.empty ((p :: r).map mk) 0 = mk p := rfl
      rcases read2 p with ⟨u, v, x, y, h2, hx, hy, hw⟩ | ⟨h2, hno⟩
      · rw [h2] at hp120
        have start : ∀ (R : Int × Int × List Sq × Bool), Ev (fun k => spec_cuParse.l0 k (mk s) (r.map mk) ((r.map mk).length : Int) ((0 : Nat) : Int) x y []) R → Ev (fun k => spec_cuParse.f k (mk s)) R := by
          intro R hR
          unfold spec_cuParse.f
          refine Ev.neg (by rw [mk_size]; omega) (Ev.bind hsp ?_)
          rw [hq, e0]
          exact Ev.pos (by simp <;> omega) (Ev.bind hp120 (Ev.pos (by simp) (Ev.pos (by simp) (Ev.bind hx (Ev.pos (by simp) (Ev.bind hy (Ev.pos (by simp <;> omega) (Ev.bindc rfl hR))))))))
        by_cases hi : IsText s
        · obtain ⟨W, H, l, hg, es⟩ := hi
          obtain ⟨e1, e2⟩ := text_parts hq hg es
          have hin := good_in hg
          obtain ⟨z1, z2⟩ := hw W H hin.1.1 hin.1.2 e1
          rcases spec_parse_loop s x y r r1 r2 r 0 [] rfl (by simp) (by simp) with ⟨V, q1, q2⟩ | ⟨q1, q2⟩
          · have h4 := start _ q2
            rw [List.nil_append, q1 l hin.2 e2, ← z1, ← z2] at h4
            unfold endOf at h4
            rw [if_pos hg, decide_eq_true es.symm] at h4
            exact .inl ⟨W, H, l, hg, es, good W H l h4⟩
          · exact absurd ⟨l, hin.2, e2⟩ q1
        · refine .inr ⟨hi, ?_⟩
          rcases spec_parse_loop s x y r r1 r2 r 0 [] rfl (by simp) (by simp) with ⟨V, q1, q2⟩ | ⟨q1, q2⟩
          · have h4 := start _ q2
            rw [List.nil_append] at h4
            unfold endOf at h4
            by_cases hg : Good x y V
            · rw [if_pos hg, decide_eq_false (fun z => hi ⟨x, y, V, hg, z.symm⟩)] at h4
              exact bad x y V h4
            · rw [if_neg hg] at h4
              exact bad x y V h4
          · exact bad 0 0 [] (start _ q2)
      · refine .inr ⟨fun ⟨W, H, l, hg, es⟩ => hno W H (good_in hg).1.1 (good_in hg).1.2 (text_parts hq hg es).1, bad 0 0 [] ?_⟩
        unfold spec_cuParse.f
        refine Ev.neg (by rw [mk_size]; omega) (Ev.bind hsp ?_)
        rw [hq, e0]
        refine Ev.pos (by simp <;> omega) (Ev.bind hp120 (Ev.neg ?_ (Ev.now _)))
        rw [List.length_map]
        omega
  · refine .inr ⟨fun ⟨W, H, l, hg, es⟩ => hsz (by rw [es]; exact cut_len hg), bad 0 0 [] ?_⟩
    unfold spec_cuParse.f
    exact Ev.pos (by rw [mk_size]; omega) (Ev.now _)
theorem both_parse (s : List UInt8) (hs : s.length ≤ 1048576) : ∃ B : Int × Int × List Sq × Bool, B.2.2.1.length ≤ 30 ∧ Ev (fun k => spec_ParseCut.f k (mk s)) B ∧ Ev (fun k => impl_ParseCut.f k (mk s)) B := by
  rcases impl_parse s hs with ⟨W, H, l, hg, e, h⟩ | ⟨hno, h⟩
  · rcases spec_parse s hs with ⟨W', H', l', hg', e', h'⟩ | ⟨hno', h'⟩
    · have hin := good_in hg
      have hin' := good_in hg'
      have e2 := cut_spl hin
      rw [← e, e', cut_spl hin'] at e2
      injection e2 with a1 a2
      obtain ⟨z1, z2⟩ := size_inj W' H' W H hin'.1.1 hin'.1.2 hin.1.1 hin.1.2 a1
      refine ⟨(W, H, l, true), hg.2.2.1.2, ?_, h⟩
      rw [← z1, ← z2, ← sqs_inj l' l hin'.2 hin.2 a2]
      exact h'
    · exact absurd ⟨W, H, l, hg, e⟩ hno'
  · rcases spec_parse s hs with ⟨W', H', l', hg', e', h'⟩ | ⟨hno', h'⟩
    · exact absurd ⟨W', H', l', hg', e'⟩ hno
    · exact ⟨(0, 0, [], false), by simp, h', h⟩

theorem FnExactParseCut : laws_FnExactParseCut.Pure := by
  classical
  intro a _
  refine Ev.rounds (g := fun k => laws_FnExactParseCut.f k a) ?_
  unfold laws_FnExactParseCut.f
  by_cases h : a.size ≤ 1048576
  · have ea : a = mk a.data.toList := rfl
    obtain ⟨B, hb, s1, s2⟩ := both_parse a.data.toList (by rw [← mk_size]; exact h)
    rw [← ea] at s1 s2
    have qB := eqCut_ev B.1 B.2.1 B.2.2.1 (by omega)
    have mB := markC_ev B.1 B.2.1 B.2.2.1 (by omega) 1 (by omega) (by omega)
    have hB := heldC_ev B.1 B.2.1 B.2.2.1.length (by omega) 1 (by omega) (by omega)
    refine Ev.neg (by omega) (Ev.bind s1 (Ev.bind s2 (Ev.bind qB (Ev.pos rfl ?_))))
    refine Ev.succ ?_
    simp only [laws_FnExactParseCut.j0]
    refine Ev.neg (by simp) (Ev.bind mB (Ev.bind hB (Ev.neg (by omega) (Ev.pos rfl (Ev.bind s2 (Ev.bind qB (Ev.pos rfl ?_)))))))
    refine Ev.succ ?_
    simp only [laws_FnExactParseCut.j1]
    refine Ev.neg (by simp) (Ev.bind hB (Ev.neg (by omega) (Ev.pos rfl (Ev.now _))))
  · exact Ev.pos (by omega) (Ev.now _)

end Go.Proofs.YtnmaeekclpmmnaaDoor.Pure
