/- The program's ParseCode and the reference's return the same for all arguments: both say yes just at the text that a code has, under the listed variables of the library. -/
import Derived.Test.YtnmaeekclpmmnaaGreatDoorPFnExactParseCodex17
import Derived.Test.YtnmaeekclpmmnaaGreatDoorPFnExactParseCodex0
import Derived.Test.YtnmaeekclpmmnaaGreatDoorPFnExactParseCodex1
import Derived.Test.YtnmaeekclpmmnaaGreatDoorPFnExactParseCodex2
import Derived.Test.YtnmaeekclpmmnaaGreatDoorPFnExactParseCodex3
import Derived.Test.YtnmaeekclpmmnaaGreatDoorPFnExactParseCodex4
import Derived.Test.YtnmaeekclpmmnaaGreatDoorPFnExactParseCodex5
import Derived.Test.YtnmaeekclpmmnaaGreatDoorPFnExactParseCodex6
import Derived.Test.YtnmaeekclpmmnaaGreatDoorPFnExactParseCodex7
import Derived.Test.YtnmaeekclpmmnaaGreatDoorPFnExactParseCodex8
import Derived.Test.YtnmaeekclpmmnaaGreatDoorPFnExactParseCodex9
import Derived.Test.YtnmaeekclpmmnaaGreatDoorPFnExactParseCodex10
import Derived.Test.YtnmaeekclpmmnaaGreatDoorPFnExactParseCodex11
import Derived.Test.YtnmaeekclpmmnaaGreatDoorPFnExactParseCodex12
import Derived.Test.YtnmaeekclpmmnaaGreatDoorPFnExactParseCodex13
import Derived.Test.YtnmaeekclpmmnaaGreatDoorPFnExactParseCodex14
import Derived.Test.YtnmaeekclpmmnaaGreatDoorPFnExactParseCodex15
import Derived.Test.YtnmaeekclpmmnaaGreatDoorPFnExactParseCodex16
import Derived.Test.YtnmaeekclpmmnaaGreatDoorWGuardMoreInvWords
namespace Go.Proofs.YtnmaeekclpmmnaaGreatDoor.Pure
open Go.RowKit Go.Proofs.YtnmaeekclpmmnaaGreatDoor.PFnExactParseCode Go.Proofs.YtnmaeekclpmmnaaGreatDoorW.PrintWords Go.Proofs.YtnmaeekclpmmnaaGreatDoorW.PrintLast Go.Proofs.YtnmaeekclpmmnaaGreatDoorW.PrintMore Go.Proofs.YtnmaeekclpmmnaaGreatDoorW.Evs
set_option linter.unusedVariables false
set_option linter.unusedSimpArgs false
/-! ### a cut: what the program's IsCut and the reference's cuGood answer -/
abbrev Sq := S65
def sqAt (l : List Sq) (j : Nat) : Sq := l.getD j z65
theorem rd_sq (l : List Sq) (j : Nat) : rd_T65 l (j : Int) = sqAt l j := by unfold rd_T65 sqAt; rw [Int.toNat_natCast]
theorem sqAt_get (l : List Sq) (j : Nat) (h : j < l.length) : sqAt l j = l[j] := by unfold sqAt; simp [List.getD, h]
theorem sqAt_mem (l : List Sq) (j : Nat) (h : j < l.length) : sqAt l j ∈ l := by rw [sqAt_get l j h]; exact List.getElem_mem h
/-- a square lies in the rectangle -/
def Ins (W H : Int) (s : Sq) : Prop := 1 ≤ s.f2 ∧ 0 ≤ s.f0 ∧ s.f0 + s.f2 ≤ W ∧ 0 ≤ s.f1 ∧ s.f1 + s.f2 ≤ H
instance (W H : Int) (s : Sq) : Decidable (Ins W H s) := by unfold Ins; infer_instance
def Less (a b : Sq) : Prop := a.f1 < b.f1 ∨ a.f1 = b.f1 ∧ a.f0 < b.f0
instance (a b : Sq) : Decidable (Less a b) := by unfold Less; infer_instance
def Ovl (a b : Sq) : Prop := a.f0 < b.f0 + b.f2 ∧ b.f0 < a.f0 + a.f2 ∧ a.f1 < b.f1 + b.f2 ∧ b.f1 < a.f1 + a.f2
instance (a b : Sq) : Decidable (Ovl a b) := by unfold Ovl; infer_instance
def OkAt (W H : Int) (l : List Sq) (i : Nat) : Prop := Ins W H (sqAt l i) ∧ (0 < i → Less (sqAt l (i - 1)) (sqAt l i)) ∧ ∀ j, j < i → ¬ Ovl (sqAt l i) (sqAt l j)
instance (W H : Int) (l : List Sq) (i : Nat) : Decidable (OkAt W H l i) := by unfold OkAt; infer_instance
def areaTo (l : List Sq) : Nat → Int
  | 0 => 0
  | n + 1 => areaTo l n + (sqAt l n).f2 * (sqAt l n).f2
/-- a width, a height and squares are a cut -/
def Good (W H : Int) (l : List Sq) : Prop := (1 ≤ W ∧ W ≤ 500) ∧ (1 ≤ H ∧ H ≤ 500) ∧ (1 ≤ l.length ∧ l.length ≤ 30) ∧ (∀ i, i < l.length → OkAt W H l i) ∧ areaTo l l.length = W * H
instance (W H : Int) (l : List Sq) : Decidable (Good W H l) := by unfold Good; infer_instance

theorem within_eq (a b c : Int) : impl_within.f a b c = some (decide (b ≤ a ∧ a ≤ c)) := by
  unfold impl_within.f
  by_cases h : b ≤ a
  · rw [if_pos h]; simp [h]
  · rw [if_neg h]; simp [h]
theorem isWide_eq (a : Int) : impl_isWide.f a = some (decide (1 ≤ a ∧ a ≤ 500)) := by
  unfold impl_isWide.f; rw [within_eq]; rfl
theorem l1In_eq (a b c : Int) : spec_l1In.f a b c = some (decide (b ≤ a ∧ a ≤ c)) := by
  unfold spec_l1In.f
  by_cases h : b ≤ a
  · rw [if_pos h]; simp [h]
  · rw [if_neg h]; simp [h]
theorem areaTo_bd (W H : Int) (l : List Sq) (hW : W ≤ 500) (hH : H ≤ 500) : ∀ n, n ≤ 30 → (∀ m, m < n → Ins W H (sqAt l m)) → 0 ≤ areaTo l n ∧ areaTo l n ≤ n * 250000
  | 0, _, _ => by simp [areaTo]
  | n + 1, hn, h => by
    obtain ⟨h1, h2⟩ := areaTo_bd W H l hW hH n (by omega) (fun m hm => h m (by omega))
    have hi := h n (by omega)
    unfold Ins at hi
    have q1 : 0 ≤ (sqAt l n).f2 * (sqAt l n).f2 := Int.mul_nonneg (by omega) (by omega)
    have q2 : (sqAt l n).f2 * (sqAt l n).f2 ≤ 500 * 500 := Int.mul_le_mul (by omega) (by omega) (by omega) (by omega)
    simp only [areaTo]
    omega
theorem sq_bd {W H : Int} {s : Sq} (hW : W ≤ 500) (hH : H ≤ 500) (h : Ins W H s) : 0 ≤ s.f2 * s.f2 ∧ s.f2 * s.f2 ≤ 250000 := by
  unfold Ins at h
  have q1 : 0 ≤ s.f2 * s.f2 := Int.mul_nonneg (by omega) (by omega)
  have q2 : s.f2 * s.f2 ≤ 500 * 500 := Int.mul_le_mul (by omega) (by omega) (by omega) (by omega)
  omega

theorem compare_eq {W H : Int} {a b : Sq} (hW : W ≤ 500) (hH : H ≤ 500) (ha : Ins W H a) (hb : Ins W H b) :
    ∃ c, impl_comparePlaces.f a.f0 a.f1 a.f2 b.f0 b.f1 b.f2 = some c ∧ (c < 0 ↔ Less a b) := by
  unfold Ins at ha hb
  unfold impl_comparePlaces.f Less
  by_cases e : a.f1 = b.f1
  · rw [if_pos e]; exact ⟨_, rfl, by rw [wrap64_id (by omega) (by omega)]; omega⟩
  · rw [if_neg e]; exact ⟨_, rfl, by rw [wrap64_id (by omega) (by omega)]; omega⟩
theorem overlap_eq {W H : Int} {a b : Sq} (hW : W ≤ 500) (hH : H ≤ 500) (ha : Ins W H a) (hb : Ins W H b) :
    impl_overlap.f a.f0 a.f1 a.f2 b.f0 b.f1 b.f2 = some (decide (Ovl a b)) := by
  unfold Ins at ha hb
  unfold impl_overlap.f Ovl
  rw [wrap64_id (by omega) (by omega), wrap64_id (by omega) (by omega), wrap64_id (by omega) (by omega), wrap64_id (by omega) (by omega)]
  by_cases h1 : a.f0 < b.f0 + b.f2
  · by_cases h2 : b.f0 < a.f0 + a.f2
    · by_cases h3 : a.f1 < b.f1 + b.f2
      · simp [h1, h2, h3]
      · simp [h1, h2, h3]
    · simp [h1, h2]
  · simp [h1]
theorem less_eq (a b : Sq) : spec_cuLess.f a.f0 a.f1 a.f2 b.f0 b.f1 b.f2 = some (decide (Less a b)) := by
  unfold spec_cuLess.f Less
  by_cases h1 : a.f1 < b.f1
  · rw [if_pos h1]; simp [h1]
  · rw [if_neg h1]
    by_cases h2 : a.f1 = b.f1
    · rw [if_pos h2]; simp [h2]
    · rw [if_neg h2]; simp [h1, h2]

/-! the program's own -/
theorem contains_eq {W H : Int} {l : List Sq} (hW : W ≤ 500) (hH : H ≤ 500) (i : Nat) (hi : i < l.length) (h : ∀ m, m ≤ i → Ins W H (sqAt l m)) :
    slices_ContainsFunc_impl_Square_impl_Square__impl_IsCut_1.f (l.take i) (sqAt l i).f0 (sqAt l i).f1 (sqAt l i).f2 = some (decide (∃ j, j < i ∧ Ovl (sqAt l i) (sqAt l j))) := by
  unfold slices_ContainsFunc_impl_Square_impl_Square__impl_IsCut_1.f
  congr 1
  rw [Bool.eq_iff_iff, List.any_eq_true, decide_eq_true_eq]
  constructor
  · rintro ⟨t, ht, hp⟩
    obtain ⟨j, hj⟩ := List.getElem?_of_mem ht
    have hj1 : j < (l.take i).length := (List.getElem?_eq_some_iff.1 hj).1
    have hj2 : j < i := by simp at hj1; omega
    have e : t = sqAt l j := by
      rw [List.getElem?_take_of_lt hj2, List.getElem?_eq_getElem (by omega)] at hj
      rw [sqAt_get l j (by omega)]; exact (Option.some.inj hj).symm
    subst e
    rw [overlap_eq hW hH (h i (Nat.le_refl _)) (h j (by omega))] at hp
    exact ⟨j, hj2, by simpa using hp⟩
  · rintro ⟨j, hj, ho⟩
    refine ⟨sqAt l j, ?_, ?_⟩
    · rw [sqAt_get l j (by omega)]
      exact List.mem_take_iff_getElem.2 ⟨j, by omega, rfl⟩
    · rw [overlap_eq hW hH (h i (Nat.le_refl _)) (h j (by omega))]; simpa using ho

theorem okFrom_step (W H : Int) (l : List Sq) (i : Nat) : (∀ m, i ≤ m → m < l.length → OkAt W H l m) ↔ (i < l.length → OkAt W H l i) ∧ (∀ m, i + 1 ≤ m → m < l.length → OkAt W H l m) :=
  ⟨fun h => ⟨fun hi => h i (Nat.le_refl _) hi, fun m h1 h2 => h m (by omega) h2⟩, fun ⟨h1, h2⟩ m h3 h4 => by
    by_cases e : i = m
    · subst e; exact h1 h4
    · exact h2 m (by omega) h4⟩

theorem impl_loop {W H : Int} {l : List Sq} (hW : 1 ≤ W ∧ W ≤ 500) (hH : 1 ≤ H ∧ H ≤ 500) (hl : l.length ≤ 30) : ∀ (d i : Nat), l.length - i = d → i ≤ l.length → (∀ m, m < i → OkAt W H l m) →
    ∀ r : Bool, (r = true ↔ (∀ m, i ≤ m → m < l.length → OkAt W H l m) ∧ areaTo l l.length = W * H) → Ev (fun k => impl_IsCut.l0 k (areaTo l i) l (l.length : Int) (i : Int) W H l) r := by
  intro d
  induction d with
  | zero =>
    intro i hd hi hok r hr
    obtain rfl : i = l.length := by omega
    have bd := areaTo_bd W H l hW.2 hH.2 l.length hl (fun m hm => (hok m hm).1)
    have w1 : W * H ≤ 500 * 500 := Int.mul_le_mul (by omega) (by omega) (by omega) (by omega)
    have w0 : 0 ≤ W * H := Int.mul_nonneg (by omega) (by omega)
    refine Ev.succ ?_
    simp only [impl_IsCut.l0]
    refine Ev.neg (by omega) ?_
    rw [wrap64_id (by omega) (by omega)]
    refine Ev.eqr (Ev.now _) ?_
    rw [Bool.eq_iff_iff, hr, beq_iff_eq]
    exact ⟨fun h => ⟨fun m h1 h2 => by omega, h⟩, fun h => h.2⟩
  | succ d ih =>
    intro i hd hi hok r hr
    have hlt : i < l.length := by omega
    rw [okFrom_step] at hr
    refine Ev.succ ?_
    simp only [impl_IsCut.l0, rd_sq]
    refine Ev.pos (by omega) (Ev.pos (by omega) (Ev.pos (by omega) ?_))
    have hmn : mn W H ≤ 500 := by unfold mn; split <;> omega
    have fall : ∀ r : Bool, r = false → Ev (fun k => impl_IsCut.j2 k (areaTo l i) (i : Int) l (l.length : Int) (i : Int) true W H l (sqAt l i).f0 (sqAt l i).f1 (sqAt l i).f2) r := by
      rintro _ rfl
      refine Ev.succ ?_
      simp only [impl_IsCut.j2]
      exact Ev.pos trivial (Ev.now _)
    have rf : ¬ OkAt W H l i → r = false := fun h => by
      cases hq : r with
      | false => rfl
      | true => exact absurd ((hr.1 hq).1.1 hlt) h
    have mnle : mn W H ≤ W ∧ mn W H ≤ H ∧ (mn W H = W ∨ mn W H = H) := by unfold mn; split <;> omega
    refine Ev.bindc (within_eq _ _ _) ?_
    by_cases c1 : 1 ≤ (sqAt l i).f2 ∧ (sqAt l i).f2 ≤ mn W H
    · rw [decide_eq_true c1]
      refine Ev.pos rfl (Ev.bindc (within_eq _ _ _) ?_)
      rw [wrap64_id (by omega) (by omega)]
      by_cases c2 : 0 ≤ (sqAt l i).f0 ∧ (sqAt l i).f0 ≤ W - (sqAt l i).f2
      · rw [decide_eq_true c2]
        refine Ev.pos rfl (Ev.bindc (within_eq _ _ _) ?_)
        rw [wrap64_id (by omega) (by omega)]
        by_cases c3 : 0 ≤ (sqAt l i).f1 ∧ (sqAt l i).f1 ≤ H - (sqAt l i).f2
        · rw [decide_eq_true c3]
          have hins : Ins W H (sqAt l i) := by unfold Ins; omega
          have hall : ∀ m, m ≤ i → Ins W H (sqAt l m) := fun m hm => by
            by_cases e : m = i
            · rw [e]; exact hins
            · exact (hok m (by omega)).1
          refine Ev.succ ?_
          simp only [impl_IsCut.j2, Bool.not_true]
          refine Ev.neg (by decide) ?_
          have bd := areaTo_bd W H l hW.2 hH.2 i (by omega) (fun m hm => hall m (by omega))
          have qb := sq_bd hW.2 hH.2 hins
          have tn : ((i : Int)).toNat = i := Int.toNat_natCast i
          have next : (∀ j, j < i → ¬ Ovl (sqAt l i) (sqAt l j)) → (0 < i → Less (sqAt l (i - 1)) (sqAt l i)) → Ev (fun k => impl_IsCut.l0 k (wrap64 (areaTo l i + wrap64 ((sqAt l i).f2 * (sqAt l i).f2))) l (l.length : Int) (wrap64 ((i : Int) + 1)) W H l) r := by
            intro ho hlss
            have hk : OkAt W H l i := ⟨hins, hlss, ho⟩
            rw [wrap64_id (n := (sqAt l i).f2 * (sqAt l i).f2) (by omega) (by omega), wrap64_id (n := areaTo l i + (sqAt l i).f2 * (sqAt l i).f2) (by omega) (by omega), wrap64_id (n := (i : Int) + 1) (by omega) (by omega)]
            have := ih (i + 1) (by omega) (by omega) (fun m hm => by
              by_cases e : m = i
              · rw [e]; exact hk
              · exact hok m (by omega)) r (by rw [hr]; exact ⟨fun h => ⟨h.1.2, h.2⟩, fun h => ⟨⟨fun _ => hk, h.1⟩, h.2⟩⟩)
            exact this
          have cont : (0 < i → Less (sqAt l (i - 1)) (sqAt l i)) → Ev (fun k => if 0 ≤ (i : Int) then if (i : Int) ≤ (l.length : Int) then (slices_ContainsFunc_impl_Square_impl_Square__impl_IsCut_1.f (l.take ((i : Int)).toNat) (sqAt l i).f0 (sqAt l i).f1 (sqAt l i).f2).bind fun t => if t = true then some false else impl_IsCut.l0 k (wrap64 (areaTo l i + wrap64 ((sqAt l i).f2 * (sqAt l i).f2))) l (l.length : Int) (wrap64 ((i : Int) + 1)) W H l else none else none) r := by
            intro hlss
            refine Ev.pos (by omega) (Ev.pos (by omega) ?_)
            rw [tn]
            refine Ev.bindc (contains_eq hW.2 hH.2 i hlt hall) ?_
            by_cases ho : ∃ j, j < i ∧ Ovl (sqAt l i) (sqAt l j)
            · rw [decide_eq_true ho]
              refine Ev.pos rfl (Ev.eqr (Ev.now _) (rf fun hk => ?_).symm)
              obtain ⟨j, hj, hq⟩ := ho
              exact hk.2.2 j hj hq
            · rw [decide_eq_false ho]
              exact Ev.neg (by decide) (next (fun j hj hq => ho ⟨j, hj, hq⟩) hlss)
          by_cases hi0 : (i : Int) > 0
          · refine Ev.pos hi0 ?_
            have e1 : wrap64 ((i : Int) - 1) = ((i - 1 : Nat) : Int) := by rw [wrap64_id (by omega) (by omega)]; omega
            simp only [e1, rd_sq]
            refine Ev.pos (by omega) (Ev.pos (by omega) ?_)
            obtain ⟨c, hc, hcl⟩ := compare_eq hW.2 hH.2 (hall (i - 1) (by omega)) hins
            refine Ev.bindc hc ?_
            by_cases c4 : c ≥ 0
            · refine Ev.pos c4 (Ev.eqr (Ev.now _) (rf fun hk => ?_).symm)
              have := hcl.2 (hk.2.1 (by omega))
              omega
            · exact Ev.neg c4 (cont fun _ => hcl.1 (by omega))
          · exact Ev.neg hi0 (cont fun h => by omega)
        · rw [decide_eq_false c3]
          exact fall _ (rf fun h => c3 (by have := h.1; unfold Ins at this; omega))
      · rw [decide_eq_false c2]
        exact Ev.neg (by decide) (fall _ (rf fun h => c2 (by have := h.1; unfold Ins at this; omega)))
    · rw [decide_eq_false c1]
      refine Ev.neg (by decide) (fall _ (rf fun h => c1 ?_))
      have := h.1
      unfold Ins at this
      rcases mnle.2.2 with e | e <;> omega

theorem impl_IsCut_ev (W H : Int) (l : List Sq) : Ev (fun k => impl_IsCut.f k W H l) (decide (Good W H l)) := by
  unfold impl_IsCut.f
  have fall : ∀ r : Bool, r = false → Ev (fun k => impl_IsCut.j0 k true W H l) r := by
    rintro _ rfl
    refine Ev.succ ?_
    simp only [impl_IsCut.j0]
    exact Ev.pos trivial (Ev.now _)
  refine Ev.bindc (isWide_eq _) ?_
  by_cases c1 : 1 ≤ W ∧ W ≤ 500
  · rw [decide_eq_true c1]
    refine Ev.pos rfl (Ev.bindc (isWide_eq _) ?_)
    by_cases c2 : 1 ≤ H ∧ H ≤ 500
    · rw [decide_eq_true c2]
      refine Ev.pos rfl ?_
      by_cases c3 : (l.length : Int) > 30
      · rw [decide_eq_true c3]
        exact fall _ (decide_eq_false fun h => by have := h.2.2.1; omega)
      · rw [decide_eq_false c3]
        refine Ev.succ ?_
        simp only [impl_IsCut.j0]
        refine Ev.neg (by decide) ?_
        have := impl_loop (l := l) c1 c2 (by omega) l.length 0 (by omega) (Nat.zero_le _) (fun m hm => by omega) (decide (Good W H l)) ?_
        · exact this
        · rw [decide_eq_true_eq]
          constructor
          · intro h; exact ⟨fun m _ h2 => h.2.2.2.1 m h2, h.2.2.2.2⟩
          · intro h
            refine ⟨c1, c2, ⟨?_, (by omega : l.length ≤ 30)⟩, fun m hm => h.1 m (Nat.zero_le _) hm, h.2⟩
            cases hl : l with
            | nil =>
              subst hl
              have e : (0 : Int) = W * H := h.2
              have : 0 < W * H := Int.mul_pos (by omega) (by omega)
              omega
            | cons a t => simp
    · rw [decide_eq_false c2]
      exact Ev.neg (by decide) (fall _ (decide_eq_false fun h => c2 h.2.1))
  · rw [decide_eq_false c1]
    exact Ev.neg (by decide) (fall _ (decide_eq_false fun h => c1 h.1))

/-! the reference's own -/
/-- what the inner loop of the reference asks of the squares from place j on -/
def InnerOk (l : List Sq) (i j : Nat) : Prop := ∀ m, j ≤ m → m < i → ¬ Ovl (sqAt l i) (sqAt l m) ∧ (m + 1 = i → Less (sqAt l m) (sqAt l i))
theorem inner_step (l : List Sq) (i j : Nat) (h : j < i) : InnerOk l i j ↔ (¬ Ovl (sqAt l i) (sqAt l j) ∧ (j + 1 = i → Less (sqAt l j) (sqAt l i))) ∧ InnerOk l i (j + 1) :=
  ⟨fun h1 => ⟨h1 j (Nat.le_refl _) h, fun m h2 h3 => h1 m (by omega) h3⟩, fun ⟨h1, h2⟩ m h3 h4 => by
    by_cases e : j = m
    · subst e; exact h1
    · exact h2 m (by omega) h4⟩
theorem inner_ok (W H : Int) (l : List Sq) (i : Nat) : OkAt W H l i ↔ Ins W H (sqAt l i) ∧ InnerOk l i 0 := by
  unfold OkAt InnerOk
  constructor
  · rintro ⟨h1, h2, h3⟩
    refine ⟨h1, fun m _ hm => ⟨h3 m hm, fun e => ?_⟩⟩
    have := h2 (by omega)
    rw [show i - 1 = m by omega] at this
    exact this
  · rintro ⟨h1, h2⟩
    exact ⟨h1, fun hi => (h2 (i - 1) (Nat.zero_le _) (by omega)).2 (by omega), fun j hj => (h2 j (Nat.zero_le _) hj).1⟩

theorem spec_inner {W H : Int} {l : List Sq} (hW : 1 ≤ W ∧ W ≤ 500) (hH : 1 ≤ H ∧ H ≤ 500) (hl : l.length ≤ 30) (i : Nat) (hi : i < l.length) (hall : ∀ m, m ≤ i → Ins W H (sqAt l m)) (A : Int) (r : Bool)
    (hgood : InnerOk l i 0 → Ev (fun k => spec_cuGood.l0 k A l (l.length : Int) ((i : Int) + 1) W H l) r) (hbad : ¬ InnerOk l i 0 → r = false) :
    ∀ (d j : Nat), i - j = d → j ≤ i → (InnerOk l i j ↔ InnerOk l i 0) →
      Ev (fun k => spec_cuGood.l1 k A (i : Int) l (l.length : Int) (i : Int) (l.take i) (i : Int) (j : Int) W H l (sqAt l i).f0 (sqAt l i).f1 (sqAt l i).f2) r := by
  intro d
  induction d with
  | zero =>
    intro j hd hj hiff
    obtain rfl : j = i := by omega
    refine Ev.succ ?_
    simp only [spec_cuGood.l1]
    refine Ev.neg (by omega) ?_
    rw [wrap64_id (by omega) (by omega)]
    exact hgood (hiff.1 fun m h1 h2 => by omega)
  | succ d ih =>
    intro j hd hj hiff
    have hlt : j < i := by omega
    have tk : (l.take i).length = i := by rw [List.length_take]; omega
    have et : sqAt (l.take i) j = sqAt l j := by
      rw [sqAt_get _ _ (by omega), sqAt_get _ _ (by omega), List.getElem_take]
    rw [inner_step l i j hlt] at hiff
    refine Ev.succ ?_
    simp only [spec_cuGood.l1, rd_sq, et, tk]
    refine Ev.pos (by omega) (Ev.pos (by omega) (Ev.pos (by omega) ?_))
    have a := hall i (Nat.le_refl _)
    have b := hall j (by omega)
    have j4 : ∀ b : Bool, b = decide (Ovl (sqAt l i) (sqAt l j)) → Ev (fun k => spec_cuGood.j4 k A (i : Int) (j : Int) l (l.length : Int) (i : Int) (l.take i) (i : Int) (j : Int) b W H l (sqAt l i).f0 (sqAt l i).f1 (sqAt l i).f2 (sqAt l j).f0 (sqAt l j).f1 (sqAt l j).f2) r := by
      rintro b rfl
      refine Ev.succ ?_
      simp only [spec_cuGood.j4]
      by_cases ho : Ovl (sqAt l i) (sqAt l j)
      · exact Ev.pos (decide_eq_true ho) (Ev.eqr (Ev.now _) (hbad fun h => (hiff.2 h).1.1 ho).symm)
      · refine Ev.neg (by simpa using ho) ?_
        have e1 : wrap64 ((i : Int) - 1) = (i : Int) - 1 := wrap64_id (by omega) (by omega)
        have e2 : wrap64 ((j : Int) + 1) = ((j + 1 : Nat) : Int) := by rw [wrap64_id (by omega) (by omega)]; omega
        rw [e1, e2]
        by_cases hj1 : j + 1 = i
        · refine Ev.pos (by omega) (Ev.bindc (less_eq _ _) ?_)
          by_cases hls : Less (sqAt l j) (sqAt l i)
          · exact Ev.pos (decide_eq_true hls) (ih (j + 1) (by omega) (by omega) ⟨fun h => hiff.1 ⟨⟨ho, fun _ => hls⟩, h⟩, fun h => (hiff.2 h).2⟩)
          · exact Ev.neg (by simpa using hls) (Ev.eqr (Ev.now _) (hbad fun h => hls ((hiff.2 h).1.2 hj1)).symm)
        · exact Ev.neg (by omega) (ih (j + 1) (by omega) (by omega) ⟨fun h => hiff.1 ⟨⟨ho, fun e => absurd e hj1⟩, h⟩, fun h => (hiff.2 h).2⟩)
    unfold Ins at a b
    rw [wrap64_id (n := (sqAt l j).f0 + (sqAt l j).f2) (by omega) (by omega), wrap64_id (n := (sqAt l i).f0 + (sqAt l i).f2) (by omega) (by omega), wrap64_id (n := (sqAt l j).f1 + (sqAt l j).f2) (by omega) (by omega), wrap64_id (n := (sqAt l i).f1 + (sqAt l i).f2) (by omega) (by omega)]
    by_cases c1 : (sqAt l i).f0 < (sqAt l j).f0 + (sqAt l j).f2
    · refine Ev.pos c1 ?_
      by_cases c2 : (sqAt l j).f0 < (sqAt l i).f0 + (sqAt l i).f2
      · refine Ev.pos c2 ?_
        by_cases c3 : (sqAt l i).f1 < (sqAt l j).f1 + (sqAt l j).f2
        · refine Ev.pos c3 (j4 _ ?_)
          unfold Ovl
          simp [c1, c2, c3]
        · exact Ev.neg c3 (j4 _ (decide_eq_false fun h => c3 h.2.2.1).symm)
      · exact Ev.neg c2 (j4 _ (decide_eq_false fun h => c2 h.2.1).symm)
    · exact Ev.neg c1 (j4 _ (decide_eq_false fun h => c1 h.1).symm)

theorem spec_loop {W H : Int} {l : List Sq} (hW : 1 ≤ W ∧ W ≤ 500) (hH : 1 ≤ H ∧ H ≤ 500) (hl : l.length ≤ 30) : ∀ (d i : Nat), l.length - i = d → i ≤ l.length → (∀ m, m < i → OkAt W H l m) →
    ∀ r : Bool, (r = true ↔ (∀ m, i ≤ m → m < l.length → OkAt W H l m) ∧ areaTo l l.length = W * H) → Ev (fun k => spec_cuGood.l0 k (areaTo l i) l (l.length : Int) (i : Int) W H l) r := by
  intro d
  induction d with
  | zero =>
    intro i hd hi hok r hr
    obtain rfl : i = l.length := by omega
    have bd := areaTo_bd W H l hW.2 hH.2 l.length hl (fun m hm => (hok m hm).1)
    have w1 : W * H ≤ 500 * 500 := Int.mul_le_mul (by omega) (by omega) (by omega) (by omega)
    have w0 : 0 ≤ W * H := Int.mul_nonneg (by omega) (by omega)
    refine Ev.succ ?_
    simp only [spec_cuGood.l0]
    refine Ev.neg (by omega) ?_
    rw [wrap64_id (by omega) (by omega)]
    refine Ev.eqr (Ev.now _) ?_
    rw [Bool.eq_iff_iff, hr, beq_iff_eq]
    exact ⟨fun h => ⟨fun m h1 h2 => by omega, h⟩, fun h => h.2⟩
  | succ d ih =>
    intro i hd hi hok r hr
    have hlt : i < l.length := by omega
    rw [okFrom_step] at hr
    refine Ev.succ ?_
    simp only [spec_cuGood.l0, rd_sq]
    refine Ev.pos (by omega) (Ev.pos (by omega) (Ev.pos (by omega) ?_))
    have fall : ∀ r : Bool, r = false → Ev (fun k => spec_cuGood.j2 k (areaTo l i) (i : Int) l (l.length : Int) (i : Int) true W H l (sqAt l i).f0 (sqAt l i).f1 (sqAt l i).f2) r := by
      rintro _ rfl
      refine Ev.succ ?_
      simp only [spec_cuGood.j2]
      exact Ev.pos trivial (Ev.now _)
    have rf : ¬ OkAt W H l i → r = false := fun h => by
      cases hq : r with
      | false => rfl
      | true => exact absurd ((hr.1 hq).1.1 hlt) h
    refine Ev.bindc (l1In_eq _ _ _) ?_
    by_cases c1 : 1 ≤ (sqAt l i).f2 ∧ (sqAt l i).f2 ≤ 500
    · rw [decide_eq_true c1]
      refine Ev.pos rfl (Ev.bindc (l1In_eq _ _ _) ?_)
      rw [wrap64_id (by omega) (by omega)]
      by_cases c2 : 0 ≤ (sqAt l i).f0 ∧ (sqAt l i).f0 ≤ W - (sqAt l i).f2
      · rw [decide_eq_true c2]
        refine Ev.pos rfl (Ev.bindc (l1In_eq _ _ _) ?_)
        rw [wrap64_id (by omega) (by omega)]
        by_cases c3 : 0 ≤ (sqAt l i).f1 ∧ (sqAt l i).f1 ≤ H - (sqAt l i).f2
        · rw [decide_eq_true c3]
          have hins : Ins W H (sqAt l i) := by unfold Ins; omega
          have hall : ∀ m, m ≤ i → Ins W H (sqAt l m) := fun m hm => by
            by_cases e : m = i
            · rw [e]; exact hins
            · exact (hok m (by omega)).1
          have bd := areaTo_bd W H l hW.2 hH.2 i (by omega) (fun m hm => hall m (by omega))
          have qb := sq_bd hW.2 hH.2 hins
          refine Ev.succ ?_
          simp only [spec_cuGood.j2, Bool.not_true]
          refine Ev.neg (by decide) (Ev.pos (by omega) (Ev.pos (by omega) (Ev.bindc rfl ?_)))
          have tk : (l.take ((i : Int)).toNat).length = i := by rw [List.length_take]; omega
          have tn : ((i : Int)).toNat = i := Int.toNat_natCast i
          rw [tk, tn, wrap64_id (n := (sqAt l i).f2 * (sqAt l i).f2) (by omega) (by omega), wrap64_id (n := areaTo l i + (sqAt l i).f2 * (sqAt l i).f2) (by omega) (by omega)]
          have iok := inner_ok W H l i
          refine spec_inner hW hH hl i hlt hall _ r (fun hin => ?_) (fun hin => rf fun h => hin (iok.1 h).2) i 0 (by omega) (Nat.zero_le _) Iff.rfl
          have hk : OkAt W H l i := iok.2 ⟨hins, hin⟩
          have := ih (i + 1) (by omega) (by omega) (fun m hm => by
              by_cases e : m = i
              · rw [e]; exact hk
              · exact hok m (by omega)) r (by rw [hr]; exact ⟨fun h => ⟨h.1.2, h.2⟩, fun h => ⟨⟨fun _ => hk, h.1⟩, h.2⟩⟩)
          exact this
        · rw [decide_eq_false c3]
          exact fall _ (rf fun h => c3 (by have := h.1; unfold Ins at this; omega))
      · rw [decide_eq_false c2]
        exact Ev.neg (by decide) (fall _ (rf fun h => c2 (by have := h.1; unfold Ins at this; omega)))
    · rw [decide_eq_false c1]
      refine Ev.neg (by decide) (fall _ (rf fun h => c1 ?_))
      have := h.1
      unfold Ins at this
      omega

theorem spec_cuGood_ev (W H : Int) (l : List Sq) : Ev (fun k => spec_cuGood.f k W H l) (decide (Good W H l)) := by
  unfold spec_cuGood.f
  have fall : ∀ r : Bool, r = false → Ev (fun k => spec_cuGood.j0 k true W H l) r := by
    rintro _ rfl
    refine Ev.succ ?_
    simp only [spec_cuGood.j0]
    exact Ev.pos trivial (Ev.now _)
  refine Ev.bindc (l1In_eq _ _ _) ?_
  by_cases c1 : 1 ≤ W ∧ W ≤ 500
  · rw [decide_eq_true c1]
    refine Ev.pos rfl (Ev.bindc (l1In_eq _ _ _) ?_)
    by_cases c2 : 1 ≤ H ∧ H ≤ 500
    · rw [decide_eq_true c2]
      refine Ev.pos rfl (Ev.bindc (l1In_eq _ _ _) ?_)
      by_cases c3 : 1 ≤ (l.length : Int) ∧ (l.length : Int) ≤ 30
      · rw [decide_eq_true c3]
        refine Ev.succ ?_
        simp only [spec_cuGood.j0, Bool.not_true]
        refine Ev.neg (by decide) ?_
        refine spec_loop (l := l) c1 c2 (by omega) l.length 0 (by omega) (Nat.zero_le _) (fun m hm => by omega) (decide (Good W H l)) ?_
        rw [decide_eq_true_eq]
        exact ⟨fun h => ⟨fun m _ h2 => h.2.2.2.1 m h2, h.2.2.2.2⟩, fun h => ⟨c1, c2, by omega, fun m hm => h.1 m (Nat.zero_le _) hm, h.2⟩⟩
      · rw [decide_eq_false c3]
        exact fall _ (decide_eq_false fun h => c3 (by have := h.2.2.1; omega))
    · rw [decide_eq_false c2]
      exact Ev.neg (by decide) (fall _ (decide_eq_false fun h => c2 h.2.1))
  · rw [decide_eq_false c1]
    exact Ev.neg (by decide) (fall _ (decide_eq_false fun h => c1 h.1))

/-! ### squares in order: what the two sorts answer -/
def LeP (a b : Sq) : Prop := ¬ Less b a
theorem LeP.trans {a b c : Sq} (h : LeP a b) (k : LeP b c) : LeP a c := by unfold LeP Less at *; omega
theorem LeP.of_less {a b : Sq} (h : Less a b) : LeP a b := by unfold LeP Less at *; omega
def Dist (l : List Sq) : Prop := ∀ a ∈ l, ∀ b ∈ l, a.f0 = b.f0 → a.f1 = b.f1 → a = b
theorem eq_of_sorted {l r r' : List Sq} (hd : Dist l) (hp : r.Perm l) (hp' : r'.Perm l) (hs : r.Pairwise LeP) (hs' : r'.Pairwise LeP) : r = r' :=
  List.Perm.eq_of_pairwise (fun a b ha hb h1 h2 => hd a (hp.mem_iff.1 ha) b (hp'.mem_iff.1 hb) (by unfold LeP Less at *; omega) (by unfold LeP Less at *; omega)) hs hs' (hp.trans hp'.symm)
theorem mem_take_at {o : List Sq} {k : Nat} (hk : k ≤ o.length) {a : Sq} (h : a ∈ o.take k) : ∃ j, j < k ∧ a = sqAt o j := by
  obtain ⟨j, hj, rfl⟩ := List.mem_iff_getElem.1 h
  rw [List.length_take] at hj
  exact ⟨j, by omega, by rw [List.getElem_take, sqAt_get o j (by omega)]⟩
theorem mem_drop_at {o : List Sq} {k : Nat} {a : Sq} (h : a ∈ o.drop k) : ∃ j, k ≤ j ∧ j < o.length ∧ a = sqAt o j := by
  obtain ⟨j, hj, rfl⟩ := List.mem_iff_getElem.1 h
  rw [List.length_drop] at hj
  exact ⟨k + j, by omega, by omega, by rw [List.getElem_drop, sqAt_get o (k + j) (by omega)]⟩
theorem sorted_at {o : List Sq} (ho : o.Pairwise LeP) {i j : Nat} (hij : i ≤ j) (hj : j < o.length) : LeP (sqAt o i) (sqAt o j) := by
  rcases Nat.lt_or_eq_of_le hij with h | h
  · rw [sqAt_get o i (by omega), sqAt_get o j hj]
    exact List.pairwise_iff_getElem.1 ho i j (by omega) hj h
  · subst h; unfold LeP Less; omega
theorem ins_sorted {o : List Sq} {s : Sq} {k : Nat} (hk : k ≤ o.length) (ho : o.Pairwise LeP) (h1 : ∀ j, k ≤ j → j < o.length → Less s (sqAt o j)) (h2 : k = 0 ∨ ¬ Less s (sqAt o (k - 1))) :
    (o.take k ++ [s] ++ o.drop k).Pairwise LeP := by
  have hts : ∀ a ∈ o.take k, LeP a s := by
    intro a ha
    obtain ⟨j, hj, rfl⟩ := mem_take_at hk ha
    rcases h2 with h2 | h2
    · omega
    · exact LeP.trans (sorted_at ho (show j ≤ k - 1 by omega) (by omega)) h2
  refine List.pairwise_append.2 ⟨List.pairwise_append.2 ⟨ho.sublist (List.take_sublist _ _), List.pairwise_singleton _ _, fun a ha b hb => ?_⟩, ho.sublist (List.drop_sublist _ _), fun a ha b hb => ?_⟩
  · rw [List.mem_singleton.1 hb]; exact hts a ha
  · obtain ⟨j, hj, hj2, rfl⟩ := mem_drop_at hb
    have hsb := LeP.of_less (h1 j hj hj2)
    rcases List.mem_append.1 ha with ha | ha
    · exact (hts a ha).trans hsb
    · rw [List.mem_singleton.1 ha]; exact hsb
theorem ins_perm (o : List Sq) (s : Sq) (k : Nat) : (o.take k ++ [s] ++ o.drop k).Perm (s :: o) := by
  rw [List.append_assoc]
  have h := List.perm_middle (l₁ := o.take k) (a := s) (l₂ := o.drop k)
  rw [List.take_append_drop] at h
  exact h
theorem sqs_drop (l : List Sq) (i : Nat) (w : Sq) (t : List Sq) (h : l.drop i = w :: t) : i < l.length ∧ sqAt l i = w ∧ l.drop (i + 1) = t := by
  have h1 : i < l.length := by
    apply Decidable.byContradiction
    intro hn
    rw [List.drop_eq_nil_of_le (by omega)] at h; cases h
  rw [List.drop_eq_getElem_cons h1] at h
  injection h with ha hb
  exact ⟨h1, by rw [sqAt_get l i h1]; exact ha, hb⟩

/-! ### a cut's squares -/
theorem good_in {W H : Int} {l : List Sq} (hg : Good W H l) {s : Sq} (hs : s ∈ l) : Ins W H s := by
  obtain ⟨j, hj, rfl⟩ := List.mem_iff_getElem.1 hs
  rw [← sqAt_get l j hj]
  exact (hg.2.2.2.1 j hj).1
theorem ovl_symm {a b : Sq} (h : Ovl a b) : Ovl b a := ⟨h.2.1, h.1, h.2.2.2, h.2.2.1⟩
theorem good_inj {W H : Int} {l : List Sq} (hg : Good W H l) {a b : Sq} (ha : a ∈ l) (hb : b ∈ l) (h : Ovl a b) : a = b := by
  obtain ⟨i, hi, rfl⟩ := List.mem_iff_getElem.1 ha
  obtain ⟨j, hj, rfl⟩ := List.mem_iff_getElem.1 hb
  rw [← sqAt_get l i hi, ← sqAt_get l j hj] at h ⊢
  rcases Nat.lt_trichotomy i j with hlt | rfl | hlt
  · exact absurd (ovl_symm h) ((hg.2.2.2.1 j hj).2.2 i hlt)
  · rfl
  · exact absurd h ((hg.2.2.2.1 i hi).2.2 j hlt)
theorem take_map_succ (l : List Sq) (f : Sq → Sq) (i : Nat) (s : Sq) (t : List Sq) (h : l.drop i = s :: t) : (l.take i).map f ++ [f s] = (l.take (i + 1)).map f := by
  obtain ⟨h1, h2, _⟩ := sqs_drop l i s t h
  have e : l.take (i + 1) = l.take i ++ [s] := by
    rw [List.take_add_one, List.getElem?_eq_getElem h1, ← h2, sqAt_get l i h1]; rfl
  rw [e, List.map_append]; rfl

/-! ### cuts whose squares are changed and put in order -/
def areaL : List Sq → Int
  | [] => 0
  | s :: t => s.f2 * s.f2 + areaL t
theorem areaL_append : ∀ a b : List Sq, areaL (a ++ b) = areaL a + areaL b
  | [], b => by simp [areaL]
  | s :: a, b => by simp only [List.cons_append, areaL, areaL_append a b]; omega
theorem areaL_perm {a b : List Sq} (h : a.Perm b) : areaL a = areaL b := by
  induction h with
  | nil => rfl
  | cons x _ ih => simp only [areaL, ih]
  | swap x y l => simp only [areaL]; omega
  | trans _ _ ih1 ih2 => exact ih1.trans ih2
theorem areaTo_take (l : List Sq) : ∀ n, n ≤ l.length → areaTo l n = areaL (l.take n)
  | 0, _ => by simp [areaTo, areaL]
  | n + 1, h => by
    rw [areaTo, areaTo_take l n (by omega), List.take_succ_eq_append_getElem (by omega), areaL_append, sqAt_get l n (by omega)]
    simp only [areaL]; omega
theorem areaTo_all (l : List Sq) : areaTo l l.length = areaL l := by rw [areaTo_take l l.length (Nat.le_refl _), List.take_length]
theorem areaL_map (f : Sq → Sq) : ∀ l : List Sq, (∀ s ∈ l, (f s).f2 = s.f2) → areaL (l.map f) = areaL l
  | [], _ => rfl
  | s :: t, h => by simp only [List.map_cons, areaL, h s List.mem_cons_self, areaL_map f t (fun r hr => h r (List.mem_cons_of_mem _ hr))]
theorem good_apart {W H : Int} {l : List Sq} (hg : Good W H l) : l.Pairwise (fun a b => ¬ Ovl a b) := by
  rw [List.pairwise_iff_getElem]
  intro i j hi hj hij ho
  have := (hg.2.2.2.1 j hj).2.2 i hij
  rw [sqAt_get l i hi, sqAt_get l j hj] at this
  exact this (ovl_symm ho)
theorem good_of {W H : Int} {r : List Sq} (hW : 1 ≤ W ∧ W ≤ 500) (hH : 1 ≤ H ∧ H ≤ 500) (hl : 1 ≤ r.length ∧ r.length ≤ 30) (hin : ∀ s ∈ r, Ins W H s) (hs : r.Pairwise LeP) (hno : r.Pairwise (fun a b => ¬ Ovl a b)) (ha : areaL r = W * H) : Good W H r := by
  rw [List.pairwise_iff_getElem] at hs hno
  refine ⟨hW, hH, hl, fun i hi => ⟨hin _ (sqAt_mem r i hi), fun h0 => ?_, fun j hj ho => ?_⟩, by rw [areaTo_all, ha]⟩
  · have h1 := hs (i - 1) i (by omega) hi (by omega)
    have h2 := hno (i - 1) i (by omega) hi (by omega)
    have i1 := hin _ (sqAt_mem r (i - 1) (by omega))
    have i2 := hin _ (sqAt_mem r i hi)
    rw [sqAt_get r (i - 1) (by omega)] at i1 ⊢
    rw [sqAt_get r i hi] at i2 ⊢
    unfold LeP at h1
    unfold Less Ovl Ins at *
    omega
  · have := hno j i (by omega) hi hj
    rw [sqAt_get r i hi, sqAt_get r j (by omega)] at ho
    exact this (ovl_symm ho)
theorem good_changed {W H W' H' : Int} {l r : List Sq} (f : Sq → Sq) (hg : Good W H l) (hW : 1 ≤ W' ∧ W' ≤ 500) (hH : 1 ≤ H' ∧ H' ≤ 500) (hWH : W' * H' = W * H)
    (hin : ∀ s, Ins W H s → Ins W' H' (f s)) (hf2 : ∀ s, Ins W H s → (f s).f2 = s.f2) (hov : ∀ a b, Ins W H a → Ins W H b → Ovl (f a) (f b) → Ovl a b) (hp : r.Perm (l.map f)) (hs : r.Pairwise LeP) : Good W' H' r := by
  have hl := hp.length_eq
  rw [List.length_map] at hl
  have h30 := hg.2.2.1
  refine good_of hW hH (by omega) (fun s hs' => ?_) hs ?_ ?_
  · obtain ⟨q, hq, rfl⟩ := List.mem_map.1 (hp.mem_iff.1 hs')
    exact hin q (good_in hg hq)
  · rw [hp.pairwise_iff (fun h k => h (ovl_symm k)), List.pairwise_map]
    have := good_apart hg
    rw [List.pairwise_iff_getElem] at this ⊢
    intro i j hi hj hij ho
    exact this i j hi hj hij (hov _ _ (good_in hg (List.getElem_mem hi)) (good_in hg (List.getElem_mem hj)) ho)
  · rw [areaL_perm hp, areaL_map f l (fun s hs' => hf2 s (good_in hg hs')), ← areaTo_all, hg.2.2.2.2, hWH]

/-! ### the stable sort: exchanges and rotations, on the list cut into pieces -/
def cmpV (a b : Sq) : Int := if a.f1 = b.f1 then wrap64 (a.f0 - b.f0) else wrap64 (a.f1 - b.f1)
theorem cmp_eq (a b : Sq) : impl_comparePlaces.f a.f0 a.f1 a.f2 b.f0 b.f1 b.f2 = some (cmpV a b) := by
  unfold impl_comparePlaces.f cmpV; split <;> rfl
def BdS (s : Sq) : Prop := (-1099511627776 ≤ s.f0 ∧ s.f0 ≤ 1099511627776) ∧ (-1099511627776 ≤ s.f1 ∧ s.f1 ≤ 1099511627776)
theorem cmpV_lt {a b : Sq} (ha : BdS a) (hb : BdS b) : cmpV a b < 0 ↔ Less a b := by
  unfold BdS at ha hb
  unfold cmpV Less
  split
  · rw [wrap64_id (by omega) (by omega)]; omega
  · rw [wrap64_id (by omega) (by omega)]; omega
theorem half_eq (x : Int) (h0 : 0 ≤ x) (h1 : x ≤ 1099511627776) : wrap64 (IntKind.u64.wrap (wrap64 x) / 2) = x / 2 := by
  rw [wrap64_id (n := x) (by omega) (by omega)]
  have : IntKind.u64.wrap x = x := by
    simp only [IntKind.wrap]
    have e : (2 : Int) ^ IntKind.u64.bits = 18446744073709551616 := rfl
    rw [e, if_neg (by simp [IntKind.signed])]; omega
  rw [this, wrap64_id (by omega) (by omega)]
theorem sq_eta (s : Sq) : (⟨s.f0, s.f1, s.f2⟩ : Sq) = s := rfl
theorem at_app (p : List Sq) (s : Sq) (t : List Sq) (n : Nat) (h : n = p.length) : sqAt (p ++ s :: t) n = s := by
  subst h; unfold sqAt; simp [List.getD]
theorem set_app (p : List Sq) (s s' : Sq) (t : List Sq) (n : Nat) (h : n = p.length) : (p ++ s :: t).set n s' = p ++ s' :: t := by
  subst h; simp
/-- two places change what they hold -/
theorem swap_app (p w q : List Sq) (s t : Sq) (i j : Nat) (hi : i = p.length) (hj : j = p.length + 1 + w.length) :
    ((p ++ s :: (w ++ t :: q)).set i (sqAt (p ++ s :: (w ++ t :: q)) j)).set j (sqAt (p ++ s :: (w ++ t :: q)) i) = p ++ t :: (w ++ s :: q) := by
  have e1 : sqAt (p ++ s :: (w ++ t :: q)) j = t := by
    have : p ++ s :: (w ++ t :: q) = (p ++ s :: w) ++ t :: q := by simp
    rw [this]; exact at_app _ _ _ _ (by simp; omega)
  rw [e1, at_app p s _ i hi, set_app p s t _ i hi]
  have : p ++ t :: (w ++ t :: q) = (p ++ t :: w) ++ t :: q := by simp
  rw [this, set_app _ t s q j (by simp; omega)]
  simp
theorem swp_loop : ∀ (n : Nat) (p u2 w v2 q v1 u1 : List Sq) (a b : Int), u2.length = n → v2.length = n → u1.length = v1.length → a = p.length → b = p.length + v1.length + u2.length + w.length → (p.length + v1.length + u2.length + w.length + u1.length + v2.length + q.length ≤ 1099511627776) →
    Ev (fun k => zSwp.l0 k (p ++ v1 ++ u2 ++ w ++ u1 ++ v2 ++ q) a b ((v1.length + u2.length : Nat) : Int) (v1.length : Int)) (p ++ (v1 ++ v2) ++ w ++ (u1 ++ u2) ++ q) := by
  intro n
  induction n with
  | zero =>
    intro p u2 w v2 q v1 u1 a b h1 h2 h3 ha hb hl
    obtain rfl := List.length_eq_zero_iff.1 h1
    obtain rfl := List.length_eq_zero_iff.1 h2
    refine Ev.succ ?_
    simp only [zSwp.l0]
    exact Ev.neg (by simp) (Ev.eqr (Ev.now _) (by simp))
  | succ n ih =>
    intro p u2 w v2 q v1 u1 a b h1 h2 h3 ha hb hl
    obtain ⟨s, u3, rfl⟩ := List.exists_cons_of_length_pos (by omega : 0 < u2.length)
    obtain ⟨t, v3, rfl⟩ := List.exists_cons_of_length_pos (by omega : 0 < v2.length)
    simp only [List.length_cons] at h1 h2 hb hl
    have hx : p ++ v1 ++ (s :: u3) ++ w ++ u1 ++ (t :: v3) ++ q = (p ++ v1) ++ s :: ((u3 ++ w ++ u1) ++ t :: (v3 ++ q)) := by simp
    have hlen : (p ++ v1 ++ (s :: u3) ++ w ++ u1 ++ (t :: v3) ++ q).length = p.length + v1.length + (u3.length + 1) + w.length + u1.length + (v3.length + 1) + q.length := by simp; omega
    have ea : wrap64 (a + (v1.length : Int)) = ((p.length + v1.length : Nat) : Int) := by rw [wrap64_id (by omega) (by omega)]; omega
    have eb : wrap64 (b + (v1.length : Int)) = ((p.length + v1.length + 1 + (u3.length + w.length + u1.length) : Nat) : Int) := by rw [wrap64_id (by omega) (by omega)]; omega
    have ew : wrap64 ((v1.length : Int) + 1) = ((v1.length + 1 : Nat) : Int) := by rw [wrap64_id (by omega) (by omega)]; omega
    have hnx := ih p u3 w v3 q (v1 ++ [t]) (u1 ++ [s]) a b (by omega) (by omega) (by simp; omega) ha (by simp; clear ea eb ew; omega) (by simp; clear ea eb ew; omega)
    refine Ev.succ ?_
    simp only [zSwp.l0, ea, eb, ew, rd_sq, sq_eta, Int.toNat_natCast]
    rw [hlen]
    clear ea eb ew
    refine Ev.pos (by simp; omega) (Ev.pos (by omega) (Ev.pos (by omega) (Ev.pos (by omega) (Ev.pos (by omega) ?_))))
    rw [hx, swap_app (p ++ v1) (u3 ++ w ++ u1) (v3 ++ q) s t _ _ (by rw [List.length_append]) (by simp only [List.length_append])]
    have e1 : (p ++ v1) ++ t :: ((u3 ++ w ++ u1) ++ s :: (v3 ++ q)) = p ++ (v1 ++ [t]) ++ u3 ++ w ++ (u1 ++ [s]) ++ v3 ++ q := by simp
    have e2 : ((v1 ++ [t]).length + u3.length : Nat) = v1.length + (s :: u3).length := by simp; omega
    rw [e1]
    rw [e2, List.length_append, List.length_singleton] at hnx
    refine Ev.eqr hnx ?_
    simp
theorem swp_ev (p u w v q : List Sq) (a b n : Int) (hu : n = u.length) (hv : n = v.length) (ha : a = p.length) (hb : b = p.length + u.length + w.length) (hl : p.length + u.length + w.length + v.length + q.length ≤ 1099511627776) :
    Ev (fun k => zSwp.f k (p ++ u ++ w ++ v ++ q) a b n) (p ++ v ++ w ++ u ++ q) := by
  unfold zSwp.f
  have := swp_loop u.length p u w v q [] [] a b rfl (by omega) rfl ha (by simpa using hb) (by simpa using hl)
  simp only [List.append_nil, List.nil_append, List.length_nil, Nat.zero_add] at this
  rw [hu]
  exact this
theorem rot_loop : ∀ (n : Nat) (p u v q : List Sq), u.length + v.length = n → 1 ≤ u.length → 1 ≤ v.length → p.length + u.length + v.length + q.length ≤ 1099511627776 → ∀ (m i j : Int), m = p.length + u.length → i = u.length → j = v.length →
    Ev (fun k => zRot.l0 k (p ++ u ++ v ++ q) m i j) (p ++ v ++ u ++ q) := by
  intro n
  induction n using Nat.strongRecOn with
  | _ n ih =>
    intro p u v q hn hu hv hl m i j hm hi hj
    have e0 : wrap64 (m - i) = (p.length : Int) := by rw [wrap64_id (by omega) (by omega)]; omega
    refine Ev.succ ?_
    simp only [zRot.l0, e0]
    clear e0
    by_cases c1 : i = j
    · have hs := swp_ev p u [] v q (p.length : Int) m i hi (by omega) rfl (by simpa using hm) (by simp only [List.length_nil]; omega)
      simp only [List.append_nil] at hs
      exact Ev.pos c1 (Ev.bind hs (Ev.now _))
    · refine Ev.neg c1 ?_
      by_cases c2 : i > j
      · refine Ev.pos c2 ?_
        have hu1 : (u.take v.length).length = v.length := by rw [List.length_take]; omega
        have hu2 : (u.drop v.length).length = u.length - v.length := List.length_drop
        have hsp := List.take_append_drop v.length u
        generalize u.take v.length = u1 at hu1 hsp
        generalize u.drop v.length = u2 at hu2 hsp
        subst hsp
        rw [List.length_append] at hn hu hl hm hi hu2
        have hs := swp_ev p u1 u2 v q (p.length : Int) m j (by omega) hj rfl (by omega) (by omega)
        rw [show p ++ (u1 ++ u2) ++ v ++ q = p ++ u1 ++ u2 ++ v ++ q by simp]
        refine Ev.bind hs ?_
        have e1 : wrap64 (i - j) = i - j := wrap64_id (by omega) (by omega)
        rw [e1]
        clear e1
        have := ih (u2.length + u1.length) (by omega) (p ++ v) u2 u1 q rfl (by omega) (by omega) (by rw [List.length_append]; omega) m (i - j) j (by rw [List.length_append]; omega) (by omega) (by omega)
        refine Ev.eqr this (by simp)
      · refine Ev.neg c2 ?_
        have e1 : wrap64 (wrap64 (m + j) - i) = m + j - i := by rw [wrap64_id (n := m + j) (by omega) (by omega), wrap64_id (by omega) (by omega)]
        have e2 : wrap64 (j - i) = j - i := wrap64_id (by omega) (by omega)
        rw [e1, e2]
        clear e1 e2
        have hv2 : (v.drop (v.length - u.length)).length = u.length := by rw [List.length_drop]; omega
        have hv1 : (v.take (v.length - u.length)).length = v.length - u.length := by rw [List.length_take]; omega
        have hsp := List.take_append_drop (v.length - u.length) v
        generalize v.take (v.length - u.length) = v1 at hv1 hsp
        generalize v.drop (v.length - u.length) = v2 at hv2 hsp
        subst hsp
        rw [List.length_append] at hn hv hl hj hv1
        have hs := swp_ev p u v1 v2 q (p.length : Int) (m + j - i) i hi (by omega) rfl (by omega) (by omega)
        rw [show p ++ u ++ (v1 ++ v2) ++ q = p ++ u ++ v1 ++ v2 ++ q by simp]
        refine Ev.bind hs ?_
        have := ih (v2.length + v1.length) (by omega) p v2 v1 (u ++ q) rfl (by omega) (by omega) (by rw [List.length_append]; omega) m i (j - i) (by omega) (by omega) (by omega)
        rw [show p ++ v2 ++ v1 ++ u ++ q = p ++ v2 ++ v1 ++ (u ++ q) by simp]
        refine Ev.eqr this (by simp)
theorem rot_ev (p u v q : List Sq) (hu : 1 ≤ u.length) (hv : 1 ≤ v.length) (hl : p.length + u.length + v.length + q.length ≤ 1099511627776) (a m b : Int) (ha : a = p.length) (hm : m = p.length + u.length) (hb : b = p.length + u.length + v.length) :
    Ev (fun k => zRot.f k (p ++ u ++ v ++ q) a m b) (p ++ v ++ u ++ q) := by
  unfold zRot.f
  have e1 : wrap64 (m - a) = m - a := wrap64_id (by omega) (by omega)
  have e2 : wrap64 (b - m) = b - m := wrap64_id (by omega) (by omega)
  rw [e1, e2]
  clear e1 e2
  exact rot_loop _ p u v q rfl hu hv hl m (m - a) (b - m) hm (by omega) (by omega)

/-! ### the stable sort: two neighbouring parts are merged -/
theorem at_u (p u v q : List Sq) (i : Nat) (h : i < u.length) : sqAt (p ++ u ++ v ++ q) (p.length + i) = sqAt u i := by
  rw [sqAt_get _ _ (by simp; omega), sqAt_get _ _ h]
  rw [List.getElem_append_left (by simp; omega), List.getElem_append_left (by simp; omega), List.getElem_append_right (by omega)]
  congr 1; omega
theorem at_v (p u v q : List Sq) (j : Nat) (h : j < v.length) : sqAt (p ++ u ++ v ++ q) (p.length + u.length + j) = sqAt v j := by
  have := at_u (p ++ u) v [] q j h
  rw [List.append_nil, List.length_append] at this
  exact this
theorem lep_of {a b : Sq} (ha : BdS a) (hb : BdS b) (h : ¬ cmpV b a < 0) : LeP a b := fun k => h ((cmpV_lt hb ha).2 k)
theorem lep_of' {a b : Sq} (ha : BdS a) (hb : BdS b) (h : cmpV a b < 0) : LeP a b := LeP.of_less ((cmpV_lt ha hb).1 h)
theorem half2 (a b : Nat) (h : a + b ≤ 1099511627776) : wrap64 ((IntKind.u64.wrap (wrap64 ((a : Int) + (b : Int)))) / 2) = (((a + b) / 2 : Nat) : Int) := by
  rw [half_eq _ (by omega) (by omega)]; omega
theorem sm_l4 (x : List Sq) (hx : x.length ≤ 1099511627) (a m b mid n : Nat) (hn : n ≤ 4 * x.length) : ∀ (d s r : Nat), r - s ≤ d → s ≤ r → r ≤ x.length → (∀ c, s ≤ c → c < r → c + 1 ≤ n ∧ n - 1 - c < x.length) →
    ∃ t, s ≤ t ∧ t ≤ r ∧ (t = s ∨ ¬ cmpV (sqAt x (n - t)) (sqAt x (t - 1)) < 0) ∧ (t = r ∨ cmpV (sqAt x (n - 1 - t)) (sqAt x t) < 0) ∧
      ∀ R, Ev (fun k => if (t : Int) < (m : Int) then zSym.j6 k x a m b mid t (wrap64 ((n : Int) - (t : Int))) (decide ((m : Int) < wrap64 ((n : Int) - (t : Int)))) else zSym.j6 k x a m b mid t (wrap64 ((n : Int) - (t : Int))) false) R →
        Ev (fun k => zSym.l4 k x a m b mid n s r ((n : Int) - 1)) R := by
  intro d
  induction d with
  | zero =>
    intro s r hd hs hr hc
    obtain rfl : s = r := by omega
    refine ⟨s, Nat.le_refl _, Nat.le_refl _, Or.inl rfl, Or.inl rfl, fun R hR => Ev.succ ?_⟩
    simp only [zSym.l4]
    exact Ev.neg (by omega) hR
  | succ d ih =>
    intro s r hd hs hr hc
    by_cases e : s = r
    · subst e
      refine ⟨s, Nat.le_refl _, Nat.le_refl _, Or.inl rfl, Or.inl rfl, fun R hR => Ev.succ ?_⟩
      simp only [zSym.l4]
      exact Ev.neg (by omega) hR
    · have hc1 : s ≤ (s + r) / 2 := by omega
      have hc2 : (s + r) / 2 < r := by omega
      obtain ⟨hb1, hb2⟩ := hc _ hc1 hc2
      obtain ⟨c, hce⟩ : ∃ c, c = (s + r) / 2 := ⟨_, rfl⟩
      rw [← hce] at hc1 hc2 hb1 hb2
      by_cases hP : cmpV (sqAt x (n - 1 - c)) (sqAt x c) < 0
      · obtain ⟨t, h1, h2, h3, h4, h5⟩ := ih s c (by omega) hc1 (by omega) (fun z z1 z2 => hc z z1 (by omega))
        refine ⟨t, h1, by omega, h3, ?_, fun R hR => Ev.succ ?_⟩
        · rcases h4 with h4 | h4
          · right; rw [h4]; exact hP
          · exact Or.inr h4
        · have e1 := half2 s r (by omega)
          rw [← hce] at e1
          have e2 : wrap64 ((n : Int) - 1 - (c : Int)) = ((n - 1 - c : Nat) : Int) := by clear e1; rw [wrap64_id (by omega) (by omega)]; omega
          have e3 : wrap64 ((c : Int) + 1) = ((c + 1 : Nat) : Int) := by clear e1 e2; rw [wrap64_id (by omega) (by omega)]; omega
          simp only [zSym.l4, e1, e2, e3, rd_sq, cmp_eq, Option.bind_some]
          clear e1 e2 e3
          exact Ev.pos (by omega) (Ev.pos (by omega) (Ev.pos (by omega) (Ev.pos (by omega) (Ev.pos (by omega) (Ev.pos hP (h5 R hR))))))
      · obtain ⟨t, h1, h2, h3, h4, h5⟩ := ih (c + 1) r (by omega) (by omega) hr (fun z z1 z2 => hc z (by omega) z2)
        refine ⟨t, by omega, h2, ?_, h4, fun R hR => Ev.succ ?_⟩
        · rcases h3 with h3 | h3
          · right; rw [h3, Nat.add_sub_cancel]
            rw [show n - (c + 1) = n - 1 - c by omega]; exact hP
          · exact Or.inr h3
        · have e1 := half2 s r (by omega)
          rw [← hce] at e1
          have e2 : wrap64 ((n : Int) - 1 - (c : Int)) = ((n - 1 - c : Nat) : Int) := by clear e1; rw [wrap64_id (by omega) (by omega)]; omega
          have e3 : wrap64 ((c : Int) + 1) = ((c + 1 : Nat) : Int) := by clear e1 e2; rw [wrap64_id (by omega) (by omega)]; omega
          simp only [zSym.l4, e1, e2, e3, rd_sq, cmp_eq, Option.bind_some]
          clear e1 e2 e3
          exact Ev.pos (by omega) (Ev.pos (by omega) (Ev.pos (by omega) (Ev.pos (by omega) (Ev.pos (by omega) (Ev.neg hP (h5 R hR))))))
theorem sm_l0 (x : List Sq) (hx : x.length ≤ 1099511627) (a : Nat) (ha : a < x.length) : ∀ (d s r : Nat), r - s ≤ d → s ≤ r → r ≤ x.length →
    ∃ t, s ≤ t ∧ t ≤ r ∧ (t = s ∨ cmpV (sqAt x (t - 1)) (sqAt x a) < 0) ∧ (t = r ∨ ¬ cmpV (sqAt x t) (sqAt x a) < 0) ∧
      ∀ R, Ev (fun k => zSym.l1 k x t a) R → Ev (fun k => zSym.l0 k x a s r) R := by
  intro d
  induction d with
  | zero =>
    intro s r hd hs hr
    obtain rfl : s = r := by omega
    refine ⟨s, Nat.le_refl _, Nat.le_refl _, Or.inl rfl, Or.inl rfl, fun R hR => Ev.succ ?_⟩
    simp only [zSym.l0]
    exact Ev.neg (by omega) hR
  | succ d ih =>
    intro s r hd hs hr
    by_cases e : s = r
    · subst e
      refine ⟨s, Nat.le_refl _, Nat.le_refl _, Or.inl rfl, Or.inl rfl, fun R hR => Ev.succ ?_⟩
      simp only [zSym.l0]
      exact Ev.neg (by omega) hR
    · have hc1 : s ≤ (s + r) / 2 := by omega
      have hc2 : (s + r) / 2 < r := by omega
      obtain ⟨c, hce⟩ : ∃ c, c = (s + r) / 2 := ⟨_, rfl⟩
      rw [← hce] at hc1 hc2
      by_cases hP : cmpV (sqAt x c) (sqAt x a) < 0
      · obtain ⟨t, h1, h2, h3, h4, h5⟩ := ih (c + 1) r (by omega) (by omega) hr
        refine ⟨t, by omega, h2, ?_, h4, fun R hR => Ev.succ ?_⟩
        · rcases h3 with h3 | h3
          · right; rw [h3, Nat.add_sub_cancel]; exact hP
          · exact Or.inr h3
        · have e1 := half2 s r (by omega)
          rw [← hce] at e1
          have e3 : wrap64 ((c : Int) + 1) = ((c + 1 : Nat) : Int) := by clear e1; rw [wrap64_id (by omega) (by omega)]; omega
          simp only [zSym.l0, e1, e3, rd_sq, cmp_eq, Option.bind_some]
          clear e1 e3
          exact Ev.pos (by omega) (Ev.pos (by omega) (Ev.pos (by omega) (Ev.pos (by omega) (Ev.pos (by omega) (Ev.pos hP (h5 R hR))))))
      · obtain ⟨t, h1, h2, h3, h4, h5⟩ := ih s c (by omega) hc1 (by omega)
        refine ⟨t, h1, by omega, h3, ?_, fun R hR => Ev.succ ?_⟩
        · rcases h4 with h4 | h4
          · right; rw [h4]; exact hP
          · exact Or.inr h4
        · have e1 := half2 s r (by omega)
          rw [← hce] at e1
          have e3 : wrap64 ((c : Int) + 1) = ((c + 1 : Nat) : Int) := by clear e1; rw [wrap64_id (by omega) (by omega)]; omega
          simp only [zSym.l0, e1, e3, rd_sq, cmp_eq, Option.bind_some]
          clear e1 e3
          exact Ev.pos (by omega) (Ev.pos (by omega) (Ev.pos (by omega) (Ev.pos (by omega) (Ev.pos (by omega) (Ev.neg hP (h5 R hR))))))
theorem sm_l2 (x : List Sq) (hx : x.length ≤ 1099511627) (m : Nat) (hm : m < x.length) : ∀ (d s r : Nat), r - s ≤ d → s ≤ r → r ≤ x.length →
    ∃ t, s ≤ t ∧ t ≤ r ∧ (t = s ∨ ¬ cmpV (sqAt x m) (sqAt x (t - 1)) < 0) ∧ (t = r ∨ cmpV (sqAt x m) (sqAt x t) < 0) ∧
      ∀ R, Ev (fun k => zSym.l3 k x t m) R → Ev (fun k => zSym.l2 k x m s r) R := by
  intro d
  induction d with
  | zero =>
    intro s r hd hs hr
    obtain rfl : s = r := by omega
    refine ⟨s, Nat.le_refl _, Nat.le_refl _, Or.inl rfl, Or.inl rfl, fun R hR => Ev.succ ?_⟩
    simp only [zSym.l2]
    exact Ev.neg (by omega) hR
  | succ d ih =>
    intro s r hd hs hr
    by_cases e : s = r
    · subst e
      refine ⟨s, Nat.le_refl _, Nat.le_refl _, Or.inl rfl, Or.inl rfl, fun R hR => Ev.succ ?_⟩
      simp only [zSym.l2]
      exact Ev.neg (by omega) hR
    · have hc1 : s ≤ (s + r) / 2 := by omega
      have hc2 : (s + r) / 2 < r := by omega
      obtain ⟨c, hce⟩ : ∃ c, c = (s + r) / 2 := ⟨_, rfl⟩
      rw [← hce] at hc1 hc2
      by_cases hP : cmpV (sqAt x m) (sqAt x c) < 0
      · obtain ⟨t, h1, h2, h3, h4, h5⟩ := ih s c (by omega) hc1 (by omega)
        refine ⟨t, h1, by omega, h3, ?_, fun R hR => Ev.succ ?_⟩
        · rcases h4 with h4 | h4
          · right; rw [h4]; exact hP
          · exact Or.inr h4
        · have e1 := half2 s r (by omega)
          rw [← hce] at e1
          have e3 : wrap64 ((c : Int) + 1) = ((c + 1 : Nat) : Int) := by clear e1; rw [wrap64_id (by omega) (by omega)]; omega
          simp only [zSym.l2, e1, e3, rd_sq, cmp_eq, Option.bind_some]
          clear e1 e3
          exact Ev.pos (by omega) (Ev.pos (by omega) (Ev.pos (by omega) (Ev.pos (by omega) (Ev.pos (by omega) (Ev.pos hP (h5 R hR))))))
      · obtain ⟨t, h1, h2, h3, h4, h5⟩ := ih (c + 1) r (by omega) (by omega) hr
        refine ⟨t, by omega, h2, ?_, h4, fun R hR => Ev.succ ?_⟩
        · rcases h3 with h3 | h3
          · right; rw [h3, Nat.add_sub_cancel]; exact hP
          · exact Or.inr h3
        · have e1 := half2 s r (by omega)
          rw [← hce] at e1
          have e3 : wrap64 ((c : Int) + 1) = ((c + 1 : Nat) : Int) := by clear e1; rw [wrap64_id (by omega) (by omega)]; omega
          simp only [zSym.l2, e1, e3, rd_sq, cmp_eq, Option.bind_some]
          clear e1 e3
          exact Ev.pos (by omega) (Ev.pos (by omega) (Ev.pos (by omega) (Ev.pos (by omega) (Ev.pos (by omega) (Ev.neg hP (h5 R hR))))))
/-- one goes right past the neighbours -/
theorem sm_l1 (s : Sq) : ∀ (v1 p w : List Sq) (t a : Int), t = p.length + 1 + v1.length → a = p.length → p.length + v1.length + w.length ≤ 1099511627 →
    Ev (fun k => zSym.l1 k (p ++ s :: (v1 ++ w)) t a) (p ++ (v1 ++ s :: w))
  | [], p, w, t, a, ht, ha, hl => by
    simp only [List.length_nil] at ht
    refine Ev.succ ?_
    simp only [zSym.l1]
    exact Ev.neg (by rw [wrap64_id (by omega) (by omega)]; omega) (Ev.now _)
  | z :: v1, p, w, t, a, ht, ha, hl => by
    simp only [List.length_cons] at ht hl
    have ih := sm_l1 s v1 (p ++ [z]) w t (a + 1) (by rw [List.length_append, List.length_singleton]; omega) (by rw [List.length_append, List.length_singleton]; omega) (by rw [List.length_append, List.length_singleton]; omega)
    have hlen : (p ++ s :: (z :: v1 ++ w)).length = p.length + (v1.length + w.length + 2) := by simp
    have sw := swap_app p [] (v1 ++ w) s z p.length (p.length + 1) rfl (by simp)
    simp only [List.nil_append] at sw
    have e1 : wrap64 (a + 1) = ((p.length + 1 : Nat) : Int) := by rw [wrap64_id (by omega) (by omega)]; omega
    refine Ev.succ ?_
    simp only [zSym.l1, e1]
    clear e1
    refine Ev.pos (by rw [wrap64_id (by omega) (by omega)]; omega) (Ev.pos (by omega) (Ev.pos (by omega) (Ev.pos (by omega) (Ev.pos (by omega) ?_))))
    rw [ha]
    simp only [rd_sq, sq_eta, Int.toNat_natCast]
    rw [show p ++ s :: (z :: v1 ++ w) = p ++ s :: z :: (v1 ++ w) by simp, sw]
    rw [show p ++ [z] ++ s :: (v1 ++ w) = p ++ z :: s :: (v1 ++ w) by simp] at ih
    rw [show a + 1 = ((p.length + 1 : Nat) : Int) by omega] at ih
    refine Ev.eqr ih ?_
    simp
/-- one goes left past the neighbours -/
theorem sm_l3 (y : Sq) : ∀ (n : Nat) (u2 p w : List Sq), u2.length = n → ∀ (t a : Int), t = p.length → a = p.length + u2.length → p.length + u2.length + w.length ≤ 1099511627 →
    Ev (fun k => zSym.l3 k (p ++ u2 ++ y :: w) t a) (p ++ (y :: u2) ++ w)
  | 0, u2, p, w, hn, t, a, ht, ha, hl => by
    obtain rfl := List.length_eq_zero_iff.1 hn
    simp only [List.length_nil] at ha
    refine Ev.succ ?_
    simp only [zSym.l3]
    exact Ev.neg (by omega) (Ev.eqr (Ev.now _) (by simp))
  | n + 1, u2, p, w, hn, t, a, ht, ha, hl => by
    obtain ⟨u3, z, rfl⟩ : ∃ u3 z, u2 = u3 ++ [z] := ⟨u2.dropLast, u2.getLast (by intro e; rw [e] at hn; simp at hn), (List.dropLast_concat_getLast _).symm⟩
    simp only [List.length_append, List.length_singleton] at hn ha hl
    have ih := sm_l3 y n u3 p (z :: w) (by omega) t (a - 1) ht (by omega) (by rw [List.length_cons]; omega)
    have hlen : (p ++ (u3 ++ [z]) ++ y :: w).length = p.length + u3.length + w.length + 2 := by simp; omega
    have sw := swap_app (p ++ u3) [] w z y (p.length + u3.length) (p.length + u3.length + 1) (by simp) (by simp)
    simp only [List.nil_append] at sw
    have h0 : z = z := rfl
    have e1 : wrap64 (a - 1) = ((p.length + u3.length : Nat) : Int) := by rw [wrap64_id (by omega) (by omega)]; omega
    refine Ev.succ ?_
    simp only [zSym.l3, e1]
    clear e1
    refine Ev.pos (by omega) (Ev.pos (by omega) (Ev.pos (by omega) (Ev.pos (by omega) (Ev.pos (by omega) ?_))))
    rw [show a = ((p.length + u3.length + 1 : Nat) : Int) by omega]
    simp only [rd_sq, sq_eta, Int.toNat_natCast]
    have comm : ∀ (l : List Sq) (i j : Nat) (x' y' : Sq), i ≠ j → (l.set i x').set j y' = (l.set j y').set i x' := fun l i j x' y' h => List.set_comm x' y' h
    rw [comm _ _ _ _ _ (by omega), show p ++ (u3 ++ [z]) ++ y :: w = (p ++ u3) ++ z :: y :: w by simp, sw]
    rw [show p ++ u3 ++ y :: (z :: w) = (p ++ u3) ++ y :: z :: w by simp, show a - 1 = ((p.length + u3.length : Nat) : Int) by omega] at ih
    refine Ev.eqr ih ?_
    simp
theorem mem_sqAt {l : List Sq} {a : Sq} (h : a ∈ l) : ∃ i, i < l.length ∧ a = sqAt l i := by
  obtain ⟨i, hi, rfl⟩ := List.mem_iff_getElem.1 h
  exact ⟨i, hi, (sqAt_get l i hi).symm⟩
def Bds (l : List Sq) : Prop := ∀ s ∈ l, BdS s
theorem bds_at {l : List Sq} (h : Bds l) {i : Nat} (hi : i < l.length) : BdS (sqAt l i) := h _ (sqAt_mem l i hi)
theorem sm_one_u (p : List Sq) (s : Sq) (v q : List Sq) (hl : p.length + 1 + v.length + q.length ≤ 1099511627) (a m b : Int) (ha : a = p.length) (hm : m = p.length + 1) (hb : b = p.length + 1 + v.length) :
    ∃ r, r.Perm ([s] ++ v) ∧ (Bds ([s] ++ v) → v.Pairwise LeP → r.Pairwise LeP) ∧ Ev (fun k => zSym.l0 k (p ++ [s] ++ v ++ q) a m b) (p ++ r ++ q) := by
  have hxl : (p ++ [s] ++ v ++ q).length = p.length + 1 + v.length + q.length := by simp; omega
  obtain ⟨t, h1, h2, h3, h4, h5⟩ := sm_l0 (p ++ [s] ++ v ++ q) (by omega) p.length (by omega) v.length (p.length + 1) (p.length + 1 + v.length) (by omega) (by omega) (by omega)
  obtain ⟨j, rfl⟩ : ∃ j, t = p.length + 1 + j := ⟨t - (p.length + 1), by omega⟩
  have hj : j ≤ v.length := by omega
  have a0 : sqAt (p ++ [s] ++ v ++ q) p.length = s := by simp [sqAt]
  rw [a0] at h3 h4
  have av : ∀ i, i < v.length → sqAt (p ++ [s] ++ v ++ q) (p.length + 1 + i) = sqAt v i := fun i hi => by have := at_v p [s] v q i hi; simpa using this
  refine ⟨v.take j ++ s :: v.drop j, ?_, fun hB hs => ?_, ?_⟩
  · have := List.perm_middle (l₁ := v.take j) (a := s) (l₂ := v.drop j)
    rw [List.take_append_drop] at this
    exact this
  · have Bs : BdS s := hB s (by simp)
    have Bv : Bds v := fun z hz => hB z (by simp [hz])
    refine List.pairwise_append.2 ⟨hs.sublist (List.take_sublist _ _), List.pairwise_cons.2 ⟨fun z hz => ?_, hs.sublist (List.drop_sublist _ _)⟩, fun y hy z hz => ?_⟩
    · obtain ⟨i, hi1, hi2, rfl⟩ := mem_drop_at hz
      rcases h4 with h4 | h4
      · omega
      · rw [av j (by omega)] at h4
        exact LeP.trans (lep_of Bs (bds_at Bv (by omega)) h4) (sorted_at hs hi1 hi2)
    · have ys : LeP y s := by
        obtain ⟨i, hi, rfl⟩ := mem_take_at hj hy
        rcases h3 with h3 | h3
        · omega
        · rw [show p.length + 1 + j - 1 = p.length + 1 + (j - 1) by omega, av (j - 1) (by omega)] at h3
          exact LeP.trans (sorted_at hs (by omega) (by omega)) (lep_of' (bds_at Bv (by omega)) Bs h3)
      rcases List.mem_cons.1 hz with rfl | hz
      · exact ys
      · obtain ⟨i, hi1, hi2, rfl⟩ := mem_drop_at hz
        rcases h4 with h4 | h4
        · omega
        · rw [av j (by omega)] at h4
          exact LeP.trans ys (LeP.trans (lep_of Bs (bds_at Bv (by omega)) h4) (sorted_at hs hi1 hi2))
  · rw [show a = ((p.length : Nat) : Int) by omega, show m = ((p.length + 1 : Nat) : Int) by omega, show b = ((p.length + 1 + v.length : Nat) : Int) by omega]
    refine h5 _ ?_
    have := sm_l1 s (v.take j) p (v.drop j ++ q) ((p.length + 1 + j : Nat) : Int) (p.length : Int) (by rw [List.length_take]; omega) rfl (by rw [List.length_take, List.length_append, List.length_drop]; omega)
    have e : p ++ s :: (v.take j ++ (v.drop j ++ q)) = p ++ [s] ++ v ++ q := by
      rw [← List.append_assoc (v.take j), List.take_append_drop]; simp
    rw [e] at this
    refine Ev.eqr this ?_
    simp
theorem sm_one_v (p u : List Sq) (y : Sq) (q : List Sq) (hl : p.length + u.length + 1 + q.length ≤ 1099511627) (a m : Int) (ha : a = p.length) (hm : m = p.length + u.length) :
    ∃ r, r.Perm (u ++ [y]) ∧ (Bds (u ++ [y]) → u.Pairwise LeP → r.Pairwise LeP) ∧ Ev (fun k => zSym.l2 k (p ++ u ++ [y] ++ q) m a m) (p ++ r ++ q) := by
  have hxl : (p ++ u ++ [y] ++ q).length = p.length + u.length + 1 + q.length := by simp; omega
  obtain ⟨t, h1, h2, h3, h4, h5⟩ := sm_l2 (p ++ u ++ [y] ++ q) (by omega) (p.length + u.length) (by omega) u.length p.length (p.length + u.length) (by omega) (by omega) (by omega)
  obtain ⟨j, rfl⟩ : ∃ j, t = p.length + j := ⟨t - p.length, by omega⟩
  have hj : j ≤ u.length := by omega
  have a0 : sqAt (p ++ u ++ [y] ++ q) (p.length + u.length) = y := by simp [sqAt]
  rw [a0] at h3 h4
  have au : ∀ i, i < u.length → sqAt (p ++ u ++ [y] ++ q) (p.length + i) = sqAt u i := fun i hi => at_u p u [y] q i hi
  refine ⟨u.take j ++ y :: u.drop j, ?_, fun hB hs => ?_, ?_⟩
  · have := List.perm_middle (l₁ := u.take j) (a := y) (l₂ := u.drop j)
    rw [List.take_append_drop] at this
    exact this.trans (List.perm_append_singleton y u).symm
  · have By : BdS y := hB y (by simp)
    have Bu : Bds u := fun z hz => hB z (by simp [hz])
    refine List.pairwise_append.2 ⟨hs.sublist (List.take_sublist _ _), List.pairwise_cons.2 ⟨fun z hz => ?_, hs.sublist (List.drop_sublist _ _)⟩, fun x hx z hz => ?_⟩
    · obtain ⟨i, hi1, hi2, rfl⟩ := mem_drop_at hz
      rcases h4 with h4 | h4
      · omega
      · rw [au j (by omega)] at h4
        exact LeP.trans (lep_of' By (bds_at Bu (by omega)) h4) (sorted_at hs hi1 hi2)
    · have xy : LeP x y := by
        obtain ⟨i, hi, rfl⟩ := mem_take_at hj hx
        rcases h3 with h3 | h3
        · omega
        · rw [show p.length + j - 1 = p.length + (j - 1) by omega, au (j - 1) (by omega)] at h3
          exact LeP.trans (sorted_at hs (by omega) (by omega)) (lep_of (bds_at Bu (by omega)) By h3)
      rcases List.mem_cons.1 hz with rfl | hz
      · exact xy
      · obtain ⟨i, hi1, hi2, rfl⟩ := mem_drop_at hz
        rcases h4 with h4 | h4
        · omega
        · rw [au j (by omega)] at h4
          exact LeP.trans xy (LeP.trans (lep_of' By (bds_at Bu (by omega)) h4) (sorted_at hs hi1 hi2))
  · rw [show a = ((p.length : Nat) : Int) by omega, show m = ((p.length + u.length : Nat) : Int) by omega]
    refine h5 _ ?_
    have := sm_l3 y (u.drop j).length (u.drop j) (p ++ u.take j) q rfl ((p.length + j : Nat) : Int) ((p.length + u.length : Nat) : Int) (by rw [List.length_append, List.length_take]; omega) (by rw [List.length_append, List.length_take, List.length_drop]; omega) (by rw [List.length_append, List.length_take, List.length_drop]; omega)
    have e : p ++ u.take j ++ u.drop j ++ y :: q = p ++ u ++ [y] ++ q := by
      rw [List.append_assoc p, List.take_append_drop]; simp
    rw [e] at this
    refine Ev.eqr this ?_
    simp
theorem merge_pw {u v r1 r2 : List Sq} (i j : Nat) (hi : i ≤ u.length) (hj : j ≤ v.length) (hsu : u.Pairwise LeP) (hsv : v.Pairwise LeP) (h1 : i = 0 ∨ j = v.length ∨ LeP (sqAt u (i - 1)) (sqAt v j)) (h2 : j = 0 ∨ i = u.length ∨ LeP (sqAt v (j - 1)) (sqAt u i))
    (p1 : r1.Perm (u.take i ++ v.take j)) (p2 : r2.Perm (u.drop i ++ v.drop j)) (q1 : r1.Pairwise LeP) (q2 : r2.Pairwise LeP) : (r1 ++ r2).Pairwise LeP := by
  have x12 : ∀ y ∈ u.take i, ∀ z ∈ v.drop j, LeP y z := by
    intro y hy z hz
    obtain ⟨a, ha, rfl⟩ := mem_take_at hi hy
    obtain ⟨c, hc1, hc2, rfl⟩ := mem_drop_at hz
    rcases h1 with h1 | h1 | h1
    · omega
    · omega
    · exact LeP.trans (sorted_at hsu (show a ≤ i - 1 by omega) (by omega)) (LeP.trans h1 (sorted_at hsv hc1 hc2))
  have x21 : ∀ y ∈ v.take j, ∀ z ∈ u.drop i, LeP y z := by
    intro y hy z hz
    obtain ⟨a, ha, rfl⟩ := mem_take_at hj hy
    obtain ⟨c, hc1, hc2, rfl⟩ := mem_drop_at hz
    rcases h2 with h2 | h2 | h2
    · omega
    · omega
    · exact LeP.trans (sorted_at hsv (show a ≤ j - 1 by omega) (by omega)) (LeP.trans h2 (sorted_at hsu hc1 hc2))
  have x11 : ∀ y ∈ u.take i, ∀ z ∈ u.drop i, LeP y z := by
    rw [← List.take_append_drop i u] at hsu
    exact (List.pairwise_append.1 hsu).2.2
  have x22 : ∀ y ∈ v.take j, ∀ z ∈ v.drop j, LeP y z := by
    rw [← List.take_append_drop j v] at hsv
    exact (List.pairwise_append.1 hsv).2.2
  refine List.pairwise_append.2 ⟨q1, q2, fun y hy z hz => ?_⟩
  rcases List.mem_append.1 (p1.mem_iff.1 hy) with hy | hy <;> rcases List.mem_append.1 (p2.mem_iff.1 hz) with hz | hz
  · exact x11 y hy z hz
  · exact x12 y hy z hz
  · exact x21 y hy z hz
  · exact x22 y hy z hz
theorem merge_perm {u v r1 r2 : List Sq} (i j : Nat) (p1 : r1.Perm (u.take i ++ v.take j)) (p2 : r2.Perm (u.drop i ++ v.drop j)) : (r1 ++ r2).Perm (u ++ v) := by
  refine (p1.append p2).trans ?_
  have : (u.take i ++ v.take j ++ (u.drop i ++ v.drop j)).Perm (u.take i ++ (u.drop i ++ (v.take j ++ v.drop j))) := by
    rw [List.append_assoc]
    refine List.Perm.append_left _ ?_
    rw [← List.append_assoc, ← List.append_assoc]
    exact List.perm_append_comm.append_right _
  rw [List.take_append_drop, ← List.append_assoc (List.take i u) (List.drop i u), List.take_append_drop] at this
  exact this
/-- what a merge of two neighbouring parts owes -/
def Mg (p u v q : List Sq) : Prop := ∀ (a m b : Int), a = p.length → m = p.length + u.length → b = p.length + u.length + v.length →
    ∃ r, r.Perm (u ++ v) ∧ (Bds (u ++ v) → u.Pairwise LeP → v.Pairwise LeP → r.Pairwise LeP) ∧ Ev (fun k => zSym.f k (p ++ u ++ v ++ q) a m b) (p ++ r ++ q)
/-- a part that may be one alone -/
theorem mg_opt (p u v q : List Sq) (h : 1 ≤ u.length → 1 ≤ v.length → Mg p u v q) (a m b : Nat) (ha : a = p.length) (hm : m = p.length + u.length) (hb : b = p.length + u.length + v.length) :
    ∃ r, r.Perm (u ++ v) ∧ (Bds (u ++ v) → u.Pairwise LeP → v.Pairwise LeP → r.Pairwise LeP) ∧ ((a < m ∧ m < b) → Ev (fun k => zSym.f k (p ++ u ++ v ++ q) a m b) (p ++ r ++ q)) ∧ (¬ (a < m ∧ m < b) → r = u ++ v) := by
  by_cases c : a < m ∧ m < b
  · obtain ⟨r, r1, r2, r3⟩ := h (by omega) (by omega) a m b (by omega) (by omega) (by omega)
    exact ⟨r, r1, r2, fun _ => r3, fun h => absurd c h⟩
  · refine ⟨u ++ v, List.Perm.refl _, fun _ h1 h2 => ?_, fun h => absurd h c, fun _ => rfl⟩
    rcases (by omega : u.length = 0 ∨ v.length = 0) with z | z
    · rw [List.length_eq_zero_iff.1 z]; exact h2
    · rw [List.length_eq_zero_iff.1 z, List.append_nil]; exact h1
/-- behind the search: rotate, merge left, merge right -/
theorem sm_behind (p u1 u2 v1 v2 q r1 r2 : List Sq) (A M B D t E : Nat) (hA : A = p.length) (ht : t = A + u1.length) (hM : M = t + u2.length) (hE : E = M + v1.length) (hB : B = E + v2.length) (hD : D = t + v1.length) (hl : B + q.length ≤ 1099511627)
    (w1 : (A < t ∧ t < D) → Ev (fun k => zSym.f k (p ++ u1 ++ v1 ++ (u2 ++ v2 ++ q)) A t D) (p ++ r1 ++ (u2 ++ v2 ++ q))) (n1 : ¬ (A < t ∧ t < D) → r1 = u1 ++ v1)
    (w2 : (D < E ∧ E < B) → Ev (fun k => zSym.f k (p ++ r1 ++ u2 ++ v2 ++ q) D E B) (p ++ r1 ++ r2 ++ q)) (n2 : ¬ (D < E ∧ E < B) → r2 = u2 ++ v2) :
    Ev (fun k => if (t : Int) < (M : Int) then zSym.j6 k (p ++ (u1 ++ u2) ++ (v1 ++ v2) ++ q) A M B D t E (decide ((M : Int) < E)) else zSym.j6 k (p ++ (u1 ++ u2) ++ (v1 ++ v2) ++ q) A M B D t E false) (p ++ (r1 ++ r2) ++ q) := by
  have hj7 : Ev (fun k => zSym.j7 k (p ++ u1 ++ v1 ++ u2 ++ v2 ++ q) A B D t E) (p ++ (r1 ++ r2) ++ q) := by
    refine Ev.succ ?_
    simp only [zSym.j7]
    have fin : ∀ L, L = p ++ r1 ++ u2 ++ v2 ++ q → Ev (fun k => if (D : Int) < (E : Int) then (if (E : Int) < (B : Int) then ((zSym.f k L D E B).bind fun t => some t) else some L) else some L) (p ++ (r1 ++ r2) ++ q) := by
      rintro L rfl
      by_cases c : D < E ∧ E < B
      · refine Ev.pos (by omega) (Ev.pos (by omega) (Ev.bind (w2 c) (Ev.eqr (Ev.now _) (by simp))))
      · have e : p ++ r1 ++ u2 ++ v2 ++ q = p ++ (r1 ++ r2) ++ q := by rw [n2 c]; simp
        by_cases c1 : (D : Int) < (E : Int)
        · exact Ev.pos c1 (Ev.neg (by omega) (Ev.eqr (Ev.now _) e))
        · exact Ev.neg c1 (Ev.eqr (Ev.now _) e)
    have j8 : ∀ bb : Bool, bb = decide (A < t ∧ t < D) → Ev (fun k => zSym.j8 k (p ++ u1 ++ v1 ++ u2 ++ v2 ++ q) A B D t E bb) (p ++ (r1 ++ r2) ++ q) := by
      rintro bb rfl
      refine Ev.succ ?_
      simp only [zSym.j8]
      by_cases c : A < t ∧ t < D
      · refine Ev.pos (decide_eq_true c) ?_
        rw [show p ++ u1 ++ v1 ++ u2 ++ v2 ++ q = p ++ u1 ++ v1 ++ (u2 ++ v2 ++ q) by simp]
        exact Ev.bind (w1 c) (fin _ (by simp))
      · refine Ev.neg (by simpa using c) (fin _ ?_)
        rw [n1 c]; simp
    by_cases c : (A : Int) < (t : Int)
    · refine Ev.pos c (j8 _ ?_)
      by_cases c2 : t < D
      · rw [decide_eq_true (show (t : Int) < (D : Int) by omega), decide_eq_true ⟨by omega, c2⟩]
      · rw [decide_eq_false (show ¬ (t : Int) < (D : Int) by omega), decide_eq_false (fun h => c2 h.2)]
    · refine Ev.neg c (j8 _ (decide_eq_false (fun h => c (by omega))).symm)
  have nr : ¬ (t < M ∧ M < E) → p ++ (u1 ++ u2) ++ (v1 ++ v2) ++ q = p ++ u1 ++ v1 ++ u2 ++ v2 ++ q := by
    intro c
    rcases (by omega : u2.length = 0 ∨ v1.length = 0) with z | z
    · rw [List.length_eq_zero_iff.1 z]; simp
    · rw [List.length_eq_zero_iff.1 z]; simp
  have j6 : ∀ bb : Bool, bb = decide (t < M ∧ M < E) → Ev (fun k => zSym.j6 k (p ++ (u1 ++ u2) ++ (v1 ++ v2) ++ q) A M B D t E bb) (p ++ (r1 ++ r2) ++ q) := by
    rintro bb rfl
    refine Ev.succ ?_
    simp only [zSym.j6]
    by_cases c : t < M ∧ M < E
    · refine Ev.pos (decide_eq_true c) ?_
      have hr := rot_ev (p ++ u1) u2 v1 (v2 ++ q) (by omega) (by omega) (by simp only [List.length_append]; omega) t M E (by simp only [List.length_append]; omega) (by simp only [List.length_append]; omega) (by simp only [List.length_append]; omega)
      rw [show p ++ u1 ++ u2 ++ v1 ++ (v2 ++ q) = p ++ (u1 ++ u2) ++ (v1 ++ v2) ++ q by simp, show p ++ u1 ++ v1 ++ u2 ++ (v2 ++ q) = p ++ u1 ++ v1 ++ u2 ++ v2 ++ q by simp] at hr
      exact Ev.bind hr hj7
    · refine Ev.neg (by simpa using c) ?_
      rw [nr c]
      exact hj7
  by_cases c : (t : Int) < (M : Int)
  · refine Ev.pos c (j6 _ ?_)
    by_cases c2 : M < E
    · rw [decide_eq_true (show (M : Int) < (E : Int) by omega), decide_eq_true ⟨by omega, c2⟩]
    · rw [decide_eq_false (show ¬ (M : Int) < (E : Int) by omega), decide_eq_false (fun h => c2 h.2)]
  · exact Ev.neg c (j6 _ (decide_eq_false (fun h => c (by omega))).symm)
set_option maxHeartbeats 2000000 in
theorem sm_tail (N : Nat) (ih : ∀ p u v q : List Sq, u.length + v.length < N → 1 ≤ u.length → 1 ≤ v.length → p.length + u.length + v.length + q.length ≤ 1099511627 → Mg p u v q) (p u v q : List Sq) (hN : u.length + v.length = N) (hu : 2 ≤ u.length) (hv : 2 ≤ v.length) (hl : p.length + u.length + v.length + q.length ≤ 1099511627)
    (A M B D : Nat) (hA : A = p.length) (hM : M = p.length + u.length) (hB : B = p.length + u.length + v.length) (hD : D = (A + B) / 2) (S T0 : Nat) (hST : S = A ∧ T0 = M ∧ M ≤ D ∨ S = D + M - B ∧ T0 = D ∧ D < M) :
    ∃ r, r.Perm (u ++ v) ∧ (Bds (u ++ v) → u.Pairwise LeP → v.Pairwise LeP → r.Pairwise LeP) ∧
        Ev (fun k => zSym.l4 k (p ++ u ++ v ++ q) A M B D ((D + M : Nat) : Int) S T0 (((D + M : Nat) : Int) - 1)) (p ++ r ++ q) := by
  have hxl : (p ++ u ++ v ++ q).length = p.length + u.length + v.length + q.length := by simp only [List.length_append]
  obtain ⟨t, t1, t2, t3, t4, t5⟩ := sm_l4 (p ++ u ++ v ++ q) (by omega) A M B D (D + M) (by omega) (T0 - S) S T0 (Nat.le_refl _) (by omega) (by omega) (fun c c1 c2 => by omega)
  obtain ⟨i, hi⟩ : ∃ i, t = A + i := ⟨t - A, by omega⟩
  obtain ⟨j, hj⟩ : ∃ j, D + M - t = M + j := ⟨D - t, by omega⟩
  have iu : i ≤ u.length := by omega
  have jv : j ≤ v.length := by omega
  have ij : i + j = D - A := by omega
  have lu1 : (u.take i).length = i := by rw [List.length_take]; omega
  have lu2 : (u.drop i).length = u.length - i := List.length_drop
  have lv1 : (v.take j).length = j := by rw [List.length_take]; omega
  have lv2 : (v.drop j).length = v.length - j := List.length_drop
  have k1 : i + j < N := by omega
  have k2 : u.length - i + (v.length - j) < N := by omega
  obtain ⟨r1, p1, s1, w1, n1⟩ := mg_opt p (u.take i) (v.take j) (u.drop i ++ v.drop j ++ q) (fun a b => ih _ _ _ _ (by omega) a b (by simp only [List.length_append, lu1, lu2, lv1, lv2]; omega)) A t D hA (by omega) (by omega)
  have lr1 : r1.length = i + j := by rw [p1.length_eq, List.length_append, lu1, lv1]
  obtain ⟨r2, p2, s2, w2, n2⟩ := mg_opt (p ++ r1) (u.drop i) (v.drop j) q (fun a b => ih _ _ _ _ (by omega) a b (by simp only [List.length_append, lu1, lu2, lv1, lv2]; omega)) D (M + j) B (by rw [List.length_append]; omega) (by rw [List.length_append]; omega) (by rw [List.length_append]; omega)
  refine ⟨r1 ++ r2, merge_perm i j p1 p2, fun hBd hsu hsv => ?_, t5 _ ?_⟩
  · have Bu : Bds u := fun z hz => hBd z (List.mem_append_left _ hz)
    have Bv : Bds v := fun z hz => hBd z (List.mem_append_right _ hz)
    have au : ∀ i, i < u.length → sqAt (p ++ u ++ v ++ q) (A + i) = sqAt u i := fun i hi => by rw [hA]; exact at_u p u v q i hi
    have av : ∀ i, i < v.length → sqAt (p ++ u ++ v ++ q) (M + i) = sqAt v i := fun i hi => by rw [hM]; exact at_v p u v q i hi
    refine merge_pw i j iu jv hsu hsv ?_ ?_ p1 p2 (s1 (fun z hz => ?_) (hsu.sublist (List.take_sublist _ _)) (hsv.sublist (List.take_sublist _ _))) (s2 (fun z hz => ?_) (hsu.sublist (List.drop_sublist _ _)) (hsv.sublist (List.drop_sublist _ _)))
    · by_cases c : i = 0
      · exact Or.inl c
      by_cases c2 : j = v.length
      · exact Or.inr (Or.inl c2)
      · rcases t3 with t3 | t3
        · omega
        · rw [hj, av j (by omega), show t - 1 = A + (i - 1) by omega, au _ (by omega)] at t3
          exact Or.inr (Or.inr (lep_of (bds_at Bu (by omega)) (bds_at Bv (by omega)) t3))
    · by_cases c : j = 0
      · exact Or.inl c
      by_cases c2 : i = u.length
      · exact Or.inr (Or.inl c2)
      · rcases t4 with t4 | t4
        · omega
        · rw [show D + M - 1 - t = M + (j - 1) by omega, av _ (by omega), hi, au _ (by omega)] at t4
          exact Or.inr (Or.inr (lep_of' (bds_at Bv (by omega)) (bds_at Bu (by omega)) t4))
    · rcases List.mem_append.1 hz with hz | hz
      · exact Bu z (List.mem_of_mem_take hz)
      · exact Bv z (List.mem_of_mem_take hz)
    · rcases List.mem_append.1 hz with hz | hz
      · exact Bu z (List.mem_of_mem_drop hz)
      · exact Bv z (List.mem_of_mem_drop hz)
  · rw [show wrap64 (((D + M : Nat) : Int) - (t : Int)) = ((M + j : Nat) : Int) by rw [wrap64_id (by omega) (by omega)]; omega]
    have := sm_behind p (u.take i) (u.drop i) (v.take j) (v.drop j) q r1 r2 A M B D t (M + j) hA (by omega) (by omega) (by omega) (by omega) (by omega) (by omega) w1 n1 w2 n2
    rw [List.take_append_drop, List.take_append_drop] at this
    exact this
theorem sm_ev : ∀ (N : Nat) (p u v q : List Sq), u.length + v.length = N → 1 ≤ u.length → 1 ≤ v.length → p.length + u.length + v.length + q.length ≤ 1099511627 → Mg p u v q := by
  intro N
  induction N using Nat.strongRecOn with
  | _ N ih =>
    intro p u v q hN hu hv hl a m b ha hm hb
    by_cases cu : u.length = 1
    · obtain ⟨s, rfl⟩ := List.length_eq_one_iff.1 cu
      obtain ⟨r, r1, r2, r3⟩ := sm_one_u p s v q (by simpa using hl) a m b ha (by simpa using hm) (by simpa using hb)
      refine ⟨r, r1, fun x _ y => r2 x y, Ev.succ ?_⟩
      simp only [zSym.f]
      exact Ev.pos (by rw [wrap64_id (by omega) (by omega)]; omega) r3
    by_cases cv : v.length = 1
    · obtain ⟨y, rfl⟩ := List.length_eq_one_iff.1 cv
      obtain ⟨r, r1, r2, r3⟩ := sm_one_v p u y q (by simpa using hl) a m ha hm
      refine ⟨r, r1, fun x z _ => r2 x z, Ev.succ ?_⟩
      simp only [zSym.f]
      exact Ev.neg (by rw [wrap64_id (by omega) (by omega)]; omega) (Ev.pos (by rw [wrap64_id (by omega) (by omega)]; omega) r3)
    obtain ⟨A, hA⟩ : ∃ A, A = p.length := ⟨_, rfl⟩
    obtain ⟨M, hM⟩ : ∃ M, M = p.length + u.length := ⟨_, rfl⟩
    obtain ⟨B, hB⟩ : ∃ B, B = p.length + u.length + v.length := ⟨_, rfl⟩
    obtain ⟨D, hD⟩ : ∃ D, D = (A + B) / 2 := ⟨_, rfl⟩
    have aA : a = (A : Int) := by omega
    have mM : m = (M : Int) := by omega
    have bB : b = (B : Int) := by omega
    have tail := sm_tail N (fun p u v q h1 h2 h3 h4 => ih _ h1 p u v q rfl h2 h3 h4) p u v q hN (by omega) (by omega) hl A M B D hA hM hB hD
    have j4 : ∀ (S T0 : Int) (R : List Sq), Ev (fun k => zSym.l4 k (p ++ u ++ v ++ q) A M B D ((D + M : Nat) : Int) S T0 (((D + M : Nat) : Int) - 1)) R → Ev (fun k => zSym.j4 k (p ++ u ++ v ++ q) A M B D ((D + M : Nat) : Int) S T0) R := by
      intro S T0 R h
      refine Ev.succ ?_
      simp only [zSym.j4]
      rw [wrap64_id (n := ((D + M : Nat) : Int) - 1) (by omega) (by omega)]
      exact h
    rw [aA, mM, bB]
    clear aA mM bB ih
    by_cases c : D < M
    · obtain ⟨r, h1, h2, h3⟩ := tail (D + M - B) D (Or.inr ⟨rfl, rfl, c⟩)
      clear tail
      refine ⟨r, h1, h2, Ev.succ ?_⟩
      have eh := half2 A B (by omega)
      rw [← hD] at eh
      have en : wrap64 ((D : Int) + (M : Int)) = ((D + M : Nat) : Int) := by clear eh; rw [wrap64_id (by omega) (by omega)]; omega
      have es : wrap64 (((D + M : Nat) : Int) - (B : Int)) = (((D + M : Nat) : Int) - (B : Int)) := by clear eh en; exact wrap64_id (by omega) (by omega)
      simp only [zSym.f, eh, en, es]
      clear eh en es
      refine Ev.neg (by rw [wrap64_id (by omega) (by omega)]; omega) (Ev.neg (by rw [wrap64_id (by omega) (by omega)]; omega) (Ev.pos (by omega) (j4 _ _ _ ?_)))
      rw [show ((D + M : Nat) : Int) - (B : Int) = ((D + M - B : Nat) : Int) by omega]
      exact h3
    · obtain ⟨r, h1, h2, h3⟩ := tail A M (Or.inl ⟨rfl, rfl, by omega⟩)
      clear tail
      refine ⟨r, h1, h2, Ev.succ ?_⟩
      have eh := half2 A B (by omega)
      rw [← hD] at eh
      have en : wrap64 ((D : Int) + (M : Int)) = ((D + M : Nat) : Int) := by clear eh; rw [wrap64_id (by omega) (by omega)]; omega
      simp only [zSym.f, eh, en]
      clear eh en
      exact Ev.neg (by rw [wrap64_id (by omega) (by omega)]; omega) (Ev.neg (by rw [wrap64_id (by omega) (by omega)]; omega) (Ev.neg (by omega) (j4 _ _ _ h3)))

/-! ### the stable sort: short parts by insertion, then merges -/
/-- what lies at j goes left past what is greater -/
theorem is_l1 (p rest : List Sq) (a b i : Int) (s : Sq) : ∀ (n : Nat) (d1 d2 : List Sq), d1.length = n → p.length + d1.length + d2.length + 1 + rest.length ≤ 1099511627 → a = p.length →
    ∃ d', d'.Perm (s :: (d1 ++ d2)) ∧ (Bds (s :: (d1 ++ d2)) → (d1 ++ d2).Pairwise LeP → (∀ z ∈ d2, LeP s z) → d'.Pairwise LeP) ∧
      ∀ R, Ev (fun k => zIns.l0 k (p ++ d' ++ rest) a b (wrap64 (i + 1))) R → Ev (fun k => zIns.l1 k (p ++ (d1 ++ s :: d2) ++ rest) a b i ((p.length + d1.length : Nat) : Int)) R
  | 0, d1, d2, hn, hl, ha => by
    obtain rfl := List.length_eq_zero_iff.1 hn
    refine ⟨s :: d2, List.Perm.refl _, fun _ h1 h2 => List.pairwise_cons.2 ⟨h2, h1⟩, fun R hR => Ev.succ ?_⟩
    simp only [zIns.l1]
    refine Ev.neg (by simp only [List.length_nil]; omega) ?_
    exact hR
  | n + 1, d1, d2, hn, hl, ha => by
    obtain ⟨d3, z, rfl⟩ : ∃ d3 z, d1 = d3 ++ [z] := ⟨d1.dropLast, d1.getLast (by intro e; rw [e] at hn; simp at hn), (List.dropLast_concat_getLast _).symm⟩
    simp only [List.length_append, List.length_singleton] at hn hl
    have hlen : (p ++ (d3 ++ [z] ++ s :: d2) ++ rest).length = p.length + d3.length + d2.length + 2 + rest.length := by simp; omega
    have e0 : p ++ (d3 ++ [z] ++ s :: d2) ++ rest = (p ++ d3) ++ z :: s :: (d2 ++ rest) := by simp
    have asx : sqAt ((p ++ d3) ++ z :: s :: (d2 ++ rest)) (p.length + d3.length + 1) = s := by
      rw [show (p ++ d3) ++ z :: s :: (d2 ++ rest) = (p ++ d3 ++ [z]) ++ s :: (d2 ++ rest) by simp]
      exact at_app _ _ _ _ (by simp; omega)
    have az : sqAt ((p ++ d3) ++ z :: s :: (d2 ++ rest)) (p.length + d3.length) = z := at_app _ _ _ _ (by simp)
    have sw := swap_app (p ++ d3) [] (d2 ++ rest) z s (p.length + d3.length) (p.length + d3.length + 1) (by simp) (by simp)
    simp only [List.nil_append] at sw
    rw [asx, az] at sw
    by_cases hP : cmpV s z < 0
    · obtain ⟨d', h1, h2, h3⟩ := is_l1 p rest a b i s n d3 (z :: d2) (by omega) (by rw [List.length_cons]; omega) ha
      refine ⟨d', ?_, fun hB hs hz => ?_, fun R hR => Ev.succ ?_⟩
      · rw [show d3 ++ [z] ++ d2 = d3 ++ z :: d2 by simp]; exact h1
      · rw [show d3 ++ [z] ++ d2 = d3 ++ z :: d2 by simp] at hB hs
        refine h2 hB hs (fun y hy => ?_)
        rcases List.mem_cons.1 hy with rfl | hy
        · exact lep_of' (hB s List.mem_cons_self) (hB y (by simp)) hP
        · exact hz y hy
      · have e1 : wrap64 (((p.length + (d3 ++ [z]).length : Nat) : Int) - 1) = ((p.length + d3.length : Nat) : Int) := by
          rw [List.length_append, List.length_singleton, wrap64_id (by omega) (by omega)]; omega
        simp only [zIns.l1, e1]
        clear e1
        rw [List.length_append, List.length_singleton, e0]
        rw [e0] at hlen
        simp only [rd_sq, cmp_eq, Option.bind_some, sq_eta, Int.toNat_natCast, ← Nat.add_assoc, asx, az]
        refine Ev.pos (by omega) (Ev.pos (by omega) (Ev.pos (by omega) (Ev.pos (by omega) (Ev.pos (by omega) (Ev.pos hP ?_)))))
        have comm : ∀ (l : List Sq) (i j : Nat) (x' y' : Sq), i ≠ j → (l.set i x').set j y' = (l.set j y').set i x' := fun l i j x' y' h => List.set_comm x' y' h
        rw [comm _ _ _ _ _ (by omega), sw]
        have := h3 R hR
        rw [show p ++ (d3 ++ s :: z :: d2) ++ rest = p ++ d3 ++ s :: z :: (d2 ++ rest) by simp] at this
        exact this
    · refine ⟨d3 ++ [z] ++ s :: d2, ?_, fun hB hs hz => ?_, fun R hR => Ev.succ ?_⟩
      · exact List.perm_middle
      · have hBz : BdS z := hB z (by simp)
        have hBs : BdS s := hB s List.mem_cons_self
        have zs : LeP z s := lep_of hBz hBs hP
        have hp := List.pairwise_append.1 hs
        refine List.pairwise_append.2 ⟨hp.1, List.pairwise_cons.2 ⟨hz, hp.2.1⟩, fun y hy w hw => ?_⟩
        have yz : LeP y z := by
          rcases List.mem_append.1 hy with hy | hy
          · exact (List.pairwise_append.1 hp.1).2.2 y hy z (by simp)
          · rw [List.mem_singleton.1 hy]; unfold LeP Less; omega
        rcases List.mem_cons.1 hw with rfl | hw
        · exact LeP.trans yz zs
        · exact hp.2.2 y hy w hw
      · have e1 : wrap64 (((p.length + (d3 ++ [z]).length : Nat) : Int) - 1) = ((p.length + d3.length : Nat) : Int) := by
          rw [List.length_append, List.length_singleton, wrap64_id (by omega) (by omega)]; omega
        simp only [zIns.l1, e1]
        clear e1
        rw [e0] at hR
        rw [List.length_append, List.length_singleton, e0]
        rw [e0] at hlen
        simp only [rd_sq, cmp_eq, Option.bind_some, sq_eta, Int.toNat_natCast, ← Nat.add_assoc, asx, az]
        exact Ev.pos (by omega) (Ev.pos (by omega) (Ev.pos (by omega) (Ev.pos (by omega) (Ev.pos (by omega) (Ev.neg hP hR)))))
theorem is_l0 (p rest : List Sq) (a b : Int) (ha : a = p.length) : ∀ (todo done : List Sq), p.length + done.length + todo.length + rest.length ≤ 1099511627 → b = p.length + done.length + todo.length →
    ∃ w, w.Perm (done ++ todo) ∧ (Bds (done ++ todo) → done.Pairwise LeP → w.Pairwise LeP) ∧ Ev (fun k => zIns.l0 k (p ++ done ++ (todo ++ rest)) a b ((p.length + done.length : Nat) : Int)) (p ++ w ++ rest)
  | [], done, hl, hb => by
    refine ⟨done, by simp, fun _ h => h, Ev.succ ?_⟩
    simp only [List.length_nil] at hb
    simp only [zIns.l0]
    exact Ev.neg (by omega) (Ev.eqr (Ev.now _) (by simp))
  | s :: todo, done, hl, hb => by
    simp only [List.length_cons] at hl hb
    obtain ⟨d', h1, h2, h3⟩ := is_l1 p (todo ++ rest) a b ((p.length + done.length : Nat) : Int) s done.length done [] rfl (by simp only [List.length_nil, List.length_append]; omega) ha
    rw [List.append_nil] at h1 h2
    have ld : d'.length = done.length + 1 := by rw [h1.length_eq, List.length_cons]
    obtain ⟨w, w1, w2, w3⟩ := is_l0 p rest a b ha todo d' (by omega) (by omega)
    refine ⟨w, ?_, fun hB hs => ?_, Ev.succ ?_⟩
    · refine w1.trans ((h1.append_right todo).trans ?_)
      exact List.perm_middle.symm
    · have hB' : Bds (s :: done) := fun z hz => hB z (by rcases List.mem_cons.1 hz with rfl | hz <;> simp [*])
      refine w2 (fun z hz => ?_) (h2 hB' hs (fun z hz => by cases hz))
      rcases List.mem_append.1 hz with hz | hz
      · exact hB' z (h1.mem_iff.1 hz)
      · exact hB z (by simp [hz])
    · simp only [zIns.l0]
      refine Ev.pos (by omega) ?_
      have := h3 _ (by
        rw [wrap64_id (n := ((p.length + done.length : Nat) : Int) + 1) (by omega) (by omega), show ((p.length + done.length : Nat) : Int) + 1 = ((p.length + d'.length : Nat) : Int) by omega]
        exact w3)
      rw [show p ++ (done ++ [s]) ++ (todo ++ rest) = p ++ done ++ (s :: todo ++ rest) by simp] at this
      exact this
theorem is_ev (p w rest : List Sq) (hl : p.length + w.length + rest.length ≤ 1099511627) (a b : Int) (ha : a = p.length) (hb : b = p.length + w.length) :
    ∃ r, r.Perm w ∧ (Bds w → r.Pairwise LeP) ∧ Ev (fun k => zIns.f k (p ++ w ++ rest) a b) (p ++ r ++ rest) := by
  unfold zIns.f
  cases w with
  | nil =>
    refine ⟨[], List.Perm.refl _, fun _ => List.Pairwise.nil, Ev.succ ?_⟩
    simp only [zIns.l0]
    simp only [List.length_nil] at hb
    exact Ev.neg (by rw [wrap64_id (by omega) (by omega)]; omega) (Ev.now _)
  | cons s t =>
    simp only [List.length_cons] at hl hb
    obtain ⟨r, r1, r2, r3⟩ := is_l0 p rest a b ha t [s] (by simp only [List.length_singleton]; omega) (by simp only [List.length_singleton]; omega)
    refine ⟨r, by simpa using r1, fun hB => r2 (by simpa using hB) (List.pairwise_singleton _ _), ?_⟩
    rw [wrap64_id (by omega) (by omega), show a + 1 = ((p.length + [s].length : Nat) : Int) by simp only [List.length_singleton]; omega]
    rw [show p ++ [s] ++ (t ++ rest) = p ++ (s :: t) ++ rest by simp] at r3
    exact r3
/-- parts of n, each in order; the last one may be shorter -/
inductive BS (n : Nat) : List Sq → Prop
  | last (l : List Sq) (h : l.length ≤ n) (s : l.Pairwise LeP) : BS n l
  | cons (u t : List Sq) (h : u.length = n) (s : u.Pairwise LeP) (k : BS n t) : BS n (u ++ t)
theorem bs_split {n : Nat} {l u t : List Sq} (hn : 1 ≤ n) (h : BS n l) (e : l = u ++ t) (hu : u.length = n) : u.Pairwise LeP ∧ BS n t := by
  cases h with
  | last _ h1 h2 =>
    have h1 : l.length ≤ n := h1
    have : t = [] := by
      have : (u ++ t).length ≤ n := by rw [← e]; exact h1
      rw [List.length_append] at this
      exact List.length_eq_zero_iff.1 (by omega)
    subst this
    rw [List.append_nil] at e
    subst e
    exact ⟨h2, BS.last [] (by simp) List.Pairwise.nil⟩
  | cons u' t' h1 h2 h3 =>
    obtain ⟨rfl, rfl⟩ := List.append_inj e (by omega)
    exact ⟨h2, h3⟩
theorem bs_short {n : Nat} {l : List Sq} (h : BS n l) (hl : l.length ≤ n) : l.Pairwise LeP := by
  cases h with
  | last _ _ h2 => exact h2
  | cons u t h1 h2 h3 =>
    have : t = [] := by rw [List.length_append] at hl; exact List.length_eq_zero_iff.1 (by omega)
    subst this; rw [List.append_nil]; exact h2
theorem bds_perm {a b : List Sq} (h : a.Perm b) (hb : Bds b) : Bds a := fun z hz => hb z (h.mem_iff.1 hz)
theorem bds_left {a b : List Sq} (h : Bds (a ++ b)) : Bds a := fun z hz => h z (List.mem_append_left _ hz)
theorem bds_right {a b : List Sq} (h : Bds (a ++ b)) : Bds b := fun z hz => h z (List.mem_append_right _ hz)
theorem st_l0 : ∀ (N : Nat) (done rest : List Sq), rest.length ≤ N → done.length + rest.length ≤ 536870912 →
    ∃ w, w.Perm rest ∧ (Bds rest → BS 20 w) ∧ ∀ R, Ev (fun k => zStb.l1 k (done ++ w) ((done.length + rest.length : Nat) : Int) 20) R →
      Ev (fun k => zStb.l0 k (done ++ rest) ((done.length + rest.length : Nat) : Int) 20 (done.length : Int) ((done.length : Int) + 20)) R := by
  intro N
  induction N with
  | zero =>
    intro done rest hN hl
    obtain rfl := List.length_eq_zero_iff.1 (show rest.length = 0 by omega)
    obtain ⟨r, r1, r2, r3⟩ := is_ev done [] [] (by simp; omega) (done.length : Int) ((done.length + 0 : Nat) : Int) rfl (by simp)
    obtain rfl := List.length_eq_zero_iff.1 (show r.length = 0 by rw [r1.length_eq]; rfl)
    refine ⟨[], List.Perm.refl _, fun _ => BS.last _ (by simp) List.Pairwise.nil, fun R hR => Ev.succ ?_⟩
    simp only [zStb.l0, List.length_nil]
    refine Ev.neg (by omega) (Ev.bind (by simpa using r3) ?_)
    simpa using hR
  | succ N ih =>
    intro done rest hN hl
    by_cases c : rest.length < 20
    · obtain ⟨r, r1, r2, r3⟩ := is_ev done rest [] (by simp; omega) (done.length : Int) ((done.length + rest.length : Nat) : Int) rfl (by omega)
      refine ⟨r, r1, fun hB => BS.last _ (by rw [r1.length_eq]; omega) (r2 hB), fun R hR => Ev.succ ?_⟩
      simp only [zStb.l0]
      simp only [List.append_nil] at r3
      exact Ev.neg (by omega) (Ev.bind r3 hR)
    · have hsp := List.take_append_drop 20 rest
      have lt : (rest.take 20).length = 20 := by rw [List.length_take]; omega
      have ld : (rest.drop 20).length = rest.length - 20 := List.length_drop
      generalize rest.take 20 = u at hsp lt
      generalize rest.drop 20 = t at hsp ld
      subst hsp
      rw [List.length_append] at ld hN hl c
      obtain ⟨r, r1, r2, r3⟩ := is_ev done u t (by omega) (done.length : Int) ((done.length : Int) + 20) rfl (by omega)
      have lr : r.length = 20 := by rw [r1.length_eq]; exact lt
      obtain ⟨w, w1, w2, w3⟩ := ih (done ++ r) t (by omega) (by rw [List.length_append]; omega)
      refine ⟨r ++ w, r1.append w1, fun hB => BS.cons r w lr (r2 (bds_left hB)) (w2 (bds_right hB)), fun R hR => Ev.succ ?_⟩
      have hlen : ((done ++ r).length + t.length : Nat) = done.length + (u ++ t).length := by rw [List.length_append, List.length_append]; omega
      rw [hlen] at w3
      simp only [zStb.l0]
      refine Ev.pos (by rw [List.length_append]; omega) ?_
      rw [show done ++ (u ++ t) = done ++ u ++ t by simp]
      refine Ev.bind r3 ?_
      rw [wrap64_id (n := (done.length : Int) + 20 + 20) (by omega) (by omega)]
      have := w3 R (by rw [show done ++ r ++ w = done ++ (r ++ w) by simp]; exact hR)
      rw [show (done ++ r).length = done.length + r.length from List.length_append, lr] at this
      rw [show ((done.length + 20 : Nat) : Int) = (done.length : Int) + 20 by omega] at this
      exact this
theorem st_l2 (bs : Nat) (hb : 1 ≤ bs ∧ bs ≤ 1073741824) : ∀ (N : Nat) (done rest : List Sq), rest.length ≤ N → done.length + rest.length ≤ 536870912 →
    ∃ w, w.Perm rest ∧ (Bds rest → BS bs rest → BS (2 * bs) w) ∧ ∀ R, Ev (fun k => zStb.l1 k (done ++ w) ((done.length + rest.length : Nat) : Int) ((2 * bs : Nat) : Int)) R →
      Ev (fun k => zStb.l2 k (done ++ rest) ((done.length + rest.length : Nat) : Int) (bs : Int) (done.length : Int) ((done.length + 2 * bs : Nat) : Int)) R := by
  intro N
  induction N with
  | zero =>
    intro done rest hN hl
    obtain rfl := List.length_eq_zero_iff.1 (show rest.length = 0 by omega)
    refine ⟨[], List.Perm.refl _, fun _ _ => BS.last _ (by simp) List.Pairwise.nil, fun R hR => Ev.succ ?_⟩
    simp only [zStb.l2]
    refine Ev.neg (by simp only [List.length_nil]; omega) (Ev.neg (by rw [wrap64_id (by omega) (by omega)]; simp only [List.length_nil]; omega) ?_)
    rw [wrap64_id (n := (bs : Int) * 2) (by omega) (by omega), show (bs : Int) * 2 = ((2 * bs : Nat) : Int) by omega]
    exact hR
  | succ N ih =>
    intro done rest hN hl
    by_cases c1 : rest.length ≤ bs
    · refine ⟨rest, List.Perm.refl _, fun _ h => BS.last _ (by omega) (bs_short h c1), fun R hR => Ev.succ ?_⟩
      simp only [zStb.l2]
      refine Ev.neg (by omega) (Ev.neg (by rw [wrap64_id (by omega) (by omega)]; omega) ?_)
      rw [wrap64_id (n := (bs : Int) * 2) (by omega) (by omega), show (bs : Int) * 2 = ((2 * bs : Nat) : Int) by omega]
      exact hR
    · have hsp := List.take_append_drop bs rest
      have lt : (rest.take bs).length = bs := by rw [List.length_take]; omega
      have ld : (rest.drop bs).length = rest.length - bs := List.length_drop
      generalize rest.take bs = u at hsp lt
      generalize rest.drop bs = t at hsp ld
      subst hsp
      rw [List.length_append] at ld hN hl c1
      by_cases c2 : t.length < bs
      · obtain ⟨r, r1, r2, r3⟩ := sm_ev _ done u t [] rfl (by omega) (by omega) (by simp only [List.length_nil]; omega) (done.length : Int) (wrap64 ((done.length : Int) + (bs : Int))) ((done.length + (u ++ t).length : Nat) : Int) rfl (by rw [wrap64_id (by omega) (by omega)]; omega) (by rw [List.length_append]; omega)
        refine ⟨r, r1, fun hB h => ?_, fun R hR => Ev.succ ?_⟩
        · obtain ⟨s1, s2⟩ := bs_split hb.1 h rfl lt
          exact BS.last _ (by rw [r1.length_eq, List.length_append]; omega) (r2 hB s1 (bs_short s2 (by omega)))
        · simp only [zStb.l2]
          simp only [List.append_nil] at r3
          rw [show done ++ u ++ t = done ++ (u ++ t) by simp] at r3
          refine Ev.neg (by rw [List.length_append]; omega) (Ev.pos (by rw [wrap64_id (by omega) (by omega), List.length_append]; omega) (Ev.bind r3 ?_))
          rw [wrap64_id (n := (bs : Int) * 2) (by omega) (by omega), show (bs : Int) * 2 = ((2 * bs : Nat) : Int) by omega]
          exact hR
      · have hsp2 := List.take_append_drop bs t
        have lt2 : (t.take bs).length = bs := by rw [List.length_take]; omega
        have ld2 : (t.drop bs).length = t.length - bs := List.length_drop
        generalize t.take bs = v at hsp2 lt2
        generalize t.drop bs = q at hsp2 ld2
        subst hsp2
        rw [List.length_append] at ld ld2 hN hl c1 c2
        obtain ⟨r, r1, r2, r3⟩ := sm_ev _ done u v q rfl (by omega) (by omega) (by omega) (done.length : Int) (wrap64 ((done.length : Int) + (bs : Int))) ((done.length + 2 * bs : Nat) : Int) rfl (by rw [wrap64_id (by omega) (by omega)]; omega) (by omega)
        have lr : r.length = 2 * bs := by rw [r1.length_eq, List.length_append]; omega
        obtain ⟨w, w1, w2, w3⟩ := ih (done ++ r) q (by omega) (by rw [List.length_append]; omega)
        refine ⟨r ++ w, ?_, fun hB h => ?_, fun R hR => Ev.succ ?_⟩
        · rw [← List.append_assoc]; exact r1.append w1
        · obtain ⟨s1, s2⟩ := bs_split hb.1 h rfl lt
          obtain ⟨s3, s4⟩ := bs_split hb.1 s2 rfl lt2
          rw [← List.append_assoc] at hB
          exact BS.cons r w lr (r2 (bds_left hB) s1 s3) (w2 (bds_right hB) s4)
        · have hlen : ((done ++ r).length + q.length : Nat) = done.length + (u ++ (v ++ q)).length := by rw [List.length_append, List.length_append, List.length_append]; omega
          rw [hlen] at w3
          simp only [zStb.l2]
          refine Ev.pos (by rw [List.length_append, List.length_append]; omega) ?_
          rw [show done ++ (u ++ (v ++ q)) = done ++ u ++ v ++ q by simp]
          refine Ev.bind r3 ?_
          rw [wrap64_id (n := 2 * (bs : Int)) (by omega) (by omega), wrap64_id (n := ((done.length + 2 * bs : Nat) : Int) + 2 * (bs : Int)) (by omega) (by omega)]
          have := w3 R (by rw [show done ++ r ++ w = done ++ (r ++ w) by simp]; exact hR)
          rw [show (done ++ r).length = done.length + r.length from List.length_append, lr] at this
          rw [show ((done.length + 2 * bs + 2 * bs : Nat) : Int) = ((done.length + 2 * bs : Nat) : Int) + 2 * (bs : Int) by omega] at this
          exact this
theorem st_l1 (n : Nat) (hn : n ≤ 536870912) : ∀ (d bs : Nat) (l : List Sq), n - bs ≤ d → 1 ≤ bs → bs ≤ 1073741824 → l.length = n →
    ∃ w, w.Perm l ∧ (Bds l → BS bs l → w.Pairwise LeP) ∧ Ev (fun k => zStb.l1 k l (n : Int) (bs : Int)) w := by
  intro d
  induction d with
  | zero =>
    intro bs l hd h1 h2 hl
    refine ⟨l, List.Perm.refl _, fun _ h => bs_short h (by omega), Ev.succ ?_⟩
    simp only [zStb.l1]
    exact Ev.neg (by omega) (Ev.now _)
  | succ d ih =>
    intro bs l hd h1 h2 hl
    by_cases c : bs < n
    · obtain ⟨w, w1, w2, w3⟩ := st_l2 bs ⟨h1, h2⟩ l.length [] l (Nat.le_refl _) (by simp; omega)
      obtain ⟨r, r1, r2, r3⟩ := ih (2 * bs) w (by omega) (by omega) (by omega) (by rw [w1.length_eq]; exact hl)
      refine ⟨r, r1.trans w1, fun hB h => r2 (bds_perm w1 hB) (w2 hB h), Ev.succ ?_⟩
      simp only [zStb.l1]
      refine Ev.pos (by omega) ?_
      rw [wrap64_id (n := 2 * (bs : Int)) (by omega) (by omega)]
      have := w3 r (by simp only [List.nil_append, List.length_nil, Nat.zero_add]; rw [hl]; exact r3)
      simp only [List.nil_append, List.length_nil, Nat.zero_add] at this
      rw [hl] at this
      rw [show ((2 * bs : Nat) : Int) = 2 * (bs : Int) by omega] at this
      exact this
    · refine ⟨l, List.Perm.refl _, fun _ h => bs_short h (by omega), Ev.succ ?_⟩
      simp only [zStb.l1]
      exact Ev.neg (by omega) (Ev.now _)
theorem stable_ev (l : List Sq) (hl : l.length ≤ 536870912) : ∃ r, r.Perm l ∧ (Bds l → r.Pairwise LeP) ∧ Ev (fun k => zSSF.f k l) r := by
  obtain ⟨w, w1, w2, w3⟩ := st_l0 l.length [] l (Nat.le_refl _) (by simp; omega)
  obtain ⟨r, r1, r2, r3⟩ := st_l1 l.length hl l.length 20 w (by omega) (by omega) (by omega) w1.length_eq
  refine ⟨r, r1.trans w1, fun hB => r2 (bds_perm w1 hB) (w2 hB), ?_⟩
  unfold zSSF.f zStb.f
  have := w3 r (by simpa using r3)
  simp only [List.nil_append, List.length_nil, Nat.zero_add] at this
  exact Ev.bind (by simpa using this) (Ev.now _)

/-! ### a cut of squares in whichever order: the program -/
noncomputable def srt (l : List Sq) : List Sq := l.mergeSort (fun a b => !decide (Less b a))
theorem srt_perm (l : List Sq) : (srt l).Perm l := List.mergeSort_perm l _
theorem srt_sorted (l : List Sq) : (srt l).Pairwise LeP := by
  have h := List.pairwise_mergeSort (le := fun a b : Sq => !decide (Less b a)) (fun a b c h1 h2 => by simp only [Bool.not_eq_true', decide_eq_false_iff_not] at *; exact LeP.trans (show LeP a b from h1) h2) (fun a b => by simp only [Bool.or_eq_true, Bool.not_eq_true', decide_eq_false_iff_not]; unfold Less; omega) l
  refine List.Pairwise.imp (fun {a b} h => ?_) h
  simpa [LeP] using h
theorem good_dist {W H : Int} {l : List Sq} (hg : Good W H l) : Dist l := by
  intro a ha b hb e0 e1
  have i1 := (hg.2.2.2.1)
  have g1 : ∀ s ∈ l, Ins W H s := fun s hs => by
    obtain ⟨j, hj, rfl⟩ := List.mem_iff_getElem.1 hs
    rw [← sqAt_get l j hj]; exact (i1 j hj).1
  obtain ⟨i, hi, rfl⟩ := List.mem_iff_getElem.1 ha
  obtain ⟨j, hj, rfl⟩ := List.mem_iff_getElem.1 hb
  have p1 := g1 _ ha
  have p2 := g1 _ hb
  rw [← sqAt_get l i hi] at p1 e0 e1 ⊢
  rw [← sqAt_get l j hj] at p2 e0 e1 ⊢
  have ov : Ovl (sqAt l i) (sqAt l j) := by unfold Ins at p1 p2; unfold Ovl; omega
  rcases Nat.lt_trichotomy i j with h | h | h
  · exact absurd (show Ovl (sqAt l j) (sqAt l i) from ⟨ov.2.1, ov.1, ov.2.2.2, ov.2.2.1⟩) ((i1 j hj).2.2 i h)
  · rw [h]
  · exact absurd ov ((i1 i hi).2.2 j h)
theorem good_bds {W H : Int} {l : List Sq} (hg : Good W H l) : Bds l := by
  intro s hs
  obtain ⟨j, hj, rfl⟩ := List.mem_iff_getElem.1 hs
  have := (hg.2.2.2.1 j hj).1
  rw [sqAt_get l j hj] at this
  have h1 := hg.1.2
  have h2 := hg.2.1.2
  unfold Ins at this
  unfold BdS
  omega
/-- the sorted list is a cut, or no list of these squares in order is one -/
theorem good_srt {W H : Int} {l r : List Sq} (hp : r.Perm l) (hs : r.Pairwise LeP) : (Good W H r ↔ Good W H (srt l)) ∧ (Good W H r → r = srt l) := by
  have e : Good W H r → r = srt l := fun hg => eq_of_sorted (fun a ha b hb => good_dist hg a (hp.mem_iff.2 ha) b (hp.mem_iff.2 hb)) hp (srt_perm l) hs (srt_sorted l)
  have e' : Good W H (srt l) → r = srt l := fun hg => eq_of_sorted (fun a ha b hb => good_dist hg a ((srt_perm l).mem_iff.2 ha) b ((srt_perm l).mem_iff.2 hb)) hp (srt_perm l) hs (srt_sorted l)
  exact ⟨⟨fun h => e h ▸ h, fun h => (e' h).symm ▸ h⟩, e⟩
open Classical in
noncomputable def cutOfV (W H : Int) (l : List Sq) : Int × Int × List Sq × Bool := if Good W H (srt l) then (W, H, srt l, true) else (0, 0, [], false)
theorem cutOfV_len (W H : Int) (l : List Sq) : (cutOfV W H l).2.2.1.length ≤ 30 := by
  unfold cutOfV; split
  · rename_i h; exact h.2.2.1.2
  · simp
theorem impl_cutOf_ev (W H : Int) (l : List Sq) (hl : l.length ≤ 536870912) : Ev (fun k => impl_cutOf.f k W H l) (cutOfV W H l) := by
  obtain ⟨r, hp, hs, hev⟩ := stable_ev l hl
  unfold impl_cutOf.f
  refine Ev.bindc (a := l) ?_ (Ev.bind hev (Ev.bind (impl_IsCut_ev W H r) ?_))
  · unfold impl_Square_163.f
    rw [Option.bind_some, if_pos (by simp; omega), List.nil_append]
  · unfold cutOfV
    by_cases hB : Bds l
    · obtain ⟨h1, h2⟩ := good_srt (W := W) (H := H) hp (hs hB)
      by_cases hg : Good W H r
      · rw [if_pos (h1.1 hg), h2 hg]
        rw [h2 hg] at hg
        exact Ev.pos (by simpa using hg) (Ev.now _)
      · rw [if_neg (fun h => hg (h1.2 h))]
        exact Ev.neg (by simpa using hg) (Ev.now _)
    · have n1 : ¬ Good W H r := fun h => hB (fun z hz => good_bds h z (hp.mem_iff.2 hz))
      have n2 : ¬ Good W H (srt l) := fun h => hB (fun z hz => good_bds h z ((srt_perm l).mem_iff.2 hz))
      rw [if_neg n2]
      exact Ev.neg (by simpa using n1) (Ev.now _)

/-! ### cuts of sides: each one at the first column that is filled least -/
def argTo (F : List Int) : Nat → Nat
  | 0 => 0
  | n + 1 => if F.getD n 0 < F.getD (argTo F n) 0 then n else argTo F n
def argm (F : List Int) : Nat := argTo F F.length
theorem argTo_spec (F : List Int) : ∀ n, 1 ≤ n → argTo F n < n ∧ (∀ c, c < n → F.getD (argTo F n) 0 ≤ F.getD c 0) ∧ ∀ c, c < argTo F n → F.getD (argTo F n) 0 < F.getD c 0
  | 0, h => by omega
  | 1, _ => by
    have : argTo F 1 = 0 := by unfold argTo; rw [if_neg (by unfold argTo; omega)]; rfl
    rw [this]
    exact ⟨by omega, fun c hc => by rw [show c = 0 by omega]; omega, fun c hc => by omega⟩
  | n + 2, _ => by
    obtain ⟨h1, h2, h3⟩ := argTo_spec F (n + 1) (by omega)
    rw [argTo]
    by_cases h : F.getD (n + 1) 0 < F.getD (argTo F (n + 1)) 0
    · rw [if_pos h]
      refine ⟨by omega, fun c hc => ?_, fun c hc => ?_⟩
      · by_cases e : c = n + 1
        · rw [e]; omega
        · have := h2 c (by omega); omega
      · have := h2 c (by omega); omega
    · rw [if_neg h]
      refine ⟨by omega, fun c hc => ?_, h3⟩
      by_cases e : c = n + 1
      · rw [e]; omega
      · exact h2 c (by omega)
def setR (F : List Int) (x : Nat) (v : Int) : Nat → List Int
  | 0 => F
  | d + 1 => (setR F x v d).set (x + d) v
theorem setR_len (F : List Int) (x : Nat) (v : Int) : ∀ d, (setR F x v d).length = F.length
  | 0 => rfl
  | d + 1 => by rw [setR, List.length_set, setR_len F x v d]
theorem getD_setI (s : List Int) (i m : Nat) (v : Int) (hi : i < s.length) : (s.set i v).getD m 0 = if m = i then v else s.getD m 0 := by
  by_cases e : m = i
  · subst e; simp [List.getD, hi]
  · have e' : i ≠ m := fun h => e h.symm
    simp [List.getD, e, e']
theorem setR_at (F : List Int) (x : Nat) (v : Int) : ∀ d, x + d ≤ F.length → ∀ c, (setR F x v d).getD c 0 = if x ≤ c ∧ c < x + d then v else F.getD c 0
  | 0, _, c => by rw [setR, if_neg (by omega)]
  | d + 1, h, c => by
    rw [setR, getD_setI _ _ _ _ (by rw [setR_len]; omega), setR_at F x v d (by omega)]
    by_cases e : c = x + d
    · rw [if_pos e, if_pos (by omega)]
    · rw [if_neg e]
      by_cases e2 : x ≤ c ∧ c < x + d
      · rw [if_pos e2, if_pos (by omega)]
      · rw [if_neg e2, if_neg (by omega)]
def FillOk (F : List Int) (s : Int) : Prop := (argm F : Int) + s ≤ F.length ∧ ∀ c : Nat, argm F ≤ c → (c : Int) < (argm F : Int) + s → F.getD c 0 = F.getD (argm F) 0
open Classical in
noncomputable def fillS : List Int → List Int → List Sq → Option (List Int × List Sq)
  | [], F, l => some (F, l)
  | s :: t, F, l => if FillOk F s then fillS t (setR F (argm F) (F.getD (argm F) 0 + s) s.toNat) (l ++ [⟨(argm F : Int), F.getD (argm F) 0, s⟩]) else none
/-- what holds of the columns and the squares that are put -/
structure FInv (W : Nat) (F : List Int) (l : List Sq) : Prop where
  len : F.length = W
  low : ∀ c, c < W → 0 ≤ F.getD c 0 ∧ F.getD c 0 ≤ 500 * (l.length : Int)
  top : ∀ c, c < W → F.getD c 0 = 0 ∨ ∃ s ∈ l, F.getD c 0 = s.f1 + s.f2
  ord : ∀ s ∈ l, ∀ c, c < W → s.f1 < F.getD c 0 ∨ s.f1 = F.getD c 0 ∧ s.f0 < c
  srt : l.Pairwise Less
  sum : F.sum = areaL l
theorem sum_set : ∀ (F : List Int) (i : Nat) (v : Int), i < F.length → (F.set i v).sum = F.sum - F.getD i 0 + v
  | [], i, v, h => by simp at h
  | x :: t, 0, v, h => by simp; omega
  | x :: t, i + 1, v, h => by
    have := sum_set t i v (by simpa using h)
    simp only [List.set_cons_succ, List.sum_cons, this, List.getD_cons_succ]; omega
theorem sum_setR (F : List Int) (x : Nat) (y v : Int) : ∀ d : Nat, x + d ≤ F.length → (∀ c, x ≤ c → c < x + d → F.getD c 0 = y) → (setR F x v d).sum = F.sum + (d : Int) * (v - y)
  | 0, _, _ => by simp [setR]
  | d + 1, h, hy => by
    rw [setR, sum_set _ _ _ (by rw [setR_len]; omega), sum_setR F x y v d (by omega) (fun c h1 h2 => hy c h1 (by omega)), setR_at F x v d (by omega), if_neg (by omega), hy (x + d) (by omega) (by omega)]
    grind
theorem finv_step {W : Nat} (hW : 1 ≤ W) {F : List Int} {l : List Sq} (h : FInv W F l) {s : Int} (hs : 1 ≤ s ∧ s ≤ 500) (ho : FillOk F s) : FInv W (setR F (argm F) (F.getD (argm F) 0 + s) s.toNat) (l ++ [⟨(argm F : Int), F.getD (argm F) 0, s⟩]) := by
  obtain ⟨a1, a2, a3⟩ := argTo_spec F F.length (by rw [h.len]; exact hW)
  have hl := h.len
  obtain ⟨o1, o2⟩ := ho
  change (argm F) < F.length at a1
  change ∀ c, c < F.length → F.getD (argm F) 0 ≤ F.getD c 0 at a2
  change ∀ c, c < argm F → F.getD (argm F) 0 < F.getD c 0 at a3
  have hat := setR_at F (argm F) (F.getD (argm F) 0 + s) s.toNat (by omega)
  have lowx := h.low (argm F) (by omega)
  have hll : ((l ++ [(⟨(argm F : Int), F.getD (argm F) 0, s⟩ : Sq)]).length : Int) = l.length + 1 := by simp
  refine ⟨by rw [setR_len]; exact hl, fun c hc => ?_, fun c hc => ?_, fun q hq c hc => ?_, ?_, ?_⟩
  · rw [hat, hll]
    have := h.low c hc
    split <;> omega
  · rw [hat]
    split
    · right; exact ⟨_, List.mem_append_right _ (List.mem_singleton_self _), rfl⟩
    · rcases h.top c hc with e | ⟨q, hq, e⟩
      · exact Or.inl e
      · exact Or.inr ⟨q, List.mem_append_left _ hq, e⟩
  · rw [hat]
    rcases List.mem_append.1 hq with hq | hq
    · have := h.ord q hq c hc
      have h0 := h.ord q hq (argm F) (by omega)
      split
      · left; omega
      · exact this
    · rw [List.mem_singleton.1 hq]
      dsimp only
      split
      · left; omega
      · rename_i hn
        by_cases e : c < argm F
        · left; exact a3 c e
        · have := a2 c (by omega); omega
  · refine List.pairwise_append.2 ⟨h.srt, List.pairwise_singleton _ _, fun p hp q hq => ?_⟩
    rw [List.mem_singleton.1 hq]
    have := h.ord p hp (argm F) (by omega)
    exact this
  · rw [sum_setR F (argm F) (F.getD (argm F) 0) _ s.toNat (by omega) (fun c h1 h2 => o2 c h1 (by omega)), h.sum, areaL_append]
    simp only [areaL]
    rw [Int.toNat_of_nonneg (by omega)]
    grind
theorem finv_all {W : Nat} (hW : 1 ≤ W) : ∀ (t F : List Int) (l : List Sq), (∀ s ∈ t, 1 ≤ s ∧ s ≤ 500) → FInv W F l → ∀ F' l', fillS t F l = some (F', l') → FInv W F' l' ∧ l'.length = l.length + t.length
  | [], F, l, _, h, F', l', e => by
    rw [fillS] at e
    injection e with e
    injection e with e1 e2
    subst e1 e2
    exact ⟨h, by simp⟩
  | s :: t, F, l, hs, h, F', l', e => by
    rw [fillS] at e
    split at e
    · rename_i ho
      have := finv_all hW t _ _ (fun q hq => hs q (List.mem_cons_of_mem _ hq)) (finv_step hW h (hs s List.mem_cons_self) ho) F' l' e
      refine ⟨this.1, ?_⟩
      have h2 := this.2
      simp only [List.length_append, List.length_cons, List.length_nil] at h2 ⊢
      omega
    · cases e
theorem sum_rep (n : Nat) : (List.replicate n (0 : Int)).sum = 0 := by
  induction n with
  | zero => rfl
  | succ n ih => rw [List.replicate_succ, List.sum_cons, ih]; rfl
theorem finv_start (W : Nat) : FInv W (List.replicate W 0) [] := by
  have h0 : ∀ c, c < W → (List.replicate W (0 : Int)).getD c 0 = 0 := fun c hc => by
    rw [List.getD_eq_getElem?_getD, List.getElem?_eq_getElem (by simpa using hc)]; simp
  exact ⟨by simp, fun c hc => by rw [h0 c hc]; simp, fun c hc => Or.inl (h0 c hc), fun s hs => (by cases hs), List.Pairwise.nil, by rw [sum_rep]; rfl⟩
theorem sum_le (q : Int) : ∀ F : List Int, (∀ c, c < F.length → F.getD c 0 ≤ q) → F.sum ≤ F.length * q ∧ (F.sum = F.length * q → ∀ c, c < F.length → F.getD c 0 = q)
  | [], _ => by simp
  | x :: t, h => by
    obtain ⟨i1, i2⟩ := sum_le q t (fun c hc => by have := h (c + 1) (by simpa using hc); simpa using this)
    have h0 := h 0 (by simp)
    simp only [List.getD_cons_zero] at h0
    have e : ((x :: t).length : Int) * q = t.length * q + q := by rw [List.length_cons]; push_cast; grind
    rw [List.sum_cons, e]
    refine ⟨by omega, fun hs c hc => ?_⟩
    cases c with
    | zero => simp only [List.getD_cons_zero]; omega
    | succ c => simp only [List.getD_cons_succ]; exact i2 (by omega) c (by simpa using hc)
/-- the greatest column and the first one tell the same cut, or none -/
theorem fill_good {W : Nat} (hW : 1 ≤ W) {F : List Int} {l : List Sq} (h : FInv W F l) {q : Int} (hq1 : ∃ c, c < W ∧ q = F.getD c 0) (hq2 : ∀ c, c < W → F.getD c 0 ≤ q) : (Good W q l ↔ Good W (F.getD 0 0) l) ∧ (Good W q l → q = F.getD 0 0) := by
  have e1 : Good W q l → q = F.getD 0 0 := by
    intro hg
    have ha := hg.2.2.2.2
    rw [areaTo_all, ← h.sum] at ha
    obtain ⟨_, s2⟩ := sum_le q F (fun c hc => hq2 c (by rw [← h.len]; exact hc))
    exact (s2 (by rw [ha, h.len]) 0 (by rw [h.len]; omega)).symm
  have e2 : Good W (F.getD 0 0) l → q = F.getD 0 0 := by
    intro hg
    have h1 := hq2 0 (by omega)
    obtain ⟨c, hc, e⟩ := hq1
    rcases h.top c hc with z | ⟨s, hs, z⟩
    · have := hg.2.1.1; omega
    · have hi : Ins W (F.getD 0 0) s := by
        obtain ⟨j, hj, rfl⟩ := List.mem_iff_getElem.1 hs
        have := (hg.2.2.2.1 j hj).1
        rw [sqAt_get l j hj] at this
        exact this
      unfold Ins at hi
      omega
  exact ⟨⟨fun hg => e1 hg ▸ hg, fun hg => (e2 hg).symm ▸ hg⟩, e1⟩
def SidesOk (W : Int) (t : List Int) : Prop := (1 ≤ W ∧ W ≤ 500) ∧ (1 ≤ t.length ∧ t.length ≤ 30) ∧ ∀ s ∈ t, 1 ≤ s ∧ s ≤ 500
open Classical in
noncomputable def fillEnd (W : Int) (R : Option (List Int × List Sq)) : Int × Int × List Sq × Bool := match R with
  | some (F, l) => if Good W (F.getD 0 0) l then (W, F.getD 0 0, l, true) else (0, 0, [], false)
  | none => (0, 0, [], false)
open Classical in
noncomputable def fillV (W : Int) (t : List Int) : Int × Int × List Sq × Bool := if SidesOk W t then fillEnd W (fillS t (List.replicate W.toNat 0) []) else (0, 0, [], false)
theorem fillEnd_len (W : Int) (R : Option (List Int × List Sq)) : (fillEnd W R).2.2.1.length ≤ 30 := by
  unfold fillEnd
  split
  · split
    · rename_i h; exact h.2.2.1.2
    · simp
  · simp
theorem fillV_len (W : Int) (t : List Int) : (fillV W t).2.2.1.length ≤ 30 := by
  unfold fillV; split
  · exact fillEnd_len _ _
  · simp
theorem rd_getD (s : List Int) (j : Nat) : rd s (j : Int) = s.getD j 0 := by unfold rd; rw [Int.toNat_natCast]

/-! the program -/
theorem minL_loop (s : List Int) (hl : s.length ≤ 100000) : ∀ (d i : Nat) (m : Int), s.length - i = d → i ≤ s.length →
    ∃ q, Ev (fun k => slices_Min_int_int.l0 k s m (i : Int)) q ∧ (q = m ∨ ∃ j, i ≤ j ∧ j < s.length ∧ q = s.getD j 0) ∧ q ≤ m ∧ ∀ j, i ≤ j → j < s.length → q ≤ s.getD j 0 := by
  intro d
  induction d with
  | zero =>
    intro i m hd hi
    refine ⟨m, Ev.succ ?_, Or.inl rfl, Int.le_refl _, fun j h1 h2 => by omega⟩
    simp only [slices_Min_int_int.l0]
    exact Ev.neg (by omega) (Ev.now _)
  | succ d ih =>
    intro i m hd hi
    have hx : mn m (s.getD i 0) = min m (s.getD i 0) := by unfold mn; omega
    obtain ⟨q, hq, h1, h2, h3⟩ := ih (i + 1) (mn m (s.getD i 0)) (by omega) (by omega)
    rw [hx] at h1 h2
    refine ⟨q, Ev.succ ?_, ?_, by omega, fun j h4 h5 => ?_⟩
    · simp only [slices_Min_int_int.l0, rd_getD]
      refine Ev.pos (by omega) (Ev.pos (by omega) ?_)
      rw [wrap64_id (by omega) (by omega)]
      exact hq
    · rcases h1 with h1 | ⟨j, a, b, c⟩
      · by_cases e : m ≤ s.getD i 0
        · left; omega
        · right; exact ⟨i, Nat.le_refl _, by omega, by omega⟩
      · right; exact ⟨j, by omega, b, c⟩
    · by_cases e : j = i
      · subst e; omega
      · exact h3 j (by omega) h5
theorem maxL_loop (s : List Int) (hl : s.length ≤ 100000) : ∀ (d i : Nat) (m : Int), s.length - i = d → i ≤ s.length →
    ∃ q, Ev (fun k => slices_Max_int_int.l0 k s m (i : Int)) q ∧ (q = m ∨ ∃ j, i ≤ j ∧ j < s.length ∧ q = s.getD j 0) ∧ m ≤ q ∧ ∀ j, i ≤ j → j < s.length → s.getD j 0 ≤ q := by
  intro d
  induction d with
  | zero =>
    intro i m hd hi
    refine ⟨m, Ev.succ ?_, Or.inl rfl, Int.le_refl _, fun j h1 h2 => by omega⟩
    simp only [slices_Max_int_int.l0]
    exact Ev.neg (by omega) (Ev.now _)
  | succ d ih =>
    intro i m hd hi
    have hx : mx m (s.getD i 0) = max m (s.getD i 0) := by unfold mx; omega
    obtain ⟨q, hq, h1, h2, h3⟩ := ih (i + 1) (mx m (s.getD i 0)) (by omega) (by omega)
    rw [hx] at h1 h2
    refine ⟨q, Ev.succ ?_, ?_, by omega, fun j h4 h5 => ?_⟩
    · simp only [slices_Max_int_int.l0, rd_getD]
      refine Ev.pos (by omega) (Ev.pos (by omega) ?_)
      rw [wrap64_id (by omega) (by omega)]
      exact hq
    · rcases h1 with h1 | ⟨j, a, b, c⟩
      · by_cases e : s.getD i 0 ≤ m
        · left; omega
        · right; exact ⟨i, Nat.le_refl _, by omega, by omega⟩
      · right; exact ⟨j, by omega, b, c⟩
    · by_cases e : j = i
      · subst e; omega
      · exact h3 j (by omega) h5
theorem minL_ev (s : List Int) (hl : 1 ≤ s.length ∧ s.length ≤ 100000) : ∃ q, Ev (fun k => slices_Min_int_int.f k s) q ∧ (∃ j, j < s.length ∧ q = s.getD j 0) ∧ ∀ j, j < s.length → q ≤ s.getD j 0 := by
  obtain ⟨q, hq, h1, h2, h3⟩ := minL_loop s (by omega) (s.length - 1) 1 (s.getD 0 0) rfl (by omega)
  refine ⟨q, ?_, ?_, fun j hj => ?_⟩
  · unfold slices_Min_int_int.f
    exact Ev.neg (by omega) (Ev.pos (by omega) hq)
  · rcases h1 with h1 | ⟨j, _, b, c⟩
    · exact ⟨0, by omega, h1⟩
    · exact ⟨j, b, c⟩
  · by_cases e : j = 0
    · rw [e]; exact h2
    · exact h3 j (by omega) hj
theorem maxL_ev (s : List Int) (hl : 1 ≤ s.length ∧ s.length ≤ 100000) : ∃ q, Ev (fun k => slices_Max_int_int.f k s) q ∧ (∃ j, j < s.length ∧ q = s.getD j 0) ∧ ∀ j, j < s.length → s.getD j 0 ≤ q := by
  obtain ⟨q, hq, h1, h2, h3⟩ := maxL_loop s (by omega) (s.length - 1) 1 (s.getD 0 0) rfl (by omega)
  refine ⟨q, ?_, ?_, fun j hj => ?_⟩
  · unfold slices_Max_int_int.f
    exact Ev.neg (by omega) (Ev.pos (by omega) hq)
  · rcases h1 with h1 | ⟨j, _, b, c⟩
    · exact ⟨0, by omega, h1⟩
    · exact ⟨j, b, c⟩
  · by_cases e : j = 0
    · rw [e]; exact h2
    · exact h3 j (by omega) hj
theorem index_loop (F : List Int) (hl : F.length ≤ 100000) (v : Int) (x : Nat) (hx : x < F.length) (hv : F.getD x 0 = v) : ∀ (d i : Nat), x - i = d → i ≤ x → (∀ c, i ≤ c → c < x → F.getD c 0 ≠ v) → Ev (fun k => slices_Index_int_int.l0 k F v (F.length : Int) (i : Int)) (x : Int) := by
  intro d
  induction d with
  | zero =>
    intro i hd hi h
    obtain rfl : i = x := by omega
    refine Ev.succ ?_
    simp only [slices_Index_int_int.l0, rd_getD]
    exact Ev.pos (by omega) (Ev.pos (by omega) (Ev.pos (by omega) (Ev.pos hv.symm (Ev.now _))))
  | succ d ih =>
    intro i hd hi h
    refine Ev.succ ?_
    simp only [slices_Index_int_int.l0, rd_getD]
    refine Ev.pos (by omega) (Ev.pos (by omega) (Ev.pos (by omega) (Ev.neg (fun e => h i (Nat.le_refl _) (by omega) e.symm) ?_)))
    rw [wrap64_id (by omega) (by omega)]
    exact ih (i + 1) (by omega) (by omega) (fun c h1 h2 => h c (by omega) h2)
theorem argm_ev (F : List Int) (hl : 1 ≤ F.length ∧ F.length ≤ 100000) : Ev (fun k => slices_Min_int_int.f k F) (F.getD (argm F) 0) ∧ Ev (fun k => slices_Index_int_int.f k F (F.getD (argm F) 0)) (argm F : Int) := by
  obtain ⟨a1, a2, a3⟩ := argTo_spec F F.length hl.1
  obtain ⟨q, hq, ⟨j, hj, hqj⟩, h2⟩ := minL_ev F hl
  have e : q = F.getD (argm F) 0 := by
    have x1 := a2 j hj
    have x2 := h2 (argm F) a1
    change F.getD (argm F) 0 ≤ F.getD j 0 at x1
    omega
  rw [← e]
  refine ⟨hq, ?_⟩
  unfold slices_Index_int_int.f
  exact index_loop F hl.2 q (argm F) a1 e.symm (argm F) 0 rfl (Nat.zero_le _) (fun c _ hc => by have := a3 c hc; change F.getD (argm F) 0 < _ at this; omega)
theorem implF_l1 (W : Int) (l : List Sq) (s y : Int) (x : Nat) (T : List Int) (n i : Int) (hs : 1 ≤ s ∧ s ≤ 500) (hy : -100000 ≤ y ∧ y ≤ 100000) (F : List Int) (hl : F.length ≤ 100000) (hx : (x : Int) + s ≤ F.length) (R : Int × Int × List Sq × Bool)
    (hR : Ev (fun k => impl_CutOfSides.l0 k W (setR F x (y + s) s.toNat) l T n (wrap64 (i + 1))) R) : ∀ (e d : Nat), s.toNat - d = e → d ≤ s.toNat → Ev (fun k => impl_CutOfSides.l1 k W (setR F x (y + s) d) l s y (x : Int) T n i s (d : Int)) R := by
  intro e
  induction e with
  | zero =>
    intro d he hd
    obtain rfl : d = s.toNat := by omega
    refine Ev.succ ?_
    simp only [impl_CutOfSides.l1]
    exact Ev.neg (by omega) hR
  | succ e ih =>
    intro d he hd
    have := ih (d + 1) (by omega) (by omega)
    refine Ev.succ ?_
    simp only [impl_CutOfSides.l1]
    have e1 : wrap64 ((x : Int) + (d : Int)) = ((x + d : Nat) : Int) := by rw [wrap64_id (by omega) (by omega)]; omega
    have e2 : wrap64 ((d : Int) + 1) = ((d + 1 : Nat) : Int) := by clear e1; rw [wrap64_id (by omega) (by omega)]; omega
    have e3 : wrap64 (y + s) = y + s := by clear e1 e2; exact wrap64_id (by omega) (by omega)
    rw [e1, e2, e3, Int.toNat_natCast]
    clear e1 e2 e3
    exact Ev.pos (by omega) (Ev.pos (by omega) (Ev.pos (by rw [setR_len]; omega) this))
theorem implF_l0 {W : Nat} (hW : 1 ≤ W ∧ W ≤ 500) (T : List Int) (hT : T.length ≤ 30) (hTs : ∀ s ∈ T, 1 ≤ s ∧ s ≤ 500) : ∀ (t : List Int) (i : Nat) (F : List Int) (l : List Sq), T.drop i = t → i + t.length = T.length → FInv W F l → l.length = i →
    Ev (fun k => impl_CutOfSides.l0 k (W : Int) F l T (T.length : Int) (i : Int)) (fillEnd W (fillS t F l)) := by
  intro t
  induction t with
  | nil =>
    intro i F l hd hi h hli
    simp only [List.length_nil] at hi
    have hl := h.len
    obtain ⟨q, hq, h1, h2⟩ := maxL_ev F (by omega)
    rw [hl] at h1 h2
    obtain ⟨g1, g2⟩ := fill_good (W := W) hW.1 h h1 h2
    obtain ⟨s1, s2⟩ := good_srt (W := W) (H := q) (List.Perm.refl l) (h.srt.imp LeP.of_less)
    refine Ev.succ ?_
    simp only [impl_CutOfSides.l0]
    refine Ev.neg (by omega) (Ev.bind hq (Ev.bind (impl_cutOf_ev W q l (by omega)) (Ev.eqr (Ev.now _) ?_)))
    unfold cutOfV fillS fillEnd
    dsimp only
    by_cases hg : Good W q l
    · rw [if_pos (s1.1 hg), if_pos (g1.1 hg), ← s2 hg, g2 hg]
    · rw [if_neg (fun z => hg (s1.2 z)), if_neg (fun z => hg (g1.2 z))]
  | cons s t ih =>
    intro i F l hd hi h hli
    have hl := h.len
    simp only [List.length_cons] at hi
    have hi1 : i < T.length := by omega
    rw [List.drop_eq_getElem_cons hi1] at hd
    injection hd with hd1 hd2
    have hs := hTs s (by rw [← hd1]; exact List.getElem_mem hi1)
    have hrd : rd T (i : Int) = s := by rw [rd_getD, List.getD_eq_getElem?_getD, List.getElem?_eq_getElem hi1]; exact hd1
    obtain ⟨m1, m2⟩ := argm_ev F (by omega)
    obtain ⟨a1, a2, a3⟩ := argTo_spec F F.length (by omega)
    change argm F < F.length at a1
    change ∀ c, c < F.length → F.getD (argm F) 0 ≤ F.getD c 0 at a2
    have low := h.low (argm F) (by omega)
    have no : ∀ x : Option (List Int × List Sq), x = none → fillEnd W x = (0, 0, [], false) := by rintro _ rfl; rfl
    have j2f : ¬ FillOk F s → Ev (fun k => impl_CutOfSides.j2 k (W : Int) F l s (F.getD (argm F) 0) (argm F : Int) T (T.length : Int) (i : Int) true) (fillEnd W (fillS (s :: t) F l)) := by
      intro hn
      rw [fillS, if_neg hn]
      refine Ev.succ ?_
      simp only [impl_CutOfSides.j2]
      exact Ev.pos trivial (Ev.now _)
    refine Ev.succ ?_
    simp only [impl_CutOfSides.l0, hrd]
    refine Ev.pos (by omega) (Ev.pos (by omega) (Ev.pos (by omega) (Ev.bind m1 (Ev.bind m2 ?_))))
    rw [wrap64_id (n := (argm F : Int) + s) (by omega) (by omega)]
    by_cases c1 : (argm F : Int) + s > W
    · exact Ev.pos c1 (j2f (fun ho => by have := ho.1; omega))
    · refine Ev.neg c1 (Ev.pos (by omega) (Ev.pos (by omega) (Ev.pos (by omega) ?_)))
      have hsl : ((F.take ((argm F : Int) + s).toNat).drop ((argm F : Int)).toNat).length = s.toNat := by
        rw [List.length_drop, List.length_take]; omega
      obtain ⟨q, hq, ⟨j, hj, hqj⟩, h2⟩ := maxL_ev ((F.take ((argm F : Int) + s).toNat).drop ((argm F : Int)).toNat) (by omega)
      have hat : ∀ j, j < s.toNat → ((F.take ((argm F : Int) + s).toNat).drop ((argm F : Int)).toNat).getD j 0 = F.getD (argm F + j) 0 := fun j hj => by
        rw [List.getD_eq_getElem?_getD, List.getElem?_drop, List.getElem?_take_of_lt (by omega), ← List.getD_eq_getElem?_getD, Int.toNat_natCast]
      rw [hsl] at hj h2
      refine Ev.bind hq ?_
      by_cases ho : FillOk F s
      · have e : q = F.getD (argm F) 0 := by
          rw [hqj, hat j hj]; exact ho.2 _ (by omega) (by omega)
        rw [decide_eq_false (by omega)]
        refine Ev.succ ?_
        simp only [impl_CutOfSides.j2]
        refine Ev.neg (by simp) (Ev.pos (by omega) ?_)
        have hn := ih (i + 1) _ _ hd2 (by omega) (finv_step hW.1 h hs ho) (by simp; omega)
        rw [fillS, if_pos ho]
        refine implF_l1 W _ s (F.getD (argm F) 0) (argm F) T (T.length : Int) (i : Int) hs (by omega) F (by omega) (by omega) _ ?_ s.toNat 0 (by omega) (by omega)
        rw [wrap64_id (by omega) (by omega)]
        exact hn
      · have : q > F.getD (argm F) 0 := by
          apply Decidable.byContradiction
          intro hc
          refine ho ⟨by omega, fun c h3 h4 => ?_⟩
          have x1 := h2 (c - argm F) (by omega)
          rw [hat _ (by omega), show argm F + (c - argm F) = c by omega] at x1
          have x2 := a2 c (by omega)
          omega
        rw [decide_eq_true this]
        exact j2f ho
theorem areW_eq (l : List Int) (lo hi : Int) : impl_areWithin.f l lo hi = some (decide (∀ x ∈ l, lo ≤ x ∧ x ≤ hi)) := by
  unfold impl_areWithin.f slices_ContainsFunc_int_int__impl_areWithin_1.f
  rw [Option.bind_some]
  congr 1
  rw [Bool.eq_iff_iff, Bool.not_eq_true', decide_eq_true_eq, List.any_eq_false]
  exact ⟨fun h x hx => by have := h x hx; simpa using this, fun h x hx => by have := h x hx; simpa using this⟩
theorem impl_CutOfSides_ev (W : Int) (T : List Int) : Ev (fun k => impl_CutOfSides.f k W T) (fillV W T) := by
  have fall : ¬ SidesOk W T → Ev (fun k => impl_CutOfSides.j0 k W T true) (fillV W T) := fun h => by
    unfold fillV
    rw [if_neg h]
    refine Ev.succ ?_
    simp only [impl_CutOfSides.j0]
    exact Ev.pos trivial (Ev.now _)
  unfold impl_CutOfSides.f
  refine Ev.bindc (isWide_eq _) ?_
  by_cases c1 : 1 ≤ W ∧ W ≤ 500
  · rw [decide_eq_true c1]
    refine Ev.pos rfl (Ev.bindc (within_eq _ _ _) ?_)
    by_cases c2 : 1 ≤ (T.length : Int) ∧ (T.length : Int) ≤ 30
    · rw [decide_eq_true c2]
      refine Ev.pos rfl (Ev.bindc (areW_eq _ _ _) ?_)
      by_cases c3 : ∀ x ∈ T, 1 ≤ x ∧ x ≤ 500
      · rw [decide_eq_true c3]
        have hok : SidesOk W T := ⟨c1, by omega, c3⟩
        obtain ⟨n, rfl⟩ : ∃ n : Nat, W = n := ⟨W.toNat, by omega⟩
        unfold fillV
        rw [if_pos hok]
        refine Ev.succ ?_
        simp only [impl_CutOfSides.j0, Bool.not_true]
        refine Ev.neg (by simp) (Ev.pos (by omega) (Ev.pos (by omega) ?_))
        rw [Int.toNat_natCast]
        exact implF_l0 (W := n) (by omega) T (by omega) c3 T 0 _ [] rfl (by omega) (finv_start n) rfl
      · rw [decide_eq_false c3]
        exact fall (fun h => c3 h.2.2)
    · rw [decide_eq_false c2]
      exact Ev.neg (by decide) (fall (fun h => c2 (by have := h.2.1; omega)))
  · rw [decide_eq_false c1]
    exact Ev.neg (by decide) (fall (fun h => c1 h.1))

/-! the reference -/
theorem specF_l1 (W s : Int) (T : List Int) (n i w h : Int) (l : List Sq) (F : List Int) (hl : F.length ≤ 100000) (R : Int × Int × List Sq × Bool)
    (hR : Ev (fun k => spec_bkFill.l2 k W F s (argm F : Int) (F.getD (argm F) 0) (argm F : Int) T n i w h l) R) (h1 : 1 ≤ F.length) : ∀ (d c : Nat), F.length - c = d → c ≤ F.length →
      Ev (fun k => spec_bkFill.l1 k W F s (argTo F c : Int) T n i F (F.length : Int) (c : Int) w h l) R := by
  have bd : ∀ c, c ≤ F.length → argTo F c < F.length := fun c hc => by
    cases c with
    | zero => simp only [argTo]; omega
    | succ c => have := (argTo_spec F (c + 1) (by omega)).1; omega
  intro d
  induction d with
  | zero =>
    intro c hd hc
    obtain rfl : c = F.length := by omega
    have := bd F.length (Nat.le_refl _)
    refine Ev.succ ?_
    simp only [spec_bkFill.l1, rd_getD]
    exact Ev.neg (by omega) (Ev.pos (by omega) (Ev.pos (by omega) hR))
  | succ d ih =>
    intro c hd hc
    have hn := ih (c + 1) (by omega) (by omega)
    have := bd c hc
    rw [argTo] at hn
    refine Ev.succ ?_
    simp only [spec_bkFill.l1, rd_getD]
    refine Ev.pos (by omega) (Ev.pos (by omega) (Ev.pos (by omega) (Ev.pos (by omega) (Ev.pos (by omega) ?_))))
    rw [wrap64_id (n := (c : Int) + 1) (by omega) (by omega)]
    by_cases e : F.getD c 0 < F.getD (argTo F c) 0
    · rw [if_pos e] at hn
      exact Ev.pos e hn
    · rw [if_neg e] at hn
      exact Ev.neg e hn
theorem specF_l2 {W : Nat} (s : Int) (T : List Int) (n i w h : Int) (l : List Sq) (hll : l.length ≤ 1000) (F : List Int) (hW : F.length = W) (hl : W ≤ 500) (hs : 1 ≤ s ∧ s ≤ 500) (x : Nat) (hx : x < W) (y : Int) (hy : -100000 ≤ y ∧ y ≤ 100000) (R : Int × Int × List Sq × Bool)
    (hgood : ((x : Int) + s ≤ W ∧ ∀ c : Nat, x ≤ c → (c : Int) < (x : Int) + s → F.getD c 0 = y) → Ev (fun k => spec_bkFill.l0 k (W : Int) (setR F x (y + s) s.toNat) T n (wrap64 (i + 1)) w h (l ++ [⟨(x : Int), y, s⟩])) R)
    (hbad : ¬ ((x : Int) + s ≤ W ∧ ∀ c : Nat, x ≤ c → (c : Int) < (x : Int) + s → F.getD c 0 = y) → R = (0, 0, [], false)) :
    ∀ (e d : Nat), s.toNat - d = e → d ≤ s.toNat → x + d ≤ W → (∀ c, x ≤ c → c < x + d → F.getD c 0 = y) → Ev (fun k => spec_bkFill.l2 k (W : Int) (setR F x (y + s) d) s (x : Int) y ((x + d : Nat) : Int) T n i w h l) R := by
  intro e
  induction e with
  | zero =>
    intro d he hd hxd hc
    obtain rfl : d = s.toNat := by omega
    refine Ev.succ ?_
    simp only [spec_bkFill.l2]
    rw [wrap64_id (n := (x : Int) + s) (by omega) (by omega)]
    exact Ev.neg (by omega) (Ev.pos (by omega) (hgood ⟨by omega, fun c h1 h2 => hc c h1 (by omega)⟩))
  | succ e ih =>
    intro d he hd hxd hc
    refine Ev.succ ?_
    simp only [spec_bkFill.l2]
    rw [wrap64_id (n := (x : Int) + s) (by omega) (by omega)]
    refine Ev.pos (by omega) ?_
    by_cases c1 : ((x + d : Nat) : Int) ≥ (W : Int)
    · exact Ev.pos c1 (Ev.eqr (Ev.now _) (hbad (fun hh => by omega)).symm)
    · refine Ev.neg c1 (Ev.pos (by omega) (Ev.pos (by rw [setR_len]; omega) ?_))
      rw [rd_getD, setR_at F x (y + s) d (by omega), if_neg (by omega)]
      by_cases c2 : F.getD (x + d) 0 = y
      · refine Ev.pos c2 ?_
        have := ih (d + 1) (by omega) (by omega) (by omega) (fun c h1 h2 => by
          by_cases q : c = x + d
          · rw [q]; exact c2
          · exact hc c h1 (by omega))
        rw [wrap64_id (n := y + s) (by omega) (by omega), wrap64_id (n := ((x + d : Nat) : Int) + 1) (by omega) (by omega), Int.toNat_natCast]
        exact this
      · exact Ev.neg c2 (Ev.eqr (Ev.now _) (hbad (fun hh => c2 (hh.2 (x + d) (by omega) (by omega)))).symm)
theorem specF_l0 {W : Nat} (hW : 1 ≤ W ∧ W ≤ 500) (T : List Int) (hT : T.length ≤ 30) (hTs : ∀ s ∈ T, 1 ≤ s ∧ s ≤ 500) : ∀ (t : List Int) (i : Nat) (F : List Int) (l : List Sq), T.drop i = t → i + t.length = T.length → FInv W F l → l.length = i →
    Ev (fun k => spec_bkFill.l0 k (W : Int) F T (T.length : Int) (i : Int) (W : Int) 0 l) (fillEnd W (fillS t F l)) := by
  intro t
  induction t with
  | nil =>
    intro i F l hd hi h hli
    simp only [List.length_nil] at hi
    have hl := h.len
    refine Ev.succ ?_
    simp only [spec_bkFill.l0]
    refine Ev.neg (by omega) (Ev.pos (by omega) ?_)
    rw [show rd F 0 = F.getD 0 0 from rd_getD F 0]
    refine Ev.bind (spec_cuGood_ev W (F.getD 0 0) l) ?_
    unfold fillS fillEnd
    dsimp only
    by_cases hg : Good W (F.getD 0 0) l
    · rw [if_pos hg]; exact Ev.pos (decide_eq_true hg) (Ev.now _)
    · rw [if_neg hg]; exact Ev.neg (by simpa using hg) (Ev.now _)
  | cons s t ih =>
    intro i F l hd hi h hli
    have hl := h.len
    simp only [List.length_cons] at hi
    have hi1 : i < T.length := by omega
    rw [List.drop_eq_getElem_cons hi1] at hd
    injection hd with hd1 hd2
    have hs := hTs s (by rw [← hd1]; exact List.getElem_mem hi1)
    have hrd : rd T (i : Int) = s := by rw [rd_getD, List.getD_eq_getElem?_getD, List.getElem?_eq_getElem hi1]; exact hd1
    obtain ⟨a1, a2, a3⟩ := argTo_spec F F.length (by omega)
    change argm F < F.length at a1
    have low := h.low (argm F) (by omega)
    refine Ev.succ ?_
    simp only [spec_bkFill.l0, hrd]
    refine Ev.pos (by omega) (Ev.pos (by omega) (Ev.pos (by omega) ?_))
    refine specF_l1 W s T (T.length : Int) (i : Int) W 0 l F (by omega) _ ?_ (by omega) F.length 0 (by omega) (Nat.zero_le _)
    refine specF_l2 (W := W) s T (T.length : Int) (i : Int) W 0 l (by omega) F hl hW.2 hs (argm F) (by omega) (F.getD (argm F) 0) (by omega) _ (fun ho => ?_) (fun ho => ?_) s.toNat 0 (by omega) (by omega) (by omega) (fun c h1 h2 => by omega)
    · have ho' : FillOk F s := by unfold FillOk; rw [hl]; exact ho
      rw [fillS, if_pos ho', wrap64_id (by omega) (by omega)]
      exact ih (i + 1) _ _ hd2 (by omega) (finv_step hW.1 h hs ho') (by simp; omega)
    · have ho' : ¬ FillOk F s := by unfold FillOk; rw [hl]; exact ho
      rw [fillS, if_neg ho']; rfl
theorem l1All_loop (lo hi : Int) (T : List Int) (hT : T.length ≤ 100000) : ∀ (t : List Int) (i : Nat), T.drop i = t → i + t.length = T.length → Ev (fun k => spec_l1All.l0 k lo hi T (T.length : Int) (i : Int)) (decide (∀ x ∈ t, lo ≤ x ∧ x ≤ hi)) := by
  intro t
  induction t with
  | nil =>
    intro i hd hi'
    simp only [List.length_nil] at hi'
    refine Ev.succ ?_
    simp only [spec_l1All.l0]
    exact Ev.neg (by omega) (Ev.eqr (Ev.now _) (by simp))
  | cons s t ih =>
    intro i hd hi'
    simp only [List.length_cons] at hi'
    have hi1 : i < T.length := by omega
    rw [List.drop_eq_getElem_cons hi1] at hd
    injection hd with hd1 hd2
    have hrd : rd T (i : Int) = s := by rw [rd_getD, List.getD_eq_getElem?_getD, List.getElem?_eq_getElem hi1]; exact hd1
    refine Ev.succ ?_
    simp only [spec_l1All.l0, hrd]
    refine Ev.pos (by omega) (Ev.pos (by omega) (Ev.pos (by omega) (Ev.bindc (l1In_eq _ _ _) ?_)))
    by_cases c : lo ≤ s ∧ s ≤ hi
    · rw [decide_eq_true c, wrap64_id (by omega) (by omega)]
      refine Ev.pos rfl (Ev.eqr (ih (i + 1) hd2 (by omega)) (decide_eq_decide.2 ?_))
      simp [c]
    · rw [decide_eq_false c]
      refine Ev.neg (by decide) (Ev.eqr (Ev.now _) (decide_eq_false (fun h => c (h s List.mem_cons_self))).symm)
theorem spec_bkFill_ev (W : Int) (T : List Int) (hTl : T.length ≤ 2000000) : Ev (fun k => spec_bkFill.f k W T) (fillV W T) := by
  have fall : ¬ SidesOk W T → Ev (fun k => spec_bkFill.j0 k W T true) (fillV W T) := fun h => by
    unfold fillV
    rw [if_neg h]
    refine Ev.succ ?_
    simp only [spec_bkFill.j0]
    exact Ev.pos trivial (Ev.now _)
  unfold spec_bkFill.f
  refine Ev.bindc (l1In_eq _ _ _) ?_
  by_cases c1 : 1 ≤ W ∧ W ≤ 500
  · rw [decide_eq_true c1]
    refine Ev.pos rfl (Ev.bindc (l1In_eq _ _ _) ?_)
    by_cases c2 : 1 ≤ (T.length : Int) ∧ (T.length : Int) ≤ 30
    · rw [decide_eq_true c2]
      refine Ev.pos rfl (Ev.bind (a := decide (∀ x ∈ T, 1 ≤ x ∧ x ≤ 500)) ?_ ?_)
      · unfold spec_l1All.f
        exact l1All_loop 1 500 T (by omega) T 0 rfl (by omega)
      by_cases c3 : ∀ x ∈ T, 1 ≤ x ∧ x ≤ 500
      · rw [decide_eq_true c3]
        have hok : SidesOk W T := ⟨c1, by omega, c3⟩
        obtain ⟨n, rfl⟩ : ∃ n : Nat, W = n := ⟨W.toNat, by omega⟩
        unfold fillV
        rw [if_pos hok]
        refine Ev.succ ?_
        simp only [spec_bkFill.j0, Bool.not_true]
        refine Ev.neg (by simp) (Ev.pos (by omega) (Ev.pos (by omega) ?_))
        rw [Int.toNat_natCast]
        exact specF_l0 (W := n) (by omega) T (by omega) c3 T 0 _ [] rfl (by omega) (finv_start n) rfl
      · rw [decide_eq_false c3]
        exact fall (fun h => c3 h.2.2)
    · rw [decide_eq_false c2]
      exact Ev.neg (by decide) (fall (fun h => c2 (by have := h.2.1; omega)))
  · rw [decide_eq_false c1]
    exact Ev.neg (by decide) (fall (fun h => c1 h.1))

/-! ### the code of a cut -/
def joinsOn (l : List Sq) (i : Nat) : Prop := 0 < i ∧ (sqAt l (i - 1)).f1 = (sqAt l i).f1 ∧ (sqAt l (i - 1)).f0 + (sqAt l (i - 1)).f2 = (sqAt l i).f0
instance (l : List Sq) (i : Nat) : Decidable (joinsOn l i) := by unfold joinsOn; infer_instance
def codeTo (l : List Sq) : Nat → List (List Int)
  | 0 => []
  | n + 1 => if joinsOn l n then (codeTo l n).set ((codeTo l n).length - 1) ((codeTo l n).getD ((codeTo l n).length - 1) [] ++ [(sqAt l n).f2]) else codeTo l n ++ [[(sqAt l n).f2]]
theorem codeTo_len (l : List Sq) : ∀ n, (codeTo l n).length ≤ n ∧ (0 < n → 0 < (codeTo l n).length)
  | 0 => by simp [codeTo]
  | n + 1 => by
    obtain ⟨h1, h2⟩ := codeTo_len l n
    simp only [codeTo]
    split
    · rename_i hj
      rw [List.length_set]
      exact ⟨by omega, fun _ => h2 hj.1⟩
    · simp; omega
theorem codeTo_group (l : List Sq) : ∀ n, ∀ g ∈ codeTo l n, 1 ≤ g.length ∧ g.length ≤ n
  | 0 => by simp [codeTo]
  | n + 1 => by
    intro g hg
    simp only [codeTo] at hg
    split at hg
    · rename_i hj
      have hl := (codeTo_len l n).2 hj.1
      rcases List.mem_or_eq_of_mem_set hg with h | h
      · have := codeTo_group l n g h; omega
      · have hm : (codeTo l n).getD ((codeTo l n).length - 1) [] ∈ codeTo l n := by
          rw [List.getD_eq_getElem?_getD, List.getElem?_eq_getElem (by omega)]
          exact List.getElem_mem _
        have := codeTo_group l n _ hm
        rw [h, List.length_append, List.length_singleton]; omega
    · rcases List.mem_append.1 hg with h | h
      · have := codeTo_group l n g h; omega
      · rw [List.mem_singleton.1 h]; simp
theorem code_same : ∀ (k : Nat) (c : List (List Int)) (l : List Sq) (n i W H : Int) (m : List Sq), spec_bkCode.l0 k c l n i W H m = impl_codeOf.l0 k c l n i W H m
  | 0, _, _, _, _, _, _, _ => rfl
  | k + 1, c, l, n, i, W, H, m => by
    simp only [spec_bkCode.l0, impl_codeOf.l0, code_same k]
theorem impl_code_loop {W H : Int} {l : List Sq} (hg : Good W H l) : ∀ (d i : Nat), l.length - i = d → i ≤ l.length →
    Ev (fun k => impl_codeOf.l0 k (codeTo l i) l (l.length : Int) (i : Int) W H l) (codeTo l l.length) := by
  intro d
  induction d with
  | zero =>
    intro i hd hi
    obtain rfl : i = l.length := by omega
    refine Ev.succ ?_
    simp only [impl_codeOf.l0]
    exact Ev.neg (by omega) (Ev.now _)
  | succ d ih =>
    intro i hd hi
    have hlt : i < l.length := by omega
    have h30 := hg.2.2.1
    have cl := codeTo_len l i
    have next := ih (i + 1) (by omega) (by omega)
    refine Ev.succ ?_
    simp only [impl_codeOf.l0, rd_sq]
    have ei : wrap64 ((i : Int) + 1) = ((i + 1 : Nat) : Int) := by rw [wrap64_id (by omega) (by omega)]; omega
    rw [ei]
    refine Ev.pos (by omega) (Ev.pos (by omega) (Ev.pos (by omega) ?_))
    have other : ¬ joinsOn l i → Ev (fun k => if (codeTo l i).length < 5864062014805 then impl_codeOf.l0 k (codeTo l i ++ [[(sqAt l i).f2]]) l (l.length : Int) ((i + 1 : Nat) : Int) W H l else none) (codeTo l l.length) := by
      intro hn
      refine Ev.pos (by omega) ?_
      have e : codeTo l i ++ [[(sqAt l i).f2]] = codeTo l (i + 1) := by simp only [codeTo]; rw [if_neg hn]
      rw [e]
      exact next
    by_cases c0 : (i : Int) > 0
    · refine Ev.pos c0 ?_
      have e1 : wrap64 ((i : Int) - 1) = ((i - 1 : Nat) : Int) := by rw [wrap64_id (by omega) (by omega)]; omega
      simp only [e1, rd_sq]
      have a := (hg.2.2.2.1 (i - 1) (by omega)).1
      have w1 := hg.1
      have w2 := hg.2.1
      unfold Ins at a
      rw [wrap64_id (n := (sqAt l (i - 1)).f0 + (sqAt l (i - 1)).f2) (by omega) (by omega)]
      refine Ev.pos (by omega) (Ev.pos (by omega) ?_)
      by_cases c1 : (sqAt l (i - 1)).f1 = (sqAt l i).f1
      · refine Ev.pos c1 ?_
        by_cases c2 : (sqAt l (i - 1)).f0 + (sqAt l (i - 1)).f2 = (sqAt l i).f0
        · refine Ev.pos c2 ?_
          have hj : joinsOn l i := ⟨by omega, c1, c2⟩
          have hp := cl.2 hj.1
          have e2 : wrap64 (((codeTo l i).length : Int) - 1) = (((codeTo l i).length - 1 : Nat) : Int) := by rw [wrap64_id (by omega) (by omega)]; omega
          have e3 : rd_L2 (codeTo l i) (((codeTo l i).length - 1 : Nat) : Int) = (codeTo l i).getD ((codeTo l i).length - 1) [] := by unfold rd_L2; rw [Int.toNat_natCast]
          have hm : (codeTo l i).getD ((codeTo l i).length - 1) [] ∈ codeTo l i := by
            rw [List.getD_eq_getElem?_getD, List.getElem?_eq_getElem (by omega)]
            exact List.getElem_mem _
          have gl := codeTo_group l i _ hm
          rw [e2, e3, Int.toNat_natCast]
          refine Ev.pos (by omega) (Ev.pos (by omega) (Ev.pos (by omega) ?_))
          have e : (codeTo l i).set ((codeTo l i).length - 1) ((codeTo l i).getD ((codeTo l i).length - 1) [] ++ [(sqAt l i).f2]) = codeTo l (i + 1) := by simp only [codeTo]; rw [if_pos hj]
          rw [e]
          exact next
        · exact Ev.neg c2 (other fun h => c2 h.2.2)
      · exact Ev.neg c1 (other fun h => c1 h.2.1)
    · exact Ev.neg c0 (other fun h => c0 (by have := h.1; omega))
theorem impl_codeOf_ev {W H : Int} {l : List Sq} (hg : Good W H l) : Ev (fun k => impl_codeOf.f k W H l) (codeTo l l.length) := by
  unfold impl_codeOf.f
  exact impl_code_loop hg l.length 0 (by omega) (Nat.zero_le _)
theorem spec_bkCode_ev {W H : Int} {l : List Sq} (hg : Good W H l) : Ev (fun k => spec_bkCode.f k W H l) (codeTo l l.length) := by
  unfold spec_bkCode.f
  simp only [code_same]
  exact impl_code_loop hg l.length 0 (by omega) (Nat.zero_le _)

/-! ### the cut of a code -/
theorem rdLrow (l : List (List Int)) (i : Nat) : rd_L2 l (i : Int) = l.getD i [] := by unfold rd_L2; rw [Int.toNat_natCast]
theorem row_drop {α : Type} (l : List α) (i : Nat) (s : α) (t : List α) (h : l.drop i = s :: t) (d : α) : i < l.length ∧ l.getD i d = s ∧ l.drop (i + 1) = t ∧ s ∈ l := by
  have h1 : i < l.length := by
    apply Decidable.byContradiction
    intro hn
    rw [List.drop_eq_nil_of_le (by omega)] at h; cases h
  rw [List.drop_eq_getElem_cons h1] at h
  injection h with ha hb
  refine ⟨h1, by rw [List.getD_eq_getElem?_getD, List.getElem?_eq_getElem h1]; exact ha, hb, by rw [← ha]; exact List.getElem_mem h1⟩
def GroupsOk (b : Nat) (c : List (List Int)) : Prop := (1 ≤ c.length ∧ c.length ≤ 30) ∧ ∀ g ∈ c, (b ≤ g.length ∧ g.length ≤ 30) ∧ ∀ x ∈ g, 1 ≤ x ∧ x ≤ 500
open Classical in
noncomputable def codeV (c : List (List Int)) (B : Int × Int × List Sq × Bool) : Int × Int × List Sq × Bool := if B.2.2.2 = true ∧ codeTo B.2.2.1 B.2.2.1.length = c then B else (0, 0, [], false)
open Classical in
noncomputable def codeCut (c : List (List Int)) : Int × Int × List Sq × Bool := if GroupsOk 1 c then codeV c (fillV (c.getD 0 []).sum c.flatten) else (0, 0, [], false)
theorem fillV_good {W : Int} {T : List Int} (h : (fillV W T).2.2.2 = true) : Good (fillV W T).1 (fillV W T).2.1 (fillV W T).2.2.1 := by
  unfold fillV fillEnd at *
  split at h
  · rename_i ho
    rw [if_pos ho]
    generalize fillS T (List.replicate W.toNat 0) [] = R at h ⊢
    cases R with
    | none => cases h
    | some p =>
      obtain ⟨F, l⟩ := p
      dsimp only at h ⊢
      split at h
      · rename_i hg
        rw [if_pos hg]; exact hg
      · cases h
  · cases h
theorem codeV_bad {c : List (List Int)} (h : ¬ GroupsOk 1 c) (h30 : 1 ≤ c.length ∧ c.length ≤ 30) (hc : ∀ g ∈ c, g.length ≤ 30 ∧ ∀ x ∈ g, 1 ≤ x ∧ x ≤ 500) (B : Int × Int × List Sq × Bool) : codeV c B = (0, 0, [], false) := by
  unfold codeV
  rw [if_neg]
  rintro ⟨_, e⟩
  refine h ⟨h30, fun g hg => ⟨⟨?_, (hc g hg).1⟩, (hc g hg).2⟩⟩
  rw [← e] at hg
  exact (codeTo_group _ _ g hg).1
theorem codeCut_len (c : List (List Int)) : (codeCut c).2.2.1.length ≤ 30 := by
  unfold codeCut codeV
  split
  · split
    · exact fillV_len _ _
    · simp
  · simp
theorem codeCut_good {c : List (List Int)} (h : (codeCut c).2.2.2 = true) : Good (codeCut c).1 (codeCut c).2.1 (codeCut c).2.2.1 ∧ codeTo (codeCut c).2.2.1 (codeCut c).2.2.1.length = c := by
  unfold codeCut codeV at *
  split at h
  · rename_i h1
    split at h
    · rename_i h2
      rw [if_pos h1, if_pos h2]
      exact ⟨fillV_good h2.1, h2.2⟩
    · cases h
  · cases h
theorem sum_bd : ∀ g : List Int, (∀ x ∈ g, 1 ≤ x ∧ x ≤ 500) → 0 ≤ g.sum ∧ g.sum ≤ 500 * (g.length : Int)
  | [], _ => by simp
  | x :: g, h => by
    obtain ⟨h1, h2⟩ := sum_bd g (fun y hy => h y (List.mem_cons_of_mem _ hy))
    have := h x List.mem_cons_self
    rw [List.sum_cons, List.length_cons]; omega
theorem flat_len (b : Nat) : ∀ c : List (List Int), (∀ g ∈ c, g.length ≤ b) → c.flatten.length ≤ c.length * b
  | [], _ => by simp
  | g :: c, h => by
    have h1 := flat_len b c (fun y hy => h y (List.mem_cons_of_mem _ hy))
    have h2 := h g List.mem_cons_self
    rw [List.flatten_cons, List.length_append, List.length_cons, Nat.add_mul]; omega
theorem rdInt (l : List Int) (j : Nat) : rd l (j : Int) = l.getD j 0 := by unfold rd; rw [Int.toNat_natCast]
theorem codeCut_zero (c : List (List Int)) (h : ¬ (codeCut c).2.2.2 = true) : codeCut c = (0, 0, [], false) := by
  unfold codeCut codeV at *
  split at h
  · rename_i h1
    split at h
    · rename_i h2; exact absurd h2.1 h
    · rename_i h2; rw [if_pos h1, if_neg h2]
  · rename_i h1; rw [if_neg h1]

/-! the program -/
theorem sum_loop (g : List Int) (hg : g.length ≤ 100000) (hx : ∀ x ∈ g, 1 ≤ x ∧ x ≤ 500) : ∀ (t : List Int) (i : Nat) (a : Int), g.drop i = t → i + t.length = g.length → 0 ≤ a → a + t.sum ≤ 100000000 → Ev (fun k => impl_sum.l0 k a g (g.length : Int) (i : Int)) (a + t.sum) := by
  intro t
  induction t with
  | nil =>
    intro i a hd hi h0 h1
    simp only [List.length_nil] at hi
    refine Ev.succ ?_
    simp only [impl_sum.l0]
    exact Ev.neg (by omega) (Ev.eqr (Ev.now _) (by simp))
  | cons x t ih =>
    intro i a hd hi h0 h1
    obtain ⟨h2, h3, h4, h5⟩ := row_drop g i x t hd 0
    have hx1 := hx x h5
    have ht : 0 ≤ t.sum := (sum_bd t (fun y hy => hx y (by rw [← h4] at hy; exact List.mem_of_mem_drop hy))).1
    simp only [List.length_cons] at hi
    rw [List.sum_cons] at h1 ⊢
    refine Ev.succ ?_
    simp only [impl_sum.l0, rdInt, h3]
    refine Ev.pos (by omega) (Ev.pos (by omega) (Ev.pos (by omega) ?_))
    rw [wrap64_id (n := a + x) (by omega) (by omega), wrap64_id (n := (i : Int) + 1) (by omega) (by omega)]
    exact Ev.eqr (ih (i + 1) (a + x) h4 (by omega) (by omega) (by omega)) (by omega)
theorem sum_ev (g : List Int) (hg : g.length ≤ 30) (hx : ∀ x ∈ g, 1 ≤ x ∧ x ≤ 500) : Ev (fun k => impl_sum.f k g) g.sum := by
  unfold impl_sum.f
  have := (sum_bd g hx).2
  exact Ev.eqr (sum_loop g (by omega) hx g 0 0 rfl (by omega) (by omega) (by omega)) (by omega)
theorem cat_l1 (c : List (List Int)) (hc : c.length ≤ 1000) (hr : ∀ g ∈ c, g.length ≤ 1000) : ∀ (t : List (List Int)) (i : Nat) (a : List Int), c.drop i = t → i + t.length = c.length → a.length + t.length * 1000 ≤ 100000000 → Ev (fun k => slices_Concat_int_int.l1 k a c (c.length : Int) (i : Int)) (a ++ t.flatten) := by
  intro t
  induction t with
  | nil =>
    intro i a hd hi h
    simp only [List.length_nil] at hi
    refine Ev.succ ?_
    simp only [slices_Concat_int_int.l1]
    exact Ev.neg (by omega) (Ev.eqr (Ev.now _) (by simp))
  | cons g t ih =>
    intro i a hd hi h
    obtain ⟨h2, h3, h4, h5⟩ := row_drop c i g t hd []
    have hgl := hr g h5
    simp only [List.length_cons] at hi h
    refine Ev.succ ?_
    simp only [slices_Concat_int_int.l1, rdLrow, h3]
    refine Ev.pos (by omega) (Ev.pos (by omega) (Ev.pos (by omega) (Ev.pos (by omega) ?_)))
    rw [wrap64_id (n := (i : Int) + 1) (by omega) (by omega)]
    exact Ev.eqr (ih (i + 1) (a ++ g) h4 (by omega) (by rw [List.length_append]; omega)) (by simp)
theorem cat_l0 (c : List (List Int)) (hc : c.length ≤ 1000) (hr : ∀ g ∈ c, g.length ≤ 1000) : ∀ (t : List (List Int)) (i : Nat) (a : Int), c.drop i = t → i + t.length = c.length → 0 ≤ a → a ≤ (i : Int) * 1000 → Ev (fun k => slices_Concat_int_int.l0 k c a c (c.length : Int) (i : Int)) c.flatten := by
  intro t
  induction t with
  | nil =>
    intro i a hd hi h0 h1
    simp only [List.length_nil] at hi
    refine Ev.succ ?_
    simp only [slices_Concat_int_int.l0]
    refine Ev.neg (by omega) (Ev.bindc (a := []) ?_ ?_)
    · unfold slices_Grow_int_int.f
      rw [if_pos ⟨rfl, h0, by omega⟩]
    · exact Ev.eqr (cat_l1 c hc hr c 0 [] rfl (by omega) (by simp; omega)) (by simp)
  | cons g t ih =>
    intro i a hd hi h0 h1
    obtain ⟨h2, h3, h4, h5⟩ := row_drop c i g t hd []
    have hgl := hr g h5
    simp only [List.length_cons] at hi
    refine Ev.succ ?_
    simp only [slices_Concat_int_int.l0, rdLrow, h3]
    have e1 : wrap64 (a + (g.length : Int)) = a + (g.length : Int) := wrap64_id (by omega) (by omega)
    rw [e1]
    clear e1
    refine Ev.pos (by omega) (Ev.pos (by omega) (Ev.pos (by omega) (Ev.neg (by omega) ?_)))
    rw [wrap64_id (n := (i : Int) + 1) (by omega) (by omega)]
    exact ih (i + 1) (a + (g.length : Int)) h4 (by omega) (by omega) (by omega)
theorem cat_ev (c : List (List Int)) (hc : c.length ≤ 1000) (hr : ∀ g ∈ c, g.length ≤ 1000) : Ev (fun k => slices_Concat_int_int.f k c) c.flatten := by
  unfold slices_Concat_int_int.f
  exact cat_l0 c hc hr c 0 0 rfl (by omega) (by omega) (by omega)
theorem eqL_loop (x y : List Int) (hl : x.length = y.length) (hx : x.length ≤ 100000) : ∀ (t : List Int) (i : Nat), x.drop i = t → i + t.length = x.length → Ev (fun k => slices_Equal_int_int.l0 k x y (x.length : Int) (i : Int)) (decide (t = y.drop i)) := by
  intro t
  induction t with
  | nil =>
    intro i hd hi
    simp only [List.length_nil] at hi
    refine Ev.succ ?_
    simp only [slices_Equal_int_int.l0]
    refine Ev.neg (by omega) (Ev.eqr (Ev.now _) (decide_eq_true ?_).symm)
    rw [List.drop_eq_nil_of_le (by omega)]
  | cons a t ih =>
    intro i hd hi
    obtain ⟨h2, h3, h4, h5⟩ := row_drop x i a t hd 0
    simp only [List.length_cons] at hi
    have hy : i < y.length := by omega
    have hyd : y.getD i 0 = y[i] := by rw [List.getD_eq_getElem?_getD, List.getElem?_eq_getElem hy]; rfl
    refine Ev.succ ?_
    simp only [slices_Equal_int_int.l0, rdInt, h3]
    refine Ev.pos (by omega) (Ev.pos (by omega) (Ev.pos (by omega) (Ev.pos (by omega) ?_)))
    rw [List.drop_eq_getElem_cons hy, hyd]
    by_cases e : a = y[i]
    · refine Ev.pos e ?_
      rw [wrap64_id (n := (i : Int) + 1) (by omega) (by omega)]
      refine Ev.eqr (ih (i + 1) h4 (by omega)) (decide_eq_decide.2 ?_)
      rw [e]; exact ⟨fun h => by rw [h], fun h => by injection h⟩
    · exact Ev.neg e (Ev.eqr (Ev.now _) (decide_eq_false (fun h => e (by injection h))).symm)
theorem eqL_ev (x y : List Int) (hx : x.length ≤ 100000) : Ev (fun k => slices_Equal_int_int.f k x y) (decide (x = y)) := by
  unfold slices_Equal_int_int.f
  by_cases h : x.length = y.length
  · exact Ev.pos (by omega) (Ev.eqr (eqL_loop x y h hx x 0 rfl (by omega)) (by simp))
  · exact Ev.neg (by omega) (Ev.eqr (Ev.now _) (decide_eq_false (fun e => h (by rw [e]))).symm)
theorem eqLL_loop (x y : List (List Int)) (hl : x.length = y.length) (hx : x.length ≤ 100000) (hr : ∀ g ∈ x, g.length ≤ 100000) : ∀ (t : List (List Int)) (i : Nat), x.drop i = t → i + t.length = x.length → Ev (fun k => slices_EqualFunc_int_int_int_int__impl_sameLists_1.l0 k y x (x.length : Int) (i : Int)) (decide (t = y.drop i)) := by
  intro t
  induction t with
  | nil =>
    intro i hd hi
    simp only [List.length_nil] at hi
    refine Ev.succ ?_
    simp only [slices_EqualFunc_int_int_int_int__impl_sameLists_1.l0]
    refine Ev.neg (by omega) (Ev.eqr (Ev.now _) (decide_eq_true ?_).symm)
    rw [List.drop_eq_nil_of_le (by omega)]
  | cons a t ih =>
    intro i hd hi
    obtain ⟨h2, h3, h4, h5⟩ := row_drop x i a t hd []
    simp only [List.length_cons] at hi
    have hy : i < y.length := by omega
    have hyd : y.getD i [] = y[i] := by rw [List.getD_eq_getElem?_getD, List.getElem?_eq_getElem hy]; rfl
    refine Ev.succ ?_
    simp only [slices_EqualFunc_int_int_int_int__impl_sameLists_1.l0, rdLrow, h3]
    refine Ev.pos (by omega) (Ev.pos (by omega) (Ev.pos (by omega) (Ev.pos (by omega) (Ev.bind (a := decide (a = y[i])) ?_ ?_))))
    · unfold impl_sameLists_1.f
      rw [hyd]
      exact Ev.bind (eqL_ev a y[i] (hr a h5)) (Ev.now _)
    · rw [List.drop_eq_getElem_cons hy]
      by_cases e : a = y[i]
      · refine Ev.pos (decide_eq_true e) ?_
        rw [wrap64_id (n := (i : Int) + 1) (by omega) (by omega)]
        refine Ev.eqr (ih (i + 1) h4 (by omega)) (decide_eq_decide.2 ?_)
        rw [e]; exact ⟨fun h => by rw [h], fun h => by injection h⟩
      · exact Ev.neg (by simpa using e) (Ev.eqr (Ev.now _) (decide_eq_false (fun h => e (by injection h))).symm)
theorem sameLists_ev (x y : List (List Int)) (hx : x.length ≤ 100000) (hr : ∀ g ∈ x, g.length ≤ 100000) : Ev (fun k => impl_sameLists.f k x y) (decide (x = y)) := by
  unfold impl_sameLists.f slices_EqualFunc_int_int_int_int__impl_sameLists_1.f
  refine Ev.bind (a := decide (x = y)) ?_ (Ev.now _)
  by_cases h : x.length = y.length
  · exact Ev.pos (by omega) (Ev.eqr (eqLL_loop x y h hx hr x 0 rfl (by omega)) (by simp))
  · exact Ev.neg (by omega) (Ev.eqr (Ev.now _) (decide_eq_false (fun e => h (by rw [e]))).symm)
def grpOk (g : List Int) : Prop := g.length ≤ 30 ∧ ∀ x ∈ g, 1 ≤ x ∧ x ≤ 500
instance (g : List Int) : Decidable (grpOk g) := by unfold grpOk; infer_instance
theorem grp_eq (g : List Int) : impl_CutOfCode_1.f g = some (!decide (grpOk g)) := by
  unfold impl_CutOfCode_1.f
  rw [areW_eq, Option.bind_some]
  by_cases h : ∀ x ∈ g, 1 ≤ x ∧ x ≤ 500
  · rw [if_pos (decide_eq_true h)]
    by_cases h2 : g.length ≤ 30
    · rw [decide_eq_false (show ¬ (g.length : Int) > 30 by omega), decide_eq_true (show grpOk g from ⟨h2, h⟩)]; rfl
    · rw [decide_eq_true (show (g.length : Int) > 30 by omega), decide_eq_false (show ¬ grpOk g from fun z => h2 z.1)]; rfl
  · rw [if_neg (by simpa using h), decide_eq_false (show ¬ grpOk g from fun z => h z.2)]; rfl
theorem grp_loop (c : List (List Int)) (hc : c.length ≤ 1000) : ∀ (t : List (List Int)) (i : Nat), c.drop i = t → i + t.length = c.length → ∃ q, Ev (fun k => slices_IndexFunc_int_int__impl_CutOfCode_1.l0 k c (c.length : Int) (i : Int)) q ∧ (q ≥ 0 ↔ ∃ g ∈ t, ¬ grpOk g) := by
  intro t
  induction t with
  | nil =>
    intro i hd hi
    simp only [List.length_nil] at hi
    refine ⟨-1, Ev.succ ?_, by simp⟩
    simp only [slices_IndexFunc_int_int__impl_CutOfCode_1.l0]
    exact Ev.neg (by omega) (Ev.now _)
  | cons g t ih =>
    intro i hd hi
    obtain ⟨h2, h3, h4, h5⟩ := row_drop c i g t hd []
    simp only [List.length_cons] at hi
    by_cases e : grpOk g
    · obtain ⟨q, hq, hiff⟩ := ih (i + 1) h4 (by omega)
      refine ⟨q, Ev.succ ?_, by rw [hiff]; simp [e]⟩
      simp only [slices_IndexFunc_int_int__impl_CutOfCode_1.l0, rdLrow, h3]
      refine Ev.pos (by omega) (Ev.pos (by omega) (Ev.pos (by omega) (Ev.bindc (grp_eq g) (Ev.neg (by simpa using e) ?_))))
      rw [wrap64_id (n := (i : Int) + 1) (by omega) (by omega)]
      exact hq
    · refine ⟨(i : Int), Ev.succ ?_, ⟨fun _ => ⟨g, List.mem_cons_self, e⟩, fun _ => by omega⟩⟩
      simp only [slices_IndexFunc_int_int__impl_CutOfCode_1.l0, rdLrow, h3]
      exact Ev.pos (by omega) (Ev.pos (by omega) (Ev.pos (by omega) (Ev.bindc (grp_eq g) (Ev.pos (by simpa using e) (Ev.now _)))))
theorem impl_CutOfCode_ev (c : List (List Int)) : Ev (fun k => impl_CutOfCode.f k c) (codeCut c) := by
  have fall : ¬ GroupsOk 0 c → Ev (fun k => impl_CutOfCode.j0 k c true) (codeCut c) := fun h => by
    unfold codeCut
    rw [if_neg (fun z => h ⟨z.1, fun g hg => ⟨⟨Nat.zero_le _, (z.2 g hg).1.2⟩, (z.2 g hg).2⟩⟩)]
    refine Ev.succ ?_
    simp only [impl_CutOfCode.j0]
    exact Ev.pos trivial (Ev.now _)
  unfold impl_CutOfCode.f
  refine Ev.bindc (within_eq _ _ _) ?_
  by_cases c1 : 1 ≤ (c.length : Int) ∧ (c.length : Int) ≤ 30
  · rw [decide_eq_true c1]
    obtain ⟨q, hq, hiff⟩ := grp_loop c (by omega) c 0 rfl (by omega)
    refine Ev.pos rfl (Ev.bind (a := decide (q ≥ 0)) ?_ ?_)
    · unfold slices_ContainsFunc_int_int__impl_CutOfCode_1.f slices_IndexFunc_int_int__impl_CutOfCode_1.f
      exact Ev.bind hq (Ev.now _)
    · by_cases c2 : q ≥ 0
      · rw [decide_eq_true c2]
        obtain ⟨g, hg, hn⟩ := hiff.1 c2
        exact fall (fun z => hn ⟨(z.2 g hg).1.2, (z.2 g hg).2⟩)
      · rw [decide_eq_false c2]
        have hall : ∀ g ∈ c, grpOk g := fun g hg => Decidable.byContradiction fun hn => c2 (hiff.2 ⟨g, hg, hn⟩)
        have h0 : c.getD 0 [] ∈ c := by
          rw [List.getD_eq_getElem?_getD, List.getElem?_eq_getElem (show 0 < c.length by omega)]
          exact List.getElem_mem _
        refine Ev.succ ?_
        simp only [impl_CutOfCode.j0]
        refine Ev.neg (by simp) (Ev.pos (by omega) ?_)
        rw [show rd_L2 c 0 = c.getD 0 [] from rdLrow c 0]
        refine Ev.bind (sum_ev _ (hall _ h0).1 (hall _ h0).2) (Ev.bind (cat_ev c (by omega) (fun g hg => by have := (hall g hg).1; omega)) (Ev.bind (impl_CutOfSides_ev _ _) ?_))
        have key : codeCut c = codeV c (fillV (c.getD 0 []).sum c.flatten) := by
          unfold codeCut
          by_cases hg : GroupsOk 1 c
          · rw [if_pos hg]
          · rw [if_neg hg, codeV_bad hg (by omega) hall]
        rw [key]
        have hgood := fillV_good (W := (c.getD 0 []).sum) (T := c.flatten)
        generalize fillV (c.getD 0 []).sum c.flatten = B at hgood ⊢
        obtain ⟨W, H, l, b⟩ := B
        dsimp only at hgood ⊢
        unfold codeV
        dsimp only
        cases b with
        | false => exact Ev.neg (by decide) (Ev.eqr (Ev.now _) (by rw [if_neg (fun z => by cases z.1)]))
        | true =>
          have hg := hgood rfl
          have hl := hg.2.2.1
          refine Ev.pos rfl (Ev.bind (impl_codeOf_ev hg) (Ev.bind (sameLists_ev _ c (by have := (codeTo_len l l.length).1; omega) (fun g hg => by have := codeTo_group l l.length g hg; omega)) ?_))
          by_cases e : codeTo l l.length = c
          · rw [if_pos (show true = true ∧ codeTo l l.length = c from ⟨rfl, e⟩)]
            exact Ev.pos (decide_eq_true e) (Ev.now _)
          · rw [if_neg (show ¬ (true = true ∧ codeTo l l.length = c) from fun z => e z.2)]
            exact Ev.neg (by simpa using e) (Ev.now _)
  · rw [decide_eq_false c1]
    exact Ev.neg (by decide) (fall (fun z => c1 (by have := z.1; omega)))

/-! the reference -/
theorem same_eq : ∀ (k : Nat) (x y : List Int) (n i : Int), spec_l1Same.l0 k x y n i = slices_Equal_int_int.l0 k x y n i
  | 0, _, _, _, _ => rfl
  | k + 1, x, y, n, i => by simp only [spec_l1Same.l0, slices_Equal_int_int.l0, same_eq k]
theorem l1Same_ev (x y : List Int) (hx : x.length ≤ 100000) : Ev (fun k => spec_l1Same.f k x y) (decide (x = y)) := by
  have h := eqL_ev x y hx
  unfold spec_l1Same.f
  unfold slices_Equal_int_int.f at h
  simp only [same_eq]
  exact h
theorem rows_loop (x y : List (List Int)) (hl : x.length = y.length) (hx : x.length ≤ 100000) (hr : ∀ g ∈ x, g.length ≤ 100000) : ∀ (t : List (List Int)) (i : Nat), x.drop i = t → i + t.length = x.length → Ev (fun k => spec_bkRows.l0 k y x (x.length : Int) (i : Int)) (decide (t = y.drop i)) := by
  intro t
  induction t with
  | nil =>
    intro i hd hi
    simp only [List.length_nil] at hi
    refine Ev.succ ?_
    simp only [spec_bkRows.l0]
    refine Ev.neg (by omega) (Ev.eqr (Ev.now _) (decide_eq_true ?_).symm)
    rw [List.drop_eq_nil_of_le (by omega)]
  | cons a t ih =>
    intro i hd hi
    obtain ⟨h2, h3, h4, h5⟩ := row_drop x i a t hd []
    simp only [List.length_cons] at hi
    have hy : i < y.length := by omega
    have hyd : y.getD i [] = y[i] := by rw [List.getD_eq_getElem?_getD, List.getElem?_eq_getElem hy]; rfl
    refine Ev.succ ?_
    simp only [spec_bkRows.l0, rdLrow, h3, hyd]
    refine Ev.pos (by omega) (Ev.pos (by omega) (Ev.pos (by omega) (Ev.pos (by omega) (Ev.bind (l1Same_ev a y[i] (hr a h5)) ?_))))
    rw [List.drop_eq_getElem_cons hy]
    by_cases e : a = y[i]
    · refine Ev.pos (decide_eq_true e) ?_
      rw [wrap64_id (n := (i : Int) + 1) (by omega) (by omega)]
      refine Ev.eqr (ih (i + 1) h4 (by omega)) (decide_eq_decide.2 ?_)
      rw [e]; exact ⟨fun h => by rw [h], fun h => by injection h⟩
    · exact Ev.neg (by simpa using e) (Ev.eqr (Ev.now _) (decide_eq_false (fun h => e (by injection h))).symm)
theorem rows_ev (x y : List (List Int)) (hx : x.length ≤ 100000) (hr : ∀ g ∈ x, g.length ≤ 100000) : Ev (fun k => spec_bkRows.f k x y) (decide (x = y)) := by
  unfold spec_bkRows.f
  by_cases h : x.length = y.length
  · exact Ev.pos (by omega) (Ev.eqr (rows_loop x y h hx hr x 0 rfl (by omega)) (by simp))
  · exact Ev.neg (by omega) (Ev.eqr (Ev.now _) (decide_eq_false (fun e => h (by rw [e]))).symm)
theorem sides_loop (c : List (List Int)) (hc : c.length ≤ 1000) (hr : ∀ g ∈ c, g.length ≤ 1000) : ∀ (t : List (List Int)) (i : Nat) (a : List Int), c.drop i = t → i + t.length = c.length → a.length + t.length * 1000 ≤ 100000000 → Ev (fun k => spec_bkSides.l0 k a c (c.length : Int) (i : Int)) (a ++ t.flatten) := by
  intro t
  induction t with
  | nil =>
    intro i a hd hi h
    simp only [List.length_nil] at hi
    refine Ev.succ ?_
    simp only [spec_bkSides.l0]
    exact Ev.neg (by omega) (Ev.eqr (Ev.now _) (by simp))
  | cons g t ih =>
    intro i a hd hi h
    obtain ⟨h2, h3, h4, h5⟩ := row_drop c i g t hd []
    have hgl := hr g h5
    simp only [List.length_cons] at hi h
    refine Ev.succ ?_
    simp only [spec_bkSides.l0, rdLrow, h3]
    refine Ev.pos (by omega) (Ev.pos (by omega) (Ev.pos (by omega) (Ev.pos (by omega) ?_)))
    rw [wrap64_id (n := (i : Int) + 1) (by omega) (by omega)]
    exact Ev.eqr (ih (i + 1) (a ++ g) h4 (by omega) (by rw [List.length_append]; omega)) (by simp)
theorem bkSides_ev (c : List (List Int)) (hc : c.length ≤ 1000) (hr : ∀ g ∈ c, g.length ≤ 1000) : Ev (fun k => spec_bkSides.f k c) c.flatten := by
  unfold spec_bkSides.f
  exact Ev.eqr (sides_loop c hc hr c 0 [] rfl (by omega) (by simp; omega)) (by simp)
theorem bk_l1 (c : List (List Int)) (hok : GroupsOk 1 c) : ∀ (t : List Int) (i : Nat) (a : Int), (c.getD 0 []).drop i = t → i + t.length = (c.getD 0 []).length → 0 ≤ a → a + t.sum = (c.getD 0 []).sum →
    Ev (fun k => spec_bkCut.l1 k c a (c.getD 0 []) ((c.getD 0 []).length : Int) (i : Int)) (codeCut c) := by
  have h30 := hok.1
  have h0 : c.getD 0 [] ∈ c := by
    rw [List.getD_eq_getElem?_getD, List.getElem?_eq_getElem (show 0 < c.length by omega)]
    exact List.getElem_mem _
  obtain ⟨hg1, hg2⟩ := hok.2 _ h0
  intro t
  induction t with
  | nil =>
    intro i a hd hi ha hs
    simp only [List.length_nil] at hi
    simp only [List.sum_nil, Int.add_zero] at hs
    refine Ev.succ ?_
    simp only [spec_bkCut.l1]
    have fl : c.flatten.length ≤ c.length * 30 := flat_len 30 c (fun g hg => (hok.2 g hg).1.2)
    refine Ev.neg (by omega) (Ev.bind (bkSides_ev c (by omega) (fun g hg => by have := (hok.2 g hg).1; omega)) ?_)
    rw [hs]
    refine Ev.bind (spec_bkFill_ev _ _ (by omega)) ?_
    have key : codeCut c = codeV c (fillV (c.getD 0 []).sum c.flatten) := by unfold codeCut; rw [if_pos hok]
    rw [key]
    have hgood := fillV_good (W := (c.getD 0 []).sum) (T := c.flatten)
    generalize fillV (c.getD 0 []).sum c.flatten = B at hgood ⊢
    obtain ⟨W, H, l, b⟩ := B
    dsimp only at hgood ⊢
    unfold codeV
    dsimp only
    cases b with
    | false => exact Ev.neg (by decide) (Ev.eqr (Ev.now _) (by rw [if_neg (fun z => by cases z.1)]))
    | true =>
      have hg := hgood rfl
      have hl := hg.2.2.1
      refine Ev.pos rfl (Ev.bind (spec_bkCode_ev hg) (Ev.bind (rows_ev _ c (by have := (codeTo_len l l.length).1; omega) (fun g hg => by have := codeTo_group l l.length g hg; omega)) ?_))
      by_cases e : codeTo l l.length = c
      · rw [if_pos (show true = true ∧ codeTo l l.length = c from ⟨rfl, e⟩)]
        exact Ev.pos (decide_eq_true e) (Ev.now _)
      · rw [if_neg (show ¬ (true = true ∧ codeTo l l.length = c) from fun z => e z.2)]
        exact Ev.neg (by simpa using e) (Ev.now _)
  | cons x t ih =>
    intro i a hd hi ha hs
    obtain ⟨h2, h3, h4, h5⟩ := row_drop (c.getD 0 []) i x t hd 0
    have hx := hg2 x h5
    have ht := (sum_bd t (fun y hy => hg2 y (by rw [← h4] at hy; exact List.mem_of_mem_drop hy))).1
    have hb := (sum_bd _ hg2).2
    simp only [List.length_cons] at hi
    rw [List.sum_cons] at hs
    refine Ev.succ ?_
    simp only [spec_bkCut.l1, rdInt, h3]
    refine Ev.pos (by omega) (Ev.pos (by omega) (Ev.pos (by omega) ?_))
    rw [wrap64_id (n := a + x) (by omega) (by omega), wrap64_id (n := (i : Int) + 1) (by omega) (by omega)]
    exact ih (i + 1) (a + x) h4 (by omega) (by omega) (by omega)
theorem bk_l0 (c : List (List Int)) (h30 : 1 ≤ c.length ∧ c.length ≤ 30) : ∀ (t : List (List Int)) (i : Nat) (d : List (List Int)), c = d ++ t → d.length = i → (∀ g ∈ d, (1 ≤ g.length ∧ g.length ≤ 30) ∧ ∀ x ∈ g, 1 ≤ x ∧ x ≤ 500) →
    Ev (fun k => spec_bkCut.l0 k c (d.flatten.length : Int) c (c.length : Int) (i : Int)) (codeCut c) := by
  intro t
  induction t with
  | nil =>
    intro i d hd hi h
    rw [List.append_nil] at hd
    subst hd
    have hok : GroupsOk 1 c := ⟨h30, h⟩
    refine Ev.succ ?_
    simp only [spec_bkCut.l0]
    refine Ev.neg (by omega) ?_
    by_cases e : (c.flatten.length : Int) > 30
    · refine Ev.pos e (Ev.eqr (Ev.now _) ?_)
      unfold codeCut codeV fillV
      rw [if_pos hok, if_neg (show ¬ SidesOk (c.getD 0 []).sum c.flatten from fun z => by have := z.2.1; omega), if_neg (fun z => by cases z.1)]
    · refine Ev.neg e (Ev.pos (by omega) ?_)
      rw [show rd_L2 c 0 = c.getD 0 [] from rdLrow c 0]
      exact bk_l1 c hok (c.getD 0 []) 0 0 rfl (by omega) (by omega) (by omega)
  | cons g t ih =>
    intro i d hd hi h
    have hdrop : c.drop i = g :: t := by rw [hd, ← hi]; simp
    obtain ⟨h2, h3, h4, h5⟩ := row_drop c i g t hdrop []
    have no : ¬ ((1 ≤ g.length ∧ g.length ≤ 30) ∧ ∀ x ∈ g, 1 ≤ x ∧ x ≤ 500) → codeCut c = (0, 0, [], false) := fun hn => by
      unfold codeCut; rw [if_neg (fun z => hn (z.2 g h5))]
    have fl : d.flatten.length ≤ d.length * 30 := flat_len 30 d (fun g hg => (h g hg).1.2)
    have dl : d.length ≤ 30 := by rw [hd, List.length_append] at h30; omega
    refine Ev.succ ?_
    simp only [spec_bkCut.l0, rdLrow, h3]
    refine Ev.pos (by omega) (Ev.pos (by omega) (Ev.pos (by omega) (Ev.bindc (l1In_eq _ _ _) ?_)))
    by_cases c1 : 1 ≤ (g.length : Int) ∧ (g.length : Int) ≤ 30
    · rw [decide_eq_true c1]
      refine Ev.pos rfl (Ev.bind (a := decide (∀ x ∈ g, 1 ≤ x ∧ x ≤ 500)) ?_ ?_)
      · unfold spec_l1All.f
        exact l1All_loop 1 500 g (by omega) g 0 rfl (by omega)
      · by_cases c2 : ∀ x ∈ g, 1 ≤ x ∧ x ≤ 500
        · refine Ev.pos (decide_eq_true c2) ?_
          have := ih (i + 1) (d ++ [g]) (by rw [hd]; simp) (by simp; omega) (fun y hy => by
            rcases List.mem_append.1 hy with hy | hy
            · exact h y hy
            · rw [List.mem_singleton.1 hy]; exact ⟨by omega, c2⟩)
          have e : ((d ++ [g]).flatten.length : Int) = (d.flatten.length : Int) + (g.length : Int) := by simp
          rw [e] at this
          rw [wrap64_id (n := (d.flatten.length : Int) + (g.length : Int)) (by omega) (by omega), wrap64_id (n := (i : Int) + 1) (by omega) (by omega)]
          exact this
        · exact Ev.neg (by simpa using c2) (Ev.eqr (Ev.now _) (no (fun z => c2 z.2)).symm)
    · rw [decide_eq_false c1]
      exact Ev.neg (by decide) (Ev.eqr (Ev.now _) (no (fun z => c1 (by omega))).symm)
theorem spec_bkCut_ev (c : List (List Int)) : Ev (fun k => spec_bkCut.f k c) (codeCut c) := by
  unfold spec_bkCut.f
  refine Ev.bindc (l1In_eq _ _ _) ?_
  by_cases c1 : 1 ≤ (c.length : Int) ∧ (c.length : Int) ≤ 30
  · rw [decide_eq_true c1]
    exact Ev.pos rfl (bk_l0 c (by omega) c 0 [] rfl rfl (fun g hg => by cases hg))
  · rw [decide_eq_false c1]
    refine Ev.neg (by decide) (Ev.eqr (Ev.now _) ?_)
    unfold codeCut; rw [if_neg (fun z => c1 (by have := z.1; omega))]

/-! ### lists of numbers: the same, marked, held -/
theorem rd_int (l : List Int) (j : Nat) (h : j < l.length) : rd l (j : Int) = l[j] := by unfold rd; rw [Int.toNat_natCast]; simp [List.getD, h]
theorem eqIntS_loop (l : List Int) (hl : l.length ≤ 1099511627776) : ∀ (d i : Nat), l.length - i = d → i ≤ l.length → Ev (fun k => laws_eqIntS.l0 k l l (i : Int)) true := by
  intro d
  induction d with
  | zero =>
    intro i hd hi
    refine Ev.succ ?_
    simp only [laws_eqIntS.l0]
    exact Ev.neg (by omega) (Ev.now _)
  | succ d ih =>
    intro i hd hi
    refine Ev.succ ?_
    simp only [laws_eqIntS.l0]
    refine Ev.pos (by omega) (Ev.pos (by omega) (Ev.pos (by omega) (Ev.pos trivial ?_)))
    rw [wrap64_id (by omega) (by omega)]
    exact ih (i + 1) (by omega) (by omega)
theorem eqIntS_ev (l : List Int) (hl : l.length ≤ 1099511627776) : Ev (fun k => laws_eqIntS.f k l l) true := by
  unfold laws_eqIntS.f
  exact Ev.pos rfl (eqIntS_loop l hl l.length 0 (by omega) (Nat.zero_le _))
/-- the numbers from s on -/
def upFrom (s : Int) : Nat → List Int
  | 0 => []
  | n + 1 => s :: upFrom (s + 1) n
theorem upFrom_length (n : Nat) : ∀ s, (upFrom s n).length = n := by
  induction n with
  | zero => intro s; rfl
  | succ n ih => intro s; simp [upFrom, ih]
theorem upFrom_get (n : Nat) : ∀ (s : Int) (i : Nat), i < n → (upFrom s n)[i]? = some (s + i) := by
  induction n with
  | zero => intro s i h; omega
  | succ n ih =>
    intro s i h
    cases i with
    | zero => simp [upFrom]
    | succ i => simp only [upFrom, List.getElem?_cons_succ]; rw [ih (s + 1) i (by omega)]; congr 1; omega
theorem markIntS_loop (N : Nat) (hN : N ≤ 1099511627776) (s : Int) (hs : 0 ≤ s) (hs2 : s ≤ 1099511627776) : ∀ (d i : Nat) (x : List Int), N - i = d → i ≤ N → x.length = N → (∀ m, m < i → x[m]? = (upFrom s N)[m]?) →
    Ev (fun k => laws_markIntS.l0 k x (s + i) (i : Int)) (s + N, upFrom s N) := by
  intro d
  induction d with
  | zero =>
    intro i x hd hi hx h
    obtain rfl : i = N := by omega
    refine Ev.succ ?_
    simp only [laws_markIntS.l0]
    refine Ev.neg (by omega) (Ev.eqr (Ev.now _) ?_)
    congr 1
    apply List.ext_getElem?
    intro m
    by_cases hm : m < i
    · exact h m hm
    · rw [List.getElem?_eq_none (by omega), List.getElem?_eq_none (by rw [upFrom_length]; omega)]
  | succ d ih =>
    intro i x hd hi hx h
    refine Ev.succ ?_
    simp only [laws_markIntS.l0]
    refine Ev.pos (by omega) (Ev.pos (by omega) ?_)
    rw [Int.toNat_natCast, wrap64_id (n := s + i + 1) (by omega) (by omega), wrap64_id (n := (i : Int) + 1) (by omega) (by omega)]
    have e : s + (i : Int) + 1 = s + ((i + 1 : Nat) : Int) := by omega
    rw [e]
    refine ih (i + 1) _ (by omega) (by omega) (by simp; omega) (fun m hm => ?_)
    by_cases e : m = i
    · subst e
      rw [List.getElem?_set_self (by omega), upFrom_get _ _ _ (by omega)]
    · rw [List.getElem?_set_ne (by omega)]; exact h m (by omega)
theorem heldIntS_loop (N : Nat) (hN : N ≤ 1099511627776) (s : Int) (hs : 0 ≤ s) (hs2 : s ≤ 1099511627776) : ∀ (d i : Nat), N - i = d → i ≤ N →
    Ev (fun k => laws_heldIntS.l0 k (upFrom s N) (s + i) (i : Int)) (s + N) := by
  intro d
  induction d with
  | zero =>
    intro i hd hi
    obtain rfl : i = N := by omega
    refine Ev.succ ?_
    simp only [laws_heldIntS.l0, upFrom_length]
    exact Ev.neg (by omega) (Ev.now _)
  | succ d ih =>
    intro i hd hi
    refine Ev.succ ?_
    simp only [laws_heldIntS.l0, upFrom_length]
    have hr : rd (upFrom s N) (i : Int) = s + i := by
      unfold rd; rw [Int.toNat_natCast, List.getD_eq_getElem?_getD, upFrom_get _ _ _ (by omega)]; rfl
    refine Ev.pos (by omega) (Ev.pos (by omega) (Ev.pos hr ?_))
    rw [wrap64_id (n := s + i + 1) (by omega) (by omega), wrap64_id (n := (i : Int) + 1) (by omega) (by omega)]
    have e : s + (i : Int) + 1 = s + ((i + 1 : Nat) : Int) := by omega
    rw [e]
    exact ih (i + 1) (by omega) (by omega)
theorem markIntS_ev (l : List Int) (hl : l.length ≤ 1099511627776) (s : Int) (hs : 0 ≤ s) (hs2 : s ≤ 1099511627776) : Ev (fun k => laws_markIntS.f k l s) (s + (l.length : Int), upFrom s l.length) := by
  unfold laws_markIntS.f
  have := markIntS_loop l.length hl s hs hs2 l.length 0 l (by omega) (Nat.zero_le _) rfl (fun m hm => by omega)
  simpa using this
theorem heldIntS_ev (n : Nat) (hl : n ≤ 1099511627776) (s : Int) (hs : 0 ≤ s) (hs2 : s ≤ 1099511627776) : Ev (fun k => laws_heldIntS.f k (upFrom s n) s) (s + (n : Int)) := by
  unfold laws_heldIntS.f
  have := heldIntS_loop n hl s hs hs2 n 0 (by omega) (Nat.zero_le _)
  simpa using this

/-! ### lists of lists of numbers: the same, marked, held -/
def totL : List (List Int) → Int
  | [] => 0
  | r :: t => (r.length : Int) + totL t
theorem totL_nonneg : ∀ t : List (List Int), 0 ≤ totL t
  | [] => by simp [totL]
  | r :: t => by have := totL_nonneg t; simp only [totL]; omega
theorem totL_le (b : Nat) : ∀ t : List (List Int), (∀ r ∈ t, r.length ≤ b) → totL t ≤ t.length * b
  | [], _ => by simp [totL]
  | r :: t, h => by
    have h1 := totL_le b t (fun r hr => h r (List.mem_cons_of_mem _ hr))
    have h2 := h r List.mem_cons_self
    simp only [totL, List.length_cons, Int.natCast_add, Int.add_mul]
    omega
theorem row_mid (d : List (List Int)) (r : List Int) (t : List (List Int)) : (d ++ r :: t).getD d.length [] = r := by simp [List.getD]
theorem set_mid (d : List (List Int)) (r b : List Int) (t : List (List Int)) : (d ++ r :: t).set d.length b = (d ++ [b]) ++ t := by simp
theorem eqIntSS_loop (l : List (List Int)) (hl : l.length ≤ 2000000) (hr : ∀ r ∈ l, r.length ≤ 2000000) : ∀ (t d : List (List Int)), l = d ++ t → Ev (fun k => laws_eqIntSS.l0 k l l (d.length : Int)) true
  | [], d, h => by
    refine Ev.succ ?_
    simp only [laws_eqIntSS.l0]
    refine Ev.neg (by rw [h]; simp) (Ev.now _)
  | r :: t, d, h => by
    have hlen : l.length = d.length + (t.length + 1) := by rw [h]; simp
    have hrd : rd_L2 l (d.length : Int) = r := by unfold rd_L2; rw [Int.toNat_natCast, h, row_mid]
    have hrl := hr r (by rw [h]; simp)
    refine Ev.succ ?_
    simp only [laws_eqIntSS.l0, hrd]
    refine Ev.pos (by omega) (Ev.pos (by omega) (Ev.pos (by omega) (Ev.bind (eqIntS_ev r (by omega)) (Ev.pos rfl ?_))))
    rw [wrap64_id (by omega) (by omega)]
    have := eqIntSS_loop l hl hr t (d ++ [r]) (by rw [h]; simp)
    simpa using this
theorem eqIntSS_ev (l : List (List Int)) (hl : l.length ≤ 2000000) (hr : ∀ r ∈ l, r.length ≤ 2000000) : Ev (fun k => laws_eqIntSS.f k l l) true := by
  unfold laws_eqIntSS.f
  exact Ev.pos rfl (eqIntSS_loop l hl hr l [] rfl)

/-! ### marked -/
def upRows (s : Int) : List (List Int) → List (List Int)
  | [] => []
  | r :: t => upFrom s r.length :: upRows (s + (r.length : Int)) t
theorem upRows_length : ∀ (t : List (List Int)) (s : Int), (upRows s t).length = t.length
  | [], _ => rfl
  | r :: t, s => by simp [upRows, upRows_length t]
theorem markIntSS_loop : ∀ (t d : List (List Int)) (s : Int), 0 ≤ s → s + totL t ≤ 1099511627776 → d.length + t.length ≤ 2000000 →
    Ev (fun k => laws_markIntSS.l0 k (d ++ t) s (d.length : Int)) (s + totL t, d ++ upRows s t)
  | [], d, s, hs, hb, hl => by
    refine Ev.succ ?_
    simp only [laws_markIntSS.l0]
    refine Ev.neg (by simp) (Ev.eqr (Ev.now _) (by simp [totL, upRows]))
  | r :: t, d, s, hs, hb, hl => by
    have h0 := totL_nonneg t
    simp only [totL, List.length_cons] at hb hl
    refine Ev.succ ?_
    simp only [laws_markIntSS.l0, Int.toNat_natCast, row_mid]
    refine Ev.pos (by simp; omega) (Ev.pos (by omega) (Ev.bind (markIntS_ev r (by omega) s hs (by omega)) ?_))
    rw [wrap64_id (by omega) (by omega), set_mid]
    have := markIntSS_loop t (d ++ [upFrom s r.length]) (s + (r.length : Int)) (by omega) (by omega) (by simp; omega)
    simp only [List.length_append, List.length_singleton, Int.natCast_add, Int.natCast_one] at this
    refine Ev.eqr this ?_
    simp only [totL, upRows, List.append_assoc, List.singleton_append, Prod.mk.injEq, and_true]
    omega
theorem markIntSS_ev (l : List (List Int)) (hl : l.length ≤ 2000000) (ht : totL l ≤ 1000000000000) : Ev (fun k => laws_markIntSS.f k l 1) (1 + totL l, upRows 1 l) := by
  unfold laws_markIntSS.f
  have := markIntSS_loop l [] 1 (by omega) (by omega) (by simpa using hl)
  simpa using this

/-! ### held -/
theorem heldIntSS_loop : ∀ (t d : List (List Int)) (s : Int), 0 ≤ s → s + totL t ≤ 1099511627776 → d.length + t.length ≤ 2000000 →
    Ev (fun k => laws_heldIntSS.l0 k (d ++ upRows s t) s (d.length : Int)) (s + totL t)
  | [], d, s, hs, hb, hl => by
    refine Ev.succ ?_
    simp only [laws_heldIntSS.l0]
    refine Ev.neg (by simp [upRows]) (Ev.eqr (Ev.now _) (by simp [totL]))
  | r :: t, d, s, hs, hb, hl => by
    have h0 := totL_nonneg t
    simp only [totL, List.length_cons] at hb hl
    have hrd : rd_L2 (d ++ upRows s (r :: t)) (d.length : Int) = upFrom s r.length := by unfold rd_L2; rw [Int.toNat_natCast]; simp only [upRows, row_mid]
    refine Ev.succ ?_
    simp only [laws_heldIntSS.l0, hrd]
    refine Ev.pos (by simp [upRows]; omega) (Ev.pos (by omega) (Ev.bind (heldIntS_ev r.length (by omega) s hs (by omega)) (Ev.neg (by omega) ?_)))
    rw [wrap64_id (by omega) (by omega)]
    have := heldIntSS_loop t (d ++ [upFrom s r.length]) (s + (r.length : Int)) (by omega) (by omega) (by simp; omega)
    simp only [List.length_append, List.length_singleton, Int.natCast_add, Int.natCast_one, List.append_assoc, List.singleton_append] at this
    simp only [upRows]
    refine Ev.eqr this ?_
    simp only [totL]
    omega
theorem heldIntSS_ev (l : List (List Int)) (hl : l.length ≤ 2000000) (ht : totL l ≤ 1000000000000) : Ev (fun k => laws_heldIntSS.f k (upRows 1 l) 1) (1 + totL l) := by
  unfold laws_heldIntSS.f
  have := heldIntSS_loop l [] 1 (by omega) (by omega) (by simpa using hl)
  simpa using this

theorem l1In_eqN (a b c : Int) : spec_l1In.f a b c = some (decide (b ≤ a ∧ a ≤ c)) := l1In_eq a b c

/-! ### texts: numerals and what is joined -/
def mk (l : List UInt8) : ByteArray := ⟨l.toArray⟩
theorem mk_app (a b : List UInt8) : mk a ++ mk b = mk (a ++ b) := by
  unfold mk
  apply ByteArray.ext
  rw [ByteArray.data_append]
  simp
theorem mk_size (a : List UInt8) : (mk a).size = a.length := by simp [mk, ByteArray.size]
theorem mk_data (a : List UInt8) : (mk a).data.toList = a := by simp [mk]
abbrev dd (a : Int) : List UInt8 := Lib.decDigits a.toNat
theorem dd_one (u : Nat) (h : u < 10) : Lib.decDigits u = [UInt8.ofNat (48 + u)] := by rw [Lib.decDigits, dif_pos h]
theorem dd_two (u : Nat) (h : ¬ u < 10) : Lib.decDigits u = Lib.decDigits (u / 10) ++ [UInt8.ofNat (48 + u % 10)] := by rw [Lib.decDigits, dif_neg h]
theorem dd_len2 (u : Nat) (h : u < 100) : (Lib.decDigits u).length ≤ 2 := by
  by_cases h1 : u < 10
  · rw [dd_one u h1]; simp
  · rw [dd_two u h1, dd_one (u / 10) (by omega)]; simp
theorem dd_len (u : Nat) (h : u < 1000) : (Lib.decDigits u).length ≤ 3 := by
  by_cases h1 : u < 10
  · rw [dd_one u h1]; simp
  · rw [dd_two u h1]
    have := dd_len2 (u / 10) (by omega)
    simp only [List.length_append, List.length_cons, List.length_nil]
    omega

/-! ### texts split at a byte -/
def spl (b : UInt8) : List UInt8 → List (List UInt8)
  | [] => [[]]
  | c :: t => if c = b then [] :: spl b t else match spl b t with
    | [] => [[c]]
    | g :: r => (c :: g) :: r
theorem spl_ne (b : UInt8) : ∀ l, spl b l ≠ [] := by
  intro l
  cases l with
  | nil => simp [spl]
  | cons c t =>
    simp only [spl]
    split
    · simp
    · split <;> simp
theorem spl_none (b : UInt8) : ∀ p : List UInt8, b ∉ p → spl b p = [p] := by
  intro p
  induction p with
  | nil => intro _; rfl
  | cons c t ih =>
    intro h
    have h1 : c ≠ b := fun e => h (by rw [e]; exact List.mem_cons_self)
    simp only [spl]
    rw [if_neg h1, ih (fun hm => h (List.mem_cons_of_mem _ hm))]
theorem spl_some (b : UInt8) (q : List UInt8) : ∀ p : List UInt8, b ∉ p → spl b (p ++ b :: q) = p :: spl b q := by
  intro p
  induction p with
  | nil => intro _; simp [spl]
  | cons c t ih =>
    intro h
    have h1 : c ≠ b := fun e => h (by rw [e]; exact List.mem_cons_self)
    rw [List.cons_append]
    simp only [spl]
    rw [if_neg h1, ih (fun hm => h (List.mem_cons_of_mem _ hm))]
theorem spl_parts (b : UInt8) : ∀ l, ∀ g ∈ spl b l, b ∉ g := by
  intro l
  induction l with
  | nil => intro g hg; simp only [spl, List.mem_singleton] at hg; subst hg; exact List.not_mem_nil
  | cons c t ih =>
    intro g hg
    simp only [spl] at hg
    split at hg
    · rcases List.mem_cons.1 hg with e | e
      · subst e; exact List.not_mem_nil
      · exact ih g e
    · rename_i h1
      cases hs : spl b t with
      | nil => exact absurd hs (spl_ne b t)
      | cons g0 r =>
        rw [hs] at hg ih
        rcases List.mem_cons.1 hg with e | e
        · subst e
          intro hm
          rcases List.mem_cons.1 hm with e2 | e2
          · exact h1 e2.symm
          · exact ih g0 List.mem_cons_self e2
        · exact ih g (List.mem_cons_of_mem _ e)
theorem spl_join (b : UInt8) : ∀ l, Lib.join (spl b l) [b] = l := by
  intro l
  induction l with
  | nil => exact Lib.join_one _ _
  | cons c t ih =>
    simp only [spl]
    cases hs : spl b t with
    | nil => exact absurd hs (spl_ne b t)
    | cons g r =>
      rw [hs, Lib.join_cons] at ih
      split
      · rename_i h1
        rw [Lib.join_cons]
        simp only [List.nil_append]
        rw [h1, ← ih]
        simp [Lib.joinTail]
      · rw [Lib.join_cons, List.cons_append, ih]
theorem spl_of_join (b : UInt8) : ∀ ps : List (List UInt8), ps ≠ [] → (∀ p ∈ ps, b ∉ p) → spl b (Lib.join ps [b]) = ps := by
  intro ps
  induction ps with
  | nil => intro h _; exact absurd rfl h
  | cons p r ih =>
    intro _ hb
    cases r with
    | nil => rw [Lib.join_one]; exact spl_none b p (hb p List.mem_cons_self)
    | cons q r =>
      have h2 := ih (by simp) (fun z hz => hb z (List.mem_cons_of_mem _ hz))
      rw [Lib.join_cons]
      have e : p ++ Lib.joinTail [b] (q :: r) = p ++ b :: Lib.join (q :: r) [b] := by
        rw [Lib.join_cons]
        simp [Lib.joinTail]
      rw [e, spl_some b _ p (hb p List.mem_cons_self), h2]
theorem first_at (b : UInt8) : ∀ l : List UInt8, b ∈ l → ∃ p q, l = p ++ b :: q ∧ b ∉ p := by
  intro l
  induction l with
  | nil => intro h; exact absurd h List.not_mem_nil
  | cons c t ih =>
    intro h
    by_cases e : c = b
    · exact ⟨[], t, by rw [e]; rfl, List.not_mem_nil⟩
    · have hm : b ∈ t := (List.mem_cons.1 h).elim (fun e2 => absurd e2.symm e) id
      obtain ⟨p, q, h1, h2⟩ := ih hm
      exact ⟨c :: p, q, by rw [h1]; rfl, fun hx => (List.mem_cons.1 hx).elim (fun e2 => e e2.symm) h2⟩
theorem index_none (b : UInt8) : ∀ l : List UInt8, b ∉ l → Lib.index l [b] = -1 := by
  intro l
  induction l with
  | nil => intro _; rfl
  | cons c t ih =>
    intro h
    have h1 : ¬ b = c := fun e => h (by rw [e]; exact List.mem_cons_self)
    have h2 := ih (fun hm => h (List.mem_cons_of_mem _ hm))
    simp [Lib.index, List.isPrefixOf, h1, h2]
theorem index_some (b : UInt8) (q : List UInt8) : ∀ p : List UInt8, b ∉ p → Lib.index (p ++ b :: q) [b] = p.length := by
  intro p
  induction p with
  | nil => intro _; simp [Lib.index, List.isPrefixOf]
  | cons c t ih =>
    intro h
    have h1 : ¬ b = c := fun e => h (by rw [e]; exact List.mem_cons_self)
    have h2 := ih (fun hm => h (List.mem_cons_of_mem _ hm))
    rw [List.cons_append]
    simp only [Lib.index, List.isPrefixOf, Bool.and_true, beq_iff_eq, h1, if_false, h2]
    rw [if_neg (by omega), List.length_cons]
    omega
theorem count_fuel (b : UInt8) : ∀ (n f : Nat) (s : List UInt8), s.length ≤ n → s.length + 1 ≤ f → Lib.countFrom [b] f s = Lib.countFrom [b] (s.length + 1) s := by
  intro n
  induction n with
  | zero =>
    intro f s hn hf
    obtain ⟨f, rfl⟩ : ∃ g, f = g + 1 := ⟨f - 1, by omega⟩
    have e : s = [] := List.eq_nil_of_length_eq_zero (by omega)
    subst e
    simp [Lib.countFrom, Lib.index]
  | succ n ih =>
    intro f s hn hf
    obtain ⟨f, rfl⟩ : ∃ g, f = g + 1 := ⟨f - 1, by omega⟩
    by_cases hb : b ∈ s
    · obtain ⟨p, q, e, hp⟩ := first_at b s hb
      have hl : s.length = p.length + (q.length + 1) := by rw [e, List.length_append, List.length_cons]
      have hi : Lib.index s [b] = p.length := by rw [e]; exact index_some b q p hp
      have hd : s.drop ((Lib.index s [b]).toNat + [b].length) = q := by
        rw [hi, e, Int.toNat_natCast]
        simp
      have hne : ¬ (Lib.index s [b] == -1) = true := by rw [hi]; simp
      simp only [Lib.countFrom]
      rw [if_neg hne, if_neg hne, hd, ih f q (by omega) (by omega), ih s.length q (by omega) (by omega)]
    · have hi := index_none b s hb
      simp [Lib.countFrom, hi]
theorem splitK_spl (b : UInt8) : ∀ (n : Nat) (s : List UInt8), s.length ≤ n → Lib.splitK [b] 0 (Lib.count s [b]) s = spl b s := by
  intro n
  induction n with
  | zero =>
    intro s hn
    have e : s = [] := List.eq_nil_of_length_eq_zero (by omega)
    subst e
    rfl
  | succ n ih =>
    intro s hn
    by_cases hb : b ∈ s
    · obtain ⟨p, q, e, hp⟩ := first_at b s hb
      have hl : s.length = p.length + (q.length + 1) := by rw [e, List.length_append, List.length_cons]
      have hi : Lib.index s [b] = p.length := by rw [e]; exact index_some b q p hp
      have hd : s.drop ((Lib.index s [b]).toNat + [b].length) = q := by
        rw [hi, e, Int.toNat_natCast]
        simp
      have hne : ¬ (Lib.index s [b] == -1) = true := by rw [hi]; simp
      have hc : Lib.count s [b] = Lib.count q [b] + 1 := by
        unfold Lib.count
        simp only [Lib.countFrom]
        rw [if_neg hne, hd, count_fuel b q.length s.length q (Nat.le_refl _) (by omega)]
        simp only [Lib.countFrom]
        omega
      rw [hc]
      simp only [Lib.splitK]
      rw [if_neg hne, hd, ih q (by omega), hi, e, spl_some b q p hp]
      simp
    · have hi := index_none b s hb
      rw [spl_none b s hb]
      unfold Lib.count
      simp [Lib.countFrom, hi, Lib.splitK]

/-! ### what strconv.Atoi makes of a numeral -/
theorem dig_val : ∀ x : Nat, x < 10 → Lib.digitVal (UInt8.ofNat (48 + x)) = some x := by decide
theorem dig_ne : ∀ x : Nat, x < 10 → (UInt8.ofNat (48 + x)).toNat ≠ 43 ∧ (UInt8.ofNat (48 + x)).toNat ≠ 45 := by decide
theorem dd_form (u : Nat) (h : u < 1000) : ∃ x : Nat, x < 10 ∧ ∃ r : List UInt8, Lib.decDigits u = UInt8.ofNat (48 + x) :: r ∧ r.length ≤ 2 ∧ Lib.decFrom 0 (UInt8.ofNat (48 + x) :: r) = some u ∧ (r = [] ∨ 0 < x) := by
  have one : ∀ v : Nat, v < 10 → Lib.decDigits v = [UInt8.ofNat (48 + v)] := fun v hv => by rw [Lib.decDigits, dif_pos hv]
  have two : ∀ v : Nat, ¬ v < 10 → Lib.decDigits v = Lib.decDigits (v / 10) ++ [UInt8.ofNat (48 + v % 10)] := fun v hv => by rw [Lib.decDigits, dif_neg hv]
  by_cases h1 : u < 10
  · refine ⟨u, h1, [], one u h1, by simp, ?_⟩
    simp only [Lib.decFrom, dig_val u h1]
    exact ⟨by simp, .inl (by trivial)⟩
  · by_cases h2 : u < 100
    · refine ⟨u / 10, by omega, [UInt8.ofNat (48 + u % 10)], ?_, by simp, ?_⟩
      · rw [two u h1, one (u / 10) (by omega)]; rfl
      · simp only [Lib.decFrom, dig_val (u / 10) (by omega), dig_val (u % 10) (by omega)]
        exact ⟨by congr 1; omega, .inr (by omega)⟩
    · refine ⟨u / 10 / 10, by omega, [UInt8.ofNat (48 + u / 10 % 10), UInt8.ofNat (48 + u % 10)], ?_, by simp, ?_⟩
      · rw [two u h1, two (u / 10) (by omega), one (u / 10 / 10) (by omega)]; rfl
      · simp only [Lib.decFrom, dig_val (u / 10 / 10) (by omega), dig_val (u / 10 % 10) (by omega), dig_val (u % 10) (by omega)]
        exact ⟨by congr 1; omega, .inr (by omega)⟩
theorem atoi_dd (u : Nat) (h : u < 1000) : Lib.atoiAll (Lib.decDigits u) = .ok (u : Int) := by
  obtain ⟨x, hx, r, e, hr, hd, _⟩ := dd_form u h
  obtain ⟨n1, n2⟩ := dig_ne x hx
  rw [e, Lib.atoiAll_plain _ r n1 n2, Lib.signless_short (by simp only [List.length_cons]; omega)]
  have e2 : Lib.decNat (UInt8.ofNat (48 + x) :: r) = some u := by
    unfold Lib.decNat
    rw [if_neg (by simp)]
    exact hd
  rw [e2]
  rfl
theorem dig_nat : ∀ x : Nat, x < 10 → (UInt8.ofNat (48 + x)).toNat = 48 + x := by decide
theorem dd_dig (u : Nat) (h : u < 1000) : ∀ c ∈ Lib.decDigits u, 48 ≤ c.toNat ∧ c.toNat ≤ 57 := by
  have one : ∀ v : Nat, v < 10 → ∀ c ∈ Lib.decDigits v, 48 ≤ c.toNat ∧ c.toNat ≤ 57 := fun v hv c hc => by
    rw [Lib.decDigits, dif_pos hv] at hc
    rw [List.mem_singleton.1 hc, dig_nat v hv]
    omega
  have step : ∀ v : Nat, ¬ v < 10 → (∀ c ∈ Lib.decDigits (v / 10), 48 ≤ c.toNat ∧ c.toNat ≤ 57) → ∀ c ∈ Lib.decDigits v, 48 ≤ c.toNat ∧ c.toNat ≤ 57 := fun v hv hq c hc => by
    rw [Lib.decDigits, dif_neg hv] at hc
    rcases List.mem_append.1 hc with hc | hc
    · exact hq c hc
    · rw [List.mem_singleton.1 hc, dig_nat (v % 10) (by omega)]
      omega
  by_cases h1 : u < 10
  · exact one u h1
  · refine step u h1 ?_
    by_cases h2 : u / 10 < 10
    · exact one (u / 10) h2
    · exact step (u / 10) h2 (one (u / 10 / 10) (by omega))
theorem dd_no (u : Nat) (h : u < 1000) (b : UInt8) (hb : b.toNat < 48 ∨ 57 < b.toNat) : b ∉ Lib.decDigits u := fun hm => by
  have := dd_dig u h b hm
  omega

/-! ### numerals, and texts cut and split, as the program reads them -/
theorem mk_list (l : List UInt8) : (mk l).toList = l := by rw [ByteArray.toList_eq]; exact mk_data l
theorem number_ok (a most : Int) (h0 : 0 ≤ a) (h1 : a ≤ most) (hm : most ≤ 500) : impl_number.f (mk (dd a)) most = some (a, true) := by
  unfold impl_number.f
  have hl := dd_len a.toNat (by omega)
  rw [if_pos (by rw [mk_size]; show (Lib.decDigits a.toNat).length ≤ _; omega), mk_data, mk_list]
  have e := atoi_dd a.toNat (by omega)
  have e2 : ((a.toNat : Nat) : Int) = a := by omega
  rw [e2] at e
  show some (match Lib.atoiAll (Lib.decDigits a.toNat) with | .ok v => _ | _ => _) = _
  rw [e]
  have e3 : Lib.itoa a = dd a := by unfold Lib.itoa; rw [if_neg (by omega)]
  simp only
  rw [if_pos e3, if_pos ⟨h0, h1⟩]
theorem number_bad (t : List UInt8) (ht : t.length ≤ 2000000) (most : Int) (hb : ∀ a : Int, 0 ≤ a → a ≤ most → t ≠ dd a) : impl_number.f (mk t) most = some (0, false) := by
  unfold impl_number.f
  rw [if_pos (by rw [mk_size]; exact ht), mk_data, mk_list]
  congr 1
  split
  · rename_i v hv
    split
    · rename_i h1
      rw [if_neg]
      intro h2
      refine hb v h2.1 h2.2 ?_
      rw [← h1]
      unfold Lib.itoa
      rw [if_neg (by omega)]
    · rfl
  · rfl
theorem number_cases (t : List UInt8) (ht : t.length ≤ 2000000) (most : Int) (hm : most ≤ 500) : (∃ a : Int, 0 ≤ a ∧ a ≤ most ∧ t = dd a ∧ impl_number.f (mk t) most = some (a, true)) ∨ ((∀ a : Int, 0 ≤ a → a ≤ most → t ≠ dd a) ∧ impl_number.f (mk t) most = some (0, false)) := by
  by_cases h : ∃ a : Int, 0 ≤ a ∧ a ≤ most ∧ t = dd a
  · obtain ⟨a, h0, h1, e⟩ := h
    exact .inl ⟨a, h0, h1, e, by rw [e]; exact number_ok a most h0 h1 hm⟩
  · have hb : ∀ a : Int, 0 ≤ a → a ≤ most → t ≠ dd a := fun a h0 h1 e => h ⟨a, h0, h1, e⟩
    exact .inr ⟨hb, number_bad t ht most hb⟩
theorem split_eq (b : UInt8) (s : List UInt8) (hs : s.length ≤ 2000000) : strings_Split.f (mk s) (mk [b]) = some ((spl b s).map mk) := by
  unfold strings_Split.f
  rw [if_pos ⟨by rw [mk_size]; exact hs, by rw [mk_size]; simp⟩]
  congr 1
  have h := Lib.splitB_data (mk [b]) 0 (Lib.countB (mk s) (mk [b])) (mk s)
  rw [mk_data, mk_data] at h
  have hc : Lib.countB (mk s) (mk [b]) = Lib.count s [b] := by unfold Lib.countB; rw [mk_data, mk_data]
  rw [hc, splitK_spl b s.length s (Nat.le_refl _)] at h
  rw [hc, ← h, List.map_map]
  refine ((List.map_congr_left (fun x _ => ?_)).trans (List.map_id _)).symm
  show mk x.data.toList = x
  rfl
theorem rd_str (l : List (List UInt8)) (i : Nat) (h : i < l.length) : rdOf ByteArray.empty (l.map mk) (i : Int) = mk l[i] := by
  unfold rdOf
  rw [Int.toNat_natCast]
  simp [List.getD, h]

/-! ### texts split and numerals read, as the reference does it -/
theorem bt_mk (s : List UInt8) (i : Nat) (h : i < s.length) : bt (mk s) (i : Int) = ((s[i]).toNat : Int) := by
  unfold bt
  rw [Int.toNat_natCast, dif_pos (by rw [mk_size]; exact h)]
  rfl
theorem ext_mk (s : List UInt8) (a b : Nat) : (mk s).extract a b = mk ((s.drop a).take (b - a)) := by
  apply ByteArray.ext
  rw [ByteArray.data_extract]
  unfold mk
  simp [List.extract_eq_take_drop]
theorem l1Split_loop (s : List UInt8) (hs : s.length ≤ 2000000) (b : UInt8) : ∀ (t : List UInt8) (i fr : Nat) (acc : List (List UInt8)), s.drop i = t → i + t.length = s.length → fr ≤ i → acc.length ≤ i → b ∉ (s.drop fr).take (i - fr) →
    Ev (fun k => spec_l1Split.l0 k (mk s) (b.toNat : Int) (acc.map mk) (fr : Int) (i : Int)) ((acc ++ spl b (s.drop fr)).map mk) := by
  intro t
  induction t with
  | nil =>
    intro i fr acc hd hi hf ha hb
    simp only [List.length_nil] at hi
    refine Ev.succ ?_
    simp only [spec_l1Split.l0]
    have hz : (mk s).size = s.length := mk_size s
    refine Ev.neg (by omega) (Ev.pos (by omega) (Ev.pos (by omega) (Ev.pos (by simp only [List.length_map]; omega) (Ev.eqr (Ev.now _) ?_))))
    rw [Int.toNat_natCast, hz, ext_mk]
    have e : (s.drop fr).take (s.length - fr) = s.drop fr := List.take_of_length_le (by simp)
    rw [show i - fr = s.length - fr by omega, e] at hb
    rw [e, spl_none b _ hb]
    simp
  | cons c t ih =>
    intro i fr acc hd hi hf ha hb
    simp only [List.length_cons] at hi
    have hi1 : i < s.length := by omega
    have e1 := List.drop_eq_getElem_cons hi1
    rw [hd] at e1
    injection e1 with e2 e3
    have hz : (mk s).size = s.length := mk_size s
    have hcut : s.drop fr = (s.drop fr).take (i - fr) ++ c :: t := by
      have h := (List.take_append_drop (i - fr) (s.drop fr)).symm
      rw [List.drop_drop, show fr + (i - fr) = i by omega, hd] at h
      exact h
    refine Ev.succ ?_
    simp only [spec_l1Split.l0]
    rw [bt_mk s i hi1, ← e2]
    have ei : wrap64 ((i : Int) + 1) = ((i + 1 : Nat) : Int) := (wrap64_id (by omega) (by omega)).trans (by omega)
    refine Ev.pos (by omega) (Ev.pos (by omega) ?_)
    by_cases h : c = b
    · refine Ev.pos (by rw [h]) (Ev.pos (by omega) (Ev.pos (by omega) (Ev.pos (by omega) (Ev.pos (by simp only [List.length_map]; omega) ?_))))
      rw [ei, Int.toNat_natCast, Int.toNat_natCast, ext_mk]
      have hr := ih (i + 1) (i + 1) (acc ++ [(s.drop fr).take (i - fr)]) e3.symm (by omega) (Nat.le_refl _) (by simp only [List.length_append, List.length_cons, List.length_nil]; omega) (by simp)
      rw [List.map_append, List.map_cons, List.map_nil] at hr
      refine Ev.eqr hr ?_
      congr 1
      rw [List.append_assoc]
      congr 1
      have h9 := spl_some b t _ hb
      rw [h] at hcut
      have h8 : spl b (s.drop fr) = (s.drop fr).take (i - fr) :: spl b t := by rw [← h9]; exact congrArg (spl b) hcut
      rw [h8, ← e3]
      rfl
    · refine Ev.neg (fun e => h (UInt8.toNat_inj.1 (by omega))) ?_
      rw [ei]
      refine ih (i + 1) fr acc e3.symm (by omega) (by omega) (by omega) ?_
      rw [show i + 1 - fr = (i - fr) + 1 by omega, List.take_add_one]
      intro hm
      rcases List.mem_append.1 hm with hm | hm
      · exact hb hm
      · rw [List.getElem?_drop, show fr + (i - fr) = i by omega, List.getElem?_eq_getElem hi1, ← e2] at hm
        simp at hm
        exact h hm.symm
theorem l1Split_ev (s : List UInt8) (hs : s.length ≤ 2000000) (b : UInt8) : Ev (fun k => spec_l1Split.f k (mk s) (b.toNat : Int)) ((spl b s).map mk) := by
  unfold spec_l1Split.f
  exact l1Split_loop s hs b s 0 0 [] rfl (by omega) (Nat.le_refl _) (Nat.zero_le _) (by simp)
/-- reading a text's number ends, whatever the text -/
theorem l1Read_any (t : List UInt8) (ht : t.length ≤ 100) : ∀ (d i : Nat) (x : Int), t.length - i = d → i ≤ t.length → ∃ v : Int, Ev (fun k => spec_l1Read.l0 k (mk t) x (i : Int)) v := by
  have hz : (mk t).size = t.length := mk_size t
  intro d
  induction d with
  | zero =>
    intro i x hd hi
    refine ⟨x, Ev.succ ?_⟩
    simp only [spec_l1Read.l0]
    exact Ev.neg (by omega) (Ev.now _)
  | succ d ih =>
    intro i x hd hi
    have ei : wrap64 ((i : Int) + 1) = ((i + 1 : Nat) : Int) := (wrap64_id (by omega) (by omega)).trans (by omega)
    obtain ⟨v, hv⟩ := ih (i + 1) (wrap64 ((wrap64 (10 * x)) + (((bt (mk t) (i : Int)) - 48) % 256))) (by omega) (by omega)
    by_cases h1 : bt (mk t) (i : Int) < 48
    · refine ⟨-1, Ev.succ ?_⟩
      simp only [spec_l1Read.l0]
      exact Ev.pos (by omega) (Ev.pos (by omega) (Ev.pos h1 (Ev.now _)))
    · by_cases h2 : bt (mk t) (i : Int) > 57
      · refine ⟨-1, Ev.succ ?_⟩
        simp only [spec_l1Read.l0]
        exact Ev.pos (by omega) (Ev.pos (by omega) (Ev.neg h1 (Ev.pos h2 (Ev.now _))))
      · refine ⟨v, Ev.succ ?_⟩
        simp only [spec_l1Read.l0]
        rw [ei]
        exact Ev.pos (by omega) (Ev.pos (by omega) (Ev.neg h1 (Ev.neg h2 hv)))
theorem dig_of {c : UInt8} {d : Nat} (h : Lib.digitVal c = some d) : 48 ≤ c.toNat ∧ c.toNat ≤ 57 ∧ d = c.toNat - 48 := by
  unfold Lib.digitVal at h
  split at h
  · rename_i h1
    have h2 := Option.some.inj h
    exact ⟨h1.1, h1.2, h2.symm⟩
  · cases h
theorem dec_le : ∀ (r : List UInt8) (x m : Nat), Lib.decFrom x r = some m → x ≤ m := by
  intro r
  induction r with
  | nil => intro x m h; simp only [Lib.decFrom] at h; exact Nat.le_of_eq (Option.some.inj h)
  | cons c r ih =>
    intro x m h
    simp only [Lib.decFrom] at h
    split at h
    · have := ih _ _ h; omega
    · cases h
theorem l1Read_num (t : List UInt8) (ht : t.length ≤ 100) : ∀ (r : List UInt8) (i x m : Nat), t.drop i = r → i + r.length = t.length → Lib.decFrom x r = some m → m < 1000000 → x ≤ m → Ev (fun k => spec_l1Read.l0 k (mk t) (x : Int) (i : Int)) (m : Int) := by
  have hz : (mk t).size = t.length := mk_size t
  intro r
  induction r with
  | nil =>
    intro i x m hd hi hm hb hx
    simp only [List.length_nil] at hi
    simp only [Lib.decFrom] at hm
    have e := Option.some.inj hm
    subst e
    refine Ev.succ ?_
    simp only [spec_l1Read.l0]
    exact Ev.neg (by omega) (Ev.now _)
  | cons c r ih =>
    intro i x m hd hi hm hb hx
    simp only [List.length_cons] at hi
    have hi1 : i < t.length := by omega
    have e1 := List.drop_eq_getElem_cons hi1
    rw [hd] at e1
    injection e1 with e2 e3
    simp only [Lib.decFrom] at hm
    cases hv : Lib.digitVal c with
    | none => rw [hv] at hm; cases hm
    | some d =>
      rw [hv] at hm
      obtain ⟨d1, d2, d3⟩ := dig_of hv
      have hle : x * 10 + d ≤ m := dec_le r _ _ hm
      have ei : wrap64 ((i : Int) + 1) = ((i + 1 : Nat) : Int) := (wrap64_id (by omega) (by omega)).trans (by omega)
      refine Ev.succ ?_
      simp only [spec_l1Read.l0]
      rw [bt_mk t i hi1, ← e2]
      refine Ev.pos (by omega) (Ev.pos (by omega) (Ev.neg (by omega) (Ev.neg (by omega) ?_)))
      rw [ei, wrap64_id (n := 10 * (x : Int)) (by omega) (by omega), show (((c.toNat : Nat) : Int) - 48) % 256 = (d : Int) by omega, wrap64_id (n := 10 * (x : Int) + (d : Int)) (by omega) (by omega), show 10 * (x : Int) + (d : Int) = ((x * 10 + d : Nat) : Int) by omega]
      exact ih (i + 1) (x * 10 + d) m e3.symm (by omega) hm hb hle
theorem read_any (t : List UInt8) : ∃ v : Int, Ev (fun k => spec_l1Read.f k (mk t)) v := by
  unfold spec_l1Read.f
  have hz : (mk t).size = t.length := mk_size t
  by_cases h : 1 ≤ ((mk t).size : Int) ∧ ((mk t).size : Int) ≤ 6
  · obtain ⟨v, hv⟩ := l1Read_any t (by omega) t.length 0 0 (by omega) (Nat.zero_le _)
    by_cases h2 : bt (mk t) 0 = 48
    · by_cases h3 : ((mk t).size : Int) > 1
      · refine ⟨-1, Ev.bindc (l1In_eqN _ _ _) (Ev.pos (decide_eq_true h) (Ev.pos (by omega) (Ev.pos h2 (Ev.succ ?_))))⟩
        simp only [spec_l1Read.j0]
        exact Ev.pos (decide_eq_true h3) (Ev.now _)
      · refine ⟨v, Ev.bindc (l1In_eqN _ _ _) (Ev.pos (decide_eq_true h) (Ev.pos (by omega) (Ev.pos h2 (Ev.succ ?_))))⟩
        simp only [spec_l1Read.j0]
        exact Ev.neg (by simpa using h3) hv
    · refine ⟨v, Ev.bindc (l1In_eqN _ _ _) (Ev.pos (decide_eq_true h) (Ev.pos (by omega) (Ev.neg h2 (Ev.succ ?_))))⟩
      simp only [spec_l1Read.j0]
      exact Ev.neg (by decide) hv
  · refine ⟨-1, Ev.bindc (l1In_eqN _ _ _) (Ev.neg (by simpa using h) (Ev.succ ?_))⟩
    simp only [spec_l1Read.j0]
    exact Ev.pos (by simp) (Ev.now _)
theorem read_dd (a : Int) (h0 : 0 ≤ a) (h1 : a < 1000) : Ev (fun k => spec_l1Read.f k (mk (dd a))) a := by
  obtain ⟨x, hx, r, e, hr, hd, hz0⟩ := dd_form a.toNat (by omega)
  have ea : ((a.toNat : Nat) : Int) = a := by omega
  have et : dd a = UInt8.ofNat (48 + x) :: r := e
  rw [et]
  have hz : (mk (UInt8.ofNat (48 + x) :: r)).size = r.length + 1 := by rw [mk_size]; rfl
  have hn := l1Read_num (UInt8.ofNat (48 + x) :: r) (by simp only [List.length_cons]; omega) (UInt8.ofNat (48 + x) :: r) 0 0 a.toNat rfl (by omega) hd (by omega) (Nat.zero_le _)
  rw [ea] at hn
  have hb : bt (mk (UInt8.ofNat (48 + x) :: r)) 0 = 48 + (x : Int) := by
    have h := bt_mk (UInt8.ofNat (48 + x) :: r) 0 (by simp)
    rw [show ((0 : Nat) : Int) = 0 from rfl] at h
    rw [h, List.getElem_cons_zero, dig_nat x hx]
    omega
  unfold spec_l1Read.f
  refine Ev.bindc (l1In_eqN _ _ _) (Ev.pos (decide_eq_true (by omega)) (Ev.pos (by omega) ?_))
  rw [hb]
  by_cases h2 : 48 + (x : Int) = 48
  · refine Ev.pos h2 (Ev.succ ?_)
    simp only [spec_l1Read.j0]
    have hr0 : r = [] := hz0.resolve_right (by omega)
    refine Ev.neg ?_ hn
    rw [hz, hr0]
    simp
  · refine Ev.neg h2 (Ev.succ ?_)
    simp only [spec_l1Read.j0]
    exact Ev.neg (by decide) hn

/-! ### texts of numbers with signs between them -/
theorem spl_len (b : UInt8) : ∀ l : List UInt8, (spl b l).length ≤ l.length + 1 ∧ ∀ g ∈ spl b l, g.length ≤ l.length := by
  intro l
  induction l with
  | nil => exact ⟨by simp [spl], fun g hg => by simp only [spl, List.mem_singleton] at hg; subst hg; simp⟩
  | cons c t ih =>
    simp only [spl]
    split
    · refine ⟨by simp only [List.length_cons]; omega, fun g hg => ?_⟩
      rcases List.mem_cons.1 hg with e | e
      · subst e; simp
      · have := ih.2 g e; simp only [List.length_cons]; omega
    · cases hs : spl b t with
      | nil => exact absurd hs (spl_ne b t)
      | cons g0 r =>
        rw [hs] at ih
        refine ⟨by simp only [List.length_cons] at ih ⊢; omega, fun g hg => ?_⟩
        rcases List.mem_cons.1 hg with e | e
        · subst e
          have := ih.2 g0 List.mem_cons_self
          simp only [List.length_cons]; omega
        · have := ih.2 g (List.mem_cons_of_mem _ e)
          simp only [List.length_cons]; omega
theorem dd_sign (a : Int) (h0 : 0 ≤ a) (h1 : a < 1000) (b : UInt8) (hb : b.toNat < 48 ∨ 57 < b.toNat) : b ∉ dd a := dd_no a.toNat (by omega) b hb
theorem dd_inj (a b : Int) (ha0 : 0 ≤ a) (ha1 : a < 1000) (hb0 : 0 ≤ b) (hb1 : b < 1000) (e : dd a = dd b) : a = b := by
  have h1 := atoi_dd a.toNat (by omega)
  have h2 := atoi_dd b.toNat (by omega)
  have e' : Lib.decDigits a.toNat = Lib.decDigits b.toNat := e
  rw [e', h2] at h1
  injection h1 with h3
  omega
theorem dds_inj : ∀ V W : List Int, (∀ w ∈ V, 0 ≤ w ∧ w ≤ 500) → (∀ w ∈ W, 0 ≤ w ∧ w ≤ 500) → V.map dd = W.map dd → V = W := by
  intro V
  induction V with
  | nil => intro W _ _ h; cases W with
    | nil => rfl
    | cons w W => simp at h
  | cons v V ih =>
    intro W hV hW h
    cases W with
    | nil => simp at h
    | cons w W =>
      rw [List.map_cons, List.map_cons] at h
      injection h with h1 h2
      have a := hV v List.mem_cons_self
      have b := hW w List.mem_cons_self
      rw [dd_inj v w a.1 (by omega) b.1 (by omega) h1, ih W (fun x hx => hV x (List.mem_cons_of_mem _ hx)) (fun x hx => hW x (List.mem_cons_of_mem _ hx)) h2]
theorem tail_cons (s y : List UInt8) (r : List (List UInt8)) : Lib.joinTail s (y :: r) = s ++ (y ++ Lib.joinTail s r) := by simp [Lib.joinTail]
theorem join_no (x b : UInt8) (hx : x ≠ b) (ps : List (List UInt8)) (h : ∀ p ∈ ps, x ∉ p) : x ∉ Lib.join ps [b] := by
  have tl : ∀ ps : List (List UInt8), (∀ p ∈ ps, x ∉ p) → x ∉ Lib.joinTail [b] ps := by
    intro ps
    induction ps with
    | nil => intro _; simp [Lib.joinTail]
    | cons p r ih =>
      intro h hm
      rw [tail_cons] at hm
      rcases List.mem_append.1 hm with z | z
      · exact hx (List.mem_singleton.1 z)
      · rcases List.mem_append.1 z with z | z
        · exact h p List.mem_cons_self z
        · exact ih (fun q hq => h q (List.mem_cons_of_mem _ hq)) z
  cases ps with
  | nil => simp [Lib.join]
  | cons p r =>
    rw [Lib.join_cons]
    intro hm
    rcases List.mem_append.1 hm with z | z
    · exact h p List.mem_cons_self z
    · exact tl r (fun q hq => h q (List.mem_cons_of_mem _ hq)) z
theorem join_len (s : List UInt8) (b : Nat) : ∀ l : List (List UInt8), (∀ x ∈ l, x.length ≤ b) → (Lib.join l s).length ≤ l.length * (b + s.length) := by
  have tl : ∀ ps : List (List UInt8), (∀ p ∈ ps, p.length ≤ b) → (Lib.joinTail s ps).length ≤ ps.length * (b + s.length) := by
    intro ps
    induction ps with
    | nil => intro _; simp [Lib.joinTail]
    | cons p r ih =>
      intro h
      have h1 := h p List.mem_cons_self
      have h2 := ih (fun q hq => h q (List.mem_cons_of_mem _ hq))
      rw [tail_cons]
      simp only [List.length_append, List.length_cons, Nat.add_mul, Nat.one_mul]
      simp only [Nat.mul_add] at h2 ⊢
      omega
  intro l h
  cases l with
  | nil => simp [Lib.join]
  | cons p r =>
    have h1 := h p List.mem_cons_self
    have h2 := tl r (fun q hq => h q (List.mem_cons_of_mem _ hq))
    rw [Lib.join_cons]
    simp only [List.length_append, List.length_cons, Nat.add_mul, Nat.one_mul]
    simp only [Nat.mul_add] at h2 ⊢
    omega
abbrev numL (b : UInt8) (ns : List Int) : List UInt8 := Lib.join (ns.map dd) [b]
def Sg (b : UInt8) : Prop := b.toNat < 48 ∨ 57 < b.toNat
theorem num_spl (b : UInt8) (hb : Sg b) (ns : List Int) (hne : ns ≠ []) (hr : ∀ a ∈ ns, 0 ≤ a ∧ a ≤ 500) : spl b (numL b ns) = ns.map dd := by
  refine spl_of_join b _ (by simpa using hne) (fun p hp => ?_)
  obtain ⟨a, ha, e⟩ := List.mem_map.1 hp
  have := hr a ha
  rw [← e]
  exact dd_sign a this.1 (by omega) b hb
theorem num_no (b x : UInt8) (hx : Sg x) (hxb : x ≠ b) (ns : List Int) (hr : ∀ a ∈ ns, 0 ≤ a ∧ a ≤ 500) : x ∉ numL b ns := by
  refine join_no x b hxb _ (fun p hp => ?_)
  obtain ⟨a, ha, e⟩ := List.mem_map.1 hp
  have := hr a ha
  rw [← e]
  exact dd_sign a this.1 (by omega) x hx
theorem num_inj (b : UInt8) (hb : Sg b) (V W : List Int) (hV : V ≠ []) (hW : W ≠ []) (h1 : ∀ w ∈ V, 0 ≤ w ∧ w ≤ 500) (h2 : ∀ w ∈ W, 0 ≤ w ∧ w ≤ 500) (e : numL b V = numL b W) : V = W := by
  refine dds_inj V W h1 h2 ?_
  rw [← num_spl b hb V hV h1, ← num_spl b hb W hW h2, e]

/-! ### texts split at two signs -/
theorem index2_cases : ∀ s : List UInt8, Lib.index s [41, 40] = -1 ∨ ∃ p q, s = p ++ 41 :: 40 :: q ∧ Lib.index s [41, 40] = (p.length : Int) := by
  intro s
  induction s with
  | nil => exact .inl rfl
  | cons c t ih =>
    by_cases h : List.isPrefixOf [41, 40] (c :: t) = true
    · refine .inr ?_
      cases t with
      | nil => simp [List.isPrefixOf] at h
      | cons d r =>
        simp only [List.isPrefixOf, Bool.and_true, Bool.and_eq_true, beq_iff_eq] at h
        obtain ⟨h1, h2⟩ := h
        subst h1; subst h2
        exact ⟨[], r, rfl, by simp [Lib.index, List.isPrefixOf]⟩
    · rcases ih with e | ⟨p, q, e, hi⟩
      · refine .inl ?_
        simp only [Lib.index]
        rw [if_neg h, e]; rfl
      · refine .inr ⟨c :: p, q, by rw [e]; rfl, ?_⟩
        simp only [Lib.index]
        rw [if_neg h, hi, if_neg (by simp), List.length_cons]
        omega
theorem index2_some (q : List UInt8) : ∀ p : List UInt8, (41 : UInt8) ∉ p → Lib.index (p ++ 41 :: 40 :: q) [41, 40] = (p.length : Int) := by
  intro p
  induction p with
  | nil => intro _; simp [Lib.index, List.isPrefixOf]
  | cons c t ih =>
    intro h
    have h1 : ¬ (41 : UInt8) = c := fun e => h (by rw [e]; exact List.mem_cons_self)
    have h2 := ih (fun hm => h (List.mem_cons_of_mem _ hm))
    rw [List.cons_append]
    simp only [Lib.index, List.isPrefixOf, beq_iff_eq, h1, Bool.and_eq_true, false_and, if_false, h2]
    rw [if_neg (by omega), List.length_cons]
    omega
theorem index2_none : ∀ p : List UInt8, (41 : UInt8) ∉ p → Lib.index p [41, 40] = -1 := by
  intro p
  induction p with
  | nil => intro _; rfl
  | cons c t ih =>
    intro h
    have h1 : ¬ (41 : UInt8) = c := fun e => h (by rw [e]; exact List.mem_cons_self)
    have h2 := ih (fun hm => h (List.mem_cons_of_mem _ hm))
    simp [Lib.index, List.isPrefixOf, h1, h2]
theorem join_more (D p : List UInt8) (y : List UInt8) (r : List (List UInt8)) : Lib.join (p :: y :: r) D = p ++ (D ++ Lib.join (y :: r) D) := by
  rw [Lib.join_cons, Lib.join_cons, tail_cons]
theorem splitK_ne (D : List UInt8) (k : Nat) (s : List UInt8) : ∃ y r, Lib.splitK D 0 k s = y :: r := by
  cases k with
  | zero => exact ⟨s, [], rfl⟩
  | succ k =>
    simp only [Lib.splitK]
    split
    · exact ⟨_, _, rfl⟩
    · exact ⟨_, _, rfl⟩
theorem join_splitK : ∀ (k : Nat) (s : List UInt8), Lib.join (Lib.splitK [41, 40] 0 k s) [41, 40] = s := by
  intro k
  induction k with
  | zero => intro s; exact Lib.join_one _ _
  | succ k ih =>
    intro s
    rcases index2_cases s with e | ⟨p, q, e, hi⟩
    · simp only [Lib.splitK]
      rw [if_pos (by rw [e]; rfl)]
      exact Lib.join_one _ _
    · simp only [Lib.splitK]
      rw [if_neg (by rw [hi]; simp)]
      have hd : s.drop ((Lib.index s [41, 40]).toNat + [(41 : UInt8), 40].length) = q := by
        rw [hi, e, Int.toNat_natCast]; simp
      have ht : s.take ((Lib.index s [41, 40]).toNat + 0) = p := by
        rw [hi, e, Int.toNat_natCast]; simp
      rw [hd, ht]
      obtain ⟨y, r, e2⟩ := splitK_ne [41, 40] k q
      have := ih q
      rw [e2] at this ⊢
      rw [join_more, this, e]; rfl
theorem join_ge (D : List UInt8) (hD : 1 ≤ D.length) : ∀ (r : List (List UInt8)) (p : List UInt8), r.length ≤ (Lib.join (p :: r) D).length := by
  intro r
  induction r with
  | nil => intro p; simp
  | cons y r ih =>
    intro p
    have := ih y
    rw [join_more]
    simp only [List.length_append, List.length_cons]
    omega
theorem count2_join : ∀ (r : List (List UInt8)) (p : List UInt8) (f : Nat), (∀ x ∈ p :: r, (41 : UInt8) ∉ x) → r.length + 1 ≤ f → Lib.countFrom [41, 40] f (Lib.join (p :: r) [41, 40]) = r.length := by
  intro r
  induction r with
  | nil =>
    intro p f h hf
    obtain ⟨f, rfl⟩ : ∃ g, f = g + 1 := ⟨f - 1, by omega⟩
    rw [Lib.join_one]
    simp only [Lib.countFrom]
    rw [if_pos (by rw [index2_none p (h p List.mem_cons_self)]; rfl)]; rfl
  | cons y r ih =>
    intro p f h hf
    simp only [List.length_cons] at hf
    obtain ⟨f, rfl⟩ : ∃ g, f = g + 1 := ⟨f - 1, by omega⟩
    have e : Lib.join (p :: y :: r) [41, 40] = p ++ 41 :: 40 :: Lib.join (y :: r) [41, 40] := by rw [join_more]; rfl
    have hi : Lib.index (Lib.join (p :: y :: r) [41, 40]) [41, 40] = (p.length : Int) := by rw [e]; exact index2_some _ p (h p List.mem_cons_self)
    have hd : (Lib.join (p :: y :: r) [41, 40]).drop ((Lib.index (Lib.join (p :: y :: r) [41, 40]) [41, 40]).toNat + [(41 : UInt8), 40].length) = Lib.join (y :: r) [41, 40] := by
      rw [hi, e, Int.toNat_natCast]; simp
    simp only [Lib.countFrom]
    rw [if_neg (by rw [hi]; simp), hd, ih y f (fun x hx => h x (List.mem_cons_of_mem _ hx)) (by omega), List.length_cons]
    omega
theorem split2_join : ∀ (r : List (List UInt8)) (p : List UInt8), (∀ x ∈ p :: r, (41 : UInt8) ∉ x) → Lib.splitK [41, 40] 0 r.length (Lib.join (p :: r) [41, 40]) = p :: r := by
  intro r
  induction r with
  | nil => intro p _; rw [Lib.join_one]; rfl
  | cons y r ih =>
    intro p h
    have e : Lib.join (p :: y :: r) [41, 40] = p ++ 41 :: 40 :: Lib.join (y :: r) [41, 40] := by rw [join_more]; rfl
    have hi : Lib.index (Lib.join (p :: y :: r) [41, 40]) [41, 40] = (p.length : Int) := by rw [e]; exact index2_some _ p (h p List.mem_cons_self)
    have hd : (Lib.join (p :: y :: r) [41, 40]).drop ((Lib.index (Lib.join (p :: y :: r) [41, 40]) [41, 40]).toNat + [(41 : UInt8), 40].length) = Lib.join (y :: r) [41, 40] := by
      rw [hi, e, Int.toNat_natCast]; simp
    have ht : (Lib.join (p :: y :: r) [41, 40]).take ((Lib.index (Lib.join (p :: y :: r) [41, 40]) [41, 40]).toNat + 0) = p := by
      rw [hi, e, Int.toNat_natCast]; simp
    rw [List.length_cons]
    simp only [Lib.splitK]
    rw [if_neg (by rw [hi]; simp), hd, ht, ih y (fun x hx => h x (List.mem_cons_of_mem _ hx))]
/-- the pieces between ')(' -/
def spl2 (s : List UInt8) : List (List UInt8) := Lib.splitK [41, 40] 0 (Lib.count s [41, 40]) s
theorem spl2_join (s : List UInt8) : Lib.join (spl2 s) [41, 40] = s := join_splitK _ s
theorem spl2_of (p : List UInt8) (r : List (List UInt8)) (h : ∀ x ∈ p :: r, (41 : UInt8) ∉ x) : spl2 (Lib.join (p :: r) [41, 40]) = p :: r := by
  unfold spl2 Lib.count
  rw [count2_join r p _ h (by have := join_ge [41, 40] (by decide) r p; omega)]
  exact split2_join r p h
theorem spl2_len (s : List UInt8) : (spl2 s).length ≤ s.length + 1 ∧ ∀ g ∈ spl2 s, g.length ≤ s.length := by
  have mem : ∀ (ps : List (List UInt8)) (p : List UInt8), ∀ g ∈ p :: ps, g.length ≤ (Lib.join (p :: ps) [41, 40]).length := by
    intro ps
    induction ps with
    | nil => intro p g hg; rw [List.mem_singleton.1 hg, Lib.join_one]; exact Nat.le_refl _
    | cons y r ih =>
      intro p g hg
      rw [join_more]
      simp only [List.length_append]
      rcases List.mem_cons.1 hg with e | e
      · rw [e]; omega
      · have := ih y g e; omega
  obtain ⟨y, r, e⟩ := splitK_ne [41, 40] (Lib.count s [41, 40]) s
  have j := spl2_join s
  have e' : spl2 s = y :: r := e
  rw [e'] at j ⊢
  have a := join_ge [41, 40] (by decide) r y
  have b := mem r y
  rw [j] at a b
  exact ⟨by simp only [List.length_cons]; omega, b⟩
theorem spl2_ne (s : List UInt8) : ∃ y r, spl2 s = y :: r := splitK_ne _ _ _
theorem split2_eq (s : List UInt8) (hs : s.length ≤ 2000000) : strings_Split.f (mk s) (mk [41, 40]) = some ((spl2 s).map mk) := by
  unfold strings_Split.f
  rw [if_pos ⟨by rw [mk_size]; exact hs, by rw [mk_size]; simp⟩]
  congr 1
  have h := Lib.splitB_data (mk [41, 40]) 0 (Lib.countB (mk s) (mk [41, 40])) (mk s)
  rw [mk_data, mk_data] at h
  have hc : Lib.countB (mk s) (mk [41, 40]) = Lib.count s [41, 40] := by unfold Lib.countB; rw [mk_data, mk_data]
  have h' : (Lib.splitB (mk [41, 40]) 0 (Lib.countB (mk s) (mk [41, 40])) (mk s)).map (·.data.toList) = spl2 s := by rw [h, hc]; rfl
  rw [← h', List.map_map]
  refine ((List.map_congr_left (fun x _ => ?_)).trans (List.map_id _)).symm
  show mk x.data.toList = x
  rfl
/-! ### the text of a code -/
abbrev grL (g : List Int) : List UInt8 := numL 44 g
def codeL (c : List (List Int)) : List UInt8 := 40 :: (Lib.join (c.map grL) [41, 40] ++ [41])
def InC (c : List (List Int)) : Prop := c ≠ [] ∧ ∀ g ∈ c, g ≠ [] ∧ ∀ a ∈ g, 0 ≤ a ∧ a ≤ 500
def IsCode (c : List (List Int)) : Prop := (codeCut c).2.2.2 = true
theorem code_ok {c : List (List Int)} (h : IsCode c) : GroupsOk 1 c ∧ c.flatten.length ≤ 30 := by
  unfold IsCode codeCut at h
  split at h
  · rename_i h1
    refine ⟨h1, ?_⟩
    unfold codeV at h
    split at h
    · rename_i h2
      have := h2.1
      unfold fillV at this
      split at this
      · rename_i h3; exact h3.2.1.2
      · cases this
    · cases h
  · cases h
theorem code_in {c : List (List Int)} (h : IsCode c) : InC c := by
  obtain ⟨⟨h1, h2⟩, _⟩ := code_ok h
  refine ⟨by intro e; rw [e] at h1; simp at h1, fun g hg => ⟨by intro e; have := (h2 g hg).1; rw [e] at this; simp at this, fun a ha => by have := (h2 g hg).2 a ha; omega⟩⟩
theorem gr_no {g : List Int} (x : UInt8) (hx : Sg x) (hxb : x ≠ 44) (hr : ∀ a ∈ g, 0 ≤ a ∧ a ≤ 500) : x ∉ grL g := num_no 44 x hx hxb g hr
theorem grs_inj : ∀ V W : List (List Int), (∀ g ∈ V, g ≠ [] ∧ ∀ a ∈ g, 0 ≤ a ∧ a ≤ 500) → (∀ g ∈ W, g ≠ [] ∧ ∀ a ∈ g, 0 ≤ a ∧ a ≤ 500) → V.map grL = W.map grL → V = W := by
  intro V
  induction V with
  | nil => intro W _ _ h; cases W with
    | nil => rfl
    | cons w W => simp at h
  | cons v V ih =>
    intro W hV hW h
    cases W with
    | nil => simp at h
    | cons w W =>
      rw [List.map_cons, List.map_cons] at h
      injection h with h1 h2
      have a := hV v List.mem_cons_self
      have b := hW w List.mem_cons_self
      rw [num_inj 44 (.inl (by decide)) v w a.1 b.1 a.2 b.2 h1, ih W (fun x hx => hV x (List.mem_cons_of_mem _ hx)) (fun x hx => hW x (List.mem_cons_of_mem _ hx)) h2]
theorem code_spl2 {c : List (List Int)} (h : InC c) : spl2 (Lib.join (c.map grL) [41, 40]) = c.map grL := by
  cases c with
  | nil => exact absurd rfl h.1
  | cons g r =>
    rw [List.map_cons]
    refine spl2_of (grL g) (r.map grL) (fun x hx => ?_)
    rw [← List.map_cons] at hx
    obtain ⟨q, hq, e⟩ := List.mem_map.1 hx
    rw [← e]
    exact gr_no 41 (.inl (by decide)) (by decide) (h.2 q hq).2
theorem code_inj (c d : List (List Int)) (hc : InC c) (hd : InC d) (e : codeL c = codeL d) : c = d := by
  unfold codeL at e
  injection e with _ e
  have e2 := List.append_cancel_right e
  have e3 := congrArg spl2 e2
  rw [code_spl2 hc, code_spl2 hd] at e3
  exact grs_inj c d hc.2 hd.2 e3
theorem num_len (b : UInt8) (ns : List Int) (h : ∀ a ∈ ns, 0 ≤ a ∧ a ≤ 500) : (numL b ns).length ≤ ns.length * 4 := by
  have := join_len [b] 3 (ns.map dd) (fun x hx => by
    obtain ⟨a, ha, e⟩ := List.mem_map.1 hx
    have := h a ha
    rw [← e]; exact dd_len a.toNat (by omega))
  rw [List.length_map] at this
  simpa using this
theorem grs_len : ∀ c : List (List Int), (∀ g ∈ c, g ≠ [] ∧ ∀ a ∈ g, 0 ≤ a ∧ a ≤ 500) → (Lib.joinTail [41, 40] (c.map grL)).length ≤ 4 * c.flatten.length + 2 * c.length ∧ c.length ≤ c.flatten.length := by
  intro c
  induction c with
  | nil => intro _; simp [Lib.joinTail]
  | cons g r ih =>
    intro h
    have a := ih (fun x hx => h x (List.mem_cons_of_mem _ hx))
    have b := h g List.mem_cons_self
    have l : (grL g).length ≤ g.length * 4 := num_len 44 g b.2
    have g0 : 0 < g.length := List.length_pos_iff.2 b.1
    rw [List.map_cons, tail_cons]
    simp only [List.length_append, List.length_cons, List.length_nil, List.flatten_cons] at l ⊢
    omega
theorem code_len {c : List (List Int)} (h : IsCode c) : (codeL c).length ≤ 200 ∧ 3 ≤ (codeL c).length := by
  have hin := code_in h
  have hf := (code_ok h).2
  cases c with
  | nil => exact absurd rfl hin.1
  | cons g r =>
    have a := grs_len r (fun x hx => hin.2 x (List.mem_cons_of_mem _ hx))
    have b := hin.2 g List.mem_cons_self
    have l : (grL g).length ≤ g.length * 4 := num_len 44 g b.2
    have g0 : 0 < g.length := List.length_pos_iff.2 b.1
    have n0 : 0 < (grL g).length := by
      cases g with
      | nil => simp at g0
      | cons x t =>
        have hx := b.2 x List.mem_cons_self
        unfold grL numL
        rw [List.map_cons, Lib.join_cons]
        obtain ⟨y, _, s, e, _⟩ := dd_form x.toNat (by omega)
        have : dd x = UInt8.ofNat (48 + y) :: s := e
        rw [this]; simp
    unfold codeL
    rw [List.map_cons, Lib.join_cons]
    simp only [List.length_append, List.length_cons, List.length_nil, List.flatten_cons] at hf l ⊢
    omega

/-! ### numbers read back -/
def Rd (u : List UInt8) (v : Int) : Prop := Ev (fun k => spec_l1Read.f k (mk u)) v ∧ (1 ≤ v → v ≤ 500 → u = dd v) ∧ ∀ a, 0 ≤ a → a ≤ 500 → u = dd a → v = a
theorem ev_uniq {α : Type} {g : Nat → Option α} {a b : α} (h1 : Ev g a) (h2 : Ev g b) : a = b := by
  obtain ⟨k1, h1⟩ := h1
  obtain ⟨k2, h2⟩ := h2
  have a1 := h1 (max k1 k2) (Nat.le_max_left _ _)
  rw [h2 (max k1 k2) (Nat.le_max_right _ _)] at a1
  exact (Option.some.inj a1).symm
theorem dec_digits : ∀ (r : List UInt8) (x m : Nat), 1 ≤ x → Lib.decFrom x r = some m → Lib.decDigits m = Lib.decDigits x ++ r := by
  intro r
  induction r with
  | nil => intro x m _ h; simp only [Lib.decFrom] at h; rw [← Option.some.inj h]; simp
  | cons c r ih =>
    intro x m hx h
    simp only [Lib.decFrom] at h
    cases hv : Lib.digitVal c with
    | none => rw [hv] at h; cases h
    | some d =>
      rw [hv] at h
      obtain ⟨d1, d2, d3⟩ := dig_of hv
      rw [ih _ _ (by omega) h, dd_two (x * 10 + d) (by omega), show (x * 10 + d) / 10 = x by omega, show (x * 10 + d) % 10 = d by omega]
      have e : UInt8.ofNat (48 + d) = c := by
        rw [d3, show 48 + (c.toNat - 48) = c.toNat by omega]
        exact UInt8.ofNat_toNat
      rw [e, List.append_assoc]; rfl
theorem dec_some : ∀ (r : List UInt8) (x : Nat), (∀ c ∈ r, 48 ≤ c.toNat ∧ c.toNat ≤ 57) → ∃ m, Lib.decFrom x r = some m ∧ m < (x + 1) * 10 ^ r.length := by
  intro r
  induction r with
  | nil => intro x _; exact ⟨x, rfl, by simp⟩
  | cons c r ih =>
    intro x h
    have hc := h c List.mem_cons_self
    have hv : Lib.digitVal c = some (c.toNat - 48) := by unfold Lib.digitVal; rw [if_pos hc]
    obtain ⟨m, h1, h2⟩ := ih (x * 10 + (c.toNat - 48)) (fun y hy => h y (List.mem_cons_of_mem _ hy))
    refine ⟨m, by simp only [Lib.decFrom, hv]; exact h1, ?_⟩
    rw [List.length_cons, Nat.pow_succ]
    have : (x * 10 + (c.toNat - 48) + 1) * 10 ^ r.length ≤ ((x + 1) * 10) * 10 ^ r.length := Nat.mul_le_mul_right _ (by omega)
    rw [Nat.mul_comm (10 ^ r.length) 10, ← Nat.mul_assoc]
    omega
theorem read_bad (t : List UInt8) (ht : t.length ≤ 100) : ∀ (r : List UInt8) (i : Nat) (x : Int), t.drop i = r → i + r.length = t.length → (∃ c ∈ r, ¬ (48 ≤ c.toNat ∧ c.toNat ≤ 57)) → Ev (fun k => spec_l1Read.l0 k (mk t) x (i : Int)) (-1) := by
  have hz : (mk t).size = t.length := mk_size t
  intro r
  induction r with
  | nil => intro i x _ _ h; obtain ⟨c, hc, _⟩ := h; exact absurd hc List.not_mem_nil
  | cons c r ih =>
    intro i x hd hi h
    simp only [List.length_cons] at hi
    have hi1 : i < t.length := by omega
    have e1 := List.drop_eq_getElem_cons hi1
    rw [hd] at e1
    injection e1 with e2 e3
    have ei : wrap64 ((i : Int) + 1) = ((i + 1 : Nat) : Int) := (wrap64_id (by omega) (by omega)).trans (by omega)
    refine Ev.succ ?_
    simp only [spec_l1Read.l0]
    rw [bt_mk t i hi1, ← e2]
    refine Ev.pos (by omega) (Ev.pos (by omega) ?_)
    by_cases h1 : ((c.toNat : Nat) : Int) < 48
    · exact Ev.pos h1 (Ev.now _)
    · refine Ev.neg h1 ?_
      by_cases h2 : ((c.toNat : Nat) : Int) > 57
      · exact Ev.pos h2 (Ev.now _)
      · refine Ev.neg h2 ?_
        rw [ei]
        refine ih (i + 1) _ e3.symm (by omega) ?_
        obtain ⟨y, hy, hn⟩ := h
        rcases List.mem_cons.1 hy with e | e
        · subst e; exact absurd ⟨by omega, by omega⟩ hn
        · exact ⟨y, e, hn⟩
theorem read_back (u : List UInt8) : ∃ v, Ev (fun k => spec_l1Read.f k (mk u)) v ∧ (1 ≤ v → v ≤ 500 → u = dd v) := by
  have hz : (mk u).size = u.length := mk_size u
  by_cases h : 1 ≤ u.length ∧ u.length ≤ 6
  · cases u with
    | nil => simp at h
    | cons c r =>
      have hlen : (c :: r).length = r.length + 1 := rfl
      have hb : bt (mk (c :: r)) 0 = (c.toNat : Int) := by
        have h := bt_mk (c :: r) 0 (by simp)
        rw [show ((0 : Nat) : Int) = 0 from rfl] at h
        rw [h, List.getElem_cons_zero]
      have go : ∀ v : Int, (¬ (c.toNat = 48 ∧ 0 < r.length)) → Ev (fun k => spec_l1Read.l0 k (mk (c :: r)) 0 ((0 : Nat) : Int)) v → Ev (fun k => spec_l1Read.f k (mk (c :: r))) v := by
        intro v hn hv
        unfold spec_l1Read.f
        refine Ev.bindc (l1In_eqN _ _ _) (Ev.pos (decide_eq_true (by omega)) (Ev.pos (by omega) ?_))
        rw [hb]
        by_cases h2 : ((c.toNat : Nat) : Int) = 48
        · refine Ev.pos h2 (Ev.succ ?_)
          simp only [spec_l1Read.j0]
          exact Ev.neg (by rw [hz, hlen]; simp <;> omega) hv
        · refine Ev.neg h2 (Ev.succ ?_)
          simp only [spec_l1Read.j0]
          exact Ev.neg (by decide) hv
      by_cases h48 : c.toNat = 48 ∧ 0 < r.length
      · refine ⟨-1, ?_, fun h => by omega⟩
        unfold spec_l1Read.f
        refine Ev.bindc (l1In_eqN _ _ _) (Ev.pos (decide_eq_true (by omega)) (Ev.pos (by omega) ?_))
        rw [hb]
        refine Ev.pos (by omega) (Ev.succ ?_)
        simp only [spec_l1Read.j0]
        exact Ev.pos (by rw [hz, hlen]; simp <;> omega) (Ev.now _)
      · by_cases hd : ∀ y ∈ c :: r, 48 ≤ y.toNat ∧ y.toNat ≤ 57
        · obtain ⟨m, h1, h2⟩ := dec_some (c :: r) 0 hd
          have hm : m < 1000000 := by
            have : 10 ^ (c :: r).length ≤ 10 ^ 6 := Nat.pow_le_pow_right (by omega) h.2
            omega
          refine ⟨(m : Int), go _ h48 (l1Read_num (c :: r) (by omega) (c :: r) 0 0 m rfl (by omega) h1 hm (Nat.zero_le _)), fun p q => ?_⟩
          have hc := hd c List.mem_cons_self
          have hv : Lib.digitVal c = some (c.toNat - 48) := by unfold Lib.digitVal; rw [if_pos hc]
          simp only [Lib.decFrom, hv] at h1
          show c :: r = Lib.decDigits ((m : Int)).toNat
          rw [Int.toNat_natCast]
          by_cases h0 : c.toNat = 48
          · have : r = [] := by
              cases r with
              | nil => rfl
              | cons y r => exact absurd ⟨h0, by simp⟩ h48
            subst this
            simp only [Lib.decFrom] at h1
            have := Option.some.inj h1
            omega
          · have := dec_digits r _ m (by omega) h1
            rw [this, Nat.zero_mul, Nat.zero_add, dd_one (c.toNat - 48) (by omega), show 48 + (c.toNat - 48) = c.toNat by omega, UInt8.ofNat_toNat]; rfl
        · refine ⟨-1, go _ h48 (read_bad (c :: r) (by omega) (c :: r) 0 0 rfl (by omega) ?_), fun h => by omega⟩
          exact Classical.byContradiction fun hn => hd fun y hy => Classical.byContradiction fun hq => hn ⟨y, hy, hq⟩
  · refine ⟨-1, ?_, fun h => by omega⟩
    unfold spec_l1Read.f
    refine Ev.bindc (l1In_eqN _ _ _) (Ev.neg (by rw [decide_eq_false (by omega)]; decide) (Ev.succ ?_))
    simp only [spec_l1Read.j0]
    exact Ev.pos (by simp) (Ev.now _)
theorem rd_ex (u : List UInt8) : ∃ v, Rd u v := by
  obtain ⟨v, h1, h2⟩ := read_back u
  refine ⟨v, h1, h2, fun a h0 h9 e => ?_⟩
  rw [e] at h1
  exact ev_uniq h1 (read_dd a h0 (by omega))
def RdAll : List (List UInt8) → List Int → Prop
  | [], [] => True
  | u :: us, v :: vs => Rd u v ∧ RdAll us vs
  | _, _ => False
theorem rdAll_back : ∀ (us : List (List UInt8)) (vs : List Int), RdAll us vs → (∀ v ∈ vs, 1 ≤ v ∧ v ≤ 500) → us = vs.map dd := by
  intro us
  induction us with
  | nil => intro vs h _; cases vs with
    | nil => rfl
    | cons v vs => exact absurd h id
  | cons u us ih =>
    intro vs h hv
    cases vs with
    | nil => exact absurd h id
    | cons v vs =>
      obtain ⟨h1, h2⟩ := h
      have a := hv v List.mem_cons_self
      rw [List.map_cons, h1.2.1 a.1 a.2, ih vs h2 (fun x hx => hv x (List.mem_cons_of_mem _ hx))]
theorem rdAll_fwd : ∀ (g vs : List Int), RdAll (g.map dd) vs → (∀ v ∈ g, 0 ≤ v ∧ v ≤ 500) → vs = g := by
  intro g
  induction g with
  | nil => intro vs h _; cases vs with
    | nil => rfl
    | cons v vs => exact absurd h id
  | cons a g ih =>
    intro vs h hv
    cases vs with
    | nil => exact absurd h id
    | cons v vs =>
      obtain ⟨h1, h2⟩ := h
      have b := hv a List.mem_cons_self
      rw [h1.2.2 a b.1 b.2 rfl, ih vs h2 (fun x hx => hv x (List.mem_cons_of_mem _ hx))]
def RdPs : List (List UInt8) → List (List Int) → Prop
  | [], [] => True
  | p :: ps, g :: c => (∃ q, p = 40 :: q ∧ RdAll (spl 44 q) g) ∧ RdPs ps c
  | _, _ => False
/-- one group's numbers are read -/
theorem group_read (X4 : List (List Int)) (x33 : List ByteArray) (x34 x35 : Int) (us : List (List UInt8)) (hl : us.length ≤ 2000001) : ∀ (t : List (List UInt8)) (i : Nat) (acc : List Int), us.drop i = t → i + t.length = us.length → acc.length ≤ i →
    ∃ vs, RdAll t vs ∧ ∀ R, Ev (fun k => spec_bkParse.l1 k X4 (acc ++ vs) x33 x34 x35 (us.map mk) ((us.map mk).length : Int) (us.length : Int)) R → Ev (fun k => spec_bkParse.l1 k X4 acc x33 x34 x35 (us.map mk) ((us.map mk).length : Int) (i : Int)) R := by
  intro t
  have hml : (us.map mk).length = us.length := List.length_map _
  induction t with
  | nil =>
    intro i acc hd hi ha
    simp only [List.length_nil] at hi
    refine ⟨[], trivial, fun R hR => ?_⟩
    rw [List.append_nil] at hR
    rw [show i = us.length by omega]; exact hR
  | cons u t ih =>
    intro i acc hd hi ha
    simp only [List.length_cons] at hi
    have hi1 : i < us.length := by omega
    have e1 := List.drop_eq_getElem_cons hi1
    rw [hd] at e1
    injection e1 with e2 e3
    obtain ⟨v, hv⟩ := rd_ex u
    obtain ⟨vs, h1, h2⟩ := ih (i + 1) (acc ++ [v]) e3.symm (by omega) (by simp only [List.length_append, List.length_cons, List.length_nil]; omega)
    refine ⟨v :: vs, ⟨hv, h1⟩, fun R hR => ?_⟩
    have h3 := h2 R (by rw [List.append_assoc, List.singleton_append]; exact hR)
    refine Ev.succ ?_
    simp only [spec_bkParse.l1]
    rw [rd_str us i hi1, ← e2]
    refine Ev.pos (by omega) (Ev.pos (by omega) (Ev.pos (by omega) (Ev.bind hv.1 (Ev.pos (by omega) ?_))))
    rw [wrap64_id (n := (i : Int) + 1) (by omega) (by omega)]
    exact h3
open Classical in
noncomputable def endC (c : List (List Int)) : List (List Int) × Bool := if IsCode c then (c, true) else ([], false)
theorem endS_ev (c : List (List Int)) : Ev (fun k => (spec_bkCut.f k c).bind fun bt => (if bt.2.2.2 = true then (some (c, true)) else (some (([] : List (List Int)), false)))) (endC c) := by
  unfold endC
  by_cases h : IsCode c
  · rw [if_pos h]; exact Ev.bind (spec_bkCut_ev c) (Ev.pos h (Ev.now _))
  · rw [if_neg h]; exact Ev.bind (spec_bkCut_ev c) (Ev.neg h (Ev.now _))
theorem spec_groups (ps : List (List UInt8)) (hl : ps.length ≤ 2000001) (hp : ∀ p ∈ ps, p.length ≤ 2000000) : ∀ (t : List (List UInt8)) (i : Nat) (acc : List (List Int)), ps.drop i = t → i + t.length = ps.length → acc.length ≤ i →
    (∃ c, RdPs t c ∧ Ev (fun k => spec_bkParse.l0 k acc (ps.map mk) ((ps.map mk).length : Int) (i : Int)) (endC (acc ++ c))) ∨
    ((∃ p ∈ t, ∀ q, p ≠ 40 :: q) ∧ Ev (fun k => spec_bkParse.l0 k acc (ps.map mk) ((ps.map mk).length : Int) (i : Int)) ([], false)) := by
  intro t
  have hml : (ps.map mk).length = ps.length := List.length_map _
  induction t with
  | nil =>
    intro i acc hd hi ha
    simp only [List.length_nil] at hi
    refine .inl ⟨[], trivial, ?_⟩
    rw [List.append_nil]
    refine Ev.succ ?_
    simp only [spec_bkParse.l0]
    exact Ev.neg (by omega) (endS_ev acc)
  | cons p t ih =>
    intro i acc hd hi ha
    simp only [List.length_cons] at hi
    have hi1 : i < ps.length := by omega
    have e1 := List.drop_eq_getElem_cons hi1
    rw [hd] at e1
    injection e1 with e2 e3
    have hpp := hp _ (List.getElem_mem hi1)
    rw [← e2] at hpp
    have hz : (mk p).size = p.length := mk_size p
    have bad : (∀ q, p ≠ 40 :: q) → Ev (fun k => spec_bkParse.l0 k acc (ps.map mk) ((ps.map mk).length : Int) (i : Int)) ([], false) := by
      intro hb
      refine Ev.succ ?_
      simp only [spec_bkParse.l0]
      rw [rd_str ps i hi1, ← e2]
      refine Ev.pos (by omega) (Ev.pos (by omega) (Ev.pos (by omega) ?_))
      have out : ∀ b, b = true → Ev (fun k => spec_bkParse.j2 k acc (mk p) (ps.map mk) ((ps.map mk).length : Int) (i : Int) b) ([], false) := fun b hb => Ev.succ (by
        simp only [spec_bkParse.j2]
        exact Ev.pos hb (Ev.now _))
      cases p with
      | nil => exact Ev.pos rfl (out _ rfl)
      | cons x q =>
        refine Ev.neg (by rw [hz]; simp <;> omega) (Ev.pos (by rw [hz]; simp <;> omega) (out _ ?_))
        have h := bt_mk (x :: q) 0 (by simp)
        rw [show ((0 : Nat) : Int) = 0 from rfl] at h
        rw [h, List.getElem_cons_zero, bne_iff_ne]
        intro h2
        refine hb q ?_
        have : x = 40 := UInt8.toNat_inj.1 (by have : ((40 : UInt8)).toNat = 40 := by decide
                                               omega)
        rw [this]
    by_cases hq : ∃ q, p = 40 :: q
    · obtain ⟨q, rfl⟩ := hq
      simp only [List.length_cons] at hpp
      have hl44 := spl_len 44 q
      have hsp := l1Split_ev q (by omega) 44
      rw [show ((44 : UInt8).toNat : Int) = 44 by decide] at hsp
      obtain ⟨g, g1, g2⟩ := group_read acc (ps.map mk) ((ps.map mk).length : Int) (i : Int) (spl 44 q) (by omega) (spl 44 q) 0 [] rfl (by simp) (by simp)
      rw [List.nil_append] at g2
      have step : ∀ R, Ev (fun k => spec_bkParse.l0 k (acc ++ [g]) (ps.map mk) ((ps.map mk).length : Int) ((i + 1 : Nat) : Int)) R → Ev (fun k => spec_bkParse.l0 k acc (ps.map mk) ((ps.map mk).length : Int) (i : Int)) R := by
        intro R hR
        refine Ev.succ ?_
        simp only [spec_bkParse.l0]
        rw [rd_str ps i hi1, ← e2]
        have hb := bt_mk (40 :: q) 0 (by simp)
        rw [show ((0 : Nat) : Int) = 0 from rfl, List.getElem_cons_zero] at hb
        refine Ev.pos (by omega) (Ev.pos (by omega) (Ev.pos (by omega) (Ev.neg (by rw [hz]; simp <;> omega) (Ev.pos (by rw [hz]; simp <;> omega) ?_))))
        rw [hb, show (((40 : UInt8).toNat : Int) != 40) = false by decide]
        refine Ev.succ ?_
        simp only [spec_bkParse.j2]
        refine Ev.neg (by decide) (Ev.pos (by rw [hz]; simp <;> omega) ?_)
        rw [ext_mk, show (((40 :: q).drop 1).take ((mk (40 :: q)).size - 1)) = q by rw [hz]; simp]
        refine Ev.bind hsp (g2 R (Ev.succ ?_))
        simp only [spec_bkParse.l1]
        refine Ev.neg (by rw [List.length_map]; omega) (Ev.pos (by omega) ?_)
        rw [wrap64_id (n := (i : Int) + 1) (by omega) (by omega)]
        exact hR
      rcases ih (i + 1) (acc ++ [g]) e3.symm (by omega) (by simp only [List.length_append, List.length_cons, List.length_nil]; omega) with ⟨c, q1, q2⟩ | ⟨⟨y, hy, hn⟩, q2⟩
      · refine .inl ⟨g :: c, ⟨⟨q, rfl, g1⟩, q1⟩, ?_⟩
        have := step _ q2
        rw [List.append_assoc, List.singleton_append] at this
        exact this
      · exact .inr ⟨⟨y, List.mem_cons_of_mem _ hy, hn⟩, step _ q2⟩
    · have hb : ∀ q, p ≠ 40 :: q := fun q e => hq ⟨q, e⟩
      exact .inr ⟨⟨p, List.mem_cons_self, hb⟩, bad hb⟩
/-! ### the reference's answer -/
theorem code_alt : ∀ c : List (List Int), c ≠ [] → codeL c = Lib.join (c.map fun g => 40 :: grL g) [41] ++ [41] := by
  have tl : ∀ c : List (List Int), Lib.joinTail [41, 40] (c.map grL) = Lib.joinTail [41] (c.map fun g => 40 :: grL g) := by
    intro c
    induction c with
    | nil => rfl
    | cons g r ih => rw [List.map_cons, List.map_cons, tail_cons, tail_cons, ih]; rfl
  intro c h
  cases c with
  | nil => exact absurd rfl h
  | cons g r =>
    unfold codeL
    rw [List.map_cons, List.map_cons, Lib.join_cons, Lib.join_cons, tl]; rfl
theorem code_spl {c : List (List Int)} (h : InC c) : spl 41 (Lib.join (c.map fun g => 40 :: grL g) [41]) = c.map fun g => 40 :: grL g := by
  refine spl_of_join 41 _ (by simpa using h.1) (fun p hp => ?_)
  obtain ⟨g, hg, e⟩ := List.mem_map.1 hp
  rw [← e]
  intro hm
  rcases List.mem_cons.1 hm with z | z
  · exact absurd z (by decide)
  · exact gr_no 41 (.inl (by decide)) (by decide) (h.2 g hg).2 z
theorem rdPs_back : ∀ (ps : List (List UInt8)) (c : List (List Int)), RdPs ps c → (∀ g ∈ c, ∀ v ∈ g, 1 ≤ v ∧ v ≤ 500) → ps = c.map fun g => 40 :: grL g := by
  intro ps
  induction ps with
  | nil => intro c h _; cases c with
    | nil => rfl
    | cons g c => exact absurd h id
  | cons p ps ih =>
    intro c h hv
    cases c with
    | nil => exact absurd h id
    | cons g c =>
      obtain ⟨⟨q, e, h1⟩, h2⟩ := h
      have a := rdAll_back _ _ h1 (hv g List.mem_cons_self)
      have j := spl_join 44 q
      rw [a] at j
      rw [List.map_cons, e, ih c h2 (fun x hx => hv x (List.mem_cons_of_mem _ hx)), ← j]
theorem rdPs_fwd : ∀ (d c : List (List Int)), (∀ g ∈ d, g ≠ [] ∧ ∀ a ∈ g, 0 ≤ a ∧ a ≤ 500) → RdPs (d.map fun g => 40 :: grL g) c → c = d := by
  intro d
  induction d with
  | nil => intro c _ h; cases c with
    | nil => rfl
    | cons g c => exact absurd h id
  | cons g d ih =>
    intro c hd h
    cases c with
    | nil => exact absurd h id
    | cons x c =>
      obtain ⟨⟨q, e, h1⟩, h2⟩ := h
      injection e with _ e
      have b := hd g List.mem_cons_self
      rw [← e, num_spl 44 (.inl (by decide)) g b.1 b.2] at h1
      rw [rdAll_fwd g x h1 b.2, ih c (fun y hy => hd y (List.mem_cons_of_mem _ hy)) h2]
theorem code_vals {c : List (List Int)} (h : IsCode c) : ∀ g ∈ c, ∀ v ∈ g, 1 ≤ v ∧ v ≤ 500 := fun g hg v hv => ((code_ok h).1.2 g hg).2 v hv
def IsText (s : List UInt8) : Prop := ∃ c, IsCode c ∧ s = codeL c
theorem spec_parse (s : List UInt8) (hs : s.length ≤ 1048576) :
    (∃ c, IsCode c ∧ s = codeL c ∧ Ev (fun k => spec_ParseCode.f k (mk s)) (c, true)) ∨
    (¬ IsText s ∧ Ev (fun k => spec_ParseCode.f k (mk s)) ([], false)) := by
  have hz : (mk s).size = s.length := mk_size s
  have up : ∀ R : List (List Int) × Bool, Ev (fun k => spec_bkParse.f k (mk s)) R → Ev (fun k => spec_ParseCode.f k (mk s)) R := fun R h => Ev.bind h (Ev.now _)
  have no : ∀ b, b = true → Ev (fun k => spec_bkParse.j0 k (mk s) b) ([], false) := fun b hb => Ev.succ (by
    simp only [spec_bkParse.j0]
    exact Ev.pos hb (Ev.now _))
  by_cases h3 : s.length < 3
  · refine .inr ⟨fun ⟨c, hc, e⟩ => by have := (code_len hc).2; rw [← e] at this; omega, up _ ?_⟩
    unfold spec_bkParse.f
    exact Ev.pos (by omega) (no _ rfl)
  · by_cases h200 : s.length > 200
    · refine .inr ⟨fun ⟨c, hc, e⟩ => by have := (code_len hc).1; rw [← e] at this; omega, up _ ?_⟩
      unfold spec_bkParse.f
      exact Ev.neg (by omega) (Ev.pos (by omega) (no _ rfl))
    · obtain ⟨y, z, rfl⟩ : ∃ y z, s = y ++ [z] := ⟨s.dropLast, s.getLast (by intro e; rw [e] at h3; simp at h3), (List.dropLast_concat_getLast _).symm⟩
      have hl : (y ++ [z]).length = y.length + 1 := by simp
      have hw : wrap64 (((mk (y ++ [z])).size : Int) - 1) = (y.length : Int) := by rw [hz, hl, wrap64_id (by omega) (by omega)]; omega
      have hb : bt (mk (y ++ [z])) (y.length : Int) = (z.toNat : Int) := by rw [bt_mk _ _ (by omega)]; simp
      have start : ∀ R, Ev (fun k => spec_bkParse.j0 k (mk (y ++ [z])) ((z.toNat : Int) != 41)) R → Ev (fun k => spec_bkParse.f k (mk (y ++ [z]))) R := by
        intro R hR
        unfold spec_bkParse.f
        rw [hw, hb]
        exact Ev.neg (by omega) (Ev.neg (by omega) (Ev.pos (by omega) (Ev.pos (by omega) hR)))
      by_cases h41 : z = 41
      · subst h41
        have hsp := l1Split_ev y (by omega) 41
        rw [show ((41 : UInt8).toNat : Int) = 41 by decide] at hsp
        have hl41 := spl_len 41 y
        have start2 : ∀ R, Ev (fun k => spec_bkParse.l0 k [] ((spl 41 y).map mk) (((spl 41 y).map mk).length : Int) ((0 : Nat) : Int)) R → Ev (fun k => spec_ParseCode.f k (mk (y ++ [41]))) R := by
          intro R hR
          refine up _ (start R (Ev.succ ?_))
          simp only [spec_bkParse.j0]
          rw [hw]
          refine Ev.neg (by decide) (Ev.pos (by omega) (Ev.pos (by omega) ?_))
          rw [Int.toNat_natCast, ext_mk, show ((y ++ [(41 : UInt8)]).drop 0).take (y.length - 0) = y by simp]
          exact Ev.bind hsp hR
        have pieces : ∀ d, IsCode d → y ++ [41] = codeL d → spl 41 y = d.map fun g => 40 :: grL g := by
          intro d hd e
          rw [code_alt d (code_in hd).1] at e
          rw [List.append_cancel_right e]
          exact code_spl (code_in hd)
        rcases spec_groups (spl 41 y) (by omega) (fun g hg => by have := hl41.2 g hg; omega) (spl 41 y) 0 [] rfl (by simp) (by simp) with ⟨c, q1, q2⟩ | ⟨⟨p, hp, hn⟩, q2⟩
        · have h4 := start2 _ q2
          rw [List.nil_append] at h4
          unfold endC at h4
          by_cases hc : IsCode c
          · rw [if_pos hc] at h4
            refine .inl ⟨c, hc, ?_, h4⟩
            have j := spl_join 41 y
            rw [rdPs_back _ c q1 (code_vals hc)] at j
            rw [code_alt c (code_in hc).1, j]
          · rw [if_neg hc] at h4
            refine .inr ⟨fun ⟨d, hd, e⟩ => hc ?_, h4⟩
            rw [pieces d hd e] at q1
            rw [rdPs_fwd d c (code_in hd).2 q1]; exact hd
        · refine .inr ⟨fun ⟨d, hd, e⟩ => ?_, start2 _ q2⟩
          rw [pieces d hd e] at hp
          obtain ⟨g, _, e2⟩ := List.mem_map.1 hp
          exact hn _ e2.symm
      · refine .inr ⟨fun ⟨d, hd, e⟩ => h41 ?_, up _ (start _ (no _ ?_))⟩
        · rw [code_alt d (code_in hd).1] at e
          have := congrArg List.getLast? e
          simpa using this
        · rw [bne_iff_ne]
          intro h2
          exact h41 (UInt8.toNat_inj.1 (by have : ((41 : UInt8)).toNat = 41 := by decide
                                           omega))

/-! ### the program's -/
theorem endI_ev (c : List (List Int)) : Ev (fun k => (impl_IsCutCode.f k c).bind fun t => (if t = true then (some (c, true)) else (some (([] : List (List Int)), false)))) (endC c) := by
  have s2 : Ev (fun k => impl_IsCutCode.f k c) (codeCut c).2.2.2 := by
    unfold impl_IsCutCode.f
    exact Ev.bind (impl_CutOfCode_ev c) (Ev.now _)
  unfold endC
  by_cases h : IsCode c
  · rw [if_pos h]; exact Ev.bind s2 (Ev.pos h (Ev.now _))
  · rw [if_neg h]; exact Ev.bind s2 (Ev.neg h (Ev.now _))
theorem words_read (X4 : List (List Int)) (ps : List (List UInt8)) (hX : X4.length ≤ 2000001) (x : Nat) (hx : x ≤ 2000001) (us : List (List UInt8)) (hl : us.length ≤ 2000001) (hp : ∀ p ∈ us, p.length ≤ 2000000) : ∀ (t : List (List UInt8)) (i : Nat) (acc : List Int), us.drop i = t → i + t.length = us.length → acc.length ≤ i →
    (∃ g : List Int, (∀ a ∈ g, 0 ≤ a ∧ a ≤ 500) ∧ t = g.map dd ∧ ∀ R, Ev (fun k => impl_ParseCode.l0 k (X4 ++ [acc ++ g]) (ps.map mk) ((ps.map mk).length : Int) ((x + 1 : Nat) : Int)) R → Ev (fun k => impl_ParseCode.l1 k X4 acc (ps.map mk) ((ps.map mk).length : Int) (x : Int) (us.map mk) ((us.map mk).length : Int) (i : Int)) R) ∨
    ((¬ ∃ g : List Int, (∀ a ∈ g, 0 ≤ a ∧ a ≤ 500) ∧ t = g.map dd) ∧ Ev (fun k => impl_ParseCode.l1 k X4 acc (ps.map mk) ((ps.map mk).length : Int) (x : Int) (us.map mk) ((us.map mk).length : Int) (i : Int)) ([], false)) := by
  intro t
  have hml : (us.map mk).length = us.length := List.length_map _
  induction t with
  | nil =>
    intro i acc hd hi ha
    simp only [List.length_nil] at hi
    refine .inl ⟨[], fun a ha => absurd ha List.not_mem_nil, rfl, fun R hR => ?_⟩
    rw [List.append_nil] at hR
    refine Ev.succ ?_
    simp only [impl_ParseCode.l1]
    refine Ev.neg (by omega) (Ev.pos (by omega) ?_)
    rw [wrap64_id (n := (x : Int) + 1) (by omega) (by omega)]
    exact hR
  | cons u t ih =>
    intro i acc hd hi ha
    simp only [List.length_cons] at hi
    have hi1 : i < us.length := by omega
    have e1 := List.drop_eq_getElem_cons hi1
    rw [hd] at e1
    injection e1 with e2 e3
    have hpu := hp u (by rw [e2]; exact List.getElem_mem _)
    rcases number_cases u hpu 500 (by omega) with ⟨a, h0, h1, e, hn⟩ | ⟨hb, hn⟩
    · have step : ∀ R, Ev (fun k => impl_ParseCode.l1 k X4 (acc ++ [a]) (ps.map mk) ((ps.map mk).length : Int) (x : Int) (us.map mk) ((us.map mk).length : Int) ((i + 1 : Nat) : Int)) R → Ev (fun k => impl_ParseCode.l1 k X4 acc (ps.map mk) ((ps.map mk).length : Int) (x : Int) (us.map mk) ((us.map mk).length : Int) (i : Int)) R := by
        intro R hR
        refine Ev.succ ?_
        simp only [impl_ParseCode.l1]
        rw [rd_str us i hi1, ← e2]
        refine Ev.pos (by omega) (Ev.pos (by omega) (Ev.pos (by omega) (Ev.bindc hn (Ev.pos rfl (Ev.pos (by omega) ?_)))))
        rw [wrap64_id (n := (i : Int) + 1) (by omega) (by omega)]
        exact hR
      rcases ih (i + 1) (acc ++ [a]) e3.symm (by omega) (by simp only [List.length_append, List.length_cons, List.length_nil]; omega) with ⟨g, q1, q2, q3⟩ | ⟨q1, q2⟩
      · refine .inl ⟨a :: g, fun y hy => (List.mem_cons.1 hy).elim (fun z => by rw [z]; exact ⟨h0, h1⟩) (q1 y), by rw [q2, e]; rfl, fun R hR => step R (q3 R ?_)⟩
        rw [List.append_assoc, List.singleton_append]; exact hR
      · refine .inr ⟨fun ⟨g, z1, z2⟩ => ?_, step _ q2⟩
        cases g with
        | nil => simp at z2
        | cons y g =>
          rw [List.map_cons] at z2
          injection z2 with _ z3
          exact q1 ⟨g, fun y hy => z1 y (List.mem_cons_of_mem _ hy), z3⟩
    · refine .inr ⟨fun ⟨g, z1, z2⟩ => ?_, ?_⟩
      · cases g with
        | nil => simp at z2
        | cons y g =>
          rw [List.map_cons] at z2
          injection z2 with z3 _
          have := z1 y List.mem_cons_self
          exact hb y this.1 this.2 z3
      · refine Ev.succ ?_
        simp only [impl_ParseCode.l1]
        rw [rd_str us i hi1, ← e2]
        exact Ev.pos (by omega) (Ev.pos (by omega) (Ev.pos (by omega) (Ev.bindc hn (Ev.neg (by simp) (Ev.now _)))))
theorem grp_of (p : List UInt8) (g : List Int) (h : spl 44 p = g.map dd) : p = grL g ∧ g ≠ [] := by
  have j := spl_join 44 p
  rw [h] at j
  refine ⟨j.symm, fun e => ?_⟩
  rw [e] at h
  exact spl_ne 44 p h
theorem impl_groups (ps : List (List UInt8)) (hl : ps.length ≤ 2000001) (hp : ∀ p ∈ ps, p.length ≤ 2000000) : ∀ (t : List (List UInt8)) (i : Nat) (acc : List (List Int)), ps.drop i = t → i + t.length = ps.length → acc.length ≤ i →
    (∃ c : List (List Int), (∀ g ∈ c, g ≠ [] ∧ ∀ a ∈ g, 0 ≤ a ∧ a ≤ 500) ∧ t = c.map grL ∧ Ev (fun k => impl_ParseCode.l0 k acc (ps.map mk) ((ps.map mk).length : Int) (i : Int)) (endC (acc ++ c))) ∨
    ((¬ ∃ c : List (List Int), (∀ g ∈ c, g ≠ [] ∧ ∀ a ∈ g, 0 ≤ a ∧ a ≤ 500) ∧ t = c.map grL) ∧ Ev (fun k => impl_ParseCode.l0 k acc (ps.map mk) ((ps.map mk).length : Int) (i : Int)) ([], false)) := by
  intro t
  have hml : (ps.map mk).length = ps.length := List.length_map _
  induction t with
  | nil =>
    intro i acc hd hi ha
    simp only [List.length_nil] at hi
    refine .inl ⟨[], fun g hg => absurd hg List.not_mem_nil, rfl, ?_⟩
    rw [List.append_nil]
    refine Ev.succ ?_
    simp only [impl_ParseCode.l0]
    exact Ev.neg (by omega) (endI_ev acc)
  | cons p t ih =>
    intro i acc hd hi ha
    simp only [List.length_cons] at hi
    have hi1 : i < ps.length := by omega
    have e1 := List.drop_eq_getElem_cons hi1
    rw [hd] at e1
    injection e1 with e2 e3
    have hpp := hp _ (List.getElem_mem hi1)
    rw [← e2] at hpp
    have hl44 := spl_len 44 p
    have start : ∀ R, Ev (fun k => impl_ParseCode.l1 k acc [] (ps.map mk) ((ps.map mk).length : Int) (i : Int) ((spl 44 p).map mk) (((spl 44 p).map mk).length : Int) ((0 : Nat) : Int)) R → Ev (fun k => impl_ParseCode.l0 k acc (ps.map mk) ((ps.map mk).length : Int) (i : Int)) R := by
      intro R hR
      refine Ev.succ ?_
      simp only [impl_ParseCode.l0]
      rw [rd_str ps i hi1, ← e2]
      have c44 : (⟨#[44]⟩ : ByteArray) = mk [44] := rfl
      rw [c44]
      exact Ev.pos (by omega) (Ev.pos (by omega) (Ev.pos (by omega) (Ev.bindc (split_eq 44 p hpp) hR)))
    rcases words_read acc ps (by omega) i (by omega) (spl 44 p) (by omega) (fun g hg => by have := hl44.2 g hg; omega) (spl 44 p) 0 [] rfl (by simp) (by simp) with ⟨g, q1, q2, q3⟩ | ⟨q1, q2⟩
    · obtain ⟨ep, eg⟩ := grp_of p g q2
      rw [List.nil_append] at q3
      rcases ih (i + 1) (acc ++ [g]) e3.symm (by omega) (by simp only [List.length_append, List.length_cons, List.length_nil]; omega) with ⟨c, r1, r2, r3⟩ | ⟨r1, r2⟩
      · refine .inl ⟨g :: c, fun y hy => (List.mem_cons.1 hy).elim (fun z => by rw [z]; exact ⟨eg, q1⟩) (r1 y), by rw [ep, r2]; rfl, start _ (q3 _ ?_)⟩
        rw [List.append_assoc, List.singleton_append] at r3
        exact r3
      · refine .inr ⟨fun ⟨c, z1, z2⟩ => ?_, start _ (q3 _ r2)⟩
        cases c with
        | nil => simp at z2
        | cons y c =>
          rw [List.map_cons] at z2
          injection z2 with _ z3
          exact r1 ⟨c, fun y hy => z1 y (List.mem_cons_of_mem _ hy), z3⟩
    · refine .inr ⟨fun ⟨c, z1, z2⟩ => ?_, start _ q2⟩
      cases c with
      | nil => simp at z2
      | cons y c =>
        rw [List.map_cons] at z2
        injection z2 with z3 _
        have b := z1 y List.mem_cons_self
        exact q1 ⟨y, b.2, by rw [z3]; exact num_spl 44 (.inl (by decide)) y b.1 b.2⟩
theorem pre_eq (s : List UInt8) : strings_CutPrefix.f (mk s) (mk [40]) = some (if [40].isPrefixOf s = true then mk (s.drop 1) else mk s, [40].isPrefixOf s) := by
  unfold strings_CutPrefix.f
  rw [mk_data, mk_data]
  unfold Lib.trimPrefix Lib.hasPrefix
  split <;> rfl
theorem suf_eq (s : List UInt8) (h : s.length ≤ 2000000) : strings_CutSuffix.f (mk s) (mk [41]) = some (if [41].isSuffixOf s = true then mk (s.take (s.length - 1)) else mk s, [41].isSuffixOf s) := by
  unfold strings_CutSuffix.f
  rw [if_pos (by rw [mk_size]; exact h), mk_data, mk_data]
  unfold Lib.trimSuffix Lib.hasSuffix
  split <;> rfl
theorem suf_at (y : List UInt8) (z : UInt8) : [41].isSuffixOf (y ++ [z]) = decide (z = 41) := by
  unfold List.isSuffixOf
  rw [List.reverse_append]
  simp only [List.reverse_cons, List.reverse_nil, List.nil_append, List.singleton_append, List.isPrefixOf, Bool.and_true]
  by_cases h : z = 41
  · simp [h]
  · simp [h]; exact fun e => h e.symm
theorem impl_parse (s : List UInt8) (hs : s.length ≤ 1048576) :
    (∃ c, IsCode c ∧ s = codeL c ∧ Ev (fun k => impl_ParseCode.f k (mk s)) (c, true)) ∨
    (¬ IsText s ∧ Ev (fun k => impl_ParseCode.f k (mk s)) ([], false)) := by
  have c40 : (⟨#[40]⟩ : ByteArray) = mk [40] := rfl
  have c41 : (⟨#[41]⟩ : ByteArray) = mk [41] := rfl
  have c2 : (⟨#[41, 40]⟩ : ByteArray) = mk [41, 40] := rfl
  have no : ∀ x b, b = true → Ev (fun k => impl_ParseCode.j0 k [] x b) ([], false) := fun x b hb => Ev.succ (by
    simp only [impl_ParseCode.j0]
    exact Ev.pos hb (Ev.now _))
  have notext : ∀ h : Prop, (∃ c, IsCode c ∧ s = codeL c) → (∀ x, s = 40 :: x → (∃ y, x = y ++ [41]) → h) → h := fun h ⟨c, hc, e⟩ k => k _ e ⟨_, rfl⟩
  cases s with
  | nil =>
    refine .inr ⟨fun h => notext _ h (fun x e _ => by cases e), ?_⟩
    unfold impl_ParseCode.f
    rw [c40, c41]
    refine Ev.bindc rfl (Ev.bindc (pre_eq []) (Ev.bindc (suf_eq [] (by simp)) ?_))
    exact Ev.neg (by decide) (no _ _ rfl)
  | cons a x =>
    simp only [List.length_cons] at hs
    by_cases ha : a = 40
    · subst ha
      have hpre : strings_CutPrefix.f (mk (40 :: x)) (mk [40]) = some (mk x, true) := by rw [pre_eq]; simp [List.isPrefixOf]
      have start : ∀ (R : List (List Int) × Bool) (i : ByteArray) (two : Bool), strings_CutSuffix.f (mk x) (mk [41]) = some (i, two) → Ev (fun k => impl_ParseCode.j0 k [] i (!two)) R → Ev (fun k => impl_ParseCode.f k (mk (40 :: x))) R := by
        intro R i two h hR
        unfold impl_ParseCode.f
        rw [c40, c41]
        exact Ev.bindc rfl (Ev.bindc hpre (Ev.bindc h (Ev.pos rfl hR)))
      by_cases hx : ∃ y, x = y ++ [41]
      · obtain ⟨y, rfl⟩ := hx
        simp only [List.length_append, List.length_cons, List.length_nil] at hs
        have hsuf : strings_CutSuffix.f (mk (y ++ [41])) (mk [41]) = some (mk y, true) := by
          rw [suf_eq _ (by simp; omega), suf_at]; simp
        have hl2 := spl2_len y
        have go : ∀ R, Ev (fun k => impl_ParseCode.l0 k [] ((spl2 y).map mk) (((spl2 y).map mk).length : Int) ((0 : Nat) : Int)) R → Ev (fun k => impl_ParseCode.f k (mk (40 :: (y ++ [41])))) R := by
          intro R hR
          refine start R _ _ hsuf (Ev.succ ?_)
          simp only [impl_ParseCode.j0]
          rw [c2]
          exact Ev.neg (by decide) (Ev.bindc (split2_eq y (by omega)) hR)
        have pieces : ∀ d, IsCode d → 40 :: (y ++ [41]) = codeL d → spl2 y = d.map grL := by
          intro d hd e
          unfold codeL at e
          injection e with _ e
          rw [List.append_cancel_right e]
          exact code_spl2 (code_in hd)
        rcases impl_groups (spl2 y) (by omega) (fun g hg => by have := hl2.2 g hg; omega) (spl2 y) 0 [] rfl (by simp) (by simp) with ⟨c, q1, q2, q3⟩ | ⟨q1, q2⟩
        · have h4 := go _ q3
          rw [List.nil_append] at h4
          unfold endC at h4
          by_cases hc : IsCode c
          · rw [if_pos hc] at h4
            refine .inl ⟨c, hc, ?_, h4⟩
            have j := spl2_join y
            rw [q2] at j
            unfold codeL
            rw [j]
          · rw [if_neg hc] at h4
            refine .inr ⟨fun ⟨d, hd, e⟩ => hc ?_, h4⟩
            rw [grs_inj c d q1 (code_in hd).2 (q2.symm.trans (pieces d hd e))]; exact hd
        · exact .inr ⟨fun ⟨d, hd, e⟩ => q1 ⟨d, (code_in hd).2, pieces d hd e⟩, go _ q2⟩
      · refine .inr ⟨fun h => notext _ h (fun x' e hy => hx (by injection e with _ e; rw [e]; exact hy)), ?_⟩
        have hsuf : [41].isSuffixOf x = false := by
          rcases List.eq_nil_or_concat x with e | ⟨y, z, e⟩
          · rw [e]; rfl
          · rw [e, List.concat_eq_append, suf_at]
            refine decide_eq_false (fun hz => hx ⟨y, ?_⟩)
            rw [e, List.concat_eq_append, hz]
        have h2 := suf_eq x (by omega)
        rw [hsuf] at h2
        exact start _ _ _ h2 (no _ _ rfl)
    · refine .inr ⟨fun h => notext _ h (fun x e _ => ha (by injection e)), ?_⟩
      have hpre : ∃ i, strings_CutPrefix.f (mk (a :: x)) (mk [40]) = some (mk i, false) ∧ i.length ≤ 2000000 := by
        refine ⟨a :: x, ?_, by simp only [List.length_cons]; omega⟩
        rw [pre_eq]
        have : [40].isPrefixOf (a :: x) = false := by simp [List.isPrefixOf]; exact fun e => ha e.symm
        rw [this]; rfl
      obtain ⟨i, h1, h2⟩ := hpre
      unfold impl_ParseCode.f
      rw [c40, c41]
      exact Ev.bindc rfl (Ev.bindc h1 (Ev.bindc (suf_eq i h2) (Ev.neg (by simp) (no _ _ rfl))))
theorem both_parse (s : List UInt8) (hs : s.length ≤ 1048576) : ∃ B : List (List Int) × Bool, (B.1.length ≤ 30 ∧ ∀ g ∈ B.1, g.length ≤ 30) ∧ Ev (fun k => spec_ParseCode.f k (mk s)) B ∧ Ev (fun k => impl_ParseCode.f k (mk s)) B := by
  rcases impl_parse s hs with ⟨c, hc, e, h⟩ | ⟨hno, h⟩
  · rcases spec_parse s hs with ⟨d, hd, e', h'⟩ | ⟨hno', h'⟩
    · have := code_inj d c (code_in hd) (code_in hc) (e'.symm.trans e)
      subst this
      have ok := (code_ok hc).1
      exact ⟨(d, true), ⟨ok.1.2, fun g hg => (ok.2 g hg).1.2⟩, h', h⟩
    · exact absurd ⟨c, hc, e⟩ hno'
  · rcases spec_parse s hs with ⟨d, hd, e', h'⟩ | ⟨hno', h'⟩
    · exact absurd ⟨d, hd, e'⟩ hno
    · exact ⟨([], false), by simp, h', h⟩

theorem FnExactParseCode : laws_FnExactParseCode.Pure := by
  classical
  intro a _
  refine Ev.rounds (g := fun k => laws_FnExactParseCode.f k a) ?_
  unfold laws_FnExactParseCode.f
  by_cases h : a.size ≤ 1048576
  · have ea : a = mk a.data.toList := rfl
    obtain ⟨B, hb, s1, s2⟩ := both_parse a.data.toList (by rw [← mk_size]; exact h)
    rw [← ea] at s1 s2
    have ht : totL B.1 ≤ 1000000000000 := by have := totL_le 30 B.1 hb.2; omega
    have qB := eqIntSS_ev B.1 (by omega) (fun r hr => by have := hb.2 r hr; omega)
    have mB := markIntSS_ev B.1 (by omega) ht
    have hB := heldIntSS_ev B.1 (by omega) ht
    have h0 := totL_nonneg B.1
    refine Ev.neg (by omega) (Ev.bind s1 (Ev.bind s2 (Ev.bind qB (Ev.pos rfl ?_))))
    refine Ev.succ ?_
    simp only [laws_FnExactParseCode.j0]
    refine Ev.neg (by simp) (Ev.bind mB (Ev.bind hB (Ev.neg (by omega) (Ev.pos rfl (Ev.bind s2 (Ev.bind qB (Ev.pos rfl ?_)))))))
    refine Ev.succ ?_
    simp only [laws_FnExactParseCode.j1]
    refine Ev.neg (by simp) (Ev.bind hB (Ev.neg (by omega) (Ev.pos rfl (Ev.now _))))
  · exact Ev.pos (by omega) (Ev.now _)

end Go.Proofs.YtnmaeekclpmmnaaGreatDoor.Pure
