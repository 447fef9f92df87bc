/- The program's FirstCode and the reference's return the same for all arguments: the code of the first one of all turned and mirrored cuts. -/
import Derived.Test.YtmmcbdndelaeoaaPFnExactFirstCodex14
import Derived.Test.YtmmcbdndelaeoaaPFnExactFirstCodex0
import Derived.Test.YtmmcbdndelaeoaaPFnExactFirstCodex1
import Derived.Test.YtmmcbdndelaeoaaPFnExactFirstCodex2
import Derived.Test.YtmmcbdndelaeoaaPFnExactFirstCodex3
import Derived.Test.YtmmcbdndelaeoaaPFnExactFirstCodex4
import Derived.Test.YtmmcbdndelaeoaaPFnExactFirstCodex5
import Derived.Test.YtmmcbdndelaeoaaPFnExactFirstCodex6
import Derived.Test.YtmmcbdndelaeoaaPFnExactFirstCodex7
import Derived.Test.YtmmcbdndelaeoaaPFnExactFirstCodex8
import Derived.Test.YtmmcbdndelaeoaaPFnExactFirstCodex9
import Derived.Test.YtmmcbdndelaeoaaPFnExactFirstCodex10
import Derived.Test.YtmmcbdndelaeoaaPFnExactFirstCodex11
import Derived.Test.YtmmcbdndelaeoaaPFnExactFirstCodex12
import Derived.Test.YtmmcbdndelaeoaaPFnExactFirstCodex13
import Derived.Test.YtmmcbdndelaeoaaWGuardMoreInvWords
namespace Go.Proofs.Ytmmcbdndelaeoaa.Pure
open Go.RowKit Go.Proofs.Ytmmcbdndelaeoaa.PFnExactFirstCode Go.Proofs.YtmmcbdndelaeoaaW.PrintWords Go.Proofs.YtmmcbdndelaeoaaW.PrintLast Go.Proofs.YtmmcbdndelaeoaaW.PrintMore Go.Proofs.YtmmcbdndelaeoaaW.Evs
set_option linter.unusedVariables false
set_option linter.unusedSimpArgs false
/-! ### a cut: what the program's IsCut and the reference's cuGood answer -/
abbrev Sq := S97
def sqAt (l : List Sq) (j : Nat) : Sq := l.getD j z97
theorem rd_sq (l : List Sq) (j : Nat) : rd_T97 l (j : Int) = sqAt l j := by unfold rd_T97 sqAt; rw [Int.toNat_natCast]
theorem sqAt_get (l : List Sq) (j : Nat) (h : j < l.length) : sqAt l j = l[j] := by unfold sqAt; simp [List.getD, h]
theorem sqAt_mem (l : List Sq) (j : Nat) (h : j < l.length) : sqAt l j ∈ l := by rw [sqAt_get l j h]; exact List.getElem_mem h
/-- a square lies in the rectangle -/
def Ins (W H : Int) (s : Sq) : Prop := 1 ≤ s.f2 ∧ 0 ≤ s.f0 ∧ s.f0 + s.f2 ≤ W ∧ 0 ≤ s.f1 ∧ s.f1 + s.f2 ≤ H
instance (W H : Int) (s : Sq) : Decidable (Ins W H s) := by unfold Ins; infer_instance
def Less (a b : Sq) : Prop := a.f1 < b.f1 ∨ a.f1 = b.f1 ∧ a.f0 < b.f0
instance (a b : Sq) : Decidable (Less a b) := by unfold Less; infer_instance
def Ovl (a b : Sq) : Prop := a.f0 < b.f0 + b.f2 ∧ b.f0 < a.f0 + a.f2 ∧ a.f1 < b.f1 + b.f2 ∧ b.f1 < a.f1 + a.f2
instance (a b : Sq) : Decidable (Ovl a b) := by unfold Ovl; infer_instance
def OkAt (W H : Int) (l : List Sq) (i : Nat) : Prop := Ins W H (sqAt l i) ∧ (0 < i → Less (sqAt l (i - 1)) (sqAt l i)) ∧ ∀ j, j < i → ¬ Ovl (sqAt l i) (sqAt l j)
instance (W H : Int) (l : List Sq) (i : Nat) : Decidable (OkAt W H l i) := by unfold OkAt; infer_instance
def areaTo (l : List Sq) : Nat → Int
  | 0 => 0
  | n + 1 => areaTo l n + (sqAt l n).f2 * (sqAt l n).f2
/-- a width, a height and squares are a cut -/
def Good (W H : Int) (l : List Sq) : Prop := (1 ≤ W ∧ W ≤ 500) ∧ (1 ≤ H ∧ H ≤ 500) ∧ (1 ≤ l.length ∧ l.length ≤ 30) ∧ (∀ i, i < l.length → OkAt W H l i) ∧ areaTo l l.length = W * H
instance (W H : Int) (l : List Sq) : Decidable (Good W H l) := by unfold Good; infer_instance

theorem within_eq (a b c : Int) : impl_within.f a b c = some (decide (b ≤ a ∧ a ≤ c)) := by
  unfold impl_within.f
  by_cases h : b ≤ a
  · rw [if_pos h]; simp [h]
  · rw [if_neg h]; simp [h]
theorem isWide_eq (a : Int) : impl_isWide.f a = some (decide (1 ≤ a ∧ a ≤ 500)) := by
  unfold impl_isWide.f; rw [within_eq]; rfl
theorem l1In_eq (a b c : Int) : spec_l1In.f a b c = some (decide (b ≤ a ∧ a ≤ c)) := by
  unfold spec_l1In.f
  by_cases h : b ≤ a
  · rw [if_pos h]; simp [h]
  · rw [if_neg h]; simp [h]
theorem areaTo_bd (W H : Int) (l : List Sq) (hW : W ≤ 500) (hH : H ≤ 500) : ∀ n, n ≤ 30 → (∀ m, m < n → Ins W H (sqAt l m)) → 0 ≤ areaTo l n ∧ areaTo l n ≤ n * 250000
  | 0, _, _ => by simp [areaTo]
  | n + 1, hn, h => by
    obtain ⟨h1, h2⟩ := areaTo_bd W H l hW hH n (by omega) (fun m hm => h m (by omega))
    have hi := h n (by omega)
    unfold Ins at hi
    have q1 : 0 ≤ (sqAt l n).f2 * (sqAt l n).f2 := Int.mul_nonneg (by omega) (by omega)
    have q2 : (sqAt l n).f2 * (sqAt l n).f2 ≤ 500 * 500 := Int.mul_le_mul (by omega) (by omega) (by omega) (by omega)
    simp only [areaTo]
    omega
theorem sq_bd {W H : Int} {s : Sq} (hW : W ≤ 500) (hH : H ≤ 500) (h : Ins W H s) : 0 ≤ s.f2 * s.f2 ∧ s.f2 * s.f2 ≤ 250000 := by
  unfold Ins at h
  have q1 : 0 ≤ s.f2 * s.f2 := Int.mul_nonneg (by omega) (by omega)
  have q2 : s.f2 * s.f2 ≤ 500 * 500 := Int.mul_le_mul (by omega) (by omega) (by omega) (by omega)
  omega

theorem compare_eq {W H : Int} {a b : Sq} (hW : W ≤ 500) (hH : H ≤ 500) (ha : Ins W H a) (hb : Ins W H b) :
    ∃ c, impl_comparePlaces.f a.f0 a.f1 a.f2 b.f0 b.f1 b.f2 = some c ∧ (c < 0 ↔ Less a b) := by
  unfold Ins at ha hb
  unfold impl_comparePlaces.f Less
  by_cases e : a.f1 = b.f1
  · rw [if_pos e]; exact ⟨_, rfl, by rw [wrap64_id (by omega) (by omega)]; omega⟩
  · rw [if_neg e]; exact ⟨_, rfl, by rw [wrap64_id (by omega) (by omega)]; omega⟩
theorem overlap_eq {W H : Int} {a b : Sq} (hW : W ≤ 500) (hH : H ≤ 500) (ha : Ins W H a) (hb : Ins W H b) :
    impl_overlap.f a.f0 a.f1 a.f2 b.f0 b.f1 b.f2 = some (decide (Ovl a b)) := by
  unfold Ins at ha hb
  unfold impl_overlap.f Ovl
  rw [wrap64_id (by omega) (by omega), wrap64_id (by omega) (by omega), wrap64_id (by omega) (by omega), wrap64_id (by omega) (by omega)]
  by_cases h1 : a.f0 < b.f0 + b.f2
  · by_cases h2 : b.f0 < a.f0 + a.f2
    · by_cases h3 : a.f1 < b.f1 + b.f2
      · simp [h1, h2, h3]
      · simp [h1, h2, h3]
    · simp [h1, h2]
  · simp [h1]
theorem less_eq (a b : Sq) : spec_cuLess.f a.f0 a.f1 a.f2 b.f0 b.f1 b.f2 = some (decide (Less a b)) := by
  unfold spec_cuLess.f Less
  by_cases h1 : a.f1 < b.f1
  · rw [if_pos h1]; simp [h1]
  · rw [if_neg h1]
    by_cases h2 : a.f1 = b.f1
    · rw [if_pos h2]; simp [h2]
    · rw [if_neg h2]; simp [h1, h2]

/-! the program's own -/
theorem contains_eq {W H : Int} {l : List Sq} (hW : W ≤ 500) (hH : H ≤ 500) (i : Nat) (hi : i < l.length) (h : ∀ m, m ≤ i → Ins W H (sqAt l m)) :
    slices_ContainsFunc_impl_Square_impl_Square__impl_IsCut_1.f (l.take i) (sqAt l i).f0 (sqAt l i).f1 (sqAt l i).f2 = some (decide (∃ j, j < i ∧ Ovl (sqAt l i) (sqAt l j))) := by
  unfold slices_ContainsFunc_impl_Square_impl_Square__impl_IsCut_1.f
  congr 1
  rw [Bool.eq_iff_iff, List.any_eq_true, decide_eq_true_eq]
  constructor
  · rintro ⟨t, ht, hp⟩
    obtain ⟨j, hj⟩ := List.getElem?_of_mem ht
    have hj1 : j < (l.take i).length := (List.getElem?_eq_some_iff.1 hj).1
    have hj2 : j < i := by simp at hj1; omega
    have e : t = sqAt l j := by
      rw [List.getElem?_take_of_lt hj2, List.getElem?_eq_getElem (by omega)] at hj
      rw [sqAt_get l j (by omega)]; exact (Option.some.inj hj).symm
    subst e
    rw [overlap_eq hW hH (h i (Nat.le_refl _)) (h j (by omega))] at hp
    exact ⟨j, hj2, by simpa using hp⟩
  · rintro ⟨j, hj, ho⟩
    refine ⟨sqAt l j, ?_, ?_⟩
    · rw [sqAt_get l j (by omega)]
      exact List.mem_take_iff_getElem.2 ⟨j, by omega, rfl⟩
    · rw [overlap_eq hW hH (h i (Nat.le_refl _)) (h j (by omega))]; simpa using ho

theorem okFrom_step (W H : Int) (l : List Sq) (i : Nat) : (∀ m, i ≤ m → m < l.length → OkAt W H l m) ↔ (i < l.length → OkAt W H l i) ∧ (∀ m, i + 1 ≤ m → m < l.length → OkAt W H l m) :=
  ⟨fun h => ⟨fun hi => h i (Nat.le_refl _) hi, fun m h1 h2 => h m (by omega) h2⟩, fun ⟨h1, h2⟩ m h3 h4 => by
    by_cases e : i = m
    · subst e; exact h1 h4
    · exact h2 m (by omega) h4⟩

theorem impl_loop {W H : Int} {l : List Sq} (hW : 1 ≤ W ∧ W ≤ 500) (hH : 1 ≤ H ∧ H ≤ 500) (hl : l.length ≤ 30) : ∀ (d i : Nat), l.length - i = d → i ≤ l.length → (∀ m, m < i → OkAt W H l m) →
    ∀ r : Bool, (r = true ↔ (∀ m, i ≤ m → m < l.length → OkAt W H l m) ∧ areaTo l l.length = W * H) → Ev (fun k => impl_IsCut.l0 k (areaTo l i) l (l.length : Int) (i : Int) W H l) r := by
  intro d
  induction d with
  | zero =>
    intro i hd hi hok r hr
    obtain rfl : i = l.length := by omega
    have bd := areaTo_bd W H l hW.2 hH.2 l.length hl (fun m hm => (hok m hm).1)
    have w1 : W * H ≤ 500 * 500 := Int.mul_le_mul (by omega) (by omega) (by omega) (by omega)
    have w0 : 0 ≤ W * H := Int.mul_nonneg (by omega) (by omega)
    refine Ev.succ ?_
    simp only [impl_IsCut.l0]
    refine Ev.neg (by omega) ?_
    rw [wrap64_id (by omega) (by omega)]
    refine Ev.eqr (Ev.now _) ?_
    rw [Bool.eq_iff_iff, hr, beq_iff_eq]
    exact ⟨fun h => ⟨fun m h1 h2 => by omega, h⟩, fun h => h.2⟩
  | succ d ih =>
    intro i hd hi hok r hr
    have hlt : i < l.length := by omega
    rw [okFrom_step] at hr
    refine Ev.succ ?_
    simp only [impl_IsCut.l0, rd_sq]
    refine Ev.pos (by omega) (Ev.pos (by omega) (Ev.pos (by omega) ?_))
    have hmn : mn W H ≤ 500 := by unfold mn; split <;> omega
    have fall : ∀ r : Bool, r = false → Ev (fun k => impl_IsCut.j2 k (areaTo l i) (i : Int) l (l.length : Int) (i : Int) true W H l (sqAt l i).f0 (sqAt l i).f1 (sqAt l i).f2) r := by
      rintro _ rfl
      refine Ev.succ ?_
      simp only [impl_IsCut.j2]
      exact Ev.pos trivial (Ev.now _)
    have rf : ¬ OkAt W H l i → r = false := fun h => by
      cases hq : r with
      | false => rfl
      | true => exact absurd ((hr.1 hq).1.1 hlt) h
    have mnle : mn W H ≤ W ∧ mn W H ≤ H ∧ (mn W H = W ∨ mn W H = H) := by unfold mn; split <;> omega
    refine Ev.bindc (within_eq _ _ _) ?_
    by_cases c1 : 1 ≤ (sqAt l i).f2 ∧ (sqAt l i).f2 ≤ mn W H
    · rw [decide_eq_true c1]
      refine Ev.pos rfl (Ev.bindc (within_eq _ _ _) ?_)
      rw [wrap64_id (by omega) (by omega)]
      by_cases c2 : 0 ≤ (sqAt l i).f0 ∧ (sqAt l i).f0 ≤ W - (sqAt l i).f2
      · rw [decide_eq_true c2]
        refine Ev.pos rfl (Ev.bindc (within_eq _ _ _) ?_)
        rw [wrap64_id (by omega) (by omega)]
        by_cases c3 : 0 ≤ (sqAt l i).f1 ∧ (sqAt l i).f1 ≤ H - (sqAt l i).f2
        · rw [decide_eq_true c3]
          have hins : Ins W H (sqAt l i) := by unfold Ins; omega
          have hall : ∀ m, m ≤ i → Ins W H (sqAt l m) := fun m hm => by
            by_cases e : m = i
            · rw [e]; exact hins
            · exact (hok m (by omega)).1
          refine Ev.succ ?_
          simp only [impl_IsCut.j2, Bool.not_true]
          refine Ev.neg (by decide) ?_
          have bd := areaTo_bd W H l hW.2 hH.2 i (by omega) (fun m hm => hall m (by omega))
          have qb := sq_bd hW.2 hH.2 hins
          have tn : ((i : Int)).toNat = i := Int.toNat_natCast i
          have next : (∀ j, j < i → ¬ Ovl (sqAt l i) (sqAt l j)) → (0 < i → Less (sqAt l (i - 1)) (sqAt l i)) → Ev (fun k => impl_IsCut.l0 k (wrap64 (areaTo l i + wrap64 ((sqAt l i).f2 * (sqAt l i).f2))) l (l.length : Int) (wrap64 ((i : Int) + 1)) W H l) r := by
            intro ho hlss
            have hk : OkAt W H l i := ⟨hins, hlss, ho⟩
            rw [wrap64_id (n := (sqAt l i).f2 * (sqAt l i).f2) (by omega) (by omega), wrap64_id (n := areaTo l i + (sqAt l i).f2 * (sqAt l i).f2) (by omega) (by omega), wrap64_id (n := (i : Int) + 1) (by omega) (by omega)]
            have := ih (i + 1) (by omega) (by omega) (fun m hm => by
              by_cases e : m = i
              · rw [e]; exact hk
              · exact hok m (by omega)) r (by rw [hr]; exact ⟨fun h => ⟨h.1.2, h.2⟩, fun h => ⟨⟨fun _ => hk, h.1⟩, h.2⟩⟩)
            exact this
          have cont : (0 < i → Less (sqAt l (i - 1)) (sqAt l i)) → Ev (fun k => if 0 ≤ (i : Int) then if (i : Int) ≤ (l.length : Int) then (slices_ContainsFunc_impl_Square_impl_Square__impl_IsCut_1.f (l.take ((i : Int)).toNat) (sqAt l i).f0 (sqAt l i).f1 (sqAt l i).f2).bind fun t => if t = true then some false else impl_IsCut.l0 k (wrap64 (areaTo l i + wrap64 ((sqAt l i).f2 * (sqAt l i).f2))) l (l.length : Int) (wrap64 ((i : Int) + 1)) W H l else none else none) r := by
            intro hlss
            refine Ev.pos (by omega) (Ev.pos (by omega) ?_)
            rw [tn]
            refine Ev.bindc (contains_eq hW.2 hH.2 i hlt hall) ?_
            by_cases ho : ∃ j, j < i ∧ Ovl (sqAt l i) (sqAt l j)
            · rw [decide_eq_true ho]
              refine Ev.pos rfl (Ev.eqr (Ev.now _) (rf fun hk => ?_).symm)
              obtain ⟨j, hj, hq⟩ := ho
              exact hk.2.2 j hj hq
            · rw [decide_eq_false ho]
              exact Ev.neg (by decide) (next (fun j hj hq => ho ⟨j, hj, hq⟩) hlss)
          by_cases hi0 : (i : Int) > 0
          · refine Ev.pos hi0 ?_
            have e1 : wrap64 ((i : Int) - 1) = ((i - 1 : Nat) : Int) := by rw [wrap64_id (by omega) (by omega)]; omega
            simp only [e1, rd_sq]
            refine Ev.pos (by omega) (Ev.pos (by omega) ?_)
            obtain ⟨c, hc, hcl⟩ := compare_eq hW.2 hH.2 (hall (i - 1) (by omega)) hins
            refine Ev.bindc hc ?_
            by_cases c4 : c ≥ 0
            · refine Ev.pos c4 (Ev.eqr (Ev.now _) (rf fun hk => ?_).symm)
              have := hcl.2 (hk.2.1 (by omega))
              omega
            · exact Ev.neg c4 (cont fun _ => hcl.1 (by omega))
          · exact Ev.neg hi0 (cont fun h => by omega)
        · rw [decide_eq_false c3]
          exact fall _ (rf fun h => c3 (by have := h.1; unfold Ins at this; omega))
      · rw [decide_eq_false c2]
        exact Ev.neg (by decide) (fall _ (rf fun h => c2 (by have := h.1; unfold Ins at this; omega)))
    · rw [decide_eq_false c1]
      refine Ev.neg (by decide) (fall _ (rf fun h => c1 ?_))
      have := h.1
      unfold Ins at this
      rcases mnle.2.2 with e | e <;> omega

theorem impl_IsCut_ev (W H : Int) (l : List Sq) : Ev (fun k => impl_IsCut.f k W H l) (decide (Good W H l)) := by
  unfold impl_IsCut.f
  have fall : ∀ r : Bool, r = false → Ev (fun k => impl_IsCut.j0 k true W H l) r := by
    rintro _ rfl
    refine Ev.succ ?_
    simp only [impl_IsCut.j0]
    exact Ev.pos trivial (Ev.now _)
  refine Ev.bindc (isWide_eq _) ?_
  by_cases c1 : 1 ≤ W ∧ W ≤ 500
  · rw [decide_eq_true c1]
    refine Ev.pos rfl (Ev.bindc (isWide_eq _) ?_)
    by_cases c2 : 1 ≤ H ∧ H ≤ 500
    · rw [decide_eq_true c2]
      refine Ev.pos rfl ?_
      by_cases c3 : (l.length : Int) > 30
      · rw [decide_eq_true c3]
        exact fall _ (decide_eq_false fun h => by have := h.2.2.1; omega)
      · rw [decide_eq_false c3]
        refine Ev.succ ?_
        simp only [impl_IsCut.j0]
        refine Ev.neg (by decide) ?_
        have := impl_loop (l := l) c1 c2 (by omega) l.length 0 (by omega) (Nat.zero_le _) (fun m hm => by omega) (decide (Good W H l)) ?_
        · exact this
        · rw [decide_eq_true_eq]
          constructor
          · intro h; exact ⟨fun m _ h2 => h.2.2.2.1 m h2, h.2.2.2.2⟩
          · intro h
            refine ⟨c1, c2, ⟨?_, (by omega : l.length ≤ 30)⟩, fun m hm => h.1 m (Nat.zero_le _) hm, h.2⟩
            cases hl : l with
            | nil =>
              subst hl
              have e : (0 : Int) = W * H := h.2
              have : 0 < W * H := Int.mul_pos (by omega) (by omega)
              omega
            | cons a t => simp
    · rw [decide_eq_false c2]
      exact Ev.neg (by decide) (fall _ (decide_eq_false fun h => c2 h.2.1))
  · rw [decide_eq_false c1]
    exact Ev.neg (by decide) (fall _ (decide_eq_false fun h => c1 h.1))

/-! the reference's own -/
/-- what the inner loop of the reference asks of the squares from place j on -/
def InnerOk (l : List Sq) (i j : Nat) : Prop := ∀ m, j ≤ m → m < i → ¬ Ovl (sqAt l i) (sqAt l m) ∧ (m + 1 = i → Less (sqAt l m) (sqAt l i))
theorem inner_step (l : List Sq) (i j : Nat) (h : j < i) : InnerOk l i j ↔ (¬ Ovl (sqAt l i) (sqAt l j) ∧ (j + 1 = i → Less (sqAt l j) (sqAt l i))) ∧ InnerOk l i (j + 1) :=
  ⟨fun h1 => ⟨h1 j (Nat.le_refl _) h, fun m h2 h3 => h1 m (by omega) h3⟩, fun ⟨h1, h2⟩ m h3 h4 => by
    by_cases e : j = m
    · subst e; exact h1
    · exact h2 m (by omega) h4⟩
theorem inner_ok (W H : Int) (l : List Sq) (i : Nat) : OkAt W H l i ↔ Ins W H (sqAt l i) ∧ InnerOk l i 0 := by
  unfold OkAt InnerOk
  constructor
  · rintro ⟨h1, h2, h3⟩
    refine ⟨h1, fun m _ hm => ⟨h3 m hm, fun e => ?_⟩⟩
    have := h2 (by omega)
    rw [show i - 1 = m by omega] at this
    exact this
  · rintro ⟨h1, h2⟩
    exact ⟨h1, fun hi => (h2 (i - 1) (Nat.zero_le _) (by omega)).2 (by omega), fun j hj => (h2 j (Nat.zero_le _) hj).1⟩

theorem spec_inner {W H : Int} {l : List Sq} (hW : 1 ≤ W ∧ W ≤ 500) (hH : 1 ≤ H ∧ H ≤ 500) (hl : l.length ≤ 30) (i : Nat) (hi : i < l.length) (hall : ∀ m, m ≤ i → Ins W H (sqAt l m)) (A : Int) (r : Bool)
    (hgood : InnerOk l i 0 → Ev (fun k => spec_cuGood.l0 k A l (l.length : Int) ((i : Int) + 1) W H l) r) (hbad : ¬ InnerOk l i 0 → r = false) :
    ∀ (d j : Nat), i - j = d → j ≤ i → (InnerOk l i j ↔ InnerOk l i 0) →
      Ev (fun k => spec_cuGood.l1 k A (i : Int) l (l.length : Int) (i : Int) (l.take i) (i : Int) (j : Int) W H l (sqAt l i).f0 (sqAt l i).f1 (sqAt l i).f2) r := by
  intro d
  induction d with
  | zero =>
    intro j hd hj hiff
    obtain rfl : j = i := by omega
    refine Ev.succ ?_
    simp only [spec_cuGood.l1]
    refine Ev.neg (by omega) ?_
    rw [wrap64_id (by omega) (by omega)]
    exact hgood (hiff.1 fun m h1 h2 => by omega)
  | succ d ih =>
    intro j hd hj hiff
    have hlt : j < i := by omega
    have tk : (l.take i).length = i := by rw [List.length_take]; omega
    have et : sqAt (l.take i) j = sqAt l j := by
      rw [sqAt_get _ _ (by omega), sqAt_get _ _ (by omega), List.getElem_take]
    rw [inner_step l i j hlt] at hiff
    refine Ev.succ ?_
    simp only [spec_cuGood.l1, rd_sq, et, tk]
    refine Ev.pos (by omega) (Ev.pos (by omega) (Ev.pos (by omega) ?_))
    have a := hall i (Nat.le_refl _)
    have b := hall j (by omega)
    have j4 : ∀ b : Bool, b = decide (Ovl (sqAt l i) (sqAt l j)) → Ev (fun k => spec_cuGood.j4 k A (i : Int) (j : Int) l (l.length : Int) (i : Int) (l.take i) (i : Int) (j : Int) b W H l (sqAt l i).f0 (sqAt l i).f1 (sqAt l i).f2 (sqAt l j).f0 (sqAt l j).f1 (sqAt l j).f2) r := by
      rintro b rfl
      refine Ev.succ ?_
      simp only [spec_cuGood.j4]
      by_cases ho : Ovl (sqAt l i) (sqAt l j)
      · exact Ev.pos (decide_eq_true ho) (Ev.eqr (Ev.now _) (hbad fun h => (hiff.2 h).1.1 ho).symm)
      · refine Ev.neg (by simpa using ho) ?_
        have e1 : wrap64 ((i : Int) - 1) = (i : Int) - 1 := wrap64_id (by omega) (by omega)
        have e2 : wrap64 ((j : Int) + 1) = ((j + 1 : Nat) : Int) := by rw [wrap64_id (by omega) (by omega)]; omega
        rw [e1, e2]
        by_cases hj1 : j + 1 = i
        · refine Ev.pos (by omega) (Ev.bindc (less_eq _ _) ?_)
          by_cases hls : Less (sqAt l j) (sqAt l i)
          · exact Ev.pos (decide_eq_true hls) (ih (j + 1) (by omega) (by omega) ⟨fun h => hiff.1 ⟨⟨ho, fun _ => hls⟩, h⟩, fun h => (hiff.2 h).2⟩)
          · exact Ev.neg (by simpa using hls) (Ev.eqr (Ev.now _) (hbad fun h => hls ((hiff.2 h).1.2 hj1)).symm)
        · exact Ev.neg (by omega) (ih (j + 1) (by omega) (by omega) ⟨fun h => hiff.1 ⟨⟨ho, fun e => absurd e hj1⟩, h⟩, fun h => (hiff.2 h).2⟩)
    unfold Ins at a b
    rw [wrap64_id (n := (sqAt l j).f0 + (sqAt l j).f2) (by omega) (by omega), wrap64_id (n := (sqAt l i).f0 + (sqAt l i).f2) (by omega) (by omega), wrap64_id (n := (sqAt l j).f1 + (sqAt l j).f2) (by omega) (by omega), wrap64_id (n := (sqAt l i).f1 + (sqAt l i).f2) (by omega) (by omega)]
    by_cases c1 : (sqAt l i).f0 < (sqAt l j).f0 + (sqAt l j).f2
    · refine Ev.pos c1 ?_
      by_cases c2 : (sqAt l j).f0 < (sqAt l i).f0 + (sqAt l i).f2
      · refine Ev.pos c2 ?_
        by_cases c3 : (sqAt l i).f1 < (sqAt l j).f1 + (sqAt l j).f2
        · refine Ev.pos c3 (j4 _ ?_)
          unfold Ovl
          simp [c1, c2, c3]
        · exact Ev.neg c3 (j4 _ (decide_eq_false fun h => c3 h.2.2.1).symm)
      · exact Ev.neg c2 (j4 _ (decide_eq_false fun h => c2 h.2.1).symm)
    · exact Ev.neg c1 (j4 _ (decide_eq_false fun h => c1 h.1).symm)

theorem spec_loop {W H : Int} {l : List Sq} (hW : 1 ≤ W ∧ W ≤ 500) (hH : 1 ≤ H ∧ H ≤ 500) (hl : l.length ≤ 30) : ∀ (d i : Nat), l.length - i = d → i ≤ l.length → (∀ m, m < i → OkAt W H l m) →
    ∀ r : Bool, (r = true ↔ (∀ m, i ≤ m → m < l.length → OkAt W H l m) ∧ areaTo l l.length = W * H) → Ev (fun k => spec_cuGood.l0 k (areaTo l i) l (l.length : Int) (i : Int) W H l) r := by
  intro d
  induction d with
  | zero =>
    intro i hd hi hok r hr
    obtain rfl : i = l.length := by omega
    have bd := areaTo_bd W H l hW.2 hH.2 l.length hl (fun m hm => (hok m hm).1)
    have w1 : W * H ≤ 500 * 500 := Int.mul_le_mul (by omega) (by omega) (by omega) (by omega)
    have w0 : 0 ≤ W * H := Int.mul_nonneg (by omega) (by omega)
    refine Ev.succ ?_
    simp only [spec_cuGood.l0]
    refine Ev.neg (by omega) ?_
    rw [wrap64_id (by omega) (by omega)]
    refine Ev.eqr (Ev.now _) ?_
    rw [Bool.eq_iff_iff, hr, beq_iff_eq]
    exact ⟨fun h => ⟨fun m h1 h2 => by omega, h⟩, fun h => h.2⟩
  | succ d ih =>
    intro i hd hi hok r hr
    have hlt : i < l.length := by omega
    rw [okFrom_step] at hr
    refine Ev.succ ?_
    simp only [spec_cuGood.l0, rd_sq]
    refine Ev.pos (by omega) (Ev.pos (by omega) (Ev.pos (by omega) ?_))
    have fall : ∀ r : Bool, r = false → Ev (fun k => spec_cuGood.j2 k (areaTo l i) (i : Int) l (l.length : Int) (i : Int) true W H l (sqAt l i).f0 (sqAt l i).f1 (sqAt l i).f2) r := by
      rintro _ rfl
      refine Ev.succ ?_
      simp only [spec_cuGood.j2]
      exact Ev.pos trivial (Ev.now _)
    have rf : ¬ OkAt W H l i → r = false := fun h => by
      cases hq : r with
      | false => rfl
      | true => exact absurd ((hr.1 hq).1.1 hlt) h
    refine Ev.bindc (l1In_eq _ _ _) ?_
    by_cases c1 : 1 ≤ (sqAt l i).f2 ∧ (sqAt l i).f2 ≤ 500
    · rw [decide_eq_true c1]
      refine Ev.pos rfl (Ev.bindc (l1In_eq _ _ _) ?_)
      rw [wrap64_id (by omega) (by omega)]
      by_cases c2 : 0 ≤ (sqAt l i).f0 ∧ (sqAt l i).f0 ≤ W - (sqAt l i).f2
      · rw [decide_eq_true c2]
        refine Ev.pos rfl (Ev.bindc (l1In_eq _ _ _) ?_)
        rw [wrap64_id (by omega) (by omega)]
        by_cases c3 : 0 ≤ (sqAt l i).f1 ∧ (sqAt l i).f1 ≤ H - (sqAt l i).f2
        · rw [decide_eq_true c3]
          have hins : Ins W H (sqAt l i) := by unfold Ins; omega
          have hall : ∀ m, m ≤ i → Ins W H (sqAt l m) := fun m hm => by
            by_cases e : m = i
            · rw [e]; exact hins
            · exact (hok m (by omega)).1
          have bd := areaTo_bd W H l hW.2 hH.2 i (by omega) (fun m hm => hall m (by omega))
          have qb := sq_bd hW.2 hH.2 hins
          refine Ev.succ ?_
          simp only [spec_cuGood.j2, Bool.not_true]
          refine Ev.neg (by decide) (Ev.pos (by omega) (Ev.pos (by omega) (Ev.bindc rfl ?_)))
          have tk : (l.take ((i : Int)).toNat).length = i := by rw [List.length_take]; omega
          have tn : ((i : Int)).toNat = i := Int.toNat_natCast i
          rw [tk, tn, wrap64_id (n := (sqAt l i).f2 * (sqAt l i).f2) (by omega) (by omega), wrap64_id (n := areaTo l i + (sqAt l i).f2 * (sqAt l i).f2) (by omega) (by omega)]
          have iok := inner_ok W H l i
          refine spec_inner hW hH hl i hlt hall _ r (fun hin => ?_) (fun hin => rf fun h => hin (iok.1 h).2) i 0 (by omega) (Nat.zero_le _) Iff.rfl
          have hk : OkAt W H l i := iok.2 ⟨hins, hin⟩
          have := ih (i + 1) (by omega) (by omega) (fun m hm => by
              by_cases e : m = i
              · rw [e]; exact hk
              · exact hok m (by omega)) r (by rw [hr]; exact ⟨fun h => ⟨h.1.2, h.2⟩, fun h => ⟨⟨fun _ => hk, h.1⟩, h.2⟩⟩)
          exact this
        · rw [decide_eq_false c3]
          exact fall _ (rf fun h => c3 (by have := h.1; unfold Ins at this; omega))
      · rw [decide_eq_false c2]
        exact Ev.neg (by decide) (fall _ (rf fun h => c2 (by have := h.1; unfold Ins at this; omega)))
    · rw [decide_eq_false c1]
      refine Ev.neg (by decide) (fall _ (rf fun h => c1 ?_))
      have := h.1
      unfold Ins at this
      omega

theorem spec_cuGood_ev (W H : Int) (l : List Sq) : Ev (fun k => spec_cuGood.f k W H l) (decide (Good W H l)) := by
  unfold spec_cuGood.f
  have fall : ∀ r : Bool, r = false → Ev (fun k => spec_cuGood.j0 k true W H l) r := by
    rintro _ rfl
    refine Ev.succ ?_
    simp only [spec_cuGood.j0]
    exact Ev.pos trivial (Ev.now _)
  refine Ev.bindc (l1In_eq _ _ _) ?_
  by_cases c1 : 1 ≤ W ∧ W ≤ 500
  · rw [decide_eq_true c1]
    refine Ev.pos rfl (Ev.bindc (l1In_eq _ _ _) ?_)
    by_cases c2 : 1 ≤ H ∧ H ≤ 500
    · rw [decide_eq_true c2]
      refine Ev.pos rfl (Ev.bindc (l1In_eq _ _ _) ?_)
      by_cases c3 : 1 ≤ (l.length : Int) ∧ (l.length : Int) ≤ 30
      · rw [decide_eq_true c3]
        refine Ev.succ ?_
        simp only [spec_cuGood.j0, Bool.not_true]
        refine Ev.neg (by decide) ?_
        refine spec_loop (l := l) c1 c2 (by omega) l.length 0 (by omega) (Nat.zero_le _) (fun m hm => by omega) (decide (Good W H l)) ?_
        rw [decide_eq_true_eq]
        exact ⟨fun h => ⟨fun m _ h2 => h.2.2.2.1 m h2, h.2.2.2.2⟩, fun h => ⟨c1, c2, by omega, fun m hm => h.1 m (Nat.zero_le _) hm, h.2⟩⟩
      · rw [decide_eq_false c3]
        exact fall _ (decide_eq_false fun h => c3 (by have := h.2.2.1; omega))
    · rw [decide_eq_false c2]
      exact Ev.neg (by decide) (fall _ (decide_eq_false fun h => c2 h.2.1))
  · rw [decide_eq_false c1]
    exact Ev.neg (by decide) (fall _ (decide_eq_false fun h => c1 h.1))

/-! ### squares from one package's type to the other's; lists that are the same -/
abbrev MSq := S110
def conv (q : MSq) : Sq := ⟨q.f0, q.f1, q.f2⟩
theorem rd_msq (l : List MSq) (j : Nat) (h : j < l.length) : rd_T110 l (j : Int) = l[j] := by unfold rd_T110; rw [Int.toNat_natCast]; simp [List.getD, h]
theorem toSq_loop (l : List MSq) (hl : l.length ≤ 1048576) : ∀ (d i : Nat) (x : List Sq), l.length - i = d → i ≤ l.length → x.length = l.length → (∀ m, m < i → x[m]? = (l.map conv)[m]?) →
    Ev (fun k => laws_toSquareS.l0 k l x (i : Int)) (l.map conv) := by
  intro d
  induction d with
  | zero =>
    intro i x hd hi hx h
    refine Ev.succ ?_
    simp only [laws_toSquareS.l0]
    refine Ev.neg (by omega) (Ev.eqr (Ev.now _) ?_)
    apply List.ext_getElem?
    intro m
    by_cases hm : m < i
    · exact h m hm
    · rw [List.getElem?_eq_none (by omega), List.getElem?_eq_none (by simp; omega)]
  | succ d ih =>
    intro i x hd hi hx h
    refine Ev.succ ?_
    simp only [laws_toSquareS.l0]
    refine Ev.pos (by omega) (Ev.pos (by omega) (Ev.bindc rfl (Ev.pos (by omega) ?_)))
    rw [Int.toNat_natCast, wrap64_id (by omega) (by omega)]
    refine ih (i + 1) _ (by omega) (by omega) (by simp; omega) (fun m hm => ?_)
    rw [rd_msq l i (by omega)]
    by_cases e : m = i
    · subst e
      rw [List.getElem?_set_self (by omega), List.getElem?_map, List.getElem?_eq_getElem (by omega)]; rfl
    · rw [List.getElem?_set_ne (by omega)]; exact h m (by omega)
theorem toSquareS_ev (l : List MSq) (hl : l.length ≤ 1048576) : Ev (fun k => laws_toSquareS.f k l) (l.map conv) := by
  unfold laws_toSquareS.f
  refine Ev.pos (by omega) (Ev.pos (by omega) ?_)
  exact toSq_loop l hl l.length 0 _ (by omega) (Nat.zero_le _) (by simp) (fun m hm => by omega)
theorem toCut_ev (W H : Int) (l : List MSq) (hl : l.length ≤ 1048576) : Ev (fun k => laws_toCut.f k W H l) (W, H, l.map conv) := by
  unfold laws_toCut.f
  exact Ev.bind (toSquareS_ev l hl) (Ev.now _)
theorem eqSquareS_loop (l : List Sq) (hl : l.length ≤ 1099511627776) : ∀ (d i : Nat), l.length - i = d → i ≤ l.length → Ev (fun k => laws_eqSquareS.l0 k l l (i : Int)) true := by
  intro d
  induction d with
  | zero =>
    intro i hd hi
    refine Ev.succ ?_
    simp only [laws_eqSquareS.l0]
    exact Ev.neg (by omega) (Ev.now _)
  | succ d ih =>
    intro i hd hi
    refine Ev.succ ?_
    simp only [laws_eqSquareS.l0]
    refine Ev.pos (by omega) (Ev.pos (by omega) (Ev.pos (by omega) (Ev.bindc (a := true) (by unfold laws_eqSquare.f; simp) (Ev.pos rfl ?_))))
    rw [wrap64_id (by omega) (by omega)]
    exact ih (i + 1) (by omega) (by omega)
theorem eqSquareS_ev (l : List Sq) (hl : l.length ≤ 1099511627776) : Ev (fun k => laws_eqSquareS.f k l l) true := by
  unfold laws_eqSquareS.f
  exact Ev.pos rfl (eqSquareS_loop l hl l.length 0 (by omega) (Nat.zero_le _))
theorem eqCut_ev (W H : Int) (l : List Sq) (hl : l.length ≤ 1099511627776) : Ev (fun k => laws_eqCut.f k W H l W H l) true := by
  unfold laws_eqCut.f
  exact Ev.pos rfl (Ev.pos rfl (Ev.bind (eqSquareS_ev l hl) (Ev.pos rfl (Ev.now _))))
theorem szCut_eq (W H : Int) (l : List MSq) (hl : l.length ≤ maxLen) : laws_szCut.f W H l 1048576 = some (if l.length ≤ 1048576 then 1048576 - (l.length : Int) else -1) := by
  have h0 : maxLen ≤ 9223372036854775807 := by decide
  unfold laws_szCut.f laws_szSquareS.f
  rw [wrap64_id (by omega) (by omega)]
  by_cases h : l.length ≤ 1048576
  · rw [if_neg (by omega), Option.bind_some, if_neg (by omega), if_pos h]
  · rw [if_pos (by omega), Option.bind_some, if_pos (by omega), if_neg h]

/-! ### lists of numbers: the same, marked, held -/
theorem rd_int (l : List Int) (j : Nat) (h : j < l.length) : rd l (j : Int) = l[j] := by unfold rd; rw [Int.toNat_natCast]; simp [List.getD, h]
theorem eqIntS_loop (l : List Int) (hl : l.length ≤ 1099511627776) : ∀ (d i : Nat), l.length - i = d → i ≤ l.length → Ev (fun k => laws_eqIntS.l0 k l l (i : Int)) true := by
  intro d
  induction d with
  | zero =>
    intro i hd hi
    refine Ev.succ ?_
    simp only [laws_eqIntS.l0]
    exact Ev.neg (by omega) (Ev.now _)
  | succ d ih =>
    intro i hd hi
    refine Ev.succ ?_
    simp only [laws_eqIntS.l0]
    refine Ev.pos (by omega) (Ev.pos (by omega) (Ev.pos (by omega) (Ev.pos trivial ?_)))
    rw [wrap64_id (by omega) (by omega)]
    exact ih (i + 1) (by omega) (by omega)
theorem eqIntS_ev (l : List Int) (hl : l.length ≤ 1099511627776) : Ev (fun k => laws_eqIntS.f k l l) true := by
  unfold laws_eqIntS.f
  exact Ev.pos rfl (eqIntS_loop l hl l.length 0 (by omega) (Nat.zero_le _))
/-- the numbers from s on -/
def upFrom (s : Int) : Nat → List Int
  | 0 => []
  | n + 1 => s :: upFrom (s + 1) n
theorem upFrom_length (n : Nat) : ∀ s, (upFrom s n).length = n := by
  induction n with
  | zero => intro s; rfl
  | succ n ih => intro s; simp [upFrom, ih]
theorem upFrom_get (n : Nat) : ∀ (s : Int) (i : Nat), i < n → (upFrom s n)[i]? = some (s + i) := by
  induction n with
  | zero => intro s i h; omega
  | succ n ih =>
    intro s i h
    cases i with
    | zero => simp [upFrom]
    | succ i => simp only [upFrom, List.getElem?_cons_succ]; rw [ih (s + 1) i (by omega)]; congr 1; omega
theorem markIntS_loop (N : Nat) (hN : N ≤ 1099511627776) (s : Int) (hs : 0 ≤ s) (hs2 : s ≤ 1099511627776) : ∀ (d i : Nat) (x : List Int), N - i = d → i ≤ N → x.length = N → (∀ m, m < i → x[m]? = (upFrom s N)[m]?) →
    Ev (fun k => laws_markIntS.l0 k x (s + i) (i : Int)) (s + N, upFrom s N) := by
  intro d
  induction d with
  | zero =>
    intro i x hd hi hx h
    obtain rfl : i = N := by omega
    refine Ev.succ ?_
    simp only [laws_markIntS.l0]
    refine Ev.neg (by omega) (Ev.eqr (Ev.now _) ?_)
    congr 1
    apply List.ext_getElem?
    intro m
    by_cases hm : m < i
    · exact h m hm
    · rw [List.getElem?_eq_none (by omega), List.getElem?_eq_none (by rw [upFrom_length]; omega)]
  | succ d ih =>
    intro i x hd hi hx h
    refine Ev.succ ?_
    simp only [laws_markIntS.l0]
    refine Ev.pos (by omega) (Ev.pos (by omega) ?_)
    rw [Int.toNat_natCast, wrap64_id (n := s + i + 1) (by omega) (by omega), wrap64_id (n := (i : Int) + 1) (by omega) (by omega)]
    have e : s + (i : Int) + 1 = s + ((i + 1 : Nat) : Int) := by omega
    rw [e]
    refine ih (i + 1) _ (by omega) (by omega) (by simp; omega) (fun m hm => ?_)
    by_cases e : m = i
    · subst e
      rw [List.getElem?_set_self (by omega), upFrom_get _ _ _ (by omega)]
    · rw [List.getElem?_set_ne (by omega)]; exact h m (by omega)
theorem heldIntS_loop (N : Nat) (hN : N ≤ 1099511627776) (s : Int) (hs : 0 ≤ s) (hs2 : s ≤ 1099511627776) : ∀ (d i : Nat), N - i = d → i ≤ N →
    Ev (fun k => laws_heldIntS.l0 k (upFrom s N) (s + i) (i : Int)) (s + N) := by
  intro d
  induction d with
  | zero =>
    intro i hd hi
    obtain rfl : i = N := by omega
    refine Ev.succ ?_
    simp only [laws_heldIntS.l0, upFrom_length]
    exact Ev.neg (by omega) (Ev.now _)
  | succ d ih =>
    intro i hd hi
    refine Ev.succ ?_
    simp only [laws_heldIntS.l0, upFrom_length]
    have hr : rd (upFrom s N) (i : Int) = s + i := by
      unfold rd; rw [Int.toNat_natCast, List.getD_eq_getElem?_getD, upFrom_get _ _ _ (by omega)]; rfl
    refine Ev.pos (by omega) (Ev.pos (by omega) (Ev.pos hr ?_))
    rw [wrap64_id (n := s + i + 1) (by omega) (by omega), wrap64_id (n := (i : Int) + 1) (by omega) (by omega)]
    have e : s + (i : Int) + 1 = s + ((i + 1 : Nat) : Int) := by omega
    rw [e]
    exact ih (i + 1) (by omega) (by omega)
theorem markIntS_ev (l : List Int) (hl : l.length ≤ 1099511627776) (s : Int) (hs : 0 ≤ s) (hs2 : s ≤ 1099511627776) : Ev (fun k => laws_markIntS.f k l s) (s + (l.length : Int), upFrom s l.length) := by
  unfold laws_markIntS.f
  have := markIntS_loop l.length hl s hs hs2 l.length 0 l (by omega) (Nat.zero_le _) rfl (fun m hm => by omega)
  simpa using this
theorem heldIntS_ev (n : Nat) (hl : n ≤ 1099511627776) (s : Int) (hs : 0 ≤ s) (hs2 : s ≤ 1099511627776) : Ev (fun k => laws_heldIntS.f k (upFrom s n) s) (s + (n : Int)) := by
  unfold laws_heldIntS.f
  have := heldIntS_loop n hl s hs hs2 n 0 (by omega) (Nat.zero_le _)
  simpa using this

/-! ### squares that are marked -/
theorem markSquareS_loop (N : Nat) (hN : N ≤ 1099511627776) (s : Int) (hs : 0 ≤ s) (hs2 : s ≤ 1099511627776) : ∀ (d i : Nat) (x : List Sq), N - i = d → i ≤ N → x.length = N →
    ∃ y, Ev (fun k => laws_markSquareS.l0 k x (s + 3 * i) (i : Int)) (s + 3 * N, y) := by
  intro d
  induction d with
  | zero =>
    intro i x hd hi hx
    obtain rfl : i = N := by omega
    refine ⟨x, Ev.succ ?_⟩
    simp only [laws_markSquareS.l0]
    exact Ev.neg (by omega) (Ev.now _)
  | succ d ih =>
    intro i x hd hi hx
    obtain ⟨y, hy⟩ := ih (i + 1) (((x.set i ⟨s + 3 * i, (sqAt x i).f1, (sqAt x i).f2⟩).set i ⟨s + 3 * i, s + 3 * i + 1, (sqAt x i).f2⟩).set i ⟨s + 3 * i, s + 3 * i + 1, s + 3 * i + 1 + 1⟩) (by omega) (by omega) (by simp; omega)
    refine ⟨y, Ev.succ ?_⟩
    simp only [laws_markSquareS.l0]
    refine Ev.pos (by omega) (Ev.pos (by omega) (Ev.bindc rfl (Ev.bindc rfl ?_)))
    rw [wrap64_id (n := s + 3 * i + 1) (by omega) (by omega), wrap64_id (n := s + 3 * i + 1 + 1) (by omega) (by omega), wrap64_id (n := s + 3 * i + 1 + 1 + 1) (by omega) (by omega), wrap64_id (n := (i : Int) + 1) (by omega) (by omega)]
    have e : s + 3 * (i : Int) + 1 + 1 + 1 = s + 3 * ((i + 1 : Nat) : Int) := by omega
    have hi' : i < x.length := by omega
    have g1 : ∀ q : Sq, sqAt (x.set i q) i = q := fun q => by unfold sqAt; simp [List.getD, hi']
    have g2 : ∀ q p : Sq, sqAt ((x.set i q).set i p) i = p := fun q p => by unfold sqAt; simp [List.getD, hi']
    simp only [Int.toNat_natCast, rd_sq, g1, g2]
    rw [e]
    exact hy
theorem markSquareS_ev (l : List Sq) (hl : l.length ≤ 1099511627776) (s : Int) (hs : 0 ≤ s) (hs2 : s ≤ 1099511627776) : ∃ y, Ev (fun k => laws_markSquareS.f k l s) (s + 3 * (l.length : Int), y) := by
  unfold laws_markSquareS.f
  obtain ⟨y, hy⟩ := markSquareS_loop l.length hl s hs hs2 l.length 0 l (by omega) (Nat.zero_le _) rfl
  exact ⟨y, by simpa using hy⟩
theorem markCut_ev (W H : Int) (l : List Sq) (hl : l.length ≤ 1099511627776) : ∃ y, Ev (fun k => laws_markCut.f k W H l 1) (1 + 3 * (l.length : Int), y) := by
  unfold laws_markCut.f
  obtain ⟨y, hy⟩ := markSquareS_ev l hl 1 (by omega) (by omega)
  exact ⟨y, Ev.bind hy (Ev.now _)⟩

/-! ### the code of a cut -/
def joinsOn (l : List Sq) (i : Nat) : Prop := 0 < i ∧ (sqAt l (i - 1)).f1 = (sqAt l i).f1 ∧ (sqAt l (i - 1)).f0 + (sqAt l (i - 1)).f2 = (sqAt l i).f0
instance (l : List Sq) (i : Nat) : Decidable (joinsOn l i) := by unfold joinsOn; infer_instance
def codeTo (l : List Sq) : Nat → List (List Int)
  | 0 => []
  | n + 1 => if joinsOn l n then (codeTo l n).set ((codeTo l n).length - 1) ((codeTo l n).getD ((codeTo l n).length - 1) [] ++ [(sqAt l n).f2]) else codeTo l n ++ [[(sqAt l n).f2]]
theorem codeTo_len (l : List Sq) : ∀ n, (codeTo l n).length ≤ n ∧ (0 < n → 0 < (codeTo l n).length)
  | 0 => by simp [codeTo]
  | n + 1 => by
    obtain ⟨h1, h2⟩ := codeTo_len l n
    simp only [codeTo]
    split
    · rename_i hj
      rw [List.length_set]
      exact ⟨by omega, fun _ => h2 hj.1⟩
    · simp; omega
theorem codeTo_group (l : List Sq) : ∀ n, ∀ g ∈ codeTo l n, 1 ≤ g.length ∧ g.length ≤ n
  | 0 => by simp [codeTo]
  | n + 1 => by
    intro g hg
    simp only [codeTo] at hg
    split at hg
    · rename_i hj
      have hl := (codeTo_len l n).2 hj.1
      rcases List.mem_or_eq_of_mem_set hg with h | h
      · have := codeTo_group l n g h; omega
      · have hm : (codeTo l n).getD ((codeTo l n).length - 1) [] ∈ codeTo l n := by
          rw [List.getD_eq_getElem?_getD, List.getElem?_eq_getElem (by omega)]
          exact List.getElem_mem _
        have := codeTo_group l n _ hm
        rw [h, List.length_append, List.length_singleton]; omega
    · rcases List.mem_append.1 hg with h | h
      · have := codeTo_group l n g h; omega
      · rw [List.mem_singleton.1 h]; simp
theorem code_same : ∀ (k : Nat) (c : List (List Int)) (l : List Sq) (n i W H : Int) (m : List Sq), spec_bkCode.l0 k c l n i W H m = impl_codeOf.l0 k c l n i W H m
  | 0, _, _, _, _, _, _, _ => rfl
  | k + 1, c, l, n, i, W, H, m => by
    simp only [spec_bkCode.l0, impl_codeOf.l0, code_same k]
theorem impl_code_loop {W H : Int} {l : List Sq} (hg : Good W H l) : ∀ (d i : Nat), l.length - i = d → i ≤ l.length →
    Ev (fun k => impl_codeOf.l0 k (codeTo l i) l (l.length : Int) (i : Int) W H l) (codeTo l l.length) := by
  intro d
  induction d with
  | zero =>
    intro i hd hi
    obtain rfl : i = l.length := by omega
    refine Ev.succ ?_
    simp only [impl_codeOf.l0]
    exact Ev.neg (by omega) (Ev.now _)
  | succ d ih =>
    intro i hd hi
    have hlt : i < l.length := by omega
    have h30 := hg.2.2.1
    have cl := codeTo_len l i
    have next := ih (i + 1) (by omega) (by omega)
    refine Ev.succ ?_
    simp only [impl_codeOf.l0, rd_sq]
    have ei : wrap64 ((i : Int) + 1) = ((i + 1 : Nat) : Int) := by rw [wrap64_id (by omega) (by omega)]; omega
    rw [ei]
    refine Ev.pos (by omega) (Ev.pos (by omega) (Ev.pos (by omega) ?_))
    have other : ¬ joinsOn l i → Ev (fun k => if (codeTo l i).length < 5864062014805 then impl_codeOf.l0 k (codeTo l i ++ [[(sqAt l i).f2]]) l (l.length : Int) ((i + 1 : Nat) : Int) W H l else none) (codeTo l l.length) := by
      intro hn
      refine Ev.pos (by omega) ?_
      have e : codeTo l i ++ [[(sqAt l i).f2]] = codeTo l (i + 1) := by simp only [codeTo]; rw [if_neg hn]
      rw [e]
      exact next
    by_cases c0 : (i : Int) > 0
    · refine Ev.pos c0 ?_
      have e1 : wrap64 ((i : Int) - 1) = ((i - 1 : Nat) : Int) := by rw [wrap64_id (by omega) (by omega)]; omega
      simp only [e1, rd_sq]
      have a := (hg.2.2.2.1 (i - 1) (by omega)).1
      have w1 := hg.1
      have w2 := hg.2.1
      unfold Ins at a
      rw [wrap64_id (n := (sqAt l (i - 1)).f0 + (sqAt l (i - 1)).f2) (by omega) (by omega)]
      refine Ev.pos (by omega) (Ev.pos (by omega) ?_)
      by_cases c1 : (sqAt l (i - 1)).f1 = (sqAt l i).f1
      · refine Ev.pos c1 ?_
        by_cases c2 : (sqAt l (i - 1)).f0 + (sqAt l (i - 1)).f2 = (sqAt l i).f0
        · refine Ev.pos c2 ?_
          have hj : joinsOn l i := ⟨by omega, c1, c2⟩
          have hp := cl.2 hj.1
          have e2 : wrap64 (((codeTo l i).length : Int) - 1) = (((codeTo l i).length - 1 : Nat) : Int) := by rw [wrap64_id (by omega) (by omega)]; omega
          have e3 : rd_L3 (codeTo l i) (((codeTo l i).length - 1 : Nat) : Int) = (codeTo l i).getD ((codeTo l i).length - 1) [] := by unfold rd_L3; rw [Int.toNat_natCast]
          have hm : (codeTo l i).getD ((codeTo l i).length - 1) [] ∈ codeTo l i := by
            rw [List.getD_eq_getElem?_getD, List.getElem?_eq_getElem (by omega)]
            exact List.getElem_mem _
          have gl := codeTo_group l i _ hm
          rw [e2, e3, Int.toNat_natCast]
          refine Ev.pos (by omega) (Ev.pos (by omega) (Ev.pos (by omega) ?_))
          have e : (codeTo l i).set ((codeTo l i).length - 1) ((codeTo l i).getD ((codeTo l i).length - 1) [] ++ [(sqAt l i).f2]) = codeTo l (i + 1) := by simp only [codeTo]; rw [if_pos hj]
          rw [e]
          exact next
        · exact Ev.neg c2 (other fun h => c2 h.2.2)
      · exact Ev.neg c1 (other fun h => c1 h.2.1)
    · exact Ev.neg c0 (other fun h => c0 (by have := h.1; omega))
theorem impl_codeOf_ev {W H : Int} {l : List Sq} (hg : Good W H l) : Ev (fun k => impl_codeOf.f k W H l) (codeTo l l.length) := by
  unfold impl_codeOf.f
  exact impl_code_loop hg l.length 0 (by omega) (Nat.zero_le _)
theorem spec_bkCode_ev {W H : Int} {l : List Sq} (hg : Good W H l) : Ev (fun k => spec_bkCode.f k W H l) (codeTo l l.length) := by
  unfold spec_bkCode.f
  simp only [code_same]
  exact impl_code_loop hg l.length 0 (by omega) (Nat.zero_le _)

/-! ### lists of lists of numbers: the same, marked, held -/
def totL : List (List Int) → Int
  | [] => 0
  | r :: t => (r.length : Int) + totL t
def upRows (s : Int) : List (List Int) → List (List Int)
  | [] => []
  | r :: t => upFrom s r.length :: upRows (s + (r.length : Int)) t
theorem totL_nonneg : ∀ t : List (List Int), 0 ≤ totL t
  | [] => by simp [totL]
  | r :: t => by have := totL_nonneg t; simp only [totL]; omega
theorem totL_le (b : Nat) : ∀ t : List (List Int), (∀ r ∈ t, r.length ≤ b) → totL t ≤ t.length * b
  | [], _ => by simp [totL]
  | r :: t, h => by
    have h1 := totL_le b t (fun r hr => h r (List.mem_cons_of_mem _ hr))
    have h2 := h r List.mem_cons_self
    simp only [totL, List.length_cons, Int.natCast_add, Int.add_mul]
    omega
theorem upRows_length : ∀ (t : List (List Int)) (s : Int), (upRows s t).length = t.length
  | [], _ => rfl
  | r :: t, s => by simp [upRows, upRows_length t]
theorem row_mid (d : List (List Int)) (r : List Int) (t : List (List Int)) : (d ++ r :: t).getD d.length [] = r := by simp [List.getD]
theorem set_mid (d : List (List Int)) (r b : List Int) (t : List (List Int)) : (d ++ r :: t).set d.length b = (d ++ [b]) ++ t := by simp
theorem eqIntSS_loop (l : List (List Int)) (hl : l.length ≤ 1000000) (hr : ∀ r ∈ l, r.length ≤ 1000000) : ∀ (t d : List (List Int)), l = d ++ t → Ev (fun k => laws_eqIntSS.l0 k l l (d.length : Int)) true
  | [], d, h => by
    refine Ev.succ ?_
    simp only [laws_eqIntSS.l0]
    refine Ev.neg (by rw [h]; simp) (Ev.now _)
  | r :: t, d, h => by
    have hlen : l.length = d.length + (t.length + 1) := by rw [h]; simp
    have hrd : rd_L3 l (d.length : Int) = r := by unfold rd_L3; rw [Int.toNat_natCast, h, row_mid]
    have hrl := hr r (by rw [h]; simp)
    refine Ev.succ ?_
    simp only [laws_eqIntSS.l0, hrd]
    refine Ev.pos (by omega) (Ev.pos (by omega) (Ev.pos (by omega) (Ev.bind (eqIntS_ev r (by omega)) (Ev.pos rfl ?_))))
    rw [wrap64_id (by omega) (by omega)]
    have := eqIntSS_loop l hl hr t (d ++ [r]) (by rw [h]; simp)
    simpa using this
theorem eqIntSS_ev (l : List (List Int)) (hl : l.length ≤ 1000000) (hr : ∀ r ∈ l, r.length ≤ 1000000) : Ev (fun k => laws_eqIntSS.f k l l) true := by
  unfold laws_eqIntSS.f
  exact Ev.pos rfl (eqIntSS_loop l hl hr l [] rfl)
theorem markIntSS_loop : ∀ (t d : List (List Int)) (s : Int), 0 ≤ s → s + totL t ≤ 1099511627776 → d.length + t.length ≤ 1000000 →
    Ev (fun k => laws_markIntSS.l0 k (d ++ t) s (d.length : Int)) (s + totL t, d ++ upRows s t)
  | [], d, s, hs, hb, hl => by
    refine Ev.succ ?_
    simp only [laws_markIntSS.l0]
    refine Ev.neg (by simp) (Ev.eqr (Ev.now _) (by simp [totL, upRows]))
  | r :: t, d, s, hs, hb, hl => by
    have h0 := totL_nonneg t
    simp only [totL, List.length_cons] at hb hl
    refine Ev.succ ?_
    simp only [laws_markIntSS.l0, Int.toNat_natCast, row_mid]
    refine Ev.pos (by simp; omega) (Ev.pos (by omega) (Ev.bind (markIntS_ev r (by omega) s hs (by omega)) ?_))
    rw [wrap64_id (by omega) (by omega), set_mid]
    have := markIntSS_loop t (d ++ [upFrom s r.length]) (s + (r.length : Int)) (by omega) (by omega) (by simp; omega)
    simp only [List.length_append, List.length_singleton, Int.natCast_add, Int.natCast_one] at this
    refine Ev.eqr this ?_
    simp only [totL, upRows, List.append_assoc, List.singleton_append, Prod.mk.injEq, and_true]
    omega
theorem markIntSS_ev (l : List (List Int)) (hl : l.length ≤ 1000000) (ht : totL l ≤ 1000000000000) : Ev (fun k => laws_markIntSS.f k l 1) (1 + totL l, upRows 1 l) := by
  unfold laws_markIntSS.f
  have := markIntSS_loop l [] 1 (by omega) (by omega) (by simpa using hl)
  simpa using this
theorem heldIntSS_loop : ∀ (t d : List (List Int)) (s : Int), 0 ≤ s → s + totL t ≤ 1099511627776 → d.length + t.length ≤ 1000000 →
    Ev (fun k => laws_heldIntSS.l0 k (d ++ upRows s t) s (d.length : Int)) (s + totL t)
  | [], d, s, hs, hb, hl => by
    refine Ev.succ ?_
    simp only [laws_heldIntSS.l0]
    refine Ev.neg (by simp [upRows]) (Ev.eqr (Ev.now _) (by simp [totL]))
  | r :: t, d, s, hs, hb, hl => by
    have h0 := totL_nonneg t
    simp only [totL, List.length_cons] at hb hl
    have hrd : rd_L3 (d ++ upRows s (r :: t)) (d.length : Int) = upFrom s r.length := by unfold rd_L3; rw [Int.toNat_natCast]; simp only [upRows, row_mid]
    refine Ev.succ ?_
    simp only [laws_heldIntSS.l0, hrd]
    refine Ev.pos (by simp [upRows]; omega) (Ev.pos (by omega) (Ev.bind (heldIntS_ev r.length (by omega) s hs (by omega)) (Ev.neg (by omega) ?_)))
    rw [wrap64_id (by omega) (by omega)]
    have := heldIntSS_loop t (d ++ [upFrom s r.length]) (s + (r.length : Int)) (by omega) (by omega) (by simp; omega)
    simp only [List.length_append, List.length_singleton, Int.natCast_add, Int.natCast_one, List.append_assoc, List.singleton_append] at this
    simp only [upRows]
    refine Ev.eqr this ?_
    simp only [totL]
    omega
theorem heldIntSS_ev (l : List (List Int)) (hl : l.length ≤ 1000000) (ht : totL l ≤ 1000000000000) : Ev (fun k => laws_heldIntSS.f k (upRows 1 l) 1) (1 + totL l) := by
  unfold laws_heldIntSS.f
  have := heldIntSS_loop l [] 1 (by omega) (by omega) (by simpa using hl)
  simpa using this

/-! ### squares in order: what the two sorts answer -/
def LeP (a b : Sq) : Prop := ¬ Less b a
theorem LeP.trans {a b c : Sq} (h : LeP a b) (k : LeP b c) : LeP a c := by unfold LeP Less at *; omega
theorem LeP.of_less {a b : Sq} (h : Less a b) : LeP a b := by unfold LeP Less at *; omega
def Dist (l : List Sq) : Prop := ∀ a ∈ l, ∀ b ∈ l, a.f0 = b.f0 → a.f1 = b.f1 → a = b
theorem eq_of_sorted {l r r' : List Sq} (hd : Dist l) (hp : r.Perm l) (hp' : r'.Perm l) (hs : r.Pairwise LeP) (hs' : r'.Pairwise LeP) : r = r' :=
  List.Perm.eq_of_pairwise (fun a b ha hb h1 h2 => hd a (hp.mem_iff.1 ha) b (hp'.mem_iff.1 hb) (by unfold LeP Less at *; omega) (by unfold LeP Less at *; omega)) hs hs' (hp.trans hp'.symm)
theorem mem_take_at {o : List Sq} {k : Nat} (hk : k ≤ o.length) {a : Sq} (h : a ∈ o.take k) : ∃ j, j < k ∧ a = sqAt o j := by
  obtain ⟨j, hj, rfl⟩ := List.mem_iff_getElem.1 h
  rw [List.length_take] at hj
  exact ⟨j, by omega, by rw [List.getElem_take, sqAt_get o j (by omega)]⟩
theorem mem_drop_at {o : List Sq} {k : Nat} {a : Sq} (h : a ∈ o.drop k) : ∃ j, k ≤ j ∧ j < o.length ∧ a = sqAt o j := by
  obtain ⟨j, hj, rfl⟩ := List.mem_iff_getElem.1 h
  rw [List.length_drop] at hj
  exact ⟨k + j, by omega, by omega, by rw [List.getElem_drop, sqAt_get o (k + j) (by omega)]⟩
theorem sorted_at {o : List Sq} (ho : o.Pairwise LeP) {i j : Nat} (hij : i ≤ j) (hj : j < o.length) : LeP (sqAt o i) (sqAt o j) := by
  rcases Nat.lt_or_eq_of_le hij with h | h
  · rw [sqAt_get o i (by omega), sqAt_get o j hj]
    exact List.pairwise_iff_getElem.1 ho i j (by omega) hj h
  · subst h; unfold LeP Less; omega
theorem ins_sorted {o : List Sq} {s : Sq} {k : Nat} (hk : k ≤ o.length) (ho : o.Pairwise LeP) (h1 : ∀ j, k ≤ j → j < o.length → Less s (sqAt o j)) (h2 : k = 0 ∨ ¬ Less s (sqAt o (k - 1))) :
    (o.take k ++ [s] ++ o.drop k).Pairwise LeP := by
  have hts : ∀ a ∈ o.take k, LeP a s := by
    intro a ha
    obtain ⟨j, hj, rfl⟩ := mem_take_at hk ha
    rcases h2 with h2 | h2
    · omega
    · exact LeP.trans (sorted_at ho (show j ≤ k - 1 by omega) (by omega)) h2
  refine List.pairwise_append.2 ⟨List.pairwise_append.2 ⟨ho.sublist (List.take_sublist _ _), List.pairwise_singleton _ _, fun a ha b hb => ?_⟩, ho.sublist (List.drop_sublist _ _), fun a ha b hb => ?_⟩
  · rw [List.mem_singleton.1 hb]; exact hts a ha
  · obtain ⟨j, hj, hj2, rfl⟩ := mem_drop_at hb
    have hsb := LeP.of_less (h1 j hj hj2)
    rcases List.mem_append.1 ha with ha | ha
    · exact (hts a ha).trans hsb
    · rw [List.mem_singleton.1 ha]; exact hsb
theorem ins_perm (o : List Sq) (s : Sq) (k : Nat) : (o.take k ++ [s] ++ o.drop k).Perm (s :: o) := by
  rw [List.append_assoc]
  have h := List.perm_middle (l₁ := o.take k) (a := s) (l₂ := o.drop k)
  rw [List.take_append_drop] at h
  exact h
theorem sqs_drop (l : List Sq) (i : Nat) (w : Sq) (t : List Sq) (h : l.drop i = w :: t) : i < l.length ∧ sqAt l i = w ∧ l.drop (i + 1) = t := by
  have h1 : i < l.length := by
    apply Decidable.byContradiction
    intro hn
    rw [List.drop_eq_nil_of_le (by omega)] at h; cases h
  rw [List.drop_eq_getElem_cons h1] at h
  injection h with ha hb
  exact ⟨h1, by rw [sqAt_get l i h1]; exact ha, hb⟩
theorem ins_loop (l : List Sq) (n i : Int) (s : Sq) (o : List Sq) (hol : o.length ≤ 1000) (ho : o.Pairwise LeP) : ∀ c : Nat, c ≤ o.length → (∀ j, c ≤ j → j < o.length → Less s (sqAt o j)) →
    ∃ o', o'.Pairwise LeP ∧ o'.Perm (s :: o) ∧ ∀ r, Ev (fun k => spec_cuSorted.l0 k o' l n (wrap64 (i + 1))) r → Ev (fun k => spec_cuSorted.l1 k o (c : Int) l n i s.f0 s.f1 s.f2) r := by
  intro c
  induction c with
  | zero =>
    intro hc h
    refine ⟨_, ins_sorted hc ho h (.inl rfl), ins_perm o s 0, fun r hr => Ev.succ ?_⟩
    simp only [spec_cuSorted.l1]
    refine Ev.neg (by omega) (Ev.bindc rfl (Ev.pos (by omega) (Ev.pos (by omega) (Ev.bindc rfl (Ev.pos (by simp only [List.length_nil, List.length_take]; omega) (Ev.bindc rfl (Ev.bindc rfl (Ev.pos (by simp only [List.length_nil, List.length_append, List.length_take, List.length_cons]; omega) (Ev.bindc rfl (Ev.bindc rfl (Ev.pos (by simp only [List.length_nil, List.length_append, List.length_take, List.length_cons, List.length_drop]; omega) ?_)))))))))))
    exact hr
  | succ c ih =>
    intro hc h
    have hw : wrap64 (((c + 1 : Nat) : Int) - 1) = (c : Int) := by rw [wrap64_id (n := ((c + 1 : Nat) : Int) - 1) (by omega) (by omega)]; omega
    by_cases hl : Less s (sqAt o c)
    · obtain ⟨o', a, b, d⟩ := ih (by omega) (fun j hj hj2 => by
        rcases Nat.lt_or_eq_of_le hj with h3 | h3
        · exact h j h3 hj2
        · rw [← h3]; exact hl)
      refine ⟨o', a, b, fun r hr => Ev.succ ?_⟩
      simp only [spec_cuSorted.l1]
      rw [hw]
      refine Ev.pos (by omega) (Ev.pos (by omega) (Ev.pos (by omega) ?_))
      rw [rd_sq]
      exact Ev.bindc (less_eq s (sqAt o c)) (Ev.pos (by simpa using hl) (d r hr))
    · refine ⟨_, ins_sorted hc ho h (.inr (by rw [Nat.add_sub_cancel]; exact hl)), ins_perm o s (c + 1), fun r hr => Ev.succ ?_⟩
      simp only [spec_cuSorted.l1]
      rw [hw]
      refine Ev.pos (by omega) (Ev.pos (by omega) (Ev.pos (by omega) ?_))
      rw [rd_sq]
      refine Ev.bindc (less_eq s (sqAt o c)) (Ev.neg (by simpa using hl) ?_)
      refine Ev.bindc rfl (Ev.pos (by omega) (Ev.pos (by omega) (Ev.bindc rfl (Ev.pos (by simp only [List.length_nil, List.length_take]; omega) (Ev.bindc rfl (Ev.bindc rfl (Ev.pos (by simp only [List.length_nil, List.length_append, List.length_take, List.length_cons]; omega) (Ev.bindc rfl (Ev.bindc rfl (Ev.pos (by simp only [List.length_nil, List.length_append, List.length_take, List.length_cons, List.length_drop]; omega) ?_))))))))))
      exact hr
theorem cuSorted_l0 (l : List Sq) (hl : l.length ≤ 1000) : ∀ (t : List Sq) (i : Nat) (o : List Sq), l.drop i = t → i + t.length = l.length → o.Pairwise LeP → o.Perm (l.take i) →
    ∃ R, R.Pairwise LeP ∧ R.Perm l ∧ Ev (fun k => spec_cuSorted.l0 k o l (l.length : Int) (i : Int)) R := by
  intro t
  induction t with
  | nil =>
    intro i o hd hi ho hp
    simp only [List.length_nil] at hi
    refine ⟨o, ho, by rw [List.take_of_length_le (by omega)] at hp; exact hp, Ev.succ ?_⟩
    simp only [spec_cuSorted.l0]
    exact Ev.neg (by omega) (Ev.now _)
  | cons s t ih =>
    intro i o hd hi ho hp
    obtain ⟨h1, h2, h3⟩ := sqs_drop l i s t hd
    have hol : o.length ≤ 1000 := by rw [hp.length_eq, List.length_take]; omega
    obtain ⟨o', a, b, d⟩ := ins_loop l (l.length : Int) (i : Int) s o hol ho o.length (Nat.le_refl _) (fun j hj hj2 => by omega)
    simp only [List.length_cons] at hi
    have htk : l.take (i + 1) = l.take i ++ [s] := by
      rw [List.take_add_one, List.getElem?_eq_getElem h1, ← h2, sqAt_get l i h1]; rfl
    obtain ⟨R, e, f, g⟩ := ih (i + 1) o' h3 (by omega) a (by
      rw [htk]
      exact (b.trans ((hp.cons s))).trans (List.perm_append_singleton s (l.take i)).symm)
    refine ⟨R, e, f, Ev.succ ?_⟩
    simp only [spec_cuSorted.l0]
    refine Ev.pos (by omega) (Ev.pos (by omega) (Ev.pos (by omega) ?_))
    rw [rd_sq, h2]
    refine d R ?_
    rw [wrap64_id (n := (i : Int) + 1) (by omega) (by omega)]
    exact g
theorem cuSorted_ev (l : List Sq) (hl : l.length ≤ 1000) : ∃ R, R.Pairwise LeP ∧ R.Perm l ∧ Ev (fun k => spec_cuSorted.f k l) R := cuSorted_l0 l hl l 0 [] rfl (by omega) List.Pairwise.nil (List.Perm.refl _)

/-! ### what SortFunc answers -/
theorem sortF_spec (l : List Sq) (hb : ∀ s ∈ l, BdSq s) (hl : l.length ≤ 1000000) : ∃ r, slices_SortFunc_impl_Square_impl_Square__impl_comparePlaces.f l = some r ∧ r.Perm l ∧ r.Pairwise LeP := by
  unfold slices_SortFunc_impl_Square_impl_Square__impl_comparePlaces.f
  rw [dif_pos ⟨hb, hl⟩]
  have hs : (bsqOf l hb).size = l.length := by simp [bsqOf]
  have hps := Sort.pdq_sorts (ltOf cfSq) swoSq (bsqOf l hb) 0 l.length (Lib.bitLen l.length) true true (Nat.zero_le _) (by omega) (Or.inl rfl)
  generalize Sort.pdq (ltOf cfSq) (bsqOf l hb) 0 l.length (Lib.bitLen l.length) true true = dd at hps ⊢
  have hsz : dd.size = l.length := by rw [hps.1.1, hs]
  refine ⟨_, rfl, ?_, ?_⟩
  · have hp := hps.1.2.2
    rw [Array.toList_extract, Array.toList_extract] at hp
    simp only [List.extract_eq_take_drop, List.drop_zero, Nat.sub_zero] at hp
    rw [List.take_of_length_le (by rw [Array.length_toList, hsz]; exact Nat.le_refl _), List.take_of_length_le (by rw [Array.length_toList, hs]; exact Nat.le_refl _)] at hp
    have hm := hp.map (fun s : BSq => s.1)
    have e : (bsqOf l hb).toList.map (fun s : BSq => s.1) = l := by simp [bsqOf]
    rw [e] at hm
    exact hm
  · rw [List.pairwise_map, List.pairwise_iff_getElem]
    intro i j hi hj hij
    rw [Array.length_toList] at hi hj
    have h := hps.2 i j (Nat.zero_le _) hij (by omega)
    rw [ltSq, decide_eq_false_iff_not, getElem!_pos dd i hi, getElem!_pos dd j hj] at h
    simpa [LeP, Less, placeLt] using h

/-! ### a cut's squares -/
theorem good_in {W H : Int} {l : List Sq} (hg : Good W H l) {s : Sq} (hs : s ∈ l) : Ins W H s := by
  obtain ⟨j, hj, rfl⟩ := List.mem_iff_getElem.1 hs
  rw [← sqAt_get l j hj]
  exact (hg.2.2.2.1 j hj).1
theorem ovl_symm {a b : Sq} (h : Ovl a b) : Ovl b a := ⟨h.2.1, h.1, h.2.2.2, h.2.2.1⟩
theorem good_inj {W H : Int} {l : List Sq} (hg : Good W H l) {a b : Sq} (ha : a ∈ l) (hb : b ∈ l) (h : Ovl a b) : a = b := by
  obtain ⟨i, hi, rfl⟩ := List.mem_iff_getElem.1 ha
  obtain ⟨j, hj, rfl⟩ := List.mem_iff_getElem.1 hb
  rw [← sqAt_get l i hi, ← sqAt_get l j hj] at h ⊢
  rcases Nat.lt_trichotomy i j with hlt | rfl | hlt
  · exact absurd (ovl_symm h) ((hg.2.2.2.1 j hj).2.2 i hlt)
  · rfl
  · exact absurd h ((hg.2.2.2.1 i hi).2.2 j hlt)
theorem take_map_succ (l : List Sq) (f : Sq → Sq) (i : Nat) (s : Sq) (t : List Sq) (h : l.drop i = s :: t) : (l.take i).map f ++ [f s] = (l.take (i + 1)).map f := by
  obtain ⟨h1, h2, _⟩ := sqs_drop l i s t h
  have e : l.take (i + 1) = l.take i ++ [s] := by
    rw [List.take_add_one, List.getElem?_eq_getElem h1, ← h2, sqAt_get l i h1]; rfl
  rw [e, List.map_append]; rfl

/-! ### cuts whose squares are changed and put in order -/
def areaL : List Sq → Int
  | [] => 0
  | s :: t => s.f2 * s.f2 + areaL t
theorem areaL_append : ∀ a b : List Sq, areaL (a ++ b) = areaL a + areaL b
  | [], b => by simp [areaL]
  | s :: a, b => by simp only [List.cons_append, areaL, areaL_append a b]; omega
theorem areaL_perm {a b : List Sq} (h : a.Perm b) : areaL a = areaL b := by
  induction h with
  | nil => rfl
  | cons x _ ih => simp only [areaL, ih]
  | swap x y l => simp only [areaL]; omega
  | trans _ _ ih1 ih2 => exact ih1.trans ih2
theorem areaTo_take (l : List Sq) : ∀ n, n ≤ l.length → areaTo l n = areaL (l.take n)
  | 0, _ => by simp [areaTo, areaL]
  | n + 1, h => by
    rw [areaTo, areaTo_take l n (by omega), List.take_succ_eq_append_getElem (by omega), areaL_append, sqAt_get l n (by omega)]
    simp only [areaL]; omega
theorem areaTo_all (l : List Sq) : areaTo l l.length = areaL l := by rw [areaTo_take l l.length (Nat.le_refl _), List.take_length]
theorem areaL_map (f : Sq → Sq) : ∀ l : List Sq, (∀ s ∈ l, (f s).f2 = s.f2) → areaL (l.map f) = areaL l
  | [], _ => rfl
  | s :: t, h => by simp only [List.map_cons, areaL, h s List.mem_cons_self, areaL_map f t (fun r hr => h r (List.mem_cons_of_mem _ hr))]
theorem good_apart {W H : Int} {l : List Sq} (hg : Good W H l) : l.Pairwise (fun a b => ¬ Ovl a b) := by
  rw [List.pairwise_iff_getElem]
  intro i j hi hj hij ho
  have := (hg.2.2.2.1 j hj).2.2 i hij
  rw [sqAt_get l i hi, sqAt_get l j hj] at this
  exact this (ovl_symm ho)
theorem good_of {W H : Int} {r : List Sq} (hW : 1 ≤ W ∧ W ≤ 500) (hH : 1 ≤ H ∧ H ≤ 500) (hl : 1 ≤ r.length ∧ r.length ≤ 30) (hin : ∀ s ∈ r, Ins W H s) (hs : r.Pairwise LeP) (hno : r.Pairwise (fun a b => ¬ Ovl a b)) (ha : areaL r = W * H) : Good W H r := by
  rw [List.pairwise_iff_getElem] at hs hno
  refine ⟨hW, hH, hl, fun i hi => ⟨hin _ (sqAt_mem r i hi), fun h0 => ?_, fun j hj ho => ?_⟩, by rw [areaTo_all, ha]⟩
  · have h1 := hs (i - 1) i (by omega) hi (by omega)
    have h2 := hno (i - 1) i (by omega) hi (by omega)
    have i1 := hin _ (sqAt_mem r (i - 1) (by omega))
    have i2 := hin _ (sqAt_mem r i hi)
    rw [sqAt_get r (i - 1) (by omega)] at i1 ⊢
    rw [sqAt_get r i hi] at i2 ⊢
    unfold LeP at h1
    unfold Less Ovl Ins at *
    omega
  · have := hno j i (by omega) hi hj
    rw [sqAt_get r i hi, sqAt_get r j (by omega)] at ho
    exact this (ovl_symm ho)
theorem good_changed {W H W' H' : Int} {l r : List Sq} (f : Sq → Sq) (hg : Good W H l) (hW : 1 ≤ W' ∧ W' ≤ 500) (hH : 1 ≤ H' ∧ H' ≤ 500) (hWH : W' * H' = W * H)
    (hin : ∀ s, Ins W H s → Ins W' H' (f s)) (hf2 : ∀ s, Ins W H s → (f s).f2 = s.f2) (hov : ∀ a b, Ins W H a → Ins W H b → Ovl (f a) (f b) → Ovl a b) (hp : r.Perm (l.map f)) (hs : r.Pairwise LeP) : Good W' H' r := by
  have hl := hp.length_eq
  rw [List.length_map] at hl
  have h30 := hg.2.2.1
  refine good_of hW hH (by omega) (fun s hs' => ?_) hs ?_ ?_
  · obtain ⟨q, hq, rfl⟩ := List.mem_map.1 (hp.mem_iff.1 hs')
    exact hin q (good_in hg hq)
  · rw [hp.pairwise_iff (fun h k => h (ovl_symm k)), List.pairwise_map]
    have := good_apart hg
    rw [List.pairwise_iff_getElem] at this ⊢
    intro i j hi hj hij ho
    exact this i j hi hj hij (hov _ _ (good_in hg (List.getElem_mem hi)) (good_in hg (List.getElem_mem hj)) ho)
  · rw [areaL_perm hp, areaL_map f l (fun s hs' => hf2 s (good_in hg hs')), ← areaTo_all, hg.2.2.2.2, hWH]

/-! ### cuts that are turned -/
def tur (H : Int) (s : Sq) : Sq := ⟨wrap64 ((wrap64 (H - s.f1)) - s.f2), s.f0, s.f2⟩
theorem tur_eq {W H : Int} (hH : H ≤ 500) {s : Sq} (h : Ins W H s) : tur H s = ⟨H - s.f1 - s.f2, s.f0, s.f2⟩ := by
  obtain ⟨h1, _, _, h2, h3⟩ := h
  unfold tur
  rw [wrap64_id (n := H - s.f1) (by omega) (by omega), wrap64_id (n := H - s.f1 - s.f2) (by omega) (by omega)]
theorem tur_bd {W H : Int} (hW : W ≤ 500) (hH : H ≤ 500) {s : Sq} (h : Ins W H s) : BdSq (tur H s) := by
  rw [tur_eq hH h]
  obtain ⟨h1, h2, h3, h4, h5⟩ := h
  unfold BdSq
  dsimp only
  omega
theorem tur_dist {W H : Int} {l : List Sq} (hg : Good W H l) : Dist (l.map (tur H)) := by
  intro a ha b hb e0 e1
  obtain ⟨p, hp, rfl⟩ := List.mem_map.1 ha
  obtain ⟨q, hq, rfl⟩ := List.mem_map.1 hb
  have ip := good_in hg hp
  have iq := good_in hg hq
  have hH := hg.2.1.2
  rw [tur_eq hH ip, tur_eq hH iq] at e0 e1
  dsimp only at e0 e1
  obtain ⟨p1, p2, p3, p4, p5⟩ := ip
  obtain ⟨q1, q2, q3, q4, q5⟩ := iq
  rw [good_inj hg hp hq (by unfold Ovl; omega)]
theorem spec_tur_loop (W H : Int) (l : List Sq) (hl : l.length ≤ 1000) (R : List Sq) (hR : Ev (fun k => spec_cuSorted.f k (l.map (tur H))) R) : ∀ (t : List Sq) (i : Nat), l.drop i = t → i + t.length = l.length →
    Ev (fun k => spec_cuTurn.l0 k ((l.take i).map (tur H)) l (l.length : Int) (i : Int) W H l) (H, W, R) := by
  intro t
  induction t with
  | nil =>
    intro i hd hi
    simp only [List.length_nil] at hi
    refine Ev.succ ?_
    simp only [spec_cuTurn.l0]
    rw [List.take_of_length_le (by omega)]
    exact Ev.neg (by omega) (Ev.bind hR (Ev.now _))
  | cons s t ih =>
    intro i hd hi
    obtain ⟨h1, h2, h3⟩ := sqs_drop l i s t hd
    simp only [List.length_cons] at hi
    refine Ev.succ ?_
    simp only [spec_cuTurn.l0]
    refine Ev.pos (by omega) (Ev.pos (by omega) (Ev.pos (by omega) (Ev.pos (by rw [List.length_map, List.length_take]; omega) ?_)))
    rw [rd_sq, h2, wrap64_id (n := (i : Int) + 1) (by omega) (by omega)]
    have e := take_map_succ l (tur H) i s t hd
    have h := ih (i + 1) h3 (by omega)
    rw [← e] at h
    exact h
theorem impl_tur_loop (W H : Int) (l : List Sq) (hl : l.length ≤ 1000) (R : List Sq) (hR : slices_SortFunc_impl_Square_impl_Square__impl_comparePlaces.f (l.map (tur H)) = some R) : ∀ (t : List Sq) (i : Nat), l.drop i = t → i + t.length = l.length →
    Ev (fun k => impl_Cut_changed__impl_Cut_turned_1.l0 k l (l.length : Int) (i : Int) W H l H W ((l.take i).map (tur H))) (H, W, R) := by
  intro t
  induction t with
  | nil =>
    intro i hd hi
    simp only [List.length_nil] at hi
    refine Ev.succ ?_
    simp only [impl_Cut_changed__impl_Cut_turned_1.l0]
    rw [List.take_of_length_le (by omega)]
    exact Ev.neg (by omega) (Ev.bindc hR (Ev.now _))
  | cons s t ih =>
    intro i hd hi
    obtain ⟨h1, h2, h3⟩ := sqs_drop l i s t hd
    simp only [List.length_cons] at hi
    refine Ev.succ ?_
    simp only [impl_Cut_changed__impl_Cut_turned_1.l0]
    refine Ev.pos (by omega) (Ev.pos (by omega) (Ev.pos (by omega) ?_))
    rw [rd_sq, h2, wrap64_id (n := (i : Int) + 1) (by omega) (by omega)]
    refine Ev.bindc rfl (Ev.pos (by rw [List.length_map, List.length_take]; omega) ?_)
    have e := take_map_succ l (tur H) i s t hd
    have h := ih (i + 1) h3 (by omega)
    rw [← e] at h
    exact h

/-! ### cuts that are mirrored -/
def mir (W : Int) (s : Sq) : Sq := ⟨wrap64 ((wrap64 (W - s.f0)) - s.f2), s.f1, s.f2⟩
theorem mir_eq {W H : Int} (hW : W ≤ 500) {s : Sq} (h : Ins W H s) : mir W s = ⟨W - s.f0 - s.f2, s.f1, s.f2⟩ := by
  obtain ⟨h1, h2, h3, _, _⟩ := h
  unfold mir
  rw [wrap64_id (n := W - s.f0) (by omega) (by omega), wrap64_id (n := W - s.f0 - s.f2) (by omega) (by omega)]
theorem mir_bd {W H : Int} (hW : W ≤ 500) (hH : H ≤ 500) {s : Sq} (h : Ins W H s) : BdSq (mir W s) := by
  rw [mir_eq hW h]
  obtain ⟨h1, h2, h3, h4, h5⟩ := h
  unfold BdSq
  dsimp only
  omega
theorem mir_dist {W H : Int} {l : List Sq} (hg : Good W H l) : Dist (l.map (mir W)) := by
  intro a ha b hb e0 e1
  obtain ⟨p, hp, rfl⟩ := List.mem_map.1 ha
  obtain ⟨q, hq, rfl⟩ := List.mem_map.1 hb
  have ip := good_in hg hp
  have iq := good_in hg hq
  have hW := hg.1.2
  rw [mir_eq hW ip, mir_eq hW iq] at e0 e1
  dsimp only at e0 e1
  obtain ⟨p1, p2, p3, p4, p5⟩ := ip
  obtain ⟨q1, q2, q3, q4, q5⟩ := iq
  rw [good_inj hg hp hq (by unfold Ovl; omega)]
theorem spec_mir_loop (W H : Int) (l : List Sq) (hl : l.length ≤ 1000) (R : List Sq) (hR : Ev (fun k => spec_cuSorted.f k (l.map (mir W))) R) : ∀ (t : List Sq) (i : Nat), l.drop i = t → i + t.length = l.length →
    Ev (fun k => spec_cuMirror.l0 k ((l.take i).map (mir W)) l (l.length : Int) (i : Int) W H l) (W, H, R) := by
  intro t
  induction t with
  | nil =>
    intro i hd hi
    simp only [List.length_nil] at hi
    refine Ev.succ ?_
    simp only [spec_cuMirror.l0]
    rw [List.take_of_length_le (by omega)]
    exact Ev.neg (by omega) (Ev.bind hR (Ev.now _))
  | cons s t ih =>
    intro i hd hi
    obtain ⟨h1, h2, h3⟩ := sqs_drop l i s t hd
    simp only [List.length_cons] at hi
    refine Ev.succ ?_
    simp only [spec_cuMirror.l0]
    refine Ev.pos (by omega) (Ev.pos (by omega) (Ev.pos (by omega) (Ev.pos (by rw [List.length_map, List.length_take]; omega) ?_)))
    rw [rd_sq, h2, wrap64_id (n := (i : Int) + 1) (by omega) (by omega)]
    have e := take_map_succ l (mir W) i s t hd
    have h := ih (i + 1) h3 (by omega)
    rw [← e] at h
    exact h
theorem impl_mir_loop (W H : Int) (l : List Sq) (hl : l.length ≤ 1000) (R : List Sq) (hR : slices_SortFunc_impl_Square_impl_Square__impl_comparePlaces.f (l.map (mir W)) = some R) : ∀ (t : List Sq) (i : Nat), l.drop i = t → i + t.length = l.length →
    Ev (fun k => impl_Cut_changed__impl_Cut_mirrored_1.l0 k l (l.length : Int) (i : Int) W H l W H ((l.take i).map (mir W))) (W, H, R) := by
  intro t
  induction t with
  | nil =>
    intro i hd hi
    simp only [List.length_nil] at hi
    refine Ev.succ ?_
    simp only [impl_Cut_changed__impl_Cut_mirrored_1.l0]
    rw [List.take_of_length_le (by omega)]
    exact Ev.neg (by omega) (Ev.bindc hR (Ev.now _))
  | cons s t ih =>
    intro i hd hi
    obtain ⟨h1, h2, h3⟩ := sqs_drop l i s t hd
    simp only [List.length_cons] at hi
    refine Ev.succ ?_
    simp only [impl_Cut_changed__impl_Cut_mirrored_1.l0]
    refine Ev.pos (by omega) (Ev.pos (by omega) (Ev.pos (by omega) ?_))
    rw [rd_sq, h2, wrap64_id (n := (i : Int) + 1) (by omega) (by omega)]
    refine Ev.bindc rfl (Ev.pos (by rw [List.length_map, List.length_take]; omega) ?_)
    have e := take_map_succ l (mir W) i s t hd
    have h := ih (i + 1) h3 (by omega)
    rw [← e] at h
    exact h

/-! ### the first one of all turned and mirrored cuts -/
abbrev Ct := S43
theorem good_distT {W H : Int} {l : List Sq} (hg : Good W H l) : Dist l := by
  intro a ha b hb e0 e1
  have p1 := good_in hg ha
  have p2 := good_in hg hb
  exact good_inj hg ha hb (by unfold Ins at p1 p2; unfold Ovl; omega)
theorem good_sortedT {W H : Int} {l : List Sq} (hg : Good W H l) : l.Pairwise LeP := by
  have hok := hg.2.2.2.1
  have h : ∀ d i, i + d < l.length → LeP (sqAt l i) (sqAt l (i + d)) := by
    intro d
    induction d with
    | zero => intro i _; unfold LeP Less; simp only [Nat.add_zero]; omega
    | succ d ih =>
      intro i hi
      have h1 := (hok (i + (d + 1)) hi).2.1 (by omega)
      rw [show i + (d + 1) - 1 = i + d by omega] at h1
      exact LeP.trans (ih i (by omega)) (LeP.of_less h1)
  rw [List.pairwise_iff_getElem]
  intro i j hi hj hij
  have := h (j - i) i (by omega)
  rw [show i + (j - i) = j by omega, sqAt_get l i hi, sqAt_get l j hj] at this
  exact this
theorem mir_both {W H : Int} {l : List Sq} (h : Good W H l) : ∃ R, Good W H R ∧ R.Perm (l.map (mir W)) ∧ Ev (fun k => spec_cuMirror.f k W H l) (W, H, R) ∧ Ev (fun k => impl_Cut_mirrored.f k W H l) (W, H, R) := by
  have hl := h.2.2.1.2
  obtain ⟨R, hs, hp, hev⟩ := cuSorted_ev (l.map (mir W)) (by rw [List.length_map]; omega)
  obtain ⟨R', hf, hp', hs'⟩ := sortF_spec (l.map (mir W)) (fun s hq => by
    obtain ⟨p, hpl, rfl⟩ := List.mem_map.1 hq
    exact mir_bd h.1.2 h.2.1.2 (good_in h hpl)) (by rw [List.length_map]; omega)
  obtain rfl : R' = R := eq_of_sorted (mir_dist h) hp' hp hs' hs
  refine ⟨R', good_changed (mir W) h h.1 h.2.1 rfl (fun s hi => ?_) (fun s hi => ?_) (fun a b ha hb ho => ?_) hp hs, hp, spec_mir_loop W H l (by omega) R' hev l 0 rfl (by omega), ?_⟩
  · rw [mir_eq h.1.2 hi]; unfold Ins at hi ⊢; dsimp only; omega
  · rw [mir_eq h.1.2 hi]
  · rw [mir_eq h.1.2 ha, mir_eq h.1.2 hb] at ho; unfold Ovl at ho ⊢; dsimp only at ho; unfold Ins at ha hb; omega
  · unfold impl_Cut_mirrored.f
    exact Ev.bind (a := (W, H, R')) (impl_mir_loop W H l (by omega) R' hf l 0 rfl (by omega)) (Ev.now _)
theorem tur_both {W H : Int} {l : List Sq} (h : Good W H l) : ∃ R, Good H W R ∧ R.Perm (l.map (tur H)) ∧ Ev (fun k => spec_cuTurn.f k W H l) (H, W, R) ∧ Ev (fun k => impl_Cut_turned.f k W H l) (H, W, R) := by
  have hl := h.2.2.1.2
  obtain ⟨R, hs, hp, hev⟩ := cuSorted_ev (l.map (tur H)) (by rw [List.length_map]; omega)
  obtain ⟨R', hf, hp', hs'⟩ := sortF_spec (l.map (tur H)) (fun s hq => by
    obtain ⟨p, hpl, rfl⟩ := List.mem_map.1 hq
    exact tur_bd h.1.2 h.2.1.2 (good_in h hpl)) (by rw [List.length_map]; omega)
  obtain rfl : R' = R := eq_of_sorted (tur_dist h) hp' hp hs' hs
  refine ⟨R', good_changed (tur H) h h.2.1 h.1 (Int.mul_comm _ _) (fun s hi => ?_) (fun s hi => ?_) (fun a b ha hb ho => ?_) hp hs, hp, spec_tur_loop W H l (by omega) R' hev l 0 rfl (by omega), ?_⟩
  · rw [tur_eq h.2.1.2 hi]; unfold Ins at hi ⊢; dsimp only; omega
  · rw [tur_eq h.2.1.2 hi]
  · rw [tur_eq h.2.1.2 ha, tur_eq h.2.1.2 hb] at ho; unfold Ovl at ho ⊢; dsimp only at ho; unfold Ins at ha hb; omega
  · unfold impl_Cut_turned.f
    exact Ev.bind (a := (H, W, R')) (impl_tur_loop W H l (by omega) R' hf l 0 rfl (by omega)) (Ev.now _)
theorem mir_twice {W H : Int} {l R R' : List Sq} (h : Good W H l) (hp : R.Perm (l.map (mir W))) (h' : Good W H R') (hp' : R'.Perm (R.map (mir W))) : R' = l := by
  refine eq_of_sorted (good_distT h) (hp'.trans ((hp.map _).trans ?_)) (List.Perm.refl _) (good_sortedT h') (good_sortedT h)
  rw [List.map_map]
  have e : l.map (mir W ∘ mir W) = l.map id := List.map_congr_left (fun s hs => by
    have hi := good_in h hs
    have hm : Ins W H (mir W s) := by rw [mir_eq h.1.2 hi]; unfold Ins at hi ⊢; dsimp only; omega
    show mir W (mir W s) = s
    rw [mir_eq h.1.2 hm, mir_eq h.1.2 hi]
    dsimp only
    rw [show W - (W - s.f0 - s.f2) - s.f2 = s.f0 by omega])
  rw [e, List.map_id]
/-! lists of squares compared -/
def cmp3 (s q : Sq) : Int := if s.f0 < q.f0 then -1 else if s.f0 > q.f0 then 1 else if s.f1 < q.f1 then -1 else if s.f1 > q.f1 then 1 else if s.f2 < q.f2 then -1 else if s.f2 > q.f2 then 1 else 0
def bef : List Sq → List Sq → Bool
  | [], q => decide (0 < q.length)
  | _ :: _, [] => false
  | s :: t, q :: u => if cmp3 s q = 0 then bef t u else decide (cmp3 s q < 0)
def cmpv : List Sq → List Sq → Int
  | [], [] => 0
  | [], _ :: _ => -1
  | _ :: _, [] => 1
  | s :: t, q :: u => if cmp3 s q = 0 then cmpv t u else cmp3 s q
theorem cmpv_bef : ∀ a b : List Sq, decide (cmpv a b < 0) = bef a b
  | [], [] => rfl
  | [], _ :: _ => by simp [cmpv, bef]
  | _ :: _, [] => by simp [cmpv, bef]
  | s :: t, q :: u => by
    simp only [cmpv, bef]
    split
    · exact cmpv_bef t u
    · rfl
theorem cmp3_zero {s q : Sq} : cmp3 s q = 0 ↔ (s.f0 = q.f0 ∧ s.f1 = q.f1 ∧ s.f2 = q.f2) := by
  unfold cmp3
  repeat' split
  all_goals omega
theorem cmpI (a b : Int) : cmp_Compare_int.f a b = some (if a < b then -1 else if a > b then 1 else 0) := by
  unfold cmp_Compare_int.f cmp_isNaN_int.f
  simp only [bne_self_eq_false, Option.bind_some, Bool.false_eq_true, if_false]
  split
  · rfl
  · split <;> rfl
theorem rd3 (a b c : Int) : rd [a, b, c] 0 = a ∧ rd [a, b, c] 1 = b ∧ rd [a, b, c] 2 = c := ⟨rfl, rfl, rfl⟩
theorem comp3_ev (s q : Sq) : Ev (fun k => slices_Compare_int_int.f k [s.f0, s.f1, s.f2] [q.f0, q.f1, q.f2]) (cmp3 s q) := by
  unfold slices_Compare_int_int.f
  refine Ev.succ ?_
  simp only [slices_Compare_int_int.l0, List.length_cons, List.length_nil]
  refine Ev.pos (by decide) (Ev.pos (by decide) (Ev.pos (by decide) (Ev.neg (by decide) (Ev.pos (by decide) (Ev.bindc (cmpI _ _) ?_)))))
  rw [(rd3 _ _ _).1, (rd3 _ _ _).1]
  by_cases h0 : s.f0 = q.f0
  · refine Ev.pos (by rw [if_neg (by omega), if_neg (by omega)]) ?_
    rw [show wrap64 (0 + 1) = 1 by unfold wrap64; omega]
    refine Ev.succ ?_
    simp only [slices_Compare_int_int.l0, List.length_cons, List.length_nil]
    refine Ev.pos (by decide) (Ev.pos (by decide) (Ev.pos (by decide) (Ev.neg (by decide) (Ev.pos (by decide) (Ev.bindc (cmpI _ _) ?_)))))
    rw [(rd3 _ _ _).2.1, (rd3 _ _ _).2.1]
    by_cases h1 : s.f1 = q.f1
    · refine Ev.pos (by rw [if_neg (by omega), if_neg (by omega)]) ?_
      rw [show wrap64 (1 + 1) = 2 by unfold wrap64; omega]
      refine Ev.succ ?_
      simp only [slices_Compare_int_int.l0, List.length_cons, List.length_nil]
      refine Ev.pos (by decide) (Ev.pos (by decide) (Ev.pos (by decide) (Ev.neg (by decide) (Ev.pos (by decide) (Ev.bindc (cmpI _ _) ?_)))))
      rw [(rd3 _ _ _).2.2, (rd3 _ _ _).2.2]
      by_cases h2 : s.f2 = q.f2
      · refine Ev.pos (by rw [if_neg (by omega), if_neg (by omega)]) ?_
        rw [show wrap64 (2 + 1) = 3 by unfold wrap64; omega]
        refine Ev.succ ?_
        simp only [slices_Compare_int_int.l0, List.length_cons, List.length_nil]
        refine Ev.neg (by decide) (Ev.neg (by decide) ?_)
        rw [cmp3_zero.2 ⟨h0, h1, h2⟩]
        exact Ev.now _
      · refine Ev.neg (by split <;> (try split) <;> omega) ?_
        have e : cmp3 s q = if s.f2 < q.f2 then -1 else if s.f2 > q.f2 then 1 else 0 := by unfold cmp3; rw [if_neg (by omega), if_neg (by omega), if_neg (by omega), if_neg (by omega)]
        rw [e]; exact Ev.now _
    · refine Ev.neg (by split <;> (try split) <;> omega) ?_
      have e : cmp3 s q = if s.f1 < q.f1 then -1 else if s.f1 > q.f1 then 1 else 0 := by unfold cmp3; rw [if_neg (by omega), if_neg (by omega)]; repeat' split; all_goals omega
      rw [e]; exact Ev.now _
  · refine Ev.neg (by split <;> (try split) <;> omega) ?_
    have e : cmp3 s q = if s.f0 < q.f0 then -1 else if s.f0 > q.f0 then 1 else 0 := by unfold cmp3; repeat' split; all_goals omega
    rw [e]; exact Ev.now _
theorem before3_ev (s q : Sq) (hne : cmp3 s q ≠ 0) : Ev (fun k => spec_cuBefore.f k [s.f0, s.f1, s.f2] [q.f0, q.f1, q.f2]) (decide (cmp3 s q < 0)) := by
  have hd : ¬ (s.f0 = q.f0 ∧ s.f1 = q.f1 ∧ s.f2 = q.f2) := fun h => hne (cmp3_zero.2 h)
  unfold spec_cuBefore.f
  refine Ev.succ ?_
  simp only [spec_cuBefore.l0, List.length_cons, List.length_nil]
  refine Ev.pos (by decide) (Ev.succ ?_)
  simp only [spec_cuBefore.j1, List.length_cons, List.length_nil]
  refine Ev.pos (by simp) (Ev.pos (by decide) (Ev.pos (by decide) (Ev.pos (by decide) ?_)))
  rw [(rd3 _ _ _).1, (rd3 _ _ _).1]
  by_cases h0 : s.f0 = q.f0
  · refine Ev.pos h0 ?_
    rw [show wrap64 (0 + 1) = 1 by unfold wrap64; omega]
    refine Ev.succ ?_
    simp only [spec_cuBefore.l0, List.length_cons, List.length_nil]
    refine Ev.pos (by decide) (Ev.succ ?_)
    simp only [spec_cuBefore.j1, List.length_cons, List.length_nil]
    refine Ev.pos (by simp) (Ev.pos (by decide) (Ev.pos (by decide) (Ev.pos (by decide) ?_)))
    rw [(rd3 _ _ _).2.1, (rd3 _ _ _).2.1]
    by_cases h1 : s.f1 = q.f1
    · refine Ev.pos h1 ?_
      rw [show wrap64 (1 + 1) = 2 by unfold wrap64; omega]
      refine Ev.succ ?_
      simp only [spec_cuBefore.l0, List.length_cons, List.length_nil]
      refine Ev.pos (by decide) (Ev.succ ?_)
      simp only [spec_cuBefore.j1, List.length_cons, List.length_nil]
      refine Ev.pos (by simp) (Ev.pos (by decide) (Ev.pos (by decide) (Ev.pos (by decide) ?_)))
      rw [(rd3 _ _ _).2.2, (rd3 _ _ _).2.2]
      refine Ev.neg (fun h2 => hd ⟨h0, h1, h2⟩) ?_
      have e : decide (cmp3 s q < 0) = decide (s.f2 < q.f2) := by
        rw [decide_eq_decide]; unfold cmp3; repeat' split; all_goals omega
      rw [e]; exact Ev.now _
    · refine Ev.neg h1 ?_
      have e : decide (cmp3 s q < 0) = decide (s.f1 < q.f1) := by
        rw [decide_eq_decide]; unfold cmp3; repeat' split; all_goals omega
      rw [e]; exact Ev.now _
  · refine Ev.neg h0 ?_
    have e : decide (cmp3 s q < 0) = decide (s.f0 < q.f0) := by
      rw [decide_eq_decide]; unfold cmp3; repeat' split; all_goals omega
    rw [e]; exact Ev.now _
theorem cmp_loop (a b : List Sq) (ha : a.length ≤ 1000) (hb : b.length ≤ 1000) : ∀ (t : List Sq) (i : Nat), a.drop i = t → i + t.length = a.length → i ≤ b.length →
    Ev (fun k => slices_CompareFunc_impl_Square_impl_Square_impl_Square_impl_Square__impl_compareCuts_1.l0 k a b a (a.length : Int) (i : Int)) (cmpv t (b.drop i)) := by
  intro t
  induction t with
  | nil =>
    intro i hd hi hib
    simp only [List.length_nil] at hi
    refine Ev.succ ?_
    simp only [slices_CompareFunc_impl_Square_impl_Square_impl_Square_impl_Square__impl_compareCuts_1.l0]
    refine Ev.neg (by omega) ?_
    by_cases h : i < b.length
    · refine Ev.pos (by omega) ?_
      rw [List.drop_eq_getElem_cons h]
      exact Ev.now _
    · refine Ev.neg (by omega) ?_
      rw [List.drop_eq_nil_of_le (by omega)]
      exact Ev.now _
  | cons s t ih =>
    intro i hd hi hib
    obtain ⟨h1, h2, h3⟩ := sqs_drop a i s t hd
    simp only [List.length_cons] at hi
    refine Ev.succ ?_
    simp only [slices_CompareFunc_impl_Square_impl_Square_impl_Square_impl_Square__impl_compareCuts_1.l0]
    refine Ev.pos (by omega) (Ev.pos (by omega) (Ev.pos (by omega) ?_))
    by_cases h : i < b.length
    · refine Ev.neg (by omega) (Ev.pos (by omega) ?_)
      rw [rd_sq, rd_sq, h2, List.drop_eq_getElem_cons h, ← sqAt_get b i h]
      simp only [cmpv]
      have hc := comp3_ev s (sqAt b i)
      refine Ev.bind (a := cmp3 s (sqAt b i)) (Ev.bind hc (Ev.now _)) ?_
      by_cases hz : cmp3 s (sqAt b i) = 0
      · rw [if_pos hz]
        refine Ev.pos hz ?_
        rw [wrap64_id (n := (i : Int) + 1) (by omega) (by omega)]
        exact ih (i + 1) h3 (by omega) (by omega)
      · rw [if_neg hz]
        exact Ev.neg hz (Ev.now _)
    · refine Ev.pos (by omega) ?_
      rw [List.drop_eq_nil_of_le (by omega)]
      exact Ev.now _
theorem cmp_ev (W H W' H' : Int) (a b : List Sq) (ha : a.length ≤ 1000) (hb : b.length ≤ 1000) : Ev (fun k => impl_compareCuts.f k W H a W' H' b) (cmpv a b) := by
  unfold impl_compareCuts.f
  refine Ev.bind (a := cmpv a b) ?_ (Ev.now _)
  exact cmp_loop a b ha hb a 0 rfl (by omega) (Nat.zero_le _)
theorem first_loop (W H W' H' : Int) (a b : List Sq) (ha : a.length ≤ 1000) (hb : b.length ≤ 1000) : ∀ (t : List Sq) (i : Nat), a.drop i = t → i + t.length = a.length → i ≤ b.length →
    Ev (fun k => spec_cuFirst.l0 k a (a.length : Int) (i : Int) W H a W' H' b) (bef t (b.drop i)) := by
  intro t
  induction t with
  | nil =>
    intro i hd hi hib
    simp only [List.length_nil] at hi
    refine Ev.succ ?_
    simp only [spec_cuFirst.l0]
    refine Ev.neg (by omega) ?_
    have e : decide ((a.length : Int) < (b.length : Int)) = bef [] (b.drop i) := by
      simp only [bef, List.length_drop]; rw [decide_eq_decide]; omega
    rw [e]; exact Ev.now _
  | cons s t ih =>
    intro i hd hi hib
    obtain ⟨h1, h2, h3⟩ := sqs_drop a i s t hd
    simp only [List.length_cons] at hi
    refine Ev.succ ?_
    simp only [spec_cuFirst.l0]
    refine Ev.pos (by omega) (Ev.pos (by omega) (Ev.pos (by omega) ?_))
    by_cases h : i < b.length
    · refine Ev.neg (by omega) (Ev.pos (by omega) ?_)
      rw [rd_sq, rd_sq, h2, List.drop_eq_getElem_cons h, ← sqAt_get b i h]
      simp only [bef]
      by_cases hz : cmp3 s (sqAt b i) = 0
      · rw [if_pos hz]
        obtain ⟨z0, z1, z2⟩ := cmp3_zero.1 hz
        refine Ev.neg (by rw [z0, z1, z2]; simp) ?_
        rw [wrap64_id (n := (i : Int) + 1) (by omega) (by omega)]
        exact ih (i + 1) h3 (by omega) (by omega)
      · rw [if_neg hz]
        refine Ev.pos ?_ (Ev.bind (before3_ev s (sqAt b i) hz) (Ev.now _))
        have hd : ¬ (s.f0 = (sqAt b i).f0 ∧ s.f1 = (sqAt b i).f1 ∧ s.f2 = (sqAt b i).f2) := fun h => hz (cmp3_zero.2 h)
        simp only [Bool.or_eq_true, Bool.not_eq_true', beq_eq_false_iff_ne, ne_eq]
        omega
    · refine Ev.pos (by omega) ?_
      rw [List.drop_eq_nil_of_le (by omega)]
      exact Ev.now _
theorem first_ev (W H W' H' : Int) (a b : List Sq) (ha : a.length ≤ 1000) (hb : b.length ≤ 1000) : Ev (fun k => spec_cuFirst.f k W H a W' H' b) (bef a b) :=
  first_loop W H W' H' a b ha hb a 0 rfl (by omega) (Nat.zero_le _)
/-! the least of a list, and the reference's way to it -/
def pick (m : Ct) : List Ct → Ct
  | [] => m
  | x :: t => pick (if bef x.f2 m.f2 = true then x else m) t
def wide (c : Ct) : Bool := decide (c.f0 ≥ c.f1)
def stepC (st : Option Ct) (c : Ct) : Option Ct := if wide c = true then (match st with | none => some c | some m => some (if bef c.f2 m.f2 = true then c else m)) else st
theorem fold_some (m : Ct) : ∀ L : List Ct, L.foldl stepC (some m) = some (pick m (L.filter wide)) := by
  intro L
  induction L generalizing m with
  | nil => rfl
  | cons c t ih =>
    by_cases h : wide c = true
    · rw [List.foldl_cons, List.filter_cons_of_pos h]
      simp only [stepC, if_pos h, pick]
      exact ih _
    · rw [List.foldl_cons, List.filter_cons_of_neg h]
      simp only [stepC, if_neg h]
      exact ih m
theorem fold_none : ∀ L : List Ct, L.foldl stepC none = match L.filter wide with | [] => none | a :: t => some (pick a t) := by
  intro L
  induction L with
  | nil => rfl
  | cons c t ih =>
    by_cases h : wide c = true
    · rw [List.foldl_cons, List.filter_cons_of_pos h]
      simp only [stepC, if_pos h]
      exact fold_some c t
    · rw [List.foldl_cons, List.filter_cons_of_neg h]
      simp only [stepC, if_neg h]
      exact ih
theorem minGo_ev : ∀ (L : List Ct) (m : Ct), m.f2.length ≤ 1000 → (∀ c ∈ L, c.f2.length ≤ 1000) → Ev (fun k => minGo k m L) (pick m L) := by
  intro L
  induction L with
  | nil => intro m _ _; exact Ev.now _
  | cons x t ih =>
    intro m hm hL
    have hx := hL x List.mem_cons_self
    simp only [minGo, pick]
    refine Ev.bind (cmp_ev _ _ _ _ x.f2 m.f2 hx hm) ?_
    have e : (if cmpv x.f2 m.f2 < 0 then x else m) = if bef x.f2 m.f2 = true then x else m := by
      rw [← cmpv_bef]; simp only [decide_eq_true_eq]
    rw [e]
    exact ih _ (by split <;> assumption) (fun c hc => hL c (List.mem_cons_of_mem _ hc))
def bstC (st : Option Ct) : Ct := st.getD ⟨0, 0, []⟩
theorem cts_step {x5 x6 W H : Int} {l M : List Sq} (hl : l.length ≤ 30) (h6 : 0 ≤ x6 ∧ x6 < 2) (hM : Ev (fun k => spec_cuMirror.f k W H l) (W, H, M)) (st : Option Ct) (hst : (bstC st).f2.length ≤ 30) {R : Int × Int × List Sq}
    (h : Ev (fun k => spec_cuTurns.l1 k (stepC st ⟨W, H, l⟩).isSome x5 (x6 + 1) W H M (bstC (stepC st ⟨W, H, l⟩)).f0 (bstC (stepC st ⟨W, H, l⟩)).f1 (bstC (stepC st ⟨W, H, l⟩)).f2) R) :
    Ev (fun k => spec_cuTurns.l1 k st.isSome x5 x6 W H l (bstC st).f0 (bstC st).f1 (bstC st).f2) R := by
  have hw : wrap64 (x6 + 1) = x6 + 1 := wrap64_id (by omega) (by omega)
  have hown : spec_cuOwn.f W H l = some (W, H, l) := by
    unfold spec_cuOwn.f
    rw [Option.bind_some, if_pos (by simp; omega), List.nil_append]
  have take : (stepC st ⟨W, H, l⟩) = some ⟨W, H, l⟩ → Ev (fun k => spec_cuTurns.j2 k st.isSome x5 x6 true W H l (bstC st).f0 (bstC st).f1 (bstC st).f2) R := fun e => by
    rw [e] at h
    refine Ev.succ ?_
    simp only [spec_cuTurns.j2]
    refine Ev.pos (by simp) (Ev.bindc hown (Ev.bind hM ?_))
    rw [hw]
    exact h
  have leave : (stepC st ⟨W, H, l⟩) = st → Ev (fun k => spec_cuTurns.j2 k st.isSome x5 x6 false W H l (bstC st).f0 (bstC st).f1 (bstC st).f2) R := fun e => by
    rw [e] at h
    refine Ev.succ ?_
    simp only [spec_cuTurns.j2]
    refine Ev.neg (by simp) (Ev.bind hM ?_)
    rw [hw]
    exact h
  refine Ev.succ ?_
  simp only [spec_cuTurns.l1]
  refine Ev.pos h6.2 ?_
  by_cases hWH : W ≥ H
  · refine Ev.pos hWH ?_
    have hwd : wide ⟨W, H, l⟩ = true := by simp [wide, hWH]
    cases st with
    | none => exact Ev.neg (by simp) (take (by simp only [stepC, if_pos hwd]))
    | some m =>
      refine Ev.pos (by simp) (Ev.bind (first_ev W H m.f0 m.f1 l m.f2 (by omega) (by have : m.f2.length ≤ 30 := hst; omega)) ?_)
      cases hb : bef l m.f2 with
      | true => exact take (by simp only [stepC, if_pos hwd, hb, if_true])
      | false => exact leave (by simp only [stepC, if_pos hwd, hb, Bool.false_eq_true, if_false])
  · refine Ev.neg hWH (leave ?_)
    have hwd : ¬ wide ⟨W, H, l⟩ = true := by simp [wide]; omega
    simp only [stepC, if_neg hwd]
theorem turns_ev : ∀ (q : Nat) {W H : Int} {l : List Sq}, q ≤ 4 → Good W H l → ∃ L : List Ct, (∀ c ∈ L, Good c.f0 c.f1 c.f2) ∧ (0 < q → L.head? = some ⟨W, H, l⟩) ∧ (1 < q → ∃ c ∈ L, c.f0 = H ∧ c.f1 = W) ∧
    (∀ os, Ev (fun k => turnGo k q W H l os) (os ++ L.filter wide)) ∧
    (∀ st : Option Ct, (bstC st).f2.length ≤ 30 → Ev (fun k => spec_cuTurns.l0 k st.isSome (4 - (q : Int)) W H l (bstC st).f0 (bstC st).f1 (bstC st).f2) ((bstC (L.foldl stepC st)).f0, (bstC (L.foldl stepC st)).f1, (bstC (L.foldl stepC st)).f2)) := by
  intro q
  induction q with
  | zero =>
    intro W H l _ _
    refine ⟨[], by simp, by omega, by omega, fun os => ?_, fun st _ => ?_⟩
    · simp only [turnGo, List.filter_nil, List.append_nil]; exact Ev.now _
    · refine Ev.succ ?_
      simp only [spec_cuTurns.l0]
      exact Ev.neg (by omega) (Ev.now _)
  | succ q ih =>
    intro W H l hq hg
    obtain ⟨M, gM, pM, sM, iM⟩ := mir_both hg
    obtain ⟨M', gM', pM', sM', iM'⟩ := mir_both gM
    obtain rfl : M' = l := mir_twice hg pM gM' pM'
    obtain ⟨T, gT, pT, sT, iT⟩ := tur_both hg
    obtain ⟨L, hL, hhd, _, himp, hspec⟩ := ih (by omega) gT
    have hl := hg.2.2.1.2
    have hm := gM.2.2.1.2
    refine ⟨⟨W, H, M'⟩ :: ⟨W, H, M⟩ :: L, ?_, fun _ => rfl, fun h1 => ?_, fun os => ?_, fun st hst => ?_⟩
    · intro c hc
      simp only [List.mem_cons] at hc
      rcases hc with rfl | rfl | hc
      · exact hg
      · exact gM
      · exact hL c hc
    · have := hhd (by omega)
      cases L with
      | nil => simp at this
      | cons a t =>
        simp only [List.head?_cons, Option.some.injEq] at this
        exact ⟨a, by simp, by rw [this], by rw [this]⟩
    · simp only [turnGo]
      by_cases hWH : W ≥ H
      · refine Ev.bind (a := os ++ [⟨W, H, M'⟩, ⟨W, H, M⟩]) (Ev.pos hWH (Ev.bind iM (Ev.now _))) (Ev.bind iT ?_)
        rw [List.filter_cons_of_pos (by simp [wide, hWH]), List.filter_cons_of_pos (by simp [wide, hWH])]
        have := himp (os ++ [⟨W, H, M'⟩, ⟨W, H, M⟩])
        simpa using this
      · refine Ev.bind (a := os) (Ev.neg hWH (Ev.now _)) (Ev.bind iT ?_)
        rw [List.filter_cons_of_neg (by simp [wide]; omega), List.filter_cons_of_neg (by simp [wide]; omega)]
        exact himp os
    · have stl : ∀ (s : Option Ct) (c : Ct), (bstC s).f2.length ≤ 30 → c.f2.length ≤ 30 → (bstC (stepC s c)).f2.length ≤ 30 := by
        intro s c h1 h2
        unfold stepC
        split
        · cases s with
          | none => exact h2
          | some m =>
            simp only [bstC, Option.getD_some]
            split
            · exact h2
            · exact h1
        · exact h1
      refine Ev.succ ?_
      simp only [spec_cuTurns.l0]
      refine Ev.pos (by omega) ?_
      refine cts_step hl (by omega) sM st hst ?_
      refine cts_step hm (by omega) sM' _ (stl _ _ hst hl) ?_
      refine Ev.succ ?_
      simp only [spec_cuTurns.l1]
      refine Ev.neg (by omega) (Ev.bind sT ?_)
      rw [wrap64_id (n := 4 - ((q + 1 : Nat) : Int) + 1) (by omega) (by omega), show (4 - ((q + 1 : Nat) : Int) + 1) = 4 - (q : Int) by omega, List.foldl_cons, List.foldl_cons]
      exact hspec _ (stl _ _ (stl _ _ hst hl) hm)
theorem pick_mem : ∀ (L : List Ct) (m : Ct), pick m L = m ∨ pick m L ∈ L := by
  intro L
  induction L with
  | nil => intro m; exact .inl rfl
  | cons x t ih =>
    intro m
    simp only [pick]
    rcases ih (if bef x.f2 m.f2 = true then x else m) with h | h
    · rw [h]
      split
      · exact .inr List.mem_cons_self
      · exact .inl rfl
    · exact .inr (List.mem_cons_of_mem _ h)
theorem firstT_ev {W H : Int} {l : List Sq} (hg : Good W H l) : ∃ c : Ct, Good c.f0 c.f1 c.f2 ∧ Ev (fun k => spec_cuTurns.f k W H l) (c.f0, c.f1, c.f2) ∧ Ev (fun k => impl_Cut_firstTurn.f k W H l) (c.f0, c.f1, c.f2) := by
  obtain ⟨L, hL, hhd, hex, himp, hspec⟩ := turns_ev 4 (Nat.le_refl _) hg
  have hne : ∃ a t, L.filter wide = a :: t := by
    have h1 : ∃ c ∈ L, wide c = true := by
      by_cases h : W ≥ H
      · refine ⟨⟨W, H, l⟩, List.mem_of_mem_head? (hhd (by omega)), by simp [wide, h]⟩
      · obtain ⟨c, hc, e0, e1⟩ := hex (by omega)
        exact ⟨c, hc, by simp only [wide, e0, e1, decide_eq_true_eq]; omega⟩
    obtain ⟨c, hc, hw⟩ := h1
    cases hf : L.filter wide with
    | nil => rw [List.filter_eq_nil_iff] at hf; exact absurd hw (hf c hc)
    | cons a t => exact ⟨a, t, rfl⟩
  obtain ⟨a, t, hf⟩ := hne
  have hmem : ∀ c ∈ a :: t, Good c.f0 c.f1 c.f2 := fun c hc => hL c ((List.mem_filter.1 (hf ▸ hc)).1)
  have hlen : ∀ c ∈ a :: t, c.f2.length ≤ 1000 := fun c hc => by have := (hmem c hc).2.2.1.2; omega
  refine ⟨pick a t, ?_, ?_, ?_⟩
  · rcases pick_mem t a with h | h
    · rw [h]; exact hmem a List.mem_cons_self
    · exact hmem _ (List.mem_cons_of_mem _ h)
  · have h := hspec none (by simp [bstC])
    rw [fold_none, hf] at h
    exact h
  · unfold impl_Cut_firstTurn.f
    refine Ev.bind (himp []) (Ev.bind (a := pick a t) ?_ (Ev.now _))
    rw [List.nil_append, hf]
    simp only [minF]
    exact minGo_ev t a (hlen a List.mem_cons_self) (fun c hc => hlen c (List.mem_cons_of_mem _ hc))
theorem impl_first_good {W H : Int} {l : List Sq} (h : Good W H l) {c : Ct} (s2 : Ev (fun k => impl_Cut_firstTurn.f k W H l) (c.f0, c.f1, c.f2)) : Ev (fun k => impl_FirstTurn.f k W H l) (c.f0, c.f1, c.f2, true) := by
  have hl := h.2.2.1.2
  unfold impl_FirstTurn.f
  have hown : impl_Cut_own.f W H l = some (W, H, l) := by
    unfold impl_Cut_own.f impl_Square_112.f
    rw [Option.bind_some, if_pos (by simp; omega), List.nil_append, Option.bind_some]
  exact Ev.bind (impl_IsCut_ev W H l) (Ev.pos (by simpa using h) (Ev.bindc hown (Ev.bind s2 (Ev.now _))))
theorem impl_first_bad {W H : Int} {l : List Sq} (h : ¬ Good W H l) : Ev (fun k => impl_FirstTurn.f k W H l) (0, 0, [], false) := by
  unfold impl_FirstTurn.f
  exact Ev.bind (impl_IsCut_ev W H l) (Ev.neg (by simpa using h) (Ev.now _))

theorem both_ev (W H : Int) (l : List Sq) : ∃ R : List (List Int) × Bool, R.1.length ≤ 1000 ∧ (∀ r ∈ R.1, r.length ≤ 1000) ∧ Ev (fun k => spec_FirstCode.f k W H l) R ∧ Ev (fun k => impl_FirstCode.f k W H l) R := by
  by_cases hg : Good W H l
  · obtain ⟨c, gc, s1, s2⟩ := firstT_ev hg
    have h30 := gc.2.2.1
    have h1 := (codeTo_len c.f2 c.f2.length).1
    refine ⟨(codeTo c.f2 c.f2.length, true), by show (codeTo c.f2 c.f2.length).length ≤ 1000; omega, fun r hr => by have := codeTo_group c.f2 c.f2.length r hr; omega, ?_, ?_⟩
    · unfold spec_FirstCode.f
      exact Ev.bind (spec_cuGood_ev W H l) (Ev.pos (decide_eq_true hg) (Ev.bind s1 (Ev.bind (spec_bkCode_ev gc) (Ev.now _))))
    · unfold impl_FirstCode.f
      exact Ev.bind (impl_first_good hg s2) (Ev.pos rfl (Ev.bind (impl_codeOf_ev gc) (Ev.now _)))
  · refine ⟨([], false), Nat.zero_le _, fun r hr => absurd hr (by simp), ?_, ?_⟩
    · unfold spec_FirstCode.f
      exact Ev.bind (spec_cuGood_ev W H l) (Ev.neg (by simpa using hg) (Ev.now _))
    · unfold impl_FirstCode.f
      exact Ev.bind (impl_first_bad hg) (Ev.neg (by simp) (Ev.now _))
theorem FnExactFirstCode : laws_FnExactFirstCode.Pure := by
  intro W H l _ _ hm _
  refine Ev.rounds (g := fun k => laws_FnExactFirstCode.f k W H l) ?_
  unfold laws_FnExactFirstCode.f
  refine Ev.bindc (szCut_eq W H l hm) ?_
  by_cases h : l.length ≤ 1048576
  · rw [if_pos h]
    obtain ⟨⟨R1, R2⟩, hR1, hR2, hs, hi⟩ := both_ev W H (l.map conv)
    simp only at hR1 hR2
    have hc : (l.map conv).length ≤ 1099511627776 := by simp; omega
    have he := eqIntSS_ev R1 (by omega) (fun r hr => by have := hR2 r hr; omega)
    have h0 := totL_nonneg R1
    have ht : totL R1 ≤ 1000000000000 := by
      have := totL_le 1000 R1 hR2
      omega
    have hk := markIntSS_ev R1 (by omega) ht
    have hh := heldIntSS_ev R1 (by omega) ht
    refine Ev.neg (by omega) (Ev.bind (toCut_ev W H l h) (Ev.bind hs (Ev.bind (toCut_ev W H l h) (Ev.bind hi ?_))))
    refine Ev.bind he (Ev.pos rfl (Ev.succ ?_))
    simp only [laws_FnExactFirstCode.j0]
    refine Ev.neg (by simp) (Ev.bind (toCut_ev W H l h) (Ev.bind (eqCut_ev W H _ hc) (Ev.pos rfl ?_)))
    obtain ⟨y, hy⟩ := markCut_ev W H (l.map conv) hc
    refine Ev.bind hy (Ev.neg (by simp only; omega) (Ev.bind he (Ev.pos rfl (Ev.succ ?_))))
    simp only [laws_FnExactFirstCode.j1]
    refine Ev.neg (by simp) (Ev.bind hk (Ev.bind hh ?_))
    refine Ev.neg (by omega) (Ev.pos rfl (Ev.bind (toCut_ev W H l h) (Ev.bind hi (Ev.bind he (Ev.pos rfl (Ev.succ ?_))))))
    simp only [laws_FnExactFirstCode.j2]
    refine Ev.neg (by simp) (Ev.bind hh (Ev.neg (by omega) (Ev.pos rfl (Ev.now _))))
  · rw [if_neg h]
    exact Ev.pos (by omega) (Ev.now _)

end Go.Proofs.Ytmmcbdndelaeoaa.Pure
