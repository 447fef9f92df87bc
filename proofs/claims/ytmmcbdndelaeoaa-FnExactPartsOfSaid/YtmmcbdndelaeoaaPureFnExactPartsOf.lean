/- The program's PartsOf and the reference's return the same for all arguments: the program's filled rectangles are the reference's by area, and both put their lists of squares in the one order that there is. -/
import Derived.Test.YtmmcbdndelaeoaaPFnExactPartsOfx9
import Derived.Test.YtmmcbdndelaeoaaPFnExactPartsOfx0
import Derived.Test.YtmmcbdndelaeoaaPFnExactPartsOfx1
import Derived.Test.YtmmcbdndelaeoaaPFnExactPartsOfx2
import Derived.Test.YtmmcbdndelaeoaaPFnExactPartsOfx3
import Derived.Test.YtmmcbdndelaeoaaPFnExactPartsOfx4
import Derived.Test.YtmmcbdndelaeoaaPFnExactPartsOfx5
import Derived.Test.YtmmcbdndelaeoaaPFnExactPartsOfx6
import Derived.Test.YtmmcbdndelaeoaaPFnExactPartsOfx7
import Derived.Test.YtmmcbdndelaeoaaPFnExactPartsOfx8
import Derived.Test.YtmmcbdndelaeoaaWGuardMoreInvWords
namespace Go.Proofs.Ytmmcbdndelaeoaa.Pure
open Go.RowKit Go.Proofs.Ytmmcbdndelaeoaa.PFnExactPartsOf Go.Proofs.YtmmcbdndelaeoaaW.PrintWords Go.Proofs.YtmmcbdndelaeoaaW.PrintLast Go.Proofs.YtmmcbdndelaeoaaW.PrintMore Go.Proofs.YtmmcbdndelaeoaaW.Evs
set_option linter.unusedVariables false
set_option linter.unusedSimpArgs false
/-! ### a cut: what the program's IsCut and the reference's cuGood answer -/
abbrev Sq := S97
def sqAt (l : List Sq) (j : Nat) : Sq := l.getD j z97
theorem rd_sq (l : List Sq) (j : Nat) : rd_T97 l (j : Int) = sqAt l j := by unfold rd_T97 sqAt; rw [Int.toNat_natCast]
theorem sqAt_get (l : List Sq) (j : Nat) (h : j < l.length) : sqAt l j = l[j] := by unfold sqAt; simp [List.getD, h]
theorem sqAt_mem (l : List Sq) (j : Nat) (h : j < l.length) : sqAt l j ∈ l := by rw [sqAt_get l j h]; exact List.getElem_mem h
/-- a square lies in the rectangle -/
def Ins (W H : Int) (s : Sq) : Prop := 1 ≤ s.f2 ∧ 0 ≤ s.f0 ∧ s.f0 + s.f2 ≤ W ∧ 0 ≤ s.f1 ∧ s.f1 + s.f2 ≤ H
instance (W H : Int) (s : Sq) : Decidable (Ins W H s) := by unfold Ins; infer_instance
def Less (a b : Sq) : Prop := a.f1 < b.f1 ∨ a.f1 = b.f1 ∧ a.f0 < b.f0
instance (a b : Sq) : Decidable (Less a b) := by unfold Less; infer_instance
def Ovl (a b : Sq) : Prop := a.f0 < b.f0 + b.f2 ∧ b.f0 < a.f0 + a.f2 ∧ a.f1 < b.f1 + b.f2 ∧ b.f1 < a.f1 + a.f2
instance (a b : Sq) : Decidable (Ovl a b) := by unfold Ovl; infer_instance
def OkAt (W H : Int) (l : List Sq) (i : Nat) : Prop := Ins W H (sqAt l i) ∧ (0 < i → Less (sqAt l (i - 1)) (sqAt l i)) ∧ ∀ j, j < i → ¬ Ovl (sqAt l i) (sqAt l j)
instance (W H : Int) (l : List Sq) (i : Nat) : Decidable (OkAt W H l i) := by unfold OkAt; infer_instance
def areaTo (l : List Sq) : Nat → Int
  | 0 => 0
  | n + 1 => areaTo l n + (sqAt l n).f2 * (sqAt l n).f2
/-- a width, a height and squares are a cut -/
def Good (W H : Int) (l : List Sq) : Prop := (1 ≤ W ∧ W ≤ 500) ∧ (1 ≤ H ∧ H ≤ 500) ∧ (1 ≤ l.length ∧ l.length ≤ 30) ∧ (∀ i, i < l.length → OkAt W H l i) ∧ areaTo l l.length = W * H
instance (W H : Int) (l : List Sq) : Decidable (Good W H l) := by unfold Good; infer_instance

theorem within_eq (a b c : Int) : impl_within.f a b c = some (decide (b ≤ a ∧ a ≤ c)) := by
  unfold impl_within.f
  by_cases h : b ≤ a
  · rw [if_pos h]; simp [h]
  · rw [if_neg h]; simp [h]
theorem isWide_eq (a : Int) : impl_isWide.f a = some (decide (1 ≤ a ∧ a ≤ 500)) := by
  unfold impl_isWide.f; rw [within_eq]; rfl
theorem l1In_eq (a b c : Int) : spec_l1In.f a b c = some (decide (b ≤ a ∧ a ≤ c)) := by
  unfold spec_l1In.f
  by_cases h : b ≤ a
  · rw [if_pos h]; simp [h]
  · rw [if_neg h]; simp [h]
theorem areaTo_bd (W H : Int) (l : List Sq) (hW : W ≤ 500) (hH : H ≤ 500) : ∀ n, n ≤ 30 → (∀ m, m < n → Ins W H (sqAt l m)) → 0 ≤ areaTo l n ∧ areaTo l n ≤ n * 250000
  | 0, _, _ => by simp [areaTo]
  | n + 1, hn, h => by
    obtain ⟨h1, h2⟩ := areaTo_bd W H l hW hH n (by omega) (fun m hm => h m (by omega))
    have hi := h n (by omega)
    unfold Ins at hi
    have q1 : 0 ≤ (sqAt l n).f2 * (sqAt l n).f2 := Int.mul_nonneg (by omega) (by omega)
    have q2 : (sqAt l n).f2 * (sqAt l n).f2 ≤ 500 * 500 := Int.mul_le_mul (by omega) (by omega) (by omega) (by omega)
    simp only [areaTo]
    omega
theorem sq_bd {W H : Int} {s : Sq} (hW : W ≤ 500) (hH : H ≤ 500) (h : Ins W H s) : 0 ≤ s.f2 * s.f2 ∧ s.f2 * s.f2 ≤ 250000 := by
  unfold Ins at h
  have q1 : 0 ≤ s.f2 * s.f2 := Int.mul_nonneg (by omega) (by omega)
  have q2 : s.f2 * s.f2 ≤ 500 * 500 := Int.mul_le_mul (by omega) (by omega) (by omega) (by omega)
  omega

theorem compare_eq {W H : Int} {a b : Sq} (hW : W ≤ 500) (hH : H ≤ 500) (ha : Ins W H a) (hb : Ins W H b) :
    ∃ c, impl_comparePlaces.f a.f0 a.f1 a.f2 b.f0 b.f1 b.f2 = some c ∧ (c < 0 ↔ Less a b) := by
  unfold Ins at ha hb
  unfold impl_comparePlaces.f Less
  by_cases e : a.f1 = b.f1
  · rw [if_pos e]; exact ⟨_, rfl, by rw [wrap64_id (by omega) (by omega)]; omega⟩
  · rw [if_neg e]; exact ⟨_, rfl, by rw [wrap64_id (by omega) (by omega)]; omega⟩
theorem overlap_eq {W H : Int} {a b : Sq} (hW : W ≤ 500) (hH : H ≤ 500) (ha : Ins W H a) (hb : Ins W H b) :
    impl_overlap.f a.f0 a.f1 a.f2 b.f0 b.f1 b.f2 = some (decide (Ovl a b)) := by
  unfold Ins at ha hb
  unfold impl_overlap.f Ovl
  rw [wrap64_id (by omega) (by omega), wrap64_id (by omega) (by omega), wrap64_id (by omega) (by omega), wrap64_id (by omega) (by omega)]
  by_cases h1 : a.f0 < b.f0 + b.f2
  · by_cases h2 : b.f0 < a.f0 + a.f2
    · by_cases h3 : a.f1 < b.f1 + b.f2
      · simp [h1, h2, h3]
      · simp [h1, h2, h3]
    · simp [h1, h2]
  · simp [h1]
theorem less_eq (a b : Sq) : spec_cuLess.f a.f0 a.f1 a.f2 b.f0 b.f1 b.f2 = some (decide (Less a b)) := by
  unfold spec_cuLess.f Less
  by_cases h1 : a.f1 < b.f1
  · rw [if_pos h1]; simp [h1]
  · rw [if_neg h1]
    by_cases h2 : a.f1 = b.f1
    · rw [if_pos h2]; simp [h2]
    · rw [if_neg h2]; simp [h1, h2]

/-! the program's own -/
theorem contains_eq {W H : Int} {l : List Sq} (hW : W ≤ 500) (hH : H ≤ 500) (i : Nat) (hi : i < l.length) (h : ∀ m, m ≤ i → Ins W H (sqAt l m)) :
    slices_ContainsFunc_impl_Square_impl_Square__impl_IsCut_1.f (l.take i) (sqAt l i).f0 (sqAt l i).f1 (sqAt l i).f2 = some (decide (∃ j, j < i ∧ Ovl (sqAt l i) (sqAt l j))) := by
  unfold slices_ContainsFunc_impl_Square_impl_Square__impl_IsCut_1.f
  congr 1
  rw [Bool.eq_iff_iff, List.any_eq_true, decide_eq_true_eq]
  constructor
  · rintro ⟨t, ht, hp⟩
    obtain ⟨j, hj⟩ := List.getElem?_of_mem ht
    have hj1 : j < (l.take i).length := (List.getElem?_eq_some_iff.1 hj).1
    have hj2 : j < i := by simp at hj1; omega
    have e : t = sqAt l j := by
      rw [List.getElem?_take_of_lt hj2, List.getElem?_eq_getElem (by omega)] at hj
      rw [sqAt_get l j (by omega)]; exact (Option.some.inj hj).symm
    subst e
    rw [overlap_eq hW hH (h i (Nat.le_refl _)) (h j (by omega))] at hp
    exact ⟨j, hj2, by simpa using hp⟩
  · rintro ⟨j, hj, ho⟩
    refine ⟨sqAt l j, ?_, ?_⟩
    · rw [sqAt_get l j (by omega)]
      exact List.mem_take_iff_getElem.2 ⟨j, by omega, rfl⟩
    · rw [overlap_eq hW hH (h i (Nat.le_refl _)) (h j (by omega))]; simpa using ho

theorem okFrom_step (W H : Int) (l : List Sq) (i : Nat) : (∀ m, i ≤ m → m < l.length → OkAt W H l m) ↔ (i < l.length → OkAt W H l i) ∧ (∀ m, i + 1 ≤ m → m < l.length → OkAt W H l m) :=
  ⟨fun h => ⟨fun hi => h i (Nat.le_refl _) hi, fun m h1 h2 => h m (by omega) h2⟩, fun ⟨h1, h2⟩ m h3 h4 => by
    by_cases e : i = m
    · subst e; exact h1 h4
    · exact h2 m (by omega) h4⟩

theorem impl_loop {W H : Int} {l : List Sq} (hW : 1 ≤ W ∧ W ≤ 500) (hH : 1 ≤ H ∧ H ≤ 500) (hl : l.length ≤ 30) : ∀ (d i : Nat), l.length - i = d → i ≤ l.length → (∀ m, m < i → OkAt W H l m) →
    ∀ r : Bool, (r = true ↔ (∀ m, i ≤ m → m < l.length → OkAt W H l m) ∧ areaTo l l.length = W * H) → Ev (fun k => impl_IsCut.l0 k (areaTo l i) l (l.length : Int) (i : Int) W H l) r := by
  intro d
  induction d with
  | zero =>
    intro i hd hi hok r hr
    obtain rfl : i = l.length := by omega
    have bd := areaTo_bd W H l hW.2 hH.2 l.length hl (fun m hm => (hok m hm).1)
    have w1 : W * H ≤ 500 * 500 := Int.mul_le_mul (by omega) (by omega) (by omega) (by omega)
    have w0 : 0 ≤ W * H := Int.mul_nonneg (by omega) (by omega)
    refine Ev.succ ?_
    simp only [impl_IsCut.l0]
    refine Ev.neg (by omega) ?_
    rw [wrap64_id (by omega) (by omega)]
    refine Ev.eqr (Ev.now _) ?_
    rw [Bool.eq_iff_iff, hr, beq_iff_eq]
    exact ⟨fun h => ⟨fun m h1 h2 => by omega, h⟩, fun h => h.2⟩
  | succ d ih =>
    intro i hd hi hok r hr
    have hlt : i < l.length := by omega
    rw [okFrom_step] at hr
    refine Ev.succ ?_
    simp only [impl_IsCut.l0, rd_sq]
    refine Ev.pos (by omega) (Ev.pos (by omega) (Ev.pos (by omega) ?_))
    have hmn : mn W H ≤ 500 := by unfold mn; split <;> omega
    have fall : ∀ r : Bool, r = false → Ev (fun k => impl_IsCut.j2 k (areaTo l i) (i : Int) l (l.length : Int) (i : Int) true W H l (sqAt l i).f0 (sqAt l i).f1 (sqAt l i).f2) r := by
      rintro _ rfl
      refine Ev.succ ?_
      simp only [impl_IsCut.j2]
      exact Ev.pos trivial (Ev.now _)
    have rf : ¬ OkAt W H l i → r = false := fun h => by
      cases hq : r with
      | false => rfl
      | true => exact absurd ((hr.1 hq).1.1 hlt) h
    have mnle : mn W H ≤ W ∧ mn W H ≤ H ∧ (mn W H = W ∨ mn W H = H) := by unfold mn; split <;> omega
    refine Ev.bindc (within_eq _ _ _) ?_
    by_cases c1 : 1 ≤ (sqAt l i).f2 ∧ (sqAt l i).f2 ≤ mn W H
    · rw [decide_eq_true c1]
      refine Ev.pos rfl (Ev.bindc (within_eq _ _ _) ?_)
      rw [wrap64_id (by omega) (by omega)]
      by_cases c2 : 0 ≤ (sqAt l i).f0 ∧ (sqAt l i).f0 ≤ W - (sqAt l i).f2
      · rw [decide_eq_true c2]
        refine Ev.pos rfl (Ev.bindc (within_eq _ _ _) ?_)
        rw [wrap64_id (by omega) (by omega)]
        by_cases c3 : 0 ≤ (sqAt l i).f1 ∧ (sqAt l i).f1 ≤ H - (sqAt l i).f2
        · rw [decide_eq_true c3]
          have hins : Ins W H (sqAt l i) := by unfold Ins; omega
          have hall : ∀ m, m ≤ i → Ins W H (sqAt l m) := fun m hm => by
            by_cases e : m = i
            · rw [e]; exact hins
            · exact (hok m (by omega)).1
          refine Ev.succ ?_
          simp only [impl_IsCut.j2, Bool.not_true]
          refine Ev.neg (by decide) ?_
          have bd := areaTo_bd W H l hW.2 hH.2 i (by omega) (fun m hm => hall m (by omega))
          have qb := sq_bd hW.2 hH.2 hins
          have tn : ((i : Int)).toNat = i := Int.toNat_natCast i
          have next : (∀ j, j < i → ¬ Ovl (sqAt l i) (sqAt l j)) → (0 < i → Less (sqAt l (i - 1)) (sqAt l i)) → Ev (fun k => impl_IsCut.l0 k (wrap64 (areaTo l i + wrap64 ((sqAt l i).f2 * (sqAt l i).f2))) l (l.length : Int) (wrap64 ((i : Int) + 1)) W H l) r := by
            intro ho hlss
            have hk : OkAt W H l i := ⟨hins, hlss, ho⟩
            rw [wrap64_id (n := (sqAt l i).f2 * (sqAt l i).f2) (by omega) (by omega), wrap64_id (n := areaTo l i + (sqAt l i).f2 * (sqAt l i).f2) (by omega) (by omega), wrap64_id (n := (i : Int) + 1) (by omega) (by omega)]
            have := ih (i + 1) (by omega) (by omega) (fun m hm => by
              by_cases e : m = i
              · rw [e]; exact hk
              · exact hok m (by omega)) r (by rw [hr]; exact ⟨fun h => ⟨h.1.2, h.2⟩, fun h => ⟨⟨fun _ => hk, h.1⟩, h.2⟩⟩)
            exact this
          have cont : (0 < i → Less (sqAt l (i - 1)) (sqAt l i)) → Ev (fun k => if 0 ≤ (i : Int) then if (i : Int) ≤ (l.length : Int) then (slices_ContainsFunc_impl_Square_impl_Square__impl_IsCut_1.f (l.take ((i : Int)).toNat) (sqAt l i).f0 (sqAt l i).f1 (sqAt l i).f2).bind fun t => if t = true then some false else impl_IsCut.l0 k (wrap64 (areaTo l i + wrap64 ((sqAt l i).f2 * (sqAt l i).f2))) l (l.length : Int) (wrap64 ((i : Int) + 1)) W H l else none else none) r := by
            intro hlss
            refine Ev.pos (by omega) (Ev.pos (by omega) ?_)
            rw [tn]
            refine Ev.bindc (contains_eq hW.2 hH.2 i hlt hall) ?_
            by_cases ho : ∃ j, j < i ∧ Ovl (sqAt l i) (sqAt l j)
            · rw [decide_eq_true ho]
              refine Ev.pos rfl (Ev.eqr (Ev.now _) (rf fun hk => ?_).symm)
              obtain ⟨j, hj, hq⟩ := ho
              exact hk.2.2 j hj hq
            · rw [decide_eq_false ho]
              exact Ev.neg (by decide) (next (fun j hj hq => ho ⟨j, hj, hq⟩) hlss)
          by_cases hi0 : (i : Int) > 0
          · refine Ev.pos hi0 ?_
            have e1 : wrap64 ((i : Int) - 1) = ((i - 1 : Nat) : Int) := by rw [wrap64_id (by omega) (by omega)]; omega
            simp only [e1, rd_sq]
            refine Ev.pos (by omega) (Ev.pos (by omega) ?_)
            obtain ⟨c, hc, hcl⟩ := compare_eq hW.2 hH.2 (hall (i - 1) (by omega)) hins
            refine Ev.bindc hc ?_
            by_cases c4 : c ≥ 0
            · refine Ev.pos c4 (Ev.eqr (Ev.now _) (rf fun hk => ?_).symm)
              have := hcl.2 (hk.2.1 (by omega))
              omega
            · exact Ev.neg c4 (cont fun _ => hcl.1 (by omega))
          · exact Ev.neg hi0 (cont fun h => by omega)
        · rw [decide_eq_false c3]
          exact fall _ (rf fun h => c3 (by have := h.1; unfold Ins at this; omega))
      · rw [decide_eq_false c2]
        exact Ev.neg (by decide) (fall _ (rf fun h => c2 (by have := h.1; unfold Ins at this; omega)))
    · rw [decide_eq_false c1]
      refine Ev.neg (by decide) (fall _ (rf fun h => c1 ?_))
      have := h.1
      unfold Ins at this
      rcases mnle.2.2 with e | e <;> omega

theorem impl_IsCut_ev (W H : Int) (l : List Sq) : Ev (fun k => impl_IsCut.f k W H l) (decide (Good W H l)) := by
  unfold impl_IsCut.f
  have fall : ∀ r : Bool, r = false → Ev (fun k => impl_IsCut.j0 k true W H l) r := by
    rintro _ rfl
    refine Ev.succ ?_
    simp only [impl_IsCut.j0]
    exact Ev.pos trivial (Ev.now _)
  refine Ev.bindc (isWide_eq _) ?_
  by_cases c1 : 1 ≤ W ∧ W ≤ 500
  · rw [decide_eq_true c1]
    refine Ev.pos rfl (Ev.bindc (isWide_eq _) ?_)
    by_cases c2 : 1 ≤ H ∧ H ≤ 500
    · rw [decide_eq_true c2]
      refine Ev.pos rfl ?_
      by_cases c3 : (l.length : Int) > 30
      · rw [decide_eq_true c3]
        exact fall _ (decide_eq_false fun h => by have := h.2.2.1; omega)
      · rw [decide_eq_false c3]
        refine Ev.succ ?_
        simp only [impl_IsCut.j0]
        refine Ev.neg (by decide) ?_
        have := impl_loop (l := l) c1 c2 (by omega) l.length 0 (by omega) (Nat.zero_le _) (fun m hm => by omega) (decide (Good W H l)) ?_
        · exact this
        · rw [decide_eq_true_eq]
          constructor
          · intro h; exact ⟨fun m _ h2 => h.2.2.2.1 m h2, h.2.2.2.2⟩
          · intro h
            refine ⟨c1, c2, ⟨?_, (by omega : l.length ≤ 30)⟩, fun m hm => h.1 m (Nat.zero_le _) hm, h.2⟩
            cases hl : l with
            | nil =>
              subst hl
              have e : (0 : Int) = W * H := h.2
              have : 0 < W * H := Int.mul_pos (by omega) (by omega)
              omega
            | cons a t => simp
    · rw [decide_eq_false c2]
      exact Ev.neg (by decide) (fall _ (decide_eq_false fun h => c2 h.2.1))
  · rw [decide_eq_false c1]
    exact Ev.neg (by decide) (fall _ (decide_eq_false fun h => c1 h.1))

/-! the reference's own -/
/-- what the inner loop of the reference asks of the squares from place j on -/
def InnerOk (l : List Sq) (i j : Nat) : Prop := ∀ m, j ≤ m → m < i → ¬ Ovl (sqAt l i) (sqAt l m) ∧ (m + 1 = i → Less (sqAt l m) (sqAt l i))
theorem inner_step (l : List Sq) (i j : Nat) (h : j < i) : InnerOk l i j ↔ (¬ Ovl (sqAt l i) (sqAt l j) ∧ (j + 1 = i → Less (sqAt l j) (sqAt l i))) ∧ InnerOk l i (j + 1) :=
  ⟨fun h1 => ⟨h1 j (Nat.le_refl _) h, fun m h2 h3 => h1 m (by omega) h3⟩, fun ⟨h1, h2⟩ m h3 h4 => by
    by_cases e : j = m
    · subst e; exact h1
    · exact h2 m (by omega) h4⟩
theorem inner_ok (W H : Int) (l : List Sq) (i : Nat) : OkAt W H l i ↔ Ins W H (sqAt l i) ∧ InnerOk l i 0 := by
  unfold OkAt InnerOk
  constructor
  · rintro ⟨h1, h2, h3⟩
    refine ⟨h1, fun m _ hm => ⟨h3 m hm, fun e => ?_⟩⟩
    have := h2 (by omega)
    rw [show i - 1 = m by omega] at this
    exact this
  · rintro ⟨h1, h2⟩
    exact ⟨h1, fun hi => (h2 (i - 1) (Nat.zero_le _) (by omega)).2 (by omega), fun j hj => (h2 j (Nat.zero_le _) hj).1⟩

theorem spec_inner {W H : Int} {l : List Sq} (hW : 1 ≤ W ∧ W ≤ 500) (hH : 1 ≤ H ∧ H ≤ 500) (hl : l.length ≤ 30) (i : Nat) (hi : i < l.length) (hall : ∀ m, m ≤ i → Ins W H (sqAt l m)) (A : Int) (r : Bool)
    (hgood : InnerOk l i 0 → Ev (fun k => spec_cuGood.l0 k A l (l.length : Int) ((i : Int) + 1) W H l) r) (hbad : ¬ InnerOk l i 0 → r = false) :
    ∀ (d j : Nat), i - j = d → j ≤ i → (InnerOk l i j ↔ InnerOk l i 0) →
      Ev (fun k => spec_cuGood.l1 k A (i : Int) l (l.length : Int) (i : Int) (l.take i) (i : Int) (j : Int) W H l (sqAt l i).f0 (sqAt l i).f1 (sqAt l i).f2) r := by
  intro d
  induction d with
  | zero =>
    intro j hd hj hiff
    obtain rfl : j = i := by omega
    refine Ev.succ ?_
    simp only [spec_cuGood.l1]
    refine Ev.neg (by omega) ?_
    rw [wrap64_id (by omega) (by omega)]
    exact hgood (hiff.1 fun m h1 h2 => by omega)
  | succ d ih =>
    intro j hd hj hiff
    have hlt : j < i := by omega
    have tk : (l.take i).length = i := by rw [List.length_take]; omega
    have et : sqAt (l.take i) j = sqAt l j := by
      rw [sqAt_get _ _ (by omega), sqAt_get _ _ (by omega), List.getElem_take]
    rw [inner_step l i j hlt] at hiff
    refine Ev.succ ?_
    simp only [spec_cuGood.l1, rd_sq, et, tk]
    refine Ev.pos (by omega) (Ev.pos (by omega) (Ev.pos (by omega) ?_))
    have a := hall i (Nat.le_refl _)
    have b := hall j (by omega)
    have j4 : ∀ b : Bool, b = decide (Ovl (sqAt l i) (sqAt l j)) → Ev (fun k => spec_cuGood.j4 k A (i : Int) (j : Int) l (l.length : Int) (i : Int) (l.take i) (i : Int) (j : Int) b W H l (sqAt l i).f0 (sqAt l i).f1 (sqAt l i).f2 (sqAt l j).f0 (sqAt l j).f1 (sqAt l j).f2) r := by
      rintro b rfl
      refine Ev.succ ?_
      simp only [spec_cuGood.j4]
      by_cases ho : Ovl (sqAt l i) (sqAt l j)
      · exact Ev.pos (decide_eq_true ho) (Ev.eqr (Ev.now _) (hbad fun h => (hiff.2 h).1.1 ho).symm)
      · refine Ev.neg (by simpa using ho) ?_
        have e1 : wrap64 ((i : Int) - 1) = (i : Int) - 1 := wrap64_id (by omega) (by omega)
        have e2 : wrap64 ((j : Int) + 1) = ((j + 1 : Nat) : Int) := by rw [wrap64_id (by omega) (by omega)]; omega
        rw [e1, e2]
        by_cases hj1 : j + 1 = i
        · refine Ev.pos (by omega) (Ev.bindc (less_eq _ _) ?_)
          by_cases hls : Less (sqAt l j) (sqAt l i)
          · exact Ev.pos (decide_eq_true hls) (ih (j + 1) (by omega) (by omega) ⟨fun h => hiff.1 ⟨⟨ho, fun _ => hls⟩, h⟩, fun h => (hiff.2 h).2⟩)
          · exact Ev.neg (by simpa using hls) (Ev.eqr (Ev.now _) (hbad fun h => hls ((hiff.2 h).1.2 hj1)).symm)
        · exact Ev.neg (by omega) (ih (j + 1) (by omega) (by omega) ⟨fun h => hiff.1 ⟨⟨ho, fun e => absurd e hj1⟩, h⟩, fun h => (hiff.2 h).2⟩)
    unfold Ins at a b
    rw [wrap64_id (n := (sqAt l j).f0 + (sqAt l j).f2) (by omega) (by omega), wrap64_id (n := (sqAt l i).f0 + (sqAt l i).f2) (by omega) (by omega), wrap64_id (n := (sqAt l j).f1 + (sqAt l j).f2) (by omega) (by omega), wrap64_id (n := (sqAt l i).f1 + (sqAt l i).f2) (by omega) (by omega)]
    by_cases c1 : (sqAt l i).f0 < (sqAt l j).f0 + (sqAt l j).f2
    · refine Ev.pos c1 ?_
      by_cases c2 : (sqAt l j).f0 < (sqAt l i).f0 + (sqAt l i).f2
      · refine Ev.pos c2 ?_
        by_cases c3 : (sqAt l i).f1 < (sqAt l j).f1 + (sqAt l j).f2
        · refine Ev.pos c3 (j4 _ ?_)
          unfold Ovl
          simp [c1, c2, c3]
        · exact Ev.neg c3 (j4 _ (decide_eq_false fun h => c3 h.2.2.1).symm)
      · exact Ev.neg c2 (j4 _ (decide_eq_false fun h => c2 h.2.1).symm)
    · exact Ev.neg c1 (j4 _ (decide_eq_false fun h => c1 h.1).symm)

theorem spec_loop {W H : Int} {l : List Sq} (hW : 1 ≤ W ∧ W ≤ 500) (hH : 1 ≤ H ∧ H ≤ 500) (hl : l.length ≤ 30) : ∀ (d i : Nat), l.length - i = d → i ≤ l.length → (∀ m, m < i → OkAt W H l m) →
    ∀ r : Bool, (r = true ↔ (∀ m, i ≤ m → m < l.length → OkAt W H l m) ∧ areaTo l l.length = W * H) → Ev (fun k => spec_cuGood.l0 k (areaTo l i) l (l.length : Int) (i : Int) W H l) r := by
  intro d
  induction d with
  | zero =>
    intro i hd hi hok r hr
    obtain rfl : i = l.length := by omega
    have bd := areaTo_bd W H l hW.2 hH.2 l.length hl (fun m hm => (hok m hm).1)
    have w1 : W * H ≤ 500 * 500 := Int.mul_le_mul (by omega) (by omega) (by omega) (by omega)
    have w0 : 0 ≤ W * H := Int.mul_nonneg (by omega) (by omega)
    refine Ev.succ ?_
    simp only [spec_cuGood.l0]
    refine Ev.neg (by omega) ?_
    rw [wrap64_id (by omega) (by omega)]
    refine Ev.eqr (Ev.now _) ?_
    rw [Bool.eq_iff_iff, hr, beq_iff_eq]
    exact ⟨fun h => ⟨fun m h1 h2 => by omega, h⟩, fun h => h.2⟩
  | succ d ih =>
    intro i hd hi hok r hr
    have hlt : i < l.length := by omega
    rw [okFrom_step] at hr
    refine Ev.succ ?_
    simp only [spec_cuGood.l0, rd_sq]
    refine Ev.pos (by omega) (Ev.pos (by omega) (Ev.pos (by omega) ?_))
    have fall : ∀ r : Bool, r = false → Ev (fun k => spec_cuGood.j2 k (areaTo l i) (i : Int) l (l.length : Int) (i : Int) true W H l (sqAt l i).f0 (sqAt l i).f1 (sqAt l i).f2) r := by
      rintro _ rfl
      refine Ev.succ ?_
      simp only [spec_cuGood.j2]
      exact Ev.pos trivial (Ev.now _)
    have rf : ¬ OkAt W H l i → r = false := fun h => by
      cases hq : r with
      | false => rfl
      | true => exact absurd ((hr.1 hq).1.1 hlt) h
    refine Ev.bindc (l1In_eq _ _ _) ?_
    by_cases c1 : 1 ≤ (sqAt l i).f2 ∧ (sqAt l i).f2 ≤ 500
    · rw [decide_eq_true c1]
      refine Ev.pos rfl (Ev.bindc (l1In_eq _ _ _) ?_)
      rw [wrap64_id (by omega) (by omega)]
      by_cases c2 : 0 ≤ (sqAt l i).f0 ∧ (sqAt l i).f0 ≤ W - (sqAt l i).f2
      · rw [decide_eq_true c2]
        refine Ev.pos rfl (Ev.bindc (l1In_eq _ _ _) ?_)
        rw [wrap64_id (by omega) (by omega)]
        by_cases c3 : 0 ≤ (sqAt l i).f1 ∧ (sqAt l i).f1 ≤ H - (sqAt l i).f2
        · rw [decide_eq_true c3]
          have hins : Ins W H (sqAt l i) := by unfold Ins; omega
          have hall : ∀ m, m ≤ i → Ins W H (sqAt l m) := fun m hm => by
            by_cases e : m = i
            · rw [e]; exact hins
            · exact (hok m (by omega)).1
          have bd := areaTo_bd W H l hW.2 hH.2 i (by omega) (fun m hm => hall m (by omega))
          have qb := sq_bd hW.2 hH.2 hins
          refine Ev.succ ?_
          simp only [spec_cuGood.j2, Bool.not_true]
          refine Ev.neg (by decide) (Ev.pos (by omega) (Ev.pos (by omega) (Ev.bindc rfl ?_)))
          have tk : (l.take ((i : Int)).toNat).length = i := by rw [List.length_take]; omega
          have tn : ((i : Int)).toNat = i := Int.toNat_natCast i
          rw [tk, tn, wrap64_id (n := (sqAt l i).f2 * (sqAt l i).f2) (by omega) (by omega), wrap64_id (n := areaTo l i + (sqAt l i).f2 * (sqAt l i).f2) (by omega) (by omega)]
          have iok := inner_ok W H l i
          refine spec_inner hW hH hl i hlt hall _ r (fun hin => ?_) (fun hin => rf fun h => hin (iok.1 h).2) i 0 (by omega) (Nat.zero_le _) Iff.rfl
          have hk : OkAt W H l i := iok.2 ⟨hins, hin⟩
          have := ih (i + 1) (by omega) (by omega) (fun m hm => by
              by_cases e : m = i
              · rw [e]; exact hk
              · exact hok m (by omega)) r (by rw [hr]; exact ⟨fun h => ⟨h.1.2, h.2⟩, fun h => ⟨⟨fun _ => hk, h.1⟩, h.2⟩⟩)
          exact this
        · rw [decide_eq_false c3]
          exact fall _ (rf fun h => c3 (by have := h.1; unfold Ins at this; omega))
      · rw [decide_eq_false c2]
        exact Ev.neg (by decide) (fall _ (rf fun h => c2 (by have := h.1; unfold Ins at this; omega)))
    · rw [decide_eq_false c1]
      refine Ev.neg (by decide) (fall _ (rf fun h => c1 ?_))
      have := h.1
      unfold Ins at this
      omega

theorem spec_cuGood_ev (W H : Int) (l : List Sq) : Ev (fun k => spec_cuGood.f k W H l) (decide (Good W H l)) := by
  unfold spec_cuGood.f
  have fall : ∀ r : Bool, r = false → Ev (fun k => spec_cuGood.j0 k true W H l) r := by
    rintro _ rfl
    refine Ev.succ ?_
    simp only [spec_cuGood.j0]
    exact Ev.pos trivial (Ev.now _)
  refine Ev.bindc (l1In_eq _ _ _) ?_
  by_cases c1 : 1 ≤ W ∧ W ≤ 500
  · rw [decide_eq_true c1]
    refine Ev.pos rfl (Ev.bindc (l1In_eq _ _ _) ?_)
    by_cases c2 : 1 ≤ H ∧ H ≤ 500
    · rw [decide_eq_true c2]
      refine Ev.pos rfl (Ev.bindc (l1In_eq _ _ _) ?_)
      by_cases c3 : 1 ≤ (l.length : Int) ∧ (l.length : Int) ≤ 30
      · rw [decide_eq_true c3]
        refine Ev.succ ?_
        simp only [spec_cuGood.j0, Bool.not_true]
        refine Ev.neg (by decide) ?_
        refine spec_loop (l := l) c1 c2 (by omega) l.length 0 (by omega) (Nat.zero_le _) (fun m hm => by omega) (decide (Good W H l)) ?_
        rw [decide_eq_true_eq]
        exact ⟨fun h => ⟨fun m _ h2 => h.2.2.2.1 m h2, h.2.2.2.2⟩, fun h => ⟨c1, c2, by omega, fun m hm => h.1 m (Nat.zero_le _) hm, h.2⟩⟩
      · rw [decide_eq_false c3]
        exact fall _ (decide_eq_false fun h => c3 (by have := h.2.2.1; omega))
    · rw [decide_eq_false c2]
      exact Ev.neg (by decide) (fall _ (decide_eq_false fun h => c2 h.2.1))
  · rw [decide_eq_false c1]
    exact Ev.neg (by decide) (fall _ (decide_eq_false fun h => c1 h.1))

/-! ### squares from one package's type to the other's; lists that are the same -/
abbrev MSq := S110
def conv (q : MSq) : Sq := ⟨q.f0, q.f1, q.f2⟩
theorem rd_msq (l : List MSq) (j : Nat) (h : j < l.length) : rd_T110 l (j : Int) = l[j] := by unfold rd_T110; rw [Int.toNat_natCast]; simp [List.getD, h]
theorem toSq_loop (l : List MSq) (hl : l.length ≤ 1048576) : ∀ (d i : Nat) (x : List Sq), l.length - i = d → i ≤ l.length → x.length = l.length → (∀ m, m < i → x[m]? = (l.map conv)[m]?) →
    Ev (fun k => laws_toSquareS.l0 k l x (i : Int)) (l.map conv) := by
  intro d
  induction d with
  | zero =>
    intro i x hd hi hx h
    refine Ev.succ ?_
    simp only [laws_toSquareS.l0]
    refine Ev.neg (by omega) (Ev.eqr (Ev.now _) ?_)
    apply List.ext_getElem?
    intro m
    by_cases hm : m < i
    · exact h m hm
    · rw [List.getElem?_eq_none (by omega), List.getElem?_eq_none (by simp; omega)]
  | succ d ih =>
    intro i x hd hi hx h
    refine Ev.succ ?_
    simp only [laws_toSquareS.l0]
    refine Ev.pos (by omega) (Ev.pos (by omega) (Ev.bindc rfl (Ev.pos (by omega) ?_)))
    rw [Int.toNat_natCast, wrap64_id (by omega) (by omega)]
    refine ih (i + 1) _ (by omega) (by omega) (by simp; omega) (fun m hm => ?_)
    rw [rd_msq l i (by omega)]
    by_cases e : m = i
    · subst e
      rw [List.getElem?_set_self (by omega), List.getElem?_map, List.getElem?_eq_getElem (by omega)]; rfl
    · rw [List.getElem?_set_ne (by omega)]; exact h m (by omega)
theorem toSquareS_ev (l : List MSq) (hl : l.length ≤ 1048576) : Ev (fun k => laws_toSquareS.f k l) (l.map conv) := by
  unfold laws_toSquareS.f
  refine Ev.pos (by omega) (Ev.pos (by omega) ?_)
  exact toSq_loop l hl l.length 0 _ (by omega) (Nat.zero_le _) (by simp) (fun m hm => by omega)
theorem toCut_ev (W H : Int) (l : List MSq) (hl : l.length ≤ 1048576) : Ev (fun k => laws_toCut.f k W H l) (W, H, l.map conv) := by
  unfold laws_toCut.f
  exact Ev.bind (toSquareS_ev l hl) (Ev.now _)
theorem eqSquareS_loop (l : List Sq) (hl : l.length ≤ 1099511627776) : ∀ (d i : Nat), l.length - i = d → i ≤ l.length → Ev (fun k => laws_eqSquareS.l0 k l l (i : Int)) true := by
  intro d
  induction d with
  | zero =>
    intro i hd hi
    refine Ev.succ ?_
    simp only [laws_eqSquareS.l0]
    exact Ev.neg (by omega) (Ev.now _)
  | succ d ih =>
    intro i hd hi
    refine Ev.succ ?_
    simp only [laws_eqSquareS.l0]
    refine Ev.pos (by omega) (Ev.pos (by omega) (Ev.pos (by omega) (Ev.bindc (a := true) (by unfold laws_eqSquare.f; simp) (Ev.pos rfl ?_))))
    rw [wrap64_id (by omega) (by omega)]
    exact ih (i + 1) (by omega) (by omega)
theorem eqSquareS_ev (l : List Sq) (hl : l.length ≤ 1099511627776) : Ev (fun k => laws_eqSquareS.f k l l) true := by
  unfold laws_eqSquareS.f
  exact Ev.pos rfl (eqSquareS_loop l hl l.length 0 (by omega) (Nat.zero_le _))
theorem eqCut_ev (W H : Int) (l : List Sq) (hl : l.length ≤ 1099511627776) : Ev (fun k => laws_eqCut.f k W H l W H l) true := by
  unfold laws_eqCut.f
  exact Ev.pos rfl (Ev.pos rfl (Ev.bind (eqSquareS_ev l hl) (Ev.pos rfl (Ev.now _))))
theorem szCut_eq (W H : Int) (l : List MSq) (hl : l.length ≤ maxLen) : laws_szCut.f W H l 1048576 = some (if l.length ≤ 1048576 then 1048576 - (l.length : Int) else -1) := by
  have h0 : maxLen ≤ 9223372036854775807 := by decide
  unfold laws_szCut.f laws_szSquareS.f
  rw [wrap64_id (by omega) (by omega)]
  by_cases h : l.length ≤ 1048576
  · rw [if_neg (by omega), Option.bind_some, if_neg (by omega), if_pos h]
  · rw [if_pos (by omega), Option.bind_some, if_pos (by omega), if_neg h]

/-! ### the squares of a cut cover its rectangle: by counting cells -/
def sumTo : Nat → (Nat → Int) → Int
  | 0, _ => 0
  | n + 1, f => sumTo n f + f n
theorem sumTo_add (n : Nat) (f g : Nat → Int) : sumTo n (fun i => f i + g i) = sumTo n f + sumTo n g := by
  induction n with
  | zero => rfl
  | succ n ih => simp only [sumTo, ih]; omega
theorem sumTo_zero (n : Nat) : sumTo n (fun _ => 0) = 0 := by
  induction n with
  | zero => rfl
  | succ n ih => simp only [sumTo, ih]; rfl
theorem sumTo_congr (n : Nat) (f g : Nat → Int) (h : ∀ i, i < n → f i = g i) : sumTo n f = sumTo n g := by
  induction n with
  | zero => rfl
  | succ n ih => simp only [sumTo]; rw [ih (fun i hi => h i (by omega)), h n (by omega)]
theorem sumTo_mul (n : Nat) (f : Nat → Int) (c : Int) : sumTo n (fun i => f i * c) = sumTo n f * c := by
  induction n with
  | zero => simp [sumTo]
  | succ n ih => simp only [sumTo, ih, Int.add_mul]
theorem sumTo_le (n : Nat) (f g : Nat → Int) (h : ∀ i, i < n → f i ≤ g i) : sumTo n f ≤ sumTo n g := by
  induction n with
  | zero => exact Int.le_refl _
  | succ n ih => simp only [sumTo]; have := ih (fun i hi => h i (by omega)); have := h n (by omega); omega
theorem sumTo_lt (n : Nat) (f g : Nat → Int) (h : ∀ i, i < n → f i ≤ g i) (j : Nat) (hj : j < n) (hlt : f j < g j) : sumTo n f < sumTo n g := by
  induction n with
  | zero => omega
  | succ n ih =>
    simp only [sumTo]
    by_cases e : j = n
    · subst e
      have := sumTo_le j f g (fun i hi => h i (by omega)); omega
    · have := ih (fun i hi => h i (by omega)) (by omega); have := h n (by omega); omega
theorem sumTo_const (n : Nat) (c : Int) : sumTo n (fun _ => c) = n * c := by
  induction n with
  | zero => simp [sumTo]
  | succ n ih =>
    simp only [sumTo, ih]
    rw [show ((n + 1 : Nat) : Int) = (n : Int) + 1 by omega, Int.add_mul]; omega
/-- 1 in a .. a+s-1, else 0 -/
def ind (a s : Int) (i : Nat) : Int := if a ≤ (i : Int) ∧ (i : Int) < a + s then 1 else 0
theorem sum_ind (a s : Int) (ha : 0 ≤ a) (hs : 0 ≤ s) : ∀ n : Nat, sumTo n (ind a s) = if (n : Int) ≤ a then 0 else if (n : Int) ≤ a + s then n - a else s
  | 0 => by simp [sumTo]; intro h; omega
  | n + 1 => by
    simp only [sumTo, sum_ind a s ha hs n]
    unfold ind
    split <;> split <;> split <;> (try split) <;> omega
theorem sum_ind_all (a s : Int) (n : Nat) (ha : 0 ≤ a) (hs : 0 ≤ s) (h : a + s ≤ n) : sumTo n (ind a s) = s := by
  rw [sum_ind a s ha hs n]
  split
  · omega
  · split <;> omega
/-- does cell x, y lie in the square -/
def InSq (s : Sq) (x y : Int) : Prop := s.f0 ≤ x ∧ x < s.f0 + s.f2 ∧ s.f1 ≤ y ∧ y < s.f1 + s.f2
instance (s : Sq) (x y : Int) : Decidable (InSq s x y) := by unfold InSq; infer_instance
def cell (s : Sq) (x y : Nat) : Int := if InSq s x y then 1 else 0
theorem cell_eq (s : Sq) (x y : Nat) : cell s x y = ind s.f0 s.f2 x * ind s.f1 s.f2 y := by
  unfold cell ind
  by_cases h1 : s.f0 ≤ (x : Int) ∧ (x : Int) < s.f0 + s.f2
  · by_cases h2 : s.f1 ≤ (y : Int) ∧ (y : Int) < s.f1 + s.f2
    · have h : InSq s x y := ⟨h1.1, h1.2, h2.1, h2.2⟩
      rw [if_pos h1, if_pos h2, if_pos h]; rfl
    · have h : ¬ InSq s x y := fun h => h2 ⟨h.2.2.1, h.2.2.2⟩
      rw [if_pos h1, if_neg h2, if_neg h]; rfl
  · have h : ¬ InSq s x y := fun h => h1 ⟨h.1, h.2.1⟩
    rw [if_neg h1, if_neg h]; simp
theorem sum_cell {W H : Int} {s : Sq} (h : Ins W H s) (w h' : Nat) (hw : (w : Int) = W) (hh : (h' : Int) = H) : sumTo w (fun x => sumTo h' (fun y => cell s x y)) = s.f2 * s.f2 := by
  unfold Ins at h
  have e : ∀ x, sumTo h' (fun y => cell s x y) = s.f2 * ind s.f0 s.f2 x := by
    intro x
    rw [sumTo_congr h' _ (fun y => ind s.f1 s.f2 y * ind s.f0 s.f2 x) (fun y _ => by rw [cell_eq, Int.mul_comm]), sumTo_mul, sum_ind_all _ _ _ (by omega) (by omega) (by omega)]
  rw [sumTo_congr w _ (fun x => ind s.f0 s.f2 x * s.f2) (fun x _ => by rw [e, Int.mul_comm]), sumTo_mul, sum_ind_all _ _ _ (by omega) (by omega) (by omega)]
/-- how many of the first n squares a cell lies in -/
def many (l : List Sq) : Nat → Nat → Nat → Int
  | 0, _, _ => 0
  | n + 1, x, y => many l n x y + cell (sqAt l n) x y
theorem sum_many {W H : Int} (l : List Sq) (w h : Nat) (hw : (w : Int) = W) (hh : (h : Int) = H) : ∀ n, (∀ m, m < n → Ins W H (sqAt l m)) → sumTo w (fun x => sumTo h (fun y => many l n x y)) = areaTo l n
  | 0, _ => by
    simp only [many, areaTo]
    rw [sumTo_congr w _ (fun _ => 0) (fun x _ => sumTo_zero h), sumTo_zero]
  | n + 1, hi => by
    simp only [many, areaTo]
    rw [sumTo_congr w _ (fun x => sumTo h (fun y => many l n x y) + sumTo h (fun y => cell (sqAt l n) x y)) (fun x _ => sumTo_add h _ _), sumTo_add, sum_many l w h hw hh n (fun m hm => hi m (by omega)), sum_cell (hi n (by omega)) w h hw hh]
theorem many_zero (l : List Sq) (x y : Nat) : ∀ n, (∀ m, m < n → ¬ InSq (sqAt l m) x y) → many l n x y = 0
  | 0, _ => rfl
  | n + 1, h => by
    simp only [many, many_zero l x y n (fun m hm => h m (by omega))]
    unfold cell
    rw [if_neg (h n (by omega))]; rfl
theorem in_ovl {a b : Sq} {x y : Int} (ha : InSq a x y) (hb : InSq b x y) : Ovl a b := by
  unfold InSq at ha hb
  unfold Ovl
  omega
theorem many_one {W H : Int} (l : List Sq) (x y : Nat) : ∀ n, (∀ m, m < n → OkAt W H l m) → many l n x y ≤ 1
  | 0, _ => by simp [many]
  | n + 1, h => by
    simp only [many]
    unfold cell
    by_cases hn : InSq (sqAt l n) x y
    · rw [if_pos hn, many_zero l x y n (fun m hm hc => (h n (by omega)).2.2 m hm (in_ovl hn hc))]; omega
    · rw [if_neg hn]; have := many_one l x y n (fun m hm => h m (by omega)); omega
theorem covered {W H : Int} {l : List Sq} (hg : Good W H l) (x y : Int) (hx : 0 ≤ x ∧ x < W) (hy : 0 ≤ y ∧ y < H) : ∃ j, j < l.length ∧ InSq (sqAt l j) x y := by
  apply Decidable.byContradiction
  intro hno
  obtain ⟨w, rfl⟩ : ∃ w : Nat, (w : Int) = W := ⟨W.toNat, by have := hg.1; omega⟩
  obtain ⟨h, rfl⟩ : ∃ h : Nat, (h : Int) = H := ⟨H.toNat, by have := hg.2.1; omega⟩
  obtain ⟨a, rfl⟩ : ∃ a : Nat, (a : Int) = x := ⟨x.toNat, by omega⟩
  obtain ⟨b, rfl⟩ : ∃ b : Nat, (b : Int) = y := ⟨y.toNat, by omega⟩
  have ok := hg.2.2.2.1
  have s1 := sum_many l w h rfl rfl l.length (fun m hm => (ok m hm).1)
  have z := many_zero l a b l.length (fun m hm hc => hno ⟨m, hm, hc⟩)
  have row : ∀ x : Nat, sumTo h (fun y => many l l.length x y) ≤ h := fun x => by
    have := sumTo_le h (fun y => many l l.length x y) (fun _ => 1) (fun y _ => many_one l x y l.length ok)
    rw [sumTo_const] at this; omega
  have rowa : sumTo h (fun y => many l l.length a y) < h := by
    have := sumTo_lt h (fun y => many l l.length a y) (fun _ => 1) (fun y _ => many_one l a y l.length ok) b (by omega) (by show many l l.length a b < 1; omega)
    rw [sumTo_const] at this; omega
  have := sumTo_lt w (fun x => sumTo h (fun y => many l l.length x y)) (fun _ => (h : Int)) (fun x _ => row x) a (by omega) rowa
  rw [s1, sumTo_const, hg.2.2.2.2] at this
  omega

/-! ### lists of numbers: the same, marked, held -/
theorem rd_int (l : List Int) (j : Nat) (h : j < l.length) : rd l (j : Int) = l[j] := by unfold rd; rw [Int.toNat_natCast]; simp [List.getD, h]
theorem eqIntS_loop (l : List Int) (hl : l.length ≤ 1099511627776) : ∀ (d i : Nat), l.length - i = d → i ≤ l.length → Ev (fun k => laws_eqIntS.l0 k l l (i : Int)) true := by
  intro d
  induction d with
  | zero =>
    intro i hd hi
    refine Ev.succ ?_
    simp only [laws_eqIntS.l0]
    exact Ev.neg (by omega) (Ev.now _)
  | succ d ih =>
    intro i hd hi
    refine Ev.succ ?_
    simp only [laws_eqIntS.l0]
    refine Ev.pos (by omega) (Ev.pos (by omega) (Ev.pos (by omega) (Ev.pos trivial ?_)))
    rw [wrap64_id (by omega) (by omega)]
    exact ih (i + 1) (by omega) (by omega)
theorem eqIntS_ev (l : List Int) (hl : l.length ≤ 1099511627776) : Ev (fun k => laws_eqIntS.f k l l) true := by
  unfold laws_eqIntS.f
  exact Ev.pos rfl (eqIntS_loop l hl l.length 0 (by omega) (Nat.zero_le _))
/-- the numbers from s on -/
def upFrom (s : Int) : Nat → List Int
  | 0 => []
  | n + 1 => s :: upFrom (s + 1) n
theorem upFrom_length (n : Nat) : ∀ s, (upFrom s n).length = n := by
  induction n with
  | zero => intro s; rfl
  | succ n ih => intro s; simp [upFrom, ih]
theorem upFrom_get (n : Nat) : ∀ (s : Int) (i : Nat), i < n → (upFrom s n)[i]? = some (s + i) := by
  induction n with
  | zero => intro s i h; omega
  | succ n ih =>
    intro s i h
    cases i with
    | zero => simp [upFrom]
    | succ i => simp only [upFrom, List.getElem?_cons_succ]; rw [ih (s + 1) i (by omega)]; congr 1; omega
theorem markIntS_loop (N : Nat) (hN : N ≤ 1099511627776) (s : Int) (hs : 0 ≤ s) (hs2 : s ≤ 1099511627776) : ∀ (d i : Nat) (x : List Int), N - i = d → i ≤ N → x.length = N → (∀ m, m < i → x[m]? = (upFrom s N)[m]?) →
    Ev (fun k => laws_markIntS.l0 k x (s + i) (i : Int)) (s + N, upFrom s N) := by
  intro d
  induction d with
  | zero =>
    intro i x hd hi hx h
    obtain rfl : i = N := by omega
    refine Ev.succ ?_
    simp only [laws_markIntS.l0]
    refine Ev.neg (by omega) (Ev.eqr (Ev.now _) ?_)
    congr 1
    apply List.ext_getElem?
    intro m
    by_cases hm : m < i
    · exact h m hm
    · rw [List.getElem?_eq_none (by omega), List.getElem?_eq_none (by rw [upFrom_length]; omega)]
  | succ d ih =>
    intro i x hd hi hx h
    refine Ev.succ ?_
    simp only [laws_markIntS.l0]
    refine Ev.pos (by omega) (Ev.pos (by omega) ?_)
    rw [Int.toNat_natCast, wrap64_id (n := s + i + 1) (by omega) (by omega), wrap64_id (n := (i : Int) + 1) (by omega) (by omega)]
    have e : s + (i : Int) + 1 = s + ((i + 1 : Nat) : Int) := by omega
    rw [e]
    refine ih (i + 1) _ (by omega) (by omega) (by simp; omega) (fun m hm => ?_)
    by_cases e : m = i
    · subst e
      rw [List.getElem?_set_self (by omega), upFrom_get _ _ _ (by omega)]
    · rw [List.getElem?_set_ne (by omega)]; exact h m (by omega)
theorem heldIntS_loop (N : Nat) (hN : N ≤ 1099511627776) (s : Int) (hs : 0 ≤ s) (hs2 : s ≤ 1099511627776) : ∀ (d i : Nat), N - i = d → i ≤ N →
    Ev (fun k => laws_heldIntS.l0 k (upFrom s N) (s + i) (i : Int)) (s + N) := by
  intro d
  induction d with
  | zero =>
    intro i hd hi
    obtain rfl : i = N := by omega
    refine Ev.succ ?_
    simp only [laws_heldIntS.l0, upFrom_length]
    exact Ev.neg (by omega) (Ev.now _)
  | succ d ih =>
    intro i hd hi
    refine Ev.succ ?_
    simp only [laws_heldIntS.l0, upFrom_length]
    have hr : rd (upFrom s N) (i : Int) = s + i := by
      unfold rd; rw [Int.toNat_natCast, List.getD_eq_getElem?_getD, upFrom_get _ _ _ (by omega)]; rfl
    refine Ev.pos (by omega) (Ev.pos (by omega) (Ev.pos hr ?_))
    rw [wrap64_id (n := s + i + 1) (by omega) (by omega), wrap64_id (n := (i : Int) + 1) (by omega) (by omega)]
    have e : s + (i : Int) + 1 = s + ((i + 1 : Nat) : Int) := by omega
    rw [e]
    exact ih (i + 1) (by omega) (by omega)
theorem markIntS_ev (l : List Int) (hl : l.length ≤ 1099511627776) (s : Int) (hs : 0 ≤ s) (hs2 : s ≤ 1099511627776) : Ev (fun k => laws_markIntS.f k l s) (s + (l.length : Int), upFrom s l.length) := by
  unfold laws_markIntS.f
  have := markIntS_loop l.length hl s hs hs2 l.length 0 l (by omega) (Nat.zero_le _) rfl (fun m hm => by omega)
  simpa using this
theorem heldIntS_ev (n : Nat) (hl : n ≤ 1099511627776) (s : Int) (hs : 0 ≤ s) (hs2 : s ≤ 1099511627776) : Ev (fun k => laws_heldIntS.f k (upFrom s n) s) (s + (n : Int)) := by
  unfold laws_heldIntS.f
  have := heldIntS_loop n hl s hs hs2 n 0 (by omega) (Nat.zero_le _)
  simpa using this

/-! ### squares that are marked -/
theorem markSquareS_loop (N : Nat) (hN : N ≤ 1099511627776) (s : Int) (hs : 0 ≤ s) (hs2 : s ≤ 1099511627776) : ∀ (d i : Nat) (x : List Sq), N - i = d → i ≤ N → x.length = N →
    ∃ y, Ev (fun k => laws_markSquareS.l0 k x (s + 3 * i) (i : Int)) (s + 3 * N, y) := by
  intro d
  induction d with
  | zero =>
    intro i x hd hi hx
    obtain rfl : i = N := by omega
    refine ⟨x, Ev.succ ?_⟩
    simp only [laws_markSquareS.l0]
    exact Ev.neg (by omega) (Ev.now _)
  | succ d ih =>
    intro i x hd hi hx
    obtain ⟨y, hy⟩ := ih (i + 1) (((x.set i ⟨s + 3 * i, (sqAt x i).f1, (sqAt x i).f2⟩).set i ⟨s + 3 * i, s + 3 * i + 1, (sqAt x i).f2⟩).set i ⟨s + 3 * i, s + 3 * i + 1, s + 3 * i + 1 + 1⟩) (by omega) (by omega) (by simp; omega)
    refine ⟨y, Ev.succ ?_⟩
    simp only [laws_markSquareS.l0]
    refine Ev.pos (by omega) (Ev.pos (by omega) (Ev.bindc rfl (Ev.bindc rfl ?_)))
    rw [wrap64_id (n := s + 3 * i + 1) (by omega) (by omega), wrap64_id (n := s + 3 * i + 1 + 1) (by omega) (by omega), wrap64_id (n := s + 3 * i + 1 + 1 + 1) (by omega) (by omega), wrap64_id (n := (i : Int) + 1) (by omega) (by omega)]
    have e : s + 3 * (i : Int) + 1 + 1 + 1 = s + 3 * ((i + 1 : Nat) : Int) := by omega
    have hi' : i < x.length := by omega
    have g1 : ∀ q : Sq, sqAt (x.set i q) i = q := fun q => by unfold sqAt; simp [List.getD, hi']
    have g2 : ∀ q p : Sq, sqAt ((x.set i q).set i p) i = p := fun q p => by unfold sqAt; simp [List.getD, hi']
    simp only [Int.toNat_natCast, rd_sq, g1, g2]
    rw [e]
    exact hy
theorem markSquareS_ev (l : List Sq) (hl : l.length ≤ 1099511627776) (s : Int) (hs : 0 ≤ s) (hs2 : s ≤ 1099511627776) : ∃ y, Ev (fun k => laws_markSquareS.f k l s) (s + 3 * (l.length : Int), y) := by
  unfold laws_markSquareS.f
  obtain ⟨y, hy⟩ := markSquareS_loop l.length hl s hs hs2 l.length 0 l (by omega) (Nat.zero_le _) rfl
  exact ⟨y, by simpa using hy⟩
theorem markCut_ev (W H : Int) (l : List Sq) (hl : l.length ≤ 1099511627776) : ∃ y, Ev (fun k => laws_markCut.f k W H l 1) (1 + 3 * (l.length : Int), y) := by
  unfold laws_markCut.f
  obtain ⟨y, hy⟩ := markSquareS_ev l hl 1 (by omega) (by omega)
  exact ⟨y, Ev.bind hy (Ev.now _)⟩

/-! ### lists of lists of numbers: the same, marked, held -/
def totL : List (List Int) → Int
  | [] => 0
  | r :: t => (r.length : Int) + totL t
def upRows (s : Int) : List (List Int) → List (List Int)
  | [] => []
  | r :: t => upFrom s r.length :: upRows (s + (r.length : Int)) t
theorem totL_nonneg : ∀ t : List (List Int), 0 ≤ totL t
  | [] => by simp [totL]
  | r :: t => by have := totL_nonneg t; simp only [totL]; omega
theorem totL_le (b : Nat) : ∀ t : List (List Int), (∀ r ∈ t, r.length ≤ b) → totL t ≤ t.length * b
  | [], _ => by simp [totL]
  | r :: t, h => by
    have h1 := totL_le b t (fun r hr => h r (List.mem_cons_of_mem _ hr))
    have h2 := h r List.mem_cons_self
    simp only [totL, List.length_cons, Int.natCast_add, Int.add_mul]
    omega
theorem upRows_length : ∀ (t : List (List Int)) (s : Int), (upRows s t).length = t.length
  | [], _ => rfl
  | r :: t, s => by simp [upRows, upRows_length t]
theorem row_mid (d : List (List Int)) (r : List Int) (t : List (List Int)) : (d ++ r :: t).getD d.length [] = r := by simp [List.getD]
theorem set_mid (d : List (List Int)) (r b : List Int) (t : List (List Int)) : (d ++ r :: t).set d.length b = (d ++ [b]) ++ t := by simp
theorem eqIntSS_loop (l : List (List Int)) (hl : l.length ≤ 1000000) (hr : ∀ r ∈ l, r.length ≤ 1000000) : ∀ (t d : List (List Int)), l = d ++ t → Ev (fun k => laws_eqIntSS.l0 k l l (d.length : Int)) true
  | [], d, h => by
    refine Ev.succ ?_
    simp only [laws_eqIntSS.l0]
    refine Ev.neg (by rw [h]; simp) (Ev.now _)
  | r :: t, d, h => by
    have hlen : l.length = d.length + (t.length + 1) := by rw [h]; simp
    have hrd : rd_L3 l (d.length : Int) = r := by unfold rd_L3; rw [Int.toNat_natCast, h, row_mid]
    have hrl := hr r (by rw [h]; simp)
    refine Ev.succ ?_
    simp only [laws_eqIntSS.l0, hrd]
    refine Ev.pos (by omega) (Ev.pos (by omega) (Ev.pos (by omega) (Ev.bind (eqIntS_ev r (by omega)) (Ev.pos rfl ?_))))
    rw [wrap64_id (by omega) (by omega)]
    have := eqIntSS_loop l hl hr t (d ++ [r]) (by rw [h]; simp)
    simpa using this
theorem eqIntSS_ev (l : List (List Int)) (hl : l.length ≤ 1000000) (hr : ∀ r ∈ l, r.length ≤ 1000000) : Ev (fun k => laws_eqIntSS.f k l l) true := by
  unfold laws_eqIntSS.f
  exact Ev.pos rfl (eqIntSS_loop l hl hr l [] rfl)
theorem markIntSS_loop : ∀ (t d : List (List Int)) (s : Int), 0 ≤ s → s + totL t ≤ 1099511627776 → d.length + t.length ≤ 1000000 →
    Ev (fun k => laws_markIntSS.l0 k (d ++ t) s (d.length : Int)) (s + totL t, d ++ upRows s t)
  | [], d, s, hs, hb, hl => by
    refine Ev.succ ?_
    simp only [laws_markIntSS.l0]
    refine Ev.neg (by simp) (Ev.eqr (Ev.now _) (by simp [totL, upRows]))
  | r :: t, d, s, hs, hb, hl => by
    have h0 := totL_nonneg t
    simp only [totL, List.length_cons] at hb hl
    refine Ev.succ ?_
    simp only [laws_markIntSS.l0, Int.toNat_natCast, row_mid]
    refine Ev.pos (by simp; omega) (Ev.pos (by omega) (Ev.bind (markIntS_ev r (by omega) s hs (by omega)) ?_))
    rw [wrap64_id (by omega) (by omega), set_mid]
    have := markIntSS_loop t (d ++ [upFrom s r.length]) (s + (r.length : Int)) (by omega) (by omega) (by simp; omega)
    simp only [List.length_append, List.length_singleton, Int.natCast_add, Int.natCast_one] at this
    refine Ev.eqr this ?_
    simp only [totL, upRows, List.append_assoc, List.singleton_append, Prod.mk.injEq, and_true]
    omega
theorem markIntSS_ev (l : List (List Int)) (hl : l.length ≤ 1000000) (ht : totL l ≤ 1000000000000) : Ev (fun k => laws_markIntSS.f k l 1) (1 + totL l, upRows 1 l) := by
  unfold laws_markIntSS.f
  have := markIntSS_loop l [] 1 (by omega) (by omega) (by simpa using hl)
  simpa using this
theorem heldIntSS_loop : ∀ (t d : List (List Int)) (s : Int), 0 ≤ s → s + totL t ≤ 1099511627776 → d.length + t.length ≤ 1000000 →
    Ev (fun k => laws_heldIntSS.l0 k (d ++ upRows s t) s (d.length : Int)) (s + totL t)
  | [], d, s, hs, hb, hl => by
    refine Ev.succ ?_
    simp only [laws_heldIntSS.l0]
    refine Ev.neg (by simp [upRows]) (Ev.eqr (Ev.now _) (by simp [totL]))
  | r :: t, d, s, hs, hb, hl => by
    have h0 := totL_nonneg t
    simp only [totL, List.length_cons] at hb hl
    have hrd : rd_L3 (d ++ upRows s (r :: t)) (d.length : Int) = upFrom s r.length := by unfold rd_L3; rw [Int.toNat_natCast]; simp only [upRows, row_mid]
    refine Ev.succ ?_
    simp only [laws_heldIntSS.l0, hrd]
    refine Ev.pos (by simp [upRows]; omega) (Ev.pos (by omega) (Ev.bind (heldIntS_ev r.length (by omega) s hs (by omega)) (Ev.neg (by omega) ?_)))
    rw [wrap64_id (by omega) (by omega)]
    have := heldIntSS_loop t (d ++ [upFrom s r.length]) (s + (r.length : Int)) (by omega) (by omega) (by simp; omega)
    simp only [List.length_append, List.length_singleton, Int.natCast_add, Int.natCast_one, List.append_assoc, List.singleton_append] at this
    simp only [upRows]
    refine Ev.eqr this ?_
    simp only [totL]
    omega
theorem heldIntSS_ev (l : List (List Int)) (hl : l.length ≤ 1000000) (ht : totL l ≤ 1000000000000) : Ev (fun k => laws_heldIntSS.f k (upRows 1 l) 1) (1 + totL l) := by
  unfold laws_heldIntSS.f
  have := heldIntSS_loop l [] 1 (by omega) (by omega) (by simpa using hl)
  simpa using this

/-! ### the parts of a cut: rectangles that squares fill -/
structure Rc where
  x1 : Int
  y1 : Int
  x2 : Int
  y2 : Int
def inn (R : Rc) (s : Sq) : Prop := s.f0 ≥ R.x1 ∧ s.f1 ≥ R.y1 ∧ s.f0 + s.f2 ≤ R.x2 ∧ s.f1 + s.f2 ≤ R.y2
instance (R : Rc) (s : Sq) : Decidable (inn R s) := by unfold inn; infer_instance
def out (R : Rc) (s : Sq) : Prop := s.f0 ≥ R.x2 ∨ s.f1 ≥ R.y2 ∨ s.f0 + s.f2 ≤ R.x1 ∨ s.f1 + s.f2 ≤ R.y1
instance (R : Rc) (s : Sq) : Decidable (out R s) := by unfold out; infer_instance
def Filled (R : Rc) (l : List Sq) : Prop := ∀ m, m < l.length → out R (sqAt l m) ∨ inn R (sqAt l m)
instance (R : Rc) (l : List Sq) : Decidable (Filled R l) := by unfold Filled; infer_instance
def InR (W H : Int) (R : Rc) : Prop := 0 ≤ R.x1 ∧ R.x1 < R.x2 ∧ R.x2 ≤ W ∧ 0 ≤ R.y1 ∧ R.y1 < R.y2 ∧ R.y2 ≤ H
def partTo (R : Rc) (l : List Sq) : Nat → List Int
  | 0 => []
  | m + 1 => if inn R (sqAt l m) then partTo R l m ++ [(m : Int)] else partTo R l m
theorem partTo_len (R : Rc) (l : List Sq) : ∀ n, (partTo R l n).length ≤ n
  | 0 => by simp [partTo]
  | n + 1 => by
    have := partTo_len R l n
    simp only [partTo]
    split
    · rw [List.length_append]; simp; omega
    · omega
theorem partTo_all (R : Rc) (l : List Sq) : ∀ n, (partTo R l n).length = n → ∀ m, m < n → inn R (sqAt l m)
  | 0, _, m, hm => by omega
  | n + 1, h, m, hm => by
    have := partTo_len R l n
    simp only [partTo] at h
    split at h
    · rw [List.length_append] at h
      simp at h
      by_cases e : m = n
      · subst e; assumption
      · exact partTo_all R l n h m (by omega)
    · omega
theorem partTo_one (R : Rc) (l : List Sq) (i : Nat) : ∀ n, (∀ m, m < n → inn R (sqAt l m) → m = i) → (partTo R l n).length ≤ if i < n then 1 else 0
  | 0, _ => by simp [partTo]
  | n + 1, h => by
    have ih := partTo_one R l i n (fun m hm => h m (by omega))
    simp only [partTo]
    split
    · have e := h n (by omega) ‹_›
      subst e
      rw [List.length_append]
      rw [if_neg (Nat.lt_irrefl n)] at ih
      rw [if_pos (Nat.lt_succ_self n), List.length_singleton]
      omega
    · split at ih
      · rw [if_pos (by omega)]; omega
      · split <;> omega
def areaIn (R : Rc) (l : List Sq) : Nat → Int
  | 0 => 0
  | m + 1 => areaIn R l m + if inn R (sqAt l m) then (sqAt l m).f2 * (sqAt l m).f2 else 0
/-! cells of the rectangle -/
def cellR (R : Rc) (x y : Nat) : Int := ind R.x1 (R.x2 - R.x1) x * ind R.y1 (R.y2 - R.y1) y
theorem ind_01 (a s : Int) (i : Nat) : ind a s i = 0 ∨ ind a s i = 1 := by unfold ind; split; exact .inr rfl; exact .inl rfl
theorem cellR_01 (R : Rc) (x y : Nat) : cellR R x y = 0 ∨ cellR R x y = 1 := by
  unfold cellR
  rcases ind_01 R.x1 (R.x2 - R.x1) x with h | h <;> rcases ind_01 R.y1 (R.y2 - R.y1) y with k | k <;> rw [h, k] <;> simp
theorem cell_01 (s : Sq) (x y : Nat) : cell s x y = 0 ∨ cell s x y = 1 := by unfold cell; split; exact .inr rfl; exact .inl rfl
theorem cellR_pos {R : Rc} {x y : Nat} : cellR R x y = 1 ↔ (R.x1 ≤ x ∧ (x : Int) < R.x2 ∧ R.y1 ≤ y ∧ (y : Int) < R.y2) := by
  unfold cellR ind
  by_cases h1 : R.x1 ≤ (x : Int) ∧ (x : Int) < R.x1 + (R.x2 - R.x1)
  · by_cases h2 : R.y1 ≤ (y : Int) ∧ (y : Int) < R.y1 + (R.y2 - R.y1)
    · rw [if_pos h1, if_pos h2]; constructor
      · intro _; omega
      · intro _; rfl
    · rw [if_pos h1, if_neg h2]; constructor
      · intro h; simp at h
      · intro h; omega
  · rw [if_neg h1]; constructor
    · intro h; simp at h
    · intro h; omega
theorem sum_cellR {W H : Int} {R : Rc} (hR : InR W H R) (w h : Nat) (hw : (w : Int) = W) (hh : (h : Int) = H) : sumTo w (fun x => sumTo h (fun y => cellR R x y)) = (R.x2 - R.x1) * (R.y2 - R.y1) := by
  unfold InR at hR
  have e : ∀ x, sumTo h (fun y => cellR R x y) = ind R.x1 (R.x2 - R.x1) x * (R.y2 - R.y1) := by
    intro x
    rw [sumTo_congr h _ (fun y => ind R.y1 (R.y2 - R.y1) y * ind R.x1 (R.x2 - R.x1) x) (fun y _ => by unfold cellR; rw [Int.mul_comm]), sumTo_mul, sum_ind_all _ _ _ (by omega) (by omega) (by omega), Int.mul_comm]
  rw [sumTo_congr w _ (fun x => ind R.x1 (R.x2 - R.x1) x * (R.y2 - R.y1)) (fun x _ => e x), sumTo_mul, sum_ind_all _ _ _ (by omega) (by omega) (by omega)]
def cnt (R : Rc) (w h : Nat) (s : Sq) : Int := sumTo w (fun x => sumTo h (fun y => cell s x y * cellR R x y))
def cntTo (R : Rc) (w h : Nat) (l : List Sq) : Nat → Int
  | 0 => 0
  | m + 1 => cntTo R w h l m + cnt R w h (sqAt l m)
theorem cntTo_many (R : Rc) (w h : Nat) (l : List Sq) : ∀ n, sumTo w (fun x => sumTo h (fun y => many l n x y * cellR R x y)) = cntTo R w h l n
  | 0 => by
    simp only [many, cntTo]
    rw [sumTo_congr w _ (fun _ => 0) (fun x _ => by rw [sumTo_congr h _ (fun _ => 0) (fun y _ => by rw [Int.zero_mul]), sumTo_zero]), sumTo_zero]
  | n + 1 => by
    simp only [many, cntTo]
    rw [← cntTo_many R w h l n, cnt, ← sumTo_add]
    refine sumTo_congr w _ _ (fun x _ => ?_)
    rw [← sumTo_add]
    exact sumTo_congr h _ _ (fun y _ => Int.add_mul _ _ _)
theorem many_ge (l : List Sq) (x y : Nat) : ∀ n m, m < n → InSq (sqAt l m) x y → 1 ≤ many l n x y
  | 0, m, hm, _ => by omega
  | n + 1, m, hm, hc => by
    simp only [many]
    have h0 := cell_01 (sqAt l n) x y
    have hn : ∀ n, 0 ≤ many l n x y := by
      intro n
      induction n with
      | zero => exact Int.le_refl _
      | succ n ih => simp only [many]; have := cell_01 (sqAt l n) x y; omega
    by_cases e : m = n
    · subst e
      have : cell (sqAt l m) x y = 1 := by unfold cell; rw [if_pos hc]
      have := hn m
      omega
    · have := many_ge l x y n m (by omega) hc
      omega
theorem cnt_total {W H : Int} {l : List Sq} (hg : Good W H l) {R : Rc} (hR : InR W H R) (w h : Nat) (hw : (w : Int) = W) (hh : (h : Int) = H) : cntTo R w h l l.length = (R.x2 - R.x1) * (R.y2 - R.y1) := by
  rw [← sum_cellR hR w h hw hh, ← cntTo_many]
  refine sumTo_congr w _ _ (fun x hx => sumTo_congr h _ _ (fun y hy => ?_))
  have h1 := many_one (W := W) (H := H) l x y l.length hg.2.2.2.1
  obtain ⟨j, hj, hc⟩ := covered hg (x : Int) (y : Int) (by omega) (by omega)
  have h2 := many_ge l x y l.length j hj hc
  rw [show many l l.length x y = 1 by omega, Int.one_mul]
theorem sumTo_nonneg (n : Nat) (f : Nat → Int) (h : ∀ i, i < n → 0 ≤ f i) : 0 ≤ sumTo n f := by
  have := sumTo_le n (fun _ => 0) f h
  rwa [sumTo_zero] at this
theorem cnt_nonneg (R : Rc) (w h : Nat) (s : Sq) : 0 ≤ cnt R w h s := sumTo_nonneg w _ (fun x _ => sumTo_nonneg h _ (fun y _ => by
  rcases cell_01 s x y with e | e <;> rcases cellR_01 R x y with k | k <;> rw [e, k] <;> decide))
theorem cnt_in {W H : Int} {R : Rc} {s : Sq} (hs : Ins W H s) (hi : inn R s) (w h : Nat) (hw : (w : Int) = W) (hh : (h : Int) = H) : cnt R w h s = s.f2 * s.f2 := by
  rw [← sum_cell hs w h hw hh]
  refine sumTo_congr w _ _ (fun x _ => sumTo_congr h _ _ (fun y _ => ?_))
  show cell s x y * cellR R x y = cell s x y
  unfold cell
  split
  · rename_i hc
    rw [cellR_pos.2 (by unfold InSq at hc; unfold inn at hi; omega)]; rfl
  · rw [Int.zero_mul]
theorem cnt_out {R : Rc} {s : Sq} (ho : out R s) (w h : Nat) : cnt R w h s = 0 := by
  have hz : ∀ x y, cell s x y * cellR R x y = 0 := by
    intro x y
    rcases cell_01 s x y with e | e
    · rw [e, Int.zero_mul]
    · rcases cellR_01 R x y with k | k
      · rw [k, Int.mul_zero]
      · exfalso
        have hc : InSq s x y := by
          unfold cell at e
          split at e
          · assumption
          · cases e
        have := cellR_pos.1 k
        unfold InSq at hc
        unfold out at ho
        omega
  unfold cnt
  rw [sumTo_congr w _ (fun _ => 0) (fun x _ => by rw [sumTo_congr h _ (fun _ => 0) (fun y _ => hz x y), sumTo_zero]), sumTo_zero]
theorem cnt_part {W H : Int} {R : Rc} {s : Sq} (hs : Ins W H s) (hR : InR W H R) (ho : ¬ out R s) (w h : Nat) (hw : (w : Int) = W) (hh : (h : Int) = H) : 0 < cnt R w h s := by
  unfold Ins at hs
  unfold InR at hR
  unfold out at ho
  obtain ⟨a, ha⟩ : ∃ a : Nat, (a : Int) = max s.f0 R.x1 := ⟨(max s.f0 R.x1).toNat, by omega⟩
  obtain ⟨b, hb⟩ : ∃ b : Nat, (b : Int) = max s.f1 R.y1 := ⟨(max s.f1 R.y1).toNat, by omega⟩
  have hnn : ∀ x y : Nat, 0 ≤ cell s x y * cellR R x y := fun x y => by
    rcases cell_01 s x y with e | e <;> rcases cellR_01 R x y with k | k <;> rw [e, k] <;> decide
  have h1 : cell s a b * cellR R a b = 1 := by
    rw [cellR_pos.2 (by omega), Int.mul_one]
    unfold cell
    rw [if_pos (by unfold InSq; omega)]
  have h2 : 0 < sumTo h (fun y => cell s a y * cellR R a y) := by
    have := sumTo_lt h (fun _ => 0) (fun y => cell s a y * cellR R a y) (fun y _ => hnn a y) b (by omega) (by show 0 < cell s a b * cellR R a b; omega)
    rwa [sumTo_zero] at this
  have := sumTo_lt w (fun _ => 0) (fun x => sumTo h (fun y => cell s x y * cellR R x y)) (fun x _ => sumTo_nonneg h _ (fun y _ => hnn x y)) a (by omega) h2
  rwa [sumTo_zero] at this
theorem area_le {W H : Int} {R : Rc} {l : List Sq} (hR : InR W H R) (w h : Nat) (hw : (w : Int) = W) (hh : (h : Int) = H) : ∀ n, (∀ m, m < n → Ins W H (sqAt l m)) →
    areaIn R l n ≤ cntTo R w h l n ∧ ((∀ m, m < n → out R (sqAt l m) ∨ inn R (sqAt l m)) → areaIn R l n = cntTo R w h l n) ∧ ((∃ m, m < n ∧ ¬ (out R (sqAt l m) ∨ inn R (sqAt l m))) → areaIn R l n < cntTo R w h l n)
  | 0, _ => ⟨Int.le_refl _, fun _ => rfl, fun ⟨m, hm, _⟩ => by omega⟩
  | n + 1, hi => by
    obtain ⟨i1, i2, i3⟩ := area_le hR w h hw hh n (fun m hm => hi m (by omega))
    have hn := hi n (by omega)
    have h0 := cnt_nonneg R w h (sqAt l n)
    simp only [areaIn, cntTo]
    by_cases hin : inn R (sqAt l n)
    · rw [if_pos hin, cnt_in hn hin w h hw hh]
      refine ⟨by omega, fun hall => by rw [i2 (fun m hm => hall m (by omega))], fun ⟨m, hm, hb⟩ => ?_⟩
      have hmn : m ≠ n := fun e => by subst e; exact hb (.inr hin)
      have := i3 ⟨m, by omega, hb⟩
      omega
    · rw [if_neg hin]
      refine ⟨by omega, fun hall => ?_, fun ⟨m, hm, hb⟩ => ?_⟩
      · rcases hall n (by omega) with ho | ho
        · rw [cnt_out ho, i2 (fun m hm => hall m (by omega))]
        · exact absurd ho hin
      · by_cases hon : out R (sqAt l n)
        · have hmn : m ≠ n := fun e => by subst e; exact hb (.inl hon)
          have := i3 ⟨m, by omega, hb⟩
          omega
        · have := cnt_part hn hR hon w h hw hh
          omega
theorem filled_iff {W H : Int} {l : List Sq} (hg : Good W H l) {R : Rc} (hR : InR W H R) : Filled R l ↔ areaIn R l l.length = (R.x2 - R.x1) * (R.y2 - R.y1) := by
  obtain ⟨w, hw⟩ : ∃ w : Nat, (w : Int) = W := ⟨W.toNat, by have := hg.1; omega⟩
  obtain ⟨h, hh⟩ : ∃ h : Nat, (h : Int) = H := ⟨H.toNat, by have := hg.2.1; omega⟩
  obtain ⟨i1, i2, i3⟩ := area_le (l := l) hR w h hw hh l.length (fun m hm => (hg.2.2.2.1 m hm).1)
  rw [← cnt_total hg hR w h hw hh]
  constructor
  · exact i2
  · intro e
    apply Decidable.byContradiction
    intro hno
    unfold Filled at hno
    have hex : ∃ m, m < l.length ∧ ¬ (out R (sqAt l m) ∨ inn R (sqAt l m)) := by
      apply Decidable.byContradiction
      intro h2
      exact hno (fun m hm => Decidable.byContradiction (fun h3 => h2 ⟨m, hm, h3⟩))
    have := i3 hex
    omega
/-- from the corner of one square to that of another one -/
def rcOf (l : List Sq) (i k : Nat) : Rc := ⟨(sqAt l i).f0, (sqAt l i).f1, (sqAt l k).f0 + (sqAt l k).f2, (sqAt l k).f1 + (sqAt l k).f2⟩
def ConP (l : List Sq) (i k : Nat) : Prop := (rcOf l i k).x1 < (rcOf l i k).x2 ∧ (rcOf l i k).y1 < (rcOf l i k).y2 ∧ Filled (rcOf l i k) l ∧ 2 ≤ (partTo (rcOf l i k) l l.length).length ∧ (partTo (rcOf l i k) l l.length).length + 1 ≤ l.length
instance (l : List Sq) (i k : Nat) : Decidable (ConP l i k) := by unfold ConP; infer_instance
def ConS (W H : Int) (l : List Sq) (i k : Nat) : Prop := i ≠ k ∧ (rcOf l i k).x1 < (rcOf l i k).x2 ∧ (rcOf l i k).y1 < (rcOf l i k).y2 ∧ ¬ ((rcOf l i k).x2 - (rcOf l i k).x1 = W ∧ (rcOf l i k).y2 - (rcOf l i k).y1 = H) ∧ areaIn (rcOf l i k) l l.length = ((rcOf l i k).x2 - (rcOf l i k).x1) * ((rcOf l i k).y2 - (rcOf l i k).y1) ∧ 1 < (partTo (rcOf l i k) l l.length).length
theorem area_all (R : Rc) (l : List Sq) : ∀ n, (∀ m, m < n → inn R (sqAt l m)) → areaIn R l n = areaTo l n
  | 0, _ => rfl
  | n + 1, h => by
    simp only [areaIn, areaTo]
    rw [if_pos (h n (by omega)), area_all R l n (fun m hm => h m (by omega))]
theorem con_iff {W H : Int} {l : List Sq} (hg : Good W H l) {i k : Nat} (hi : i < l.length) (hk : k < l.length) : ConP l i k ↔ ConS W H l i k := by
  have oi := (hg.2.2.2.1 i hi).1
  have ok := (hg.2.2.2.1 k hk).1
  have hlen := partTo_len (rcOf l i k) l l.length
  have hR : (rcOf l i k).x1 < (rcOf l i k).x2 → (rcOf l i k).y1 < (rcOf l i k).y2 → InR W H (rcOf l i k) := fun h1 h2 => by
    unfold InR; unfold rcOf at h1 h2 ⊢; unfold Ins at oi ok; dsimp only at h1 h2 ⊢; omega
  constructor
  · rintro ⟨h1, h2, h3, h4, h5⟩
    have hr := hR h1 h2
    refine ⟨fun e => ?_, h1, h2, fun ⟨e1, e2⟩ => ?_, (filled_iff hg hr).1 h3, by omega⟩
    · subst e
      have := partTo_one (rcOf l i i) l i l.length (fun m hm hin => by
        have om := (hg.2.2.2.1 m hm).1
        have hov : Ovl (sqAt l m) (sqAt l i) := by
          unfold inn rcOf at hin; unfold Ins at om oi; unfold Ovl; dsimp only at hin; omega
        rcases Nat.lt_trichotomy m i with h | h | h
        · exact absurd (show Ovl (sqAt l i) (sqAt l m) from ⟨hov.2.1, hov.1, hov.2.2.2, hov.2.2.1⟩) ((hg.2.2.2.1 i hi).2.2 m h)
        · exact h
        · exact absurd hov ((hg.2.2.2.1 m hm).2.2 i h))
      split at this <;> omega
    · have hall : ∀ m, m < l.length → inn (rcOf l i k) (sqAt l m) := fun m hm => by
        have om := (hg.2.2.2.1 m hm).1
        unfold InR at hr
        unfold inn; unfold Ins at om
        omega
      have hfull : ∀ n, (∀ m, m < n → inn (rcOf l i k) (sqAt l m)) → (partTo (rcOf l i k) l n).length = n := by
        intro n
        induction n with
        | zero => intro _; rfl
        | succ n ih =>
          intro h
          simp only [partTo]
          rw [if_pos (h n (by omega)), List.length_append, ih (fun m hm => h m (by omega))]; rfl
      have := hfull l.length hall
      omega
  · rintro ⟨h0, h1, h2, h3, h4, h5⟩
    have hr := hR h1 h2
    refine ⟨h1, h2, (filled_iff hg hr).2 h4, by omega, ?_⟩
    apply Decidable.byContradiction
    intro hno
    have hall := partTo_all (rcOf l i k) l l.length (by omega)
    have e := area_all (rcOf l i k) l l.length hall
    rw [hg.2.2.2.2, h4] at e
    unfold InR at hr
    apply h3
    have p1 := hg.1.1
    have p2 := hg.2.1.1
    generalize hA : (rcOf l i k).x2 - (rcOf l i k).x1 = a at e ⊢
    generalize hB : (rcOf l i k).y2 - (rcOf l i k).y1 = b at e ⊢
    have ha : a ≤ W := by omega
    have hb : b ≤ H := by omega
    have ha0 : 0 < a := by omega
    have hb0 : 0 < b := by omega
    have hle1 : a * b ≤ W * b := Int.mul_le_mul_of_nonneg_right ha (by omega)
    have hle2 : W * b ≤ W * H := Int.mul_le_mul_of_nonneg_left hb (by omega)
    constructor
    · apply Decidable.byContradiction
      intro hne
      have : a * b < W * b := Int.mul_lt_mul_of_pos_right (by omega) hb0
      omega
    · apply Decidable.byContradiction
      intro hne
      have : W * b < W * H := Int.mul_lt_mul_of_pos_left (by omega) (by omega)
      omega
/-! the lists of parts -/
def con (l : List Sq) (i k : Nat) : List (List Int) := if ConP l i k then [partTo (rcOf l i k) l l.length] else []
def rowP (l : List Sq) (i : Nat) : Nat → List (List Int)
  | 0 => []
  | k + 1 => rowP l i k ++ con l i k
def allP (l : List Sq) : Nat → List (List Int)
  | 0 => []
  | i + 1 => allP l i ++ rowP l i l.length
theorem rowP_len (l : List Sq) (i : Nat) : ∀ k, (rowP l i k).length ≤ k
  | 0 => by simp [rowP]
  | k + 1 => by
    have := rowP_len l i k
    simp only [rowP, List.length_append]
    unfold con
    split <;> simp <;> omega
theorem allP_len (l : List Sq) : ∀ i, (allP l i).length ≤ i * l.length
  | 0 => by simp [allP]
  | i + 1 => by
    have h1 := allP_len l i
    have h2 := rowP_len l i l.length
    simp only [allP, List.length_append, Nat.succ_mul]
    omega
theorem con_row (l : List Sq) (i k : Nat) : ∀ x ∈ con l i k, x.length ≤ l.length := by
  intro x hx
  unfold con at hx
  split at hx
  · rw [List.mem_singleton.1 hx]; exact partTo_len _ _ _
  · simp at hx
theorem rowP_row (l : List Sq) (i : Nat) : ∀ k, ∀ x ∈ rowP l i k, x.length ≤ l.length
  | 0, x, hx => by simp [rowP] at hx
  | k + 1, x, hx => by
    simp only [rowP, List.mem_append] at hx
    rcases hx with hx | hx
    · exact rowP_row l i k x hx
    · exact con_row l i k x hx
theorem allP_row (l : List Sq) : ∀ i, ∀ x ∈ allP l i, x.length ≤ l.length
  | 0, x, hx => by simp [allP] at hx
  | i + 1, x, hx => by
    simp only [allP, List.mem_append] at hx
    rcases hx with hx | hx
    · exact allP_row l i x hx
    · exact rowP_row l i _ x hx
/-! the program -/
theorem wi_loop {W H : Int} {l : List Sq} (hg : Good W H l) (R : Rc) (hf : ∀ m, m < l.length → (out R (sqAt l m) ∨ inn R (sqAt l m)) ∨ ¬ Filled R l) : ∀ (d j : Nat), l.length - j = d → j ≤ l.length → (∀ m, m < j → out R (sqAt l m) ∨ inn R (sqAt l m)) →
    Ev (fun k => impl_Cut_within.l0 k R.x1 R.y1 R.x2 R.y2 (partTo R l j) l (l.length : Int) (j : Int)) (if Filled R l then (partTo R l l.length, true) else ([], false)) := by
  have hl := hg.2.2.1.2
  intro d
  induction d with
  | zero =>
    intro j hd hj hok
    refine Ev.succ ?_
    simp only [impl_Cut_within.l0]
    have e : j = l.length := by omega
    subst e
    rw [if_pos (show Filled R l from hok)]
    exact Ev.neg (by omega) (Ev.now _)
  | succ d ih =>
    intro j hd hj hok
    have hi := (hg.2.2.2.1 j (by omega)).1
    have hb : wrap64 ((sqAt l j).f0 + (sqAt l j).f2) = (sqAt l j).f0 + (sqAt l j).f2 := by unfold Ins at hi; have := hg.1; have := hg.2.1; exact wrap64_id (by omega) (by omega)
    have hc : wrap64 ((sqAt l j).f1 + (sqAt l j).f2) = (sqAt l j).f1 + (sqAt l j).f2 := by unfold Ins at hi; have := hg.1; have := hg.2.1; exact wrap64_id (by omega) (by omega)
    have hp := partTo_len R l j
    refine Ev.succ ?_
    simp only [impl_Cut_within.l0]
    refine Ev.pos (by omega) (Ev.pos (by omega) (Ev.pos (by omega) ?_))
    rw [rd_sq, hb, hc]
    have goOut : out R (sqAt l j) → Ev (fun k => impl_Cut_within.j2 k R.x1 R.y1 R.x2 R.y2 (partTo R l j) (j : Int) l (l.length : Int) (j : Int) true (sqAt l j).f0 (sqAt l j).f1 (sqAt l j).f2) (if Filled R l then (partTo R l l.length, true) else ([], false)) := fun ho => by
      refine Ev.succ ?_
      simp only [impl_Cut_within.j2]
      refine Ev.pos (by simp) ?_
      rw [wrap64_id (n := (j : Int) + 1) (by omega) (by omega)]
      have h := ih (j + 1) (by omega) (by omega) (fun m hm => by
        by_cases e : m = j
        · subst e; exact .inl ho
        · exact hok m (by omega))
      have e : partTo R l (j + 1) = partTo R l j := by
        simp only [partTo]
        rw [if_neg (fun hin => by unfold inn at hin; unfold out at ho; unfold Ins at hi; omega)]
      rw [e] at h
      exact h
    by_cases o1 : (sqAt l j).f0 ≥ R.x2
    · exact Ev.pos o1 (goOut (.inl o1))
    · refine Ev.neg o1 ?_
      by_cases o2 : (sqAt l j).f1 ≥ R.y2
      · exact Ev.pos o2 (goOut (.inr (.inl o2)))
      · refine Ev.neg o2 ?_
        by_cases o3 : (sqAt l j).f0 + (sqAt l j).f2 ≤ R.x1
        · exact Ev.pos o3 (goOut (.inr (.inr (.inl o3))))
        · refine Ev.neg o3 ?_
          by_cases o4 : (sqAt l j).f1 + (sqAt l j).f2 ≤ R.y1
          · rw [decide_eq_true o4]
            exact goOut (.inr (.inr (.inr o4)))
          · rw [decide_eq_false o4]
            have hno : ¬ out R (sqAt l j) := by unfold out; omega
            refine Ev.succ ?_
            simp only [impl_Cut_within.j2]
            refine Ev.neg (by simp) ?_
            rw [hb, hc]
            have bad : ¬ inn R (sqAt l j) → (if Filled R l then (partTo R l l.length, true) else ([], false)) = (([] : List Int), false) := fun hin => by
              rw [if_neg (fun hF => by rcases hF j (by omega) with h | h; exact hno h; exact hin h)]
            by_cases i1 : (sqAt l j).f0 ≥ R.x1
            · refine Ev.pos i1 ?_
              by_cases i2 : (sqAt l j).f1 ≥ R.y1
              · refine Ev.pos i2 ?_
                by_cases i3 : (sqAt l j).f0 + (sqAt l j).f2 ≤ R.x2
                · refine Ev.pos i3 ?_
                  by_cases i4 : (sqAt l j).f1 + (sqAt l j).f2 ≤ R.y2
                  · refine Ev.pos i4 (Ev.pos (by omega) ?_)
                    rw [wrap64_id (n := (j : Int) + 1) (by omega) (by omega)]
                    have h := ih (j + 1) (by omega) (by omega) (fun m hm => by
                      by_cases e : m = j
                      · subst e; exact .inr ⟨i1, i2, i3, i4⟩
                      · exact hok m (by omega))
                    have e : partTo R l (j + 1) = partTo R l j ++ [(j : Int)] := by
                      simp only [partTo]; rw [if_pos (show inn R (sqAt l j) from ⟨i1, i2, i3, i4⟩)]
                    rw [e] at h
                    exact h
                  · refine Ev.neg i4 ?_
                    rw [bad (fun h => i4 h.2.2.2)]; exact Ev.now _
                · refine Ev.neg i3 ?_
                  rw [bad (fun h => i3 h.2.2.1)]; exact Ev.now _
              · refine Ev.neg i2 ?_
                rw [bad (fun h => i2 h.2.1)]; exact Ev.now _
            · refine Ev.neg i1 ?_
              rw [bad (fun h => i1 h.1)]; exact Ev.now _
theorem within_ev {W H : Int} {l : List Sq} (hg : Good W H l) (R : Rc) : Ev (fun k => impl_Cut_within.f k W H l R.x1 R.y1 R.x2 R.y2) (if R.x1 < R.x2 ∧ R.y1 < R.y2 ∧ Filled R l then (partTo R l l.length, true) else ([], false)) := by
  unfold impl_Cut_within.f
  refine Ev.bindc rfl ?_
  by_cases h1 : R.x1 ≥ R.x2
  · refine Ev.pos h1 (Ev.succ ?_)
    simp only [impl_Cut_within.j0]
    rw [if_neg (show ¬ (R.x1 < R.x2 ∧ R.y1 < R.y2 ∧ Filled R l) from fun h => by omega)]
    exact Ev.pos (by simp) (Ev.now _)
  · refine Ev.neg h1 (Ev.succ ?_)
    simp only [impl_Cut_within.j0]
    by_cases h2 : R.y1 ≥ R.y2
    · rw [if_neg (show ¬ (R.x1 < R.x2 ∧ R.y1 < R.y2 ∧ Filled R l) from fun h => by omega)]
      exact Ev.pos (by simpa using h2) (Ev.now _)
    · refine Ev.neg (by simpa using h2) ?_
      have h := wi_loop hg R (fun m hm => by
        by_cases hF : Filled R l
        · exact .inl (hF m hm)
        · exact .inr hF) l.length 0 (by omega) (Nat.zero_le _) (fun m hm => by omega)
      have e : (if R.x1 < R.x2 ∧ R.y1 < R.y2 ∧ Filled R l then (partTo R l l.length, true) else (([] : List Int), false)) = if Filled R l then (partTo R l l.length, true) else ([], false) := by
        by_cases hF : Filled R l
        · rw [if_pos hF, if_pos ⟨by omega, by omega, hF⟩]
        · rw [if_neg hF, if_neg (fun h => hF h.2.2)]
      rw [e]
      exact h
theorem pp_l1 {W H : Int} {l : List Sq} (hg : Good W H l) (i : Nat) (hi : i < l.length) (L : List (List Int)) {Q : List (List Int)}
    (hnext : Ev (fun k => impl_Cut_parts.l0 k (L ++ rowP l i l.length) l (l.length : Int) ((i : Int) + 1) W H l) Q) (hL : L.length ≤ 900) : ∀ (d j : Nat), l.length - j = d → j ≤ l.length →
    Ev (fun k => impl_Cut_parts.l1 k (L ++ rowP l i j) l (l.length : Int) (i : Int) l (l.length : Int) (j : Int) W H l (sqAt l i).f0 (sqAt l i).f1 (sqAt l i).f2) Q := by
  have hl := hg.2.2.1.2
  intro d
  induction d with
  | zero =>
    intro j hd hj
    have e : j = l.length := by omega
    subst e
    refine Ev.succ ?_
    simp only [impl_Cut_parts.l1]
    refine Ev.neg (by omega) ?_
    rw [wrap64_id (n := (i : Int) + 1) (by omega) (by omega)]
    exact hnext
  | succ d ih =>
    intro j hd hj
    have oj := (hg.2.2.2.1 j (by omega)).1
    have hb : wrap64 ((sqAt l j).f0 + (sqAt l j).f2) = (sqAt l j).f0 + (sqAt l j).f2 := by unfold Ins at oj; have := hg.1; have := hg.2.1; exact wrap64_id (by omega) (by omega)
    have hc : wrap64 ((sqAt l j).f1 + (sqAt l j).f2) = (sqAt l j).f1 + (sqAt l j).f2 := by unfold Ins at oj; have := hg.1; have := hg.2.1; exact wrap64_id (by omega) (by omega)
    have hr := rowP_len l i j
    refine Ev.succ ?_
    simp only [impl_Cut_parts.l1]
    refine Ev.pos (by omega) (Ev.pos (by omega) (Ev.pos (by omega) ?_))
    rw [rd_sq, hb, hc, wrap64_id (n := (j : Int) + 1) (by omega) (by omega), wrap64_id (n := (l.length : Int) - 1) (by omega) (by omega)]
    have h := ih (j + 1) (by omega) (by omega)
    have hw := within_ev hg (rcOf l i j)
    simp only [rowP] at h
    have stay : ¬ ConP l i j → Ev (fun k => impl_Cut_parts.l1 k (L ++ rowP l i j) l (l.length : Int) (i : Int) l (l.length : Int) ((j : Int) + 1) W H l (sqAt l i).f0 (sqAt l i).f1 (sqAt l i).f2) Q := fun hn => by
      unfold con at h
      rw [if_neg hn, List.append_nil] at h
      exact h
    refine Ev.bind hw ?_
    by_cases hF : (rcOf l i j).x1 < (rcOf l i j).x2 ∧ (rcOf l i j).y1 < (rcOf l i j).y2 ∧ Filled (rcOf l i j) l
    · rw [if_pos hF]
      refine Ev.pos rfl (Ev.bindc (within_eq _ _ _) ?_)
      by_cases hn : ConP l i j
      · have hn' := hn
        unfold ConP at hn'
        refine Ev.pos (decide_eq_true (by dsimp only; omega)) (Ev.pos (by rw [List.length_append]; omega) ?_)
        unfold con at h
        rw [if_pos hn, ← List.append_assoc] at h
        exact h
      · refine Ev.neg ?_ (stay hn)
        have hn' := hn
        unfold ConP at hn'
        rw [Bool.not_eq_true, decide_eq_false_iff_not]
        dsimp only
        intro hh
        exact hn' ⟨hF.1, hF.2.1, hF.2.2, by omega, by omega⟩
    · rw [if_neg hF]
      refine Ev.neg (by simp) (stay (fun hn => hF ⟨hn.1, hn.2.1, hn.2.2.1⟩))
theorem pp_l0 {W H : Int} {l : List Sq} (hg : Good W H l) {Q : List (List Int)} (hQ : slices_SortFunc_int_int__impl_Cut_parts_1.f (allP l l.length) = some Q) : ∀ (d i : Nat), l.length - i = d → i ≤ l.length →
    Ev (fun k => impl_Cut_parts.l0 k (allP l i) l (l.length : Int) (i : Int) W H l) Q := by
  have hl := hg.2.2.1.2
  intro d
  induction d with
  | zero =>
    intro i hd hi
    have e : i = l.length := by omega
    subst e
    refine Ev.succ ?_
    simp only [impl_Cut_parts.l0]
    exact Ev.neg (by omega) (Ev.bindc hQ (Ev.now _))
  | succ d ih =>
    intro i hd hi
    have h := ih (i + 1) (by omega) (by omega)
    have hA := allP_len l i
    have hA2 : i * l.length ≤ 30 * 30 := Nat.mul_le_mul (by omega) hl
    refine Ev.succ ?_
    simp only [impl_Cut_parts.l0]
    refine Ev.pos (by omega) (Ev.pos (by omega) (Ev.pos (by omega) ?_))
    rw [rd_sq]
    have h2 := pp_l1 hg i (by omega) (allP l i) (Q := Q) h (by omega) l.length 0 (by omega) (Nat.zero_le _)
    simp only [rowP, List.append_nil] at h2
    exact h2
/-! the reference -/
theorem sp_l2 {W H : Int} {l : List Sq} (hg : Good W H l) (R : Rc) (hR : InR W H R) (L : List (List Int)) (hL : L.length ≤ 1000) (i : Nat) (hi : i < l.length) (j : Nat) (hj : j < l.length) (a b c : Int) (ha : a = R.x1) (hb : b = R.y1) {Q : List (List Int)}
    (hnext : Ev (fun k => spec_cuParts.l1 k (L ++ if areaIn R l l.length = (R.x2 - R.x1) * (R.y2 - R.y1) ∧ 1 < (partTo R l l.length).length then [partTo R l l.length] else []) (i : Int) l (l.length : Int) (i : Int) l (l.length : Int) ((j : Int) + 1) W H l a b c) Q) : ∀ (d m : Nat), l.length - m = d → m ≤ l.length →
    Ev (fun k => spec_cuParts.l2 k L (i : Int) (R.x2 - R.x1) (R.y2 - R.y1) (areaIn R l m) (partTo R l m) l (l.length : Int) (i : Int) l (l.length : Int) (j : Int) l (l.length : Int) (m : Int) W H l a b c) Q := by
  have hl := hg.2.2.1.2
  have hW := hg.1
  have hH := hg.2.1
  have hR' := hR
  unfold InR at hR'
  have harea : ∀ m, m ≤ l.length → 0 ≤ areaIn R l m ∧ areaIn R l m ≤ m * 250000 := by
    intro m
    induction m with
    | zero => intro _; simp [areaIn]
    | succ m ih =>
      intro hm
      have := ih (by omega)
      have om := (hg.2.2.2.1 m (by omega)).1
      have hsq := sq_bd hW.2 hH.2 om
      simp only [areaIn]
      split <;> omega
  intro d
  induction d with
  | zero =>
    intro m hd hm
    have e : m = l.length := by omega
    subst e
    refine Ev.succ ?_
    simp only [spec_cuParts.l2]
    refine Ev.neg (by omega) ?_
    have hmul : 0 ≤ (R.x2 - R.x1) * (R.y2 - R.y1) ∧ (R.x2 - R.x1) * (R.y2 - R.y1) ≤ 500 * 500 := by
      constructor
      · exact Int.mul_nonneg (by omega) (by omega)
      · exact Int.le_trans (Int.mul_le_mul_of_nonneg_right (show R.x2 - R.x1 ≤ 500 by omega) (by omega)) (Int.mul_le_mul_of_nonneg_left (show R.y2 - R.y1 ≤ 500 by omega) (by omega))
    rw [wrap64_id (n := (R.x2 - R.x1) * (R.y2 - R.y1)) (by omega) (by omega), wrap64_id (n := (j : Int) + 1) (by omega) (by omega)]
    by_cases h1 : areaIn R l l.length = (R.x2 - R.x1) * (R.y2 - R.y1)
    · refine Ev.pos h1 ?_
      by_cases h2 : 1 < (partTo R l l.length).length
      · rw [if_pos ⟨h1, h2⟩] at hnext
        exact Ev.pos (by omega) (Ev.pos (by omega) hnext)
      · rw [if_neg (fun h => h2 h.2), List.append_nil] at hnext
        exact Ev.neg (by omega) hnext
    · rw [if_neg (fun h => h1 h.1), List.append_nil] at hnext
      exact Ev.neg h1 hnext
  | succ d ih =>
    intro m hd hm
    have om := (hg.2.2.2.1 m (by omega)).1
    have hsq := sq_bd hW.2 hH.2 om
    have har := harea m (by omega)
    unfold Ins at om
    have hp := partTo_len R l m
    refine Ev.succ ?_
    simp only [spec_cuParts.l2]
    refine Ev.pos (by omega) (Ev.pos (by omega) (Ev.pos (by omega) ?_))
    rw [rd_sq, wrap64_id (n := (sqAt l m).f0 + (sqAt l m).f2) (by omega) (by omega), wrap64_id (n := (sqAt l m).f1 + (sqAt l m).f2) (by omega) (by omega), wrap64_id (n := a + (R.x2 - R.x1)) (by omega) (by omega), wrap64_id (n := b + (R.y2 - R.y1)) (by omega) (by omega), wrap64_id (n := (m : Int) + 1) (by omega) (by omega),
      wrap64_id (n := (sqAt l m).f2 * (sqAt l m).f2) (by omega) (by omega), wrap64_id (n := areaIn R l m + (sqAt l m).f2 * (sqAt l m).f2) (by omega) (by omega)]
    have h := ih (m + 1) (by omega) (by omega)
    simp only [areaIn, partTo] at h
    have stay : ¬ inn R (sqAt l m) → Ev (fun k => spec_cuParts.l2 k L (i : Int) (R.x2 - R.x1) (R.y2 - R.y1) (areaIn R l m) (partTo R l m) l (l.length : Int) (i : Int) l (l.length : Int) (j : Int) l (l.length : Int) ((m : Int) + 1) W H l a b c) Q := fun hn => by
      rw [if_neg hn, if_neg hn, Int.add_zero] at h
      exact h
    by_cases i1 : (sqAt l m).f0 ≥ a
    · refine Ev.pos i1 ?_
      by_cases i2 : (sqAt l m).f1 ≥ b
      · refine Ev.pos i2 ?_
        by_cases i3 : (sqAt l m).f0 + (sqAt l m).f2 ≤ a + (R.x2 - R.x1)
        · refine Ev.pos i3 ?_
          by_cases i4 : (sqAt l m).f1 + (sqAt l m).f2 ≤ b + (R.y2 - R.y1)
          · refine Ev.pos i4 (Ev.pos (by omega) ?_)
            have hin : inn R (sqAt l m) := by unfold inn; omega
            rw [if_pos hin, if_pos hin] at h
            exact h
          · exact Ev.neg i4 (stay (fun hin => i4 (by unfold inn at hin; omega)))
        · exact Ev.neg i3 (stay (fun hin => i3 (by unfold inn at hin; omega)))
      · exact Ev.neg i2 (stay (fun hin => i2 (by unfold inn at hin; omega)))
    · exact Ev.neg i1 (stay (fun hin => i1 (by unfold inn at hin; omega)))
theorem sp_l1 {W H : Int} {l : List Sq} (hg : Good W H l) (i : Nat) (hi : i < l.length) (L : List (List Int)) {Q : List (List Int)}
    (hnext : Ev (fun k => spec_cuParts.l0 k (L ++ rowP l i l.length) l (l.length : Int) ((i : Int) + 1) W H l) Q) (hL : L.length ≤ 900) : ∀ (d j : Nat), l.length - j = d → j ≤ l.length →
    Ev (fun k => spec_cuParts.l1 k (L ++ rowP l i j) (i : Int) l (l.length : Int) (i : Int) l (l.length : Int) (j : Int) W H l (sqAt l i).f0 (sqAt l i).f1 (sqAt l i).f2) Q := by
  have hl := hg.2.2.1.2
  have hW := hg.1
  have hH := hg.2.1
  have oi := (hg.2.2.2.1 i hi).1
  intro d
  induction d with
  | zero =>
    intro j hd hj
    have e : j = l.length := by omega
    subst e
    refine Ev.succ ?_
    simp only [spec_cuParts.l1]
    refine Ev.neg (by omega) ?_
    rw [wrap64_id (n := (i : Int) + 1) (by omega) (by omega)]
    exact hnext
  | succ d ih =>
    intro j hd hj
    have oj := (hg.2.2.2.1 j (by omega)).1
    have hr := rowP_len l i j
    have h := ih (j + 1) (by omega) (by omega)
    simp only [rowP] at h
    have hcon := con_iff hg hi (show j < l.length by omega)
    refine Ev.succ ?_
    simp only [spec_cuParts.l1]
    refine Ev.pos (by omega) (Ev.pos (by omega) (Ev.pos (by omega) ?_))
    have oj' := oj
    have oi' := oi
    unfold Ins at oj' oi'
    rw [rd_sq, wrap64_id (n := (sqAt l j).f0 + (sqAt l j).f2) (by omega) (by omega), wrap64_id (n := (sqAt l j).f1 + (sqAt l j).f2) (by omega) (by omega), wrap64_id (n := (sqAt l j).f0 + (sqAt l j).f2 - (sqAt l i).f0) (by omega) (by omega), wrap64_id (n := (sqAt l j).f1 + (sqAt l j).f2 - (sqAt l i).f1) (by omega) (by omega)]
    have skip : ¬ ConP l i j → Ev (fun k => spec_cuParts.j2 k (L ++ rowP l i j) (i : Int) ((sqAt l j).f0 + (sqAt l j).f2 - (sqAt l i).f0) ((sqAt l j).f1 + (sqAt l j).f2 - (sqAt l i).f1) l (l.length : Int) (i : Int) l (l.length : Int) (j : Int) true W H l (sqAt l i).f0 (sqAt l i).f1 (sqAt l i).f2) Q := fun hn => by
      refine Ev.succ ?_
      simp only [spec_cuParts.j2]
      refine Ev.pos (by simp) ?_
      rw [wrap64_id (n := (j : Int) + 1) (by omega) (by omega)]
      unfold con at h
      rw [if_neg hn, List.append_nil] at h
      exact h
    by_cases c1 : (i : Int) = (j : Int)
    · exact Ev.pos c1 (skip (fun hn => (hcon.1 hn).1 (by omega)))
    · refine Ev.neg c1 ?_
      by_cases c2 : (sqAt l j).f0 + (sqAt l j).f2 - (sqAt l i).f0 ≤ 0
      · exact Ev.pos c2 (skip (fun hn => by have := hn.1; unfold rcOf at this; dsimp only at this; omega))
      · refine Ev.neg c2 ?_
        by_cases c3 : (sqAt l j).f1 + (sqAt l j).f2 - (sqAt l i).f1 ≤ 0
        · exact Ev.pos c3 (skip (fun hn => by have := hn.2.1; unfold rcOf at this; dsimp only at this; omega))
        · refine Ev.neg c3 ?_
          have go : ¬ ((sqAt l j).f0 + (sqAt l j).f2 - (sqAt l i).f0 = W ∧ (sqAt l j).f1 + (sqAt l j).f2 - (sqAt l i).f1 = H) → Ev (fun k => spec_cuParts.j2 k (L ++ rowP l i j) (i : Int) ((sqAt l j).f0 + (sqAt l j).f2 - (sqAt l i).f0) ((sqAt l j).f1 + (sqAt l j).f2 - (sqAt l i).f1) l (l.length : Int) (i : Int) l (l.length : Int) (j : Int) false W H l (sqAt l i).f0 (sqAt l i).f1 (sqAt l i).f2) Q := fun hwh => by
            refine Ev.succ ?_
            simp only [spec_cuParts.j2]
            refine Ev.neg (by simp) ?_
            have hRR : InR W H (rcOf l i j) := by unfold InR rcOf; dsimp only; omega
            refine sp_l2 hg (rcOf l i j) hRR (L ++ rowP l i j) (by rw [List.length_append]; omega) i hi j (by omega) _ _ _ rfl rfl ?_ l.length 0 (by omega) (Nat.zero_le _)
            have e : con l i j = if areaIn (rcOf l i j) l l.length = ((rcOf l i j).x2 - (rcOf l i j).x1) * ((rcOf l i j).y2 - (rcOf l i j).y1) ∧ 1 < (partTo (rcOf l i j) l l.length).length then [partTo (rcOf l i j) l l.length] else [] := by
              unfold con
              by_cases hn : ConP l i j
              · have hs := hcon.1 hn
                rw [if_pos hn, if_pos ⟨hs.2.2.2.2.1, hs.2.2.2.2.2⟩]
              · rw [if_neg hn, if_neg (fun hh => hn (hcon.2 ⟨by omega, by unfold rcOf; dsimp only; omega, by unfold rcOf; dsimp only; omega, hwh, hh.1, hh.2⟩))]
            rw [← e, List.append_assoc]
            exact h
          by_cases c4 : (sqAt l j).f0 + (sqAt l j).f2 - (sqAt l i).f0 = W
          · refine Ev.pos c4 ?_
            by_cases c5 : (sqAt l j).f1 + (sqAt l j).f2 - (sqAt l i).f1 = H
            · rw [show ((sqAt l j).f1 + (sqAt l j).f2 - (sqAt l i).f1 == H) = true from beq_iff_eq.2 c5]
              exact skip (fun hn => (hcon.1 hn).2.2.2.1 ⟨c4, c5⟩)
            · rw [show ((sqAt l j).f1 + (sqAt l j).f2 - (sqAt l i).f1 == H) = false from beq_eq_false_iff_ne.2 c5]
              exact go (fun h => c5 h.2)
          · exact Ev.neg c4 (go (fun h => c4 h.1))
theorem sp_l0 {W H : Int} {l : List Sq} (hg : Good W H l) : ∀ (d i : Nat), l.length - i = d → i ≤ l.length →
    Ev (fun k => spec_cuParts.l0 k (allP l i) l (l.length : Int) (i : Int) W H l) (allP l l.length) := by
  have hl := hg.2.2.1.2
  intro d
  induction d with
  | zero =>
    intro i hd hi
    have e : i = l.length := by omega
    subst e
    refine Ev.succ ?_
    simp only [spec_cuParts.l0]
    exact Ev.neg (by omega) (Ev.now _)
  | succ d ih =>
    intro i hd hi
    have h := ih (i + 1) (by omega) (by omega)
    have hA := allP_len l i
    have hA2 : i * l.length ≤ 30 * 30 := Nat.mul_le_mul (by omega) hl
    refine Ev.succ ?_
    simp only [spec_cuParts.l0]
    refine Ev.pos (by omega) (Ev.pos (by omega) (Ev.pos (by omega) ?_))
    rw [rd_sq]
    have h2 := sp_l1 hg i (by omega) (allP l i) (Q := allP l l.length) h (by omega) l.length 0 (by omega) (Nat.zero_le _)
    simp only [rowP, List.append_nil] at h2
    exact h2
theorem sortRows_spec (A : List (List Int)) (h1 : A.length ≤ 1000000) (h2 : ∀ x ∈ A, x.length ≤ 1000) : ∃ Q, slices_SortFunc_int_int__impl_Cut_parts_1.f A = some Q ∧ Q.Perm A ∧ Q.Pairwise (fun a b => ¬ cmpvI b a < 0) := by
  unfold slices_SortFunc_int_int__impl_Cut_parts_1.f
  rw [if_pos ⟨h1, h2⟩]
  have hps := Sort.pdq_sorts (ltOf (cfL A)) (swoL A) (List.range A.length).toArray 0 A.length (Lib.bitLen A.length) true true (Nat.zero_le _) (by simp) (Or.inl rfl)
  generalize Sort.pdq (ltOf (cfL A)) (List.range A.length).toArray 0 A.length (Lib.bitLen A.length) true true = dd at hps ⊢
  have hdd : dd.size = A.length := by rw [hps.1.1]; simp
  have hperm : dd.toList.Perm (List.range A.length) := by
    have hp := hps.1.2.2
    rw [Array.toList_extract, Array.toList_extract] at hp
    simp only [List.extract_eq_take_drop, List.drop_zero, Nat.sub_zero] at hp
    rwa [List.take_of_length_le (by rw [Array.length_toList, hdd]; exact Nat.le_refl _), List.take_of_length_le (by simp)] at hp
  refine ⟨_, rfl, ?_, ?_⟩
  · have h := hperm.map (fun i => A.getD i [])
    refine h.trans (List.Perm.of_eq ?_)
    refine List.ext_getElem (by simp) (fun i hi1 hi2 => ?_)
    simp [List.getD, hi2]
  · rw [List.pairwise_map, List.pairwise_iff_getElem]
    intro i j hi hj hij
    rw [Array.length_toList] at hi hj
    have h := hps.2 i j (Nat.zero_le _) hij (by omega)
    rw [getElem!_pos dd i hi, getElem!_pos dd j hj] at h
    unfold ltOf cfL at h
    simpa using h
theorem parts_ev {W H : Int} {l : List Sq} (hg : Good W H l) : ∃ Q, Q.Perm (allP l l.length) ∧ Q.Pairwise (fun a b => ¬ cmpvI b a < 0) ∧ Ev (fun k => impl_Cut_parts.f k W H l) Q ∧ Ev (fun k => spec_cuParts.f k W H l) (allP l l.length) := by
  have hl := hg.2.2.1.2
  have hA := allP_len l l.length
  have hA2 : l.length * l.length ≤ 30 * 30 := Nat.mul_le_mul hl hl
  obtain ⟨Q, hQ, hp, hs⟩ := sortRows_spec (allP l l.length) (by omega) (fun x hx => by have := allP_row l l.length x hx; omega)
  exact ⟨Q, hp, hs, pp_l0 hg hQ l.length 0 (by omega) (Nat.zero_le _), sp_l0 hg l.length 0 (by omega) (Nat.zero_le _)⟩

/-! ### parts in order -/
theorem rdLr (l : List (List Int)) (i : Nat) : rd_L3 l (i : Int) = l.getD i [] := by unfold rd_L3; rw [Int.toNat_natCast]
theorem before_loop (a b : List Int) (ha : a.length ≤ 1000) (hb : b.length ≤ 1000) : ∀ (t u : List Int) (i : Nat), a.drop i = t → b.drop i = u → i ≤ a.length → i ≤ b.length →
    Ev (fun k => spec_cuBefore.l0 k a b (i : Int)) (decide (cmpvI t u < 0)) := by
  intro t
  induction t with
  | nil =>
    intro u i h1 h2 h3 h4
    have e : i = a.length := by
      have := congrArg List.length h1
      simp at this
      omega
    have hl : b.length - i = u.length := by rw [← h2]; simp
    refine Ev.succ ?_
    simp only [spec_cuBefore.l0]
    refine Ev.neg (by omega) (Ev.succ ?_)
    simp only [spec_cuBefore.j1]
    refine Ev.neg (by simp) (Ev.eqr (Ev.now _) ?_)
    cases u with
    | nil =>
      simp at hl
      simp [cmpvI]
      omega
    | cons y u =>
      simp at hl
      simp [cmpvI]
      omega
  | cons x t ih =>
    intro u i h1 h2 h3 h4
    have hla : a.length - i = (x :: t).length := by rw [← h1]; simp
    have hlb : b.length - i = u.length := by rw [← h2]; simp
    have hi : i < a.length := by simp at hla; omega
    have hx : a[i] = x := by
      have h := List.drop_eq_getElem_cons hi
      rw [h1] at h
      injection h with h _
      exact h.symm
    have ht : a.drop (i + 1) = t := by
      have h := List.drop_eq_getElem_cons hi
      rw [h1] at h
      injection h with _ h
      exact h.symm
    refine Ev.succ ?_
    simp only [spec_cuBefore.l0]
    refine Ev.pos (by omega) (Ev.succ ?_)
    simp only [spec_cuBefore.j1]
    cases u with
    | nil =>
      simp at hlb
      refine Ev.neg (by simp; omega) (Ev.eqr (Ev.now _) ?_)
      simp [cmpvI]
      omega
    | cons y u =>
      have hj : i < b.length := by simp at hlb; omega
      have hy : b[i] = y := by
        have h := List.drop_eq_getElem_cons hj
        rw [h2] at h
        injection h with h _
        exact h.symm
      have hu : b.drop (i + 1) = u := by
        have h := List.drop_eq_getElem_cons hj
        rw [h2] at h
        injection h with _ h
        exact h.symm
      refine Ev.pos (by simp; omega) (Ev.pos (by omega) (Ev.pos (by omega) (Ev.pos (by omega) ?_)))
      rw [rd_int a i hi, rd_int b i hj, hx, hy]
      by_cases e : x = y
      · refine Ev.pos e ?_
        rw [wrap64_id (by omega) (by omega)]
        refine Ev.eqr (ih u (i + 1) ht hu (by omega) (by omega)) ?_
        subst e
        simp [cmpvI]
      · refine Ev.neg e (Ev.eqr (Ev.now _) (decide_eq_decide.2 ?_))
        have hc : cmpvI (x :: t) (y :: u) = if x < y then -1 else if x > y then 1 else cmpvI t u := rfl
        rw [hc]
        by_cases h5 : x < y
        · rw [if_pos h5]; omega
        · rw [if_neg h5, if_pos (by omega)]; omega
theorem before_ev (a b : List Int) (ha : a.length ≤ 1000) (hb : b.length ≤ 1000) : Ev (fun k => spec_cuBefore.f k a b) (decide (cmpvI a b < 0)) := by
  unfold spec_cuBefore.f
  exact before_loop a b ha hb a b 0 rfl rfl (Nat.zero_le _) (Nat.zero_le _)
abbrev SoR (L : List (List Int)) : Prop := L.Pairwise (fun a b => ¬ cmpvI b a < 0)
theorem le_tr {a b c : List Int} (h : ¬ cmpvI b a < 0) (k : ¬ cmpvI c b < 0) : ¬ cmpvI c a < 0 := by
  have h1 := cmpvI_swap a b
  have h2 := cmpvI_swap b c
  have h3 := cmpvI_swap a c
  have h4 := (cmpvI_le a b c (by omega) (by omega)).1
  omega
theorem sor_ins {L : List (List Int)} (hs : SoR L) (x : List Int) (p : Nat) (hp : p ≤ L.length) (h1 : 0 < p → ¬ cmpvI x (L.getD (p - 1) []) < 0) (h2 : ∀ j, p ≤ j → j < L.length → cmpvI x (L.getD j []) < 0) :
    SoR (([] ++ L.take p ++ [x]) ++ L.drop p) := by
  have hs1 := hs
  rw [← List.take_append_drop p L] at hs1
  unfold SoR at hs1 ⊢
  rw [List.pairwise_append] at hs1
  rw [List.nil_append, List.append_assoc, List.pairwise_append]
  have hd : ∀ z ∈ L.drop p, ¬ cmpvI z x < 0 := by
    intro z hz
    obtain ⟨j, hj, rfl⟩ := List.getElem_of_mem hz
    rw [List.getElem_drop]
    simp at hj
    have h := h2 (p + j) (by omega) (by omega)
    rw [show L.getD (p + j) [] = L[p + j] by simp [List.getD, show p + j < L.length by omega]] at h
    have := cmpvI_swap x L[p + j]
    omega
  refine ⟨hs1.1, ?_, ?_⟩
  · rw [List.singleton_append, List.pairwise_cons]
    exact ⟨hd, hs1.2.1⟩
  · intro z hz y hy
    rw [List.singleton_append, List.mem_cons] at hy
    have hzx : ¬ cmpvI x z < 0 := by
      obtain ⟨j, hj, rfl⟩ := List.getElem_of_mem hz
      rw [List.getElem_take]
      simp at hj
      have hpp := h1 (by omega)
      rw [show L.getD (p - 1) [] = L[p - 1] by simp [List.getD, show p - 1 < L.length by omega]] at hpp
      by_cases e : j = p - 1
      · subst e; exact hpp
      · exact le_tr (List.pairwise_iff_getElem.1 hs j (p - 1) (by omega) (by omega) (by omega)) hpp
    rcases hy with rfl | hy
    · exact hzx
    · exact hs1.2.2 z hz y hy
theorem ins_perm (L : List (List Int)) (x : List Int) (p : Nat) : (([] ++ L.take p ++ [x]) ++ L.drop p).Perm (x :: L) := by
  rw [List.nil_append, List.append_assoc, List.singleton_append]
  refine List.perm_middle.trans ?_
  rw [List.take_append_drop]
theorem ins_ev (L : List (List Int)) (hL : L.length ≤ 100000) (hr : ∀ r ∈ L, r.length ≤ 1000) (hs : SoR L) (x : List Int) (hx : x.length ≤ 1000) (D : List (List Int)) (dl i : Int) (R : List (List Int) × Bool)
    (hQ : ∀ L', L'.Perm (x :: L) → SoR L' → Ev (fun k => spec_PartsOf.l0 k L' D dl (wrap64 (i + 1))) R) : ∀ n : Nat, n ≤ L.length → (∀ j, n ≤ j → j < L.length → cmpvI x (L.getD j []) < 0) →
    Ev (fun k => spec_PartsOf.l1 k L x (n : Int) D dl i) R := by
  intro n
  have fin : ∀ n : Nat, n ≤ L.length → (∀ j, n ≤ j → j < L.length → cmpvI x (L.getD j []) < 0) → (0 < n → ¬ cmpvI x (L.getD (n - 1) []) < 0) →
      Ev (fun k => (some (([] : List (List Int)) : List (List Int))).bind fun y186 => (if 0 ≤ (n : Int) then (if (n : Int) ≤ (L.length : Int) then ((some (L.take (n : Int).toNat : List (List Int))).bind fun y189 => (if y186.length + y189.length < 5864062014805 then ((some (y186 ++ y189 : List (List Int))).bind fun y194 => (if y194.length < 5864062014805 then ((some (y194 ++ [x] : List (List Int))).bind fun y197 => ((some (L.drop (n : Int).toNat : List (List Int))).bind fun y200 => (if y197.length + y200.length < 5864062014805 then (spec_PartsOf.l0 k (y197 ++ y200) D dl (wrap64 (i + 1))) else (none)))) else (none))) else (none))) else (none)) else (none))) R := by
    intro n hn h2 h1
    refine Ev.bindc rfl (Ev.pos (by omega) (Ev.pos (by omega) (Ev.bindc rfl (Ev.pos (by simp; omega) (Ev.bindc rfl (Ev.pos (by simp; omega) (Ev.bindc rfl (Ev.bindc rfl (Ev.pos (by simp; omega) ?_)))))))))
    rw [Int.toNat_natCast]
    exact hQ _ (ins_perm L x n) (sor_ins hs x n hn h1 h2)
  induction n with
  | zero =>
    intro hn h2
    refine Ev.succ ?_
    simp only [spec_PartsOf.l1]
    exact Ev.neg (by omega) (fin 0 hn h2 (fun h => absurd h (Nat.lt_irrefl _)))
  | succ n ih =>
    intro hn h2
    refine Ev.succ ?_
    simp only [spec_PartsOf.l1]
    refine Ev.pos (by omega) ?_
    rw [show wrap64 (((n + 1 : Nat) : Int) - 1) = (n : Int) from (wrap64_id (by omega) (by omega)).trans (by omega), rdLr]
    have hm : L.getD n [] ∈ L := by
      rw [show L.getD n [] = L[n] by simp [List.getD, show n < L.length by omega]]
      exact List.getElem_mem _
    refine Ev.pos (by omega) (Ev.pos (by omega) (Ev.bind (before_ev x (L.getD n []) hx (hr _ hm)) ?_))
    by_cases hc : cmpvI x (L.getD n []) < 0
    · refine Ev.pos (by simpa using hc) (ih (by omega) (fun j hj hj2 => ?_))
      by_cases e : j = n
      · subst e; exact hc
      · exact h2 j (by omega) hj2
    · exact Ev.neg (by simpa using hc) (fin (n + 1) hn h2 (fun _ => by simpa using hc))
theorem all_ev (D : List (List Int)) (hD : D.length ≤ 100000) (hr : ∀ r ∈ D, r.length ≤ 1000) (Q : List (List Int)) (hQ : Q.Perm D) (hQs : SoR Q) : ∀ (d i : Nat) (L : List (List Int)), D.length - i = d → i ≤ D.length → L.Perm (D.take i) → SoR L →
    Ev (fun k => spec_PartsOf.l0 k L D (D.length : Int) (i : Int)) (Q, true) := by
  intro d
  induction d with
  | zero =>
    intro i L hd hi hp hs
    refine Ev.succ ?_
    simp only [spec_PartsOf.l0]
    refine Ev.neg (by omega) (Ev.eqr (Ev.now _) ?_)
    rw [List.take_of_length_le (by omega)] at hp
    have e : L = Q := List.Perm.eq_of_pairwise (fun a b _ _ h1 h2 => by
      have := cmpvI_swap a b
      exact cmpvI_zero a b (by omega)) hs hQs (hp.trans hQ.symm)
    rw [e]
  | succ d ih =>
    intro i L hd hi hp hs
    have hl := hp.length_eq
    simp at hl
    have hx : D.getD i [] = D[i] := by simp [List.getD, show i < D.length by omega]
    refine Ev.succ ?_
    simp only [spec_PartsOf.l0]
    refine Ev.pos (by omega) (Ev.pos (by omega) (Ev.pos (by omega) ?_))
    rw [rdLr, hx]
    refine ins_ev L (by omega) (fun r h => hr r (List.mem_of_mem_take (hp.mem_iff.1 h))) hs D[i] (hr _ (List.getElem_mem _)) D _ _ _ (fun L' hp' hs' => ?_) L.length (Nat.le_refl _) (fun j h1 h2 => by omega)
    rw [show wrap64 ((i : Int) + 1) = ((i + 1 : Nat) : Int) from (wrap64_id (by omega) (by omega)).trans (by omega)]
    refine ih (i + 1) L' (by omega) (by omega) ?_ hs'
    rw [List.take_add_one, List.getElem?_eq_getElem (show i < D.length by omega)]
    refine hp'.trans ((List.Perm.cons _ hp).trans ?_)
    exact (List.perm_append_comm (l₁ := [D[i]]) (l₂ := D.take i))
theorem both_parts (W H : Int) (l : List Sq) : ∃ R : List (List Int) × Bool, R.1.length ≤ 1000 ∧ (∀ r ∈ R.1, r.length ≤ 1000) ∧ Ev (fun k => spec_PartsOf.f k W H l) R ∧ Ev (fun k => impl_PartsOf.f k W H l) R := by
  by_cases hg : Good W H l
  · have hl := hg.2.2.1.2
    have hA := allP_len l l.length
    have hA2 : l.length * l.length ≤ 30 * 30 := Nat.mul_le_mul hl hl
    obtain ⟨Q, hp, hs, e1, e2⟩ := parts_ev hg
    have hr : ∀ r ∈ allP l l.length, r.length ≤ 1000 := fun r h => by have := allP_row l l.length r h; omega
    refine ⟨(Q, true), by show Q.length ≤ 1000; rw [hp.length_eq]; omega, fun r h => hr r (hp.mem_iff.1 h), ?_, ?_⟩
    · unfold spec_PartsOf.f
      exact Ev.bind (spec_cuGood_ev W H l) (Ev.pos (decide_eq_true hg) (Ev.bind e2 (all_ev _ (by omega) hr Q hp hs _ 0 [] rfl (Nat.zero_le _) (by simp) List.Pairwise.nil)))
    · unfold impl_PartsOf.f
      exact Ev.bind (impl_IsCut_ev W H l) (Ev.pos (decide_eq_true hg) (Ev.bind e1 (Ev.now _)))
  · refine ⟨([], false), Nat.zero_le _, fun r hr => absurd hr (by simp), ?_, ?_⟩
    · unfold spec_PartsOf.f
      exact Ev.bind (spec_cuGood_ev W H l) (Ev.neg (by simpa using hg) (Ev.now _))
    · unfold impl_PartsOf.f
      exact Ev.bind (impl_IsCut_ev W H l) (Ev.neg (by simpa using hg) (Ev.now _))
theorem FnExactPartsOf : laws_FnExactPartsOf.Pure := by
  intro W H l _ _ hm _
  refine Ev.rounds (g := fun k => laws_FnExactPartsOf.f k W H l) ?_
  unfold laws_FnExactPartsOf.f
  refine Ev.bindc (szCut_eq W H l hm) ?_
  by_cases h : l.length ≤ 1048576
  · rw [if_pos h]
    obtain ⟨⟨R1, R2⟩, hR1, hR2, hs, hi⟩ := both_parts W H (l.map conv)
    simp only at hR1 hR2
    have hc : (l.map conv).length ≤ 1099511627776 := by simp; omega
    have he := eqIntSS_ev R1 (by omega) (fun r hr => by have := hR2 r hr; omega)
    have h0 := totL_nonneg R1
    have ht : totL R1 ≤ 1000000000000 := by
      have := totL_le 1000 R1 hR2
      omega
    have hk := markIntSS_ev R1 (by omega) ht
    have hh := heldIntSS_ev R1 (by omega) ht
    refine Ev.neg (by omega) (Ev.bind (toCut_ev W H l h) (Ev.bind hs (Ev.bind (toCut_ev W H l h) (Ev.bind hi ?_))))
    refine Ev.bind he (Ev.pos rfl (Ev.succ ?_))
    simp only [laws_FnExactPartsOf.j0]
    refine Ev.neg (by simp) (Ev.bind (toCut_ev W H l h) (Ev.bind (eqCut_ev W H _ hc) (Ev.pos rfl ?_)))
    obtain ⟨y, hy⟩ := markCut_ev W H (l.map conv) hc
    refine Ev.bind hy (Ev.neg (by simp only; omega) (Ev.bind he (Ev.pos rfl (Ev.succ ?_))))
    simp only [laws_FnExactPartsOf.j1]
    refine Ev.neg (by simp) (Ev.bind hk (Ev.bind hh ?_))
    refine Ev.neg (by omega) (Ev.pos rfl (Ev.bind (toCut_ev W H l h) (Ev.bind hi (Ev.bind he (Ev.pos rfl (Ev.succ ?_))))))
    simp only [laws_FnExactPartsOf.j2]
    refine Ev.neg (by simp) (Ev.bind hh (Ev.neg (by omega) (Ev.pos rfl (Ev.now _))))
  · rw [if_neg h]
    exact Ev.pos (by omega) (Ev.now _)

end Go.Proofs.Ytmmcbdndelaeoaa.Pure
