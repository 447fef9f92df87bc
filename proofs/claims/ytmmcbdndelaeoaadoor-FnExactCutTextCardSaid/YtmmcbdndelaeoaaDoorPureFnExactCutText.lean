/- The program's CutText and the reference's return the same for all arguments: the numerals of the rectangle and of all squares with signs between them. -/
import Derived.Test.YtmmcbdndelaeoaaDoorPFnExactCutTextx7
import Derived.Test.YtmmcbdndelaeoaaDoorPFnExactCutTextx0
import Derived.Test.YtmmcbdndelaeoaaDoorPFnExactCutTextx1
import Derived.Test.YtmmcbdndelaeoaaDoorPFnExactCutTextx2
import Derived.Test.YtmmcbdndelaeoaaDoorPFnExactCutTextx3
import Derived.Test.YtmmcbdndelaeoaaDoorPFnExactCutTextx4
import Derived.Test.YtmmcbdndelaeoaaDoorPFnExactCutTextx5
import Derived.Test.YtmmcbdndelaeoaaDoorPFnExactCutTextx6
import Derived.Test.YtmmcbdndelaeoaaDoorWGuardMoreInvWords
namespace Go.Proofs.YtmmcbdndelaeoaaDoor.Pure
open Go.RowKit Go.Proofs.YtmmcbdndelaeoaaDoor.PFnExactCutText Go.Proofs.YtmmcbdndelaeoaaDoorW.PrintWords Go.Proofs.YtmmcbdndelaeoaaDoorW.PrintLast Go.Proofs.YtmmcbdndelaeoaaDoorW.PrintMore Go.Proofs.YtmmcbdndelaeoaaDoorW.Evs
set_option linter.unusedVariables false
set_option linter.unusedSimpArgs false
/-! ### a cut: what the program's IsCut and the reference's cuGood answer -/
abbrev Sq := S83
def sqAt (l : List Sq) (j : Nat) : Sq := l.getD j z83
theorem rd_sq (l : List Sq) (j : Nat) : rd_T83 l (j : Int) = sqAt l j := by unfold rd_T83 sqAt; rw [Int.toNat_natCast]
theorem sqAt_get (l : List Sq) (j : Nat) (h : j < l.length) : sqAt l j = l[j] := by unfold sqAt; simp [List.getD, h]
theorem sqAt_mem (l : List Sq) (j : Nat) (h : j < l.length) : sqAt l j ∈ l := by rw [sqAt_get l j h]; exact List.getElem_mem h
/-- a square lies in the rectangle -/
def Ins (W H : Int) (s : Sq) : Prop := 1 ≤ s.f2 ∧ 0 ≤ s.f0 ∧ s.f0 + s.f2 ≤ W ∧ 0 ≤ s.f1 ∧ s.f1 + s.f2 ≤ H
instance (W H : Int) (s : Sq) : Decidable (Ins W H s) := by unfold Ins; infer_instance
def Less (a b : Sq) : Prop := a.f1 < b.f1 ∨ a.f1 = b.f1 ∧ a.f0 < b.f0
instance (a b : Sq) : Decidable (Less a b) := by unfold Less; infer_instance
def Ovl (a b : Sq) : Prop := a.f0 < b.f0 + b.f2 ∧ b.f0 < a.f0 + a.f2 ∧ a.f1 < b.f1 + b.f2 ∧ b.f1 < a.f1 + a.f2
instance (a b : Sq) : Decidable (Ovl a b) := by unfold Ovl; infer_instance
def OkAt (W H : Int) (l : List Sq) (i : Nat) : Prop := Ins W H (sqAt l i) ∧ (0 < i → Less (sqAt l (i - 1)) (sqAt l i)) ∧ ∀ j, j < i → ¬ Ovl (sqAt l i) (sqAt l j)
instance (W H : Int) (l : List Sq) (i : Nat) : Decidable (OkAt W H l i) := by unfold OkAt; infer_instance
def areaTo (l : List Sq) : Nat → Int
  | 0 => 0
  | n + 1 => areaTo l n + (sqAt l n).f2 * (sqAt l n).f2
/-- a width, a height and squares are a cut -/
def Good (W H : Int) (l : List Sq) : Prop := (1 ≤ W ∧ W ≤ 500) ∧ (1 ≤ H ∧ H ≤ 500) ∧ (1 ≤ l.length ∧ l.length ≤ 30) ∧ (∀ i, i < l.length → OkAt W H l i) ∧ areaTo l l.length = W * H
instance (W H : Int) (l : List Sq) : Decidable (Good W H l) := by unfold Good; infer_instance

theorem within_eq (a b c : Int) : impl_within.f a b c = some (decide (b ≤ a ∧ a ≤ c)) := by
  unfold impl_within.f
  by_cases h : b ≤ a
  · rw [if_pos h]; simp [h]
  · rw [if_neg h]; simp [h]
theorem isWide_eq (a : Int) : impl_isWide.f a = some (decide (1 ≤ a ∧ a ≤ 500)) := by
  unfold impl_isWide.f; rw [within_eq]; rfl
theorem l1In_eq (a b c : Int) : spec_l1In.f a b c = some (decide (b ≤ a ∧ a ≤ c)) := by
  unfold spec_l1In.f
  by_cases h : b ≤ a
  · rw [if_pos h]; simp [h]
  · rw [if_neg h]; simp [h]
theorem areaTo_bd (W H : Int) (l : List Sq) (hW : W ≤ 500) (hH : H ≤ 500) : ∀ n, n ≤ 30 → (∀ m, m < n → Ins W H (sqAt l m)) → 0 ≤ areaTo l n ∧ areaTo l n ≤ n * 250000
  | 0, _, _ => by simp [areaTo]
  | n + 1, hn, h => by
    obtain ⟨h1, h2⟩ := areaTo_bd W H l hW hH n (by omega) (fun m hm => h m (by omega))
    have hi := h n (by omega)
    unfold Ins at hi
    have q1 : 0 ≤ (sqAt l n).f2 * (sqAt l n).f2 := Int.mul_nonneg (by omega) (by omega)
    have q2 : (sqAt l n).f2 * (sqAt l n).f2 ≤ 500 * 500 := Int.mul_le_mul (by omega) (by omega) (by omega) (by omega)
    simp only [areaTo]
    omega
theorem sq_bd {W H : Int} {s : Sq} (hW : W ≤ 500) (hH : H ≤ 500) (h : Ins W H s) : 0 ≤ s.f2 * s.f2 ∧ s.f2 * s.f2 ≤ 250000 := by
  unfold Ins at h
  have q1 : 0 ≤ s.f2 * s.f2 := Int.mul_nonneg (by omega) (by omega)
  have q2 : s.f2 * s.f2 ≤ 500 * 500 := Int.mul_le_mul (by omega) (by omega) (by omega) (by omega)
  omega

theorem compare_eq {W H : Int} {a b : Sq} (hW : W ≤ 500) (hH : H ≤ 500) (ha : Ins W H a) (hb : Ins W H b) :
    ∃ c, impl_comparePlaces.f a.f0 a.f1 a.f2 b.f0 b.f1 b.f2 = some c ∧ (c < 0 ↔ Less a b) := by
  unfold Ins at ha hb
  unfold impl_comparePlaces.f Less
  by_cases e : a.f1 = b.f1
  · rw [if_pos e]; exact ⟨_, rfl, by rw [wrap64_id (by omega) (by omega)]; omega⟩
  · rw [if_neg e]; exact ⟨_, rfl, by rw [wrap64_id (by omega) (by omega)]; omega⟩
theorem overlap_eq {W H : Int} {a b : Sq} (hW : W ≤ 500) (hH : H ≤ 500) (ha : Ins W H a) (hb : Ins W H b) :
    impl_overlap.f a.f0 a.f1 a.f2 b.f0 b.f1 b.f2 = some (decide (Ovl a b)) := by
  unfold Ins at ha hb
  unfold impl_overlap.f Ovl
  rw [wrap64_id (by omega) (by omega), wrap64_id (by omega) (by omega), wrap64_id (by omega) (by omega), wrap64_id (by omega) (by omega)]
  by_cases h1 : a.f0 < b.f0 + b.f2
  · by_cases h2 : b.f0 < a.f0 + a.f2
    · by_cases h3 : a.f1 < b.f1 + b.f2
      · simp [h1, h2, h3]
      · simp [h1, h2, h3]
    · simp [h1, h2]
  · simp [h1]
theorem less_eq (a b : Sq) : spec_cuLess.f a.f0 a.f1 a.f2 b.f0 b.f1 b.f2 = some (decide (Less a b)) := by
  unfold spec_cuLess.f Less
  by_cases h1 : a.f1 < b.f1
  · rw [if_pos h1]; simp [h1]
  · rw [if_neg h1]
    by_cases h2 : a.f1 = b.f1
    · rw [if_pos h2]; simp [h2]
    · rw [if_neg h2]; simp [h1, h2]

/-! the program's own -/
theorem contains_eq {W H : Int} {l : List Sq} (hW : W ≤ 500) (hH : H ≤ 500) (i : Nat) (hi : i < l.length) (h : ∀ m, m ≤ i → Ins W H (sqAt l m)) :
    slices_ContainsFunc_impl_Square_impl_Square__impl_IsCut_1.f (l.take i) (sqAt l i).f0 (sqAt l i).f1 (sqAt l i).f2 = some (decide (∃ j, j < i ∧ Ovl (sqAt l i) (sqAt l j))) := by
  unfold slices_ContainsFunc_impl_Square_impl_Square__impl_IsCut_1.f
  congr 1
  rw [Bool.eq_iff_iff, List.any_eq_true, decide_eq_true_eq]
  constructor
  · rintro ⟨t, ht, hp⟩
    obtain ⟨j, hj⟩ := List.getElem?_of_mem ht
    have hj1 : j < (l.take i).length := (List.getElem?_eq_some_iff.1 hj).1
    have hj2 : j < i := by simp at hj1; omega
    have e : t = sqAt l j := by
      rw [List.getElem?_take_of_lt hj2, List.getElem?_eq_getElem (by omega)] at hj
      rw [sqAt_get l j (by omega)]; exact (Option.some.inj hj).symm
    subst e
    rw [overlap_eq hW hH (h i (Nat.le_refl _)) (h j (by omega))] at hp
    exact ⟨j, hj2, by simpa using hp⟩
  · rintro ⟨j, hj, ho⟩
    refine ⟨sqAt l j, ?_, ?_⟩
    · rw [sqAt_get l j (by omega)]
      exact List.mem_take_iff_getElem.2 ⟨j, by omega, rfl⟩
    · rw [overlap_eq hW hH (h i (Nat.le_refl _)) (h j (by omega))]; simpa using ho

theorem okFrom_step (W H : Int) (l : List Sq) (i : Nat) : (∀ m, i ≤ m → m < l.length → OkAt W H l m) ↔ (i < l.length → OkAt W H l i) ∧ (∀ m, i + 1 ≤ m → m < l.length → OkAt W H l m) :=
  ⟨fun h => ⟨fun hi => h i (Nat.le_refl _) hi, fun m h1 h2 => h m (by omega) h2⟩, fun ⟨h1, h2⟩ m h3 h4 => by
    by_cases e : i = m
    · subst e; exact h1 h4
    · exact h2 m (by omega) h4⟩

theorem impl_loop {W H : Int} {l : List Sq} (hW : 1 ≤ W ∧ W ≤ 500) (hH : 1 ≤ H ∧ H ≤ 500) (hl : l.length ≤ 30) : ∀ (d i : Nat), l.length - i = d → i ≤ l.length → (∀ m, m < i → OkAt W H l m) →
    ∀ r : Bool, (r = true ↔ (∀ m, i ≤ m → m < l.length → OkAt W H l m) ∧ areaTo l l.length = W * H) → Ev (fun k => impl_IsCut.l0 k (areaTo l i) l (l.length : Int) (i : Int) W H l) r := by
  intro d
  induction d with
  | zero =>
    intro i hd hi hok r hr
    obtain rfl : i = l.length := by omega
    have bd := areaTo_bd W H l hW.2 hH.2 l.length hl (fun m hm => (hok m hm).1)
    have w1 : W * H ≤ 500 * 500 := Int.mul_le_mul (by omega) (by omega) (by omega) (by omega)
    have w0 : 0 ≤ W * H := Int.mul_nonneg (by omega) (by omega)
    refine Ev.succ ?_
    simp only [impl_IsCut.l0]
    refine Ev.neg (by omega) ?_
    rw [wrap64_id (by omega) (by omega)]
    refine Ev.eqr (Ev.now _) ?_
    rw [Bool.eq_iff_iff, hr, beq_iff_eq]
    exact ⟨fun h => ⟨fun m h1 h2 => by omega, h⟩, fun h => h.2⟩
  | succ d ih =>
    intro i hd hi hok r hr
    have hlt : i < l.length := by omega
    rw [okFrom_step] at hr
    refine Ev.succ ?_
    simp only [impl_IsCut.l0, rd_sq]
    refine Ev.pos (by omega) (Ev.pos (by omega) (Ev.pos (by omega) ?_))
    have hmn : mn W H ≤ 500 := by unfold mn; split <;> omega
    have fall : ∀ r : Bool, r = false → Ev (fun k => impl_IsCut.j2 k (areaTo l i) (i : Int) l (l.length : Int) (i : Int) true W H l (sqAt l i).f0 (sqAt l i).f1 (sqAt l i).f2) r := by
      rintro _ rfl
      refine Ev.succ ?_
      simp only [impl_IsCut.j2]
      exact Ev.pos trivial (Ev.now _)
    have rf : ¬ OkAt W H l i → r = false := fun h => by
      cases hq : r with
      | false => rfl
      | true => exact absurd ((hr.1 hq).1.1 hlt) h
    have mnle : mn W H ≤ W ∧ mn W H ≤ H ∧ (mn W H = W ∨ mn W H = H) := by unfold mn; split <;> omega
    refine Ev.bindc (within_eq _ _ _) ?_
    by_cases c1 : 1 ≤ (sqAt l i).f2 ∧ (sqAt l i).f2 ≤ mn W H
    · rw [decide_eq_true c1]
      refine Ev.pos rfl (Ev.bindc (within_eq _ _ _) ?_)
      rw [wrap64_id (by omega) (by omega)]
      by_cases c2 : 0 ≤ (sqAt l i).f0 ∧ (sqAt l i).f0 ≤ W - (sqAt l i).f2
      · rw [decide_eq_true c2]
        refine Ev.pos rfl (Ev.bindc (within_eq _ _ _) ?_)
        rw [wrap64_id (by omega) (by omega)]
        by_cases c3 : 0 ≤ (sqAt l i).f1 ∧ (sqAt l i).f1 ≤ H - (sqAt l i).f2
        · rw [decide_eq_true c3]
          have hins : Ins W H (sqAt l i) := by unfold Ins; omega
          have hall : ∀ m, m ≤ i → Ins W H (sqAt l m) := fun m hm => by
            by_cases e : m = i
            · rw [e]; exact hins
            · exact (hok m (by omega)).1
          refine Ev.succ ?_
          simp only [impl_IsCut.j2, Bool.not_true]
          refine Ev.neg (by decide) ?_
          have bd := areaTo_bd W H l hW.2 hH.2 i (by omega) (fun m hm => hall m (by omega))
          have qb := sq_bd hW.2 hH.2 hins
          have tn : ((i : Int)).toNat = i := Int.toNat_natCast i
          have next : (∀ j, j < i → ¬ Ovl (sqAt l i) (sqAt l j)) → (0 < i → Less (sqAt l (i - 1)) (sqAt l i)) → Ev (fun k => impl_IsCut.l0 k (wrap64 (areaTo l i + wrap64 ((sqAt l i).f2 * (sqAt l i).f2))) l (l.length : Int) (wrap64 ((i : Int) + 1)) W H l) r := by
            intro ho hlss
            have hk : OkAt W H l i := ⟨hins, hlss, ho⟩
            rw [wrap64_id (n := (sqAt l i).f2 * (sqAt l i).f2) (by omega) (by omega), wrap64_id (n := areaTo l i + (sqAt l i).f2 * (sqAt l i).f2) (by omega) (by omega), wrap64_id (n := (i : Int) + 1) (by omega) (by omega)]
            have := ih (i + 1) (by omega) (by omega) (fun m hm => by
              by_cases e : m = i
              · rw [e]; exact hk
              · exact hok m (by omega)) r (by rw [hr]; exact ⟨fun h => ⟨h.1.2, h.2⟩, fun h => ⟨⟨fun _ => hk, h.1⟩, h.2⟩⟩)
            exact this
          have cont : (0 < i → Less (sqAt l (i - 1)) (sqAt l i)) → Ev (fun k => if 0 ≤ (i : Int) then if (i : Int) ≤ (l.length : Int) then (slices_ContainsFunc_impl_Square_impl_Square__impl_IsCut_1.f (l.take ((i : Int)).toNat) (sqAt l i).f0 (sqAt l i).f1 (sqAt l i).f2).bind fun t => if t = true then some false else impl_IsCut.l0 k (wrap64 (areaTo l i + wrap64 ((sqAt l i).f2 * (sqAt l i).f2))) l (l.length : Int) (wrap64 ((i : Int) + 1)) W H l else none else none) r := by
            intro hlss
            refine Ev.pos (by omega) (Ev.pos (by omega) ?_)
            rw [tn]
            refine Ev.bindc (contains_eq hW.2 hH.2 i hlt hall) ?_
            by_cases ho : ∃ j, j < i ∧ Ovl (sqAt l i) (sqAt l j)
            · rw [decide_eq_true ho]
              refine Ev.pos rfl (Ev.eqr (Ev.now _) (rf fun hk => ?_).symm)
              obtain ⟨j, hj, hq⟩ := ho
              exact hk.2.2 j hj hq
            · rw [decide_eq_false ho]
              exact Ev.neg (by decide) (next (fun j hj hq => ho ⟨j, hj, hq⟩) hlss)
          by_cases hi0 : (i : Int) > 0
          · refine Ev.pos hi0 ?_
            have e1 : wrap64 ((i : Int) - 1) = ((i - 1 : Nat) : Int) := by rw [wrap64_id (by omega) (by omega)]; omega
            simp only [e1, rd_sq]
            refine Ev.pos (by omega) (Ev.pos (by omega) ?_)
            obtain ⟨c, hc, hcl⟩ := compare_eq hW.2 hH.2 (hall (i - 1) (by omega)) hins
            refine Ev.bindc hc ?_
            by_cases c4 : c ≥ 0
            · refine Ev.pos c4 (Ev.eqr (Ev.now _) (rf fun hk => ?_).symm)
              have := hcl.2 (hk.2.1 (by omega))
              omega
            · exact Ev.neg c4 (cont fun _ => hcl.1 (by omega))
          · exact Ev.neg hi0 (cont fun h => by omega)
        · rw [decide_eq_false c3]
          exact fall _ (rf fun h => c3 (by have := h.1; unfold Ins at this; omega))
      · rw [decide_eq_false c2]
        exact Ev.neg (by decide) (fall _ (rf fun h => c2 (by have := h.1; unfold Ins at this; omega)))
    · rw [decide_eq_false c1]
      refine Ev.neg (by decide) (fall _ (rf fun h => c1 ?_))
      have := h.1
      unfold Ins at this
      rcases mnle.2.2 with e | e <;> omega

theorem impl_IsCut_ev (W H : Int) (l : List Sq) : Ev (fun k => impl_IsCut.f k W H l) (decide (Good W H l)) := by
  unfold impl_IsCut.f
  have fall : ∀ r : Bool, r = false → Ev (fun k => impl_IsCut.j0 k true W H l) r := by
    rintro _ rfl
    refine Ev.succ ?_
    simp only [impl_IsCut.j0]
    exact Ev.pos trivial (Ev.now _)
  refine Ev.bindc (isWide_eq _) ?_
  by_cases c1 : 1 ≤ W ∧ W ≤ 500
  · rw [decide_eq_true c1]
    refine Ev.pos rfl (Ev.bindc (isWide_eq _) ?_)
    by_cases c2 : 1 ≤ H ∧ H ≤ 500
    · rw [decide_eq_true c2]
      refine Ev.pos rfl ?_
      by_cases c3 : (l.length : Int) > 30
      · rw [decide_eq_true c3]
        exact fall _ (decide_eq_false fun h => by have := h.2.2.1; omega)
      · rw [decide_eq_false c3]
        refine Ev.succ ?_
        simp only [impl_IsCut.j0]
        refine Ev.neg (by decide) ?_
        have := impl_loop (l := l) c1 c2 (by omega) l.length 0 (by omega) (Nat.zero_le _) (fun m hm => by omega) (decide (Good W H l)) ?_
        · exact this
        · rw [decide_eq_true_eq]
          constructor
          · intro h; exact ⟨fun m _ h2 => h.2.2.2.1 m h2, h.2.2.2.2⟩
          · intro h
            refine ⟨c1, c2, ⟨?_, (by omega : l.length ≤ 30)⟩, fun m hm => h.1 m (Nat.zero_le _) hm, h.2⟩
            cases hl : l with
            | nil =>
              subst hl
              have e : (0 : Int) = W * H := h.2
              have : 0 < W * H := Int.mul_pos (by omega) (by omega)
              omega
            | cons a t => simp
    · rw [decide_eq_false c2]
      exact Ev.neg (by decide) (fall _ (decide_eq_false fun h => c2 h.2.1))
  · rw [decide_eq_false c1]
    exact Ev.neg (by decide) (fall _ (decide_eq_false fun h => c1 h.1))

/-! the reference's own -/
/-- what the inner loop of the reference asks of the squares from place j on -/
def InnerOk (l : List Sq) (i j : Nat) : Prop := ∀ m, j ≤ m → m < i → ¬ Ovl (sqAt l i) (sqAt l m) ∧ (m + 1 = i → Less (sqAt l m) (sqAt l i))
theorem inner_step (l : List Sq) (i j : Nat) (h : j < i) : InnerOk l i j ↔ (¬ Ovl (sqAt l i) (sqAt l j) ∧ (j + 1 = i → Less (sqAt l j) (sqAt l i))) ∧ InnerOk l i (j + 1) :=
  ⟨fun h1 => ⟨h1 j (Nat.le_refl _) h, fun m h2 h3 => h1 m (by omega) h3⟩, fun ⟨h1, h2⟩ m h3 h4 => by
    by_cases e : j = m
    · subst e; exact h1
    · exact h2 m (by omega) h4⟩
theorem inner_ok (W H : Int) (l : List Sq) (i : Nat) : OkAt W H l i ↔ Ins W H (sqAt l i) ∧ InnerOk l i 0 := by
  unfold OkAt InnerOk
  constructor
  · rintro ⟨h1, h2, h3⟩
    refine ⟨h1, fun m _ hm => ⟨h3 m hm, fun e => ?_⟩⟩
    have := h2 (by omega)
    rw [show i - 1 = m by omega] at this
    exact this
  · rintro ⟨h1, h2⟩
    exact ⟨h1, fun hi => (h2 (i - 1) (Nat.zero_le _) (by omega)).2 (by omega), fun j hj => (h2 j (Nat.zero_le _) hj).1⟩

theorem spec_inner {W H : Int} {l : List Sq} (hW : 1 ≤ W ∧ W ≤ 500) (hH : 1 ≤ H ∧ H ≤ 500) (hl : l.length ≤ 30) (i : Nat) (hi : i < l.length) (hall : ∀ m, m ≤ i → Ins W H (sqAt l m)) (A : Int) (r : Bool)
    (hgood : InnerOk l i 0 → Ev (fun k => spec_cuGood.l0 k A l (l.length : Int) ((i : Int) + 1) W H l) r) (hbad : ¬ InnerOk l i 0 → r = false) :
    ∀ (d j : Nat), i - j = d → j ≤ i → (InnerOk l i j ↔ InnerOk l i 0) →
      Ev (fun k => spec_cuGood.l1 k A (i : Int) l (l.length : Int) (i : Int) (l.take i) (i : Int) (j : Int) W H l (sqAt l i).f0 (sqAt l i).f1 (sqAt l i).f2) r := by
  intro d
  induction d with
  | zero =>
    intro j hd hj hiff
    obtain rfl : j = i := by omega
    refine Ev.succ ?_
    simp only [spec_cuGood.l1]
    refine Ev.neg (by omega) ?_
    rw [wrap64_id (by omega) (by omega)]
    exact hgood (hiff.1 fun m h1 h2 => by omega)
  | succ d ih =>
    intro j hd hj hiff
    have hlt : j < i := by omega
    have tk : (l.take i).length = i := by rw [List.length_take]; omega
    have et : sqAt (l.take i) j = sqAt l j := by
      rw [sqAt_get _ _ (by omega), sqAt_get _ _ (by omega), List.getElem_take]
    rw [inner_step l i j hlt] at hiff
    refine Ev.succ ?_
    simp only [spec_cuGood.l1, rd_sq, et, tk]
    refine Ev.pos (by omega) (Ev.pos (by omega) (Ev.pos (by omega) ?_))
    have a := hall i (Nat.le_refl _)
    have b := hall j (by omega)
    have j4 : ∀ b : Bool, b = decide (Ovl (sqAt l i) (sqAt l j)) → Ev (fun k => spec_cuGood.j4 k A (i : Int) (j : Int) l (l.length : Int) (i : Int) (l.take i) (i : Int) (j : Int) b W H l (sqAt l i).f0 (sqAt l i).f1 (sqAt l i).f2 (sqAt l j).f0 (sqAt l j).f1 (sqAt l j).f2) r := by
      rintro b rfl
      refine Ev.succ ?_
      simp only [spec_cuGood.j4]
      by_cases ho : Ovl (sqAt l i) (sqAt l j)
      · exact Ev.pos (decide_eq_true ho) (Ev.eqr (Ev.now _) (hbad fun h => (hiff.2 h).1.1 ho).symm)
      · refine Ev.neg (by simpa using ho) ?_
        have e1 : wrap64 ((i : Int) - 1) = (i : Int) - 1 := wrap64_id (by omega) (by omega)
        have e2 : wrap64 ((j : Int) + 1) = ((j + 1 : Nat) : Int) := by rw [wrap64_id (by omega) (by omega)]; omega
        rw [e1, e2]
        by_cases hj1 : j + 1 = i
        · refine Ev.pos (by omega) (Ev.bindc (less_eq _ _) ?_)
          by_cases hls : Less (sqAt l j) (sqAt l i)
          · exact Ev.pos (decide_eq_true hls) (ih (j + 1) (by omega) (by omega) ⟨fun h => hiff.1 ⟨⟨ho, fun _ => hls⟩, h⟩, fun h => (hiff.2 h).2⟩)
          · exact Ev.neg (by simpa using hls) (Ev.eqr (Ev.now _) (hbad fun h => hls ((hiff.2 h).1.2 hj1)).symm)
        · exact Ev.neg (by omega) (ih (j + 1) (by omega) (by omega) ⟨fun h => hiff.1 ⟨⟨ho, fun e => absurd e hj1⟩, h⟩, fun h => (hiff.2 h).2⟩)
    unfold Ins at a b
    rw [wrap64_id (n := (sqAt l j).f0 + (sqAt l j).f2) (by omega) (by omega), wrap64_id (n := (sqAt l i).f0 + (sqAt l i).f2) (by omega) (by omega), wrap64_id (n := (sqAt l j).f1 + (sqAt l j).f2) (by omega) (by omega), wrap64_id (n := (sqAt l i).f1 + (sqAt l i).f2) (by omega) (by omega)]
    by_cases c1 : (sqAt l i).f0 < (sqAt l j).f0 + (sqAt l j).f2
    · refine Ev.pos c1 ?_
      by_cases c2 : (sqAt l j).f0 < (sqAt l i).f0 + (sqAt l i).f2
      · refine Ev.pos c2 ?_
        by_cases c3 : (sqAt l i).f1 < (sqAt l j).f1 + (sqAt l j).f2
        · refine Ev.pos c3 (j4 _ ?_)
          unfold Ovl
          simp [c1, c2, c3]
        · exact Ev.neg c3 (j4 _ (decide_eq_false fun h => c3 h.2.2.1).symm)
      · exact Ev.neg c2 (j4 _ (decide_eq_false fun h => c2 h.2.1).symm)
    · exact Ev.neg c1 (j4 _ (decide_eq_false fun h => c1 h.1).symm)

theorem spec_loop {W H : Int} {l : List Sq} (hW : 1 ≤ W ∧ W ≤ 500) (hH : 1 ≤ H ∧ H ≤ 500) (hl : l.length ≤ 30) : ∀ (d i : Nat), l.length - i = d → i ≤ l.length → (∀ m, m < i → OkAt W H l m) →
    ∀ r : Bool, (r = true ↔ (∀ m, i ≤ m → m < l.length → OkAt W H l m) ∧ areaTo l l.length = W * H) → Ev (fun k => spec_cuGood.l0 k (areaTo l i) l (l.length : Int) (i : Int) W H l) r := by
  intro d
  induction d with
  | zero =>
    intro i hd hi hok r hr
    obtain rfl : i = l.length := by omega
    have bd := areaTo_bd W H l hW.2 hH.2 l.length hl (fun m hm => (hok m hm).1)
    have w1 : W * H ≤ 500 * 500 := Int.mul_le_mul (by omega) (by omega) (by omega) (by omega)
    have w0 : 0 ≤ W * H := Int.mul_nonneg (by omega) (by omega)
    refine Ev.succ ?_
    simp only [spec_cuGood.l0]
    refine Ev.neg (by omega) ?_
    rw [wrap64_id (by omega) (by omega)]
    refine Ev.eqr (Ev.now _) ?_
    rw [Bool.eq_iff_iff, hr, beq_iff_eq]
    exact ⟨fun h => ⟨fun m h1 h2 => by omega, h⟩, fun h => h.2⟩
  | succ d ih =>
    intro i hd hi hok r hr
    have hlt : i < l.length := by omega
    rw [okFrom_step] at hr
    refine Ev.succ ?_
    simp only [spec_cuGood.l0, rd_sq]
    refine Ev.pos (by omega) (Ev.pos (by omega) (Ev.pos (by omega) ?_))
    have fall : ∀ r : Bool, r = false → Ev (fun k => spec_cuGood.j2 k (areaTo l i) (i : Int) l (l.length : Int) (i : Int) true W H l (sqAt l i).f0 (sqAt l i).f1 (sqAt l i).f2) r := by
      rintro _ rfl
      refine Ev.succ ?_
      simp only [spec_cuGood.j2]
      exact Ev.pos trivial (Ev.now _)
    have rf : ¬ OkAt W H l i → r = false := fun h => by
      cases hq : r with
      | false => rfl
      | true => exact absurd ((hr.1 hq).1.1 hlt) h
    refine Ev.bindc (l1In_eq _ _ _) ?_
    by_cases c1 : 1 ≤ (sqAt l i).f2 ∧ (sqAt l i).f2 ≤ 500
    · rw [decide_eq_true c1]
      refine Ev.pos rfl (Ev.bindc (l1In_eq _ _ _) ?_)
      rw [wrap64_id (by omega) (by omega)]
      by_cases c2 : 0 ≤ (sqAt l i).f0 ∧ (sqAt l i).f0 ≤ W - (sqAt l i).f2
      · rw [decide_eq_true c2]
        refine Ev.pos rfl (Ev.bindc (l1In_eq _ _ _) ?_)
        rw [wrap64_id (by omega) (by omega)]
        by_cases c3 : 0 ≤ (sqAt l i).f1 ∧ (sqAt l i).f1 ≤ H - (sqAt l i).f2
        · rw [decide_eq_true c3]
          have hins : Ins W H (sqAt l i) := by unfold Ins; omega
          have hall : ∀ m, m ≤ i → Ins W H (sqAt l m) := fun m hm => by
            by_cases e : m = i
            · rw [e]; exact hins
            · exact (hok m (by omega)).1
          have bd := areaTo_bd W H l hW.2 hH.2 i (by omega) (fun m hm => hall m (by omega))
          have qb := sq_bd hW.2 hH.2 hins
          refine Ev.succ ?_
          simp only [spec_cuGood.j2, Bool.not_true]
          refine Ev.neg (by decide) (Ev.pos (by omega) (Ev.pos (by omega) (Ev.bindc rfl ?_)))
          have tk : (l.take ((i : Int)).toNat).length = i := by rw [List.length_take]; omega
          have tn : ((i : Int)).toNat = i := Int.toNat_natCast i
          rw [tk, tn, wrap64_id (n := (sqAt l i).f2 * (sqAt l i).f2) (by omega) (by omega), wrap64_id (n := areaTo l i + (sqAt l i).f2 * (sqAt l i).f2) (by omega) (by omega)]
          have iok := inner_ok W H l i
          refine spec_inner hW hH hl i hlt hall _ r (fun hin => ?_) (fun hin => rf fun h => hin (iok.1 h).2) i 0 (by omega) (Nat.zero_le _) Iff.rfl
          have hk : OkAt W H l i := iok.2 ⟨hins, hin⟩
          have := ih (i + 1) (by omega) (by omega) (fun m hm => by
              by_cases e : m = i
              · rw [e]; exact hk
              · exact hok m (by omega)) r (by rw [hr]; exact ⟨fun h => ⟨h.1.2, h.2⟩, fun h => ⟨⟨fun _ => hk, h.1⟩, h.2⟩⟩)
          exact this
        · rw [decide_eq_false c3]
          exact fall _ (rf fun h => c3 (by have := h.1; unfold Ins at this; omega))
      · rw [decide_eq_false c2]
        exact Ev.neg (by decide) (fall _ (rf fun h => c2 (by have := h.1; unfold Ins at this; omega)))
    · rw [decide_eq_false c1]
      refine Ev.neg (by decide) (fall _ (rf fun h => c1 ?_))
      have := h.1
      unfold Ins at this
      omega

theorem spec_cuGood_ev (W H : Int) (l : List Sq) : Ev (fun k => spec_cuGood.f k W H l) (decide (Good W H l)) := by
  unfold spec_cuGood.f
  have fall : ∀ r : Bool, r = false → Ev (fun k => spec_cuGood.j0 k true W H l) r := by
    rintro _ rfl
    refine Ev.succ ?_
    simp only [spec_cuGood.j0]
    exact Ev.pos trivial (Ev.now _)
  refine Ev.bindc (l1In_eq _ _ _) ?_
  by_cases c1 : 1 ≤ W ∧ W ≤ 500
  · rw [decide_eq_true c1]
    refine Ev.pos rfl (Ev.bindc (l1In_eq _ _ _) ?_)
    by_cases c2 : 1 ≤ H ∧ H ≤ 500
    · rw [decide_eq_true c2]
      refine Ev.pos rfl (Ev.bindc (l1In_eq _ _ _) ?_)
      by_cases c3 : 1 ≤ (l.length : Int) ∧ (l.length : Int) ≤ 30
      · rw [decide_eq_true c3]
        refine Ev.succ ?_
        simp only [spec_cuGood.j0, Bool.not_true]
        refine Ev.neg (by decide) ?_
        refine spec_loop (l := l) c1 c2 (by omega) l.length 0 (by omega) (Nat.zero_le _) (fun m hm => by omega) (decide (Good W H l)) ?_
        rw [decide_eq_true_eq]
        exact ⟨fun h => ⟨fun m _ h2 => h.2.2.2.1 m h2, h.2.2.2.2⟩, fun h => ⟨c1, c2, by omega, fun m hm => h.1 m (Nat.zero_le _) hm, h.2⟩⟩
      · rw [decide_eq_false c3]
        exact fall _ (decide_eq_false fun h => c3 (by have := h.2.2.1; omega))
    · rw [decide_eq_false c2]
      exact Ev.neg (by decide) (fall _ (decide_eq_false fun h => c2 h.2.1))
  · rw [decide_eq_false c1]
    exact Ev.neg (by decide) (fall _ (decide_eq_false fun h => c1 h.1))

/-! ### squares from one package's type to the other's; lists that are the same -/
abbrev MSq := S95
def conv (q : MSq) : Sq := ⟨q.f0, q.f1, q.f2⟩
theorem rd_msq (l : List MSq) (j : Nat) (h : j < l.length) : rd_T95 l (j : Int) = l[j] := by unfold rd_T95; rw [Int.toNat_natCast]; simp [List.getD, h]
theorem toSq_loop (l : List MSq) (hl : l.length ≤ 1048576) : ∀ (d i : Nat) (x : List Sq), l.length - i = d → i ≤ l.length → x.length = l.length → (∀ m, m < i → x[m]? = (l.map conv)[m]?) →
    Ev (fun k => laws_toSquareS.l0 k l x (i : Int)) (l.map conv) := by
  intro d
  induction d with
  | zero =>
    intro i x hd hi hx h
    refine Ev.succ ?_
    simp only [laws_toSquareS.l0]
    refine Ev.neg (by omega) (Ev.eqr (Ev.now _) ?_)
    apply List.ext_getElem?
    intro m
    by_cases hm : m < i
    · exact h m hm
    · rw [List.getElem?_eq_none (by omega), List.getElem?_eq_none (by simp; omega)]
  | succ d ih =>
    intro i x hd hi hx h
    refine Ev.succ ?_
    simp only [laws_toSquareS.l0]
    refine Ev.pos (by omega) (Ev.pos (by omega) (Ev.bindc rfl (Ev.pos (by omega) ?_)))
    rw [Int.toNat_natCast, wrap64_id (by omega) (by omega)]
    refine ih (i + 1) _ (by omega) (by omega) (by simp; omega) (fun m hm => ?_)
    rw [rd_msq l i (by omega)]
    by_cases e : m = i
    · subst e
      rw [List.getElem?_set_self (by omega), List.getElem?_map, List.getElem?_eq_getElem (by omega)]; rfl
    · rw [List.getElem?_set_ne (by omega)]; exact h m (by omega)
theorem toSquareS_ev (l : List MSq) (hl : l.length ≤ 1048576) : Ev (fun k => laws_toSquareS.f k l) (l.map conv) := by
  unfold laws_toSquareS.f
  refine Ev.pos (by omega) (Ev.pos (by omega) ?_)
  exact toSq_loop l hl l.length 0 _ (by omega) (Nat.zero_le _) (by simp) (fun m hm => by omega)
theorem toCut_ev (W H : Int) (l : List MSq) (hl : l.length ≤ 1048576) : Ev (fun k => laws_toCut.f k W H l) (W, H, l.map conv) := by
  unfold laws_toCut.f
  exact Ev.bind (toSquareS_ev l hl) (Ev.now _)
theorem eqSquareS_loop (l : List Sq) (hl : l.length ≤ 1099511627776) : ∀ (d i : Nat), l.length - i = d → i ≤ l.length → Ev (fun k => laws_eqSquareS.l0 k l l (i : Int)) true := by
  intro d
  induction d with
  | zero =>
    intro i hd hi
    refine Ev.succ ?_
    simp only [laws_eqSquareS.l0]
    exact Ev.neg (by omega) (Ev.now _)
  | succ d ih =>
    intro i hd hi
    refine Ev.succ ?_
    simp only [laws_eqSquareS.l0]
    refine Ev.pos (by omega) (Ev.pos (by omega) (Ev.pos (by omega) (Ev.bindc (a := true) (by unfold laws_eqSquare.f; simp) (Ev.pos rfl ?_))))
    rw [wrap64_id (by omega) (by omega)]
    exact ih (i + 1) (by omega) (by omega)
theorem eqSquareS_ev (l : List Sq) (hl : l.length ≤ 1099511627776) : Ev (fun k => laws_eqSquareS.f k l l) true := by
  unfold laws_eqSquareS.f
  exact Ev.pos rfl (eqSquareS_loop l hl l.length 0 (by omega) (Nat.zero_le _))
theorem eqCut_ev (W H : Int) (l : List Sq) (hl : l.length ≤ 1099511627776) : Ev (fun k => laws_eqCut.f k W H l W H l) true := by
  unfold laws_eqCut.f
  exact Ev.pos rfl (Ev.pos rfl (Ev.bind (eqSquareS_ev l hl) (Ev.pos rfl (Ev.now _))))
theorem szCut_eq (W H : Int) (l : List MSq) (hl : l.length ≤ maxLen) : laws_szCut.f W H l 1048576 = some (if l.length ≤ 1048576 then 1048576 - (l.length : Int) else -1) := by
  have h0 : maxLen ≤ 9223372036854775807 := by decide
  unfold laws_szCut.f laws_szSquareS.f
  rw [wrap64_id (by omega) (by omega)]
  by_cases h : l.length ≤ 1048576
  · rw [if_neg (by omega), Option.bind_some, if_neg (by omega), if_pos h]
  · rw [if_pos (by omega), Option.bind_some, if_pos (by omega), if_neg h]

/-! ### texts: numerals and what is joined -/
def mk (l : List UInt8) : ByteArray := ⟨l.toArray⟩
theorem mk_app (a b : List UInt8) : mk a ++ mk b = mk (a ++ b) := by
  unfold mk
  apply ByteArray.ext
  rw [ByteArray.data_append]
  simp
theorem mk_size (a : List UInt8) : (mk a).size = a.length := by simp [mk, ByteArray.size]
theorem mk_data (a : List UInt8) : (mk a).data.toList = a := by simp [mk]
abbrev dd (a : Int) : List UInt8 := Lib.decDigits a.toNat
theorem dd_one (u : Nat) (h : u < 10) : Lib.decDigits u = [UInt8.ofNat (48 + u)] := by rw [Lib.decDigits, dif_pos h]
theorem dd_two (u : Nat) (h : ¬ u < 10) : Lib.decDigits u = Lib.decDigits (u / 10) ++ [UInt8.ofNat (48 + u % 10)] := by rw [Lib.decDigits, dif_neg h]
theorem dd_len2 (u : Nat) (h : u < 100) : (Lib.decDigits u).length ≤ 2 := by
  by_cases h1 : u < 10
  · rw [dd_one u h1]; simp
  · rw [dd_two u h1, dd_one (u / 10) (by omega)]; simp
theorem dd_len (u : Nat) (h : u < 1000) : (Lib.decDigits u).length ≤ 3 := by
  by_cases h1 : u < 10
  · rw [dd_one u h1]; simp
  · rw [dd_two u h1]
    have := dd_len2 (u / 10) (by omega)
    simp only [List.length_append, List.length_cons, List.length_nil]
    omega
theorem num_one (a : Int) (h0 : 0 ≤ a) (h1 : a < 10) : strOfNums [(wrap64 (48 + a)) % 256] = mk (dd a) := by
  rw [wrap64_id (by omega) (by omega)]
  unfold mk dd strOfNums
  rw [dd_one a.toNat (by omega)]
  simp only [List.map_cons, List.map_nil]
  rw [show ((48 + a) % 256).toNat = 48 + a.toNat by omega]
theorem l1Num_one (a : Int) (h0 : 0 ≤ a) (h : a < 10) : Ev (fun k => spec_l1Num.f k a) (mk (dd a)) := by
  refine Ev.succ ?_
  simp only [spec_l1Num.f]
  exact Ev.pos h (Ev.eqr (Ev.now _) (num_one a h0 h))
theorem l1Num_step (a : Int) (h0 : 10 ≤ a) (h1 : a < 1000) (hq : Ev (fun k => spec_l1Num.f k (a / 10)) (mk (dd (a / 10)))) : Ev (fun k => spec_l1Num.f k a) (mk (dd a)) := by
  refine Ev.succ ?_
  simp only [spec_l1Num.f]
  refine Ev.neg (by omega) ?_
  have e1 : Int.tdiv a 10 = a / 10 := Int.tdiv_eq_ediv_of_nonneg (by omega)
  have e2 : Int.tmod a 10 = a % 10 := Int.tmod_eq_emod_of_nonneg (by omega)
  rw [e1, e2, wrap64_id (n := a / 10) (by omega) (by omega)]
  refine Ev.bind hq (Ev.bindc rfl ?_)
  have e3 := num_one (a % 10) (by omega) (by omega)
  rw [e3]
  have l1 := dd_len (a / 10).toNat (by omega)
  have l2 := dd_len (a % 10).toNat (by omega)
  refine Ev.pos (by rw [mk_size, mk_size]; show (Lib.decDigits (a / 10).toNat).length + (Lib.decDigits (a % 10).toNat).length ≤ _; omega) (Ev.eqr (Ev.now _) ?_)
  rw [mk_app]
  congr 1
  show Lib.decDigits (a / 10).toNat ++ Lib.decDigits (a % 10).toNat = Lib.decDigits a.toNat
  rw [dd_two a.toNat (by omega), dd_one (a % 10).toNat (by omega), show (a / 10).toNat = a.toNat / 10 by omega, show (a % 10).toNat = a.toNat % 10 by omega]
theorem l1Num_ev (a : Int) (h0 : 0 ≤ a) (h1 : a < 1000) : Ev (fun k => spec_l1Num.f k a) (mk (dd a)) := by
  by_cases h : a < 10
  · exact l1Num_one a h0 h
  · refine l1Num_step a (by omega) h1 ?_
    by_cases h2 : a / 10 < 10
    · exact l1Num_one (a / 10) (by omega) h2
    · exact l1Num_step (a / 10) (by omega) (by omega) (l1Num_one (a / 10 / 10) (by omega) (by omega))
theorem itoa_eq (a : Int) (h0 : 0 ≤ a) (h1 : a < 1000) : strconv_Itoa_79.f a = some (mk (dd a)) := by
  unfold strconv_Itoa_79.f
  rw [if_pos ⟨h0, by omega⟩]
  rfl
theorem join_eq (l : List (List UInt8)) (s : List UInt8) (h1 : l.length ≤ 1000000) (h2 : (Lib.join l s).length ≤ 100000000) : strings_Join.f (l.map mk) (mk s) = some (mk (Lib.join l s)) := by
  have e : (l.map mk).map (·.data.toList) = l := by
    rw [List.map_map]
    refine (List.map_congr_left (fun x _ => ?_)).trans (List.map_id l)
    exact mk_data x
  unfold strings_Join.f
  rw [e, mk_data, if_pos ⟨by rw [List.length_map]; exact h1, h2⟩]
  rfl
theorem join_len (l : List (List UInt8)) (s : List UInt8) (b : Nat) (h : ∀ x ∈ l, x.length ≤ b) : (Lib.join l s).length ≤ l.length * (b + s.length) := by
  cases l with
  | nil => simp [Lib.join_nil]
  | cons x t =>
    rw [Lib.join_cons]
    have hx := h x (List.mem_cons_self)
    have ht : (Lib.joinTail s t).length ≤ t.length * (b + s.length) := by
      clear hx
      induction t with
      | nil => simp [Lib.joinTail]
      | cons y t ih =>
        have hy := h y (List.mem_cons_of_mem _ List.mem_cons_self)
        have := ih (fun z hz => h z ((List.mem_cons.1 hz).elim (fun e => e ▸ List.mem_cons_self) (fun hz => List.mem_cons_of_mem _ (List.mem_cons_of_mem _ hz))))
        have e : Lib.joinTail s (y :: t) = (s ++ y) ++ Lib.joinTail s t := by simp [Lib.joinTail]
        rw [e, List.length_append, List.length_append, List.length_cons, Nat.succ_mul]
        omega
    rw [List.length_append, List.length_cons, Nat.succ_mul]
    omega
/-- a list of small numbers, with signs between them -/
theorem list_loop (s : List UInt8) (hs : s.length ≤ 10) (l : List Int) (hl : l.length ≤ 1000) (hb : ∀ a ∈ l, 0 ≤ a ∧ a < 1000) : ∀ (t : List Int) (i : Nat), l.drop i = t → i + t.length = l.length →
    Ev (fun k => impl_listText.l0 k (mk s) (((l.take i).map dd).map mk) l (l.length : Int) (i : Int)) (mk (Lib.join (l.map dd) s)) := by
  intro t
  induction t with
  | nil =>
    intro i hd hi
    simp only [List.length_nil] at hi
    refine Ev.succ ?_
    simp only [impl_listText.l0]
    rw [List.take_of_length_le (by omega)]
    have hj := join_len (l.map dd) s 3 (fun x hx => by
      obtain ⟨a, ha, rfl⟩ := List.mem_map.1 hx
      have := hb a ha
      exact dd_len a.toNat (by omega))
    have h13 : (l.map dd).length * (3 + s.length) ≤ 1000 * 13 := by
      rw [List.length_map]
      exact Nat.mul_le_mul hl (by omega)
    exact Ev.neg (by omega) (Ev.bindc (join_eq _ s (by rw [List.length_map]; omega) (by omega)) (Ev.now _))
  | cons a t ih =>
    intro i hd hi
    simp only [List.length_cons] at hi
    have hi1 : i < l.length := by omega
    have e1 := List.drop_eq_getElem_cons hi1
    rw [hd] at e1
    injection e1 with e2 e3
    have hm : a ∈ l := by rw [e2]; exact List.getElem_mem _
    refine Ev.succ ?_
    simp only [impl_listText.l0]
    refine Ev.pos (by omega) (Ev.pos (by omega) (Ev.pos (by omega) ?_))
    rw [show rd l (i : Int) = a by unfold rd; rw [Int.toNat_natCast]; simp [List.getD, hi1, ← e2]]
    refine Ev.bindc (itoa_eq a (hb a hm).1 (hb a hm).2) (Ev.pos (by simp only [List.length_map, List.length_take]; omega) ?_)
    rw [wrap64_id (n := (i : Int) + 1) (by omega) (by omega)]
    have h := ih (i + 1) e3.symm (by omega)
    rw [List.take_add_one, List.getElem?_eq_getElem hi1, ← e2, List.map_append, List.map_append] at h
    exact h
theorem listText_ev (s : List UInt8) (hs : s.length ≤ 10) (l : List Int) (hl : l.length ≤ 1000) (hb : ∀ a ∈ l, 0 ≤ a ∧ a < 1000) : Ev (fun k => impl_listText.f k (mk s) l) (mk (Lib.join (l.map dd) s)) := by
  unfold impl_listText.f
  exact list_loop s hs l hl hb l 0 rfl (by omega)

/-! ### the text of a cut -/
abbrev st (s : Sq) : List UInt8 := [59] ++ (dd s.f0 ++ ([44] ++ (dd s.f1 ++ ([44] ++ dd s.f2))))
theorem num_all (a : Int) (h0 : 0 ≤ a) (h1 : a ≤ 500) : ∃ D : List UInt8, D = dd a ∧ D.length ≤ 3 ∧ Ev (fun k => spec_l1Num.f k a) (mk D) :=
  ⟨dd a, rfl, dd_len a.toNat (by omega), l1Num_ev a h0 (by omega)⟩
theorem cuText_loop {W H : Int} {l : List Sq} (hg : Good W H l) : ∀ (d i : Nat) (out : List UInt8), l.length - i = d → i ≤ l.length → out.length + 100 * d ≤ 100000 →
    Ev (fun k => spec_cuText.l0 k (mk out) l (l.length : Int) (i : Int)) (mk (out ++ ((l.drop i).map st).flatten)) := by
  have hl := hg.2.2.1
  intro d
  induction d with
  | zero =>
    intro i out hd hi ho
    refine Ev.succ ?_
    simp only [spec_cuText.l0]
    refine Ev.neg (by omega) (Ev.eqr (Ev.now _) ?_)
    rw [List.drop_eq_nil_of_le (by omega)]
    simp
  | succ d ih =>
    intro i out hd hi ho
    have hi1 : i < l.length := by omega
    obtain ⟨i1, i2, i3, i4, i5⟩ := (hg.2.2.2.1 i hi1).1
    have hw := hg.1
    have hh := hg.2.1
    obtain ⟨D0, e0, l0, v0⟩ := num_all (sqAt l i).f0 (by omega) (by omega)
    obtain ⟨D1, e1, l1, v1⟩ := num_all (sqAt l i).f1 (by omega) (by omega)
    obtain ⟨D2, e2, l2, v2⟩ := num_all (sqAt l i).f2 (by omega) (by omega)
    have es : st (sqAt l i) = [59] ++ (D0 ++ ([44] ++ (D1 ++ ([44] ++ D2)))) := by rw [e0, e1, e2]
    refine Ev.succ ?_
    simp only [spec_cuText.l0]
    rw [rd_sq]
    have c44 : (⟨#[44]⟩ : ByteArray) = mk [44] := rfl
    have c59 : (⟨#[59]⟩ : ByteArray) = mk [59] := rfl
    rw [c44, c59]
    refine Ev.pos (by omega) (Ev.pos (by omega) (Ev.pos (by omega) (Ev.bind v0 (Ev.pos (by rw [mk_size]; omega) (Ev.pos (by simp only [mk_app, mk_size, List.length_append, List.length_cons, List.length_nil]; omega) (Ev.bind v1 (Ev.pos (by simp only [mk_app, mk_size, List.length_append, List.length_cons, List.length_nil]; omega) (Ev.pos (by simp only [mk_app, mk_size, List.length_append, List.length_cons, List.length_nil]; omega) (Ev.bind v2 (Ev.pos (by simp only [mk_app, mk_size, List.length_append, List.length_cons, List.length_nil]; omega) (Ev.pos (by simp only [mk_app, mk_size, List.length_append, List.length_cons, List.length_nil]; omega) ?_)))))))))))
    simp only [mk_app]
    rw [wrap64_id (n := (i : Int) + 1) (by omega) (by omega)]
    have h := ih (i + 1) (out ++ ([59] ++ D0 ++ [44] ++ D1 ++ [44] ++ D2)) (by omega) (by omega) (by
      simp only [List.length_append, List.length_cons, List.length_nil]
      omega)
    refine Ev.eqr h ?_
    rw [List.drop_eq_getElem_cons hi1, List.map_cons, List.flatten_cons, ← sqAt_get l i hi1, es]
    congr 1
    simp only [List.append_assoc]
theorem impl_text_loop {W H : Int} {l : List Sq} (hg : Good W H l) : ∀ (d i : Nat) (out : List UInt8), l.length - i = d → i ≤ l.length → out.length + 100 * d ≤ 100000 →
    Ev (fun k => impl_cutText.l0 k (mk out) l (l.length : Int) (i : Int)) (mk (out ++ ((l.drop i).map st).flatten)) := by
  have hl := hg.2.2.1
  intro d
  induction d with
  | zero =>
    intro i out hd hi ho
    refine Ev.succ ?_
    simp only [impl_cutText.l0]
    refine Ev.neg (by omega) (Ev.eqr (Ev.now _) ?_)
    rw [List.drop_eq_nil_of_le (by omega)]
    simp
  | succ d ih =>
    intro i out hd hi ho
    have hi1 : i < l.length := by omega
    obtain ⟨i1, i2, i3, i4, i5⟩ := (hg.2.2.2.1 i hi1).1
    have hw := hg.1
    have hh := hg.2.1
    obtain ⟨D0, e0, l0, _⟩ := num_all (sqAt l i).f0 (by omega) (by omega)
    obtain ⟨D1, e1, l1, _⟩ := num_all (sqAt l i).f1 (by omega) (by omega)
    obtain ⟨D2, e2, l2, _⟩ := num_all (sqAt l i).f2 (by omega) (by omega)
    have es : st (sqAt l i) = [59] ++ (D0 ++ ([44] ++ (D1 ++ ([44] ++ D2)))) := by rw [e0, e1, e2]
    refine Ev.succ ?_
    simp only [impl_cutText.l0]
    rw [rd_sq]
    have c44 : (⟨#[44]⟩ : ByteArray) = mk [44] := rfl
    have c59 : (⟨#[59]⟩ : ByteArray) = mk [59] := rfl
    rw [c44, c59]
    have hlt := listText_ev [44] (by simp) [(sqAt l i).f0, (sqAt l i).f1, (sqAt l i).f2] (by simp) (fun a ha => by
      simp only [List.mem_cons, List.not_mem_nil, or_false] at ha
      rcases ha with rfl | rfl | rfl <;> omega)
    have e5 : Lib.join ([(sqAt l i).f0, (sqAt l i).f1, (sqAt l i).f2].map dd) [44] = D0 ++ ([44] ++ (D1 ++ ([44] ++ D2))) := by
      rw [List.map_cons, List.map_cons, List.map_cons, List.map_nil, Lib.join_cons, e0, e1, e2]
      simp [Lib.joinTail]
    rw [e5] at hlt
    refine Ev.pos (by omega) (Ev.pos (by omega) (Ev.pos (by omega) (Ev.bind hlt (Ev.pos (by simp only [mk_app, mk_size, List.length_append, List.length_cons, List.length_nil]; omega) (Ev.pos (by simp only [mk_app, mk_size, List.length_append, List.length_cons, List.length_nil]; omega) ?_)))))
    simp only [mk_app]
    rw [wrap64_id (n := (i : Int) + 1) (by omega) (by omega)]
    have h := ih (i + 1) (out ++ ([59] ++ (D0 ++ ([44] ++ (D1 ++ ([44] ++ D2)))))) (by omega) (by omega) (by
      simp only [List.length_append, List.length_cons, List.length_nil]
      omega)
    refine Ev.eqr h ?_
    rw [List.drop_eq_getElem_cons hi1, List.map_cons, List.flatten_cons, ← sqAt_get l i hi1, es]
    congr 1
    simp only [List.append_assoc]
theorem both_cutText {W H : Int} {l : List Sq} (hg : Good W H l) : ∃ t : List UInt8, Ev (fun k => spec_cuText.f k W H l) (mk t) ∧ Ev (fun k => impl_cutText.f k W H l) (mk t) := by
  have hw := hg.1
  have hh := hg.2.1
  have hl := hg.2.2.1
  obtain ⟨D0, e0, l0, v0⟩ := num_all W (by omega) (by omega)
  obtain ⟨D1, e1, l1, v1⟩ := num_all H (by omega) (by omega)
  refine ⟨(D0 ++ [120] ++ D1) ++ ((l.drop 0).map st).flatten, ?_, ?_⟩
  · unfold spec_cuText.f
    have c120 : (⟨#[120]⟩ : ByteArray) = mk [120] := rfl
    rw [c120]
    refine Ev.bind v0 (Ev.pos (by rw [mk_size]; omega) (Ev.bind v1 (Ev.pos (by simp only [mk_app, mk_size, List.length_append, List.length_cons, List.length_nil]; omega) ?_)))
    simp only [mk_app]
    exact cuText_loop hg l.length 0 _ (by omega) (Nat.zero_le _) (by simp only [List.length_append, List.length_cons, List.length_nil]; omega)
  · unfold impl_cutText.f
    have c120 : (⟨#[120]⟩ : ByteArray) = mk [120] := rfl
    rw [c120]
    have hlt := listText_ev [120] (by simp) [W, H] (by simp) (fun a ha => by
      simp only [List.mem_cons, List.not_mem_nil, or_false] at ha
      rcases ha with rfl | rfl <;> omega)
    have e5 : Lib.join ([W, H].map dd) [120] = D0 ++ [120] ++ D1 := by
      rw [List.map_cons, List.map_cons, List.map_nil, Lib.join_cons, e0, e1]
      simp [Lib.joinTail]
    rw [e5] at hlt
    exact Ev.bind hlt (impl_text_loop hg l.length 0 _ (by omega) (Nat.zero_le _) (by simp only [List.length_append, List.length_cons, List.length_nil]; omega))
theorem both_CutText (W H : Int) (l : List Sq) : ∃ R : ByteArray × Bool, Ev (fun k => spec_CutText.f k W H l) R ∧ Ev (fun k => impl_CutText.f k W H l) R := by
  by_cases hg : Good W H l
  · obtain ⟨t, h1, h2⟩ := both_cutText hg
    refine ⟨(mk t, true), ?_, ?_⟩
    · unfold spec_CutText.f
      exact Ev.bind (spec_cuGood_ev W H l) (Ev.pos (decide_eq_true hg) (Ev.bind h1 (Ev.now _)))
    · unfold impl_CutText.f
      exact Ev.bind (impl_IsCut_ev W H l) (Ev.pos (decide_eq_true hg) (Ev.bind h2 (Ev.now _)))
  · refine ⟨((⟨#[]⟩ : ByteArray), false), ?_, ?_⟩
    · unfold spec_CutText.f
      exact Ev.bind (spec_cuGood_ev W H l) (Ev.neg (by simpa using hg) (Ev.now _))
    · unfold impl_CutText.f
      exact Ev.bind (impl_IsCut_ev W H l) (Ev.neg (by simpa using hg) (Ev.now _))
theorem FnExactCutText : laws_FnExactCutText.Pure := by
  intro W H l _ _ hm _
  refine Ev.rounds (g := fun k => laws_FnExactCutText.f k W H l) ?_
  unfold laws_FnExactCutText.f
  refine Ev.bindc (szCut_eq W H l hm) ?_
  by_cases h : l.length ≤ 1048576
  · rw [if_pos h]
    have hm1 : (l.map conv).length ≤ 1099511627776 := by simp; omega
    obtain ⟨B, s1, s2⟩ := both_CutText W H (l.map conv)
    have qN := eqCut_ev W H (l.map conv) hm1
    have tN := toCut_ev W H l h
    refine Ev.neg (by omega) (Ev.bind tN (Ev.bind s1 (Ev.bind tN (Ev.bind s2 (Ev.pos rfl ?_)))))
    refine Ev.succ ?_
    simp only [laws_FnExactCutText.j0]
    exact Ev.neg (by simp) (Ev.bind tN (Ev.bind qN (Ev.pos rfl (Ev.now _))))
  · rw [if_neg h]
    exact Ev.pos (by omega) (Ev.now _)

end Go.Proofs.YtmmcbdndelaeoaaDoor.Pure
