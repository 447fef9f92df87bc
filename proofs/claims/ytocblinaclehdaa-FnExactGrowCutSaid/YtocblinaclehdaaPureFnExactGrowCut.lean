/- Cuts with all lengths as many times as great: they are cuts as long as they are not too wide. -/
import Derived.Test.YtocblinaclehdaaPFnExactGrowCutx8
import Derived.Test.YtocblinaclehdaaPFnExactGrowCutx0
import Derived.Test.YtocblinaclehdaaPFnExactGrowCutx1
import Derived.Test.YtocblinaclehdaaPFnExactGrowCutx2
import Derived.Test.YtocblinaclehdaaPFnExactGrowCutx3
import Derived.Test.YtocblinaclehdaaPFnExactGrowCutx4
import Derived.Test.YtocblinaclehdaaPFnExactGrowCutx5
import Derived.Test.YtocblinaclehdaaPFnExactGrowCutx6
import Derived.Test.YtocblinaclehdaaPFnExactGrowCutx7
import Derived.Test.YtocblinaclehdaaWGuardMoreInvWords
namespace Go.Proofs.Ytocblinaclehdaa.Pure
open Go.RowKit Go.Proofs.Ytocblinaclehdaa.PFnExactGrowCut Go.Proofs.YtocblinaclehdaaW.PrintWords Go.Proofs.YtocblinaclehdaaW.PrintLast Go.Proofs.YtocblinaclehdaaW.PrintMore Go.Proofs.YtocblinaclehdaaW.Evs
set_option linter.unusedVariables false
set_option linter.unusedSimpArgs false
/-! ### a cut: what the program's IsCut and the reference's cuGood answer -/
abbrev Sq := S59
def sqAt (l : List Sq) (j : Nat) : Sq := l.getD j z59
theorem rd_sq (l : List Sq) (j : Nat) : rd_T59 l (j : Int) = sqAt l j := by unfold rd_T59 sqAt; rw [Int.toNat_natCast]
theorem sqAt_get (l : List Sq) (j : Nat) (h : j < l.length) : sqAt l j = l[j] := by unfold sqAt; simp [List.getD, h]
theorem sqAt_mem (l : List Sq) (j : Nat) (h : j < l.length) : sqAt l j ∈ l := by rw [sqAt_get l j h]; exact List.getElem_mem h
/-- a square lies in the rectangle -/
def Ins (W H : Int) (s : Sq) : Prop := 1 ≤ s.f2 ∧ 0 ≤ s.f0 ∧ s.f0 + s.f2 ≤ W ∧ 0 ≤ s.f1 ∧ s.f1 + s.f2 ≤ H
instance (W H : Int) (s : Sq) : Decidable (Ins W H s) := by unfold Ins; infer_instance
def Less (a b : Sq) : Prop := a.f1 < b.f1 ∨ a.f1 = b.f1 ∧ a.f0 < b.f0
instance (a b : Sq) : Decidable (Less a b) := by unfold Less; infer_instance
def Ovl (a b : Sq) : Prop := a.f0 < b.f0 + b.f2 ∧ b.f0 < a.f0 + a.f2 ∧ a.f1 < b.f1 + b.f2 ∧ b.f1 < a.f1 + a.f2
instance (a b : Sq) : Decidable (Ovl a b) := by unfold Ovl; infer_instance
def OkAt (W H : Int) (l : List Sq) (i : Nat) : Prop := Ins W H (sqAt l i) ∧ (0 < i → Less (sqAt l (i - 1)) (sqAt l i)) ∧ ∀ j, j < i → ¬ Ovl (sqAt l i) (sqAt l j)
instance (W H : Int) (l : List Sq) (i : Nat) : Decidable (OkAt W H l i) := by unfold OkAt; infer_instance
def areaTo (l : List Sq) : Nat → Int
  | 0 => 0
  | n + 1 => areaTo l n + (sqAt l n).f2 * (sqAt l n).f2
/-- a width, a height and squares are a cut -/
def Good (W H : Int) (l : List Sq) : Prop := (1 ≤ W ∧ W ≤ 500) ∧ (1 ≤ H ∧ H ≤ 500) ∧ (1 ≤ l.length ∧ l.length ≤ 30) ∧ (∀ i, i < l.length → OkAt W H l i) ∧ areaTo l l.length = W * H
instance (W H : Int) (l : List Sq) : Decidable (Good W H l) := by unfold Good; infer_instance

theorem within_eq (a b c : Int) : impl_within.f a b c = some (decide (b ≤ a ∧ a ≤ c)) := by
  unfold impl_within.f
  by_cases h : b ≤ a
  · rw [if_pos h]; simp [h]
  · rw [if_neg h]; simp [h]
theorem isWide_eq (a : Int) : impl_isWide.f a = some (decide (1 ≤ a ∧ a ≤ 500)) := by
  unfold impl_isWide.f; rw [within_eq]; rfl
theorem l1In_eq (a b c : Int) : spec_l1In.f a b c = some (decide (b ≤ a ∧ a ≤ c)) := by
  unfold spec_l1In.f
  by_cases h : b ≤ a
  · rw [if_pos h]; simp [h]
  · rw [if_neg h]; simp [h]
theorem areaTo_bd (W H : Int) (l : List Sq) (hW : W ≤ 500) (hH : H ≤ 500) : ∀ n, n ≤ 30 → (∀ m, m < n → Ins W H (sqAt l m)) → 0 ≤ areaTo l n ∧ areaTo l n ≤ n * 250000
  | 0, _, _ => by simp [areaTo]
  | n + 1, hn, h => by
    obtain ⟨h1, h2⟩ := areaTo_bd W H l hW hH n (by omega) (fun m hm => h m (by omega))
    have hi := h n (by omega)
    unfold Ins at hi
    have q1 : 0 ≤ (sqAt l n).f2 * (sqAt l n).f2 := Int.mul_nonneg (by omega) (by omega)
    have q2 : (sqAt l n).f2 * (sqAt l n).f2 ≤ 500 * 500 := Int.mul_le_mul (by omega) (by omega) (by omega) (by omega)
    simp only [areaTo]
    omega
theorem sq_bd {W H : Int} {s : Sq} (hW : W ≤ 500) (hH : H ≤ 500) (h : Ins W H s) : 0 ≤ s.f2 * s.f2 ∧ s.f2 * s.f2 ≤ 250000 := by
  unfold Ins at h
  have q1 : 0 ≤ s.f2 * s.f2 := Int.mul_nonneg (by omega) (by omega)
  have q2 : s.f2 * s.f2 ≤ 500 * 500 := Int.mul_le_mul (by omega) (by omega) (by omega) (by omega)
  omega

theorem compare_eq {W H : Int} {a b : Sq} (hW : W ≤ 500) (hH : H ≤ 500) (ha : Ins W H a) (hb : Ins W H b) :
    ∃ c, impl_comparePlaces.f a.f0 a.f1 a.f2 b.f0 b.f1 b.f2 = some c ∧ (c < 0 ↔ Less a b) := by
  unfold Ins at ha hb
  unfold impl_comparePlaces.f Less
  by_cases e : a.f1 = b.f1
  · rw [if_pos e]; exact ⟨_, rfl, by rw [wrap64_id (by omega) (by omega)]; omega⟩
  · rw [if_neg e]; exact ⟨_, rfl, by rw [wrap64_id (by omega) (by omega)]; omega⟩
theorem overlap_eq {W H : Int} {a b : Sq} (hW : W ≤ 500) (hH : H ≤ 500) (ha : Ins W H a) (hb : Ins W H b) :
    impl_overlap.f a.f0 a.f1 a.f2 b.f0 b.f1 b.f2 = some (decide (Ovl a b)) := by
  unfold Ins at ha hb
  unfold impl_overlap.f Ovl
  rw [wrap64_id (by omega) (by omega), wrap64_id (by omega) (by omega), wrap64_id (by omega) (by omega), wrap64_id (by omega) (by omega)]
  by_cases h1 : a.f0 < b.f0 + b.f2
  · by_cases h2 : b.f0 < a.f0 + a.f2
    · by_cases h3 : a.f1 < b.f1 + b.f2
      · simp [h1, h2, h3]
      · simp [h1, h2, h3]
    · simp [h1, h2]
  · simp [h1]
theorem less_eq (a b : Sq) : spec_cuLess.f a.f0 a.f1 a.f2 b.f0 b.f1 b.f2 = some (decide (Less a b)) := by
  unfold spec_cuLess.f Less
  by_cases h1 : a.f1 < b.f1
  · rw [if_pos h1]; simp [h1]
  · rw [if_neg h1]
    by_cases h2 : a.f1 = b.f1
    · rw [if_pos h2]; simp [h2]
    · rw [if_neg h2]; simp [h1, h2]

/-! the program's own -/
theorem contains_eq {W H : Int} {l : List Sq} (hW : W ≤ 500) (hH : H ≤ 500) (i : Nat) (hi : i < l.length) (h : ∀ m, m ≤ i → Ins W H (sqAt l m)) :
    slices_ContainsFunc_impl_Square_impl_Square__impl_IsCut_1.f (l.take i) (sqAt l i).f0 (sqAt l i).f1 (sqAt l i).f2 = some (decide (∃ j, j < i ∧ Ovl (sqAt l i) (sqAt l j))) := by
  unfold slices_ContainsFunc_impl_Square_impl_Square__impl_IsCut_1.f
  congr 1
  rw [Bool.eq_iff_iff, List.any_eq_true, decide_eq_true_eq]
  constructor
  · rintro ⟨t, ht, hp⟩
    obtain ⟨j, hj⟩ := List.getElem?_of_mem ht
    have hj1 : j < (l.take i).length := (List.getElem?_eq_some_iff.1 hj).1
    have hj2 : j < i := by simp at hj1; omega
    have e : t = sqAt l j := by
      rw [List.getElem?_take_of_lt hj2, List.getElem?_eq_getElem (by omega)] at hj
      rw [sqAt_get l j (by omega)]; exact (Option.some.inj hj).symm
    subst e
    rw [overlap_eq hW hH (h i (Nat.le_refl _)) (h j (by omega))] at hp
    exact ⟨j, hj2, by simpa using hp⟩
  · rintro ⟨j, hj, ho⟩
    refine ⟨sqAt l j, ?_, ?_⟩
    · rw [sqAt_get l j (by omega)]
      exact List.mem_take_iff_getElem.2 ⟨j, by omega, rfl⟩
    · rw [overlap_eq hW hH (h i (Nat.le_refl _)) (h j (by omega))]; simpa using ho

theorem okFrom_step (W H : Int) (l : List Sq) (i : Nat) : (∀ m, i ≤ m → m < l.length → OkAt W H l m) ↔ (i < l.length → OkAt W H l i) ∧ (∀ m, i + 1 ≤ m → m < l.length → OkAt W H l m) :=
  ⟨fun h => ⟨fun hi => h i (Nat.le_refl _) hi, fun m h1 h2 => h m (by omega) h2⟩, fun ⟨h1, h2⟩ m h3 h4 => by
    by_cases e : i = m
    · subst e; exact h1 h4
    · exact h2 m (by omega) h4⟩

theorem impl_loop {W H : Int} {l : List Sq} (hW : 1 ≤ W ∧ W ≤ 500) (hH : 1 ≤ H ∧ H ≤ 500) (hl : l.length ≤ 30) : ∀ (d i : Nat), l.length - i = d → i ≤ l.length → (∀ m, m < i → OkAt W H l m) →
    ∀ r : Bool, (r = true ↔ (∀ m, i ≤ m → m < l.length → OkAt W H l m) ∧ areaTo l l.length = W * H) → Ev (fun k => impl_IsCut.l0 k (areaTo l i) l (l.length : Int) (i : Int) W H l) r := by
  intro d
  induction d with
  | zero =>
    intro i hd hi hok r hr
    obtain rfl : i = l.length := by omega
    have bd := areaTo_bd W H l hW.2 hH.2 l.length hl (fun m hm => (hok m hm).1)
    have w1 : W * H ≤ 500 * 500 := Int.mul_le_mul (by omega) (by omega) (by omega) (by omega)
    have w0 : 0 ≤ W * H := Int.mul_nonneg (by omega) (by omega)
    refine Ev.succ ?_
    simp only [impl_IsCut.l0]
    refine Ev.neg (by omega) ?_
    rw [wrap64_id (by omega) (by omega)]
    refine Ev.eqr (Ev.now _) ?_
    rw [Bool.eq_iff_iff, hr, beq_iff_eq]
    exact ⟨fun h => ⟨fun m h1 h2 => by omega, h⟩, fun h => h.2⟩
  | succ d ih =>
    intro i hd hi hok r hr
    have hlt : i < l.length := by omega
    rw [okFrom_step] at hr
    refine Ev.succ ?_
    simp only [impl_IsCut.l0, rd_sq]
    refine Ev.pos (by omega) (Ev.pos (by omega) (Ev.pos (by omega) ?_))
    have hmn : mn W H ≤ 500 := by unfold mn; split <;> omega
    have fall : ∀ r : Bool, r = false → Ev (fun k => impl_IsCut.j2 k (areaTo l i) (i : Int) l (l.length : Int) (i : Int) true W H l (sqAt l i).f0 (sqAt l i).f1 (sqAt l i).f2) r := by
      rintro _ rfl
      refine Ev.succ ?_
      simp only [impl_IsCut.j2]
      exact Ev.pos trivial (Ev.now _)
    have rf : ¬ OkAt W H l i → r = false := fun h => by
      cases hq : r with
      | false => rfl
      | true => exact absurd ((hr.1 hq).1.1 hlt) h
    have mnle : mn W H ≤ W ∧ mn W H ≤ H ∧ (mn W H = W ∨ mn W H = H) := by unfold mn; split <;> omega
    refine Ev.bindc (within_eq _ _ _) ?_
    by_cases c1 : 1 ≤ (sqAt l i).f2 ∧ (sqAt l i).f2 ≤ mn W H
    · rw [decide_eq_true c1]
      refine Ev.pos rfl (Ev.bindc (within_eq _ _ _) ?_)
      rw [wrap64_id (by omega) (by omega)]
      by_cases c2 : 0 ≤ (sqAt l i).f0 ∧ (sqAt l i).f0 ≤ W - (sqAt l i).f2
      · rw [decide_eq_true c2]
        refine Ev.pos rfl (Ev.bindc (within_eq _ _ _) ?_)
        rw [wrap64_id (by omega) (by omega)]
        by_cases c3 : 0 ≤ (sqAt l i).f1 ∧ (sqAt l i).f1 ≤ H - (sqAt l i).f2
        · rw [decide_eq_true c3]
          have hins : Ins W H (sqAt l i) := by unfold Ins; omega
          have hall : ∀ m, m ≤ i → Ins W H (sqAt l m) := fun m hm => by
            by_cases e : m = i
            · rw [e]; exact hins
            · exact (hok m (by omega)).1
          refine Ev.succ ?_
          simp only [impl_IsCut.j2, Bool.not_true]
          refine Ev.neg (by decide) ?_
          have bd := areaTo_bd W H l hW.2 hH.2 i (by omega) (fun m hm => hall m (by omega))
          have qb := sq_bd hW.2 hH.2 hins
          have tn : ((i : Int)).toNat = i := Int.toNat_natCast i
          have next : (∀ j, j < i → ¬ Ovl (sqAt l i) (sqAt l j)) → (0 < i → Less (sqAt l (i - 1)) (sqAt l i)) → Ev (fun k => impl_IsCut.l0 k (wrap64 (areaTo l i + wrap64 ((sqAt l i).f2 * (sqAt l i).f2))) l (l.length : Int) (wrap64 ((i : Int) + 1)) W H l) r := by
            intro ho hlss
            have hk : OkAt W H l i := ⟨hins, hlss, ho⟩
            rw [wrap64_id (n := (sqAt l i).f2 * (sqAt l i).f2) (by omega) (by omega), wrap64_id (n := areaTo l i + (sqAt l i).f2 * (sqAt l i).f2) (by omega) (by omega), wrap64_id (n := (i : Int) + 1) (by omega) (by omega)]
            have := ih (i + 1) (by omega) (by omega) (fun m hm => by
              by_cases e : m = i
              · rw [e]; exact hk
              · exact hok m (by omega)) r (by rw [hr]; exact ⟨fun h => ⟨h.1.2, h.2⟩, fun h => ⟨⟨fun _ => hk, h.1⟩, h.2⟩⟩)
            exact this
          have cont : (0 < i → Less (sqAt l (i - 1)) (sqAt l i)) → Ev (fun k => if 0 ≤ (i : Int) then if (i : Int) ≤ (l.length : Int) then (slices_ContainsFunc_impl_Square_impl_Square__impl_IsCut_1.f (l.take ((i : Int)).toNat) (sqAt l i).f0 (sqAt l i).f1 (sqAt l i).f2).bind fun t => if t = true then some false else impl_IsCut.l0 k (wrap64 (areaTo l i + wrap64 ((sqAt l i).f2 * (sqAt l i).f2))) l (l.length : Int) (wrap64 ((i : Int) + 1)) W H l else none else none) r := by
            intro hlss
            refine Ev.pos (by omega) (Ev.pos (by omega) ?_)
            rw [tn]
            refine Ev.bindc (contains_eq hW.2 hH.2 i hlt hall) ?_
            by_cases ho : ∃ j, j < i ∧ Ovl (sqAt l i) (sqAt l j)
            · rw [decide_eq_true ho]
              refine Ev.pos rfl (Ev.eqr (Ev.now _) (rf fun hk => ?_).symm)
              obtain ⟨j, hj, hq⟩ := ho
              exact hk.2.2 j hj hq
            · rw [decide_eq_false ho]
              exact Ev.neg (by decide) (next (fun j hj hq => ho ⟨j, hj, hq⟩) hlss)
          by_cases hi0 : (i : Int) > 0
          · refine Ev.pos hi0 ?_
            have e1 : wrap64 ((i : Int) - 1) = ((i - 1 : Nat) : Int) := by rw [wrap64_id (by omega) (by omega)]; omega
            simp only [e1, rd_sq]
            refine Ev.pos (by omega) (Ev.pos (by omega) ?_)
            obtain ⟨c, hc, hcl⟩ := compare_eq hW.2 hH.2 (hall (i - 1) (by omega)) hins
            refine Ev.bindc hc ?_
            by_cases c4 : c ≥ 0
            · refine Ev.pos c4 (Ev.eqr (Ev.now _) (rf fun hk => ?_).symm)
              have := hcl.2 (hk.2.1 (by omega))
              omega
            · exact Ev.neg c4 (cont fun _ => hcl.1 (by omega))
          · exact Ev.neg hi0 (cont fun h => by omega)
        · rw [decide_eq_false c3]
          exact fall _ (rf fun h => c3 (by have := h.1; unfold Ins at this; omega))
      · rw [decide_eq_false c2]
        exact Ev.neg (by decide) (fall _ (rf fun h => c2 (by have := h.1; unfold Ins at this; omega)))
    · rw [decide_eq_false c1]
      refine Ev.neg (by decide) (fall _ (rf fun h => c1 ?_))
      have := h.1
      unfold Ins at this
      rcases mnle.2.2 with e | e <;> omega

theorem impl_IsCut_ev (W H : Int) (l : List Sq) : Ev (fun k => impl_IsCut.f k W H l) (decide (Good W H l)) := by
  unfold impl_IsCut.f
  have fall : ∀ r : Bool, r = false → Ev (fun k => impl_IsCut.j0 k true W H l) r := by
    rintro _ rfl
    refine Ev.succ ?_
    simp only [impl_IsCut.j0]
    exact Ev.pos trivial (Ev.now _)
  refine Ev.bindc (isWide_eq _) ?_
  by_cases c1 : 1 ≤ W ∧ W ≤ 500
  · rw [decide_eq_true c1]
    refine Ev.pos rfl (Ev.bindc (isWide_eq _) ?_)
    by_cases c2 : 1 ≤ H ∧ H ≤ 500
    · rw [decide_eq_true c2]
      refine Ev.pos rfl ?_
      by_cases c3 : (l.length : Int) > 30
      · rw [decide_eq_true c3]
        exact fall _ (decide_eq_false fun h => by have := h.2.2.1; omega)
      · rw [decide_eq_false c3]
        refine Ev.succ ?_
        simp only [impl_IsCut.j0]
        refine Ev.neg (by decide) ?_
        have := impl_loop (l := l) c1 c2 (by omega) l.length 0 (by omega) (Nat.zero_le _) (fun m hm => by omega) (decide (Good W H l)) ?_
        · exact this
        · rw [decide_eq_true_eq]
          constructor
          · intro h; exact ⟨fun m _ h2 => h.2.2.2.1 m h2, h.2.2.2.2⟩
          · intro h
            refine ⟨c1, c2, ⟨?_, (by omega : l.length ≤ 30)⟩, fun m hm => h.1 m (Nat.zero_le _) hm, h.2⟩
            cases hl : l with
            | nil =>
              subst hl
              have e : (0 : Int) = W * H := h.2
              have : 0 < W * H := Int.mul_pos (by omega) (by omega)
              omega
            | cons a t => simp
    · rw [decide_eq_false c2]
      exact Ev.neg (by decide) (fall _ (decide_eq_false fun h => c2 h.2.1))
  · rw [decide_eq_false c1]
    exact Ev.neg (by decide) (fall _ (decide_eq_false fun h => c1 h.1))

/-! the reference's own -/
/-- what the inner loop of the reference asks of the squares from place j on -/
def InnerOk (l : List Sq) (i j : Nat) : Prop := ∀ m, j ≤ m → m < i → ¬ Ovl (sqAt l i) (sqAt l m) ∧ (m + 1 = i → Less (sqAt l m) (sqAt l i))
theorem inner_step (l : List Sq) (i j : Nat) (h : j < i) : InnerOk l i j ↔ (¬ Ovl (sqAt l i) (sqAt l j) ∧ (j + 1 = i → Less (sqAt l j) (sqAt l i))) ∧ InnerOk l i (j + 1) :=
  ⟨fun h1 => ⟨h1 j (Nat.le_refl _) h, fun m h2 h3 => h1 m (by omega) h3⟩, fun ⟨h1, h2⟩ m h3 h4 => by
    by_cases e : j = m
    · subst e; exact h1
    · exact h2 m (by omega) h4⟩
theorem inner_ok (W H : Int) (l : List Sq) (i : Nat) : OkAt W H l i ↔ Ins W H (sqAt l i) ∧ InnerOk l i 0 := by
  unfold OkAt InnerOk
  constructor
  · rintro ⟨h1, h2, h3⟩
    refine ⟨h1, fun m _ hm => ⟨h3 m hm, fun e => ?_⟩⟩
    have := h2 (by omega)
    rw [show i - 1 = m by omega] at this
    exact this
  · rintro ⟨h1, h2⟩
    exact ⟨h1, fun hi => (h2 (i - 1) (Nat.zero_le _) (by omega)).2 (by omega), fun j hj => (h2 j (Nat.zero_le _) hj).1⟩

theorem spec_inner {W H : Int} {l : List Sq} (hW : 1 ≤ W ∧ W ≤ 500) (hH : 1 ≤ H ∧ H ≤ 500) (hl : l.length ≤ 30) (i : Nat) (hi : i < l.length) (hall : ∀ m, m ≤ i → Ins W H (sqAt l m)) (A : Int) (r : Bool)
    (hgood : InnerOk l i 0 → Ev (fun k => spec_cuGood.l0 k A l (l.length : Int) ((i : Int) + 1) W H l) r) (hbad : ¬ InnerOk l i 0 → r = false) :
    ∀ (d j : Nat), i - j = d → j ≤ i → (InnerOk l i j ↔ InnerOk l i 0) →
      Ev (fun k => spec_cuGood.l1 k A (i : Int) l (l.length : Int) (i : Int) (l.take i) (i : Int) (j : Int) W H l (sqAt l i).f0 (sqAt l i).f1 (sqAt l i).f2) r := by
  intro d
  induction d with
  | zero =>
    intro j hd hj hiff
    obtain rfl : j = i := by omega
    refine Ev.succ ?_
    simp only [spec_cuGood.l1]
    refine Ev.neg (by omega) ?_
    rw [wrap64_id (by omega) (by omega)]
    exact hgood (hiff.1 fun m h1 h2 => by omega)
  | succ d ih =>
    intro j hd hj hiff
    have hlt : j < i := by omega
    have tk : (l.take i).length = i := by rw [List.length_take]; omega
    have et : sqAt (l.take i) j = sqAt l j := by
      rw [sqAt_get _ _ (by omega), sqAt_get _ _ (by omega), List.getElem_take]
    rw [inner_step l i j hlt] at hiff
    refine Ev.succ ?_
    simp only [spec_cuGood.l1, rd_sq, et, tk]
    refine Ev.pos (by omega) (Ev.pos (by omega) (Ev.pos (by omega) ?_))
    have a := hall i (Nat.le_refl _)
    have b := hall j (by omega)
    have j4 : ∀ b : Bool, b = decide (Ovl (sqAt l i) (sqAt l j)) → Ev (fun k => spec_cuGood.j4 k A (i : Int) (j : Int) l (l.length : Int) (i : Int) (l.take i) (i : Int) (j : Int) b W H l (sqAt l i).f0 (sqAt l i).f1 (sqAt l i).f2 (sqAt l j).f0 (sqAt l j).f1 (sqAt l j).f2) r := by
      rintro b rfl
      refine Ev.succ ?_
      simp only [spec_cuGood.j4]
      by_cases ho : Ovl (sqAt l i) (sqAt l j)
      · exact Ev.pos (decide_eq_true ho) (Ev.eqr (Ev.now _) (hbad fun h => (hiff.2 h).1.1 ho).symm)
      · refine Ev.neg (by simpa using ho) ?_
        have e1 : wrap64 ((i : Int) - 1) = (i : Int) - 1 := wrap64_id (by omega) (by omega)
        have e2 : wrap64 ((j : Int) + 1) = ((j + 1 : Nat) : Int) := by rw [wrap64_id (by omega) (by omega)]; omega
        rw [e1, e2]
        by_cases hj1 : j + 1 = i
        · refine Ev.pos (by omega) (Ev.bindc (less_eq _ _) ?_)
          by_cases hls : Less (sqAt l j) (sqAt l i)
          · exact Ev.pos (decide_eq_true hls) (ih (j + 1) (by omega) (by omega) ⟨fun h => hiff.1 ⟨⟨ho, fun _ => hls⟩, h⟩, fun h => (hiff.2 h).2⟩)
          · exact Ev.neg (by simpa using hls) (Ev.eqr (Ev.now _) (hbad fun h => hls ((hiff.2 h).1.2 hj1)).symm)
        · exact Ev.neg (by omega) (ih (j + 1) (by omega) (by omega) ⟨fun h => hiff.1 ⟨⟨ho, fun e => absurd e hj1⟩, h⟩, fun h => (hiff.2 h).2⟩)
    unfold Ins at a b
    rw [wrap64_id (n := (sqAt l j).f0 + (sqAt l j).f2) (by omega) (by omega), wrap64_id (n := (sqAt l i).f0 + (sqAt l i).f2) (by omega) (by omega), wrap64_id (n := (sqAt l j).f1 + (sqAt l j).f2) (by omega) (by omega), wrap64_id (n := (sqAt l i).f1 + (sqAt l i).f2) (by omega) (by omega)]
    by_cases c1 : (sqAt l i).f0 < (sqAt l j).f0 + (sqAt l j).f2
    · refine Ev.pos c1 ?_
      by_cases c2 : (sqAt l j).f0 < (sqAt l i).f0 + (sqAt l i).f2
      · refine Ev.pos c2 ?_
        by_cases c3 : (sqAt l i).f1 < (sqAt l j).f1 + (sqAt l j).f2
        · refine Ev.pos c3 (j4 _ ?_)
          unfold Ovl
          simp [c1, c2, c3]
        · exact Ev.neg c3 (j4 _ (decide_eq_false fun h => c3 h.2.2.1).symm)
      · exact Ev.neg c2 (j4 _ (decide_eq_false fun h => c2 h.2.1).symm)
    · exact Ev.neg c1 (j4 _ (decide_eq_false fun h => c1 h.1).symm)

theorem spec_loop {W H : Int} {l : List Sq} (hW : 1 ≤ W ∧ W ≤ 500) (hH : 1 ≤ H ∧ H ≤ 500) (hl : l.length ≤ 30) : ∀ (d i : Nat), l.length - i = d → i ≤ l.length → (∀ m, m < i → OkAt W H l m) →
    ∀ r : Bool, (r = true ↔ (∀ m, i ≤ m → m < l.length → OkAt W H l m) ∧ areaTo l l.length = W * H) → Ev (fun k => spec_cuGood.l0 k (areaTo l i) l (l.length : Int) (i : Int) W H l) r := by
  intro d
  induction d with
  | zero =>
    intro i hd hi hok r hr
    obtain rfl : i = l.length := by omega
    have bd := areaTo_bd W H l hW.2 hH.2 l.length hl (fun m hm => (hok m hm).1)
    have w1 : W * H ≤ 500 * 500 := Int.mul_le_mul (by omega) (by omega) (by omega) (by omega)
    have w0 : 0 ≤ W * H := Int.mul_nonneg (by omega) (by omega)
    refine Ev.succ ?_
    simp only [spec_cuGood.l0]
    refine Ev.neg (by omega) ?_
    rw [wrap64_id (by omega) (by omega)]
    refine Ev.eqr (Ev.now _) ?_
    rw [Bool.eq_iff_iff, hr, beq_iff_eq]
    exact ⟨fun h => ⟨fun m h1 h2 => by omega, h⟩, fun h => h.2⟩
  | succ d ih =>
    intro i hd hi hok r hr
    have hlt : i < l.length := by omega
    rw [okFrom_step] at hr
    refine Ev.succ ?_
    simp only [spec_cuGood.l0, rd_sq]
    refine Ev.pos (by omega) (Ev.pos (by omega) (Ev.pos (by omega) ?_))
    have fall : ∀ r : Bool, r = false → Ev (fun k => spec_cuGood.j2 k (areaTo l i) (i : Int) l (l.length : Int) (i : Int) true W H l (sqAt l i).f0 (sqAt l i).f1 (sqAt l i).f2) r := by
      rintro _ rfl
      refine Ev.succ ?_
      simp only [spec_cuGood.j2]
      exact Ev.pos trivial (Ev.now _)
    have rf : ¬ OkAt W H l i → r = false := fun h => by
      cases hq : r with
      | false => rfl
      | true => exact absurd ((hr.1 hq).1.1 hlt) h
    refine Ev.bindc (l1In_eq _ _ _) ?_
    by_cases c1 : 1 ≤ (sqAt l i).f2 ∧ (sqAt l i).f2 ≤ 500
    · rw [decide_eq_true c1]
      refine Ev.pos rfl (Ev.bindc (l1In_eq _ _ _) ?_)
      rw [wrap64_id (by omega) (by omega)]
      by_cases c2 : 0 ≤ (sqAt l i).f0 ∧ (sqAt l i).f0 ≤ W - (sqAt l i).f2
      · rw [decide_eq_true c2]
        refine Ev.pos rfl (Ev.bindc (l1In_eq _ _ _) ?_)
        rw [wrap64_id (by omega) (by omega)]
        by_cases c3 : 0 ≤ (sqAt l i).f1 ∧ (sqAt l i).f1 ≤ H - (sqAt l i).f2
        · rw [decide_eq_true c3]
          have hins : Ins W H (sqAt l i) := by unfold Ins; omega
          have hall : ∀ m, m ≤ i → Ins W H (sqAt l m) := fun m hm => by
            by_cases e : m = i
            · rw [e]; exact hins
            · exact (hok m (by omega)).1
          have bd := areaTo_bd W H l hW.2 hH.2 i (by omega) (fun m hm => hall m (by omega))
          have qb := sq_bd hW.2 hH.2 hins
          refine Ev.succ ?_
          simp only [spec_cuGood.j2, Bool.not_true]
          refine Ev.neg (by decide) (Ev.pos (by omega) (Ev.pos (by omega) (Ev.bindc rfl ?_)))
          have tk : (l.take ((i : Int)).toNat).length = i := by rw [List.length_take]; omega
          have tn : ((i : Int)).toNat = i := Int.toNat_natCast i
          rw [tk, tn, wrap64_id (n := (sqAt l i).f2 * (sqAt l i).f2) (by omega) (by omega), wrap64_id (n := areaTo l i + (sqAt l i).f2 * (sqAt l i).f2) (by omega) (by omega)]
          have iok := inner_ok W H l i
          refine spec_inner hW hH hl i hlt hall _ r (fun hin => ?_) (fun hin => rf fun h => hin (iok.1 h).2) i 0 (by omega) (Nat.zero_le _) Iff.rfl
          have hk : OkAt W H l i := iok.2 ⟨hins, hin⟩
          have := ih (i + 1) (by omega) (by omega) (fun m hm => by
              by_cases e : m = i
              · rw [e]; exact hk
              · exact hok m (by omega)) r (by rw [hr]; exact ⟨fun h => ⟨h.1.2, h.2⟩, fun h => ⟨⟨fun _ => hk, h.1⟩, h.2⟩⟩)
          exact this
        · rw [decide_eq_false c3]
          exact fall _ (rf fun h => c3 (by have := h.1; unfold Ins at this; omega))
      · rw [decide_eq_false c2]
        exact Ev.neg (by decide) (fall _ (rf fun h => c2 (by have := h.1; unfold Ins at this; omega)))
    · rw [decide_eq_false c1]
      refine Ev.neg (by decide) (fall _ (rf fun h => c1 ?_))
      have := h.1
      unfold Ins at this
      omega

theorem spec_cuGood_ev (W H : Int) (l : List Sq) : Ev (fun k => spec_cuGood.f k W H l) (decide (Good W H l)) := by
  unfold spec_cuGood.f
  have fall : ∀ r : Bool, r = false → Ev (fun k => spec_cuGood.j0 k true W H l) r := by
    rintro _ rfl
    refine Ev.succ ?_
    simp only [spec_cuGood.j0]
    exact Ev.pos trivial (Ev.now _)
  refine Ev.bindc (l1In_eq _ _ _) ?_
  by_cases c1 : 1 ≤ W ∧ W ≤ 500
  · rw [decide_eq_true c1]
    refine Ev.pos rfl (Ev.bindc (l1In_eq _ _ _) ?_)
    by_cases c2 : 1 ≤ H ∧ H ≤ 500
    · rw [decide_eq_true c2]
      refine Ev.pos rfl (Ev.bindc (l1In_eq _ _ _) ?_)
      by_cases c3 : 1 ≤ (l.length : Int) ∧ (l.length : Int) ≤ 30
      · rw [decide_eq_true c3]
        refine Ev.succ ?_
        simp only [spec_cuGood.j0, Bool.not_true]
        refine Ev.neg (by decide) ?_
        refine spec_loop (l := l) c1 c2 (by omega) l.length 0 (by omega) (Nat.zero_le _) (fun m hm => by omega) (decide (Good W H l)) ?_
        rw [decide_eq_true_eq]
        exact ⟨fun h => ⟨fun m _ h2 => h.2.2.2.1 m h2, h.2.2.2.2⟩, fun h => ⟨c1, c2, by omega, fun m hm => h.1 m (Nat.zero_le _) hm, h.2⟩⟩
      · rw [decide_eq_false c3]
        exact fall _ (decide_eq_false fun h => c3 (by have := h.2.2.1; omega))
    · rw [decide_eq_false c2]
      exact Ev.neg (by decide) (fall _ (decide_eq_false fun h => c2 h.2.1))
  · rw [decide_eq_false c1]
    exact Ev.neg (by decide) (fall _ (decide_eq_false fun h => c1 h.1))

/-! ### squares from one package's type to the other's; lists that are the same -/
abbrev MSq := S87
def conv (q : MSq) : Sq := ⟨q.f0, q.f1, q.f2⟩
theorem rd_msq (l : List MSq) (j : Nat) (h : j < l.length) : rd_T87 l (j : Int) = l[j] := by unfold rd_T87; rw [Int.toNat_natCast]; simp [List.getD, h]
theorem toSq_loop (l : List MSq) (hl : l.length ≤ 1048576) : ∀ (d i : Nat) (x : List Sq), l.length - i = d → i ≤ l.length → x.length = l.length → (∀ m, m < i → x[m]? = (l.map conv)[m]?) →
    Ev (fun k => laws_toSquareS.l0 k l x (i : Int)) (l.map conv) := by
  intro d
  induction d with
  | zero =>
    intro i x hd hi hx h
    refine Ev.succ ?_
    simp only [laws_toSquareS.l0]
    refine Ev.neg (by omega) (Ev.eqr (Ev.now _) ?_)
    apply List.ext_getElem?
    intro m
    by_cases hm : m < i
    · exact h m hm
    · rw [List.getElem?_eq_none (by omega), List.getElem?_eq_none (by simp; omega)]
  | succ d ih =>
    intro i x hd hi hx h
    refine Ev.succ ?_
    simp only [laws_toSquareS.l0]
    refine Ev.pos (by omega) (Ev.pos (by omega) (Ev.bindc rfl (Ev.pos (by omega) ?_)))
    rw [Int.toNat_natCast, wrap64_id (by omega) (by omega)]
    refine ih (i + 1) _ (by omega) (by omega) (by simp; omega) (fun m hm => ?_)
    rw [rd_msq l i (by omega)]
    by_cases e : m = i
    · subst e
      rw [List.getElem?_set_self (by omega), List.getElem?_map, List.getElem?_eq_getElem (by omega)]; rfl
    · rw [List.getElem?_set_ne (by omega)]; exact h m (by omega)
theorem toSquareS_ev (l : List MSq) (hl : l.length ≤ 1048576) : Ev (fun k => laws_toSquareS.f k l) (l.map conv) := by
  unfold laws_toSquareS.f
  refine Ev.pos (by omega) (Ev.pos (by omega) ?_)
  exact toSq_loop l hl l.length 0 _ (by omega) (Nat.zero_le _) (by simp) (fun m hm => by omega)
theorem toCut_ev (W H : Int) (l : List MSq) (hl : l.length ≤ 1048576) : Ev (fun k => laws_toCut.f k W H l) (W, H, l.map conv) := by
  unfold laws_toCut.f
  exact Ev.bind (toSquareS_ev l hl) (Ev.now _)
theorem eqSquareS_loop (l : List Sq) (hl : l.length ≤ 1099511627776) : ∀ (d i : Nat), l.length - i = d → i ≤ l.length → Ev (fun k => laws_eqSquareS.l0 k l l (i : Int)) true := by
  intro d
  induction d with
  | zero =>
    intro i hd hi
    refine Ev.succ ?_
    simp only [laws_eqSquareS.l0]
    exact Ev.neg (by omega) (Ev.now _)
  | succ d ih =>
    intro i hd hi
    refine Ev.succ ?_
    simp only [laws_eqSquareS.l0]
    refine Ev.pos (by omega) (Ev.pos (by omega) (Ev.pos (by omega) (Ev.bindc (a := true) (by unfold laws_eqSquare.f; simp) (Ev.pos rfl ?_))))
    rw [wrap64_id (by omega) (by omega)]
    exact ih (i + 1) (by omega) (by omega)
theorem eqSquareS_ev (l : List Sq) (hl : l.length ≤ 1099511627776) : Ev (fun k => laws_eqSquareS.f k l l) true := by
  unfold laws_eqSquareS.f
  exact Ev.pos rfl (eqSquareS_loop l hl l.length 0 (by omega) (Nat.zero_le _))
theorem eqCut_ev (W H : Int) (l : List Sq) (hl : l.length ≤ 1099511627776) : Ev (fun k => laws_eqCut.f k W H l W H l) true := by
  unfold laws_eqCut.f
  exact Ev.pos rfl (Ev.pos rfl (Ev.bind (eqSquareS_ev l hl) (Ev.pos rfl (Ev.now _))))
theorem szCut_eq (W H : Int) (l : List MSq) (hl : l.length ≤ maxLen) : laws_szCut.f W H l 1048576 = some (if l.length ≤ 1048576 then 1048576 - (l.length : Int) else -1) := by
  have h0 : maxLen ≤ 9223372036854775807 := by decide
  unfold laws_szCut.f laws_szSquareS.f
  rw [wrap64_id (by omega) (by omega)]
  by_cases h : l.length ≤ 1048576
  · rw [if_neg (by omega), Option.bind_some, if_neg (by omega), if_pos h]
  · rw [if_pos (by omega), Option.bind_some, if_pos (by omega), if_neg h]

/-! ### cuts that are marked and held -/
def upS (s : Int) : Nat → List Sq
  | 0 => []
  | n + 1 => ⟨s, s + 1, s + 1 + 1⟩ :: upS (s + 3) n
theorem upS_length (n : Nat) : ∀ s, (upS s n).length = n := by
  induction n with
  | zero => intro s; rfl
  | succ n ih => intro s; simp [upS, ih]
theorem upS_get (n : Nat) : ∀ (s : Int) (i : Nat), i < n → (upS s n)[i]? = some ⟨s + 3 * i, s + 3 * i + 1, s + 3 * i + 1 + 1⟩ := by
  induction n with
  | zero => intro s i h; omega
  | succ n ih =>
    intro s i h
    cases i with
    | zero => simp [upS]
    | succ i =>
      simp only [upS, List.getElem?_cons_succ]; rw [ih (s + 3) i (by omega)]
      have e : s + 3 + 3 * (i : Int) = s + 3 * ((i + 1 : Nat) : Int) := by omega
      rw [e]
theorem markSq_loop (N : Nat) (hN : N ≤ 1099511627776) (s : Int) (hs : 0 ≤ s) (hs2 : s ≤ 1099511627776) : ∀ (d i : Nat) (x : List Sq), N - i = d → i ≤ N → x.length = N → (∀ m, m < i → x[m]? = (upS s N)[m]?) →
    Ev (fun k => laws_markSquareS.l0 k x (s + 3 * i) (i : Int)) (s + 3 * N, upS s N) := by
  intro d
  induction d with
  | zero =>
    intro i x hd hi hx h
    obtain rfl : i = N := by omega
    refine Ev.succ ?_
    simp only [laws_markSquareS.l0]
    refine Ev.neg (by omega) (Ev.eqr (Ev.now _) ?_)
    congr 1
    apply List.ext_getElem?
    intro m
    by_cases hm : m < i
    · exact h m hm
    · rw [List.getElem?_eq_none (by omega), List.getElem?_eq_none (by rw [upS_length]; omega)]
  | succ d ih =>
    intro i x hd hi hx h
    refine Ev.succ ?_
    simp only [laws_markSquareS.l0]
    refine Ev.pos (by omega) (Ev.pos (by omega) (Ev.bindc rfl (Ev.bindc rfl ?_)))
    rw [wrap64_id (n := s + 3 * i + 1) (by omega) (by omega), wrap64_id (n := s + 3 * i + 1 + 1) (by omega) (by omega), wrap64_id (n := s + 3 * i + 1 + 1 + 1) (by omega) (by omega), wrap64_id (n := (i : Int) + 1) (by omega) (by omega)]
    have hi' : i < x.length := by omega
    have g1 : ∀ q : Sq, sqAt (x.set i q) i = q := fun q => by unfold sqAt; simp [List.getD, hi']
    have g2 : ∀ q p : Sq, sqAt ((x.set i q).set i p) i = p := fun q p => by unfold sqAt; simp [List.getD, hi']
    simp only [Int.toNat_natCast, rd_sq, g1, g2]
    have e : s + 3 * (i : Int) + 1 + 1 + 1 = s + 3 * ((i + 1 : Nat) : Int) := by omega
    rw [e]
    refine ih (i + 1) _ (by omega) (by omega) (by simp; omega) (fun m hm => ?_)
    by_cases e : m = i
    · subst e
      rw [List.getElem?_set_self (by simp; omega), upS_get _ _ _ (by omega)]
    · rw [List.getElem?_set_ne (by omega), List.getElem?_set_ne (by omega), List.getElem?_set_ne (by omega)]; exact h m (by omega)
theorem heldSq_loop (N : Nat) (hN : N ≤ 1099511627776) (s : Int) (hs : 0 ≤ s) (hs2 : s ≤ 1099511627776) : ∀ (d i : Nat), N - i = d → i ≤ N →
    Ev (fun k => laws_heldSquareS.l0 k (upS s N) (s + 3 * i) (i : Int)) (s + 3 * N) := by
  intro d
  induction d with
  | zero =>
    intro i hd hi
    obtain rfl : i = N := by omega
    refine Ev.succ ?_
    simp only [laws_heldSquareS.l0, upS_length]
    exact Ev.neg (by omega) (Ev.now _)
  | succ d ih =>
    intro i hd hi
    refine Ev.succ ?_
    simp only [laws_heldSquareS.l0, upS_length]
    have hr : rd_T59 (upS s N) (i : Int) = ⟨s + 3 * i, s + 3 * i + 1, s + 3 * i + 1 + 1⟩ := by
      rw [rd_sq]; unfold sqAt; rw [List.getD_eq_getElem?_getD, upS_get _ _ _ (by omega)]; rfl
    rw [hr, wrap64_id (n := s + 3 * i + 1) (by omega) (by omega), wrap64_id (n := s + 3 * i + 1 + 1) (by omega) (by omega), wrap64_id (n := s + 3 * i + 1 + 1 + 1) (by omega) (by omega), wrap64_id (n := (i : Int) + 1) (by omega) (by omega)]
    refine Ev.pos (by omega) (Ev.pos (by omega) (Ev.pos rfl (Ev.pos rfl (Ev.pos rfl ?_))))
    have e : s + 3 * (i : Int) + 1 + 1 + 1 = s + 3 * ((i + 1 : Nat) : Int) := by omega
    rw [e]
    exact ih (i + 1) (by omega) (by omega)
theorem markC_ev (W H : Int) (l : List Sq) (hl : l.length ≤ 1099511627776) (s : Int) (hs : 0 ≤ s) (hs2 : s ≤ 1099511627776) : Ev (fun k => laws_markCut.f k W H l s) (s + 3 * (l.length : Int), upS s l.length) := by
  unfold laws_markCut.f laws_markSquareS.f
  have := markSq_loop l.length hl s hs hs2 l.length 0 l (by omega) (Nat.zero_le _) rfl (fun m hm => by omega)
  exact Ev.bind (by simpa using this) (Ev.now _)
theorem heldC_ev (W H : Int) (N : Nat) (hl : N ≤ 1099511627776) (s : Int) (hs : 0 ≤ s) (hs2 : s ≤ 1099511627776) : Ev (fun k => laws_heldCut.f k W H (upS s N) s) (s + 3 * (N : Int)) := by
  unfold laws_heldCut.f laws_heldSquareS.f
  have := heldSq_loop N hl s hs hs2 N 0 (by omega) (Nat.zero_le _)
  exact Ev.bind (by simpa using this) (Ev.neg (by omega) (Ev.now _))

/-! ### squares in order: what the two sorts answer -/
def LeP (a b : Sq) : Prop := ¬ Less b a
theorem LeP.trans {a b c : Sq} (h : LeP a b) (k : LeP b c) : LeP a c := by unfold LeP Less at *; omega
theorem LeP.of_less {a b : Sq} (h : Less a b) : LeP a b := by unfold LeP Less at *; omega
def Dist (l : List Sq) : Prop := ∀ a ∈ l, ∀ b ∈ l, a.f0 = b.f0 → a.f1 = b.f1 → a = b
theorem eq_of_sorted {l r r' : List Sq} (hd : Dist l) (hp : r.Perm l) (hp' : r'.Perm l) (hs : r.Pairwise LeP) (hs' : r'.Pairwise LeP) : r = r' :=
  List.Perm.eq_of_pairwise (fun a b ha hb h1 h2 => hd a (hp.mem_iff.1 ha) b (hp'.mem_iff.1 hb) (by unfold LeP Less at *; omega) (by unfold LeP Less at *; omega)) hs hs' (hp.trans hp'.symm)
theorem mem_take_at {o : List Sq} {k : Nat} (hk : k ≤ o.length) {a : Sq} (h : a ∈ o.take k) : ∃ j, j < k ∧ a = sqAt o j := by
  obtain ⟨j, hj, rfl⟩ := List.mem_iff_getElem.1 h
  rw [List.length_take] at hj
  exact ⟨j, by omega, by rw [List.getElem_take, sqAt_get o j (by omega)]⟩
theorem mem_drop_at {o : List Sq} {k : Nat} {a : Sq} (h : a ∈ o.drop k) : ∃ j, k ≤ j ∧ j < o.length ∧ a = sqAt o j := by
  obtain ⟨j, hj, rfl⟩ := List.mem_iff_getElem.1 h
  rw [List.length_drop] at hj
  exact ⟨k + j, by omega, by omega, by rw [List.getElem_drop, sqAt_get o (k + j) (by omega)]⟩
theorem sorted_at {o : List Sq} (ho : o.Pairwise LeP) {i j : Nat} (hij : i ≤ j) (hj : j < o.length) : LeP (sqAt o i) (sqAt o j) := by
  rcases Nat.lt_or_eq_of_le hij with h | h
  · rw [sqAt_get o i (by omega), sqAt_get o j hj]
    exact List.pairwise_iff_getElem.1 ho i j (by omega) hj h
  · subst h; unfold LeP Less; omega
theorem ins_sorted {o : List Sq} {s : Sq} {k : Nat} (hk : k ≤ o.length) (ho : o.Pairwise LeP) (h1 : ∀ j, k ≤ j → j < o.length → Less s (sqAt o j)) (h2 : k = 0 ∨ ¬ Less s (sqAt o (k - 1))) :
    (o.take k ++ [s] ++ o.drop k).Pairwise LeP := by
  have hts : ∀ a ∈ o.take k, LeP a s := by
    intro a ha
    obtain ⟨j, hj, rfl⟩ := mem_take_at hk ha
    rcases h2 with h2 | h2
    · omega
    · exact LeP.trans (sorted_at ho (show j ≤ k - 1 by omega) (by omega)) h2
  refine List.pairwise_append.2 ⟨List.pairwise_append.2 ⟨ho.sublist (List.take_sublist _ _), List.pairwise_singleton _ _, fun a ha b hb => ?_⟩, ho.sublist (List.drop_sublist _ _), fun a ha b hb => ?_⟩
  · rw [List.mem_singleton.1 hb]; exact hts a ha
  · obtain ⟨j, hj, hj2, rfl⟩ := mem_drop_at hb
    have hsb := LeP.of_less (h1 j hj hj2)
    rcases List.mem_append.1 ha with ha | ha
    · exact (hts a ha).trans hsb
    · rw [List.mem_singleton.1 ha]; exact hsb
theorem ins_perm (o : List Sq) (s : Sq) (k : Nat) : (o.take k ++ [s] ++ o.drop k).Perm (s :: o) := by
  rw [List.append_assoc]
  have h := List.perm_middle (l₁ := o.take k) (a := s) (l₂ := o.drop k)
  rw [List.take_append_drop] at h
  exact h
theorem sqs_drop (l : List Sq) (i : Nat) (w : Sq) (t : List Sq) (h : l.drop i = w :: t) : i < l.length ∧ sqAt l i = w ∧ l.drop (i + 1) = t := by
  have h1 : i < l.length := by
    apply Decidable.byContradiction
    intro hn
    rw [List.drop_eq_nil_of_le (by omega)] at h; cases h
  rw [List.drop_eq_getElem_cons h1] at h
  injection h with ha hb
  exact ⟨h1, by rw [sqAt_get l i h1]; exact ha, hb⟩
theorem ins_loop (l : List Sq) (n i : Int) (s : Sq) (o : List Sq) (hol : o.length ≤ 1000) (ho : o.Pairwise LeP) : ∀ c : Nat, c ≤ o.length → (∀ j, c ≤ j → j < o.length → Less s (sqAt o j)) →
    ∃ o', o'.Pairwise LeP ∧ o'.Perm (s :: o) ∧ ∀ r, Ev (fun k => spec_cuSorted.l0 k o' l n (wrap64 (i + 1))) r → Ev (fun k => spec_cuSorted.l1 k o (c : Int) l n i s.f0 s.f1 s.f2) r := by
  intro c
  induction c with
  | zero =>
    intro hc h
    refine ⟨_, ins_sorted hc ho h (.inl rfl), ins_perm o s 0, fun r hr => Ev.succ ?_⟩
    simp only [spec_cuSorted.l1]
    refine Ev.neg (by omega) (Ev.bindc rfl (Ev.pos (by omega) (Ev.pos (by omega) (Ev.bindc rfl (Ev.pos (by simp only [List.length_nil, List.length_take]; omega) (Ev.bindc rfl (Ev.bindc rfl (Ev.pos (by simp only [List.length_nil, List.length_append, List.length_take, List.length_cons]; omega) (Ev.bindc rfl (Ev.bindc rfl (Ev.pos (by simp only [List.length_nil, List.length_append, List.length_take, List.length_cons, List.length_drop]; omega) ?_)))))))))))
    exact hr
  | succ c ih =>
    intro hc h
    have hw : wrap64 (((c + 1 : Nat) : Int) - 1) = (c : Int) := by rw [wrap64_id (n := ((c + 1 : Nat) : Int) - 1) (by omega) (by omega)]; omega
    by_cases hl : Less s (sqAt o c)
    · obtain ⟨o', a, b, d⟩ := ih (by omega) (fun j hj hj2 => by
        rcases Nat.lt_or_eq_of_le hj with h3 | h3
        · exact h j h3 hj2
        · rw [← h3]; exact hl)
      refine ⟨o', a, b, fun r hr => Ev.succ ?_⟩
      simp only [spec_cuSorted.l1]
      rw [hw]
      refine Ev.pos (by omega) (Ev.pos (by omega) (Ev.pos (by omega) ?_))
      rw [rd_sq]
      exact Ev.bindc (less_eq s (sqAt o c)) (Ev.pos (by simpa using hl) (d r hr))
    · refine ⟨_, ins_sorted hc ho h (.inr (by rw [Nat.add_sub_cancel]; exact hl)), ins_perm o s (c + 1), fun r hr => Ev.succ ?_⟩
      simp only [spec_cuSorted.l1]
      rw [hw]
      refine Ev.pos (by omega) (Ev.pos (by omega) (Ev.pos (by omega) ?_))
      rw [rd_sq]
      refine Ev.bindc (less_eq s (sqAt o c)) (Ev.neg (by simpa using hl) ?_)
      refine Ev.bindc rfl (Ev.pos (by omega) (Ev.pos (by omega) (Ev.bindc rfl (Ev.pos (by simp only [List.length_nil, List.length_take]; omega) (Ev.bindc rfl (Ev.bindc rfl (Ev.pos (by simp only [List.length_nil, List.length_append, List.length_take, List.length_cons]; omega) (Ev.bindc rfl (Ev.bindc rfl (Ev.pos (by simp only [List.length_nil, List.length_append, List.length_take, List.length_cons, List.length_drop]; omega) ?_))))))))))
      exact hr
theorem cuSorted_l0 (l : List Sq) (hl : l.length ≤ 1000) : ∀ (t : List Sq) (i : Nat) (o : List Sq), l.drop i = t → i + t.length = l.length → o.Pairwise LeP → o.Perm (l.take i) →
    ∃ R, R.Pairwise LeP ∧ R.Perm l ∧ Ev (fun k => spec_cuSorted.l0 k o l (l.length : Int) (i : Int)) R := by
  intro t
  induction t with
  | nil =>
    intro i o hd hi ho hp
    simp only [List.length_nil] at hi
    refine ⟨o, ho, by rw [List.take_of_length_le (by omega)] at hp; exact hp, Ev.succ ?_⟩
    simp only [spec_cuSorted.l0]
    exact Ev.neg (by omega) (Ev.now _)
  | cons s t ih =>
    intro i o hd hi ho hp
    obtain ⟨h1, h2, h3⟩ := sqs_drop l i s t hd
    have hol : o.length ≤ 1000 := by rw [hp.length_eq, List.length_take]; omega
    obtain ⟨o', a, b, d⟩ := ins_loop l (l.length : Int) (i : Int) s o hol ho o.length (Nat.le_refl _) (fun j hj hj2 => by omega)
    simp only [List.length_cons] at hi
    have htk : l.take (i + 1) = l.take i ++ [s] := by
      rw [List.take_add_one, List.getElem?_eq_getElem h1, ← h2, sqAt_get l i h1]; rfl
    obtain ⟨R, e, f, g⟩ := ih (i + 1) o' h3 (by omega) a (by
      rw [htk]
      exact (b.trans ((hp.cons s))).trans (List.perm_append_singleton s (l.take i)).symm)
    refine ⟨R, e, f, Ev.succ ?_⟩
    simp only [spec_cuSorted.l0]
    refine Ev.pos (by omega) (Ev.pos (by omega) (Ev.pos (by omega) ?_))
    rw [rd_sq, h2]
    refine d R ?_
    rw [wrap64_id (n := (i : Int) + 1) (by omega) (by omega)]
    exact g
theorem cuSorted_ev (l : List Sq) (hl : l.length ≤ 1000) : ∃ R, R.Pairwise LeP ∧ R.Perm l ∧ Ev (fun k => spec_cuSorted.f k l) R := cuSorted_l0 l hl l 0 [] rfl (by omega) List.Pairwise.nil (List.Perm.refl _)

/-! ### what SortFunc answers -/
theorem sortF_spec (l : List Sq) (hb : ∀ s ∈ l, BdSq s) (hl : l.length ≤ 1000000) : ∃ r, slices_SortFunc_impl_Square_impl_Square__impl_comparePlaces.f l = some r ∧ r.Perm l ∧ r.Pairwise LeP := by
  unfold slices_SortFunc_impl_Square_impl_Square__impl_comparePlaces.f
  rw [dif_pos ⟨hb, hl⟩]
  have hs : (bsqOf l hb).size = l.length := by simp [bsqOf]
  have hps := Sort.pdq_sorts (ltOf cfSq) swoSq (bsqOf l hb) 0 l.length (Lib.bitLen l.length) true true (Nat.zero_le _) (by omega) (Or.inl rfl)
  generalize Sort.pdq (ltOf cfSq) (bsqOf l hb) 0 l.length (Lib.bitLen l.length) true true = dd at hps ⊢
  have hsz : dd.size = l.length := by rw [hps.1.1, hs]
  refine ⟨_, rfl, ?_, ?_⟩
  · have hp := hps.1.2.2
    rw [Array.toList_extract, Array.toList_extract] at hp
    simp only [List.extract_eq_take_drop, List.drop_zero, Nat.sub_zero] at hp
    rw [List.take_of_length_le (by rw [Array.length_toList, hsz]; exact Nat.le_refl _), List.take_of_length_le (by rw [Array.length_toList, hs]; exact Nat.le_refl _)] at hp
    have hm := hp.map (fun s : BSq => s.1)
    have e : (bsqOf l hb).toList.map (fun s : BSq => s.1) = l := by simp [bsqOf]
    rw [e] at hm
    exact hm
  · rw [List.pairwise_map, List.pairwise_iff_getElem]
    intro i j hi hj hij
    rw [Array.length_toList] at hi hj
    have h := hps.2 i j (Nat.zero_le _) hij (by omega)
    rw [ltSq, decide_eq_false_iff_not, getElem!_pos dd i hi, getElem!_pos dd j hj] at h
    simpa [LeP, Less, placeLt] using h

/-! ### a cut's squares -/
theorem good_in {W H : Int} {l : List Sq} (hg : Good W H l) {s : Sq} (hs : s ∈ l) : Ins W H s := by
  obtain ⟨j, hj, rfl⟩ := List.mem_iff_getElem.1 hs
  rw [← sqAt_get l j hj]
  exact (hg.2.2.2.1 j hj).1
theorem ovl_symm {a b : Sq} (h : Ovl a b) : Ovl b a := ⟨h.2.1, h.1, h.2.2.2, h.2.2.1⟩
theorem good_inj {W H : Int} {l : List Sq} (hg : Good W H l) {a b : Sq} (ha : a ∈ l) (hb : b ∈ l) (h : Ovl a b) : a = b := by
  obtain ⟨i, hi, rfl⟩ := List.mem_iff_getElem.1 ha
  obtain ⟨j, hj, rfl⟩ := List.mem_iff_getElem.1 hb
  rw [← sqAt_get l i hi, ← sqAt_get l j hj] at h ⊢
  rcases Nat.lt_trichotomy i j with hlt | rfl | hlt
  · exact absurd (ovl_symm h) ((hg.2.2.2.1 j hj).2.2 i hlt)
  · rfl
  · exact absurd h ((hg.2.2.2.1 i hi).2.2 j hlt)
theorem take_map_succ (l : List Sq) (f : Sq → Sq) (i : Nat) (s : Sq) (t : List Sq) (h : l.drop i = s :: t) : (l.take i).map f ++ [f s] = (l.take (i + 1)).map f := by
  obtain ⟨h1, h2, _⟩ := sqs_drop l i s t h
  have e : l.take (i + 1) = l.take i ++ [s] := by
    rw [List.take_add_one, List.getElem?_eq_getElem h1, ← h2, sqAt_get l i h1]; rfl
  rw [e, List.map_append]; rfl

/-! ### cuts whose lengths grow -/
def gro (k : Int) (s : Sq) : Sq := ⟨wrap64 (k * s.f0), wrap64 (k * s.f1), wrap64 (k * s.f2)⟩
theorem mul_bd {k x : Int} (hk : 1 ≤ k ∧ k ≤ 500) (h0 : 0 ≤ x) (h1 : x ≤ 500) : 0 ≤ k * x ∧ k * x ≤ 250000 := by
  have a := Int.mul_nonneg (show 0 ≤ k by omega) h0
  have b := Int.mul_le_mul_of_nonneg_left h1 (show 0 ≤ k by omega)
  have c := Int.mul_le_mul_of_nonneg_right hk.2 (show (0 : Int) ≤ 500 by omega)
  omega
theorem gro_eq {k W H : Int} (hk : 1 ≤ k ∧ k ≤ 500) (hW : W ≤ 500) (hH : H ≤ 500) {s : Sq} (h : Ins W H s) : gro k s = ⟨k * s.f0, k * s.f1, k * s.f2⟩ := by
  obtain ⟨h1, h2, h3, h4, h5⟩ := h
  have a := mul_bd hk h2 (by omega)
  have b := mul_bd hk h4 (by omega)
  have c := mul_bd hk (show 0 ≤ s.f2 by omega) (by omega)
  unfold gro
  rw [wrap64_id (n := k * s.f0) (by omega) (by omega), wrap64_id (n := k * s.f1) (by omega) (by omega), wrap64_id (n := k * s.f2) (by omega) (by omega)]
theorem lt_mul {k u v : Int} (hk : 1 ≤ k) : k * u < k * v ↔ u < v :=
  ⟨fun h => Int.lt_of_mul_lt_mul_left h (by omega), fun h => Int.mul_lt_mul_of_pos_left h (by omega)⟩
theorem le_mul {k u v : Int} (hk : 1 ≤ k) : k * u ≤ k * v ↔ u ≤ v :=
  ⟨fun h => Int.le_of_mul_le_mul_left h (by omega), fun h => Int.mul_le_mul_of_nonneg_left h (by omega)⟩
theorem gro_less {k W H : Int} {l : List Sq} (hk : 1 ≤ k ∧ k ≤ 500) (hg : Good W H l) {a b : Sq} (ha : a ∈ l) (hb : b ∈ l) (h : Less a b) : Less (gro k a) (gro k b) := by
  rw [gro_eq hk hg.1.2 hg.2.1.2 (good_in hg ha), gro_eq hk hg.1.2 hg.2.1.2 (good_in hg hb)]
  unfold Less at h ⊢
  dsimp only
  rw [lt_mul hk.1, lt_mul hk.1]
  rcases h with h | ⟨h1, h2⟩
  · exact .inl h
  · exact .inr ⟨by rw [h1], h2⟩
theorem gro_ovl {k W H : Int} {l : List Sq} (hk : 1 ≤ k ∧ k ≤ 500) (hg : Good W H l) {a b : Sq} (ha : a ∈ l) (hb : b ∈ l) (h : Ovl (gro k a) (gro k b)) : Ovl a b := by
  rw [gro_eq hk hg.1.2 hg.2.1.2 (good_in hg ha), gro_eq hk hg.1.2 hg.2.1.2 (good_in hg hb)] at h
  unfold Ovl at h ⊢
  dsimp only at h
  simp only [← Int.mul_add, lt_mul hk.1] at h
  exact h
theorem gro_ins {k W H : Int} {l : List Sq} (hk : 1 ≤ k ∧ k ≤ 500) (hg : Good W H l) {a : Sq} (ha : a ∈ l) : Ins (k * W) (k * H) (gro k a) := by
  rw [gro_eq hk hg.1.2 hg.2.1.2 (good_in hg ha)]
  obtain ⟨h1, h2, h3, h4, h5⟩ := good_in hg ha
  unfold Ins
  dsimp only
  simp only [← Int.mul_add, le_mul hk.1]
  refine ⟨?_, Int.mul_nonneg (by omega) h2, h3, Int.mul_nonneg (by omega) h4, h5⟩
  have := (le_mul (k := k) hk.1).2 h1
  omega
theorem map_at (l : List Sq) (f : Sq → Sq) (i : Nat) (h : i < l.length) : sqAt (l.map f) i = f (sqAt l i) := by
  rw [sqAt_get _ i (by rw [List.length_map]; exact h), sqAt_get l i h, List.getElem_map]
theorem gro_area {k W H : Int} {l : List Sq} (hk : 1 ≤ k ∧ k ≤ 500) (hg : Good W H l) : ∀ n, n ≤ l.length → areaTo (l.map (gro k)) n = k * k * areaTo l n := by
  intro n
  induction n with
  | zero => intro _; simp [areaTo]
  | succ n ih =>
    intro hn
    rw [areaTo, areaTo, ih (by omega), map_at l _ n (by omega), gro_eq hk hg.1.2 hg.2.1.2 (good_in hg (sqAt_mem l n (by omega)))]
    dsimp only
    rw [Int.mul_add]
    congr 1
    rw [Int.mul_assoc, Int.mul_assoc, Int.mul_left_comm (sqAt l n).f2 k]
theorem gro_good {k W H : Int} {l : List Sq} (hk : 1 ≤ k ∧ k ≤ 500) (hg : Good W H l) (hw : k * W ≤ 500) (hh : k * H ≤ 500) : Good (k * W) (k * H) (l.map (gro k)) := by
  have h1 := (le_mul (k := k) hk.1).2 hg.1.1
  have h2 := (le_mul (k := k) hk.1).2 hg.2.1.1
  refine ⟨⟨by omega, hw⟩, ⟨by omega, hh⟩, by rw [List.length_map]; exact hg.2.2.1, fun i hi => ?_, ?_⟩
  · rw [List.length_map] at hi
    have hok := hg.2.2.2.1 i hi
    have hm := sqAt_mem l i hi
    refine ⟨by rw [map_at l _ i hi]; exact gro_ins hk hg hm, fun h0 => ?_, fun j hj ho => ?_⟩
    · rw [map_at l _ i hi, map_at l _ (i - 1) (by omega)]
      exact gro_less hk hg (sqAt_mem l (i - 1) (by omega)) hm (hok.2.1 h0)
    · rw [map_at l _ i hi, map_at l _ j (by omega)] at ho
      exact hok.2.2 j hj (gro_ovl hk hg hm (sqAt_mem l j (by omega)) ho)
  · rw [List.length_map, gro_area hk hg _ (Nat.le_refl _), hg.2.2.2.2]
    rw [Int.mul_assoc, Int.mul_assoc, Int.mul_left_comm k W]
theorem less_at {W H : Int} {l : List Sq} (hg : Good W H l) : ∀ (d i : Nat), i + d + 1 < l.length → Less (sqAt l i) (sqAt l (i + d + 1)) := by
  intro d
  induction d with
  | zero =>
    intro i h
    have := (hg.2.2.2.1 (i + 1) h).2.1 (by omega)
    rw [Nat.add_sub_cancel] at this
    exact this
  | succ d ih =>
    intro i h
    have h1 := ih i (by omega)
    have h2 := (hg.2.2.2.1 (i + (d + 1) + 1) h).2.1 (by omega)
    rw [Nat.add_sub_cancel, show i + (d + 1) = i + d + 1 by omega] at h2
    rw [show i + (d + 1) + 1 = i + d + 1 + 1 by omega]
    unfold Less at h1 h2 ⊢; omega
theorem gro_sorted {k W H : Int} {l : List Sq} (hk : 1 ≤ k ∧ k ≤ 500) (hg : Good W H l) : (l.map (gro k)).Pairwise LeP := by
  rw [List.pairwise_map, List.pairwise_iff_getElem]
  intro i j hi hj hij
  refine LeP.of_less (gro_less hk hg (List.getElem_mem _) (List.getElem_mem _) ?_)
  have := less_at hg (j - i - 1) i (by omega)
  rw [show i + (j - i - 1) + 1 = j by omega, sqAt_get l i hi, sqAt_get l j hj] at this
  exact this
theorem gro_dist {k W H : Int} {l : List Sq} (hk : 1 ≤ k ∧ k ≤ 500) (hg : Good W H l) : Dist (l.map (gro k)) := by
  intro a ha b hb e0 e1
  obtain ⟨p, hp, rfl⟩ := List.mem_map.1 ha
  obtain ⟨q, hq, rfl⟩ := List.mem_map.1 hb
  rw [gro_eq hk hg.1.2 hg.2.1.2 (good_in hg hp), gro_eq hk hg.1.2 hg.2.1.2 (good_in hg hq)] at e0 e1
  have x0 : p.f0 = q.f0 := Int.eq_of_mul_eq_mul_left (show k ≠ 0 by omega) e0
  have x1 : p.f1 = q.f1 := Int.eq_of_mul_eq_mul_left (show k ≠ 0 by omega) e1
  obtain ⟨p1, p2, p3, p4, p5⟩ := good_in hg hp
  obtain ⟨q1, q2, q3, q4, q5⟩ := good_in hg hq
  rw [good_inj hg hp hq (by unfold Ovl; omega)]
theorem gro_bd {k W H : Int} {l : List Sq} (hk : 1 ≤ k ∧ k ≤ 500) (hg : Good W H l) {s : Sq} (hs : s ∈ l) : BdSq (gro k s) := by
  have hi := good_in hg hs
  have hW := hg.1.2; have hH := hg.2.1.2
  rw [gro_eq hk hg.1.2 hg.2.1.2 hi]
  obtain ⟨h1, h2, h3, h4, h5⟩ := hi
  have a := mul_bd hk h2 (by omega)
  have b := mul_bd hk h4 (by omega)
  unfold BdSq
  dsimp only
  omega
theorem spec_grow_loop (k W H : Int) (l : List Sq) (hl : l.length ≤ 1000) (r : Int × Int × List Sq × Bool) (hR : Ev (fun q => spec_cuMake.f q (wrap64 (k * W)) (wrap64 (k * H)) (l.map (gro k))) r) : ∀ (t : List Sq) (i : Nat), l.drop i = t → i + t.length = l.length →
    Ev (fun q => spec_GrowCut.l0 q k ((l.take i).map (gro k)) l (l.length : Int) (i : Int) W H l) r := by
  intro t
  induction t with
  | nil =>
    intro i hd hi
    simp only [List.length_nil] at hi
    refine Ev.succ ?_
    simp only [spec_GrowCut.l0]
    rw [List.take_of_length_le (by omega)]
    exact Ev.neg (by omega) (Ev.bind hR (Ev.now _))
  | cons s t ih =>
    intro i hd hi
    obtain ⟨h1, h2, h3⟩ := sqs_drop l i s t hd
    simp only [List.length_cons] at hi
    refine Ev.succ ?_
    simp only [spec_GrowCut.l0]
    refine Ev.pos (by omega) (Ev.pos (by omega) (Ev.pos (by omega) (Ev.pos (by rw [List.length_map, List.length_take]; omega) ?_)))
    rw [rd_sq, h2, wrap64_id (n := (i : Int) + 1) (by omega) (by omega)]
    have e := take_map_succ l (gro k) i s t hd
    have h := ih (i + 1) h3 (by omega)
    rw [← e] at h
    exact h
theorem impl_grow_loop (k A B : Int) (l : List Sq) (hl : l.length ≤ 1000) (R : List Sq) (hR : slices_SortFunc_impl_Square_impl_Square__impl_comparePlaces.f (l.map (gro k)) = some R) : ∀ (t : List Sq) (i : Nat), l.drop i = t → i + t.length = l.length →
    Ev (fun q => impl_Cut_changed__impl_Cut_grown_1.l0 q l (l.length : Int) (i : Int) k A B ((l.take i).map (gro k))) (A, B, R) := by
  intro t
  induction t with
  | nil =>
    intro i hd hi
    simp only [List.length_nil] at hi
    refine Ev.succ ?_
    simp only [impl_Cut_changed__impl_Cut_grown_1.l0]
    rw [List.take_of_length_le (by omega)]
    exact Ev.neg (by omega) (Ev.bindc hR (Ev.now _))
  | cons s t ih =>
    intro i hd hi
    obtain ⟨h1, h2, h3⟩ := sqs_drop l i s t hd
    simp only [List.length_cons] at hi
    refine Ev.succ ?_
    simp only [impl_Cut_changed__impl_Cut_grown_1.l0]
    refine Ev.pos (by omega) (Ev.pos (by omega) (Ev.pos (by omega) ?_))
    rw [rd_sq, h2, wrap64_id (n := (i : Int) + 1) (by omega) (by omega)]
    refine Ev.bindc (a := ((gro k s).f0, (gro k s).f1, (gro k s).f2)) (by unfold impl_Cut_grown_1.f gro; rw [Int.mul_comm s.f0, Int.mul_comm s.f1, Int.mul_comm s.f2]) (Ev.pos (by rw [List.length_map, List.length_take]; omega) ?_)
    have e := take_map_succ l (gro k) i s t hd
    have h := ih (i + 1) h3 (by omega)
    rw [← e] at h
    exact h
theorem grow_both (W H : Int) (l : List Sq) (k : Int) : ∃ B : Int × Int × List Sq × Bool, Ev (fun q => spec_GrowCut.f q W H l k) B ∧ Ev (fun q => impl_GrowCut.f q W H l k) B ∧ B.2.2.1.length ≤ 30 := by
  by_cases h : Good W H l
  · have hl := h.2.2.1.2
    have hW := h.1; have hH := h.2.1
    by_cases hk : 1 ≤ k ∧ k ≤ 500
    · have bW := mul_bd hk (show 0 ≤ W by omega) hW.2
      have bH := mul_bd hk (show 0 ≤ H by omega) hH.2
      have eW : wrap64 (k * W) = k * W := wrap64_id (n := k * W) (by omega) (by omega)
      have eH : wrap64 (k * H) = k * H := wrap64_id (n := k * H) (by omega) (by omega)
      obtain ⟨R, hs, hp, hev⟩ := cuSorted_ev (l.map (gro k)) (by rw [List.length_map]; omega)
      obtain ⟨R', hf, hp', hs'⟩ := sortF_spec (l.map (gro k)) (fun s hq => by
        obtain ⟨p, hpl, rfl⟩ := List.mem_map.1 hq
        exact gro_bd hk h hpl) (by rw [List.length_map]; omega)
      have e1 : R' = l.map (gro k) := eq_of_sorted (gro_dist hk h) hp' (List.Perm.refl _) hs' (gro_sorted hk h)
      have e2 : R = l.map (gro k) := eq_of_sorted (gro_dist hk h) hp (List.Perm.refl _) hs (gro_sorted hk h)
      rw [e1] at hf
      rw [e2] at hev
      by_cases hsz : k * W ≤ 500 ∧ k * H ≤ 500
      · have hgood := gro_good hk h hsz.1 hsz.2
        refine ⟨(k * W, k * H, l.map (gro k), true), ?_, ?_, by dsimp only; rw [List.length_map]; exact hl⟩
        · unfold spec_GrowCut.f
          refine Ev.bind (spec_cuGood_ev W H l) (Ev.pos (by simpa using h) (Ev.bindc (l1In_eq _ _ _) (Ev.succ ?_)))
          simp only [spec_GrowCut.j0]
          refine Ev.neg (by simp; omega) (spec_grow_loop k W H l (by omega) _ ?_ l 0 rfl (by omega))
          unfold spec_cuMake.f
          rw [eW, eH]
          exact Ev.neg (by rw [List.length_map]; omega) (Ev.bind hev (Ev.bind (spec_cuGood_ev _ _ _) (Ev.pos (by simpa using hgood) (Ev.now _))))
        · unfold impl_GrowCut.f
          refine Ev.bind (impl_IsCut_ev W H l) (Ev.pos (by simpa using h) (Ev.bind (a := (k * W, k * H, l.map (gro k), true)) ?_ (Ev.now _)))
          unfold impl_Cut_grown.f
          rw [Int.mul_comm W, Int.mul_comm H, eW, eH]
          refine Ev.bindc (within_eq _ _ _) (Ev.pos (by simp; omega) (Ev.neg (by omega) (Ev.neg (by omega) (Ev.bind (a := (k * W, k * H, l.map (gro k))) ?_ (Ev.now _)))))
          exact impl_grow_loop k _ _ l (by omega) _ hf l 0 rfl (by omega)
      · refine ⟨(0, 0, [], false), ?_, ?_, by simp⟩
        · unfold spec_GrowCut.f
          refine Ev.bind (spec_cuGood_ev W H l) (Ev.pos (by simpa using h) (Ev.bindc (l1In_eq _ _ _) (Ev.succ ?_)))
          simp only [spec_GrowCut.j0]
          refine Ev.neg (by simp; omega) (spec_grow_loop k W H l (by omega) _ ?_ l 0 rfl (by omega))
          unfold spec_cuMake.f
          rw [eW, eH]
          refine Ev.neg (by rw [List.length_map]; omega) (Ev.bind hev (Ev.bind (spec_cuGood_ev _ _ _) (Ev.neg ?_ (Ev.now _))))
          simp only [decide_eq_true_eq]
          exact fun x => hsz ⟨x.1.2, x.2.1.2⟩
        · unfold impl_GrowCut.f
          refine Ev.bind (impl_IsCut_ev W H l) (Ev.pos (by simpa using h) (Ev.bind (a := (0, 0, [], false)) ?_ (Ev.now _)))
          unfold impl_Cut_grown.f
          rw [Int.mul_comm W, Int.mul_comm H, eW, eH]
          refine Ev.bindc (within_eq _ _ _) (Ev.pos (by simp; omega) ?_)
          by_cases hw : k * W > 500
          · exact Ev.pos hw (Ev.now _)
          · exact Ev.neg hw (Ev.pos (by omega) (Ev.now _))
    · refine ⟨(0, 0, [], false), ?_, ?_, by simp⟩
      · unfold spec_GrowCut.f
        refine Ev.bind (spec_cuGood_ev W H l) (Ev.pos (by simpa using h) (Ev.bindc (l1In_eq _ _ _) (Ev.succ ?_)))
        simp only [spec_GrowCut.j0]
        exact Ev.pos (by simp; omega) (Ev.now _)
      · unfold impl_GrowCut.f
        refine Ev.bind (impl_IsCut_ev W H l) (Ev.pos (by simpa using h) (Ev.bind (a := (0, 0, [], false)) ?_ (Ev.now _)))
        unfold impl_Cut_grown.f
        exact Ev.bindc (within_eq _ _ _) (Ev.neg (by simp; omega) (Ev.now _))
  · refine ⟨(0, 0, [], false), ?_, ?_, by simp⟩
    · unfold spec_GrowCut.f
      refine Ev.bind (spec_cuGood_ev W H l) (Ev.neg (by simpa using h) (Ev.succ ?_))
      simp only [spec_GrowCut.j0]
      exact Ev.pos trivial (Ev.now _)
    · unfold impl_GrowCut.f
      exact Ev.bind (impl_IsCut_ev W H l) (Ev.neg (by simpa using h) (Ev.now _))
theorem FnExactGrowCut : laws_FnExactGrowCut.Pure := by
  intro W H l q _ _ hm _ _
  refine Ev.rounds (g := fun k => laws_FnExactGrowCut.f k W H l q) ?_
  unfold laws_FnExactGrowCut.f
  refine Ev.bindc (szCut_eq W H l hm) ?_
  by_cases h : l.length ≤ 1048576
  · rw [if_pos h]
    have hm1 : (l.map conv).length ≤ 1099511627776 := by simp; omega
    obtain ⟨B, s1, s2, hb⟩ := grow_both W H (l.map conv) q
    have qB := eqCut_ev B.1 B.2.1 B.2.2.1 (by omega)
    have qN := eqCut_ev W H (l.map conv) hm1
    have mB := markC_ev B.1 B.2.1 B.2.2.1 (by omega) 1 (by omega) (by omega)
    have mN := markC_ev W H (l.map conv) hm1 1 (by omega) (by omega)
    have hB := heldC_ev B.1 B.2.1 B.2.2.1.length (by omega) 1 (by omega) (by omega)
    have tN := toCut_ev W H l h
    refine Ev.neg (by omega) (Ev.bind tN (Ev.bind s1 (Ev.bind tN (Ev.bind s2 (Ev.bind qB (Ev.pos rfl ?_))))))
    refine Ev.succ ?_
    simp only [laws_FnExactGrowCut.j0]
    refine Ev.neg (by simp) (Ev.bind tN (Ev.bind qN (Ev.pos rfl (Ev.bind mN (Ev.neg (by dsimp only; omega) (Ev.bind qB (Ev.pos rfl ?_)))))))
    refine Ev.succ ?_
    simp only [laws_FnExactGrowCut.j1]
    refine Ev.neg (by simp) (Ev.bind mB (Ev.bind hB (Ev.neg (by omega) (Ev.pos rfl (Ev.bind tN (Ev.bind s2 (Ev.bind qB (Ev.pos rfl ?_))))))))
    refine Ev.succ ?_
    simp only [laws_FnExactGrowCut.j2]
    refine Ev.neg (by simp) (Ev.bind hB (Ev.neg (by omega) (Ev.pos rfl (Ev.now _))))
  · rw [if_neg h]
    exact Ev.pos (by omega) (Ev.now _)

end Go.Proofs.Ytocblinaclehdaa.Pure
