/- The program's OneSquare and the reference's return the same for all arguments: a square of a side in 1 to 500 alone is a cut. -/
import Derived.Test.YtlifiingpggocaaPFnExactOneSquarex8
import Derived.Test.YtlifiingpggocaaPFnExactOneSquarex0
import Derived.Test.YtlifiingpggocaaPFnExactOneSquarex1
import Derived.Test.YtlifiingpggocaaPFnExactOneSquarex2
import Derived.Test.YtlifiingpggocaaPFnExactOneSquarex3
import Derived.Test.YtlifiingpggocaaPFnExactOneSquarex4
import Derived.Test.YtlifiingpggocaaPFnExactOneSquarex5
import Derived.Test.YtlifiingpggocaaPFnExactOneSquarex6
import Derived.Test.YtlifiingpggocaaPFnExactOneSquarex7
import Derived.Test.YtlifiingpggocaaWGuardMoreInvWords
namespace Go.Proofs.Ytlifiingpggocaa.Pure
open Go.RowKit Go.Proofs.Ytlifiingpggocaa.PFnExactOneSquare Go.Proofs.YtlifiingpggocaaW.PrintWords Go.Proofs.YtlifiingpggocaaW.PrintLast Go.Proofs.YtlifiingpggocaaW.PrintMore Go.Proofs.YtlifiingpggocaaW.Evs
set_option linter.unusedVariables false
set_option linter.unusedSimpArgs false
/-! ### a cut: what the program's IsCut and the reference's cuGood answer -/
abbrev Sq := S71
def sqAt (l : List Sq) (j : Nat) : Sq := l.getD j z71
theorem rd_sq (l : List Sq) (j : Nat) : rd_T71 l (j : Int) = sqAt l j := by unfold rd_T71 sqAt; rw [Int.toNat_natCast]
theorem sqAt_get (l : List Sq) (j : Nat) (h : j < l.length) : sqAt l j = l[j] := by unfold sqAt; simp [List.getD, h]
theorem sqAt_mem (l : List Sq) (j : Nat) (h : j < l.length) : sqAt l j ∈ l := by rw [sqAt_get l j h]; exact List.getElem_mem h
/-- a square lies in the rectangle -/
def Ins (W H : Int) (s : Sq) : Prop := 1 ≤ s.f2 ∧ 0 ≤ s.f0 ∧ s.f0 + s.f2 ≤ W ∧ 0 ≤ s.f1 ∧ s.f1 + s.f2 ≤ H
instance (W H : Int) (s : Sq) : Decidable (Ins W H s) := by unfold Ins; infer_instance
def Less (a b : Sq) : Prop := a.f1 < b.f1 ∨ a.f1 = b.f1 ∧ a.f0 < b.f0
instance (a b : Sq) : Decidable (Less a b) := by unfold Less; infer_instance
def Ovl (a b : Sq) : Prop := a.f0 < b.f0 + b.f2 ∧ b.f0 < a.f0 + a.f2 ∧ a.f1 < b.f1 + b.f2 ∧ b.f1 < a.f1 + a.f2
instance (a b : Sq) : Decidable (Ovl a b) := by unfold Ovl; infer_instance
def OkAt (W H : Int) (l : List Sq) (i : Nat) : Prop := Ins W H (sqAt l i) ∧ (0 < i → Less (sqAt l (i - 1)) (sqAt l i)) ∧ ∀ j, j < i → ¬ Ovl (sqAt l i) (sqAt l j)
instance (W H : Int) (l : List Sq) (i : Nat) : Decidable (OkAt W H l i) := by unfold OkAt; infer_instance
def areaTo (l : List Sq) : Nat → Int
  | 0 => 0
  | n + 1 => areaTo l n + (sqAt l n).f2 * (sqAt l n).f2
/-- a width, a height and squares are a cut -/
def Good (W H : Int) (l : List Sq) : Prop := (1 ≤ W ∧ W ≤ 500) ∧ (1 ≤ H ∧ H ≤ 500) ∧ (1 ≤ l.length ∧ l.length ≤ 30) ∧ (∀ i, i < l.length → OkAt W H l i) ∧ areaTo l l.length = W * H
instance (W H : Int) (l : List Sq) : Decidable (Good W H l) := by unfold Good; infer_instance

theorem within_eq (a b c : Int) : impl_within.f a b c = some (decide (b ≤ a ∧ a ≤ c)) := by
  unfold impl_within.f
  by_cases h : b ≤ a
  · rw [if_pos h]; simp [h]
  · rw [if_neg h]; simp [h]
theorem isWide_eq (a : Int) : impl_isWide.f a = some (decide (1 ≤ a ∧ a ≤ 500)) := by
  unfold impl_isWide.f; rw [within_eq]; rfl
theorem l1In_eq (a b c : Int) : spec_l1In.f a b c = some (decide (b ≤ a ∧ a ≤ c)) := by
  unfold spec_l1In.f
  by_cases h : b ≤ a
  · rw [if_pos h]; simp [h]
  · rw [if_neg h]; simp [h]
theorem areaTo_bd (W H : Int) (l : List Sq) (hW : W ≤ 500) (hH : H ≤ 500) : ∀ n, n ≤ 30 → (∀ m, m < n → Ins W H (sqAt l m)) → 0 ≤ areaTo l n ∧ areaTo l n ≤ n * 250000
  | 0, _, _ => by simp [areaTo]
  | n + 1, hn, h => by
    obtain ⟨h1, h2⟩ := areaTo_bd W H l hW hH n (by omega) (fun m hm => h m (by omega))
    have hi := h n (by omega)
    unfold Ins at hi
    have q1 : 0 ≤ (sqAt l n).f2 * (sqAt l n).f2 := Int.mul_nonneg (by omega) (by omega)
    have q2 : (sqAt l n).f2 * (sqAt l n).f2 ≤ 500 * 500 := Int.mul_le_mul (by omega) (by omega) (by omega) (by omega)
    simp only [areaTo]
    omega
theorem sq_bd {W H : Int} {s : Sq} (hW : W ≤ 500) (hH : H ≤ 500) (h : Ins W H s) : 0 ≤ s.f2 * s.f2 ∧ s.f2 * s.f2 ≤ 250000 := by
  unfold Ins at h
  have q1 : 0 ≤ s.f2 * s.f2 := Int.mul_nonneg (by omega) (by omega)
  have q2 : s.f2 * s.f2 ≤ 500 * 500 := Int.mul_le_mul (by omega) (by omega) (by omega) (by omega)
  omega

theorem compare_eq {W H : Int} {a b : Sq} (hW : W ≤ 500) (hH : H ≤ 500) (ha : Ins W H a) (hb : Ins W H b) :
    ∃ c, impl_comparePlaces.f a.f0 a.f1 a.f2 b.f0 b.f1 b.f2 = some c ∧ (c < 0 ↔ Less a b) := by
  unfold Ins at ha hb
  unfold impl_comparePlaces.f Less
  by_cases e : a.f1 = b.f1
  · rw [if_pos e]; exact ⟨_, rfl, by rw [wrap64_id (by omega) (by omega)]; omega⟩
  · rw [if_neg e]; exact ⟨_, rfl, by rw [wrap64_id (by omega) (by omega)]; omega⟩
theorem overlap_eq {W H : Int} {a b : Sq} (hW : W ≤ 500) (hH : H ≤ 500) (ha : Ins W H a) (hb : Ins W H b) :
    impl_overlap.f a.f0 a.f1 a.f2 b.f0 b.f1 b.f2 = some (decide (Ovl a b)) := by
  unfold Ins at ha hb
  unfold impl_overlap.f Ovl
  rw [wrap64_id (by omega) (by omega), wrap64_id (by omega) (by omega), wrap64_id (by omega) (by omega), wrap64_id (by omega) (by omega)]
  by_cases h1 : a.f0 < b.f0 + b.f2
  · by_cases h2 : b.f0 < a.f0 + a.f2
    · by_cases h3 : a.f1 < b.f1 + b.f2
      · simp [h1, h2, h3]
      · simp [h1, h2, h3]
    · simp [h1, h2]
  · simp [h1]
theorem contains_eq {W H : Int} {l : List Sq} (hW : W ≤ 500) (hH : H ≤ 500) (i : Nat) (hi : i < l.length) (h : ∀ m, m ≤ i → Ins W H (sqAt l m)) :
    slices_ContainsFunc_impl_Square_impl_Square__impl_IsCut_1.f (l.take i) (sqAt l i).f0 (sqAt l i).f1 (sqAt l i).f2 = some (decide (∃ j, j < i ∧ Ovl (sqAt l i) (sqAt l j))) := by
  unfold slices_ContainsFunc_impl_Square_impl_Square__impl_IsCut_1.f
  congr 1
  rw [Bool.eq_iff_iff, List.any_eq_true, decide_eq_true_eq]
  constructor
  · rintro ⟨t, ht, hp⟩
    obtain ⟨j, hj⟩ := List.getElem?_of_mem ht
    have hj1 : j < (l.take i).length := (List.getElem?_eq_some_iff.1 hj).1
    have hj2 : j < i := by simp at hj1; omega
    have e : t = sqAt l j := by
      rw [List.getElem?_take_of_lt hj2, List.getElem?_eq_getElem (by omega)] at hj
      rw [sqAt_get l j (by omega)]; exact (Option.some.inj hj).symm
    subst e
    rw [overlap_eq hW hH (h i (Nat.le_refl _)) (h j (by omega))] at hp
    exact ⟨j, hj2, by simpa using hp⟩
  · rintro ⟨j, hj, ho⟩
    refine ⟨sqAt l j, ?_, ?_⟩
    · rw [sqAt_get l j (by omega)]
      exact List.mem_take_iff_getElem.2 ⟨j, by omega, rfl⟩
    · rw [overlap_eq hW hH (h i (Nat.le_refl _)) (h j (by omega))]; simpa using ho

theorem okFrom_step (W H : Int) (l : List Sq) (i : Nat) : (∀ m, i ≤ m → m < l.length → OkAt W H l m) ↔ (i < l.length → OkAt W H l i) ∧ (∀ m, i + 1 ≤ m → m < l.length → OkAt W H l m) :=
  ⟨fun h => ⟨fun hi => h i (Nat.le_refl _) hi, fun m h1 h2 => h m (by omega) h2⟩, fun ⟨h1, h2⟩ m h3 h4 => by
    by_cases e : i = m
    · subst e; exact h1 h4
    · exact h2 m (by omega) h4⟩

theorem impl_loop {W H : Int} {l : List Sq} (hW : 1 ≤ W ∧ W ≤ 500) (hH : 1 ≤ H ∧ H ≤ 500) (hl : l.length ≤ 30) : ∀ (d i : Nat), l.length - i = d → i ≤ l.length → (∀ m, m < i → OkAt W H l m) →
    ∀ r : Bool, (r = true ↔ (∀ m, i ≤ m → m < l.length → OkAt W H l m) ∧ areaTo l l.length = W * H) → Ev (fun k => impl_IsCut.l0 k (areaTo l i) l (l.length : Int) (i : Int) W H l) r := by
  intro d
  induction d with
  | zero =>
    intro i hd hi hok r hr
    obtain rfl : i = l.length := by omega
    have bd := areaTo_bd W H l hW.2 hH.2 l.length hl (fun m hm => (hok m hm).1)
    have w1 : W * H ≤ 500 * 500 := Int.mul_le_mul (by omega) (by omega) (by omega) (by omega)
    have w0 : 0 ≤ W * H := Int.mul_nonneg (by omega) (by omega)
    refine Ev.succ ?_
    simp only [impl_IsCut.l0]
    refine Ev.neg (by omega) ?_
    rw [wrap64_id (by omega) (by omega)]
    refine Ev.eqr (Ev.now _) ?_
    rw [Bool.eq_iff_iff, hr, beq_iff_eq]
    exact ⟨fun h => ⟨fun m h1 h2 => by omega, h⟩, fun h => h.2⟩
  | succ d ih =>
    intro i hd hi hok r hr
    have hlt : i < l.length := by omega
    rw [okFrom_step] at hr
    refine Ev.succ ?_
    simp only [impl_IsCut.l0, rd_sq]
    refine Ev.pos (by omega) (Ev.pos (by omega) (Ev.pos (by omega) ?_))
    have hmn : mn W H ≤ 500 := by unfold mn; split <;> omega
    have fall : ∀ r : Bool, r = false → Ev (fun k => impl_IsCut.j2 k (areaTo l i) (i : Int) l (l.length : Int) (i : Int) true W H l (sqAt l i).f0 (sqAt l i).f1 (sqAt l i).f2) r := by
      rintro _ rfl
      refine Ev.succ ?_
      simp only [impl_IsCut.j2]
      exact Ev.pos trivial (Ev.now _)
    have rf : ¬ OkAt W H l i → r = false := fun h => by
      cases hq : r with
      | false => rfl
      | true => exact absurd ((hr.1 hq).1.1 hlt) h
    have mnle : mn W H ≤ W ∧ mn W H ≤ H ∧ (mn W H = W ∨ mn W H = H) := by unfold mn; split <;> omega
    refine Ev.bindc (within_eq _ _ _) ?_
    by_cases c1 : 1 ≤ (sqAt l i).f2 ∧ (sqAt l i).f2 ≤ mn W H
    · rw [decide_eq_true c1]
      refine Ev.pos rfl (Ev.bindc (within_eq _ _ _) ?_)
      rw [wrap64_id (by omega) (by omega)]
      by_cases c2 : 0 ≤ (sqAt l i).f0 ∧ (sqAt l i).f0 ≤ W - (sqAt l i).f2
      · rw [decide_eq_true c2]
        refine Ev.pos rfl (Ev.bindc (within_eq _ _ _) ?_)
        rw [wrap64_id (by omega) (by omega)]
        by_cases c3 : 0 ≤ (sqAt l i).f1 ∧ (sqAt l i).f1 ≤ H - (sqAt l i).f2
        · rw [decide_eq_true c3]
          have hins : Ins W H (sqAt l i) := by unfold Ins; omega
          have hall : ∀ m, m ≤ i → Ins W H (sqAt l m) := fun m hm => by
            by_cases e : m = i
            · rw [e]; exact hins
            · exact (hok m (by omega)).1
          refine Ev.succ ?_
          simp only [impl_IsCut.j2, Bool.not_true]
          refine Ev.neg (by decide) ?_
          have bd := areaTo_bd W H l hW.2 hH.2 i (by omega) (fun m hm => hall m (by omega))
          have qb := sq_bd hW.2 hH.2 hins
          have tn : ((i : Int)).toNat = i := Int.toNat_natCast i
          have next : (∀ j, j < i → ¬ Ovl (sqAt l i) (sqAt l j)) → (0 < i → Less (sqAt l (i - 1)) (sqAt l i)) → Ev (fun k => impl_IsCut.l0 k (wrap64 (areaTo l i + wrap64 ((sqAt l i).f2 * (sqAt l i).f2))) l (l.length : Int) (wrap64 ((i : Int) + 1)) W H l) r := by
            intro ho hlss
            have hk : OkAt W H l i := ⟨hins, hlss, ho⟩
            rw [wrap64_id (n := (sqAt l i).f2 * (sqAt l i).f2) (by omega) (by omega), wrap64_id (n := areaTo l i + (sqAt l i).f2 * (sqAt l i).f2) (by omega) (by omega), wrap64_id (n := (i : Int) + 1) (by omega) (by omega)]
            have := ih (i + 1) (by omega) (by omega) (fun m hm => by
              by_cases e : m = i
              · rw [e]; exact hk
              · exact hok m (by omega)) r (by rw [hr]; exact ⟨fun h => ⟨h.1.2, h.2⟩, fun h => ⟨⟨fun _ => hk, h.1⟩, h.2⟩⟩)
            exact this
          have cont : (0 < i → Less (sqAt l (i - 1)) (sqAt l i)) → Ev (fun k => if 0 ≤ (i : Int) then if (i : Int) ≤ (l.length : Int) then (slices_ContainsFunc_impl_Square_impl_Square__impl_IsCut_1.f (l.take ((i : Int)).toNat) (sqAt l i).f0 (sqAt l i).f1 (sqAt l i).f2).bind fun t => if t = true then some false else impl_IsCut.l0 k (wrap64 (areaTo l i + wrap64 ((sqAt l i).f2 * (sqAt l i).f2))) l (l.length : Int) (wrap64 ((i : Int) + 1)) W H l else none else none) r := by
            intro hlss
            refine Ev.pos (by omega) (Ev.pos (by omega) ?_)
            rw [tn]
            refine Ev.bindc (contains_eq hW.2 hH.2 i hlt hall) ?_
            by_cases ho : ∃ j, j < i ∧ Ovl (sqAt l i) (sqAt l j)
            · rw [decide_eq_true ho]
              refine Ev.pos rfl (Ev.eqr (Ev.now _) (rf fun hk => ?_).symm)
              obtain ⟨j, hj, hq⟩ := ho
              exact hk.2.2 j hj hq
            · rw [decide_eq_false ho]
              exact Ev.neg (by decide) (next (fun j hj hq => ho ⟨j, hj, hq⟩) hlss)
          by_cases hi0 : (i : Int) > 0
          · refine Ev.pos hi0 ?_
            have e1 : wrap64 ((i : Int) - 1) = ((i - 1 : Nat) : Int) := by rw [wrap64_id (by omega) (by omega)]; omega
            simp only [e1, rd_sq]
            refine Ev.pos (by omega) (Ev.pos (by omega) ?_)
            obtain ⟨c, hc, hcl⟩ := compare_eq hW.2 hH.2 (hall (i - 1) (by omega)) hins
            refine Ev.bindc hc ?_
            by_cases c4 : c ≥ 0
            · refine Ev.pos c4 (Ev.eqr (Ev.now _) (rf fun hk => ?_).symm)
              have := hcl.2 (hk.2.1 (by omega))
              omega
            · exact Ev.neg c4 (cont fun _ => hcl.1 (by omega))
          · exact Ev.neg hi0 (cont fun h => by omega)
        · rw [decide_eq_false c3]
          exact fall _ (rf fun h => c3 (by have := h.1; unfold Ins at this; omega))
      · rw [decide_eq_false c2]
        exact Ev.neg (by decide) (fall _ (rf fun h => c2 (by have := h.1; unfold Ins at this; omega)))
    · rw [decide_eq_false c1]
      refine Ev.neg (by decide) (fall _ (rf fun h => c1 ?_))
      have := h.1
      unfold Ins at this
      rcases mnle.2.2 with e | e <;> omega

theorem impl_IsCut_ev (W H : Int) (l : List Sq) : Ev (fun k => impl_IsCut.f k W H l) (decide (Good W H l)) := by
  unfold impl_IsCut.f
  have fall : ∀ r : Bool, r = false → Ev (fun k => impl_IsCut.j0 k true W H l) r := by
    rintro _ rfl
    refine Ev.succ ?_
    simp only [impl_IsCut.j0]
    exact Ev.pos trivial (Ev.now _)
  refine Ev.bindc (isWide_eq _) ?_
  by_cases c1 : 1 ≤ W ∧ W ≤ 500
  · rw [decide_eq_true c1]
    refine Ev.pos rfl (Ev.bindc (isWide_eq _) ?_)
    by_cases c2 : 1 ≤ H ∧ H ≤ 500
    · rw [decide_eq_true c2]
      refine Ev.pos rfl ?_
      by_cases c3 : (l.length : Int) > 30
      · rw [decide_eq_true c3]
        exact fall _ (decide_eq_false fun h => by have := h.2.2.1; omega)
      · rw [decide_eq_false c3]
        refine Ev.succ ?_
        simp only [impl_IsCut.j0]
        refine Ev.neg (by decide) ?_
        have := impl_loop (l := l) c1 c2 (by omega) l.length 0 (by omega) (Nat.zero_le _) (fun m hm => by omega) (decide (Good W H l)) ?_
        · exact this
        · rw [decide_eq_true_eq]
          constructor
          · intro h; exact ⟨fun m _ h2 => h.2.2.2.1 m h2, h.2.2.2.2⟩
          · intro h
            refine ⟨c1, c2, ⟨?_, (by omega : l.length ≤ 30)⟩, fun m hm => h.1 m (Nat.zero_le _) hm, h.2⟩
            cases hl : l with
            | nil =>
              subst hl
              have e : (0 : Int) = W * H := h.2
              have : 0 < W * H := Int.mul_pos (by omega) (by omega)
              omega
            | cons a t => simp
    · rw [decide_eq_false c2]
      exact Ev.neg (by decide) (fall _ (decide_eq_false fun h => c2 h.2.1))
  · rw [decide_eq_false c1]
    exact Ev.neg (by decide) (fall _ (decide_eq_false fun h => c1 h.1))


/-! ### cuts that are the same -/
theorem eqSquareS_loop (l : List Sq) (hl : l.length ≤ 1099511627776) : ∀ (d i : Nat), l.length - i = d → i ≤ l.length → Ev (fun k => laws_eqSquareS.l0 k l l (i : Int)) true := by
  intro d
  induction d with
  | zero =>
    intro i hd hi
    refine Ev.succ ?_
    simp only [laws_eqSquareS.l0]
    exact Ev.neg (by omega) (Ev.now _)
  | succ d ih =>
    intro i hd hi
    refine Ev.succ ?_
    simp only [laws_eqSquareS.l0]
    refine Ev.pos (by omega) (Ev.pos (by omega) (Ev.pos (by omega) (Ev.bindc (a := true) (by unfold laws_eqSquare.f; simp) (Ev.pos rfl ?_))))
    rw [wrap64_id (by omega) (by omega)]
    exact ih (i + 1) (by omega) (by omega)
theorem eqSquareS_ev (l : List Sq) (hl : l.length ≤ 1099511627776) : Ev (fun k => laws_eqSquareS.f k l l) true := by
  unfold laws_eqSquareS.f
  exact Ev.pos rfl (eqSquareS_loop l hl l.length 0 (by omega) (Nat.zero_le _))
theorem eqCut_ev (W H : Int) (l : List Sq) (hl : l.length ≤ 1099511627776) : Ev (fun k => laws_eqCut.f k W H l W H l) true := by
  unfold laws_eqCut.f
  exact Ev.pos rfl (Ev.pos rfl (Ev.bind (eqSquareS_ev l hl) (Ev.pos rfl (Ev.now _))))

/-! ### cuts that are marked and held -/
def upS (s : Int) : Nat → List Sq
  | 0 => []
  | n + 1 => ⟨s, s + 1, s + 1 + 1⟩ :: upS (s + 3) n
theorem upS_length (n : Nat) : ∀ s, (upS s n).length = n := by
  induction n with
  | zero => intro s; rfl
  | succ n ih => intro s; simp [upS, ih]
theorem upS_get (n : Nat) : ∀ (s : Int) (i : Nat), i < n → (upS s n)[i]? = some ⟨s + 3 * i, s + 3 * i + 1, s + 3 * i + 1 + 1⟩ := by
  induction n with
  | zero => intro s i h; omega
  | succ n ih =>
    intro s i h
    cases i with
    | zero => simp [upS]
    | succ i =>
      simp only [upS, List.getElem?_cons_succ]; rw [ih (s + 3) i (by omega)]
      have e : s + 3 + 3 * (i : Int) = s + 3 * ((i + 1 : Nat) : Int) := by omega
      rw [e]
theorem markSq_loop (N : Nat) (hN : N ≤ 1099511627776) (s : Int) (hs : 0 ≤ s) (hs2 : s ≤ 1099511627776) : ∀ (d i : Nat) (x : List Sq), N - i = d → i ≤ N → x.length = N → (∀ m, m < i → x[m]? = (upS s N)[m]?) →
    Ev (fun k => laws_markSquareS.l0 k x (s + 3 * i) (i : Int)) (s + 3 * N, upS s N) := by
  intro d
  induction d with
  | zero =>
    intro i x hd hi hx h
    obtain rfl : i = N := by omega
    refine Ev.succ ?_
    simp only [laws_markSquareS.l0]
    refine Ev.neg (by omega) (Ev.eqr (Ev.now _) ?_)
    congr 1
    apply List.ext_getElem?
    intro m
    by_cases hm : m < i
    · exact h m hm
    · rw [List.getElem?_eq_none (by omega), List.getElem?_eq_none (by rw [upS_length]; omega)]
  | succ d ih =>
    intro i x hd hi hx h
    refine Ev.succ ?_
    simp only [laws_markSquareS.l0]
    refine Ev.pos (by omega) (Ev.pos (by omega) (Ev.bindc rfl (Ev.bindc rfl ?_)))
    rw [wrap64_id (n := s + 3 * i + 1) (by omega) (by omega), wrap64_id (n := s + 3 * i + 1 + 1) (by omega) (by omega), wrap64_id (n := s + 3 * i + 1 + 1 + 1) (by omega) (by omega), wrap64_id (n := (i : Int) + 1) (by omega) (by omega)]
    have hi' : i < x.length := by omega
    have g1 : ∀ q : Sq, sqAt (x.set i q) i = q := fun q => by unfold sqAt; simp [List.getD, hi']
    have g2 : ∀ q p : Sq, sqAt ((x.set i q).set i p) i = p := fun q p => by unfold sqAt; simp [List.getD, hi']
    simp only [Int.toNat_natCast, rd_sq, g1, g2]
    have e : s + 3 * (i : Int) + 1 + 1 + 1 = s + 3 * ((i + 1 : Nat) : Int) := by omega
    rw [e]
    refine ih (i + 1) _ (by omega) (by omega) (by simp; omega) (fun m hm => ?_)
    by_cases e : m = i
    · subst e
      rw [List.getElem?_set_self (by simp; omega), upS_get _ _ _ (by omega)]
    · rw [List.getElem?_set_ne (by omega), List.getElem?_set_ne (by omega), List.getElem?_set_ne (by omega)]; exact h m (by omega)
theorem heldSq_loop (N : Nat) (hN : N ≤ 1099511627776) (s : Int) (hs : 0 ≤ s) (hs2 : s ≤ 1099511627776) : ∀ (d i : Nat), N - i = d → i ≤ N →
    Ev (fun k => laws_heldSquareS.l0 k (upS s N) (s + 3 * i) (i : Int)) (s + 3 * N) := by
  intro d
  induction d with
  | zero =>
    intro i hd hi
    obtain rfl : i = N := by omega
    refine Ev.succ ?_
    simp only [laws_heldSquareS.l0, upS_length]
    exact Ev.neg (by omega) (Ev.now _)
  | succ d ih =>
    intro i hd hi
    refine Ev.succ ?_
    simp only [laws_heldSquareS.l0, upS_length]
    have hr : rd_T71 (upS s N) (i : Int) = ⟨s + 3 * i, s + 3 * i + 1, s + 3 * i + 1 + 1⟩ := by
      rw [rd_sq]; unfold sqAt; rw [List.getD_eq_getElem?_getD, upS_get _ _ _ (by omega)]; rfl
    rw [hr, wrap64_id (n := s + 3 * i + 1) (by omega) (by omega), wrap64_id (n := s + 3 * i + 1 + 1) (by omega) (by omega), wrap64_id (n := s + 3 * i + 1 + 1 + 1) (by omega) (by omega), wrap64_id (n := (i : Int) + 1) (by omega) (by omega)]
    refine Ev.pos (by omega) (Ev.pos (by omega) (Ev.pos rfl (Ev.pos rfl (Ev.pos rfl ?_))))
    have e : s + 3 * (i : Int) + 1 + 1 + 1 = s + 3 * ((i + 1 : Nat) : Int) := by omega
    rw [e]
    exact ih (i + 1) (by omega) (by omega)
theorem markC_ev (W H : Int) (l : List Sq) (hl : l.length ≤ 1099511627776) (s : Int) (hs : 0 ≤ s) (hs2 : s ≤ 1099511627776) : Ev (fun k => laws_markCut.f k W H l s) (s + 3 * (l.length : Int), upS s l.length) := by
  unfold laws_markCut.f laws_markSquareS.f
  have := markSq_loop l.length hl s hs hs2 l.length 0 l (by omega) (Nat.zero_le _) rfl (fun m hm => by omega)
  exact Ev.bind (by simpa using this) (Ev.now _)
theorem heldC_ev (W H : Int) (N : Nat) (hl : N ≤ 1099511627776) (s : Int) (hs : 0 ≤ s) (hs2 : s ≤ 1099511627776) : Ev (fun k => laws_heldCut.f k W H (upS s N) s) (s + 3 * (N : Int)) := by
  unfold laws_heldCut.f laws_heldSquareS.f
  have := heldSq_loop N hl s hs hs2 N 0 (by omega) (Nat.zero_le _)
  exact Ev.bind (by simpa using this) (Ev.neg (by omega) (Ev.now _))

/-! ### the cut of one square -/
open Classical in
noncomputable def oneSquare (a : Int) : Int × Int × List Sq × Bool := if 1 ≤ a ∧ a ≤ 500 then (a, a, [⟨0, 0, a⟩], true) else (0, 0, [], false)
theorem spec_OneSquare_eq (a : Int) : spec_OneSquare.f a = some (oneSquare a) := by
  unfold spec_OneSquare.f oneSquare
  rw [l1In_eq, Option.bind_some]
  by_cases h : 1 ≤ a ∧ a ≤ 500
  · rw [if_pos (by simpa using h), if_pos h]
  · rw [if_neg (by simpa using h), if_neg h]
theorem good_one (a : Int) : Good a a [⟨0, 0, a⟩] ↔ 1 ≤ a ∧ a ≤ 500 := by
  constructor
  · intro h; exact h.1
  · intro h
    refine ⟨h, h, by simp, fun i hi => ?_, ?_⟩
    · have hi0 : i = 0 := by simpa using hi
      subst hi0
      refine ⟨?_, fun h0 => by omega, fun j hj => by omega⟩
      unfold Ins sqAt
      simp
      omega
    · simp [areaTo, sqAt]
theorem stable_one (s : Sq) : Ev (fun k => slices_SortStableFunc_impl_Square_impl_Square__impl_comparePlaces.f k [s]) [s] := by
  unfold slices_SortStableFunc_impl_Square_impl_Square__impl_comparePlaces.f slices_stableCmpFunc_impl_Square__impl_comparePlaces.f
  refine Ev.bind (a := [s]) ?_ (Ev.now _)
  refine Ev.succ ?_
  simp only [slices_stableCmpFunc_impl_Square__impl_comparePlaces.l0]
  refine Ev.neg (by simp) ?_
  refine Ev.bind (a := [s]) ?_ ?_
  · unfold slices_insertionSortCmpFunc_impl_Square__impl_comparePlaces.f
    refine Ev.succ ?_
    simp only [slices_insertionSortCmpFunc_impl_Square__impl_comparePlaces.l0]
    exact Ev.neg (by simp only [List.length_cons, List.length_nil]; unfold wrap64; omega) (Ev.now _)
  · refine Ev.succ ?_
    simp only [slices_stableCmpFunc_impl_Square__impl_comparePlaces.l1]
    exact Ev.neg (by simp) (Ev.now _)
theorem impl_OneSquare_ev (a : Int) : Ev (fun k => impl_OneSquare.f k a) (oneSquare a) := by
  unfold impl_OneSquare.f impl_cutOf.f
  refine Ev.bind (a := oneSquare a) ?_ (Ev.now _)
  refine Ev.bindc (a := [⟨0, 0, a⟩]) ?_ (Ev.bind (stable_one _) (Ev.bind (impl_IsCut_ev a a _) ?_))
  · unfold impl_Square_106.f
    rw [Option.bind_some, if_pos (by simp), List.nil_append]
  · unfold oneSquare
    by_cases h : 1 ≤ a ∧ a ≤ 500
    · rw [if_pos h]
      exact Ev.pos (by simpa using (good_one a).2 h) (Ev.now _)
    · rw [if_neg h]
      refine Ev.neg ?_ (Ev.now _)
      simp only [decide_eq_true_eq]
      exact fun x => h ((good_one a).1 x)
theorem FnExactOneSquare : laws_FnExactOneSquare.Pure := by
  intro a _
  refine Ev.rounds (g := fun k => laws_FnExactOneSquare.f k a) ?_
  unfold laws_FnExactOneSquare.f
  have s1 := spec_OneSquare_eq a
  have s2 := impl_OneSquare_ev a
  have hb : (oneSquare a).2.2.1.length ≤ 1 := by unfold oneSquare; split <;> simp
  generalize oneSquare a = B at s1 s2 hb
  have qB := eqCut_ev B.1 B.2.1 B.2.2.1 (by omega)
  have mB := markC_ev B.1 B.2.1 B.2.2.1 (by omega) 1 (by omega) (by omega)
  have hB := heldC_ev B.1 B.2.1 B.2.2.1.length (by omega) 1 (by omega) (by omega)
  refine Ev.bindc s1 (Ev.bind s2 (Ev.bind qB (Ev.pos rfl ?_)))
  refine Ev.succ ?_
  simp only [laws_FnExactOneSquare.j0]
  refine Ev.neg (by simp) (Ev.bind mB (Ev.bind hB (Ev.neg (by omega) (Ev.pos rfl (Ev.bind s2 (Ev.bind qB (Ev.pos rfl ?_)))))))
  refine Ev.succ ?_
  simp only [laws_FnExactOneSquare.j1]
  refine Ev.neg (by simp) (Ev.bind hB (Ev.neg (by omega) (Ev.pos rfl (Ev.now _))))

end Go.Proofs.Ytlifiingpggocaa.Pure
