/- The program's RatioOfNet and the reference's return the same for all arguments: a net's trees and its first pole's potential are above 0, so their greatest common divisor is never 0. -/
import Derived.Test.YtlifiingpggocaaPFnExactRatioOfNetx9
import Derived.Test.YtlifiingpggocaaPFnExactRatioOfNetx0
import Derived.Test.YtlifiingpggocaaPFnExactRatioOfNetx1
import Derived.Test.YtlifiingpggocaaPFnExactRatioOfNetx2
import Derived.Test.YtlifiingpggocaaPFnExactRatioOfNetx3
import Derived.Test.YtlifiingpggocaaPFnExactRatioOfNetx4
import Derived.Test.YtlifiingpggocaaPFnExactRatioOfNetx5
import Derived.Test.YtlifiingpggocaaPFnExactRatioOfNetx6
import Derived.Test.YtlifiingpggocaaPFnExactRatioOfNetx7
import Derived.Test.YtlifiingpggocaaPFnExactRatioOfNetx8
import Derived.Test.YtlifiingpggocaaWGuardMoreInvWords
namespace Go.Proofs.Ytlifiingpggocaa.Pure
open Go.RowKit Go.Proofs.Ytlifiingpggocaa.PFnExactRatioOfNet Go.Proofs.YtlifiingpggocaaW.PrintWords Go.Proofs.YtlifiingpggocaaW.PrintLast Go.Proofs.YtlifiingpggocaaW.PrintMore Go.Proofs.YtlifiingpggocaaW.Evs
set_option linter.unusedVariables false
set_option linter.unusedSimpArgs false
/-! ### a net: what the program's IsNet and the reference's neGood answer -/
abbrev Wr := S108
def wrAt (l : List Wr) (j : Nat) : Wr := l.getD j z108
theorem rd_wr (l : List Wr) (j : Nat) : rd_T108 l (j : Int) = wrAt l j := by unfold rd_T108 wrAt; rw [Int.toNat_natCast]
theorem wrAt_get (l : List Wr) (j : Nat) (h : j < l.length) : wrAt l j = l[j] := by unfold wrAt; simp [List.getD, h]
theorem wr_drop (l : List Wr) (i : Nat) (w : Wr) (t : List Wr) (h : l.drop i = w :: t) : i < l.length ∧ wrAt l i = w ∧ l.drop (i + 1) = t ∧ w ∈ l ∧ i + 1 + t.length = l.length := by
  have h1 : i < l.length := by
    apply Decidable.byContradiction
    intro hn
    rw [List.drop_eq_nil_of_le (by omega)] at h; cases h
  rw [List.drop_eq_getElem_cons h1] at h
  injection h with ha hb
  refine ⟨h1, by rw [wrAt_get l i h1]; exact ha, hb, by rw [← ha]; exact List.getElem_mem h1, ?_⟩
  rw [← hb, List.length_drop]; omega
theorem within_eqN (a b c : Int) : impl_within.f a b c = some (decide (b ≤ a ∧ a ≤ c)) := by
  unfold impl_within.f
  by_cases h : b ≤ a
  · rw [if_pos h]; simp [h]
  · rw [if_neg h]; simp [h]
theorem l1In_eqN (a b c : Int) : spec_l1In.f a b c = some (decide (b ≤ a ∧ a ≤ c)) := by
  unfold spec_l1In.f
  by_cases h : b ≤ a
  · rw [if_pos h]; simp [h]
  · rw [if_neg h]; simp [h]
/-- nodes that are joined to node 0 -/
inductive Reach (ws : List Wr) : Int → Prop
  | zero : Reach ws 0
  | fwd (w : Wr) (h : w ∈ ws) (r : Reach ws w.f0) : Reach ws w.f1
  | bwd (w : Wr) (h : w ∈ ws) (r : Reach ws w.f1) : Reach ws w.f0
def WireOk (n : Int) (w : Wr) : Prop := (0 ≤ w.f0 ∧ w.f0 ≤ n - 1) ∧ (0 ≤ w.f1 ∧ w.f1 ≤ n - 1) ∧ w.f0 ≠ w.f1
instance (n : Int) (w : Wr) : Decidable (WireOk n w) := by unfold WireOk; infer_instance
def Joined (n : Int) (ws : List Wr) : Prop := ∀ j, 0 ≤ j → j < n → Reach ws j
def NetOk (n : Int) (ws : List Wr) : Prop := (2 ≤ n ∧ n ≤ 12) ∧ ws.length ≤ 30 ∧ (∀ w ∈ ws, WireOk n w) ∧ Joined n ws
/-- a list's place by a whole number -/
def bAt (s : List Bool) (j : Int) : Bool := s.getD j.toNat false
def iAt (s : List Int) (j : Int) : Int := s.getD j.toNat 0
theorem getD_set {α : Type} (s : List α) (i m : Nat) (v d : α) (hi : i < s.length) : (s.set i v).getD m d = if m = i then v else s.getD m d := by
  by_cases e : m = i
  · subst e; simp [List.getD, hi]
  · have e' : i ≠ m := fun h => e h.symm
    simp [List.getD, e, e']
theorem bAt_set (s : List Bool) (i m : Int) (v : Bool) (h0 : 0 ≤ i) (hi : i < s.length) (hm : 0 ≤ m) : bAt (s.set i.toNat v) m = if m = i then v else bAt s m := by
  unfold bAt
  rw [getD_set _ _ _ _ _ (by omega)]
  by_cases e : m = i
  · rw [if_pos e, if_pos (by omega)]
  · rw [if_neg e, if_neg (by omega)]
theorem iAt_set (s : List Int) (i m : Int) (v : Int) (h0 : 0 ≤ i) (hi : i < s.length) (hm : 0 ≤ m) : iAt (s.set i.toNat v) m = if m = i then v else iAt s m := by
  unfold iAt
  rw [getD_set _ _ _ _ _ (by omega)]
  by_cases e : m = i
  · rw [if_pos e, if_pos (by omega)]
  · rw [if_neg e, if_neg (by omega)]
theorem countP_le_of {α β : Type} (p : α → Bool) (q : β → Bool) : ∀ (a : List α) (b : List β), a.length = b.length → (∀ (j : Nat) (x : α) (y : β), a[j]? = some x → b[j]? = some y → p x = true → q y = true) → a.countP p ≤ b.countP q
  | [], [], _, _ => Nat.le_refl _
  | x :: a, y :: b, hl, h => by
    have ih := countP_le_of p q a b (by simpa using hl) (fun j u v hu hv => h (j + 1) u v hu hv)
    have h0 := h 0 x y rfl rfl
    rw [List.countP_cons, List.countP_cons]
    cases hp : p x
    · simp; split <;> omega
    · rw [h0 hp]; simp; omega
theorem countP_lt_of {α β : Type} (p : α → Bool) (q : β → Bool) : ∀ (a : List α) (b : List β), a.length = b.length → (∀ (j : Nat) (x : α) (y : β), a[j]? = some x → b[j]? = some y → p x = true → q y = true) → (∃ (j : Nat) (x : α) (y : β), a[j]? = some x ∧ b[j]? = some y ∧ p x = false ∧ q y = true) → a.countP p < b.countP q
  | [], [], _, _, h => by obtain ⟨j, x, y, hx, _⟩ := h; simp at hx
  | x :: a, y :: b, hl, h, hs => by
    have h0 := h 0 x y rfl rfl
    have hl' : a.length = b.length := by simpa using hl
    have ht : ∀ (j : Nat) (u : α) (v : β), a[j]? = some u → b[j]? = some v → p u = true → q v = true := fun j u v hu hv => h (j + 1) u v hu hv
    obtain ⟨j, u, v, hu, hv, hp, hq⟩ := hs
    rw [List.countP_cons, List.countP_cons]
    cases j with
    | zero =>
      have le := countP_le_of p q a b hl' ht
      simp at hu hv
      subst hu hv
      rw [hp, hq]; simp; omega
    | succ j =>
      have lt := countP_lt_of p q a b hl' ht ⟨j, u, v, hu, hv, hp, hq⟩
      cases hp : p x
      · simp; split <;> omega
      · rw [h0 hp]; simp; omega

/-! the program: names -/
def step (s : List Int) (w : Wr) : List Int := (s.set w.f0.toNat (mn (iAt s w.f0) (iAt s w.f1))).set w.f1.toNat (mn (iAt s w.f0) (iAt s w.f1))
def pass (s : List Int) (t : List Wr) : List Int := t.foldl step s
def Nm (n : Int) (s : List Int) : Prop := (s.length : Int) = n ∧ ∀ j, 0 ≤ j → j < n → 0 ≤ iAt s j
theorem mn_eq (a b : Int) : mn a b = min a b := by unfold mn; omega
theorem step_at {n : Int} {s : List Int} {w : Wr} (hs : Nm n s) (hw : WireOk n w) (j : Int) (h0 : 0 ≤ j) : iAt (step s w) j = if j = w.f0 ∨ j = w.f1 then min (iAt s w.f0) (iAt s w.f1) else iAt s j := by
  unfold WireOk at hw
  have hl := hs.1
  unfold step
  rw [iAt_set _ _ _ _ (by omega) (by rw [List.length_set]; omega) h0, iAt_set _ _ _ _ (by omega) (by omega) h0, mn_eq]
  by_cases e1 : j = w.f1
  · rw [if_pos e1, if_pos (Or.inr e1)]
  · rw [if_neg e1]
    by_cases e0 : j = w.f0
    · rw [if_pos e0, if_pos (Or.inl e0)]
    · rw [if_neg e0, if_neg (fun h => h.elim e0 e1)]
theorem step_nm {n : Int} {s : List Int} {w : Wr} (hs : Nm n s) (hw : WireOk n w) : Nm n (step s w) := by
  refine ⟨by unfold step; rw [List.length_set, List.length_set]; exact hs.1, fun j h0 h1 => ?_⟩
  rw [step_at hs hw j h0]
  have a := hs.2 w.f0 (by unfold WireOk at hw; omega) (by unfold WireOk at hw; omega)
  have b := hs.2 w.f1 (by unfold WireOk at hw; omega) (by unfold WireOk at hw; omega)
  have c := hs.2 j h0 h1
  split <;> omega
theorem step_zero {n : Int} {s : List Int} {w : Wr} (hs : Nm n s) (hw : WireOk n w) (j : Int) (h0 : 0 ≤ j) (hz : iAt s j = 0) : iAt (step s w) j = 0 := by
  rw [step_at hs hw j h0]
  have a := hs.2 w.f0 (by unfold WireOk at hw; omega) (by unfold WireOk at hw; omega)
  have b := hs.2 w.f1 (by unfold WireOk at hw; omega) (by unfold WireOk at hw; omega)
  split
  · rename_i h
    rcases h with e | e <;> subst e <;> omega
  · exact hz
theorem pass_all {n : Int} {ws : List Wr} (hws : ∀ w ∈ ws, WireOk n w) : ∀ (t : List Wr), (∀ w ∈ t, w ∈ ws) → ∀ s, Nm n s → (∀ j, 0 ≤ j → j < n → iAt s j = 0 → Reach ws j) →
    Nm n (pass s t) ∧ (∀ j, 0 ≤ j → iAt s j = 0 → iAt (pass s t) j = 0) ∧ (∀ j, 0 ≤ j → j < n → iAt (pass s t) j = 0 → Reach ws j) ∧
      ∀ w ∈ t, iAt s w.f0 = 0 ∨ iAt s w.f1 = 0 → iAt (pass s t) w.f0 = 0 ∧ iAt (pass s t) w.f1 = 0
  | [], _, s, hs, hr => ⟨hs, fun _ _ h => h, hr, fun w hw => by cases hw⟩
  | w :: t, ht, s, hs, hr => by
    have hw := hws w (ht w List.mem_cons_self)
    have hwm := ht w List.mem_cons_self
    have hw' := hw
    unfold WireOk at hw'
    have hr' : ∀ j, 0 ≤ j → j < n → iAt (step s w) j = 0 → Reach ws j := by
      intro j h0 h1 hz
      rw [step_at hs hw j h0] at hz
      have a := hs.2 w.f0 (by omega) (by omega)
      have b := hs.2 w.f1 (by omega) (by omega)
      split at hz
      · rename_i h
        have hh : Reach ws w.f0 ∧ Reach ws w.f1 := by
          rcases (by omega : iAt s w.f0 = 0 ∨ iAt s w.f1 = 0) with e | e
          · have := hr w.f0 (by omega) (by omega) e; exact ⟨this, .fwd w hwm this⟩
          · have := hr w.f1 (by omega) (by omega) e; exact ⟨.bwd w hwm this, this⟩
        rcases h with e | e <;> subst e
        · exact hh.1
        · exact hh.2
      · exact hr j h0 h1 hz
    obtain ⟨p1, p2, p3, p4⟩ := pass_all hws t (fun x hx => ht x (List.mem_cons_of_mem _ hx)) (step s w) (step_nm hs hw) hr'
    have keep : ∀ j, 0 ≤ j → iAt s j = 0 → iAt (pass s (w :: t)) j = 0 := fun j h0 hz => p2 j h0 (step_zero hs hw j h0 hz)
    refine ⟨p1, keep, p3, fun x hx hz => ?_⟩
    rcases List.mem_cons.1 hx with rfl | hx
    · have a := hs.2 x.f0 (by omega) (by omega)
      have b := hs.2 x.f1 (by omega) (by omega)
      constructor
      · refine p2 x.f0 (by omega) ?_
        rw [step_at hs hw _ (by omega), if_pos (Or.inl rfl)]; omega
      · refine p2 x.f1 (by omega) ?_
        rw [step_at hs hw _ (by omega), if_pos (Or.inr rfl)]; omega
    · have hxw := hws x (ht x (List.mem_cons_of_mem _ hx))
      unfold WireOk at hxw
      refine p4 x hx ?_
      rcases hz with hz | hz
      · exact Or.inl (step_zero hs hw _ (by omega) hz)
      · exact Or.inr (step_zero hs hw _ (by omega) hz)
def rounds (ws : List Wr) : Nat → List Int → List Int
  | 0, s => s
  | r + 1, s => rounds ws r (pass s ws)
def Full (n : Int) (ws : List Wr) (s : List Int) : Prop := ∀ j, 0 ≤ j → j < n → Reach ws j → iAt s j = 0
theorem full_of_closed {n : Int} {ws : List Wr} (hws : ∀ w ∈ ws, WireOk n w) {s : List Int} (h0 : iAt s 0 = 0) (hc : ∀ w ∈ ws, iAt s w.f0 = 0 ↔ iAt s w.f1 = 0) : Full n ws s := by
  intro j _ _ hr
  induction hr with
  | zero => exact h0
  | fwd w hw _ ih => have := hws w hw; unfold WireOk at this; exact (hc w hw).1 (ih (by omega) (by omega))
  | bwd w hw _ ih => have := hws w hw; unfold WireOk at this; exact (hc w hw).2 (ih (by omega) (by omega))
theorem at_of (s : List Int) (j : Nat) (h : j < s.length) : s[j]? = some (iAt s (j : Int)) := by
  unfold iAt; rw [Int.toNat_natCast, List.getD_eq_getElem?_getD, List.getElem?_eq_getElem h]; rfl
theorem rounds_full {n : Int} {ws : List Wr} (hn : 1 ≤ n) (hws : ∀ w ∈ ws, WireOk n w) : ∀ (r c : Nat) (s : List Int), Nm n s → iAt s 0 = 0 → (∀ j, 0 ≤ j → j < n → iAt s j = 0 → Reach ws j) → (Full n ws s ∨ c ≤ s.countP (· == 0)) → n < c + r →
    Full n ws (rounds ws r s) ∧ Nm n (rounds ws r s) ∧ ∀ j, 0 ≤ j → j < n → iAt (rounds ws r s) j = 0 → Reach ws j
  | 0, c, s, hs, h0, hr, hf, hc => by
    refine ⟨?_, hs, hr⟩
    rcases hf with hf | hf
    · exact hf
    · have := List.countP_le_length (p := (· == (0 : Int))) (l := s)
      have := hs.1
      omega
  | r + 1, c, s, hs, h0, hr, hf, hc => by
    obtain ⟨p1, p2, p3, p4⟩ := pass_all hws ws (fun _ h => h) s hs hr
    refine rounds_full hn hws r (c + 1) (pass s ws) p1 (p2 0 (by omega) h0) p3 ?_ (by omega)
    by_cases full : Full n ws s
    · exact Or.inl fun j a b d => p2 j a (full j a b d)
    · right
      have hex : ∃ w ∈ ws, ¬ (iAt s w.f0 = 0 ↔ iAt s w.f1 = 0) := by
        apply Decidable.byContradiction
        intro hno
        exact full (full_of_closed hws h0 fun w hw => Decidable.byContradiction fun h => hno ⟨w, hw, h⟩)
      obtain ⟨w, hw, hne⟩ := hex
      have hwo := hws w hw
      unfold WireOk at hwo
      obtain ⟨q1, q2⟩ := p4 w hw (by omega)
      have hl1 := hs.1
      have hl2 := p1.1
      have lt : s.countP (· == 0) < (pass s ws).countP (· == 0) := by
        refine countP_lt_of _ _ s (pass s ws) (by omega) (fun j x y hx hy hp => ?_) ?_
        · have hj : j < s.length := (List.getElem?_eq_some_iff.1 hx).1
          rw [at_of s j hj] at hx
          rw [at_of _ j (by omega)] at hy
          obtain rfl := Option.some.inj hx
          obtain rfl := Option.some.inj hy
          have := p2 (j : Int) (by omega) (by simpa using hp)
          simpa using this
        · by_cases hz : iAt s w.f0 = 0
          · have hz1 : iAt s w.f1 ≠ 0 := fun h => hne ⟨fun _ => h, fun _ => hz⟩
            refine ⟨w.f1.toNat, iAt s w.f1, iAt (pass s ws) w.f1, ?_, ?_, by simpa using hz1, by simpa using q2⟩
            · rw [at_of s _ (by omega)]; congr 2; omega
            · rw [at_of _ _ (by omega)]; congr 2; omega
          · refine ⟨w.f0.toNat, iAt s w.f0, iAt (pass s ws) w.f0, ?_, ?_, by simpa using hz, by simpa using q1⟩
            · rw [at_of s _ (by omega)]; congr 2; omega
            · rw [at_of _ _ (by omega)]; congr 2; omega
      rcases hf with hf | hf
      · exact absurd hf full
      · omega

/-! the program's loops -/
theorem rd_i (s : List Int) (j : Int) : rd s j = iAt s j := rfl
theorem impl_l2 {n : Int} {ws : List Wr} (hws : ∀ w ∈ ws, WireOk n w) (hl : ws.length ≤ 1000) (a b : Int) (r : Bool) : ∀ (t : List Wr) (i : Nat) (s : List Int), ws.drop i = t → i + t.length = ws.length → Nm n s →
    Ev (fun k => impl_Net_isJoined.l1 k (pass s t) a (wrap64 (b + 1)) n ws) r → Ev (fun k => impl_Net_isJoined.l2 k s a b ws (ws.length : Int) (i : Int) n ws) r
  | [], i, s, _, hi, hs, h => by
    simp only [List.length_nil] at hi
    refine Ev.succ ?_
    simp only [impl_Net_isJoined.l2]
    exact Ev.neg (by omega) h
  | w :: t, i, s, hd, hi, hs, h => by
    obtain ⟨h1, h2, h3, h4, h5⟩ := wr_drop ws i w t hd
    have hw := hws w h4
    have hw' := hw
    unfold WireOk at hw'
    have hsl := hs.1
    have ih := impl_l2 hws hl a b r t (i + 1) (step s w) h3 (by omega) (step_nm hs hw) h
    refine Ev.succ ?_
    simp only [impl_Net_isJoined.l2, rd_wr, h2, rd_i]
    refine Ev.pos (by omega) (Ev.pos (by omega) (Ev.pos (by omega) (Ev.pos (by omega) (Ev.pos (by omega) (Ev.pos (by omega) (Ev.pos (by omega) ?_))))))
    rw [wrap64_id (n := (i : Int) + 1) (by omega) (by omega)]
    exact ih
theorem max_loop (s : List Int) (hl : s.length ≤ 1000) : ∀ (d i : Nat) (m : Int), s.length - i = d → i ≤ s.length → 0 ≤ m → (∀ j, j < s.length → 0 ≤ iAt s (j : Int)) →
    ∃ q, Ev (fun k => slices_Max_int_int.l0 k s m (i : Int)) q ∧ (q = 0 ↔ m = 0 ∧ ∀ j, i ≤ j → j < s.length → iAt s (j : Int) = 0) := by
  intro d
  induction d with
  | zero =>
    intro i m hd hi hm h0
    refine ⟨m, Ev.succ ?_, ⟨fun h => ⟨h, fun j h1 h2 => by omega⟩, fun h => h.1⟩⟩
    simp only [slices_Max_int_int.l0]
    exact Ev.neg (by omega) (Ev.now _)
  | succ d ih =>
    intro i m hd hi hm h0
    have hi0 := h0 i (by omega)
    have hx : mx m (iAt s (i : Int)) = max m (iAt s (i : Int)) := by unfold mx; omega
    obtain ⟨q, hq, hiff⟩ := ih (i + 1) (mx m (iAt s (i : Int))) (by omega) (by omega) (by omega) h0
    refine ⟨q, Ev.succ ?_, ?_⟩
    · simp only [slices_Max_int_int.l0, rd_i]
      refine Ev.pos (by omega) (Ev.pos (by omega) ?_)
      rw [wrap64_id (by omega) (by omega)]
      exact hq
    · rw [hiff, hx]
      constructor
      · rintro ⟨h1, h2⟩
        refine ⟨by omega, fun j h3 h4 => ?_⟩
        by_cases e : i = j
        · subst e; omega
        · exact h2 j (by omega) h4
      · rintro ⟨h1, h2⟩
        have := h2 i (Nat.le_refl _) (by omega)
        exact ⟨by omega, fun j h3 h4 => h2 j (by omega) h4⟩
theorem max_ev {n : Int} {s : List Int} (hn : 1 ≤ n ∧ n ≤ 1000) (hs : Nm n s) : ∃ q, Ev (fun k => slices_Max_int_int.f k s) q ∧ (q = 0 ↔ ∀ j, 0 ≤ j → j < n → iAt s j = 0) := by
  have hl := hs.1
  have h0 : ∀ j : Nat, j < s.length → 0 ≤ iAt s (j : Int) := fun j hj => hs.2 j (by omega) (by omega)
  obtain ⟨q, hq, hiff⟩ := max_loop s (by omega) (s.length - 1) 1 (iAt s 0) (by omega) (by omega) (h0 0 (by omega)) h0
  refine ⟨q, ?_, ?_⟩
  · unfold slices_Max_int_int.f
    exact Ev.neg (by omega) (Ev.pos (by omega) hq)
  · rw [hiff]
    constructor
    · rintro ⟨h1, h2⟩ j h3 h4
      by_cases e : j = 0
      · rw [e]; exact h1
      · have := h2 j.toNat (by omega) (by omega)
        rw [show ((j.toNat : Nat) : Int) = j by omega] at this
        exact this
    · intro h
      exact ⟨h 0 (by omega) (by omega), fun j h3 h4 => h j (by omega) (by omega)⟩
theorem impl_l1 {n : Int} {ws : List Wr} (hn : 1 ≤ n ∧ n ≤ 1000) (hws : ∀ w ∈ ws, WireOk n w) (hl : ws.length ≤ 1000) (r : Bool) : ∀ (d : Nat) (b : Int) (s : List Int), n - b = d → 0 ≤ b → Nm n s → (∀ j, 0 ≤ j → j < n → iAt s j = 0 → Reach ws j) →
    (∀ q, Nm n (rounds ws d s) → (q = 0 ↔ ∀ j, 0 ≤ j → j < n → iAt (rounds ws d s) j = 0) → (q == (0 : Int)) = r) → Ev (fun k => impl_Net_isJoined.l1 k s n b n ws) r
  | 0, b, s, hd, hb, hs, hr, h => by
    obtain ⟨q, hq, hiff⟩ := max_ev hn hs
    refine Ev.succ ?_
    simp only [impl_Net_isJoined.l1]
    exact Ev.neg (by omega) (Ev.bind hq (Ev.eqr (Ev.now _) (h q hs hiff)))
  | d + 1, b, s, hd, hb, hs, hr, h => by
    obtain ⟨p1, p2, p3, p4⟩ := pass_all hws ws (fun _ h => h) s hs hr
    refine Ev.succ ?_
    simp only [impl_Net_isJoined.l1]
    refine Ev.pos (by omega) (impl_l2 hws hl n b r ws 0 s rfl (by simp) hs ?_)
    rw [wrap64_id (by omega) (by omega)]
    exact impl_l1 hn hws hl r d (b + 1) (pass s ws) (by omega) (by omega) p1 p3 h
def upTo : Nat → List Int
  | 0 => []
  | k + 1 => upTo k ++ [(k : Int)]
theorem upTo_len : ∀ k, (upTo k).length = k
  | 0 => rfl
  | k + 1 => by simp [upTo, upTo_len k]
theorem upTo_at : ∀ (k j : Nat), j < k → iAt (upTo k) (j : Int) = j
  | k + 1, j, h => by
    unfold iAt
    rw [Int.toNat_natCast]
    simp only [upTo, List.getD_eq_getElem?_getD]
    by_cases e : j < k
    · rw [List.getElem?_append_left (by rw [upTo_len]; exact e)]
      have := upTo_at k j e
      unfold iAt at this
      rw [Int.toNat_natCast, List.getD_eq_getElem?_getD] at this
      exact this
    · obtain rfl : j = k := by omega
      rw [List.getElem?_append_right (by rw [upTo_len]; exact Nat.le_refl _), upTo_len]; simp
theorem impl_l0 {n : Int} {ws : List Wr} (hn : 1 ≤ n ∧ n ≤ 1000) (r : Bool) (h : Ev (fun k => impl_Net_isJoined.l1 k (upTo n.toNat) n 0 n ws) r) : ∀ (d i : Nat), n - i = d → (i : Int) ≤ n →
    Ev (fun k => impl_Net_isJoined.l0 k (upTo i) n (i : Int) n ws) r
  | 0, i, hd, hi => by
    refine Ev.succ ?_
    simp only [impl_Net_isJoined.l0]
    refine Ev.neg (by omega) ?_
    rw [show i = n.toNat by omega]
    exact h
  | d + 1, i, hd, hi => by
    refine Ev.succ ?_
    simp only [impl_Net_isJoined.l0]
    have hl := upTo_len i
    refine Ev.pos (by omega) (Ev.pos (by omega) ?_)
    rw [wrap64_id (by omega) (by omega)]
    exact impl_l0 hn r h d (i + 1) (by omega) (by omega)
theorem up_nm {n : Int} (hn : 1 ≤ n) : Nm n (upTo n.toNat) := by
  refine ⟨by rw [upTo_len]; omega, fun j h0 h1 => ?_⟩
  have := upTo_at n.toNat j.toNat (by omega)
  rw [show ((j.toNat : Nat) : Int) = j by omega] at this
  omega
open Classical in
theorem isJoined_ev {n : Int} {ws : List Wr} (hn : 1 ≤ n ∧ n ≤ 1000) (hws : ∀ w ∈ ws, WireOk n w) (hl : ws.length ≤ 1000) : Ev (fun k => impl_Net_isJoined.f k n ws) (decide (Joined n ws)) := by
  have hs := up_nm hn.1
  have at0 : ∀ j, 0 ≤ j → j < n → iAt (upTo n.toNat) j = j := fun j h0 h1 => by
    have := upTo_at n.toNat j.toNat (by omega)
    rw [show ((j.toNat : Nat) : Int) = j by omega] at this
    exact this
  have hr : ∀ j, 0 ≤ j → j < n → iAt (upTo n.toNat) j = 0 → Reach ws j := fun j h0 h1 hz => by
    rw [at0 j h0 h1] at hz; rw [hz]; exact .zero
  unfold impl_Net_isJoined.f
  refine impl_l0 hn _ ?_ n.toNat 0 (by omega) (by omega)
  refine impl_l1 hn hws hl _ n.toNat 0 _ (by omega) (by omega) hs hr (fun q hq hiff => ?_)
  obtain ⟨f1, f2, f3⟩ := rounds_full hn.1 hws n.toNat 1 _ hs (at0 0 (by omega) (by omega)) hr (Or.inr (by
    refine List.countP_pos_iff.2 ⟨0, ?_, rfl⟩
    have hl := upTo_len n.toNat
    have := at_of (upTo n.toNat) 0 (by omega)
    have e := at0 0 (by omega) (by omega)
    rw [show (((0 : Nat)) : Int) = 0 from rfl, e] at this
    exact List.mem_of_getElem? this)) (by omega)
  rw [Bool.eq_iff_iff, beq_iff_eq, decide_eq_true_eq, hiff]
  exact ⟨fun h j h0 h1 => f3 j h0 h1 (h j h0 h1), fun h j h0 h1 => f1 j h0 h1 (h j h0 h1)⟩
theorem impl_IsNet_loop {n : Int} {ws : List Wr} (hn : 2 ≤ n ∧ n ≤ 12) (hl : ws.length ≤ 30) (r : Bool) (hall : (∀ w ∈ ws, WireOk n w) → Ev (fun k => impl_Net_isJoined.f k n ws) r) (hbad : ¬ (∀ w ∈ ws, WireOk n w) → r = false) : ∀ (t : List Wr) (i : Nat), ws.drop i = t → i + t.length = ws.length →
    ((∀ w ∈ t, WireOk n w) → ∀ w ∈ ws, WireOk n w) → Ev (fun k => impl_IsNet.l0 k ws (ws.length : Int) (i : Int) n ws) r
  | [], i, _, hi, h => by
    simp only [List.length_nil] at hi
    refine Ev.succ ?_
    simp only [impl_IsNet.l0]
    exact Ev.neg (by omega) (Ev.bind (hall (h fun w hw => by cases hw)) (Ev.now _))
  | w :: t, i, hd, hi, h => by
    obtain ⟨h1, h2, h3, h4, h5⟩ := wr_drop ws i w t hd
    have no : ¬ WireOk n w → r = false := fun hc => hbad fun ha => hc (ha w h4)
    refine Ev.succ ?_
    simp only [impl_IsNet.l0, rd_wr, h2]
    refine Ev.pos (by omega) (Ev.pos (by omega) (Ev.pos (by omega) (Ev.bindc (within_eqN _ _ _) ?_)))
    rw [wrap64_id (n := n - 1) (by omega) (by omega), wrap64_id (n := (i : Int) + 1) (by omega) (by omega)]
    by_cases c1 : 0 ≤ w.f0 ∧ w.f0 ≤ n - 1
    · rw [decide_eq_true c1]
      refine Ev.pos rfl (Ev.bindc (within_eqN _ _ _) ?_)
      by_cases c2 : 0 ≤ w.f1 ∧ w.f1 ≤ n - 1
      · rw [decide_eq_true c2]
        refine Ev.pos rfl ?_
        by_cases c3 : w.f0 = w.f1
        · exact Ev.pos c3 (Ev.eqr (Ev.now _) (no fun hc => hc.2.2 c3).symm)
        · refine Ev.neg c3 (impl_IsNet_loop hn hl r hall hbad t (i + 1) h3 (by omega) fun ht => h fun x hx => ?_)
          rcases List.mem_cons.1 hx with rfl | hx
          · exact ⟨c1, c2, c3⟩
          · exact ht x hx
      · rw [decide_eq_false c2]
        exact Ev.neg (by decide) (Ev.eqr (Ev.now _) (no fun hc => c2 hc.2.1).symm)
    · rw [decide_eq_false c1]
      exact Ev.neg (by decide) (Ev.eqr (Ev.now _) (no fun hc => c1 hc.1).symm)
open Classical in
theorem impl_IsNet_ev (n : Int) (ws : List Wr) : Ev (fun k => impl_IsNet.f k n ws) (decide (NetOk n ws)) := by
  have fall : ¬ NetOk n ws → Ev (fun k => impl_IsNet.j0 k true n ws) (decide (NetOk n ws)) := fun h => by
    rw [decide_eq_false h]
    refine Ev.succ ?_
    simp only [impl_IsNet.j0]
    exact Ev.pos trivial (Ev.now _)
  unfold impl_IsNet.f
  refine Ev.bindc (within_eqN _ _ _) ?_
  by_cases c1 : 2 ≤ n ∧ n ≤ 12
  · rw [decide_eq_true c1]
    refine Ev.pos rfl ?_
    by_cases c2 : (ws.length : Int) > 30
    · rw [decide_eq_true c2]
      exact fall fun h => by have := h.2.1; omega
    · rw [decide_eq_false c2]
      refine Ev.succ ?_
      simp only [impl_IsNet.j0]
      refine Ev.neg (by decide) (impl_IsNet_loop c1 (by omega) _ (fun ha => ?_) (fun hn => decide_eq_false fun h => hn h.2.2.1) ws 0 rfl (by simp) (fun h => h))
      refine Ev.eqr (isJoined_ev ⟨by omega, by omega⟩ ha (by omega)) ?_
      exact decide_eq_decide.2 ⟨fun h => ⟨c1, by omega, ha, h⟩, fun h => h.2.2.2⟩
  · rw [decide_eq_false c1]
    exact Ev.neg (by decide) (fall fun h => c1 h.1)

/-! the reference's loops -/
theorem rd_b (s : List Bool) (j : Int) : rdOf false s j = bAt s j := rfl
def Sn (n : Int) (ws : List Wr) (s : List Bool) : Prop := (s.length : Int) = n ∧ bAt s 0 = true ∧ ∀ j, 0 ≤ j → j < n → bAt s j = true → Reach ws j
def mark2 (s : List Bool) (w : Wr) : List Bool := (s.set w.f0.toNat true).set w.f1.toNat true
theorem mark2_at {n : Int} {s : List Bool} {w : Wr} (hl : (s.length : Int) = n) (hw : WireOk n w) (j : Int) (h0 : 0 ≤ j) : bAt (mark2 s w) j = (if j = w.f0 ∨ j = w.f1 then true else bAt s j) := by
  unfold WireOk at hw
  unfold mark2
  rw [bAt_set _ _ _ _ (by omega) (by rw [List.length_set]; omega) h0, bAt_set _ _ _ _ (by omega) (by omega) h0]
  by_cases e1 : j = w.f1
  · rw [if_pos e1, if_pos (Or.inr e1)]
  · rw [if_neg e1]
    by_cases e0 : j = w.f0
    · rw [if_pos e0, if_pos (Or.inl e0)]
    · rw [if_neg e0, if_neg (fun h => h.elim e0 e1)]
theorem bat_of (s : List Bool) (j : Nat) (h : j < s.length) : s[j]? = some (bAt s (j : Int)) := by
  unfold bAt; rw [Int.toNat_natCast, List.getD_eq_getElem?_getD, List.getElem?_eq_getElem h]; rfl
theorem mark2_lt {n : Int} {s : List Bool} {w : Wr} (hl : (s.length : Int) = n) (hw : WireOk n w) (hne : bAt s w.f0 ≠ bAt s w.f1) : s.countP id < (mark2 s w).countP id := by
  have hw' := hw
  unfold WireOk at hw'
  have hl2 : (mark2 s w).length = s.length := by unfold mark2; rw [List.length_set, List.length_set]
  refine countP_lt_of id id s (mark2 s w) hl2.symm (fun j x y hx hy hp => ?_) ?_
  · have hj : j < s.length := (List.getElem?_eq_some_iff.1 hx).1
    rw [bat_of s j hj] at hx
    rw [bat_of _ j (by omega)] at hy
    obtain rfl := Option.some.inj hx
    obtain rfl := Option.some.inj hy
    rw [mark2_at hl hw _ (by omega)]
    split
    · rfl
    · exact hp
  · by_cases hz : bAt s w.f0 = false
    · refine ⟨w.f0.toNat, false, true, ?_, ?_, rfl, rfl⟩
      · rw [bat_of s _ (by omega), show ((w.f0.toNat : Nat) : Int) = w.f0 by omega, hz]
      · rw [bat_of _ _ (by omega), show ((w.f0.toNat : Nat) : Int) = w.f0 by omega, mark2_at hl hw _ (by omega), if_pos (Or.inl rfl)]
    · have hz1 : bAt s w.f1 = false := by
        cases h0 : bAt s w.f0 <;> cases h1 : bAt s w.f1 <;> simp_all
      refine ⟨w.f1.toNat, false, true, ?_, ?_, rfl, rfl⟩
      · rw [bat_of s _ (by omega), show ((w.f1.toNat : Nat) : Int) = w.f1 by omega, hz1]
      · rw [bat_of _ _ (by omega), show ((w.f1.toNat : Nat) : Int) = w.f1 by omega, mark2_at hl hw _ (by omega), if_pos (Or.inr rfl)]
theorem mark2_sn {n : Int} {ws : List Wr} {s : List Bool} {w : Wr} (hs : Sn n ws s) (hw : WireOk n w) (hm : w ∈ ws) (hne : bAt s w.f0 ≠ bAt s w.f1) : Sn n ws (mark2 s w) := by
  obtain ⟨h1, h2, h3⟩ := hs
  have hw' := hw
  unfold WireOk at hw'
  refine ⟨by unfold mark2; rw [List.length_set, List.length_set]; exact h1, ?_, fun j h0 hj hb => ?_⟩
  · rw [mark2_at h1 hw 0 (by omega)]; split
    · rfl
    · exact h2
  · rw [mark2_at h1 hw j h0] at hb
    have hh : Reach ws w.f0 ∧ Reach ws w.f1 := by
      by_cases hz : bAt s w.f0 = true
      · have := h3 w.f0 (by omega) (by omega) hz; exact ⟨this, .fwd w hm this⟩
      · have hz1 : bAt s w.f1 = true := by
          cases h0 : bAt s w.f0 <;> cases h1 : bAt s w.f1 <;> simp_all
        have := h3 w.f1 (by omega) (by omega) hz1; exact ⟨.bwd w hm this, this⟩
    split at hb
    · rename_i h
      rcases h with e | e <;> subst e
      · exact hh.1
      · exact hh.2
    · exact h3 j h0 hj hb
/-- one pass of the reference over wires from place i on -/
theorem spec_l1 {n : Int} {ws : List Wr} (hws : ∀ w ∈ ws, WireOk n w) (hl : ws.length ≤ 1000) (r : Bool) : ∀ (t : List Wr) (i : Nat) (s : List Bool) (ag : Bool), ws.drop i = t → i + t.length = ws.length → Sn n ws s →
    (∀ s' ag', Sn n ws s' → s.countP id ≤ s'.countP id → (ag' = false → ag = false ∧ s' = s ∧ ∀ w ∈ t, bAt s w.f0 = bAt s w.f1) → (ag' = true → ag = true ∨ s.countP id < s'.countP id) → Ev (fun k => spec_neJoined.l0 k s' ag' n ws) r) →
    Ev (fun k => spec_neJoined.l1 k s ag ws (ws.length : Int) (i : Int) n ws) r
  | [], i, s, ag, _, hi, hs, h => by
    simp only [List.length_nil] at hi
    refine Ev.succ ?_
    simp only [spec_neJoined.l1]
    exact Ev.neg (by omega) (h s ag hs (Nat.le_refl _) (fun e => ⟨e, rfl, fun w hw => by cases hw⟩) (fun e => Or.inl e))
  | w :: t, i, s, ag, hd, hi, hs, h => by
    obtain ⟨h1, h2, h3, h4, h5⟩ := wr_drop ws i w t hd
    have hw := hws w h4
    have hw' := hw
    unfold WireOk at hw'
    have hsl := hs.1
    refine Ev.succ ?_
    simp only [spec_neJoined.l1, rd_wr, h2, rd_b]
    refine Ev.pos (by omega) (Ev.pos (by omega) (Ev.pos (by omega) (Ev.pos (by omega) (Ev.pos (by omega) (Ev.pos (by omega) (Ev.pos (by omega) ?_))))))
    rw [wrap64_id (n := (i : Int) + 1) (by omega) (by omega)]
    by_cases hne : bAt s w.f0 = bAt s w.f1
    · refine Ev.neg (by simp [hne]) (spec_l1 hws hl r t (i + 1) s ag h3 (by omega) hs fun s' ag' q1 q2 q3 q4 => h s' ag' q1 q2 (fun e => ?_) q4)
      obtain ⟨a, b, c⟩ := q3 e
      refine ⟨a, b, fun x hx => ?_⟩
      rcases List.mem_cons.1 hx with rfl | hx
      · exact hne
      · exact c x hx
    · have lt := mark2_lt hsl hw hne
      refine Ev.pos (by simpa using hne) (spec_l1 hws hl r t (i + 1) (mark2 s w) true h3 (by omega) (mark2_sn hs hw h4 hne) fun s' ag' q1 q2 q3 q4 => h s' ag' q1 (by omega) (fun e => ?_) (fun e => Or.inr (by omega)))
      exact absurd (q3 e).1 (by decide)
theorem spec_l2 (s : List Bool) (hl : s.length ≤ 1000) : ∀ (d i : Nat), s.length - i = d → i ≤ s.length → ∀ r : Bool, (r = true ↔ ∀ j, i ≤ j → j < s.length → bAt s (j : Int) = true) → Ev (fun k => spec_neJoined.l2 k s (s.length : Int) (i : Int)) r := by
  intro d
  induction d with
  | zero =>
    intro i hd hi r hr
    refine Ev.succ ?_
    simp only [spec_neJoined.l2]
    refine Ev.neg (by omega) (Ev.eqr (Ev.now _) ?_)
    exact (hr.2 fun j h1 h2 => by omega).symm
  | succ d ih =>
    intro i hd hi r hr
    refine Ev.succ ?_
    simp only [spec_neJoined.l2, rd_b]
    refine Ev.pos (by omega) (Ev.pos (by omega) (Ev.pos (by omega) ?_))
    rw [wrap64_id (by omega) (by omega)]
    by_cases hb : bAt s (i : Int) = true
    · refine Ev.pos hb (ih (i + 1) (by omega) (by omega) r ?_)
      rw [hr]
      exact ⟨fun h j h1 h2 => h j (by omega) h2, fun h j h1 h2 => by
        by_cases e : i = j
        · subst e; exact hb
        · exact h j (by omega) h2⟩
    · refine Ev.neg hb (Ev.eqr (Ev.now _) ?_)
      cases hq : r with
      | false => rfl
      | true => exact absurd (hr.1 hq i (Nat.le_refl _) (by omega)) hb
open Classical in
theorem spec_l0 {n : Int} {ws : List Wr} (hn : 1 ≤ n ∧ n ≤ 1000) (hws : ∀ w ∈ ws, WireOk n w) (hl : ws.length ≤ 1000) : ∀ (d : Nat) (s : List Bool), Sn n ws s → s.length - s.countP id ≤ d → Ev (fun k => spec_neJoined.l0 k s true n ws) (decide (Joined n ws)) := by
  have fin : ∀ s, Sn n ws s → (∀ w ∈ ws, bAt s w.f0 = bAt s w.f1) → Ev (fun k => spec_neJoined.l0 k s false n ws) (decide (Joined n ws)) := by
    intro s hs hc
    have hsl := hs.1
    refine Ev.succ ?_
    simp only [spec_neJoined.l0]
    refine Ev.neg (by decide) (spec_l2 s (by omega) s.length 0 (by omega) (Nat.zero_le _) _ ?_)
    rw [decide_eq_true_eq]
    constructor
    · intro h j _ hj
      have hr := h (j : Int) (by omega) (by omega)
      have : ∀ x, Reach ws x → 0 ≤ x ∧ x < n ∧ bAt s x = true := by
        intro x hx
        induction hx with
        | zero => exact ⟨by omega, by omega, hs.2.1⟩
        | fwd w hw _ ih => have := hws w hw; unfold WireOk at this; exact ⟨by omega, by omega, by rw [← hc w hw]; exact ih.2.2⟩
        | bwd w hw _ ih => have := hws w hw; unfold WireOk at this; exact ⟨by omega, by omega, by rw [hc w hw]; exact ih.2.2⟩
      exact (this _ hr).2.2
    · intro h j h0 h1
      have := h j.toNat (Nat.zero_le _) (by omega)
      rw [show ((j.toNat : Nat) : Int) = j by omega] at this
      exact hs.2.2 j h0 h1 this
  intro d
  induction d with
  | zero =>
    intro s hs hd
    have hcl := List.countP_le_length (p := id) (l := s)
    have hsl := hs.1
    refine Ev.succ ?_
    simp only [spec_neJoined.l0]
    refine Ev.pos trivial (spec_l1 hws hl _ ws 0 s false rfl (by simp) hs fun s' ag' q1 q2 q3 q4 => ?_)
    have hcl' := List.countP_le_length (p := id) (l := s')
    have hsl' := q1.1
    cases ag' with
    | false =>
      obtain ⟨_, b, c⟩ := q3 rfl
      subst b
      exact fin s' q1 c
    | true =>
      rcases q4 rfl with h | h
      · cases h
      · omega
  | succ d ih =>
    intro s hs hd
    have hsl := hs.1
    refine Ev.succ ?_
    simp only [spec_neJoined.l0]
    refine Ev.pos trivial (spec_l1 hws hl _ ws 0 s false rfl (by simp) hs fun s' ag' q1 q2 q3 q4 => ?_)
    have hsl' := q1.1
    cases ag' with
    | false =>
      obtain ⟨_, b, c⟩ := q3 rfl
      subst b
      exact fin s' q1 c
    | true =>
      rcases q4 rfl with h | h
      · cases h
      · exact ih s' q1 (by omega)
open Classical in
theorem neJoined_ev {n : Int} {ws : List Wr} (hn : 1 ≤ n ∧ n ≤ 1000) (hws : ∀ w ∈ ws, WireOk n w) (hl : ws.length ≤ 1000) : Ev (fun k => spec_neJoined.f k n ws) (decide (Joined n ws)) := by
  unfold spec_neJoined.f
  refine Ev.pos (by omega) (Ev.pos (by omega) (Ev.bindc rfl (Ev.pos (by rw [List.length_replicate]; omega) ?_)))
  refine spec_l0 hn hws hl _ _ ⟨by simp; omega, ?_, fun j h0 h1 hb => ?_⟩ (Nat.le_refl _)
  · have := bAt_set (List.replicate n.toNat false) 0 0 true (by omega) (by simp; omega) (by omega)
    rw [if_pos rfl] at this; exact this
  · have := bAt_set (List.replicate n.toNat false) 0 j true (by omega) (by simp; omega) (by omega)
    have hb' : bAt ((List.replicate n.toNat false).set (0 : Int).toNat true) j = true := hb
    rw [this] at hb'
    by_cases e : j = 0
    · rw [e]; exact .zero
    · rw [if_neg e] at hb'
      unfold bAt at hb'
      rw [List.getD_eq_getElem?_getD, List.getElem?_replicate] at hb'
      split at hb' <;> cases hb'
theorem neWire_eq {n : Int} (hn : 2 ≤ n ∧ n ≤ 12) (ws : List Wr) (w : Wr) : spec_neWire.f n ws w.f0 w.f1 = some (decide (WireOk n w)) := by
  unfold spec_neWire.f WireOk
  rw [wrap64_id (by omega) (by omega), l1In_eqN, l1In_eqN]
  by_cases c1 : 0 ≤ w.f0 ∧ w.f0 ≤ n - 1
  · by_cases c2 : 0 ≤ w.f1 ∧ w.f1 ≤ n - 1
    · by_cases c3 : w.f0 = w.f1
      · simp [c1, c2, c3]
      · simp [c1, c2, c3]
    · simp [c1, c2]
  · simp [c1]
theorem spec_neGood_loop {n : Int} {ws : List Wr} (hn : 2 ≤ n ∧ n ≤ 12) (hl : ws.length ≤ 30) (r : Bool) (hall : (∀ w ∈ ws, WireOk n w) → Ev (fun k => spec_neJoined.f k n ws) r) (hbad : ¬ (∀ w ∈ ws, WireOk n w) → r = false) : ∀ (t : List Wr) (i : Nat), ws.drop i = t → i + t.length = ws.length →
    ((∀ w ∈ t, WireOk n w) → ∀ w ∈ ws, WireOk n w) → Ev (fun k => spec_neGood.l0 k ws (ws.length : Int) (i : Int) n ws) r
  | [], i, _, hi, h => by
    simp only [List.length_nil] at hi
    refine Ev.succ ?_
    simp only [spec_neGood.l0]
    exact Ev.neg (by omega) (Ev.bind (hall (h fun w hw => by cases hw)) (Ev.now _))
  | w :: t, i, hd, hi, h => by
    obtain ⟨h1, h2, h3, h4, h5⟩ := wr_drop ws i w t hd
    refine Ev.succ ?_
    simp only [spec_neGood.l0, rd_wr, h2]
    refine Ev.pos (by omega) (Ev.pos (by omega) (Ev.pos (by omega) (Ev.bindc (neWire_eq hn ws w) ?_)))
    rw [wrap64_id (n := (i : Int) + 1) (by omega) (by omega)]
    by_cases c : WireOk n w
    · rw [decide_eq_true c]
      refine Ev.pos rfl (spec_neGood_loop hn hl r hall hbad t (i + 1) h3 (by omega) fun ht => h fun x hx => ?_)
      rcases List.mem_cons.1 hx with rfl | hx
      · exact c
      · exact ht x hx
    · rw [decide_eq_false c]
      exact Ev.neg (by decide) (Ev.eqr (Ev.now _) (hbad fun ha => c (ha w h4)).symm)
theorem joined_some {n : Int} {ws : List Wr} (hn : 2 ≤ n) (h : Joined n ws) : ws ≠ [] := by
  intro e
  subst e
  have := h 1 (by omega) (by omega)
  generalize hx : (1 : Int) = x at this
  cases this with
  | zero => omega
  | fwd w hw _ => cases hw
  | bwd w hw _ => cases hw
open Classical in
theorem spec_neGood_ev (n : Int) (ws : List Wr) : Ev (fun k => spec_neGood.f k n ws) (decide (NetOk n ws)) := by
  have fall : ¬ NetOk n ws → Ev (fun k => spec_neGood.j0 k true n ws) (decide (NetOk n ws)) := fun h => by
    rw [decide_eq_false h]
    refine Ev.succ ?_
    simp only [spec_neGood.j0]
    exact Ev.pos trivial (Ev.now _)
  unfold spec_neGood.f
  refine Ev.bindc (l1In_eqN _ _ _) ?_
  by_cases c1 : 2 ≤ n ∧ n ≤ 12
  · rw [decide_eq_true c1]
    refine Ev.pos rfl (Ev.bindc (l1In_eqN _ _ _) ?_)
    by_cases c2 : 1 ≤ (ws.length : Int) ∧ (ws.length : Int) ≤ 30
    · rw [decide_eq_true c2]
      refine Ev.succ ?_
      simp only [spec_neGood.j0, Bool.not_true]
      refine Ev.neg (by decide) (spec_neGood_loop c1 (by omega) _ (fun ha => ?_) (fun hn => decide_eq_false fun h => hn h.2.2.1) ws 0 rfl (by simp) (fun h => h))
      refine Ev.eqr (neJoined_ev ⟨by omega, by omega⟩ ha (by omega)) ?_
      exact decide_eq_decide.2 ⟨fun h => ⟨c1, by omega, ha, h⟩, fun h => h.2.2.2⟩
    · rw [decide_eq_false c2]
      refine fall fun h => ?_
      have h1 := joined_some c1.1 h.2.2.2
      have h2 := h.2.1
      have : 0 < ws.length := List.length_pos_iff.2 h1
      omega
  · rw [decide_eq_false c1]
    exact Ev.neg (by decide) (fall fun h => c1 h.1)

/-! ### wires from one package's type to the other's; lists that are the same -/
abbrev MWr := S113
def convW (q : MWr) : Wr := ⟨q.f0, q.f1⟩
theorem rd_mwr (l : List MWr) (j : Nat) (h : j < l.length) : rd_T113 l (j : Int) = l[j] := by unfold rd_T113; rw [Int.toNat_natCast]; simp [List.getD, h]
theorem toWr_loop (l : List MWr) (hl : l.length ≤ 1048576) : ∀ (d i : Nat) (x : List Wr), l.length - i = d → i ≤ l.length → x.length = l.length → (∀ m, m < i → x[m]? = (l.map convW)[m]?) →
    Ev (fun k => laws_toWireS.l0 k l x (i : Int)) (l.map convW) := by
  intro d
  induction d with
  | zero =>
    intro i x hd hi hx h
    refine Ev.succ ?_
    simp only [laws_toWireS.l0]
    refine Ev.neg (by omega) (Ev.eqr (Ev.now _) ?_)
    apply List.ext_getElem?
    intro m
    by_cases hm : m < i
    · exact h m hm
    · rw [List.getElem?_eq_none (by omega), List.getElem?_eq_none (by simp; omega)]
  | succ d ih =>
    intro i x hd hi hx h
    refine Ev.succ ?_
    simp only [laws_toWireS.l0]
    refine Ev.pos (by omega) (Ev.pos (by omega) (Ev.bindc rfl (Ev.pos (by omega) ?_)))
    rw [Int.toNat_natCast, wrap64_id (by omega) (by omega)]
    refine ih (i + 1) _ (by omega) (by omega) (by simp; omega) (fun m hm => ?_)
    rw [rd_mwr l i (by omega)]
    by_cases e : m = i
    · subst e
      rw [List.getElem?_set_self (by omega), List.getElem?_map, List.getElem?_eq_getElem (by omega)]; rfl
    · rw [List.getElem?_set_ne (by omega)]; exact h m (by omega)
theorem toWireS_ev (l : List MWr) (hl : l.length ≤ 1048576) : Ev (fun k => laws_toWireS.f k l) (l.map convW) := by
  unfold laws_toWireS.f
  refine Ev.pos (by omega) (Ev.pos (by omega) ?_)
  exact toWr_loop l hl l.length 0 _ (by omega) (Nat.zero_le _) (by simp) (fun m hm => by omega)
theorem toNet_ev (n : Int) (l : List MWr) (hl : l.length ≤ 1048576) : Ev (fun k => laws_toNet.f k n l) (n, l.map convW) := by
  unfold laws_toNet.f
  exact Ev.bind (toWireS_ev l hl) (Ev.now _)
theorem eqWireS_loop (l : List Wr) (hl : l.length ≤ 1099511627776) : ∀ (d i : Nat), l.length - i = d → i ≤ l.length → Ev (fun k => laws_eqWireS.l0 k l l (i : Int)) true := by
  intro d
  induction d with
  | zero =>
    intro i hd hi
    refine Ev.succ ?_
    simp only [laws_eqWireS.l0]
    exact Ev.neg (by omega) (Ev.now _)
  | succ d ih =>
    intro i hd hi
    refine Ev.succ ?_
    simp only [laws_eqWireS.l0]
    refine Ev.pos (by omega) (Ev.pos (by omega) (Ev.pos (by omega) (Ev.bindc (a := true) (by unfold laws_eqWire.f; simp) (Ev.pos rfl ?_))))
    rw [wrap64_id (by omega) (by omega)]
    exact ih (i + 1) (by omega) (by omega)
theorem eqWireS_ev (l : List Wr) (hl : l.length ≤ 1099511627776) : Ev (fun k => laws_eqWireS.f k l l) true := by
  unfold laws_eqWireS.f
  exact Ev.pos rfl (eqWireS_loop l hl l.length 0 (by omega) (Nat.zero_le _))
theorem eqNet_ev (n : Int) (l : List Wr) (hl : l.length ≤ 1099511627776) : Ev (fun k => laws_eqNet.f k n l n l) true := by
  unfold laws_eqNet.f
  exact Ev.pos rfl (Ev.bind (eqWireS_ev l hl) (Ev.pos rfl (Ev.now _)))
theorem szNet_eq (n : Int) (l : List MWr) (hl : l.length ≤ maxLen) : laws_szNet.f n l 1048576 = some (if l.length ≤ 1048576 then 1048576 - (l.length : Int) else -1) := by
  have h0 : maxLen ≤ 9223372036854775807 := by decide
  unfold laws_szNet.f laws_szWireS.f
  rw [wrap64_id (by omega) (by omega)]
  by_cases h : l.length ≤ 1048576
  · rw [if_neg (by omega), Option.bind_some, if_neg (by omega), if_pos h]
  · rw [if_pos (by omega), Option.bind_some, if_pos (by omega), if_neg h]

/-! ### the table of a net: the program's and the reference's are one -/
def upAt (M : List (List Int)) (i j : Int) : List (List Int) := M.set i.toNat ((rd_L4 M i).set j.toNat (wrap64 ((rd (rd_L4 M i) j) + 1)))
def dnAt (M : List (List Int)) (i j : Int) : List (List Int) := M.set i.toNat ((rd_L4 M i).set j.toNat (wrap64 ((rd (rd_L4 M i) j) - 1)))
def wireStep (m : Int) (M : List (List Int)) (w : Wr) : List (List Int) :=
  if w.f1 < m then (if w.f0 < m then dnAt (dnAt (upAt (upAt M w.f0 w.f0) w.f1 w.f1) w.f0 w.f1) w.f1 w.f0 else upAt M w.f1 w.f1)
  else (if w.f0 < m then upAt M w.f0 w.f0 else M)
def Sq (m : Int) (M : List (List Int)) : Prop := (M.length : Int) = m ∧ ∀ j : Int, 0 ≤ j → j < m → ((rd_L4 M j).length : Int) = m
theorem sq_set {m : Int} {M : List (List Int)} (hs : Sq m M) {i : Int} (h0 : 0 ≤ i) (hi : i < m) {R : List Int} (hR : (R.length : Int) = m) : Sq m (M.set i.toNat R) := by
  refine ⟨by rw [List.length_set]; exact hs.1, fun j hj hj2 => ?_⟩
  have h1 := hs.1
  have := hs.2 j hj hj2
  unfold rd_L4 at this ⊢
  rw [getD_set M i.toNat j.toNat R [] (by omega)]
  split
  · exact hR
  · exact this
theorem sq_row {m : Int} {M : List (List Int)} (hs : Sq m M) {i : Int} (h0 : 0 ≤ i) (hi : i < m) (j : Nat) (x : Int) : Sq m (M.set i.toNat ((rd_L4 M i).set j x)) :=
  sq_set hs h0 hi (by rw [List.length_set]; exact hs.2 i h0 hi)
theorem sq_up {m : Int} {M : List (List Int)} (hs : Sq m M) {i : Int} (h0 : 0 ≤ i) (hi : i < m) (j : Int) : Sq m (upAt M i j) := sq_row hs h0 hi _ _
theorem sq_dn {m : Int} {M : List (List Int)} (hs : Sq m M) {i : Int} (h0 : 0 ≤ i) (hi : i < m) (j : Int) : Sq m (dnAt M i j) := sq_row hs h0 hi _ _
theorem sq_step {m : Int} {M : List (List Int)} (hs : Sq m M) {w : Wr} (h0 : 0 ≤ w.f0) (h1 : 0 ≤ w.f1) : Sq m (wireStep m M w) := by
  unfold wireStep
  split
  · split
    · exact sq_dn (sq_dn (sq_up (sq_up hs h0 (by assumption) _) h1 (by assumption) _) h0 (by assumption) _) h1 (by assumption) _
    · exact sq_up hs h1 (by assumption) _
  · split
    · exact sq_up hs h0 (by assumption) _
    · exact hs
def Z (m : Int) : List Int := List.replicate m.toNat 0
def lap (m : Int) (ws : List Wr) : List (List Int) := ws.foldl (wireStep m) (List.replicate m.toNat (Z m))
theorem sq_start {m : Int} (hm : 1 ≤ m) : Sq m (List.replicate m.toNat (Z m)) := by
  refine ⟨by simp; omega, fun j h0 h1 => ?_⟩
  unfold rd_L4 Z
  rw [List.getD_eq_getElem?_getD, List.getElem?_eq_getElem (by simp; omega)]
  simp; omega
theorem sq_fold {m : Int} : ∀ (t : List Wr) (M : List (List Int)), (∀ w ∈ t, 0 ≤ w.f0 ∧ 0 ≤ w.f1) → Sq m M → Sq m (t.foldl (wireStep m) M)
  | [], _, _, hs => hs
  | w :: t, M, hw, hs => sq_fold t _ (fun q hq => hw q (List.mem_cons_of_mem _ hq)) (sq_step hs (hw w List.mem_cons_self).1 (hw w List.mem_cons_self).2)
theorem sq_lap {m : Int} (hm : 1 ≤ m) {ws : List Wr} (hw : ∀ w ∈ ws, 0 ≤ w.f0 ∧ 0 ≤ w.f1) : Sq m (lap m ws) := sq_fold ws _ hw (sq_start hm)
theorem spec_tab_l1 {m : Int} (c : Int) (hm : 1 ≤ m ∧ m ≤ 1000) (ws : List Wr) (hl : ws.length ≤ 1000) (hws : ∀ w ∈ ws, 0 ≤ w.f0 ∧ 0 ≤ w.f1) (r : List (List Int)) : ∀ (t : List Wr) (i : Nat) (M : List (List Int)), ws.drop i = t → i + t.length = ws.length → Sq m M →
    Ev (fun k => if c ≥ 0 then spec_neTable.l2 k c (t.foldl (wireStep m) M) ((t.foldl (wireStep m) M).length : Int) 0 else some (t.foldl (wireStep m) M)) r →
    Ev (fun k => spec_neTable.l1 k m c M ws (ws.length : Int) (i : Int)) r := by
  intro t
  induction t with
  | nil =>
    intro i M hd hi hs hr
    refine Ev.succ ?_
    simp only [spec_neTable.l1]
    simp only [List.length_nil] at hi
    exact Ev.neg (by omega) hr
  | cons w t ih =>
    intro i M hd hi hs hr
    obtain ⟨h1, h2, h3, h4, _⟩ := wr_drop ws i w t hd
    obtain ⟨g0, g1⟩ := hws w h4
    have hl1 := hs.1
    simp only [List.length_cons] at hi
    refine Ev.succ ?_
    simp only [spec_neTable.l1]
    refine Ev.pos (by omega) (Ev.pos (by omega) (Ev.pos (by omega) ?_))
    rw [rd_wr, h2]
    rw [List.foldl_cons] at hr
    have hgo : ∀ M', wireStep m M w = M' → Ev (fun k => spec_neTable.l1 k m c M' ws (ws.length : Int) (wrap64 ((i : Int) + 1))) r := by
      intro M' e
      rw [wrap64_id (n := (i : Int) + 1) (by omega) (by omega)]
      rw [e] at hr
      exact ih (i + 1) M' h3 (by omega) (e ▸ sq_step hs g0 g1) hr
    unfold wireStep at hgo
    by_cases a : w.f0 < m
    · refine Ev.pos a (Ev.pos g0 (Ev.pos (by omega) (Ev.pos (by rw [hs.2 _ g0 a]; exact a) ?_)))
      have s1 := sq_up hs g0 a w.f0
      refine Ev.succ ?_
      simp only [spec_neTable.j2]
      have hl2 := s1.1
      unfold upAt at hl2 s1
      by_cases b : w.f1 < m
      · refine Ev.pos b (Ev.pos g1 (Ev.pos (by omega) (Ev.pos (by rw [s1.2 _ g1 b]; exact b) (Ev.bindc rfl ?_))))
        have s2 := sq_row s1 g1 b w.f1.toNat (wrap64 ((rd (rd_L4 (M.set w.f0.toNat ((rd_L4 M w.f0).set w.f0.toNat (wrap64 (rd (rd_L4 M w.f0) w.f0 + 1)))) w.f1) w.f1) + 1))
        refine Ev.pos a (Ev.pos g0 (Ev.pos (by omega) (Ev.pos (by rw [s2.2 _ g0 a]; exact b) (Ev.bindc rfl ?_))))
        refine Ev.pos (by rw [(sq_row s2 g0 a _ _).2 _ g1 b]; exact a) ?_
        exact hgo _ (by rw [if_pos b, if_pos a]; rfl)
      · exact Ev.neg b (Ev.pos a (hgo _ (by rw [if_neg b, if_pos a]; rfl)))
    · refine Ev.neg a ?_
      refine Ev.succ ?_
      simp only [spec_neTable.j2]
      by_cases b : w.f1 < m
      · refine Ev.pos b (Ev.pos g1 (Ev.pos (by omega) (Ev.pos (by rw [hs.2 _ g1 b]; exact b) (Ev.bindc rfl ?_))))
        exact Ev.neg a (hgo _ (by rw [if_pos b, if_neg a]; rfl))
      · exact Ev.neg b (Ev.neg a (hgo _ (by rw [if_neg b, if_neg a])))
theorem impl_tab_l1 {n m : Int} (hm : 1 ≤ m ∧ m ≤ 1000) (hn : wrap64 (n - 1) = m) (ws : List Wr) (hl : ws.length ≤ 1000) (hws : ∀ w ∈ ws, 0 ≤ w.f0 ∧ 0 ≤ w.f1) : ∀ (t : List Wr) (i : Nat) (M : List (List Int)), ws.drop i = t → i + t.length = ws.length → Sq m M →
    Ev (fun k => impl_Net_laplacian.l1 k M ws (ws.length : Int) (i : Int) n ws) (t.foldl (wireStep m) M) := by
  intro t
  induction t with
  | nil =>
    intro i M hd hi hs
    refine Ev.succ ?_
    simp only [impl_Net_laplacian.l1]
    simp only [List.length_nil] at hi
    exact Ev.neg (by omega) (Ev.now _)
  | cons w t ih =>
    intro i M hd hi hs
    obtain ⟨h1, h2, h3, h4, _⟩ := wr_drop ws i w t hd
    obtain ⟨g0, g1⟩ := hws w h4
    have hl1 := hs.1
    simp only [List.length_cons] at hi
    refine Ev.succ ?_
    simp only [impl_Net_laplacian.l1]
    refine Ev.pos (by omega) (Ev.pos (by omega) (Ev.pos (by omega) ?_))
    rw [rd_wr, h2, hn]
    rw [List.foldl_cons]
    have hgo : ∀ M', wireStep m M w = M' → Ev (fun k => impl_Net_laplacian.l1 k M' ws (ws.length : Int) (wrap64 ((i : Int) + 1)) n ws) (t.foldl (wireStep m) (wireStep m M w)) := by
      intro M' e
      rw [wrap64_id (n := (i : Int) + 1) (by omega) (by omega)]
      rw [e]
      exact ih (i + 1) M' h3 (by omega) (e ▸ sq_step hs g0 g1)
    generalize t.foldl (wireStep m) (wireStep m M w) = r at hgo ⊢
    unfold wireStep at hgo
    by_cases a : w.f0 < m
    · refine Ev.pos a (Ev.pos g0 (Ev.pos (by omega) (Ev.pos (by rw [hs.2 _ g0 a]; exact a) ?_)))
      have s1 := sq_up hs g0 a w.f0
      refine Ev.succ ?_
      simp only [impl_Net_laplacian.j2]
      have hl2 := s1.1
      unfold upAt at hl2 s1
      by_cases b : w.f1 < m
      · refine Ev.pos b (Ev.pos g1 (Ev.pos (by omega) (Ev.pos (by rw [s1.2 _ g1 b]; exact b) (Ev.bindc rfl ?_))))
        have s2 := sq_row s1 g1 b w.f1.toNat (wrap64 ((rd (rd_L4 (M.set w.f0.toNat ((rd_L4 M w.f0).set w.f0.toNat (wrap64 (rd (rd_L4 M w.f0) w.f0 + 1)))) w.f1) w.f1) + 1))
        refine Ev.pos a (Ev.pos g0 (Ev.pos (by omega) (Ev.pos (by rw [s2.2 _ g0 a]; exact b) (Ev.bindc rfl ?_))))
        refine Ev.pos (by rw [(sq_row s2 g0 a _ _).2 _ g1 b]; exact a) ?_
        exact hgo _ (by rw [if_pos b, if_pos a]; rfl)
      · exact Ev.neg b (Ev.pos a (hgo _ (by rw [if_neg b, if_pos a]; rfl)))
    · refine Ev.neg a ?_
      refine Ev.succ ?_
      simp only [impl_Net_laplacian.j2]
      by_cases b : w.f1 < m
      · refine Ev.pos b (Ev.pos g1 (Ev.pos (by omega) (Ev.pos (by rw [hs.2 _ g1 b]; exact b) (Ev.bindc rfl ?_))))
        exact Ev.neg a (hgo _ (by rw [if_pos b, if_neg a]; rfl))
      · exact Ev.neg b (Ev.neg a (hgo _ (by rw [if_neg b, if_neg a])))
def fillTo (m : Int) (i : Nat) : List (List Int) := List.replicate i (Z m) ++ List.replicate (m.toNat - i) []
theorem fill_set (m : Int) (i : Nat) (h : i < m.toNat) : (fillTo m i).set i (Z m) = fillTo m (i + 1) := by
  unfold fillTo
  rw [List.set_append_right _ _ (by simp), List.length_replicate, Nat.sub_self, List.replicate_succ', List.append_assoc]
  congr 1
  obtain ⟨q, hq⟩ : ∃ q, m.toNat - i = q + 1 := ⟨m.toNat - i - 1, by omega⟩
  rw [hq, show m.toNat - (i + 1) = q by omega, List.replicate_succ]
  rfl
theorem fill_len (m : Int) (i : Nat) (h : i ≤ m.toNat) : (fillTo m i).length = m.toNat := by unfold fillTo; simp; omega
theorem spec_tab_l0 {m : Int} (c n : Int) (hm : 1 ≤ m ∧ m ≤ 1000) (ws : List Wr) (r : List (List Int)) (h : Ev (fun k => spec_neTable.l1 k m c (List.replicate m.toNat (Z m)) ws (ws.length : Int) 0) r) : ∀ (d i : Nat), m.toNat - i = d → i ≤ m.toNat →
    Ev (fun k => spec_neTable.l0 k m c (fillTo m i) (m.toNat : Int) (i : Int) n ws) r := by
  intro d
  induction d with
  | zero =>
    intro i hd hi
    refine Ev.succ ?_
    simp only [spec_neTable.l0]
    refine Ev.neg (by omega) ?_
    have e : fillTo m i = List.replicate m.toNat (Z m) := by unfold fillTo; rw [show i = m.toNat by omega]; simp
    rw [e]; exact h
  | succ d ih =>
    intro i hd hi
    refine Ev.succ ?_
    simp only [spec_neTable.l0]
    have hl := fill_len m i hi
    refine Ev.pos (by omega) (Ev.pos (by omega) (Ev.pos (by omega) (Ev.pos (by omega) (Ev.pos (by omega) ?_))))
    rw [wrap64_id (n := (i : Int) + 1) (by omega) (by omega), Int.toNat_natCast, show List.replicate m.toNat 0 = Z m from rfl, fill_set m i (by omega)]
    exact ih (i + 1) (by omega) (by omega)
theorem impl_tab_l0 {n m : Int} (hm : 1 ≤ m ∧ m ≤ 1000) (hn : wrap64 (n - 1) = m) (ws : List Wr) (r : List (List Int)) (h : Ev (fun k => impl_Net_laplacian.l1 k (List.replicate m.toNat (Z m)) ws (ws.length : Int) 0 n ws) r) : ∀ (d i : Nat), m.toNat - i = d → i ≤ m.toNat →
    Ev (fun k => impl_Net_laplacian.l0 k (fillTo m i) (m.toNat : Int) (i : Int) n ws) r := by
  intro d
  induction d with
  | zero =>
    intro i hd hi
    refine Ev.succ ?_
    simp only [impl_Net_laplacian.l0]
    refine Ev.neg (by omega) ?_
    have e : fillTo m i = List.replicate m.toNat (Z m) := by unfold fillTo; rw [show i = m.toNat by omega]; simp
    rw [e]; exact h
  | succ d ih =>
    intro i hd hi
    refine Ev.succ ?_
    simp only [impl_Net_laplacian.l0]
    rw [hn]
    have hl := fill_len m i hi
    refine Ev.pos (by omega) (Ev.pos (by omega) (Ev.pos (by omega) (Ev.pos (by omega) (Ev.pos (by omega) ?_))))
    rw [wrap64_id (n := (i : Int) + 1) (by omega) (by omega), Int.toNat_natCast, show List.replicate m.toNat 0 = Z m from rfl, fill_set m i (by omega)]
    exact ih (i + 1) (by omega) (by omega)
theorem fill_zero (m : Int) : fillTo m 0 = List.replicate m.toNat [] := by unfold fillTo; simp
theorem laplacian_ev {n : Int} (hn : 2 ≤ n ∧ n ≤ 1000) (ws : List Wr) (hl : ws.length ≤ 1000) (hws : ∀ w ∈ ws, 0 ≤ w.f0 ∧ 0 ≤ w.f1) : Ev (fun k => impl_Net_laplacian.f k n ws) (lap (n - 1) ws) := by
  have hw : wrap64 (n - 1) = n - 1 := wrap64_id (n := n - 1) (by omega) (by omega)
  unfold impl_Net_laplacian.f
  rw [hw]
  refine Ev.pos (by omega) (Ev.pos (by omega) (Ev.bindc rfl ?_))
  have h := impl_tab_l0 (n := n) (m := n - 1) (by omega) hw ws (lap (n - 1) ws) (impl_tab_l1 (by omega) hw ws hl hws ws 0 _ rfl (by omega) (sq_start (by omega))) (n - 1).toNat 0 (by omega) (by omega)
  rw [fill_zero] at h
  rw [List.length_replicate]
  exact h
theorem table_ev {n : Int} (hn : 2 ≤ n ∧ n ≤ 1000) (ws : List Wr) (hl : ws.length ≤ 1000) (hws : ∀ w ∈ ws, 0 ≤ w.f0 ∧ 0 ≤ w.f1) (c : Int) (r : List (List Int)) (hr : Ev (fun k => if c ≥ 0 then spec_neTable.l2 k c (lap (n - 1) ws) ((lap (n - 1) ws).length : Int) 0 else some (lap (n - 1) ws)) r) : Ev (fun k => spec_neTable.f k n ws (n - 1) c) r := by
  unfold spec_neTable.f
  refine Ev.pos (by omega) (Ev.pos (by omega) (Ev.bindc rfl ?_))
  have h := spec_tab_l0 (m := n - 1) c n (by omega) ws r (spec_tab_l1 c (by omega) ws hl hws r ws 0 _ rfl (by omega) (sq_start (by omega)) hr) (n - 1).toNat 0 (by omega) (by omega)
  rw [fill_zero] at h
  rw [List.length_replicate]
  exact h
theorem det_some {m : Int} (hm : 1 ≤ m) {M : List (List Int)} (hs : Sq m M) : detF M = some ((detF M).getD 0) := by
  unfold detF
  rw [if_pos]
  · rfl
  refine ⟨fun e => by have := hs.1; rw [e] at this; simp at this; omega, fun R hR => ?_⟩
  obtain ⟨j, hj, rfl⟩ := List.mem_iff_getElem.1 hR
  have h1 := hs.1
  have h := hs.2 (j : Int) (by omega) (by omega)
  unfold rd_L4 at h
  rw [Int.toNat_natCast, List.getD_eq_getElem?_getD, List.getElem?_eq_getElem hj] at h
  simp only [Option.getD_some] at h
  omega
def det (M : List (List Int)) : Int := (detF M).getD 0

/-! ### potentials: the table with the first pole's column, for each node -/
def colF (c : Nat) (j : Nat) (R : List Int) : List Int := R.set c (if j = 0 then 1 else 0)
def mixed (F : Nat → List Int → List Int) (M : List (List Int)) (i : Nat) : List (List Int) := M.mapIdx (fun j R => if j < i then F j R else R)
theorem mixed_get (F : Nat → List Int → List Int) (M : List (List Int)) (i q : Nat) : (mixed F M i)[q]? = (M[q]?).map (fun R => if q < i then F q R else R) := by unfold mixed; rw [List.getElem?_mapIdx]
theorem mixed_len (F : Nat → List Int → List Int) (M : List (List Int)) (i : Nat) : (mixed F M i).length = M.length := by unfold mixed; simp
theorem mixed_zero (F : Nat → List Int → List Int) (M : List (List Int)) : mixed F M 0 = M := by
  apply List.ext_getElem?
  intro q
  rw [mixed_get]
  simp
theorem mixed_row (F : Nat → List Int → List Int) (M : List (List Int)) (i : Nat) : (mixed F M i).getD i [] = M.getD i [] := by
  rw [List.getD_eq_getElem?_getD, mixed_get, List.getD_eq_getElem?_getD]
  simp
theorem mixed_set (F : Nat → List Int → List Int) (M : List (List Int)) (i : Nat) (h : i < M.length) : (mixed F M i).set i (F i (M.getD i [])) = mixed F M (i + 1) := by
  apply List.ext_getElem?
  intro q
  rw [List.getElem?_set, mixed_get, mixed_get, mixed_len]
  by_cases hq : i = q
  · subst hq
    rw [if_pos rfl, if_pos h, List.getElem?_eq_getElem h, List.getD_eq_getElem?_getD, List.getElem?_eq_getElem h]
    simp
  · rw [if_neg hq]
    congr 1
    funext R
    by_cases hlt : q < i
    · rw [if_pos hlt, if_pos (by omega)]
    · rw [if_neg hlt, if_neg (by omega)]
theorem mixed_rows {m : Int} {F : Nat → List Int → List Int} (hF : ∀ j R, (F j R).length = R.length) {M : List (List Int)} (hs : Sq m M) (i : Nat) : Sq m (mixed F M i) := by
  refine ⟨by rw [mixed_len]; exact hs.1, fun j h0 h1 => ?_⟩
  have h := hs.2 j h0 h1
  have hl := hs.1
  unfold rd_L4 at h ⊢
  rw [List.getD_eq_getElem?_getD, mixed_get, List.getElem?_eq_getElem (by omega)]
  rw [List.getD_eq_getElem?_getD, List.getElem?_eq_getElem (by omega)] at h
  simp only [Option.getD_some, Option.map_some] at h ⊢
  split
  · rw [hF]; exact h
  · exact h
theorem spec_col {m : Int} (hm : 1 ≤ m ∧ m ≤ 1000) (c : Nat) (hc : (c : Int) < m) {M : List (List Int)} (hs : Sq m M) : ∀ (d i : Nat), M.length - i = d → i ≤ M.length →
    Ev (fun k => spec_neTable.l2 k (c : Int) (mixed (fun _ R => R.set c 0) M i) (M.length : Int) (i : Int)) (mixed (colF c) M M.length) := by
  have hl := hs.1
  intro d
  induction d with
  | zero =>
    intro i hd hi
    have hi2 : i = M.length := by omega
    subst hi2
    have hr := mixed_rows (F := fun _ R => R.set c 0) (fun j R => by simp) hs M.length
    refine Ev.succ ?_
    simp only [spec_neTable.l2]
    refine Ev.neg (by omega) (Ev.pos (by rw [mixed_len]; omega) (Ev.pos (by omega) (Ev.pos (by rw [hr.2 0 (by omega) (by omega)]; exact hc) (Ev.eqr (Ev.now _) ?_))))
    apply List.ext_getElem?
    intro q
    unfold rd_L4
    rw [List.getElem?_set, mixed_len, mixed_get, mixed_get, List.getD_eq_getElem?_getD, mixed_get, Int.toNat_natCast, show (0 : Int).toNat = 0 from rfl]
    by_cases hq : q = 0
    · subst hq
      rw [if_pos rfl, if_pos (by omega), List.getElem?_eq_getElem (show 0 < M.length by omega)]
      simp [colF, show 0 < M.length by omega]
    · rw [if_neg (by omega)]
      congr 1
      funext R
      by_cases hlt : q < M.length
      · rw [if_pos hlt, if_pos hlt]
        simp [colF, hq]
      · rw [if_neg hlt, if_neg hlt]
  | succ d ih =>
    intro i hd hi
    have hr := mixed_rows (F := fun _ R => R.set c 0) (fun j R => by simp) hs i
    refine Ev.succ ?_
    simp only [spec_neTable.l2]
    refine Ev.pos (by omega) (Ev.pos (by omega) (Ev.pos (by rw [mixed_len]; omega) (Ev.pos (by omega) (Ev.pos (by rw [hr.2 _ (by omega) (by omega)]; exact hc) ?_))))
    rw [wrap64_id (n := (i : Int) + 1) (by omega) (by omega), Int.toNat_natCast, Int.toNat_natCast, show rd_L4 (mixed (fun _ R => R.set c 0) M i) (i : Int) = M.getD i [] by unfold rd_L4; rw [Int.toNat_natCast]; exact mixed_row _ _ _, mixed_set (fun _ R => R.set c 0) M i (by omega)]
    exact ih (i + 1) (by omega) (by omega)
def pot (n : Int) (ws : List Wr) (c : Nat) : Int := det (mixed (colF c) (lap (n - 1) ws) (lap (n - 1) ws).length)
def pots (n : Int) (ws : List Wr) : Nat → List Int
  | 0 => []
  | i + 1 => pots n ws i ++ [pot n ws i]
theorem pots_len (n : Int) (ws : List Wr) : ∀ i, (pots n ws i).length = i
  | 0 => rfl
  | i + 1 => by rw [pots, List.length_append, pots_len n ws i]; rfl
theorem col_sq {m : Int} {M : List (List Int)} (hs : Sq m M) (c : Nat) : Sq m (mixed (colF c) M M.length) := mixed_rows (fun j R => by unfold colF; simp) hs _
theorem spec_pots {n : Int} (hn : 2 ≤ n ∧ n ≤ 1000) (ws : List Wr) (hl : ws.length ≤ 1000) (hws : ∀ w ∈ ws, 0 ≤ w.f0 ∧ 0 ≤ w.f1) : ∀ (d i : Nat), (n - 1).toNat - i = d → i ≤ (n - 1).toNat →
    Ev (fun k => spec_nePotentials.l0 k (pots n ws i) (i : Int) n ws) (pots n ws (n - 1).toNat ++ [0]) := by
  have hs := sq_lap (m := n - 1) (by omega) hws
  have hll := hs.1
  intro d
  induction d with
  | zero =>
    intro i hd hi
    have hi2 : i = (n - 1).toNat := by omega
    subst hi2
    refine Ev.succ ?_
    simp only [spec_nePotentials.l0]
    rw [wrap64_id (n := n - 1) (by omega) (by omega)]
    exact Ev.neg (by omega) (Ev.pos (by rw [pots_len]; omega) (Ev.now _))
  | succ d ih =>
    intro i hd hi
    refine Ev.succ ?_
    simp only [spec_nePotentials.l0]
    rw [wrap64_id (n := n - 1) (by omega) (by omega)]
    refine Ev.pos (by omega) ?_
    refine Ev.bind (table_ev hn ws hl hws (i : Int) (mixed (colF i) (lap (n - 1) ws) (lap (n - 1) ws).length) (Ev.pos (by omega) ?_)) ?_
    · have h := spec_col (m := n - 1) (by omega) i (by omega) hs (lap (n - 1) ws).length 0 (by omega) (by omega)
      rw [mixed_zero] at h
      exact h
    · refine Ev.bindc (det_some (m := n - 1) (by omega) (col_sq hs i)) ?_
      refine Ev.pos (by rw [pots_len]; omega) ?_
      rw [wrap64_id (n := (i : Int) + 1) (by omega) (by omega)]
      exact ih (i + 1) (by omega) (by omega)
theorem bit_eq (i : Nat) : impl_bit.f ((i : Int) == 0) = some (if i = 0 then 1 else 0) := by
  unfold impl_bit.f
  by_cases h : i = 0
  · subst h; simp
  · rw [if_neg (by simp; exact h), if_neg h]
theorem impl_col {n m : Int} (hm : 1 ≤ m ∧ m ≤ 1000) (ws : List Wr) (c : Nat) (hc : (c : Int) < m) {M : List (List Int)} (hs : Sq m M) (x3 : List Int) (h3 : x3.length ≤ 1000) (b : Int) (r : List Int) (hr : Ev (fun k => impl_Net_potentials.l0 k (x3 ++ [det (mixed (colF c) M M.length)]) b (wrap64 ((c : Int) + 1)) n ws) r) : ∀ (d i : Nat), M.length - i = d → i ≤ M.length →
    Ev (fun k => impl_Net_potentials.l1 k x3 (c : Int) (mixed (colF c) M i) b (c : Int) (M.length : Int) (i : Int) n ws) r := by
  have hl := hs.1
  intro d
  induction d with
  | zero =>
    intro i hd hi
    have hi2 : i = M.length := by omega
    subst hi2
    refine Ev.succ ?_
    simp only [impl_Net_potentials.l1]
    refine Ev.neg (by omega) ?_
    refine Ev.bindc (det_some (m := m) (by omega) (col_sq hs c)) ?_
    exact Ev.pos (by omega) hr
  | succ d ih =>
    intro i hd hi
    have hr2 := mixed_rows (F := colF c) (fun j R => by unfold colF; simp) hs i
    refine Ev.succ ?_
    simp only [impl_Net_potentials.l1]
    refine Ev.pos (by omega) (Ev.pos (by omega) (Ev.pos (by rw [mixed_len]; omega) (Ev.bindc (bit_eq i) (Ev.pos (by omega) (Ev.pos (by rw [hr2.2 _ (by omega) (by omega)]; exact hc) ?_)))))
    rw [wrap64_id (n := (i : Int) + 1) (by omega) (by omega), Int.toNat_natCast, Int.toNat_natCast, show rd_L4 (mixed (colF c) M i) (i : Int) = M.getD i [] by unfold rd_L4; rw [Int.toNat_natCast]; exact mixed_row _ _ _]
    have e := mixed_set (colF c) M i (by omega)
    rw [show colF c i (M.getD i []) = (M.getD i []).set c (if i = 0 then 1 else 0) from rfl] at e
    rw [e]
    exact ih (i + 1) (by omega) (by omega)
theorem impl_pots {n : Int} (hn : 2 ≤ n ∧ n ≤ 1000) (ws : List Wr) (hl : ws.length ≤ 1000) (hws : ∀ w ∈ ws, 0 ≤ w.f0 ∧ 0 ≤ w.f1) : ∀ (d i : Nat), (n - 1).toNat - i = d → i ≤ (n - 1).toNat →
    Ev (fun k => impl_Net_potentials.l0 k (pots n ws i) (n - 1) (i : Int) n ws) (pots n ws (n - 1).toNat ++ [0]) := by
  have hs := sq_lap (m := n - 1) (by omega) hws
  have hll := hs.1
  intro d
  induction d with
  | zero =>
    intro i hd hi
    have hi2 : i = (n - 1).toNat := by omega
    subst hi2
    refine Ev.succ ?_
    simp only [impl_Net_potentials.l0]
    exact Ev.neg (by omega) (Ev.pos (by rw [pots_len]; omega) (Ev.now _))
  | succ d ih =>
    intro i hd hi
    refine Ev.succ ?_
    simp only [impl_Net_potentials.l0]
    refine Ev.pos (by omega) ?_
    refine Ev.bind (laplacian_ev hn ws hl hws) ?_
    have h := impl_col (n := n) (m := n - 1) (by omega) ws i (by omega) hs (pots n ws i) (by rw [pots_len]; omega) (n - 1) (pots n ws (n - 1).toNat ++ [0]) (by
      rw [wrap64_id (n := (i : Int) + 1) (by omega) (by omega)]
      exact ih (i + 1) (by omega) (by omega)) (lap (n - 1) ws).length 0 (by omega) (by omega)
    rw [mixed_zero] at h
    exact h
def potList (n : Int) (ws : List Wr) : List Int := pots n ws (n - 1).toNat ++ [0]
theorem potList_len {n : Int} (hn : 2 ≤ n) (ws : List Wr) : ((potList n ws).length : Int) = n := by unfold potList; rw [List.length_append, pots_len]; simp; omega
theorem nePotentials_ev {n : Int} (hn : 2 ≤ n ∧ n ≤ 1000) (ws : List Wr) (hl : ws.length ≤ 1000) (hws : ∀ w ∈ ws, 0 ≤ w.f0 ∧ 0 ≤ w.f1) : Ev (fun k => spec_nePotentials.f k n ws) (potList n ws) := spec_pots hn ws hl hws (n - 1).toNat 0 (by omega) (by omega)
theorem potentials_ev {n : Int} (hn : 2 ≤ n ∧ n ≤ 1000) (ws : List Wr) (hl : ws.length ≤ 1000) (hws : ∀ w ∈ ws, 0 ≤ w.f0 ∧ 0 ≤ w.f1) : Ev (fun k => impl_Net_potentials.f k n ws) (potList n ws) := by
  unfold impl_Net_potentials.f
  rw [wrap64_id (n := n - 1) (by omega) (by omega)]
  exact impl_pots hn ws hl hws (n - 1).toNat 0 (by omega) (by omega)
open Classical in
noncomputable def potentialsOf (n : Int) (ws : List Wr) : List Int × Bool := if NetOk n ws then (potList n ws, true) else ([], false)
theorem impl_PotentialsOf_ev (n : Int) (ws : List Wr) : Ev (fun k => impl_PotentialsOf.f k n ws) (potentialsOf n ws) := by
  unfold impl_PotentialsOf.f potentialsOf
  refine Ev.bind (impl_IsNet_ev n ws) ?_
  by_cases h : NetOk n ws
  · rw [if_pos h]
    have hw : ∀ w ∈ ws, 0 ≤ w.f0 ∧ 0 ≤ w.f1 := fun w hq => ⟨(h.2.2.1 w hq).1.1, (h.2.2.1 w hq).2.1.1⟩
    have h1 := h.1; have h2 := h.2.1
    exact Ev.pos (by simpa using h) (Ev.bind (potentials_ev (n := n) (by omega) ws (by omega) hw) (Ev.now _))
  · rw [if_neg h]
    exact Ev.neg (by simpa using h) (Ev.now _)
theorem potentialsOf_len (n : Int) (ws : List Wr) : (potentialsOf n ws).1.length ≤ 12 := by
  unfold potentialsOf; split
  · rename_i h
    have h1 := potList_len (n := n) (by have := h.1; omega) ws
    have := h.1
    dsimp only; omega
  · simp

/-! ### greatest common divisors -/
theorem impl_common_ev : ∀ (n m : Nat), Ev (fun k => impl_common.l0 k (m : Int) (n : Int)) ((Nat.gcd m n : Nat) : Int) := by
  intro n
  induction n using Nat.strongRecOn with
  | _ n ih =>
    intro m
    refine Ev.succ ?_
    simp only [impl_common.l0]
    by_cases h : n = 0
    · subst h
      refine Ev.neg (by omega) (Ev.eqr (Ev.now _) ?_)
      rw [Nat.gcd_zero_right]
    · refine Ev.pos (by omega) (Ev.neg (by omega) ?_)
      rw [← Int.ofNat_tmod]
      have := ih (m % n) (Nat.mod_lt _ (by omega)) n
      rw [Nat.gcd_comm m n, Nat.gcd_rec n m, Nat.gcd_comm]
      exact this
theorem spec_common_ev : ∀ (n m : Nat), Ev (fun k => spec_cuCommon.l0 k (m : Int) (n : Int)) ((Nat.gcd m n : Nat) : Int) := by
  intro n
  induction n using Nat.strongRecOn with
  | _ n ih =>
    intro m
    refine Ev.succ ?_
    simp only [spec_cuCommon.l0]
    by_cases h : n = 0
    · subst h
      refine Ev.neg (by omega) (Ev.eqr (Ev.now _) ?_)
      rw [Nat.gcd_zero_right]
    · refine Ev.pos (by omega) (Ev.neg (by omega) ?_)
      rw [← Int.ofNat_tmod]
      have := ih (m % n) (Nat.mod_lt _ (by omega)) n
      rw [Nat.gcd_comm m n, Nat.gcd_rec n m, Nat.gcd_comm]
      exact this

/-! ### cells of a table -/
theorem dPut_lenB (M : List (List Int)) (i j : Nat) (x : Int) : (dPut M i j x).length = M.length := by simp [dPut]
theorem dPut_rowB (M : List (List Int)) (i j : Nat) (x : Int) (q : Nat) : ((dPut M i j x).getD q []).length = (M.getD q []).length := by
  unfold dPut
  simp only [List.getD_eq_getElem?_getD, List.getElem?_set]
  by_cases hq : i = q
  · subst hq
    by_cases hl : i < M.length
    · simp [hl]
    · simp [hl]
  · simp [hq]
theorem dAt_dPutB {M : List (List Int)} {i j : Nat} (hi : i < M.length) (hj : j < (M.getD i []).length) (x : Int) (p q : Nat) : dAt (dPut M i j x) p q = if p = i ∧ q = j then x else dAt M p q := by
  unfold dAt dPut
  simp only [List.getD_eq_getElem?_getD, List.getElem?_set] at hj ⊢
  by_cases hp : i = p
  · subst hp
    rw [List.getElem?_eq_getElem hi] at hj ⊢
    by_cases hq : j = q
    · subst hq
      simp only [Option.getD_some] at hj
      simp [hi, hj]
    · have hq' : q ≠ j := fun e => hq e.symm
      simp [hi, hq, hq']
  · have hp' : p ≠ i := fun e => hp e.symm
    simp [hp, hp']

namespace DM
/-! ### sums and determinants of rational numbers -/
def sm (n : Nat) (f : Nat → Rat) : Rat := match n with
  | 0 => 0
  | n + 1 => sm n f + f n
theorem sm_congr {f g : Nat → Rat} : ∀ n, (∀ j, j < n → f j = g j) → sm n f = sm n g
  | 0, _ => rfl
  | n + 1, h => by rw [sm, sm, sm_congr n (fun j hj => h j (by omega)), h n (by omega)]
theorem sm_lin (x y : Rat) (f g : Nat → Rat) : ∀ n, sm n (fun j => x * f j + y * g j) = x * sm n f + y * sm n g
  | 0 => by simp only [sm]; grind
  | n + 1 => by simp only [sm, sm_lin x y f g n]; grind
theorem sm_zero {f : Nat → Rat} : ∀ n, (∀ j, j < n → f j = 0) → sm n f = 0
  | 0, _ => rfl
  | n + 1, h => by rw [sm, sm_zero n (fun j hj => h j (by omega)), h n (by omega)]; grind
theorem sm_pair {f : Nat → Rat} (p : Nat) (h2 : f p + f (p + 1) = 0) : ∀ n, p + 1 < n → (∀ j, j < n → j ≠ p → j ≠ p + 1 → f j = 0) → sm n f = 0
  | 0, h, _ => by omega
  | n + 1, h, h0 => by
    by_cases e : n = p + 1
    · subst e
      rw [sm, sm, sm_zero p (fun j hj => h0 j (by omega) (by omega) (by omega))]
      grind
    · rw [sm, sm_pair p h2 n (by omega) (fun j hj a b => h0 j (by omega) a b), h0 n (by omega) (by omega) (by omega)]; grind
theorem sm_one {f : Nat → Rat} (p : Nat) : ∀ n, p < n → (∀ j, j < n → j ≠ p → f j = 0) → sm n f = f p
  | 0, h, _ => by omega
  | n + 1, h, h0 => by
    by_cases e : n = p
    · subst e
      rw [sm, sm_zero n (fun j hj => h0 j (by omega) (by omega))]
      grind
    · rw [sm, sm_one p n (by omega) (fun j hj a => h0 j (by omega) a), h0 n (by omega) (by omega)]; grind
theorem sm_head (f : Nat → Rat) : ∀ n, sm (n + 1) f = f 0 + sm n (fun j => f (j + 1))
  | 0 => by simp only [sm]; grind
  | n + 1 => by rw [sm, sm_head f n, sm]; grind
def sg (j : Nat) : Rat := if j % 2 = 0 then 1 else -1
theorem sg_succ (j : Nat) : sg (j + 1) = - sg j := by
  unfold sg
  by_cases h : j % 2 = 0
  · rw [if_pos h, if_neg (by omega)]
  · rw [if_neg h, if_pos (by omega)]; grind
def skip (j c : Nat) : Nat := if c < j then c else c + 1
def det : Nat → (Nat → Nat → Rat) → Rat
  | 0, _ => 1
  | n + 1, A => sm (n + 1) fun j => sg j * A 0 j * det n (fun r c => A (r + 1) (skip j c))
theorem det_congr : ∀ (n : Nat) {A B : Nat → Nat → Rat}, (∀ r c, r < n → c < n → A r c = B r c) → det n A = det n B
  | 0, _, _, _ => rfl
  | n + 1, A, B, h => by
    rw [det, det]
    refine sm_congr _ (fun j hj => ?_)
    rw [h 0 j (by omega) hj, det_congr n (fun r c hr hc => h (r + 1) (skip j c) (by omega) (by unfold skip; split <;> omega))]
def setc (A : Nat → Nat → Rat) (p : Nat) (u : Nat → Rat) : Nat → Nat → Rat := fun r c => if c = p then u r else A r c
theorem setc_at (A : Nat → Nat → Rat) (p : Nat) (u : Nat → Rat) (r c : Nat) : setc A p u r c = if c = p then u r else A r c := rfl
def pos (j p : Nat) : Nat := if p < j then p else p - 1
theorem skip_eq {j c p : Nat} (h : j ≠ p) : skip j c = p ↔ c = pos j p := by
  unfold skip pos
  split <;> split <;> omega
theorem minor_setc (A : Nat → Nat → Rat) {p j : Nat} (u : Nat → Rat) (h : j ≠ p) : (fun r c => setc A p u (r + 1) (skip j c)) = setc (fun r c => A (r + 1) (skip j c)) (pos j p) (fun r => u (r + 1)) := by
  funext r c
  rw [setc_at, setc_at]
  by_cases e : skip j c = p
  · rw [if_pos e, if_pos ((skip_eq h).1 e)]
  · rw [if_neg e, if_neg (fun k => e ((skip_eq h).2 k))]
theorem minor_setc_same (A : Nat → Nat → Rat) (p : Nat) (u : Nat → Rat) : (fun r c => setc A p u (r + 1) (skip p c)) = fun r c => A (r + 1) (skip p c) := by
  funext r c
  rw [setc_at, if_neg]
  unfold skip; split <;> omega
theorem det_lin : ∀ (n : Nat) (A : Nat → Nat → Rat) (p : Nat) (_ : p < n) (x y : Rat) (u v : Nat → Rat), det n (setc A p (fun r => x * u r + y * v r)) = x * det n (setc A p u) + y * det n (setc A p v)
  | 0, _, _, h, _, _, _, _ => by omega
  | n + 1, A, p, h, x, y, u, v => by
    rw [det, det, det, ← sm_lin]
    refine sm_congr _ (fun j hj => ?_)
    by_cases e : j = p
    · subst e
      rw [minor_setc_same, minor_setc_same, minor_setc_same, setc_at, setc_at, setc_at, if_pos rfl, if_pos rfl, if_pos rfl]
      grind
    · rw [minor_setc _ _ e, minor_setc _ _ e, minor_setc _ _ e, det_lin n _ _ (by unfold pos; split <;> omega), setc_at, setc_at, setc_at, if_neg e, if_neg e, if_neg e]
      grind
/-- two neighbouring columns that are the same -/
theorem det_adj : ∀ (n : Nat) (A : Nat → Nat → Rat) (p : Nat), p + 1 < n → (∀ r, r < n → A r p = A r (p + 1)) → det n A = 0
  | 0, _, _, h, _ => by omega
  | n + 1, A, p, h, he => by
    rw [det]
    refine sm_pair p ?_ (n + 1) h (fun j hj a b => ?_)
    · have e : det n (fun r c => A (r + 1) (skip p c)) = det n (fun r c => A (r + 1) (skip (p + 1) c)) := by
        refine det_congr n (fun r c hr hc => ?_)
        unfold skip
        by_cases e : c = p
        · subst e
          rw [if_neg (by omega), if_pos (by omega)]
          exact (he (r + 1) (by omega)).symm
        · by_cases l : c < p
          · rw [if_pos l, if_pos (by omega)]
          · rw [if_neg l, if_neg (by omega)]
      rw [e, sg_succ, he 0 (by omega)]
      grind
    · rw [det_adj n _ (pos j p) (by unfold pos; split <;> omega) (fun r hr => ?_)]
      · grind
      · have e1 : skip j (pos j p) = p := (skip_eq a).2 rfl
        have e2 : skip j (pos j p + 1) = p + 1 := by unfold skip pos; split <;> split <;> omega
        rw [e1, e2]
        exact he (r + 1) (by omega)
def swc (A : Nat → Nat → Rat) (p q : Nat) : Nat → Nat → Rat := fun r c => if c = p then A r q else if c = q then A r p else A r c
theorem det_swap (n : Nat) (A : Nat → Nat → Rat) (p : Nat) (h : p + 1 < n) : det n (swc A p (p + 1)) = - det n A := by
  have key : ∀ u v : Nat → Rat, det n (setc (setc A p u) (p + 1) v) + det n (setc (setc A p v) (p + 1) u) = 0 := by
    intro u v
    have dup : ∀ w : Nat → Rat, det n (setc (setc A p w) (p + 1) w) = 0 := fun w => det_adj n _ p h (fun r _ => by
      rw [setc_at, setc_at, setc_at, if_neg (by omega), if_pos rfl, if_pos rfl])
    have comm : ∀ u v : Nat → Rat, setc (setc A p u) (p + 1) v = setc (setc A (p + 1) v) p u := by
      intro u v; funext r c
      simp only [setc_at]
      by_cases e : c = p
      · subst e; rw [if_neg (by omega), if_pos rfl, if_pos rfl]
      · by_cases e2 : c = p + 1
        · rw [if_pos e2, if_neg e, if_pos e2]
        · rw [if_neg e2, if_neg e, if_neg e, if_neg e2]
    have s := dup (fun r => 1 * u r + 1 * v r)
    rw [det_lin n _ (p + 1) h, comm, comm, det_lin n _ p (by omega), det_lin n _ p (by omega), ← comm, ← comm, ← comm, ← comm, dup, dup] at s
    grind
  have k := key (fun r => A r p) (fun r => A r (p + 1))
  have e1 : det n (setc (setc A p fun r => A r p) (p + 1) fun r => A r (p + 1)) = det n A := det_congr n (fun r c _ _ => by
    simp only [setc_at]
    split
    · rename_i e; rw [e]
    · split
      · rename_i e; rw [e]
      · rfl)
  have e2 : det n (setc (setc A p fun r => A r (p + 1)) (p + 1) fun r => A r p) = det n (swc A p (p + 1)) := det_congr n (fun r c _ _ => by
    simp only [setc_at, swc]
    by_cases e : c = p
    · subst e; rw [if_neg (by omega), if_pos rfl, if_pos rfl]
    · by_cases e2 : c = p + 1
      · rw [if_pos e2, if_neg e, if_pos e2]
      · rw [if_neg e2, if_neg e, if_neg e, if_neg e2])
  rw [e1, e2] at k
  grind
theorem det_dup (n : Nat) : ∀ (d : Nat) (A : Nat → Nat → Rat) (p : Nat), p + d + 1 < n → (∀ r, r < n → A r p = A r (p + d + 1)) → det n A = 0
  | 0, A, p, h, he => det_adj n A p h he
  | d + 1, A, p, h, he => by
    have s := det_swap n A (p + d + 1) h
    rw [det_dup n d (swc A (p + d + 1) (p + d + 1 + 1)) p (by omega) (fun r hr => ?_)] at s
    · grind
    · simp only [swc]
      rw [if_neg (by omega), if_neg (by omega), if_pos trivial]
      exact he r hr
theorem det_same (n : Nat) (A : Nat → Nat → Rat) (p q : Nat) (hp : p < n) (hq : q < n) (hpq : p ≠ q) (he : ∀ r, r < n → A r p = A r q) : det n A = 0 := by
  rcases Nat.lt_or_gt_of_ne hpq with h | h
  · refine det_dup n (q - p - 1) A p (by omega) (fun r hr => ?_)
    rw [show p + (q - p - 1) + 1 = q by omega]; exact he r hr
  · refine det_dup n (p - q - 1) A q (by omega) (fun r hr => ?_)
    rw [show q + (p - q - 1) + 1 = p by omega]; exact (he r hr).symm
/-- a column's multiple is added to another column -/
theorem det_addc (n : Nat) (A : Nat → Nat → Rat) (p q : Nat) (hp : p < n) (hq : q < n) (hpq : p ≠ q) (x : Rat) : det n (setc A p (fun r => A r p + x * A r q)) = det n A := by
  have e : (fun r => A r p + x * A r q) = fun r => 1 * A r p + x * A r q := by funext r; grind
  rw [e, det_lin n A p hp, det_same n (setc A p fun r => A r q) p q hp hq hpq (fun r _ => by
    rw [setc_at, setc_at, if_pos rfl, if_neg (fun h => hpq h.symm)])]
  have : det n (setc A p fun r => A r p) = det n A := det_congr n (fun r c _ _ => by
    rw [setc_at]; split
    · rename_i e; rw [e]
    · rfl)
  rw [this]; grind
/-- the first column cleared from the first row: m columns behind it -/
def clr (A : Nat → Nat → Rat) (m : Nat) : Nat → Nat → Rat := fun r c => if 1 ≤ c ∧ c ≤ m then A r c - A r 0 * A 0 c / A 0 0 else A r c
theorem det_clr (n : Nat) (A : Nat → Nat → Rat) (h0 : A 0 0 ≠ 0) : ∀ m, m < n → det n (clr A m) = det n A
  | 0, _ => det_congr n (fun r c _ _ => by unfold clr; rw [if_neg (by omega)])
  | m + 1, h => by
    rw [← det_clr n A h0 m (by omega), ← det_addc n (clr A m) (m + 1) 0 h (by omega) (by omega) (- (A 0 (m + 1) / A 0 0))]
    refine det_congr n (fun r c _ _ => ?_)
    simp only [setc_at]
    unfold clr
    by_cases e : c = m + 1
    · subst e
      rw [if_pos (by omega), if_pos rfl, if_neg (by omega), if_neg (by omega)]
      grind
    · rw [if_neg e]
      by_cases l : 1 ≤ c ∧ c ≤ m
      · rw [if_pos l, if_pos (by omega)]
      · rw [if_neg l, if_neg (by omega)]
def schur (A : Nat → Nat → Rat) : Nat → Nat → Rat := fun r c => A (r + 1) (c + 1) - A (r + 1) 0 * A 0 (c + 1) / A 0 0
theorem det_step (n : Nat) (A : Nat → Nat → Rat) (h0 : A 0 0 ≠ 0) : det (n + 1) A = A 0 0 * det n (schur A) := by
  rw [← det_clr (n + 1) A h0 n (by omega), det, sm_one 0 (n + 1) (by omega)]
  · have e : det n (fun r c => clr A n (r + 1) (skip 0 c)) = det n (schur A) := det_congr n (fun r c hr hc => by
      unfold clr schur skip
      rw [if_neg (show ¬ c < 0 by omega), if_pos (by omega)])
    rw [e]
    have e0 : clr A n 0 0 = A 0 0 := by unfold clr; rw [if_neg (by omega)]
    have e1 : sg 0 = 1 := rfl
    rw [e0, e1]
    grind
  · intro j hj hj0
    have : clr A n 0 j = 0 := by unfold clr; rw [if_pos (by omega)]; grind
    rw [this]; grind
def IsI (x : Rat) : Prop := ∃ z : Int, x = (z : Rat)
theorem sm_int {f : Nat → Rat} : ∀ n, (∀ j, j < n → IsI (f j)) → IsI (sm n f)
  | 0, _ => ⟨0, rfl⟩
  | n + 1, h => by
    obtain ⟨a, ha⟩ := sm_int n (fun j hj => h j (by omega))
    obtain ⟨b, hb⟩ := h n (by omega)
    exact ⟨a + b, by rw [sm, ha, hb, Rat.intCast_add]⟩
theorem det_int : ∀ (n : Nat) (A : Nat → Nat → Rat), (∀ r c, r < n → c < n → IsI (A r c)) → IsI (det n A)
  | 0, _, _ => ⟨1, rfl⟩
  | n + 1, A, h => by
    rw [det]
    refine sm_int _ (fun j hj => ?_)
    obtain ⟨a, ha⟩ := h 0 j (by omega) hj
    obtain ⟨b, hb⟩ := det_int n (fun r c => A (r + 1) (skip j c)) (fun r c hr hc => h _ _ (by omega) (by unfold skip; split <;> omega))
    have hs : IsI (sg j) := by unfold sg; split; exact ⟨1, rfl⟩; exact ⟨-1, rfl⟩
    obtain ⟨s, hs⟩ := hs
    exact ⟨s * a * b, by rw [ha, hb, hs, Rat.intCast_mul, Rat.intCast_mul]⟩

/-! ### rows -/
def setr (A : Nat → Nat → Rat) (p : Nat) (u : Nat → Rat) : Nat → Nat → Rat := fun r c => if r = p then u c else A r c
theorem setr_at (A : Nat → Nat → Rat) (p : Nat) (u : Nat → Rat) (r c : Nat) : setr A p u r c = if r = p then u c else A r c := rfl
theorem det_linr : ∀ (n : Nat) (A : Nat → Nat → Rat) (p : Nat) (_ : p < n) (x y : Rat) (u v : Nat → Rat), det n (setr A p (fun c => x * u c + y * v c)) = x * det n (setr A p u) + y * det n (setr A p v)
  | 0, _, _, h, _, _, _, _ => by omega
  | n + 1, A, 0, h, x, y, u, v => by
    rw [det, det, det, ← sm_lin]
    refine sm_congr _ (fun j hj => ?_)
    have e : ∀ w, (fun r c => setr A 0 w (r + 1) (skip j c)) = fun r c => A (r + 1) (skip j c) := fun w => by
      funext r c; rw [setr_at, if_neg (by omega)]
    rw [e, e, e, setr_at, setr_at, setr_at, if_pos rfl, if_pos rfl, if_pos rfl]
    grind
  | n + 1, A, p + 1, h, x, y, u, v => by
    rw [det, det, det, ← sm_lin]
    refine sm_congr _ (fun j hj => ?_)
    have e : ∀ w, (fun r c => setr A (p + 1) w (r + 1) (skip j c)) = setr (fun r c => A (r + 1) (skip j c)) p (fun c => w (skip j c)) := fun w => by
      funext r c
      rw [setr_at, setr_at]
      by_cases e : r = p
      · rw [if_pos (by omega), if_pos e]
      · rw [if_neg (by omega), if_neg e]
    rw [e, e, e, det_linr n _ p (by omega), setr_at, setr_at, setr_at, if_neg (by omega), if_neg (by omega), if_neg (by omega)]
    grind
theorem det_zeroc (n : Nat) (A : Nat → Nat → Rat) (p : Nat) (hp : p < n) (h : ∀ r, r < n → A r p = 0) : det n A = 0 := by
  have e : det n A = det n (setc A p (fun r => 0 * A r p + 0 * A r p)) := det_congr n (fun r c hr _ => by
    rw [setc_at]; split
    · rename_i e; rw [e, h r hr]; grind
    · rfl)
  rw [e, det_lin n A p hp]; grind
theorem det_zeror (n : Nat) (A : Nat → Nat → Rat) (p : Nat) (hp : p < n) (h : ∀ c, c < n → A p c = 0) : det n A = 0 := by
  have e : det n A = det n (setr A p (fun c => 0 * A p c + 0 * A p c)) := det_congr n (fun r c _ hc => by
    rw [setr_at]; split
    · rename_i e; rw [e, h c hc]; grind
    · rfl)
  rw [e, det_linr n A p hp]; grind
theorem det_samer0 (n : Nat) (A : Nat → Nat → Rat) (q : Nat) (hq : q + 1 < n + 1) (he : ∀ c, c < n + 1 → A 0 c = A (q + 1) c) (h0 : A 0 0 ≠ 0) : det (n + 1) A = 0 := by
  rw [det_step n A h0, det_zeror n (schur A) q (by omega)]
  · grind
  · intro c hc
    unfold schur
    rw [← he (c + 1) (by omega), ← he 0 (by omega)]
    grind
theorem det_samer : ∀ (n : Nat) (A : Nat → Nat → Rat) (p q : Nat), p < q → q < n → (∀ c, c < n → A p c = A q c) → det n A = 0
  | 0, _, _, _, _, h, _ => by omega
  | n + 1, A, p + 1, q, hpq, hq, he => by
    obtain ⟨q, rfl⟩ : ∃ m, q = m + 1 := ⟨q - 1, by omega⟩
    rw [det]
    refine sm_zero _ (fun j hj => ?_)
    rw [det_samer n _ p q (by omega) (by omega) (fun c hc => he _ (by unfold skip; split <;> omega))]
    grind
  | n + 1, A, 0, q, hpq, hq, he => by
    obtain ⟨q, rfl⟩ : ∃ m, q = m + 1 := ⟨q - 1, by omega⟩
    by_cases h0 : A 0 0 = 0
    · by_cases hz : ∀ c, c < n + 1 → A 0 c = 0
      · exact det_zeror _ A 0 (by omega) hz
      · have : ∃ c, c < n + 1 ∧ A 0 c ≠ 0 := Classical.byContradiction fun h => hz fun c hc => Classical.byContradiction fun k => h ⟨c, hc, k⟩
        obtain ⟨c, hc, hn⟩ := this
        have hc0 : c ≠ 0 := fun e => hn (e ▸ h0)
        rw [← det_addc (n + 1) A 0 c (by omega) hc (fun e => hc0 e.symm) 1]
        refine det_samer0 n _ q hq (fun d hd => ?_) ?_
        · rw [setc_at, setc_at, he d hd, he 0 (by omega), he c hc]
        · rw [setc_at, if_pos rfl, h0]; grind
    · exact det_samer0 n A q hq he h0
theorem det_swapr (n : Nat) (A : Nat → Nat → Rat) (p q : Nat) (hpq : p < q) (h : q < n) : det n (fun r c => if r = p then A q c else if r = q then A p c else A r c) = - det n A := by
  have comm : ∀ u v : Nat → Rat, setr (setr A p u) q v = setr (setr A q v) p u := by
    intro u v; funext r c
    simp only [setr_at]
    by_cases e : r = p
    · subst e; rw [if_neg (by omega), if_pos rfl, if_pos rfl]
    · by_cases e2 : r = q
      · rw [if_pos e2, if_neg e, if_pos e2]
      · rw [if_neg e2, if_neg e, if_neg e, if_neg e2]
  have key : ∀ u v : Nat → Rat, det n (setr (setr A p u) q v) + det n (setr (setr A p v) q u) = 0 := by
    intro u v
    have dup : ∀ w : Nat → Rat, det n (setr (setr A p w) q w) = 0 := fun w => det_samer n _ p q hpq h (fun c _ => by
      rw [setr_at, setr_at, setr_at, if_neg (by omega), if_pos rfl, if_pos rfl])
    have s := dup (fun r => 1 * u r + 1 * v r)
    rw [det_linr n _ q h, comm, comm, det_linr n _ p (by omega), det_linr n _ p (by omega), ← comm, ← comm, ← comm, ← comm, dup, dup] at s
    grind
  have k := key (A p) (A q)
  have e1 : det n (setr (setr A p (A p)) q (A q)) = det n A := det_congr n (fun r c _ _ => by
    simp only [setr_at]
    split
    · rename_i e; rw [e]
    · split
      · rename_i e; rw [e]
      · rfl)
  have e2 : det n (setr (setr A p (A q)) q (A p)) = det n (fun r c => if r = p then A q c else if r = q then A p c else A r c) := det_congr n (fun r c _ _ => by
    simp only [setr_at]
    by_cases e : r = p
    · subst e; rw [if_neg (by omega), if_pos rfl, if_pos rfl]
    · by_cases e2 : r = q
      · rw [if_pos e2, if_neg e, if_pos e2]
      · rw [if_neg e2, if_neg e, if_neg e, if_neg e2])
  rw [e1, e2] at k
  grind
/-! ### a bound: the greater one of the sums of what is above and what is below 0, in each row -/
def pp (x : Rat) : Rat := if 0 ≤ x then x else 0
theorem pp_add (x y : Rat) : pp (x + y) ≤ pp x + pp y := by unfold pp; split <;> split <;> split <;> grind
theorem pp_nn (x : Rat) : 0 ≤ pp x := by unfold pp; split <;> grind
theorem pp_sub (x : Rat) : x = pp x - pp (-x) := by unfold pp; split <;> split <;> grind
theorem sm_le {f g : Nat → Rat} : ∀ n, (∀ j, j < n → f j ≤ g j) → sm n f ≤ sm n g
  | 0, _ => by simp only [sm]; grind
  | n + 1, h => by
    have := sm_le n (fun j hj => h j (by omega)); have := h n (by omega)
    simp only [sm]; grind
theorem sm_nn {f : Nat → Rat} (n : Nat) (h : ∀ j, j < n → 0 ≤ f j) : 0 ≤ sm n f := by
  have := sm_le (f := fun _ => 0) n h
  rw [sm_zero n (fun _ _ => rfl)] at this; exact this
/-- a sum without one place -/
theorem sm_skip (f : Nat → Rat) (p : Nat) : ∀ n, p < n + 1 → sm (n + 1) f = f p + sm n (fun c => f (skip p c))
  | 0, h => by
    obtain rfl : p = 0 := by omega
    simp only [sm]; grind
  | n + 1, h => by
    by_cases e : p = n + 1
    · subst e
      rw [sm, sm_congr (f := fun c => f (skip (n + 1) c)) (g := f) (n + 1) (fun j hj => by unfold skip; rw [if_pos hj])]
      grind
    · rw [sm, sm_skip f p n (by omega), sm, show skip p n = n + 1 by unfold skip; rw [if_neg (by omega)]]
      grind
theorem span (C : Nat → Rat) (M : Rat) (hM : 0 ≤ M) : ∀ n, (∀ c, c < n → C c ≤ M ∧ -M ≤ C c) → (∀ c d, c < n → d < n → C c - C d ≤ M) → ∃ l u : Rat, l ≤ 0 ∧ 0 ≤ u ∧ u - l ≤ M ∧ ((u = 0) ∨ ∃ c, c < n ∧ u = C c) ∧ ((l = 0) ∨ ∃ c, c < n ∧ l = C c) ∧ ∀ c, c < n → l ≤ C c ∧ C c ≤ u
  | 0, _, _ => ⟨0, 0, by grind, by grind, by grind, Or.inl rfl, Or.inl rfl, fun c h => by omega⟩
  | n + 1, h1, h2 => by
    obtain ⟨l, u, hl, hu, hlu, eu, el, hc⟩ := span C M hM n (fun c h => h1 c (by omega)) (fun c d h k => h2 c d (by omega) (by omega))
    have b := h1 n (by omega)
    have lb : C n - l ≤ M := by
      rcases el with e | ⟨c, hcn, e⟩
      · grind
      · have := h2 n c (by omega) (by omega); grind
    have ub : u - C n ≤ M := by
      rcases eu with e | ⟨c, hcn, e⟩
      · grind
      · have := h2 c n (by omega) (by omega); grind
    have el' : l = 0 ∨ ∃ c, c < n + 1 ∧ l = C c := el.imp id (fun ⟨c, a, b⟩ => ⟨c, by omega, b⟩)
    have eu' : u = 0 ∨ ∃ c, c < n + 1 ∧ u = C c := eu.imp id (fun ⟨c, a, b⟩ => ⟨c, by omega, b⟩)
    have all : ∀ l' u' : Rat, l' ≤ l → u ≤ u' → l' ≤ C n → C n ≤ u' → ∀ c, c < n + 1 → l' ≤ C c ∧ C c ≤ u' := by
      intro l' u' a b d e c hcn
      by_cases k : c = n
      · subst k; exact ⟨d, e⟩
      · have := hc c (by omega); grind
    by_cases a : C n < l
    · exact ⟨C n, u, by grind, hu, ub, eu', Or.inr ⟨n, by omega, rfl⟩, all _ _ (by grind) (by grind) (by grind) (by grind)⟩
    · by_cases b : u < C n
      · exact ⟨l, C n, hl, by grind, lb, Or.inr ⟨n, by omega, rfl⟩, el', all _ _ (by grind) (by grind) (by grind) (by grind)⟩
      · exact ⟨l, u, hl, hu, hlu, eu', el', all _ _ (by grind) (by grind) (by grind) (by grind)⟩
theorem mul_le {a b m : Rat} (h : 0 ≤ m) (hab : a ≤ b) : m * a ≤ m * b := Rat.mul_le_mul_of_nonneg_left hab h
theorem comb (a C : Nat → Rat) (n : Nat) (m M : Rat) (hm : 0 ≤ m) (hM : 0 ≤ M) (hp : sm n (fun c => pp (a c)) ≤ m) (hn : sm n (fun c => pp (- a c)) ≤ m) (h1 : ∀ c, c < n → C c ≤ M ∧ -M ≤ C c) (h2 : ∀ c d, c < n → d < n → C c - C d ≤ M) : sm n (fun c => a c * C c) ≤ m * M := by
  obtain ⟨l, u, hl, hu, hlu, _, _, hc⟩ := span C M hM n h1 h2
  have s : sm n (fun c => a c * C c) ≤ sm n (fun c => u * pp (a c) + (-l) * pp (- a c)) := sm_le n (fun c hcn => by
    obtain ⟨b1, b2⟩ := hc c hcn
    have x1 := mul_le (pp_nn (a c)) b2
    have x2 := mul_le (pp_nn (- a c)) b1
    have := pp_sub (a c)
    have e : a c * C c = pp (a c) * C c - pp (- a c) * C c := by
      grind
    grind)
  rw [sm_lin] at s
  have y1 := mul_le hu hp
  have y2 := mul_le (m := -l) (by grind) hn
  have y3 := mul_le hm hlu
  grind
def pr (n : Nat) (f : Nat → Rat) : Rat := match n with
  | 0 => 1
  | n + 1 => pr n f * f n
theorem pr_nn {f : Nat → Rat} : ∀ n, (∀ j, j < n → 0 ≤ f j) → 0 ≤ pr n f
  | 0, _ => by simp only [pr]; grind
  | n + 1, h => by rw [pr]; exact Rat.mul_nonneg (pr_nn n (fun j hj => h j (by omega))) (h n (by omega))
theorem pr_head (f : Nat → Rat) : ∀ n, pr (n + 1) f = f 0 * pr n (fun j => f (j + 1))
  | 0 => by simp only [pr]; grind
  | n + 1 => by rw [pr, pr_head f n, pr]; grind
def RowB (n : Nat) (a : Nat → Rat) (m : Rat) : Prop := sm n (fun c => pp (a c)) ≤ m ∧ sm n (fun c => pp (- a c)) ≤ m
theorem rowB_skip {n : Nat} {a : Nat → Rat} {m : Rat} (p : Nat) (hp : p < n + 1) (h : RowB (n + 1) a m) : RowB n (fun c => a (skip p c)) m := by
  obtain ⟨h1, h2⟩ := h
  rw [sm_skip _ p n hp] at h1 h2
  have := pp_nn (a p); have := pp_nn (- a p)
  exact ⟨by grind, by grind⟩
theorem sm_setat (f : Nat → Rat) (x : Rat) (d : Nat) : ∀ n, d < n → sm n (fun c => if c = d then x else f c) = sm n f - f d + x
  | 0, h => by omega
  | n + 1, h => by
    by_cases e : n = d
    · subst e
      rw [sm, sm, if_pos rfl, sm_congr n (g := f) (fun j hj => if_neg (by omega))]
      grind
    · rw [sm, sm, if_neg e, sm_setat f x d n (by omega)]; grind
/-- one column put onto another one, and taken away -/
theorem rowB_join {n : Nat} {a : Nat → Rat} {m : Rat} (c d : Nat) (hc : c < n + 1) (hd : d < n + 1) (hcd : c ≠ d) (h : RowB (n + 1) a m) : RowB n (fun k => if skip c k = d then a d + a c else a (skip c k)) m := by
  obtain ⟨h1, h2⟩ := h
  have go : ∀ b : Nat → Rat, (∀ x y, b d = x → b c = y → pp (x + y) ≤ pp x + pp y) → sm n (fun k => pp (if skip c k = d then b d + b c else b (skip c k))) ≤ sm (n + 1) (fun c => pp (b c)) := by
    intro b _
    have e : sm n (fun k => pp (if skip c k = d then b d + b c else b (skip c k))) = sm n (fun k => if k = pos c d then pp (b d + b c) else pp (b (skip c k))) := sm_congr n (fun k hk => by
      by_cases e : skip c k = d
      · rw [if_pos e, if_pos ((skip_eq hcd).1 e)]
      · rw [if_neg e, if_neg (fun q => e ((skip_eq hcd).2 q))])
    have hs : skip c (pos c d) = d := (skip_eq hcd).2 rfl
    rw [e, sm_setat _ _ _ n (by unfold pos; split <;> omega), hs, sm_skip (fun c => pp (b c)) c n hc]
    have := pp_add (b d) (b c)
    grind
  have g1 := go a (fun x y _ _ => pp_add x y)
  have g2 := go (fun k => - a k) (fun x y _ _ => pp_add x y)
  refine ⟨by grind, ?_⟩
  have e : (fun k => pp (-(if skip c k = d then a d + a c else a (skip c k)))) = fun k => pp (if skip c k = d then - a d + - a c else - a (skip c k)) := by
    funext k; split
    · congr 1; grind
    · rfl
  rw [e]; grind
theorem det_bound : ∀ (n : Nat) (A : Nat → Nat → Rat) (m : Nat → Rat), (∀ r, r < n → 0 ≤ m r) → (∀ r, r < n → RowB n (A r) (m r)) → det n A ≤ pr n m ∧ - pr n m ≤ det n A
  | 0, _, _, _, _ => ⟨by simp only [det, pr]; grind, by simp only [det, pr]; grind⟩
  | n + 1, A, m, hm, h => by
    have hM := pr_nn (f := fun j => m (j + 1)) n (fun j hj => hm (j + 1) (by omega))
    generalize hMe : pr n (fun j => m (j + 1)) = M at hM
    have b1 : ∀ c, c < n + 1 → (sg c * det n (fun r k => A (r + 1) (skip c k)) ≤ M) ∧ (-M ≤ sg c * det n (fun r k => A (r + 1) (skip c k))) := by
      intro c hc
      have := det_bound n (fun r k => A (r + 1) (skip c k)) (fun j => m (j + 1)) (fun j hj => hm (j + 1) (by omega)) (fun r hr => rowB_skip c hc (h (r + 1) (by omega)))
      rw [hMe] at this
      unfold sg; split <;> grind
    have b2 : ∀ c d, c < n + 1 → d < n + 1 → sg c * det n (fun r k => A (r + 1) (skip c k)) - sg d * det n (fun r k => A (r + 1) (skip d k)) ≤ M := by
      intro c d hc hd
      by_cases e : c = d
      · subst e; grind
      · have key : sg c * det n (fun r k => A (r + 1) (skip c k)) - sg d * det n (fun r k => A (r + 1) (skip d k)) = det (n + 1) (setr A 0 (fun k => if k = c then 1 else if k = d then -1 else 0)) := by
          rw [det]
          have mm : ∀ j, (fun r k => setr A 0 (fun k => if k = c then (1 : Rat) else if k = d then -1 else 0) (r + 1) (skip j k)) = fun r k => A (r + 1) (skip j k) := fun j => by
            funext r k; rw [setr_at, if_neg (by omega)]
          have e2 : sm (n + 1) (fun j => sg j * setr A 0 (fun k => if k = c then (1 : Rat) else if k = d then -1 else 0) 0 j * det n (fun r k => setr A 0 (fun k => if k = c then (1 : Rat) else if k = d then -1 else 0) (r + 1) (skip j k))) = sm (n + 1) (fun j => 1 * (if j = c then sg c * det n (fun r k => A (r + 1) (skip c k)) else 0) + (-1) * (if j = d then sg d * det n (fun r k => A (r + 1) (skip d k)) else 0)) := sm_congr _ (fun j hj => by
            rw [mm, setr_at, if_pos rfl]
            by_cases e1 : j = c
            · subst e1; rw [if_pos rfl, if_pos rfl, if_neg e]; grind
            · rw [if_neg e1, if_neg e1]
              by_cases e2 : j = d
              · subst e2; rw [if_pos rfl, if_pos rfl]; grind
              · rw [if_neg e2, if_neg e2]; grind)
          rw [e2, sm_lin, sm_one c (n + 1) hc (fun j _ hj => if_neg hj), sm_one d (n + 1) hd (fun j _ hj => if_neg hj), if_pos rfl, if_pos rfl]
          grind
        rw [key, ← det_addc (n + 1) _ d c hd hc (fun k => e k.symm) 1, det, sm_one c (n + 1) hc]
        · have mm : (fun r k => setc (setr A 0 (fun k => if k = c then (1 : Rat) else if k = d then -1 else 0)) d (fun r => setr A 0 (fun k => if k = c then (1 : Rat) else if k = d then -1 else 0) r d + 1 * setr A 0 (fun k => if k = c then (1 : Rat) else if k = d then -1 else 0) r c) (r + 1) (skip c k)) = fun r k => if skip c k = d then A (r + 1) d + A (r + 1) c else A (r + 1) (skip c k) := by
            funext r k
            rw [setc_at, setr_at, setr_at, setr_at, if_neg (show r + 1 ≠ 0 by omega), if_neg (show r + 1 ≠ 0 by omega), if_neg (show r + 1 ≠ 0 by omega)]
            split <;> grind
          rw [mm, setc_at, if_neg e, setr_at, if_pos rfl, if_pos rfl]
          have := det_bound n (fun r k => if skip c k = d then A (r + 1) d + A (r + 1) c else A (r + 1) (skip c k)) (fun j => m (j + 1)) (fun j hj => hm (j + 1) (by omega)) (fun r hr => rowB_join c d hc hd e (h (r + 1) (by omega)))
          rw [hMe] at this
          unfold sg; split <;> grind
        · intro j hj hjc
          have : setc (setr A 0 (fun k => if k = c then (1 : Rat) else if k = d then -1 else 0)) d (fun r => setr A 0 (fun k => if k = c then (1 : Rat) else if k = d then -1 else 0) r d + 1 * setr A 0 (fun k => if k = c then (1 : Rat) else if k = d then -1 else 0) r c) 0 j = 0 := by
            simp only [setc_at, setr_at]
            by_cases q : j = d
            · subst q; simp [hjc]; grind
            · simp [hjc, q]
          rw [this]; grind
    have h0 := h 0 (by omega)
    have e1 : det (n + 1) A = sm (n + 1) (fun c => A 0 c * (sg c * det n (fun r k => A (r + 1) (skip c k)))) := by
      rw [det]; exact sm_congr _ (fun j _ => by grind)
    have e2 : sm (n + 1) (fun c => A 0 c * (- (sg c * det n (fun r k => A (r + 1) (skip c k))))) = - det (n + 1) A := by
      rw [e1]
      have := sm_lin (-1) 0 (fun c => A 0 c * (sg c * det n (fun r k => A (r + 1) (skip c k)))) (fun _ => 0) (n + 1)
      rw [show - sm (n + 1) (fun c => A 0 c * (sg c * det n (fun r k => A (r + 1) (skip c k)))) = -1 * sm (n + 1) (fun c => A 0 c * (sg c * det n (fun r k => A (r + 1) (skip c k)))) + 0 * sm (n + 1) (fun _ => 0) by grind, ← this]
      exact sm_congr _ (fun j _ => by grind)
    have c1 := comb (A 0) (fun c => sg c * det n (fun r k => A (r + 1) (skip c k))) (n + 1) (m 0) M (hm 0 (by omega)) hM h0.1 h0.2 b1 b2
    have c2 := comb (A 0) (fun c => - (sg c * det n (fun r k => A (r + 1) (skip c k)))) (n + 1) (m 0) M (hm 0 (by omega)) hM h0.1 h0.2 (fun c hc => by have := b1 c hc; grind) (fun c d hc hd => by have := b2 d c hd hc; grind)
    rw [← e1] at c1
    rw [e2] at c2
    rw [pr_head, hMe]
    exact ⟨c1, by grind⟩
end DM

/-! ### elimination by exact divisions tells the determinant -/
def dSub (A : Nat → Nat → Rat) (k i j : Nat) : Nat → Nat → Rat := fun r c => A (if r < k then r else i) (if c < k then c else j)
def dSch : Nat → (Nat → Nat → Rat) → Nat → Nat → Rat
  | 0, A => A
  | k + 1, A => dSch k (DM.schur A)
def dPvs : Nat → (Nat → Nat → Rat) → Rat
  | 0, _ => 1
  | k + 1, A => A 0 0 * dPvs k (DM.schur A)
def dPv : Nat → (Nat → Nat → Rat) → Prop
  | 0, _ => True
  | k + 1, A => A 0 0 ≠ 0 ∧ dPv k (DM.schur A)
theorem dSch_succ : ∀ k A, dSch (k + 1) A = DM.schur (dSch k A)
  | 0, _ => rfl
  | k + 1, A => dSch_succ k (DM.schur A)
theorem dPvs_succ : ∀ k A, dPvs (k + 1) A = dPvs k A * dSch k A 0 0
  | 0, A => by simp only [dPvs, dSch]; grind
  | k + 1, A => by rw [dPvs, dPvs_succ k (DM.schur A), dPvs, dSch]; grind
theorem dPv_succ : ∀ k A, dPv (k + 1) A ↔ dPv k A ∧ dSch k A 0 0 ≠ 0
  | 0, A => by simp [dPv, dSch]
  | k + 1, A => by rw [dPv, dPv_succ k (DM.schur A), dPv, dSch, and_assoc]
theorem dPvs_ne : ∀ k A, dPv k A → dPvs k A ≠ 0
  | 0, _, _ => by simp only [dPvs]; grind
  | k + 1, A, h => by
    have := dPvs_ne k _ h.2
    have := h.1
    rw [dPvs]; grind
theorem det_sub : ∀ (k : Nat) (A : Nat → Nat → Rat), dPv k A → ∀ i j, DM.det (k + 1) (dSub A k (k + i) (k + j)) = dPvs k A * dSch k A i j
  | 0, A, _, i, j => by
    simp only [DM.det, DM.sm, dSub, dPvs, dSch, DM.sg, Nat.not_lt_zero, if_false, Nat.zero_add]
    simp; grind
  | k + 1, A, h, i, j => by
    have e : DM.schur (dSub A (k + 1) (k + 1 + i) (k + 1 + j)) = dSub (DM.schur A) k (k + i) (k + j) := by
      funext r c
      have hA : ∀ a b a' b' : Nat, a = a' → b = b' → A a b = A a' b' := by intro a b a' b' e1 e2; rw [e1, e2]
      unfold DM.schur dSub
      simp only [Nat.zero_lt_succ, if_true]
      rw [hA (if r + 1 < k + 1 then r + 1 else k + 1 + i) (if c + 1 < k + 1 then c + 1 else k + 1 + j) ((if r < k then r else k + i) + 1) ((if c < k then c else k + j) + 1) (by split <;> split <;> omega) (by split <;> split <;> omega),
        hA (if r + 1 < k + 1 then r + 1 else k + 1 + i) 0 ((if r < k then r else k + i) + 1) 0 (by split <;> split <;> omega) rfl,
        hA 0 (if c + 1 < k + 1 then c + 1 else k + 1 + j) 0 ((if c < k then c else k + j) + 1) rfl (by split <;> split <;> omega)]
    have e0 : dSub A (k + 1) (k + 1 + i) (k + 1 + j) 0 0 = A 0 0 := by unfold dSub; simp
    rw [DM.det_step (k + 1) _ (by rw [e0]; exact h.1), e, e0, det_sub k _ h.2 i j, dPvs, dSch]
    grind
theorem det_split : ∀ (k n : Nat) (A : Nat → Nat → Rat), dPv k A → DM.det (k + n) A = dPvs k A * DM.det n (dSch k A)
  | 0, n, A, _ => by simp only [dPvs, dSch, Nat.zero_add]; grind
  | k + 1, n, A, h => by
    rw [show k + 1 + n = (k + n) + 1 by omega, DM.det_step _ A h.1, det_split k n _ h.2, dPvs, dSch]; grind
/-- one round -/
theorem det_round (k : Nat) (A : Nat → Nat → Rat) (h : dPv (k + 1) A) (i j : Nat) :
    DM.det (k + 2) (dSub A (k + 1) (k + 1 + i) (k + 1 + j)) * dPvs k A =
      DM.det (k + 1) (dSub A k (k + (i + 1)) (k + (j + 1))) * DM.det (k + 1) (dSub A k (k + 0) (k + 0)) - DM.det (k + 1) (dSub A k (k + (i + 1)) (k + 0)) * DM.det (k + 1) (dSub A k (k + 0) (k + (j + 1))) := by
  have hk := (dPv_succ k A).1 h
  rw [det_sub (k + 1) A h, det_sub k A hk.1, det_sub k A hk.1, det_sub k A hk.1, det_sub k A hk.1, dPvs_succ, dSch_succ]
  unfold DM.schur
  have := hk.2
  grind
theorem sm_sub (f : Nat → Rat) (h : ∀ c, 0 ≤ f c) (k j : Nat) : ∀ n, k ≤ j → j < n → DM.sm k f + f j ≤ DM.sm n f
  | 0, _, hj => by omega
  | n + 1, hk, hj => by
    have mono : ∀ n, k ≤ n → DM.sm k f ≤ DM.sm n f := by
      intro n
      induction n with
      | zero => intro hk; obtain rfl : k = 0 := by omega
                exact Rat.le_refl
      | succ n ih =>
        intro hk
        by_cases e : k = n + 1
        · rw [e]; exact Rat.le_refl
        · have := ih (by omega); have := h n; rw [DM.sm]; grind
    by_cases e : j = n
    · subst e; have := mono j hk; rw [DM.sm]; grind
    · have := sm_sub f h k j n hk (by omega); have := h n; rw [DM.sm]; grind
theorem pr_ge (f : Nat → Rat) (h : ∀ c, 1 ≤ f c) : ∀ n, 1 ≤ DM.pr n f
  | 0 => by simp only [DM.pr]; grind
  | n + 1 => by
    have a := pr_ge f h n
    have b := h n
    have := DM.mul_le (m := DM.pr n f) (by grind) b
    rw [DM.pr]; grind
theorem pr_sub (f : Nat → Rat) (h : ∀ c, 1 ≤ f c) (k i : Nat) : ∀ n, k ≤ i → i < n → DM.pr k f * f i ≤ DM.pr n f
  | 0, _, hj => by omega
  | n + 1, hk, hj => by
    have mono : ∀ n, k ≤ n → DM.pr k f ≤ DM.pr n f := by
      intro n
      induction n with
      | zero => intro hk; obtain rfl : k = 0 := by omega
                exact Rat.le_refl
      | succ n ih =>
        intro hk
        by_cases e : k = n + 1
        · rw [e]; exact Rat.le_refl
        · have a := ih (by omega)
          have := DM.mul_le (m := DM.pr n f) (by have := pr_ge f h n; grind) (h n)
          rw [DM.pr]; grind
    by_cases e : i = n
    · subst e
      have a := mono i hk
      have := DM.mul_le (m := f i) (by have := h i; grind) a
      rw [DM.pr]; grind
    · have a := pr_sub f h k i n hk (by omega)
      have := DM.mul_le (m := DM.pr n f) (by have := pr_ge f h n; grind) (h n)
      rw [DM.pr]; grind
theorem pr_same {f g : Nat → Rat} : ∀ k, (∀ r, r < k → f r = g r) → DM.pr k f = DM.pr k g
  | 0, _ => rfl
  | k + 1, h => by rw [DM.pr, DM.pr, pr_same k (fun r hr => h r (by omega)), h k (by omega)]
theorem sub_bound (n : Nat) (A : Nat → Nat → Rat) (m : Nat → Rat) (hm : ∀ c, 1 ≤ m c) (hA : ∀ r, r < n → DM.RowB n (A r) (m r)) (k i j : Nat) (hi : k ≤ i) (hin : i < n) (hj : k ≤ j) (hjn : j < n) :
    DM.det (k + 1) (dSub A k i j) ≤ DM.pr n m ∧ - DM.pr n m ≤ DM.det (k + 1) (dSub A k i j) := by
  have row : ∀ (a : Nat → Rat), DM.sm (k + 1) (fun c => DM.pp (a (if c < k then c else j))) ≤ DM.sm n (fun c => DM.pp (a c)) := fun a => by
    have := sm_sub (fun c => DM.pp (a c)) (fun c => DM.pp_nn _) k j n hj hjn
    rw [DM.sm, DM.sm_congr k (g := fun c => DM.pp (a c)) (fun c hc => by rw [if_pos hc]), if_neg (by omega)]
    exact this
  have b := DM.det_bound (k + 1) (dSub A k i j) (fun r => m (if r < k then r else i)) (fun r _ => by have := hm (if r < k then r else i); grind) (fun r hr => by
    have hr' : (if r < k then r else i) < n := by split <;> omega
    obtain ⟨h1, h2⟩ := hA _ hr'
    have r1 := row (A (if r < k then r else i))
    have r2 := row (fun c => - A (if r < k then r else i) c)
    exact ⟨Rat.le_trans r1 h1, Rat.le_trans r2 h2⟩)
  have p := pr_sub m hm k i n hi hin
  have e : DM.pr (k + 1) (fun r => m (if r < k then r else i)) = DM.pr k m * m i := by
    rw [DM.pr, pr_same k (g := m) (fun r hr => by rw [if_pos hr]), if_neg (by omega)]
  rw [e] at b
  grind
/-! the lists -/
def Dim (n : Nat) (M : List (List Int)) : Prop := M.length = n ∧ ∀ i, i < n → (M.getD i []).length = n
theorem dim_put {n : Nat} {M : List (List Int)} (h : Dim n M) (i j : Nat) (x : Int) : Dim n (dPut M i j x) :=
  ⟨by rw [dPut_lenB]; exact h.1, fun q hq => by rw [dPut_rowB]; exact h.2 q hq⟩
theorem dCol_at {n : Nat} (k : Nat) (b : Int) (i : Nat) (hi : i < n) (hik : k < i) : ∀ (m j : Nat) (M : List (List Int)), Dim n M → k < j → j + m = n →
    Dim n (dCol k b i m j M) ∧ ∀ p q, p < n → q < n → dAt (dCol k b i m j M) p q = if p = i ∧ j ≤ q then dCell M k b i q else dAt M p q
  | 0, j, M, hd, hj, hm => ⟨hd, fun p q _ hq => by rw [dCol, if_neg (by omega)]⟩
  | m + 1, j, M, hd, hj, hm => by
    have at_ := fun p q => dAt_dPutB (M := M) (i := i) (j := j) (by rw [hd.1]; exact hi) (by rw [hd.2 i hi]; omega) (dCell M k b i j) p q
    obtain ⟨h1, h2⟩ := dCol_at k b i hi hik m (j + 1) (dPut M i j (dCell M k b i j)) (dim_put hd i j _) (by omega) (by omega)
    refine ⟨h1, fun p q hp hq => ?_⟩
    rw [dCol, h2 p q hp hq]
    by_cases e : p = i ∧ j + 1 ≤ q
    · rw [if_pos e, if_pos (by omega)]
      generalize dCell M k b i j = x at at_ ⊢
      unfold dCell
      rw [at_, at_, at_, at_, if_neg (by omega), if_neg (by omega), if_neg (by omega), if_neg (by omega)]
    · rw [if_neg e, at_]
      by_cases e2 : p = i ∧ q = j
      · rw [if_pos e2, if_pos (by omega), e2.2]
      · rw [if_neg e2, if_neg (by omega)]
theorem dRow_at {n : Nat} (k : Nat) (b : Int) (hk : k < n) : ∀ (m i : Nat) (M : List (List Int)), Dim n M → k < i → i + m = n →
    Dim n (dRow n k b m i M) ∧ ∀ p q, p < n → q < n → dAt (dRow n k b m i M) p q = if i ≤ p ∧ k < q then dCell M k b p q else dAt M p q
  | 0, i, M, hd, hi, hm => ⟨hd, fun p q hp _ => by rw [dRow, if_neg (by omega)]⟩
  | m + 1, i, M, hd, hi, hm => by
    obtain ⟨c1, c2⟩ := dCol_at k b i (by omega) hi (n - (k + 1)) (k + 1) M hd (by omega) (by omega)
    obtain ⟨h1, h2⟩ := dRow_at k b hk m (i + 1) _ c1 (by omega) (by omega)
    refine ⟨h1, fun p q hp hq => ?_⟩
    rw [dRow, h2 p q hp hq]
    by_cases e : i + 1 ≤ p ∧ k < q
    · rw [if_pos e, if_pos (by omega)]
      unfold dCell
      rw [c2 p q hp hq, c2 k k hk hk, c2 p k hp hk, c2 k q hk hq, if_neg (by omega), if_neg (by omega), if_neg (by omega), if_neg (by omega)]
    · rw [if_neg e, c2 p q hp hq]
      by_cases e2 : p = i ∧ k + 1 ≤ q
      · rw [if_pos e2, if_pos (by omega), e2.1]
      · rw [if_neg e2, if_neg (by omega)]
theorem dFind_at (M : List (List Int)) (k : Nat) : ∀ (m i : Nat), i ≤ dFind M k m i ∧ dFind M k m i ≤ i + m ∧ (∀ p, i ≤ p → p < dFind M k m i → dAt M p k = 0) ∧ (dFind M k m i < i + m → dAt M (dFind M k m i) k ≠ 0)
  | 0, i => ⟨Nat.le_refl _, Nat.le_refl _, fun p h1 h2 => by rw [dFind] at h2; omega, fun h => by rw [dFind] at h; omega⟩
  | m + 1, i => by
    rw [dFind]
    by_cases e : dAt M i k = 0
    · rw [if_pos e]
      obtain ⟨h1, h2, h3, h4⟩ := dFind_at M k m (i + 1)
      refine ⟨by omega, by omega, fun p a b => ?_, fun h => h4 (by omega)⟩
      by_cases q : p = i
      · rw [q]; exact e
      · exact h3 p (by omega) b
    · rw [if_neg e]
      exact ⟨Nat.le_refl _, by omega, fun p a b => by omega, fun _ => e⟩
theorem dSwap_at {n : Nat} {M : List (List Int)} (h : Dim n M) {i k : Nat} (hi : i < n) (hk : k < n) : Dim n (dSwap M i k) ∧ ∀ p q, dAt (dSwap M i k) p q = dAt M (if p = k then i else if p = i then k else p) q := by
  have key : ∀ p, (dSwap M i k).getD p [] = M.getD (if p = k then i else if p = i then k else p) [] := by
    intro p
    have hl := h.1
    unfold dSwap
    simp only [List.getD_eq_getElem?_getD, List.getElem?_set, List.length_set]
    by_cases e : k = p
    · subst e; rw [if_pos rfl, if_pos (by omega), if_pos rfl]; rfl
    · have e' : ¬ p = k := fun z => e z.symm
      rw [if_neg e, if_neg e']
      by_cases e2 : i = p
      · subst e2; rw [if_pos rfl, if_pos (by omega), if_pos rfl]; rfl
      · have e2' : ¬ p = i := fun z => e2 z.symm
        rw [if_neg e2, if_neg e2']
  refine ⟨⟨by unfold dSwap; simp; exact h.1, fun p hp => by rw [key]; exact h.2 _ (by split; exact hi; split; exact hk; exact hp)⟩, fun p q => ?_⟩
  unfold dAt; rw [key]
def rw2 (A : Nat → Nat → Rat) (k i : Nat) : Nat → Nat → Rat := fun r c => A (if r = k then i else if r = i then k else r) c
theorem det_rw2 (n : Nat) (A : Nat → Nat → Rat) (k i : Nat) (h : k < i) (hi : i < n) : DM.det n (rw2 A k i) = - DM.det n A := by
  rw [← DM.det_swapr n A k i h hi]
  refine DM.det_congr n (fun r c _ _ => ?_)
  unfold rw2
  by_cases e : r = k
  · rw [if_pos e, if_pos e]
  · by_cases e2 : r = i
    · rw [if_neg e, if_pos e2, if_neg e, if_pos e2]
    · rw [if_neg e, if_neg e2, if_neg e, if_neg e2]
theorem sub_rw2 (A : Nat → Nat → Rat) (k i p q : Nat) (h : k ≤ i) (_ : k ≤ p) : DM.det (k + 1) (dSub (rw2 A k i) k p q) = DM.det (k + 1) (dSub A k (if p = k then i else if p = i then k else p) q) := by
  refine DM.det_congr _ (fun r c hr hc => ?_)
  unfold dSub rw2
  by_cases e : r < k
  · rw [if_pos e, if_neg (by omega), if_neg (by omega), if_pos e]
  · rw [if_neg e, if_neg e]
theorem pv_rw2 (A : Nat → Nat → Rat) (i : Nat) : ∀ k B, k ≤ i → (∀ r c, r < k → A r c = B r c) → dPv k A → dPv k B ∧ dPvs k B = dPvs k A := by
  intro k
  induction k generalizing A i with
  | zero => intro B _ _ _; exact ⟨trivial, rfl⟩
  | succ k ih =>
    intro B hi h hp
    have e0 := h 0 0 (by omega)
    obtain ⟨a, b⟩ := ih (DM.schur A) k (DM.schur B) (Nat.le_refl _) (fun r c hr => by unfold DM.schur; rw [h (r + 1) (c + 1) (by omega), h (r + 1) 0 (by omega), h 0 (c + 1) (by omega), e0]) hp.2
    exact ⟨⟨by rw [← e0]; exact hp.1, a⟩, by rw [dPvs, dPvs, b, e0]⟩
/-- what the rows' bounds owe -/
structure DB (n : Nat) (A : Nat → Nat → Rat) (m : Nat → Rat) : Prop where
  int : ∀ r c, DM.IsI (A r c)
  one : ∀ c, 1 ≤ m c
  row : ∀ r, r < n → DM.RowB n (A r) (m r)
  top : DM.pr n m ≤ 2147483647
theorem pr_rw2 (m : Nat → Rat) (k i : Nat) (h : k < i) : ∀ n, i < n → DM.pr n (fun r => m (if r = k then i else if r = i then k else r)) = DM.pr n m := by
  have one : ∀ (f g : Nat → Rat) (i : Nat) (n : Nat), i < n → (∀ r, r < n → r ≠ i → f r = g r) → DM.pr n f * g i = DM.pr n g * f i := by
    intro f g i n
    induction n with
    | zero => intro h; omega
    | succ n ih =>
      intro hi h
      rw [DM.pr, DM.pr]
      by_cases e : i = n
      · subst e
        rw [pr_same i (f := f) (g := g) (fun r hr => h r (by omega) (by omega))]; grind
      · have := ih (by omega) (fun r hr hne => h r (by omega) hne)
        have e2 := h n (by omega) (fun z => e z.symm)
        rw [e2]; grind
  intro n
  induction n with
  | zero => intro h; omega
  | succ n ih =>
    intro hi
    rw [DM.pr, DM.pr]
    by_cases e : i = n
    · subst e
      rw [if_neg (by omega), if_pos rfl]
      have h1 := one (fun r => m (if r = k then i else if r = i then k else r)) m k i h (fun r hr hne => by rw [if_neg hne, if_neg (by omega)])
      simp only [if_true] at h1
      exact h1
    · rw [ih (by omega), if_neg (by omega), if_neg (by omega)]
theorem db_rw2 {n : Nat} {A : Nat → Nat → Rat} {m : Nat → Rat} (h : DB n A m) (k i : Nat) (hk : k < i) (hi : i < n) : DB n (rw2 A k i) (fun r => m (if r = k then i else if r = i then k else r)) :=
  ⟨fun r c => h.int _ c, fun c => h.one _, fun r hr => h.row _ (by split; exact hi; split; omega; exact hr), by rw [pr_rw2 m k i hk n hi]; exact h.top⟩
theorem sub_bd {n : Nat} {A : Nat → Nat → Rat} {m : Nat → Rat} (h : DB n A m) {k i j : Nat} (hi : k ≤ i) (hin : i < n) (hj : k ≤ j) (hjn : j < n) {z : Int} (hz : DM.det (k + 1) (dSub A k i j) = (z : Rat)) : -2147483647 ≤ z ∧ z ≤ 2147483647 := by
  have := sub_bound n A m h.one h.row k i j hi hin hj hjn
  have t := h.top
  rw [hz] at this
  have a : (z : Rat) ≤ ((2147483647 : Int) : Rat) := by have e : ((2147483647 : Int) : Rat) = 2147483647 := rfl
                                                        rw [e]; grind
  have b : ((-2147483647 : Int) : Rat) ≤ (z : Rat) := by have e : ((-2147483647 : Int) : Rat) = -2147483647 := rfl
                                                         rw [e]; grind
  exact ⟨Rat.intCast_le_intCast.1 b, Rat.intCast_le_intCast.1 a⟩
/-- the table of the k-th round -/
def Tab (n : Nat) (A : Nat → Nat → Rat) (k : Nat) (M : List (List Int)) : Prop := Dim n M ∧ ∀ i j, k ≤ i → i < n → k ≤ j → j < n → DM.det (k + 1) (dSub A k i j) = (dAt M i j : Rat)
theorem mul_bd {a b : Int} (h1 : -2147483647 ≤ a ∧ a ≤ 2147483647) (h2 : -2147483647 ≤ b ∧ b ≤ 2147483647) : -4611686014132420609 ≤ a * b ∧ a * b ≤ 4611686014132420609 := by
  have x1 : (2147483647 - a) * (2147483647 + b) ≥ 0 := Int.mul_nonneg (by omega) (by omega)
  have x2 : (2147483647 + a) * (2147483647 - b) ≥ 0 := Int.mul_nonneg (by omega) (by omega)
  have x3 : (2147483647 - a) * (2147483647 - b) ≥ 0 := Int.mul_nonneg (by omega) (by omega)
  have x4 : (2147483647 + a) * (2147483647 + b) ≥ 0 := Int.mul_nonneg (by omega) (by omega)
  constructor <;> grind
theorem cell_eq {n : Nat} {A : Nat → Nat → Rat} {m : Nat → Rat} (h : DB n A m) {k : Nat} {M : List (List Int)} (ht : Tab n A k M) {b : Int} (hp : dPv k A) (hb : (b : Rat) = dPvs k A) (hkn : k < n) (h0 : dAt M k k ≠ 0) {i j : Nat} (hi : k < i) (hin : i < n) (hj : k < j) (hjn : j < n) :
    dPv (k + 1) A ∧ DM.det (k + 2) (dSub A (k + 1) i j) = (dCell M k b i j : Rat) := by
  have tkk := ht.2 k k (Nat.le_refl _) hkn (Nat.le_refl _) hkn
  have tij := ht.2 i j (by omega) hin (by omega) hjn
  have tik := ht.2 i k (by omega) hin (Nat.le_refl _) hkn
  have tkj := ht.2 k j (Nat.le_refl _) hkn (by omega) hjn
  have hne : dSch k A 0 0 ≠ 0 := by
    intro e
    have := det_sub k A hp 0 0
    simp only [Nat.add_zero] at this
    rw [e, tkk] at this
    have z : (dAt M k k : Rat) = ((0 : Int) : Rat) := by rw [this]; exact Rat.mul_zero _
    exact h0 (Rat.intCast_inj.1 z)
  have hp1 := (dPv_succ k A).2 ⟨hp, hne⟩
  refine ⟨hp1, ?_⟩
  obtain ⟨z, hz⟩ := DM.det_int (k + 2) (dSub A (k + 1) i j) (fun r c _ _ => h.int _ _)
  have r := det_round k A hp1 (i - (k + 1)) (j - (k + 1))
  rw [show k + 1 + (i - (k + 1)) = i by omega, show k + 1 + (j - (k + 1)) = j by omega, show k + (i - (k + 1) + 1) = i by omega, show k + (j - (k + 1) + 1) = j by omega] at r
  simp only [Nat.add_zero] at r
  rw [hz, tkk, tij, tik, tkj, ← hb, ← Rat.intCast_mul, ← Rat.intCast_mul, ← Rat.intCast_mul, ← Rat.intCast_sub] at r
  have r' := Rat.intCast_inj.1 r
  have b1 := mul_bd (sub_bd h (by omega) hin (by omega) hjn tij) (sub_bd h (Nat.le_refl _) hkn (Nat.le_refl _) hkn tkk)
  have b2 := mul_bd (sub_bd h (by omega) hin (Nat.le_refl _) hkn tik) (sub_bd h (Nat.le_refl _) hkn (by omega) hjn tkj)
  have bz := sub_bd (k := k + 1) h (by omega) hin (by omega) hjn hz
  have hb0 : b ≠ 0 := by
    intro e
    have := dPvs_ne k A hp
    rw [← hb, e] at this
    exact this rfl
  rw [hz]
  congr 1
  unfold dCell
  rw [wrap64_id (n := dAt M i j * dAt M k k) (by omega) (by omega), wrap64_id (n := dAt M i k * dAt M k j) (by omega) (by omega), wrap64_id (n := dAt M i j * dAt M k k - dAt M i k * dAt M k j) (by omega) (by omega), ← r', Int.mul_tdiv_cancel _ hb0, wrap64_id (by omega) (by omega)]
theorem run_eq (n : Nat) (A0 : Nat → Nat → Rat) (z : Int) (hz : DM.det n A0 = (z : Rat)) (hzb : -2147483647 ≤ z ∧ z ≤ 2147483647) : ∀ (l k : Nat) (A : Nat → Nat → Rat) (m : Nat → Rat) (M : List (List Int)) (b s : Int), k + l = n → DB n A m → (k < n → Tab n A k M) → dPv k A → (b : Rat) = dPvs k A → (s = 1 ∨ s = -1) → (s : Rat) * DM.det n A = DM.det n A0 → dRun n l k M b s = z
  | 0, k, A, m, M, b, s, hk, hA, ht, hp, hb, hs, hd => by
    have e := det_split k 0 A hp
    rw [hk] at e
    rw [dRun]
    have e2 : DM.det 0 (dSch k A) = 1 := rfl
    rw [e2, Rat.mul_one, ← hb] at e
    rw [e, hz, ← Rat.intCast_mul] at hd
    have := Rat.intCast_inj.1 hd
    rw [this, wrap64_id (by omega) (by omega)]
  | l + 1, k, A, m, M, b, s, hk, hA, ht, hp, hb, hs, hd => by
    have hkn : k < n := by omega
    have ht := ht hkn
    obtain ⟨f1, f2, f3, f4⟩ := dFind_at M k (n - k) k
    have swrap : wrap64 (-s) = -s := wrap64_id (n := -s) (by rcases hs with e | e <;> subst e <;> decide) (by rcases hs with e | e <;> subst e <;> decide)
    have next : ∀ (A : Nat → Nat → Rat) (m : Nat → Rat) (M : List (List Int)) (s : Int), DB n A m → Tab n A k M → dPv k A → (b : Rat) = dPvs k A → dAt M k k ≠ 0 → (s = 1 ∨ s = -1) → (s : Rat) * DM.det n A = DM.det n A0 → dRun n l (k + 1) (dRow n k b (n - (k + 1)) (k + 1) M) (dAt (dRow n k b (n - (k + 1)) (k + 1) M) k k) s = z := by
      intro A m M s hA ht hp hb h0 hs hd
      obtain ⟨r1, r2⟩ := dRow_at k b hkn (n - (k + 1)) (k + 1) M ht.1 (by omega) (by omega)
      have tkk := ht.2 k k (Nat.le_refl _) hkn (Nat.le_refl _) hkn
      have hpk := det_sub k A hp 0 0
      simp only [Nat.add_zero] at hpk
      rw [tkk] at hpk
      have hne : dSch k A 0 0 ≠ 0 := by
        intro e
        rw [e] at hpk
        have zz : (dAt M k k : Rat) = ((0 : Int) : Rat) := by rw [hpk]; exact Rat.mul_zero _
        exact h0 (Rat.intCast_inj.1 zz)
      refine run_eq n A0 z hz hzb l (k + 1) A m _ _ s (by omega) hA (fun hk1 => ⟨r1, fun i j hi hin hj hjn => ?_⟩) ((dPv_succ k A).2 ⟨hp, hne⟩) ?_ hs hd
      · rw [r2 i j hin hjn, if_pos ⟨hi, hj⟩]
        exact (cell_eq hA ht hp hb hkn h0 hi hin hj hjn).2
      · rw [r2 k k hkn hkn, if_neg (by omega), dPvs_succ, hpk]
    rw [dRun]
    by_cases e : dFind M k (n - k) k = n
    · rw [if_pos e]
      have col0 : DM.det n A = 0 := by
        have sp := det_split k (l + 1) A hp
        rw [hk] at sp
        rw [sp, DM.det_zeroc (l + 1) _ 0 (by omega) (fun r hr => ?_), Rat.mul_zero]
        have t := ht.2 (k + r) k (by omega) (by omega) (Nat.le_refl _) hkn
        have q := det_sub k A hp r 0
        simp only [Nat.add_zero] at q
        rw [t, f3 (k + r) (by omega) (by omega)] at q
        have := dPvs_ne k A hp
        have q' : dPvs k A * dSch k A r 0 = 0 := q.symm
        grind
      rw [col0, Rat.mul_zero, hz] at hd
      have : ((0 : Int) : Rat) = (z : Rat) := hd
      exact Rat.intCast_inj.1 this
    · rw [if_neg e]
      have hne := f4 (by omega)
      by_cases e2 : dFind M k (n - k) k = k
      · rw [if_pos e2, if_pos e2]
        rw [e2] at hne
        exact next A m M s hA ht hp hb hne hs hd
      · rw [if_neg e2, if_neg e2, swrap]
        generalize hi : dFind M k (n - k) k = i at f1 f2 hne e e2
        have hki : k < i := by omega
        have hin : i < n := by omega
        obtain ⟨w1, w2⟩ := dSwap_at ht.1 hin hkn
        obtain ⟨p1, p2⟩ := pv_rw2 A i k (rw2 A k i) (by omega) (fun r c hr => by unfold rw2; rw [if_neg (by omega), if_neg (by omega)]) hp
        refine next (rw2 A k i) _ (dSwap M i k) (-s) (db_rw2 hA k i hki hin) ⟨w1, fun p q hp hpn hq hqn => ?_⟩ p1 (by rw [p2]; exact hb) ?_ (by omega) ?_
        · rw [sub_rw2 A k i p q (by omega) hp, w2]
          exact ht.2 _ q (by split; omega; split; omega; exact hp) (by split; omega; split; omega; exact hpn) hq hqn
        · rw [w2, if_pos rfl]; exact hne
        · rw [det_rw2 n A k i hki hin, Rat.intCast_neg]
          grind
theorem detF_eq (n : Nat) (hn : 0 < n) (A : Nat → Nat → Int) (M : List (List Int)) (hM : Dim n M) (hA : ∀ i j, i < n → j < n → dAt M i j = A i j) (m : Nat → Rat) (h : DB n (fun r c => (A r c : Rat)) m) : ∃ z : Int, detF M = some z ∧ DM.det n (fun r c => (A r c : Rat)) = (z : Rat) ∧ -2147483647 ≤ z ∧ z ≤ 2147483647 := by
  obtain ⟨z, hz⟩ := DM.det_int n (fun r c => (A r c : Rat)) (fun r c _ _ => ⟨_, rfl⟩)
  have zb : -2147483647 ≤ z ∧ z ≤ 2147483647 := by
    have := DM.det_bound n (fun r c => (A r c : Rat)) m (fun r _ => by have := h.one r; grind) h.row
    have t := h.top
    rw [hz] at this
    have a : (z : Rat) ≤ ((2147483647 : Int) : Rat) := by have e : ((2147483647 : Int) : Rat) = 2147483647 := rfl
                                                          rw [e]; grind
    have b : ((-2147483647 : Int) : Rat) ≤ (z : Rat) := by have e : ((-2147483647 : Int) : Rat) = -2147483647 := rfl
                                                           rw [e]; grind
    exact ⟨Rat.intCast_le_intCast.1 b, Rat.intCast_le_intCast.1 a⟩
  refine ⟨z, ?_, hz, zb⟩
  unfold detF
  rw [if_pos]
  · congr 1
    rw [hM.1]
    refine run_eq n _ z hz zb n 0 (fun r c => (A r c : Rat)) m M 1 1 (by omega) h (fun _ => ⟨hM, fun i j _ hi _ hj => ?_⟩) trivial rfl (Or.inl rfl) (by rw [show ((1 : Int) : Rat) = 1 from rfl, Rat.one_mul])
    rw [hA i j hi hj]
    simp only [DM.det, DM.sm, dSub, DM.sg, Nat.not_lt_zero, if_false]
    simp; grind
  · refine ⟨fun e => by have := hM.1; rw [e] at this; simp at this; omega, fun R hR => ?_⟩
    obtain ⟨j, hj, rfl⟩ := List.mem_iff_getElem.1 hR
    have h1 := hM.1
    have h2 := hM.2 j (by omega)
    rw [List.getD_eq_getElem?_getD, List.getElem?_eq_getElem hj] at h2
    simp only [Option.getD_some] at h2
    omega

/-! ### the table of a net as numbers: what its determinants are -/
def bI (p : Prop) [Decidable p] : Int := if p then 1 else 0
def wd (w : Wr) (i j : Nat) : Int := bI (w.f0 = i ∧ w.f0 = j) + bI (w.f1 = i ∧ w.f1 = j) - bI (w.f0 = i ∧ w.f1 = j) - bI (w.f1 = i ∧ w.f0 = j)
def Lf : List Wr → Nat → Nat → Int
  | [], _, _ => 0
  | w :: t, i, j => wd w i j + Lf t i j
def dg : List Wr → Nat → Nat
  | [], _ => 0
  | w :: t, i => (if w.f0 = i then 1 else 0) + (if w.f1 = i then 1 else 0) + dg t i
theorem bI_bd (p : Prop) [Decidable p] : 0 ≤ bI p ∧ bI p ≤ 1 := by unfold bI; split <;> omega
theorem wd_bd (w : Wr) (i j : Nat) : -2 ≤ wd w i j ∧ wd w i j ≤ 2 := by
  unfold wd
  have := bI_bd (w.f0 = i ∧ w.f0 = j); have := bI_bd (w.f1 = i ∧ w.f1 = j); have := bI_bd (w.f0 = i ∧ w.f1 = j); have := bI_bd (w.f1 = i ∧ w.f0 = j)
  omega
theorem Lf_bd : ∀ (t : List Wr) (i j : Nat), -(2 * (t.length : Int)) ≤ Lf t i j ∧ Lf t i j ≤ 2 * (t.length : Int)
  | [], _, _ => by simp [Lf]
  | w :: t, i, j => by
    have := Lf_bd t i j; have := wd_bd w i j
    simp only [Lf, List.length_cons]; omega
theorem dAt_put {m : Nat} {M : List (List Int)} (hd : Dim m M) {i j : Int} (hi0 : 0 ≤ i) (hi : i < m) (hj0 : 0 ≤ j) (hj : j < m) (x : Int) : Dim m (M.set i.toNat ((rd_L4 M i).set j.toNat x)) ∧ ∀ p q : Nat, dAt (M.set i.toNat ((rd_L4 M i).set j.toNat x)) p q = if i = p ∧ j = q then x else dAt M p q := by
  have h := dAt_dPutB (M := M) (i := i.toNat) (j := j.toNat) (by rw [hd.1]; omega) (by rw [hd.2 _ (by omega)]; omega) x
  refine ⟨dim_put hd i.toNat j.toNat x, fun p q => ?_⟩
  have := h p q
  unfold dPut at this
  unfold rd_L4
  rw [this]
  by_cases e : i = p ∧ j = q
  · rw [if_pos e, if_pos (by omega)]
  · rw [if_neg e, if_neg (by omega)]
theorem up_at {m : Nat} {M : List (List Int)} (hd : Dim m M) {i j : Int} (hi0 : 0 ≤ i) (hi : i < m) (hj0 : 0 ≤ j) (hj : j < m) (hb : ∀ p q : Nat, -1000 ≤ dAt M p q ∧ dAt M p q ≤ 1000) : Dim m (upAt M i j) ∧ ∀ p q : Nat, dAt (upAt M i j) p q = dAt M p q + bI (i = p ∧ j = q) := by
  obtain ⟨h1, h2⟩ := dAt_put hd hi0 hi hj0 hj (wrap64 ((rd (rd_L4 M i) j) + 1))
  refine ⟨h1, fun p q => ?_⟩
  have b := hb i.toNat j.toNat
  unfold upAt
  rw [h2]
  unfold bI
  split
  · rename_i e
    have e1 : rd (rd_L4 M i) j = dAt M p q := by
      obtain ⟨rfl, rfl⟩ := e; unfold rd rd_L4 dAt; rw [Int.toNat_natCast, Int.toNat_natCast]
    rw [e1, wrap64_id (by have := hb p q; omega) (by have := hb p q; omega)]
  · omega
theorem dn_at {m : Nat} {M : List (List Int)} (hd : Dim m M) {i j : Int} (hi0 : 0 ≤ i) (hi : i < m) (hj0 : 0 ≤ j) (hj : j < m) (hb : ∀ p q : Nat, -1000 ≤ dAt M p q ∧ dAt M p q ≤ 1000) : Dim m (dnAt M i j) ∧ ∀ p q : Nat, dAt (dnAt M i j) p q = dAt M p q - bI (i = p ∧ j = q) := by
  obtain ⟨h1, h2⟩ := dAt_put hd hi0 hi hj0 hj (wrap64 ((rd (rd_L4 M i) j) - 1))
  refine ⟨h1, fun p q => ?_⟩
  unfold dnAt
  rw [h2]
  unfold bI
  split
  · rename_i e
    have e1 : rd (rd_L4 M i) j = dAt M p q := by
      obtain ⟨rfl, rfl⟩ := e; unfold rd rd_L4 dAt; rw [Int.toNat_natCast, Int.toNat_natCast]
    rw [e1, wrap64_id (by have := hb p q; omega) (by have := hb p q; omega)]
  · omega
theorem step_atL {m : Nat} {M : List (List Int)} (hd : Dim m M) {w : Wr} (h0 : 0 ≤ w.f0) (h1 : 0 ≤ w.f1) (hb : ∀ p q : Nat, -900 ≤ dAt M p q ∧ dAt M p q ≤ 900) : Dim m (wireStep (m : Int) M w) ∧ ∀ p q : Nat, p < m → q < m → dAt (wireStep (m : Int) M w) p q = dAt M p q + wd w p q := by
  have B := fun (p : Prop) [Decidable p] => bI_bd p
  have off0 : ∀ p q : Nat, p < m → q < m → ¬ w.f0 < m → bI (w.f0 = p ∧ w.f0 = q) = 0 ∧ bI (w.f0 = p ∧ w.f1 = q) = 0 ∧ bI (w.f1 = p ∧ w.f0 = q) = 0 := fun p q hp hq a => by
    unfold bI; rw [if_neg (by omega), if_neg (by omega), if_neg (by omega)]; exact ⟨rfl, rfl, rfl⟩
  have off1 : ∀ p q : Nat, p < m → q < m → ¬ w.f1 < m → bI (w.f1 = p ∧ w.f1 = q) = 0 ∧ bI (w.f0 = p ∧ w.f1 = q) = 0 ∧ bI (w.f1 = p ∧ w.f0 = q) = 0 := fun p q hp hq a => by
    unfold bI; rw [if_neg (by omega), if_neg (by omega), if_neg (by omega)]; exact ⟨rfl, rfl, rfl⟩
  unfold wireStep
  by_cases b : w.f1 < m
  · rw [if_pos b]
    by_cases a : w.f0 < m
    · rw [if_pos a]
      obtain ⟨d1, e1⟩ := up_at hd h0 a h0 a (fun p q => by have := hb p q; omega)
      have b1 : ∀ p q : Nat, -901 ≤ dAt (upAt M w.f0 w.f0) p q ∧ dAt (upAt M w.f0 w.f0) p q ≤ 901 := fun p q => by
        have := hb p q; have := B (w.f0 = p ∧ w.f0 = q); rw [e1]; omega
      obtain ⟨d2, e2⟩ := up_at d1 h1 b h1 b (fun p q => by have := b1 p q; omega)
      have b2 : ∀ p q : Nat, -902 ≤ dAt (upAt (upAt M w.f0 w.f0) w.f1 w.f1) p q ∧ dAt (upAt (upAt M w.f0 w.f0) w.f1 w.f1) p q ≤ 902 := fun p q => by
        have := b1 p q; have := B (w.f1 = p ∧ w.f1 = q); rw [e2]; omega
      obtain ⟨d3, e3⟩ := dn_at d2 h0 a h1 b (fun p q => by have := b2 p q; omega)
      have b3 : ∀ p q : Nat, -903 ≤ dAt (dnAt (upAt (upAt M w.f0 w.f0) w.f1 w.f1) w.f0 w.f1) p q ∧ dAt (dnAt (upAt (upAt M w.f0 w.f0) w.f1 w.f1) w.f0 w.f1) p q ≤ 903 := fun p q => by
        have := b2 p q; have := B (w.f0 = p ∧ w.f1 = q); rw [e3]; omega
      obtain ⟨d4, e4⟩ := dn_at d3 h1 b h0 a (fun p q => by have := b3 p q; omega)
      refine ⟨d4, fun p q _ _ => ?_⟩
      rw [e4, e3, e2, e1]
      unfold wd; omega
    · rw [if_neg a]
      obtain ⟨d1, e1⟩ := up_at hd h1 b h1 b (fun p q => by have := hb p q; omega)
      refine ⟨d1, fun p q hp hq => ?_⟩
      obtain ⟨o1, o2, o3⟩ := off0 p q hp hq a
      rw [e1]; unfold wd; omega
  · rw [if_neg b]
    by_cases a : w.f0 < m
    · rw [if_pos a]
      obtain ⟨d1, e1⟩ := up_at hd h0 a h0 a (fun p q => by have := hb p q; omega)
      refine ⟨d1, fun p q hp hq => ?_⟩
      obtain ⟨o1, o2, o3⟩ := off1 p q hp hq b
      rw [e1]; unfold wd; omega
    · rw [if_neg a]
      refine ⟨hd, fun p q hp hq => ?_⟩
      obtain ⟨o1, o2, o3⟩ := off1 p q hp hq b
      obtain ⟨o4, _, _⟩ := off0 p q hp hq a
      unfold wd; omega
theorem dAt_out {m : Nat} {M : List (List Int)} (hd : Dim m M) (p q : Nat) (h : ¬ (p < m ∧ q < m)) : dAt M p q = 0 := by
  unfold dAt
  by_cases e : p < m
  · rw [List.getD_eq_getElem?_getD, List.getElem?_eq_none (by rw [hd.2 p e]; omega)]; rfl
  · have : M.getD p [] = [] := by rw [List.getD_eq_getElem?_getD, List.getElem?_eq_none (by rw [hd.1]; omega)]; rfl
    rw [this]; rfl
theorem fold_at {m : Nat} : ∀ (t : List Wr) (M : List (List Int)) (k : Int), 0 ≤ k → k + 2 * (t.length : Int) ≤ 900 → (∀ w ∈ t, 0 ≤ w.f0 ∧ 0 ≤ w.f1) → Dim m M → (∀ p q : Nat, p < m → q < m → -k ≤ dAt M p q ∧ dAt M p q ≤ k) →
    Dim m (t.foldl (wireStep (m : Int)) M) ∧ ∀ p q : Nat, p < m → q < m → dAt (t.foldl (wireStep (m : Int)) M) p q = dAt M p q + Lf t p q
  | [], M, _, _, _, _, hd, _ => ⟨hd, fun p q _ _ => by simp [Lf]⟩
  | w :: t, M, k, hk, hl, hw, hd, hb => by
    simp only [List.length_cons] at hl
    have hw0 := hw w List.mem_cons_self
    have hb' : ∀ p q : Nat, -900 ≤ dAt M p q ∧ dAt M p q ≤ 900 := fun p q => by
      by_cases e : p < m ∧ q < m
      · have := hb p q e.1 e.2; omega
      · rw [dAt_out hd p q e]; omega
    obtain ⟨d1, e1⟩ := step_atL hd hw0.1 hw0.2 hb'
    obtain ⟨d2, e2⟩ := fold_at t (wireStep (m : Int) M w) (k + 2) (by omega) (by omega) (fun x hx => hw x (List.mem_cons_of_mem _ hx)) d1 (fun p q hp hq => by
      have := hb p q hp hq; have := wd_bd w p q; rw [e1 p q hp hq]; omega)
    refine ⟨d2, fun p q hp hq => ?_⟩
    rw [List.foldl_cons, e2 p q hp hq, e1 p q hp hq, Lf]; omega
theorem lap_at {m : Nat} {ws : List Wr} (hl : ws.length ≤ 400) (hw : ∀ w ∈ ws, 0 ≤ w.f0 ∧ 0 ≤ w.f1) : Dim m (lap (m : Int) ws) ∧ ∀ p q : Nat, p < m → q < m → dAt (lap (m : Int) ws) p q = Lf ws p q := by
  have hd : Dim m (List.replicate (m : Int).toNat (Z (m : Int))) := ⟨by simp, fun i hi => by
    rw [List.getD_eq_getElem?_getD, List.getElem?_eq_getElem (by simpa using hi)]; simp [Z]⟩
  have h0 : ∀ p q : Nat, p < m → q < m → dAt (List.replicate (m : Int).toNat (Z (m : Int))) p q = 0 := fun p q hp hq => by
    have e : (List.replicate (m : Int).toNat (Z (m : Int))).getD p [] = Z (m : Int) := by
      rw [List.getD_eq_getElem?_getD, List.getElem?_eq_getElem (by simpa using hp)]; simp
    unfold dAt
    rw [e]
    unfold Z
    rw [List.getD_eq_getElem?_getD, List.getElem?_eq_getElem (by simpa using hq)]; simp
  obtain ⟨h1, h2⟩ := fold_at ws _ 0 (by omega) (by omega) hw hd (fun p q hp hq => by rw [h0 p q hp hq]; omega)
  refine ⟨h1, fun p q hp hq => ?_⟩
  unfold lap
  rw [h2 p q hp hq, h0 p q hp hq]; omega
/-! the rows' bounds -/
theorem rowB_add {n : Nat} {a b : Nat → Rat} {x y : Rat} (ha : DM.RowB n a x) (hb : DM.RowB n b y) : DM.RowB n (fun c => a c + b c) (x + y) := by
  obtain ⟨a1, a2⟩ := ha; obtain ⟨b1, b2⟩ := hb
  have go : ∀ u v : Nat → Rat, DM.sm n (fun c => DM.pp (u c + v c)) ≤ DM.sm n (fun c => DM.pp (u c)) + DM.sm n (fun c => DM.pp (v c)) := fun u v => by
    have h := DM.sm_le (f := fun c => DM.pp (u c + v c)) (g := fun c => 1 * DM.pp (u c) + 1 * DM.pp (v c)) n (fun c _ => by have := DM.pp_add (u c) (v c); grind)
    rw [DM.sm_lin] at h; grind
  have g1 := go a b
  have g2 := go (fun c => - a c) (fun c => - b c)
  have e : (fun c => DM.pp (-(a c + b c))) = fun c => DM.pp (- a c + - b c) := by funext c; congr 1; grind
  exact ⟨by grind, by rw [e]; grind⟩
theorem rowB_zero (n : Nat) : DM.RowB n (fun _ => 0) 0 := by
  have : DM.sm n (fun _ => DM.pp 0) = 0 := DM.sm_zero n (fun _ _ => by unfold DM.pp; split <;> rfl)
  have e : (fun _ : Nat => DM.pp (-0)) = fun _ => DM.pp 0 := by funext _; congr 1
  refine ⟨by rw [this]; exact Rat.le_refl, ?_⟩
  rw [e, this]; exact Rat.le_refl
/-- at most one place is 1, at most one is -1 -/
theorem rowB_two (n : Nat) (a b : Int) (h : a ≠ b) : DM.RowB n (fun c => ((bI (a = c) - bI (b = c) : Int) : Rat)) 1 := by
  have one : ∀ x : Int, DM.sm n (fun c => if x = c then (1 : Rat) else 0) ≤ 1 := fun x => by
    by_cases e : 0 ≤ x ∧ x < n
    · rw [DM.sm_one x.toNat n (by omega) (fun j hj hne => if_neg (by omega)), if_pos (by omega)]; exact Rat.le_refl
    · rw [DM.sm_zero n (fun j hj => if_neg (by omega))]; grind
  have go : ∀ x y : Int, x ≠ y → DM.sm n (fun c => DM.pp ((bI (x = c) - bI (y = c) : Int) : Rat)) ≤ 1 := fun x y hxy => by
    refine Rat.le_trans (DM.sm_le n (fun c _ => ?_)) (one x)
    unfold bI
    by_cases e : x = c
    · rw [if_pos e, if_pos e, if_neg (fun q => hxy (e.trans q.symm))]
      unfold DM.pp; split <;> decide
    · rw [if_neg e, if_neg e]
      by_cases e2 : y = c
      · rw [if_pos e2]; unfold DM.pp; split <;> grind
      · rw [if_neg e2]; unfold DM.pp; split <;> grind
  refine ⟨go a b h, ?_⟩
  have e : (fun c : Nat => DM.pp (-((bI (a = c) - bI (b = c) : Int) : Rat))) = fun c : Nat => DM.pp ((bI (b = c) - bI (a = c) : Int) : Rat) := by
    funext c; congr 1; rw [← Rat.intCast_neg]; congr 1; omega
  rw [e]; exact go b a (fun q => h q.symm)
theorem bI_and (p q : Prop) [Decidable p] [Decidable q] : bI (p ∧ q) = bI p * bI q := by
  unfold bI
  by_cases a : p <;> by_cases b : q <;> simp [a, b]
theorem wd_row (w : Wr) (_ : w.f0 ≠ w.f1) (r c : Nat) : wd w r c = bI (w.f0 = r) * (bI (w.f0 = c) - bI (w.f1 = c)) + bI (w.f1 = r) * (bI (w.f1 = c) - bI (w.f0 = c)) := by
  unfold wd
  rw [bI_and, bI_and, bI_and, bI_and]; grind
theorem rowB_lf (n : Nat) : ∀ (t : List Wr) (_ : ∀ w ∈ t, w.f0 ≠ w.f1) (r : Nat), DM.RowB n (fun c => (Lf t r c : Rat)) ((dg t r : Int) : Rat)
  | [], _, r => by simpa [Lf, dg] using rowB_zero n
  | w :: t, hw, r => by
    have ih := rowB_lf n t (fun x hx => hw x (List.mem_cons_of_mem _ hx)) r
    have h := hw w List.mem_cons_self
    have e : (fun c : Nat => (Lf (w :: t) r c : Rat)) = fun c => (((wd w r c : Int) : Rat) + (Lf t r c : Rat)) := by
      funext c; rw [Lf, Rat.intCast_add]
    have e2 : (((dg (w :: t) r : Nat) : Int) : Rat) = (((if w.f0 = r then 1 else 0) + (if w.f1 = r then 1 else 0) : Int) : Rat) + ((dg t r : Int) : Rat) := by
      rw [← Rat.intCast_add]; congr 1; rw [dg]; split <;> split <;> omega
    rw [e, e2]
    refine rowB_add ?_ ih
    by_cases e1 : w.f0 = r
    · rw [if_pos e1, if_neg (show ¬ w.f1 = r from fun q => h (e1.trans q.symm))]
      have := rowB_two n w.f0 w.f1 h
      refine cast ?_ this
      congr 1
      funext c; congr 1
      rw [wd_row w h]
      unfold bI
      rw [if_pos e1, if_neg (show ¬ w.f1 = r from fun q => h (e1.trans q.symm))]; omega
    · by_cases e3 : w.f1 = r
      · rw [if_neg e1, if_pos e3]
        have := rowB_two n w.f1 w.f0 (fun q => h q.symm)
        refine cast ?_ this
        congr 1
        funext c; congr 1
        rw [wd_row w h]
        unfold bI
        rw [if_neg e1, if_pos e3]; omega
      · rw [if_neg e1, if_neg e3]
        refine cast ?_ (rowB_zero n)
        congr 1
        funext c
        rw [wd_row w h]
        unfold bI
        rw [if_neg e1, if_neg e3]
        simp
theorem four_step (x : Nat) (h : 6 ≤ x) : (x + 1) * (x + 1) * (x + 1) * (x + 1) ≤ 2 * (x * x * x * x) := by
  have k2 := Nat.mul_le_mul (show 6 * (x + 1) ≤ 7 * x by omega) (show 6 * (x + 1) ≤ 7 * x by omega)
  have k3 := Nat.mul_le_mul k2 k2
  have k4 : 6 * (x + 1) * (6 * (x + 1)) * (6 * (x + 1) * (6 * (x + 1))) = 1296 * ((x + 1) * (x + 1) * (x + 1) * (x + 1)) := by
    generalize x + 1 = z; grind
  have k5 : 7 * x * (7 * x) * (7 * x * (7 * x)) = 2401 * (x * x * x * x) := by grind
  rw [k4, k5] at k3
  generalize (x + 1) * (x + 1) * (x + 1) * (x + 1) = a at *
  generalize x * x * x * x = b at *
  clear k2 k4 k5
  omega
theorem four (d : Nat) : (d + 1) * (d + 1) * (d + 1) * (d + 1) ≤ 42 * 2 ^ d := by
  by_cases h : d ≤ 5
  · match d, h with
    | 0, _ => decide
    | 1, _ => decide
    | 2, _ => decide
    | 3, _ => decide
    | 4, _ => decide
    | 5, _ => decide
  · obtain ⟨e, rfl⟩ : ∃ e, d = e + 5 := ⟨d - 5, by omega⟩
    clear h
    induction e with
    | zero => decide
    | succ e ih =>
      rw [show e + 1 + 5 = (e + 5) + 1 by omega, Nat.pow_succ]
      exact Nat.le_trans (four_step (e + 5 + 1) (by omega)) (Nat.le_trans (Nat.mul_le_mul_left 2 ih) (Nat.le_of_eq (by rw [Nat.mul_left_comm, Nat.mul_comm 2])))
def prN (t : List Wr) : Nat → Nat
  | 0 => 1
  | n + 1 => prN t n * (dg t n + 1)
def sdN (t : List Wr) : Nat → Nat
  | 0 => 0
  | n + 1 => sdN t n + dg t n
theorem prN_cast (t : List Wr) : ∀ n, DM.pr n (fun r => ((dg t r + 1 : Int) : Rat)) = ((prN t n : Int) : Rat)
  | 0 => rfl
  | n + 1 => by rw [DM.pr, prN_cast t n, ← Rat.intCast_mul]; congr 1
theorem prN_four (t : List Wr) : ∀ n, prN t n * prN t n * prN t n * prN t n ≤ 42 ^ n * 2 ^ sdN t n
  | 0 => by simp [prN, sdN]
  | n + 1 => by
    have h1 := prN_four t n
    have h2 := four (dg t n)
    rw [prN, sdN, Nat.pow_add, Nat.pow_succ]
    have e : prN t n * (dg t n + 1) * (prN t n * (dg t n + 1)) * (prN t n * (dg t n + 1)) * (prN t n * (dg t n + 1)) = (prN t n * prN t n * prN t n * prN t n) * ((dg t n + 1) * (dg t n + 1) * (dg t n + 1) * (dg t n + 1)) := by grind
    rw [e]
    have := Nat.mul_le_mul h1 h2
    refine Nat.le_trans this (Nat.le_of_eq ?_)
    grind
theorem sdN_le : ∀ (t : List Wr) (n : Nat), sdN t n ≤ 2 * t.length
  | [], n => by
    have : ∀ n, sdN [] n = 0 := fun n => by induction n with
      | zero => rfl
      | succ n ih => rw [sdN, ih]; rfl
    rw [this]; exact Nat.zero_le _
  | w :: t, n => by
    have h := sdN_le t n
    have e : ∀ n : Nat, sdN (w :: t) n = sdN t n + (if 0 ≤ w.f0 ∧ w.f0 < n then 1 else 0) + (if 0 ≤ w.f1 ∧ w.f1 < n then 1 else 0) := fun n => by
      induction n with
      | zero => simp only [sdN]; rw [if_neg (by omega), if_neg (by omega)]
      | succ n ih =>
        have c : ∀ v : Int, (if 0 ≤ v ∧ v < ((n + 1 : Nat) : Int) then 1 else 0) = (if 0 ≤ v ∧ v < (n : Int) then 1 else 0) + (if v = (n : Int) then 1 else 0) := fun v => by
          split <;> split <;> split <;> omega
        rw [sdN, sdN, ih, dg, c, c]
        omega
    rw [e, List.length_cons]
    split <;> split <;> omega
theorem prN_le (t : List Wr) (n : Nat) (hn : n ≤ 11) (ht : t.length ≤ 30) : prN t n ≤ 2147483647 := by
  have h := prN_four t n
  have hs := sdN_le t n
  have h1 : 42 ^ n ≤ 42 ^ 11 := Nat.pow_le_pow_right (by omega) hn
  have h2 : 2 ^ sdN t n ≤ 2 ^ 60 := Nat.pow_le_pow_right (by omega) (by omega)
  have h3 := Nat.le_trans h (Nat.mul_le_mul h1 h2)
  apply Decidable.byContradiction
  intro hc
  generalize prN t n = p at h3 hc
  have q : 2147483648 ≤ p := by omega
  have q2 := Nat.mul_le_mul q q
  have q3 := Nat.mul_le_mul q2 q
  have q4 := Nat.mul_le_mul q3 q
  have : (42 : Nat) ^ 11 * 2 ^ 60 < 2147483648 * 2147483648 * 2147483648 * 2147483648 := by decide
  omega
theorem db_lf {m : Nat} (hm : m ≤ 11) {ws : List Wr} (hl : ws.length ≤ 30) (hw : ∀ w ∈ ws, w.f0 ≠ w.f1) : DB m (fun r c => (Lf ws r c : Rat)) (fun r => ((dg ws r + 1 : Int) : Rat)) := by
  refine ⟨fun r c => ⟨_, rfl⟩, fun c => ?_, fun r _ => ?_, ?_⟩
  · have : ((1 : Int) : Rat) ≤ ((dg ws c + 1 : Int) : Rat) := Rat.intCast_le_intCast.2 (by omega)
    exact this
  · obtain ⟨h1, h2⟩ := rowB_lf m ws hw r
    have : ((dg ws r : Int) : Rat) ≤ ((dg ws r + 1 : Int) : Rat) := Rat.intCast_le_intCast.2 (by omega)
    exact ⟨Rat.le_trans h1 this, Rat.le_trans h2 this⟩
  · rw [prN_cast]
    have := prN_le ws m hm hl
    have : ((prN ws m : Int) : Rat) ≤ ((2147483647 : Int) : Rat) := Rat.intCast_le_intCast.2 (by omega)
    exact this
/-- one place of a row anew, by 0 or 1 -/
theorem rowB_put {n : Nat} {a : Nat → Rat} {x : Rat} (c : Nat) (y : Rat) (hy : 0 ≤ y ∧ y ≤ 1) (h : DM.RowB n a x) : DM.RowB n (fun k => if k = c then y else a k) (x + 1) := by
  obtain ⟨h1, h2⟩ := h
  have go : ∀ (u : Nat → Rat) (z : Rat), DM.pp z ≤ 1 → DM.sm n (fun k => DM.pp (if k = c then z else u k)) ≤ DM.sm n (fun k => DM.pp (u k)) + 1 := fun u z hz => by
    have e : (fun k => DM.pp (if k = c then z else u k)) = fun k => if k = c then DM.pp z else DM.pp (u k) := by funext k; split <;> rfl
    rw [e]
    by_cases hc : c < n
    · rw [DM.sm_setat _ _ _ n hc]; have := DM.pp_nn (u c); grind
    · rw [DM.sm_congr n (g := fun k => DM.pp (u k)) (fun j hj => if_neg (by omega))]; grind
  have g1 := go a y (by unfold DM.pp; split <;> grind)
  have g2 := go (fun k => - a k) (-y) (by unfold DM.pp; split <;> grind)
  have e : (fun k => DM.pp (-(if k = c then y else a k))) = fun k => DM.pp (if k = c then -y else - a k) := by funext k; split <;> rfl
  exact ⟨by grind, by rw [e]; grind⟩
def Lc (ws : List Wr) (c : Nat) : Nat → Nat → Int := fun i j => if j = c then (if i = 0 then 1 else 0) else Lf ws i j
theorem db_lc {m : Nat} (hm : m ≤ 11) {ws : List Wr} (hl : ws.length ≤ 30) (hw : ∀ w ∈ ws, w.f0 ≠ w.f1) (c : Nat) : DB m (fun r k => (Lc ws c r k : Rat)) (fun r => ((dg ws r + 1 : Int) : Rat)) := by
  have h := db_lf hm hl hw
  refine ⟨fun r c => ⟨_, rfl⟩, h.one, fun r _ => ?_, h.top⟩
  have := rowB_put c (if r = 0 then (1 : Rat) else 0) (by split <;> grind) (rowB_lf m ws hw r)
  have e : (fun k => ((Lc ws c r k : Int) : Rat)) = fun k => if k = c then (if r = 0 then (1 : Rat) else 0) else ((Lf ws r k : Int) : Rat) := by
    funext k; unfold Lc; split
    · split <;> rfl
    · rfl
  rw [e, Rat.intCast_add]; exact this
theorem col_at {m : Nat} {ws : List Wr} (hl : ws.length ≤ 400) (hw : ∀ w ∈ ws, 0 ≤ w.f0 ∧ 0 ≤ w.f1) (c : Nat) (hc : c < m) : Dim m (mixed (colF c) (lap (m : Int) ws) (lap (m : Int) ws).length) ∧ ∀ p q : Nat, p < m → q < m → dAt (mixed (colF c) (lap (m : Int) ws) (lap (m : Int) ws).length) p q = Lc ws c p q := by
  obtain ⟨h1, h2⟩ := lap_at (m := m) hl hw
  have row : ∀ i, i < m → (mixed (colF c) (lap (m : Int) ws) (lap (m : Int) ws).length).getD i [] = ((lap (m : Int) ws).getD i []).set c (if i = 0 then 1 else 0) := fun i hi => by
    rw [List.getD_eq_getElem?_getD, mixed_get, List.getD_eq_getElem?_getD, List.getElem?_eq_getElem (by rw [h1.1]; exact hi)]
    simp only [Option.map_some, Option.getD_some]
    rw [if_pos (by rw [h1.1]; exact hi)]; rfl
  refine ⟨⟨by rw [mixed_len]; exact h1.1, fun i hi => by rw [row i hi, List.length_set]; exact h1.2 i hi⟩, fun p q hp hq => ?_⟩
  unfold dAt Lc
  rw [row p hp, getD_set _ _ _ _ _ (by rw [h1.2 p hp]; exact hc), ← h2 p q hp hq]
  split <;> rfl
/-! what is above 0 -/
def qf (n : Nat) (A : Nat → Nat → Rat) (x : Nat → Rat) : Rat := DM.sm n (fun i => x i * DM.sm n (fun j => A i j * x j))
def PD (n : Nat) (A : Nat → Nat → Rat) : Prop := (∀ i j, A i j = A j i) ∧ ∀ x : Nat → Rat, (∃ i, i < n ∧ x i ≠ 0) → 0 < qf n A x
theorem pd_head {n : Nat} {A : Nat → Nat → Rat} (h : PD (n + 1) A) : 0 < A 0 0 := by
  have := h.2 (fun i => if i = 0 then 1 else 0) ⟨0, by omega, by rw [if_pos rfl]; decide⟩
  unfold qf at this
  rw [DM.sm_one 0 (n + 1) (by omega) (fun j _ hj => by dsimp only; rw [if_neg hj]; grind), DM.sm_one 0 (n + 1) (by omega) (fun j _ hj => by dsimp only; rw [if_neg hj]; grind)] at this
  dsimp only at this
  rw [if_pos rfl] at this
  grind
theorem pd_schur {n : Nat} {A : Nat → Nat → Rat} (h : PD (n + 1) A) : PD n (DM.schur A) := by
  have h0 := pd_head h
  refine ⟨fun i j => by unfold DM.schur; rw [h.1 (i + 1) (j + 1), h.1 (i + 1) 0, h.1 0 (j + 1)]; grind, fun y hy => ?_⟩
  obtain ⟨i, hi, hne⟩ := hy
  let s : Rat := DM.sm n (fun j => A 0 (j + 1) * y j)
  have hs : s = DM.sm n (fun j => A 0 (j + 1) * y j) := rfl
  clear_value s
  have := h.2 (fun k => if k = 0 then - s / A 0 0 else y (k - 1)) ⟨i + 1, by omega, by rw [if_neg (by omega)]; exact hne⟩
  unfold qf at this ⊢
  have row : ∀ i, DM.sm (n + 1) (fun j => A i j * (if j = 0 then - s / A 0 0 else y (j - 1))) = A i 0 * (- s / A 0 0) + DM.sm n (fun j => A i (j + 1) * y j) := fun i => by
    rw [DM.sm_head, if_pos rfl]
    congr 1
  rw [DM.sm_head, row 0, ← hs] at this
  dsimp only at this
  rw [if_pos rfl] at this
  have e1 : DM.sm n (fun k => (if k + 1 = 0 then - s / A 0 0 else y (k + 1 - 1)) * DM.sm (n + 1) (fun j => A (k + 1) j * (if j = 0 then - s / A 0 0 else y (j - 1)))) = DM.sm n (fun k => y k * (A (k + 1) 0 * (- s / A 0 0) + DM.sm n (fun j => A (k + 1) (j + 1) * y j))) := DM.sm_congr n (fun k _ => by
    rw [row, if_neg (by omega), Nat.add_sub_cancel])
  rw [e1] at this
  have e2 : DM.sm n (fun k => y k * DM.sm n (fun j => DM.schur A k j * y j)) = DM.sm n (fun k => y k * (A (k + 1) 0 * (- s / A 0 0) + DM.sm n (fun j => A (k + 1) (j + 1) * y j))) := DM.sm_congr n (fun k _ => by
    have e3 : DM.sm n (fun j => DM.schur A k j * y j) = DM.sm n (fun j => 1 * (A (k + 1) (j + 1) * y j) + (- (A (k + 1) 0 / A 0 0)) * (A 0 (j + 1) * y j)) := DM.sm_congr n (fun j _ => by unfold DM.schur; grind)
    rw [e3, DM.sm_lin, ← hs]; grind)
  rw [e2]
  have e4 : - s / A 0 0 * (A 0 0 * (- s / A 0 0) + s) = 0 := by grind
  rw [e4] at this
  grind
theorem pd_det : ∀ (n : Nat) (A : Nat → Nat → Rat), PD n A → 0 < DM.det n A
  | 0, _, _ => by simp only [DM.det]; decide
  | n + 1, A, h => by
    have h0 := pd_head h
    rw [DM.det_step n A (by grind)]
    exact Rat.mul_pos h0 (pd_det n _ (pd_schur h))
theorem pd_tail {n : Nat} {A : Nat → Nat → Rat} (h : PD (n + 1) A) : PD n (fun i j => A (i + 1) (j + 1)) := by
  refine ⟨fun i j => h.1 _ _, fun x hx => ?_⟩
  obtain ⟨i, hi, hne⟩ := hx
  have := h.2 (fun k => if k = 0 then 0 else x (k - 1)) ⟨i + 1, by omega, by rw [if_neg (by omega)]; exact hne⟩
  unfold qf at this ⊢
  rw [DM.sm_head] at this
  dsimp only at this
  rw [if_pos rfl, Rat.zero_mul, Rat.zero_add] at this
  have e1 : DM.sm n (fun k => (if k + 1 = 0 then 0 else x (k + 1 - 1)) * DM.sm (n + 1) (fun j => A (k + 1) j * (if j = 0 then 0 else x (j - 1)))) = DM.sm n (fun k => x k * DM.sm n (fun j => A (k + 1) (j + 1) * x j)) := DM.sm_congr n (fun k _ => by
    rw [DM.sm_head, if_pos rfl, Rat.mul_zero, Rat.zero_add, if_neg (by omega), Nat.add_sub_cancel]
    congr 1)
  rw [e1] at this
  exact this
theorem wd_comm (w : Wr) (i j : Nat) : wd w i j = wd w j i := by
  unfold wd
  rw [bI_and, bI_and, bI_and, bI_and, bI_and, bI_and, bI_and, bI_and]; grind
theorem Lf_comm : ∀ (t : List Wr) (i j : Nat), Lf t i j = Lf t j i
  | [], _, _ => rfl
  | w :: t, i, j => by rw [Lf, Lf, wd_comm, Lf_comm t]
/-- a number for each node, 0 from place m on -/
def nv (m : Nat) (x : Nat → Rat) (v : Int) : Rat := if 0 ≤ v ∧ v < m then x v.toNat else 0
theorem sm_at (m : Nat) (x : Nat → Rat) (v : Int) (h0 : 0 ≤ v) : DM.sm m (fun j => ((bI (v = j) : Int) : Rat) * x j) = nv m x v := by
  unfold nv
  by_cases e : v < m
  · rw [if_pos ⟨h0, e⟩, DM.sm_one v.toNat m (by omega) (fun j hj hne => ?_)]
    · unfold bI; rw [if_pos (by omega)]; grind
    · unfold bI; rw [if_neg (by omega)]; exact Rat.zero_mul _
  · rw [if_neg (by omega), DM.sm_zero m (fun j hj => ?_)]
    unfold bI; rw [if_neg (by omega)]; exact Rat.zero_mul _
theorem wd_sum (m : Nat) (x : Nat → Rat) (w : Wr) (h0 : 0 ≤ w.f0) (h1 : 0 ≤ w.f1) (h : w.f0 ≠ w.f1) (i : Nat) : DM.sm m (fun j => ((wd w i j : Int) : Rat) * x j) = (((bI (w.f0 = i) - bI (w.f1 = i) : Int)) : Rat) * (nv m x w.f0 - nv m x w.f1) := by
  have e : DM.sm m (fun j => ((wd w i j : Int) : Rat) * x j) = DM.sm m (fun j => (((bI (w.f0 = i) - bI (w.f1 = i) : Int)) : Rat) * (((bI (w.f0 = j) : Int) : Rat) * x j) + (-(((bI (w.f0 = i) - bI (w.f1 = i) : Int)) : Rat)) * (((bI (w.f1 = j) : Int) : Rat) * x j)) := DM.sm_congr m (fun j _ => by
    rw [wd_row w h, Rat.intCast_add, Rat.intCast_mul, Rat.intCast_mul, Rat.intCast_sub, Rat.intCast_sub, Rat.intCast_sub]; grind)
  rw [e, DM.sm_lin, sm_at m x _ h0, sm_at m x _ h1]; grind
theorem wd_qf (m : Nat) (x : Nat → Rat) (w : Wr) (h0 : 0 ≤ w.f0) (h1 : 0 ≤ w.f1) (h : w.f0 ≠ w.f1) : qf m (fun i j => ((wd w i j : Int) : Rat)) x = (nv m x w.f0 - nv m x w.f1) * (nv m x w.f0 - nv m x w.f1) := by
  unfold qf
  have e : DM.sm m (fun i => x i * DM.sm m (fun j => ((wd w i j : Int) : Rat) * x j)) = DM.sm m (fun i => (nv m x w.f0 - nv m x w.f1) * (((bI (w.f0 = i) : Int) : Rat) * x i) + (- (nv m x w.f0 - nv m x w.f1)) * (((bI (w.f1 = i) : Int) : Rat) * x i)) := DM.sm_congr m (fun i _ => by
    rw [wd_sum m x w h0 h1 h, Rat.intCast_sub]; grind)
  rw [e, DM.sm_lin, sm_at m x _ h0, sm_at m x _ h1]; grind
theorem qf_add (m : Nat) (A B : Nat → Nat → Rat) (x : Nat → Rat) : qf m (fun i j => A i j + B i j) x = qf m A x + qf m B x := by
  unfold qf
  have e : DM.sm m (fun i => x i * DM.sm m (fun j => (A i j + B i j) * x j)) = DM.sm m (fun i => 1 * (x i * DM.sm m (fun j => A i j * x j)) + 1 * (x i * DM.sm m (fun j => B i j * x j))) := DM.sm_congr m (fun i _ => by
    have e2 : DM.sm m (fun j => (A i j + B i j) * x j) = DM.sm m (fun j => 1 * (A i j * x j) + 1 * (B i j * x j)) := DM.sm_congr m (fun j _ => by grind)
    rw [e2, DM.sm_lin]; grind)
  rw [e, DM.sm_lin]; grind
theorem sqr_nn (a : Rat) : 0 ≤ a * a := by
  by_cases h : 0 ≤ a
  · exact Rat.mul_nonneg h h
  · have := Rat.mul_nonneg (a := -a) (b := -a) (by grind) (by grind); grind
theorem lf_qf (m : Nat) (x : Nat → Rat) : ∀ (t : List Wr), (∀ w ∈ t, 0 ≤ w.f0 ∧ 0 ≤ w.f1 ∧ w.f0 ≠ w.f1) → 0 ≤ qf m (fun i j => (Lf t i j : Rat)) x ∧ ∀ w ∈ t, (nv m x w.f0 - nv m x w.f1) * (nv m x w.f0 - nv m x w.f1) ≤ qf m (fun i j => (Lf t i j : Rat)) x
  | [], _ => by
    refine ⟨?_, fun w hw => by cases hw⟩
    unfold qf
    have e : DM.sm m (fun i => x i * DM.sm m (fun j => ((Lf [] i j : Int) : Rat) * x j)) = 0 := DM.sm_zero m (fun i _ => by
      rw [DM.sm_zero m (fun j _ => by rw [Lf]; exact Rat.zero_mul _)]; exact Rat.mul_zero _)
    rw [e]; exact Rat.le_refl
  | w :: t, hw => by
    obtain ⟨i1, i2⟩ := lf_qf m x t (fun y hy => hw y (List.mem_cons_of_mem _ hy))
    obtain ⟨h0, h1, h2⟩ := hw w List.mem_cons_self
    have e : (fun i j => ((Lf (w :: t) i j : Int) : Rat)) = fun i j => ((wd w i j : Int) : Rat) + ((Lf t i j : Int) : Rat) := by funext i j; rw [Lf, Rat.intCast_add]
    rw [e, qf_add, wd_qf m x w h0 h1 h2]
    have s := sqr_nn (nv m x w.f0 - nv m x w.f1)
    refine ⟨by grind, fun y hy => ?_⟩
    rcases List.mem_cons.1 hy with rfl | hy
    · grind
    · have := i2 y hy; grind
theorem sqr_zero {a : Rat} (h : a * a ≤ 0) : a = 0 := by
  have : a * a = 0 := by have := sqr_nn a; grind
  rcases Rat.mul_eq_zero.1 this with e | e <;> exact e
theorem pd_lap {m : Nat} {n : Int} (hm : n = m + 1) {ws : List Wr} (h : NetOk n ws) : PD m (fun i j => (Lf ws i j : Rat)) := by
  refine ⟨fun i j => by dsimp only; rw [Lf_comm], fun x hx => ?_⟩
  have hw : ∀ w ∈ ws, 0 ≤ w.f0 ∧ 0 ≤ w.f1 ∧ w.f0 ≠ w.f1 := fun w hq => ⟨(h.2.2.1 w hq).1.1, (h.2.2.1 w hq).2.1.1, (h.2.2.1 w hq).2.2⟩
  obtain ⟨q0, q1⟩ := lf_qf m x ws hw
  apply Classical.byContradiction
  intro hn
  have z : qf m (fun i j => (Lf ws i j : Rat)) x ≤ 0 := by grind
  have eqw : ∀ w ∈ ws, nv m x w.f0 = nv m x w.f1 := fun w hq => by
    have := sqr_zero (Rat.le_trans (q1 w hq) z); grind
  have all : ∀ v, Reach ws v → nv m x v = nv m x 0 := by
    intro v hv
    induction hv with
    | zero => rfl
    | fwd w hw _ ih => rw [← eqw w hw]; exact ih
    | bwd w hw _ ih => rw [eqw w hw]; exact ih
  have l := all (n - 1) (h.2.2.2 (n - 1) (by omega) (by omega))
  have l0 : nv m x (n - 1) = 0 := by unfold nv; rw [if_neg (by omega)]
  obtain ⟨i, hi, hne⟩ := hx
  have li := all (i : Int) (h.2.2.2 (i : Int) (by omega) (by omega))
  have e : nv m x (i : Int) = x i := by unfold nv; rw [if_pos (by omega), Int.toNat_natCast]
  rw [← e, li, ← l, l0] at hne
  exact hne rfl
theorem det_lap_pos {n : Int} {ws : List Wr} (h : NetOk n ws) : ∃ z : Int, detF (lap (n - 1) ws) = some z ∧ DM.det (n - 1).toNat (fun r c => (Lf ws r c : Rat)) = (z : Rat) ∧ 0 < z ∧ z ≤ 2147483647 := by
  have hn := h.1
  obtain ⟨m, hm⟩ : ∃ m : Nat, n = m + 1 := ⟨(n - 1).toNat, by omega⟩
  have hw : ∀ w ∈ ws, 0 ≤ w.f0 ∧ 0 ≤ w.f1 := fun w hq => ⟨(h.2.2.1 w hq).1.1, (h.2.2.1 w hq).2.1.1⟩
  rw [show n - 1 = (m : Int) by omega, Int.toNat_natCast]
  obtain ⟨h1, h2⟩ := lap_at (m := m) (ws := ws) (by have := h.2.1; omega) hw
  obtain ⟨z, z1, z2, z3, z4⟩ := detF_eq m (by omega) (Lf ws) _ h1 h2 _ (db_lf (m := m) (by omega) h.2.1 (fun w hq => (h.2.2.1 w hq).2.2))
  have p := pd_det m _ (pd_lap hm h)
  rw [z2] at p
  exact ⟨z, z1, z2, Rat.intCast_pos.1 p, z4⟩
theorem det_pot {n : Int} {ws : List Wr} (h : NetOk n ws) (c : Nat) (hc : (c : Int) < n - 1) : ∃ z : Int, detF (mixed (colF c) (lap (n - 1) ws) (lap (n - 1) ws).length) = some z ∧ DM.det (n - 1).toNat (fun r k => (Lc ws c r k : Rat)) = (z : Rat) ∧ -2147483647 ≤ z ∧ z ≤ 2147483647 ∧ (c = 0 → 0 < z) := by
  have hn := h.1
  obtain ⟨m, hm⟩ : ∃ m : Nat, n = m + 1 := ⟨(n - 1).toNat, by omega⟩
  have hw : ∀ w ∈ ws, 0 ≤ w.f0 ∧ 0 ≤ w.f1 := fun w hq => ⟨(h.2.2.1 w hq).1.1, (h.2.2.1 w hq).2.1.1⟩
  rw [show n - 1 = (m : Int) by omega, Int.toNat_natCast]
  obtain ⟨h1, h2⟩ := col_at (m := m) (ws := ws) (by have := h.2.1; omega) hw c (by omega)
  obtain ⟨z, z1, z2, z3, z4⟩ := detF_eq m (by omega) (Lc ws c) _ h1 h2 _ (db_lc (m := m) (by omega) h.2.1 (fun w hq => (h.2.2.1 w hq).2.2) c)
  refine ⟨z, z1, z2, z3, z4, fun hc0 => ?_⟩
  subst hc0
  obtain ⟨k, rfl⟩ : ∃ k, m = k + 1 := ⟨m - 1, by omega⟩
  have p := pd_det k _ (pd_tail (pd_lap hm h))
  have e0 : ((Lc ws 0 0 0 : Int) : Rat) = 1 := rfl
  rw [DM.det_step k _ (by rw [e0]; decide), e0, Rat.one_mul] at z2
  have e : DM.det k (DM.schur (fun r k => (Lc ws 0 r k : Rat))) = DM.det k (fun i j => (Lf ws (i + 1) (j + 1) : Rat)) := DM.det_congr k (fun r c _ _ => by
    unfold DM.schur
    have x1 : ((Lc ws 0 (r + 1) 0 : Int) : Rat) = 0 := rfl
    have x2 : ((Lc ws 0 (r + 1) (c + 1) : Int) : Rat) = (Lf ws (r + 1) (c + 1) : Rat) := by unfold Lc; rw [if_neg (by omega)]
    dsimp only; rw [x1, x2]; grind)
  rw [e] at z2
  rw [z2] at p
  exact Rat.intCast_pos.1 p

/-! ### the potentials of a joined net: small, and the first pole's is above 0 -/
theorem pots_at (n : Int) (ws : List Wr) : ∀ (m i : Nat), i < m → (pots n ws m)[i]? = some (pot n ws i)
  | 0, i, h => by omega
  | m + 1, i, h => by
    rw [pots]
    by_cases e : i < m
    · rw [List.getElem?_append_left (by rw [pots_len]; exact e)]; exact pots_at n ws m i e
    · obtain rfl : i = m := by omega
      rw [List.getElem?_append_right (by rw [pots_len]; exact Nat.le_refl _), pots_len, Nat.sub_self]; rfl
theorem rd_pot (n : Int) (ws : List Wr) (i : Nat) (hi : (i : Int) < n - 1) : rd (potList n ws) (i : Int) = pot n ws i := by
  unfold rd potList
  rw [Int.toNat_natCast, List.getD_eq_getElem?_getD, List.getElem?_append_left (by rw [pots_len]; omega), pots_at n ws _ i (by omega)]; rfl
theorem rd_last (n : Int) (ws : List Wr) : rd (potList n ws) (n - 1) = 0 := by
  unfold rd potList
  rw [List.getD_eq_getElem?_getD, List.getElem?_append_right (by rw [pots_len]; exact Nat.le_refl _), pots_len, Nat.sub_self]; rfl
theorem pot_bd {n : Int} {ws : List Wr} (h : NetOk n ws) (j : Int) (h0 : 0 ≤ j) (h1 : j ≤ n - 1) : -2147483647 ≤ rd (potList n ws) j ∧ rd (potList n ws) j ≤ 2147483647 := by
  by_cases e : j = n - 1
  · rw [e, rd_last]; omega
  · obtain ⟨i, rfl⟩ : ∃ i : Nat, j = i := ⟨j.toNat, by omega⟩
    rw [rd_pot n ws i (by omega)]
    obtain ⟨z, z1, _, z3, z4, _⟩ := det_pot h i (by omega)
    unfold pot det
    rw [z1]; exact ⟨z3, z4⟩
theorem pot_pos {n : Int} {ws : List Wr} (h : NetOk n ws) : 0 < rd (potList n ws) 0 := by
  have hn := h.1
  have e := rd_pot n ws 0 (by omega)
  obtain ⟨z, z1, _, z3, z4, z5⟩ := det_pot h 0 (by omega)
  have e2 : rd (potList n ws) 0 = pot n ws 0 := e
  rw [e2]
  unfold pot det
  rw [z1]; exact z5 rfl
theorem trees_pos {n : Int} {ws : List Wr} (h : NetOk n ws) : 0 < det (lap (n - 1) ws) := by
  obtain ⟨z, z1, _, z3, _⟩ := det_lap_pos h
  unfold det
  rw [z1]; exact z3

/-! ### the ratio of a net -/
open Classical in
noncomputable def treesOf (n : Int) (ws : List Wr) : Int × Bool := if NetOk n ws then (det (lap (n - 1) ws), true) else (0, false)
open Classical in
noncomputable def joinedTrees (n : Int) (ws : List Wr) : Int × Bool := if NetOk n ws then (rd (potList n ws) 0, true) else (0, false)
theorem impl_TreesOf_ev (n : Int) (ws : List Wr) : Ev (fun k => impl_TreesOf.f k n ws) (treesOf n ws) := by
  unfold impl_TreesOf.f treesOf
  refine Ev.bind (impl_IsNet_ev n ws) ?_
  by_cases h : NetOk n ws
  · rw [if_pos h]
    have hw : ∀ w ∈ ws, 0 ≤ w.f0 ∧ 0 ≤ w.f1 := fun w hq => ⟨(h.2.2.1 w hq).1.1, (h.2.2.1 w hq).2.1.1⟩
    have h1 := h.1; have h2 := h.2.1
    refine Ev.pos (by simpa using h) ?_
    unfold impl_Net_trees.f
    refine Ev.bind (a := det (lap (n - 1) ws)) ?_ (Ev.now _)
    refine Ev.bind (laplacian_ev (n := n) (by omega) ws (by omega) hw) ?_
    exact Ev.bindc (det_some (m := n - 1) (by omega) (sq_lap (by omega) hw)) (Ev.now _)
  · rw [if_neg h]
    exact Ev.neg (by simpa using h) (Ev.now _)
theorem impl_JoinedTrees_ev (n : Int) (ws : List Wr) : Ev (fun k => impl_JoinedTrees.f k n ws) (joinedTrees n ws) := by
  unfold impl_JoinedTrees.f joinedTrees
  refine Ev.bind (impl_PotentialsOf_ev n ws) ?_
  unfold potentialsOf
  by_cases h : NetOk n ws
  · rw [if_pos h, if_pos h]
    have h3 := potList_len (n := n) (by have := h.1; omega) ws
    have h1 := h.1
    exact Ev.pos rfl (Ev.pos (by dsimp only; omega) (Ev.now _))
  · rw [if_neg h, if_neg h]
    exact Ev.neg (by simp) (Ev.now _)
noncomputable def ratG (n : Int) (ws : List Wr) : Int := ((Nat.gcd (det (lap (n - 1) ws)).toNat (rd (potList n ws) 0).toNat : Nat) : Int)
theorem ratG_ne {n : Int} {ws : List Wr} (h : NetOk n ws) : ratG n ws ≠ 0 := by
  have := trees_pos h
  unfold ratG
  intro e
  have e1 : Nat.gcd (det (lap (n - 1) ws)).toNat (rd (potList n ws) 0).toNat = 0 := by omega
  have := (Nat.gcd_eq_zero_iff.1 e1).1
  omega
open Classical in
noncomputable def ratioOf (n : Int) (ws : List Wr) : Int × Int × Bool := if NetOk n ws then (wrap64 (Int.tdiv (det (lap (n - 1) ws)) (ratG n ws)), wrap64 (Int.tdiv (rd (potList n ws) 0) (ratG n ws)), true) else (0, 0, false)
theorem spec_RatioOfNet_ev (n : Int) (ws : List Wr) : Ev (fun k => spec_RatioOfNet.f k n ws) (ratioOf n ws) := by
  unfold spec_RatioOfNet.f ratioOf
  refine Ev.bind (spec_neGood_ev n ws) ?_
  by_cases h : NetOk n ws
  · rw [if_pos h]
    have hw : ∀ w ∈ ws, 0 ≤ w.f0 ∧ 0 ≤ w.f1 := fun w hq => ⟨(h.2.2.1 w hq).1.1, (h.2.2.1 w hq).2.1.1⟩
    have h1 := h.1; have h2 := h.2.1
    have h3 := potList_len (n := n) (by omega) ws
    have tp := trees_pos h; have pp := pot_pos h
    have g := spec_common_ev (rd (potList n ws) 0).toNat (det (lap (n - 1) ws)).toNat
    rw [Int.toNat_of_nonneg (by omega), Int.toNat_of_nonneg (by omega)] at g
    refine Ev.pos (by simpa using h) ?_
    refine Ev.bind (a := det (lap (n - 1) ws)) ?_ ?_
    · unfold spec_neTrees.f
      rw [wrap64_id (n := n - 1) (by omega) (by omega)]
      refine Ev.bind (table_ev (n := n) (by omega) ws (by omega) hw (-1) _ (Ev.neg (by omega) (Ev.now _))) ?_
      exact Ev.bindc (det_some (m := n - 1) (by omega) (sq_lap (by omega) hw)) (Ev.now _)
    refine Ev.bind (nePotentials_ev (n := n) (by omega) ws (by omega) hw) ?_
    exact Ev.pos (by omega) (Ev.bind g (Ev.neg (ratG_ne h) (Ev.now _)))
  · rw [if_neg h]
    exact Ev.neg (by simpa using h) (Ev.now _)
theorem impl_RatioOfNet_ev (n : Int) (ws : List Wr) : Ev (fun k => impl_RatioOfNet.f k n ws) (ratioOf n ws) := by
  unfold impl_RatioOfNet.f ratioOf
  refine Ev.bind (impl_TreesOf_ev n ws) (Ev.bind (impl_JoinedTrees_ev n ws) ?_)
  unfold treesOf joinedTrees
  by_cases h : NetOk n ws
  · rw [if_pos h, if_pos h, if_pos h]
    have tp := trees_pos h; have pp := pot_pos h
    have g := impl_common_ev (rd (potList n ws) 0).toNat (det (lap (n - 1) ws)).toNat
    rw [Int.toNat_of_nonneg (by omega), Int.toNat_of_nonneg (by omega)] at g
    exact Ev.pos rfl (Ev.bind g (Ev.neg (ratG_ne h) (Ev.now _)))
  · rw [if_neg h, if_neg h, if_neg h]
    exact Ev.neg (by simp) (Ev.now _)
theorem FnExactRatioOfNet : laws_FnExactRatioOfNet.Pure := by
  classical
  intro n l _ hm _
  refine Ev.rounds (g := fun k => laws_FnExactRatioOfNet.f k n l) ?_
  unfold laws_FnExactRatioOfNet.f
  refine Ev.bindc (szNet_eq n l hm) ?_
  by_cases h : l.length ≤ 1048576
  · rw [if_pos h]
    have hm1 : (l.map convW).length ≤ 1099511627776 := by simp; omega
    have s1 := spec_RatioOfNet_ev n (l.map convW)
    have s2 := impl_RatioOfNet_ev n (l.map convW)
    generalize ratioOf n (l.map convW) = B at s1 s2
    have qN := eqNet_ev n (l.map convW) hm1
    have tN := toNet_ev n l h
    refine Ev.neg (by omega) (Ev.bind tN (Ev.bind s1 (Ev.bind tN (Ev.bind s2 (Ev.pos rfl (Ev.pos rfl ?_))))))
    refine Ev.succ ?_
    simp only [laws_FnExactRatioOfNet.j0]
    exact Ev.neg (by simp) (Ev.bind tN (Ev.bind qN (Ev.pos rfl (Ev.now _))))
  · rw [if_neg h]
    exact Ev.pos (by omega) (Ev.now _)

end Go.Proofs.Ytlifiingpggocaa.Pure
