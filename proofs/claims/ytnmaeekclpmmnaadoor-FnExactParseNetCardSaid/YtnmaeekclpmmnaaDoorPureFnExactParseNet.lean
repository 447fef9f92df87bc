/- The program's ParseNet and the reference's return the same for all arguments: both say yes just at the text that a net has, under the listed variables of the library. -/
import Derived.Test.YtnmaeekclpmmnaaDoorPFnExactParseNetx9
import Derived.Test.YtnmaeekclpmmnaaDoorPFnExactParseNetx0
import Derived.Test.YtnmaeekclpmmnaaDoorPFnExactParseNetx1
import Derived.Test.YtnmaeekclpmmnaaDoorPFnExactParseNetx2
import Derived.Test.YtnmaeekclpmmnaaDoorPFnExactParseNetx3
import Derived.Test.YtnmaeekclpmmnaaDoorPFnExactParseNetx4
import Derived.Test.YtnmaeekclpmmnaaDoorPFnExactParseNetx5
import Derived.Test.YtnmaeekclpmmnaaDoorPFnExactParseNetx6
import Derived.Test.YtnmaeekclpmmnaaDoorPFnExactParseNetx7
import Derived.Test.YtnmaeekclpmmnaaDoorPFnExactParseNetx8
import Derived.Test.YtnmaeekclpmmnaaDoorWGuardMoreInvWords
namespace Go.Proofs.YtnmaeekclpmmnaaDoor.Pure
open Go.RowKit Go.Proofs.YtnmaeekclpmmnaaDoor.PFnExactParseNet Go.Proofs.YtnmaeekclpmmnaaDoorW.PrintWords Go.Proofs.YtnmaeekclpmmnaaDoorW.PrintLast Go.Proofs.YtnmaeekclpmmnaaDoorW.PrintMore Go.Proofs.YtnmaeekclpmmnaaDoorW.Evs
set_option linter.unusedVariables false
set_option linter.unusedSimpArgs false
/-! ### a net: what the program's IsNet and the reference's neGood answer -/
abbrev Wr := S47
def wrAt (l : List Wr) (j : Nat) : Wr := l.getD j z47
theorem rd_wr (l : List Wr) (j : Nat) : rd_T47 l (j : Int) = wrAt l j := by unfold rd_T47 wrAt; rw [Int.toNat_natCast]
theorem wrAt_get (l : List Wr) (j : Nat) (h : j < l.length) : wrAt l j = l[j] := by unfold wrAt; simp [List.getD, h]
theorem wr_drop (l : List Wr) (i : Nat) (w : Wr) (t : List Wr) (h : l.drop i = w :: t) : i < l.length ∧ wrAt l i = w ∧ l.drop (i + 1) = t ∧ w ∈ l ∧ i + 1 + t.length = l.length := by
  have h1 : i < l.length := by
    apply Decidable.byContradiction
    intro hn
    rw [List.drop_eq_nil_of_le (by omega)] at h; cases h
  rw [List.drop_eq_getElem_cons h1] at h
  injection h with ha hb
  refine ⟨h1, by rw [wrAt_get l i h1]; exact ha, hb, by rw [← ha]; exact List.getElem_mem h1, ?_⟩
  rw [← hb, List.length_drop]; omega
theorem within_eqN (a b c : Int) : impl_within.f a b c = some (decide (b ≤ a ∧ a ≤ c)) := by
  unfold impl_within.f
  by_cases h : b ≤ a
  · rw [if_pos h]; simp [h]
  · rw [if_neg h]; simp [h]
theorem l1In_eqN (a b c : Int) : spec_l1In.f a b c = some (decide (b ≤ a ∧ a ≤ c)) := by
  unfold spec_l1In.f
  by_cases h : b ≤ a
  · rw [if_pos h]; simp [h]
  · rw [if_neg h]; simp [h]
/-- nodes that are joined to node 0 -/
inductive Reach (ws : List Wr) : Int → Prop
  | zero : Reach ws 0
  | fwd (w : Wr) (h : w ∈ ws) (r : Reach ws w.f0) : Reach ws w.f1
  | bwd (w : Wr) (h : w ∈ ws) (r : Reach ws w.f1) : Reach ws w.f0
def WireOk (n : Int) (w : Wr) : Prop := (0 ≤ w.f0 ∧ w.f0 ≤ n - 1) ∧ (0 ≤ w.f1 ∧ w.f1 ≤ n - 1) ∧ w.f0 ≠ w.f1
instance (n : Int) (w : Wr) : Decidable (WireOk n w) := by unfold WireOk; infer_instance
def Joined (n : Int) (ws : List Wr) : Prop := ∀ j, 0 ≤ j → j < n → Reach ws j
def NetOk (n : Int) (ws : List Wr) : Prop := (2 ≤ n ∧ n ≤ 12) ∧ ws.length ≤ 30 ∧ (∀ w ∈ ws, WireOk n w) ∧ Joined n ws
/-- a list's place by a whole number -/
def bAt (s : List Bool) (j : Int) : Bool := s.getD j.toNat false
def iAt (s : List Int) (j : Int) : Int := s.getD j.toNat 0
theorem getD_set {α : Type} (s : List α) (i m : Nat) (v d : α) (hi : i < s.length) : (s.set i v).getD m d = if m = i then v else s.getD m d := by
  by_cases e : m = i
  · subst e; simp [List.getD, hi]
  · have e' : i ≠ m := fun h => e h.symm
    simp [List.getD, e, e']
theorem bAt_set (s : List Bool) (i m : Int) (v : Bool) (h0 : 0 ≤ i) (hi : i < s.length) (hm : 0 ≤ m) : bAt (s.set i.toNat v) m = if m = i then v else bAt s m := by
  unfold bAt
  rw [getD_set _ _ _ _ _ (by omega)]
  by_cases e : m = i
  · rw [if_pos e, if_pos (by omega)]
  · rw [if_neg e, if_neg (by omega)]
theorem iAt_set (s : List Int) (i m : Int) (v : Int) (h0 : 0 ≤ i) (hi : i < s.length) (hm : 0 ≤ m) : iAt (s.set i.toNat v) m = if m = i then v else iAt s m := by
  unfold iAt
  rw [getD_set _ _ _ _ _ (by omega)]
  by_cases e : m = i
  · rw [if_pos e, if_pos (by omega)]
  · rw [if_neg e, if_neg (by omega)]
theorem countP_le_of {α β : Type} (p : α → Bool) (q : β → Bool) : ∀ (a : List α) (b : List β), a.length = b.length → (∀ (j : Nat) (x : α) (y : β), a[j]? = some x → b[j]? = some y → p x = true → q y = true) → a.countP p ≤ b.countP q
  | [], [], _, _ => Nat.le_refl _
  | x :: a, y :: b, hl, h => by
    have ih := countP_le_of p q a b (by simpa using hl) (fun j u v hu hv => h (j + 1) u v hu hv)
    have h0 := h 0 x y rfl rfl
    rw [List.countP_cons, List.countP_cons]
    cases hp : p x
    · simp; split <;> omega
    · rw [h0 hp]; simp; omega
theorem countP_lt_of {α β : Type} (p : α → Bool) (q : β → Bool) : ∀ (a : List α) (b : List β), a.length = b.length → (∀ (j : Nat) (x : α) (y : β), a[j]? = some x → b[j]? = some y → p x = true → q y = true) → (∃ (j : Nat) (x : α) (y : β), a[j]? = some x ∧ b[j]? = some y ∧ p x = false ∧ q y = true) → a.countP p < b.countP q
  | [], [], _, _, h => by obtain ⟨j, x, y, hx, _⟩ := h; simp at hx
  | x :: a, y :: b, hl, h, hs => by
    have h0 := h 0 x y rfl rfl
    have hl' : a.length = b.length := by simpa using hl
    have ht : ∀ (j : Nat) (u : α) (v : β), a[j]? = some u → b[j]? = some v → p u = true → q v = true := fun j u v hu hv => h (j + 1) u v hu hv
    obtain ⟨j, u, v, hu, hv, hp, hq⟩ := hs
    rw [List.countP_cons, List.countP_cons]
    cases j with
    | zero =>
      have le := countP_le_of p q a b hl' ht
      simp at hu hv
      subst hu hv
      rw [hp, hq]; simp; omega
    | succ j =>
      have lt := countP_lt_of p q a b hl' ht ⟨j, u, v, hu, hv, hp, hq⟩
      cases hp : p x
      · simp; split <;> omega
      · rw [h0 hp]; simp; omega

/-! the program: names -/
def step (s : List Int) (w : Wr) : List Int := (s.set w.f0.toNat (mn (iAt s w.f0) (iAt s w.f1))).set w.f1.toNat (mn (iAt s w.f0) (iAt s w.f1))
def pass (s : List Int) (t : List Wr) : List Int := t.foldl step s
def Nm (n : Int) (s : List Int) : Prop := (s.length : Int) = n ∧ ∀ j, 0 ≤ j → j < n → 0 ≤ iAt s j
theorem mn_eq (a b : Int) : mn a b = min a b := by unfold mn; omega
theorem step_at {n : Int} {s : List Int} {w : Wr} (hs : Nm n s) (hw : WireOk n w) (j : Int) (h0 : 0 ≤ j) : iAt (step s w) j = if j = w.f0 ∨ j = w.f1 then min (iAt s w.f0) (iAt s w.f1) else iAt s j := by
  unfold WireOk at hw
  have hl := hs.1
  unfold step
  rw [iAt_set _ _ _ _ (by omega) (by rw [List.length_set]; omega) h0, iAt_set _ _ _ _ (by omega) (by omega) h0, mn_eq]
  by_cases e1 : j = w.f1
  · rw [if_pos e1, if_pos (Or.inr e1)]
  · rw [if_neg e1]
    by_cases e0 : j = w.f0
    · rw [if_pos e0, if_pos (Or.inl e0)]
    · rw [if_neg e0, if_neg (fun h => h.elim e0 e1)]
theorem step_nm {n : Int} {s : List Int} {w : Wr} (hs : Nm n s) (hw : WireOk n w) : Nm n (step s w) := by
  refine ⟨by unfold step; rw [List.length_set, List.length_set]; exact hs.1, fun j h0 h1 => ?_⟩
  rw [step_at hs hw j h0]
  have a := hs.2 w.f0 (by unfold WireOk at hw; omega) (by unfold WireOk at hw; omega)
  have b := hs.2 w.f1 (by unfold WireOk at hw; omega) (by unfold WireOk at hw; omega)
  have c := hs.2 j h0 h1
  split <;> omega
theorem step_zero {n : Int} {s : List Int} {w : Wr} (hs : Nm n s) (hw : WireOk n w) (j : Int) (h0 : 0 ≤ j) (hz : iAt s j = 0) : iAt (step s w) j = 0 := by
  rw [step_at hs hw j h0]
  have a := hs.2 w.f0 (by unfold WireOk at hw; omega) (by unfold WireOk at hw; omega)
  have b := hs.2 w.f1 (by unfold WireOk at hw; omega) (by unfold WireOk at hw; omega)
  split
  · rename_i h
    rcases h with e | e <;> subst e <;> omega
  · exact hz
theorem pass_all {n : Int} {ws : List Wr} (hws : ∀ w ∈ ws, WireOk n w) : ∀ (t : List Wr), (∀ w ∈ t, w ∈ ws) → ∀ s, Nm n s → (∀ j, 0 ≤ j → j < n → iAt s j = 0 → Reach ws j) →
    Nm n (pass s t) ∧ (∀ j, 0 ≤ j → iAt s j = 0 → iAt (pass s t) j = 0) ∧ (∀ j, 0 ≤ j → j < n → iAt (pass s t) j = 0 → Reach ws j) ∧
      ∀ w ∈ t, iAt s w.f0 = 0 ∨ iAt s w.f1 = 0 → iAt (pass s t) w.f0 = 0 ∧ iAt (pass s t) w.f1 = 0
  | [], _, s, hs, hr => ⟨hs, fun _ _ h => h, hr, fun w hw => by cases hw⟩
  | w :: t, ht, s, hs, hr => by
    have hw := hws w (ht w List.mem_cons_self)
    have hwm := ht w List.mem_cons_self
    have hw' := hw
    unfold WireOk at hw'
    have hr' : ∀ j, 0 ≤ j → j < n → iAt (step s w) j = 0 → Reach ws j := by
      intro j h0 h1 hz
      rw [step_at hs hw j h0] at hz
      have a := hs.2 w.f0 (by omega) (by omega)
      have b := hs.2 w.f1 (by omega) (by omega)
      split at hz
      · rename_i h
        have hh : Reach ws w.f0 ∧ Reach ws w.f1 := by
          rcases (by omega : iAt s w.f0 = 0 ∨ iAt s w.f1 = 0) with e | e
          · have := hr w.f0 (by omega) (by omega) e; exact ⟨this, .fwd w hwm this⟩
          · have := hr w.f1 (by omega) (by omega) e; exact ⟨.bwd w hwm this, this⟩
        rcases h with e | e <;> subst e
        · exact hh.1
        · exact hh.2
      · exact hr j h0 h1 hz
    obtain ⟨p1, p2, p3, p4⟩ := pass_all hws t (fun x hx => ht x (List.mem_cons_of_mem _ hx)) (step s w) (step_nm hs hw) hr'
    have keep : ∀ j, 0 ≤ j → iAt s j = 0 → iAt (pass s (w :: t)) j = 0 := fun j h0 hz => p2 j h0 (step_zero hs hw j h0 hz)
    refine ⟨p1, keep, p3, fun x hx hz => ?_⟩
    rcases List.mem_cons.1 hx with rfl | hx
    · have a := hs.2 x.f0 (by omega) (by omega)
      have b := hs.2 x.f1 (by omega) (by omega)
      constructor
      · refine p2 x.f0 (by omega) ?_
        rw [step_at hs hw _ (by omega), if_pos (Or.inl rfl)]; omega
      · refine p2 x.f1 (by omega) ?_
        rw [step_at hs hw _ (by omega), if_pos (Or.inr rfl)]; omega
    · have hxw := hws x (ht x (List.mem_cons_of_mem _ hx))
      unfold WireOk at hxw
      refine p4 x hx ?_
      rcases hz with hz | hz
      · exact Or.inl (step_zero hs hw _ (by omega) hz)
      · exact Or.inr (step_zero hs hw _ (by omega) hz)
def rounds (ws : List Wr) : Nat → List Int → List Int
  | 0, s => s
  | r + 1, s => rounds ws r (pass s ws)
def Full (n : Int) (ws : List Wr) (s : List Int) : Prop := ∀ j, 0 ≤ j → j < n → Reach ws j → iAt s j = 0
theorem full_of_closed {n : Int} {ws : List Wr} (hws : ∀ w ∈ ws, WireOk n w) {s : List Int} (h0 : iAt s 0 = 0) (hc : ∀ w ∈ ws, iAt s w.f0 = 0 ↔ iAt s w.f1 = 0) : Full n ws s := by
  intro j _ _ hr
  induction hr with
  | zero => exact h0
  | fwd w hw _ ih => have := hws w hw; unfold WireOk at this; exact (hc w hw).1 (ih (by omega) (by omega))
  | bwd w hw _ ih => have := hws w hw; unfold WireOk at this; exact (hc w hw).2 (ih (by omega) (by omega))
theorem at_of (s : List Int) (j : Nat) (h : j < s.length) : s[j]? = some (iAt s (j : Int)) := by
  unfold iAt; rw [Int.toNat_natCast, List.getD_eq_getElem?_getD, List.getElem?_eq_getElem h]; rfl
theorem rounds_full {n : Int} {ws : List Wr} (hn : 1 ≤ n) (hws : ∀ w ∈ ws, WireOk n w) : ∀ (r c : Nat) (s : List Int), Nm n s → iAt s 0 = 0 → (∀ j, 0 ≤ j → j < n → iAt s j = 0 → Reach ws j) → (Full n ws s ∨ c ≤ s.countP (· == 0)) → n < c + r →
    Full n ws (rounds ws r s) ∧ Nm n (rounds ws r s) ∧ ∀ j, 0 ≤ j → j < n → iAt (rounds ws r s) j = 0 → Reach ws j
  | 0, c, s, hs, h0, hr, hf, hc => by
    refine ⟨?_, hs, hr⟩
    rcases hf with hf | hf
    · exact hf
    · have := List.countP_le_length (p := (· == (0 : Int))) (l := s)
      have := hs.1
      omega
  | r + 1, c, s, hs, h0, hr, hf, hc => by
    obtain ⟨p1, p2, p3, p4⟩ := pass_all hws ws (fun _ h => h) s hs hr
    refine rounds_full hn hws r (c + 1) (pass s ws) p1 (p2 0 (by omega) h0) p3 ?_ (by omega)
    by_cases full : Full n ws s
    · exact Or.inl fun j a b d => p2 j a (full j a b d)
    · right
      have hex : ∃ w ∈ ws, ¬ (iAt s w.f0 = 0 ↔ iAt s w.f1 = 0) := by
        apply Decidable.byContradiction
        intro hno
        exact full (full_of_closed hws h0 fun w hw => Decidable.byContradiction fun h => hno ⟨w, hw, h⟩)
      obtain ⟨w, hw, hne⟩ := hex
      have hwo := hws w hw
      unfold WireOk at hwo
      obtain ⟨q1, q2⟩ := p4 w hw (by omega)
      have hl1 := hs.1
      have hl2 := p1.1
      have lt : s.countP (· == 0) < (pass s ws).countP (· == 0) := by
        refine countP_lt_of _ _ s (pass s ws) (by omega) (fun j x y hx hy hp => ?_) ?_
        · have hj : j < s.length := (List.getElem?_eq_some_iff.1 hx).1
          rw [at_of s j hj] at hx
          rw [at_of _ j (by omega)] at hy
          obtain rfl := Option.some.inj hx
          obtain rfl := Option.some.inj hy
          have := p2 (j : Int) (by omega) (by simpa using hp)
          simpa using this
        · by_cases hz : iAt s w.f0 = 0
          · have hz1 : iAt s w.f1 ≠ 0 := fun h => hne ⟨fun _ => h, fun _ => hz⟩
            refine ⟨w.f1.toNat, iAt s w.f1, iAt (pass s ws) w.f1, ?_, ?_, by simpa using hz1, by simpa using q2⟩
            · rw [at_of s _ (by omega)]; congr 2; omega
            · rw [at_of _ _ (by omega)]; congr 2; omega
          · refine ⟨w.f0.toNat, iAt s w.f0, iAt (pass s ws) w.f0, ?_, ?_, by simpa using hz, by simpa using q1⟩
            · rw [at_of s _ (by omega)]; congr 2; omega
            · rw [at_of _ _ (by omega)]; congr 2; omega
      rcases hf with hf | hf
      · exact absurd hf full
      · omega

/-! the program's loops -/
theorem rd_i (s : List Int) (j : Int) : rd s j = iAt s j := rfl
theorem impl_l2 {n : Int} {ws : List Wr} (hws : ∀ w ∈ ws, WireOk n w) (hl : ws.length ≤ 1000) (a b : Int) (r : Bool) : ∀ (t : List Wr) (i : Nat) (s : List Int), ws.drop i = t → i + t.length = ws.length → Nm n s →
    Ev (fun k => impl_Net_isJoined.l1 k (pass s t) a (wrap64 (b + 1)) n ws) r → Ev (fun k => impl_Net_isJoined.l2 k s a b ws (ws.length : Int) (i : Int) n ws) r
  | [], i, s, _, hi, hs, h => by
    simp only [List.length_nil] at hi
    refine Ev.succ ?_
    simp only [impl_Net_isJoined.l2]
    exact Ev.neg (by omega) h
  | w :: t, i, s, hd, hi, hs, h => by
    obtain ⟨h1, h2, h3, h4, h5⟩ := wr_drop ws i w t hd
    have hw := hws w h4
    have hw' := hw
    unfold WireOk at hw'
    have hsl := hs.1
    have ih := impl_l2 hws hl a b r t (i + 1) (step s w) h3 (by omega) (step_nm hs hw) h
    refine Ev.succ ?_
    simp only [impl_Net_isJoined.l2, rd_wr, h2, rd_i]
    refine Ev.pos (by omega) (Ev.pos (by omega) (Ev.pos (by omega) (Ev.pos (by omega) (Ev.pos (by omega) (Ev.pos (by omega) (Ev.pos (by omega) ?_))))))
    rw [wrap64_id (n := (i : Int) + 1) (by omega) (by omega)]
    exact ih
theorem max_loop (s : List Int) (hl : s.length ≤ 1000) : ∀ (d i : Nat) (m : Int), s.length - i = d → i ≤ s.length → 0 ≤ m → (∀ j, j < s.length → 0 ≤ iAt s (j : Int)) →
    ∃ q, Ev (fun k => slices_Max_int_int.l0 k s m (i : Int)) q ∧ (q = 0 ↔ m = 0 ∧ ∀ j, i ≤ j → j < s.length → iAt s (j : Int) = 0) := by
  intro d
  induction d with
  | zero =>
    intro i m hd hi hm h0
    refine ⟨m, Ev.succ ?_, ⟨fun h => ⟨h, fun j h1 h2 => by omega⟩, fun h => h.1⟩⟩
    simp only [slices_Max_int_int.l0]
    exact Ev.neg (by omega) (Ev.now _)
  | succ d ih =>
    intro i m hd hi hm h0
    have hi0 := h0 i (by omega)
    have hx : mx m (iAt s (i : Int)) = max m (iAt s (i : Int)) := by unfold mx; omega
    obtain ⟨q, hq, hiff⟩ := ih (i + 1) (mx m (iAt s (i : Int))) (by omega) (by omega) (by omega) h0
    refine ⟨q, Ev.succ ?_, ?_⟩
    · simp only [slices_Max_int_int.l0, rd_i]
      refine Ev.pos (by omega) (Ev.pos (by omega) ?_)
      rw [wrap64_id (by omega) (by omega)]
      exact hq
    · rw [hiff, hx]
      constructor
      · rintro ⟨h1, h2⟩
        refine ⟨by omega, fun j h3 h4 => ?_⟩
        by_cases e : i = j
        · subst e; omega
        · exact h2 j (by omega) h4
      · rintro ⟨h1, h2⟩
        have := h2 i (Nat.le_refl _) (by omega)
        exact ⟨by omega, fun j h3 h4 => h2 j (by omega) h4⟩
theorem max_ev {n : Int} {s : List Int} (hn : 1 ≤ n ∧ n ≤ 1000) (hs : Nm n s) : ∃ q, Ev (fun k => slices_Max_int_int.f k s) q ∧ (q = 0 ↔ ∀ j, 0 ≤ j → j < n → iAt s j = 0) := by
  have hl := hs.1
  have h0 : ∀ j : Nat, j < s.length → 0 ≤ iAt s (j : Int) := fun j hj => hs.2 j (by omega) (by omega)
  obtain ⟨q, hq, hiff⟩ := max_loop s (by omega) (s.length - 1) 1 (iAt s 0) (by omega) (by omega) (h0 0 (by omega)) h0
  refine ⟨q, ?_, ?_⟩
  · unfold slices_Max_int_int.f
    exact Ev.neg (by omega) (Ev.pos (by omega) hq)
  · rw [hiff]
    constructor
    · rintro ⟨h1, h2⟩ j h3 h4
      by_cases e : j = 0
      · rw [e]; exact h1
      · have := h2 j.toNat (by omega) (by omega)
        rw [show ((j.toNat : Nat) : Int) = j by omega] at this
        exact this
    · intro h
      exact ⟨h 0 (by omega) (by omega), fun j h3 h4 => h j (by omega) (by omega)⟩
theorem impl_l1 {n : Int} {ws : List Wr} (hn : 1 ≤ n ∧ n ≤ 1000) (hws : ∀ w ∈ ws, WireOk n w) (hl : ws.length ≤ 1000) (r : Bool) : ∀ (d : Nat) (b : Int) (s : List Int), n - b = d → 0 ≤ b → Nm n s → (∀ j, 0 ≤ j → j < n → iAt s j = 0 → Reach ws j) →
    (∀ q, Nm n (rounds ws d s) → (q = 0 ↔ ∀ j, 0 ≤ j → j < n → iAt (rounds ws d s) j = 0) → (q == (0 : Int)) = r) → Ev (fun k => impl_Net_isJoined.l1 k s n b n ws) r
  | 0, b, s, hd, hb, hs, hr, h => by
    obtain ⟨q, hq, hiff⟩ := max_ev hn hs
    refine Ev.succ ?_
    simp only [impl_Net_isJoined.l1]
    exact Ev.neg (by omega) (Ev.bind hq (Ev.eqr (Ev.now _) (h q hs hiff)))
  | d + 1, b, s, hd, hb, hs, hr, h => by
    obtain ⟨p1, p2, p3, p4⟩ := pass_all hws ws (fun _ h => h) s hs hr
    refine Ev.succ ?_
    simp only [impl_Net_isJoined.l1]
    refine Ev.pos (by omega) (impl_l2 hws hl n b r ws 0 s rfl (by simp) hs ?_)
    rw [wrap64_id (by omega) (by omega)]
    exact impl_l1 hn hws hl r d (b + 1) (pass s ws) (by omega) (by omega) p1 p3 h
def upTo : Nat → List Int
  | 0 => []
  | k + 1 => upTo k ++ [(k : Int)]
theorem upTo_len : ∀ k, (upTo k).length = k
  | 0 => rfl
  | k + 1 => by simp [upTo, upTo_len k]
theorem upTo_at : ∀ (k j : Nat), j < k → iAt (upTo k) (j : Int) = j
  | k + 1, j, h => by
    unfold iAt
    rw [Int.toNat_natCast]
    simp only [upTo, List.getD_eq_getElem?_getD]
    by_cases e : j < k
    · rw [List.getElem?_append_left (by rw [upTo_len]; exact e)]
      have := upTo_at k j e
      unfold iAt at this
      rw [Int.toNat_natCast, List.getD_eq_getElem?_getD] at this
      exact this
    · obtain rfl : j = k := by omega
      rw [List.getElem?_append_right (by rw [upTo_len]; exact Nat.le_refl _), upTo_len]; simp
theorem impl_l0 {n : Int} {ws : List Wr} (hn : 1 ≤ n ∧ n ≤ 1000) (r : Bool) (h : Ev (fun k => impl_Net_isJoined.l1 k (upTo n.toNat) n 0 n ws) r) : ∀ (d i : Nat), n - i = d → (i : Int) ≤ n →
    Ev (fun k => impl_Net_isJoined.l0 k (upTo i) n (i : Int) n ws) r
  | 0, i, hd, hi => by
    refine Ev.succ ?_
    simp only [impl_Net_isJoined.l0]
    refine Ev.neg (by omega) ?_
    rw [show i = n.toNat by omega]
    exact h
  | d + 1, i, hd, hi => by
    refine Ev.succ ?_
    simp only [impl_Net_isJoined.l0]
    have hl := upTo_len i
    refine Ev.pos (by omega) (Ev.pos (by omega) ?_)
    rw [wrap64_id (by omega) (by omega)]
    exact impl_l0 hn r h d (i + 1) (by omega) (by omega)
theorem up_nm {n : Int} (hn : 1 ≤ n) : Nm n (upTo n.toNat) := by
  refine ⟨by rw [upTo_len]; omega, fun j h0 h1 => ?_⟩
  have := upTo_at n.toNat j.toNat (by omega)
  rw [show ((j.toNat : Nat) : Int) = j by omega] at this
  omega
open Classical in
theorem isJoined_ev {n : Int} {ws : List Wr} (hn : 1 ≤ n ∧ n ≤ 1000) (hws : ∀ w ∈ ws, WireOk n w) (hl : ws.length ≤ 1000) : Ev (fun k => impl_Net_isJoined.f k n ws) (decide (Joined n ws)) := by
  have hs := up_nm hn.1
  have at0 : ∀ j, 0 ≤ j → j < n → iAt (upTo n.toNat) j = j := fun j h0 h1 => by
    have := upTo_at n.toNat j.toNat (by omega)
    rw [show ((j.toNat : Nat) : Int) = j by omega] at this
    exact this
  have hr : ∀ j, 0 ≤ j → j < n → iAt (upTo n.toNat) j = 0 → Reach ws j := fun j h0 h1 hz => by
    rw [at0 j h0 h1] at hz; rw [hz]; exact .zero
  unfold impl_Net_isJoined.f
  refine impl_l0 hn _ ?_ n.toNat 0 (by omega) (by omega)
  refine impl_l1 hn hws hl _ n.toNat 0 _ (by omega) (by omega) hs hr (fun q hq hiff => ?_)
  obtain ⟨f1, f2, f3⟩ := rounds_full hn.1 hws n.toNat 1 _ hs (at0 0 (by omega) (by omega)) hr (Or.inr (by
    refine List.countP_pos_iff.2 ⟨0, ?_, rfl⟩
    have hl := upTo_len n.toNat
    have := at_of (upTo n.toNat) 0 (by omega)
    have e := at0 0 (by omega) (by omega)
    rw [show (((0 : Nat)) : Int) = 0 from rfl, e] at this
    exact List.mem_of_getElem? this)) (by omega)
  rw [Bool.eq_iff_iff, beq_iff_eq, decide_eq_true_eq, hiff]
  exact ⟨fun h j h0 h1 => f3 j h0 h1 (h j h0 h1), fun h j h0 h1 => f1 j h0 h1 (h j h0 h1)⟩
theorem impl_IsNet_loop {n : Int} {ws : List Wr} (hn : 2 ≤ n ∧ n ≤ 12) (hl : ws.length ≤ 30) (r : Bool) (hall : (∀ w ∈ ws, WireOk n w) → Ev (fun k => impl_Net_isJoined.f k n ws) r) (hbad : ¬ (∀ w ∈ ws, WireOk n w) → r = false) : ∀ (t : List Wr) (i : Nat), ws.drop i = t → i + t.length = ws.length →
    ((∀ w ∈ t, WireOk n w) → ∀ w ∈ ws, WireOk n w) → Ev (fun k => impl_IsNet.l0 k ws (ws.length : Int) (i : Int) n ws) r
  | [], i, _, hi, h => by
    simp only [List.length_nil] at hi
    refine Ev.succ ?_
    simp only [impl_IsNet.l0]
    exact Ev.neg (by omega) (Ev.bind (hall (h fun w hw => by cases hw)) (Ev.now _))
  | w :: t, i, hd, hi, h => by
    obtain ⟨h1, h2, h3, h4, h5⟩ := wr_drop ws i w t hd
    have no : ¬ WireOk n w → r = false := fun hc => hbad fun ha => hc (ha w h4)
    refine Ev.succ ?_
    simp only [impl_IsNet.l0, rd_wr, h2]
    refine Ev.pos (by omega) (Ev.pos (by omega) (Ev.pos (by omega) (Ev.bindc (within_eqN _ _ _) ?_)))
    rw [wrap64_id (n := n - 1) (by omega) (by omega), wrap64_id (n := (i : Int) + 1) (by omega) (by omega)]
    by_cases c1 : 0 ≤ w.f0 ∧ w.f0 ≤ n - 1
    · rw [decide_eq_true c1]
      refine Ev.pos rfl (Ev.bindc (within_eqN _ _ _) ?_)
      by_cases c2 : 0 ≤ w.f1 ∧ w.f1 ≤ n - 1
      · rw [decide_eq_true c2]
        refine Ev.pos rfl ?_
        by_cases c3 : w.f0 = w.f1
        · exact Ev.pos c3 (Ev.eqr (Ev.now _) (no fun hc => hc.2.2 c3).symm)
        · refine Ev.neg c3 (impl_IsNet_loop hn hl r hall hbad t (i + 1) h3 (by omega) fun ht => h fun x hx => ?_)
          rcases List.mem_cons.1 hx with rfl | hx
          · exact ⟨c1, c2, c3⟩
          · exact ht x hx
      · rw [decide_eq_false c2]
        exact Ev.neg (by decide) (Ev.eqr (Ev.now _) (no fun hc => c2 hc.2.1).symm)
    · rw [decide_eq_false c1]
      exact Ev.neg (by decide) (Ev.eqr (Ev.now _) (no fun hc => c1 hc.1).symm)
open Classical in
theorem impl_IsNet_ev (n : Int) (ws : List Wr) : Ev (fun k => impl_IsNet.f k n ws) (decide (NetOk n ws)) := by
  have fall : ¬ NetOk n ws → Ev (fun k => impl_IsNet.j0 k true n ws) (decide (NetOk n ws)) := fun h => by
    rw [decide_eq_false h]
    refine Ev.succ ?_
    simp only [impl_IsNet.j0]
    exact Ev.pos trivial (Ev.now _)
  unfold impl_IsNet.f
  refine Ev.bindc (within_eqN _ _ _) ?_
  by_cases c1 : 2 ≤ n ∧ n ≤ 12
  · rw [decide_eq_true c1]
    refine Ev.pos rfl ?_
    by_cases c2 : (ws.length : Int) > 30
    · rw [decide_eq_true c2]
      exact fall fun h => by have := h.2.1; omega
    · rw [decide_eq_false c2]
      refine Ev.succ ?_
      simp only [impl_IsNet.j0]
      refine Ev.neg (by decide) (impl_IsNet_loop c1 (by omega) _ (fun ha => ?_) (fun hn => decide_eq_false fun h => hn h.2.2.1) ws 0 rfl (by simp) (fun h => h))
      refine Ev.eqr (isJoined_ev ⟨by omega, by omega⟩ ha (by omega)) ?_
      exact decide_eq_decide.2 ⟨fun h => ⟨c1, by omega, ha, h⟩, fun h => h.2.2.2⟩
  · rw [decide_eq_false c1]
    exact Ev.neg (by decide) (fall fun h => c1 h.1)

/-! the reference's loops -/
theorem rd_b (s : List Bool) (j : Int) : rdOf false s j = bAt s j := rfl
def Sn (n : Int) (ws : List Wr) (s : List Bool) : Prop := (s.length : Int) = n ∧ bAt s 0 = true ∧ ∀ j, 0 ≤ j → j < n → bAt s j = true → Reach ws j
def mark2 (s : List Bool) (w : Wr) : List Bool := (s.set w.f0.toNat true).set w.f1.toNat true
theorem mark2_at {n : Int} {s : List Bool} {w : Wr} (hl : (s.length : Int) = n) (hw : WireOk n w) (j : Int) (h0 : 0 ≤ j) : bAt (mark2 s w) j = (if j = w.f0 ∨ j = w.f1 then true else bAt s j) := by
  unfold WireOk at hw
  unfold mark2
  rw [bAt_set _ _ _ _ (by omega) (by rw [List.length_set]; omega) h0, bAt_set _ _ _ _ (by omega) (by omega) h0]
  by_cases e1 : j = w.f1
  · rw [if_pos e1, if_pos (Or.inr e1)]
  · rw [if_neg e1]
    by_cases e0 : j = w.f0
    · rw [if_pos e0, if_pos (Or.inl e0)]
    · rw [if_neg e0, if_neg (fun h => h.elim e0 e1)]
theorem bat_of (s : List Bool) (j : Nat) (h : j < s.length) : s[j]? = some (bAt s (j : Int)) := by
  unfold bAt; rw [Int.toNat_natCast, List.getD_eq_getElem?_getD, List.getElem?_eq_getElem h]; rfl
theorem mark2_lt {n : Int} {s : List Bool} {w : Wr} (hl : (s.length : Int) = n) (hw : WireOk n w) (hne : bAt s w.f0 ≠ bAt s w.f1) : s.countP id < (mark2 s w).countP id := by
  have hw' := hw
  unfold WireOk at hw'
  have hl2 : (mark2 s w).length = s.length := by unfold mark2; rw [List.length_set, List.length_set]
  refine countP_lt_of id id s (mark2 s w) hl2.symm (fun j x y hx hy hp => ?_) ?_
  · have hj : j < s.length := (List.getElem?_eq_some_iff.1 hx).1
    rw [bat_of s j hj] at hx
    rw [bat_of _ j (by omega)] at hy
    obtain rfl := Option.some.inj hx
    obtain rfl := Option.some.inj hy
    rw [mark2_at hl hw _ (by omega)]
    split
    · rfl
    · exact hp
  · by_cases hz : bAt s w.f0 = false
    · refine ⟨w.f0.toNat, false, true, ?_, ?_, rfl, rfl⟩
      · rw [bat_of s _ (by omega), show ((w.f0.toNat : Nat) : Int) = w.f0 by omega, hz]
      · rw [bat_of _ _ (by omega), show ((w.f0.toNat : Nat) : Int) = w.f0 by omega, mark2_at hl hw _ (by omega), if_pos (Or.inl rfl)]
    · have hz1 : bAt s w.f1 = false := by
        cases h0 : bAt s w.f0 <;> cases h1 : bAt s w.f1 <;> simp_all
      refine ⟨w.f1.toNat, false, true, ?_, ?_, rfl, rfl⟩
      · rw [bat_of s _ (by omega), show ((w.f1.toNat : Nat) : Int) = w.f1 by omega, hz1]
      · rw [bat_of _ _ (by omega), show ((w.f1.toNat : Nat) : Int) = w.f1 by omega, mark2_at hl hw _ (by omega), if_pos (Or.inr rfl)]
theorem mark2_sn {n : Int} {ws : List Wr} {s : List Bool} {w : Wr} (hs : Sn n ws s) (hw : WireOk n w) (hm : w ∈ ws) (hne : bAt s w.f0 ≠ bAt s w.f1) : Sn n ws (mark2 s w) := by
  obtain ⟨h1, h2, h3⟩ := hs
  have hw' := hw
  unfold WireOk at hw'
  refine ⟨by unfold mark2; rw [List.length_set, List.length_set]; exact h1, ?_, fun j h0 hj hb => ?_⟩
  · rw [mark2_at h1 hw 0 (by omega)]; split
    · rfl
    · exact h2
  · rw [mark2_at h1 hw j h0] at hb
    have hh : Reach ws w.f0 ∧ Reach ws w.f1 := by
      by_cases hz : bAt s w.f0 = true
      · have := h3 w.f0 (by omega) (by omega) hz; exact ⟨this, .fwd w hm this⟩
      · have hz1 : bAt s w.f1 = true := by
          cases h0 : bAt s w.f0 <;> cases h1 : bAt s w.f1 <;> simp_all
        have := h3 w.f1 (by omega) (by omega) hz1; exact ⟨.bwd w hm this, this⟩
    split at hb
    · rename_i h
      rcases h with e | e <;> subst e
      · exact hh.1
      · exact hh.2
    · exact h3 j h0 hj hb
/-- one pass of the reference over wires from place i on -/
theorem spec_l1 {n : Int} {ws : List Wr} (hws : ∀ w ∈ ws, WireOk n w) (hl : ws.length ≤ 1000) (r : Bool) : ∀ (t : List Wr) (i : Nat) (s : List Bool) (ag : Bool), ws.drop i = t → i + t.length = ws.length → Sn n ws s →
    (∀ s' ag', Sn n ws s' → s.countP id ≤ s'.countP id → (ag' = false → ag = false ∧ s' = s ∧ ∀ w ∈ t, bAt s w.f0 = bAt s w.f1) → (ag' = true → ag = true ∨ s.countP id < s'.countP id) → Ev (fun k => spec_neJoined.l0 k s' ag' n ws) r) →
    Ev (fun k => spec_neJoined.l1 k s ag ws (ws.length : Int) (i : Int) n ws) r
  | [], i, s, ag, _, hi, hs, h => by
    simp only [List.length_nil] at hi
    refine Ev.succ ?_
    simp only [spec_neJoined.l1]
    exact Ev.neg (by omega) (h s ag hs (Nat.le_refl _) (fun e => ⟨e, rfl, fun w hw => by cases hw⟩) (fun e => Or.inl e))
  | w :: t, i, s, ag, hd, hi, hs, h => by
    obtain ⟨h1, h2, h3, h4, h5⟩ := wr_drop ws i w t hd
    have hw := hws w h4
    have hw' := hw
    unfold WireOk at hw'
    have hsl := hs.1
    refine Ev.succ ?_
    simp only [spec_neJoined.l1, rd_wr, h2, rd_b]
    refine Ev.pos (by omega) (Ev.pos (by omega) (Ev.pos (by omega) (Ev.pos (by omega) (Ev.pos (by omega) (Ev.pos (by omega) (Ev.pos (by omega) ?_))))))
    rw [wrap64_id (n := (i : Int) + 1) (by omega) (by omega)]
    by_cases hne : bAt s w.f0 = bAt s w.f1
    · refine Ev.neg (by simp [hne]) (spec_l1 hws hl r t (i + 1) s ag h3 (by omega) hs fun s' ag' q1 q2 q3 q4 => h s' ag' q1 q2 (fun e => ?_) q4)
      obtain ⟨a, b, c⟩ := q3 e
      refine ⟨a, b, fun x hx => ?_⟩
      rcases List.mem_cons.1 hx with rfl | hx
      · exact hne
      · exact c x hx
    · have lt := mark2_lt hsl hw hne
      refine Ev.pos (by simpa using hne) (spec_l1 hws hl r t (i + 1) (mark2 s w) true h3 (by omega) (mark2_sn hs hw h4 hne) fun s' ag' q1 q2 q3 q4 => h s' ag' q1 (by omega) (fun e => ?_) (fun e => Or.inr (by omega)))
      exact absurd (q3 e).1 (by decide)
theorem spec_l2 (s : List Bool) (hl : s.length ≤ 1000) : ∀ (d i : Nat), s.length - i = d → i ≤ s.length → ∀ r : Bool, (r = true ↔ ∀ j, i ≤ j → j < s.length → bAt s (j : Int) = true) → Ev (fun k => spec_neJoined.l2 k s (s.length : Int) (i : Int)) r := by
  intro d
  induction d with
  | zero =>
    intro i hd hi r hr
    refine Ev.succ ?_
    simp only [spec_neJoined.l2]
    refine Ev.neg (by omega) (Ev.eqr (Ev.now _) ?_)
    exact (hr.2 fun j h1 h2 => by omega).symm
  | succ d ih =>
    intro i hd hi r hr
    refine Ev.succ ?_
    simp only [spec_neJoined.l2, rd_b]
    refine Ev.pos (by omega) (Ev.pos (by omega) (Ev.pos (by omega) ?_))
    rw [wrap64_id (by omega) (by omega)]
    by_cases hb : bAt s (i : Int) = true
    · refine Ev.pos hb (ih (i + 1) (by omega) (by omega) r ?_)
      rw [hr]
      exact ⟨fun h j h1 h2 => h j (by omega) h2, fun h j h1 h2 => by
        by_cases e : i = j
        · subst e; exact hb
        · exact h j (by omega) h2⟩
    · refine Ev.neg hb (Ev.eqr (Ev.now _) ?_)
      cases hq : r with
      | false => rfl
      | true => exact absurd (hr.1 hq i (Nat.le_refl _) (by omega)) hb
open Classical in
theorem spec_l0 {n : Int} {ws : List Wr} (hn : 1 ≤ n ∧ n ≤ 1000) (hws : ∀ w ∈ ws, WireOk n w) (hl : ws.length ≤ 1000) : ∀ (d : Nat) (s : List Bool), Sn n ws s → s.length - s.countP id ≤ d → Ev (fun k => spec_neJoined.l0 k s true n ws) (decide (Joined n ws)) := by
  have fin : ∀ s, Sn n ws s → (∀ w ∈ ws, bAt s w.f0 = bAt s w.f1) → Ev (fun k => spec_neJoined.l0 k s false n ws) (decide (Joined n ws)) := by
    intro s hs hc
    have hsl := hs.1
    refine Ev.succ ?_
    simp only [spec_neJoined.l0]
    refine Ev.neg (by decide) (spec_l2 s (by omega) s.length 0 (by omega) (Nat.zero_le _) _ ?_)
    rw [decide_eq_true_eq]
    constructor
    · intro h j _ hj
      have hr := h (j : Int) (by omega) (by omega)
      have : ∀ x, Reach ws x → 0 ≤ x ∧ x < n ∧ bAt s x = true := by
        intro x hx
        induction hx with
        | zero => exact ⟨by omega, by omega, hs.2.1⟩
        | fwd w hw _ ih => have := hws w hw; unfold WireOk at this; exact ⟨by omega, by omega, by rw [← hc w hw]; exact ih.2.2⟩
        | bwd w hw _ ih => have := hws w hw; unfold WireOk at this; exact ⟨by omega, by omega, by rw [hc w hw]; exact ih.2.2⟩
      exact (this _ hr).2.2
    · intro h j h0 h1
      have := h j.toNat (Nat.zero_le _) (by omega)
      rw [show ((j.toNat : Nat) : Int) = j by omega] at this
      exact hs.2.2 j h0 h1 this
  intro d
  induction d with
  | zero =>
    intro s hs hd
    have hcl := List.countP_le_length (p := id) (l := s)
    have hsl := hs.1
    refine Ev.succ ?_
    simp only [spec_neJoined.l0]
    refine Ev.pos trivial (spec_l1 hws hl _ ws 0 s false rfl (by simp) hs fun s' ag' q1 q2 q3 q4 => ?_)
    have hcl' := List.countP_le_length (p := id) (l := s')
    have hsl' := q1.1
    cases ag' with
    | false =>
      obtain ⟨_, b, c⟩ := q3 rfl
      subst b
      exact fin s' q1 c
    | true =>
      rcases q4 rfl with h | h
      · cases h
      · omega
  | succ d ih =>
    intro s hs hd
    have hsl := hs.1
    refine Ev.succ ?_
    simp only [spec_neJoined.l0]
    refine Ev.pos trivial (spec_l1 hws hl _ ws 0 s false rfl (by simp) hs fun s' ag' q1 q2 q3 q4 => ?_)
    have hsl' := q1.1
    cases ag' with
    | false =>
      obtain ⟨_, b, c⟩ := q3 rfl
      subst b
      exact fin s' q1 c
    | true =>
      rcases q4 rfl with h | h
      · cases h
      · exact ih s' q1 (by omega)
open Classical in
theorem neJoined_ev {n : Int} {ws : List Wr} (hn : 1 ≤ n ∧ n ≤ 1000) (hws : ∀ w ∈ ws, WireOk n w) (hl : ws.length ≤ 1000) : Ev (fun k => spec_neJoined.f k n ws) (decide (Joined n ws)) := by
  unfold spec_neJoined.f
  refine Ev.pos (by omega) (Ev.pos (by omega) (Ev.bindc rfl (Ev.pos (by rw [List.length_replicate]; omega) ?_)))
  refine spec_l0 hn hws hl _ _ ⟨by simp; omega, ?_, fun j h0 h1 hb => ?_⟩ (Nat.le_refl _)
  · have := bAt_set (List.replicate n.toNat false) 0 0 true (by omega) (by simp; omega) (by omega)
    rw [if_pos rfl] at this; exact this
  · have := bAt_set (List.replicate n.toNat false) 0 j true (by omega) (by simp; omega) (by omega)
    have hb' : bAt ((List.replicate n.toNat false).set (0 : Int).toNat true) j = true := hb
    rw [this] at hb'
    by_cases e : j = 0
    · rw [e]; exact .zero
    · rw [if_neg e] at hb'
      unfold bAt at hb'
      rw [List.getD_eq_getElem?_getD, List.getElem?_replicate] at hb'
      split at hb' <;> cases hb'
theorem neWire_eq {n : Int} (hn : 2 ≤ n ∧ n ≤ 12) (ws : List Wr) (w : Wr) : spec_neWire.f n ws w.f0 w.f1 = some (decide (WireOk n w)) := by
  unfold spec_neWire.f WireOk
  rw [wrap64_id (by omega) (by omega), l1In_eqN, l1In_eqN]
  by_cases c1 : 0 ≤ w.f0 ∧ w.f0 ≤ n - 1
  · by_cases c2 : 0 ≤ w.f1 ∧ w.f1 ≤ n - 1
    · by_cases c3 : w.f0 = w.f1
      · simp [c1, c2, c3]
      · simp [c1, c2, c3]
    · simp [c1, c2]
  · simp [c1]
theorem spec_neGood_loop {n : Int} {ws : List Wr} (hn : 2 ≤ n ∧ n ≤ 12) (hl : ws.length ≤ 30) (r : Bool) (hall : (∀ w ∈ ws, WireOk n w) → Ev (fun k => spec_neJoined.f k n ws) r) (hbad : ¬ (∀ w ∈ ws, WireOk n w) → r = false) : ∀ (t : List Wr) (i : Nat), ws.drop i = t → i + t.length = ws.length →
    ((∀ w ∈ t, WireOk n w) → ∀ w ∈ ws, WireOk n w) → Ev (fun k => spec_neGood.l0 k ws (ws.length : Int) (i : Int) n ws) r
  | [], i, _, hi, h => by
    simp only [List.length_nil] at hi
    refine Ev.succ ?_
    simp only [spec_neGood.l0]
    exact Ev.neg (by omega) (Ev.bind (hall (h fun w hw => by cases hw)) (Ev.now _))
  | w :: t, i, hd, hi, h => by
    obtain ⟨h1, h2, h3, h4, h5⟩ := wr_drop ws i w t hd
    refine Ev.succ ?_
    simp only [spec_neGood.l0, rd_wr, h2]
    refine Ev.pos (by omega) (Ev.pos (by omega) (Ev.pos (by omega) (Ev.bindc (neWire_eq hn ws w) ?_)))
    rw [wrap64_id (n := (i : Int) + 1) (by omega) (by omega)]
    by_cases c : WireOk n w
    · rw [decide_eq_true c]
      refine Ev.pos rfl (spec_neGood_loop hn hl r hall hbad t (i + 1) h3 (by omega) fun ht => h fun x hx => ?_)
      rcases List.mem_cons.1 hx with rfl | hx
      · exact c
      · exact ht x hx
    · rw [decide_eq_false c]
      exact Ev.neg (by decide) (Ev.eqr (Ev.now _) (hbad fun ha => c (ha w h4)).symm)
theorem joined_some {n : Int} {ws : List Wr} (hn : 2 ≤ n) (h : Joined n ws) : ws ≠ [] := by
  intro e
  subst e
  have := h 1 (by omega) (by omega)
  generalize hx : (1 : Int) = x at this
  cases this with
  | zero => omega
  | fwd w hw _ => cases hw
  | bwd w hw _ => cases hw
open Classical in
theorem spec_neGood_ev (n : Int) (ws : List Wr) : Ev (fun k => spec_neGood.f k n ws) (decide (NetOk n ws)) := by
  have fall : ¬ NetOk n ws → Ev (fun k => spec_neGood.j0 k true n ws) (decide (NetOk n ws)) := fun h => by
    rw [decide_eq_false h]
    refine Ev.succ ?_
    simp only [spec_neGood.j0]
    exact Ev.pos trivial (Ev.now _)
  unfold spec_neGood.f
  refine Ev.bindc (l1In_eqN _ _ _) ?_
  by_cases c1 : 2 ≤ n ∧ n ≤ 12
  · rw [decide_eq_true c1]
    refine Ev.pos rfl (Ev.bindc (l1In_eqN _ _ _) ?_)
    by_cases c2 : 1 ≤ (ws.length : Int) ∧ (ws.length : Int) ≤ 30
    · rw [decide_eq_true c2]
      refine Ev.succ ?_
      simp only [spec_neGood.j0, Bool.not_true]
      refine Ev.neg (by decide) (spec_neGood_loop c1 (by omega) _ (fun ha => ?_) (fun hn => decide_eq_false fun h => hn h.2.2.1) ws 0 rfl (by simp) (fun h => h))
      refine Ev.eqr (neJoined_ev ⟨by omega, by omega⟩ ha (by omega)) ?_
      exact decide_eq_decide.2 ⟨fun h => ⟨c1, by omega, ha, h⟩, fun h => h.2.2.2⟩
    · rw [decide_eq_false c2]
      refine fall fun h => ?_
      have h1 := joined_some c1.1 h.2.2.2
      have h2 := h.2.1
      have : 0 < ws.length := List.length_pos_iff.2 h1
      omega
  · rw [decide_eq_false c1]
    exact Ev.neg (by decide) (fall fun h => c1 h.1)

theorem eqWireS_loop (l : List Wr) (hl : l.length ≤ 1099511627776) : ∀ (d i : Nat), l.length - i = d → i ≤ l.length → Ev (fun k => laws_eqWireS.l0 k l l (i : Int)) true := by
  intro d
  induction d with
  | zero =>
    intro i hd hi
    refine Ev.succ ?_
    simp only [laws_eqWireS.l0]
    exact Ev.neg (by omega) (Ev.now _)
  | succ d ih =>
    intro i hd hi
    refine Ev.succ ?_
    simp only [laws_eqWireS.l0]
    refine Ev.pos (by omega) (Ev.pos (by omega) (Ev.pos (by omega) (Ev.bindc (a := true) (by unfold laws_eqWire.f; simp) (Ev.pos rfl ?_))))
    rw [wrap64_id (by omega) (by omega)]
    exact ih (i + 1) (by omega) (by omega)
theorem eqWireS_ev (l : List Wr) (hl : l.length ≤ 1099511627776) : Ev (fun k => laws_eqWireS.f k l l) true := by
  unfold laws_eqWireS.f
  exact Ev.pos rfl (eqWireS_loop l hl l.length 0 (by omega) (Nat.zero_le _))
theorem eqNet_ev (n : Int) (l : List Wr) (hl : l.length ≤ 1099511627776) : Ev (fun k => laws_eqNet.f k n l n l) true := by
  unfold laws_eqNet.f
  exact Ev.pos rfl (Ev.bind (eqWireS_ev l hl) (Ev.pos rfl (Ev.now _)))

/-! ### wires that are marked and held -/
def upW (s : Int) : Nat → List Wr
  | 0 => []
  | n + 1 => ⟨s, s + 1⟩ :: upW (s + 2) n
theorem upW_length (n : Nat) : ∀ s, (upW s n).length = n := by
  induction n with
  | zero => intro s; rfl
  | succ n ih => intro s; simp [upW, ih]
theorem upW_get (n : Nat) : ∀ (s : Int) (i : Nat), i < n → (upW s n)[i]? = some ⟨s + 2 * i, s + 2 * i + 1⟩ := by
  induction n with
  | zero => intro s i h; omega
  | succ n ih =>
    intro s i h
    cases i with
    | zero => simp [upW]
    | succ i =>
      simp only [upW, List.getElem?_cons_succ]; rw [ih (s + 2) i (by omega)]
      have e : s + 2 + 2 * (i : Int) = s + 2 * ((i + 1 : Nat) : Int) := by omega
      rw [e]
theorem markWireS_loop (N : Nat) (hN : N ≤ 1099511627776) (s : Int) (hs : 0 ≤ s) (hs2 : s ≤ 1099511627776) : ∀ (d i : Nat) (x : List Wr), N - i = d → i ≤ N → x.length = N → (∀ m, m < i → x[m]? = (upW s N)[m]?) →
    Ev (fun k => laws_markWireS.l0 k x (s + 2 * i) (i : Int)) (s + 2 * N, upW s N) := by
  intro d
  induction d with
  | zero =>
    intro i x hd hi hx h
    obtain rfl : i = N := by omega
    refine Ev.succ ?_
    simp only [laws_markWireS.l0]
    refine Ev.neg (by omega) (Ev.eqr (Ev.now _) ?_)
    congr 1
    apply List.ext_getElem?
    intro m
    by_cases hm : m < i
    · exact h m hm
    · rw [List.getElem?_eq_none (by omega), List.getElem?_eq_none (by rw [upW_length]; omega)]
  | succ d ih =>
    intro i x hd hi hx h
    refine Ev.succ ?_
    simp only [laws_markWireS.l0]
    refine Ev.pos (by omega) (Ev.pos (by omega) (Ev.bindc rfl ?_))
    have hi' : i < x.length := by omega
    have g1 : ∀ q : Wr, wrAt (x.set i q) i = q := fun q => by unfold wrAt; simp [List.getD, hi']
    simp only [Int.toNat_natCast, rd_wr, g1]
    rw [wrap64_id (n := s + 2 * i + 1) (by omega) (by omega), wrap64_id (n := s + 2 * i + 1 + 1) (by omega) (by omega), wrap64_id (n := (i : Int) + 1) (by omega) (by omega)]
    have e : s + 2 * (i : Int) + 1 + 1 = s + 2 * ((i + 1 : Nat) : Int) := by omega
    rw [e]
    refine ih (i + 1) _ (by omega) (by omega) (by simp; omega) (fun m hm => ?_)
    by_cases e : m = i
    · subst e
      rw [List.getElem?_set_self (by simp; omega), upW_get _ _ _ (by omega)]
    · rw [List.getElem?_set_ne (by omega), List.getElem?_set_ne (by omega)]; exact h m (by omega)
theorem heldWireS_loop (N : Nat) (hN : N ≤ 1099511627776) (s : Int) (hs : 0 ≤ s) (hs2 : s ≤ 1099511627776) : ∀ (d i : Nat), N - i = d → i ≤ N →
    Ev (fun k => laws_heldWireS.l0 k (upW s N) (s + 2 * i) (i : Int)) (s + 2 * N) := by
  intro d
  induction d with
  | zero =>
    intro i hd hi
    obtain rfl : i = N := by omega
    refine Ev.succ ?_
    simp only [laws_heldWireS.l0, upW_length]
    exact Ev.neg (by omega) (Ev.now _)
  | succ d ih =>
    intro i hd hi
    refine Ev.succ ?_
    simp only [laws_heldWireS.l0, upW_length]
    have hr : rd_T47 (upW s N) (i : Int) = ⟨s + 2 * i, s + 2 * i + 1⟩ := by
      rw [rd_wr]; unfold wrAt; rw [List.getD_eq_getElem?_getD, upW_get _ _ _ (by omega)]; rfl
    rw [hr, wrap64_id (n := s + 2 * i + 1) (by omega) (by omega), wrap64_id (n := s + 2 * i + 1 + 1) (by omega) (by omega), wrap64_id (n := (i : Int) + 1) (by omega) (by omega)]
    refine Ev.pos (by omega) (Ev.pos (by omega) (Ev.pos rfl (Ev.pos rfl ?_)))
    have e : s + 2 * (i : Int) + 1 + 1 = s + 2 * ((i + 1 : Nat) : Int) := by omega
    rw [e]
    exact ih (i + 1) (by omega) (by omega)
theorem markNet_ev (n : Int) (l : List Wr) (hl : l.length ≤ 1099511627776) (s : Int) (hs : 0 ≤ s) (hs2 : s ≤ 1099511627776) : Ev (fun k => laws_markNet.f k n l s) (s + 2 * (l.length : Int), upW s l.length) := by
  unfold laws_markNet.f laws_markWireS.f
  have := markWireS_loop l.length hl s hs hs2 l.length 0 l (by omega) (Nat.zero_le _) rfl (fun m hm => by omega)
  exact Ev.bind (by simpa using this) (Ev.now _)

theorem heldNet_ev (n : Int) (N : Nat) (hl : N ≤ 1099511627776) (s : Int) (hs : 0 ≤ s) (hs2 : s ≤ 1099511627776) : Ev (fun k => laws_heldNet.f k n (upW s N) s) (s + 2 * (N : Int)) := by
  unfold laws_heldNet.f laws_heldWireS.f
  have := heldWireS_loop N hl s hs hs2 N 0 (by omega) (Nat.zero_le _)
  exact Ev.bind (by simpa using this) (Ev.neg (by omega) (Ev.now _))

/-! ### texts: numerals and what is joined -/
def mk (l : List UInt8) : ByteArray := ⟨l.toArray⟩
theorem mk_app (a b : List UInt8) : mk a ++ mk b = mk (a ++ b) := by
  unfold mk
  apply ByteArray.ext
  rw [ByteArray.data_append]
  simp
theorem mk_size (a : List UInt8) : (mk a).size = a.length := by simp [mk, ByteArray.size]
theorem mk_data (a : List UInt8) : (mk a).data.toList = a := by simp [mk]
abbrev dd (a : Int) : List UInt8 := Lib.decDigits a.toNat
theorem dd_one (u : Nat) (h : u < 10) : Lib.decDigits u = [UInt8.ofNat (48 + u)] := by rw [Lib.decDigits, dif_pos h]
theorem dd_two (u : Nat) (h : ¬ u < 10) : Lib.decDigits u = Lib.decDigits (u / 10) ++ [UInt8.ofNat (48 + u % 10)] := by rw [Lib.decDigits, dif_neg h]
theorem dd_len2 (u : Nat) (h : u < 100) : (Lib.decDigits u).length ≤ 2 := by
  by_cases h1 : u < 10
  · rw [dd_one u h1]; simp
  · rw [dd_two u h1, dd_one (u / 10) (by omega)]; simp
theorem dd_len (u : Nat) (h : u < 1000) : (Lib.decDigits u).length ≤ 3 := by
  by_cases h1 : u < 10
  · rw [dd_one u h1]; simp
  · rw [dd_two u h1]
    have := dd_len2 (u / 10) (by omega)
    simp only [List.length_append, List.length_cons, List.length_nil]
    omega
theorem num_one (a : Int) (h0 : 0 ≤ a) (h1 : a < 10) : strOfNums [(wrap64 (48 + a)) % 256] = mk (dd a) := by
  rw [wrap64_id (by omega) (by omega)]
  unfold mk dd strOfNums
  rw [dd_one a.toNat (by omega)]
  simp only [List.map_cons, List.map_nil]
  rw [show ((48 + a) % 256).toNat = 48 + a.toNat by omega]
theorem l1Num_one (a : Int) (h0 : 0 ≤ a) (h : a < 10) : Ev (fun k => spec_l1Num.f k a) (mk (dd a)) := by
  refine Ev.succ ?_
  simp only [spec_l1Num.f]
  exact Ev.pos h (Ev.eqr (Ev.now _) (num_one a h0 h))
theorem l1Num_step (a : Int) (h0 : 10 ≤ a) (h1 : a < 1000) (hq : Ev (fun k => spec_l1Num.f k (a / 10)) (mk (dd (a / 10)))) : Ev (fun k => spec_l1Num.f k a) (mk (dd a)) := by
  refine Ev.succ ?_
  simp only [spec_l1Num.f]
  refine Ev.neg (by omega) ?_
  have e1 : Int.tdiv a 10 = a / 10 := Int.tdiv_eq_ediv_of_nonneg (by omega)
  have e2 : Int.tmod a 10 = a % 10 := Int.tmod_eq_emod_of_nonneg (by omega)
  rw [e1, e2, wrap64_id (n := a / 10) (by omega) (by omega)]
  refine Ev.bind hq (Ev.bindc rfl ?_)
  have e3 := num_one (a % 10) (by omega) (by omega)
  rw [e3]
  have l1 := dd_len (a / 10).toNat (by omega)
  have l2 := dd_len (a % 10).toNat (by omega)
  refine Ev.pos (by rw [mk_size, mk_size]; show (Lib.decDigits (a / 10).toNat).length + (Lib.decDigits (a % 10).toNat).length ≤ _; omega) (Ev.eqr (Ev.now _) ?_)
  rw [mk_app]
  congr 1
  show Lib.decDigits (a / 10).toNat ++ Lib.decDigits (a % 10).toNat = Lib.decDigits a.toNat
  rw [dd_two a.toNat (by omega), dd_one (a % 10).toNat (by omega), show (a / 10).toNat = a.toNat / 10 by omega, show (a % 10).toNat = a.toNat % 10 by omega]
theorem l1Num_ev (a : Int) (h0 : 0 ≤ a) (h1 : a < 1000) : Ev (fun k => spec_l1Num.f k a) (mk (dd a)) := by
  by_cases h : a < 10
  · exact l1Num_one a h0 h
  · refine l1Num_step a (by omega) h1 ?_
    by_cases h2 : a / 10 < 10
    · exact l1Num_one (a / 10) (by omega) h2
    · exact l1Num_step (a / 10) (by omega) (by omega) (l1Num_one (a / 10 / 10) (by omega) (by omega))

/-! ### texts split at a byte -/
def spl (b : UInt8) : List UInt8 → List (List UInt8)
  | [] => [[]]
  | c :: t => if c = b then [] :: spl b t else match spl b t with
    | [] => [[c]]
    | g :: r => (c :: g) :: r
theorem spl_ne (b : UInt8) : ∀ l, spl b l ≠ [] := by
  intro l
  cases l with
  | nil => simp [spl]
  | cons c t =>
    simp only [spl]
    split
    · simp
    · split <;> simp
theorem spl_none (b : UInt8) : ∀ p : List UInt8, b ∉ p → spl b p = [p] := by
  intro p
  induction p with
  | nil => intro _; rfl
  | cons c t ih =>
    intro h
    have h1 : c ≠ b := fun e => h (by rw [e]; exact List.mem_cons_self)
    simp only [spl]
    rw [if_neg h1, ih (fun hm => h (List.mem_cons_of_mem _ hm))]
theorem spl_some (b : UInt8) (q : List UInt8) : ∀ p : List UInt8, b ∉ p → spl b (p ++ b :: q) = p :: spl b q := by
  intro p
  induction p with
  | nil => intro _; simp [spl]
  | cons c t ih =>
    intro h
    have h1 : c ≠ b := fun e => h (by rw [e]; exact List.mem_cons_self)
    rw [List.cons_append]
    simp only [spl]
    rw [if_neg h1, ih (fun hm => h (List.mem_cons_of_mem _ hm))]
theorem spl_parts (b : UInt8) : ∀ l, ∀ g ∈ spl b l, b ∉ g := by
  intro l
  induction l with
  | nil => intro g hg; simp only [spl, List.mem_singleton] at hg; subst hg; exact List.not_mem_nil
  | cons c t ih =>
    intro g hg
    simp only [spl] at hg
    split at hg
    · rcases List.mem_cons.1 hg with e | e
      · subst e; exact List.not_mem_nil
      · exact ih g e
    · rename_i h1
      cases hs : spl b t with
      | nil => exact absurd hs (spl_ne b t)
      | cons g0 r =>
        rw [hs] at hg ih
        rcases List.mem_cons.1 hg with e | e
        · subst e
          intro hm
          rcases List.mem_cons.1 hm with e2 | e2
          · exact h1 e2.symm
          · exact ih g0 List.mem_cons_self e2
        · exact ih g (List.mem_cons_of_mem _ e)
theorem spl_join (b : UInt8) : ∀ l, Lib.join (spl b l) [b] = l := by
  intro l
  induction l with
  | nil => exact Lib.join_one _ _
  | cons c t ih =>
    simp only [spl]
    cases hs : spl b t with
    | nil => exact absurd hs (spl_ne b t)
    | cons g r =>
      rw [hs, Lib.join_cons] at ih
      split
      · rename_i h1
        rw [Lib.join_cons]
        simp only [List.nil_append]
        rw [h1, ← ih]
        simp [Lib.joinTail]
      · rw [Lib.join_cons, List.cons_append, ih]
theorem spl_of_join (b : UInt8) : ∀ ps : List (List UInt8), ps ≠ [] → (∀ p ∈ ps, b ∉ p) → spl b (Lib.join ps [b]) = ps := by
  intro ps
  induction ps with
  | nil => intro h _; exact absurd rfl h
  | cons p r ih =>
    intro _ hb
    cases r with
    | nil => rw [Lib.join_one]; exact spl_none b p (hb p List.mem_cons_self)
    | cons q r =>
      have h2 := ih (by simp) (fun z hz => hb z (List.mem_cons_of_mem _ hz))
      rw [Lib.join_cons]
      have e : p ++ Lib.joinTail [b] (q :: r) = p ++ b :: Lib.join (q :: r) [b] := by
        rw [Lib.join_cons]
        simp [Lib.joinTail]
      rw [e, spl_some b _ p (hb p List.mem_cons_self), h2]
theorem first_at (b : UInt8) : ∀ l : List UInt8, b ∈ l → ∃ p q, l = p ++ b :: q ∧ b ∉ p := by
  intro l
  induction l with
  | nil => intro h; exact absurd h List.not_mem_nil
  | cons c t ih =>
    intro h
    by_cases e : c = b
    · exact ⟨[], t, by rw [e]; rfl, List.not_mem_nil⟩
    · have hm : b ∈ t := (List.mem_cons.1 h).elim (fun e2 => absurd e2.symm e) id
      obtain ⟨p, q, h1, h2⟩ := ih hm
      exact ⟨c :: p, q, by rw [h1]; rfl, fun hx => (List.mem_cons.1 hx).elim (fun e2 => e e2.symm) h2⟩
theorem index_none (b : UInt8) : ∀ l : List UInt8, b ∉ l → Lib.index l [b] = -1 := by
  intro l
  induction l with
  | nil => intro _; rfl
  | cons c t ih =>
    intro h
    have h1 : ¬ b = c := fun e => h (by rw [e]; exact List.mem_cons_self)
    have h2 := ih (fun hm => h (List.mem_cons_of_mem _ hm))
    simp [Lib.index, List.isPrefixOf, h1, h2]
theorem index_some (b : UInt8) (q : List UInt8) : ∀ p : List UInt8, b ∉ p → Lib.index (p ++ b :: q) [b] = p.length := by
  intro p
  induction p with
  | nil => intro _; simp [Lib.index, List.isPrefixOf]
  | cons c t ih =>
    intro h
    have h1 : ¬ b = c := fun e => h (by rw [e]; exact List.mem_cons_self)
    have h2 := ih (fun hm => h (List.mem_cons_of_mem _ hm))
    rw [List.cons_append]
    simp only [Lib.index, List.isPrefixOf, Bool.and_true, beq_iff_eq, h1, if_false, h2]
    rw [if_neg (by omega), List.length_cons]
    omega
theorem count_fuel (b : UInt8) : ∀ (n f : Nat) (s : List UInt8), s.length ≤ n → s.length + 1 ≤ f → Lib.countFrom [b] f s = Lib.countFrom [b] (s.length + 1) s := by
  intro n
  induction n with
  | zero =>
    intro f s hn hf
    obtain ⟨f, rfl⟩ : ∃ g, f = g + 1 := ⟨f - 1, by omega⟩
    have e : s = [] := List.eq_nil_of_length_eq_zero (by omega)
    subst e
    simp [Lib.countFrom, Lib.index]
  | succ n ih =>
    intro f s hn hf
    obtain ⟨f, rfl⟩ : ∃ g, f = g + 1 := ⟨f - 1, by omega⟩
    by_cases hb : b ∈ s
    · obtain ⟨p, q, e, hp⟩ := first_at b s hb
      have hl : s.length = p.length + (q.length + 1) := by rw [e, List.length_append, List.length_cons]
      have hi : Lib.index s [b] = p.length := by rw [e]; exact index_some b q p hp
      have hd : s.drop ((Lib.index s [b]).toNat + [b].length) = q := by
        rw [hi, e, Int.toNat_natCast]
        simp
      have hne : ¬ (Lib.index s [b] == -1) = true := by rw [hi]; simp
      simp only [Lib.countFrom]
      rw [if_neg hne, if_neg hne, hd, ih f q (by omega) (by omega), ih s.length q (by omega) (by omega)]
    · have hi := index_none b s hb
      simp [Lib.countFrom, hi]
theorem splitK_spl (b : UInt8) : ∀ (n : Nat) (s : List UInt8), s.length ≤ n → Lib.splitK [b] 0 (Lib.count s [b]) s = spl b s := by
  intro n
  induction n with
  | zero =>
    intro s hn
    have e : s = [] := List.eq_nil_of_length_eq_zero (by omega)
    subst e
    rfl
  | succ n ih =>
    intro s hn
    by_cases hb : b ∈ s
    · obtain ⟨p, q, e, hp⟩ := first_at b s hb
      have hl : s.length = p.length + (q.length + 1) := by rw [e, List.length_append, List.length_cons]
      have hi : Lib.index s [b] = p.length := by rw [e]; exact index_some b q p hp
      have hd : s.drop ((Lib.index s [b]).toNat + [b].length) = q := by
        rw [hi, e, Int.toNat_natCast]
        simp
      have hne : ¬ (Lib.index s [b] == -1) = true := by rw [hi]; simp
      have hc : Lib.count s [b] = Lib.count q [b] + 1 := by
        unfold Lib.count
        simp only [Lib.countFrom]
        rw [if_neg hne, hd, count_fuel b q.length s.length q (Nat.le_refl _) (by omega)]
        simp only [Lib.countFrom]
        omega
      rw [hc]
      simp only [Lib.splitK]
      rw [if_neg hne, hd, ih q (by omega), hi, e, spl_some b q p hp]
      simp
    · have hi := index_none b s hb
      rw [spl_none b s hb]
      unfold Lib.count
      simp [Lib.countFrom, hi, Lib.splitK]

/-! ### what strconv.Atoi makes of a numeral -/
theorem dig_val : ∀ x : Nat, x < 10 → Lib.digitVal (UInt8.ofNat (48 + x)) = some x := by decide
theorem dig_ne : ∀ x : Nat, x < 10 → (UInt8.ofNat (48 + x)).toNat ≠ 43 ∧ (UInt8.ofNat (48 + x)).toNat ≠ 45 := by decide
theorem dd_form (u : Nat) (h : u < 1000) : ∃ x : Nat, x < 10 ∧ ∃ r : List UInt8, Lib.decDigits u = UInt8.ofNat (48 + x) :: r ∧ r.length ≤ 2 ∧ Lib.decFrom 0 (UInt8.ofNat (48 + x) :: r) = some u ∧ (r = [] ∨ 0 < x) := by
  have one : ∀ v : Nat, v < 10 → Lib.decDigits v = [UInt8.ofNat (48 + v)] := fun v hv => by rw [Lib.decDigits, dif_pos hv]
  have two : ∀ v : Nat, ¬ v < 10 → Lib.decDigits v = Lib.decDigits (v / 10) ++ [UInt8.ofNat (48 + v % 10)] := fun v hv => by rw [Lib.decDigits, dif_neg hv]
  by_cases h1 : u < 10
  · refine ⟨u, h1, [], one u h1, by simp, ?_⟩
    simp only [Lib.decFrom, dig_val u h1]
    exact ⟨by simp, .inl (by trivial)⟩
  · by_cases h2 : u < 100
    · refine ⟨u / 10, by omega, [UInt8.ofNat (48 + u % 10)], ?_, by simp, ?_⟩
      · rw [two u h1, one (u / 10) (by omega)]; rfl
      · simp only [Lib.decFrom, dig_val (u / 10) (by omega), dig_val (u % 10) (by omega)]
        exact ⟨by congr 1; omega, .inr (by omega)⟩
    · refine ⟨u / 10 / 10, by omega, [UInt8.ofNat (48 + u / 10 % 10), UInt8.ofNat (48 + u % 10)], ?_, by simp, ?_⟩
      · rw [two u h1, two (u / 10) (by omega), one (u / 10 / 10) (by omega)]; rfl
      · simp only [Lib.decFrom, dig_val (u / 10 / 10) (by omega), dig_val (u / 10 % 10) (by omega), dig_val (u % 10) (by omega)]
        exact ⟨by congr 1; omega, .inr (by omega)⟩
theorem atoi_dd (u : Nat) (h : u < 1000) : Lib.atoiAll (Lib.decDigits u) = .ok (u : Int) := by
  obtain ⟨x, hx, r, e, hr, hd, _⟩ := dd_form u h
  obtain ⟨n1, n2⟩ := dig_ne x hx
  rw [e, Lib.atoiAll_plain _ r n1 n2, Lib.signless_short (by simp only [List.length_cons]; omega)]
  have e2 : Lib.decNat (UInt8.ofNat (48 + x) :: r) = some u := by
    unfold Lib.decNat
    rw [if_neg (by simp)]
    exact hd
  rw [e2]
  rfl
theorem dig_nat : ∀ x : Nat, x < 10 → (UInt8.ofNat (48 + x)).toNat = 48 + x := by decide
theorem dd_dig (u : Nat) (h : u < 1000) : ∀ c ∈ Lib.decDigits u, 48 ≤ c.toNat ∧ c.toNat ≤ 57 := by
  have one : ∀ v : Nat, v < 10 → ∀ c ∈ Lib.decDigits v, 48 ≤ c.toNat ∧ c.toNat ≤ 57 := fun v hv c hc => by
    rw [Lib.decDigits, dif_pos hv] at hc
    rw [List.mem_singleton.1 hc, dig_nat v hv]
    omega
  have step : ∀ v : Nat, ¬ v < 10 → (∀ c ∈ Lib.decDigits (v / 10), 48 ≤ c.toNat ∧ c.toNat ≤ 57) → ∀ c ∈ Lib.decDigits v, 48 ≤ c.toNat ∧ c.toNat ≤ 57 := fun v hv hq c hc => by
    rw [Lib.decDigits, dif_neg hv] at hc
    rcases List.mem_append.1 hc with hc | hc
    · exact hq c hc
    · rw [List.mem_singleton.1 hc, dig_nat (v % 10) (by omega)]
      omega
  by_cases h1 : u < 10
  · exact one u h1
  · refine step u h1 ?_
    by_cases h2 : u / 10 < 10
    · exact one (u / 10) h2
    · exact step (u / 10) h2 (one (u / 10 / 10) (by omega))
theorem dd_no (u : Nat) (h : u < 1000) (b : UInt8) (hb : b.toNat < 48 ∨ 57 < b.toNat) : b ∉ Lib.decDigits u := fun hm => by
  have := dd_dig u h b hm
  omega

/-! ### numerals, and texts cut and split, as the program reads them -/
theorem mk_list (l : List UInt8) : (mk l).toList = l := by rw [ByteArray.toList_eq]; exact mk_data l
theorem number_ok (a most : Int) (h0 : 0 ≤ a) (h1 : a ≤ most) (hm : most ≤ 500) : impl_number.f (mk (dd a)) most = some (a, true) := by
  unfold impl_number.f
  have hl := dd_len a.toNat (by omega)
  rw [if_pos (by rw [mk_size]; show (Lib.decDigits a.toNat).length ≤ _; omega), mk_data, mk_list]
  have e := atoi_dd a.toNat (by omega)
  have e2 : ((a.toNat : Nat) : Int) = a := by omega
  rw [e2] at e
  show some (match Lib.atoiAll (Lib.decDigits a.toNat) with | .ok v => _ | _ => _) = _
  rw [e]
  have e3 : Lib.itoa a = dd a := by unfold Lib.itoa; rw [if_neg (by omega)]
  simp only
  rw [if_pos e3, if_pos ⟨h0, h1⟩]
theorem number_bad (t : List UInt8) (ht : t.length ≤ 2000000) (most : Int) (hb : ∀ a : Int, 0 ≤ a → a ≤ most → t ≠ dd a) : impl_number.f (mk t) most = some (0, false) := by
  unfold impl_number.f
  rw [if_pos (by rw [mk_size]; exact ht), mk_data, mk_list]
  congr 1
  split
  · rename_i v hv
    split
    · rename_i h1
      rw [if_neg]
      intro h2
      refine hb v h2.1 h2.2 ?_
      rw [← h1]
      unfold Lib.itoa
      rw [if_neg (by omega)]
    · rfl
  · rfl
theorem number_cases (t : List UInt8) (ht : t.length ≤ 2000000) (most : Int) (hm : most ≤ 500) : (∃ a : Int, 0 ≤ a ∧ a ≤ most ∧ t = dd a ∧ impl_number.f (mk t) most = some (a, true)) ∨ ((∀ a : Int, 0 ≤ a → a ≤ most → t ≠ dd a) ∧ impl_number.f (mk t) most = some (0, false)) := by
  by_cases h : ∃ a : Int, 0 ≤ a ∧ a ≤ most ∧ t = dd a
  · obtain ⟨a, h0, h1, e⟩ := h
    exact .inl ⟨a, h0, h1, e, by rw [e]; exact number_ok a most h0 h1 hm⟩
  · have hb : ∀ a : Int, 0 ≤ a → a ≤ most → t ≠ dd a := fun a h0 h1 e => h ⟨a, h0, h1, e⟩
    exact .inr ⟨hb, number_bad t ht most hb⟩
theorem split_eq (b : UInt8) (s : List UInt8) (hs : s.length ≤ 2000000) : strings_Split.f (mk s) (mk [b]) = some ((spl b s).map mk) := by
  unfold strings_Split.f
  rw [if_pos ⟨by rw [mk_size]; exact hs, by rw [mk_size]; simp⟩]
  congr 1
  have h := Lib.splitB_data (mk [b]) 0 (Lib.countB (mk s) (mk [b])) (mk s)
  rw [mk_data, mk_data] at h
  have hc : Lib.countB (mk s) (mk [b]) = Lib.count s [b] := by unfold Lib.countB; rw [mk_data, mk_data]
  rw [hc, splitK_spl b s.length s (Nat.le_refl _)] at h
  rw [hc, ← h, List.map_map]
  refine ((List.map_congr_left (fun x _ => ?_)).trans (List.map_id _)).symm
  show mk x.data.toList = x
  rfl
theorem cut_hit (b : UInt8) (p q : List UInt8) (hp : b ∉ p) (hs : (p ++ b :: q).length ≤ 2000000) : strings_Cut.f (mk (p ++ b :: q)) (mk [b]) = some (mk p, mk q, true) := by
  unfold strings_Cut.f
  rw [if_pos (by rw [mk_size]; exact hs), mk_data, mk_data]
  unfold Lib.cut
  rw [index_some b q p hp, if_pos (by omega), Int.toNat_natCast]
  simp [mk]
theorem cut_miss (b : UInt8) (s : List UInt8) (hb : b ∉ s) (hs : s.length ≤ 2000000) : strings_Cut.f (mk s) (mk [b]) = some (mk s, mk [], false) := by
  unfold strings_Cut.f
  rw [if_pos (by rw [mk_size]; exact hs), mk_data, mk_data]
  unfold Lib.cut
  rw [index_none b s hb, if_neg (by omega)]
  rfl
theorem rd_str (l : List (List UInt8)) (i : Nat) (h : i < l.length) : rdOf ByteArray.empty (l.map mk) (i : Int) = mk l[i] := by
  unfold rdOf
  rw [Int.toNat_natCast]
  simp [List.getD, h]
/-- numbers of a text with signs between them: all of them numerals, and so many, or no numbers at all -/
theorem numbers_loop (m : Nat) (hm : m ≤ 100) (ps : List (List UInt8)) (hl : ps.length ≤ 2000001) (hp : ∀ p ∈ ps, p.length ≤ 2000000) : ∀ (t : List (List UInt8)) (i : Nat) (out : List Int), ps.drop i = t → i + t.length = ps.length → out.length = i →
    (∃ ns : List Int, (∀ a ∈ ns, 0 ≤ a ∧ a ≤ 12) ∧ t = ns.map dd ∧ Ev (fun k => impl_numbers.l0 k (m : Int) 12 out (ps.map mk) ((ps.map mk).length : Int) (i : Int)) (if (out ++ ns).length = m then (out ++ ns, true) else (List.replicate m 0, false))) ∨
    ((¬ ∃ ns : List Int, (∀ a ∈ ns, 0 ≤ a ∧ a ≤ 12) ∧ t = ns.map dd) ∧ Ev (fun k => impl_numbers.l0 k (m : Int) 12 out (ps.map mk) ((ps.map mk).length : Int) (i : Int)) (List.replicate m 0, false)) := by
  intro t
  have hml : (ps.map mk).length = ps.length := List.length_map _
  induction t with
  | nil =>
    intro i out hd hi ho
    simp only [List.length_nil] at hi
    refine .inl ⟨[], fun a ha => absurd ha List.not_mem_nil, rfl, ?_⟩
    refine Ev.succ ?_
    simp only [impl_numbers.l0]
    refine Ev.neg (by omega) ?_
    rw [List.append_nil]
    by_cases h : out.length = m
    · rw [if_pos h]
      exact Ev.pos (by omega) (Ev.now _)
    · rw [if_neg h]
      exact Ev.neg (by omega) (Ev.pos (by omega) (Ev.pos (by omega) (Ev.eqr (Ev.now _) (by rw [Int.toNat_natCast]))))
  | cons p t ih =>
    intro i out hd hi ho
    simp only [List.length_cons] at hi
    have hi1 : i < ps.length := by omega
    have e1 := List.drop_eq_getElem_cons hi1
    rw [hd] at e1
    injection e1 with e2 e3
    have hpp := hp p (by rw [e2]; exact List.getElem_mem _)
    rcases number_cases p hpp 12 (by omega) with ⟨a, h0, h1, e, hn⟩ | ⟨hb, hn⟩
    · have step : ∀ R, Ev (fun k => impl_numbers.l0 k (m : Int) 12 (out ++ [a]) (ps.map mk) ((ps.map mk).length : Int) ((i + 1 : Nat) : Int)) R → Ev (fun k => impl_numbers.l0 k (m : Int) 12 out (ps.map mk) ((ps.map mk).length : Int) (i : Int)) R := by
        intro R hR
        refine Ev.succ ?_
        simp only [impl_numbers.l0]
        rw [rd_str ps i hi1, ← e2]
        refine Ev.pos (by omega) (Ev.pos (by omega) (Ev.pos (by omega) (Ev.bindc hn (Ev.pos rfl (Ev.pos (by omega) ?_)))))
        rw [wrap64_id (n := (i : Int) + 1) (by omega) (by omega)]
        exact hR
      rcases ih (i + 1) (out ++ [a]) e3.symm (by omega) (by simp [ho]) with ⟨ns, q1, q2, q3⟩ | ⟨q1, q2⟩
      · refine .inl ⟨a :: ns, fun x hx => (List.mem_cons.1 hx).elim (fun z => by rw [z]; exact ⟨h0, h1⟩) (q1 x), by rw [q2, e]; rfl, ?_⟩
        have := step _ q3
        rw [List.append_assoc, List.singleton_append] at this
        exact this
      · refine .inr ⟨fun ⟨ns, z1, z2⟩ => ?_, step _ q2⟩
        cases ns with
        | nil => simp at z2
        | cons x ns =>
          rw [List.map_cons] at z2
          injection z2 with _ z3
          exact q1 ⟨ns, fun y hy => z1 y (List.mem_cons_of_mem _ hy), z3⟩
    · refine .inr ⟨fun ⟨ns, z1, z2⟩ => ?_, ?_⟩
      · cases ns with
        | nil => simp at z2
        | cons x ns =>
          rw [List.map_cons] at z2
          injection z2 with z3 _
          have := z1 x List.mem_cons_self
          exact hb x this.1 this.2 z3
      · refine Ev.succ ?_
        simp only [impl_numbers.l0]
        rw [rd_str ps i hi1, ← e2]
        refine Ev.pos (by omega) (Ev.pos (by omega) (Ev.pos (by omega) (Ev.bindc hn (Ev.neg (by simp) (Ev.pos (by omega) (Ev.pos (by omega) (Ev.eqr (Ev.now _) (by rw [Int.toNat_natCast]))))))))

/-! ### texts split and numerals read, as the reference does it -/
theorem bt_mk (s : List UInt8) (i : Nat) (h : i < s.length) : bt (mk s) (i : Int) = ((s[i]).toNat : Int) := by
  unfold bt
  rw [Int.toNat_natCast, dif_pos (by rw [mk_size]; exact h)]
  rfl
theorem ext_mk (s : List UInt8) (a b : Nat) : (mk s).extract a b = mk ((s.drop a).take (b - a)) := by
  apply ByteArray.ext
  rw [ByteArray.data_extract]
  unfold mk
  simp [List.extract_eq_take_drop]
theorem l1Split_loop (s : List UInt8) (hs : s.length ≤ 2000000) (b : UInt8) : ∀ (t : List UInt8) (i fr : Nat) (acc : List (List UInt8)), s.drop i = t → i + t.length = s.length → fr ≤ i → acc.length ≤ i → b ∉ (s.drop fr).take (i - fr) →
    Ev (fun k => spec_l1Split.l0 k (mk s) (b.toNat : Int) (acc.map mk) (fr : Int) (i : Int)) ((acc ++ spl b (s.drop fr)).map mk) := by
  intro t
  induction t with
  | nil =>
    intro i fr acc hd hi hf ha hb
    simp only [List.length_nil] at hi
    refine Ev.succ ?_
    simp only [spec_l1Split.l0]
    have hz : (mk s).size = s.length := mk_size s
    refine Ev.neg (by omega) (Ev.pos (by omega) (Ev.pos (by omega) (Ev.pos (by simp only [List.length_map]; omega) (Ev.eqr (Ev.now _) ?_))))
    rw [Int.toNat_natCast, hz, ext_mk]
    have e : (s.drop fr).take (s.length - fr) = s.drop fr := List.take_of_length_le (by simp)
    rw [show i - fr = s.length - fr by omega, e] at hb
    rw [e, spl_none b _ hb]
    simp
  | cons c t ih =>
    intro i fr acc hd hi hf ha hb
    simp only [List.length_cons] at hi
    have hi1 : i < s.length := by omega
    have e1 := List.drop_eq_getElem_cons hi1
    rw [hd] at e1
    injection e1 with e2 e3
    have hz : (mk s).size = s.length := mk_size s
    have hcut : s.drop fr = (s.drop fr).take (i - fr) ++ c :: t := by
      have h := (List.take_append_drop (i - fr) (s.drop fr)).symm
      rw [List.drop_drop, show fr + (i - fr) = i by omega, hd] at h
      exact h
    refine Ev.succ ?_
    simp only [spec_l1Split.l0]
    rw [bt_mk s i hi1, ← e2]
    have ei : wrap64 ((i : Int) + 1) = ((i + 1 : Nat) : Int) := (wrap64_id (by omega) (by omega)).trans (by omega)
    refine Ev.pos (by omega) (Ev.pos (by omega) ?_)
    by_cases h : c = b
    · refine Ev.pos (by rw [h]) (Ev.pos (by omega) (Ev.pos (by omega) (Ev.pos (by omega) (Ev.pos (by simp only [List.length_map]; omega) ?_))))
      rw [ei, Int.toNat_natCast, Int.toNat_natCast, ext_mk]
      have hr := ih (i + 1) (i + 1) (acc ++ [(s.drop fr).take (i - fr)]) e3.symm (by omega) (Nat.le_refl _) (by simp only [List.length_append, List.length_cons, List.length_nil]; omega) (by simp)
      rw [List.map_append, List.map_cons, List.map_nil] at hr
      refine Ev.eqr hr ?_
      congr 1
      rw [List.append_assoc]
      congr 1
      have h9 := spl_some b t _ hb
      rw [h] at hcut
      have h8 : spl b (s.drop fr) = (s.drop fr).take (i - fr) :: spl b t := by rw [← h9]; exact congrArg (spl b) hcut
      rw [h8, ← e3]
      rfl
    · refine Ev.neg (fun e => h (UInt8.toNat_inj.1 (by omega))) ?_
      rw [ei]
      refine ih (i + 1) fr acc e3.symm (by omega) (by omega) (by omega) ?_
      rw [show i + 1 - fr = (i - fr) + 1 by omega, List.take_add_one]
      intro hm
      rcases List.mem_append.1 hm with hm | hm
      · exact hb hm
      · rw [List.getElem?_drop, show fr + (i - fr) = i by omega, List.getElem?_eq_getElem hi1, ← e2] at hm
        simp at hm
        exact h hm.symm
theorem l1Split_ev (s : List UInt8) (hs : s.length ≤ 2000000) (b : UInt8) : Ev (fun k => spec_l1Split.f k (mk s) (b.toNat : Int)) ((spl b s).map mk) := by
  unfold spec_l1Split.f
  exact l1Split_loop s hs b s 0 0 [] rfl (by omega) (Nat.le_refl _) (Nat.zero_le _) (by simp)
/-- reading a text's number ends, whatever the text -/
theorem l1Read_any (t : List UInt8) (ht : t.length ≤ 100) : ∀ (d i : Nat) (x : Int), t.length - i = d → i ≤ t.length → ∃ v : Int, Ev (fun k => spec_l1Read.l0 k (mk t) x (i : Int)) v := by
  have hz : (mk t).size = t.length := mk_size t
  intro d
  induction d with
  | zero =>
    intro i x hd hi
    refine ⟨x, Ev.succ ?_⟩
    simp only [spec_l1Read.l0]
    exact Ev.neg (by omega) (Ev.now _)
  | succ d ih =>
    intro i x hd hi
    have ei : wrap64 ((i : Int) + 1) = ((i + 1 : Nat) : Int) := (wrap64_id (by omega) (by omega)).trans (by omega)
    obtain ⟨v, hv⟩ := ih (i + 1) (wrap64 ((wrap64 (10 * x)) + (((bt (mk t) (i : Int)) - 48) % 256))) (by omega) (by omega)
    by_cases h1 : bt (mk t) (i : Int) < 48
    · refine ⟨-1, Ev.succ ?_⟩
      simp only [spec_l1Read.l0]
      exact Ev.pos (by omega) (Ev.pos (by omega) (Ev.pos h1 (Ev.now _)))
    · by_cases h2 : bt (mk t) (i : Int) > 57
      · refine ⟨-1, Ev.succ ?_⟩
        simp only [spec_l1Read.l0]
        exact Ev.pos (by omega) (Ev.pos (by omega) (Ev.neg h1 (Ev.pos h2 (Ev.now _))))
      · refine ⟨v, Ev.succ ?_⟩
        simp only [spec_l1Read.l0]
        rw [ei]
        exact Ev.pos (by omega) (Ev.pos (by omega) (Ev.neg h1 (Ev.neg h2 hv)))
theorem dig_of {c : UInt8} {d : Nat} (h : Lib.digitVal c = some d) : 48 ≤ c.toNat ∧ c.toNat ≤ 57 ∧ d = c.toNat - 48 := by
  unfold Lib.digitVal at h
  split at h
  · rename_i h1
    have h2 := Option.some.inj h
    exact ⟨h1.1, h1.2, h2.symm⟩
  · cases h
theorem dec_le : ∀ (r : List UInt8) (x m : Nat), Lib.decFrom x r = some m → x ≤ m := by
  intro r
  induction r with
  | nil => intro x m h; simp only [Lib.decFrom] at h; exact Nat.le_of_eq (Option.some.inj h)
  | cons c r ih =>
    intro x m h
    simp only [Lib.decFrom] at h
    split at h
    · have := ih _ _ h; omega
    · cases h
theorem l1Read_num (t : List UInt8) (ht : t.length ≤ 100) : ∀ (r : List UInt8) (i x m : Nat), t.drop i = r → i + r.length = t.length → Lib.decFrom x r = some m → m < 1000000 → x ≤ m → Ev (fun k => spec_l1Read.l0 k (mk t) (x : Int) (i : Int)) (m : Int) := by
  have hz : (mk t).size = t.length := mk_size t
  intro r
  induction r with
  | nil =>
    intro i x m hd hi hm hb hx
    simp only [List.length_nil] at hi
    simp only [Lib.decFrom] at hm
    have e := Option.some.inj hm
    subst e
    refine Ev.succ ?_
    simp only [spec_l1Read.l0]
    exact Ev.neg (by omega) (Ev.now _)
  | cons c r ih =>
    intro i x m hd hi hm hb hx
    simp only [List.length_cons] at hi
    have hi1 : i < t.length := by omega
    have e1 := List.drop_eq_getElem_cons hi1
    rw [hd] at e1
    injection e1 with e2 e3
    simp only [Lib.decFrom] at hm
    cases hv : Lib.digitVal c with
    | none => rw [hv] at hm; cases hm
    | some d =>
      rw [hv] at hm
      obtain ⟨d1, d2, d3⟩ := dig_of hv
      have hle : x * 10 + d ≤ m := dec_le r _ _ hm
      have ei : wrap64 ((i : Int) + 1) = ((i + 1 : Nat) : Int) := (wrap64_id (by omega) (by omega)).trans (by omega)
      refine Ev.succ ?_
      simp only [spec_l1Read.l0]
      rw [bt_mk t i hi1, ← e2]
      refine Ev.pos (by omega) (Ev.pos (by omega) (Ev.neg (by omega) (Ev.neg (by omega) ?_)))
      rw [ei, wrap64_id (n := 10 * (x : Int)) (by omega) (by omega), show (((c.toNat : Nat) : Int) - 48) % 256 = (d : Int) by omega, wrap64_id (n := 10 * (x : Int) + (d : Int)) (by omega) (by omega), show 10 * (x : Int) + (d : Int) = ((x * 10 + d : Nat) : Int) by omega]
      exact ih (i + 1) (x * 10 + d) m e3.symm (by omega) hm hb hle
theorem read_any (t : List UInt8) : ∃ v : Int, Ev (fun k => spec_l1Read.f k (mk t)) v := by
  unfold spec_l1Read.f
  have hz : (mk t).size = t.length := mk_size t
  by_cases h : 1 ≤ ((mk t).size : Int) ∧ ((mk t).size : Int) ≤ 6
  · obtain ⟨v, hv⟩ := l1Read_any t (by omega) t.length 0 0 (by omega) (Nat.zero_le _)
    by_cases h2 : bt (mk t) 0 = 48
    · by_cases h3 : ((mk t).size : Int) > 1
      · refine ⟨-1, Ev.bindc (l1In_eqN _ _ _) (Ev.pos (decide_eq_true h) (Ev.pos (by omega) (Ev.pos h2 (Ev.succ ?_))))⟩
        simp only [spec_l1Read.j0]
        exact Ev.pos (decide_eq_true h3) (Ev.now _)
      · refine ⟨v, Ev.bindc (l1In_eqN _ _ _) (Ev.pos (decide_eq_true h) (Ev.pos (by omega) (Ev.pos h2 (Ev.succ ?_))))⟩
        simp only [spec_l1Read.j0]
        exact Ev.neg (by simpa using h3) hv
    · refine ⟨v, Ev.bindc (l1In_eqN _ _ _) (Ev.pos (decide_eq_true h) (Ev.pos (by omega) (Ev.neg h2 (Ev.succ ?_))))⟩
      simp only [spec_l1Read.j0]
      exact Ev.neg (by decide) hv
  · refine ⟨-1, Ev.bindc (l1In_eqN _ _ _) (Ev.neg (by simpa using h) (Ev.succ ?_))⟩
    simp only [spec_l1Read.j0]
    exact Ev.pos (by simp) (Ev.now _)
theorem read_dd (a : Int) (h0 : 0 ≤ a) (h1 : a < 1000) : Ev (fun k => spec_l1Read.f k (mk (dd a))) a := by
  obtain ⟨x, hx, r, e, hr, hd, hz0⟩ := dd_form a.toNat (by omega)
  have ea : ((a.toNat : Nat) : Int) = a := by omega
  have et : dd a = UInt8.ofNat (48 + x) :: r := e
  rw [et]
  have hz : (mk (UInt8.ofNat (48 + x) :: r)).size = r.length + 1 := by rw [mk_size]; rfl
  have hn := l1Read_num (UInt8.ofNat (48 + x) :: r) (by simp only [List.length_cons]; omega) (UInt8.ofNat (48 + x) :: r) 0 0 a.toNat rfl (by omega) hd (by omega) (Nat.zero_le _)
  rw [ea] at hn
  have hb : bt (mk (UInt8.ofNat (48 + x) :: r)) 0 = 48 + (x : Int) := by
    have h := bt_mk (UInt8.ofNat (48 + x) :: r) 0 (by simp)
    rw [show ((0 : Nat) : Int) = 0 from rfl] at h
    rw [h, List.getElem_cons_zero, dig_nat x hx]
    omega
  unfold spec_l1Read.f
  refine Ev.bindc (l1In_eqN _ _ _) (Ev.pos (decide_eq_true (by omega)) (Ev.pos (by omega) ?_))
  rw [hb]
  by_cases h2 : 48 + (x : Int) = 48
  · refine Ev.pos h2 (Ev.succ ?_)
    simp only [spec_l1Read.j0]
    have hr0 : r = [] := hz0.resolve_right (by omega)
    refine Ev.neg ?_ hn
    rw [hz, hr0]
    simp
  · refine Ev.neg h2 (Ev.succ ?_)
    simp only [spec_l1Read.j0]
    exact Ev.neg (by decide) hn

/-! ### one part of a list of parts: two numbers with a sign between them -/
theorem spl_len (b : UInt8) : ∀ l : List UInt8, (spl b l).length ≤ l.length + 1 ∧ ∀ g ∈ spl b l, g.length ≤ l.length := by
  intro l
  induction l with
  | nil => exact ⟨by simp [spl], fun g hg => by simp only [spl, List.mem_singleton] at hg; subst hg; simp⟩
  | cons c t ih =>
    simp only [spl]
    split
    · refine ⟨by simp only [List.length_cons]; omega, fun g hg => ?_⟩
      rcases List.mem_cons.1 hg with e | e
      · subst e; simp
      · have := ih.2 g e; simp only [List.length_cons]; omega
    · cases hs : spl b t with
      | nil => exact absurd hs (spl_ne b t)
      | cons g0 r =>
        rw [hs] at ih
        refine ⟨by simp only [List.length_cons] at ih ⊢; omega, fun g hg => ?_⟩
        rcases List.mem_cons.1 hg with e | e
        · subst e
          have := ih.2 g0 List.mem_cons_self
          simp only [List.length_cons]; omega
        · have := ih.2 g (List.mem_cons_of_mem _ e)
          simp only [List.length_cons]; omega
theorem dd_sign (a : Int) (h0 : 0 ≤ a) (h1 : a < 1000) (b : UInt8) (hb : b.toNat < 48 ∨ 57 < b.toNat) : b ∉ dd a := dd_no a.toNat (by omega) b hb
theorem spl_two (a b : Int) (ha0 : 0 ≤ a) (ha1 : a < 1000) (hb0 : 0 ≤ b) (hb1 : b < 1000) : spl 45 (dd a ++ 45 :: dd b) = [dd a, dd b] := by
  rw [spl_some 45 (dd b) (dd a) (dd_sign a ha0 ha1 45 (.inl (by decide))), spl_none 45 (dd b) (dd_sign b hb0 hb1 45 (.inl (by decide)))]
theorem of_spl_two (p u v : List UInt8) (h : spl 45 p = [u, v]) : p = u ++ 45 :: v := by
  have e := spl_join 45 p
  rw [h] at e
  rw [← e]
  simp [Lib.join]
theorem numbers_part (p : List UInt8) (hp : p.length ≤ 2000000) :
    (∃ a b : Int, 0 ≤ a ∧ a ≤ 12 ∧ 0 ≤ b ∧ b ≤ 12 ∧ p = dd a ++ 45 :: dd b ∧ Ev (fun k => impl_numbers.f k (mk p) (mk [45]) 2 12) ([a, b], true)) ∨
    ((∀ a b : Int, 0 ≤ a → a ≤ 12 → 0 ≤ b → b ≤ 12 → p ≠ dd a ++ 45 :: dd b) ∧ Ev (fun k => impl_numbers.f k (mk p) (mk [45]) 2 12) ([0, 0], false)) := by
  have hl := spl_len 45 p
  have start : ∀ R, Ev (fun k => impl_numbers.l0 k ((2 : Nat) : Int) 12 [] ((spl 45 p).map mk) (((spl 45 p).map mk).length : Int) ((0 : Nat) : Int)) R → Ev (fun k => impl_numbers.f k (mk p) (mk [45]) 2 12) R := by
    intro R hR
    unfold impl_numbers.f
    exact Ev.bindc (split_eq 45 p hp) hR
  rcases numbers_loop 2 (by omega) (spl 45 p) (by omega) (fun g hg => by have := hl.2 g hg; omega) (spl 45 p) 0 [] rfl (by simp) rfl with ⟨ns, h1, h2, h3⟩ | ⟨h1, h2⟩
  · have h4 := start _ h3
    rw [List.nil_append] at h4
    by_cases hn : ns.length = 2
    · match ns, hn, h1, h2, h4 with
      | [a, b], _, h1, h2, h4 =>
        have qa := h1 a List.mem_cons_self
        have qb := h1 b (List.mem_cons_of_mem _ List.mem_cons_self)
        exact .inl ⟨a, b, qa.1, qa.2, qb.1, qb.2, of_spl_two p _ _ h2, h4⟩
    · rw [if_neg hn] at h4
      refine .inr ⟨fun a b ha0 ha1 hb0 hb1 e => hn ?_, h4⟩
      rw [e, spl_two a b ha0 (by omega) hb0 (by omega)] at h2
      have := congrArg List.length h2
      simp only [List.length_cons, List.length_nil, List.length_map] at this
      omega
  · refine .inr ⟨fun a b ha0 ha1 hb0 hb1 e => h1 ⟨[a, b], ?_, ?_⟩, start _ h2⟩
    · intro x hx
      rcases List.mem_cons.1 hx with z | z
      · rw [z]; exact ⟨ha0, ha1⟩
      · rw [List.mem_singleton.1 z]; exact ⟨hb0, hb1⟩
    · rw [e, spl_two a b ha0 (by omega) hb0 (by omega)]; rfl

/-! ### the text of a net -/
abbrev pt (w : Wr) : List UInt8 := dd w.f0 ++ ([45] ++ dd w.f1)
theorem pt_len {n : Int} {w : Wr} (hn : n ≤ 12) (hw : WireOk n w) : (pt w).length ≤ 5 := by
  obtain ⟨⟨a1, a2⟩, ⟨b1, b2⟩, ab⟩ := hw
  have l1 := dd_len2 w.f0.toNat (by omega)
  have l2 := dd_len2 w.f1.toNat (by omega)
  show (Lib.decDigits w.f0.toNat ++ ([45] ++ Lib.decDigits w.f1.toNat)).length ≤ 5
  simp only [List.length_append, List.length_cons, List.length_nil]
  omega
theorem tail_cons (s y : List UInt8) (r : List (List UInt8)) : Lib.joinTail s (y :: r) = s ++ (y ++ Lib.joinTail s r) := by simp [Lib.joinTail]
theorem text_loop {n : Int} {W : List Wr} (hn : n ≤ 12) (hws : ∀ w ∈ W, WireOk n w) (hW : W.length ≤ 30) : ∀ (t : List Wr) (i : Nat) (out : List UInt8), W.drop i = t → i + t.length = W.length → 0 < i → out.length + 100 * t.length ≤ 100000 →
    Ev (fun k => spec_neText.l0 k (mk out) W (W.length : Int) (i : Int)) (mk (out ++ Lib.joinTail [44] (t.map pt))) := by
  intro t
  induction t with
  | nil =>
    intro i out hd hi hp ho
    simp only [List.length_nil] at hi
    refine Ev.succ ?_
    simp only [spec_neText.l0]
    exact Ev.neg (by omega) (Ev.eqr (Ev.now _) (by simp [Lib.joinTail]))
  | cons w t ih =>
    intro i out hd hi hp ho
    simp only [List.length_cons] at hi ho
    obtain ⟨h1, h2, h3, h4, h5⟩ := wr_drop W i w t hd
    have hw := hws w h4
    have hl := pt_len hn hw
    obtain ⟨⟨a1, a2⟩, ⟨b1, b2⟩, ab⟩ := hw
    have l1 := dd_len w.f0.toNat (by omega)
    have l2 := dd_len w.f1.toNat (by omega)
    refine Ev.succ ?_
    simp only [spec_neText.l0]
    rw [rd_wr, h2]
    have c44 : (⟨#[44]⟩ : ByteArray) = mk [44] := rfl
    have c45 : (⟨#[45]⟩ : ByteArray) = mk [45] := rfl
    rw [c44, c45]
    refine Ev.pos (by omega) (Ev.pos (by omega) (Ev.pos (by omega) (Ev.pos (by omega) (Ev.pos (by rw [mk_size]; omega) (Ev.bind (l1Num_ev w.f0 a1 (by omega)) (Ev.pos (by rw [mk_size]; show (Lib.decDigits w.f0.toNat).length + 1 ≤ _; omega) (Ev.bind (l1Num_ev w.f1 b1 (by omega)) ?_)))))))
    simp only [mk_app, mk_size, List.length_append, List.length_cons, List.length_nil]
    refine Ev.pos (by show (Lib.decDigits w.f0.toNat).length + (0 + 1) + (Lib.decDigits w.f1.toNat).length ≤ _; omega) (Ev.pos (by show out.length + (0 + 1) + ((Lib.decDigits w.f0.toNat).length + (0 + 1) + (Lib.decDigits w.f1.toNat).length) ≤ _; omega) ?_)
    rw [wrap64_id (n := (i : Int) + 1) (by omega) (by omega)]
    have h := ih (i + 1) (out ++ [44] ++ ((dd w.f0 ++ [45]) ++ dd w.f1)) h3 (by omega) (by omega) (by
      simp only [List.length_append, List.length_cons, List.length_nil]
      show out.length + (0 + 1) + ((Lib.decDigits w.f0.toNat).length + (0 + 1) + (Lib.decDigits w.f1.toNat).length) + 100 * t.length ≤ 100000
      omega)
    refine Ev.eqr h ?_
    rw [List.map_cons, tail_cons]
    congr 1
    simp only [List.append_assoc]
theorem neText_ev {n : Int} {W : List Wr} (hn : 2 ≤ n ∧ n ≤ 12) (hws : ∀ w ∈ W, WireOk n w) (hW : W.length ≤ 30) (hne : W ≠ []) : Ev (fun k => spec_neText.f k n W) (mk (dd n ++ [58] ++ Lib.join (W.map pt) [44])) := by
  unfold spec_neText.f
  have l0 := dd_len n.toNat (by omega)
  have c58 : (⟨#[58]⟩ : ByteArray) = mk [58] := rfl
  rw [c58]
  refine Ev.bind (l1Num_ev n (by omega) (by omega)) (Ev.pos (by rw [mk_size]; show (Lib.decDigits n.toNat).length + 1 ≤ _; omega) ?_)
  rw [mk_app]
  cases hWc : W with
  | nil => exact absurd hWc hne
  | cons w t =>
    rw [← hWc]
    have hd0 : W.drop 0 = w :: t := by rw [hWc]; rfl
    obtain ⟨h1, h2, h3, h4, h5⟩ := wr_drop W 0 w t hd0
    have hw := hws w h4
    obtain ⟨⟨a1, a2⟩, ⟨b1, b2⟩, ab⟩ := hw
    have l1 := dd_len w.f0.toNat (by omega)
    have l2 := dd_len w.f1.toNat (by omega)
    refine Ev.succ ?_
    simp only [spec_neText.l0]
    have r0 : ∀ l : List Wr, rd_T47 l 0 = wrAt l 0 := fun l => rd_wr l 0
    rw [r0, h2]
    have c45 : (⟨#[45]⟩ : ByteArray) = mk [45] := rfl
    rw [c45]
    refine Ev.pos (by omega) (Ev.pos (by omega) (Ev.pos (by omega) (Ev.neg (by omega) (Ev.bind (l1Num_ev w.f0 a1 (by omega)) (Ev.pos (by rw [mk_size]; show (Lib.decDigits w.f0.toNat).length + 1 ≤ _; omega) (Ev.bind (l1Num_ev w.f1 b1 (by omega)) ?_))))))
    simp only [mk_app, mk_size, List.length_append, List.length_cons, List.length_nil]
    refine Ev.pos (by show (Lib.decDigits w.f0.toNat).length + (0 + 1) + (Lib.decDigits w.f1.toNat).length ≤ _; omega) (Ev.pos (by show (Lib.decDigits n.toNat).length + (0 + 1) + ((Lib.decDigits w.f0.toNat).length + (0 + 1) + (Lib.decDigits w.f1.toNat).length) ≤ _; omega) ?_)
    rw [show wrap64 ((0 : Int) + 1) = ((0 + 1 : Nat) : Int) by rw [wrap64_id (by omega) (by omega)]; rfl]
    have h := text_loop hn.2 hws hW t 1 (dd n ++ [58] ++ ((dd w.f0 ++ [45]) ++ dd w.f1)) h3 (by omega) (by omega) (by
      simp only [List.length_append, List.length_cons, List.length_nil]
      show (Lib.decDigits n.toNat).length + (0 + 1) + ((Lib.decDigits w.f0.toNat).length + (0 + 1) + (Lib.decDigits w.f1.toNat).length) + 100 * t.length ≤ 100000
      omega)
    refine Ev.eqr h ?_
    rw [hWc, List.map_cons, Lib.join_cons]
    congr 1
    simp only [List.append_assoc]

/-! ### the program's loop over the parts -/
theorem part_step (ok r : Bool) (n0 : Int) (ps : List (List UInt8)) (hl : ps.length ≤ 2000001) (i : Nat) (hi : i < ps.length) (acc : List Wr) (ha : acc.length ≤ i) (a b : Int) {R : Int × List Wr × Bool}
    (h : Ev (fun k => impl_numbers.f k (mk ps[i]) (mk [45]) 2 12) ([a, b], r))
    (hR : Ev (fun k => impl_ParseNet.l0 k (ok && r) (ps.map mk) ((ps.map mk).length : Int) ((i + 1 : Nat) : Int) n0 (acc ++ [⟨a, b⟩])) R) :
    Ev (fun k => impl_ParseNet.l0 k ok (ps.map mk) ((ps.map mk).length : Int) (i : Int) n0 acc) R := by
  have hml : (ps.map mk).length = ps.length := List.length_map _
  refine Ev.succ ?_
  simp only [impl_ParseNet.l0]
  rw [rd_str ps i hi]
  have c45 : (⟨#[45]⟩ : ByteArray) = mk [45] := rfl
  rw [c45, wrap64_id (n := (i : Int) + 1) (by omega) (by omega)]
  refine Ev.pos (by omega) (Ev.pos (by omega) (Ev.pos (by omega) (Ev.bind h (Ev.pos (by simp) (Ev.pos (by simp) (Ev.pos (by omega) (Ev.bindc rfl ?_)))))))
  cases ok with
  | true => exact Ev.pos rfl hR
  | false => exact Ev.neg (by simp) hR
theorem part_ev (p : List UInt8) (hp : p.length ≤ 2000000) : ∃ (a b : Int) (r : Bool), Ev (fun k => impl_numbers.f k (mk p) (mk [45]) 2 12) ([a, b], r) := by
  rcases numbers_part p hp with ⟨a, b, _, _, _, _, _, h⟩ | ⟨_, h⟩
  · exact ⟨a, b, true, h⟩
  · exact ⟨0, 0, false, h⟩
theorem parse_false (n0 : Int) (ps : List (List UInt8)) (hl : ps.length ≤ 2000001) (hp : ∀ p ∈ ps, p.length ≤ 2000000) : ∀ (t : List (List UInt8)) (i : Nat) (acc : List Wr), ps.drop i = t → i + t.length = ps.length → acc.length ≤ i →
    Ev (fun k => impl_ParseNet.l0 k false (ps.map mk) ((ps.map mk).length : Int) (i : Int) n0 acc) (0, [], false) := by
  intro t
  have hml : (ps.map mk).length = ps.length := List.length_map _
  induction t with
  | nil =>
    intro i acc hd hi ha
    simp only [List.length_nil] at hi
    refine Ev.succ ?_
    simp only [impl_ParseNet.l0]
    exact Ev.neg (by omega) (Ev.neg (by simp) (Ev.now _))
  | cons p t ih =>
    intro i acc hd hi ha
    simp only [List.length_cons] at hi
    have hi1 : i < ps.length := by omega
    have e1 := List.drop_eq_getElem_cons hi1
    rw [hd] at e1
    injection e1 with e2 e3
    obtain ⟨a, b, r, h⟩ := part_ev ps[i] (hp _ (List.getElem_mem _))
    exact part_step false r n0 ps hl i hi1 acc ha a b h (ih (i + 1) _ e3.symm (by omega) (by simp only [List.length_append, List.length_cons, List.length_nil]; omega))
def InR (w : Wr) : Prop := (0 ≤ w.f0 ∧ w.f0 ≤ 12) ∧ (0 ≤ w.f1 ∧ w.f1 ≤ 12)
open Classical in
noncomputable def wholeOf (n : Int) (W : List Wr) : Int × List Wr × Bool := if NetOk n W then (n, W, true) else (0, [], false)
open Classical in
theorem whole_ev (n : Int) (W : List Wr) : Ev (fun k => impl_whole.f k n W) (wholeOf n W) := by
  unfold impl_whole.f wholeOf
  by_cases h : NetOk n W
  · rw [if_pos h]
    exact Ev.bind (impl_IsNet_ev n W) (Ev.pos (decide_eq_true h) (Ev.now _))
  · rw [if_neg h]
    exact Ev.bind (impl_IsNet_ev n W) (Ev.neg (by rw [decide_eq_false h]; simp) (Ev.now _))
theorem parse_true (n0 : Int) (ps : List (List UInt8)) (hl : ps.length ≤ 2000001) (hp : ∀ p ∈ ps, p.length ≤ 2000000) : ∀ (t : List (List UInt8)) (i : Nat) (acc : List Wr), ps.drop i = t → i + t.length = ps.length → acc.length ≤ i →
    (∃ W : List Wr, (∀ w ∈ W, InR w) ∧ t = W.map pt ∧ Ev (fun k => impl_ParseNet.l0 k true (ps.map mk) ((ps.map mk).length : Int) (i : Int) n0 acc) (wholeOf n0 (acc ++ W))) ∨
    ((¬ ∃ W : List Wr, (∀ w ∈ W, InR w) ∧ t = W.map pt) ∧ Ev (fun k => impl_ParseNet.l0 k true (ps.map mk) ((ps.map mk).length : Int) (i : Int) n0 acc) (0, [], false)) := by
  intro t
  have hml : (ps.map mk).length = ps.length := List.length_map _
  induction t with
  | nil =>
    intro i acc hd hi ha
    simp only [List.length_nil] at hi
    refine .inl ⟨[], fun a ha => absurd ha List.not_mem_nil, rfl, ?_⟩
    rw [List.append_nil]
    refine Ev.succ ?_
    simp only [impl_ParseNet.l0]
    exact Ev.neg (by omega) (Ev.pos (by simp) (Ev.bind (whole_ev n0 acc) (Ev.now _)))
  | cons p t ih =>
    intro i acc hd hi ha
    simp only [List.length_cons] at hi
    have hi1 : i < ps.length := by omega
    have e1 := List.drop_eq_getElem_cons hi1
    rw [hd] at e1
    injection e1 with e2 e3
    have hpp := hp _ (List.getElem_mem hi1)
    rcases numbers_part ps[i] hpp with ⟨a, b, a0, a1, b0, b1, e, h⟩ | ⟨hb, h⟩
    · rcases ih (i + 1) (acc ++ [⟨a, b⟩]) e3.symm (by omega) (by simp only [List.length_append, List.length_cons, List.length_nil]; omega) with ⟨W, q1, q2, q3⟩ | ⟨q1, q2⟩
      · refine .inl ⟨⟨a, b⟩ :: W, fun w hw => (List.mem_cons.1 hw).elim (fun z => by rw [z]; exact ⟨⟨a0, a1⟩, b0, b1⟩) (q1 w), by rw [e2, e, q2]; rfl, ?_⟩
        have h2 := part_step true true n0 ps hl i hi1 acc ha a b h q3
        rw [List.append_assoc, List.singleton_append] at h2
        exact h2
      · refine .inr ⟨fun ⟨W, z1, z2⟩ => ?_, part_step true true n0 ps hl i hi1 acc ha a b h q2⟩
        cases W with
        | nil => simp at z2
        | cons w W =>
          rw [List.map_cons] at z2
          injection z2 with _ z3
          exact q1 ⟨W, fun y hy => z1 y (List.mem_cons_of_mem _ hy), z3⟩
    · refine .inr ⟨fun ⟨W, z1, z2⟩ => ?_, part_step true false n0 ps hl i hi1 acc ha 0 0 h (parse_false n0 ps hl hp t (i + 1) _ e3.symm (by omega) (by simp only [List.length_append, List.length_cons, List.length_nil]; omega))⟩
      cases W with
      | nil => simp at z2
      | cons w W =>
        rw [List.map_cons] at z2
        injection z2 with z3 _
        have hw := z1 w List.mem_cons_self
        exact hb w.f0 w.f1 hw.1.1 hw.1.2 hw.2.1 hw.2.2 (by rw [← e2, z3]; rfl)

/-! ### what the program reads out of a text -/
def netL (n : Int) (W : List Wr) : List UInt8 := dd n ++ 58 :: Lib.join (W.map pt) [44]
theorem uniq_at (b : UInt8) (p q p' q' : List UInt8) (h : b ∉ p) (h' : b ∉ p') (e : p ++ b :: q = p' ++ b :: q') : p = p' ∧ q = q' := by
  have e2 := congrArg (spl b) e
  rw [spl_some b q p h, spl_some b q' p' h'] at e2
  injection e2 with e3 _
  subst e3
  have e4 := List.append_cancel_left e
  injection e4 with _ e5
  exact ⟨rfl, e5⟩
theorem dd_inj (a b : Int) (ha0 : 0 ≤ a) (ha1 : a < 1000) (hb0 : 0 ≤ b) (hb1 : b < 1000) (e : dd a = dd b) : a = b := by
  have h1 := atoi_dd a.toNat (by omega)
  have h2 := atoi_dd b.toNat (by omega)
  have e' : Lib.decDigits a.toNat = Lib.decDigits b.toNat := e
  rw [e', h2] at h1
  injection h1 with h3
  omega
theorem pt_inj (v w : Wr) (hv : InR v) (hw : InR w) (e : pt v = pt w) : v = w := by
  obtain ⟨⟨v0, v1⟩, v2, v3⟩ := hv
  obtain ⟨⟨w0, w1⟩, w2, w3⟩ := hw
  have e2 := uniq_at 45 (dd v.f0) (dd v.f1) (dd w.f0) (dd w.f1) (dd_sign _ v0 (by omega) 45 (.inl (by decide))) (dd_sign _ w0 (by omega) 45 (.inl (by decide))) e
  have a1 := dd_inj _ _ v0 (by omega) w0 (by omega) e2.1
  have a2 := dd_inj _ _ v2 (by omega) w2 (by omega) e2.2
  cases v; cases w
  simp only at a1 a2
  rw [a1, a2]
theorem pts_inj : ∀ V W : List Wr, (∀ w ∈ V, InR w) → (∀ w ∈ W, InR w) → V.map pt = W.map pt → V = W := by
  intro V
  induction V with
  | nil => intro W _ _ h; cases W with
    | nil => rfl
    | cons w W => simp at h
  | cons v V ih =>
    intro W hV hW h
    cases W with
    | nil => simp at h
    | cons w W =>
      rw [List.map_cons, List.map_cons] at h
      injection h with h1 h2
      rw [pt_inj v w (hV v List.mem_cons_self) (hW w List.mem_cons_self) h1, ih W (fun x hx => hV x (List.mem_cons_of_mem _ hx)) (fun x hx => hW x (List.mem_cons_of_mem _ hx)) h2]
theorem pt_sign (w : Wr) (hw : InR w) (b : UInt8) (hb : b.toNat < 45 ∨ 57 < b.toNat) : b ∉ pt w := by
  obtain ⟨⟨w0, w1⟩, w2, w3⟩ := hw
  intro hm
  rcases List.mem_append.1 hm with h | h
  · exact dd_sign _ w0 (by omega) b (by omega) h
  · rcases List.mem_append.1 h with h | h
    · rw [List.mem_singleton.1 h] at hb
      revert hb; decide
    · exact dd_sign _ w2 (by omega) b (by omega) h
theorem spl_pts (W : List Wr) (hne : W ≠ []) (hW : ∀ w ∈ W, InR w) : spl 44 (Lib.join (W.map pt) [44]) = W.map pt := by
  refine spl_of_join 44 _ (by simpa using hne) (fun p hp => ?_)
  obtain ⟨w, hw, e⟩ := List.mem_map.1 hp
  rw [← e]
  exact pt_sign w (hW w hw) 44 (.inl (by decide))
theorem netOk_in {n : Int} {W : List Wr} (h : NetOk n W) : (∀ w ∈ W, InR w) ∧ W ≠ [] := by
  obtain ⟨n1, n2, n3, n4⟩ := h
  refine ⟨fun w hw => ?_, joined_some n1.1 n4⟩
  obtain ⟨⟨a1, a2⟩, ⟨b1, b2⟩, ab⟩ := n3 w hw
  exact ⟨⟨a1, by omega⟩, b1, by omega⟩
theorem netL_cut {n : Int} {W : List Wr} (h : NetOk n W) (p q : List UInt8) (hp : (58 : UInt8) ∉ p) (e : p ++ 58 :: q = netL n W) : p = dd n ∧ spl 44 q = W.map pt := by
  have hn := h.1
  have e2 := uniq_at 58 p q (dd n) _ hp (dd_sign n (by omega) (by omega) 58 (.inr (by decide))) e
  refine ⟨e2.1, ?_⟩
  rw [e2.2]
  exact spl_pts W (netOk_in h).2 (netOk_in h).1
theorem impl_parse (s : List UInt8) (hs : s.length ≤ 1048576) :
    (∃ n W, NetOk n W ∧ s = netL n W ∧ Ev (fun k => impl_ParseNet.f k (mk s)) (n, W, true)) ∨
    ((¬ ∃ n W, NetOk n W ∧ s = netL n W) ∧ Ev (fun k => impl_ParseNet.f k (mk s)) (0, [], false)) := by
  have start : ∀ (x y : List UInt8) (c : Bool) (n0 : Int) (ok : Bool) (R : Int × List Wr × Bool), y.length ≤ 1048576 → strings_Cut.f (mk s) (mk [58]) = some (mk x, mk y, c) → impl_number.f (mk x) 12 = some (n0, ok) →
      Ev (fun k => impl_ParseNet.l0 k ok ((spl 44 y).map mk) (((spl 44 y).map mk).length : Int) ((0 : Nat) : Int) n0 []) R → Ev (fun k => impl_ParseNet.f k (mk s)) R := by
    intro x y c n0 ok R hy h1 h2 h3
    unfold impl_ParseNet.f
    exact Ev.bindc h1 (Ev.bindc h2 (Ev.bindc (split_eq 44 y (by omega)) h3))
  have parts : ∀ y : List UInt8, y.length ≤ 1048576 → (spl 44 y).length ≤ 2000001 ∧ ∀ p ∈ spl 44 y, p.length ≤ 2000000 := fun y hy => by
    have h := spl_len 44 y
    exact ⟨by omega, fun p hp => by have := h.2 p hp; omega⟩
  by_cases hc : (58 : UInt8) ∈ s
  · obtain ⟨p, q, e, hp⟩ := first_at 58 s hc
    have hlen : p.length + (q.length + 1) ≤ 1048576 := by have := hs; rw [e, List.length_append, List.length_cons] at this; exact this
    have hcut : strings_Cut.f (mk s) (mk [58]) = some (mk p, mk q, true) := by rw [e]; exact cut_hit 58 p q hp (by rw [← e]; omega)
    have hq := parts q (by omega)
    rcases number_cases p (by omega) 12 (by omega) with ⟨a, h0, h1, ea, hn⟩ | ⟨hb, hn⟩
    · rcases parse_true a (spl 44 q) hq.1 hq.2 (spl 44 q) 0 [] rfl (by simp) (by simp) with ⟨W, q1, q2, q3⟩ | ⟨q1, q2⟩
      · have h4 := start p q true a true _ (by omega) hcut hn q3
        rw [List.nil_append] at h4
        by_cases hok : NetOk a W
        · refine .inl ⟨a, W, hok, ?_, ?_⟩
          · rw [e, ea, netL, ← q2, spl_join]
          · unfold wholeOf at h4
            rw [if_pos hok] at h4
            exact h4
        · refine .inr ⟨fun ⟨n', W', hok', es⟩ => hok ?_, ?_⟩
          · rw [e] at es
            obtain ⟨z1, z2⟩ := netL_cut hok' p q hp es
            have hn' := hok'.1
            rw [ea] at z1
            rw [dd_inj a n' h0 (by omega) (by omega) (by omega) z1, pts_inj W W' q1 (netOk_in hok').1 (q2.symm.trans z2)]
            exact hok'
          · unfold wholeOf at h4
            rw [if_neg hok] at h4
            exact h4
      · refine .inr ⟨fun ⟨n', W', hok', es⟩ => ?_, start p q true a true _ (by omega) hcut hn q2⟩
        rw [e] at es
        exact q1 ⟨W', (netOk_in hok').1, (netL_cut hok' p q hp es).2⟩
    · refine .inr ⟨fun ⟨n', W', hok', es⟩ => ?_, start p q true 0 false _ (by omega) hcut hn (parse_false 0 (spl 44 q) hq.1 hq.2 (spl 44 q) 0 [] rfl (by simp) (by simp))⟩
      rw [e] at es
      have hn' := hok'.1
      exact hb n' (by omega) (by omega) (netL_cut hok' p q hp es).1
  · have hno : ¬ ∃ n W, NetOk n W ∧ s = netL n W := fun ⟨n', W', hok', es⟩ => hc (by rw [es, netL]; simp)
    refine .inr ⟨hno, ?_⟩
    have hcut := cut_miss 58 s hc (by omega)
    have hq := parts [] (by simp)
    rcases number_cases s (by omega) 12 (by omega) with ⟨a, h0, h1, ea, hn⟩ | ⟨hb, hn⟩
    · rcases parse_true a (spl 44 []) hq.1 hq.2 (spl 44 []) 0 [] rfl (by simp) (by simp) with ⟨W, q1, q2, q3⟩ | ⟨q1, q2⟩
      · exfalso
        cases W with
        | nil => simp [spl] at q2
        | cons w W =>
          rw [List.map_cons] at q2
          have z : spl 44 [] = [[]] := rfl
          rw [z] at q2
          injection q2 with z1 _
          simp at z1
      · exact start s [] false a true _ (by simp) hcut hn q2
    · exact start s [] false 0 false _ (by simp) hcut hn (parse_false 0 (spl 44 []) hq.1 hq.2 (spl 44 []) 0 [] rfl (by simp) (by simp))

/-! ### what the words of the spec read out of a text -/
theorem read_part (p : List UInt8) :
    (∃ (u v : List UInt8) (x y : Int), spl 45 p = [u, v] ∧ Ev (fun k => spec_l1Read.f k (mk u)) x ∧ Ev (fun k => spec_l1Read.f k (mk v)) y ∧ ∀ w, InR w → p = pt w → w = ⟨x, y⟩) ∨
    ((spl 45 p).length ≠ 2 ∧ ∀ w, InR w → p ≠ pt w) := by
  by_cases hw : ∃ w, InR w ∧ p = pt w
  · obtain ⟨w, hi, e⟩ := hw
    obtain ⟨⟨w0, w1⟩, w2, w3⟩ := hi
    refine .inl ⟨dd w.f0, dd w.f1, w.f0, w.f1, ?_, read_dd _ w0 (by omega), read_dd _ w2 (by omega), fun w' hi' e' => ?_⟩
    · rw [e]; exact spl_two w.f0 w.f1 w0 (by omega) w2 (by omega)
    · exact pt_inj w' w hi' ⟨⟨w0, w1⟩, w2, w3⟩ (e'.symm.trans e)
  · have hno : ∀ w, InR w → p ≠ pt w := fun w hi e => hw ⟨w, hi, e⟩
    by_cases h2 : (spl 45 p).length = 2
    · match hs : spl 45 p, h2 with
      | [u, v], _ =>
        obtain ⟨x, hx⟩ := read_any u
        obtain ⟨y, hy⟩ := read_any v
        exact .inl ⟨u, v, x, y, rfl, hx, hy, fun w hi e => absurd e (hno w hi)⟩
    · exact .inr ⟨h2, hno⟩
open Classical in
noncomputable def endOf (s : List UInt8) (n : Int) (V : List Wr) : Int × List Wr × Bool := if NetOk n V then (n, V, decide (netL n V = s)) else (n, V, false)
open Classical in
theorem end_ev (s : List UInt8) (n : Int) (V : List Wr) : Ev (fun k => (spec_neGood.f k n V).bind fun t165 => (if t165 = true then ((spec_neText.f k n V).bind fun t166 => (some (n, V, (t166.toList == (mk s).toList)))) else (some (n, V, false)))) (endOf s n V) := by
  unfold endOf
  by_cases h : NetOk n V
  · rw [if_pos h]
    have hin := netOk_in h
    obtain ⟨n1, n2, n3, n4⟩ := h
    refine Ev.bind (spec_neGood_ev n V) (Ev.pos (decide_eq_true ⟨n1, n2, n3, n4⟩) (Ev.bind (neText_ev n1 n3 n2 hin.2) (Ev.eqr (Ev.now _) ?_)))
    rw [mk_list, mk_list]
    have e : dd n ++ [58] ++ Lib.join (V.map pt) [44] = netL n V := by simp [netL]
    rw [e]
    by_cases hs : netL n V = s
    · simp [hs]
    · simp [hs]
  · rw [if_neg h]
    exact Ev.bind (spec_neGood_ev n V) (Ev.neg (by rw [decide_eq_false h]; simp) (Ev.now _))
theorem spec_parse_loop (s : List UInt8) (n0 : Int) (ps : List (List UInt8)) (hl : ps.length ≤ 2000001) (hp : ∀ p ∈ ps, p.length ≤ 2000000) : ∀ (t : List (List UInt8)) (i : Nat) (acc : List Wr), ps.drop i = t → i + t.length = ps.length → acc.length ≤ i →
    (∃ V : List Wr, (∀ W : List Wr, (∀ w ∈ W, InR w) → t = W.map pt → V = W) ∧ Ev (fun k => spec_neParse.l0 k (mk s) (ps.map mk) ((ps.map mk).length : Int) (i : Int) n0 acc) (endOf s n0 (acc ++ V))) ∨
    ((¬ ∃ W : List Wr, (∀ w ∈ W, InR w) ∧ t = W.map pt) ∧ Ev (fun k => spec_neParse.l0 k (mk s) (ps.map mk) ((ps.map mk).length : Int) (i : Int) n0 acc) (0, [], false)) := by
  intro t
  have hml : (ps.map mk).length = ps.length := List.length_map _
  induction t with
  | nil =>
    intro i acc hd hi ha
    simp only [List.length_nil] at hi
    refine .inl ⟨[], fun W _ e => (by cases W with
      | nil => rfl
      | cons w W => simp at e), ?_⟩
    rw [List.append_nil]
    refine Ev.succ ?_
    simp only [spec_neParse.l0]
    exact Ev.neg (by omega) (end_ev s n0 acc)
  | cons p t ih =>
    intro i acc hd hi ha
    simp only [List.length_cons] at hi
    have hi1 : i < ps.length := by omega
    have e1 := List.drop_eq_getElem_cons hi1
    rw [hd] at e1
    injection e1 with e2 e3
    have hpp := hp _ (List.getElem_mem hi1)
    have hsp := l1Split_ev ps[i] hpp 45
    have c45 : ((45 : UInt8).toNat : Int) = 45 := by decide
    rw [c45] at hsp
    rcases read_part ps[i] with ⟨u, v, x, y, hs, hx, hy, hw⟩ | ⟨h2, hno⟩
    · rw [hs] at hsp
      have step : ∀ R, Ev (fun k => spec_neParse.l0 k (mk s) (ps.map mk) ((ps.map mk).length : Int) ((i + 1 : Nat) : Int) n0 (acc ++ [⟨x, y⟩])) R → Ev (fun k => spec_neParse.l0 k (mk s) (ps.map mk) ((ps.map mk).length : Int) (i : Int) n0 acc) R := by
        intro R hR
        refine Ev.succ ?_
        simp only [spec_neParse.l0]
        rw [rd_str ps i hi1, wrap64_id (n := (i : Int) + 1) (by omega) (by omega)]
        exact Ev.pos (by omega) (Ev.pos (by omega) (Ev.pos (by omega) (Ev.bind hsp (Ev.pos (by simp) (Ev.pos (by simp) (Ev.bind hx (Ev.pos (by simp) (Ev.bind hy (Ev.pos (by omega) hR)))))))))
      rcases ih (i + 1) (acc ++ [⟨x, y⟩]) e3.symm (by omega) (by simp only [List.length_append, List.length_cons, List.length_nil]; omega) with ⟨V, q1, q3⟩ | ⟨q1, q2⟩
      · have h2 := step _ q3
        rw [List.append_assoc, List.singleton_append] at h2
        refine .inl ⟨⟨x, y⟩ :: V, fun W hW e => ?_, h2⟩
        cases W with
        | nil => simp at e
        | cons w W =>
          rw [List.map_cons] at e
          injection e with z1 z2
          rw [hw w (hW w List.mem_cons_self) (by rw [← e2, z1]), q1 W (fun z hz => hW z (List.mem_cons_of_mem _ hz)) z2]
      · refine .inr ⟨fun ⟨W, z1, z2⟩ => ?_, step _ q2⟩
        cases W with
        | nil => simp at z2
        | cons w W =>
          rw [List.map_cons] at z2
          injection z2 with _ z3
          exact q1 ⟨W, fun y hy => z1 y (List.mem_cons_of_mem _ hy), z3⟩
    · refine .inr ⟨fun ⟨W, z1, z2⟩ => ?_, ?_⟩
      · cases W with
        | nil => simp at z2
        | cons w W =>
          rw [List.map_cons] at z2
          injection z2 with z3 _
          exact hno w (z1 w List.mem_cons_self) (by rw [← e2, z3])
      · refine Ev.succ ?_
        simp only [spec_neParse.l0]
        rw [rd_str ps i hi1]
        refine Ev.pos (by omega) (Ev.pos (by omega) (Ev.pos (by omega) (Ev.bind hsp (Ev.neg ?_ (Ev.now _)))))
        rw [List.length_map]
        omega

/-! ### the spec's answer -/
theorem join_all (b : UInt8) (m : Nat) (P : UInt8 → Prop) (hb : P b) : ∀ gs : List (List UInt8), (∀ g ∈ gs, g.length ≤ m ∧ ∀ c ∈ g, P c) → (Lib.joinTail [b] gs).length ≤ (m + 1) * gs.length ∧ ∀ c ∈ Lib.joinTail [b] gs, P c := by
  intro gs
  induction gs with
  | nil => intro _; exact ⟨by simp [Lib.joinTail], fun c hc => by simp [Lib.joinTail] at hc⟩
  | cons g r ih =>
    intro h
    have h1 := h g List.mem_cons_self
    have h2 := ih (fun x hx => h x (List.mem_cons_of_mem _ hx))
    rw [tail_cons]
    refine ⟨?_, fun c hc => ?_⟩
    · simp only [List.length_append, List.length_cons, List.length_nil, Nat.mul_add]
      omega
    · rcases List.mem_append.1 hc with z | z
      · rw [List.mem_singleton.1 z]; exact hb
      · rcases List.mem_append.1 z with z | z
        · exact h1.2 c z
        · exact h2.2 c z
theorem netL_facts {n : Int} {W : List Wr} (h : NetOk n W) : (netL n W).length ≤ 200 ∧ (58 : UInt8) ∉ Lib.join (W.map pt) [44] := by
  have hin := (netOk_in h).1
  have hne := (netOk_in h).2
  obtain ⟨n1, n2, n3, n4⟩ := h
  cases W with
  | nil => exact absurd rfl hne
  | cons w W =>
    have hg : ∀ g ∈ W.map pt, g.length ≤ 5 ∧ ∀ c ∈ g, c ≠ 58 := fun g hg => by
      obtain ⟨v, hv, e⟩ := List.mem_map.1 hg
      subst e
      exact ⟨pt_len n1.2 (n3 v (List.mem_cons_of_mem _ hv)), fun c hc e => pt_sign v (hin v (List.mem_cons_of_mem _ hv)) 58 (.inr (by decide)) (e ▸ hc)⟩
    have hj := join_all 44 5 (fun c => c ≠ 58) (by decide) (W.map pt) hg
    have h1 := pt_len n1.2 (n3 w List.mem_cons_self)
    have h2 := dd_len2 n.toNat (by omega)
    rw [List.length_map] at hj
    simp only [List.length_cons] at n2
    rw [netL, List.map_cons, Lib.join_cons]
    refine ⟨?_, fun hm => ?_⟩
    · simp only [List.length_append, List.length_cons] at h1 ⊢
      show (Lib.decDigits n.toNat).length + _ ≤ _
      have := hj.1
      omega
    · rcases List.mem_append.1 hm with z | z
      · exact pt_sign w (hin w List.mem_cons_self) 58 (.inr (by decide)) z
      · exact hj.2 58 z rfl
theorem spec_parse (s : List UInt8) (hs : s.length ≤ 1048576) :
    (∃ n W, NetOk n W ∧ s = netL n W ∧ Ev (fun k => spec_ParseNet.f k (mk s)) (n, W, true)) ∨
    ((¬ ∃ n W, NetOk n W ∧ s = netL n W) ∧ Ev (fun k => spec_ParseNet.f k (mk s)) (0, [], false)) := by
  have c58 : ((58 : UInt8).toNat : Int) = 58 := by decide
  have c44 : ((44 : UInt8).toNat : Int) = 44 := by decide
  have hsp := l1Split_ev s (by omega) 58
  rw [c58] at hsp
  have good : ∀ (n : Int) (W : List Wr), Ev (fun k => spec_neParse.f k (mk s)) (n, W, true) → Ev (fun k => spec_ParseNet.f k (mk s)) (n, W, true) := fun n W h => Ev.bind h (Ev.pos rfl (Ev.now _))
  have bad : ∀ (n : Int) (W : List Wr), Ev (fun k => spec_neParse.f k (mk s)) (n, W, false) → Ev (fun k => spec_ParseNet.f k (mk s)) (0, [], false) := fun n W h => Ev.bind h (Ev.neg (by simp) (Ev.now _))
  have no : ∀ (c : Bool), c = true → Ev (fun k => spec_neParse.j0 k (mk s) ((spl 58 s).map mk) c) (0, [], false) := fun c hc => Ev.succ (by
    simp only [spec_neParse.j0]
    exact Ev.pos hc (Ev.now _))
  by_cases hsz : s.length ≤ 200
  · by_cases h2 : (spl 58 s).length = 2
    · match hq : spl 58 s, h2 with
      | [p, q], _ =>
        have hlen := spl_len 58 s
        rw [hq] at hlen
        have hql : q.length ≤ 200 := by have := hlen.2 q (List.mem_cons_of_mem _ List.mem_cons_self); omega
        have e : s = p ++ 58 :: q := by
          have e := spl_join 58 s
          rw [hq] at e
          rw [← e]
          simp [Lib.join]
        have hp58 : (58 : UInt8) ∉ p := spl_parts 58 s p (by rw [hq]; exact List.mem_cons_self)
        have hl44 := spl_len 44 q
        have hs44 := l1Split_ev q (by omega) 44
        rw [c44] at hs44
        have start : ∀ (x : Int) (R : Int × List Wr × Bool), Ev (fun k => spec_l1Read.f k (mk p)) x → Ev (fun k => spec_neParse.l0 k (mk s) ((spl 44 q).map mk) (((spl 44 q).map mk).length : Int) ((0 : Nat) : Int) x []) R → Ev (fun k => spec_neParse.f k (mk s)) R := by
          intro x R hx hR
          unfold spec_neParse.f
          refine Ev.bind hsp ?_
          rw [hq]
          refine Ev.neg (by rw [mk_size]; omega) (Ev.succ ?_)
          simp only [spec_neParse.j0]
          exact Ev.neg (by simp) (Ev.pos (by simp) (Ev.bind hx (Ev.pos (by simp) (Ev.bind hs44 hR))))
        by_cases hw : ∃ n W, NetOk n W ∧ s = netL n W
        · obtain ⟨n, W, hok, es⟩ := hw
          have hcut := netL_cut hok p q hp58 (e.symm.trans es)
          have hin := (netOk_in hok).1
          have hn := hok.1
          have hx := read_dd n (by omega) (by omega)
          rw [← hcut.1] at hx
          rcases spec_parse_loop s n (spl 44 q) (by omega) (fun g hg => by have := hl44.2 g hg; omega) (spl 44 q) 0 [] rfl (by simp) (by simp) with ⟨V, q1, q2⟩ | ⟨q1, q2⟩
          · have h4 := start n _ hx q2
            rw [List.nil_append, q1 W hin hcut.2] at h4
            unfold endOf at h4
            rw [if_pos hok, decide_eq_true es.symm] at h4
            exact .inl ⟨n, W, hok, es, good n W h4⟩
          · exact absurd ⟨W, hin, hcut.2⟩ q1
        · refine .inr ⟨hw, ?_⟩
          obtain ⟨x, hx⟩ := read_any p
          rcases spec_parse_loop s x (spl 44 q) (by omega) (fun g hg => by have := hl44.2 g hg; omega) (spl 44 q) 0 [] rfl (by simp) (by simp) with ⟨V, q1, q2⟩ | ⟨q1, q2⟩
          · have h4 := start x _ hx q2
            rw [List.nil_append] at h4
            unfold endOf at h4
            by_cases hok : NetOk x V
            · rw [if_pos hok, decide_eq_false (fun z => hw ⟨x, V, hok, z.symm⟩)] at h4
              exact bad x V h4
            · rw [if_neg hok] at h4
              exact bad x V h4
          · exact bad 0 [] (start x _ hx q2)
    · refine .inr ⟨fun ⟨n, W, hok, es⟩ => h2 ?_, bad 0 [] ?_⟩
      · have hn := hok.1
        rw [es, netL, spl_some 58 _ _ (dd_sign n (by omega) (by omega) 58 (.inr (by decide))), spl_none 58 _ (netL_facts hok).2]
        rfl
      · unfold spec_neParse.f
        refine Ev.bind hsp (Ev.neg (by rw [mk_size]; omega) (no _ ?_))
        rw [List.length_map, bne_iff_ne]
        omega
  · refine .inr ⟨fun ⟨n, W, hok, es⟩ => hsz (by rw [es]; exact (netL_facts hok).1), bad 0 [] ?_⟩
    unfold spec_neParse.f
    exact Ev.bind hsp (Ev.pos (by rw [mk_size]; omega) (no _ rfl))

/-! ### both read the same -/
theorem both_parse (s : List UInt8) (hs : s.length ≤ 1048576) : ∃ B : Int × List Wr × Bool, B.2.1.length ≤ 30 ∧ Ev (fun k => spec_ParseNet.f k (mk s)) B ∧ Ev (fun k => impl_ParseNet.f k (mk s)) B := by
  rcases impl_parse s hs with ⟨n, W, hok, e, h⟩ | ⟨hno, h⟩
  · rcases spec_parse s hs with ⟨n', W', hok', e', h'⟩ | ⟨hno', h'⟩
    · have hn := hok.1
      have hn' := hok'.1
      have e2 : dd n ++ 58 :: Lib.join (W.map pt) [44] = netL n' W' := e.symm.trans e'
      have hc := netL_cut hok' _ _ (dd_sign n (by omega) (by omega) 58 (.inr (by decide))) e2
      have a1 := dd_inj n n' (by omega) (by omega) (by omega) (by omega) hc.1
      have a2 := hc.2
      rw [spl_pts W (netOk_in hok).2 (netOk_in hok).1] at a2
      have a3 := pts_inj W W' (netOk_in hok).1 (netOk_in hok').1 a2
      refine ⟨(n, W, true), hok.2.1, ?_, h⟩
      rw [a1, a3]
      exact h'
    · exact absurd ⟨n, W, hok, e⟩ hno'
  · rcases spec_parse s hs with ⟨n', W', hok', e', h'⟩ | ⟨hno', h'⟩
    · exact absurd ⟨n', W', hok', e'⟩ hno
    · exact ⟨(0, [], false), by simp, h', h⟩
theorem FnExactParseNet : laws_FnExactParseNet.Pure := by
  classical
  intro a _
  refine Ev.rounds (g := fun k => laws_FnExactParseNet.f k a) ?_
  unfold laws_FnExactParseNet.f
  by_cases h : a.size ≤ 1048576
  · have ea : a = mk a.data.toList := rfl
    obtain ⟨B, hb, s1, s2⟩ := both_parse a.data.toList (by rw [← mk_size]; exact h)
    rw [← ea] at s1 s2
    have qB := eqNet_ev B.1 B.2.1 (by omega)
    have mB := markNet_ev B.1 B.2.1 (by omega) 1 (by omega) (by omega)
    have hB := heldNet_ev B.1 B.2.1.length (by omega) 1 (by omega) (by omega)
    refine Ev.neg (by omega) (Ev.bind s1 (Ev.bind s2 (Ev.bind qB (Ev.pos rfl ?_))))
    refine Ev.succ ?_
    simp only [laws_FnExactParseNet.j0]
    refine Ev.neg (by simp) (Ev.bind mB (Ev.bind hB (Ev.neg (by omega) (Ev.pos rfl (Ev.bind s2 (Ev.bind qB (Ev.pos rfl ?_)))))))
    refine Ev.succ ?_
    simp only [laws_FnExactParseNet.j1]
    refine Ev.neg (by simp) (Ev.bind hB (Ev.neg (by omega) (Ev.pos rfl (Ev.now _))))
  · exact Ev.pos (by omega) (Ev.now _)

end Go.Proofs.YtnmaeekclpmmnaaDoor.Pure
