/- The program's IsBalanced and the reference's return the same for all arguments: both ask whether there are potentials that fit all wires, the reference by sweeps until nothing turns, the program by as many sweeps as there are nodes. -/
import Derived.Test.YtmmcbdndelaeoaaPFnExactIsBalancedx7
import Derived.Test.YtmmcbdndelaeoaaPFnExactIsBalancedx0
import Derived.Test.YtmmcbdndelaeoaaPFnExactIsBalancedx1
import Derived.Test.YtmmcbdndelaeoaaPFnExactIsBalancedx2
import Derived.Test.YtmmcbdndelaeoaaPFnExactIsBalancedx3
import Derived.Test.YtmmcbdndelaeoaaPFnExactIsBalancedx4
import Derived.Test.YtmmcbdndelaeoaaPFnExactIsBalancedx5
import Derived.Test.YtmmcbdndelaeoaaPFnExactIsBalancedx6
import Derived.Test.YtmmcbdndelaeoaaWGuardMoreInvWords
namespace Go.Proofs.Ytmmcbdndelaeoaa.Pure
open Go.RowKit Go.Proofs.Ytmmcbdndelaeoaa.PFnExactIsBalanced Go.Proofs.YtmmcbdndelaeoaaW.PrintWords Go.Proofs.YtmmcbdndelaeoaaW.PrintLast Go.Proofs.YtmmcbdndelaeoaaW.PrintMore Go.Proofs.YtmmcbdndelaeoaaW.Evs
set_option linter.unusedVariables false
set_option linter.unusedSimpArgs false
/-! ### a net: what the program's IsNet and the reference's neGood answer -/
abbrev Wr := S64
def wrAt (l : List Wr) (j : Nat) : Wr := l.getD j z64
theorem rd_wr (l : List Wr) (j : Nat) : rd_T64 l (j : Int) = wrAt l j := by unfold rd_T64 wrAt; rw [Int.toNat_natCast]
theorem wrAt_get (l : List Wr) (j : Nat) (h : j < l.length) : wrAt l j = l[j] := by unfold wrAt; simp [List.getD, h]
theorem wr_drop (l : List Wr) (i : Nat) (w : Wr) (t : List Wr) (h : l.drop i = w :: t) : i < l.length ∧ wrAt l i = w ∧ l.drop (i + 1) = t ∧ w ∈ l ∧ i + 1 + t.length = l.length := by
  have h1 : i < l.length := by
    apply Decidable.byContradiction
    intro hn
    rw [List.drop_eq_nil_of_le (by omega)] at h; cases h
  rw [List.drop_eq_getElem_cons h1] at h
  injection h with ha hb
  refine ⟨h1, by rw [wrAt_get l i h1]; exact ha, hb, by rw [← ha]; exact List.getElem_mem h1, ?_⟩
  rw [← hb, List.length_drop]; omega
theorem within_eqN (a b c : Int) : impl_within.f a b c = some (decide (b ≤ a ∧ a ≤ c)) := by
  unfold impl_within.f
  by_cases h : b ≤ a
  · rw [if_pos h]; simp [h]
  · rw [if_neg h]; simp [h]
theorem l1In_eqN (a b c : Int) : spec_l1In.f a b c = some (decide (b ≤ a ∧ a ≤ c)) := by
  unfold spec_l1In.f
  by_cases h : b ≤ a
  · rw [if_pos h]; simp [h]
  · rw [if_neg h]; simp [h]
/-- nodes that are joined to node 0 -/
inductive Reach (ws : List Wr) : Int → Prop
  | zero : Reach ws 0
  | fwd (w : Wr) (h : w ∈ ws) (r : Reach ws w.f0) : Reach ws w.f1
  | bwd (w : Wr) (h : w ∈ ws) (r : Reach ws w.f1) : Reach ws w.f0
def WireOk (n : Int) (w : Wr) : Prop := (0 ≤ w.f0 ∧ w.f0 ≤ n - 1) ∧ (0 ≤ w.f1 ∧ w.f1 ≤ n - 1) ∧ w.f0 ≠ w.f1
instance (n : Int) (w : Wr) : Decidable (WireOk n w) := by unfold WireOk; infer_instance
def Joined (n : Int) (ws : List Wr) : Prop := ∀ j, 0 ≤ j → j < n → Reach ws j
def NetOk (n : Int) (ws : List Wr) : Prop := (2 ≤ n ∧ n ≤ 12) ∧ ws.length ≤ 30 ∧ (∀ w ∈ ws, WireOk n w) ∧ Joined n ws
/-- a list's place by a whole number -/
def bAt (s : List Bool) (j : Int) : Bool := s.getD j.toNat false
def iAt (s : List Int) (j : Int) : Int := s.getD j.toNat 0
theorem getD_set {α : Type} (s : List α) (i m : Nat) (v d : α) (hi : i < s.length) : (s.set i v).getD m d = if m = i then v else s.getD m d := by
  by_cases e : m = i
  · subst e; simp [List.getD, hi]
  · have e' : i ≠ m := fun h => e h.symm
    simp [List.getD, e, e']
theorem bAt_set (s : List Bool) (i m : Int) (v : Bool) (h0 : 0 ≤ i) (hi : i < s.length) (hm : 0 ≤ m) : bAt (s.set i.toNat v) m = if m = i then v else bAt s m := by
  unfold bAt
  rw [getD_set _ _ _ _ _ (by omega)]
  by_cases e : m = i
  · rw [if_pos e, if_pos (by omega)]
  · rw [if_neg e, if_neg (by omega)]
theorem iAt_set (s : List Int) (i m : Int) (v : Int) (h0 : 0 ≤ i) (hi : i < s.length) (hm : 0 ≤ m) : iAt (s.set i.toNat v) m = if m = i then v else iAt s m := by
  unfold iAt
  rw [getD_set _ _ _ _ _ (by omega)]
  by_cases e : m = i
  · rw [if_pos e, if_pos (by omega)]
  · rw [if_neg e, if_neg (by omega)]
theorem countP_le_of {α β : Type} (p : α → Bool) (q : β → Bool) : ∀ (a : List α) (b : List β), a.length = b.length → (∀ (j : Nat) (x : α) (y : β), a[j]? = some x → b[j]? = some y → p x = true → q y = true) → a.countP p ≤ b.countP q
  | [], [], _, _ => Nat.le_refl _
  | x :: a, y :: b, hl, h => by
    have ih := countP_le_of p q a b (by simpa using hl) (fun j u v hu hv => h (j + 1) u v hu hv)
    have h0 := h 0 x y rfl rfl
    rw [List.countP_cons, List.countP_cons]
    cases hp : p x
    · simp; split <;> omega
    · rw [h0 hp]; simp; omega
theorem countP_lt_of {α β : Type} (p : α → Bool) (q : β → Bool) : ∀ (a : List α) (b : List β), a.length = b.length → (∀ (j : Nat) (x : α) (y : β), a[j]? = some x → b[j]? = some y → p x = true → q y = true) → (∃ (j : Nat) (x : α) (y : β), a[j]? = some x ∧ b[j]? = some y ∧ p x = false ∧ q y = true) → a.countP p < b.countP q
  | [], [], _, _, h => by obtain ⟨j, x, y, hx, _⟩ := h; simp at hx
  | x :: a, y :: b, hl, h, hs => by
    have h0 := h 0 x y rfl rfl
    have hl' : a.length = b.length := by simpa using hl
    have ht : ∀ (j : Nat) (u : α) (v : β), a[j]? = some u → b[j]? = some v → p u = true → q v = true := fun j u v hu hv => h (j + 1) u v hu hv
    obtain ⟨j, u, v, hu, hv, hp, hq⟩ := hs
    rw [List.countP_cons, List.countP_cons]
    cases j with
    | zero =>
      have le := countP_le_of p q a b hl' ht
      simp at hu hv
      subst hu hv
      rw [hp, hq]; simp; omega
    | succ j =>
      have lt := countP_lt_of p q a b hl' ht ⟨j, u, v, hu, hv, hp, hq⟩
      cases hp : p x
      · simp; split <;> omega
      · rw [h0 hp]; simp; omega

/-! the program: names -/
def step (s : List Int) (w : Wr) : List Int := (s.set w.f0.toNat (mn (iAt s w.f0) (iAt s w.f1))).set w.f1.toNat (mn (iAt s w.f0) (iAt s w.f1))
def pass (s : List Int) (t : List Wr) : List Int := t.foldl step s
def Nm (n : Int) (s : List Int) : Prop := (s.length : Int) = n ∧ ∀ j, 0 ≤ j → j < n → 0 ≤ iAt s j
theorem mn_eq (a b : Int) : mn a b = min a b := by unfold mn; omega
theorem step_at {n : Int} {s : List Int} {w : Wr} (hs : Nm n s) (hw : WireOk n w) (j : Int) (h0 : 0 ≤ j) : iAt (step s w) j = if j = w.f0 ∨ j = w.f1 then min (iAt s w.f0) (iAt s w.f1) else iAt s j := by
  unfold WireOk at hw
  have hl := hs.1
  unfold step
  rw [iAt_set _ _ _ _ (by omega) (by rw [List.length_set]; omega) h0, iAt_set _ _ _ _ (by omega) (by omega) h0, mn_eq]
  by_cases e1 : j = w.f1
  · rw [if_pos e1, if_pos (Or.inr e1)]
  · rw [if_neg e1]
    by_cases e0 : j = w.f0
    · rw [if_pos e0, if_pos (Or.inl e0)]
    · rw [if_neg e0, if_neg (fun h => h.elim e0 e1)]
theorem step_nm {n : Int} {s : List Int} {w : Wr} (hs : Nm n s) (hw : WireOk n w) : Nm n (step s w) := by
  refine ⟨by unfold step; rw [List.length_set, List.length_set]; exact hs.1, fun j h0 h1 => ?_⟩
  rw [step_at hs hw j h0]
  have a := hs.2 w.f0 (by unfold WireOk at hw; omega) (by unfold WireOk at hw; omega)
  have b := hs.2 w.f1 (by unfold WireOk at hw; omega) (by unfold WireOk at hw; omega)
  have c := hs.2 j h0 h1
  split <;> omega
theorem step_zero {n : Int} {s : List Int} {w : Wr} (hs : Nm n s) (hw : WireOk n w) (j : Int) (h0 : 0 ≤ j) (hz : iAt s j = 0) : iAt (step s w) j = 0 := by
  rw [step_at hs hw j h0]
  have a := hs.2 w.f0 (by unfold WireOk at hw; omega) (by unfold WireOk at hw; omega)
  have b := hs.2 w.f1 (by unfold WireOk at hw; omega) (by unfold WireOk at hw; omega)
  split
  · rename_i h
    rcases h with e | e <;> subst e <;> omega
  · exact hz
theorem pass_all {n : Int} {ws : List Wr} (hws : ∀ w ∈ ws, WireOk n w) : ∀ (t : List Wr), (∀ w ∈ t, w ∈ ws) → ∀ s, Nm n s → (∀ j, 0 ≤ j → j < n → iAt s j = 0 → Reach ws j) →
    Nm n (pass s t) ∧ (∀ j, 0 ≤ j → iAt s j = 0 → iAt (pass s t) j = 0) ∧ (∀ j, 0 ≤ j → j < n → iAt (pass s t) j = 0 → Reach ws j) ∧
      ∀ w ∈ t, iAt s w.f0 = 0 ∨ iAt s w.f1 = 0 → iAt (pass s t) w.f0 = 0 ∧ iAt (pass s t) w.f1 = 0
  | [], _, s, hs, hr => ⟨hs, fun _ _ h => h, hr, fun w hw => by cases hw⟩
  | w :: t, ht, s, hs, hr => by
    have hw := hws w (ht w List.mem_cons_self)
    have hwm := ht w List.mem_cons_self
    have hw' := hw
    unfold WireOk at hw'
    have hr' : ∀ j, 0 ≤ j → j < n → iAt (step s w) j = 0 → Reach ws j := by
      intro j h0 h1 hz
      rw [step_at hs hw j h0] at hz
      have a := hs.2 w.f0 (by omega) (by omega)
      have b := hs.2 w.f1 (by omega) (by omega)
      split at hz
      · rename_i h
        have hh : Reach ws w.f0 ∧ Reach ws w.f1 := by
          rcases (by omega : iAt s w.f0 = 0 ∨ iAt s w.f1 = 0) with e | e
          · have := hr w.f0 (by omega) (by omega) e; exact ⟨this, .fwd w hwm this⟩
          · have := hr w.f1 (by omega) (by omega) e; exact ⟨.bwd w hwm this, this⟩
        rcases h with e | e <;> subst e
        · exact hh.1
        · exact hh.2
      · exact hr j h0 h1 hz
    obtain ⟨p1, p2, p3, p4⟩ := pass_all hws t (fun x hx => ht x (List.mem_cons_of_mem _ hx)) (step s w) (step_nm hs hw) hr'
    have keep : ∀ j, 0 ≤ j → iAt s j = 0 → iAt (pass s (w :: t)) j = 0 := fun j h0 hz => p2 j h0 (step_zero hs hw j h0 hz)
    refine ⟨p1, keep, p3, fun x hx hz => ?_⟩
    rcases List.mem_cons.1 hx with rfl | hx
    · have a := hs.2 x.f0 (by omega) (by omega)
      have b := hs.2 x.f1 (by omega) (by omega)
      constructor
      · refine p2 x.f0 (by omega) ?_
        rw [step_at hs hw _ (by omega), if_pos (Or.inl rfl)]; omega
      · refine p2 x.f1 (by omega) ?_
        rw [step_at hs hw _ (by omega), if_pos (Or.inr rfl)]; omega
    · have hxw := hws x (ht x (List.mem_cons_of_mem _ hx))
      unfold WireOk at hxw
      refine p4 x hx ?_
      rcases hz with hz | hz
      · exact Or.inl (step_zero hs hw _ (by omega) hz)
      · exact Or.inr (step_zero hs hw _ (by omega) hz)
def rounds (ws : List Wr) : Nat → List Int → List Int
  | 0, s => s
  | r + 1, s => rounds ws r (pass s ws)
def Full (n : Int) (ws : List Wr) (s : List Int) : Prop := ∀ j, 0 ≤ j → j < n → Reach ws j → iAt s j = 0
theorem full_of_closed {n : Int} {ws : List Wr} (hws : ∀ w ∈ ws, WireOk n w) {s : List Int} (h0 : iAt s 0 = 0) (hc : ∀ w ∈ ws, iAt s w.f0 = 0 ↔ iAt s w.f1 = 0) : Full n ws s := by
  intro j _ _ hr
  induction hr with
  | zero => exact h0
  | fwd w hw _ ih => have := hws w hw; unfold WireOk at this; exact (hc w hw).1 (ih (by omega) (by omega))
  | bwd w hw _ ih => have := hws w hw; unfold WireOk at this; exact (hc w hw).2 (ih (by omega) (by omega))
theorem at_of (s : List Int) (j : Nat) (h : j < s.length) : s[j]? = some (iAt s (j : Int)) := by
  unfold iAt; rw [Int.toNat_natCast, List.getD_eq_getElem?_getD, List.getElem?_eq_getElem h]; rfl
theorem rounds_full {n : Int} {ws : List Wr} (hn : 1 ≤ n) (hws : ∀ w ∈ ws, WireOk n w) : ∀ (r c : Nat) (s : List Int), Nm n s → iAt s 0 = 0 → (∀ j, 0 ≤ j → j < n → iAt s j = 0 → Reach ws j) → (Full n ws s ∨ c ≤ s.countP (· == 0)) → n < c + r →
    Full n ws (rounds ws r s) ∧ Nm n (rounds ws r s) ∧ ∀ j, 0 ≤ j → j < n → iAt (rounds ws r s) j = 0 → Reach ws j
  | 0, c, s, hs, h0, hr, hf, hc => by
    refine ⟨?_, hs, hr⟩
    rcases hf with hf | hf
    · exact hf
    · have := List.countP_le_length (p := (· == (0 : Int))) (l := s)
      have := hs.1
      omega
  | r + 1, c, s, hs, h0, hr, hf, hc => by
    obtain ⟨p1, p2, p3, p4⟩ := pass_all hws ws (fun _ h => h) s hs hr
    refine rounds_full hn hws r (c + 1) (pass s ws) p1 (p2 0 (by omega) h0) p3 ?_ (by omega)
    by_cases full : Full n ws s
    · exact Or.inl fun j a b d => p2 j a (full j a b d)
    · right
      have hex : ∃ w ∈ ws, ¬ (iAt s w.f0 = 0 ↔ iAt s w.f1 = 0) := by
        apply Decidable.byContradiction
        intro hno
        exact full (full_of_closed hws h0 fun w hw => Decidable.byContradiction fun h => hno ⟨w, hw, h⟩)
      obtain ⟨w, hw, hne⟩ := hex
      have hwo := hws w hw
      unfold WireOk at hwo
      obtain ⟨q1, q2⟩ := p4 w hw (by omega)
      have hl1 := hs.1
      have hl2 := p1.1
      have lt : s.countP (· == 0) < (pass s ws).countP (· == 0) := by
        refine countP_lt_of _ _ s (pass s ws) (by omega) (fun j x y hx hy hp => ?_) ?_
        · have hj : j < s.length := (List.getElem?_eq_some_iff.1 hx).1
          rw [at_of s j hj] at hx
          rw [at_of _ j (by omega)] at hy
          obtain rfl := Option.some.inj hx
          obtain rfl := Option.some.inj hy
          have := p2 (j : Int) (by omega) (by simpa using hp)
          simpa using this
        · by_cases hz : iAt s w.f0 = 0
          · have hz1 : iAt s w.f1 ≠ 0 := fun h => hne ⟨fun _ => h, fun _ => hz⟩
            refine ⟨w.f1.toNat, iAt s w.f1, iAt (pass s ws) w.f1, ?_, ?_, by simpa using hz1, by simpa using q2⟩
            · rw [at_of s _ (by omega)]; congr 2; omega
            · rw [at_of _ _ (by omega)]; congr 2; omega
          · refine ⟨w.f0.toNat, iAt s w.f0, iAt (pass s ws) w.f0, ?_, ?_, by simpa using hz, by simpa using q1⟩
            · rw [at_of s _ (by omega)]; congr 2; omega
            · rw [at_of _ _ (by omega)]; congr 2; omega
      rcases hf with hf | hf
      · exact absurd hf full
      · omega

/-! the program's loops -/
theorem rd_i (s : List Int) (j : Int) : rd s j = iAt s j := rfl
theorem impl_l2 {n : Int} {ws : List Wr} (hws : ∀ w ∈ ws, WireOk n w) (hl : ws.length ≤ 1000) (a b : Int) (r : Bool) : ∀ (t : List Wr) (i : Nat) (s : List Int), ws.drop i = t → i + t.length = ws.length → Nm n s →
    Ev (fun k => impl_Net_isJoined.l1 k (pass s t) a (wrap64 (b + 1)) n ws) r → Ev (fun k => impl_Net_isJoined.l2 k s a b ws (ws.length : Int) (i : Int) n ws) r
  | [], i, s, _, hi, hs, h => by
    simp only [List.length_nil] at hi
    refine Ev.succ ?_
    simp only [impl_Net_isJoined.l2]
    exact Ev.neg (by omega) h
  | w :: t, i, s, hd, hi, hs, h => by
    obtain ⟨h1, h2, h3, h4, h5⟩ := wr_drop ws i w t hd
    have hw := hws w h4
    have hw' := hw
    unfold WireOk at hw'
    have hsl := hs.1
    have ih := impl_l2 hws hl a b r t (i + 1) (step s w) h3 (by omega) (step_nm hs hw) h
    refine Ev.succ ?_
    simp only [impl_Net_isJoined.l2, rd_wr, h2, rd_i]
    refine Ev.pos (by omega) (Ev.pos (by omega) (Ev.pos (by omega) (Ev.pos (by omega) (Ev.pos (by omega) (Ev.pos (by omega) (Ev.pos (by omega) ?_))))))
    rw [wrap64_id (n := (i : Int) + 1) (by omega) (by omega)]
    exact ih
theorem max_loop (s : List Int) (hl : s.length ≤ 1000) : ∀ (d i : Nat) (m : Int), s.length - i = d → i ≤ s.length → 0 ≤ m → (∀ j, j < s.length → 0 ≤ iAt s (j : Int)) →
    ∃ q, Ev (fun k => slices_Max_int_int.l0 k s m (i : Int)) q ∧ (q = 0 ↔ m = 0 ∧ ∀ j, i ≤ j → j < s.length → iAt s (j : Int) = 0) := by
  intro d
  induction d with
  | zero =>
    intro i m hd hi hm h0
    refine ⟨m, Ev.succ ?_, ⟨fun h => ⟨h, fun j h1 h2 => by omega⟩, fun h => h.1⟩⟩
    simp only [slices_Max_int_int.l0]
    exact Ev.neg (by omega) (Ev.now _)
  | succ d ih =>
    intro i m hd hi hm h0
    have hi0 := h0 i (by omega)
    have hx : mx m (iAt s (i : Int)) = max m (iAt s (i : Int)) := by unfold mx; omega
    obtain ⟨q, hq, hiff⟩ := ih (i + 1) (mx m (iAt s (i : Int))) (by omega) (by omega) (by omega) h0
    refine ⟨q, Ev.succ ?_, ?_⟩
    · simp only [slices_Max_int_int.l0, rd_i]
      refine Ev.pos (by omega) (Ev.pos (by omega) ?_)
      rw [wrap64_id (by omega) (by omega)]
      exact hq
    · rw [hiff, hx]
      constructor
      · rintro ⟨h1, h2⟩
        refine ⟨by omega, fun j h3 h4 => ?_⟩
        by_cases e : i = j
        · subst e; omega
        · exact h2 j (by omega) h4
      · rintro ⟨h1, h2⟩
        have := h2 i (Nat.le_refl _) (by omega)
        exact ⟨by omega, fun j h3 h4 => h2 j (by omega) h4⟩
theorem max_ev {n : Int} {s : List Int} (hn : 1 ≤ n ∧ n ≤ 1000) (hs : Nm n s) : ∃ q, Ev (fun k => slices_Max_int_int.f k s) q ∧ (q = 0 ↔ ∀ j, 0 ≤ j → j < n → iAt s j = 0) := by
  have hl := hs.1
  have h0 : ∀ j : Nat, j < s.length → 0 ≤ iAt s (j : Int) := fun j hj => hs.2 j (by omega) (by omega)
  obtain ⟨q, hq, hiff⟩ := max_loop s (by omega) (s.length - 1) 1 (iAt s 0) (by omega) (by omega) (h0 0 (by omega)) h0
  refine ⟨q, ?_, ?_⟩
  · unfold slices_Max_int_int.f
    exact Ev.neg (by omega) (Ev.pos (by omega) hq)
  · rw [hiff]
    constructor
    · rintro ⟨h1, h2⟩ j h3 h4
      by_cases e : j = 0
      · rw [e]; exact h1
      · have := h2 j.toNat (by omega) (by omega)
        rw [show ((j.toNat : Nat) : Int) = j by omega] at this
        exact this
    · intro h
      exact ⟨h 0 (by omega) (by omega), fun j h3 h4 => h j (by omega) (by omega)⟩
theorem impl_l1 {n : Int} {ws : List Wr} (hn : 1 ≤ n ∧ n ≤ 1000) (hws : ∀ w ∈ ws, WireOk n w) (hl : ws.length ≤ 1000) (r : Bool) : ∀ (d : Nat) (b : Int) (s : List Int), n - b = d → 0 ≤ b → Nm n s → (∀ j, 0 ≤ j → j < n → iAt s j = 0 → Reach ws j) →
    (∀ q, Nm n (rounds ws d s) → (q = 0 ↔ ∀ j, 0 ≤ j → j < n → iAt (rounds ws d s) j = 0) → (q == (0 : Int)) = r) → Ev (fun k => impl_Net_isJoined.l1 k s n b n ws) r
  | 0, b, s, hd, hb, hs, hr, h => by
    obtain ⟨q, hq, hiff⟩ := max_ev hn hs
    refine Ev.succ ?_
    simp only [impl_Net_isJoined.l1]
    exact Ev.neg (by omega) (Ev.bind hq (Ev.eqr (Ev.now _) (h q hs hiff)))
  | d + 1, b, s, hd, hb, hs, hr, h => by
    obtain ⟨p1, p2, p3, p4⟩ := pass_all hws ws (fun _ h => h) s hs hr
    refine Ev.succ ?_
    simp only [impl_Net_isJoined.l1]
    refine Ev.pos (by omega) (impl_l2 hws hl n b r ws 0 s rfl (by simp) hs ?_)
    rw [wrap64_id (by omega) (by omega)]
    exact impl_l1 hn hws hl r d (b + 1) (pass s ws) (by omega) (by omega) p1 p3 h
def upTo : Nat → List Int
  | 0 => []
  | k + 1 => upTo k ++ [(k : Int)]
theorem upTo_len : ∀ k, (upTo k).length = k
  | 0 => rfl
  | k + 1 => by simp [upTo, upTo_len k]
theorem upTo_at : ∀ (k j : Nat), j < k → iAt (upTo k) (j : Int) = j
  | k + 1, j, h => by
    unfold iAt
    rw [Int.toNat_natCast]
    simp only [upTo, List.getD_eq_getElem?_getD]
    by_cases e : j < k
    · rw [List.getElem?_append_left (by rw [upTo_len]; exact e)]
      have := upTo_at k j e
      unfold iAt at this
      rw [Int.toNat_natCast, List.getD_eq_getElem?_getD] at this
      exact this
    · obtain rfl : j = k := by omega
      rw [List.getElem?_append_right (by rw [upTo_len]; exact Nat.le_refl _), upTo_len]; simp
theorem impl_l0 {n : Int} {ws : List Wr} (hn : 1 ≤ n ∧ n ≤ 1000) (r : Bool) (h : Ev (fun k => impl_Net_isJoined.l1 k (upTo n.toNat) n 0 n ws) r) : ∀ (d i : Nat), n - i = d → (i : Int) ≤ n →
    Ev (fun k => impl_Net_isJoined.l0 k (upTo i) n (i : Int) n ws) r
  | 0, i, hd, hi => by
    refine Ev.succ ?_
    simp only [impl_Net_isJoined.l0]
    refine Ev.neg (by omega) ?_
    rw [show i = n.toNat by omega]
    exact h
  | d + 1, i, hd, hi => by
    refine Ev.succ ?_
    simp only [impl_Net_isJoined.l0]
    have hl := upTo_len i
    refine Ev.pos (by omega) (Ev.pos (by omega) ?_)
    rw [wrap64_id (by omega) (by omega)]
    exact impl_l0 hn r h d (i + 1) (by omega) (by omega)
theorem up_nm {n : Int} (hn : 1 ≤ n) : Nm n (upTo n.toNat) := by
  refine ⟨by rw [upTo_len]; omega, fun j h0 h1 => ?_⟩
  have := upTo_at n.toNat j.toNat (by omega)
  rw [show ((j.toNat : Nat) : Int) = j by omega] at this
  omega
open Classical in
theorem isJoined_ev {n : Int} {ws : List Wr} (hn : 1 ≤ n ∧ n ≤ 1000) (hws : ∀ w ∈ ws, WireOk n w) (hl : ws.length ≤ 1000) : Ev (fun k => impl_Net_isJoined.f k n ws) (decide (Joined n ws)) := by
  have hs := up_nm hn.1
  have at0 : ∀ j, 0 ≤ j → j < n → iAt (upTo n.toNat) j = j := fun j h0 h1 => by
    have := upTo_at n.toNat j.toNat (by omega)
    rw [show ((j.toNat : Nat) : Int) = j by omega] at this
    exact this
  have hr : ∀ j, 0 ≤ j → j < n → iAt (upTo n.toNat) j = 0 → Reach ws j := fun j h0 h1 hz => by
    rw [at0 j h0 h1] at hz; rw [hz]; exact .zero
  unfold impl_Net_isJoined.f
  refine impl_l0 hn _ ?_ n.toNat 0 (by omega) (by omega)
  refine impl_l1 hn hws hl _ n.toNat 0 _ (by omega) (by omega) hs hr (fun q hq hiff => ?_)
  obtain ⟨f1, f2, f3⟩ := rounds_full hn.1 hws n.toNat 1 _ hs (at0 0 (by omega) (by omega)) hr (Or.inr (by
    refine List.countP_pos_iff.2 ⟨0, ?_, rfl⟩
    have hl := upTo_len n.toNat
    have := at_of (upTo n.toNat) 0 (by omega)
    have e := at0 0 (by omega) (by omega)
    rw [show (((0 : Nat)) : Int) = 0 from rfl, e] at this
    exact List.mem_of_getElem? this)) (by omega)
  rw [Bool.eq_iff_iff, beq_iff_eq, decide_eq_true_eq, hiff]
  exact ⟨fun h j h0 h1 => f3 j h0 h1 (h j h0 h1), fun h j h0 h1 => f1 j h0 h1 (h j h0 h1)⟩
theorem impl_IsNet_loop {n : Int} {ws : List Wr} (hn : 2 ≤ n ∧ n ≤ 12) (hl : ws.length ≤ 30) (r : Bool) (hall : (∀ w ∈ ws, WireOk n w) → Ev (fun k => impl_Net_isJoined.f k n ws) r) (hbad : ¬ (∀ w ∈ ws, WireOk n w) → r = false) : ∀ (t : List Wr) (i : Nat), ws.drop i = t → i + t.length = ws.length →
    ((∀ w ∈ t, WireOk n w) → ∀ w ∈ ws, WireOk n w) → Ev (fun k => impl_IsNet.l0 k ws (ws.length : Int) (i : Int) n ws) r
  | [], i, _, hi, h => by
    simp only [List.length_nil] at hi
    refine Ev.succ ?_
    simp only [impl_IsNet.l0]
    exact Ev.neg (by omega) (Ev.bind (hall (h fun w hw => by cases hw)) (Ev.now _))
  | w :: t, i, hd, hi, h => by
    obtain ⟨h1, h2, h3, h4, h5⟩ := wr_drop ws i w t hd
    have no : ¬ WireOk n w → r = false := fun hc => hbad fun ha => hc (ha w h4)
    refine Ev.succ ?_
    simp only [impl_IsNet.l0, rd_wr, h2]
    refine Ev.pos (by omega) (Ev.pos (by omega) (Ev.pos (by omega) (Ev.bindc (within_eqN _ _ _) ?_)))
    rw [wrap64_id (n := n - 1) (by omega) (by omega), wrap64_id (n := (i : Int) + 1) (by omega) (by omega)]
    by_cases c1 : 0 ≤ w.f0 ∧ w.f0 ≤ n - 1
    · rw [decide_eq_true c1]
      refine Ev.pos rfl (Ev.bindc (within_eqN _ _ _) ?_)
      by_cases c2 : 0 ≤ w.f1 ∧ w.f1 ≤ n - 1
      · rw [decide_eq_true c2]
        refine Ev.pos rfl ?_
        by_cases c3 : w.f0 = w.f1
        · exact Ev.pos c3 (Ev.eqr (Ev.now _) (no fun hc => hc.2.2 c3).symm)
        · refine Ev.neg c3 (impl_IsNet_loop hn hl r hall hbad t (i + 1) h3 (by omega) fun ht => h fun x hx => ?_)
          rcases List.mem_cons.1 hx with rfl | hx
          · exact ⟨c1, c2, c3⟩
          · exact ht x hx
      · rw [decide_eq_false c2]
        exact Ev.neg (by decide) (Ev.eqr (Ev.now _) (no fun hc => c2 hc.2.1).symm)
    · rw [decide_eq_false c1]
      exact Ev.neg (by decide) (Ev.eqr (Ev.now _) (no fun hc => c1 hc.1).symm)
open Classical in
theorem impl_IsNet_ev (n : Int) (ws : List Wr) : Ev (fun k => impl_IsNet.f k n ws) (decide (NetOk n ws)) := by
  have fall : ¬ NetOk n ws → Ev (fun k => impl_IsNet.j0 k true n ws) (decide (NetOk n ws)) := fun h => by
    rw [decide_eq_false h]
    refine Ev.succ ?_
    simp only [impl_IsNet.j0]
    exact Ev.pos trivial (Ev.now _)
  unfold impl_IsNet.f
  refine Ev.bindc (within_eqN _ _ _) ?_
  by_cases c1 : 2 ≤ n ∧ n ≤ 12
  · rw [decide_eq_true c1]
    refine Ev.pos rfl ?_
    by_cases c2 : (ws.length : Int) > 30
    · rw [decide_eq_true c2]
      exact fall fun h => by have := h.2.1; omega
    · rw [decide_eq_false c2]
      refine Ev.succ ?_
      simp only [impl_IsNet.j0]
      refine Ev.neg (by decide) (impl_IsNet_loop c1 (by omega) _ (fun ha => ?_) (fun hn => decide_eq_false fun h => hn h.2.2.1) ws 0 rfl (by simp) (fun h => h))
      refine Ev.eqr (isJoined_ev ⟨by omega, by omega⟩ ha (by omega)) ?_
      exact decide_eq_decide.2 ⟨fun h => ⟨c1, by omega, ha, h⟩, fun h => h.2.2.2⟩
  · rw [decide_eq_false c1]
    exact Ev.neg (by decide) (fall fun h => c1 h.1)

/-! the reference's loops -/
theorem rd_b (s : List Bool) (j : Int) : rdOf false s j = bAt s j := rfl
def Sn (n : Int) (ws : List Wr) (s : List Bool) : Prop := (s.length : Int) = n ∧ bAt s 0 = true ∧ ∀ j, 0 ≤ j → j < n → bAt s j = true → Reach ws j
def mark2 (s : List Bool) (w : Wr) : List Bool := (s.set w.f0.toNat true).set w.f1.toNat true
theorem mark2_at {n : Int} {s : List Bool} {w : Wr} (hl : (s.length : Int) = n) (hw : WireOk n w) (j : Int) (h0 : 0 ≤ j) : bAt (mark2 s w) j = (if j = w.f0 ∨ j = w.f1 then true else bAt s j) := by
  unfold WireOk at hw
  unfold mark2
  rw [bAt_set _ _ _ _ (by omega) (by rw [List.length_set]; omega) h0, bAt_set _ _ _ _ (by omega) (by omega) h0]
  by_cases e1 : j = w.f1
  · rw [if_pos e1, if_pos (Or.inr e1)]
  · rw [if_neg e1]
    by_cases e0 : j = w.f0
    · rw [if_pos e0, if_pos (Or.inl e0)]
    · rw [if_neg e0, if_neg (fun h => h.elim e0 e1)]
theorem bat_of (s : List Bool) (j : Nat) (h : j < s.length) : s[j]? = some (bAt s (j : Int)) := by
  unfold bAt; rw [Int.toNat_natCast, List.getD_eq_getElem?_getD, List.getElem?_eq_getElem h]; rfl
theorem mark2_lt {n : Int} {s : List Bool} {w : Wr} (hl : (s.length : Int) = n) (hw : WireOk n w) (hne : bAt s w.f0 ≠ bAt s w.f1) : s.countP id < (mark2 s w).countP id := by
  have hw' := hw
  unfold WireOk at hw'
  have hl2 : (mark2 s w).length = s.length := by unfold mark2; rw [List.length_set, List.length_set]
  refine countP_lt_of id id s (mark2 s w) hl2.symm (fun j x y hx hy hp => ?_) ?_
  · have hj : j < s.length := (List.getElem?_eq_some_iff.1 hx).1
    rw [bat_of s j hj] at hx
    rw [bat_of _ j (by omega)] at hy
    obtain rfl := Option.some.inj hx
    obtain rfl := Option.some.inj hy
    rw [mark2_at hl hw _ (by omega)]
    split
    · rfl
    · exact hp
  · by_cases hz : bAt s w.f0 = false
    · refine ⟨w.f0.toNat, false, true, ?_, ?_, rfl, rfl⟩
      · rw [bat_of s _ (by omega), show ((w.f0.toNat : Nat) : Int) = w.f0 by omega, hz]
      · rw [bat_of _ _ (by omega), show ((w.f0.toNat : Nat) : Int) = w.f0 by omega, mark2_at hl hw _ (by omega), if_pos (Or.inl rfl)]
    · have hz1 : bAt s w.f1 = false := by
        cases h0 : bAt s w.f0 <;> cases h1 : bAt s w.f1 <;> simp_all
      refine ⟨w.f1.toNat, false, true, ?_, ?_, rfl, rfl⟩
      · rw [bat_of s _ (by omega), show ((w.f1.toNat : Nat) : Int) = w.f1 by omega, hz1]
      · rw [bat_of _ _ (by omega), show ((w.f1.toNat : Nat) : Int) = w.f1 by omega, mark2_at hl hw _ (by omega), if_pos (Or.inr rfl)]
theorem mark2_sn {n : Int} {ws : List Wr} {s : List Bool} {w : Wr} (hs : Sn n ws s) (hw : WireOk n w) (hm : w ∈ ws) (hne : bAt s w.f0 ≠ bAt s w.f1) : Sn n ws (mark2 s w) := by
  obtain ⟨h1, h2, h3⟩ := hs
  have hw' := hw
  unfold WireOk at hw'
  refine ⟨by unfold mark2; rw [List.length_set, List.length_set]; exact h1, ?_, fun j h0 hj hb => ?_⟩
  · rw [mark2_at h1 hw 0 (by omega)]; split
    · rfl
    · exact h2
  · rw [mark2_at h1 hw j h0] at hb
    have hh : Reach ws w.f0 ∧ Reach ws w.f1 := by
      by_cases hz : bAt s w.f0 = true
      · have := h3 w.f0 (by omega) (by omega) hz; exact ⟨this, .fwd w hm this⟩
      · have hz1 : bAt s w.f1 = true := by
          cases h0 : bAt s w.f0 <;> cases h1 : bAt s w.f1 <;> simp_all
        have := h3 w.f1 (by omega) (by omega) hz1; exact ⟨.bwd w hm this, this⟩
    split at hb
    · rename_i h
      rcases h with e | e <;> subst e
      · exact hh.1
      · exact hh.2
    · exact h3 j h0 hj hb
/-- one pass of the reference over wires from place i on -/
theorem spec_l1 {n : Int} {ws : List Wr} (hws : ∀ w ∈ ws, WireOk n w) (hl : ws.length ≤ 1000) (r : Bool) : ∀ (t : List Wr) (i : Nat) (s : List Bool) (ag : Bool), ws.drop i = t → i + t.length = ws.length → Sn n ws s →
    (∀ s' ag', Sn n ws s' → s.countP id ≤ s'.countP id → (ag' = false → ag = false ∧ s' = s ∧ ∀ w ∈ t, bAt s w.f0 = bAt s w.f1) → (ag' = true → ag = true ∨ s.countP id < s'.countP id) → Ev (fun k => spec_neJoined.l0 k s' ag' n ws) r) →
    Ev (fun k => spec_neJoined.l1 k s ag ws (ws.length : Int) (i : Int) n ws) r
  | [], i, s, ag, _, hi, hs, h => by
    simp only [List.length_nil] at hi
    refine Ev.succ ?_
    simp only [spec_neJoined.l1]
    exact Ev.neg (by omega) (h s ag hs (Nat.le_refl _) (fun e => ⟨e, rfl, fun w hw => by cases hw⟩) (fun e => Or.inl e))
  | w :: t, i, s, ag, hd, hi, hs, h => by
    obtain ⟨h1, h2, h3, h4, h5⟩ := wr_drop ws i w t hd
    have hw := hws w h4
    have hw' := hw
    unfold WireOk at hw'
    have hsl := hs.1
    refine Ev.succ ?_
    simp only [spec_neJoined.l1, rd_wr, h2, rd_b]
    refine Ev.pos (by omega) (Ev.pos (by omega) (Ev.pos (by omega) (Ev.pos (by omega) (Ev.pos (by omega) (Ev.pos (by omega) (Ev.pos (by omega) ?_))))))
    rw [wrap64_id (n := (i : Int) + 1) (by omega) (by omega)]
    by_cases hne : bAt s w.f0 = bAt s w.f1
    · refine Ev.neg (by simp [hne]) (spec_l1 hws hl r t (i + 1) s ag h3 (by omega) hs fun s' ag' q1 q2 q3 q4 => h s' ag' q1 q2 (fun e => ?_) q4)
      obtain ⟨a, b, c⟩ := q3 e
      refine ⟨a, b, fun x hx => ?_⟩
      rcases List.mem_cons.1 hx with rfl | hx
      · exact hne
      · exact c x hx
    · have lt := mark2_lt hsl hw hne
      refine Ev.pos (by simpa using hne) (spec_l1 hws hl r t (i + 1) (mark2 s w) true h3 (by omega) (mark2_sn hs hw h4 hne) fun s' ag' q1 q2 q3 q4 => h s' ag' q1 (by omega) (fun e => ?_) (fun e => Or.inr (by omega)))
      exact absurd (q3 e).1 (by decide)
theorem spec_l2 (s : List Bool) (hl : s.length ≤ 1000) : ∀ (d i : Nat), s.length - i = d → i ≤ s.length → ∀ r : Bool, (r = true ↔ ∀ j, i ≤ j → j < s.length → bAt s (j : Int) = true) → Ev (fun k => spec_neJoined.l2 k s (s.length : Int) (i : Int)) r := by
  intro d
  induction d with
  | zero =>
    intro i hd hi r hr
    refine Ev.succ ?_
    simp only [spec_neJoined.l2]
    refine Ev.neg (by omega) (Ev.eqr (Ev.now _) ?_)
    exact (hr.2 fun j h1 h2 => by omega).symm
  | succ d ih =>
    intro i hd hi r hr
    refine Ev.succ ?_
    simp only [spec_neJoined.l2, rd_b]
    refine Ev.pos (by omega) (Ev.pos (by omega) (Ev.pos (by omega) ?_))
    rw [wrap64_id (by omega) (by omega)]
    by_cases hb : bAt s (i : Int) = true
    · refine Ev.pos hb (ih (i + 1) (by omega) (by omega) r ?_)
      rw [hr]
      exact ⟨fun h j h1 h2 => h j (by omega) h2, fun h j h1 h2 => by
        by_cases e : i = j
        · subst e; exact hb
        · exact h j (by omega) h2⟩
    · refine Ev.neg hb (Ev.eqr (Ev.now _) ?_)
      cases hq : r with
      | false => rfl
      | true => exact absurd (hr.1 hq i (Nat.le_refl _) (by omega)) hb
open Classical in
theorem spec_l0 {n : Int} {ws : List Wr} (hn : 1 ≤ n ∧ n ≤ 1000) (hws : ∀ w ∈ ws, WireOk n w) (hl : ws.length ≤ 1000) : ∀ (d : Nat) (s : List Bool), Sn n ws s → s.length - s.countP id ≤ d → Ev (fun k => spec_neJoined.l0 k s true n ws) (decide (Joined n ws)) := by
  have fin : ∀ s, Sn n ws s → (∀ w ∈ ws, bAt s w.f0 = bAt s w.f1) → Ev (fun k => spec_neJoined.l0 k s false n ws) (decide (Joined n ws)) := by
    intro s hs hc
    have hsl := hs.1
    refine Ev.succ ?_
    simp only [spec_neJoined.l0]
    refine Ev.neg (by decide) (spec_l2 s (by omega) s.length 0 (by omega) (Nat.zero_le _) _ ?_)
    rw [decide_eq_true_eq]
    constructor
    · intro h j _ hj
      have hr := h (j : Int) (by omega) (by omega)
      have : ∀ x, Reach ws x → 0 ≤ x ∧ x < n ∧ bAt s x = true := by
        intro x hx
        induction hx with
        | zero => exact ⟨by omega, by omega, hs.2.1⟩
        | fwd w hw _ ih => have := hws w hw; unfold WireOk at this; exact ⟨by omega, by omega, by rw [← hc w hw]; exact ih.2.2⟩
        | bwd w hw _ ih => have := hws w hw; unfold WireOk at this; exact ⟨by omega, by omega, by rw [hc w hw]; exact ih.2.2⟩
      exact (this _ hr).2.2
    · intro h j h0 h1
      have := h j.toNat (Nat.zero_le _) (by omega)
      rw [show ((j.toNat : Nat) : Int) = j by omega] at this
      exact hs.2.2 j h0 h1 this
  intro d
  induction d with
  | zero =>
    intro s hs hd
    have hcl := List.countP_le_length (p := id) (l := s)
    have hsl := hs.1
    refine Ev.succ ?_
    simp only [spec_neJoined.l0]
    refine Ev.pos trivial (spec_l1 hws hl _ ws 0 s false rfl (by simp) hs fun s' ag' q1 q2 q3 q4 => ?_)
    have hcl' := List.countP_le_length (p := id) (l := s')
    have hsl' := q1.1
    cases ag' with
    | false =>
      obtain ⟨_, b, c⟩ := q3 rfl
      subst b
      exact fin s' q1 c
    | true =>
      rcases q4 rfl with h | h
      · cases h
      · omega
  | succ d ih =>
    intro s hs hd
    have hsl := hs.1
    refine Ev.succ ?_
    simp only [spec_neJoined.l0]
    refine Ev.pos trivial (spec_l1 hws hl _ ws 0 s false rfl (by simp) hs fun s' ag' q1 q2 q3 q4 => ?_)
    have hsl' := q1.1
    cases ag' with
    | false =>
      obtain ⟨_, b, c⟩ := q3 rfl
      subst b
      exact fin s' q1 c
    | true =>
      rcases q4 rfl with h | h
      · cases h
      · exact ih s' q1 (by omega)
open Classical in
theorem neJoined_ev {n : Int} {ws : List Wr} (hn : 1 ≤ n ∧ n ≤ 1000) (hws : ∀ w ∈ ws, WireOk n w) (hl : ws.length ≤ 1000) : Ev (fun k => spec_neJoined.f k n ws) (decide (Joined n ws)) := by
  unfold spec_neJoined.f
  refine Ev.pos (by omega) (Ev.pos (by omega) (Ev.bindc rfl (Ev.pos (by rw [List.length_replicate]; omega) ?_)))
  refine spec_l0 hn hws hl _ _ ⟨by simp; omega, ?_, fun j h0 h1 hb => ?_⟩ (Nat.le_refl _)
  · have := bAt_set (List.replicate n.toNat false) 0 0 true (by omega) (by simp; omega) (by omega)
    rw [if_pos rfl] at this; exact this
  · have := bAt_set (List.replicate n.toNat false) 0 j true (by omega) (by simp; omega) (by omega)
    have hb' : bAt ((List.replicate n.toNat false).set (0 : Int).toNat true) j = true := hb
    rw [this] at hb'
    by_cases e : j = 0
    · rw [e]; exact .zero
    · rw [if_neg e] at hb'
      unfold bAt at hb'
      rw [List.getD_eq_getElem?_getD, List.getElem?_replicate] at hb'
      split at hb' <;> cases hb'
theorem neWire_eq {n : Int} (hn : 2 ≤ n ∧ n ≤ 12) (ws : List Wr) (w : Wr) : spec_neWire.f n ws w.f0 w.f1 = some (decide (WireOk n w)) := by
  unfold spec_neWire.f WireOk
  rw [wrap64_id (by omega) (by omega), l1In_eqN, l1In_eqN]
  by_cases c1 : 0 ≤ w.f0 ∧ w.f0 ≤ n - 1
  · by_cases c2 : 0 ≤ w.f1 ∧ w.f1 ≤ n - 1
    · by_cases c3 : w.f0 = w.f1
      · simp [c1, c2, c3]
      · simp [c1, c2, c3]
    · simp [c1, c2]
  · simp [c1]
theorem spec_neGood_loop {n : Int} {ws : List Wr} (hn : 2 ≤ n ∧ n ≤ 12) (hl : ws.length ≤ 30) (r : Bool) (hall : (∀ w ∈ ws, WireOk n w) → Ev (fun k => spec_neJoined.f k n ws) r) (hbad : ¬ (∀ w ∈ ws, WireOk n w) → r = false) : ∀ (t : List Wr) (i : Nat), ws.drop i = t → i + t.length = ws.length →
    ((∀ w ∈ t, WireOk n w) → ∀ w ∈ ws, WireOk n w) → Ev (fun k => spec_neGood.l0 k ws (ws.length : Int) (i : Int) n ws) r
  | [], i, _, hi, h => by
    simp only [List.length_nil] at hi
    refine Ev.succ ?_
    simp only [spec_neGood.l0]
    exact Ev.neg (by omega) (Ev.bind (hall (h fun w hw => by cases hw)) (Ev.now _))
  | w :: t, i, hd, hi, h => by
    obtain ⟨h1, h2, h3, h4, h5⟩ := wr_drop ws i w t hd
    refine Ev.succ ?_
    simp only [spec_neGood.l0, rd_wr, h2]
    refine Ev.pos (by omega) (Ev.pos (by omega) (Ev.pos (by omega) (Ev.bindc (neWire_eq hn ws w) ?_)))
    rw [wrap64_id (n := (i : Int) + 1) (by omega) (by omega)]
    by_cases c : WireOk n w
    · rw [decide_eq_true c]
      refine Ev.pos rfl (spec_neGood_loop hn hl r hall hbad t (i + 1) h3 (by omega) fun ht => h fun x hx => ?_)
      rcases List.mem_cons.1 hx with rfl | hx
      · exact c
      · exact ht x hx
    · rw [decide_eq_false c]
      exact Ev.neg (by decide) (Ev.eqr (Ev.now _) (hbad fun ha => c (ha w h4)).symm)
theorem joined_some {n : Int} {ws : List Wr} (hn : 2 ≤ n) (h : Joined n ws) : ws ≠ [] := by
  intro e
  subst e
  have := h 1 (by omega) (by omega)
  generalize hx : (1 : Int) = x at this
  cases this with
  | zero => omega
  | fwd w hw _ => cases hw
  | bwd w hw _ => cases hw
open Classical in
theorem spec_neGood_ev (n : Int) (ws : List Wr) : Ev (fun k => spec_neGood.f k n ws) (decide (NetOk n ws)) := by
  have fall : ¬ NetOk n ws → Ev (fun k => spec_neGood.j0 k true n ws) (decide (NetOk n ws)) := fun h => by
    rw [decide_eq_false h]
    refine Ev.succ ?_
    simp only [spec_neGood.j0]
    exact Ev.pos trivial (Ev.now _)
  unfold spec_neGood.f
  refine Ev.bindc (l1In_eqN _ _ _) ?_
  by_cases c1 : 2 ≤ n ∧ n ≤ 12
  · rw [decide_eq_true c1]
    refine Ev.pos rfl (Ev.bindc (l1In_eqN _ _ _) ?_)
    by_cases c2 : 1 ≤ (ws.length : Int) ∧ (ws.length : Int) ≤ 30
    · rw [decide_eq_true c2]
      refine Ev.succ ?_
      simp only [spec_neGood.j0, Bool.not_true]
      refine Ev.neg (by decide) (spec_neGood_loop c1 (by omega) _ (fun ha => ?_) (fun hn => decide_eq_false fun h => hn h.2.2.1) ws 0 rfl (by simp) (fun h => h))
      refine Ev.eqr (neJoined_ev ⟨by omega, by omega⟩ ha (by omega)) ?_
      exact decide_eq_decide.2 ⟨fun h => ⟨c1, by omega, ha, h⟩, fun h => h.2.2.2⟩
    · rw [decide_eq_false c2]
      refine fall fun h => ?_
      have h1 := joined_some c1.1 h.2.2.2
      have h2 := h.2.1
      have : 0 < ws.length := List.length_pos_iff.2 h1
      omega
  · rw [decide_eq_false c1]
    exact Ev.neg (by decide) (fall fun h => c1 h.1)

/-! ### wires from one package's type to the other's; lists that are the same -/
abbrev MWr := S107
def convW (q : MWr) : Wr := ⟨q.f0, q.f1⟩
theorem rd_mwr (l : List MWr) (j : Nat) (h : j < l.length) : rd_T107 l (j : Int) = l[j] := by unfold rd_T107; rw [Int.toNat_natCast]; simp [List.getD, h]
theorem toWr_loop (l : List MWr) (hl : l.length ≤ 1048576) : ∀ (d i : Nat) (x : List Wr), l.length - i = d → i ≤ l.length → x.length = l.length → (∀ m, m < i → x[m]? = (l.map convW)[m]?) →
    Ev (fun k => laws_toWireS.l0 k l x (i : Int)) (l.map convW) := by
  intro d
  induction d with
  | zero =>
    intro i x hd hi hx h
    refine Ev.succ ?_
    simp only [laws_toWireS.l0]
    refine Ev.neg (by omega) (Ev.eqr (Ev.now _) ?_)
    apply List.ext_getElem?
    intro m
    by_cases hm : m < i
    · exact h m hm
    · rw [List.getElem?_eq_none (by omega), List.getElem?_eq_none (by simp; omega)]
  | succ d ih =>
    intro i x hd hi hx h
    refine Ev.succ ?_
    simp only [laws_toWireS.l0]
    refine Ev.pos (by omega) (Ev.pos (by omega) (Ev.bindc rfl (Ev.pos (by omega) ?_)))
    rw [Int.toNat_natCast, wrap64_id (by omega) (by omega)]
    refine ih (i + 1) _ (by omega) (by omega) (by simp; omega) (fun m hm => ?_)
    rw [rd_mwr l i (by omega)]
    by_cases e : m = i
    · subst e
      rw [List.getElem?_set_self (by omega), List.getElem?_map, List.getElem?_eq_getElem (by omega)]; rfl
    · rw [List.getElem?_set_ne (by omega)]; exact h m (by omega)
theorem toWireS_ev (l : List MWr) (hl : l.length ≤ 1048576) : Ev (fun k => laws_toWireS.f k l) (l.map convW) := by
  unfold laws_toWireS.f
  refine Ev.pos (by omega) (Ev.pos (by omega) ?_)
  exact toWr_loop l hl l.length 0 _ (by omega) (Nat.zero_le _) (by simp) (fun m hm => by omega)
theorem toNet_ev (n : Int) (l : List MWr) (hl : l.length ≤ 1048576) : Ev (fun k => laws_toNet.f k n l) (n, l.map convW) := by
  unfold laws_toNet.f
  exact Ev.bind (toWireS_ev l hl) (Ev.now _)
theorem eqWireS_loop (l : List Wr) (hl : l.length ≤ 1099511627776) : ∀ (d i : Nat), l.length - i = d → i ≤ l.length → Ev (fun k => laws_eqWireS.l0 k l l (i : Int)) true := by
  intro d
  induction d with
  | zero =>
    intro i hd hi
    refine Ev.succ ?_
    simp only [laws_eqWireS.l0]
    exact Ev.neg (by omega) (Ev.now _)
  | succ d ih =>
    intro i hd hi
    refine Ev.succ ?_
    simp only [laws_eqWireS.l0]
    refine Ev.pos (by omega) (Ev.pos (by omega) (Ev.pos (by omega) (Ev.bindc (a := true) (by unfold laws_eqWire.f; simp) (Ev.pos rfl ?_))))
    rw [wrap64_id (by omega) (by omega)]
    exact ih (i + 1) (by omega) (by omega)
theorem eqWireS_ev (l : List Wr) (hl : l.length ≤ 1099511627776) : Ev (fun k => laws_eqWireS.f k l l) true := by
  unfold laws_eqWireS.f
  exact Ev.pos rfl (eqWireS_loop l hl l.length 0 (by omega) (Nat.zero_le _))
theorem eqNet_ev (n : Int) (l : List Wr) (hl : l.length ≤ 1099511627776) : Ev (fun k => laws_eqNet.f k n l n l) true := by
  unfold laws_eqNet.f
  exact Ev.pos rfl (Ev.bind (eqWireS_ev l hl) (Ev.pos rfl (Ev.now _)))
theorem szNet_eq (n : Int) (l : List MWr) (hl : l.length ≤ maxLen) : laws_szNet.f n l 1048576 = some (if l.length ≤ 1048576 then 1048576 - (l.length : Int) else -1) := by
  have h0 : maxLen ≤ 9223372036854775807 := by decide
  unfold laws_szNet.f laws_szWireS.f
  rw [wrap64_id (by omega) (by omega)]
  by_cases h : l.length ≤ 1048576
  · rw [if_neg (by omega), Option.bind_some, if_neg (by omega), if_pos h]
  · rw [if_pos (by omega), Option.bind_some, if_pos (by omega), if_neg h]

/-! ### lists of numbers: the same, marked, held -/
theorem rd_int (l : List Int) (j : Nat) (h : j < l.length) : rd l (j : Int) = l[j] := by unfold rd; rw [Int.toNat_natCast]; simp [List.getD, h]
theorem eqIntS_loop (l : List Int) (hl : l.length ≤ 1099511627776) : ∀ (d i : Nat), l.length - i = d → i ≤ l.length → Ev (fun k => laws_eqIntS.l0 k l l (i : Int)) true := by
  intro d
  induction d with
  | zero =>
    intro i hd hi
    refine Ev.succ ?_
    simp only [laws_eqIntS.l0]
    exact Ev.neg (by omega) (Ev.now _)
  | succ d ih =>
    intro i hd hi
    refine Ev.succ ?_
    simp only [laws_eqIntS.l0]
    refine Ev.pos (by omega) (Ev.pos (by omega) (Ev.pos (by omega) (Ev.pos trivial ?_)))
    rw [wrap64_id (by omega) (by omega)]
    exact ih (i + 1) (by omega) (by omega)
theorem eqIntS_ev (l : List Int) (hl : l.length ≤ 1099511627776) : Ev (fun k => laws_eqIntS.f k l l) true := by
  unfold laws_eqIntS.f
  exact Ev.pos rfl (eqIntS_loop l hl l.length 0 (by omega) (Nat.zero_le _))

/-! ### numbers that are copied -/
theorem toIntS_loop (l : List Int) (hl : l.length ≤ 1048576) : ∀ (d i : Nat) (x : List Int), l.length - i = d → i ≤ l.length → x.length = l.length → (∀ m, m < i → x[m]? = l[m]?) →
    Ev (fun k => laws_toIntS.l0 k l x (i : Int)) l := by
  intro d
  induction d with
  | zero =>
    intro i x hd hi hx h
    refine Ev.succ ?_
    simp only [laws_toIntS.l0]
    refine Ev.neg (by omega) (Ev.eqr (Ev.now _) ?_)
    apply List.ext_getElem?
    intro m
    by_cases hm : m < i
    · exact h m hm
    · rw [List.getElem?_eq_none (by omega), List.getElem?_eq_none (by omega)]
  | succ d ih =>
    intro i x hd hi hx h
    refine Ev.succ ?_
    simp only [laws_toIntS.l0]
    refine Ev.pos (by omega) (Ev.pos (by omega) (Ev.pos (by omega) ?_))
    rw [Int.toNat_natCast, wrap64_id (by omega) (by omega)]
    refine ih (i + 1) _ (by omega) (by omega) (by simp; omega) (fun m hm => ?_)
    rw [rd_int l i (by omega)]
    by_cases e : m = i
    · subst e
      rw [List.getElem?_set_self (by omega), List.getElem?_eq_getElem (by omega)]
    · rw [List.getElem?_set_ne (by omega)]; exact h m (by omega)
theorem toIntS_ev (l : List Int) (hl : l.length ≤ 1048576) : Ev (fun k => laws_toIntS.f k l) l := by
  unfold laws_toIntS.f
  refine Ev.pos (by omega) (Ev.pos (by omega) ?_)
  exact toIntS_loop l hl l.length 0 _ (by omega) (Nat.zero_le _) (by simp) (fun m hm => by omega)

/-! ### asked currents; what flows into nodes -/
def okC (c : List Int) : Bool := !(c.any fun q => !(decide (-1000000 ≤ q ∧ q ≤ 1000000)))
open Classical in
noncomputable def askedB (n : Int) (W : List Wr) (c : List Int) : Bool := decide (NetOk n W) && decide ((c.length : Int) = (W.length : Int)) && okC c
theorem areCurrents_ev (n : Int) (W : List Wr) (c : List Int) : Ev (fun k => impl_areCurrents.f k n W c) (askedB n W c) := by
  classical
  unfold impl_areCurrents.f askedB
  refine Ev.bind (impl_IsNet_ev n W) ?_
  by_cases h : NetOk n W
  · refine Ev.pos (by simpa using h) ?_
    by_cases h2 : (c.length : Int) = (W.length : Int)
    · refine Ev.pos h2 (Ev.bindc rfl (Ev.eqr (Ev.now _) ?_))
      simp [h, h2, okC]
    · exact Ev.neg h2 (Ev.eqr (Ev.now _) (by simp [h2]))
  · exact Ev.neg (by simpa using h) (Ev.eqr (Ev.now _) (by simp [h]))
theorem l1All_loop (c : List Int) (hl : c.length ≤ 1099511627776) : ∀ (t : List Int) (i : Nat), c.drop i = t → i + t.length = c.length → Ev (fun k => spec_l1All.l0 k (-1000000) 1000000 c (c.length : Int) (i : Int)) (okC t) := by
  intro t
  induction t with
  | nil =>
    intro i hd hi
    refine Ev.succ ?_
    simp only [spec_l1All.l0]
    simp only [List.length_nil] at hi
    exact Ev.neg (by omega) (Ev.eqr (Ev.now _) rfl)
  | cons q t ih =>
    intro i hd hi
    have hi1 : i < c.length := by simp only [List.length_cons] at hi; omega
    have e1 := List.drop_eq_getElem_cons hi1
    rw [hd] at e1
    injection e1 with e2 e3
    refine Ev.succ ?_
    simp only [spec_l1All.l0]
    refine Ev.pos (by omega) (Ev.pos (by omega) (Ev.pos (by omega) (Ev.bindc (l1In_eqN _ _ _) ?_)))
    rw [rd_int c i hi1, ← e2]
    by_cases h : -1000000 ≤ q ∧ q ≤ 1000000
    · rw [decide_eq_true h]
      refine Ev.pos rfl ?_
      rw [wrap64_id (by omega) (by omega)]
      refine Ev.eqr (ih (i + 1) e3.symm (by simp only [List.length_cons] at hi; omega)) ?_
      simp [okC, h]
    · rw [decide_eq_false h]
      exact Ev.neg (by simp) (Ev.eqr (Ev.now _) (by simp only [okC, List.any_cons, decide_eq_false h]; rfl))
theorem neAsked_ev (n : Int) (W : List Wr) (c : List Int) : Ev (fun k => spec_neAsked.f k n W c) (askedB n W c) := by
  classical
  unfold spec_neAsked.f askedB
  refine Ev.bind (spec_neGood_ev n W) ?_
  by_cases h : NetOk n W
  · refine Ev.pos (by simpa using h) ?_
    by_cases h2 : (c.length : Int) = (W.length : Int)
    · refine Ev.pos h2 (Ev.bind (a := okC c) ?_ (Ev.eqr (Ev.now _) ?_))
      · unfold spec_l1All.f
        have := h.2.1
        exact l1All_loop c (by omega) c 0 rfl (by omega)
      · simp [h, h2]
    · exact Ev.neg h2 (Ev.eqr (Ev.now _) (by simp [h2]))
  · exact Ev.neg (by simpa using h) (Ev.eqr (Ev.now _) (by simp [h]))

/-! ### potentials along wires: the reference's sweeps and the program's -/
def bstep (c : List Int) (i : Nat) (s : List Bool) (p : List Int) (w : Wr) : List Bool × List Int :=
  if bAt s w.f0 = bAt s w.f1 then (s, p) else if bAt s w.f0 = true then (mark2 s w, p.set w.f1.toNat (wrap64 (rd p w.f0 - rd c (i : Int)))) else (mark2 s w, p.set w.f0.toNat (wrap64 (rd p w.f1 + rd c (i : Int))))
def bpass (c : List Int) : List Wr → Nat → List Bool → List Int → List Bool × List Int
  | [], _, s, p => (s, p)
  | w :: t, i, s, p => bpass c t (i + 1) (bstep c i s p w).1 (bstep c i s p w).2
def R64 (x : Int) : Prop := -9223372036854775808 ≤ x ∧ x < 9223372036854775808
theorem wrap64_R (x : Int) : R64 (wrap64 x) := by unfold wrap64 R64; omega
def Okp (n : Int) (W : List Wr) (s : List Bool) (p : List Int) : Prop := Sn n W s ∧ p.length = s.length ∧ ∀ j, R64 (iAt p j)
/-- there are potentials that agree with what is known and fit all wires -/
def Sat (n : Int) (W : List Wr) (c : List Int) (s : List Bool) (p : List Int) : Prop :=
  ∃ q : Int → Int, (∀ j, R64 (q j)) ∧ (∀ j, 0 ≤ j → j < n → bAt s j = true → iAt p j = q j) ∧ ∀ i, i < W.length → wrap64 (q (wrAt W i).f0 - q (wrAt W i).f1) = rd c (i : Int)
theorem mark_one {s : List Bool} {a b : Int} (h0 : 0 ≤ a) (h1 : a < s.length) (hb : bAt s a = true) : (s.set a.toNat true).set b.toNat true = s.set b.toNat true := by
  have e : s.set a.toNat true = s := by
    apply List.ext_getElem?
    intro j
    rw [List.getElem?_set]
    by_cases hj : a.toNat = j
    · rw [if_pos hj]
      subst hj
      rw [if_pos (by omega), bat_of s a.toNat (by omega), show ((a.toNat : Nat) : Int) = a by omega, hb]
    · rw [if_neg hj]
  rw [e]
theorem mark_two {s : List Bool} {a b : Int} (h0 : 0 ≤ b) (h1 : b < s.length) (hb : bAt s b = true) : (s.set a.toNat true).set b.toNat true = s.set a.toNat true := by
  by_cases h : a.toNat = b.toNat
  · rw [h, List.set_set]
  · rw [List.set_comm _ _ h]
    exact mark_one h0 h1 hb
theorem iAt_oob {p : List Int} {j : Int} (h : ¬ j.toNat < p.length) : iAt p j = 0 := by
  unfold iAt
  rw [List.getD_eq_getElem?_getD, List.getElem?_eq_none (by omega)]
  rfl
theorem iAt_R_set {p : List Int} (h : ∀ j, R64 (iAt p j)) (a x : Int) (j : Int) : R64 (iAt (p.set a.toNat (wrap64 x)) j) := by
  unfold iAt
  by_cases hj : a.toNat < p.length
  · rw [getD_set _ _ _ _ _ hj]
    split
    · exact wrap64_R x
    · exact h j
  · rw [List.set_eq_of_length_le (by omega)]
    exact h j
theorem wrap_eq {x y c : Int} (hx : R64 x) (hy : R64 y) (hc : R64 c) : wrap64 (x - y) = c ↔ wrap64 (x - c) = y := by
  unfold wrap64 R64 at *
  omega
theorem wrap_eq2 {x y c : Int} (hx : R64 x) (hy : R64 y) (hc : R64 c) : wrap64 (x - y) = c ↔ wrap64 (y + c) = x := by
  unfold wrap64 R64 at *
  omega
theorem bstep_ok {n : Int} {W : List Wr} {c : List Int} {i : Nat} {s : List Bool} {p : List Int} {w : Wr} (hw : WireOk n w) (hm : w ∈ W) (h : Okp n W s p) : Okp n W (bstep c i s p w).1 (bstep c i s p w).2 := by
  unfold bstep
  have hl : (mark2 s w).length = s.length := by unfold mark2; rw [List.length_set, List.length_set]
  split
  · exact h
  · rename_i hne
    split
    · exact ⟨mark2_sn h.1 hw hm hne, by rw [List.length_set, hl]; exact h.2.1, fun j => iAt_R_set h.2.2 _ _ j⟩
    · exact ⟨mark2_sn h.1 hw hm hne, by rw [List.length_set, hl]; exact h.2.1, fun j => iAt_R_set h.2.2 _ _ j⟩
theorem bstep_sat {n : Int} {W : List Wr} {c : List Int} (hcR : ∀ i : Nat, R64 (rd c (i : Int))) {i : Nat} (hi : i < W.length) {s : List Bool} {p : List Int} (hw : WireOk n (wrAt W i)) (h : Okp n W s p) :
    Sat n W c s p ↔ Sat n W c (bstep c i s p (wrAt W i)).1 (bstep c i s p (wrAt W i)).2 := by
  have hw' := hw
  obtain ⟨⟨a1, a2⟩, ⟨b1, b2⟩, ab⟩ := hw'
  have hsl := h.1.1
  have hpl := h.2.1
  unfold bstep
  split
  · exact Iff.rfl
  · rename_i hne
    split
    · rename_i h0
      constructor
      · rintro ⟨q, q1, q2, q3⟩
        refine ⟨q, q1, fun j j0 j1 jb => ?_, q3⟩
        rw [iAt_set _ _ _ _ b1 (by omega) j0]
        split
        · rename_i e
          subst e
          rw [rd_i, q2 _ a1 (by omega) h0]
          exact (wrap_eq (q1 _) (q1 _) (hcR i)).1 (q3 i hi)
        · rename_i e
          refine q2 j j0 j1 ?_
          rw [mark2_at hsl hw j j0] at jb
          split at jb
          · rename_i e2
            rcases e2 with e2 | e2
            · rw [e2]; exact h0
            · exact absurd e2 e
          · exact jb
      · rintro ⟨q, q1, q2, q3⟩
        refine ⟨q, q1, fun j j0 j1 jb => ?_, q3⟩
        have hj : j ≠ (wrAt W i).f1 := fun e => hne (by rw [h0, ← e, jb])
        have h2 := q2 j j0 j1 (by rw [mark2_at hsl hw j j0]; split <;> first | rfl | exact jb)
        rw [iAt_set _ _ _ _ b1 (by omega) j0, if_neg hj] at h2
        exact h2
    · rename_i h0
      have h1 : bAt s (wrAt W i).f1 = true := by
        cases x : bAt s (wrAt W i).f0 <;> cases y : bAt s (wrAt W i).f1 <;> simp_all
      constructor
      · rintro ⟨q, q1, q2, q3⟩
        refine ⟨q, q1, fun j j0 j1 jb => ?_, q3⟩
        rw [iAt_set _ _ _ _ a1 (by omega) j0]
        split
        · rename_i e
          subst e
          rw [rd_i, q2 _ b1 (by omega) h1]
          exact (wrap_eq2 (q1 _) (q1 _) (hcR i)).1 (q3 i hi)
        · rename_i e
          refine q2 j j0 j1 ?_
          rw [mark2_at hsl hw j j0] at jb
          split at jb
          · rename_i e2
            rcases e2 with e2 | e2
            · exact absurd e2 e
            · rw [e2]; exact h1
          · exact jb
      · rintro ⟨q, q1, q2, q3⟩
        refine ⟨q, q1, fun j j0 j1 jb => ?_, q3⟩
        have hj : j ≠ (wrAt W i).f0 := fun e => h0 (by rw [← e]; exact jb)
        have h2 := q2 j j0 j1 (by rw [mark2_at hsl hw j j0]; split <;> first | rfl | exact jb)
        rw [iAt_set _ _ _ _ a1 (by omega) j0, if_neg hj] at h2
        exact h2
/-- what a sweep over wires from place i on leaves -/
theorem bpass_all {n : Int} {W : List Wr} {c : List Int} (hcR : ∀ i : Nat, R64 (rd c (i : Int))) (hws : ∀ w ∈ W, WireOk n w) : ∀ (t : List Wr) (i : Nat) (s : List Bool) (p : List Int), W.drop i = t → Okp n W s p →
    Okp n W (bpass c t i s p).1 (bpass c t i s p).2 ∧ (Sat n W c s p ↔ Sat n W c (bpass c t i s p).1 (bpass c t i s p).2) ∧ s.countP id ≤ (bpass c t i s p).1.countP id ∧
      (((∀ w ∈ t, bAt s w.f0 = bAt s w.f1) ∧ bpass c t i s p = (s, p)) ∨ s.countP id < (bpass c t i s p).1.countP id) := by
  intro t
  induction t with
  | nil => intro i s p _ h; exact ⟨h, Iff.rfl, Nat.le_refl _, .inl ⟨fun w hw => (List.not_mem_nil hw).elim, rfl⟩⟩
  | cons w t ih =>
    intro i s p hd h
    obtain ⟨h1, h2, h3, h4, h5⟩ := wr_drop W i w t hd
    have hw := hws w h4
    have hok := bstep_ok (c := c) (i := i) hw h4 h
    have hst := bstep_sat hcR h1 (s := s) (p := p) (by rw [h2]; exact hw) h
    rw [h2] at hst
    obtain ⟨r1, r2, r3, r4⟩ := ih (i + 1) _ _ h3 hok
    rw [bpass]
    by_cases he : bAt s w.f0 = bAt s w.f1
    · have e : bstep c i s p w = (s, p) := by unfold bstep; rw [if_pos he]
      rw [e] at r1 r2 r3 r4 ⊢
      refine ⟨r1, r2, r3, ?_⟩
      rcases r4 with ⟨x, y⟩ | x
      · exact .inl ⟨fun v hv => (List.mem_cons.1 hv).elim (fun e => e ▸ he) (fun hv => x v hv), y⟩
      · exact .inr x
    · have hlt : s.countP id < (bstep c i s p w).1.countP id := by
        unfold bstep
        rw [if_neg he]
        split
        · exact mark2_lt h.1.1 hw he
        · exact mark2_lt h.1.1 hw he
      exact ⟨r1, hst.trans r2, by omega, .inr (by omega)⟩
def AllS (n : Int) (s : List Bool) : Prop := ∀ j, 0 ≤ j → j < n → bAt s j = true
theorem alls_of {n : Int} {W : List Wr} (hws : ∀ w ∈ W, WireOk n w) (hj : Joined n W) (hn : 1 ≤ n) {s : List Bool} (hs : Sn n W s) (hc : ∀ w ∈ W, bAt s w.f0 = bAt s w.f1) : AllS n s := by
  have : ∀ x, Reach W x → 0 ≤ x ∧ x < n ∧ bAt s x = true := by
    intro x hx
    induction hx with
    | zero => exact ⟨by omega, by omega, hs.2.1⟩
    | fwd w hw _ ih => have := hws w hw; unfold WireOk at this; exact ⟨by omega, by omega, by rw [← hc w hw]; exact ih.2.2⟩
    | bwd w hw _ ih => have := hws w hw; unfold WireOk at this; exact ⟨by omega, by omega, by rw [hc w hw]; exact ih.2.2⟩
  intro j h0 h1
  exact (this j (hj j h0 h1)).2.2
theorem alls_count {n : Int} {s : List Bool} (hl : (s.length : Int) = n) (h : s.length ≤ s.countP id) : AllS n s := by
  have e : s.countP id = s.length := Nat.le_antisymm List.countP_le_length h
  rw [List.countP_eq_length] at e
  intro j h0 h1
  have := e _ (List.mem_of_getElem? (bat_of s j.toNat (by omega)))
  rw [show ((j.toNat : Nat) : Int) = j by omega] at this
  exact this
def Con (W : List Wr) (c p : List Int) (i : Nat) : Prop := wrap64 (rd p (wrAt W i).f0 - rd p (wrAt W i).f1) = rd c (i : Int)
instance (W : List Wr) (c p : List Int) (i : Nat) : Decidable (Con W c p i) := by unfold Con; infer_instance
theorem sat_con {n : Int} {W : List Wr} {c : List Int} (hws : ∀ w ∈ W, WireOk n w) {s : List Bool} {p : List Int} (h : Sat n W c s p) {i : Nat} (hi : i < W.length) (h0 : bAt s (wrAt W i).f0 = true) (h1 : bAt s (wrAt W i).f1 = true) : Con W c p i := by
  obtain ⟨q, q1, q2, q3⟩ := h
  have hw := hws (wrAt W i) (by rw [wrAt_get W i hi]; exact List.getElem_mem _)
  obtain ⟨⟨a1, a2⟩, ⟨b1, b2⟩, ab⟩ := hw
  unfold Con
  rw [rd_i, rd_i, q2 _ a1 (by omega) h0, q2 _ b1 (by omega) h1]
  exact q3 i hi
theorem sat_all {n : Int} {W : List Wr} {c : List Int} {s : List Bool} {p : List Int} (h : Okp n W s p) (hc : ∀ i, i < W.length → Con W c p i) : Sat n W c s p :=
  ⟨fun j => iAt p j, h.2.2, fun _ _ _ _ => rfl, fun i hi => hc i hi⟩
theorem bcount {n : Int} {W : List Wr} (c : List Int) : ∀ (t : List Wr) (i : Nat) (s : List Bool) (p : List Int), (∀ w ∈ W, WireOk n w) → (∀ w ∈ t, w ∈ W) → Okp n W s p → s.countP id ≤ (bpass c t i s p).1.countP id := by
  intro t
  induction t with
  | nil => intro i s p _ _ _; exact Nat.le_refl _
  | cons w t ih =>
    intro i s p hws ht h
    have hm := ht w (List.mem_cons_self)
    have h1 := ih (i + 1) _ _ hws (fun v hv => ht v (List.mem_cons_of_mem _ hv)) (bstep_ok (c := c) (i := i) (hws w hm) hm h)
    rw [bpass]
    refine Nat.le_trans ?_ h1
    unfold bstep
    split
    · exact Nat.le_refl _
    · rename_i hne
      split
      · exact Nat.le_of_lt (mark2_lt h.1.1 (hws w hm) hne)
      · exact Nat.le_of_lt (mark2_lt h.1.1 (hws w hm) hne)

/-! ### what both answer: whether there are potentials -/
theorem mark_l {n : Int} {s : List Bool} {w : Wr} (hl : (s.length : Int) = n) (hw : WireOk n w) (h : bAt s w.f0 = true) : mark2 s w = s.set w.f1.toNat true := by
  obtain ⟨⟨a1, a2⟩, ⟨b1, b2⟩, ab⟩ := hw
  exact mark_one a1 (by omega) h
theorem mark_r {n : Int} {s : List Bool} {w : Wr} (hl : (s.length : Int) = n) (hw : WireOk n w) (h : bAt s w.f1 = true) : mark2 s w = s.set w.f0.toNat true := by
  obtain ⟨⟨a1, a2⟩, ⟨b1, b2⟩, ab⟩ := hw
  exact mark_two b1 (by omega) h
theorem spec_b1 {n : Int} {W : List Wr} {c : List Int} (hws : ∀ w ∈ W, WireOk n w) (hW : W.length ≤ 30) (hc : c.length = W.length) (r : Bool × Bool) : ∀ (t : List Wr) (i : Nat) (s : List Bool) (p : List Int) (ag : Bool), W.drop i = t → i + t.length = W.length → Okp n W s p →
    (∀ ag' : Bool, (ag' = false → ag = false ∧ bpass c t i s p = (s, p) ∧ ∀ w ∈ t, bAt s w.f0 = bAt s w.f1) → (ag' = true → ag = true ∨ s.countP id < (bpass c t i s p).1.countP id) →
      Ev (fun k => spec_IsBalanced.l0 k c (bpass c t i s p).1 (bpass c t i s p).2 ag' n W) r) →
    Ev (fun k => spec_IsBalanced.l1 k c s p ag W (W.length : Int) (i : Int) n W) r := by
  intro t
  induction t with
  | nil =>
    intro i s p ag hd hi h hk
    refine Ev.succ ?_
    simp only [spec_IsBalanced.l1]
    simp only [List.length_nil] at hi
    exact Ev.neg (by omega) (hk ag (fun e => ⟨e, rfl, fun w hw => (List.not_mem_nil hw).elim⟩) (fun e => .inl e))
  | cons w t ih =>
    intro i s p ag hd hi h hk
    obtain ⟨h1, h2, h3, h4, h5⟩ := wr_drop W i w t hd
    have hw := hws w h4
    have hw' := hw
    obtain ⟨⟨a1, a2⟩, ⟨b1, b2⟩, ab⟩ := hw'
    have hsl := h.1.1
    have hpl := h.2.1
    have hok := bstep_ok (c := c) (i := i) hw h4 h
    have ei : wrap64 ((i : Int) + 1) = ((i + 1 : Nat) : Int) := (wrap64_id (by omega) (by omega)).trans (by omega)
    have g1 : (i : Int) < (W.length : Int) := by omega
    have g2 : 0 ≤ (i : Int) := Int.natCast_nonneg i
    have g3 : w.f0 < (s.length : Int) := by omega
    have g4 : w.f1 < (s.length : Int) := by omega
    have g5 : w.f0 < (p.length : Int) := by omega
    have g6 : w.f1 < (p.length : Int) := by omega
    have g7 : (i : Int) < (c.length : Int) := by omega
    have same : bAt s w.f0 = bAt s w.f1 → Ev (fun k => spec_IsBalanced.l1 k c s p ag W (W.length : Int) (wrap64 ((i : Int) + 1)) n W) r := by
      intro he
      have e : bstep c i s p w = (s, p) := by unfold bstep; rw [if_pos he]
      rw [bpass, e] at hk
      rw [ei]
      refine ih (i + 1) s p ag h3 (by simp only [List.length_cons] at hi; omega) h (fun ag' q1 q2 => hk ag' (fun x => ?_) q2)
      obtain ⟨y1, y2, y3⟩ := q1 x
      exact ⟨y1, y2, fun v hv => (List.mem_cons.1 hv).elim (fun e => e ▸ he) (fun hv => y3 v hv)⟩
    have other : bAt s w.f0 ≠ bAt s w.f1 → Ev (fun k => spec_IsBalanced.l1 k c (bstep c i s p w).1 (bstep c i s p w).2 true W (W.length : Int) (wrap64 ((i : Int) + 1)) n W) r := by
      intro hne
      rw [ei]
      have hlt : s.countP id < (bstep c i s p w).1.countP id := by
        unfold bstep
        rw [if_neg hne]
        split
        · exact mark2_lt h.1.1 hw hne
        · exact mark2_lt h.1.1 hw hne
      rw [bpass] at hk
      refine ih (i + 1) _ _ true h3 (by simp only [List.length_cons] at hi; omega) hok (fun ag' q1 q2 => hk ag' (fun x => absurd (q1 x).1 (by decide)) (fun _ => .inr ?_))
      have := bcount c t (i + 1) (bstep c i s p w).1 (bstep c i s p w).2 hws (by
        intro v hv
        exact List.mem_of_mem_drop (h3 ▸ hv)) hok
      omega
    refine Ev.succ ?_
    simp only [spec_IsBalanced.l1]
    rw [rd_wr, h2]
    refine Ev.pos g1 (Ev.pos g2 (Ev.pos g1 (Ev.pos a1 (Ev.pos g3 ?_))))
    rw [rd_b]
    by_cases h0 : bAt s w.f0 = true
    · refine Ev.pos h0 (Ev.pos b1 (Ev.pos g4 (Ev.succ ?_)))
      simp only [spec_IsBalanced.j2]
      rw [rd_b, rd_b]
      by_cases hb : bAt s w.f1 = true
      · refine Ev.neg (by simp [hb]) (Ev.pos b1 (Ev.pos g4 (Ev.pos hb (Ev.pos a1 (Ev.pos g3 (Ev.pos h0 ?_))))))
        exact same (by rw [h0, hb])
      · have hne : bAt s w.f0 ≠ bAt s w.f1 := fun e => hb (by rw [← e]; exact h0)
        refine Ev.pos (by simp [hb]) (Ev.pos b1 (Ev.pos g4 (Ev.pos a1 (Ev.pos g5 (Ev.pos g2 (Ev.pos g7 (Ev.pos g6 ?_)))))))
        have h9 := other hne
        unfold bstep at h9
        rw [if_neg hne, if_pos h0, mark_l hsl hw h0] at h9
        exact h9
    · refine Ev.neg h0 (Ev.succ ?_)
      simp only [spec_IsBalanced.j2]
      rw [rd_b, rd_b]
      refine Ev.neg (by simp) (Ev.pos b1 (Ev.pos g4 ?_))
      by_cases hb : bAt s w.f1 = true
      · have hne : bAt s w.f0 ≠ bAt s w.f1 := fun e => h0 (by rw [e]; exact hb)
        refine Ev.pos hb (Ev.pos a1 (Ev.pos g3 (Ev.neg h0 (Ev.pos g6 (Ev.pos g2 (Ev.pos g7 (Ev.pos g5 ?_)))))))
        have h9 := other hne
        unfold bstep at h9
        rw [if_neg hne, if_neg h0, mark_r hsl hw hb] at h9
        exact h9
      · refine Ev.neg hb (same ?_)
        cases x : bAt s w.f0 <;> cases y : bAt s w.f1 <;> simp_all
theorem spec_b2 {n : Int} {W : List Wr} {c p : List Int} (hws : ∀ w ∈ W, WireOk n w) (hW : W.length ≤ 30) (hc : c.length = W.length) (hp : (p.length : Int) = n) : ∀ (d i : Nat), W.length - i = d → i ≤ W.length → ∀ r : Bool, (r = true ↔ ∀ j, i ≤ j → j < W.length → Con W c p j) →
    Ev (fun k => spec_IsBalanced.l2 k c p W (W.length : Int) (i : Int)) (r, true) := by
  intro d
  induction d with
  | zero =>
    intro i hd hi r hr
    refine Ev.succ ?_
    simp only [spec_IsBalanced.l2]
    refine Ev.neg (by omega) (Ev.eqr (Ev.now _) ?_)
    rw [hr.2 (fun j h1 h2 => by omega)]
  | succ d ih =>
    intro i hd hi r hr
    have hi1 : i < W.length := by omega
    have hw := hws (wrAt W i) (by rw [wrAt_get W i hi1]; exact List.getElem_mem _)
    obtain ⟨⟨a1, a2⟩, ⟨b1, b2⟩, ab⟩ := hw
    refine Ev.succ ?_
    simp only [spec_IsBalanced.l2]
    rw [rd_wr]
    refine Ev.pos (by omega) (Ev.pos (by omega) (Ev.pos (by omega) (Ev.pos a1 (Ev.pos (by omega) (Ev.pos b1 (Ev.pos (by omega) (Ev.pos (by omega) ?_)))))))
    by_cases h : Con W c p i
    · refine Ev.pos h ?_
      rw [show wrap64 ((i : Int) + 1) = ((i + 1 : Nat) : Int) from (wrap64_id (by omega) (by omega)).trans (by omega)]
      refine ih (i + 1) (by omega) (by omega) r (hr.trans ⟨fun x j h1 h2 => x j (by omega) h2, fun x j h1 h2 => ?_⟩)
      by_cases e : j = i
      · subst e; exact h
      · exact x j (by omega) h2
    · refine Ev.neg h (Ev.eqr (Ev.now _) ?_)
      cases r with
      | false => rfl
      | true => exact absurd (hr.1 rfl i (Nat.le_refl _) hi1) h
open Classical in
theorem spec_b0 {n : Int} {W : List Wr} {c : List Int} (hn : 1 ≤ n) (hws : ∀ w ∈ W, WireOk n w) (hj : Joined n W) (hW : W.length ≤ 30) (hc : c.length = W.length) (hcR : ∀ i : Nat, R64 (rd c (i : Int))) : ∀ (d : Nat) (s : List Bool) (p : List Int), Okp n W s p → s.length - s.countP id ≤ d →
    Ev (fun k => spec_IsBalanced.l0 k c s p true n W) (decide (Sat n W c s p), true) := by
  have fin : ∀ s p, Okp n W s p → (∀ w ∈ W, bAt s w.f0 = bAt s w.f1) → Ev (fun k => spec_IsBalanced.l0 k c s p false n W) (decide (Sat n W c s p), true) := by
    intro s p h he
    have hA := alls_of hws hj hn h.1 he
    refine Ev.succ ?_
    simp only [spec_IsBalanced.l0]
    refine Ev.neg (by decide) (spec_b2 hws hW hc (by have := h.1.1; have := h.2.1; omega) W.length 0 (by omega) (Nat.zero_le _) _ ?_)
    rw [decide_eq_true_eq]
    constructor
    · intro hs i _ hi
      have hw := hws (wrAt W i) (by rw [wrAt_get W i hi]; exact List.getElem_mem _)
      obtain ⟨⟨a1, a2⟩, ⟨b1, b2⟩, ab⟩ := hw
      exact sat_con hws hs hi (hA _ a1 (by omega)) (hA _ b1 (by omega))
    · exact fun x => sat_all h (fun i hi => x i (Nat.zero_le _) hi)
  intro d
  induction d with
  | zero =>
    intro s p h hd
    refine Ev.succ ?_
    simp only [spec_IsBalanced.l0]
    refine Ev.pos trivial (spec_b1 hws hW hc _ W 0 s p false rfl (by omega) h (fun ag' q1 q2 => ?_))
    obtain ⟨r1, r2, r3, r4⟩ := bpass_all hcR hws W 0 s p rfl h
    cases ag' with
    | false =>
      obtain ⟨_, y2, y3⟩ := q1 rfl
      rw [y2]
      exact fin s p h y3
    | true =>
      have := (q2 rfl).resolve_left (by decide)
      have l1 := r1.1.1
      have l2 := h.1.1
      have l3 : (bpass c W 0 s p).1.countP id ≤ (bpass c W 0 s p).1.length := List.countP_le_length
      omega
  | succ d ih =>
    intro s p h hd
    refine Ev.succ ?_
    simp only [spec_IsBalanced.l0]
    refine Ev.pos trivial (spec_b1 hws hW hc _ W 0 s p false rfl (by omega) h (fun ag' q1 q2 => ?_))
    obtain ⟨r1, r2, r3, r4⟩ := bpass_all hcR hws W 0 s p rfl h
    cases ag' with
    | false =>
      obtain ⟨_, y2, y3⟩ := q1 rfl
      rw [y2]
      exact fin s p h y3
    | true =>
      have := (q2 rfl).resolve_left (by decide)
      have l1 := r1.1.1
      have l2 := h.1.1
      refine Ev.eqr (ih _ _ r1 (by omega)) ?_
      rw [decide_eq_decide.2 r2.symm]
def Rel (n : Int) (s : List Bool) (p : List Int) (m : Int → Option Int) : Prop := ∀ a, 0 ≤ a → a < n → m a = if bAt s a = true then some (iAt p a) else none
theorem wf64 {n : Int} (h0 : 0 ≤ n) (h1 : n < 1000) : (Lit.int .i64 n).wf = true := by
  rw [← wrap64_id (n := n) (by omega) (by omega)]
  exact wrap64_wf _
theorem impl_b1 {n : Int} {W : List Wr} {c : List Int} (hn : n ≤ 12) (hws : ∀ w ∈ W, WireOk n w) (hW : W.length ≤ 30) (hc : c.length = W.length) (hcR : ∀ i : Nat, R64 (rd c (i : Int))) (R : Bool × Bool) (x : Int) : ∀ (t : List Wr) (i : Nat) (s : List Bool) (p : List Int) (m : Int → Option Int) (q : Nat), W.drop i = t → i + t.length = W.length → Okp n W s p → Rel n s p m → q + t.length ≤ 900000 → (¬ Sat n W c s p → R = (false, true)) →
    (∀ m' q', Rel n (bpass c t i s p).1 (bpass c t i s p).2 m' → q' ≤ q + t.length → (AllS n s → ∀ j, i ≤ j → j < W.length → Con W c p j) → Ev (fun k => impl_IsBalanced.l0 k m' q' (wrap64 (x + 1)) n W c) R) →
    Ev (fun k => impl_IsBalanced.l1 k m q (i : Int) x n W c) R := by
  intro t
  induction t with
  | nil =>
    intro i s p m q hd hi h hr hq hbad hk
    refine Ev.succ ?_
    simp only [impl_IsBalanced.l1]
    simp only [List.length_nil] at hi
    exact Ev.neg (by omega) (hk m q hr (by omega) (fun _ j h1 h2 => by omega))
  | cons w t ih =>
    intro i s p m q hd hi h hr hq hbad hk
    obtain ⟨h1, h2, h3, h4, h5⟩ := wr_drop W i w t hd
    have hw := hws w h4
    have hw' := hw
    obtain ⟨⟨a1, a2⟩, ⟨b1, b2⟩, ab⟩ := hw'
    have hsl := h.1.1
    have hpl := h.2.1
    have hok := bstep_ok (c := c) (i := i) hw h4 h
    have hst := bstep_sat hcR h1 (s := s) (p := p) (by rw [h2]; exact hw) h
    rw [h2] at hst
    have ei : wrap64 ((i : Int) + 1) = ((i + 1 : Nat) : Int) := (wrap64_id (by omega) (by omega)).trans (by omega)
    simp only [List.length_cons] at hi hq hk
    have m0 := hr _ a1 (by omega)
    have m1 := hr _ b1 (by omega)
    have g1 : (i : Int) < (W.length : Int) := by omega
    have g2 : 0 ≤ (i : Int) := Int.natCast_nonneg i
    have g7 : (i : Int) < (c.length : Int) := by omega
    have g8 : q < 1000000 := by omega
    have g9 : w.f0 < 1000 := by omega
    have g10 : w.f1 < 1000 := by omega
    have g11 : w.f0 < n := by omega
    have g12 : w.f1 < n := by omega
    have g13 : w.f0 < (p.length : Int) := by omega
    have g14 : w.f1 < (p.length : Int) := by omega
    have k1 : i + 1 + t.length = W.length := by omega
    have k2 : q + 1 + t.length ≤ 900000 := by omega
    have k3 : q + 1 + t.length ≤ q + (t.length + 1) := by omega
    have same : bAt s w.f0 = bAt s w.f1 → ∀ m' q', Rel n s p m' → q' ≤ q + 1 → (AllS n s → Con W c p i) → Ev (fun k => impl_IsBalanced.l1 k m' q' (wrap64 ((i : Int) + 1)) x n W c) R := by
      intro he m' q' hr' hq' hcn
      have e : bstep c i s p w = (s, p) := by unfold bstep; rw [if_pos he]
      rw [bpass, e] at hk
      rw [ei]
      refine ih (i + 1) s p m' q' h3 k1 h hr' (Nat.le_trans (Nat.add_le_add_right hq' _) k2) hbad (fun m2 q2 r2 hq2 hc2 => hk m2 q2 r2 (Nat.le_trans hq2 (Nat.le_trans (Nat.add_le_add_right hq' _) k3)) (fun hA j j1 j2 => ?_))
      by_cases ej : j = i
      · subst ej; exact hcn hA
      · exact hc2 hA j (Nat.lt_of_le_of_ne j1 (Ne.symm ej)) j2
    have other : bAt s w.f0 ≠ bAt s w.f1 → ∀ m', Rel n (bstep c i s p w).1 (bstep c i s p w).2 m' → Ev (fun k => impl_IsBalanced.l1 k m' (q + 1) (wrap64 ((i : Int) + 1)) x n W c) R := by
      intro hne m' hr'
      rw [bpass] at hk
      rw [ei]
      refine ih (i + 1) _ _ m' (q + 1) h3 k1 hok hr' k2 (fun hns => hbad (fun y => hns (hst.1 y))) (fun m2 q2 r2 hq2 _ => hk m2 q2 r2 (Nat.le_trans hq2 k3) (fun hA => ?_))
      exact absurd ((hA _ a1 g11).trans (hA _ b1 g12).symm) hne
    refine Ev.succ ?_
    simp only [impl_IsBalanced.l1]
    rw [rd_wr, h2]
    refine Ev.pos g1 (Ev.pos ⟨g2, g7, g8, wf64 a1 g9, wf64 b1 g10⟩ ?_)
    by_cases h0 : bAt s w.f0 = true
    · rw [if_pos h0] at m0
      by_cases hb : bAt s w.f1 = true
      · rw [if_pos hb] at m1
        rw [m0, m1]
        refine Ev.pos rfl (Ev.pos rfl ?_)
        simp only [Option.getD_some]
        by_cases hcn : wrap64 (iAt p w.f0 - iAt p w.f1) = rd c (i : Int)
        · refine Ev.pos hcn (same (by rw [h0, hb]) _ _ (fun a h5 h6 => ?_) (Nat.le_refl _) (fun _ => ?_))
          · unfold mput
            by_cases ea : a = w.f1
            · subst ea
              rw [if_pos rfl, if_pos hb, (wrap_eq (h.2.2 _) (h.2.2 _) (hcR i)).1 hcn]
            · rw [if_neg ea]; exact hr a h5 h6
          · unfold Con
            rw [h2]
            exact hcn
        · refine Ev.neg hcn (Ev.eqr (Ev.now _) (hbad (fun hs => hcn ?_)).symm)
          have := sat_con hws hs h1 (by rw [h2]; exact h0) (by rw [h2]; exact hb)
          unfold Con at this
          rw [h2] at this
          exact this
      · rw [if_neg hb] at m1
        have hne : bAt s w.f0 ≠ bAt s w.f1 := fun e => hb (by rw [← e]; exact h0)
        rw [m0, m1]
        refine Ev.pos rfl (Ev.neg (by simp) (other hne _ (fun a h5 h6 => ?_)))
        simp only [Option.getD_some]
        unfold bstep mput
        rw [if_neg hne, if_pos h0]
        simp only
        rw [mark2_at hsl hw a h5, iAt_set _ _ _ _ b1 g14 h5]
        by_cases ea : a = w.f1
        · rw [if_pos ea, if_pos ea, if_pos (Or.inr ea), if_pos rfl]; rfl
        · rw [if_neg ea, if_neg ea, hr a h5 h6]
          by_cases e0 : a = w.f0
          · rw [if_pos (Or.inl e0), if_pos rfl, e0, if_pos h0]
          · have e9 : (if a = w.f0 ∨ a = w.f1 then true else bAt s a) = bAt s a := if_neg (fun y => y.elim e0 ea)
            rw [e9]
    · rw [if_neg h0] at m0
      by_cases hb : bAt s w.f1 = true
      · rw [if_pos hb] at m1
        have hne : bAt s w.f0 ≠ bAt s w.f1 := fun e => h0 (by rw [e]; exact hb)
        rw [m0, m1]
        refine Ev.neg (by simp) (Ev.pos rfl (other hne _ (fun a h5 h6 => ?_)))
        simp only [Option.getD_some]
        unfold bstep mput
        rw [if_neg hne, if_neg h0]
        simp only
        rw [mark2_at hsl hw a h5, iAt_set _ _ _ _ a1 g13 h5]
        by_cases ea : a = w.f0
        · rw [if_pos ea, if_pos ea, if_pos (Or.inl ea), if_pos rfl]; rfl
        · rw [if_neg ea, if_neg ea, hr a h5 h6]
          by_cases e0 : a = w.f1
          · rw [if_pos (Or.inr e0), if_pos rfl, e0, if_pos hb]
          · have e9 : (if a = w.f0 ∨ a = w.f1 then true else bAt s a) = bAt s a := if_neg (fun y => y.elim ea e0)
            rw [e9]
      · rw [if_neg hb] at m1
        rw [m0, m1]
        refine Ev.neg (by simp) (Ev.neg (by simp) (same ?_ m q hr (Nat.le_succ q) (fun hA => absurd (hA _ a1 g11) h0)))
        cases x : bAt s w.f0 <;> cases y : bAt s w.f1 <;> simp_all
open Classical in
theorem impl_b0 {n : Int} {W : List Wr} {c : List Int} (hn : 2 ≤ n ∧ n ≤ 12) (hws : ∀ w ∈ W, WireOk n w) (hj : Joined n W) (hW : W.length ≤ 30) (hc : c.length = W.length) (hcR : ∀ i : Nat, R64 (rd c (i : Int))) : ∀ (d x : Nat) (s : List Bool) (p : List Int) (m : Int → Option Int) (q : Nat), (x : Int) + d = n → Okp n W s p → Rel n s p m → q ≤ 1 + 31 * x →
    (AllS n s ∨ s.length + 1 ≤ s.countP id + d) → (d = 0 → Sat n W c s p) → Ev (fun k => impl_IsBalanced.l0 k m q (x : Int) n W c) (decide (Sat n W c s p), true) := by
  intro d
  induction d with
  | zero =>
    intro x s p m q hx h hr hq hA hS
    refine Ev.succ ?_
    simp only [impl_IsBalanced.l0]
    refine Ev.neg (by omega) (Ev.eqr (Ev.now _) ?_)
    rw [decide_eq_true (hS rfl)]
  | succ d ih =>
    intro x s p m q hx h hr hq hA hS
    refine Ev.succ ?_
    simp only [impl_IsBalanced.l0]
    refine Ev.pos (by omega) (impl_b1 hn.2 hws hW hc hcR _ x W 0 s p m q rfl (by omega) h hr (by omega) (fun hns => by rw [decide_eq_false hns]) (fun m' q' r' hq' hcn => ?_))
    obtain ⟨r1, r2, r3, r4⟩ := bpass_all hcR hws W 0 s p rfl h
    have l1 := r1.1.1
    have l2 := h.1.1
    have l3 : (bpass c W 0 s p).1.countP id ≤ (bpass c W 0 s p).1.length := List.countP_le_length
    have hA' : AllS n (bpass c W 0 s p).1 ∨ (bpass c W 0 s p).1.length + 1 ≤ (bpass c W 0 s p).1.countP id + d := by
      rcases r4 with ⟨y1, y2⟩ | y
      · rw [y2]; exact .inl (alls_of hws hj (by omega) h.1 y1)
      · rcases hA with hA | hA
        · refine .inl (alls_count l1 ?_)
          have : s.countP id = s.length := by
            rw [List.countP_eq_length]
            intro b hb
            obtain ⟨i, hi, rfl⟩ := List.getElem_of_mem hb
            have h9 := hA i (by omega) (by omega)
            have h8 := bat_of s i hi
            rw [h9, List.getElem?_eq_getElem hi] at h8
            exact Option.some.inj h8
          omega
        · exact .inr (by omega)
    rw [show wrap64 ((x : Int) + 1) = ((x + 1 : Nat) : Int) from (wrap64_id (by omega) (by omega)).trans (by omega)]
    refine Ev.eqr (ih (x + 1) _ _ m' q' (by omega) r1 r' (by omega) hA' (fun hd => r2.1 ?_)) ?_
    · have hAs : AllS n s := hA.elim id (fun y => alls_count l2 (by omega))
      exact sat_all h (fun i hi => hcn hAs i (Nat.zero_le _) hi)
    · rw [decide_eq_decide.2 r2.symm]
theorem start_ok {n : Int} {W : List Wr} (hn : 2 ≤ n ∧ n ≤ 12) : Okp n W ((List.replicate n.toNat false).set 0 true) (List.replicate n.toNat 0) ∧ 0 < ((List.replicate n.toNat false).set 0 true).countP id ∧ Rel n ((List.replicate n.toNat false).set 0 true) (List.replicate n.toNat 0) (mput (fun _ => none) 0 0) := by
  have hb : ∀ a : Int, 0 ≤ a → a < n → bAt ((List.replicate n.toNat false).set 0 true) a = decide (a = 0) := by
    intro a h0 h1
    have h := bAt_set (List.replicate n.toNat false) 0 a true (Int.le_refl _) (by simp; omega) h0
    rw [show (0 : Int).toNat = 0 from rfl] at h
    rw [h]
    by_cases e : a = 0
    · rw [if_pos e]; simp [e]
    · rw [if_neg e]; simp [e, bAt, List.getD_eq_getElem?_getD, List.getElem?_replicate]
      split <;> rfl
  have hp : ∀ a : Int, iAt (List.replicate n.toNat 0) a = 0 := by
    intro a
    simp [iAt, List.getD_eq_getElem?_getD, List.getElem?_replicate]
    split <;> rfl
  have hl : (((List.replicate n.toNat false).set 0 true).length : Int) = n := by simp; omega
  refine ⟨⟨⟨hl, by rw [hb 0 (Int.le_refl _) (by omega)]; rfl, fun j h0 h1 hj => ?_⟩, by simp, fun j => by rw [hp]; unfold R64; omega⟩, ?_, fun a h0 h1 => ?_⟩
  · rw [hb j h0 h1] at hj
    have e : j = 0 := by simpa using hj
    rw [e]; exact .zero
  · rw [List.countP_pos_iff]
    refine ⟨true, ?_, rfl⟩
    have h := bat_of ((List.replicate n.toNat false).set 0 true) 0 (by omega)
    have h9 := hb 0 (Int.le_refl _) (by omega)
    rw [show ((0 : Nat) : Int) = 0 from rfl, h9] at h
    exact List.mem_of_getElem? h
  · rw [hb a h0 h1, hp]
    unfold mput
    by_cases e : a = 0
    · rw [if_pos e]; simp [e]
    · rw [if_neg e]; simp [e]
theorem rd_R {c : List Int} (hc : okC c = true) (i : Nat) : R64 (rd c (i : Int)) := by
  unfold rd
  rw [Int.toNat_natCast, List.getD_eq_getElem?_getD]
  by_cases h : i < c.length
  · rw [List.getElem?_eq_getElem h]
    have h2 : (c.any fun q => !(decide (-1000000 ≤ q ∧ q ≤ 1000000))) = false := by
      unfold okC at hc
      cases hx : (c.any fun q => !(decide (-1000000 ≤ q ∧ q ≤ 1000000))) with
      | false => rfl
      | true => rw [hx] at hc; exact absurd hc (by decide)
    rw [List.any_eq_false] at h2
    have h3 := h2 _ (List.getElem_mem h)
    have h4 : -1000000 ≤ c[i] ∧ c[i] ≤ 1000000 := by
      by_cases hd : (-1000000 ≤ c[i] ∧ c[i] ≤ 1000000)
      · exact hd
      · exact absurd (by simp only [decide_eq_false hd]; rfl) h3
    show -9223372036854775808 ≤ c[i] ∧ c[i] < 9223372036854775808
    omega
  · rw [List.getElem?_eq_none (by omega)]
    unfold R64
    show -9223372036854775808 ≤ (0 : Int) ∧ (0 : Int) < 9223372036854775808
    omega
theorem both_bal (n : Int) (W : List Wr) (c : List Int) : ∃ R : Bool × Bool, Ev (fun k => spec_IsBalanced.f k n W c) R ∧ Ev (fun k => impl_IsBalanced.f k n W c) R := by
  classical
  by_cases h : askedB n W c = true
  · have h' := h
    unfold askedB at h'
    simp only [Bool.and_eq_true, decide_eq_true_eq] at h'
    obtain ⟨⟨⟨n1, n2, n3, n4⟩, h2⟩, h3⟩ := h'
    obtain ⟨k1, k2, k3⟩ := start_ok (n := n) (W := W) n1
    have hR := rd_R h3
    refine ⟨(decide (Sat n W c ((List.replicate n.toNat false).set 0 true) (List.replicate n.toNat 0)), true), ?_, ?_⟩
    · unfold spec_IsBalanced.f
      refine Ev.bind (neAsked_ev n W c) (Ev.pos h (Ev.pos (by omega) (Ev.pos (by omega) (Ev.bindc rfl (Ev.pos (by omega) (Ev.pos (by simp; omega) ?_))))))
      exact spec_b0 (by omega) n3 n4 n2 (by omega) hR _ _ _ k1 (Nat.le_refl _)
    · unfold impl_IsBalanced.f
      refine Ev.bind (areCurrents_ev n W c) (Ev.pos h ?_)
      have hl := k1.1.1
      exact impl_b0 n1 n3 n4 n2 (by omega) hR n.toNat 0 _ _ _ 1 (by omega) k1 k3 (by omega) (.inr (by omega)) (fun e => by omega)
  · refine ⟨(false, false), ?_, ?_⟩
    · unfold spec_IsBalanced.f
      exact Ev.bind (neAsked_ev n W c) (Ev.neg h (Ev.now _))
    · unfold impl_IsBalanced.f
      exact Ev.bind (areCurrents_ev n W c) (Ev.neg h (Ev.now _))
theorem FnExactIsBalanced : laws_FnExactIsBalanced.Pure := by
  classical
  intro n l c _ hm _ hmc _
  refine Ev.rounds (g := fun k => laws_FnExactIsBalanced.f k n l c) ?_
  unfold laws_FnExactIsBalanced.f
  by_cases hc : (c.length : Int) > 1048576
  · exact Ev.pos hc (Ev.now _)
  refine Ev.neg hc (Ev.bindc (szNet_eq n l hm) ?_)
  by_cases h : l.length ≤ 1048576
  · rw [if_pos h]
    have hm1 : (l.map convW).length ≤ 1099511627776 := by simp; omega
    obtain ⟨B, s1, s2⟩ := both_bal n (l.map convW) c
    have qN := eqNet_ev n (l.map convW) hm1
    have tN := toNet_ev n l h
    have tc := toIntS_ev c (by omega)
    have qc := eqIntS_ev c (by omega)
    refine Ev.neg (by omega) (Ev.bind tN (Ev.bind tc (Ev.bind s1 (Ev.bind tN (Ev.bind tc (Ev.bind s2 (Ev.neg (by simp) ?_)))))))
    refine Ev.succ ?_
    simp only [laws_FnExactIsBalanced.j0]
    exact Ev.neg (by simp) (Ev.bind tN (Ev.bind qN (Ev.pos rfl (Ev.bind tc (Ev.bind qc (Ev.pos rfl (Ev.now _)))))))
  · rw [if_neg h]
    exact Ev.pos (by omega) (Ev.now _)

end Go.Proofs.Ytmmcbdndelaeoaa.Pure
