/- The program's NetText and the reference's return the same for all arguments: the numerals of nodes and wires with signs between them. -/
import Derived.Test.YtmmcbdndelaeoaaDoorPFnExactNetTextx5
import Derived.Test.YtmmcbdndelaeoaaDoorPFnExactNetTextx0
import Derived.Test.YtmmcbdndelaeoaaDoorPFnExactNetTextx1
import Derived.Test.YtmmcbdndelaeoaaDoorPFnExactNetTextx2
import Derived.Test.YtmmcbdndelaeoaaDoorPFnExactNetTextx3
import Derived.Test.YtmmcbdndelaeoaaDoorPFnExactNetTextx4
import Derived.Test.YtmmcbdndelaeoaaDoorWGuardMoreInvWords
namespace Go.Proofs.YtmmcbdndelaeoaaDoor.Pure
open Go.RowKit Go.Proofs.YtmmcbdndelaeoaaDoor.PFnExactNetText Go.Proofs.YtmmcbdndelaeoaaDoorW.PrintWords Go.Proofs.YtmmcbdndelaeoaaDoorW.PrintLast Go.Proofs.YtmmcbdndelaeoaaDoorW.PrintMore Go.Proofs.YtmmcbdndelaeoaaDoorW.Evs
set_option linter.unusedVariables false
set_option linter.unusedSimpArgs false
/-! ### a net: what the program's IsNet and the reference's neGood answer -/
abbrev Wr := S69
def wrAt (l : List Wr) (j : Nat) : Wr := l.getD j z69
theorem rd_wr (l : List Wr) (j : Nat) : rd_T69 l (j : Int) = wrAt l j := by unfold rd_T69 wrAt; rw [Int.toNat_natCast]
theorem wrAt_get (l : List Wr) (j : Nat) (h : j < l.length) : wrAt l j = l[j] := by unfold wrAt; simp [List.getD, h]
theorem wr_drop (l : List Wr) (i : Nat) (w : Wr) (t : List Wr) (h : l.drop i = w :: t) : i < l.length ∧ wrAt l i = w ∧ l.drop (i + 1) = t ∧ w ∈ l ∧ i + 1 + t.length = l.length := by
  have h1 : i < l.length := by
    apply Decidable.byContradiction
    intro hn
    rw [List.drop_eq_nil_of_le (by omega)] at h; cases h
  rw [List.drop_eq_getElem_cons h1] at h
  injection h with ha hb
  refine ⟨h1, by rw [wrAt_get l i h1]; exact ha, hb, by rw [← ha]; exact List.getElem_mem h1, ?_⟩
  rw [← hb, List.length_drop]; omega
theorem within_eqN (a b c : Int) : impl_within.f a b c = some (decide (b ≤ a ∧ a ≤ c)) := by
  unfold impl_within.f
  by_cases h : b ≤ a
  · rw [if_pos h]; simp [h]
  · rw [if_neg h]; simp [h]
theorem l1In_eqN (a b c : Int) : spec_l1In.f a b c = some (decide (b ≤ a ∧ a ≤ c)) := by
  unfold spec_l1In.f
  by_cases h : b ≤ a
  · rw [if_pos h]; simp [h]
  · rw [if_neg h]; simp [h]
/-- nodes that are joined to node 0 -/
inductive Reach (ws : List Wr) : Int → Prop
  | zero : Reach ws 0
  | fwd (w : Wr) (h : w ∈ ws) (r : Reach ws w.f0) : Reach ws w.f1
  | bwd (w : Wr) (h : w ∈ ws) (r : Reach ws w.f1) : Reach ws w.f0
def WireOk (n : Int) (w : Wr) : Prop := (0 ≤ w.f0 ∧ w.f0 ≤ n - 1) ∧ (0 ≤ w.f1 ∧ w.f1 ≤ n - 1) ∧ w.f0 ≠ w.f1
instance (n : Int) (w : Wr) : Decidable (WireOk n w) := by unfold WireOk; infer_instance
def Joined (n : Int) (ws : List Wr) : Prop := ∀ j, 0 ≤ j → j < n → Reach ws j
def NetOk (n : Int) (ws : List Wr) : Prop := (2 ≤ n ∧ n ≤ 12) ∧ ws.length ≤ 30 ∧ (∀ w ∈ ws, WireOk n w) ∧ Joined n ws
/-- a list's place by a whole number -/
def bAt (s : List Bool) (j : Int) : Bool := s.getD j.toNat false
def iAt (s : List Int) (j : Int) : Int := s.getD j.toNat 0
theorem getD_set {α : Type} (s : List α) (i m : Nat) (v d : α) (hi : i < s.length) : (s.set i v).getD m d = if m = i then v else s.getD m d := by
  by_cases e : m = i
  · subst e; simp [List.getD, hi]
  · have e' : i ≠ m := fun h => e h.symm
    simp [List.getD, e, e']
theorem bAt_set (s : List Bool) (i m : Int) (v : Bool) (h0 : 0 ≤ i) (hi : i < s.length) (hm : 0 ≤ m) : bAt (s.set i.toNat v) m = if m = i then v else bAt s m := by
  unfold bAt
  rw [getD_set _ _ _ _ _ (by omega)]
  by_cases e : m = i
  · rw [if_pos e, if_pos (by omega)]
  · rw [if_neg e, if_neg (by omega)]
theorem iAt_set (s : List Int) (i m : Int) (v : Int) (h0 : 0 ≤ i) (hi : i < s.length) (hm : 0 ≤ m) : iAt (s.set i.toNat v) m = if m = i then v else iAt s m := by
  unfold iAt
  rw [getD_set _ _ _ _ _ (by omega)]
  by_cases e : m = i
  · rw [if_pos e, if_pos (by omega)]
  · rw [if_neg e, if_neg (by omega)]
theorem countP_le_of {α β : Type} (p : α → Bool) (q : β → Bool) : ∀ (a : List α) (b : List β), a.length = b.length → (∀ (j : Nat) (x : α) (y : β), a[j]? = some x → b[j]? = some y → p x = true → q y = true) → a.countP p ≤ b.countP q
  | [], [], _, _ => Nat.le_refl _
  | x :: a, y :: b, hl, h => by
    have ih := countP_le_of p q a b (by simpa using hl) (fun j u v hu hv => h (j + 1) u v hu hv)
    have h0 := h 0 x y rfl rfl
    rw [List.countP_cons, List.countP_cons]
    cases hp : p x
    · simp; split <;> omega
    · rw [h0 hp]; simp; omega
theorem countP_lt_of {α β : Type} (p : α → Bool) (q : β → Bool) : ∀ (a : List α) (b : List β), a.length = b.length → (∀ (j : Nat) (x : α) (y : β), a[j]? = some x → b[j]? = some y → p x = true → q y = true) → (∃ (j : Nat) (x : α) (y : β), a[j]? = some x ∧ b[j]? = some y ∧ p x = false ∧ q y = true) → a.countP p < b.countP q
  | [], [], _, _, h => by obtain ⟨j, x, y, hx, _⟩ := h; simp at hx
  | x :: a, y :: b, hl, h, hs => by
    have h0 := h 0 x y rfl rfl
    have hl' : a.length = b.length := by simpa using hl
    have ht : ∀ (j : Nat) (u : α) (v : β), a[j]? = some u → b[j]? = some v → p u = true → q v = true := fun j u v hu hv => h (j + 1) u v hu hv
    obtain ⟨j, u, v, hu, hv, hp, hq⟩ := hs
    rw [List.countP_cons, List.countP_cons]
    cases j with
    | zero =>
      have le := countP_le_of p q a b hl' ht
      simp at hu hv
      subst hu hv
      rw [hp, hq]; simp; omega
    | succ j =>
      have lt := countP_lt_of p q a b hl' ht ⟨j, u, v, hu, hv, hp, hq⟩
      cases hp : p x
      · simp; split <;> omega
      · rw [h0 hp]; simp; omega

/-! the program: names -/
def step (s : List Int) (w : Wr) : List Int := (s.set w.f0.toNat (mn (iAt s w.f0) (iAt s w.f1))).set w.f1.toNat (mn (iAt s w.f0) (iAt s w.f1))
def pass (s : List Int) (t : List Wr) : List Int := t.foldl step s
def Nm (n : Int) (s : List Int) : Prop := (s.length : Int) = n ∧ ∀ j, 0 ≤ j → j < n → 0 ≤ iAt s j
theorem mn_eq (a b : Int) : mn a b = min a b := by unfold mn; omega
theorem step_at {n : Int} {s : List Int} {w : Wr} (hs : Nm n s) (hw : WireOk n w) (j : Int) (h0 : 0 ≤ j) : iAt (step s w) j = if j = w.f0 ∨ j = w.f1 then min (iAt s w.f0) (iAt s w.f1) else iAt s j := by
  unfold WireOk at hw
  have hl := hs.1
  unfold step
  rw [iAt_set _ _ _ _ (by omega) (by rw [List.length_set]; omega) h0, iAt_set _ _ _ _ (by omega) (by omega) h0, mn_eq]
  by_cases e1 : j = w.f1
  · rw [if_pos e1, if_pos (Or.inr e1)]
  · rw [if_neg e1]
    by_cases e0 : j = w.f0
    · rw [if_pos e0, if_pos (Or.inl e0)]
    · rw [if_neg e0, if_neg (fun h => h.elim e0 e1)]
theorem step_nm {n : Int} {s : List Int} {w : Wr} (hs : Nm n s) (hw : WireOk n w) : Nm n (step s w) := by
  refine ⟨by unfold step; rw [List.length_set, List.length_set]; exact hs.1, fun j h0 h1 => ?_⟩
  rw [step_at hs hw j h0]
  have a := hs.2 w.f0 (by unfold WireOk at hw; omega) (by unfold WireOk at hw; omega)
  have b := hs.2 w.f1 (by unfold WireOk at hw; omega) (by unfold WireOk at hw; omega)
  have c := hs.2 j h0 h1
  split <;> omega
theorem step_zero {n : Int} {s : List Int} {w : Wr} (hs : Nm n s) (hw : WireOk n w) (j : Int) (h0 : 0 ≤ j) (hz : iAt s j = 0) : iAt (step s w) j = 0 := by
  rw [step_at hs hw j h0]
  have a := hs.2 w.f0 (by unfold WireOk at hw; omega) (by unfold WireOk at hw; omega)
  have b := hs.2 w.f1 (by unfold WireOk at hw; omega) (by unfold WireOk at hw; omega)
  split
  · rename_i h
    rcases h with e | e <;> subst e <;> omega
  · exact hz
theorem pass_all {n : Int} {ws : List Wr} (hws : ∀ w ∈ ws, WireOk n w) : ∀ (t : List Wr), (∀ w ∈ t, w ∈ ws) → ∀ s, Nm n s → (∀ j, 0 ≤ j → j < n → iAt s j = 0 → Reach ws j) →
    Nm n (pass s t) ∧ (∀ j, 0 ≤ j → iAt s j = 0 → iAt (pass s t) j = 0) ∧ (∀ j, 0 ≤ j → j < n → iAt (pass s t) j = 0 → Reach ws j) ∧
      ∀ w ∈ t, iAt s w.f0 = 0 ∨ iAt s w.f1 = 0 → iAt (pass s t) w.f0 = 0 ∧ iAt (pass s t) w.f1 = 0
  | [], _, s, hs, hr => ⟨hs, fun _ _ h => h, hr, fun w hw => by cases hw⟩
  | w :: t, ht, s, hs, hr => by
    have hw := hws w (ht w List.mem_cons_self)
    have hwm := ht w List.mem_cons_self
    have hw' := hw
    unfold WireOk at hw'
    have hr' : ∀ j, 0 ≤ j → j < n → iAt (step s w) j = 0 → Reach ws j := by
      intro j h0 h1 hz
      rw [step_at hs hw j h0] at hz
      have a := hs.2 w.f0 (by omega) (by omega)
      have b := hs.2 w.f1 (by omega) (by omega)
      split at hz
      · rename_i h
        have hh : Reach ws w.f0 ∧ Reach ws w.f1 := by
          rcases (by omega : iAt s w.f0 = 0 ∨ iAt s w.f1 = 0) with e | e
          · have := hr w.f0 (by omega) (by omega) e; exact ⟨this, .fwd w hwm this⟩
          · have := hr w.f1 (by omega) (by omega) e; exact ⟨.bwd w hwm this, this⟩
        rcases h with e | e <;> subst e
        · exact hh.1
        · exact hh.2
      · exact hr j h0 h1 hz
    obtain ⟨p1, p2, p3, p4⟩ := pass_all hws t (fun x hx => ht x (List.mem_cons_of_mem _ hx)) (step s w) (step_nm hs hw) hr'
    have keep : ∀ j, 0 ≤ j → iAt s j = 0 → iAt (pass s (w :: t)) j = 0 := fun j h0 hz => p2 j h0 (step_zero hs hw j h0 hz)
    refine ⟨p1, keep, p3, fun x hx hz => ?_⟩
    rcases List.mem_cons.1 hx with rfl | hx
    · have a := hs.2 x.f0 (by omega) (by omega)
      have b := hs.2 x.f1 (by omega) (by omega)
      constructor
      · refine p2 x.f0 (by omega) ?_
        rw [step_at hs hw _ (by omega), if_pos (Or.inl rfl)]; omega
      · refine p2 x.f1 (by omega) ?_
        rw [step_at hs hw _ (by omega), if_pos (Or.inr rfl)]; omega
    · have hxw := hws x (ht x (List.mem_cons_of_mem _ hx))
      unfold WireOk at hxw
      refine p4 x hx ?_
      rcases hz with hz | hz
      · exact Or.inl (step_zero hs hw _ (by omega) hz)
      · exact Or.inr (step_zero hs hw _ (by omega) hz)
def rounds (ws : List Wr) : Nat → List Int → List Int
  | 0, s => s
  | r + 1, s => rounds ws r (pass s ws)
def Full (n : Int) (ws : List Wr) (s : List Int) : Prop := ∀ j, 0 ≤ j → j < n → Reach ws j → iAt s j = 0
theorem full_of_closed {n : Int} {ws : List Wr} (hws : ∀ w ∈ ws, WireOk n w) {s : List Int} (h0 : iAt s 0 = 0) (hc : ∀ w ∈ ws, iAt s w.f0 = 0 ↔ iAt s w.f1 = 0) : Full n ws s := by
  intro j _ _ hr
  induction hr with
  | zero => exact h0
  | fwd w hw _ ih => have := hws w hw; unfold WireOk at this; exact (hc w hw).1 (ih (by omega) (by omega))
  | bwd w hw _ ih => have := hws w hw; unfold WireOk at this; exact (hc w hw).2 (ih (by omega) (by omega))
theorem at_of (s : List Int) (j : Nat) (h : j < s.length) : s[j]? = some (iAt s (j : Int)) := by
  unfold iAt; rw [Int.toNat_natCast, List.getD_eq_getElem?_getD, List.getElem?_eq_getElem h]; rfl
theorem rounds_full {n : Int} {ws : List Wr} (hn : 1 ≤ n) (hws : ∀ w ∈ ws, WireOk n w) : ∀ (r c : Nat) (s : List Int), Nm n s → iAt s 0 = 0 → (∀ j, 0 ≤ j → j < n → iAt s j = 0 → Reach ws j) → (Full n ws s ∨ c ≤ s.countP (· == 0)) → n < c + r →
    Full n ws (rounds ws r s) ∧ Nm n (rounds ws r s) ∧ ∀ j, 0 ≤ j → j < n → iAt (rounds ws r s) j = 0 → Reach ws j
  | 0, c, s, hs, h0, hr, hf, hc => by
    refine ⟨?_, hs, hr⟩
    rcases hf with hf | hf
    · exact hf
    · have := List.countP_le_length (p := (· == (0 : Int))) (l := s)
      have := hs.1
      omega
  | r + 1, c, s, hs, h0, hr, hf, hc => by
    obtain ⟨p1, p2, p3, p4⟩ := pass_all hws ws (fun _ h => h) s hs hr
    refine rounds_full hn hws r (c + 1) (pass s ws) p1 (p2 0 (by omega) h0) p3 ?_ (by omega)
    by_cases full : Full n ws s
    · exact Or.inl fun j a b d => p2 j a (full j a b d)
    · right
      have hex : ∃ w ∈ ws, ¬ (iAt s w.f0 = 0 ↔ iAt s w.f1 = 0) := by
        apply Decidable.byContradiction
        intro hno
        exact full (full_of_closed hws h0 fun w hw => Decidable.byContradiction fun h => hno ⟨w, hw, h⟩)
      obtain ⟨w, hw, hne⟩ := hex
      have hwo := hws w hw
      unfold WireOk at hwo
      obtain ⟨q1, q2⟩ := p4 w hw (by omega)
      have hl1 := hs.1
      have hl2 := p1.1
      have lt : s.countP (· == 0) < (pass s ws).countP (· == 0) := by
        refine countP_lt_of _ _ s (pass s ws) (by omega) (fun j x y hx hy hp => ?_) ?_
        · have hj : j < s.length := (List.getElem?_eq_some_iff.1 hx).1
          rw [at_of s j hj] at hx
          rw [at_of _ j (by omega)] at hy
          obtain rfl := Option.some.inj hx
          obtain rfl := Option.some.inj hy
          have := p2 (j : Int) (by omega) (by simpa using hp)
          simpa using this
        · by_cases hz : iAt s w.f0 = 0
          · have hz1 : iAt s w.f1 ≠ 0 := fun h => hne ⟨fun _ => h, fun _ => hz⟩
            refine ⟨w.f1.toNat, iAt s w.f1, iAt (pass s ws) w.f1, ?_, ?_, by simpa using hz1, by simpa using q2⟩
            · rw [at_of s _ (by omega)]; congr 2; omega
            · rw [at_of _ _ (by omega)]; congr 2; omega
          · refine ⟨w.f0.toNat, iAt s w.f0, iAt (pass s ws) w.f0, ?_, ?_, by simpa using hz, by simpa using q1⟩
            · rw [at_of s _ (by omega)]; congr 2; omega
            · rw [at_of _ _ (by omega)]; congr 2; omega
      rcases hf with hf | hf
      · exact absurd hf full
      · omega

/-! the program's loops -/
theorem rd_i (s : List Int) (j : Int) : rd s j = iAt s j := rfl
theorem impl_l2 {n : Int} {ws : List Wr} (hws : ∀ w ∈ ws, WireOk n w) (hl : ws.length ≤ 1000) (a b : Int) (r : Bool) : ∀ (t : List Wr) (i : Nat) (s : List Int), ws.drop i = t → i + t.length = ws.length → Nm n s →
    Ev (fun k => impl_Net_isJoined.l1 k (pass s t) a (wrap64 (b + 1)) n ws) r → Ev (fun k => impl_Net_isJoined.l2 k s a b ws (ws.length : Int) (i : Int) n ws) r
  | [], i, s, _, hi, hs, h => by
    simp only [List.length_nil] at hi
    refine Ev.succ ?_
    simp only [impl_Net_isJoined.l2]
    exact Ev.neg (by omega) h
  | w :: t, i, s, hd, hi, hs, h => by
    obtain ⟨h1, h2, h3, h4, h5⟩ := wr_drop ws i w t hd
    have hw := hws w h4
    have hw' := hw
    unfold WireOk at hw'
    have hsl := hs.1
    have ih := impl_l2 hws hl a b r t (i + 1) (step s w) h3 (by omega) (step_nm hs hw) h
    refine Ev.succ ?_
    simp only [impl_Net_isJoined.l2, rd_wr, h2, rd_i]
    refine Ev.pos (by omega) (Ev.pos (by omega) (Ev.pos (by omega) (Ev.pos (by omega) (Ev.pos (by omega) (Ev.pos (by omega) (Ev.pos (by omega) ?_))))))
    rw [wrap64_id (n := (i : Int) + 1) (by omega) (by omega)]
    exact ih
theorem max_loop (s : List Int) (hl : s.length ≤ 1000) : ∀ (d i : Nat) (m : Int), s.length - i = d → i ≤ s.length → 0 ≤ m → (∀ j, j < s.length → 0 ≤ iAt s (j : Int)) →
    ∃ q, Ev (fun k => slices_Max_int_int.l0 k s m (i : Int)) q ∧ (q = 0 ↔ m = 0 ∧ ∀ j, i ≤ j → j < s.length → iAt s (j : Int) = 0) := by
  intro d
  induction d with
  | zero =>
    intro i m hd hi hm h0
    refine ⟨m, Ev.succ ?_, ⟨fun h => ⟨h, fun j h1 h2 => by omega⟩, fun h => h.1⟩⟩
    simp only [slices_Max_int_int.l0]
    exact Ev.neg (by omega) (Ev.now _)
  | succ d ih =>
    intro i m hd hi hm h0
    have hi0 := h0 i (by omega)
    have hx : mx m (iAt s (i : Int)) = max m (iAt s (i : Int)) := by unfold mx; omega
    obtain ⟨q, hq, hiff⟩ := ih (i + 1) (mx m (iAt s (i : Int))) (by omega) (by omega) (by omega) h0
    refine ⟨q, Ev.succ ?_, ?_⟩
    · simp only [slices_Max_int_int.l0, rd_i]
      refine Ev.pos (by omega) (Ev.pos (by omega) ?_)
      rw [wrap64_id (by omega) (by omega)]
      exact hq
    · rw [hiff, hx]
      constructor
      · rintro ⟨h1, h2⟩
        refine ⟨by omega, fun j h3 h4 => ?_⟩
        by_cases e : i = j
        · subst e; omega
        · exact h2 j (by omega) h4
      · rintro ⟨h1, h2⟩
        have := h2 i (Nat.le_refl _) (by omega)
        exact ⟨by omega, fun j h3 h4 => h2 j (by omega) h4⟩
theorem max_ev {n : Int} {s : List Int} (hn : 1 ≤ n ∧ n ≤ 1000) (hs : Nm n s) : ∃ q, Ev (fun k => slices_Max_int_int.f k s) q ∧ (q = 0 ↔ ∀ j, 0 ≤ j → j < n → iAt s j = 0) := by
  have hl := hs.1
  have h0 : ∀ j : Nat, j < s.length → 0 ≤ iAt s (j : Int) := fun j hj => hs.2 j (by omega) (by omega)
  obtain ⟨q, hq, hiff⟩ := max_loop s (by omega) (s.length - 1) 1 (iAt s 0) (by omega) (by omega) (h0 0 (by omega)) h0
  refine ⟨q, ?_, ?_⟩
  · unfold slices_Max_int_int.f
    exact Ev.neg (by omega) (Ev.pos (by omega) hq)
  · rw [hiff]
    constructor
    · rintro ⟨h1, h2⟩ j h3 h4
      by_cases e : j = 0
      · rw [e]; exact h1
      · have := h2 j.toNat (by omega) (by omega)
        rw [show ((j.toNat : Nat) : Int) = j by omega] at this
        exact this
    · intro h
      exact ⟨h 0 (by omega) (by omega), fun j h3 h4 => h j (by omega) (by omega)⟩
theorem impl_l1 {n : Int} {ws : List Wr} (hn : 1 ≤ n ∧ n ≤ 1000) (hws : ∀ w ∈ ws, WireOk n w) (hl : ws.length ≤ 1000) (r : Bool) : ∀ (d : Nat) (b : Int) (s : List Int), n - b = d → 0 ≤ b → Nm n s → (∀ j, 0 ≤ j → j < n → iAt s j = 0 → Reach ws j) →
    (∀ q, Nm n (rounds ws d s) → (q = 0 ↔ ∀ j, 0 ≤ j → j < n → iAt (rounds ws d s) j = 0) → (q == (0 : Int)) = r) → Ev (fun k => impl_Net_isJoined.l1 k s n b n ws) r
  | 0, b, s, hd, hb, hs, hr, h => by
    obtain ⟨q, hq, hiff⟩ := max_ev hn hs
    refine Ev.succ ?_
    simp only [impl_Net_isJoined.l1]
    exact Ev.neg (by omega) (Ev.bind hq (Ev.eqr (Ev.now _) (h q hs hiff)))
  | d + 1, b, s, hd, hb, hs, hr, h => by
    obtain ⟨p1, p2, p3, p4⟩ := pass_all hws ws (fun _ h => h) s hs hr
    refine Ev.succ ?_
    simp only [impl_Net_isJoined.l1]
    refine Ev.pos (by omega) (impl_l2 hws hl n b r ws 0 s rfl (by simp) hs ?_)
    rw [wrap64_id (by omega) (by omega)]
    exact impl_l1 hn hws hl r d (b + 1) (pass s ws) (by omega) (by omega) p1 p3 h
def upTo : Nat → List Int
  | 0 => []
  | k + 1 => upTo k ++ [(k : Int)]
theorem upTo_len : ∀ k, (upTo k).length = k
  | 0 => rfl
  | k + 1 => by simp [upTo, upTo_len k]
theorem upTo_at : ∀ (k j : Nat), j < k → iAt (upTo k) (j : Int) = j
  | k + 1, j, h => by
    unfold iAt
    rw [Int.toNat_natCast]
    simp only [upTo, List.getD_eq_getElem?_getD]
    by_cases e : j < k
    · rw [List.getElem?_append_left (by rw [upTo_len]; exact e)]
      have := upTo_at k j e
      unfold iAt at this
      rw [Int.toNat_natCast, List.getD_eq_getElem?_getD] at this
      exact this
    · obtain rfl : j = k := by omega
      rw [List.getElem?_append_right (by rw [upTo_len]; exact Nat.le_refl _), upTo_len]; simp
theorem impl_l0 {n : Int} {ws : List Wr} (hn : 1 ≤ n ∧ n ≤ 1000) (r : Bool) (h : Ev (fun k => impl_Net_isJoined.l1 k (upTo n.toNat) n 0 n ws) r) : ∀ (d i : Nat), n - i = d → (i : Int) ≤ n →
    Ev (fun k => impl_Net_isJoined.l0 k (upTo i) n (i : Int) n ws) r
  | 0, i, hd, hi => by
    refine Ev.succ ?_
    simp only [impl_Net_isJoined.l0]
    refine Ev.neg (by omega) ?_
    rw [show i = n.toNat by omega]
    exact h
  | d + 1, i, hd, hi => by
    refine Ev.succ ?_
    simp only [impl_Net_isJoined.l0]
    have hl := upTo_len i
    refine Ev.pos (by omega) (Ev.pos (by omega) ?_)
    rw [wrap64_id (by omega) (by omega)]
    exact impl_l0 hn r h d (i + 1) (by omega) (by omega)
theorem up_nm {n : Int} (hn : 1 ≤ n) : Nm n (upTo n.toNat) := by
  refine ⟨by rw [upTo_len]; omega, fun j h0 h1 => ?_⟩
  have := upTo_at n.toNat j.toNat (by omega)
  rw [show ((j.toNat : Nat) : Int) = j by omega] at this
  omega
open Classical in
theorem isJoined_ev {n : Int} {ws : List Wr} (hn : 1 ≤ n ∧ n ≤ 1000) (hws : ∀ w ∈ ws, WireOk n w) (hl : ws.length ≤ 1000) : Ev (fun k => impl_Net_isJoined.f k n ws) (decide (Joined n ws)) := by
  have hs := up_nm hn.1
  have at0 : ∀ j, 0 ≤ j → j < n → iAt (upTo n.toNat) j = j := fun j h0 h1 => by
    have := upTo_at n.toNat j.toNat (by omega)
    rw [show ((j.toNat : Nat) : Int) = j by omega] at this
    exact this
  have hr : ∀ j, 0 ≤ j → j < n → iAt (upTo n.toNat) j = 0 → Reach ws j := fun j h0 h1 hz => by
    rw [at0 j h0 h1] at hz; rw [hz]; exact .zero
  unfold impl_Net_isJoined.f
  refine impl_l0 hn _ ?_ n.toNat 0 (by omega) (by omega)
  refine impl_l1 hn hws hl _ n.toNat 0 _ (by omega) (by omega) hs hr (fun q hq hiff => ?_)
  obtain ⟨f1, f2, f3⟩ := rounds_full hn.1 hws n.toNat 1 _ hs (at0 0 (by omega) (by omega)) hr (Or.inr (by
    refine List.countP_pos_iff.2 ⟨0, ?_, rfl⟩
    have hl := upTo_len n.toNat
    have := at_of (upTo n.toNat) 0 (by omega)
    have e := at0 0 (by omega) (by omega)
    rw [show (((0 : Nat)) : Int) = 0 from rfl, e] at this
    exact List.mem_of_getElem? this)) (by omega)
  rw [Bool.eq_iff_iff, beq_iff_eq, decide_eq_true_eq, hiff]
  exact ⟨fun h j h0 h1 => f3 j h0 h1 (h j h0 h1), fun h j h0 h1 => f1 j h0 h1 (h j h0 h1)⟩
theorem impl_IsNet_loop {n : Int} {ws : List Wr} (hn : 2 ≤ n ∧ n ≤ 12) (hl : ws.length ≤ 30) (r : Bool) (hall : (∀ w ∈ ws, WireOk n w) → Ev (fun k => impl_Net_isJoined.f k n ws) r) (hbad : ¬ (∀ w ∈ ws, WireOk n w) → r = false) : ∀ (t : List Wr) (i : Nat), ws.drop i = t → i + t.length = ws.length →
    ((∀ w ∈ t, WireOk n w) → ∀ w ∈ ws, WireOk n w) → Ev (fun k => impl_IsNet.l0 k ws (ws.length : Int) (i : Int) n ws) r
  | [], i, _, hi, h => by
    simp only [List.length_nil] at hi
    refine Ev.succ ?_
    simp only [impl_IsNet.l0]
    exact Ev.neg (by omega) (Ev.bind (hall (h fun w hw => by cases hw)) (Ev.now _))
  | w :: t, i, hd, hi, h => by
    obtain ⟨h1, h2, h3, h4, h5⟩ := wr_drop ws i w t hd
    have no : ¬ WireOk n w → r = false := fun hc => hbad fun ha => hc (ha w h4)
    refine Ev.succ ?_
    simp only [impl_IsNet.l0, rd_wr, h2]
    refine Ev.pos (by omega) (Ev.pos (by omega) (Ev.pos (by omega) (Ev.bindc (within_eqN _ _ _) ?_)))
    rw [wrap64_id (n := n - 1) (by omega) (by omega), wrap64_id (n := (i : Int) + 1) (by omega) (by omega)]
    by_cases c1 : 0 ≤ w.f0 ∧ w.f0 ≤ n - 1
    · rw [decide_eq_true c1]
      refine Ev.pos rfl (Ev.bindc (within_eqN _ _ _) ?_)
      by_cases c2 : 0 ≤ w.f1 ∧ w.f1 ≤ n - 1
      · rw [decide_eq_true c2]
        refine Ev.pos rfl ?_
        by_cases c3 : w.f0 = w.f1
        · exact Ev.pos c3 (Ev.eqr (Ev.now _) (no fun hc => hc.2.2 c3).symm)
        · refine Ev.neg c3 (impl_IsNet_loop hn hl r hall hbad t (i + 1) h3 (by omega) fun ht => h fun x hx => ?_)
          rcases List.mem_cons.1 hx with rfl | hx
          · exact ⟨c1, c2, c3⟩
          · exact ht x hx
      · rw [decide_eq_false c2]
        exact Ev.neg (by decide) (Ev.eqr (Ev.now _) (no fun hc => c2 hc.2.1).symm)
    · rw [decide_eq_false c1]
      exact Ev.neg (by decide) (Ev.eqr (Ev.now _) (no fun hc => c1 hc.1).symm)
open Classical in
theorem impl_IsNet_ev (n : Int) (ws : List Wr) : Ev (fun k => impl_IsNet.f k n ws) (decide (NetOk n ws)) := by
  have fall : ¬ NetOk n ws → Ev (fun k => impl_IsNet.j0 k true n ws) (decide (NetOk n ws)) := fun h => by
    rw [decide_eq_false h]
    refine Ev.succ ?_
    simp only [impl_IsNet.j0]
    exact Ev.pos trivial (Ev.now _)
  unfold impl_IsNet.f
  refine Ev.bindc (within_eqN _ _ _) ?_
  by_cases c1 : 2 ≤ n ∧ n ≤ 12
  · rw [decide_eq_true c1]
    refine Ev.pos rfl ?_
    by_cases c2 : (ws.length : Int) > 30
    · rw [decide_eq_true c2]
      exact fall fun h => by have := h.2.1; omega
    · rw [decide_eq_false c2]
      refine Ev.succ ?_
      simp only [impl_IsNet.j0]
      refine Ev.neg (by decide) (impl_IsNet_loop c1 (by omega) _ (fun ha => ?_) (fun hn => decide_eq_false fun h => hn h.2.2.1) ws 0 rfl (by simp) (fun h => h))
      refine Ev.eqr (isJoined_ev ⟨by omega, by omega⟩ ha (by omega)) ?_
      exact decide_eq_decide.2 ⟨fun h => ⟨c1, by omega, ha, h⟩, fun h => h.2.2.2⟩
  · rw [decide_eq_false c1]
    exact Ev.neg (by decide) (fall fun h => c1 h.1)

/-! the reference's loops -/
theorem rd_b (s : List Bool) (j : Int) : rdOf false s j = bAt s j := rfl
def Sn (n : Int) (ws : List Wr) (s : List Bool) : Prop := (s.length : Int) = n ∧ bAt s 0 = true ∧ ∀ j, 0 ≤ j → j < n → bAt s j = true → Reach ws j
def mark2 (s : List Bool) (w : Wr) : List Bool := (s.set w.f0.toNat true).set w.f1.toNat true
theorem mark2_at {n : Int} {s : List Bool} {w : Wr} (hl : (s.length : Int) = n) (hw : WireOk n w) (j : Int) (h0 : 0 ≤ j) : bAt (mark2 s w) j = (if j = w.f0 ∨ j = w.f1 then true else bAt s j) := by
  unfold WireOk at hw
  unfold mark2
  rw [bAt_set _ _ _ _ (by omega) (by rw [List.length_set]; omega) h0, bAt_set _ _ _ _ (by omega) (by omega) h0]
  by_cases e1 : j = w.f1
  · rw [if_pos e1, if_pos (Or.inr e1)]
  · rw [if_neg e1]
    by_cases e0 : j = w.f0
    · rw [if_pos e0, if_pos (Or.inl e0)]
    · rw [if_neg e0, if_neg (fun h => h.elim e0 e1)]
theorem bat_of (s : List Bool) (j : Nat) (h : j < s.length) : s[j]? = some (bAt s (j : Int)) := by
  unfold bAt; rw [Int.toNat_natCast, List.getD_eq_getElem?_getD, List.getElem?_eq_getElem h]; rfl
theorem mark2_lt {n : Int} {s : List Bool} {w : Wr} (hl : (s.length : Int) = n) (hw : WireOk n w) (hne : bAt s w.f0 ≠ bAt s w.f1) : s.countP id < (mark2 s w).countP id := by
  have hw' := hw
  unfold WireOk at hw'
  have hl2 : (mark2 s w).length = s.length := by unfold mark2; rw [List.length_set, List.length_set]
  refine countP_lt_of id id s (mark2 s w) hl2.symm (fun j x y hx hy hp => ?_) ?_
  · have hj : j < s.length := (List.getElem?_eq_some_iff.1 hx).1
    rw [bat_of s j hj] at hx
    rw [bat_of _ j (by omega)] at hy
    obtain rfl := Option.some.inj hx
    obtain rfl := Option.some.inj hy
    rw [mark2_at hl hw _ (by omega)]
    split
    · rfl
    · exact hp
  · by_cases hz : bAt s w.f0 = false
    · refine ⟨w.f0.toNat, false, true, ?_, ?_, rfl, rfl⟩
      · rw [bat_of s _ (by omega), show ((w.f0.toNat : Nat) : Int) = w.f0 by omega, hz]
      · rw [bat_of _ _ (by omega), show ((w.f0.toNat : Nat) : Int) = w.f0 by omega, mark2_at hl hw _ (by omega), if_pos (Or.inl rfl)]
    · have hz1 : bAt s w.f1 = false := by
        cases h0 : bAt s w.f0 <;> cases h1 : bAt s w.f1 <;> simp_all
      refine ⟨w.f1.toNat, false, true, ?_, ?_, rfl, rfl⟩
      · rw [bat_of s _ (by omega), show ((w.f1.toNat : Nat) : Int) = w.f1 by omega, hz1]
      · rw [bat_of _ _ (by omega), show ((w.f1.toNat : Nat) : Int) = w.f1 by omega, mark2_at hl hw _ (by omega), if_pos (Or.inr rfl)]
theorem mark2_sn {n : Int} {ws : List Wr} {s : List Bool} {w : Wr} (hs : Sn n ws s) (hw : WireOk n w) (hm : w ∈ ws) (hne : bAt s w.f0 ≠ bAt s w.f1) : Sn n ws (mark2 s w) := by
  obtain ⟨h1, h2, h3⟩ := hs
  have hw' := hw
  unfold WireOk at hw'
  refine ⟨by unfold mark2; rw [List.length_set, List.length_set]; exact h1, ?_, fun j h0 hj hb => ?_⟩
  · rw [mark2_at h1 hw 0 (by omega)]; split
    · rfl
    · exact h2
  · rw [mark2_at h1 hw j h0] at hb
    have hh : Reach ws w.f0 ∧ Reach ws w.f1 := by
      by_cases hz : bAt s w.f0 = true
      · have := h3 w.f0 (by omega) (by omega) hz; exact ⟨this, .fwd w hm this⟩
      · have hz1 : bAt s w.f1 = true := by
          cases h0 : bAt s w.f0 <;> cases h1 : bAt s w.f1 <;> simp_all
        have := h3 w.f1 (by omega) (by omega) hz1; exact ⟨.bwd w hm this, this⟩
    split at hb
    · rename_i h
      rcases h with e | e <;> subst e
      · exact hh.1
      · exact hh.2
    · exact h3 j h0 hj hb
/-- one pass of the reference over wires from place i on -/
theorem spec_l1 {n : Int} {ws : List Wr} (hws : ∀ w ∈ ws, WireOk n w) (hl : ws.length ≤ 1000) (r : Bool) : ∀ (t : List Wr) (i : Nat) (s : List Bool) (ag : Bool), ws.drop i = t → i + t.length = ws.length → Sn n ws s →
    (∀ s' ag', Sn n ws s' → s.countP id ≤ s'.countP id → (ag' = false → ag = false ∧ s' = s ∧ ∀ w ∈ t, bAt s w.f0 = bAt s w.f1) → (ag' = true → ag = true ∨ s.countP id < s'.countP id) → Ev (fun k => spec_neJoined.l0 k s' ag' n ws) r) →
    Ev (fun k => spec_neJoined.l1 k s ag ws (ws.length : Int) (i : Int) n ws) r
  | [], i, s, ag, _, hi, hs, h => by
    simp only [List.length_nil] at hi
    refine Ev.succ ?_
    simp only [spec_neJoined.l1]
    exact Ev.neg (by omega) (h s ag hs (Nat.le_refl _) (fun e => ⟨e, rfl, fun w hw => by cases hw⟩) (fun e => Or.inl e))
  | w :: t, i, s, ag, hd, hi, hs, h => by
    obtain ⟨h1, h2, h3, h4, h5⟩ := wr_drop ws i w t hd
    have hw := hws w h4
    have hw' := hw
    unfold WireOk at hw'
    have hsl := hs.1
    refine Ev.succ ?_
    simp only [spec_neJoined.l1, rd_wr, h2, rd_b]
    refine Ev.pos (by omega) (Ev.pos (by omega) (Ev.pos (by omega) (Ev.pos (by omega) (Ev.pos (by omega) (Ev.pos (by omega) (Ev.pos (by omega) ?_))))))
    rw [wrap64_id (n := (i : Int) + 1) (by omega) (by omega)]
    by_cases hne : bAt s w.f0 = bAt s w.f1
    · refine Ev.neg (by simp [hne]) (spec_l1 hws hl r t (i + 1) s ag h3 (by omega) hs fun s' ag' q1 q2 q3 q4 => h s' ag' q1 q2 (fun e => ?_) q4)
      obtain ⟨a, b, c⟩ := q3 e
      refine ⟨a, b, fun x hx => ?_⟩
      rcases List.mem_cons.1 hx with rfl | hx
      · exact hne
      · exact c x hx
    · have lt := mark2_lt hsl hw hne
      refine Ev.pos (by simpa using hne) (spec_l1 hws hl r t (i + 1) (mark2 s w) true h3 (by omega) (mark2_sn hs hw h4 hne) fun s' ag' q1 q2 q3 q4 => h s' ag' q1 (by omega) (fun e => ?_) (fun e => Or.inr (by omega)))
      exact absurd (q3 e).1 (by decide)
theorem spec_l2 (s : List Bool) (hl : s.length ≤ 1000) : ∀ (d i : Nat), s.length - i = d → i ≤ s.length → ∀ r : Bool, (r = true ↔ ∀ j, i ≤ j → j < s.length → bAt s (j : Int) = true) → Ev (fun k => spec_neJoined.l2 k s (s.length : Int) (i : Int)) r := by
  intro d
  induction d with
  | zero =>
    intro i hd hi r hr
    refine Ev.succ ?_
    simp only [spec_neJoined.l2]
    refine Ev.neg (by omega) (Ev.eqr (Ev.now _) ?_)
    exact (hr.2 fun j h1 h2 => by omega).symm
  | succ d ih =>
    intro i hd hi r hr
    refine Ev.succ ?_
    simp only [spec_neJoined.l2, rd_b]
    refine Ev.pos (by omega) (Ev.pos (by omega) (Ev.pos (by omega) ?_))
    rw [wrap64_id (by omega) (by omega)]
    by_cases hb : bAt s (i : Int) = true
    · refine Ev.pos hb (ih (i + 1) (by omega) (by omega) r ?_)
      rw [hr]
      exact ⟨fun h j h1 h2 => h j (by omega) h2, fun h j h1 h2 => by
        by_cases e : i = j
        · subst e; exact hb
        · exact h j (by omega) h2⟩
    · refine Ev.neg hb (Ev.eqr (Ev.now _) ?_)
      cases hq : r with
      | false => rfl
      | true => exact absurd (hr.1 hq i (Nat.le_refl _) (by omega)) hb
open Classical in
theorem spec_l0 {n : Int} {ws : List Wr} (hn : 1 ≤ n ∧ n ≤ 1000) (hws : ∀ w ∈ ws, WireOk n w) (hl : ws.length ≤ 1000) : ∀ (d : Nat) (s : List Bool), Sn n ws s → s.length - s.countP id ≤ d → Ev (fun k => spec_neJoined.l0 k s true n ws) (decide (Joined n ws)) := by
  have fin : ∀ s, Sn n ws s → (∀ w ∈ ws, bAt s w.f0 = bAt s w.f1) → Ev (fun k => spec_neJoined.l0 k s false n ws) (decide (Joined n ws)) := by
    intro s hs hc
    have hsl := hs.1
    refine Ev.succ ?_
    simp only [spec_neJoined.l0]
    refine Ev.neg (by decide) (spec_l2 s (by omega) s.length 0 (by omega) (Nat.zero_le _) _ ?_)
    rw [decide_eq_true_eq]
    constructor
    · intro h j _ hj
      have hr := h (j : Int) (by omega) (by omega)
      have : ∀ x, Reach ws x → 0 ≤ x ∧ x < n ∧ bAt s x = true := by
        intro x hx
        induction hx with
        | zero => exact ⟨by omega, by omega, hs.2.1⟩
        | fwd w hw _ ih => have := hws w hw; unfold WireOk at this; exact ⟨by omega, by omega, by rw [← hc w hw]; exact ih.2.2⟩
        | bwd w hw _ ih => have := hws w hw; unfold WireOk at this; exact ⟨by omega, by omega, by rw [hc w hw]; exact ih.2.2⟩
      exact (this _ hr).2.2
    · intro h j h0 h1
      have := h j.toNat (Nat.zero_le _) (by omega)
      rw [show ((j.toNat : Nat) : Int) = j by omega] at this
      exact hs.2.2 j h0 h1 this
  intro d
  induction d with
  | zero =>
    intro s hs hd
    have hcl := List.countP_le_length (p := id) (l := s)
    have hsl := hs.1
    refine Ev.succ ?_
    simp only [spec_neJoined.l0]
    refine Ev.pos trivial (spec_l1 hws hl _ ws 0 s false rfl (by simp) hs fun s' ag' q1 q2 q3 q4 => ?_)
    have hcl' := List.countP_le_length (p := id) (l := s')
    have hsl' := q1.1
    cases ag' with
    | false =>
      obtain ⟨_, b, c⟩ := q3 rfl
      subst b
      exact fin s' q1 c
    | true =>
      rcases q4 rfl with h | h
      · cases h
      · omega
  | succ d ih =>
    intro s hs hd
    have hsl := hs.1
    refine Ev.succ ?_
    simp only [spec_neJoined.l0]
    refine Ev.pos trivial (spec_l1 hws hl _ ws 0 s false rfl (by simp) hs fun s' ag' q1 q2 q3 q4 => ?_)
    have hsl' := q1.1
    cases ag' with
    | false =>
      obtain ⟨_, b, c⟩ := q3 rfl
      subst b
      exact fin s' q1 c
    | true =>
      rcases q4 rfl with h | h
      · cases h
      · exact ih s' q1 (by omega)
open Classical in
theorem neJoined_ev {n : Int} {ws : List Wr} (hn : 1 ≤ n ∧ n ≤ 1000) (hws : ∀ w ∈ ws, WireOk n w) (hl : ws.length ≤ 1000) : Ev (fun k => spec_neJoined.f k n ws) (decide (Joined n ws)) := by
  unfold spec_neJoined.f
  refine Ev.pos (by omega) (Ev.pos (by omega) (Ev.bindc rfl (Ev.pos (by rw [List.length_replicate]; omega) ?_)))
  refine spec_l0 hn hws hl _ _ ⟨by simp; omega, ?_, fun j h0 h1 hb => ?_⟩ (Nat.le_refl _)
  · have := bAt_set (List.replicate n.toNat false) 0 0 true (by omega) (by simp; omega) (by omega)
    rw [if_pos rfl] at this; exact this
  · have := bAt_set (List.replicate n.toNat false) 0 j true (by omega) (by simp; omega) (by omega)
    have hb' : bAt ((List.replicate n.toNat false).set (0 : Int).toNat true) j = true := hb
    rw [this] at hb'
    by_cases e : j = 0
    · rw [e]; exact .zero
    · rw [if_neg e] at hb'
      unfold bAt at hb'
      rw [List.getD_eq_getElem?_getD, List.getElem?_replicate] at hb'
      split at hb' <;> cases hb'
theorem neWire_eq {n : Int} (hn : 2 ≤ n ∧ n ≤ 12) (ws : List Wr) (w : Wr) : spec_neWire.f n ws w.f0 w.f1 = some (decide (WireOk n w)) := by
  unfold spec_neWire.f WireOk
  rw [wrap64_id (by omega) (by omega), l1In_eqN, l1In_eqN]
  by_cases c1 : 0 ≤ w.f0 ∧ w.f0 ≤ n - 1
  · by_cases c2 : 0 ≤ w.f1 ∧ w.f1 ≤ n - 1
    · by_cases c3 : w.f0 = w.f1
      · simp [c1, c2, c3]
      · simp [c1, c2, c3]
    · simp [c1, c2]
  · simp [c1]
theorem spec_neGood_loop {n : Int} {ws : List Wr} (hn : 2 ≤ n ∧ n ≤ 12) (hl : ws.length ≤ 30) (r : Bool) (hall : (∀ w ∈ ws, WireOk n w) → Ev (fun k => spec_neJoined.f k n ws) r) (hbad : ¬ (∀ w ∈ ws, WireOk n w) → r = false) : ∀ (t : List Wr) (i : Nat), ws.drop i = t → i + t.length = ws.length →
    ((∀ w ∈ t, WireOk n w) → ∀ w ∈ ws, WireOk n w) → Ev (fun k => spec_neGood.l0 k ws (ws.length : Int) (i : Int) n ws) r
  | [], i, _, hi, h => by
    simp only [List.length_nil] at hi
    refine Ev.succ ?_
    simp only [spec_neGood.l0]
    exact Ev.neg (by omega) (Ev.bind (hall (h fun w hw => by cases hw)) (Ev.now _))
  | w :: t, i, hd, hi, h => by
    obtain ⟨h1, h2, h3, h4, h5⟩ := wr_drop ws i w t hd
    refine Ev.succ ?_
    simp only [spec_neGood.l0, rd_wr, h2]
    refine Ev.pos (by omega) (Ev.pos (by omega) (Ev.pos (by omega) (Ev.bindc (neWire_eq hn ws w) ?_)))
    rw [wrap64_id (n := (i : Int) + 1) (by omega) (by omega)]
    by_cases c : WireOk n w
    · rw [decide_eq_true c]
      refine Ev.pos rfl (spec_neGood_loop hn hl r hall hbad t (i + 1) h3 (by omega) fun ht => h fun x hx => ?_)
      rcases List.mem_cons.1 hx with rfl | hx
      · exact c
      · exact ht x hx
    · rw [decide_eq_false c]
      exact Ev.neg (by decide) (Ev.eqr (Ev.now _) (hbad fun ha => c (ha w h4)).symm)
theorem joined_some {n : Int} {ws : List Wr} (hn : 2 ≤ n) (h : Joined n ws) : ws ≠ [] := by
  intro e
  subst e
  have := h 1 (by omega) (by omega)
  generalize hx : (1 : Int) = x at this
  cases this with
  | zero => omega
  | fwd w hw _ => cases hw
  | bwd w hw _ => cases hw
open Classical in
theorem spec_neGood_ev (n : Int) (ws : List Wr) : Ev (fun k => spec_neGood.f k n ws) (decide (NetOk n ws)) := by
  have fall : ¬ NetOk n ws → Ev (fun k => spec_neGood.j0 k true n ws) (decide (NetOk n ws)) := fun h => by
    rw [decide_eq_false h]
    refine Ev.succ ?_
    simp only [spec_neGood.j0]
    exact Ev.pos trivial (Ev.now _)
  unfold spec_neGood.f
  refine Ev.bindc (l1In_eqN _ _ _) ?_
  by_cases c1 : 2 ≤ n ∧ n ≤ 12
  · rw [decide_eq_true c1]
    refine Ev.pos rfl (Ev.bindc (l1In_eqN _ _ _) ?_)
    by_cases c2 : 1 ≤ (ws.length : Int) ∧ (ws.length : Int) ≤ 30
    · rw [decide_eq_true c2]
      refine Ev.succ ?_
      simp only [spec_neGood.j0, Bool.not_true]
      refine Ev.neg (by decide) (spec_neGood_loop c1 (by omega) _ (fun ha => ?_) (fun hn => decide_eq_false fun h => hn h.2.2.1) ws 0 rfl (by simp) (fun h => h))
      refine Ev.eqr (neJoined_ev ⟨by omega, by omega⟩ ha (by omega)) ?_
      exact decide_eq_decide.2 ⟨fun h => ⟨c1, by omega, ha, h⟩, fun h => h.2.2.2⟩
    · rw [decide_eq_false c2]
      refine fall fun h => ?_
      have h1 := joined_some c1.1 h.2.2.2
      have h2 := h.2.1
      have : 0 < ws.length := List.length_pos_iff.2 h1
      omega
  · rw [decide_eq_false c1]
    exact Ev.neg (by decide) (fall fun h => c1 h.1)

/-! ### wires from one package's type to the other's; lists that are the same -/
abbrev MWr := S102
def convW (q : MWr) : Wr := ⟨q.f0, q.f1⟩
theorem rd_mwr (l : List MWr) (j : Nat) (h : j < l.length) : rd_T102 l (j : Int) = l[j] := by unfold rd_T102; rw [Int.toNat_natCast]; simp [List.getD, h]
theorem toWr_loop (l : List MWr) (hl : l.length ≤ 1048576) : ∀ (d i : Nat) (x : List Wr), l.length - i = d → i ≤ l.length → x.length = l.length → (∀ m, m < i → x[m]? = (l.map convW)[m]?) →
    Ev (fun k => laws_toWireS.l0 k l x (i : Int)) (l.map convW) := by
  intro d
  induction d with
  | zero =>
    intro i x hd hi hx h
    refine Ev.succ ?_
    simp only [laws_toWireS.l0]
    refine Ev.neg (by omega) (Ev.eqr (Ev.now _) ?_)
    apply List.ext_getElem?
    intro m
    by_cases hm : m < i
    · exact h m hm
    · rw [List.getElem?_eq_none (by omega), List.getElem?_eq_none (by simp; omega)]
  | succ d ih =>
    intro i x hd hi hx h
    refine Ev.succ ?_
    simp only [laws_toWireS.l0]
    refine Ev.pos (by omega) (Ev.pos (by omega) (Ev.bindc rfl (Ev.pos (by omega) ?_)))
    rw [Int.toNat_natCast, wrap64_id (by omega) (by omega)]
    refine ih (i + 1) _ (by omega) (by omega) (by simp; omega) (fun m hm => ?_)
    rw [rd_mwr l i (by omega)]
    by_cases e : m = i
    · subst e
      rw [List.getElem?_set_self (by omega), List.getElem?_map, List.getElem?_eq_getElem (by omega)]; rfl
    · rw [List.getElem?_set_ne (by omega)]; exact h m (by omega)
theorem toWireS_ev (l : List MWr) (hl : l.length ≤ 1048576) : Ev (fun k => laws_toWireS.f k l) (l.map convW) := by
  unfold laws_toWireS.f
  refine Ev.pos (by omega) (Ev.pos (by omega) ?_)
  exact toWr_loop l hl l.length 0 _ (by omega) (Nat.zero_le _) (by simp) (fun m hm => by omega)
theorem toNet_ev (n : Int) (l : List MWr) (hl : l.length ≤ 1048576) : Ev (fun k => laws_toNet.f k n l) (n, l.map convW) := by
  unfold laws_toNet.f
  exact Ev.bind (toWireS_ev l hl) (Ev.now _)
theorem eqWireS_loop (l : List Wr) (hl : l.length ≤ 1099511627776) : ∀ (d i : Nat), l.length - i = d → i ≤ l.length → Ev (fun k => laws_eqWireS.l0 k l l (i : Int)) true := by
  intro d
  induction d with
  | zero =>
    intro i hd hi
    refine Ev.succ ?_
    simp only [laws_eqWireS.l0]
    exact Ev.neg (by omega) (Ev.now _)
  | succ d ih =>
    intro i hd hi
    refine Ev.succ ?_
    simp only [laws_eqWireS.l0]
    refine Ev.pos (by omega) (Ev.pos (by omega) (Ev.pos (by omega) (Ev.bindc (a := true) (by unfold laws_eqWire.f; simp) (Ev.pos rfl ?_))))
    rw [wrap64_id (by omega) (by omega)]
    exact ih (i + 1) (by omega) (by omega)
theorem eqWireS_ev (l : List Wr) (hl : l.length ≤ 1099511627776) : Ev (fun k => laws_eqWireS.f k l l) true := by
  unfold laws_eqWireS.f
  exact Ev.pos rfl (eqWireS_loop l hl l.length 0 (by omega) (Nat.zero_le _))
theorem eqNet_ev (n : Int) (l : List Wr) (hl : l.length ≤ 1099511627776) : Ev (fun k => laws_eqNet.f k n l n l) true := by
  unfold laws_eqNet.f
  exact Ev.pos rfl (Ev.bind (eqWireS_ev l hl) (Ev.pos rfl (Ev.now _)))
theorem szNet_eq (n : Int) (l : List MWr) (hl : l.length ≤ maxLen) : laws_szNet.f n l 1048576 = some (if l.length ≤ 1048576 then 1048576 - (l.length : Int) else -1) := by
  have h0 : maxLen ≤ 9223372036854775807 := by decide
  unfold laws_szNet.f laws_szWireS.f
  rw [wrap64_id (by omega) (by omega)]
  by_cases h : l.length ≤ 1048576
  · rw [if_neg (by omega), Option.bind_some, if_neg (by omega), if_pos h]
  · rw [if_pos (by omega), Option.bind_some, if_pos (by omega), if_neg h]

/-! ### texts: numerals and what is joined -/
def mk (l : List UInt8) : ByteArray := ⟨l.toArray⟩
theorem mk_app (a b : List UInt8) : mk a ++ mk b = mk (a ++ b) := by
  unfold mk
  apply ByteArray.ext
  rw [ByteArray.data_append]
  simp
theorem mk_size (a : List UInt8) : (mk a).size = a.length := by simp [mk, ByteArray.size]
theorem mk_data (a : List UInt8) : (mk a).data.toList = a := by simp [mk]
abbrev dd (a : Int) : List UInt8 := Lib.decDigits a.toNat
theorem dd_one (u : Nat) (h : u < 10) : Lib.decDigits u = [UInt8.ofNat (48 + u)] := by rw [Lib.decDigits, dif_pos h]
theorem dd_two (u : Nat) (h : ¬ u < 10) : Lib.decDigits u = Lib.decDigits (u / 10) ++ [UInt8.ofNat (48 + u % 10)] := by rw [Lib.decDigits, dif_neg h]
theorem dd_len (u : Nat) (h : u < 100) : (Lib.decDigits u).length ≤ 2 := by
  by_cases h1 : u < 10
  · rw [dd_one u h1]; simp
  · rw [dd_two u h1, dd_one (u / 10) (by omega)]; simp
theorem num_one (a : Int) (h0 : 0 ≤ a) (h1 : a < 10) : strOfNums [(wrap64 (48 + a)) % 256] = mk (dd a) := by
  rw [wrap64_id (by omega) (by omega)]
  unfold mk dd strOfNums
  rw [dd_one a.toNat (by omega)]
  simp only [List.map_cons, List.map_nil]
  rw [show ((48 + a) % 256).toNat = 48 + a.toNat by omega]
theorem l1Num_ev (a : Int) (h0 : 0 ≤ a) (h1 : a < 100) : Ev (fun k => spec_l1Num.f k a) (mk (dd a)) := by
  refine Ev.succ ?_
  simp only [spec_l1Num.f]
  by_cases h : a < 10
  · exact Ev.pos h (Ev.eqr (Ev.now _) (num_one a h0 h))
  · refine Ev.neg h ?_
    have e1 : Int.tdiv a 10 = a / 10 := Int.tdiv_eq_ediv_of_nonneg h0
    have e2 : Int.tmod a 10 = a % 10 := Int.tmod_eq_emod_of_nonneg h0
    rw [e1, e2, wrap64_id (n := a / 10) (by omega) (by omega)]
    have hq : Ev (fun k => spec_l1Num.f k (a / 10)) (mk (dd (a / 10))) := by
      refine Ev.succ ?_
      simp only [spec_l1Num.f]
      exact Ev.pos (by omega) (Ev.eqr (Ev.now _) (num_one (a / 10) (by omega) (by omega)))
    refine Ev.bind hq (Ev.bindc rfl ?_)
    have e3 := num_one (a % 10) (by omega) (by omega)
    rw [e3]
    have l1 := dd_len (a / 10).toNat (by omega)
    have l2 := dd_len (a % 10).toNat (by omega)
    refine Ev.pos (by rw [mk_size, mk_size]; show (Lib.decDigits (a / 10).toNat).length + (Lib.decDigits (a % 10).toNat).length ≤ _; omega) (Ev.eqr (Ev.now _) ?_)
    rw [mk_app]
    congr 1
    show Lib.decDigits (a / 10).toNat ++ Lib.decDigits (a % 10).toNat = Lib.decDigits a.toNat
    rw [dd_two a.toNat (by omega), dd_one (a % 10).toNat (by omega), show (a / 10).toNat = a.toNat / 10 by omega, show (a % 10).toNat = a.toNat % 10 by omega]
theorem itoa_eq (a : Int) (h0 : 0 ≤ a) (h1 : a < 100) : strconv_Itoa_79.f a = some (mk (dd a)) := by
  unfold strconv_Itoa_79.f
  rw [if_pos ⟨h0, h1⟩]
  rfl
theorem join_eq (l : List (List UInt8)) (s : List UInt8) (h1 : l.length ≤ 1000000) (h2 : (Lib.join l s).length ≤ 100000000) : strings_Join.f (l.map mk) (mk s) = some (mk (Lib.join l s)) := by
  have e : (l.map mk).map (·.data.toList) = l := by
    rw [List.map_map]
    refine (List.map_congr_left (fun x _ => ?_)).trans (List.map_id l)
    exact mk_data x
  unfold strings_Join.f
  rw [e, mk_data, if_pos ⟨by rw [List.length_map]; exact h1, h2⟩]
  rfl
theorem join_len (l : List (List UInt8)) (s : List UInt8) (b : Nat) (h : ∀ x ∈ l, x.length ≤ b) : (Lib.join l s).length ≤ l.length * (b + s.length) := by
  cases l with
  | nil => simp [Lib.join_nil]
  | cons x t =>
    rw [Lib.join_cons]
    have hx := h x (List.mem_cons_self)
    have ht : (Lib.joinTail s t).length ≤ t.length * (b + s.length) := by
      clear hx
      induction t with
      | nil => simp [Lib.joinTail]
      | cons y t ih =>
        have hy := h y (List.mem_cons_of_mem _ List.mem_cons_self)
        have := ih (fun z hz => h z ((List.mem_cons.1 hz).elim (fun e => e ▸ List.mem_cons_self) (fun hz => List.mem_cons_of_mem _ (List.mem_cons_of_mem _ hz))))
        have e : Lib.joinTail s (y :: t) = (s ++ y) ++ Lib.joinTail s t := by simp [Lib.joinTail]
        rw [e, List.length_append, List.length_append, List.length_cons, Nat.succ_mul]
        omega
    rw [List.length_append, List.length_cons, Nat.succ_mul]
    omega
/-- a list of small numbers, with signs between them -/
theorem list_loop (s : List UInt8) (hs : s.length ≤ 10) (l : List Int) (hl : l.length ≤ 1000) (hb : ∀ a ∈ l, 0 ≤ a ∧ a < 100) : ∀ (t : List Int) (i : Nat), l.drop i = t → i + t.length = l.length →
    Ev (fun k => impl_listText.l0 k (mk s) (((l.take i).map dd).map mk) l (l.length : Int) (i : Int)) (mk (Lib.join (l.map dd) s)) := by
  intro t
  induction t with
  | nil =>
    intro i hd hi
    simp only [List.length_nil] at hi
    refine Ev.succ ?_
    simp only [impl_listText.l0]
    rw [List.take_of_length_le (by omega)]
    have hj := join_len (l.map dd) s 2 (fun x hx => by
      obtain ⟨a, ha, rfl⟩ := List.mem_map.1 hx
      have := hb a ha
      exact dd_len a.toNat (by omega))
    have h13 : (l.map dd).length * (2 + s.length) ≤ 1000 * 12 := by
      rw [List.length_map]
      exact Nat.mul_le_mul hl (by omega)
    exact Ev.neg (by omega) (Ev.bindc (join_eq _ s (by rw [List.length_map]; omega) (by omega)) (Ev.now _))
  | cons a t ih =>
    intro i hd hi
    simp only [List.length_cons] at hi
    have hi1 : i < l.length := by omega
    have e1 := List.drop_eq_getElem_cons hi1
    rw [hd] at e1
    injection e1 with e2 e3
    have hm : a ∈ l := by rw [e2]; exact List.getElem_mem _
    refine Ev.succ ?_
    simp only [impl_listText.l0]
    refine Ev.pos (by omega) (Ev.pos (by omega) (Ev.pos (by omega) ?_))
    rw [show rd l (i : Int) = a by unfold rd; rw [Int.toNat_natCast]; simp [List.getD, hi1, ← e2]]
    refine Ev.bindc (itoa_eq a (hb a hm).1 (hb a hm).2) (Ev.pos (by simp only [List.length_map, List.length_take]; omega) ?_)
    rw [wrap64_id (n := (i : Int) + 1) (by omega) (by omega)]
    have h := ih (i + 1) e3.symm (by omega)
    rw [List.take_add_one, List.getElem?_eq_getElem hi1, ← e2, List.map_append, List.map_append] at h
    exact h
theorem listText_ev (s : List UInt8) (hs : s.length ≤ 10) (l : List Int) (hl : l.length ≤ 1000) (hb : ∀ a ∈ l, 0 ≤ a ∧ a < 100) : Ev (fun k => impl_listText.f k (mk s) l) (mk (Lib.join (l.map dd) s)) := by
  unfold impl_listText.f
  exact list_loop s hs l hl hb l 0 rfl (by omega)

/-! ### the text of a net -/
abbrev pt (w : Wr) : List UInt8 := dd w.f0 ++ ([45] ++ dd w.f1)
theorem pt_len {n : Int} {w : Wr} (hn : n ≤ 12) (hw : WireOk n w) : (pt w).length ≤ 5 := by
  obtain ⟨⟨a1, a2⟩, ⟨b1, b2⟩, ab⟩ := hw
  have l1 := dd_len w.f0.toNat (by omega)
  have l2 := dd_len w.f1.toNat (by omega)
  show (Lib.decDigits w.f0.toNat ++ ([45] ++ Lib.decDigits w.f1.toNat)).length ≤ 5
  simp only [List.length_append, List.length_cons, List.length_nil]
  omega
theorem tail_cons (s y : List UInt8) (r : List (List UInt8)) : Lib.joinTail s (y :: r) = s ++ (y ++ Lib.joinTail s r) := by simp [Lib.joinTail]
theorem text_loop {n : Int} {W : List Wr} (hn : n ≤ 12) (hws : ∀ w ∈ W, WireOk n w) (hW : W.length ≤ 30) : ∀ (t : List Wr) (i : Nat) (out : List UInt8), W.drop i = t → i + t.length = W.length → 0 < i → out.length + 100 * t.length ≤ 100000 →
    Ev (fun k => spec_neText.l0 k (mk out) W (W.length : Int) (i : Int)) (mk (out ++ Lib.joinTail [44] (t.map pt))) := by
  intro t
  induction t with
  | nil =>
    intro i out hd hi hp ho
    simp only [List.length_nil] at hi
    refine Ev.succ ?_
    simp only [spec_neText.l0]
    exact Ev.neg (by omega) (Ev.eqr (Ev.now _) (by simp [Lib.joinTail]))
  | cons w t ih =>
    intro i out hd hi hp ho
    simp only [List.length_cons] at hi ho
    obtain ⟨h1, h2, h3, h4, h5⟩ := wr_drop W i w t hd
    have hw := hws w h4
    have hl := pt_len hn hw
    obtain ⟨⟨a1, a2⟩, ⟨b1, b2⟩, ab⟩ := hw
    have l1 := dd_len w.f0.toNat (by omega)
    have l2 := dd_len w.f1.toNat (by omega)
    refine Ev.succ ?_
    simp only [spec_neText.l0]
    rw [rd_wr, h2]
    have c44 : (⟨#[44]⟩ : ByteArray) = mk [44] := rfl
    have c45 : (⟨#[45]⟩ : ByteArray) = mk [45] := rfl
    rw [c44, c45]
    refine Ev.pos (by omega) (Ev.pos (by omega) (Ev.pos (by omega) (Ev.pos (by omega) (Ev.pos (by rw [mk_size]; omega) (Ev.bind (l1Num_ev w.f0 a1 (by omega)) (Ev.pos (by rw [mk_size]; show (Lib.decDigits w.f0.toNat).length + 1 ≤ _; omega) (Ev.bind (l1Num_ev w.f1 b1 (by omega)) ?_)))))))
    simp only [mk_app, mk_size, List.length_append, List.length_cons, List.length_nil]
    refine Ev.pos (by show (Lib.decDigits w.f0.toNat).length + (0 + 1) + (Lib.decDigits w.f1.toNat).length ≤ _; omega) (Ev.pos (by show out.length + (0 + 1) + ((Lib.decDigits w.f0.toNat).length + (0 + 1) + (Lib.decDigits w.f1.toNat).length) ≤ _; omega) ?_)
    rw [wrap64_id (n := (i : Int) + 1) (by omega) (by omega)]
    have h := ih (i + 1) (out ++ [44] ++ ((dd w.f0 ++ [45]) ++ dd w.f1)) h3 (by omega) (by omega) (by
      simp only [List.length_append, List.length_cons, List.length_nil]
      show out.length + (0 + 1) + ((Lib.decDigits w.f0.toNat).length + (0 + 1) + (Lib.decDigits w.f1.toNat).length) + 100 * t.length ≤ 100000
      omega)
    refine Ev.eqr h ?_
    rw [List.map_cons, tail_cons]
    congr 1
    simp only [List.append_assoc]
theorem neText_ev {n : Int} {W : List Wr} (hn : 2 ≤ n ∧ n ≤ 12) (hws : ∀ w ∈ W, WireOk n w) (hW : W.length ≤ 30) (hne : W ≠ []) : Ev (fun k => spec_neText.f k n W) (mk (dd n ++ [58] ++ Lib.join (W.map pt) [44])) := by
  unfold spec_neText.f
  have l0 := dd_len n.toNat (by omega)
  have c58 : (⟨#[58]⟩ : ByteArray) = mk [58] := rfl
  rw [c58]
  refine Ev.bind (l1Num_ev n (by omega) (by omega)) (Ev.pos (by rw [mk_size]; show (Lib.decDigits n.toNat).length + 1 ≤ _; omega) ?_)
  rw [mk_app]
  cases hWc : W with
  | nil => exact absurd hWc hne
  | cons w t =>
    rw [← hWc]
    have hd0 : W.drop 0 = w :: t := by rw [hWc]; rfl
    obtain ⟨h1, h2, h3, h4, h5⟩ := wr_drop W 0 w t hd0
    have hw := hws w h4
    obtain ⟨⟨a1, a2⟩, ⟨b1, b2⟩, ab⟩ := hw
    have l1 := dd_len w.f0.toNat (by omega)
    have l2 := dd_len w.f1.toNat (by omega)
    refine Ev.succ ?_
    simp only [spec_neText.l0]
    have r0 : ∀ l : List Wr, rd_T69 l 0 = wrAt l 0 := fun l => rd_wr l 0
    rw [r0, h2]
    have c45 : (⟨#[45]⟩ : ByteArray) = mk [45] := rfl
    rw [c45]
    refine Ev.pos (by omega) (Ev.pos (by omega) (Ev.pos (by omega) (Ev.neg (by omega) (Ev.bind (l1Num_ev w.f0 a1 (by omega)) (Ev.pos (by rw [mk_size]; show (Lib.decDigits w.f0.toNat).length + 1 ≤ _; omega) (Ev.bind (l1Num_ev w.f1 b1 (by omega)) ?_))))))
    simp only [mk_app, mk_size, List.length_append, List.length_cons, List.length_nil]
    refine Ev.pos (by show (Lib.decDigits w.f0.toNat).length + (0 + 1) + (Lib.decDigits w.f1.toNat).length ≤ _; omega) (Ev.pos (by show (Lib.decDigits n.toNat).length + (0 + 1) + ((Lib.decDigits w.f0.toNat).length + (0 + 1) + (Lib.decDigits w.f1.toNat).length) ≤ _; omega) ?_)
    rw [show wrap64 ((0 : Int) + 1) = ((0 + 1 : Nat) : Int) by rw [wrap64_id (by omega) (by omega)]; rfl]
    have h := text_loop hn.2 hws hW t 1 (dd n ++ [58] ++ ((dd w.f0 ++ [45]) ++ dd w.f1)) h3 (by omega) (by omega) (by
      simp only [List.length_append, List.length_cons, List.length_nil]
      show (Lib.decDigits n.toNat).length + (0 + 1) + ((Lib.decDigits w.f0.toNat).length + (0 + 1) + (Lib.decDigits w.f1.toNat).length) + 100 * t.length ≤ 100000
      omega)
    refine Ev.eqr h ?_
    rw [hWc, List.map_cons, Lib.join_cons]
    congr 1
    simp only [List.append_assoc]
theorem impl_loop {n : Int} {W : List Wr} (hn : 2 ≤ n ∧ n ≤ 12) (hws : ∀ w ∈ W, WireOk n w) (hW : W.length ≤ 30) : ∀ (t : List Wr) (i : Nat), W.drop i = t → i + t.length = W.length →
    Ev (fun k => impl_NetText.l0 k (((W.take i).map pt).map mk) W (W.length : Int) (i : Int) n W) (mk (dd n ++ [58] ++ Lib.join (W.map pt) [44]), true) := by
  intro t
  induction t with
  | nil =>
    intro i hd hi
    simp only [List.length_nil] at hi
    refine Ev.succ ?_
    simp only [impl_NetText.l0]
    have c0 : (⟨#[]⟩ : ByteArray) = mk [] := rfl
    have c44 : (⟨#[44]⟩ : ByteArray) = mk [44] := rfl
    have c58 : (⟨#[58]⟩ : ByteArray) = mk [58] := rfl
    rw [c0, c44, c58, List.take_of_length_le (by omega)]
    have l0 := dd_len n.toNat (by omega)
    have hj := join_len (W.map pt) [44] 5 (fun x hx => by
      obtain ⟨w, hw, rfl⟩ := List.mem_map.1 hx
      exact pt_len hn.2 (hws w hw))
    have h13 : (W.map pt).length * (5 + [(44 : UInt8)].length) ≤ 30 * 6 := by
      rw [List.length_map]
      exact Nat.mul_le_mul hW (by simp)
    have hlt := listText_ev [] (by simp) [n] (by simp) (fun a ha => by rw [List.mem_singleton.1 ha]; omega)
    rw [List.map_cons, List.map_nil, Lib.join_one] at hlt
    refine Ev.neg (by omega) (Ev.bind hlt (Ev.pos (by rw [mk_size]; show (Lib.decDigits n.toNat).length + 1 ≤ _; omega) (Ev.bindc (join_eq (W.map pt) [44] (by rw [List.length_map]; omega) (by omega)) ?_)))
    rw [mk_app]
    refine Ev.pos (by rw [mk_size, mk_size, List.length_append]; show (Lib.decDigits n.toNat).length + 1 + (Lib.join (W.map pt) [44]).length ≤ _; omega) (Ev.eqr (Ev.now _) ?_)
    rw [mk_app]
  | cons w t ih =>
    intro i hd hi
    simp only [List.length_cons] at hi
    obtain ⟨h1, h2, h3, h4, h5⟩ := wr_drop W i w t hd
    have hw := hws w h4
    obtain ⟨⟨a1, a2⟩, ⟨b1, b2⟩, ab⟩ := hw
    refine Ev.succ ?_
    simp only [impl_NetText.l0]
    rw [rd_wr, h2]
    have c45 : (⟨#[45]⟩ : ByteArray) = mk [45] := rfl
    rw [c45]
    have hlt := listText_ev [45] (by simp) [w.f0, w.f1] (by simp) (fun a ha => by
      rcases List.mem_cons.1 ha with e | e
      · rw [e]; omega
      · rw [List.mem_singleton.1 e]; omega)
    have e5 : Lib.join ([w.f0, w.f1].map dd) [45] = pt w := by
      rw [List.map_cons, List.map_cons, List.map_nil, Lib.join_cons]
      simp [Lib.joinTail]
    rw [e5] at hlt
    refine Ev.pos (by omega) (Ev.pos (by omega) (Ev.pos (by omega) (Ev.bind hlt (Ev.pos (by simp only [List.length_map, List.length_take]; omega) ?_))))
    rw [wrap64_id (n := (i : Int) + 1) (by omega) (by omega)]
    have h := ih (i + 1) h3 (by omega)
    have e6 : W[i]? = some w := by rw [List.getElem?_eq_getElem h1, ← wrAt_get W i h1, h2]
    rw [List.take_add_one, e6, List.map_append, List.map_append] at h
    exact h
theorem both_text (n : Int) (W : List Wr) : ∃ R : ByteArray × Bool, Ev (fun k => spec_NetText.f k n W) R ∧ Ev (fun k => impl_NetText.f k n W) R := by
  classical
  by_cases h : NetOk n W
  · obtain ⟨n1, n2, n3, n4⟩ := h
    refine ⟨(mk (dd n ++ [58] ++ Lib.join (W.map pt) [44]), true), ?_, ?_⟩
    · unfold spec_NetText.f
      exact Ev.bind (spec_neGood_ev n W) (Ev.pos (decide_eq_true ⟨n1, n2, n3, n4⟩) (Ev.bind (neText_ev n1 n3 n2 (joined_some n1.1 n4)) (Ev.now _)))
    · unfold impl_NetText.f
      exact Ev.bind (impl_IsNet_ev n W) (Ev.pos (decide_eq_true ⟨n1, n2, n3, n4⟩) (impl_loop n1 n3 n2 W 0 rfl (by omega)))
  · refine ⟨((⟨#[]⟩ : ByteArray), false), ?_, ?_⟩
    · unfold spec_NetText.f
      exact Ev.bind (spec_neGood_ev n W) (Ev.neg (by simpa using h) (Ev.now _))
    · unfold impl_NetText.f
      exact Ev.bind (impl_IsNet_ev n W) (Ev.neg (by simpa using h) (Ev.now _))
theorem FnExactNetText : laws_FnExactNetText.Pure := by
  intro n l _ hm _
  refine Ev.rounds (g := fun k => laws_FnExactNetText.f k n l) ?_
  unfold laws_FnExactNetText.f
  refine Ev.bindc (szNet_eq n l hm) ?_
  by_cases h : l.length ≤ 1048576
  · rw [if_pos h]
    have hm1 : (l.map convW).length ≤ 1099511627776 := by simp; omega
    obtain ⟨B, s1, s2⟩ := both_text n (l.map convW)
    have qN := eqNet_ev n (l.map convW) hm1
    have tN := toNet_ev n l h
    refine Ev.neg (by omega) (Ev.bind tN (Ev.bind s1 (Ev.bind tN (Ev.bind s2 (Ev.pos rfl ?_)))))
    refine Ev.succ ?_
    simp only [laws_FnExactNetText.j0]
    exact Ev.neg (by simp) (Ev.bind tN (Ev.bind qN (Ev.pos rfl (Ev.now _))))
  · rw [if_neg h]
    exact Ev.pos (by omega) (Ev.now _)

end Go.Proofs.YtmmcbdndelaeoaaDoor.Pure
