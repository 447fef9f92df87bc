-- made for this claim by a program of this session
import Derived.Test.YtnmaeekclpmmnaaGreatDoorPFnExactParseCodex0
namespace Go.Proofs.YtnmaeekclpmmnaaGreatDoor.PFnExactParseCode
open Go.RowKit Go.Proofs.YtnmaeekclpmmnaaGreatDoorW.PrintWords Go.Proofs.YtnmaeekclpmmnaaGreatDoorW.PrintLast Go.Proofs.YtnmaeekclpmmnaaGreatDoorW.PrintMore
attribute [local go_sem] max2_int min2_int max_two min_two max_three min_three max_four min_four   -- for this text's walks alone
set_option linter.unusedVariables false
set_option linter.unusedSimpArgs false

/-! ### impl_Square_163: function 163 -/
def impl_Square_163.f (l0 : List (S65)) : Option ((List (S65))) := (some (([] : List (S65)) : List (S65))).bind fun y305 => (if y305.length + l0.length < 5864062014805 then (some (y305 ++ l0)) else (none))
set_option maxHeartbeats 8000000 in
set_option maxRecDepth 100000 in
theorem impl_Square_163.calls_some (ad0_ : Addr) (c0 : Nat) (l0 : List (S65)) (r : List (S65)) (w : World) (hr0 : Kd.C k65 w (some ad0_) l0.length l0) (hc0 : l0.length ≤ c0) (h : impl_Square_163.f l0 = some r) :
  Calls Tryz.prog 163 #[.slice (some ad0_) l0.length c0] w fun e w' => ∃ v0_ : Value, e = .returned (v0_) ∧ Kd.R k65 65 w' w.heap.size (fun _ => True) v0_ r ∧ Below w.heap.size w w' := by
 (have hnil_ : ∀ (w : World) (n c : Nat), (binOp .eql 51 (.slice (some ad0_) n c) (.slice none 0 0)).run Tryz.prog w = .ok (.bool false) w := fun w n c => Lib.run_eql_slice_nil w 51 65 (some ad0_) n c 0 0 Tryz.underlying51);have HR0 := Aside0.mk hr0;have HC0 := Aside0.mk hc0;clear hr0 hc0;have HB := Aside0.mk (Below.refl w.heap.size w);have H : ((some (([] : List (S65)) : List (S65))).bind fun y305 => (if y305.length + l0.length < 5864062014805 then (some (y305 ++ l0)) else (none))) = some r := h;clear h;obtain ⟨y305, hy305⟩ : ∃ y_ : List (S65), y_ = (([] : List (S65))) := ⟨_, rfl⟩;(replace H : (if y305.length + l0.length < 5864062014805 then (some (y305 ++ l0)) else (none)) = some r := rwH hy305 H);have Ny305 := Aside0.mk hy305;clear hy305;(by_cases c2 : y305.length + l0.length < 5864062014805)
 ·rw [if_pos c2] at H;have LMc2 := Aside0.mk c2;clear c2;obtain ⟨y308, hy308⟩ : ∃ y_ : List (S65), y_ = (y305 ++ l0) := ⟨_, rfl⟩;(replace H : (some y308) = some r := rwH hy308 H);have Ny308 := Aside0.mk hy308;clear hy308;obtain rfl := Option.some.inj H;go_enter Tryz.func163, Tryz.ntmps163;(go_wp2_with (first | ((with_reducible refine gate_dst (N := 5) rfl ?_); refine Kd.R_lit k65 _ 65 ?hg (N := 5) ?hd (xs := ([] : List (S65))) (inner := []) (ok := fun _ => True) (okp := fun _ => True) ?hr ?hp (fun _ hk => hk) trivial (Below.refl _ _) (Nat.le_refl _) (by simp) ?_; (case hd => rfl); (case hg => rfl); (case hr => first | (go_simp; done) | (go_simp; rfl)); (case hp => exact (Reps.none _ _)); intro v306 w3 ho4 hb hg_ hnew_; clear hg_ hnew_; (first | rw [← Ny305.out] at ho4 | (simp only [Int.reduceToNat] at ho4; rw [← Ny305.out] at ho4)); have HO307 := Aside0.mk (Kd.R_lower ho4 (below_size (upW HB)));replace HB := Aside0.mk (below_step (upW HB) hb); clear hb ho4) | ((with_reducible refine gate_builtin (b := .append) (xs := #[.tmp 5, .tmp 6]) rfl ?_); at_builtin; refine Kd.R_append_rows k65 (w0 := w) w.heap.size rfl (.tmp 5) (.tmp 6) 51 65 (.agg #[(.int .i64 0), (.int .i64 0), (.int .i64 0)]) 24 rfl Tryz.underlying51 info65 rfl (by decide) (by omega) v306 y305 l0 _ _ _ (fun _ => True) (fun _ => False) rfl rfl ?aO ?aR (fun _ _ h => h) (fun _ h => h.elim) ?aF ?aB ?aS ?aL ?_; (case aR => repeat (first | exact (Kd.C_below HR0.out HB.out) | (with_reducible refine Kd.C_alloc ?_ _) | (with_reducible refine Kd.C_drewN ?_ _) | (with_reducible refine Kd.C_drew ?_))); (case aB => exact (upW HB)); (case aF => exact (fun _ _ => trivial)); (case aO => exact (upR HO307)); (case aS => exact (below_size (upW HB))); (case aL => have := LMc2.out; omega); intro v309 w5 ho hb hg hat; rw [← Ny308.out] at ho; have n0_ := Aside0.mk (hb); have n1_ := Aside0.mk (ho); clear HB; clear HO307; have HB := n0_; have HO310 := n1_; clear n0_ n1_; clear ho hb hg hat)));go_ret;exact ⟨_, eqv, by (with_reducible repeat (first | apply Kd.R_alloc | apply Kd.R_drewN | apply Kd.R_drew)); exact HO310.out, upW HB⟩
 ·rw [if_neg c2] at H;exact absurd H (by simp)
set_option maxHeartbeats 8000000 in
theorem impl_Square_163.calls (A0 : Option Addr) (c0 : Nat) (l0 : List (S65)) (r : List (S65)) (w : World) (hr0 : Kd.C k65 w A0 l0.length l0) (hc0 : l0.length ≤ c0) (h : impl_Square_163.f l0 = some r) :
  Calls Tryz.prog 163 #[.slice A0 l0.length c0] w fun e w' => ∃ v0_ : Value, e = .returned (v0_) ∧ Kd.R k65 65 w' w.heap.size (fun _ => True) v0_ r ∧ Below w.heap.size w w' := by
 cases A0 with
 | some ad0_ => exact impl_Square_163.calls_some ad0_ c0 l0 r w hr0 hc0 h
 | none =>
  have hl_ : l0 = [] := by
   cases l0 with
   | nil => rfl
   | cons a t => obtain ⟨ad, e, _⟩ := hr0.2.2 (by simp); cases e
  subst hl_
  have hrr_ : r = [] := by
   unfold impl_Square_163.f at h;(simpa using h.symm)
  subst hrr_;(have hnil_ : ∀ (w : World) (n c : Nat), (binOp .eql 51 (.slice none n c) (.slice none 0 0)).run Tryz.prog w = .ok (.bool true) w := fun w n c => Lib.run_eql_slice_nil w 51 65 none n c 0 0 Tryz.underlying51);go_enter Tryz.func163, Tryz.ntmps163;go_wp2;go_ret;exact ⟨.slice none 0 0, rfl, Kd.R_nil _ _ _ _ _, Below.refl _ _⟩

-- left to its pairs: function 234 (impl_Square_234)

end Go.Proofs.YtnmaeekclpmmnaaGreatDoor.PFnExactParseCode
