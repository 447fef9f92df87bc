/- Small words on functions with rounds (this session's): one round, a test, a call that is known. -/
import Derived.Test.YtconglobpdgjhaaWWords
import Derived.Test.YtconglobpdgjhaaWLast
namespace Go.Proofs.YtconglobpdgjhaaW.Evs
open Go.RowKit Go.Proofs.YtconglobpdgjhaaW.PrintWords
set_option linter.unusedVariables false

theorem wrap64_id {n : Int} (h1 : -9223372036854775808 ≤ n) (h2 : n < 9223372036854775808) : wrap64 n = n := by
  unfold wrap64; omega
theorem wrap64_range (n : Int) : -9223372036854775808 ≤ wrap64 n ∧ wrap64 n < 9223372036854775808 := by
  unfold wrap64; omega
theorem wf64 {n : Int} (h : (Lit.int .i64 n).wf = true) : -9223372036854775808 ≤ n ∧ n < 9223372036854775808 := by
  have h1 : IntKind.i64.min = -9223372036854775808 := by decide
  have h2 : IntKind.i64.max = 9223372036854775807 := by decide
  simp only [Lit.wf, Bool.and_eq_true, decide_eq_true_eq] at h
  omega
section
variable {α β : Type} {g f : Nat → Option α} {r : α}
theorem Ev.succ (h : Ev (fun k => g (k + 1)) r) : Ev g r := Ev.step (fun _ => rfl) h
theorem Ev.pos {c : Prop} [Decidable c] (h : c) (hf : Ev f r) : Ev (fun k => if c then f k else g k) r := Ev.congr (fun _ => if_pos h) hf
theorem Ev.neg {c : Prop} [Decidable c] (h : ¬ c) (hg : Ev g r) : Ev (fun k => if c then f k else g k) r := Ev.congr (fun _ => if_neg h) hg
theorem Ev.bindc {x : Option β} {h : Nat → β → Option α} {a : β} (hx : x = some a) (k : Ev (fun n => h n a) r) : Ev (fun n => x.bind (h n)) r := by
  subst hx; exact k
theorem Ev.somec {x : Option α} (hx : x = some r) : Ev (fun _ => x) r := by subst hx; exact Ev.now r
theorem Ev.eqr {r' : α} (h : Ev g r) (e : r = r') : Ev g r' := e ▸ h
end
end Go.Proofs.YtconglobpdgjhaaW.Evs
