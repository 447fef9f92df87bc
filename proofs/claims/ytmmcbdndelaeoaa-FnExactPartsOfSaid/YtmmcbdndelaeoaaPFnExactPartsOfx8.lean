-- made for this claim by a program of this session
import Derived.Test.YtmmcbdndelaeoaaPFnExactPartsOfx0
import Derived.Test.YtmmcbdndelaeoaaPFnExactPartsOfx5
import Derived.Test.YtmmcbdndelaeoaaPFnExactPartsOfx6
import Derived.Test.YtmmcbdndelaeoaaPFnExactPartsOfx7
namespace Go.Proofs.Ytmmcbdndelaeoaa.PFnExactPartsOf
open Go.RowKit Go.Proofs.YtmmcbdndelaeoaaW.PrintWords Go.Proofs.YtmmcbdndelaeoaaW.PrintLast Go.Proofs.YtmmcbdndelaeoaaW.PrintMore
attribute [local go_sem] max2_int min2_int max_two min_two max_three min_three max_four min_four   -- for this text's walks alone
set_option linter.unusedVariables false
set_option linter.unusedSimpArgs false

/-! ### slices_SortFunc_int_int__impl_Cut_parts_1: the pair slices.SortFunc[[][]int,[]int] -/
/-! lists of numbers compared -/
def cmpvI : List Int → List Int → Int
 | [], [] => 0
 | [], _ :: _ => -1
 | _ :: _, [] => 1
 | x :: t, y :: u => if x < y then -1 else if x > y then 1 else cmpvI t u
theorem cmpvI_self : ∀ a : List Int, cmpvI a a = 0
 | [] => rfl
 | x :: t => by simp only [cmpvI]; rw [if_neg (Int.lt_irrefl x), if_neg (by omega)]; exact cmpvI_self t
theorem cmpvI_three : ∀ a b : List Int, cmpvI a b = -1 ∨ cmpvI a b = 0 ∨ cmpvI a b = 1
 | [], [] => .inr (.inl rfl)
 | [], _ :: _ => .inl rfl
 | _ :: _, [] => .inr (.inr rfl)
 | x :: t, y :: u => by
  simp only [cmpvI]
  split
  ·exact .inl rfl
  ·split
   ·exact .inr (.inr rfl)
   ·exact cmpvI_three t u
theorem cmpvI_swap : ∀ a b : List Int, cmpvI b a = - cmpvI a b
 | [], [] => rfl
 | [], _ :: _ => rfl
 | _ :: _, [] => rfl
 | x :: t, y :: u => by
  have h := cmpvI_swap t u
  simp only [cmpvI]
  repeat' split
  all_goals omega
theorem cmpvI_zero : ∀ a b : List Int, cmpvI a b = 0 → a = b
 | [], [], _ => rfl
 | [], _ :: _, h => by simp [cmpvI] at h
 | _ :: _, [], h => by simp [cmpvI] at h
 | x :: t, y :: u, h => by
  simp only [cmpvI] at h
  split at h
  ·omega
  ·split at h
   ·omega
   ·rw [cmpvI_zero t u h, show x = y by omega]
theorem cmpvI_le : ∀ a b c : List Int, cmpvI a b ≤ 0 → cmpvI b c ≤ 0 → cmpvI a c ≤ 0 ∧ (cmpvI a b < 0 → cmpvI a c < 0)
 | [], [], c, _, h => ⟨h, fun k => by simp [cmpvI] at k⟩
 | [], _ :: _, [], _, h => by simp [cmpvI] at h
 | [], _ :: _, _ :: _, _, _ => by simp [cmpvI]
 | _ :: _, [], _, h, _ => by simp [cmpvI] at h
 | x :: t, y :: u, [], _, h => by simp [cmpvI] at h
 | x :: t, y :: u, z :: v, h, k => by
  have ih := cmpvI_le t u v
  simp only [cmpvI] at h k ⊢
  by_cases h1 : x < y
  ·by_cases k1 : y < z
   ·rw [if_pos (show x < z by omega)]; omega
   ·rw [if_neg k1] at k
    by_cases k2 : y > z
    ·rw [if_pos k2] at k; omega
    ·rw [if_pos (show x < z by omega)]; omega
  ·rw [if_neg h1] at h ⊢
   by_cases h2 : x > y
   ·rw [if_pos h2] at h; omega
   ·rw [if_neg h2] at h ⊢
    have e : x = y := by omega
    subst e
    by_cases k1 : x < z
    ·rw [if_pos k1]; omega
    ·rw [if_neg k1] at k ⊢
     by_cases k2 : x > z
     ·rw [if_pos k2] at k; omega
     ·rw [if_neg k2] at k ⊢
      exact ih h k
theorem cmpI_eq (a b : Int) : cmp_Compare_int.f a b = some (if a < b then -1 else if a > b then 1 else 0) := by
 unfold cmp_Compare_int.f cmp_isNaN_int.f;simp only [bne_self_eq_false, Option.bind_some, Bool.false_eq_true, if_false];(split)
 ·rfl
 ·(split <;> rfl)
open Go.Proofs.YtmmcbdndelaeoaaW.Evs in
theorem compI_loop (a b : List Int) (ha : a.length ≤ 1000) (hb : b.length ≤ 1000) : ∀ (t : List Int) (i : Nat), a.drop i = t → i + t.length = a.length → i ≤ b.length →
  Ev (fun k => slices_Compare_int_int.l0 k a b a (a.length : Int) (i : Int)) (cmpvI t (b.drop i)) := by
 intro t
 induction t with
 | nil =>
  intro i hd hi hib;simp only [List.length_nil] at hi;refine Ev.succ ?_;simp only [slices_Compare_int_int.l0];refine Ev.neg (by omega) ?_;(by_cases h : i < b.length)
  ·refine Ev.pos (by omega) ?_;rw [List.drop_eq_getElem_cons h];exact Ev.now _
  ·refine Ev.neg (by omega) ?_;rw [List.drop_eq_nil_of_le (by omega)];exact Ev.now _
 | cons s t ih =>
  intro i hd hi hib;simp only [List.length_cons] at hi;(have hil : i < a.length := by omega)
  have h2 : a.getD i 0 = s ∧ a.drop (i + 1) = t := by
   rw [List.drop_eq_getElem_cons hil] at hd;(injection hd with e1 e2);exact ⟨by rw [List.getD_eq_getElem?_getD, List.getElem?_eq_getElem hil, e1]; rfl, e2⟩
  refine Ev.succ ?_;simp only [slices_Compare_int_int.l0];refine Ev.pos (by omega) (Ev.pos (by omega) (Ev.pos (by omega) ?_));(by_cases h : i < b.length)
  ·refine Ev.neg (by omega) (Ev.pos (by omega) (Ev.bindc (cmpI_eq _ _) ?_));(have r1 : rd a (i : Int) = s := by unfold rd; rw [Int.toNat_natCast]; exact h2.1);(have r2 : rd b (i : Int) = b[i] := by unfold rd; rw [Int.toNat_natCast, List.getD_eq_getElem?_getD, List.getElem?_eq_getElem h]; rfl);rw [r1, r2, List.drop_eq_getElem_cons h];simp only [cmpvI];(by_cases h3 : s < b[i])
   ·rw [if_pos h3];exact Ev.neg (by omega) (by rw [if_pos h3]; exact Ev.now _)
   ·rw [if_neg h3];(by_cases h4 : s > b[i])
    ·rw [if_pos h4];exact Ev.neg (by omega) (by rw [if_neg h3, if_pos h4]; exact Ev.now _)
    ·rw [if_neg h4];refine Ev.pos rfl ?_;rw [wrap64_id (n := (i : Int) + 1) (by omega) (by omega), if_neg h3, if_neg h4];exact ih (i + 1) h2.2 (by omega) (by omega)
  ·refine Ev.pos (by omega) ?_;rw [List.drop_eq_nil_of_le (by omega)];exact Ev.now _
theorem compI_some (a b : List Int) (ha : a.length ≤ 1000) (hb : b.length ≤ 1000) : ∃ k, impl_Cut_parts_1.f k a b = some (cmpvI a b) := by
 obtain ⟨k, hk⟩ := Ev.rounds (compI_loop a b ha hb a 0 rfl (by omega) (Nat.zero_le _));refine ⟨k, ?_⟩;unfold impl_Cut_parts_1.f slices_Compare_int_int.f;have e : slices_Compare_int_int.l0 k a b a (a.length : Int) 0 = some (cmpvI a b) := hk;(rw [e]; rfl)
def cfL (l : List (List Int)) (i j : Nat) : Int := cmpvI (l.getD i []) (l.getD j [])
theorem swoL (l : List (List Int)) : Sort.SWO (ltOf (cfL l)) where
 irrefl x := by unfold ltOf cfL; rw [cmpvI_self]; rfl
 trans x y z h1 h2 := by
  unfold ltOf cfL at *;rw [decide_eq_true_iff] at *;exact (cmpvI_le _ _ _ (by omega) (by omega)).2 h1
 ntrans x y z h1 h2 := by
  unfold ltOf cfL at *;rw [decide_eq_false_iff_not] at *;have a1 := cmpvI_swap (l.getD x []) (l.getD y []);have a2 := cmpvI_swap (l.getD y []) (l.getD z []);have a3 := cmpvI_swap (l.getD x []) (l.getD z []);have := (cmpvI_le (l.getD z []) (l.getD y []) (l.getD x []) (by omega) (by omega)).1;omega
/-- a row of rows laid open: the outer row as a row of plain values, told by their places, and each inner row by itself -/
theorem S_open {β : Type} {d : Kd β} {e e1 : Nat} {w : World} {base : Nat} {ok : Nat → Prop} {v : Value} {l : List (List β)} (h : Kd.S (Kd.slice e1 d) e w base ok v l) :
  ∃ (f : Nat → Nat) (vals : Nat → Value) (h1 : ∀ x, (vals x).oneCell' = true), (Kd.scalar vals h1).R e w base ok v (List.range l.length) ∧ (∀ i, i < l.length → d.R e1 w base (fun k => (ok k ∧ some k ≠ v.ownBlock) ∧ f k = i) (vals i) (l.getD i [])) ∧ ∀ i, l.length ≤ i → vals i = .slice none 0 0 := by
 obtain ⟨f, h0, inner, ho, hr⟩ := h;rw [List.length_zipIdx] at ho;(have hl : inner.length = l.length := by have := hr.1; rw [List.length_zipIdx] at this; simpa [Kd.tag, Kd.slice] using this)
 have key : ∀ i, i < l.length → d.R e1 w base (fun k => (ok k ∧ some k ≠ v.ownBlock) ∧ f k = i) (inner.getD i (.slice none 0 0)) (l.getD i []) := by
  intro i hi;have h2 := hr.2 i (l.getD i [], i) (Kd.zip_at (by rw [List.getD_eq_getElem?_getD, List.getElem?_eq_getElem hi]; rfl));obtain ⟨u, hu, hR⟩ := h2;have hs : (Kd.tag f (Kd.slice e1 d)).sz = 1 := rfl;rw [hs, Nat.mul_one, List.drop_eq_getElem_cons (by omega), List.take_succ_cons, List.take_zero] at hu;(injection hu with hu _);(have e2 : inner.getD i (.slice none 0 0) = u := by rw [List.getD_eq_getElem?_getD, List.getElem?_eq_getElem (by omega), ← hu]; rfl);rw [e2];exact hR
 have h1 : ∀ x, (inner.getD x (.slice none 0 0)).oneCell' = true := by
  intro x;(by_cases hx : x < l.length)
  ·obtain ⟨A, c, e2⟩ := Kd.R_slice (key x hx);(rw [e2]; rfl)
  ·(rw [List.getD_eq_getElem?_getD, List.getElem?_eq_none (by omega)]; rfl)
 refine ⟨f, fun i => inner.getD i (.slice none 0 0), h1, ⟨h0, inner, by rw [List.length_range]; exact ho, by rw [List.length_range, hl]; exact (Nat.mul_one _).symm, fun j p hj => ?_⟩, key, fun i hi => by show inner.getD i (.slice none 0 0) = _; rw [List.getD_eq_getElem?_getD, List.getElem?_eq_none (by omega)]; rfl⟩;obtain ⟨hjl, hp⟩ := List.getElem?_eq_some_iff.1 hj;rw [List.length_range] at hjl;rw [List.getElem_range] at hp;subst hp;(show (inner.drop (j * 1)).take 1 = _);rw [Nat.mul_one, List.drop_eq_getElem_cons (by omega), List.take_succ_cons, List.take_zero];(show _ = [inner.getD j (.slice none 0 0)]);rw [List.getD_eq_getElem?_getD, List.getElem?_eq_getElem (by omega)];rfl
theorem S_close {β : Type} {d : Kd β} {e e1 : Nat} {w : World} {base : Nat} {ok : Nat → Prop} {v : Value} {l : List (List β)} {f : Nat → Nat} {vals : Nat → Value} {h1 : ∀ x, (vals x).oneCell' = true} {p : List Nat}
  (hr : (Kd.scalar vals h1).R e w base ok v p) (hp : p.Nodup) (hi : ∀ i, i ∈ p → d.R e1 w base (fun k => (ok k ∧ some k ≠ v.ownBlock) ∧ f k = i) (vals i) (l.getD i [])) :
  Kd.S (Kd.slice e1 d) e w base ok v (p.map fun i => l.getD i []) := by
 obtain ⟨h0, inner, ho, hrep⟩ := hr;refine ⟨fun k => p.idxOf (f k), h0, inner, by rw [List.length_zipIdx, List.length_map]; exact ho, by rw [List.length_zipIdx, List.length_map]; exact hrep.1, fun j q hj => ?_⟩;rw [List.getElem?_zipIdx, List.getElem?_map, Nat.zero_add] at hj
 cases hpj : p[j]? with
 | none => rw [hpj] at hj; simp at hj
 | some i =>
  rw [hpj] at hj;simp only [Option.map_some, Option.some.injEq] at hj;subst hj;have hq := hrep.2 j i hpj;have hmem := List.mem_of_getElem? hpj;obtain ⟨hjl, hpj'⟩ := List.getElem?_eq_some_iff.1 hpj;refine ⟨vals i, hq, Kd.R_mono (hi i hmem) (fun k hk => ⟨hk.1, ?_⟩)⟩;(show p.idxOf (f k) = j);rw [hk.2, ← hpj'];exact List.Nodup.idxOf_getElem hp j hjl
theorem srGrow (w : World) (os : Array Obj) : Below w.heap.size w (Sort.grow w os) :=
 ⟨rfl, rfl, rfl, by simp [Sort.grow], fun k hk => by simp only [Sort.grow]; exact Array.getElem?_append_left hk⟩
theorem sortWorld_other {α : Type} [Inhabited α] (enc : α → Value) (w : World) (g m : Nat) (dk : Array α) (os : Array Obj) (k : Nat) (hk : k < w.heap.size) (hne : k ≠ g) : (sortWorld enc w g 0 m dk os).heap[k]? = w.heap[k]? := by
 have h1 : (Sort.putRow enc (Sort.ahead w m) g 0 dk).heap[k]? = w.heap[k]? := by
  (have hne' : g ≠ k := fun e => hne e.symm);simp [Sort.putRow, Sort.mapBlock, Sort.ahead, Array.getElem?_modify, hne']
 unfold sortWorld Sort.grow;(show ((Sort.putRow enc (Sort.ahead w m) g 0 dk).heap ++ os)[k]? = _);rw [Array.getElem?_append_left (by simpa [Sort.ahead] using hk)];exact h1
def slices_SortFunc_int_int__impl_Cut_parts_1_lay_ren : Go.Shelf.Ren := ⟨fun | 6 => 119 | 15 => 142 | 14 => 141 | 28 => 153 | 29 => 154 | 20 => 145 | 21 => 146 | 22 => 147 | 23 => 148 | 24 => 149 | 25 => 150 | 26 => 151 | 27 => 152 | 46 => 157 | 47 => 158 | 48 => 159 | 49 => 160 | 50 => 161 | 57 => 170 | n => n, fun | 22 => 50 | 24 => 25 | 25 => 117 | 3 => 3 | 39 => 131 | 0 => 0 | 53 => 141 | 55 => 143 | 4 => 4 | 46 => 135 | 45 => 134 | 50 => 58 | 5 => 5 | 9 => 9 | 66 => 145 | 70 => 149 | 76 => 156 | 77 => 157 | n => n, fun | n => n⟩
theorem slices_SortFunc_int_int__impl_Cut_parts_1_lay : Go.Proofs.SlLaysF.n6 Try.prog slices_SortFunc_int_int__impl_Cut_parts_1_lay_ren where
 mixed := by kernel_rfl
 f6 := ⟨Try.f119.name, by decide, Try.func119.trans (congrArg some (by kernel_rfl))⟩
 f14 := ⟨Try.f141.name, by decide, Try.func141.trans (congrArg some (by kernel_rfl))⟩
 f15 := Try.func142.trans (congrArg some (by kernel_rfl))
 f20 := ⟨Try.f145.name, by decide, Try.func145.trans (congrArg some (by kernel_rfl))⟩
 f21 := ⟨Try.f146.name, by decide, Try.func146.trans (congrArg some (by kernel_rfl))⟩
 f22 := ⟨Try.f147.name, by decide, Try.func147.trans (congrArg some (by kernel_rfl))⟩
 f23 := ⟨Try.f148.name, by decide, Try.func148.trans (congrArg some (by kernel_rfl))⟩
 f24 := ⟨Try.f149.name, by decide, Try.func149.trans (congrArg some (by kernel_rfl))⟩
 f25 := ⟨Try.f150.name, by decide, Try.func150.trans (congrArg some (by kernel_rfl))⟩
 f26 := ⟨Try.f151.name, by decide, Try.func151.trans (congrArg some (by kernel_rfl))⟩
 f27 := ⟨Try.f152.name, by decide, Try.func152.trans (congrArg some (by kernel_rfl))⟩
 f28 := Try.func153.trans (congrArg some (by kernel_rfl))
 f29 := Try.func154.trans (congrArg some (by kernel_rfl))
 f46 := ⟨Try.f157.name, by decide, Try.func157.trans (congrArg some (by kernel_rfl))⟩
 f47 := Try.func158.trans (congrArg some (by kernel_rfl))
 f48 := Try.func159.trans (congrArg some (by kernel_rfl))
 f49 := ⟨Try.f160.name, by decide, Try.func160.trans (congrArg some (by kernel_rfl))⟩
 f50 := ⟨Try.f161.name, by decide, Try.func161.trans (congrArg some (by kernel_rfl))⟩
 f57 := ⟨Try.f170.name, by decide, Try.func170.trans (congrArg some (by kernel_rfl))⟩
 t0 := Try.underlying0
 a0 := Try.isAgg0
 z0 := Try.sizeOf0
 v0 := Try.zeroValue0
 t3 := Try.underlying3
 a3 := Try.isAgg3
 z3 := Try.sizeOf3
 v3 := Try.zeroValue3
 t4 := Try.underlying4
 a4 := Try.isAgg4
 z4 := Try.sizeOf4
 v4 := Try.zeroValue4
 t5 := Try.underlying5
 a5 := Try.isAgg5
 z5 := Try.sizeOf5
 v5 := Try.zeroValue5
 t9 := Try.underlying9
 a9 := Try.isAgg9
 z9 := Try.sizeOf9
 v9 := Try.zeroValue9
 t22 := Try.underlying50
 a22 := Try.isAgg50
 z22 := Try.sizeOf50
 v22 := Try.zeroValue50
 a24 := Try.isAgg25
 z24 := Try.sizeOf25
 t25 := Try.underlying117
 a25 := Try.isAgg117
 z25 := Try.sizeOf117
 v25 := Try.zeroValue117
 t39 := Try.underlying131
 a39 := Try.isAgg131
 z39 := Try.sizeOf131
 v39 := Try.zeroValue131
 t45 := Try.underlying134
 a45 := Try.isAgg134
 z45 := Try.sizeOf134
 v45 := Try.zeroValue134
 t46 := Try.underlying135
 a46 := Try.isAgg135
 z46 := Try.sizeOf135
 v46 := Try.zeroValue135
 t50 := Try.underlying58
 a50 := Try.isAgg58
 z50 := Try.sizeOf58
 v50 := Try.zeroValue58
 t53 := Try.underlying141
 a53 := Try.isAgg141
 z53 := Try.sizeOf141
 v53 := Try.zeroValue141
 t55 := Try.underlying143
 a55 := Try.isAgg143
 z55 := Try.sizeOf143
 v55 := Try.zeroValue143
 t66 := Try.underlying145
 a66 := Try.isAgg145
 z66 := Try.sizeOf145
 v66 := Try.zeroValue145
 t70 := Try.underlying149
 a70 := Try.isAgg149
 z70 := Try.sizeOf149
 v70 := Try.zeroValue149
 t76 := Try.underlying156
 a76 := Try.isAgg156
 z76 := Try.sizeOf156
 v76 := Try.zeroValue156
 t77 := Try.underlying157
 a77 := Try.isAgg157
 z77 := Try.sizeOf157
 v77 := Try.zeroValue157
def slices_SortFunc_int_int__impl_Cut_parts_1.f (l : List (List Int)) : Option (List (List Int)) :=
 if l.length ≤ 1000000 ∧ ∀ x ∈ l, x.length ≤ 1000 then some ((Sort.pdq (ltOf (cfL l)) (List.range l.length).toArray 0 l.length (Lib.bitLen l.length) true true).toList.map fun i => l.getD i []) else none
set_option maxHeartbeats 8000000 in
theorem slices_SortFunc_int_int__impl_Cut_parts_1.calls (P0_ : Nat → Prop) (u9000_ : Value) (l0 : List (List Int)) (r : List (List Int)) (w0 w : World) (hB : Below w0.heap.size w0 w) (ho0 : Kd.S (Kd.slice 3 (Kd.int .i64)) 25 w w0.heap.size P0_ u9000_ l0) (h : slices_SortFunc_int_int__impl_Cut_parts_1.f l0 = some r) :
  Calls Try.prog 119 #[u9000_, .func (.func 120) #[] #[]] w fun e w' => e = .returned (.tuple #[]) ∧ Kd.S (Kd.slice 3 (Kd.int .i64)) 25 w' w0.heap.size (fun k_ => P0_ k_) u9000_ r ∧ Below w0.heap.size w0 w' ∧ Kept w w' (fun k_ => P0_ k_) := by
 unfold slices_SortFunc_int_int__impl_Cut_parts_1.f at h;(split at h);(case isFalse => cases h);(rename_i hg);obtain ⟨hlen, hrow⟩ := hg;have h' := (Option.some.inj h).symm;clear h;(by_cases hl : l0 = [])
 ·subst hl
  have hr : r = [] := by
   rw [h'];have hps := (Sort.pdq_sorts (ltOf (cfL [])) (swoL []) (List.range 0).toArray 0 0 (Lib.bitLen 0) true true (Nat.le_refl _) (by simp) (Or.inl rfl)).1.1;have he := Array.eq_empty_of_size_eq_zero (hps.trans (by simp));(show List.map _ (Sort.pdq (ltOf (cfL [])) (List.range 0).toArray 0 0 (Lib.bitLen 0) true true).toList = []);(rw [he]; rfl)
  subst hr;obtain ⟨A, c, rfl⟩ := Kd.S_slice ho0;refine (AnyF.slices_SortFunc_none { slices_SortFunc_int_int__impl_Cut_parts_1_lay with } A c (.func (.func 120) #[] #[]) w).mono ?_;rintro e w' ⟨rfl, rfl⟩;exact ⟨rfl, ho0, hB, Kept.refl _ _⟩
 ·have hp : 0 < l0.length := List.length_pos_iff.2 hl;obtain ⟨g, cap, rfl, hbase, hlt, cells, hcells⟩ := Kd.S_form ho0 hp;obtain ⟨f, vals, h1, hs, hi, hz⟩ := S_open ho0;(have hsz : (List.range l0.length).toArray.size = l0.length := by simp)
  have hget : ∀ x, (l0.getD x []).length ≤ 1000 := by
   intro x;(by_cases hx : x < l0.length)
   ·(rw [List.getD_eq_getElem?_getD, List.getElem?_eq_getElem hx]; exact hrow _ (List.getElem_mem hx))
   ·(rw [List.getD_eq_getElem?_getD, List.getElem?_eq_none (by omega)]; simp)
  have hmove : ∀ (W : World), (∀ k, k < w.heap.size → k ≠ g → W.heap[k]? = w.heap[k]?) → ∀ i, i < l0.length → (Kd.int .i64).R 3 W w0.heap.size (fun k => (P0_ k ∧ some k ≠ (Value.slice (some ⟨g, 0, none⟩) l0.length cap).ownBlock) ∧ f k = i) (vals i) (l0.getD i []) := fun W hW i hil =>
   (Kd.R_step (hi i hil) (fun k hk hkl => hW k hkl (fun e => hk.1.2 (by rw [e]; rfl))))
  have eg : ∀ args w, (callFunc 120 args).run Try.prog w = .ok (.enter 120 args) w := enters_of Try.func120 (by kernel_rfl) rfl
  have hcmp : CmpLays1 Try.prog 120 #[] vals (cfL l0) g 0 (List.range l0.length).toArray.size w := by
   intro m os dk hdk x y;obtain ⟨W, hW⟩ : ∃ W, W = sortWorld vals w g 0 m dk os := ⟨_, rfl⟩;(have hoth : ∀ k, k < w.heap.size → k ≠ g → W.heap[k]? = w.heap[k]? := fun k hk hne => by rw [hW]; exact sortWorld_other vals w g m dk os k hk hne)
   have hrd : ∀ x, ∃ A c, vals x = .slice A (l0.getD x []).length c ∧ (l0.getD x []).length ≤ c ∧ Kd.C (Kd.int .i64) W A (l0.getD x []).length (l0.getD x []) := by
    intro x;(by_cases hx : x < l0.length)
    ·exact Kd.R_reads (hmove W hoth x hx)
    ·(have e : l0.getD x [] = [] := by rw [List.getD_eq_getElem?_getD, List.getElem?_eq_none (by omega)]; rfl);rw [e];exact ⟨none, 0, hz x (by omega), Nat.le_refl _, Kd.C_nil _ _⟩
   obtain ⟨A, c, ex, hc, hC⟩ := hrd x;obtain ⟨A', c', ey, hc', hC'⟩ := hrd y;rw [← hW, ex, ey];obtain ⟨k, hk⟩ := compI_some (l0.getD x []) (l0.getD y []) (hget x) (hget y);refine (impl_Cut_parts_1.calls k A c _ A' c' _ _ W hC hc hC' hc' hk).mono ?_;rintro e w' ⟨rfl, ⟨q, rfl⟩⟩;exact ⟨rfl, q, #[], by rw [Sort.grow_empty]⟩
  have hcon := Any.slices_SortFunc_eq slices_SortFunc_int_int__impl_Cut_parts_1_lay vals h1 (cfL l0) (swoL l0) 120 #[] g 0 cap (List.range l0.length).toArray w eg hcmp (row_holds hs) hlt (by rw [hsz]; omega);rw [hsz] at hcon;refine hcon.mono ?_;rintro e w' ⟨rfl, q, os, rfl⟩;have hps := (Sort.pdq_sorts (ltOf (cfL l0)) (swoL l0) (List.range l0.length).toArray 0 l0.length (Lib.bitLen l0.length) true true (Nat.zero_le _) (by simp) (Or.inl rfl)).1;generalize Sort.pdq (ltOf (cfL l0)) (List.range l0.length).toArray 0 l0.length (Lib.bitLen l0.length) true true = dd at h' hps ⊢;(have hdd : dd.size = l0.length := by rw [hps.1, hsz])
  have hperm : dd.toList.Perm (List.range l0.length) := by
   have hp := hps.2.2;rw [Array.toList_extract, Array.toList_extract] at hp;simp only [List.extract_eq_take_drop, List.drop_zero, Nat.sub_zero] at hp;(rwa [List.take_of_length_le (by rw [Array.length_toList, hdd]; exact Nat.le_refl _), List.take_of_length_le (by simp)] at hp)
  obtain ⟨a, b, c⟩ := row_put (w0 := w0) (w1 := w) (S := fun k_ => P0_ k_) dd (w := Sort.ahead w q) (Kd.R_drewN hs q) (by rw [hdd]; simp) (pw_below_drewN hB q) hbase (Kept.drewN (Kept.refl w _) q) (.inl (hs.1 g rfl));have hgr := srGrow (Sort.putRow vals (Sort.ahead w q) g 0 dd) os;refine ⟨rfl, ?_, below_step b hgr, ⟨Nat.le_trans c.1 hgr.size, fun k hk hS => (hgr.block k (Nat.lt_of_lt_of_le hk c.1)).trans (c.2 k hk hS)⟩⟩;rw [h'];exact S_close (Kd.R_below a hgr) (hperm.nodup_iff.2 List.nodup_range) (fun i hm => hmove _ (fun k hk hne => sortWorld_other vals w g q dd os k hk hne) i (by simpa using hperm.mem_iff.1 hm))

/-! ### impl_Cut_parts: function 75 -/
mutual
def impl_Cut_parts.l0 : Nat → List (List Int) → List (S97) → Int → Int → Int → Int → List (S97) → Option ((List (List Int)))
 | 0, _, _, _, _, _, _, _ => none
 | k + 1, x3, x12, x13, x14, x271000, x271001, x271002 => if x14 < x13 then (if 0 ≤ x14 then (if x14 < (x12.length : Int) then (impl_Cut_parts.l1 k x3 x12 x13 x14 x271002 (x271002.length : Int) 0 x271000 x271001 x271002 ((rd_T97 x12 x14).f0) ((rd_T97 x12 x14).f1) ((rd_T97 x12 x14).f2)) else (none)) else (none)) else ((slices_SortFunc_int_int__impl_Cut_parts_1.f x3).bind fun t274 => (some t274))
def impl_Cut_parts.l1 : Nat → List (List Int) → List (S97) → Int → Int → List (S97) → Int → Int → Int → Int → List (S97) → Int → Int → Int → Option ((List (List Int)))
 | 0, _, _, _, _, _, _, _, _, _, _, _, _, _ => none
 | k + 1, x3, x12, x13, x14, x19, x20, x21, x271000, x271001, x271002, x277000, x277001, x277002 => if x21 < x20 then (if 0 ≤ x21 then (if x21 < (x19.length : Int) then ((impl_Cut_within.f k x271000 x271001 x271002 x277000 x277001 (wrap64 (((rd_T97 x19 x21).f0) + ((rd_T97 x19 x21).f2))) (wrap64 (((rd_T97 x19 x21).f1) + ((rd_T97 x19 x21).f2)))).bind fun bt279 => (if bt279.2 = true then ((impl_within.f (bt279.1.length : Int) 2 (wrap64 ((x271002.length : Int) - 1))).bind fun t283 => (if t283 = true then (if x3.length < 5864062014805 then (impl_Cut_parts.l1 k (x3 ++ [bt279.1]) x12 x13 x14 x19 x20 (wrap64 (x21 + 1)) x271000 x271001 x271002 x277000 x277001 x277002) else (none)) else (impl_Cut_parts.l1 k x3 x12 x13 x14 x19 x20 (wrap64 (x21 + 1)) x271000 x271001 x271002 x277000 x277001 x277002))) else (impl_Cut_parts.l1 k x3 x12 x13 x14 x19 x20 (wrap64 (x21 + 1)) x271000 x271001 x271002 x277000 x277001 x277002))) else (none)) else (none)) else (impl_Cut_parts.l0 k x3 x12 x13 (wrap64 (x14 + 1)) x271000 x271001 x271002)
end
def impl_Cut_parts.f (k : Nat) (a0_0 : Int) (a0_1 : Int) (l0_2 : List (S97)) : Option ((List (List Int))) := impl_Cut_parts.l0 k (([] : List (List Int))) l0_2 (l0_2.length : Int) 0 a0_0 a0_1 l0_2
set_option maxHeartbeats 8000000 in
set_option maxRecDepth 100000 in
theorem impl_Cut_parts.calls (k : Nat) (a0_0 : Int) (a0_1 : Int) (A0_2 : Option Addr) (c0_2 : Nat) (l0_2 : List (S97)) (r : List (List Int)) (w : World) (hr0_2 : Kd.C k97 w A0_2 l0_2.length l0_2) (hc0_2 : l0_2.length ≤ c0_2) (h : impl_Cut_parts.f k a0_0 a0_1 l0_2 = some r) :
  Calls Try.prog 75 #[.agg #[.int .i64 a0_0, .int .i64 a0_1, .slice A0_2 l0_2.length c0_2]] w fun e w' => ∃ v0_ : Value, e = .returned (v0_) ∧ Kd.S (Kd.slice 3 (Kd.int .i64)) 25 w' w.heap.size (fun _ => True) v0_ r ∧ Below w.heap.size w w' := by
 have hu43 := Try.underlying43;have hu97 := Try.underlying97;have HR0_2 := Aside0.mk hr0_2;have HC0_2 := Aside0.mk hc0_2;clear hr0_2 hc0_2;have HB := Aside0.mk (Below.refl w.heap.size w);have H : (impl_Cut_parts.l0 k (([] : List (List Int))) l0_2 (l0_2.length : Int) 0 a0_0 a0_1 l0_2) = some r := h;clear h;obtain ⟨y271, hy271⟩ : ∃ y_ : List (List Int), y_ = (([] : List (List Int))) := ⟨_, rfl⟩;(replace H : (impl_Cut_parts.l0 k y271 l0_2 (l0_2.length : Int) 0 a0_0 a0_1 l0_2) = some r := rwH hy271 H);have Ny271 := Aside0.mk hy271;clear hy271;have H' := Aside0.mk H;clear H;go_enter Try.func75, Try.ntmps75;(go_wp2_with (first | ((with_reducible refine gate_dst (N := 1) rfl ?_); (try (refine gate_guard (by rfl) ?_; dsimp only)); refine boxE 1 (#[.int .i64 a0_0, .int .i64 a0_1, .slice A0_2 l0_2.length c0_2]) 43 ?_; intro gb270 hg w2 hbox hb; have BK270 := Aside0.mk (hbox);have GW270 := Aside0.mk (gz hg HB);have GE270 := Aside0.mk (gz hg HB);replace HB := Aside0.mk (below_step (upW HB) hb); clear hb hbox hg) | ((with_reducible refine gate_dst (N := 10) rfl ?_); (try (refine gate_guard (by rfl) ?_; dsimp only)); refine Kd.S_lit (Kd.slice 3 (Kd.int .i64)) _ 25 ?hg (N := 10) ?hd (xs := ([] : List (List Int))) (inner := []) (ok := fun _ => True) (okp := fun _ => True) ?hr ?hp (fun _ hk => hk) trivial (Below.refl _ _) (Nat.le_refl _) (by simp) ?_; (case hd => rfl); (case hg => rfl); (case hr => first | (go_simp; done) | (go_simp; rfl)); (case hp => exact (Reps.none _ _)); intro v272 w3 ho4 hb hg_ hnew_; clear hg_ hnew_; (first | rw [← Ny271.out] at ho4 | (simp only [Int.reduceToNat] at ho4; rw [← Ny271.out] at ho4)); have HO273 := Aside0.mk (Kd.S_lower ho4 (below_size (upW HB)));replace BK270 := Aside0.mk (blk_below (upK BK270) hb);replace HB := Aside0.mk (below_step (upW HB) hb); clear hb ho4; obtain ⟨hcz5_0, hcz5_1, hcz5_2, hfz5_0, hfz5_1, hfz5_2⟩ := cz3 BK270 (.int .i64 a0_0) (.int .i64 a0_1) (.slice A0_2 l0_2.length c0_2))));(try simp only [Act.put, List.setIfInBounds_toArray, List.set_cons_succ, List.set_cons_zero]);(go_loopg [3, 14] k (fun kq v3 v14 w' => ∃ (x3_1 : List (List Int)) (x14_1 : Int), v14 = .int .i64 x14_1 ∧ Aside0 (impl_Cut_parts.l0 kq x3_1 l0_2 (l0_2.length : Int) x14_1 a0_0 a0_1 l0_2 = some r) ∧ Aside0 (kq ≤ k) ∧ Aside0 (Kd.S (Kd.slice 3 (Kd.int .i64)) 25 w' w.heap.size (fun _ => True) v3 x3_1) ∧ Aside0 (w'.heap[gb270]? = some (.cells #[.int .i64 a0_0, .int .i64 a0_1, (.slice A0_2 l0_2.length c0_2)] 43 (0, 0))) ∧ Aside0 (Below w.heap.size w w')));(case atStart => exact ⟨(y271), (0), (eqw), H', ⟨Nat.le_refl _⟩, ⟨by (with_reducible repeat (first | apply Kd.S_alloc | apply Kd.S_drewN | apply Kd.S_drew)); exact HO273.out⟩, ⟨upK BK270⟩, ⟨upW HB⟩⟩)
 case round =>
  clear H';(try clear hcz5_0 hcz5_1 hcz5_2 hfz5_0 hfz5_1 hfz5_2);obtain ⟨x3_1, x14_1, rfl, HA, HK1, HO_3, BK270, HB⟩ := hrel
  cases gk with
  | zero => exact absurd HA.out (by simp [impl_Cut_parts.l0])
  | succ k1 =>
   have H := HA.out;clear HA;simp only [impl_Cut_parts.l0] at H;(by_cases c6 : x14_1 < (l0_2.length : Int))
   ·rw [if_pos c6] at H;have c6b0 := decide_eq_true c6;clear c6;(by_cases c7 : 0 ≤ x14_1)
    ·rw [if_pos c7] at H;have c7b0 := decide_eq_true c7;clear c7;(by_cases c8 : x14_1 < (l0_2.length : Int))
     ·rw [if_pos c8] at H;have c8b0 := decide_eq_true c8;clear c8;have H' := Aside0.mk H;clear H;have p275 : 0 ≤ (x14_1 : Int) := oda;have q275 : x14_1 < (l0_2.length : Int) := oda;obtain ⟨ad275, e275, hx275_0, hx275_1, hx275_2⟩ := at_T97 HR0_2.out x14_1 p275 q275;cases e275;replace hx275_0 := cb HB hx275_0;replace hx275_1 := cb HB hx275_1;replace hx275_2 := cb HB hx275_2;replace p275 := eq_true p275;replace q275 := eq_true q275;(go_wp2_with (first | ((with_reducible refine gate_dst (N := 5) rfl ?_); (try (refine gate_guard (by rfl) ?_; dsimp only)); refine boxE 5 (#[.int .i64 0, .int .i64 0, .int .i64 0]) 97 ?_; intro gb276 hg w9 hbox hb; replace HO_3 := Aside0.mk (Kd.S_below (by (with_reducible repeat (first | apply Kd.S_alloc | apply Kd.S_drewN | apply Kd.S_drew)); exact HO_3.out) hb);have BK276 := Aside0.mk (hbox);have GW276 := Aside0.mk (gz hg HB);have GE276 := Aside0.mk (gz hg HB);replace HB := Aside0.mk (below_step (upW HB) hb);have NB270_276 := Aside0.mk (gn hg BK270);have NB276_270 := Aside0.mk ((by rw [hg]; exact Nat.ne_of_gt (blk_lt (upK BK270)) : gb276 ≠ gb270));replace BK270 := Aside0.mk (blk_below (upK BK270) hb); clear hb hbox hg; have hnb10 := NB276_270.out; have hnc10 := NB270_276.out; obtain ⟨hcz11_0, hcz11_1, hcz11_2, hfz11_0, hfz11_1, hfz11_2⟩ := cz3 BK276 (.int .i64 0) (.int .i64 0) (.int .i64 0); obtain ⟨hcz12_0, hcz12_1, hcz12_2, hfz12_0, hfz12_1, hfz12_2⟩ := cz3 BK270 (.int .i64 a0_0) (.int .i64 a0_1) (.slice (some ad275) l0_2.length c0_2))));(try simp only [Act.put, List.setIfInBounds_toArray, List.set_cons_succ, List.set_cons_zero]);(go_loopg [3, 21] k1 (fun kq v3 v21 w' => ∃ (x3_2 : List (List Int)) (x21_2 : Int), v21 = .int .i64 x21_2 ∧ Aside0 (impl_Cut_parts.l1 kq x3_2 l0_2 (l0_2.length : Int) x14_1 l0_2 (l0_2.length : Int) x21_2 a0_0 a0_1 l0_2 ((rd_T97 l0_2 x14_1).f0) ((rd_T97 l0_2 x14_1).f1) ((rd_T97 l0_2 x14_1).f2) = some r) ∧ Aside0 (kq ≤ k1) ∧ Aside0 (Kd.S (Kd.slice 3 (Kd.int .i64)) 25 w' w.heap.size (fun _ => True) v3 x3_2) ∧ Aside0 (w'.heap[gb270]? = some (.cells #[.int .i64 a0_0, .int .i64 a0_1, (.slice (some ad275) l0_2.length c0_2)] 43 (0, 0))) ∧ Aside0 (w'.heap[gb276]? = some (.cells #[.int .i64 ((rd_T97 l0_2 x14_1).f0), .int .i64 ((rd_T97 l0_2 x14_1).f1), .int .i64 ((rd_T97 l0_2 x14_1).f2)] 97 (0, 0))) ∧ Aside0 (Below w.heap.size w w')));(case atStart => exact ⟨(x3_1), (0), (eqw), H', ⟨Nat.le_refl _⟩, ⟨by (with_reducible repeat (first | apply Kd.S_alloc | apply Kd.S_drewN | apply Kd.S_drew)); exact Kd.S_mono (Kd.S_far (p := ⟨gb276, 2, none⟩) (Kd.S_far (p := ⟨gb276, 1, none⟩) (Kd.S_far (p := ⟨gb276, 0, none⟩) (Kd.S_types HO_3.out BK276.out (by decide)) (fun _ hk => hk.2) (.int .i64 ((rd_T97 l0_2 x14_1).f0))) (fun _ hk => hk.2) (.int .i64 ((rd_T97 l0_2 x14_1).f1))) (fun _ hk => hk.2) (.int .i64 ((rd_T97 l0_2 x14_1).f2))) (fun _ hk => trivial)⟩, ⟨upF BK270⟩, ⟨blk3 BK276 #[.int .i64 ((rd_T97 l0_2 x14_1).f0), .int .i64 ((rd_T97 l0_2 x14_1).f1), .int .i64 0] #[.int .i64 ((rd_T97 l0_2 x14_1).f0), .int .i64 0, .int .i64 0]⟩, ⟨upW HB⟩⟩)
      case round =>
       clear H';(try clear c6b0 c7b0 c8b0 hcz11_0 hcz11_1 hcz11_2 hcz12_0 hcz12_1 hcz12_2 hfz11_0 hfz11_1 hfz11_2 hfz12_0 hfz12_1 hfz12_2 hx275_0 hx275_1 hx275_2 p275 q275);obtain ⟨x3_2, x21_2, rfl, HA, HK2, HO_3, BK270, BK276, HB⟩ := hrel
       cases gk with
       | zero => exact absurd HA.out (by simp [impl_Cut_parts.l1])
       | succ k2 =>
        have H := HA.out;clear HA;simp only [impl_Cut_parts.l1] at H;(by_cases c13 : x21_2 < (l0_2.length : Int))
        ·rw [if_pos c13] at H;have c13b0 := decide_eq_true c13;clear c13;(by_cases c14 : 0 ≤ x21_2)
         ·rw [if_pos c14] at H;have c14b0 := decide_eq_true c14;clear c14;(by_cases c15 : x21_2 < (l0_2.length : Int))
          ·rw [if_pos c15] at H;have c15b0 := decide_eq_true c15;clear c15;replace H := Option.bind_eq_some_iff.mp H;obtain ⟨⟨t279, t282⟩, A160, H⟩ := H;replace H : (if t282 = true then ((impl_within.f (t279.length : Int) 2 (wrap64 ((l0_2.length : Int) - 1))).bind fun t283 => (if t283 = true then (if x3_2.length < 5864062014805 then (impl_Cut_parts.l1 k2 (x3_2 ++ [t279]) l0_2 (l0_2.length : Int) x14_1 l0_2 (l0_2.length : Int) (wrap64 (x21_2 + 1)) a0_0 a0_1 l0_2 ((rd_T97 l0_2 x14_1).f0) ((rd_T97 l0_2 x14_1).f1) ((rd_T97 l0_2 x14_1).f2)) else (none)) else (impl_Cut_parts.l1 k2 x3_2 l0_2 (l0_2.length : Int) x14_1 l0_2 (l0_2.length : Int) (wrap64 (x21_2 + 1)) a0_0 a0_1 l0_2 ((rd_T97 l0_2 x14_1).f0) ((rd_T97 l0_2 x14_1).f1) ((rd_T97 l0_2 x14_1).f2)))) else (impl_Cut_parts.l1 k2 x3_2 l0_2 (l0_2.length : Int) x14_1 l0_2 (l0_2.length : Int) (wrap64 (x21_2 + 1)) a0_0 a0_1 l0_2 ((rd_T97 l0_2 x14_1).f0) ((rd_T97 l0_2 x14_1).f1) ((rd_T97 l0_2 x14_1).f2))) = some r := H;have A16 := Aside0.mk A160;clear A160;(by_cases c17 : t282 = true)
           ·subst c17;(have H1 : ((impl_within.f (t279.length : Int) 2 (wrap64 ((l0_2.length : Int) - 1))).bind fun t283 => (if t283 = true then (if x3_2.length < 5864062014805 then (impl_Cut_parts.l1 k2 (x3_2 ++ [t279]) l0_2 (l0_2.length : Int) x14_1 l0_2 (l0_2.length : Int) (wrap64 (x21_2 + 1)) a0_0 a0_1 l0_2 ((rd_T97 l0_2 x14_1).f0) ((rd_T97 l0_2 x14_1).f1) ((rd_T97 l0_2 x14_1).f2)) else (none)) else (impl_Cut_parts.l1 k2 x3_2 l0_2 (l0_2.length : Int) x14_1 l0_2 (l0_2.length : Int) (wrap64 (x21_2 + 1)) a0_0 a0_1 l0_2 ((rd_T97 l0_2 x14_1).f0) ((rd_T97 l0_2 x14_1).f1) ((rd_T97 l0_2 x14_1).f2)))) = some r := by rw [if_pos rfl] at H; exact H);clear H;have H := H1;clear H1;replace H := Option.bind_eq_some_iff.mp H;obtain ⟨t283, A180, H⟩ := H;replace H : (if t283 = true then (if x3_2.length < 5864062014805 then (impl_Cut_parts.l1 k2 (x3_2 ++ [t279]) l0_2 (l0_2.length : Int) x14_1 l0_2 (l0_2.length : Int) (wrap64 (x21_2 + 1)) a0_0 a0_1 l0_2 ((rd_T97 l0_2 x14_1).f0) ((rd_T97 l0_2 x14_1).f1) ((rd_T97 l0_2 x14_1).f2)) else (none)) else (impl_Cut_parts.l1 k2 x3_2 l0_2 (l0_2.length : Int) x14_1 l0_2 (l0_2.length : Int) (wrap64 (x21_2 + 1)) a0_0 a0_1 l0_2 ((rd_T97 l0_2 x14_1).f0) ((rd_T97 l0_2 x14_1).f1) ((rd_T97 l0_2 x14_1).f2))) = some r := H;have A18 := Aside0.mk A180;clear A180;(by_cases c19 : t283 = true)
            ·subst c19;(have H1 : (if x3_2.length < 5864062014805 then (impl_Cut_parts.l1 k2 (x3_2 ++ [t279]) l0_2 (l0_2.length : Int) x14_1 l0_2 (l0_2.length : Int) (wrap64 (x21_2 + 1)) a0_0 a0_1 l0_2 ((rd_T97 l0_2 x14_1).f0) ((rd_T97 l0_2 x14_1).f1) ((rd_T97 l0_2 x14_1).f2)) else (none)) = some r := by rw [if_pos rfl] at H; exact H);clear H;have H := H1;clear H1;(by_cases c20 : x3_2.length < 5864062014805)
             ·rw [if_pos c20] at H;have LMc20 := Aside0.mk c20;clear c20;obtain ⟨y284, hy284⟩ : ∃ y_ : List (List Int), y_ = (x3_2 ++ [t279]) := ⟨_, rfl⟩;(replace H : (impl_Cut_parts.l1 k2 y284 l0_2 (l0_2.length : Int) x14_1 l0_2 (l0_2.length : Int) (wrap64 (x21_2 + 1)) a0_0 a0_1 l0_2 ((rd_T97 l0_2 x14_1).f0) ((rd_T97 l0_2 x14_1).f1) ((rd_T97 l0_2 x14_1).f2)) = some r := rwH hy284 H);have Ny284 := Aside0.mk hy284;clear hy284;have H' := Aside0.mk H;clear H;have p277 : 0 ≤ (x21_2 : Int) := oda;have q277 : x21_2 < (l0_2.length : Int) := oda;obtain ⟨ad277, e277, hx277_0, hx277_1, hx277_2⟩ := at_T97 HR0_2.out x21_2 p277 q277;obtain rfl : ad275 = ad277 := (by injection e277);replace hx277_0 := cb HB hx277_0;replace hx277_1 := cb HB hx277_1;replace hx277_2 := cb HB hx277_2;replace p277 := eq_true p277;replace q277 := eq_true q277;(go_wp2_with (first | ((with_reducible refine gate_dst (N := 7) rfl ?_); (try (refine gate_guard (by rfl) ?_; dsimp only)); refine boxE 7 (#[.int .i64 0, .int .i64 0, .int .i64 0]) 97 ?_; intro gb278 hg w21 hbox hb; replace HO_3 := Aside0.mk (Kd.S_below (by (with_reducible repeat (first | apply Kd.S_alloc | apply Kd.S_drewN | apply Kd.S_drew)); exact HO_3.out) hb);have BK278 := Aside0.mk (hbox);have GW278 := Aside0.mk (gz hg HB);have GE278 := Aside0.mk (gz hg HB);replace HB := Aside0.mk (below_step (upW HB) hb);have NB270_278 := Aside0.mk (gn hg BK270);have NB278_270 := Aside0.mk ((by rw [hg]; exact Nat.ne_of_gt (blk_lt (upK BK270)) : gb278 ≠ gb270));replace BK270 := Aside0.mk (blk_below (upK BK270) hb);have NB276_278 := Aside0.mk (gn hg BK276);have NB278_276 := Aside0.mk ((by rw [hg]; exact Nat.ne_of_gt (blk_lt (upK BK276)) : gb278 ≠ gb276));replace BK276 := Aside0.mk (blk_below (upK BK276) hb); clear hb hbox hg; have hnb22 := NB278_270.out; have hnc22 := NB270_278.out; have hnb23 := NB278_276.out; have hnc23 := NB276_278.out; obtain ⟨hcz24_0, hcz24_1, hcz24_2, hfz24_0, hfz24_1, hfz24_2⟩ := cz3 BK278 (.int .i64 0) (.int .i64 0) (.int .i64 0); have hnb25 := NB270_276.out; have hnc25 := NB276_270.out; obtain ⟨hcz26_0, hcz26_1, hcz26_2, hfz26_0, hfz26_1, hfz26_2⟩ := cz3 BK270 (.int .i64 a0_0) (.int .i64 a0_1) (.slice (some ad275) l0_2.length c0_2); obtain ⟨hcz27_0, hcz27_1, hcz27_2, hfz27_0, hfz27_1, hfz27_2⟩ := cz3 BK276 (.int .i64 ((rd_T97 l0_2 x14_1).f0)) (.int .i64 ((rd_T97 l0_2 x14_1).f1)) (.int .i64 ((rd_T97 l0_2 x14_1).f2))) | ((with_reducible refine gate_callee (f := 118) rfl ?_); refine goesL_ (some 41) rfl rfl Try.func118 (by kernel_rfl) rfl #[.agg #[.int .i64 a0_0, .int .i64 a0_1, .slice (some ad275) l0_2.length c0_2], .int .i64 ((rd_T97 l0_2 x14_1).f0), .int .i64 ((rd_T97 l0_2 x14_1).f1), .int .i64 (wrap64 (((rd_T97 l0_2 x21_2).f0) + ((rd_T97 l0_2 x21_2).f2))), .int .i64 (wrap64 (((rd_T97 l0_2 x21_2).f1) + ((rd_T97 l0_2 x21_2).f2)))] rfl itp ?_; (with_reducible refine (impl_Cut_within.calls k2 a0_0 a0_1 _ _ l0_2 ((rd_T97 l0_2 x14_1).f0) ((rd_T97 l0_2 x14_1).f1) (wrap64 (((rd_T97 l0_2 x21_2).f0) + ((rd_T97 l0_2 x21_2).f2))) (wrap64 (((rd_T97 l0_2 x21_2).f1) + ((rd_T97 l0_2 x21_2).f2))) t279 true _ ?side1 ?side2 A16.out).mono ?_); (case side1 => exact Kd.C_below HR0_2.out (upW HB)); (case side2 => exact HC0_2.out); rintro e w28 ⟨v280, rfl, ho0, hb⟩; refine ⟨_, rfl, ?_⟩; replace HO_3 := Aside0.mk (Kd.S_elder' (by (with_reducible repeat (first | apply Kd.S_alloc | apply Kd.S_drewN | apply Kd.S_drew)); exact (Kd.S_mono (Kd.S_far (p := ⟨gb278, 2, none⟩) (Kd.S_far (p := ⟨gb278, 1, none⟩) (Kd.S_far (p := ⟨gb278, 0, none⟩) (Kd.S_types HO_3.out BK278.out (by decide)) (fun _ hk => hk.2) (.int .i64 ((rd_T97 l0_2 x21_2).f0))) (fun _ hk => hk.2) (.int .i64 ((rd_T97 l0_2 x21_2).f1))) (fun _ hk => hk.2) (.int .i64 ((rd_T97 l0_2 x21_2).f2))) (fun _ h_ => h_.1))) (Kd.R_base ho0) hb);have HO281 := Aside0.mk (Kd.R_lower ho0 (below_size (upW HB)));replace BK270 := Aside0.mk (blk_below (upF BK270) hb);replace BK276 := Aside0.mk (blk_below (upF BK276) hb);replace BK278 := Aside0.mk (blk_below (g := gb278) (o := .cells #[.int .i64 ((rd_T97 l0_2 x21_2).f0), .int .i64 ((rd_T97 l0_2 x21_2).f1), .int .i64 ((rd_T97 l0_2 x21_2).f2)] 97 (0, 0)) (blk3 BK278 #[.int .i64 ((rd_T97 l0_2 x21_2).f0), .int .i64 ((rd_T97 l0_2 x21_2).f1), .int .i64 0] #[.int .i64 ((rd_T97 l0_2 x21_2).f0), .int .i64 0, .int .i64 0]) hb);replace HB := Aside0.mk (below_step (upW HB) hb); (try clear hb ho0); obtain ⟨Ao29, co29, eo29⟩ := Kd.R_slice HO281.out; subst eo29; obtain ⟨hcz30_0, hcz30_1, hcz30_2, hfz30_0, hfz30_1, hfz30_2⟩ := cz3 BK270 (.int .i64 a0_0) (.int .i64 a0_1) (.slice (some ad275) l0_2.length c0_2)) | (go_at_call 85; (with_reducible refine (impl_within.calls (t279.length : Int) 2 (wrap64 ((l0_2.length : Int) - 1)) true _ A18.out).mono ?_); rintro e w' ⟨rfl, ⟨nd, rfl⟩⟩) | ((with_reducible refine gate_builtin (b := .append) (xs := #[.tmp 54, .tmp 56]) rfl ?_); (try (refine gate_guard (by rfl) ?_; dsimp only)); at_builtin; refine Kd.S_append (Kd.slice 3 (Kd.int .i64)) (w0 := w) w.heap.size rfl (.tmp 54) (.tmp 56) 50 25 (.slice none 0 0) 24 rfl Try.underlying50 info25 rfl (by decide) (by omega) u3 x3_2 t279 [.slice Ao29 t279.length co29] (fun _ => True) (fun k_ => some k_ = (.slice Ao29 t279.length co29 : Value).ownBlock) rfl rfl ?aP (fun k_ hk_ => ((Kd.R_mono (ok' := fun k_ => ((fun _ => True)) k_ ∧ some k_ ≠ (u3 : Value).ownBlock) (Kd.R_apart' (HO281.out) (Kd.S_typed HO_3.out) (by decide)) (fun k_ hk => ⟨trivial, hk.2⟩))).1 k_ hk_.symm) ?aF ?aO ?aB ?aS ?aL ?_; (case aP => exact Kd.M_row (Kd.R_mono (Kd.R_tight rfl (Kd.R_mono (ok' := fun k_ => ((fun _ => True)) k_ ∧ some k_ ≠ (u3 : Value).ownBlock) (Kd.R_apart' (HO281.out) (Kd.S_typed HO_3.out) (by decide)) (fun k_ hk => ⟨trivial, hk.2⟩))) (fun _ h_ => h_))); (case aB => exact (upW HB)); (case aF => exact (fun _ _ => trivial)); (case aO => exact (by (with_reducible repeat (first | apply Kd.S_alloc | apply Kd.S_drewN | apply Kd.S_drew)); exact Kd.S_mono HO_3.out (fun k_ hk => ⟨trivial, fun e_ => hk.2 e_⟩))); (case aS => exact (below_size (upW HB))); (case aL => have := LMc20.out; omega); intro v285 w31 ho hb hg hat; rw [← Ny284.out] at ho; have n0_ := Aside0.mk (blk_grown (upK BK270) hg (Kd.S_ne HO_3.out BK270.out (by decide))); have n1_ := Aside0.mk (blk_grown (upK BK276) hg (Kd.S_ne HO_3.out BK276.out (by decide))); have n2_ := Aside0.mk (blk_grown (upK BK278) hg (Kd.S_ne HO_3.out BK278.out (by decide))); have n3_ := Aside0.mk (hb); have n4_ := Aside0.mk (ho); clear BK270; clear BK276; clear BK278; clear HB; clear HO_3; clear HO281; have BK270 := n0_; have BK276 := n1_; have BK278 := n2_; have HB := n3_; have HO286 := n4_; clear n0_ n1_ n2_ n3_ n4_; clear ho hb hg hat)));go_roundg k2;(case measure => have := HK1.out; have := HK2.out; omega);(case rel => exact ⟨(y284), (wrap64 (x21_2 + 1)), (eqw), H', ⟨by have := HK1.out; have := HK2.out; omega⟩, ⟨by (with_reducible repeat (first | apply Kd.S_alloc | apply Kd.S_drewN | apply Kd.S_drew)); exact HO286.out⟩, ⟨upK BK270⟩, ⟨upK BK276⟩, ⟨upW HB⟩⟩)
             ·rw [if_neg c20] at H;exact absurd H (by simp)
            ·replace c19 := Bool.eq_false_iff.mpr c19;subst c19;(have H1 : (impl_Cut_parts.l1 k2 x3_2 l0_2 (l0_2.length : Int) x14_1 l0_2 (l0_2.length : Int) (wrap64 (x21_2 + 1)) a0_0 a0_1 l0_2 ((rd_T97 l0_2 x14_1).f0) ((rd_T97 l0_2 x14_1).f1) ((rd_T97 l0_2 x14_1).f2)) = some r := by rw [if_neg (show ¬ (false = true) by decide)] at H; exact H);clear H;have H := H1;clear H1;have H' := Aside0.mk H;clear H;have p277 : 0 ≤ (x21_2 : Int) := oda;have q277 : x21_2 < (l0_2.length : Int) := oda;obtain ⟨ad277, e277, hx277_0, hx277_1, hx277_2⟩ := at_T97 HR0_2.out x21_2 p277 q277;obtain rfl : ad275 = ad277 := (by injection e277);replace hx277_0 := cb HB hx277_0;replace hx277_1 := cb HB hx277_1;replace hx277_2 := cb HB hx277_2;replace p277 := eq_true p277;replace q277 := eq_true q277;(go_wp2_with (first | ((with_reducible refine gate_dst (N := 7) rfl ?_); (try (refine gate_guard (by rfl) ?_; dsimp only)); refine boxE 7 (#[.int .i64 0, .int .i64 0, .int .i64 0]) 97 ?_; intro gb278 hg w32 hbox hb; replace HO_3 := Aside0.mk (Kd.S_below (by (with_reducible repeat (first | apply Kd.S_alloc | apply Kd.S_drewN | apply Kd.S_drew)); exact HO_3.out) hb);have BK278 := Aside0.mk (hbox);have GW278 := Aside0.mk (gz hg HB);have GE278 := Aside0.mk (gz hg HB);replace HB := Aside0.mk (below_step (upW HB) hb);have NB270_278 := Aside0.mk (gn hg BK270);have NB278_270 := Aside0.mk ((by rw [hg]; exact Nat.ne_of_gt (blk_lt (upK BK270)) : gb278 ≠ gb270));replace BK270 := Aside0.mk (blk_below (upK BK270) hb);have NB276_278 := Aside0.mk (gn hg BK276);have NB278_276 := Aside0.mk ((by rw [hg]; exact Nat.ne_of_gt (blk_lt (upK BK276)) : gb278 ≠ gb276));replace BK276 := Aside0.mk (blk_below (upK BK276) hb); clear hb hbox hg; have hnb33 := NB278_270.out; have hnc33 := NB270_278.out; have hnb34 := NB278_276.out; have hnc34 := NB276_278.out; obtain ⟨hcz35_0, hcz35_1, hcz35_2, hfz35_0, hfz35_1, hfz35_2⟩ := cz3 BK278 (.int .i64 0) (.int .i64 0) (.int .i64 0); have hnb36 := NB270_276.out; have hnc36 := NB276_270.out; obtain ⟨hcz37_0, hcz37_1, hcz37_2, hfz37_0, hfz37_1, hfz37_2⟩ := cz3 BK270 (.int .i64 a0_0) (.int .i64 a0_1) (.slice (some ad275) l0_2.length c0_2); obtain ⟨hcz38_0, hcz38_1, hcz38_2, hfz38_0, hfz38_1, hfz38_2⟩ := cz3 BK276 (.int .i64 ((rd_T97 l0_2 x14_1).f0)) (.int .i64 ((rd_T97 l0_2 x14_1).f1)) (.int .i64 ((rd_T97 l0_2 x14_1).f2))) | ((with_reducible refine gate_callee (f := 118) rfl ?_); refine goesL_ (some 41) rfl rfl Try.func118 (by kernel_rfl) rfl #[.agg #[.int .i64 a0_0, .int .i64 a0_1, .slice (some ad275) l0_2.length c0_2], .int .i64 ((rd_T97 l0_2 x14_1).f0), .int .i64 ((rd_T97 l0_2 x14_1).f1), .int .i64 (wrap64 (((rd_T97 l0_2 x21_2).f0) + ((rd_T97 l0_2 x21_2).f2))), .int .i64 (wrap64 (((rd_T97 l0_2 x21_2).f1) + ((rd_T97 l0_2 x21_2).f2)))] rfl itp ?_; (with_reducible refine (impl_Cut_within.calls k2 a0_0 a0_1 _ _ l0_2 ((rd_T97 l0_2 x14_1).f0) ((rd_T97 l0_2 x14_1).f1) (wrap64 (((rd_T97 l0_2 x21_2).f0) + ((rd_T97 l0_2 x21_2).f2))) (wrap64 (((rd_T97 l0_2 x21_2).f1) + ((rd_T97 l0_2 x21_2).f2))) t279 true _ ?side1 ?side2 A16.out).mono ?_); (case side1 => exact Kd.C_below HR0_2.out (upW HB)); (case side2 => exact HC0_2.out); rintro e w39 ⟨v280, rfl, ho0, hb⟩; refine ⟨_, rfl, ?_⟩; replace HO_3 := Aside0.mk (Kd.S_elder' (by (with_reducible repeat (first | apply Kd.S_alloc | apply Kd.S_drewN | apply Kd.S_drew)); exact (Kd.S_mono (Kd.S_far (p := ⟨gb278, 2, none⟩) (Kd.S_far (p := ⟨gb278, 1, none⟩) (Kd.S_far (p := ⟨gb278, 0, none⟩) (Kd.S_types HO_3.out BK278.out (by decide)) (fun _ hk => hk.2) (.int .i64 ((rd_T97 l0_2 x21_2).f0))) (fun _ hk => hk.2) (.int .i64 ((rd_T97 l0_2 x21_2).f1))) (fun _ hk => hk.2) (.int .i64 ((rd_T97 l0_2 x21_2).f2))) (fun _ h_ => h_.1))) (Kd.R_base ho0) hb);have HO281 := Aside0.mk (Kd.R_lower ho0 (below_size (upW HB)));replace BK270 := Aside0.mk (blk_below (upF BK270) hb);replace BK276 := Aside0.mk (blk_below (upF BK276) hb);replace BK278 := Aside0.mk (blk_below (g := gb278) (o := .cells #[.int .i64 ((rd_T97 l0_2 x21_2).f0), .int .i64 ((rd_T97 l0_2 x21_2).f1), .int .i64 ((rd_T97 l0_2 x21_2).f2)] 97 (0, 0)) (blk3 BK278 #[.int .i64 ((rd_T97 l0_2 x21_2).f0), .int .i64 ((rd_T97 l0_2 x21_2).f1), .int .i64 0] #[.int .i64 ((rd_T97 l0_2 x21_2).f0), .int .i64 0, .int .i64 0]) hb);replace HB := Aside0.mk (below_step (upW HB) hb); (try clear hb ho0); obtain ⟨Ao40, co40, eo40⟩ := Kd.R_slice HO281.out; subst eo40; obtain ⟨hcz41_0, hcz41_1, hcz41_2, hfz41_0, hfz41_1, hfz41_2⟩ := cz3 BK270 (.int .i64 a0_0) (.int .i64 a0_1) (.slice (some ad275) l0_2.length c0_2)) | (go_at_call 85; (with_reducible refine (impl_within.calls (t279.length : Int) 2 (wrap64 ((l0_2.length : Int) - 1)) false _ A18.out).mono ?_); rintro e w' ⟨rfl, ⟨nd, rfl⟩⟩)));go_roundg k2;(case measure => have := HK1.out; have := HK2.out; omega);(case rel => exact ⟨(x3_2), (wrap64 (x21_2 + 1)), (eqw), H', ⟨by have := HK1.out; have := HK2.out; omega⟩, ⟨by (with_reducible repeat (first | apply Kd.S_alloc | apply Kd.S_drewN | apply Kd.S_drew)); exact Kd.S_mono HO_3.out (fun _ hk => trivial)⟩, ⟨upK BK270⟩, ⟨upK BK276⟩, ⟨upW HB⟩⟩)
           ·replace c17 := Bool.eq_false_iff.mpr c17;subst c17;(have H1 : (impl_Cut_parts.l1 k2 x3_2 l0_2 (l0_2.length : Int) x14_1 l0_2 (l0_2.length : Int) (wrap64 (x21_2 + 1)) a0_0 a0_1 l0_2 ((rd_T97 l0_2 x14_1).f0) ((rd_T97 l0_2 x14_1).f1) ((rd_T97 l0_2 x14_1).f2)) = some r := by rw [if_neg (show ¬ (false = true) by decide)] at H; exact H);clear H;have H := H1;clear H1;have H' := Aside0.mk H;clear H;have p277 : 0 ≤ (x21_2 : Int) := oda;have q277 : x21_2 < (l0_2.length : Int) := oda;obtain ⟨ad277, e277, hx277_0, hx277_1, hx277_2⟩ := at_T97 HR0_2.out x21_2 p277 q277;obtain rfl : ad275 = ad277 := (by injection e277);replace hx277_0 := cb HB hx277_0;replace hx277_1 := cb HB hx277_1;replace hx277_2 := cb HB hx277_2;replace p277 := eq_true p277;replace q277 := eq_true q277;(go_wp2_with (first | ((with_reducible refine gate_dst (N := 7) rfl ?_); (try (refine gate_guard (by rfl) ?_; dsimp only)); refine boxE 7 (#[.int .i64 0, .int .i64 0, .int .i64 0]) 97 ?_; intro gb278 hg w42 hbox hb; replace HO_3 := Aside0.mk (Kd.S_below (by (with_reducible repeat (first | apply Kd.S_alloc | apply Kd.S_drewN | apply Kd.S_drew)); exact HO_3.out) hb);have BK278 := Aside0.mk (hbox);have GW278 := Aside0.mk (gz hg HB);have GE278 := Aside0.mk (gz hg HB);replace HB := Aside0.mk (below_step (upW HB) hb);have NB270_278 := Aside0.mk (gn hg BK270);have NB278_270 := Aside0.mk ((by rw [hg]; exact Nat.ne_of_gt (blk_lt (upK BK270)) : gb278 ≠ gb270));replace BK270 := Aside0.mk (blk_below (upK BK270) hb);have NB276_278 := Aside0.mk (gn hg BK276);have NB278_276 := Aside0.mk ((by rw [hg]; exact Nat.ne_of_gt (blk_lt (upK BK276)) : gb278 ≠ gb276));replace BK276 := Aside0.mk (blk_below (upK BK276) hb); clear hb hbox hg; have hnb43 := NB278_270.out; have hnc43 := NB270_278.out; have hnb44 := NB278_276.out; have hnc44 := NB276_278.out; obtain ⟨hcz45_0, hcz45_1, hcz45_2, hfz45_0, hfz45_1, hfz45_2⟩ := cz3 BK278 (.int .i64 0) (.int .i64 0) (.int .i64 0); have hnb46 := NB270_276.out; have hnc46 := NB276_270.out; obtain ⟨hcz47_0, hcz47_1, hcz47_2, hfz47_0, hfz47_1, hfz47_2⟩ := cz3 BK270 (.int .i64 a0_0) (.int .i64 a0_1) (.slice (some ad275) l0_2.length c0_2); obtain ⟨hcz48_0, hcz48_1, hcz48_2, hfz48_0, hfz48_1, hfz48_2⟩ := cz3 BK276 (.int .i64 ((rd_T97 l0_2 x14_1).f0)) (.int .i64 ((rd_T97 l0_2 x14_1).f1)) (.int .i64 ((rd_T97 l0_2 x14_1).f2))) | ((with_reducible refine gate_callee (f := 118) rfl ?_); refine goesL_ (some 41) rfl rfl Try.func118 (by kernel_rfl) rfl #[.agg #[.int .i64 a0_0, .int .i64 a0_1, .slice (some ad275) l0_2.length c0_2], .int .i64 ((rd_T97 l0_2 x14_1).f0), .int .i64 ((rd_T97 l0_2 x14_1).f1), .int .i64 (wrap64 (((rd_T97 l0_2 x21_2).f0) + ((rd_T97 l0_2 x21_2).f2))), .int .i64 (wrap64 (((rd_T97 l0_2 x21_2).f1) + ((rd_T97 l0_2 x21_2).f2)))] rfl itp ?_; (with_reducible refine (impl_Cut_within.calls k2 a0_0 a0_1 _ _ l0_2 ((rd_T97 l0_2 x14_1).f0) ((rd_T97 l0_2 x14_1).f1) (wrap64 (((rd_T97 l0_2 x21_2).f0) + ((rd_T97 l0_2 x21_2).f2))) (wrap64 (((rd_T97 l0_2 x21_2).f1) + ((rd_T97 l0_2 x21_2).f2))) t279 false _ ?side1 ?side2 A16.out).mono ?_); (case side1 => exact Kd.C_below HR0_2.out (upW HB)); (case side2 => exact HC0_2.out); rintro e w49 ⟨v280, rfl, ho0, hb⟩; refine ⟨_, rfl, ?_⟩; replace HO_3 := Aside0.mk (Kd.S_elder' (by (with_reducible repeat (first | apply Kd.S_alloc | apply Kd.S_drewN | apply Kd.S_drew)); exact (Kd.S_mono (Kd.S_far (p := ⟨gb278, 2, none⟩) (Kd.S_far (p := ⟨gb278, 1, none⟩) (Kd.S_far (p := ⟨gb278, 0, none⟩) (Kd.S_types HO_3.out BK278.out (by decide)) (fun _ hk => hk.2) (.int .i64 ((rd_T97 l0_2 x21_2).f0))) (fun _ hk => hk.2) (.int .i64 ((rd_T97 l0_2 x21_2).f1))) (fun _ hk => hk.2) (.int .i64 ((rd_T97 l0_2 x21_2).f2))) (fun _ h_ => h_.1))) (Kd.R_base ho0) hb);have HO281 := Aside0.mk (Kd.R_lower ho0 (below_size (upW HB)));replace BK270 := Aside0.mk (blk_below (upF BK270) hb);replace BK276 := Aside0.mk (blk_below (upF BK276) hb);replace BK278 := Aside0.mk (blk_below (g := gb278) (o := .cells #[.int .i64 ((rd_T97 l0_2 x21_2).f0), .int .i64 ((rd_T97 l0_2 x21_2).f1), .int .i64 ((rd_T97 l0_2 x21_2).f2)] 97 (0, 0)) (blk3 BK278 #[.int .i64 ((rd_T97 l0_2 x21_2).f0), .int .i64 ((rd_T97 l0_2 x21_2).f1), .int .i64 0] #[.int .i64 ((rd_T97 l0_2 x21_2).f0), .int .i64 0, .int .i64 0]) hb);replace HB := Aside0.mk (below_step (upW HB) hb); (try clear hb ho0))));go_roundg k2;(case measure => have := HK1.out; have := HK2.out; omega);(case rel => exact ⟨(x3_2), (wrap64 (x21_2 + 1)), (eqw), H', ⟨by have := HK1.out; have := HK2.out; omega⟩, ⟨by (with_reducible repeat (first | apply Kd.S_alloc | apply Kd.S_drewN | apply Kd.S_drew)); exact Kd.S_mono HO_3.out (fun _ hk => trivial)⟩, ⟨upK BK270⟩, ⟨upK BK276⟩, ⟨upW HB⟩⟩)
          ·rw [if_neg c15] at H;exact absurd H (by simp)
         ·rw [if_neg c14] at H;exact absurd H (by simp)
        ·rw [if_neg c13] at H;have c13b0 := decide_eq_false c13;clear c13;have H' := Aside0.mk H;clear H;go_wp2;go_roundg k2;(case measure => have := HK1.out; have := HK2.out; omega);(case rel => exact ⟨(x3_2), (wrap64 (x14_1 + 1)), (eqw), H', ⟨by have := HK1.out; have := HK2.out; omega⟩, ⟨by (with_reducible repeat (first | apply Kd.S_alloc | apply Kd.S_drewN | apply Kd.S_drew)); exact HO_3.out⟩, ⟨upK BK270⟩, ⟨upW HB⟩⟩)
     ·rw [if_neg c8] at H;exact absurd H (by simp)
    ·rw [if_neg c7] at H;exact absurd H (by simp)
   ·rw [if_neg c6] at H;have c6b0 := decide_eq_false c6;clear c6;replace H := Option.bind_eq_some_iff.mp H;obtain ⟨t274, A500, H⟩ := H;replace H : (some t274) = some r := H;have A50 := Aside0.mk A500;clear A500;obtain rfl := Option.some.inj H;obtain ⟨Ao51, co51, eo51⟩ := Kd.S_slice HO_3.out;subst eo51;(go_wp2_with (first | ((with_reducible refine gate_callee (f := 119) rfl ?_); refine goesL_ (some 61) rfl rfl Try.func119 (by kernel_rfl) rfl #[.slice Ao51 x3_1.length co51, .func (.func 120) #[] #[]] rfl itp ?_; (with_reducible refine (slices_SortFunc_int_int__impl_Cut_parts_1.calls ?ps0_1 (.slice Ao51 x3_1.length co51) x3_1  t274 w _ ?side1 ?side2 A50.out).mono ?_); (case side1 => repeat (first | (with_reducible first | exact HB.out | apply below_alloc | apply pw_below_drewN | apply below_drew1 | refine below_set ?_ GE270.out) | exact HB.out)); (case side2 => exact Kd.S_bound HO_3.out); rintro e w52 ⟨rfl, hy0, hb, hkp⟩; refine ⟨_, rfl, ?_⟩; replace HO_3 := Aside0.mk (Kd.S_mono hy0 (fun k_ hk_ => hk_.1));replace BK270 := Aside0.mk (blk_kept (upK BK270) hkp (fun hs_ => (fun e_ => off_type e_.2.2.2 ⟨_, by (with_reducible repeat (first | refine blk_drewN ?_ _ | refine blk_drew ?_ | refine blk_alloc ?_ _)); exact BK270.out⟩ (by decide)) hs_));replace HB := Aside0.mk (hb); (try clear hb hkp hy0))));go_ret;exact ⟨_, eqv, by (with_reducible repeat (first | apply Kd.S_alloc | apply Kd.S_drewN | apply Kd.S_drew)); exact HO_3.out, upW HB⟩

/-! ### impl_PartsOf: function 29 -/
def impl_PartsOf.f (k : Nat) (a0_0 : Int) (a0_1 : Int) (l0_2 : List (S97)) : Option ((List (List Int)) × Bool) := (impl_IsCut.f k a0_0 a0_1 l0_2).bind fun t288 => (if t288 = true then ((impl_Cut_parts.f k a0_0 a0_1 l0_2).bind fun t289 => (some (t289, true))) else (some (([] : List (List Int)), false)))
set_option maxHeartbeats 8000000 in
set_option maxRecDepth 100000 in
theorem impl_PartsOf.calls (k : Nat) (a0_0 : Int) (a0_1 : Int) (A0_2 : Option Addr) (c0_2 : Nat) (l0_2 : List (S97)) (r1 : List (List Int)) (r2 : Bool) (w : World) (hr0_2 : Kd.C k97 w A0_2 l0_2.length l0_2) (hc0_2 : l0_2.length ≤ c0_2) (h : impl_PartsOf.f k a0_0 a0_1 l0_2 = some (r1, r2)) :
  Calls Try.prog 29 #[.agg #[.int .i64 a0_0, .int .i64 a0_1, .slice A0_2 l0_2.length c0_2]] w fun e w' => ∃ v0_ : Value, e = .returned (.tuple #[v0_, .bool r2]) ∧ Kd.S (Kd.slice 3 (Kd.int .i64)) 25 w' w.heap.size (fun _ => True) v0_ r1 ∧ Below w.heap.size w w' := by
 have hu43 := Try.underlying43;have HR0_2 := Aside0.mk hr0_2;have HC0_2 := Aside0.mk hc0_2;clear hr0_2 hc0_2;have HB := Aside0.mk (Below.refl w.heap.size w);have H : ((impl_IsCut.f k a0_0 a0_1 l0_2).bind fun t288 => (if t288 = true then ((impl_Cut_parts.f k a0_0 a0_1 l0_2).bind fun t289 => (some (t289, true))) else (some (([] : List (List Int)), false)))) = some (r1, r2) := h;clear h;replace H := Option.bind_eq_some_iff.mp H;obtain ⟨t288, A20, H⟩ := H;replace H : (if t288 = true then ((impl_Cut_parts.f k a0_0 a0_1 l0_2).bind fun t289 => (some (t289, true))) else (some (([] : List (List Int)), false))) = some (r1, r2) := H;have A2 := Aside0.mk A20;clear A20;(by_cases c3 : t288 = true)
 ·subst c3;(have H1 : ((impl_Cut_parts.f k a0_0 a0_1 l0_2).bind fun t289 => (some (t289, true))) = some (r1, r2) := by rw [if_pos rfl] at H; exact H);clear H;have H := H1;clear H1;replace H := Option.bind_eq_some_iff.mp H;obtain ⟨t289, A40, H⟩ := H;replace H : (some (t289, true)) = some (r1, r2) := H;have A4 := Aside0.mk A40;clear A40;simp only [Option.some.injEq, Prod.mk.injEq] at H;obtain ⟨rfl, rfl⟩ := H;go_enter Try.func29, Try.ntmps29;(go_wp2_with (first | ((with_reducible refine gate_dst (N := 1) rfl ?_); refine boxE 1 (#[.int .i64 a0_0, .int .i64 a0_1, .slice A0_2 l0_2.length c0_2]) 43 ?_; intro gb287 hg w5 hbox hb; have BK287 := Aside0.mk (hbox);have GW287 := Aside0.mk (gz hg HB);have GE287 := Aside0.mk (gz hg HB);replace HB := Aside0.mk (below_step (upW HB) hb); clear hb hbox hg; obtain ⟨hcz6_0, hcz6_1, hcz6_2, hfz6_0, hfz6_1, hfz6_2⟩ := cz3 BK287 (.int .i64 a0_0) (.int .i64 a0_1) (.slice A0_2 l0_2.length c0_2)) | ((with_reducible refine gate_callee (f := 54) rfl ?_); refine goesL_ (some 5) rfl rfl Try.func54 (by kernel_rfl) rfl #[.agg #[.int .i64 a0_0, .int .i64 a0_1, .slice A0_2 l0_2.length c0_2]] rfl itp ?_; (with_reducible refine (impl_IsCut.calls k a0_0 a0_1 _ _ l0_2 true _ ?side1 ?side2 A2.out).mono ?_); (case side1 => exact upC (Kd.C_below HR0_2.out HB.out)); (case side2 => exact HC0_2.out); rintro e w7 ⟨rfl, hb⟩; refine ⟨_, rfl, ?_⟩; replace BK287 := Aside0.mk (blk_below (upK BK287) hb);replace HB := Aside0.mk (below_step (upW HB) hb); (try clear hb); obtain ⟨hcz8_0, hcz8_1, hcz8_2, hfz8_0, hfz8_1, hfz8_2⟩ := cz3 BK287 (.int .i64 a0_0) (.int .i64 a0_1) (.slice A0_2 l0_2.length c0_2)) | ((with_reducible refine gate_callee (f := 75) rfl ?_); refine goesL_ (some 8) rfl rfl Try.func75 (by kernel_rfl) rfl #[.agg #[.int .i64 a0_0, .int .i64 a0_1, .slice A0_2 l0_2.length c0_2]] rfl itp ?_; (with_reducible refine (impl_Cut_parts.calls k a0_0 a0_1 _ _ l0_2 t289 _ ?side1 ?side2 A4.out).mono ?_); (case side1 => exact upC (Kd.C_below HR0_2.out HB.out)); (case side2 => exact HC0_2.out); rintro e w9 ⟨v290, rfl, ho0, hb⟩; refine ⟨_, rfl, ?_⟩; have HO291 := Aside0.mk (Kd.S_lower ho0 (below_size (upW HB)));replace BK287 := Aside0.mk (blk_below (upK BK287) hb);replace HB := Aside0.mk (below_step (upW HB) hb); (try clear hb ho0))));(go_ret2);exact ⟨_, eqv, by (with_reducible repeat (first | apply Kd.S_alloc | apply Kd.S_drewN | apply Kd.S_drew)); exact HO291.out, upW HB⟩
 ·replace c3 := Bool.eq_false_iff.mpr c3;subst c3;(have H1 : (some (([] : List (List Int)), false)) = some (r1, r2) := by rw [if_neg (show ¬ (false = true) by decide)] at H; exact H);clear H;have H := H1;clear H1;simp only [Option.some.injEq, Prod.mk.injEq] at H;obtain ⟨rfl, rfl⟩ := H;go_enter Try.func29, Try.ntmps29;(go_wp2_with (first | ((with_reducible refine gate_dst (N := 1) rfl ?_); refine boxE 1 (#[.int .i64 a0_0, .int .i64 a0_1, .slice A0_2 l0_2.length c0_2]) 43 ?_; intro gb287 hg w10 hbox hb; have BK287 := Aside0.mk (hbox);have GW287 := Aside0.mk (gz hg HB);have GE287 := Aside0.mk (gz hg HB);replace HB := Aside0.mk (below_step (upW HB) hb); clear hb hbox hg; obtain ⟨hcz11_0, hcz11_1, hcz11_2, hfz11_0, hfz11_1, hfz11_2⟩ := cz3 BK287 (.int .i64 a0_0) (.int .i64 a0_1) (.slice A0_2 l0_2.length c0_2)) | ((with_reducible refine gate_callee (f := 54) rfl ?_); refine goesL_ (some 5) rfl rfl Try.func54 (by kernel_rfl) rfl #[.agg #[.int .i64 a0_0, .int .i64 a0_1, .slice A0_2 l0_2.length c0_2]] rfl itp ?_; (with_reducible refine (impl_IsCut.calls k a0_0 a0_1 _ _ l0_2 false _ ?side1 ?side2 A2.out).mono ?_); (case side1 => exact upC (Kd.C_below HR0_2.out HB.out)); (case side2 => exact HC0_2.out); rintro e w12 ⟨rfl, hb⟩; refine ⟨_, rfl, ?_⟩; replace BK287 := Aside0.mk (blk_below (upK BK287) hb);replace HB := Aside0.mk (below_step (upW HB) hb); (try clear hb))));(go_ret2);exact ⟨_, eqv, by first | exact Kd.S_nil _ _ _ _ _ | exact Kd.N_nil _ _ _ _ _ | exact Kd.V_nil _ _ _ _ _ | exact Kd.Q_nil _ _ _ _ _ | exact Kd.R_nil _ _ _ _ _, upW HB⟩

end Go.Proofs.Ytmmcbdndelaeoaa.PFnExactPartsOf
