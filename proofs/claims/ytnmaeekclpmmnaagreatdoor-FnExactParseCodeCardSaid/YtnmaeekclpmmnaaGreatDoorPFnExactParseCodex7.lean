-- made for this claim by a program of this session
import Derived.Test.YtnmaeekclpmmnaaGreatDoorPFnExactParseCodex0
import Derived.Test.YtnmaeekclpmmnaaGreatDoorPFnExactParseCodex5
namespace Go.Proofs.YtnmaeekclpmmnaaGreatDoor.PFnExactParseCode
open Go.RowKit Go.Proofs.YtnmaeekclpmmnaaGreatDoorW.PrintWords Go.Proofs.YtnmaeekclpmmnaaGreatDoorW.PrintLast Go.Proofs.YtnmaeekclpmmnaaGreatDoorW.PrintMore
attribute [local go_sem] max2_int min2_int max_two min_two max_three min_three max_four min_four   -- for this text's walks alone
set_option linter.unusedVariables false
set_option linter.unusedSimpArgs false

/-! ### slices_Grow_int_int: function 180 -/
def slices_Grow_int_int_lay_ren : Go.Shelf.Ren := ⟨fun | 4 => 180 | n => n, fun | 22 => 33 | 25 => 3 | 3 => 3 | 4 => 4 | 9 => 9 | 20 => 20 | 0 => 0 | n => n, fun | n => n⟩
theorem slices_Grow_int_int_lay : Go.Proofs.Lays8.n4 Tryz.prog slices_Grow_int_int_lay_ren where
 mixed := by kernel_rfl
 f4 := ⟨Tryz.f180.name, by decide, Tryz.func180.trans (congrArg some (by kernel_rfl))⟩
 t0 := Tryz.underlying0
 a0 := Tryz.isAgg0
 z0 := Tryz.sizeOf0
 v0 := Tryz.zeroValue0
 t3 := Tryz.underlying3
 a3 := Tryz.isAgg3
 z3 := Tryz.sizeOf3
 v3 := Tryz.zeroValue3
 t4 := Tryz.underlying4
 a4 := Tryz.isAgg4
 z4 := Tryz.sizeOf4
 v4 := Tryz.zeroValue4
 t9 := Tryz.underlying9
 a9 := Tryz.isAgg9
 z9 := Tryz.sizeOf9
 v9 := Tryz.zeroValue9
 t20 := Tryz.underlying20
 a20 := Tryz.isAgg20
 z20 := Tryz.sizeOf20
 v20 := Tryz.zeroValue20
 t22 := Tryz.underlying33
 a22 := Tryz.isAgg33
 z22 := Tryz.sizeOf33
 v22 := Tryz.zeroValue33
def slices_Grow_int_int.f (l : List Int) (a1 : Int) : Option (List Int) := if l = [] ∧ 0 ≤ a1 ∧ a1 ≤ 1000000000000 then some [] else none
set_option maxHeartbeats 8000000 in
set_option maxRecDepth 100000 in
theorem slices_Grow_int_int.calls (P0_ : Nat → Prop) (u9000_ : Value) (l0 : List Int) (a1 : Int) (r : List Int) (w0 w : World) (hB : Below w0.heap.size w0 w) (ho0 : Kd.R (Kd.int .i64) 3 w w0.heap.size P0_ u9000_ l0) (h : slices_Grow_int_int.f l0 a1 = some r) :
  Calls Tryz.prog 180 #[u9000_, .int .i64 a1] w fun e w' => ∃ v0_ : Value, e = .returned v0_ ∧ Kd.R (Kd.int .i64) 3 w' w0.heap.size (fun k_ => (P0_ k_ ∨ w.heap.size ≤ k_)) v0_ r ∧ Below w0.heap.size w0 w' ∧ Kept w w' (fun k_ => P0_ k_) := by
 unfold slices_Grow_int_int.f at h;(split at h);(case isFalse => cases h);(rename_i hg);obtain ⟨rfl, g1, g2⟩ := hg;have hr : r = [] := (Option.some.inj h).symm;subst hr;clear h;obtain ⟨n, rfl⟩ := Int.eq_ofNat_of_zero_le g1;(have hmax : maxLen ≤ 9223372036854775807 := by decide);have ho1 : Kd.R (Kd.int .i64) 3 w w0.heap.size (fun k_ => (P0_ k_ ∨ w.heap.size ≤ k_)) u9000_ [] := Kd.R_mono ho0 (fun _ hk => .inl hk)
 have made : ∀ (c : Nat) (cs : Array Value), c ≤ maxLen → cs.size = c → Kd.R (Kd.int .i64) 3 (w.drew.alloc (.cells cs 3)) w0.heap.size (fun k_ => (P0_ k_ ∨ w.heap.size ≤ k_)) (.slice (some ⟨w.heap.size, 0, none⟩) 0 c) [] := fun c cs hc hs =>
  Kd.R_of_own (World.ownsRow_made (size := 1) w.drew cs c hB.size hc (by omega)) (fun k hk => by
   (have e : w.heap.size = k := by simpa [Value.ownBlock] using hk)
   exact .inr (Nat.le_of_eq e))
 obtain ⟨i0, hi0, hx⟩ := Option.map_eq_some_iff.1 info3;have hz0 : i0.zero = some (.int .i64 0) := congrArg (fun q => q.1) hx;have hs0 : i0.size = 1 := congrArg (fun q => q.2.1) hx;have hb0 : i0.bytes = 8 := congrArg (fun q => q.2.2) hx;clear hx;(have e1 : (Value.int .i64 0).cells.size = 1 := by decide);obtain ⟨hok, inner, ho, hreps⟩ := ho0;(rcases ho.2 with ⟨rfl, _⟩ | ⟨g, cap, cur, rfl, hb, hh, hnc, hcm, hcs, ht⟩)
 ·(by_cases hn : n = 0)
  ·subst hn;refine (Any8.slices_Grow_room slices_Grow_int_int_lay none 0 0 0 w (by omega) (by omega) (by omega) (by omega)).mono ?_;rintro e w' ⟨rfl, rfl⟩;exact ⟨_, rfl, ho1, hB, Kept.refl _ _⟩
  ·(have hbig : (0 + n) * i0.bytes ≤ 140737488355328 := by rw [hb0]; omega);refine (Any8.slices_Grow_grow slices_Grow_int_int_lay i0 (.int .i64 0) hi0 hz0 (by omega) none 0 0 n [] w (by omega) (by omega) hbig (by omega) (by simp) (fun _ => rfl) (fun a ha => by cases ha)).mono ?_;rintro e w' ⟨rfl, rfl⟩;have hc := grownCap_le_maxLen w (0 + n) 0 (slices_Grow_int_int_lay_ren.t 25) (by unfold maxLen; omega);have hge := grownCap_ge w (0 + n) 0 (slices_Grow_int_int_lay_ren.t 25);refine ⟨_, rfl, made _ _ hc ?_, (hB.drew).alloc hB.size _, Kept.alloc (Kept.drew (Kept.refl w _)) _⟩;simp only [Builtin.zeroCells, Array.size_append, Array.size_map, Array.size_range, e1, List.size_toArray, List.length_nil];omega
 ·have hP : P0_ g := hok g rfl;have h1 : (Kd.int .i64).sz = 1 := rfl;rw [h1, Nat.mul_one] at hcs;(by_cases hn : n ≤ cap)
  ·refine (Any8.slices_Grow_room slices_Grow_int_int_lay (some ⟨g, 0, none⟩) 0 cap n w (by omega) (by omega) (by omega) (by omega)).mono ?_;rintro e w' ⟨rfl, rfl⟩;exact ⟨_, rfl, ho1, hB, Kept.refl _ _⟩
  ·(have hbig : (0 + n) * i0.bytes ≤ 140737488355328 := by rw [hb0]; omega);(have hcl : cur.toList.length = cap * i0.size := by rw [hs0, Array.length_toList]; omega)
   refine (Any8.slices_Grow_grow slices_Grow_int_int_lay i0 (.int .i64 0) hi0 hz0 (by omega) (some ⟨g, 0, none⟩) 0 cap n cur.toList w (by omega) (by omega) hbig (by omega) hcl (fun h => by cases h) (fun a ha j v hv => by
     (injection ha with ha);subst ha;rw [add_plain]
     exact (blk_cell hh j).trans (by simpa using hv))).mono ?_
   rintro e w' ⟨rfl, rfl⟩;have hc := grownCap_le_maxLen w (0 + n) cap (slices_Grow_int_int_lay_ren.t 25) (by unfold maxLen; omega);have hge := grownCap_ge w (0 + n) cap (slices_Grow_int_int_lay_ren.t 25);refine ⟨_, rfl, made _ _ hc ?_, (hB.drew).alloc hB.size _, Kept.alloc (Kept.drew (Kept.refl w _)) _⟩;simp only [Builtin.zeroCells, Array.size_append, Array.size_map, Array.size_range, e1, Array.length_toList, List.size_toArray];omega

/-! ### slices_Concat_int_int: function 132 -/
mutual
def slices_Concat_int_int.l0 : Nat → List (List Int) → Int → List (List Int) → Int → Int → Option (List Int)
 | 0, _, _, _, _, _ => none
 | k + 1, x0, x3, x9, x10, x11 => if x11 < x10 then (if 0 ≤ x11 then (if x11 < (x9.length : Int) then (if (wrap64 (x3 + ((rd_L2 x9 x11).length : Int))) < 0 then (none) else (slices_Concat_int_int.l0 k x0 (wrap64 (x3 + ((rd_L2 x9 x11).length : Int))) x9 x10 (wrap64 (x11 + 1)))) else (none)) else (none)) else ((slices_Grow_int_int.f ([] : List Int) x3).bind fun t264 => (slices_Concat_int_int.l1 k t264 x0 (x0.length : Int) 0))
def slices_Concat_int_int.l1 : Nat → List Int → List (List Int) → Int → Int → Option (List Int)
 | 0, _, _, _, _ => none
 | k + 1, x6, x25, x26, x27 => if x27 < x26 then (if 0 ≤ x27 then (if x27 < (x25.length : Int) then (if x6.length + (rd_L2 x25 x27).length < 17592186044416 then (slices_Concat_int_int.l1 k (x6 ++ (rd_L2 x25 x27)) x25 x26 (wrap64 (x27 + 1))) else (none)) else (none)) else (none)) else (some x6)
end
def slices_Concat_int_int.f (k : Nat) (l0 : List (List Int)) : Option (List Int) := slices_Concat_int_int.l0 k l0 0 l0 (l0.length : Int) 0
set_option maxHeartbeats 8000000 in
set_option maxRecDepth 100000 in
theorem slices_Concat_int_int.calls (k : Nat) (A0 : Option Addr) (c0 : Nat) (l0 : List (List Int)) (r : List Int) (w : World) (hr0 : Kd.C (Kd.slice 3 (Kd.int .i64)) w A0 l0.length l0) (hc0 : l0.length ≤ c0) (h : slices_Concat_int_int.f k l0 = some r) :
  Calls Tryz.prog 132 #[.slice A0 l0.length c0] w fun e w' => ∃ v0_ : Value, e = .returned (v0_) ∧ Kd.R (Kd.int .i64) 3 w' w.heap.size (fun _ => True) v0_ r ∧ Below w.heap.size w w' := by
 have HR0 := Aside0.mk hr0;have HC0 := Aside0.mk hc0;clear hr0 hc0;have HB := Aside0.mk (Below.refl w.heap.size w);have H : (slices_Concat_int_int.l0 k l0 0 l0 (l0.length : Int) 0) = some r := h;clear h;have H' := Aside0.mk H;clear H;go_enter Tryz.func132, Tryz.ntmps132;go_wp2;(go_loopg [3, 11] k (fun kq v3 v11 w' => ∃ (x3_1 : Int) (x11_1 : Int), v3 = .int .i64 x3_1 ∧ v11 = .int .i64 x11_1 ∧ Aside0 (slices_Concat_int_int.l0 kq l0 x3_1 l0 (l0.length : Int) x11_1 = some r) ∧ Aside0 (kq ≤ k) ∧ Aside0 (Below w.heap.size w w')));(case atStart => exact ⟨(0), (0), (eqw), (eqw), H', ⟨Nat.le_refl _⟩, ⟨upW HB⟩⟩)
 case round =>
  clear H';obtain ⟨x3_1, x11_1, rfl, rfl, HA, HK1, HB⟩ := hrel
  cases gk with
  | zero => exact absurd HA.out (by simp [slices_Concat_int_int.l0])
  | succ k1 =>
   have H := HA.out;clear HA;simp only [slices_Concat_int_int.l0] at H;(by_cases c2 : x11_1 < (l0.length : Int))
   ·rw [if_pos c2] at H;have c2b0 := decide_eq_true c2;clear c2;(by_cases c3 : 0 ≤ x11_1)
    ·rw [if_pos c3] at H;have c3b0 := decide_eq_true c3;clear c3;(by_cases c4 : x11_1 < (l0.length : Int))
     ·rw [if_pos c4] at H;have c4b0 := decide_eq_true c4;clear c4;(by_cases c5 : (wrap64 (x3_1 + ((rd_L2 l0 x11_1).length : Int))) < 0)
      ·rw [if_pos c5] at H;exact absurd H (by simp)
      ·rw [if_neg c5] at H;have c5b0 : decide ((wrap64 (x3_1 + ((rd_L2 l0 x11_1).length : Int))) < 0) = false := decide_eq_false c5;clear c5;have H' := Aside0.mk H;clear H;have p263 : 0 ≤ (x11_1 : Int) := oda;have q263 : x11_1 < (l0.length : Int) := oda;obtain ⟨ad263, A263_0, c263_0, e263, hx263_0, hl263_0, hi263_0⟩ := at_L2 HR0.out x11_1 p263 q263;cases e263;replace hx263_0 := cb HB hx263_0;have HR263_0 := Aside0.mk hi263_0;have HC263_0 := Aside0.mk hl263_0;clear hi263_0 hl263_0;replace p263 := eq_true p263;replace q263 := eq_true q263;go_wp2;go_roundg k1;(case measure => have := HK1.out; omega);(case rel => exact ⟨(wrap64 (x3_1 + ((rd_L2 l0 x11_1).length : Int))), (wrap64 (x11_1 + 1)), (eqw), (eqw), H', ⟨by have := HK1.out; omega⟩, ⟨upW HB⟩⟩)
     ·rw [if_neg c4] at H;exact absurd H (by simp)
    ·rw [if_neg c3] at H;exact absurd H (by simp)
   ·rw [if_neg c2] at H;have c2b0 := decide_eq_false c2;clear c2;replace H := Option.bind_eq_some_iff.mp H;obtain ⟨t264, A60, H⟩ := H;replace H : (slices_Concat_int_int.l1 k1 t264 l0 (l0.length : Int) 0) = some r := H;have A6 := Aside0.mk A60;clear A60;have H' := Aside0.mk H;clear H;(go_wp2_with (first | ((with_reducible refine gate_callee (f := 180) rfl ?_); refine goesL_ (some 24) rfl rfl Tryz.func180 (by kernel_rfl) rfl #[.slice none 0 0, .int .i64 x3_1] rfl itp ?_; (refine (slices_Grow_int_int.calls (fun k_ => some k_ = (.slice none 0 0 : Value).ownBlock) (.slice none 0 0) ([] : List Int) x3_1 t264 w _ ?side1 ?side2 A6.out).mono ?_); (case side1 => exact upW HB); (case side2 => exact Kd.R_nil _ _ _ _ _); rintro e w7 ⟨v265, rfl, ho0, hb, hkp⟩; refine ⟨_, rfl, ?_⟩; have HO266 := Aside0.mk (Kd.R_mono (ok' := fun k_ => True) ho0 (fun k_ hk_ => trivial));replace HB := Aside0.mk (hb); (try clear hb hkp ho0))));(try simp only [Act.put, List.setIfInBounds_toArray, List.set_cons_succ, List.set_cons_zero]);(go_loopg [6, 27] k1 (fun kq v6 v27 w' => ∃ (x6_2 : List Int) (x27_2 : Int), v27 = .int .i64 x27_2 ∧ Aside0 (slices_Concat_int_int.l1 kq x6_2 l0 (l0.length : Int) x27_2 = some r) ∧ Aside0 (kq ≤ k1) ∧ Aside0 (Kd.R (Kd.int .i64) 3 w' w.heap.size (fun _ => True) v6 x6_2) ∧ Aside0 (Below w.heap.size w w')));(case atStart => exact ⟨(t264), (0), (eqw), H', ⟨Nat.le_refl _⟩, ⟨upR HO266⟩, ⟨upW HB⟩⟩)
    case round =>
     clear H';(try clear c2b0);obtain ⟨x6_2, x27_2, rfl, HA, HK2, HO_6, HB⟩ := hrel
     cases gk with
     | zero => exact absurd HA.out (by simp [slices_Concat_int_int.l1])
     | succ k2 =>
      have H := HA.out;clear HA;simp only [slices_Concat_int_int.l1] at H;(by_cases c8 : x27_2 < (l0.length : Int))
      ·rw [if_pos c8] at H;have c8b0 := decide_eq_true c8;clear c8;(by_cases c9 : 0 ≤ x27_2)
       ·rw [if_pos c9] at H;have c9b0 := decide_eq_true c9;clear c9;(by_cases c10 : x27_2 < (l0.length : Int))
        ·rw [if_pos c10] at H;have c10b0 := decide_eq_true c10;clear c10;(by_cases c11 : x6_2.length + (rd_L2 l0 x27_2).length < 17592186044416)
         ·rw [if_pos c11] at H;have LMc11 := Aside0.mk c11;clear c11;obtain ⟨y268, hy268⟩ : ∃ y_ : List Int, y_ = (x6_2 ++ (rd_L2 l0 x27_2)) := ⟨_, rfl⟩;(replace H : (slices_Concat_int_int.l1 k2 y268 l0 (l0.length : Int) (wrap64 (x27_2 + 1))) = some r := rwH hy268 H);have Ny268 := Aside0.mk hy268;clear hy268;have H' := Aside0.mk H;clear H;have p267 : 0 ≤ (x27_2 : Int) := oda;have q267 : x27_2 < (l0.length : Int) := oda;obtain ⟨ad267, A267_0, c267_0, e267, hx267_0, hl267_0, hi267_0⟩ := at_L2 HR0.out x27_2 p267 q267;cases e267;replace hx267_0 := cb HB hx267_0;have HR267_0 := Aside0.mk hi267_0;have HC267_0 := Aside0.mk hl267_0;clear hi267_0 hl267_0;replace p267 := eq_true p267;replace q267 := eq_true q267;(go_wp2_with (first | ((with_reducible refine gate_builtin (b := .append) (xs := #[.tmp 31, .tmp 32]) rfl ?_); at_builtin; refine Kd.R_append_rows (Kd.int .i64) (w0 := w) w.heap.size rfl (.tmp 31) (.tmp 32) 33 3 (.int .i64 0) 8 rfl Tryz.underlying33 info3 rfl (by decide) (by omega) u6 x6_2 (rd_L2 l0 x27_2) _ _ _ (fun _ => True) (fun _ => False) rfl rfl ?aO ?aR (fun _ _ h => h) (fun _ h => h.elim) ?aF ?aB ?aS ?aL ?_; (case aR => repeat (first | exact (Kd.C_below HR267_0.out HB.out) | (with_reducible refine Kd.C_alloc ?_ _) | (with_reducible refine Kd.C_drewN ?_ _) | (with_reducible refine Kd.C_drew ?_))); (case aB => exact (upW HB)); (case aF => exact (fun _ _ => trivial)); (case aO => exact (upR HO_6)); (case aS => exact (below_size (upW HB))); (case aL => have := LMc11.out; omega); intro v269 w12 ho hb hg hat; rw [← Ny268.out] at ho; have n0_ := Aside0.mk (hb); have n1_ := Aside0.mk (ho); clear HB; clear HO_6; have HB := n0_; have HO270 := n1_; clear n0_ n1_; clear ho hb hg hat)));go_roundg k2;(case measure => have := HK1.out; have := HK2.out; omega);(case rel => exact ⟨(y268), (wrap64 (x27_2 + 1)), (eqw), H', ⟨by have := HK1.out; have := HK2.out; omega⟩, ⟨upR HO270⟩, ⟨upW HB⟩⟩)
         ·rw [if_neg c11] at H;exact absurd H (by simp)
        ·rw [if_neg c10] at H;exact absurd H (by simp)
       ·rw [if_neg c9] at H;exact absurd H (by simp)
      ·rw [if_neg c8] at H;have c8b0 := decide_eq_false c8;clear c8;obtain rfl := Option.some.inj H;go_wp2;go_ret;exact ⟨_, eqv, by (with_reducible repeat (first | apply Kd.R_alloc | apply Kd.R_drewN | apply Kd.R_drew)); exact HO_6.out, upW HB⟩

-- left to its pairs: function 200 (slices_IndexFunc_int_int_200)

-- left to its pairs: function 173 (slices_ContainsFunc_int_int_173)

/-- the first place at which p holds, or -1 -/
def pidx {α : Type} (p : α → Bool) (l : List α) : Int := if l.any p then ((l.findIdx p : Nat) : Int) else -1
theorem pidx_hit {α : Type} (p : α → Bool) (l : List α) (k : Nat) (a : α) (hk : l[k]? = some a) (ha : p a = true) (h : ∀ j, j < k → ∀ b, l[j]? = some b → p b = false) : pidx p l = k := by
 have hlt : k < l.length := (List.getElem?_eq_some_iff.1 hk).1;have e : l[k] = a := (List.getElem?_eq_some_iff.1 hk).2;have h1 : l.any p = true := List.any_eq_true.2 ⟨a, by rw [← e]; exact List.getElem_mem hlt, ha⟩;unfold pidx;rw [if_pos h1];(congr 1);rw [List.findIdx_eq hlt];exact ⟨by rw [e]; exact ha, fun j hj => h j hj _ (List.getElem?_eq_getElem (by omega))⟩
theorem pidx_miss {α : Type} (p : α → Bool) (l : List α) (h : ∀ j, j < l.length → ∀ b, l[j]? = some b → p b = false) : pidx p l = -1 := by
 unfold pidx;rw [if_neg];intro hc;obtain ⟨a, ha, hp⟩ := List.any_eq_true.1 hc;obtain ⟨i, hi⟩ := List.getElem?_of_mem ha;have := h i (List.getElem?_eq_some_iff.1 hi).1 a hi;(rw [this] at hp; cases hp)

theorem pidx_any {α : Type} (p : α → Bool) (l : List α) : decide (0 ≤ pidx p l) = l.any p := by
 unfold pidx;cases h : l.any p
 ·rfl
 ·simp

/-! ### slices_IndexFunc_int_int_154: function 154 -/
set_option maxHeartbeats 8000000 in
theorem slices_IndexFunc_int_int_154.with (p : Int → Bool) (fv : Nat) (lb : Array Value) (A : Option Addr) (c : Nat) (l : List Int) (w : World) (hr : Kd.C (Kd.int .i64) w A l.length l)
  (eg : ∀ args w, (callFunc fv args).run Tryz.prog w = .ok (.enter fv args) w)
  (hp : ∀ (W : World) (t : Int), t ∈ l → Below w.heap.size w W → Calls Tryz.prog fv (#[.int .i64 t] ++ lb) W fun e w' => e = .returned (.bool (p t)) ∧ Below w.heap.size w w') :
  Calls Tryz.prog 154 #[.slice A l.length c, .func (.func fv) #[] lb] w fun e w' => e = .returned (.int .i64 (pidx p l)) ∧ Below w.heap.size w w' := by
 have hbig : l.length ≤ 9223372036854775807 := hr.2.1;have HP := Lib.hid hp;clear hp;go_enter Tryz.func154, Tryz.ntmps154;go_wp2;(go_loopg [5, 8] l.length (fun gg _ s8 wr => ∃ kk : Nat, kk ≤ l.length ∧ l.length - kk ≤ gg ∧ s8 = .int .i64 kk ∧ Aside (Below w.heap.size w wr) ∧ Aside (∀ j, j < kk → ∀ b, l[j]? = some b → p b = false)));(case atStart => exact ⟨0, Nat.zero_le _, by omega, rfl, Below.refl _ w, fun j hj => absurd hj (Nat.not_lt_zero _)⟩)
 case round =>
  obtain ⟨kk, hkk, hg, rfl, BW, HA⟩ := hrel;(by_cases hlt : kk < l.length)
  ·(have hltz : (kk : Int) < (l.length : Int) := by omega);obtain ⟨ad, rfl, hx0⟩ := Kd.at_int hr (kk : Int) (by omega) hltz;replace hx0 := (BW.out.cell (World.block_lt_of_cell? w _ hx0)).trans hx0;(have hm : rd l kk ∈ l := by unfold rd; simp [List.getD, hlt]);(have he : l[kk]? = some (rd l kk) := by unfold rd; simp [List.getD, hlt]);have hcall := HP.out wr (rd l kk) hm BW.out;generalize hy : rd l kk = y at hx0 hcall he;have HE := Lib.hid he;clear hy hm he;simp only [Int.toNat_natCast] at hx0
   cases hq : p y with
   | true =>
    rw [hq] at hcall;(have HQ := Lib.hid hq; clear hq);(go_wp2_with (go_at_fn fv; refine hcall.mono ?_; rintro e w' ⟨rfl, hb'⟩));go_ret;refine ⟨?_, hb'⟩;(rw [pidx_hit p l kk y HE.out HQ.out HA.out]; rfl)
   | false =>
    rw [hq] at hcall;(have HQ := Lib.hid hq; clear hq);(go_wp2_with (go_at_fn fv; refine hcall.mono ?_; rintro e w' ⟨rfl, hb'⟩));go_roundg (l.length - (kk + 1));(case measure => omega)
    case rel =>
     refine ⟨kk + 1, by omega, by omega, by go_num, hb', (show Aside _ from fun j hj b hb => ?_)⟩;(by_cases e : j = kk)
     ·subst e;(rw [HE.out] at hb; obtain rfl := Option.some.inj hb; exact HQ.out)
     ·exact HA.out j (by omega) b hb
  ·(have hltz : ¬ (kk : Int) < (l.length : Int) := by omega);(have : kk = l.length := by omega);subst this;go_wp2;go_ret;refine ⟨?_, BW.out⟩;(rw [pidx_miss p l HA.out]; rfl)

/-! ### slices_ContainsFunc_int_int_96: function 96 -/
set_option maxHeartbeats 8000000 in
theorem slices_ContainsFunc_int_int_96.with (p : Int → Bool) (fv : Nat) (lb : Array Value) (A : Option Addr) (c : Nat) (l : List Int) (w : World) (hr : Kd.C (Kd.int .i64) w A l.length l)
  (eg : ∀ args w, (callFunc fv args).run Tryz.prog w = .ok (.enter fv args) w)
  (hp : ∀ (W : World) (t : Int), t ∈ l → Below w.heap.size w W → Calls Tryz.prog fv (#[.int .i64 t] ++ lb) W fun e w' => e = .returned (.bool (p t)) ∧ Below w.heap.size w w') :
  Calls Tryz.prog 96 #[.slice A l.length c, .func (.func fv) #[] lb] w fun e w' => e = .returned (.bool (l.any p)) ∧ Below w.heap.size w w' := by
 have HP := Lib.hid hp;clear hp;have e0 : decide (0 ≤ pidx p l) = l.any p := pidx_any p l;generalize l.any p = b at e0 ⊢;have HE := Lib.hid e0;clear e0;go_enter Tryz.func96, Tryz.ntmps96;(go_wp2_with (go_at_call 154; refine (slices_IndexFunc_int_int_154.with p fv lb A c l _ hr eg HP.out).mono ?_; rintro e w' ⟨rfl, hb'⟩));go_ret;exact ⟨by rw [← HE.out]; rfl, hb'⟩

/-! ### impl_areWithin_1: function 194 -/
set_option maxHeartbeats 8000000 in
theorem impl_areWithin_1.calls (n : Int) (g1 : Nat) (lo : Int) (g2 : Nat) (hi : Int) (w : World) (h1 : w.heap[g1]? = some (.cells #[.int .i64 lo] 3 (0, 0))) (h2 : w.heap[g2]? = some (.cells #[.int .i64 hi] 3 (0, 0))) :
  Calls Tryz.prog 194 #[.int .i64 n, .pointer (some ⟨g1, 0, none⟩), .pointer (some ⟨g2, 0, none⟩)] w fun e w' => e = .returned (.bool (!(decide (lo ≤ n ∧ n ≤ hi)))) ∧ Below w.heap.size w w' := by
 have c1 : w.cell? ⟨g1, 0, none⟩ = some (.int .i64 lo) := (blk_cell h1 0).trans rfl;have c2 : w.cell? ⟨g2, 0, none⟩ = some (.int .i64 hi) := (blk_cell h2 0).trans rfl;clear h1 h2;obtain ⟨b, hb⟩ : ∃ b, b = decide (lo ≤ n ∧ n ≤ hi) := ⟨_, rfl⟩
 have hf : impl_within.f n lo hi = some b := by
  (rw [hb]; unfold impl_within.f);(by_cases h : lo ≤ n)
  ·(rw [if_pos h]; simp [h])
  ·(rw [if_neg h]; simp [h])
 have HF := Lib.hid hf;rw [← hb];clear hb hf;go_enter Tryz.func194, Tryz.ntmps194;(go_wp2_with (go_at_call 87; (with_reducible refine (impl_within.calls n lo hi b _ HF.out).mono ?_); rintro e w' ⟨rfl, ⟨nd, rfl⟩⟩));go_ret;exact ⟨rfl, by repeat (first | exact Below.refl _ _ | apply below_alloc | apply pw_below_drewN | apply below_drew1)⟩

/-! ### slices_ContainsFunc_int_int__impl_areWithin_1: the pair slices.ContainsFunc[[]int,int] -/
def slices_ContainsFunc_int_int__impl_areWithin_1.f (l : List Int) (lo hi : Int) : Option Bool := some (l.any fun n => !(decide (lo ≤ n ∧ n ≤ hi)))
theorem slices_ContainsFunc_int_int__impl_areWithin_1.calls (A0 : Option Addr) (c0 : Nat) (l0 : List Int) (g1 : Nat) (lo : Int) (g2 : Nat) (hi : Int) (r : Bool) (w : World) (hr0 : Kd.C (Kd.int .i64) w A0 l0.length l0) (hc0 : l0.length ≤ c0)
  (h1 : w.heap[g1]? = some (.cells #[.int .i64 lo] 3 (0, 0))) (h2 : w.heap[g2]? = some (.cells #[.int .i64 hi] 3 (0, 0))) (h : slices_ContainsFunc_int_int__impl_areWithin_1.f l0 lo hi = some r) :
  Calls Tryz.prog 96 #[.slice A0 l0.length c0, .func (.func 194) #[] #[.pointer (some ⟨g1, 0, none⟩), .pointer (some ⟨g2, 0, none⟩)]] w fun e w' => e = .returned (.bool r) ∧ Below w.heap.size w w' := by
 obtain rfl := Option.some.inj h;(refine slices_ContainsFunc_int_int_96.with _ 194 _ A0 c0 l0 w hr0 (fun args w => enters_ Tryz.func194 (by kernel_rfl) rfl args w) fun W t _ hb => ?_);(exact (impl_areWithin_1.calls t g1 lo g2 hi W (blk_below h1 hb) (blk_below h2 hb)).mono fun e w' ⟨he, hb'⟩ => ⟨he, below_step hb hb'⟩)

/-! ### impl_areWithin: function 153 -/
def impl_areWithin.f (l0 : List Int) (a1 : Int) (a2 : Int) : Option (Bool) := (slices_ContainsFunc_int_int__impl_areWithin_1.f l0 a1 a2).bind fun t273 => (some (!t273))
set_option maxHeartbeats 8000000 in
set_option maxRecDepth 100000 in
theorem impl_areWithin.calls (A0 : Option Addr) (c0 : Nat) (l0 : List Int) (a1 : Int) (a2 : Int) (r : Bool) (w : World) (hr0 : Kd.C (Kd.int .i64) w A0 l0.length l0) (hc0 : l0.length ≤ c0) (h : impl_areWithin.f l0 a1 a2 = some r) :
  Calls Tryz.prog 153 #[.slice A0 l0.length c0, .int .i64 a1, .int .i64 a2] w fun e w' => e = .returned (.bool r) ∧ Below w.heap.size w w' := by
 (have hmf : ∀ (fn : Fn) (first cap : Array Value) (w : World), (Instr.makeFunc fn first cap).run Tryz.prog w = .ok (.func fn first cap) w := fun _ _ _ _ => rfl);have HR0 := Aside0.mk hr0;have HC0 := Aside0.mk hc0;clear hr0 hc0;have HB := Aside0.mk (Below.refl w.heap.size w);have H : ((slices_ContainsFunc_int_int__impl_areWithin_1.f l0 a1 a2).bind fun t273 => (some (!t273))) = some r := h;clear h;replace H := Option.bind_eq_some_iff.mp H;obtain ⟨t273, A40, H⟩ := H;replace H : (some (!t273)) = some r := H;have A4 := Aside0.mk A40;clear A40;obtain rfl := Option.some.inj H;go_enter Tryz.func153, Tryz.ntmps153;(go_wp2_with (first | ((with_reducible refine gate_dst (N := 4) rfl ?_); refine boxE 4 (#[.int .i64 a1]) 3 ?_; intro gb271 hg w5 hbox hb; have BK271 := Aside0.mk (hbox);have GW271 := Aside0.mk (gz hg HB);have GE271 := Aside0.mk (gz hg HB);replace HB := Aside0.mk (below_step (upW HB) hb); clear hb hbox hg) | ((with_reducible refine gate_dst (N := 5) rfl ?_); refine boxE 5 (#[.int .i64 a2]) 3 ?_; intro gb272 hg w6 hbox hb; have BK272 := Aside0.mk (hbox);have GW272 := Aside0.mk (gz hg HB);have GE272 := Aside0.mk (gz hg HB);replace HB := Aside0.mk (below_step (upW HB) hb);have NB271_272 := Aside0.mk (gn hg BK271);have NB272_271 := Aside0.mk ((by rw [hg]; exact Nat.ne_of_gt (blk_lt (upK BK271)) : gb272 ≠ gb271));replace BK271 := Aside0.mk (blk_below (upK BK271) hb); clear hb hbox hg) | ((with_reducible refine gate_callee (f := 96) rfl ?_); refine goesL_ (some 9) rfl rfl Tryz.func96 (by kernel_rfl) rfl #[.slice A0 l0.length c0, .func (.func 194) #[] #[.pointer (some ⟨gb271, 0, none⟩), .pointer (some ⟨gb272, 0, none⟩)]] rfl itp ?_; (with_reducible refine (slices_ContainsFunc_int_int__impl_areWithin_1.calls _ _ l0 gb271 a1 gb272 a2 t273 _ ?side1 ?side2 ?side3 ?side4 A4.out).mono ?_); (case side1 => exact upC (Kd.C_below HR0.out HB.out)); (case side2 => exact HC0.out); (case side3 => exact (upK BK271)); (case side4 => exact (upK BK272)); rintro e w7 ⟨rfl, hb⟩; refine ⟨_, rfl, ?_⟩; replace BK271 := Aside0.mk (blk_below (upK BK271) hb);replace BK272 := Aside0.mk (blk_below (upK BK272) hb);replace HB := Aside0.mk (below_step (upW HB) hb); (try clear hb))));go_ret;exact ⟨eqv, upW HB⟩

/-! ### impl_CutOfCode_1: function 174 -/
def impl_CutOfCode_1.f (l0 : List Int) : Option (Bool) := (impl_areWithin.f l0 1 500).bind fun t274 => (if t274 = true then (some (decide ((l0.length : Int) > 30))) else (some true))
set_option maxHeartbeats 8000000 in
set_option maxRecDepth 100000 in
theorem impl_CutOfCode_1.calls (A0 : Option Addr) (c0 : Nat) (l0 : List Int) (r : Bool) (w : World) (hr0 : Kd.C (Kd.int .i64) w A0 l0.length l0) (hc0 : l0.length ≤ c0) (h : impl_CutOfCode_1.f l0 = some r) :
  Calls Tryz.prog 174 #[.slice A0 l0.length c0] w fun e w' => e = .returned (.bool r) ∧ Below w.heap.size w w' := by
 have HR0 := Aside0.mk hr0;have HC0 := Aside0.mk hc0;clear hr0 hc0;have HB := Aside0.mk (Below.refl w.heap.size w);have H : ((impl_areWithin.f l0 1 500).bind fun t274 => (if t274 = true then (some (decide ((l0.length : Int) > 30))) else (some true))) = some r := h;clear h;replace H := Option.bind_eq_some_iff.mp H;obtain ⟨t274, A20, H⟩ := H;replace H : (if t274 = true then (some (decide ((l0.length : Int) > 30))) else (some true)) = some r := H;have A2 := Aside0.mk A20;clear A20;(by_cases c3 : t274 = true)
 ·subst c3;(have H1 : (some (decide ((l0.length : Int) > 30))) = some r := by rw [if_pos rfl] at H; exact H);clear H;have H := H1;clear H1;obtain rfl := Option.some.inj H;go_enter Tryz.func174, Tryz.ntmps174;(go_wp2_with (first | ((with_reducible refine gate_callee (f := 153) rfl ?_); refine goesL_ (some 4) rfl rfl Tryz.func153 (by kernel_rfl) rfl #[.slice A0 l0.length c0, .int .i64 1, .int .i64 500] rfl itp ?_; (with_reducible refine (impl_areWithin.calls _ _ l0 1 500 true _ ?side1 ?side2 A2.out).mono ?_); (case side1 => exact upC HR0.out); (case side2 => exact HC0.out); rintro e w4 ⟨rfl, hb⟩; refine ⟨_, rfl, ?_⟩; replace HB := Aside0.mk (below_step (upW HB) hb); (try clear hb))));go_ret;exact ⟨eqv, upW HB⟩
 ·replace c3 := Bool.eq_false_iff.mpr c3;subst c3;(have H1 : (some true) = some r := by rw [if_neg (show ¬ (false = true) by decide)] at H; exact H);clear H;have H := H1;clear H1;obtain rfl := Option.some.inj H;go_enter Tryz.func174, Tryz.ntmps174;(go_wp2_with (first | ((with_reducible refine gate_callee (f := 153) rfl ?_); refine goesL_ (some 4) rfl rfl Tryz.func153 (by kernel_rfl) rfl #[.slice A0 l0.length c0, .int .i64 1, .int .i64 500] rfl itp ?_; (with_reducible refine (impl_areWithin.calls _ _ l0 1 500 false _ ?side1 ?side2 A2.out).mono ?_); (case side1 => exact upC HR0.out); (case side2 => exact HC0.out); rintro e w5 ⟨rfl, hb⟩; refine ⟨_, rfl, ?_⟩; replace HB := Aside0.mk (below_step (upW HB) hb); (try clear hb))));go_ret;exact ⟨eqv, upW HB⟩

/-! ### impl_isWide: function 115 -/
def impl_isWide.f (a0 : Int) : Option (Bool) := (impl_within.f a0 1 500).bind fun t275 => (some t275)
set_option maxHeartbeats 8000000 in
set_option maxRecDepth 100000 in
theorem impl_isWide.calls (a0 : Int) (r : Bool) (w : World) (h : impl_isWide.f a0 = some r) :
  Calls Tryz.prog 115 #[.int .i64 a0] w fun e w' => e = .returned (.bool r) ∧ Drawn0 w w' := by
 have H : ((impl_within.f a0 1 500).bind fun t275 => (some t275)) = some r := h;clear h;replace H := Option.bind_eq_some_iff.mp H;obtain ⟨t275, A20, H⟩ := H;replace H : (some t275) = some r := H;have A2 := Aside0.mk A20;clear A20;obtain rfl := Option.some.inj H;go_enter Tryz.func115, Tryz.ntmps115;(go_wp2_with (first | ((with_reducible refine gate_callee (f := 87) rfl ?_); refine goesL_ (some 4) rfl rfl Tryz.func87 (by kernel_rfl) rfl #[.int .i64 a0, .int .i64 1, .int .i64 500] rfl itp ?_; (with_reducible refine (impl_within.calls a0 1 500 t275 _ A2.out).mono ?_); rintro e w' ⟨rfl, ⟨nd, rfl⟩⟩; refine ⟨_, rfl, ?_⟩)));go_ret;exact ⟨eqw, dz⟩

/-! ### slices_Max_int_int: function 148 -/
def slices_Max_int_int.l0 : Nat → List Int → Int → Int → Option (Int)
 | 0, _, _, _ => none
 | k + 1, x0, x3, x4 => if x4 < (x0.length : Int) then (if 0 ≤ x4 then (slices_Max_int_int.l0 k x0 (mx x3 (rd x0 x4)) (wrap64 (x4 + 1))) else (none)) else (some x3)
def slices_Max_int_int.f (k : Nat) (l0 : List Int) : Option (Int) := if (l0.length : Int) < 1 then (none) else (if 0 < (l0.length : Int) then (slices_Max_int_int.l0 k l0 (rd l0 0) 1) else (none))
set_option maxHeartbeats 8000000 in
set_option maxRecDepth 100000 in
theorem slices_Max_int_int.calls (k : Nat) (A0 : Option Addr) (c0 : Nat) (l0 : List Int) (r : Int) (w : World) (hr0 : Kd.C (Kd.int .i64) w A0 l0.length l0) (hc0 : l0.length ≤ c0) (h : slices_Max_int_int.f k l0 = some r) :
  Calls Tryz.prog 148 #[.slice A0 l0.length c0] w fun e w' => e = .returned (.int .i64 r) ∧ Below w.heap.size w w' := by
 have HR0 := Aside0.mk hr0;have HC0 := Aside0.mk hc0;clear hr0 hc0;have HB := Aside0.mk (Below.refl w.heap.size w);have H : (if (l0.length : Int) < 1 then (none) else (if 0 < (l0.length : Int) then (slices_Max_int_int.l0 k l0 (rd l0 0) 1) else (none))) = some r := h;clear h;(by_cases c2 : (l0.length : Int) < 1)
 ·rw [if_pos c2] at H;exact absurd H (by simp)
 ·rw [if_neg c2] at H;have c2b0 := decide_eq_false c2;have c2b1 : decide (l0.length < 1) = false := decide_eq_false (by omega);clear c2;(by_cases c3 : 0 < (l0.length : Int))
  ·rw [if_pos c3] at H;have c3b0 := decide_eq_true c3;have c3b1 : decide (0 < l0.length) = true := decide_eq_true (by omega);clear c3;have H' := Aside0.mk H;clear H;have p276 : 0 ≤ (0 : Int) := (by omega);have q276 : 0 < (l0.length : Int) := oda;obtain ⟨ad276, e276, hx276_0⟩ := Kd.at_int HR0.out 0 p276 q276;cases e276;have qi276 : (0 < l0.length) = True := eq_true (by omega);(try rw [show ((0 : Int)).toNat = 0 from rfl] at hx276_0);(try rw [Addr.add_zero'] at hx276_0);replace p276 := eq_true p276;replace q276 := eq_true q276;go_enter Tryz.func148, Tryz.ntmps148;go_wp2;(go_loopg [3, 4] k (fun kq v3 v4 w' => ∃ (x3_1 : Int) (x4_1 : Int), v3 = .int .i64 x3_1 ∧ v4 = .int .i64 x4_1 ∧ Aside0 (slices_Max_int_int.l0 kq l0 x3_1 x4_1 = some r) ∧ Aside0 (kq ≤ k) ∧ Aside0 (Below w.heap.size w w')));(case atStart => exact ⟨(rd l0 0), (1), (eqw), (eqw), H', ⟨Nat.le_refl _⟩, ⟨upW HB⟩⟩)
   case round =>
    clear H';(try clear c2b0 c2b1 c3b0 c3b1 hx276_0 p276 q276);obtain ⟨x3_1, x4_1, rfl, rfl, HA, HK1, HB⟩ := hrel
    cases gk with
    | zero => exact absurd HA.out (by simp [slices_Max_int_int.l0])
    | succ k1 =>
     have H := HA.out;clear HA;simp only [slices_Max_int_int.l0] at H;(by_cases c4 : x4_1 < (l0.length : Int))
     ·rw [if_pos c4] at H;have c4b0 := decide_eq_true c4;clear c4;(by_cases c5 : 0 ≤ x4_1)
      ·rw [if_pos c5] at H;have c5b0 := decide_eq_true c5;clear c5;obtain ⟨ji6, hji6⟩ : ∃ j_ : Int, (mx x3_1 (rd l0 x4_1)) = j_ := ⟨_, rfl⟩;(replace H : (slices_Max_int_int.l0 k1 l0 ji6 (wrap64 (x4_1 + 1))) = some r := by first | (rw [hji6] at H; exact H) | (simp only [hji6] at H ⊢; exact H));have hji6_ : (if x3_1 < (rd l0 x4_1) then (rd l0 x4_1) else x3_1) = ji6 := hji6;have H' := Aside0.mk H;clear H;have p277 : 0 ≤ (x4_1 : Int) := oda;have q277 : x4_1 < (l0.length : Int) := oda;obtain ⟨ad277, e277, hx277_0⟩ := Kd.at_int HR0.out x4_1 p277 q277;obtain rfl : ad276 = ad277 := (by injection e277);replace hx277_0 := cb HB hx277_0;replace p277 := eq_true p277;replace q277 := eq_true q277;go_wp2;go_roundg k1;(case measure => have := HK1.out; omega);(case rel => exact ⟨(ji6), (wrap64 (x4_1 + 1)), (by first | rfl | (simp; done) | (simp only [← hji6] <;> (first | rfl | simp)) | (simp [*]; done)), (eqw), H', ⟨by have := HK1.out; omega⟩, ⟨upW HB⟩⟩)
      ·rw [if_neg c5] at H;exact absurd H (by simp)
     ·rw [if_neg c4] at H;have c4b0 := decide_eq_false c4;clear c4;obtain rfl := Option.some.inj H;go_wp2;go_ret;exact ⟨eqv, upW HB⟩
  ·rw [if_neg c3] at H;exact absurd H (by simp)

/-! ### slices_Min_int_int: function 201 -/
def slices_Min_int_int.l0 : Nat → List Int → Int → Int → Option (Int)
 | 0, _, _, _ => none
 | k + 1, x0, x3, x4 => if x4 < (x0.length : Int) then (if 0 ≤ x4 then (slices_Min_int_int.l0 k x0 (mn x3 (rd x0 x4)) (wrap64 (x4 + 1))) else (none)) else (some x3)
def slices_Min_int_int.f (k : Nat) (l0 : List Int) : Option (Int) := if (l0.length : Int) < 1 then (none) else (if 0 < (l0.length : Int) then (slices_Min_int_int.l0 k l0 (rd l0 0) 1) else (none))
set_option maxHeartbeats 8000000 in
set_option maxRecDepth 100000 in
theorem slices_Min_int_int.calls (k : Nat) (A0 : Option Addr) (c0 : Nat) (l0 : List Int) (r : Int) (w : World) (hr0 : Kd.C (Kd.int .i64) w A0 l0.length l0) (hc0 : l0.length ≤ c0) (h : slices_Min_int_int.f k l0 = some r) :
  Calls Tryz.prog 201 #[.slice A0 l0.length c0] w fun e w' => e = .returned (.int .i64 r) ∧ Below w.heap.size w w' := by
 have HR0 := Aside0.mk hr0;have HC0 := Aside0.mk hc0;clear hr0 hc0;have HB := Aside0.mk (Below.refl w.heap.size w);have H : (if (l0.length : Int) < 1 then (none) else (if 0 < (l0.length : Int) then (slices_Min_int_int.l0 k l0 (rd l0 0) 1) else (none))) = some r := h;clear h;(by_cases c2 : (l0.length : Int) < 1)
 ·rw [if_pos c2] at H;exact absurd H (by simp)
 ·rw [if_neg c2] at H;have c2b0 := decide_eq_false c2;have c2b1 : decide (l0.length < 1) = false := decide_eq_false (by omega);clear c2;(by_cases c3 : 0 < (l0.length : Int))
  ·rw [if_pos c3] at H;have c3b0 := decide_eq_true c3;have c3b1 : decide (0 < l0.length) = true := decide_eq_true (by omega);clear c3;have H' := Aside0.mk H;clear H;have p278 : 0 ≤ (0 : Int) := (by omega);have q278 : 0 < (l0.length : Int) := oda;obtain ⟨ad278, e278, hx278_0⟩ := Kd.at_int HR0.out 0 p278 q278;cases e278;have qi278 : (0 < l0.length) = True := eq_true (by omega);(try rw [show ((0 : Int)).toNat = 0 from rfl] at hx278_0);(try rw [Addr.add_zero'] at hx278_0);replace p278 := eq_true p278;replace q278 := eq_true q278;go_enter Tryz.func201, Tryz.ntmps201;go_wp2;(go_loopg [3, 4] k (fun kq v3 v4 w' => ∃ (x3_1 : Int) (x4_1 : Int), v3 = .int .i64 x3_1 ∧ v4 = .int .i64 x4_1 ∧ Aside0 (slices_Min_int_int.l0 kq l0 x3_1 x4_1 = some r) ∧ Aside0 (kq ≤ k) ∧ Aside0 (Below w.heap.size w w')));(case atStart => exact ⟨(rd l0 0), (1), (eqw), (eqw), H', ⟨Nat.le_refl _⟩, ⟨upW HB⟩⟩)
   case round =>
    clear H';(try clear c2b0 c2b1 c3b0 c3b1 hx278_0 p278 q278);obtain ⟨x3_1, x4_1, rfl, rfl, HA, HK1, HB⟩ := hrel
    cases gk with
    | zero => exact absurd HA.out (by simp [slices_Min_int_int.l0])
    | succ k1 =>
     have H := HA.out;clear HA;simp only [slices_Min_int_int.l0] at H;(by_cases c4 : x4_1 < (l0.length : Int))
     ·rw [if_pos c4] at H;have c4b0 := decide_eq_true c4;clear c4;(by_cases c5 : 0 ≤ x4_1)
      ·rw [if_pos c5] at H;have c5b0 := decide_eq_true c5;clear c5;obtain ⟨ji6, hji6⟩ : ∃ j_ : Int, (mn x3_1 (rd l0 x4_1)) = j_ := ⟨_, rfl⟩;(replace H : (slices_Min_int_int.l0 k1 l0 ji6 (wrap64 (x4_1 + 1))) = some r := by first | (rw [hji6] at H; exact H) | (simp only [hji6] at H ⊢; exact H));have hji6_ : (if (rd l0 x4_1) < x3_1 then (rd l0 x4_1) else x3_1) = ji6 := hji6;have H' := Aside0.mk H;clear H;have p279 : 0 ≤ (x4_1 : Int) := oda;have q279 : x4_1 < (l0.length : Int) := oda;obtain ⟨ad279, e279, hx279_0⟩ := Kd.at_int HR0.out x4_1 p279 q279;obtain rfl : ad278 = ad279 := (by injection e279);replace hx279_0 := cb HB hx279_0;replace p279 := eq_true p279;replace q279 := eq_true q279;go_wp2;go_roundg k1;(case measure => have := HK1.out; omega);(case rel => exact ⟨(ji6), (wrap64 (x4_1 + 1)), (by first | rfl | (simp; done) | (simp only [← hji6] <;> (first | rfl | simp)) | (simp [*]; done)), (eqw), H', ⟨by have := HK1.out; omega⟩, ⟨upW HB⟩⟩)
      ·rw [if_neg c5] at H;exact absurd H (by simp)
     ·rw [if_neg c4] at H;have c4b0 := decide_eq_false c4;clear c4;obtain rfl := Option.some.inj H;go_wp2;go_ret;exact ⟨eqv, upW HB⟩
  ·rw [if_neg c3] at H;exact absurd H (by simp)

/-! ### slices_Index_int_int: function 202 -/
def slices_Index_int_int.l0 : Nat → List Int → Int → Int → Int → Option (Int)
 | 0, _, _, _, _ => none
 | k + 1, x0, x1, x7, x8 => if x8 < x7 then (if 0 ≤ x8 then (if x8 < (x0.length : Int) then (if x1 = (rd x0 x8) then (some x8) else (slices_Index_int_int.l0 k x0 x1 x7 (wrap64 (x8 + 1)))) else (none)) else (none)) else (some (-1))
def slices_Index_int_int.f (k : Nat) (l0 : List Int) (a1 : Int) : Option (Int) := slices_Index_int_int.l0 k l0 a1 (l0.length : Int) 0
set_option maxHeartbeats 8000000 in
set_option maxRecDepth 100000 in
theorem slices_Index_int_int.calls (k : Nat) (A0 : Option Addr) (c0 : Nat) (l0 : List Int) (a1 : Int) (r : Int) (w : World) (hr0 : Kd.C (Kd.int .i64) w A0 l0.length l0) (hc0 : l0.length ≤ c0) (h : slices_Index_int_int.f k l0 a1 = some r) :
  Calls Tryz.prog 202 #[.slice A0 l0.length c0, .int .i64 a1] w fun e w' => e = .returned (.int .i64 r) ∧ Drawn0 w w' := by
 have HR0 := Aside0.mk hr0;have HC0 := Aside0.mk hc0;clear hr0 hc0;have H : (slices_Index_int_int.l0 k l0 a1 (l0.length : Int) 0) = some r := h;clear h;have H' := Aside0.mk H;clear H;go_enter Tryz.func202, Tryz.ntmps202;go_wp2;(go_loopg [8] k (fun kq v8 w' => ∃ (x8_1 : Int), v8 = .int .i64 x8_1 ∧ Aside0 (slices_Index_int_int.l0 kq l0 a1 (l0.length : Int) x8_1 = some r) ∧ Aside0 (kq ≤ k) ∧ Drawn0 w w'));(case atStart => exact ⟨(0), (eqw), H', ⟨Nat.le_refl _⟩, dz⟩)
 case round =>
  clear H';obtain ⟨x8_1, rfl, HA, HK1, ⟨m1, rfl⟩⟩ := hrel
  cases gk with
  | zero => exact absurd HA.out (by simp [slices_Index_int_int.l0])
  | succ k1 =>
   have H := HA.out;clear HA;simp only [slices_Index_int_int.l0] at H;(by_cases c3 : x8_1 < (l0.length : Int))
   ·rw [if_pos c3] at H;have c3b0 := decide_eq_true c3;clear c3;(by_cases c4 : 0 ≤ x8_1)
    ·rw [if_pos c4] at H;have c4b0 := decide_eq_true c4;clear c4;(by_cases c5 : x8_1 < (l0.length : Int))
     ·rw [if_pos c5] at H;have c5b0 := decide_eq_true c5;clear c5;(by_cases c6 : a1 = (rd l0 x8_1))
      ·rw [if_pos c6] at H;have c6b0 : (a1 == (rd l0 x8_1)) = true := beq_iff_eq.mpr c6;have c6b1 : (a1 != (rd l0 x8_1)) = false := bne_eq_false_iff_eq.mpr c6;clear c6;obtain rfl := Option.some.inj H;have p280 : 0 ≤ (x8_1 : Int) := oda;have q280 : x8_1 < (l0.length : Int) := oda;obtain ⟨ad280, e280, hx280_0⟩ := Kd.at_int HR0.out x8_1 p280 q280;cases e280;replace p280 := eq_true p280;replace q280 := eq_true q280;go_wp2;go_ret;exact ⟨eqw, dz⟩
      ·rw [if_neg c6] at H;have c6b0 : (a1 == (rd l0 x8_1)) = false := beq_eq_false_iff_ne.mpr c6;have c6b1 : (a1 != (rd l0 x8_1)) = true := bne_iff_ne.mpr c6;have H' := Aside0.mk H;clear H;have p280 : 0 ≤ (x8_1 : Int) := oda;have q280 : x8_1 < (l0.length : Int) := oda;obtain ⟨ad280, e280, hx280_0⟩ := Kd.at_int HR0.out x8_1 p280 q280;cases e280;replace p280 := eq_true p280;replace q280 := eq_true q280;go_wp2;go_roundg k1;(case measure => have := HK1.out; omega);(case rel => exact ⟨(wrap64 (x8_1 + 1)), (eqw), H', ⟨by have := HK1.out; omega⟩, dz⟩)
     ·rw [if_neg c5] at H;exact absurd H (by simp)
    ·rw [if_neg c4] at H;exact absurd H (by simp)
   ·rw [if_neg c3] at H;have c3b0 := decide_eq_false c3;clear c3;obtain rfl := Option.some.inj H;go_wp2;go_ret;exact ⟨eqw, dz⟩

/-! ### impl_comparePlaces: function 116 -/
def impl_comparePlaces.f (a0_0 : Int) (a0_1 : Int) (a0_2 : Int) (a1_0 : Int) (a1_1 : Int) (a1_2 : Int) : Option (Int) := if a0_1 = a1_1 then (some (wrap64 (a0_0 - a1_0))) else (some (wrap64 (a0_1 - a1_1)))
set_option maxHeartbeats 8000000 in
set_option maxRecDepth 100000 in
theorem impl_comparePlaces.calls (a0_0 : Int) (a0_1 : Int) (a0_2 : Int) (a1_0 : Int) (a1_1 : Int) (a1_2 : Int) (r : Int) (w : World) (h : impl_comparePlaces.f a0_0 a0_1 a0_2 a1_0 a1_1 a1_2 = some r) :
  Calls Tryz.prog 116 #[.agg #[.int .i64 a0_0, .int .i64 a0_1, .int .i64 a0_2], .agg #[.int .i64 a1_0, .int .i64 a1_1, .int .i64 a1_2]] w fun e w' => e = .returned (.int .i64 r) ∧ Below w.heap.size w w' := by
 have hu65 := Tryz.underlying65;have HB := Aside0.mk (Below.refl w.heap.size w);have H : (if a0_1 = a1_1 then (some (wrap64 (a0_0 - a1_0))) else (some (wrap64 (a0_1 - a1_1)))) = some r := h;clear h;(by_cases c3 : a0_1 = a1_1)
 ·rw [if_pos c3] at H;have c3b0 : (a0_1 == a1_1) = true := beq_iff_eq.mpr c3;have c3b1 : (a0_1 != a1_1) = false := bne_eq_false_iff_eq.mpr c3;clear c3;obtain rfl := Option.some.inj H;go_enter Tryz.func116, Tryz.ntmps116;(go_wp2_with (first | ((with_reducible refine gate_dst (N := 2) rfl ?_); refine boxE 2 (#[.int .i64 a0_0, .int .i64 a0_1, .int .i64 a0_2]) 65 ?_; intro gb281 hg w4 hbox hb; have BK281 := Aside0.mk (hbox);have GW281 := Aside0.mk (gz hg HB);have GE281 := Aside0.mk (gz hg HB);replace HB := Aside0.mk (below_step (upW HB) hb); clear hb hbox hg) | ((with_reducible refine gate_dst (N := 3) rfl ?_); refine boxE 3 (#[.int .i64 a1_0, .int .i64 a1_1, .int .i64 a1_2]) 65 ?_; intro gb282 hg w5 hbox hb; have BK282 := Aside0.mk (hbox);have GW282 := Aside0.mk (gz hg HB);have GE282 := Aside0.mk (gz hg HB);replace HB := Aside0.mk (below_step (upW HB) hb);have NB281_282 := Aside0.mk (gn hg BK281);have NB282_281 := Aside0.mk ((by rw [hg]; exact Nat.ne_of_gt (blk_lt (upK BK281)) : gb282 ≠ gb281));replace BK281 := Aside0.mk (blk_below (upK BK281) hb); clear hb hbox hg; have hnb6 := NB281_282.out; have hnc6 := NB282_281.out; obtain ⟨hcz7_0, hcz7_1, hcz7_2, hfz7_0, hfz7_1, hfz7_2⟩ := cz3 BK281 (.int .i64 a0_0) (.int .i64 a0_1) (.int .i64 a0_2); obtain ⟨hcz8_0, hcz8_1, hcz8_2, hfz8_0, hfz8_1, hfz8_2⟩ := cz3 BK282 (.int .i64 a1_0) (.int .i64 a1_1) (.int .i64 a1_2))));go_ret;exact ⟨eqv, upW HB⟩
 ·rw [if_neg c3] at H;have c3b0 : (a0_1 == a1_1) = false := beq_eq_false_iff_ne.mpr c3;have c3b1 : (a0_1 != a1_1) = true := bne_iff_ne.mpr c3;obtain rfl := Option.some.inj H;go_enter Tryz.func116, Tryz.ntmps116;(go_wp2_with (first | ((with_reducible refine gate_dst (N := 2) rfl ?_); refine boxE 2 (#[.int .i64 a0_0, .int .i64 a0_1, .int .i64 a0_2]) 65 ?_; intro gb281 hg w9 hbox hb; have BK281 := Aside0.mk (hbox);have GW281 := Aside0.mk (gz hg HB);have GE281 := Aside0.mk (gz hg HB);replace HB := Aside0.mk (below_step (upW HB) hb); clear hb hbox hg) | ((with_reducible refine gate_dst (N := 3) rfl ?_); refine boxE 3 (#[.int .i64 a1_0, .int .i64 a1_1, .int .i64 a1_2]) 65 ?_; intro gb282 hg w10 hbox hb; have BK282 := Aside0.mk (hbox);have GW282 := Aside0.mk (gz hg HB);have GE282 := Aside0.mk (gz hg HB);replace HB := Aside0.mk (below_step (upW HB) hb);have NB281_282 := Aside0.mk (gn hg BK281);have NB282_281 := Aside0.mk ((by rw [hg]; exact Nat.ne_of_gt (blk_lt (upK BK281)) : gb282 ≠ gb281));replace BK281 := Aside0.mk (blk_below (upK BK281) hb); clear hb hbox hg; have hnb11 := NB281_282.out; have hnc11 := NB282_281.out; obtain ⟨hcz12_0, hcz12_1, hcz12_2, hfz12_0, hfz12_1, hfz12_2⟩ := cz3 BK281 (.int .i64 a0_0) (.int .i64 a0_1) (.int .i64 a0_2); obtain ⟨hcz13_0, hcz13_1, hcz13_2, hfz13_0, hfz13_1, hfz13_2⟩ := cz3 BK282 (.int .i64 a1_0) (.int .i64 a1_1) (.int .i64 a1_2))));go_ret;exact ⟨eqv, upW HB⟩

/-! ### impl_Square_171: function 171 -/
set_option maxHeartbeats 8000000 in
theorem impl_Square_171.with (p : S65 → Bool) (fv : Nat) (lb : Array Value) (A : Option Addr) (c : Nat) (l : List S65) (w : World) (hr : Kd.C k65 w A l.length l)
  (eg : ∀ args w, (callFunc fv args).run Tryz.prog w = .ok (.enter fv args) w)
  (hp : ∀ (W : World) (t : S65), t ∈ l → Below w.heap.size w W → Calls Tryz.prog fv (#[.agg #[.int .i64 t.f0, .int .i64 t.f1, .int .i64 t.f2]] ++ lb) W fun e w' => e = .returned (.bool (p t)) ∧ Below w.heap.size w w') :
  Calls Tryz.prog 171 #[.slice A l.length c, .func (.func fv) #[] lb] w fun e w' => e = .returned (.int .i64 (pidx p l)) ∧ Below w.heap.size w w' := by
 have hu65 := Tryz.underlying65;have hbig : l.length ≤ 9223372036854775807 := hr.2.1;have HP := Lib.hid hp;clear hp;go_enter Tryz.func171, Tryz.ntmps171;go_wp2;(go_loopg [5, 8] l.length (fun gg _ s8 wr => ∃ kk : Nat, kk ≤ l.length ∧ l.length - kk ≤ gg ∧ s8 = .int .i64 kk ∧ Aside (Below w.heap.size w wr) ∧ Aside (∀ j, j < kk → ∀ b, l[j]? = some b → p b = false)));(case atStart => exact ⟨0, Nat.zero_le _, by omega, rfl, Below.refl _ w, fun j hj => absurd hj (Nat.not_lt_zero _)⟩)
 case round =>
  obtain ⟨kk, hkk, hg, rfl, BW, HA⟩ := hrel;(by_cases hlt : kk < l.length)
  ·(have hltz : (kk : Int) < (l.length : Int) := by omega);obtain ⟨ad, rfl, hx0, hx1, hx2⟩ := at_T65 hr (kk : Int) (by omega) hltz;replace hx0 := (BW.out.cell (World.block_lt_of_cell? w _ hx0)).trans hx0;replace hx1 := (BW.out.cell (World.block_lt_of_cell? w _ hx1)).trans hx1;replace hx2 := (BW.out.cell (World.block_lt_of_cell? w _ hx2)).trans hx2;(have hm : rd_T65 l kk ∈ l := by unfold rd_T65; simp [List.getD, hlt]);(have he : l[kk]? = some (rd_T65 l kk) := by unfold rd_T65; simp [List.getD, hlt]);have hcall := HP.out wr (rd_T65 l kk) hm BW.out;generalize hy : rd_T65 l kk = y at hx0 hx1 hx2 hcall he;have HE := Lib.hid he;clear hy hm he;simp only [Int.toNat_natCast] at hx0 hx1 hx2
   cases hq : p y with
   | true =>
    rw [hq] at hcall;(have HQ := Lib.hid hq; clear hq);(go_wp2_with (go_at_fn fv; refine hcall.mono ?_; rintro e w' ⟨rfl, hb'⟩));go_ret;refine ⟨?_, hb'⟩;(rw [pidx_hit p l kk y HE.out HQ.out HA.out]; rfl)
   | false =>
    rw [hq] at hcall;(have HQ := Lib.hid hq; clear hq);(go_wp2_with (go_at_fn fv; refine hcall.mono ?_; rintro e w' ⟨rfl, hb'⟩));go_roundg (l.length - (kk + 1));(case measure => omega)
    case rel =>
     refine ⟨kk + 1, by omega, by omega, by go_num, hb', (show Aside _ from fun j hj b hb => ?_)⟩;(by_cases e : j = kk)
     ·subst e;(rw [HE.out] at hb; obtain rfl := Option.some.inj hb; exact HQ.out)
     ·exact HA.out j (by omega) b hb
  ·(have hltz : ¬ (kk : Int) < (l.length : Int) := by omega);(have : kk = l.length := by omega);subst this;go_wp2;go_ret;refine ⟨?_, BW.out⟩;(rw [pidx_miss p l HA.out]; rfl)

/-! ### impl_Square_117: function 117 -/
set_option maxHeartbeats 8000000 in
theorem impl_Square_117.with (p : S65 → Bool) (fv : Nat) (lb : Array Value) (A : Option Addr) (c : Nat) (l : List S65) (w : World) (hr : Kd.C k65 w A l.length l)
  (eg : ∀ args w, (callFunc fv args).run Tryz.prog w = .ok (.enter fv args) w)
  (hp : ∀ (W : World) (t : S65), t ∈ l → Below w.heap.size w W → Calls Tryz.prog fv (#[.agg #[.int .i64 t.f0, .int .i64 t.f1, .int .i64 t.f2]] ++ lb) W fun e w' => e = .returned (.bool (p t)) ∧ Below w.heap.size w w') :
  Calls Tryz.prog 117 #[.slice A l.length c, .func (.func fv) #[] lb] w fun e w' => e = .returned (.bool (l.any p)) ∧ Below w.heap.size w w' := by
 have HP := Lib.hid hp;clear hp;have e0 : decide (0 ≤ pidx p l) = l.any p := pidx_any p l;generalize l.any p = b at e0 ⊢;have HE := Lib.hid e0;clear e0;go_enter Tryz.func117, Tryz.ntmps117;(go_wp2_with (go_at_call 171; refine (impl_Square_171.with p fv lb A c l _ hr eg HP.out).mono ?_; rintro e w' ⟨rfl, hb'⟩));go_ret;exact ⟨by rw [← HE.out]; rfl, hb'⟩

/-! ### impl_overlap: function 119 -/
def impl_overlap.f (a0_0 : Int) (a0_1 : Int) (a0_2 : Int) (a1_0 : Int) (a1_1 : Int) (a1_2 : Int) : Option (Bool) := if a0_0 < (wrap64 (a1_0 + a1_2)) then (if a1_0 < (wrap64 (a0_0 + a0_2)) then (if a0_1 < (wrap64 (a1_1 + a1_2)) then (some (decide (a1_1 < (wrap64 (a0_1 + a0_2))))) else (some false)) else (some false)) else (some false)
set_option maxHeartbeats 8000000 in
set_option maxRecDepth 100000 in
theorem impl_overlap.calls (a0_0 : Int) (a0_1 : Int) (a0_2 : Int) (a1_0 : Int) (a1_1 : Int) (a1_2 : Int) (r : Bool) (w : World) (h : impl_overlap.f a0_0 a0_1 a0_2 a1_0 a1_1 a1_2 = some r) :
  Calls Tryz.prog 119 #[.agg #[.int .i64 a0_0, .int .i64 a0_1, .int .i64 a0_2], .agg #[.int .i64 a1_0, .int .i64 a1_1, .int .i64 a1_2]] w fun e w' => e = .returned (.bool r) ∧ Below w.heap.size w w' := by
 have hu65 := Tryz.underlying65;have HB := Aside0.mk (Below.refl w.heap.size w);have H : (if a0_0 < (wrap64 (a1_0 + a1_2)) then (if a1_0 < (wrap64 (a0_0 + a0_2)) then (if a0_1 < (wrap64 (a1_1 + a1_2)) then (some (decide (a1_1 < (wrap64 (a0_1 + a0_2))))) else (some false)) else (some false)) else (some false)) = some r := h;clear h;(by_cases c3 : a0_0 < (wrap64 (a1_0 + a1_2)))
 ·rw [if_pos c3] at H;have c3b0 := decide_eq_true c3;clear c3;(by_cases c4 : a1_0 < (wrap64 (a0_0 + a0_2)))
  ·rw [if_pos c4] at H;have c4b0 := decide_eq_true c4;clear c4;(by_cases c5 : a0_1 < (wrap64 (a1_1 + a1_2)))
   ·rw [if_pos c5] at H;have c5b0 := decide_eq_true c5;clear c5;obtain rfl := Option.some.inj H;go_enter Tryz.func119, Tryz.ntmps119;(go_wp2_with (first | ((with_reducible refine gate_dst (N := 2) rfl ?_); refine boxE 2 (#[.int .i64 a0_0, .int .i64 a0_1, .int .i64 a0_2]) 65 ?_; intro gb283 hg w6 hbox hb; have BK283 := Aside0.mk (hbox);have GW283 := Aside0.mk (gz hg HB);have GE283 := Aside0.mk (gz hg HB);replace HB := Aside0.mk (below_step (upW HB) hb); clear hb hbox hg) | ((with_reducible refine gate_dst (N := 3) rfl ?_); refine boxE 3 (#[.int .i64 a1_0, .int .i64 a1_1, .int .i64 a1_2]) 65 ?_; intro gb284 hg w7 hbox hb; have BK284 := Aside0.mk (hbox);have GW284 := Aside0.mk (gz hg HB);have GE284 := Aside0.mk (gz hg HB);replace HB := Aside0.mk (below_step (upW HB) hb);have NB283_284 := Aside0.mk (gn hg BK283);have NB284_283 := Aside0.mk ((by rw [hg]; exact Nat.ne_of_gt (blk_lt (upK BK283)) : gb284 ≠ gb283));replace BK283 := Aside0.mk (blk_below (upK BK283) hb); clear hb hbox hg; have hnb8 := NB283_284.out; have hnc8 := NB284_283.out; obtain ⟨hcz9_0, hcz9_1, hcz9_2, hfz9_0, hfz9_1, hfz9_2⟩ := cz3 BK283 (.int .i64 a0_0) (.int .i64 a0_1) (.int .i64 a0_2); obtain ⟨hcz10_0, hcz10_1, hcz10_2, hfz10_0, hfz10_1, hfz10_2⟩ := cz3 BK284 (.int .i64 a1_0) (.int .i64 a1_1) (.int .i64 a1_2))));go_ret;exact ⟨eqv, upW HB⟩
   ·rw [if_neg c5] at H;have c5b0 := decide_eq_false c5;clear c5;obtain rfl := Option.some.inj H;go_enter Tryz.func119, Tryz.ntmps119;(go_wp2_with (first | ((with_reducible refine gate_dst (N := 2) rfl ?_); refine boxE 2 (#[.int .i64 a0_0, .int .i64 a0_1, .int .i64 a0_2]) 65 ?_; intro gb283 hg w11 hbox hb; have BK283 := Aside0.mk (hbox);have GW283 := Aside0.mk (gz hg HB);have GE283 := Aside0.mk (gz hg HB);replace HB := Aside0.mk (below_step (upW HB) hb); clear hb hbox hg) | ((with_reducible refine gate_dst (N := 3) rfl ?_); refine boxE 3 (#[.int .i64 a1_0, .int .i64 a1_1, .int .i64 a1_2]) 65 ?_; intro gb284 hg w12 hbox hb; have BK284 := Aside0.mk (hbox);have GW284 := Aside0.mk (gz hg HB);have GE284 := Aside0.mk (gz hg HB);replace HB := Aside0.mk (below_step (upW HB) hb);have NB283_284 := Aside0.mk (gn hg BK283);have NB284_283 := Aside0.mk ((by rw [hg]; exact Nat.ne_of_gt (blk_lt (upK BK283)) : gb284 ≠ gb283));replace BK283 := Aside0.mk (blk_below (upK BK283) hb); clear hb hbox hg; have hnb13 := NB283_284.out; have hnc13 := NB284_283.out; obtain ⟨hcz14_0, hcz14_1, hcz14_2, hfz14_0, hfz14_1, hfz14_2⟩ := cz3 BK283 (.int .i64 a0_0) (.int .i64 a0_1) (.int .i64 a0_2); obtain ⟨hcz15_0, hcz15_1, hcz15_2, hfz15_0, hfz15_1, hfz15_2⟩ := cz3 BK284 (.int .i64 a1_0) (.int .i64 a1_1) (.int .i64 a1_2))));go_ret;exact ⟨eqv, upW HB⟩
  ·rw [if_neg c4] at H;have c4b0 := decide_eq_false c4;clear c4;obtain rfl := Option.some.inj H;go_enter Tryz.func119, Tryz.ntmps119;(go_wp2_with (first | ((with_reducible refine gate_dst (N := 2) rfl ?_); refine boxE 2 (#[.int .i64 a0_0, .int .i64 a0_1, .int .i64 a0_2]) 65 ?_; intro gb283 hg w16 hbox hb; have BK283 := Aside0.mk (hbox);have GW283 := Aside0.mk (gz hg HB);have GE283 := Aside0.mk (gz hg HB);replace HB := Aside0.mk (below_step (upW HB) hb); clear hb hbox hg) | ((with_reducible refine gate_dst (N := 3) rfl ?_); refine boxE 3 (#[.int .i64 a1_0, .int .i64 a1_1, .int .i64 a1_2]) 65 ?_; intro gb284 hg w17 hbox hb; have BK284 := Aside0.mk (hbox);have GW284 := Aside0.mk (gz hg HB);have GE284 := Aside0.mk (gz hg HB);replace HB := Aside0.mk (below_step (upW HB) hb);have NB283_284 := Aside0.mk (gn hg BK283);have NB284_283 := Aside0.mk ((by rw [hg]; exact Nat.ne_of_gt (blk_lt (upK BK283)) : gb284 ≠ gb283));replace BK283 := Aside0.mk (blk_below (upK BK283) hb); clear hb hbox hg; have hnb18 := NB283_284.out; have hnc18 := NB284_283.out; obtain ⟨hcz19_0, hcz19_1, hcz19_2, hfz19_0, hfz19_1, hfz19_2⟩ := cz3 BK283 (.int .i64 a0_0) (.int .i64 a0_1) (.int .i64 a0_2); obtain ⟨hcz20_0, hcz20_1, hcz20_2, hfz20_0, hfz20_1, hfz20_2⟩ := cz3 BK284 (.int .i64 a1_0) (.int .i64 a1_1) (.int .i64 a1_2))));go_ret;exact ⟨eqv, upW HB⟩
 ·rw [if_neg c3] at H;have c3b0 := decide_eq_false c3;clear c3;obtain rfl := Option.some.inj H;go_enter Tryz.func119, Tryz.ntmps119;(go_wp2_with (first | ((with_reducible refine gate_dst (N := 2) rfl ?_); refine boxE 2 (#[.int .i64 a0_0, .int .i64 a0_1, .int .i64 a0_2]) 65 ?_; intro gb283 hg w21 hbox hb; have BK283 := Aside0.mk (hbox);have GW283 := Aside0.mk (gz hg HB);have GE283 := Aside0.mk (gz hg HB);replace HB := Aside0.mk (below_step (upW HB) hb); clear hb hbox hg) | ((with_reducible refine gate_dst (N := 3) rfl ?_); refine boxE 3 (#[.int .i64 a1_0, .int .i64 a1_1, .int .i64 a1_2]) 65 ?_; intro gb284 hg w22 hbox hb; have BK284 := Aside0.mk (hbox);have GW284 := Aside0.mk (gz hg HB);have GE284 := Aside0.mk (gz hg HB);replace HB := Aside0.mk (below_step (upW HB) hb);have NB283_284 := Aside0.mk (gn hg BK283);have NB284_283 := Aside0.mk ((by rw [hg]; exact Nat.ne_of_gt (blk_lt (upK BK283)) : gb284 ≠ gb283));replace BK283 := Aside0.mk (blk_below (upK BK283) hb); clear hb hbox hg; have hnb23 := NB283_284.out; have hnc23 := NB284_283.out; obtain ⟨hcz24_0, hcz24_1, hcz24_2, hfz24_0, hfz24_1, hfz24_2⟩ := cz3 BK283 (.int .i64 a0_0) (.int .i64 a0_1) (.int .i64 a0_2); obtain ⟨hcz25_0, hcz25_1, hcz25_2, hfz25_0, hfz25_1, hfz25_2⟩ := cz3 BK284 (.int .i64 a1_0) (.int .i64 a1_1) (.int .i64 a1_2))));go_ret;exact ⟨eqv, upW HB⟩

end Go.Proofs.YtnmaeekclpmmnaaGreatDoor.PFnExactParseCode
