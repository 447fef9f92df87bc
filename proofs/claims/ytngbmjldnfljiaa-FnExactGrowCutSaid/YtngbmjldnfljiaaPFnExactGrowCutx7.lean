-- made for this claim by a program of this session
import Derived.Test.YtngbmjldnfljiaaPFnExactGrowCutx0
import Derived.Test.YtngbmjldnfljiaaPFnExactGrowCutx5
import Derived.Test.YtngbmjldnfljiaaPFnExactGrowCutx6
namespace Go.Proofs.Ytngbmjldnfljiaa.PFnExactGrowCut
open Go.RowKit Go.Proofs.YtngbmjldnfljiaaW.PrintWords Go.Proofs.YtngbmjldnfljiaaW.PrintLast Go.Proofs.YtngbmjldnfljiaaW.PrintMore
attribute [local go_sem] max2_int min2_int max_two min_two max_three min_three max_four min_four   -- for this text's walks alone
set_option linter.unusedVariables false
set_option linter.unusedSimpArgs false

-- left to its pairs: function 116 (impl_Square_116)

-- left to its pairs: function 106 (impl_Cut_changed)

-- NOT PRINTED: function 111 (impl_Cut_grown_1)

/-! ### impl_Cut_grown_1: function 100002 -/
def impl_Cut_grown_1.f (a0_0 : Int) (a0_1 : Int) (a0_2 : Int) (a1_0 : Int) : Option (Int × Int × Int) := some (wrap64 (a0_0 * a1_0), wrap64 (a0_1 * a1_0), wrap64 (a0_2 * a1_0))
set_option maxHeartbeats 8000000 in
set_option maxRecDepth 100000 in
theorem impl_Cut_grown_1.calls (a0_0 : Int) (a0_1 : Int) (a0_2 : Int) (gc1 : Nat) (a1_0 : Int) (r1 : Int) (r2 : Int) (r3 : Int) (w : World) (hb1 : w.heap[gc1]? = some (.cells #[.int .i64 a1_0] 3 (0, 0))) (h : impl_Cut_grown_1.f a0_0 a0_1 a0_2 a1_0 = some (r1, r2, r3)) :
  Calls Try.prog 111 #[.agg #[.int .i64 a0_0, .int .i64 a0_1, .int .i64 a0_2], .pointer (some ⟨gc1, 0, none⟩)] w fun e w' => e = .returned (.agg #[.int .i64 r1, .int .i64 r2, .int .i64 r3]) ∧ Below w.heap.size w w' := by
 have hu83 := Try.underlying83
 have BK263 := Aside0.mk hb1
 clear hb1
 have HB := Aside0.mk (Below.refl w.heap.size w)
 have H : (some (wrap64 (a0_0 * a1_0), wrap64 (a0_1 * a1_0), wrap64 (a0_2 * a1_0))) = some (r1, r2, r3) := h
 clear h
 simp only [Option.some.injEq, Prod.mk.injEq] at H
 obtain ⟨rfl, rfl, rfl⟩ := H
 go_enter Try.func111, Try.ntmps111
 go_wp2_with (first | ((with_reducible refine gate_dst (N := 2) rfl ?_); refine box_event ?hg (N := 2) ?hd (cs := #[.int .i64 a0_0, .int .i64 a0_1, .int .i64 a0_2]) (t := 83) ?hr ?_; (case hd => rfl); (case hg => rfl); (case hr => first | (go_simp; done) | (go_simp; rfl)); intro gb264 hg w3 hbox hb; have n0_ := Aside0.mk (blk_below (g := gc1) (o := .cells #[.int .i64 a1_0] 3 (0, 0)) (upK BK263) hb); have n1_ := Aside0.mk (below_step (upW HB) hb); have n2_ := Aside0.mk (hbox); have n3_ := Aside0.mk ((by rw [hg]; exact (below_size (upW HB)) : w.heap.size ≤ gb264)); have n4_ := Aside0.mk ((by rw [hg]; exact (below_size (upW HB)) : w.heap.size ≤ gb264)); have n5_ := Aside0.mk ((by rw [hg]; exact Nat.ne_of_lt (blk_lt (g := gc1) (o := .cells #[.int .i64 a1_0] 3 (0, 0)) (upK BK263)) : gc1 ≠ gb264)); have n6_ := Aside0.mk ((by rw [hg]; exact Nat.ne_of_gt (blk_lt (g := gc1) (o := .cells #[.int .i64 a1_0] 3 (0, 0)) (upK BK263)) : gb264 ≠ gc1)); clear BK263; clear HB; have BK263 := n0_; have HB := n1_; have BK264 := n2_; have GW264 := n3_; have GE264 := n4_; have NB263_264 := n5_; have NB264_263 := n6_; clear n0_ n1_ n2_ n3_ n4_ n5_ n6_; clear hb hbox hg) | ((with_reducible refine gate_dst (N := 3) rfl ?_); refine box_event ?hg (N := 3) ?hd (cs := #[.int .i64 0, .int .i64 0, .int .i64 0]) (t := 83) ?hr ?_; (case hd => rfl); (case hg => rfl); (case hr => first | (go_simp; done) | (go_simp; rfl)); intro gb265 hg w4 hbox hb; have n0_ := Aside0.mk (blk_below (g := gc1) (o := .cells #[.int .i64 a1_0] 3 (0, 0)) (upK BK263) hb); have n1_ := Aside0.mk (blk_below (upK BK264) hb); have n2_ := Aside0.mk (below_step (upW HB) hb); have n3_ := Aside0.mk (hbox); have n4_ := Aside0.mk ((by rw [hg]; exact (below_size (upW HB)) : w.heap.size ≤ gb265)); have n5_ := Aside0.mk ((by rw [hg]; exact (below_size (upW HB)) : w.heap.size ≤ gb265)); have n6_ := Aside0.mk ((by rw [hg]; exact Nat.ne_of_lt (blk_lt (g := gc1) (o := .cells #[.int .i64 a1_0] 3 (0, 0)) (upK BK263)) : gc1 ≠ gb265)); have n7_ := Aside0.mk ((by rw [hg]; exact Nat.ne_of_gt (blk_lt (g := gc1) (o := .cells #[.int .i64 a1_0] 3 (0, 0)) (upK BK263)) : gb265 ≠ gc1)); have n8_ := Aside0.mk ((by rw [hg]; exact Nat.ne_of_lt (blk_lt (upK BK264)) : gb264 ≠ gb265)); have n9_ := Aside0.mk ((by rw [hg]; exact Nat.ne_of_gt (blk_lt (upK BK264)) : gb265 ≠ gb264)); clear BK263; clear BK264; clear HB; have BK263 := n0_; have BK264 := n1_; have HB := n2_; have BK265 := n3_; have GW265 := n4_; have GE265 := n5_; have NB263_265 := n6_; have NB265_263 := n7_; have NB264_265 := n8_; have NB265_264 := n9_; clear n0_ n1_ n2_ n3_ n4_ n5_ n6_ n7_ n8_ n9_; clear hb hbox hg; have hnb5 := NB264_263.out; have hnc5 := NB263_264.out; have hnb6 := NB264_265.out; have hnc6 := NB265_264.out; have hcz7_0 : w4.cell? ⟨gb264, 0, none⟩ = some (.int .i64 a0_0) := (blk_cell BK264.out 0).trans rfl; have hcz7_1 : w4.cell? ⟨gb264, 1, none⟩ = some (.int .i64 a0_1) := (blk_cell BK264.out 1).trans rfl; have hcz7_2 : w4.cell? ⟨gb264, 2, none⟩ = some (.int .i64 a0_2) := (blk_cell BK264.out 2).trans rfl; have hfz7_0 := blk_frozen BK264.out 0; have hfz7_1 := blk_frozen BK264.out 1; have hfz7_2 := blk_frozen BK264.out 2; have hnb8 := NB263_265.out; have hnc8 := NB265_263.out; have hcz9_0 : w4.cell? ⟨gc1, 0, none⟩ = some (.int .i64 a1_0) := (blk_cell BK263.out 0).trans rfl; have hfz9_0 := blk_frozen BK263.out 0; have hcz10_0 : w4.cell? ⟨gb265, 0, none⟩ = some (.int .i64 0) := (blk_cell BK265.out 0).trans rfl; have hcz10_1 : w4.cell? ⟨gb265, 1, none⟩ = some (.int .i64 0) := (blk_cell BK265.out 1).trans rfl; have hcz10_2 : w4.cell? ⟨gb265, 2, none⟩ = some (.int .i64 0) := (blk_cell BK265.out 2).trans rfl; have hfz10_0 := blk_frozen BK265.out 0; have hfz10_1 := blk_frozen BK265.out 1; have hfz10_2 := blk_frozen BK265.out 2))
 refine bodyPost_ret (results_cell_row rfl _ _ gb265 83 #[.int .i64 (wrap64 (a0_0 * a1_0)), .int .i64 (wrap64 (a0_1 * a1_0)), .int .i64 (wrap64 (a0_2 * a1_0))] (0, 0) _ rfl (by (with_reducible repeat (first | refine blk_drewN ?_ _ | refine blk_drew ?_ | refine blk_alloc ?_ _)); refine blk_put (cs := #[.int .i64 (wrap64 (a0_0 * a1_0)), .int .i64 (wrap64 (a0_1 * a1_0)), .int .i64 0]) ?_ 2 _ rfl; (with_reducible repeat (first | refine blk_drewN ?_ _ | refine blk_drew ?_ | refine blk_alloc ?_ _)); refine blk_put (cs := #[.int .i64 (wrap64 (a0_0 * a1_0)), .int .i64 0, .int .i64 0]) ?_ 1 _ rfl; (with_reducible repeat (first | refine blk_drewN ?_ _ | refine blk_drew ?_ | refine blk_alloc ?_ _)); refine blk_put (cs := #[.int .i64 0, .int .i64 0, .int .i64 0]) ?_ 0 _ rfl; (with_reducible repeat (first | refine blk_drewN ?_ _ | refine blk_drew ?_ | refine blk_alloc ?_ _)); exact BK265.out) Try.underlying83 rfl (by kernel_rfl)) rfl ?_
 exact ⟨by first | rfl | (simp [errW_none, errW_some] <;> rfl) | (simp [*, errW_none, errW_some] <;> rfl), by repeat (first | (with_reducible first | exact HB.out | apply below_alloc | apply pw_below_drewN | apply below_drew1 | refine below_set ?_ GE263.out | refine below_set ?_ GE264.out | refine below_set ?_ GE265.out) | exact HB.out)⟩

/-! ### a row of the call's own, elements of several cells, written anew by a library function -/
section
variable {α : Type} {d : Kd α} {enc : α → List Value}
theorem rowK_cells {e : TypeId} {w : World} {base : Nat} {ok : Nat → Prop} {g n cap : Nat} {xs : List α} (hop : ∀ {w base ok x cs}, d.M w base ok x cs → cs = enc x)
  (h : d.R e w base ok (.slice (some ⟨g, 0, none⟩) n cap) xs) :
  n = xs.length ∧ base ≤ g ∧ n ≤ cap ∧ cap ≤ maxLen ∧ ∃ cur : Array Value, w.heap[g]? = some (.cells cur e (0, 0)) ∧ cur.size = cap * d.sz ∧ ∀ (j : Nat) (x : α), xs[j]? = some x → (cur.toList.drop (j * d.sz)).take d.sz = enc x := by
 have hn := (Kd.R_reads' h).1
 obtain ⟨_, inner, ho, hr⟩ := h
 rcases ho.2 with ⟨h2, _⟩ | ⟨g2, cap2, cur, h2, hb, hh, hc, hm, hs, ht⟩
 ·cases h2
 ·injection h2 with ha hn2 hc2
  injection ha with ha2
  injection ha2 with hg2
  subst hg2 hc2
  refine ⟨hn, hb, by omega, hm, cur, hh, hs, fun j x hj => ?_⟩
  have hj' : j < xs.length := (List.getElem?_eq_some_iff.1 hj).1
  have hq := hop (hr.2 j x hj)
  rw [← hq, ← ht]
  have hle : j * d.sz + d.sz ≤ n * d.sz := by
   rw [hn, ← Nat.succ_mul]; exact Nat.mul_le_mul_right _ hj'
  rw [hn2] at hle
  rw [← hn2] at hle ⊢
  rw [List.drop_take, List.take_take, Nat.min_eq_left (by omega)]
end
section
variable {α : Type} [Inhabited α] {d : Kd α} {enc : α → List Value}
theorem rowK_holds {e : TypeId} {w : World} {base : Nat} {ok : Nat → Prop} {g n cap : Nat} {xs : List α} (hop : ∀ {w base ok x cs}, d.M w base ok x cs → cs = enc x) (hk : ∀ x, (enc x).length = d.sz)
  (h : d.R e w base ok (.slice (some ⟨g, 0, none⟩) n cap) xs) : Sort.HoldsK enc d.sz w g 0 xs.toArray := by
 obtain ⟨hn, _, hc, _, cur, hh, hs, ht⟩ := rowK_cells (enc := enc) hop h
 intro t htl
 rw [Sort.size_flatK] at htl
 have htl' : t < xs.length * d.sz := by simpa using htl
 have k0 : 0 < d.sz := by
  rcases Nat.eq_zero_or_pos d.sz with h0 | h0
  ·rw [h0] at htl'; simp at htl'
  ·exact h0
 have hj : t / d.sz < xs.length := (Nat.div_lt_iff_lt_mul k0).2 htl'
 have hx := ht (t / d.sz) xs[t / d.sz] (List.getElem?_eq_getElem hj)
 rw [Nat.zero_add, Sort.get_flatK _ _ _ _ htl]
 refine ⟨?_, blk_frozen hh t⟩
 rw [blk_cell hh t, getElem!_pos xs.toArray (t / d.sz) (by simpa using hj)]
 have hm : t % d.sz < d.sz := Nat.mod_lt _ k0
 have he : cur[t]? = (enc xs[t / d.sz])[t % d.sz]? := by
  rw [← hx, List.getElem?_take_of_lt hm, List.getElem?_drop, Array.getElem?_toList, Nat.mul_comm, Nat.div_add_mod]
 rw [he, List.getElem?_eq_getElem (by rw [hk]; exact hm)]
 simp only [List.getElem_toArray]
 rw [getElem!_pos _ _ (by rw [hk]; exact hm)]
 rfl
theorem rowK_heap {w : World} {g m : Nat} {F : Array Value} {os : Array Obj} {e : TypeId} {cur : Array Value} (hh : w.heap[g]? = some (.cells cur e (0, 0))) :
  (∀ k, k < w.heap.size → k ≠ g → (Sort.grow (Sort.putRow id (Sort.ahead w m) g 0 F) os).heap[k]? = w.heap[k]?) ∧ (Sort.grow (Sort.putRow id (Sort.ahead w m) g 0 F) os).heap[g]? = some (.cells (Sort.putCells id 0 F cur) e (0, 0)) ∧ w.heap.size ≤ (Sort.grow (Sort.putRow id (Sort.ahead w m) g 0 F) os).heap.size := by
 have hlt : g < w.heap.size := (Array.getElem?_eq_some_iff.1 hh).1
 have hsz : (Sort.putRow id (Sort.ahead w m) g 0 F).heap.size = w.heap.size := by simp [Sort.putRow, Sort.mapBlock, Sort.ahead]
 refine ⟨fun k hk hne => ?_, ?_, ?_⟩
 ·rw [Sort.heap_grow_old _ _ (by rw [hsz]; exact hk)]
  show (w.heap.modify g _)[k]? = _
  rw [Array.getElem?_modify, if_neg (fun h => hne h.symm)]
 ·rw [Sort.heap_grow_old _ _ (by rw [hsz]; exact hlt)]
  show (w.heap.modify g _)[g]? = _
  rw [Array.getElem?_modify, if_pos rfl, hh]
  rfl
 ·show w.heap.size ≤ (_ ++ os).size
  rw [Array.size_append, hsz]
  exact Nat.le_add_right _ _
theorem rowK_put {e : TypeId} {w w0 : World} {base : Nat} {ok S : Nat → Prop} {g n cap : Nat} {xs : List α} (hop : ∀ {w base ok x cs}, d.M w base ok x cs → cs = enc x) (hmk : ∀ w base ok x, d.M w base ok x (enc x)) (hk : ∀ x, (enc x).length = d.sz)
  (h : d.R e w base ok (.slice (some ⟨g, 0, none⟩) n cap) xs) (d' : Array α) (hd : d'.size = xs.length) (m : Nat) (os : Array Obj) (hb : Below w0.heap.size w0 w) (hg : w0.heap.size ≤ g) (hs : S g) :
  d.R e (sortWorldK enc d.sz w g 0 m d' os) base ok (.slice (some ⟨g, 0, none⟩) n cap) d'.toList ∧ Below w0.heap.size w0 (sortWorldK enc d.sz w g 0 m d' os) ∧ Kept w (sortWorldK enc d.sz w g 0 m d' os) S := by
 obtain ⟨hn, hbase, hc, hm, cur, hh, hsz, ht⟩ := rowK_cells (enc := enc) hop h
 unfold sortWorldK Sort.putRowK
 obtain ⟨a, b, c⟩ := rowK_heap (m := m) (F := Sort.flatK enc d.sz d') (os := os) hh
 refine ⟨⟨h.1, (Sort.putCells id 0 (Sort.flatK enc d.sz d') cur).toList.take (d'.toList.length * d.sz), ⟨?_, .inr ⟨g, cap, _, ?_, hbase, b, ?_, hm, ?_, rfl⟩⟩, ?_, fun j x hj => ?_⟩, ⟨hb.os, hb.tape, hb.output, Nat.le_trans hb.size c, fun k hk2 => ?_⟩, ⟨c, fun k hk2 hS => a k hk2 (fun e => hS (e ▸ hs))⟩⟩
 ·rw [List.length_take, Array.length_toList, Array.length_toList, Sort.putCells, Array.size_mapIdx, hsz]
  exact Nat.min_eq_left (Nat.mul_le_mul_right _ (by omega))
 ·rw [Array.length_toList, hd, hn]
 ·rw [Array.length_toList]; omega
 ·rw [Sort.putCells, Array.size_mapIdx, hsz]
 ·rw [List.length_take, Array.length_toList, Array.length_toList, Sort.putCells, Array.size_mapIdx, hsz]
  exact Nat.min_eq_left (Nat.mul_le_mul_right _ (by omega))
 ·have hj' : j < d'.size := by have := (List.getElem?_eq_some_iff.1 hj).1; rwa [Array.length_toList] at this
  have hx : d'[j]! = x := by
   rw [getElem!_pos d' j hj']
   rw [Array.getElem?_toList, Array.getElem?_eq_getElem hj'] at hj
   exact Option.some.inj hj
  have hle : j * d.sz + d.sz ≤ d'.size * d.sz := by rw [← Nat.succ_mul]; exact Nat.mul_le_mul_right _ hj'
  have hle2 : d'.size * d.sz ≤ cap * d.sz := Nat.mul_le_mul_right _ (by omega)
  have he : (((Sort.putCells id 0 (Sort.flatK enc d.sz d') cur).toList.take (d'.toList.length * d.sz)).drop (j * d.sz)).take d.sz = enc x := by
   apply List.ext_getElem?
   intro i
   by_cases hi : i < d.sz
   ·rw [List.getElem?_take_of_lt hi, List.getElem?_drop, List.getElem?_take_of_lt (by rw [Array.length_toList]; omega), Array.getElem?_toList, Sort.putCells, Array.getElem?_mapIdx, Array.getElem?_eq_getElem (by omega : j * d.sz + i < cur.size), Option.map_some, if_pos (by rw [Sort.size_flatK]; omega), Nat.sub_zero, Sort.get_flatK _ _ _ _ (by omega)]
    have q1 : (j * d.sz + i) / d.sz = j := (Sort.blk_iff d.sz j _ (by omega)).1 ⟨by omega, by omega⟩
    have q2 : (j * d.sz + i) % d.sz = i := by rw [Nat.mod_eq_sub_div_mul, q1]; omega
    rw [q1, q2, hx, getElem!_pos (enc x) i (by rw [hk]; exact hi), List.getElem?_eq_getElem (by rw [hk]; exact hi)]
    rfl
   ·rw [List.getElem?_eq_none (by rw [List.length_take]; omega), List.getElem?_eq_none (by rw [hk]; omega)]
  rw [he]
  exact hmk _ _ _ _
 ·have hk3 : k < w.heap.size := Nat.lt_of_lt_of_le hk2 hb.size
  rw [a k hk3 (by omega)]
  exact hb.block k hk2
end

/-! ### slices_SortFunc_impl_Square_impl_Square__impl_comparePlaces: the pair slices.SortFunc[[]loop.example/g01296/impl.Square,loop.example/g01296/impl.Square] -/
/-! squares whose places are small enough that comparePlaces does not wrap -/
def BdSq (s : S83) : Prop := (-1099511627776 ≤ s.f0 ∧ s.f0 ≤ 1099511627776) ∧ (-1099511627776 ≤ s.f1 ∧ s.f1 ≤ 1099511627776)
instance (s : S83) : Decidable (BdSq s) := by unfold BdSq; infer_instance
abbrev BSq := {s : S83 // BdSq s}
instance : Inhabited BSq := ⟨⟨⟨0, 0, 0⟩, by unfold BdSq; decide⟩⟩
def encSq (s : S83) : List Value := [.int .i64 s.f0, .int .i64 s.f1, .int .i64 s.f2]
instance : Inhabited S83 := ⟨⟨0, 0, 0⟩⟩
def cfSq (a b : BSq) : Int := if a.1.f1 ≠ b.1.f1 then a.1.f1 - b.1.f1 else a.1.f0 - b.1.f0
def placeLt (a b : S83) : Prop := a.f1 < b.f1 ∨ a.f1 = b.f1 ∧ a.f0 < b.f0
instance (a b : S83) : Decidable (placeLt a b) := by unfold placeLt; infer_instance
theorem ltSq (a b : BSq) : ltOf cfSq a b = decide (placeLt a.1 b.1) := by
 unfold ltOf cfSq placeLt
 by_cases h : a.1.f1 = b.1.f1
 ·simp [h]; omega
 ·simp [h]; omega
theorem swoSq : Sort.SWO (ltOf cfSq) where
 irrefl x := by rw [ltSq, decide_eq_false_iff_not]; unfold placeLt; omega
 trans x y z h1 h2 := by rw [ltSq, decide_eq_true_iff] at *; unfold placeLt at *; omega
 ntrans x y z h1 h2 := by rw [ltSq, decide_eq_false_iff_not] at *; unfold placeLt at *; omega
def slices_SortFunc_impl_Square_impl_Square__impl_comparePlaces_lay_ren : Go.Shelf.Ren := ⟨fun | 6 => 116 | 15 => 119 | 14 => 118 | 28 => 129 | 29 => 130 | 20 => 120 | 21 => 122 | 22 => 123 | 23 => 124 | 24 => 125 | 25 => 126 | 26 => 127 | 27 => 128 | 46 => 132 | 47 => 133 | 48 => 134 | 49 => 135 | 50 => 136 | 57 => 138 | n => n, fun | 22 => 46 | 24 => 83 | 25 => 103 | 3 => 3 | 39 => 115 | 0 => 0 | 53 => 124 | 55 => 126 | 4 => 4 | 46 => 118 | 45 => 117 | 50 => 26 | 5 => 5 | 9 => 9 | 66 => 127 | 70 => 131 | 76 => 133 | 77 => 134 | n => n, fun | n => n⟩
theorem slices_SortFunc_impl_Square_impl_Square__impl_comparePlaces_lay : Go.Proofs.SlLaysF0.n6 Try.prog slices_SortFunc_impl_Square_impl_Square__impl_comparePlaces_lay_ren where
 mixed := by kernel_rfl
 f6 := ⟨"slices.SortFunc[[]loop.example/g01296/impl.Square,loop.example/g01296/impl.Square]", by decide, Try.func116.trans (congrArg some (by kernel_rfl))⟩
 f14 := ⟨"slices.pdqsortCmpFunc[loop.example/g01296/impl.Square]", by decide, Try.func118.trans (congrArg some (by kernel_rfl))⟩
 f15 := Try.func119.trans (congrArg some (by kernel_rfl))
 f20 := ⟨"slices.insertionSortCmpFunc[loop.example/g01296/impl.Square]", by decide, Try.func120.trans (congrArg some (by kernel_rfl))⟩
 f21 := ⟨"slices.heapSortCmpFunc[loop.example/g01296/impl.Square]", by decide, Try.func122.trans (congrArg some (by kernel_rfl))⟩
 f22 := ⟨"slices.breakPatternsCmpFunc[loop.example/g01296/impl.Square]", by decide, Try.func123.trans (congrArg some (by kernel_rfl))⟩
 f23 := ⟨"slices.choosePivotCmpFunc[loop.example/g01296/impl.Square]", by decide, Try.func124.trans (congrArg some (by kernel_rfl))⟩
 f24 := ⟨"slices.reverseRangeCmpFunc[loop.example/g01296/impl.Square]", by decide, Try.func125.trans (congrArg some (by kernel_rfl))⟩
 f25 := ⟨"slices.partialInsertionSortCmpFunc[loop.example/g01296/impl.Square]", by decide, Try.func126.trans (congrArg some (by kernel_rfl))⟩
 f26 := ⟨"slices.partitionEqualCmpFunc[loop.example/g01296/impl.Square]", by decide, Try.func127.trans (congrArg some (by kernel_rfl))⟩
 f27 := ⟨"slices.partitionCmpFunc[loop.example/g01296/impl.Square]", by decide, Try.func128.trans (congrArg some (by kernel_rfl))⟩
 f28 := Try.func129.trans (congrArg some (by kernel_rfl))
 f29 := Try.func130.trans (congrArg some (by kernel_rfl))
 f46 := ⟨"slices.siftDownCmpFunc[loop.example/g01296/impl.Square]", by decide, Try.func132.trans (congrArg some (by kernel_rfl))⟩
 f47 := Try.func133.trans (congrArg some (by kernel_rfl))
 f48 := Try.func134.trans (congrArg some (by kernel_rfl))
 f49 := ⟨"slices.medianAdjacentCmpFunc[loop.example/g01296/impl.Square]", by decide, Try.func135.trans (congrArg some (by kernel_rfl))⟩
 f50 := ⟨"slices.medianCmpFunc[loop.example/g01296/impl.Square]", by decide, Try.func136.trans (congrArg some (by kernel_rfl))⟩
 f57 := ⟨"slices.order2CmpFunc[loop.example/g01296/impl.Square]", by decide, Try.func138.trans (congrArg some (by kernel_rfl))⟩
 t0 := Try.underlying0
 a0 := Try.isAgg0
 z0 := Try.sizeOf0
 v0 := Try.zeroValue0
 t3 := Try.underlying3
 a3 := Try.isAgg3
 z3 := Try.sizeOf3
 v3 := Try.zeroValue3
 t4 := Try.underlying4
 a4 := Try.isAgg4
 z4 := Try.sizeOf4
 v4 := Try.zeroValue4
 t5 := Try.underlying5
 a5 := Try.isAgg5
 z5 := Try.sizeOf5
 v5 := Try.zeroValue5
 t9 := Try.underlying9
 a9 := Try.isAgg9
 z9 := Try.sizeOf9
 v9 := Try.zeroValue9
 t22 := Try.underlying46
 a22 := Try.isAgg46
 z22 := Try.sizeOf46
 v22 := Try.zeroValue46
 t25 := Try.underlying103
 a25 := Try.isAgg103
 z25 := Try.sizeOf103
 v25 := Try.zeroValue103
 t39 := Try.underlying115
 a39 := Try.isAgg115
 z39 := Try.sizeOf115
 v39 := Try.zeroValue115
 t45 := Try.underlying117
 a45 := Try.isAgg117
 z45 := Try.sizeOf117
 v45 := Try.zeroValue117
 t46 := Try.underlying118
 a46 := Try.isAgg118
 z46 := Try.sizeOf118
 v46 := Try.zeroValue118
 t50 := Try.underlying26
 a50 := Try.isAgg26
 z50 := Try.sizeOf26
 v50 := Try.zeroValue26
 t53 := Try.underlying124
 a53 := Try.isAgg124
 z53 := Try.sizeOf124
 v53 := Try.zeroValue124
 t55 := Try.underlying126
 a55 := Try.isAgg126
 z55 := Try.sizeOf126
 v55 := Try.zeroValue126
 t66 := Try.underlying127
 a66 := Try.isAgg127
 z66 := Try.sizeOf127
 v66 := Try.zeroValue127
 t70 := Try.underlying131
 a70 := Try.isAgg131
 z70 := Try.sizeOf131
 v70 := Try.zeroValue131
 t76 := Try.underlying133
 a76 := Try.isAgg133
 z76 := Try.sizeOf133
 v76 := Try.zeroValue133
 t77 := Try.underlying134
 a77 := Try.isAgg134
 z77 := Try.sizeOf134
 v77 := Try.zeroValue134
def bsqOf (l : List S83) (h : ∀ s ∈ l, BdSq s) : Array BSq := (l.attach.map fun s => (⟨s.1, h s.1 s.2⟩ : BSq)).toArray
def slices_SortFunc_impl_Square_impl_Square__impl_comparePlaces.f (l : List S83) : Option (List S83) :=
 if h : (∀ s ∈ l, BdSq s) ∧ l.length ≤ 1000000 then some ((Sort.pdq (ltOf cfSq) (bsqOf l h.1) 0 l.length (Lib.bitLen l.length) true true).toList.map (·.1)) else none
set_option maxHeartbeats 8000000 in
theorem cmpSq (x y : BSq) (W : World) : Calls Try.prog 102 #[.agg #[.int .i64 x.1.f0, .int .i64 x.1.f1, .int .i64 x.1.f2], .agg #[.int .i64 y.1.f0, .int .i64 y.1.f1, .int .i64 y.1.f2]] W fun e w' => e = .returned (.int .i64 (cfSq x y)) ∧ ∃ q os', w' = Sort.grow (W.drewN q) os' := by
 obtain ⟨⟨x0, x1, x2⟩, bx⟩ := x
 obtain ⟨⟨y0, y1, y2⟩, bY⟩ := y
 have bx' := bx
 have bY' := bY
 unfold BdSq at bx' bY'
 dsimp only at bx' bY' ⊢
 have e1 : wrap64 (x1 - y1) = x1 - y1 := by unfold wrap64; omega
 have e0 : wrap64 (x0 - y0) = x0 - y0 := by unfold wrap64; omega
 clear bx' bY'
 by_cases hc : x1 = y1
 ·have hv : cfSq ⟨⟨x0, x1, x2⟩, bx⟩ ⟨⟨y0, y1, y2⟩, bY⟩ = wrap64 (x0 - y0) := by rw [e0]; unfold cfSq; simp [hc]
  rw [hv]
  clear hv e1 e0
  have c1 : (x1 != y1) = false := by simp [hc]
  have c2 : (x1 == y1) = true := by simp [hc]
  clear hc bx bY
  go_enter Try.func102, Try.ntmps102
  go_wp2
  go_ret
  exact ⟨rfl, 0, _, by rw [Sort.alloc_eq_grow, Sort.alloc_eq_grow, Sort.grow_grow]; rfl⟩
 ·have hv : cfSq ⟨⟨x0, x1, x2⟩, bx⟩ ⟨⟨y0, y1, y2⟩, bY⟩ = wrap64 (x1 - y1) := by rw [e1]; unfold cfSq; simp [hc]
  rw [hv]
  clear hv e1 e0
  have c1 : (x1 != y1) = true := by simp [hc]
  have c2 : (x1 == y1) = false := by simp [hc]
  clear hc bx bY
  go_enter Try.func102, Try.ntmps102
  go_wp2
  go_ret
  exact ⟨rfl, 0, _, by rw [Sort.alloc_eq_grow, Sort.alloc_eq_grow, Sort.grow_grow]; rfl⟩
theorem flat_val (d : Array BSq) : Sort.flatK (fun s : BSq => encSq s.1) 3 d = Sort.flatK encSq 3 (d.map (·.1)) := by
 refine Sort.ext_get! (by simp) fun t ht => ?_
 have ht' : t < d.size * 3 := by simpa using ht
 have hq : t / 3 < d.size := by omega
 rw [Sort.get_flatK _ _ _ _ ht', Sort.get_flatK _ _ _ _ (by simpa using ht'), getElem!_pos d (t / 3) hq, getElem!_pos (d.map (·.1)) (t / 3) (by simpa using hq)]
 simp
set_option maxHeartbeats 8000000 in
theorem slices_SortFunc_impl_Square_impl_Square__impl_comparePlaces.calls (P0_ : Nat → Prop) (u9000_ : Value) (l0 : List S83) (r : List S83) (w0 w : World) (hB : Below w0.heap.size w0 w) (ho0 : Kd.R k83 83 w w0.heap.size P0_ u9000_ l0) (h : slices_SortFunc_impl_Square_impl_Square__impl_comparePlaces.f l0 = some r) :
  Calls Try.prog 116 #[u9000_, .func (.func 102) #[] #[]] w fun e w' => e = .returned (.tuple #[]) ∧ Kd.R k83 83 w' w0.heap.size (fun k_ => (P0_ k_ ∨ w.heap.size ≤ k_)) u9000_ r ∧ Below w0.heap.size w0 w' ∧ Kept w w' (fun k_ => P0_ k_) := by
 unfold slices_SortFunc_impl_Square_impl_Square__impl_comparePlaces.f at h
 by_cases hbd0 : (∀ s ∈ l0, BdSq s) ∧ l0.length ≤ 1000000
 ·rw [dif_pos hbd0] at h
  obtain ⟨hbd, hlen⟩ := hbd0
  have h' := (Option.some.inj h).symm
  clear h
  have ho1 : Kd.R k83 83 w w0.heap.size (fun k_ => (P0_ k_ ∨ w.heap.size ≤ k_)) u9000_ l0 := Kd.R_mono ho0 (fun _ hk => .inl hk)
  by_cases hl : l0 = []
  ·subst hl
   have hr : r = [] := by
    rw [h']
    have hs : (bsqOf [] hbd).size = 0 := by simp [bsqOf]
    have hp := (Sort.pdq_sorts (ltOf cfSq) swoSq (bsqOf [] hbd) 0 0 (Lib.bitLen 0) true true (Nat.le_refl _) (by omega) (Or.inl rfl)).1.1
    rw [hs] at hp
    have he := Array.eq_empty_of_size_eq_zero hp
    show List.map _ (Sort.pdq (ltOf cfSq) (bsqOf [] hbd) 0 0 (Lib.bitLen 0) true true).toList = []
    rw [he]; rfl
   subst hr
   obtain ⟨A, c, rfl⟩ := Kd.R_slice ho0
   refine (AnyF.slices_SortFunc_none slices_SortFunc_impl_Square_impl_Square__impl_comparePlaces_lay A c (.func (.func 102) #[] #[]) w).mono ?_
   rintro e w' ⟨rfl, rfl⟩
   exact ⟨rfl, ho1, hB, Kept.refl _ _⟩
  ·have hp : 0 < l0.length := List.length_pos_iff.2 hl
   obtain ⟨g, cap, rfl, hbase, hlt, cells, hcells⟩ := Kd.R_form ho0 hp
   have hbig : l0.length < 4611686018427387904 := by omega
   have hH := rowK_holds (enc := encSq) (fun h => k83_openM h) (fun _ => rfl) ho0
   have hd : (bsqOf l0 hbd).map (·.1) = l0.toArray := by simp [bsqOf]
   have hH2 : Sort.HoldsK (fun s : BSq => encSq s.1) 3 w g 0 (bsqOf l0 hbd) := by
    unfold Sort.HoldsK
    rw [flat_val, hd]
    exact hH
   have hs : (bsqOf l0 hbd).size = l0.length := by simp [bsqOf]
   have eg : ∀ args w, (callFunc 102 args).run Try.prog w = .ok (.enter 102 args) w := enters_of Try.func102 (by kernel_rfl) rfl
   have hcon := AnyQ.slices_SortFunc_eq slices_SortFunc_impl_Square_impl_Square__impl_comparePlaces_lay 3 Try.isAgg83 Try.sizeOf83 (fun s : BSq => encSq s.1) (fun _ => rfl) (fun x v hv => by simp [encSq] at hv; rcases hv with rfl | rfl | rfl <;> rfl) cfSq swoSq 102 #[] g 0 cap (bsqOf l0 hbd) w eg (fun _ _ _ _ x y => cmpSq x y _) hH2 hlt (by rw [hs]; exact hbig)
   rw [hs] at hcon
   refine hcon.mono ?_
   rintro e w' ⟨rfl, q, os, rfl⟩
   have hps := (Sort.pdq_sorts (ltOf cfSq) swoSq (bsqOf l0 hbd) 0 l0.length (Lib.bitLen l0.length) true true (Nat.zero_le _) (by omega) (Or.inl rfl)).1.1
   generalize Sort.pdq (ltOf cfSq) (bsqOf l0 hbd) 0 l0.length (Lib.bitLen l0.length) true true = dd at h' hps ⊢
   have hw : sortWorldK (fun s : BSq => encSq s.1) 3 w g 0 q dd os = sortWorldK encSq 3 w g 0 q (dd.map (·.1)) os := by
    unfold sortWorldK Sort.putRowK
    rw [flat_val]
   have hput := rowK_put (enc := encSq) (S := fun k_ => P0_ k_) (fun h => k83_openM h) (fun _ _ _ x => k83_mkM _ _ _ x) (fun _ => rfl) ho1 (dd.map (·.1)) (by rw [Array.size_map, hps, hs]) q os hB hbase (ho0.1 g rfl)
   have hr : (dd.map (·.1)).toList = r := by rw [h', Array.toList_map]
   rw [hr] at hput
   rw [hw]
   exact ⟨rfl, hput⟩
 ·rw [dif_neg hbd0] at h
  exact absurd h (by simp)

/-! ### impl_Cut_changed__impl_Cut_grown_1: function 100001 -/
def impl_Cut_changed__impl_Cut_grown_1.l0 : Nat → List (S83) → Int → Int → Int → Int → Int → List (S83) → Option (Int × Int × (List (S83)))
 | 0, _, _, _, _, _, _, _ => none
 | k + 1, x16, x17, x18, x267000, x270000, x270001, x270002 => if x18 < x17 then (if 0 ≤ x18 then (if x18 < (x16.length : Int) then ((impl_Cut_grown_1.f ((rd_T83 x16 x18).f0) ((rd_T83 x16 x18).f1) ((rd_T83 x16 x18).f2) x267000).bind fun bt272 => (if x270002.length < 5864062014805 then (impl_Cut_changed__impl_Cut_grown_1.l0 k x16 x17 (wrap64 (x18 + 1)) x267000 x270000 x270001 (x270002 ++ [(⟨bt272.1, bt272.2.1, bt272.2.2⟩ : S83)])) else (none))) else (none)) else (none)) else ((slices_SortFunc_impl_Square_impl_Square__impl_comparePlaces.f x270002).bind fun t278 => (some (x270000, x270001, t278)))
def impl_Cut_changed__impl_Cut_grown_1.f (k : Nat) (a0_0 : Int) (a0_1 : Int) (l0_2 : List (S83)) (a1 : Int) (a2 : Int) (a3_0_0 : Int) : Option (Int × Int × (List (S83))) := impl_Cut_changed__impl_Cut_grown_1.l0 k l0_2 (l0_2.length : Int) 0 a3_0_0 a1 a2 ([] : List (S83))
def impl_Cut_changed__impl_Cut_grown_1.T5 : Bool × List (List Nat × List Nat) := (true, [([], []), ([0], [0]), ([], []), ([], []), ([2, 3], [2, 3]), ([4], [4]), ([1, 5, 4], [1, 5]), ([0, 1, 2, 3, 4, 5, 6], []), ([7, 6, 6, 0, 1, 2, 3, 4, 5, 6], [6, 7])])
def impl_Cut_changed__impl_Cut_grown_1.B5 : List Nat := [0, 1, 0, 0, 12, 28, 63, 127, 255]
theorem impl_Cut_changed__impl_Cut_grown_1.tab5 : rtab .any (opsOf Try.f106 5) = impl_Cut_changed__impl_Cut_grown_1.T5 := by kernel_rfl
theorem impl_Cut_changed__impl_Cut_grown_1.bits5 : waitsOk impl_Cut_changed__impl_Cut_grown_1.T5.2 impl_Cut_changed__impl_Cut_grown_1.B5 = true := by kernel_rfl
set_option maxHeartbeats 8000000 in
set_option maxRecDepth 100000 in
theorem impl_Cut_changed__impl_Cut_grown_1.calls (k : Nat) (a0_0 : Int) (a0_1 : Int) (A0_2 : Option Addr) (c0_2 : Nat) (l0_2 : List (S83)) (a1 : Int) (a2 : Int) (gc3_0 : Nat) (a3_0_0 : Int) (r1 : Int) (r2 : Int) (r3 : List (S83)) (w : World) (hr0_2 : Kd.C k83 w A0_2 l0_2.length l0_2) (hc0_2 : l0_2.length ≤ c0_2) (hb3_0 : w.heap[gc3_0]? = some (.cells #[.int .i64 a3_0_0] 3 (0, 0))) (h : impl_Cut_changed__impl_Cut_grown_1.f k a0_0 a0_1 l0_2 a1 a2 a3_0_0 = some (r1, r2, r3)) :
  Calls Try.prog 106 #[.agg #[.int .i64 a0_0, .int .i64 a0_1, .slice A0_2 l0_2.length c0_2], .int .i64 a1, .int .i64 a2, .func (.func 111) #[] #[.pointer (some ⟨gc3_0, 0, none⟩)]] w fun e w' => ∃ v2_ : Value, e = .returned (.agg #[.int .i64 r1, .int .i64 r2, v2_]) ∧ Kd.R k83 83 w' w.heap.size (fun _ => True) v2_ r3 ∧ Below w.heap.size w w' := by
 have hu48 := Try.underlying48
 have hu83 := Try.underlying83
 have HR0_2 := Aside0.mk hr0_2
 have HC0_2 := Aside0.mk hc0_2
 clear hr0_2 hc0_2
 have BK266 := Aside0.mk hb3_0
 clear hb3_0
 have HB := Aside0.mk (Below.refl w.heap.size w)
 have H : (impl_Cut_changed__impl_Cut_grown_1.l0 k l0_2 (l0_2.length : Int) 0 a3_0_0 a1 a2 ([] : List (S83))) = some (r1, r2, r3) := h
 clear h
 have H' := Aside0.mk H
 clear H
 go_enter Try.func106, Try.ntmps106
 go_wp2_with (first | ((with_reducible refine gate_dst (N := 4) rfl ?_); refine box_event ?hg (N := 4) ?hd (cs := #[.int .i64 a0_0, .int .i64 a0_1, .slice A0_2 l0_2.length c0_2]) (t := 48) ?hr ?_; (case hd => rfl); (case hg => rfl); (case hr => first | (go_simp; done) | (go_simp; rfl)); intro gb267 hg w5 hbox hb; have n0_ := Aside0.mk (blk_below (g := gc3_0) (o := .cells #[.int .i64 a3_0_0] 3 (0, 0)) (upK BK266) hb); have n1_ := Aside0.mk (below_step (upW HB) hb); have n2_ := Aside0.mk (hbox); have n3_ := Aside0.mk ((by rw [hg]; exact (below_size (upW HB)) : w.heap.size ≤ gb267)); have n4_ := Aside0.mk ((by rw [hg]; exact (below_size (upW HB)) : w.heap.size ≤ gb267)); have n5_ := Aside0.mk ((by rw [hg]; exact Nat.ne_of_lt (blk_lt (g := gc3_0) (o := .cells #[.int .i64 a3_0_0] 3 (0, 0)) (upK BK266)) : gc3_0 ≠ gb267)); have n6_ := Aside0.mk ((by rw [hg]; exact Nat.ne_of_gt (blk_lt (g := gc3_0) (o := .cells #[.int .i64 a3_0_0] 3 (0, 0)) (upK BK266)) : gb267 ≠ gc3_0)); clear BK266; clear HB; have BK266 := n0_; have HB := n1_; have BK267 := n2_; have GW267 := n3_; have GE267 := n4_; have NB266_267 := n5_; have NB267_266 := n6_; clear n0_ n1_ n2_ n3_ n4_ n5_ n6_; clear hb hbox hg) | ((with_reducible refine gate_dst (N := 8) rfl ?_); refine box_event ?hg (N := 8) ?hd (cs := #[.int .i64 0, .int .i64 0, .slice none 0 0]) (t := 48) ?hr ?_; (case hd => rfl); (case hg => rfl); (case hr => first | (go_simp; done) | (go_simp; rfl)); intro gb268 hg w6 hbox hb; have n0_ := Aside0.mk (blk_below (g := gc3_0) (o := .cells #[.int .i64 a3_0_0] 3 (0, 0)) (upK BK266) hb); have n1_ := Aside0.mk (blk_below (upK BK267) hb); have n2_ := Aside0.mk (below_step (upW HB) hb); have n3_ := Aside0.mk (hbox); have n4_ := Aside0.mk ((by rw [hg]; exact (below_size (upW HB)) : w.heap.size ≤ gb268)); have n5_ := Aside0.mk ((by rw [hg]; exact (below_size (upW HB)) : w.heap.size ≤ gb268)); have n6_ := Aside0.mk ((by rw [hg]; exact Nat.ne_of_lt (blk_lt (g := gc3_0) (o := .cells #[.int .i64 a3_0_0] 3 (0, 0)) (upK BK266)) : gc3_0 ≠ gb268)); have n7_ := Aside0.mk ((by rw [hg]; exact Nat.ne_of_gt (blk_lt (g := gc3_0) (o := .cells #[.int .i64 a3_0_0] 3 (0, 0)) (upK BK266)) : gb268 ≠ gc3_0)); have n8_ := Aside0.mk ((by rw [hg]; exact Nat.ne_of_lt (blk_lt (upK BK267)) : gb267 ≠ gb268)); have n9_ := Aside0.mk ((by rw [hg]; exact Nat.ne_of_gt (blk_lt (upK BK267)) : gb268 ≠ gb267)); clear BK266; clear BK267; clear HB; have BK266 := n0_; have BK267 := n1_; have HB := n2_; have BK268 := n3_; have GW268 := n4_; have GE268 := n5_; have NB266_268 := n6_; have NB268_266 := n7_; have NB267_268 := n8_; have NB268_267 := n9_; clear n0_ n1_ n2_ n3_ n4_ n5_ n6_ n7_ n8_ n9_; clear hb hbox hg) | ((with_reducible refine gate_dst (N := 9) rfl ?_); refine box_event ?hg (N := 9) ?hd (cs := #[.int .i64 0, .int .i64 0, .slice none 0 0]) (t := 48) ?hr ?_; (case hd => rfl); (case hg => rfl); (case hr => first | (go_simp; done) | (go_simp; rfl)); intro gb269 hg w7 hbox hb; have n0_ := Aside0.mk (blk_below (g := gc3_0) (o := .cells #[.int .i64 a3_0_0] 3 (0, 0)) (upK BK266) hb); have n1_ := Aside0.mk (blk_below (upK BK267) hb); have n2_ := Aside0.mk (blk_below (upK BK268) hb); have n3_ := Aside0.mk (below_step (upW HB) hb); have n4_ := Aside0.mk (hbox); have n5_ := Aside0.mk ((by rw [hg]; exact (below_size (upW HB)) : w.heap.size ≤ gb269)); have n6_ := Aside0.mk ((by rw [hg]; exact (below_size (upW HB)) : w.heap.size ≤ gb269)); have n7_ := Aside0.mk ((by rw [hg]; exact Nat.ne_of_lt (blk_lt (g := gc3_0) (o := .cells #[.int .i64 a3_0_0] 3 (0, 0)) (upK BK266)) : gc3_0 ≠ gb269)); have n8_ := Aside0.mk ((by rw [hg]; exact Nat.ne_of_gt (blk_lt (g := gc3_0) (o := .cells #[.int .i64 a3_0_0] 3 (0, 0)) (upK BK266)) : gb269 ≠ gc3_0)); have n9_ := Aside0.mk ((by rw [hg]; exact Nat.ne_of_lt (blk_lt (upK BK267)) : gb267 ≠ gb269)); have n10_ := Aside0.mk ((by rw [hg]; exact Nat.ne_of_gt (blk_lt (upK BK267)) : gb269 ≠ gb267)); have n11_ := Aside0.mk ((by rw [hg]; exact Nat.ne_of_lt (blk_lt (upK BK268)) : gb268 ≠ gb269)); have n12_ := Aside0.mk ((by rw [hg]; exact Nat.ne_of_gt (blk_lt (upK BK268)) : gb269 ≠ gb268)); clear BK266; clear BK267; clear BK268; clear HB; have BK266 := n0_; have BK267 := n1_; have BK268 := n2_; have HB := n3_; have BK269 := n4_; have GW269 := n5_; have GE269 := n6_; have NB266_269 := n7_; have NB269_266 := n8_; have NB267_269 := n9_; have NB269_267 := n10_; have NB268_269 := n11_; have NB269_268 := n12_; clear n0_ n1_ n2_ n3_ n4_ n5_ n6_ n7_ n8_ n9_ n10_ n11_ n12_; clear hb hbox hg; have hnb8 := NB269_266.out; have hnc8 := NB266_269.out; have hnb9 := NB269_267.out; have hnc9 := NB267_269.out; have hnb10 := NB269_268.out; have hnc10 := NB268_269.out; have hcz11_0 : w7.cell? ⟨gb269, 0, none⟩ = some (.int .i64 0) := (blk_cell BK269.out 0).trans rfl; have hcz11_1 : w7.cell? ⟨gb269, 1, none⟩ = some (.int .i64 0) := (blk_cell BK269.out 1).trans rfl; have hcz11_2 : w7.cell? ⟨gb269, 2, none⟩ = some (.slice none 0 0) := (blk_cell BK269.out 2).trans rfl; have hfz11_0 := blk_frozen BK269.out 0; have hfz11_1 := blk_frozen BK269.out 1; have hfz11_2 := blk_frozen BK269.out 2; have hnb12 := NB267_266.out; have hnc12 := NB266_267.out; have hnb13 := NB267_268.out; have hnc13 := NB268_267.out; have hcz14_0 : w7.cell? ⟨gb267, 0, none⟩ = some (.int .i64 a0_0) := (blk_cell BK267.out 0).trans rfl; have hcz14_1 : w7.cell? ⟨gb267, 1, none⟩ = some (.int .i64 a0_1) := (blk_cell BK267.out 1).trans rfl; have hcz14_2 : w7.cell? ⟨gb267, 2, none⟩ = some (.slice A0_2 l0_2.length c0_2) := (blk_cell BK267.out 2).trans rfl; have hfz14_0 := blk_frozen BK267.out 0; have hfz14_1 := blk_frozen BK267.out 1; have hfz14_2 := blk_frozen BK267.out 2))
 go_loopg [18] k (fun kq v18 w' => ∃ (x18_1 : Int) (x270002_1 : List (S83)) (u270002 : Value), v18 = .int .i64 x18_1 ∧ Aside0 (impl_Cut_changed__impl_Cut_grown_1.l0 kq l0_2 (l0_2.length : Int) x18_1 a3_0_0 a1 a2 x270002_1 = some (r1, r2, r3)) ∧ Aside0 (kq ≤ k) ∧ Aside0 (Kd.R k83 83 w' w.heap.size (fun _ => True) u270002 x270002_1) ∧ Aside0 (w'.heap[gc3_0]? = some (.cells #[.int .i64 a3_0_0] 3 (0, 0))) ∧ Aside0 (w'.heap[gb267]? = some (.cells #[.int .i64 a0_0, .int .i64 a0_1, (.slice A0_2 l0_2.length c0_2)] 48 (0, 0))) ∧ Aside0 (w'.heap[gb268]? = some (.cells #[.int .i64 0, .int .i64 0, (.slice none 0 0)] 48 (0, 0))) ∧ Aside0 (w'.heap[gb269]? = some (.cells #[.int .i64 a1, .int .i64 a2, u270002] 48 (0, 0))) ∧ Aside0 (Below w.heap.size w w'))
 case atStart => exact ⟨(0), (([] : List (S83))), (.slice none 0 0), (by first | rfl | (simp; done) | (simp [*]; done)), H', ⟨Nat.le_refl _⟩, ⟨by first | exact Kd.R_nil _ _ _ _ _ | exact Kd.N_nil _ _ _ _ _ | exact Kd.V_nil _ _ _ _ _ | exact Kd.Q_nil _ _ _ _ _ | exact Kd.S_nil _ _ _ _ _⟩, ⟨upF BK266⟩, ⟨upF BK267⟩, ⟨upF BK268⟩, ⟨by (with_reducible repeat (first | refine blk_drewN ?_ _ | refine blk_drew ?_ | refine blk_alloc ?_ _)); refine blk_put (cs := #[.int .i64 a1, .int .i64 a2, .slice none 0 0]) ?_ 2 _ rfl; (with_reducible repeat (first | refine blk_drewN ?_ _ | refine blk_drew ?_ | refine blk_alloc ?_ _)); refine blk_put (cs := #[.int .i64 a1, .int .i64 0, .slice none 0 0]) ?_ 1 _ rfl; (with_reducible repeat (first | refine blk_drewN ?_ _ | refine blk_drew ?_ | refine blk_alloc ?_ _)); refine blk_put (cs := #[.int .i64 0, .int .i64 0, .slice none 0 0]) ?_ 0 _ rfl; (with_reducible repeat (first | refine blk_drewN ?_ _ | refine blk_drew ?_ | refine blk_alloc ?_ _)); exact BK269.out⟩, ⟨upW HB⟩⟩
 case round =>
  clear H'
  try clear c1
  try clear p2
  try clear c3
  try clear c8
  try clear c9
  try clear c10
  try clear c12
  try clear c13
  try clear hcz11_0
  try clear hcz11_1
  try clear hcz11_2
  try clear hcz14_0
  try clear hcz14_1
  try clear hcz14_2
  try clear hfz11_0
  try clear hfz11_1
  try clear hfz11_2
  try clear hfz14_0
  try clear hfz14_1
  try clear hfz14_2
  obtain ⟨x18_1, x270002_1, u270002, rfl, HA, HK1, HO_270002, BK266, BK267, BK268, BK269, HB⟩ := hrel
  cases gk with
  | zero => exact absurd HA.out (by simp [impl_Cut_changed__impl_Cut_grown_1.l0])
  | succ k1 =>
   have H := HA.out
   clear HA
   simp only [impl_Cut_changed__impl_Cut_grown_1.l0] at H
   by_cases c15 : x18_1 < (l0_2.length : Int)
   ·rw [if_pos c15] at H
    have c15b0 : decide (x18_1 < (l0_2.length : Int)) = true := decide_eq_true c15
    clear c15
    by_cases c16 : 0 ≤ x18_1
    ·rw [if_pos c16] at H
     have c16b0 : decide (0 ≤ x18_1) = true := decide_eq_true c16
     clear c16
     by_cases c17 : x18_1 < (l0_2.length : Int)
     ·rw [if_pos c17] at H
      have c17b0 : decide (x18_1 < (l0_2.length : Int)) = true := decide_eq_true c17
      clear c17
      replace H := Option.bind_eq_some_iff.mp H
      obtain ⟨⟨t272, t273, t274⟩, A180, H⟩ := H
      replace H : (if x270002_1.length < 5864062014805 then (impl_Cut_changed__impl_Cut_grown_1.l0 k1 l0_2 (l0_2.length : Int) (wrap64 (x18_1 + 1)) a3_0_0 a1 a2 (x270002_1 ++ [(⟨t272, t273, t274⟩ : S83)])) else (none)) = some (r1, r2, r3) := H
      have A18 := Aside0.mk A180
      clear A180
      by_cases c19 : x270002_1.length < 5864062014805
      ·rw [if_pos c19] at H
       have LMc19 := Aside0.mk c19
       clear c19
       obtain ⟨y275, hy275⟩ : ∃ y_ : List (S83), y_ = (x270002_1 ++ [(⟨t272, t273, t274⟩ : S83)]) := ⟨_, rfl⟩
       replace H : (impl_Cut_changed__impl_Cut_grown_1.l0 k1 l0_2 (l0_2.length : Int) (wrap64 (x18_1 + 1)) a3_0_0 a1 a2 y275) = some (r1, r2, r3) := by first | (rw [hy275]; with_reducible exact H) | (have H2_ := (Option.bind_some _ _).symm.trans H; rw [hy275]; with_reducible exact H2_) | (have H2_ := (Option.bind_some _ _).symm.trans H; with_reducible exact H2_) | with_reducible exact H | (rw [hy275]; exact H) | exact H
       have Ny275 := Aside0.mk hy275
       clear hy275
       have H' := Aside0.mk H
       clear H
       have p270 : 0 ≤ (x18_1 : Int) := of_decide_eq_true (by first | (with_reducible assumption) | assumption)
       have q270 : x18_1 < (l0_2.length : Int) := of_decide_eq_true (by first | (with_reducible assumption) | assumption)
       obtain ⟨ad270, e270, hx270_0, hx270_1, hx270_2⟩ := at_T83 HR0_2.out x18_1 p270 q270
       cases e270
       replace hx270_0 := (HB.out.cell (World.block_lt_of_cell? w _ hx270_0)).trans hx270_0
       replace hx270_1 := (HB.out.cell (World.block_lt_of_cell? w _ hx270_1)).trans hx270_1
       replace hx270_2 := (HB.out.cell (World.block_lt_of_cell? w _ hx270_2)).trans hx270_2
       replace p270 := eq_true p270
       replace q270 := eq_true q270
       try go_wp2_with (first | ((with_reducible refine gate_dst (N := 11) rfl ?_); refine box_event ?hg (N := 11) ?hd (cs := #[.int .i64 0, .int .i64 0, .int .i64 0]) (t := 83) ?hr ?_; (case hd => rfl); (case hg => rfl); (case hr => first | (go_simp; done) | (go_simp; rfl)); intro gb271 hg w20 hbox hb; have n0_ := Aside0.mk (Kd.R_below (Kd.R_elderB (upR HO_270002) gb271 (Nat.le_of_eq hg.symm)) hb); have n1_ := Aside0.mk (blk_below (g := gc3_0) (o := .cells #[.int .i64 a3_0_0] 3 (0, 0)) (upK BK266) hb); have n2_ := Aside0.mk (blk_below (upK BK267) hb); have n3_ := Aside0.mk (blk_below (upK BK268) hb); have n4_ := Aside0.mk (blk_below (upK BK269) hb); have n5_ := Aside0.mk (below_step (upW HB) hb); have n6_ := Aside0.mk (hbox); have n7_ := Aside0.mk ((by rw [hg]; exact (below_size (upW HB)) : w.heap.size ≤ gb271)); have n8_ := Aside0.mk ((by rw [hg]; exact (below_size (upW HB)) : w.heap.size ≤ gb271)); have n9_ := Aside0.mk ((by rw [hg]; exact Nat.ne_of_lt (blk_lt (g := gc3_0) (o := .cells #[.int .i64 a3_0_0] 3 (0, 0)) (upK BK266)) : gc3_0 ≠ gb271)); have n10_ := Aside0.mk ((by rw [hg]; exact Nat.ne_of_gt (blk_lt (g := gc3_0) (o := .cells #[.int .i64 a3_0_0] 3 (0, 0)) (upK BK266)) : gb271 ≠ gc3_0)); have n11_ := Aside0.mk ((by rw [hg]; exact Nat.ne_of_lt (blk_lt (upK BK267)) : gb267 ≠ gb271)); have n12_ := Aside0.mk ((by rw [hg]; exact Nat.ne_of_gt (blk_lt (upK BK267)) : gb271 ≠ gb267)); have n13_ := Aside0.mk ((by rw [hg]; exact Nat.ne_of_lt (blk_lt (upK BK268)) : gb268 ≠ gb271)); have n14_ := Aside0.mk ((by rw [hg]; exact Nat.ne_of_gt (blk_lt (upK BK268)) : gb271 ≠ gb268)); have n15_ := Aside0.mk ((by rw [hg]; exact Nat.ne_of_lt (blk_lt (upK BK269)) : gb269 ≠ gb271)); have n16_ := Aside0.mk ((by rw [hg]; exact Nat.ne_of_gt (blk_lt (upK BK269)) : gb271 ≠ gb269)); clear HO_270002; clear BK266; clear BK267; clear BK268; clear BK269; clear HB; have HO_270002 := n0_; have BK266 := n1_; have BK267 := n2_; have BK268 := n3_; have BK269 := n4_; have HB := n5_; have BK271 := n6_; have GW271 := n7_; have GE271 := n8_; have NB266_271 := n9_; have NB271_266 := n10_; have NB267_271 := n11_; have NB271_267 := n12_; have NB268_271 := n13_; have NB271_268 := n14_; have NB269_271 := n15_; have NB271_269 := n16_; clear n0_ n1_ n2_ n3_ n4_ n5_ n6_ n7_ n8_ n9_ n10_ n11_ n12_ n13_ n14_ n15_ n16_; clear hb hbox hg; have hnb21 := NB271_266.out; have hnc21 := NB266_271.out; have hnb22 := NB271_267.out; have hnc22 := NB267_271.out; have hnb23 := NB271_268.out; have hnc23 := NB268_271.out; have hnb24 := NB271_269.out; have hnc24 := NB269_271.out; have hcz25_0 : w20.cell? ⟨gb271, 0, none⟩ = some (.int .i64 0) := (blk_cell BK271.out 0).trans rfl; have hcz25_1 : w20.cell? ⟨gb271, 1, none⟩ = some (.int .i64 0) := (blk_cell BK271.out 1).trans rfl; have hcz25_2 : w20.cell? ⟨gb271, 2, none⟩ = some (.int .i64 0) := (blk_cell BK271.out 2).trans rfl; have hfz25_0 := blk_frozen BK271.out 0; have hfz25_1 := blk_frozen BK271.out 1; have hfz25_2 := blk_frozen BK271.out 2))
       have n0_ : Aside0 (Kd.R k83 83 (((w20.setCell ⟨gb271, 0, none⟩ (.int .i64 ((rd_T83 l0_2 x18_1).f0))).setCell ⟨gb271, 1, none⟩ (.int .i64 ((rd_T83 l0_2 x18_1).f1))).setCell ⟨gb271, 2, none⟩ (.int .i64 ((rd_T83 l0_2 x18_1).f2))) w.heap.size (fun k_ => k_ ≠ gb271) u270002 x270002_1) := ⟨by (with_reducible repeat (first | apply Kd.R_alloc | apply Kd.R_drewN | apply Kd.R_drew)); exact Kd.R_mono (Kd.R_far (p := ⟨gb271, 2, none⟩) (Kd.R_far (p := ⟨gb271, 1, none⟩) (Kd.R_far (p := ⟨gb271, 0, none⟩) (Kd.R_mono HO_270002.out (fun k_ hk => (⟨hk, hk.2⟩ : _ ∧ k_ ≠ gb271))) (fun _ hk => hk.2) (.int .i64 ((rd_T83 l0_2 x18_1).f0))) (fun _ hk => hk.2) (.int .i64 ((rd_T83 l0_2 x18_1).f1))) (fun _ hk => hk.2) (.int .i64 ((rd_T83 l0_2 x18_1).f2))) (fun _ hk => hk.1.2)⟩
       have n1_ : Aside0 ((((w20.setCell ⟨gb271, 0, none⟩ (.int .i64 ((rd_T83 l0_2 x18_1).f0))).setCell ⟨gb271, 1, none⟩ (.int .i64 ((rd_T83 l0_2 x18_1).f1))).setCell ⟨gb271, 2, none⟩ (.int .i64 ((rd_T83 l0_2 x18_1).f2))).heap[gc3_0]? = some (.cells #[.int .i64 a3_0_0] 3 (0, 0))) := ⟨upF BK266⟩
       have n2_ : Aside0 ((((w20.setCell ⟨gb271, 0, none⟩ (.int .i64 ((rd_T83 l0_2 x18_1).f0))).setCell ⟨gb271, 1, none⟩ (.int .i64 ((rd_T83 l0_2 x18_1).f1))).setCell ⟨gb271, 2, none⟩ (.int .i64 ((rd_T83 l0_2 x18_1).f2))).heap[gb267]? = some (.cells #[.int .i64 a0_0, .int .i64 a0_1, .slice (some ad270) l0_2.length c0_2] 48 (0, 0))) := ⟨upF BK267⟩
       have n3_ : Aside0 ((((w20.setCell ⟨gb271, 0, none⟩ (.int .i64 ((rd_T83 l0_2 x18_1).f0))).setCell ⟨gb271, 1, none⟩ (.int .i64 ((rd_T83 l0_2 x18_1).f1))).setCell ⟨gb271, 2, none⟩ (.int .i64 ((rd_T83 l0_2 x18_1).f2))).heap[gb268]? = some (.cells #[.int .i64 0, .int .i64 0, .slice none 0 0] 48 (0, 0))) := ⟨upF BK268⟩
       have n4_ : Aside0 ((((w20.setCell ⟨gb271, 0, none⟩ (.int .i64 ((rd_T83 l0_2 x18_1).f0))).setCell ⟨gb271, 1, none⟩ (.int .i64 ((rd_T83 l0_2 x18_1).f1))).setCell ⟨gb271, 2, none⟩ (.int .i64 ((rd_T83 l0_2 x18_1).f2))).heap[gb269]? = some (.cells #[.int .i64 a1, .int .i64 a2, u270002] 48 (0, 0))) := ⟨upF BK269⟩
       have n5_ : Aside0 ((((w20.setCell ⟨gb271, 0, none⟩ (.int .i64 ((rd_T83 l0_2 x18_1).f0))).setCell ⟨gb271, 1, none⟩ (.int .i64 ((rd_T83 l0_2 x18_1).f1))).setCell ⟨gb271, 2, none⟩ (.int .i64 ((rd_T83 l0_2 x18_1).f2))).heap[gb271]? = some (.cells #[.int .i64 ((rd_T83 l0_2 x18_1).f0), .int .i64 ((rd_T83 l0_2 x18_1).f1), .int .i64 ((rd_T83 l0_2 x18_1).f2)] 83 (0, 0))) := ⟨by (with_reducible repeat (first | refine blk_drewN ?_ _ | refine blk_drew ?_ | refine blk_alloc ?_ _)); refine blk_put (cs := #[.int .i64 ((rd_T83 l0_2 x18_1).f0), .int .i64 ((rd_T83 l0_2 x18_1).f1), .int .i64 0]) ?_ 2 _ rfl; (with_reducible repeat (first | refine blk_drewN ?_ _ | refine blk_drew ?_ | refine blk_alloc ?_ _)); refine blk_put (cs := #[.int .i64 ((rd_T83 l0_2 x18_1).f0), .int .i64 0, .int .i64 0]) ?_ 1 _ rfl; (with_reducible repeat (first | refine blk_drewN ?_ _ | refine blk_drew ?_ | refine blk_alloc ?_ _)); refine blk_put (cs := #[.int .i64 0, .int .i64 0, .int .i64 0]) ?_ 0 _ rfl; (with_reducible repeat (first | refine blk_drewN ?_ _ | refine blk_drew ?_ | refine blk_alloc ?_ _)); exact BK271.out⟩
       have n6_ : Aside0 (Below w.heap.size w (((w20.setCell ⟨gb271, 0, none⟩ (.int .i64 ((rd_T83 l0_2 x18_1).f0))).setCell ⟨gb271, 1, none⟩ (.int .i64 ((rd_T83 l0_2 x18_1).f1))).setCell ⟨gb271, 2, none⟩ (.int .i64 ((rd_T83 l0_2 x18_1).f2)))) := ⟨upW HB⟩
       (try clear HO_270002)
       (try clear BK266)
       (try clear BK267)
       (try clear BK268)
       (try clear BK269)
       (try clear BK271)
       (try clear HB)
       (try simp only [drewN_setCell])
       generalize (((w20.setCell ⟨gb271, 0, none⟩ (.int .i64 ((rd_T83 l0_2 x18_1).f0))).setCell ⟨gb271, 1, none⟩ (.int .i64 ((rd_T83 l0_2 x18_1).f1))).setCell ⟨gb271, 2, none⟩ (.int .i64 ((rd_T83 l0_2 x18_1).f2))) = w26 at n0_ n1_ n2_ n3_ n4_ n5_ n6_ ⊢
       have HO_270002 := n0_
       have BK266 := n1_
       have BK267 := n2_
       have BK268 := n3_
       have BK269 := n4_
       have BK271 := n5_
       have HB := n6_
       clear n0_ n1_ n2_ n3_ n4_ n5_ n6_
       have n0_ := Aside0.mk (Kd.R_drew HO_270002.out)
       have n1_ := Aside0.mk (blk_drew BK266.out)
       have n2_ := Aside0.mk (blk_drew BK267.out)
       have n3_ := Aside0.mk (blk_drew BK268.out)
       have n4_ := Aside0.mk (blk_drew BK269.out)
       have n5_ := Aside0.mk (blk_drew BK271.out)
       have n6_ := Aside0.mk (below_drew1 HB.out)
       clear HO_270002
       clear BK266
       clear BK267
       clear BK268
       clear BK269
       clear BK271
       clear HB
       have HO_270002 := n0_
       have BK266 := n1_
       have BK267 := n2_
       have BK268 := n3_
       have BK269 := n4_
       have BK271 := n5_
       have HB := n6_
       clear n0_ n1_ n2_ n3_ n4_ n5_ n6_
       refine start_ (n := 9) (S := fun w' => w'.cell? ⟨gb269, 0, none⟩ = some (.int .i64 a1) ∧ w'.cell? ⟨gb269, 1, none⟩ = some (.int .i64 a2) ∧ w'.cell? ⟨gb269, 2, none⟩ = some (u270002) ∧ w'.cell? ⟨gb271, 0, none⟩ = some (.int .i64 ((rd_T83 l0_2 x18_1).f0)) ∧ w'.cell? ⟨gb271, 1, none⟩ = some (.int .i64 ((rd_T83 l0_2 x18_1).f1)) ∧ w'.cell? ⟨gb271, 2, none⟩ = some (.int .i64 ((rd_T83 l0_2 x18_1).f2))) (ds := [8]) #[false, false, false, false, false, false, false, false, false] (by kernel_rfl) rfl rfl ⟨(blk_cell BK269.out 0).trans rfl, (blk_cell BK269.out 1).trans rfl, (blk_cell BK269.out 2).trans rfl, (blk_cell BK271.out 0).trans rfl, (blk_cell BK271.out 1).trans rfl, (blk_cell BK271.out 2).trans rfl⟩ (fun hHeld => ?_); refine with_tabW impl_Cut_changed__impl_Cut_grown_1.tab5 impl_Cut_changed__impl_Cut_grown_1.bits5 (fun HT_ HW_ => ?_)
       generalize w26.drew = w27 at HO_270002 BK266 BK267 BK268 BK269 BK271 HB hHeld ⊢
       refine pure_ (i := 0) (N := some 22) (v := ?_) (a' := ?_) #[true, false, false, false, false, false, false, false, false] rfl rfl (any_of HT_.out (by kernel_rfl)) (fun _ _ _ h => h) (Or.inl ⟨by rfl, ?_⟩) ?_ ?_
       rotate_left
       ·intro w'
        go_simp
        with_reducible rfl
       rotate_left
       ·simp only [Act.put, List.setIfInBounds_toArray, List.set_cons_zero, List.set_cons_succ, i64_w, i32_w]
        rfl
       refine pure_ (i := 2) (N := some 24) (v := ?_) (a' := ?_) #[true, false, true, false, false, false, false, false, false] rfl rfl (any_of HT_.out (by kernel_rfl)) (fun _ _ _ h => h) (Or.inl ⟨by rfl, ?_⟩) ?_ ?_
       rotate_left
       ·intro w'
        go_simp
        with_reducible rfl
       rotate_left
       ·simp only [Act.put, List.setIfInBounds_toArray, List.set_cons_zero, List.set_cons_succ, i64_w, i32_w]
        rfl
       refine take_ (i := 1) (N := some 23) (v := ?_) (a' := ?_) #[true, true, true, false, false, false, false, false, false] rfl rfl (take_ofW HT_.out HW_.out (by kernel_rfl)) (fun _ _ _ h => h) (Or.inl ⟨by rfl, ?_⟩) hHeld ?_ ?_
       rotate_left
       ·rintro w' ⟨s0, s1, s2, s3, s4, s5⟩
        go_simp
        with_reducible rfl
       rotate_left
       ·simp only [Act.put, List.setIfInBounds_toArray, List.set_cons_zero, List.set_cons_succ, i64_w, i32_w]
        rfl
       refine take_ (i := 3) (N := some 25) (v := ?_) (a' := ?_) #[true, true, true, true, false, false, false, false, false] rfl rfl (take_ofW HT_.out HW_.out (by kernel_rfl)) (fun _ _ _ h => h) (Or.inl ⟨by rfl, ?_⟩) hHeld ?_ ?_
       rotate_left
       ·rintro w' ⟨s0, s1, s2, s3, s4, s5⟩
        go_simp
        with_reducible rfl
       rotate_left
       ·simp only [Act.put, List.setIfInBounds_toArray, List.set_cons_zero, List.set_cons_succ, i64_w, i32_w]
        rfl
       refine one_ (i := 4) (N := some 26) #[true, true, true, true, true, false, false, false, false] rfl rfl (one_of HT_.out (by kernel_rfl)) (by decide) (fun K hK => ?_)
       (first | (refine goes_ Try.func111 (by kernel_rfl) rfl #[.agg #[.int .i64 ((rd_T83 l0_2 x18_1).f0), .int .i64 ((rd_T83 l0_2 x18_1).f1), .int .i64 ((rd_T83 l0_2 x18_1).f2)], .pointer (some ⟨gc3_0, 0, none⟩)] (by rfl) rfl rfl itp ?_) | (refine goesv_ Try.func111 (by kernel_rfl) rfl #[.agg #[.int .i64 ((rd_T83 l0_2 x18_1).f0), .int .i64 ((rd_T83 l0_2 x18_1).f1), .int .i64 ((rd_T83 l0_2 x18_1).f2)], .pointer (some ⟨gc3_0, 0, none⟩)] (by rfl) rfl rfl (by rfl) itpv ?_))
       with_reducible refine (impl_Cut_grown_1.calls ((rd_T83 l0_2 x18_1).f0) ((rd_T83 l0_2 x18_1).f1) ((rd_T83 l0_2 x18_1).f2) gc3_0 a3_0_0 t272 t273 t274 _ ?side1 A18.out).mono ?_
       (case side1 => exact (upK BK266))
       rintro e w28 ⟨rfl, hb⟩
       refine ⟨_, rfl, ?_⟩
       have n0_ := Aside0.mk (Kd.R_below (upR HO_270002) hb)
       have n1_ := Aside0.mk (blk_below (g := gc3_0) (o := .cells #[.int .i64 a3_0_0] 3 (0, 0)) (upK BK266) hb)
       have n2_ := Aside0.mk (blk_below (upK BK267) hb)
       have n3_ := Aside0.mk (blk_below (upK BK268) hb)
       have n4_ := Aside0.mk (blk_below (upK BK269) hb)
       have n5_ := Aside0.mk (blk_below (upK BK271) hb)
       have n6_ := Aside0.mk (below_step (upW HB) hb)
       clear HO_270002
       clear BK266
       clear BK267
       clear BK268
       clear BK269
       clear BK271
       clear HB
       have HO_270002 := n0_
       have BK266 := n1_
       have BK267 := n2_
       have BK268 := n3_
       have BK269 := n4_
       have BK271 := n5_
       have HB := n6_
       clear n0_ n1_ n2_ n3_ n4_ n5_ n6_
       (try clear hb)
       (try clear hb2)
       (try clear hk)
       (try clear hi)
       refine hK.out _ _ ⟨(blk_cell BK269.out 0).trans rfl, (blk_cell BK269.out 1).trans rfl, (blk_cell BK269.out 2).trans rfl, (blk_cell BK271.out 0).trans rfl, (blk_cell BK271.out 1).trans rfl, (blk_cell BK271.out 2).trans rfl⟩ (fun hHeld => ?_)
       clear hK K
       refine norm_ (a' := ?_) ?_ ?_
       rotate_left
       ·show Act.put _ (some 26) _ = _
        simp only [Act.put, List.setIfInBounds_toArray, List.set_cons_zero, List.set_cons_succ, i64_w, i32_w]
        rfl
       refine one_ (i := 5) (N := some 27) #[true, true, true, true, true, true, false, false, false] rfl rfl (one_of HT_.out (by kernel_rfl)) (by decide) (fun K hK => ?_)
       refine value_ (w1 := ?_) (v := ?_) (by rfl) rfl ?_ ?_
       rotate_left 2
       ·go_simp
        constructor
        ·rfl
        ·rfl
       refine hK.out _ _ ⟨(blk_cell (blk_alloc BK269.out _) 0).trans rfl, (blk_cell (blk_alloc BK269.out _) 1).trans rfl, (blk_cell (blk_alloc BK269.out _) 2).trans rfl, (blk_cell (blk_alloc BK271.out _) 0).trans rfl, (blk_cell (blk_alloc BK271.out _) 1).trans rfl, (blk_cell (blk_alloc BK271.out _) 2).trans rfl⟩ (fun hHeld => ?_)
       clear hK K
       refine norm_ (a' := ?_) ?_ ?_
       rotate_left
       ·show Act.put _ (some 27) _ = _
        simp only [Act.put, List.setIfInBounds_toArray, List.set_cons_zero, List.set_cons_succ, i64_w, i32_w]
        rfl
       refine one_ (i := 6) (N := some 28) #[true, true, true, true, true, true, true, false, false] rfl rfl (one_of HT_.out (by kernel_rfl)) (by decide) (fun K hK => ?_)
       refine Kd.R_append_step k83 (w0 := w) w.heap.size (by rfl) (.tmp 23) (.tmp 27) 46 83 (.agg #[(.int .i64 0), (.int .i64 0), (.int .i64 0)]) 24 rfl Try.underlying46 info83 rfl (by decide) (by omega) u270002 x270002_1 (⟨t272, t273, t274⟩ : S83) [.int .i64 t272, .int .i64 t273, .int .i64 t274] (fun k_ => k_ ≠ gb271) (fun _ => False) rfl rfl ?aP (fun _ hk => hk.elim) ?aF ?aO ?aB ?aS ?aL ?_
       (case aP => exact k83_mkM _ _ _ (⟨t272, t273, t274⟩ : S83))
       (case aB => exact (upW HB))
       (case aF => exact (fun k_ hk => Kd.freshB (g := gb271) (o := .cells #[.int .i64 ((rd_T83 l0_2 x18_1).f0), .int .i64 ((rd_T83 l0_2 x18_1).f1), .int .i64 ((rd_T83 l0_2 x18_1).f2)] 83 (0, 0)) (upK BK271) k_ hk))
       (case aO => exact (upR HO_270002))
       (case aS => exact (below_size (upW HB)))
       (case aL => have := LMc19.out; omega)
       intro v276 w29 ho hb hg hat
       rw [← Ny275.out] at ho
       have n0_ := Aside0.mk (blk_grown (g := gc3_0) (o := .cells #[.int .i64 a3_0_0] 3 (0, 0)) (upK BK266) hg (Kd.R_ne HO_270002.out BK266.out (by decide)))
       have n1_ := Aside0.mk (blk_grown (upK BK267) hg (Kd.R_ne HO_270002.out BK267.out (by decide)))
       have n2_ := Aside0.mk (blk_grown (upK BK268) hg (Kd.R_ne HO_270002.out BK268.out (by decide)))
       have n3_ := Aside0.mk (blk_grown (upK BK269) hg (Kd.R_ne HO_270002.out BK269.out (by decide)))
       have n4_ := Aside0.mk (blk_grown (upK BK271) hg (Kd.R_away HO_270002.out (fun _ hk => hk)))
       have n5_ := Aside0.mk (hb)
       have n6_ := Aside0.mk (ho)
       clear BK266
       clear BK267
       clear BK268
       clear BK269
       clear BK271
       clear HB
       clear HO_270002
       have BK266 := n0_
       have BK267 := n1_
       have BK268 := n2_
       have BK269 := n3_
       have BK271 := n4_
       have HB := n5_
       have HO277 := n6_
       clear n0_ n1_ n2_ n3_ n4_ n5_ n6_
       clear ho hb hg hat
       obtain ⟨Ao30, co30, eo30⟩ := Kd.R_slice HO277.out
       (first | subst eo30 | (injection eo30 with f1_ f2_ f3_; have f4_ := f1_.symm; have f5_ := f3_.symm; clear f1_ f2_ f3_; subst f4_; subst f5_))
       refine hK.out _ _ ⟨(blk_cell BK269.out 0).trans rfl, (blk_cell BK269.out 1).trans rfl, (blk_cell BK269.out 2).trans rfl, (blk_cell BK271.out 0).trans rfl, (blk_cell BK271.out 1).trans rfl, (blk_cell BK271.out 2).trans rfl⟩ (fun hHeld => ?_)
       clear hK K
       refine norm_ (a' := ?_) ?_ ?_
       rotate_left
       ·show Act.put _ (some 28) _ = _
        simp only [Act.put, List.setIfInBounds_toArray, List.set_cons_zero, List.set_cons_succ, i64_w, i32_w]
        rfl
       refine pure_ (i := 7) (N := some 29) (v := ?_) (a' := ?_) #[true, true, true, true, true, true, true, true, false] rfl rfl (any_of HT_.out (by kernel_rfl)) (fun _ _ _ h => h) (Or.inl ⟨by rfl, ?_⟩) ?_ ?_
       rotate_left
       ·intro w'
        go_simp
        with_reducible rfl
       rotate_left
       ·simp only [Act.put, List.setIfInBounds_toArray, List.set_cons_zero, List.set_cons_succ, i64_w, i32_w]
        rfl
       refine last_ (i := 8) (N := none) #[true, true, true, true, true, true, true, true, true] rfl rfl (one_of HT_.out (by kernel_rfl)) (by decide) (fun K hK => ?_)
       have hs31 : w29.cell? ⟨gb269, 2, none⟩ = some (u270002) := (blk_cell BK269.out 2).trans rfl
       have hfs31 := blk_frozen BK269.out 2
       have hns31_0 := NB266_269.out
       have hns31_1 := NB267_269.out
       have hns31_2 := NB268_269.out
       have hns31_4 := NB271_269.out
       have hms31_0 := NB269_266.out
       have hms31_1 := NB269_267.out
       have hms31_2 := NB269_268.out
       have hms31_4 := NB269_271.out
       refine skip_ (w1 := ?_) (by rfl) rfl ?_ ?_
       rotate_left
       ·go_simp
        rfl
       refine hK.out _ _ ?_
       clear hK K
       refine done_ (done_of HT_.out (by kernel_rfl)) ?_
       try go_wp2
       go_roundg k1
       case measure => have := HK1.out; omega
       case rel => exact ⟨(wrap64 (x18_1 + 1)), (y275), (.slice Ao30 y275.length co30), (by first | rfl | (simp; done) | (simp [*]; done)), H', ⟨by have := HK1.out; omega⟩, ⟨by (with_reducible repeat (first | apply Kd.R_alloc | apply Kd.R_drewN | apply Kd.R_drew)); exact Kd.R_mono (Kd.R_far (p := ⟨gb269, 2, none⟩) (Kd.R_types HO277.out BK269.out (by decide)) (fun _ hk => hk.2) (.slice Ao30 y275.length co30)) (fun _ hk => trivial)⟩, ⟨upF BK266⟩, ⟨upF BK267⟩, ⟨upF BK268⟩, ⟨by (with_reducible repeat (first | refine blk_drewN ?_ _ | refine blk_drew ?_ | refine blk_alloc ?_ _)); refine blk_put (cs := #[.int .i64 a1, .int .i64 a2, u270002]) ?_ 2 _ rfl; (with_reducible repeat (first | refine blk_drewN ?_ _ | refine blk_drew ?_ | refine blk_alloc ?_ _)); exact BK269.out⟩, ⟨upW HB⟩⟩
      ·rw [if_neg c19] at H
       exact absurd H (by simp)
     ·rw [if_neg c17] at H
      exact absurd H (by simp)
    ·rw [if_neg c16] at H
     exact absurd H (by simp)
   ·rw [if_neg c15] at H
    have c15b0 : decide (x18_1 < (l0_2.length : Int)) = false := decide_eq_false c15
    clear c15
    replace H := Option.bind_eq_some_iff.mp H
    obtain ⟨t278, A320, H⟩ := H
    replace H : (some (a1, a2, t278)) = some (r1, r2, r3) := H
    have A32 := Aside0.mk A320
    clear A320
    simp only [Option.some.injEq, Prod.mk.injEq] at H
    obtain ⟨rfl, rfl, rfl⟩ := H
    have hnb33 := NB269_266.out
    have hnc33 := NB266_269.out
    have hnb34 := NB269_267.out
    have hnc34 := NB267_269.out
    have hnb35 := NB269_268.out
    have hnc35 := NB268_269.out
    have hcz36_0 : wr.cell? ⟨gb269, 0, none⟩ = some (.int .i64 a1) := (blk_cell BK269.out 0).trans rfl
    have hcz36_1 : wr.cell? ⟨gb269, 1, none⟩ = some (.int .i64 a2) := (blk_cell BK269.out 1).trans rfl
    have hcz36_2 : wr.cell? ⟨gb269, 2, none⟩ = some (u270002) := (blk_cell BK269.out 2).trans rfl
    have hfz36_0 := blk_frozen BK269.out 0
    have hfz36_1 := blk_frozen BK269.out 1
    have hfz36_2 := blk_frozen BK269.out 2
    obtain ⟨Ao37, co37, eo37⟩ := Kd.R_slice HO_270002.out
    subst eo37
    go_wp2_with (first | ((first | (with_reducible refine gate_callee (f := 116) rfl ?_) | refine gate_calleev (f := 116) rfl (by rfl) ?_); (first | (refine goesL_ (some 33) rfl rfl Try.func116 (by kernel_rfl) rfl #[.slice Ao37 x270002_1.length co37, .func (.func 102) #[] #[]] rfl itp ?_) | (refine goesvL_ (some 33) rfl rfl Try.func116 (by kernel_rfl) rfl #[.slice Ao37 x270002_1.length co37, .func (.func 102) #[] #[]] rfl (by rfl) itpv ?_)); (with_reducible refine (slices_SortFunc_impl_Square_impl_Square__impl_comparePlaces.calls (fun k_ => some k_ = (.slice Ao37 x270002_1.length co37 : Value).ownBlock) (.slice Ao37 x270002_1.length co37) x270002_1  t278 w _ ?side1 ?side2 A32.out).mono ?_); (case side1 => repeat (first | (with_reducible first | exact HB.out | apply below_alloc | apply pw_below_drewN | apply below_drew1 | refine below_set ?_ GE266.out | refine below_set ?_ GE267.out | refine below_set ?_ GE268.out | refine below_set ?_ GE269.out) | exact HB.out)); (case side2 => exact Kd.R_tight rfl HO_270002.out); rintro e w38 ⟨rfl, hy0, hb, hkp⟩; refine ⟨_, rfl, ?_⟩; have n0_ := Aside0.mk (Kd.R_reok rfl hy0 (fun k_ e_ => HO_270002.out.1 k_ e_)); have n1_ := Aside0.mk (blk_kept (upK BK266) hkp (fun hs_ => (fun e_ => (Kd.R_ne HO_270002.out BK266.out (by decide)) e_) hs_)); have n2_ := Aside0.mk (blk_kept (upK BK267) hkp (fun hs_ => (fun e_ => (Kd.R_ne HO_270002.out BK267.out (by decide)) e_) hs_)); have n3_ := Aside0.mk (blk_kept (upK BK268) hkp (fun hs_ => (fun e_ => (Kd.R_ne HO_270002.out BK268.out (by decide)) e_) hs_)); have n4_ := Aside0.mk (blk_kept (upK BK269) hkp (fun hs_ => (fun e_ => (Kd.R_ne HO_270002.out BK269.out (by decide)) e_) hs_)); have n5_ := Aside0.mk (hb); clear HO_270002; clear BK266; clear BK267; clear BK268; clear BK269; clear HB; have HO_270002 := n0_; have BK266 := n1_; have BK267 := n2_; have BK268 := n3_; have BK269 := n4_; have HB := n5_; clear n0_ n1_ n2_ n3_ n4_ n5_; (try clear hb); (try clear hkp); (try clear hy0); have hcz39_0 : w38.cell? ⟨gb269, 0, none⟩ = some (.int .i64 a1) := (blk_cell BK269.out 0).trans rfl; have hcz39_1 : w38.cell? ⟨gb269, 1, none⟩ = some (.int .i64 a2) := (blk_cell BK269.out 1).trans rfl; have hcz39_2 : w38.cell? ⟨gb269, 2, none⟩ = some (.slice Ao37 x270002_1.length co37) := (blk_cell BK269.out 2).trans rfl; have hfz39_0 := blk_frozen BK269.out 0; have hfz39_1 := blk_frozen BK269.out 1; have hfz39_2 := blk_frozen BK269.out 2; have hnb40 := NB268_266.out; have hnc40 := NB266_268.out; have hnb41 := NB268_267.out; have hnc41 := NB267_268.out; have hcz42_0 : w38.cell? ⟨gb268, 0, none⟩ = some (.int .i64 0) := (blk_cell BK268.out 0).trans rfl; have hcz42_1 : w38.cell? ⟨gb268, 1, none⟩ = some (.int .i64 0) := (blk_cell BK268.out 1).trans rfl; have hcz42_2 : w38.cell? ⟨gb268, 2, none⟩ = some (.slice none 0 0) := (blk_cell BK268.out 2).trans rfl; have hfz42_0 := blk_frozen BK268.out 0; have hfz42_1 := blk_frozen BK268.out 1; have hfz42_2 := blk_frozen BK268.out 2))
    refine bodyPost_ret (results_cell_row rfl _ _ gb268 48 #[.int .i64 a1, .int .i64 a2, .slice Ao37 x270002_1.length co37] (0, 0) _ rfl (by (with_reducible repeat (first | refine blk_drewN ?_ _ | refine blk_drew ?_ | refine blk_alloc ?_ _)); refine blk_put (cs := #[.int .i64 a1, .int .i64 a2, .slice none 0 0]) ?_ 2 _ rfl; (with_reducible repeat (first | refine blk_drewN ?_ _ | refine blk_drew ?_ | refine blk_alloc ?_ _)); refine blk_put (cs := #[.int .i64 a1, .int .i64 0, .slice none 0 0]) ?_ 1 _ rfl; (with_reducible repeat (first | refine blk_drewN ?_ _ | refine blk_drew ?_ | refine blk_alloc ?_ _)); refine blk_put (cs := #[.int .i64 0, .int .i64 0, .slice none 0 0]) ?_ 0 _ rfl; (with_reducible repeat (first | refine blk_drewN ?_ _ | refine blk_drew ?_ | refine blk_alloc ?_ _)); exact BK268.out) Try.underlying48 rfl (by kernel_rfl)) rfl ?_
    exact ⟨_, by first | rfl | (simp [errW_none, errW_some] <;> rfl) | (simp [*, errW_none, errW_some] <;> rfl), by (with_reducible repeat (first | apply Kd.R_alloc | apply Kd.R_drewN | apply Kd.R_drew)); exact Kd.R_mono (Kd.R_far (p := ⟨gb268, 2, none⟩) (Kd.R_far (p := ⟨gb268, 1, none⟩) (Kd.R_far (p := ⟨gb268, 0, none⟩) (Kd.R_types HO_270002.out BK268.out (by decide)) (fun _ hk => hk.2) (.int .i64 a1)) (fun _ hk => hk.2) (.int .i64 a2)) (fun _ hk => hk.2) (.slice Ao37 x270002_1.length co37)) (fun _ hk => trivial), by repeat (first | (with_reducible first | exact HB.out | apply below_alloc | apply pw_below_drewN | apply below_drew1 | refine below_set ?_ GE266.out | refine below_set ?_ GE267.out | refine below_set ?_ GE268.out | refine below_set ?_ GE269.out) | exact HB.out)⟩

/-! ### impl_Cut_grown: function 80 -/
def impl_Cut_grown.f (k : Nat) (a0_0 : Int) (a0_1 : Int) (l0_2 : List (S83)) (a1 : Int) : Option (Int × Int × (List (S83)) × Bool) := (impl_within.f a1 1 500).bind fun t282 => (if t282 = true then (if (wrap64 (a0_0 * a1)) > 500 then (some (0, 0, ([] : List (S83)), false)) else (if (wrap64 (a0_1 * a1)) > 500 then (some (0, 0, ([] : List (S83)), false)) else ((impl_Cut_changed__impl_Cut_grown_1.f k a0_0 a0_1 l0_2 (wrap64 (a0_0 * a1)) (wrap64 (a0_1 * a1)) a1).bind fun bt283 => (some (bt283.1, bt283.2.1, bt283.2.2, true))))) else (some (0, 0, ([] : List (S83)), false)))
set_option maxHeartbeats 8000000 in
set_option maxRecDepth 100000 in
theorem impl_Cut_grown.calls (k : Nat) (a0_0 : Int) (a0_1 : Int) (A0_2 : Option Addr) (c0_2 : Nat) (l0_2 : List (S83)) (a1 : Int) (r1 : Int) (r2 : Int) (r3 : List (S83)) (r4 : Bool) (w : World) (hr0_2 : Kd.C k83 w A0_2 l0_2.length l0_2) (hc0_2 : l0_2.length ≤ c0_2) (h : impl_Cut_grown.f k a0_0 a0_1 l0_2 a1 = some (r1, r2, r3, r4)) :
  Calls Try.prog 80 #[.agg #[.int .i64 a0_0, .int .i64 a0_1, .slice A0_2 l0_2.length c0_2], .int .i64 a1] w fun e w' => ∃ v2_ : Value, e = .returned (.tuple #[.agg #[.int .i64 r1, .int .i64 r2, v2_], .bool r4]) ∧ Kd.R k83 83 w' w.heap.size (fun _ => True) v2_ r3 ∧ Below w.heap.size w w' := by
 have hu48 := Try.underlying48
 have hmf : ∀ (fn : Fn) (first cap : Array Value) (w : World), (Instr.makeFunc fn first cap).run Try.prog w = .ok (.func fn first cap) w := fun _ _ _ _ => rfl
 have HR0_2 := Aside0.mk hr0_2
 have HC0_2 := Aside0.mk hc0_2
 clear hr0_2 hc0_2
 have HB := Aside0.mk (Below.refl w.heap.size w)
 have H : ((impl_within.f a1 1 500).bind fun t282 => (if t282 = true then (if (wrap64 (a0_0 * a1)) > 500 then (some (0, 0, ([] : List (S83)), false)) else (if (wrap64 (a0_1 * a1)) > 500 then (some (0, 0, ([] : List (S83)), false)) else ((impl_Cut_changed__impl_Cut_grown_1.f k a0_0 a0_1 l0_2 (wrap64 (a0_0 * a1)) (wrap64 (a0_1 * a1)) a1).bind fun bt283 => (some (bt283.1, bt283.2.1, bt283.2.2, true))))) else (some (0, 0, ([] : List (S83)), false)))) = some (r1, r2, r3, r4) := h
 clear h
 replace H := Option.bind_eq_some_iff.mp H
 obtain ⟨t282, A30, H⟩ := H
 replace H : (if t282 = true then (if (wrap64 (a0_0 * a1)) > 500 then (some (0, 0, ([] : List (S83)), false)) else (if (wrap64 (a0_1 * a1)) > 500 then (some (0, 0, ([] : List (S83)), false)) else ((impl_Cut_changed__impl_Cut_grown_1.f k a0_0 a0_1 l0_2 (wrap64 (a0_0 * a1)) (wrap64 (a0_1 * a1)) a1).bind fun bt283 => (some (bt283.1, bt283.2.1, bt283.2.2, true))))) else (some (0, 0, ([] : List (S83)), false))) = some (r1, r2, r3, r4) := H
 have A3 := Aside0.mk A30
 clear A30
 by_cases c4 : t282 = true
 ·subst c4
  have H1 : (if (wrap64 (a0_0 * a1)) > 500 then (some (0, 0, ([] : List (S83)), false)) else (if (wrap64 (a0_1 * a1)) > 500 then (some (0, 0, ([] : List (S83)), false)) else ((impl_Cut_changed__impl_Cut_grown_1.f k a0_0 a0_1 l0_2 (wrap64 (a0_0 * a1)) (wrap64 (a0_1 * a1)) a1).bind fun bt283 => (some (bt283.1, bt283.2.1, bt283.2.2, true))))) = some (r1, r2, r3, r4) := by rw [if_pos rfl] at H; exact H
  clear H
  have H := H1
  clear H1
  by_cases c5 : (wrap64 (a0_0 * a1)) > 500
  ·rw [if_pos c5] at H
   have c5b0 : decide (500 < (wrap64 (a0_0 * a1))) = true := decide_eq_true c5
   clear c5
   simp only [Option.some.injEq, Prod.mk.injEq] at H
   obtain ⟨rfl, rfl, rfl, rfl⟩ := H
   go_enter Try.func80, Try.ntmps80
   go_wp2_with (first | ((with_reducible refine gate_dst (N := 2) rfl ?_); refine box_event ?hg (N := 2) ?hd (cs := #[.int .i64 a0_0, .int .i64 a0_1, .slice A0_2 l0_2.length c0_2]) (t := 48) ?hr ?_; (case hd => rfl); (case hg => rfl); (case hr => first | (go_simp; done) | (go_simp; rfl)); intro gb279 hg w6 hbox hb; have n0_ := Aside0.mk (below_step (upW HB) hb); have n1_ := Aside0.mk (hbox); have n2_ := Aside0.mk ((by rw [hg]; exact (below_size (upW HB)) : w.heap.size ≤ gb279)); have n3_ := Aside0.mk ((by rw [hg]; exact (below_size (upW HB)) : w.heap.size ≤ gb279)); clear HB; have HB := n0_; have BK279 := n1_; have GW279 := n2_; have GE279 := n3_; clear n0_ n1_ n2_ n3_; clear hb hbox hg) | ((with_reducible refine gate_dst (N := 3) rfl ?_); refine box_event ?hg (N := 3) ?hd (cs := #[.int .i64 a1]) (t := 3) ?hr ?_; (case hd => rfl); (case hg => rfl); (case hr => first | (go_simp; done) | (go_simp; rfl)); intro gb280 hg w7 hbox hb; have n0_ := Aside0.mk (blk_below (upK BK279) hb); have n1_ := Aside0.mk (below_step (upW HB) hb); have n2_ := Aside0.mk (hbox); have n3_ := Aside0.mk ((by rw [hg]; exact (below_size (upW HB)) : w.heap.size ≤ gb280)); have n4_ := Aside0.mk ((by rw [hg]; exact (below_size (upW HB)) : w.heap.size ≤ gb280)); have n5_ := Aside0.mk ((by rw [hg]; exact Nat.ne_of_lt (blk_lt (upK BK279)) : gb279 ≠ gb280)); have n6_ := Aside0.mk ((by rw [hg]; exact Nat.ne_of_gt (blk_lt (upK BK279)) : gb280 ≠ gb279)); clear BK279; clear HB; have BK279 := n0_; have HB := n1_; have BK280 := n2_; have GW280 := n3_; have GE280 := n4_; have NB279_280 := n5_; have NB280_279 := n6_; clear n0_ n1_ n2_ n3_ n4_ n5_ n6_; clear hb hbox hg) | ((with_reducible refine gate_dst (N := 4) rfl ?_); refine box_event ?hg (N := 4) ?hd (cs := #[.int .i64 0, .int .i64 0, .slice none 0 0]) (t := 48) ?hr ?_; (case hd => rfl); (case hg => rfl); (case hr => first | (go_simp; done) | (go_simp; rfl)); intro gb281 hg w8 hbox hb; have n0_ := Aside0.mk (blk_below (upK BK279) hb); have n1_ := Aside0.mk (blk_below (upK BK280) hb); have n2_ := Aside0.mk (below_step (upW HB) hb); have n3_ := Aside0.mk (hbox); have n4_ := Aside0.mk ((by rw [hg]; exact (below_size (upW HB)) : w.heap.size ≤ gb281)); have n5_ := Aside0.mk ((by rw [hg]; exact (below_size (upW HB)) : w.heap.size ≤ gb281)); have n6_ := Aside0.mk ((by rw [hg]; exact Nat.ne_of_lt (blk_lt (upK BK279)) : gb279 ≠ gb281)); have n7_ := Aside0.mk ((by rw [hg]; exact Nat.ne_of_gt (blk_lt (upK BK279)) : gb281 ≠ gb279)); have n8_ := Aside0.mk ((by rw [hg]; exact Nat.ne_of_lt (blk_lt (upK BK280)) : gb280 ≠ gb281)); have n9_ := Aside0.mk ((by rw [hg]; exact Nat.ne_of_gt (blk_lt (upK BK280)) : gb281 ≠ gb280)); clear BK279; clear BK280; clear HB; have BK279 := n0_; have BK280 := n1_; have HB := n2_; have BK281 := n3_; have GW281 := n4_; have GE281 := n5_; have NB279_281 := n6_; have NB281_279 := n7_; have NB280_281 := n8_; have NB281_280 := n9_; clear n0_ n1_ n2_ n3_ n4_ n5_ n6_ n7_ n8_ n9_; clear hb hbox hg; have hnb9 := NB280_279.out; have hnc9 := NB279_280.out; have hnb10 := NB280_281.out; have hnc10 := NB281_280.out; have hcz11_0 : w8.cell? ⟨gb280, 0, none⟩ = some (.int .i64 a1) := (blk_cell BK280.out 0).trans rfl; have hfz11_0 := blk_frozen BK280.out 0) | ((with_reducible refine gate_callee (f := 81) rfl ?_); refine goesL_ (some 7) rfl rfl Try.func81 (by kernel_rfl) rfl #[.int .i64 a1, .int .i64 1, .int .i64 500] rfl itp ?_; (with_reducible refine (impl_within.calls a1 1 500 true _ A3.out).mono ?_); rintro e w' ⟨rfl, ⟨nd, rfl⟩⟩; refine ⟨_, rfl, ?_⟩; (try (rw [drewN_self w8]; generalize hq_ : World.drewN w8 _ = w8; have n0_ : Aside0 (w8.heap[gb279]? = some (.cells #[.int .i64 a0_0, .int .i64 a0_1, .slice A0_2 l0_2.length c0_2] 48 (0, 0))) := ⟨by rw [← hq_]; exact (upK BK279)⟩; have n1_ : Aside0 (w8.heap[gb280]? = some (.cells #[.int .i64 a1] 3 (0, 0))) := ⟨by rw [← hq_]; exact (upK BK280)⟩; have n2_ : Aside0 (w8.heap[gb281]? = some (.cells #[.int .i64 0, .int .i64 0, .slice none 0 0] 48 (0, 0))) := ⟨by rw [← hq_]; exact (upK BK281)⟩; have n3_ : Aside0 (Below w.heap.size w w8) := ⟨by rw [← hq_]; exact (upW HB)⟩; clear BK279 BK280 BK281 HB hq_; have BK279 := n0_; have BK280 := n1_; have BK281 := n2_; have HB := n3_; clear n0_ n1_ n2_ n3_)); have hnb12 := NB279_281.out; have hnc12 := NB281_279.out; have hcz13_0 : w8.cell? ⟨gb279, 0, none⟩ = some (.int .i64 a0_0) := (blk_cell BK279.out 0).trans rfl; have hcz13_1 : w8.cell? ⟨gb279, 1, none⟩ = some (.int .i64 a0_1) := (blk_cell BK279.out 1).trans rfl; have hcz13_2 : w8.cell? ⟨gb279, 2, none⟩ = some (.slice A0_2 l0_2.length c0_2) := (blk_cell BK279.out 2).trans rfl; have hfz13_0 := blk_frozen BK279.out 0; have hfz13_1 := blk_frozen BK279.out 1; have hfz13_2 := blk_frozen BK279.out 2; have hcz14_0 : w8.cell? ⟨gb280, 0, none⟩ = some (.int .i64 a1) := (blk_cell BK280.out 0).trans rfl; have hfz14_0 := blk_frozen BK280.out 0; have hcz15_0 : w8.cell? ⟨gb281, 0, none⟩ = some (.int .i64 0) := (blk_cell BK281.out 0).trans rfl; have hcz15_1 : w8.cell? ⟨gb281, 1, none⟩ = some (.int .i64 0) := (blk_cell BK281.out 1).trans rfl; have hcz15_2 : w8.cell? ⟨gb281, 2, none⟩ = some (.slice none 0 0) := (blk_cell BK281.out 2).trans rfl; have hfz15_0 := blk_frozen BK281.out 0; have hfz15_1 := blk_frozen BK281.out 1; have hfz15_2 := blk_frozen BK281.out 2))
   refine bodyPost_ret (results_ct rfl _ _ gb281 48 #[.int .i64 0, .int .i64 0, .slice none 0 0] (0, 0) _ rfl (by (with_reducible repeat (first | refine blk_drewN ?_ _ | refine blk_drew ?_ | refine blk_alloc ?_ _)); refine blk_put (cs := #[.int .i64 0, .int .i64 0, .slice none 0 0]) ?_ 2 _ rfl; (with_reducible repeat (first | refine blk_drewN ?_ _ | refine blk_drew ?_ | refine blk_alloc ?_ _)); refine blk_put (cs := #[.int .i64 0, .int .i64 0, .slice none 0 0]) ?_ 1 _ rfl; (with_reducible repeat (first | refine blk_drewN ?_ _ | refine blk_drew ?_ | refine blk_alloc ?_ _)); refine blk_put (cs := #[.int .i64 0, .int .i64 0, .slice none 0 0]) ?_ 0 _ rfl; (with_reducible repeat (first | refine blk_drewN ?_ _ | refine blk_drew ?_ | refine blk_alloc ?_ _)); exact BK281.out) Try.underlying48 rfl (by kernel_rfl)) rfl ?_
   exact ⟨_, by first | rfl | (simp [errW_none, errW_some] <;> rfl) | (simp [*, errW_none, errW_some] <;> rfl), by first | exact Kd.R_nil _ _ _ _ _ | exact Kd.N_nil _ _ _ _ _ | exact Kd.V_nil _ _ _ _ _ | exact Kd.Q_nil _ _ _ _ _ | exact Kd.S_nil _ _ _ _ _, by repeat (first | (with_reducible first | exact HB.out | apply below_alloc | apply pw_below_drewN | apply below_drew1 | refine below_set ?_ GE279.out | refine below_set ?_ GE280.out | refine below_set ?_ GE281.out) | exact HB.out)⟩
  ·rw [if_neg c5] at H
   have c5b0 : decide (500 < (wrap64 (a0_0 * a1))) = false := decide_eq_false c5
   clear c5
   by_cases c16 : (wrap64 (a0_1 * a1)) > 500
   ·rw [if_pos c16] at H
    have c16b0 : decide (500 < (wrap64 (a0_1 * a1))) = true := decide_eq_true c16
    clear c16
    simp only [Option.some.injEq, Prod.mk.injEq] at H
    obtain ⟨rfl, rfl, rfl, rfl⟩ := H
    go_enter Try.func80, Try.ntmps80
    go_wp2_with (first | ((with_reducible refine gate_dst (N := 2) rfl ?_); refine box_event ?hg (N := 2) ?hd (cs := #[.int .i64 a0_0, .int .i64 a0_1, .slice A0_2 l0_2.length c0_2]) (t := 48) ?hr ?_; (case hd => rfl); (case hg => rfl); (case hr => first | (go_simp; done) | (go_simp; rfl)); intro gb279 hg w17 hbox hb; have n0_ := Aside0.mk (below_step (upW HB) hb); have n1_ := Aside0.mk (hbox); have n2_ := Aside0.mk ((by rw [hg]; exact (below_size (upW HB)) : w.heap.size ≤ gb279)); have n3_ := Aside0.mk ((by rw [hg]; exact (below_size (upW HB)) : w.heap.size ≤ gb279)); clear HB; have HB := n0_; have BK279 := n1_; have GW279 := n2_; have GE279 := n3_; clear n0_ n1_ n2_ n3_; clear hb hbox hg) | ((with_reducible refine gate_dst (N := 3) rfl ?_); refine box_event ?hg (N := 3) ?hd (cs := #[.int .i64 a1]) (t := 3) ?hr ?_; (case hd => rfl); (case hg => rfl); (case hr => first | (go_simp; done) | (go_simp; rfl)); intro gb280 hg w18 hbox hb; have n0_ := Aside0.mk (blk_below (upK BK279) hb); have n1_ := Aside0.mk (below_step (upW HB) hb); have n2_ := Aside0.mk (hbox); have n3_ := Aside0.mk ((by rw [hg]; exact (below_size (upW HB)) : w.heap.size ≤ gb280)); have n4_ := Aside0.mk ((by rw [hg]; exact (below_size (upW HB)) : w.heap.size ≤ gb280)); have n5_ := Aside0.mk ((by rw [hg]; exact Nat.ne_of_lt (blk_lt (upK BK279)) : gb279 ≠ gb280)); have n6_ := Aside0.mk ((by rw [hg]; exact Nat.ne_of_gt (blk_lt (upK BK279)) : gb280 ≠ gb279)); clear BK279; clear HB; have BK279 := n0_; have HB := n1_; have BK280 := n2_; have GW280 := n3_; have GE280 := n4_; have NB279_280 := n5_; have NB280_279 := n6_; clear n0_ n1_ n2_ n3_ n4_ n5_ n6_; clear hb hbox hg) | ((with_reducible refine gate_dst (N := 4) rfl ?_); refine box_event ?hg (N := 4) ?hd (cs := #[.int .i64 0, .int .i64 0, .slice none 0 0]) (t := 48) ?hr ?_; (case hd => rfl); (case hg => rfl); (case hr => first | (go_simp; done) | (go_simp; rfl)); intro gb281 hg w19 hbox hb; have n0_ := Aside0.mk (blk_below (upK BK279) hb); have n1_ := Aside0.mk (blk_below (upK BK280) hb); have n2_ := Aside0.mk (below_step (upW HB) hb); have n3_ := Aside0.mk (hbox); have n4_ := Aside0.mk ((by rw [hg]; exact (below_size (upW HB)) : w.heap.size ≤ gb281)); have n5_ := Aside0.mk ((by rw [hg]; exact (below_size (upW HB)) : w.heap.size ≤ gb281)); have n6_ := Aside0.mk ((by rw [hg]; exact Nat.ne_of_lt (blk_lt (upK BK279)) : gb279 ≠ gb281)); have n7_ := Aside0.mk ((by rw [hg]; exact Nat.ne_of_gt (blk_lt (upK BK279)) : gb281 ≠ gb279)); have n8_ := Aside0.mk ((by rw [hg]; exact Nat.ne_of_lt (blk_lt (upK BK280)) : gb280 ≠ gb281)); have n9_ := Aside0.mk ((by rw [hg]; exact Nat.ne_of_gt (blk_lt (upK BK280)) : gb281 ≠ gb280)); clear BK279; clear BK280; clear HB; have BK279 := n0_; have BK280 := n1_; have HB := n2_; have BK281 := n3_; have GW281 := n4_; have GE281 := n5_; have NB279_281 := n6_; have NB281_279 := n7_; have NB280_281 := n8_; have NB281_280 := n9_; clear n0_ n1_ n2_ n3_ n4_ n5_ n6_ n7_ n8_ n9_; clear hb hbox hg; have hnb20 := NB280_279.out; have hnc20 := NB279_280.out; have hnb21 := NB280_281.out; have hnc21 := NB281_280.out; have hcz22_0 : w19.cell? ⟨gb280, 0, none⟩ = some (.int .i64 a1) := (blk_cell BK280.out 0).trans rfl; have hfz22_0 := blk_frozen BK280.out 0) | ((with_reducible refine gate_callee (f := 81) rfl ?_); refine goesL_ (some 7) rfl rfl Try.func81 (by kernel_rfl) rfl #[.int .i64 a1, .int .i64 1, .int .i64 500] rfl itp ?_; (with_reducible refine (impl_within.calls a1 1 500 true _ A3.out).mono ?_); rintro e w' ⟨rfl, ⟨nd, rfl⟩⟩; refine ⟨_, rfl, ?_⟩; (try (rw [drewN_self w19]; generalize hq_ : World.drewN w19 _ = w19; have n0_ : Aside0 (w19.heap[gb279]? = some (.cells #[.int .i64 a0_0, .int .i64 a0_1, .slice A0_2 l0_2.length c0_2] 48 (0, 0))) := ⟨by rw [← hq_]; exact (upK BK279)⟩; have n1_ : Aside0 (w19.heap[gb280]? = some (.cells #[.int .i64 a1] 3 (0, 0))) := ⟨by rw [← hq_]; exact (upK BK280)⟩; have n2_ : Aside0 (w19.heap[gb281]? = some (.cells #[.int .i64 0, .int .i64 0, .slice none 0 0] 48 (0, 0))) := ⟨by rw [← hq_]; exact (upK BK281)⟩; have n3_ : Aside0 (Below w.heap.size w w19) := ⟨by rw [← hq_]; exact (upW HB)⟩; clear BK279 BK280 BK281 HB hq_; have BK279 := n0_; have BK280 := n1_; have BK281 := n2_; have HB := n3_; clear n0_ n1_ n2_ n3_)); have hnb23 := NB279_281.out; have hnc23 := NB281_279.out; have hcz24_0 : w19.cell? ⟨gb279, 0, none⟩ = some (.int .i64 a0_0) := (blk_cell BK279.out 0).trans rfl; have hcz24_1 : w19.cell? ⟨gb279, 1, none⟩ = some (.int .i64 a0_1) := (blk_cell BK279.out 1).trans rfl; have hcz24_2 : w19.cell? ⟨gb279, 2, none⟩ = some (.slice A0_2 l0_2.length c0_2) := (blk_cell BK279.out 2).trans rfl; have hfz24_0 := blk_frozen BK279.out 0; have hfz24_1 := blk_frozen BK279.out 1; have hfz24_2 := blk_frozen BK279.out 2; have hcz25_0 : w19.cell? ⟨gb280, 0, none⟩ = some (.int .i64 a1) := (blk_cell BK280.out 0).trans rfl; have hfz25_0 := blk_frozen BK280.out 0; have hcz26_0 : w19.cell? ⟨gb281, 0, none⟩ = some (.int .i64 0) := (blk_cell BK281.out 0).trans rfl; have hcz26_1 : w19.cell? ⟨gb281, 1, none⟩ = some (.int .i64 0) := (blk_cell BK281.out 1).trans rfl; have hcz26_2 : w19.cell? ⟨gb281, 2, none⟩ = some (.slice none 0 0) := (blk_cell BK281.out 2).trans rfl; have hfz26_0 := blk_frozen BK281.out 0; have hfz26_1 := blk_frozen BK281.out 1; have hfz26_2 := blk_frozen BK281.out 2))
    refine bodyPost_ret (results_ct rfl _ _ gb281 48 #[.int .i64 0, .int .i64 0, .slice none 0 0] (0, 0) _ rfl (by (with_reducible repeat (first | refine blk_drewN ?_ _ | refine blk_drew ?_ | refine blk_alloc ?_ _)); refine blk_put (cs := #[.int .i64 0, .int .i64 0, .slice none 0 0]) ?_ 2 _ rfl; (with_reducible repeat (first | refine blk_drewN ?_ _ | refine blk_drew ?_ | refine blk_alloc ?_ _)); refine blk_put (cs := #[.int .i64 0, .int .i64 0, .slice none 0 0]) ?_ 1 _ rfl; (with_reducible repeat (first | refine blk_drewN ?_ _ | refine blk_drew ?_ | refine blk_alloc ?_ _)); refine blk_put (cs := #[.int .i64 0, .int .i64 0, .slice none 0 0]) ?_ 0 _ rfl; (with_reducible repeat (first | refine blk_drewN ?_ _ | refine blk_drew ?_ | refine blk_alloc ?_ _)); exact BK281.out) Try.underlying48 rfl (by kernel_rfl)) rfl ?_
    exact ⟨_, by first | rfl | (simp [errW_none, errW_some] <;> rfl) | (simp [*, errW_none, errW_some] <;> rfl), by first | exact Kd.R_nil _ _ _ _ _ | exact Kd.N_nil _ _ _ _ _ | exact Kd.V_nil _ _ _ _ _ | exact Kd.Q_nil _ _ _ _ _ | exact Kd.S_nil _ _ _ _ _, by repeat (first | (with_reducible first | exact HB.out | apply below_alloc | apply pw_below_drewN | apply below_drew1 | refine below_set ?_ GE279.out | refine below_set ?_ GE280.out | refine below_set ?_ GE281.out) | exact HB.out)⟩
   ·rw [if_neg c16] at H
    have c16b0 : decide (500 < (wrap64 (a0_1 * a1))) = false := decide_eq_false c16
    clear c16
    replace H := Option.bind_eq_some_iff.mp H
    obtain ⟨⟨t283, t284, t285⟩, A270, H⟩ := H
    replace H : (some (t283, t284, t285, true)) = some (r1, r2, r3, r4) := H
    have A27 := Aside0.mk A270
    clear A270
    simp only [Option.some.injEq, Prod.mk.injEq] at H
    obtain ⟨rfl, rfl, rfl, rfl⟩ := H
    go_enter Try.func80, Try.ntmps80
    go_wp2_with (first | ((with_reducible refine gate_dst (N := 2) rfl ?_); refine box_event ?hg (N := 2) ?hd (cs := #[.int .i64 a0_0, .int .i64 a0_1, .slice A0_2 l0_2.length c0_2]) (t := 48) ?hr ?_; (case hd => rfl); (case hg => rfl); (case hr => first | (go_simp; done) | (go_simp; rfl)); intro gb279 hg w28 hbox hb; have n0_ := Aside0.mk (below_step (upW HB) hb); have n1_ := Aside0.mk (hbox); have n2_ := Aside0.mk ((by rw [hg]; exact (below_size (upW HB)) : w.heap.size ≤ gb279)); have n3_ := Aside0.mk ((by rw [hg]; exact (below_size (upW HB)) : w.heap.size ≤ gb279)); clear HB; have HB := n0_; have BK279 := n1_; have GW279 := n2_; have GE279 := n3_; clear n0_ n1_ n2_ n3_; clear hb hbox hg) | ((with_reducible refine gate_dst (N := 3) rfl ?_); refine box_event ?hg (N := 3) ?hd (cs := #[.int .i64 a1]) (t := 3) ?hr ?_; (case hd => rfl); (case hg => rfl); (case hr => first | (go_simp; done) | (go_simp; rfl)); intro gb280 hg w29 hbox hb; have n0_ := Aside0.mk (blk_below (upK BK279) hb); have n1_ := Aside0.mk (below_step (upW HB) hb); have n2_ := Aside0.mk (hbox); have n3_ := Aside0.mk ((by rw [hg]; exact (below_size (upW HB)) : w.heap.size ≤ gb280)); have n4_ := Aside0.mk ((by rw [hg]; exact (below_size (upW HB)) : w.heap.size ≤ gb280)); have n5_ := Aside0.mk ((by rw [hg]; exact Nat.ne_of_lt (blk_lt (upK BK279)) : gb279 ≠ gb280)); have n6_ := Aside0.mk ((by rw [hg]; exact Nat.ne_of_gt (blk_lt (upK BK279)) : gb280 ≠ gb279)); clear BK279; clear HB; have BK279 := n0_; have HB := n1_; have BK280 := n2_; have GW280 := n3_; have GE280 := n4_; have NB279_280 := n5_; have NB280_279 := n6_; clear n0_ n1_ n2_ n3_ n4_ n5_ n6_; clear hb hbox hg) | ((with_reducible refine gate_dst (N := 4) rfl ?_); refine box_event ?hg (N := 4) ?hd (cs := #[.int .i64 0, .int .i64 0, .slice none 0 0]) (t := 48) ?hr ?_; (case hd => rfl); (case hg => rfl); (case hr => first | (go_simp; done) | (go_simp; rfl)); intro gb281 hg w30 hbox hb; have n0_ := Aside0.mk (blk_below (upK BK279) hb); have n1_ := Aside0.mk (blk_below (upK BK280) hb); have n2_ := Aside0.mk (below_step (upW HB) hb); have n3_ := Aside0.mk (hbox); have n4_ := Aside0.mk ((by rw [hg]; exact (below_size (upW HB)) : w.heap.size ≤ gb281)); have n5_ := Aside0.mk ((by rw [hg]; exact (below_size (upW HB)) : w.heap.size ≤ gb281)); have n6_ := Aside0.mk ((by rw [hg]; exact Nat.ne_of_lt (blk_lt (upK BK279)) : gb279 ≠ gb281)); have n7_ := Aside0.mk ((by rw [hg]; exact Nat.ne_of_gt (blk_lt (upK BK279)) : gb281 ≠ gb279)); have n8_ := Aside0.mk ((by rw [hg]; exact Nat.ne_of_lt (blk_lt (upK BK280)) : gb280 ≠ gb281)); have n9_ := Aside0.mk ((by rw [hg]; exact Nat.ne_of_gt (blk_lt (upK BK280)) : gb281 ≠ gb280)); clear BK279; clear BK280; clear HB; have BK279 := n0_; have BK280 := n1_; have HB := n2_; have BK281 := n3_; have GW281 := n4_; have GE281 := n5_; have NB279_281 := n6_; have NB281_279 := n7_; have NB280_281 := n8_; have NB281_280 := n9_; clear n0_ n1_ n2_ n3_ n4_ n5_ n6_ n7_ n8_ n9_; clear hb hbox hg; have hnb31 := NB280_279.out; have hnc31 := NB279_280.out; have hnb32 := NB280_281.out; have hnc32 := NB281_280.out; have hcz33_0 : w30.cell? ⟨gb280, 0, none⟩ = some (.int .i64 a1) := (blk_cell BK280.out 0).trans rfl; have hfz33_0 := blk_frozen BK280.out 0) | ((with_reducible refine gate_callee (f := 81) rfl ?_); refine goesL_ (some 7) rfl rfl Try.func81 (by kernel_rfl) rfl #[.int .i64 a1, .int .i64 1, .int .i64 500] rfl itp ?_; (with_reducible refine (impl_within.calls a1 1 500 true _ A3.out).mono ?_); rintro e w' ⟨rfl, ⟨nd, rfl⟩⟩; refine ⟨_, rfl, ?_⟩; (try (rw [drewN_self w30]; generalize hq_ : World.drewN w30 _ = w30; have n0_ : Aside0 (w30.heap[gb279]? = some (.cells #[.int .i64 a0_0, .int .i64 a0_1, .slice A0_2 l0_2.length c0_2] 48 (0, 0))) := ⟨by rw [← hq_]; exact (upK BK279)⟩; have n1_ : Aside0 (w30.heap[gb280]? = some (.cells #[.int .i64 a1] 3 (0, 0))) := ⟨by rw [← hq_]; exact (upK BK280)⟩; have n2_ : Aside0 (w30.heap[gb281]? = some (.cells #[.int .i64 0, .int .i64 0, .slice none 0 0] 48 (0, 0))) := ⟨by rw [← hq_]; exact (upK BK281)⟩; have n3_ : Aside0 (Below w.heap.size w w30) := ⟨by rw [← hq_]; exact (upW HB)⟩; clear BK279 BK280 BK281 HB hq_; have BK279 := n0_; have BK280 := n1_; have BK281 := n2_; have HB := n3_; clear n0_ n1_ n2_ n3_)); have hnb34 := NB279_281.out; have hnc34 := NB281_279.out; have hcz35_0 : w30.cell? ⟨gb279, 0, none⟩ = some (.int .i64 a0_0) := (blk_cell BK279.out 0).trans rfl; have hcz35_1 : w30.cell? ⟨gb279, 1, none⟩ = some (.int .i64 a0_1) := (blk_cell BK279.out 1).trans rfl; have hcz35_2 : w30.cell? ⟨gb279, 2, none⟩ = some (.slice A0_2 l0_2.length c0_2) := (blk_cell BK279.out 2).trans rfl; have hfz35_0 := blk_frozen BK279.out 0; have hfz35_1 := blk_frozen BK279.out 1; have hfz35_2 := blk_frozen BK279.out 2; have hcz36_0 : w30.cell? ⟨gb280, 0, none⟩ = some (.int .i64 a1) := (blk_cell BK280.out 0).trans rfl; have hfz36_0 := blk_frozen BK280.out 0) | ((with_reducible refine gate_callee (f := 106) rfl ?_); refine goesL_ (some 34) rfl rfl Try.func106 (by kernel_rfl) rfl #[.agg #[.int .i64 a0_0, .int .i64 a0_1, .slice A0_2 l0_2.length c0_2], .int .i64 (wrap64 (a0_0 * a1)), .int .i64 (wrap64 (a0_1 * a1)), .func (.func 111) #[] #[.pointer (some ⟨gb280, 0, none⟩)]] rfl itp ?_; (with_reducible refine (impl_Cut_changed__impl_Cut_grown_1.calls k a0_0 a0_1 _ _ l0_2 (wrap64 (a0_0 * a1)) (wrap64 (a0_1 * a1)) gb280 a1 t283 t284 t285 _ ?side1 ?side2 ?side3 A27.out).mono ?_); (case side1 => repeat (first | exact (Kd.C_below HR0_2.out HB.out) | (with_reducible refine Kd.C_alloc ?_ _) | (with_reducible refine Kd.C_drewN ?_ _) | (with_reducible refine Kd.C_drew ?_))); (case side2 => exact HC0_2.out); (case side3 => exact (upK BK280)); rintro e w37 ⟨v286, rfl, ho0, hb⟩; refine ⟨_, rfl, ?_⟩; have n0_ := Aside0.mk (Kd.R_lower ho0 (below_size (upW HB))); have n1_ := Aside0.mk (blk_below (upK BK279) hb); have n2_ := Aside0.mk (blk_below (upK BK280) hb); have n3_ := Aside0.mk (blk_below (upK BK281) hb); have n4_ := Aside0.mk (below_step (upW HB) hb); clear BK279; clear BK280; clear BK281; clear HB; have HO287 := n0_; have BK279 := n1_; have BK280 := n2_; have BK281 := n3_; have HB := n4_; clear n0_ n1_ n2_ n3_ n4_; (try clear hb); (try clear hb2); (try clear hk); (try clear hi); (try clear ho0); have hcz38_0 : w37.cell? ⟨gb281, 0, none⟩ = some (.int .i64 0) := (blk_cell BK281.out 0).trans rfl; have hcz38_1 : w37.cell? ⟨gb281, 1, none⟩ = some (.int .i64 0) := (blk_cell BK281.out 1).trans rfl; have hcz38_2 : w37.cell? ⟨gb281, 2, none⟩ = some (.slice none 0 0) := (blk_cell BK281.out 2).trans rfl; have hfz38_0 := blk_frozen BK281.out 0; have hfz38_1 := blk_frozen BK281.out 1; have hfz38_2 := blk_frozen BK281.out 2; obtain ⟨Ao39, co39, eo39⟩ := Kd.R_slice HO287.out; subst eo39))
    refine bodyPost_ret (results_ct rfl _ _ gb281 48 #[.int .i64 t283, .int .i64 t284, .slice Ao39 t285.length co39] (0, 0) _ rfl (by (with_reducible repeat (first | refine blk_drewN ?_ _ | refine blk_drew ?_ | refine blk_alloc ?_ _)); refine blk_put (cs := #[.int .i64 t283, .int .i64 t284, .slice none 0 0]) ?_ 2 _ rfl; (with_reducible repeat (first | refine blk_drewN ?_ _ | refine blk_drew ?_ | refine blk_alloc ?_ _)); refine blk_put (cs := #[.int .i64 t283, .int .i64 0, .slice none 0 0]) ?_ 1 _ rfl; (with_reducible repeat (first | refine blk_drewN ?_ _ | refine blk_drew ?_ | refine blk_alloc ?_ _)); refine blk_put (cs := #[.int .i64 0, .int .i64 0, .slice none 0 0]) ?_ 0 _ rfl; (with_reducible repeat (first | refine blk_drewN ?_ _ | refine blk_drew ?_ | refine blk_alloc ?_ _)); exact BK281.out) Try.underlying48 rfl (by kernel_rfl)) rfl ?_
    exact ⟨_, by first | rfl | (simp [errW_none, errW_some] <;> rfl) | (simp [*, errW_none, errW_some] <;> rfl), by (with_reducible repeat (first | apply Kd.R_alloc | apply Kd.R_drewN | apply Kd.R_drew)); exact Kd.R_mono (Kd.R_far (p := ⟨gb281, 2, none⟩) (Kd.R_far (p := ⟨gb281, 1, none⟩) (Kd.R_far (p := ⟨gb281, 0, none⟩) (Kd.R_types HO287.out BK281.out (by decide)) (fun _ hk => hk.2) (.int .i64 t283)) (fun _ hk => hk.2) (.int .i64 t284)) (fun _ hk => hk.2) (.slice Ao39 t285.length co39)) (fun _ hk => trivial), by repeat (first | (with_reducible first | exact HB.out | apply below_alloc | apply pw_below_drewN | apply below_drew1 | refine below_set ?_ GE279.out | refine below_set ?_ GE280.out | refine below_set ?_ GE281.out) | exact HB.out)⟩
 ·replace c4 := Bool.eq_false_iff.mpr c4
  subst c4
  have H1 : (some (0, 0, ([] : List (S83)), false)) = some (r1, r2, r3, r4) := by rw [if_neg (show ¬ (false = true) by decide)] at H; exact H
  clear H
  have H := H1
  clear H1
  simp only [Option.some.injEq, Prod.mk.injEq] at H
  obtain ⟨rfl, rfl, rfl, rfl⟩ := H
  go_enter Try.func80, Try.ntmps80
  go_wp2_with (first | ((with_reducible refine gate_dst (N := 2) rfl ?_); refine box_event ?hg (N := 2) ?hd (cs := #[.int .i64 a0_0, .int .i64 a0_1, .slice A0_2 l0_2.length c0_2]) (t := 48) ?hr ?_; (case hd => rfl); (case hg => rfl); (case hr => first | (go_simp; done) | (go_simp; rfl)); intro gb279 hg w40 hbox hb; have n0_ := Aside0.mk (below_step (upW HB) hb); have n1_ := Aside0.mk (hbox); have n2_ := Aside0.mk ((by rw [hg]; exact (below_size (upW HB)) : w.heap.size ≤ gb279)); have n3_ := Aside0.mk ((by rw [hg]; exact (below_size (upW HB)) : w.heap.size ≤ gb279)); clear HB; have HB := n0_; have BK279 := n1_; have GW279 := n2_; have GE279 := n3_; clear n0_ n1_ n2_ n3_; clear hb hbox hg) | ((with_reducible refine gate_dst (N := 3) rfl ?_); refine box_event ?hg (N := 3) ?hd (cs := #[.int .i64 a1]) (t := 3) ?hr ?_; (case hd => rfl); (case hg => rfl); (case hr => first | (go_simp; done) | (go_simp; rfl)); intro gb280 hg w41 hbox hb; have n0_ := Aside0.mk (blk_below (upK BK279) hb); have n1_ := Aside0.mk (below_step (upW HB) hb); have n2_ := Aside0.mk (hbox); have n3_ := Aside0.mk ((by rw [hg]; exact (below_size (upW HB)) : w.heap.size ≤ gb280)); have n4_ := Aside0.mk ((by rw [hg]; exact (below_size (upW HB)) : w.heap.size ≤ gb280)); have n5_ := Aside0.mk ((by rw [hg]; exact Nat.ne_of_lt (blk_lt (upK BK279)) : gb279 ≠ gb280)); have n6_ := Aside0.mk ((by rw [hg]; exact Nat.ne_of_gt (blk_lt (upK BK279)) : gb280 ≠ gb279)); clear BK279; clear HB; have BK279 := n0_; have HB := n1_; have BK280 := n2_; have GW280 := n3_; have GE280 := n4_; have NB279_280 := n5_; have NB280_279 := n6_; clear n0_ n1_ n2_ n3_ n4_ n5_ n6_; clear hb hbox hg) | ((with_reducible refine gate_dst (N := 4) rfl ?_); refine box_event ?hg (N := 4) ?hd (cs := #[.int .i64 0, .int .i64 0, .slice none 0 0]) (t := 48) ?hr ?_; (case hd => rfl); (case hg => rfl); (case hr => first | (go_simp; done) | (go_simp; rfl)); intro gb281 hg w42 hbox hb; have n0_ := Aside0.mk (blk_below (upK BK279) hb); have n1_ := Aside0.mk (blk_below (upK BK280) hb); have n2_ := Aside0.mk (below_step (upW HB) hb); have n3_ := Aside0.mk (hbox); have n4_ := Aside0.mk ((by rw [hg]; exact (below_size (upW HB)) : w.heap.size ≤ gb281)); have n5_ := Aside0.mk ((by rw [hg]; exact (below_size (upW HB)) : w.heap.size ≤ gb281)); have n6_ := Aside0.mk ((by rw [hg]; exact Nat.ne_of_lt (blk_lt (upK BK279)) : gb279 ≠ gb281)); have n7_ := Aside0.mk ((by rw [hg]; exact Nat.ne_of_gt (blk_lt (upK BK279)) : gb281 ≠ gb279)); have n8_ := Aside0.mk ((by rw [hg]; exact Nat.ne_of_lt (blk_lt (upK BK280)) : gb280 ≠ gb281)); have n9_ := Aside0.mk ((by rw [hg]; exact Nat.ne_of_gt (blk_lt (upK BK280)) : gb281 ≠ gb280)); clear BK279; clear BK280; clear HB; have BK279 := n0_; have BK280 := n1_; have HB := n2_; have BK281 := n3_; have GW281 := n4_; have GE281 := n5_; have NB279_281 := n6_; have NB281_279 := n7_; have NB280_281 := n8_; have NB281_280 := n9_; clear n0_ n1_ n2_ n3_ n4_ n5_ n6_ n7_ n8_ n9_; clear hb hbox hg; have hnb43 := NB280_279.out; have hnc43 := NB279_280.out; have hnb44 := NB280_281.out; have hnc44 := NB281_280.out; have hcz45_0 : w42.cell? ⟨gb280, 0, none⟩ = some (.int .i64 a1) := (blk_cell BK280.out 0).trans rfl; have hfz45_0 := blk_frozen BK280.out 0) | ((with_reducible refine gate_callee (f := 81) rfl ?_); refine goesL_ (some 7) rfl rfl Try.func81 (by kernel_rfl) rfl #[.int .i64 a1, .int .i64 1, .int .i64 500] rfl itp ?_; (with_reducible refine (impl_within.calls a1 1 500 false _ A3.out).mono ?_); rintro e w' ⟨rfl, ⟨nd, rfl⟩⟩; refine ⟨_, rfl, ?_⟩; (try (rw [drewN_self w42]; generalize hq_ : World.drewN w42 _ = w42; have n0_ : Aside0 (w42.heap[gb279]? = some (.cells #[.int .i64 a0_0, .int .i64 a0_1, .slice A0_2 l0_2.length c0_2] 48 (0, 0))) := ⟨by rw [← hq_]; exact (upK BK279)⟩; have n1_ : Aside0 (w42.heap[gb280]? = some (.cells #[.int .i64 a1] 3 (0, 0))) := ⟨by rw [← hq_]; exact (upK BK280)⟩; have n2_ : Aside0 (w42.heap[gb281]? = some (.cells #[.int .i64 0, .int .i64 0, .slice none 0 0] 48 (0, 0))) := ⟨by rw [← hq_]; exact (upK BK281)⟩; have n3_ : Aside0 (Below w.heap.size w w42) := ⟨by rw [← hq_]; exact (upW HB)⟩; clear BK279 BK280 BK281 HB hq_; have BK279 := n0_; have BK280 := n1_; have BK281 := n2_; have HB := n3_; clear n0_ n1_ n2_ n3_)); have hnb46 := NB281_279.out; have hnc46 := NB279_281.out; have hcz47_0 : w42.cell? ⟨gb281, 0, none⟩ = some (.int .i64 0) := (blk_cell BK281.out 0).trans rfl; have hcz47_1 : w42.cell? ⟨gb281, 1, none⟩ = some (.int .i64 0) := (blk_cell BK281.out 1).trans rfl; have hcz47_2 : w42.cell? ⟨gb281, 2, none⟩ = some (.slice none 0 0) := (blk_cell BK281.out 2).trans rfl; have hfz47_0 := blk_frozen BK281.out 0; have hfz47_1 := blk_frozen BK281.out 1; have hfz47_2 := blk_frozen BK281.out 2))
  refine bodyPost_ret (results_ct rfl _ _ gb281 48 #[.int .i64 0, .int .i64 0, .slice none 0 0] (0, 0) _ rfl (by (with_reducible repeat (first | refine blk_drewN ?_ _ | refine blk_drew ?_ | refine blk_alloc ?_ _)); refine blk_put (cs := #[.int .i64 0, .int .i64 0, .slice none 0 0]) ?_ 2 _ rfl; (with_reducible repeat (first | refine blk_drewN ?_ _ | refine blk_drew ?_ | refine blk_alloc ?_ _)); refine blk_put (cs := #[.int .i64 0, .int .i64 0, .slice none 0 0]) ?_ 1 _ rfl; (with_reducible repeat (first | refine blk_drewN ?_ _ | refine blk_drew ?_ | refine blk_alloc ?_ _)); refine blk_put (cs := #[.int .i64 0, .int .i64 0, .slice none 0 0]) ?_ 0 _ rfl; (with_reducible repeat (first | refine blk_drewN ?_ _ | refine blk_drew ?_ | refine blk_alloc ?_ _)); exact BK281.out) Try.underlying48 rfl (by kernel_rfl)) rfl ?_
  exact ⟨_, by first | rfl | (simp [errW_none, errW_some] <;> rfl) | (simp [*, errW_none, errW_some] <;> rfl), by first | exact Kd.R_nil _ _ _ _ _ | exact Kd.N_nil _ _ _ _ _ | exact Kd.V_nil _ _ _ _ _ | exact Kd.Q_nil _ _ _ _ _ | exact Kd.S_nil _ _ _ _ _, by repeat (first | (with_reducible first | exact HB.out | apply below_alloc | apply pw_below_drewN | apply below_drew1 | refine below_set ?_ GE279.out | refine below_set ?_ GE280.out | refine below_set ?_ GE281.out) | exact HB.out)⟩

/-! ### impl_GrowCut: function 46 -/
def impl_GrowCut.f (k : Nat) (a0_0 : Int) (a0_1 : Int) (l0_2 : List (S83)) (a1 : Int) : Option (Int × Int × (List (S83)) × Bool) := (impl_IsCut.f k a0_0 a0_1 l0_2).bind fun t290 => (if t290 = true then ((impl_Cut_grown.f k a0_0 a0_1 l0_2 a1).bind fun bt291 => (some (bt291.1, bt291.2.1, bt291.2.2.1, bt291.2.2.2))) else (some (0, 0, ([] : List (S83)), false)))
set_option maxHeartbeats 8000000 in
set_option maxRecDepth 100000 in
theorem impl_GrowCut.calls (k : Nat) (a0_0 : Int) (a0_1 : Int) (A0_2 : Option Addr) (c0_2 : Nat) (l0_2 : List (S83)) (a1 : Int) (r1 : Int) (r2 : Int) (r3 : List (S83)) (r4 : Bool) (w : World) (hr0_2 : Kd.C k83 w A0_2 l0_2.length l0_2) (hc0_2 : l0_2.length ≤ c0_2) (h : impl_GrowCut.f k a0_0 a0_1 l0_2 a1 = some (r1, r2, r3, r4)) :
  Calls Try.prog 46 #[.agg #[.int .i64 a0_0, .int .i64 a0_1, .slice A0_2 l0_2.length c0_2], .int .i64 a1] w fun e w' => ∃ v2_ : Value, e = .returned (.tuple #[.agg #[.int .i64 r1, .int .i64 r2, v2_], .bool r4]) ∧ Kd.R k83 83 w' w.heap.size (fun _ => True) v2_ r3 ∧ Below w.heap.size w w' := by
 have hu48 := Try.underlying48
 have HR0_2 := Aside0.mk hr0_2
 have HC0_2 := Aside0.mk hc0_2
 clear hr0_2 hc0_2
 have HB := Aside0.mk (Below.refl w.heap.size w)
 have H : ((impl_IsCut.f k a0_0 a0_1 l0_2).bind fun t290 => (if t290 = true then ((impl_Cut_grown.f k a0_0 a0_1 l0_2 a1).bind fun bt291 => (some (bt291.1, bt291.2.1, bt291.2.2.1, bt291.2.2.2))) else (some (0, 0, ([] : List (S83)), false)))) = some (r1, r2, r3, r4) := h
 clear h
 replace H := Option.bind_eq_some_iff.mp H
 obtain ⟨t290, A30, H⟩ := H
 replace H : (if t290 = true then ((impl_Cut_grown.f k a0_0 a0_1 l0_2 a1).bind fun bt291 => (some (bt291.1, bt291.2.1, bt291.2.2.1, bt291.2.2.2))) else (some (0, 0, ([] : List (S83)), false))) = some (r1, r2, r3, r4) := H
 have A3 := Aside0.mk A30
 clear A30
 by_cases c4 : t290 = true
 ·subst c4
  have H1 : ((impl_Cut_grown.f k a0_0 a0_1 l0_2 a1).bind fun bt291 => (some (bt291.1, bt291.2.1, bt291.2.2.1, bt291.2.2.2))) = some (r1, r2, r3, r4) := by rw [if_pos rfl] at H; exact H
  clear H
  have H := H1
  clear H1
  replace H := Option.bind_eq_some_iff.mp H
  obtain ⟨⟨t291, t292, t293, t296⟩, A50, H⟩ := H
  replace H : (some (t291, t292, t293, t296)) = some (r1, r2, r3, r4) := H
  have A5 := Aside0.mk A50
  clear A50
  simp only [Option.some.injEq, Prod.mk.injEq] at H
  obtain ⟨rfl, rfl, rfl, rfl⟩ := H
  go_enter Try.func46, Try.ntmps46
  go_wp2_with (first | ((with_reducible refine gate_dst (N := 2) rfl ?_); refine box_event ?hg (N := 2) ?hd (cs := #[.int .i64 a0_0, .int .i64 a0_1, .slice A0_2 l0_2.length c0_2]) (t := 48) ?hr ?_; (case hd => rfl); (case hg => rfl); (case hr => first | (go_simp; done) | (go_simp; rfl)); intro gb288 hg w6 hbox hb; have n0_ := Aside0.mk (below_step (upW HB) hb); have n1_ := Aside0.mk (hbox); have n2_ := Aside0.mk ((by rw [hg]; exact (below_size (upW HB)) : w.heap.size ≤ gb288)); have n3_ := Aside0.mk ((by rw [hg]; exact (below_size (upW HB)) : w.heap.size ≤ gb288)); clear HB; have HB := n0_; have BK288 := n1_; have GW288 := n2_; have GE288 := n3_; clear n0_ n1_ n2_ n3_; clear hb hbox hg) | ((with_reducible refine gate_dst (N := 4) rfl ?_); refine box_event ?hg (N := 4) ?hd (cs := #[.int .i64 0, .int .i64 0, .slice none 0 0]) (t := 48) ?hr ?_; (case hd => rfl); (case hg => rfl); (case hr => first | (go_simp; done) | (go_simp; rfl)); intro gb289 hg w7 hbox hb; have n0_ := Aside0.mk (blk_below (upK BK288) hb); have n1_ := Aside0.mk (below_step (upW HB) hb); have n2_ := Aside0.mk (hbox); have n3_ := Aside0.mk ((by rw [hg]; exact (below_size (upW HB)) : w.heap.size ≤ gb289)); have n4_ := Aside0.mk ((by rw [hg]; exact (below_size (upW HB)) : w.heap.size ≤ gb289)); have n5_ := Aside0.mk ((by rw [hg]; exact Nat.ne_of_lt (blk_lt (upK BK288)) : gb288 ≠ gb289)); have n6_ := Aside0.mk ((by rw [hg]; exact Nat.ne_of_gt (blk_lt (upK BK288)) : gb289 ≠ gb288)); clear BK288; clear HB; have BK288 := n0_; have HB := n1_; have BK289 := n2_; have GW289 := n3_; have GE289 := n4_; have NB288_289 := n5_; have NB289_288 := n6_; clear n0_ n1_ n2_ n3_ n4_ n5_ n6_; clear hb hbox hg; have hnb8 := NB288_289.out; have hnc8 := NB289_288.out; have hcz9_0 : w7.cell? ⟨gb288, 0, none⟩ = some (.int .i64 a0_0) := (blk_cell BK288.out 0).trans rfl; have hcz9_1 : w7.cell? ⟨gb288, 1, none⟩ = some (.int .i64 a0_1) := (blk_cell BK288.out 1).trans rfl; have hcz9_2 : w7.cell? ⟨gb288, 2, none⟩ = some (.slice A0_2 l0_2.length c0_2) := (blk_cell BK288.out 2).trans rfl; have hfz9_0 := blk_frozen BK288.out 0; have hfz9_1 := blk_frozen BK288.out 1; have hfz9_2 := blk_frozen BK288.out 2) | ((with_reducible refine gate_callee (f := 70) rfl ?_); refine goesL_ (some 7) rfl rfl Try.func70 (by kernel_rfl) rfl #[.agg #[.int .i64 a0_0, .int .i64 a0_1, .slice A0_2 l0_2.length c0_2]] rfl itp ?_; (with_reducible refine (impl_IsCut.calls k a0_0 a0_1 _ _ l0_2 true _ ?side1 ?side2 A3.out).mono ?_); (case side1 => repeat (first | exact (Kd.C_below HR0_2.out HB.out) | (with_reducible refine Kd.C_alloc ?_ _) | (with_reducible refine Kd.C_drewN ?_ _) | (with_reducible refine Kd.C_drew ?_))); (case side2 => exact HC0_2.out); rintro e w10 ⟨rfl, hb⟩; refine ⟨_, rfl, ?_⟩; have n0_ := Aside0.mk (blk_below (upK BK288) hb); have n1_ := Aside0.mk (blk_below (upK BK289) hb); have n2_ := Aside0.mk (below_step (upW HB) hb); clear BK288; clear BK289; clear HB; have BK288 := n0_; have BK289 := n1_; have HB := n2_; clear n0_ n1_ n2_; (try clear hb); (try clear hb2); (try clear hk); (try clear hi); have hcz11_0 : w10.cell? ⟨gb288, 0, none⟩ = some (.int .i64 a0_0) := (blk_cell BK288.out 0).trans rfl; have hcz11_1 : w10.cell? ⟨gb288, 1, none⟩ = some (.int .i64 a0_1) := (blk_cell BK288.out 1).trans rfl; have hcz11_2 : w10.cell? ⟨gb288, 2, none⟩ = some (.slice A0_2 l0_2.length c0_2) := (blk_cell BK288.out 2).trans rfl; have hfz11_0 := blk_frozen BK288.out 0; have hfz11_1 := blk_frozen BK288.out 1; have hfz11_2 := blk_frozen BK288.out 2) | ((with_reducible refine gate_callee (f := 80) rfl ?_); refine goesL_ (some 12) rfl rfl Try.func80 (by kernel_rfl) rfl #[.agg #[.int .i64 a0_0, .int .i64 a0_1, .slice A0_2 l0_2.length c0_2], .int .i64 a1] rfl itp ?_; (with_reducible refine (impl_Cut_grown.calls k a0_0 a0_1 _ _ l0_2 a1 t291 t292 t293 t296 _ ?side1 ?side2 A5.out).mono ?_); (case side1 => repeat (first | exact (Kd.C_below HR0_2.out HB.out) | (with_reducible refine Kd.C_alloc ?_ _) | (with_reducible refine Kd.C_drewN ?_ _) | (with_reducible refine Kd.C_drew ?_))); (case side2 => exact HC0_2.out); rintro e w12 ⟨v294, rfl, ho0, hb⟩; refine ⟨_, rfl, ?_⟩; have n0_ := Aside0.mk (Kd.R_lower ho0 (below_size (upW HB))); have n1_ := Aside0.mk (blk_below (upK BK288) hb); have n2_ := Aside0.mk (blk_below (upK BK289) hb); have n3_ := Aside0.mk (below_step (upW HB) hb); clear BK288; clear BK289; clear HB; have HO295 := n0_; have BK288 := n1_; have BK289 := n2_; have HB := n3_; clear n0_ n1_ n2_ n3_; (try clear hb); (try clear hb2); (try clear hk); (try clear hi); (try clear ho0); have hcz13_0 : w12.cell? ⟨gb289, 0, none⟩ = some (.int .i64 0) := (blk_cell BK289.out 0).trans rfl; have hcz13_1 : w12.cell? ⟨gb289, 1, none⟩ = some (.int .i64 0) := (blk_cell BK289.out 1).trans rfl; have hcz13_2 : w12.cell? ⟨gb289, 2, none⟩ = some (.slice none 0 0) := (blk_cell BK289.out 2).trans rfl; have hfz13_0 := blk_frozen BK289.out 0; have hfz13_1 := blk_frozen BK289.out 1; have hfz13_2 := blk_frozen BK289.out 2; obtain ⟨Ao14, co14, eo14⟩ := Kd.R_slice HO295.out; subst eo14))
  refine bodyPost_ret (results_ct rfl _ _ gb289 48 #[.int .i64 t291, .int .i64 t292, .slice Ao14 t293.length co14] (0, 0) _ rfl (by (with_reducible repeat (first | refine blk_drewN ?_ _ | refine blk_drew ?_ | refine blk_alloc ?_ _)); refine blk_put (cs := #[.int .i64 t291, .int .i64 t292, .slice none 0 0]) ?_ 2 _ rfl; (with_reducible repeat (first | refine blk_drewN ?_ _ | refine blk_drew ?_ | refine blk_alloc ?_ _)); refine blk_put (cs := #[.int .i64 t291, .int .i64 0, .slice none 0 0]) ?_ 1 _ rfl; (with_reducible repeat (first | refine blk_drewN ?_ _ | refine blk_drew ?_ | refine blk_alloc ?_ _)); refine blk_put (cs := #[.int .i64 0, .int .i64 0, .slice none 0 0]) ?_ 0 _ rfl; (with_reducible repeat (first | refine blk_drewN ?_ _ | refine blk_drew ?_ | refine blk_alloc ?_ _)); exact BK289.out) Try.underlying48 rfl (by kernel_rfl)) rfl ?_
  exact ⟨_, by first | rfl | (simp [errW_none, errW_some] <;> rfl) | (simp [*, errW_none, errW_some] <;> rfl), by (with_reducible repeat (first | apply Kd.R_alloc | apply Kd.R_drewN | apply Kd.R_drew)); exact Kd.R_mono (Kd.R_far (p := ⟨gb289, 2, none⟩) (Kd.R_far (p := ⟨gb289, 1, none⟩) (Kd.R_far (p := ⟨gb289, 0, none⟩) (Kd.R_types HO295.out BK289.out (by decide)) (fun _ hk => hk.2) (.int .i64 t291)) (fun _ hk => hk.2) (.int .i64 t292)) (fun _ hk => hk.2) (.slice Ao14 t293.length co14)) (fun _ hk => trivial), by repeat (first | (with_reducible first | exact HB.out | apply below_alloc | apply pw_below_drewN | apply below_drew1 | refine below_set ?_ GE288.out | refine below_set ?_ GE289.out) | exact HB.out)⟩
 ·replace c4 := Bool.eq_false_iff.mpr c4
  subst c4
  have H1 : (some (0, 0, ([] : List (S83)), false)) = some (r1, r2, r3, r4) := by rw [if_neg (show ¬ (false = true) by decide)] at H; exact H
  clear H
  have H := H1
  clear H1
  simp only [Option.some.injEq, Prod.mk.injEq] at H
  obtain ⟨rfl, rfl, rfl, rfl⟩ := H
  go_enter Try.func46, Try.ntmps46
  go_wp2_with (first | ((with_reducible refine gate_dst (N := 2) rfl ?_); refine box_event ?hg (N := 2) ?hd (cs := #[.int .i64 a0_0, .int .i64 a0_1, .slice A0_2 l0_2.length c0_2]) (t := 48) ?hr ?_; (case hd => rfl); (case hg => rfl); (case hr => first | (go_simp; done) | (go_simp; rfl)); intro gb288 hg w15 hbox hb; have n0_ := Aside0.mk (below_step (upW HB) hb); have n1_ := Aside0.mk (hbox); have n2_ := Aside0.mk ((by rw [hg]; exact (below_size (upW HB)) : w.heap.size ≤ gb288)); have n3_ := Aside0.mk ((by rw [hg]; exact (below_size (upW HB)) : w.heap.size ≤ gb288)); clear HB; have HB := n0_; have BK288 := n1_; have GW288 := n2_; have GE288 := n3_; clear n0_ n1_ n2_ n3_; clear hb hbox hg) | ((with_reducible refine gate_dst (N := 4) rfl ?_); refine box_event ?hg (N := 4) ?hd (cs := #[.int .i64 0, .int .i64 0, .slice none 0 0]) (t := 48) ?hr ?_; (case hd => rfl); (case hg => rfl); (case hr => first | (go_simp; done) | (go_simp; rfl)); intro gb289 hg w16 hbox hb; have n0_ := Aside0.mk (blk_below (upK BK288) hb); have n1_ := Aside0.mk (below_step (upW HB) hb); have n2_ := Aside0.mk (hbox); have n3_ := Aside0.mk ((by rw [hg]; exact (below_size (upW HB)) : w.heap.size ≤ gb289)); have n4_ := Aside0.mk ((by rw [hg]; exact (below_size (upW HB)) : w.heap.size ≤ gb289)); have n5_ := Aside0.mk ((by rw [hg]; exact Nat.ne_of_lt (blk_lt (upK BK288)) : gb288 ≠ gb289)); have n6_ := Aside0.mk ((by rw [hg]; exact Nat.ne_of_gt (blk_lt (upK BK288)) : gb289 ≠ gb288)); clear BK288; clear HB; have BK288 := n0_; have HB := n1_; have BK289 := n2_; have GW289 := n3_; have GE289 := n4_; have NB288_289 := n5_; have NB289_288 := n6_; clear n0_ n1_ n2_ n3_ n4_ n5_ n6_; clear hb hbox hg; have hnb17 := NB288_289.out; have hnc17 := NB289_288.out; have hcz18_0 : w16.cell? ⟨gb288, 0, none⟩ = some (.int .i64 a0_0) := (blk_cell BK288.out 0).trans rfl; have hcz18_1 : w16.cell? ⟨gb288, 1, none⟩ = some (.int .i64 a0_1) := (blk_cell BK288.out 1).trans rfl; have hcz18_2 : w16.cell? ⟨gb288, 2, none⟩ = some (.slice A0_2 l0_2.length c0_2) := (blk_cell BK288.out 2).trans rfl; have hfz18_0 := blk_frozen BK288.out 0; have hfz18_1 := blk_frozen BK288.out 1; have hfz18_2 := blk_frozen BK288.out 2) | ((with_reducible refine gate_callee (f := 70) rfl ?_); refine goesL_ (some 7) rfl rfl Try.func70 (by kernel_rfl) rfl #[.agg #[.int .i64 a0_0, .int .i64 a0_1, .slice A0_2 l0_2.length c0_2]] rfl itp ?_; (with_reducible refine (impl_IsCut.calls k a0_0 a0_1 _ _ l0_2 false _ ?side1 ?side2 A3.out).mono ?_); (case side1 => repeat (first | exact (Kd.C_below HR0_2.out HB.out) | (with_reducible refine Kd.C_alloc ?_ _) | (with_reducible refine Kd.C_drewN ?_ _) | (with_reducible refine Kd.C_drew ?_))); (case side2 => exact HC0_2.out); rintro e w19 ⟨rfl, hb⟩; refine ⟨_, rfl, ?_⟩; have n0_ := Aside0.mk (blk_below (upK BK288) hb); have n1_ := Aside0.mk (blk_below (upK BK289) hb); have n2_ := Aside0.mk (below_step (upW HB) hb); clear BK288; clear BK289; clear HB; have BK288 := n0_; have BK289 := n1_; have HB := n2_; clear n0_ n1_ n2_; (try clear hb); (try clear hb2); (try clear hk); (try clear hi); have hcz20_0 : w19.cell? ⟨gb289, 0, none⟩ = some (.int .i64 0) := (blk_cell BK289.out 0).trans rfl; have hcz20_1 : w19.cell? ⟨gb289, 1, none⟩ = some (.int .i64 0) := (blk_cell BK289.out 1).trans rfl; have hcz20_2 : w19.cell? ⟨gb289, 2, none⟩ = some (.slice none 0 0) := (blk_cell BK289.out 2).trans rfl; have hfz20_0 := blk_frozen BK289.out 0; have hfz20_1 := blk_frozen BK289.out 1; have hfz20_2 := blk_frozen BK289.out 2))
  refine bodyPost_ret (results_ct rfl _ _ gb289 48 #[.int .i64 0, .int .i64 0, .slice none 0 0] (0, 0) _ rfl (by (with_reducible repeat (first | refine blk_drewN ?_ _ | refine blk_drew ?_ | refine blk_alloc ?_ _)); refine blk_put (cs := #[.int .i64 0, .int .i64 0, .slice none 0 0]) ?_ 2 _ rfl; (with_reducible repeat (first | refine blk_drewN ?_ _ | refine blk_drew ?_ | refine blk_alloc ?_ _)); refine blk_put (cs := #[.int .i64 0, .int .i64 0, .slice none 0 0]) ?_ 1 _ rfl; (with_reducible repeat (first | refine blk_drewN ?_ _ | refine blk_drew ?_ | refine blk_alloc ?_ _)); refine blk_put (cs := #[.int .i64 0, .int .i64 0, .slice none 0 0]) ?_ 0 _ rfl; (with_reducible repeat (first | refine blk_drewN ?_ _ | refine blk_drew ?_ | refine blk_alloc ?_ _)); exact BK289.out) Try.underlying48 rfl (by kernel_rfl)) rfl ?_
  exact ⟨_, by first | rfl | (simp [errW_none, errW_some] <;> rfl) | (simp [*, errW_none, errW_some] <;> rfl), by first | exact Kd.R_nil _ _ _ _ _ | exact Kd.N_nil _ _ _ _ _ | exact Kd.V_nil _ _ _ _ _ | exact Kd.Q_nil _ _ _ _ _ | exact Kd.S_nil _ _ _ _ _, by repeat (first | (with_reducible first | exact HB.out | apply below_alloc | apply pw_below_drewN | apply below_drew1 | refine below_set ?_ GE288.out | refine below_set ?_ GE289.out) | exact HB.out)⟩

end Go.Proofs.Ytngbmjldnfljiaa.PFnExactGrowCut
