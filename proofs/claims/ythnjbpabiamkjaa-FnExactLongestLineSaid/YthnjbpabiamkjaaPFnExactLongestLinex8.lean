-- made for this claim by a program of this session
import Derived.Test.YthnjbpabiamkjaaPFnExactLongestLinex0
import Derived.Test.YthnjbpabiamkjaaPFnExactLongestLinex7
namespace Go.Proofs.Ythnjbpabiamkjaa.PFnExactLongestLine
open Go.RowKit Go.Proofs.YthnjbpabiamkjaaW.PrintWords Go.Proofs.YthnjbpabiamkjaaW.PrintLast Go.Proofs.YthnjbpabiamkjaaW.PrintMore
attribute [local go_sem] max2_int min2_int max_two min_two max_three min_three max_four min_four   -- for this text's walks alone
set_option linter.unusedVariables false
set_option linter.unusedSimpArgs false

/-! ### a row of the call's own, elements of several cells, written anew by a library function -/
section
variable {α : Type} {d : Kd α} {enc : α → List Value}
theorem rowK_cells {e : TypeId} {w : World} {base : Nat} {ok : Nat → Prop} {g n cap : Nat} {xs : List α} (hop : ∀ {w base ok x cs}, d.M w base ok x cs → cs = enc x)
  (h : d.R e w base ok (.slice (some ⟨g, 0, none⟩) n cap) xs) :
  n = xs.length ∧ base ≤ g ∧ n ≤ cap ∧ cap ≤ maxLen ∧ ∃ cur : Array Value, w.heap[g]? = some (.cells cur e (0, 0)) ∧ cur.size = cap * d.sz ∧ ∀ (j : Nat) (x : α), xs[j]? = some x → (cur.toList.drop (j * d.sz)).take d.sz = enc x := by
 have hn := (Kd.R_reads' h).1
 obtain ⟨_, inner, ho, hr⟩ := h
 rcases ho.2 with ⟨h2, _⟩ | ⟨g2, cap2, cur, h2, hb, hh, hc, hm, hs, ht⟩
 ·cases h2
 ·injection h2 with ha hn2 hc2
  injection ha with ha2
  injection ha2 with hg2
  subst hg2 hc2
  refine ⟨hn, hb, by omega, hm, cur, hh, hs, fun j x hj => ?_⟩
  have hj' : j < xs.length := (List.getElem?_eq_some_iff.1 hj).1
  have hq := hop (hr.2 j x hj)
  rw [← hq, ← ht]
  have hle : j * d.sz + d.sz ≤ n * d.sz := by
   rw [hn, ← Nat.succ_mul]; exact Nat.mul_le_mul_right _ hj'
  rw [hn2] at hle
  rw [← hn2] at hle ⊢
  rw [List.drop_take, List.take_take, Nat.min_eq_left (by omega)]
end
section
variable {α : Type} [Inhabited α] {d : Kd α} {enc : α → List Value}
theorem rowK_holds {e : TypeId} {w : World} {base : Nat} {ok : Nat → Prop} {g n cap : Nat} {xs : List α} (hop : ∀ {w base ok x cs}, d.M w base ok x cs → cs = enc x) (hk : ∀ x, (enc x).length = d.sz)
  (h : d.R e w base ok (.slice (some ⟨g, 0, none⟩) n cap) xs) : Sort.HoldsK enc d.sz w g 0 xs.toArray := by
 obtain ⟨hn, _, hc, _, cur, hh, hs, ht⟩ := rowK_cells (enc := enc) hop h
 intro t htl
 rw [Sort.size_flatK] at htl
 have htl' : t < xs.length * d.sz := by simpa using htl
 have k0 : 0 < d.sz := by
  rcases Nat.eq_zero_or_pos d.sz with h0 | h0
  ·rw [h0] at htl'; simp at htl'
  ·exact h0
 have hj : t / d.sz < xs.length := (Nat.div_lt_iff_lt_mul k0).2 htl'
 have hx := ht (t / d.sz) xs[t / d.sz] (List.getElem?_eq_getElem hj)
 rw [Nat.zero_add, Sort.get_flatK _ _ _ _ htl]
 refine ⟨?_, blk_frozen hh t⟩
 rw [blk_cell hh t, getElem!_pos xs.toArray (t / d.sz) (by simpa using hj)]
 have hm : t % d.sz < d.sz := Nat.mod_lt _ k0
 have he : cur[t]? = (enc xs[t / d.sz])[t % d.sz]? := by
  rw [← hx, List.getElem?_take_of_lt hm, List.getElem?_drop, Array.getElem?_toList, Nat.mul_comm, Nat.div_add_mod]
 rw [he, List.getElem?_eq_getElem (by rw [hk]; exact hm)]
 simp only [List.getElem_toArray]
 rw [getElem!_pos _ _ (by rw [hk]; exact hm)]
 rfl
theorem rowK_heap {w : World} {g m : Nat} {F : Array Value} {os : Array Obj} {e : TypeId} {cur : Array Value} (hh : w.heap[g]? = some (.cells cur e (0, 0))) :
  (∀ k, k < w.heap.size → k ≠ g → (Sort.grow (Sort.putRow id (Sort.ahead w m) g 0 F) os).heap[k]? = w.heap[k]?) ∧ (Sort.grow (Sort.putRow id (Sort.ahead w m) g 0 F) os).heap[g]? = some (.cells (Sort.putCells id 0 F cur) e (0, 0)) ∧ w.heap.size ≤ (Sort.grow (Sort.putRow id (Sort.ahead w m) g 0 F) os).heap.size := by
 have hlt : g < w.heap.size := (Array.getElem?_eq_some_iff.1 hh).1
 have hsz : (Sort.putRow id (Sort.ahead w m) g 0 F).heap.size = w.heap.size := by simp [Sort.putRow, Sort.mapBlock, Sort.ahead]
 refine ⟨fun k hk hne => ?_, ?_, ?_⟩
 ·rw [Sort.heap_grow_old _ _ (by rw [hsz]; exact hk)]
  show (w.heap.modify g _)[k]? = _
  rw [Array.getElem?_modify, if_neg (fun h => hne h.symm)]
 ·rw [Sort.heap_grow_old _ _ (by rw [hsz]; exact hlt)]
  show (w.heap.modify g _)[g]? = _
  rw [Array.getElem?_modify, if_pos rfl, hh]
  rfl
 ·show w.heap.size ≤ (_ ++ os).size
  rw [Array.size_append, hsz]
  exact Nat.le_add_right _ _
theorem rowK_put {e : TypeId} {w w0 : World} {base : Nat} {ok S : Nat → Prop} {g n cap : Nat} {xs : List α} (hop : ∀ {w base ok x cs}, d.M w base ok x cs → cs = enc x) (hmk : ∀ w base ok x, d.M w base ok x (enc x)) (hk : ∀ x, (enc x).length = d.sz)
  (h : d.R e w base ok (.slice (some ⟨g, 0, none⟩) n cap) xs) (d' : Array α) (hd : d'.size = xs.length) (m : Nat) (os : Array Obj) (hb : Below w0.heap.size w0 w) (hg : w0.heap.size ≤ g) (hs : S g) :
  d.R e (sortWorldK enc d.sz w g 0 m d' os) base ok (.slice (some ⟨g, 0, none⟩) n cap) d'.toList ∧ Below w0.heap.size w0 (sortWorldK enc d.sz w g 0 m d' os) ∧ Kept w (sortWorldK enc d.sz w g 0 m d' os) S := by
 obtain ⟨hn, hbase, hc, hm, cur, hh, hsz, ht⟩ := rowK_cells (enc := enc) hop h
 unfold sortWorldK Sort.putRowK
 obtain ⟨a, b, c⟩ := rowK_heap (m := m) (F := Sort.flatK enc d.sz d') (os := os) hh
 refine ⟨⟨h.1, (Sort.putCells id 0 (Sort.flatK enc d.sz d') cur).toList.take (d'.toList.length * d.sz), ⟨?_, .inr ⟨g, cap, _, ?_, hbase, b, ?_, hm, ?_, rfl⟩⟩, ?_, fun j x hj => ?_⟩, ⟨hb.os, hb.tape, hb.output, Nat.le_trans hb.size c, fun k hk2 => ?_⟩, ⟨c, fun k hk2 hS => a k hk2 (fun e => hS (e ▸ hs))⟩⟩
 ·rw [List.length_take, Array.length_toList, Array.length_toList, Sort.putCells, Array.size_mapIdx, hsz]
  exact Nat.min_eq_left (Nat.mul_le_mul_right _ (by omega))
 ·rw [Array.length_toList, hd, hn]
 ·rw [Array.length_toList]; omega
 ·rw [Sort.putCells, Array.size_mapIdx, hsz]
 ·rw [List.length_take, Array.length_toList, Array.length_toList, Sort.putCells, Array.size_mapIdx, hsz]
  exact Nat.min_eq_left (Nat.mul_le_mul_right _ (by omega))
 ·have hj' : j < d'.size := by have := (List.getElem?_eq_some_iff.1 hj).1; rwa [Array.length_toList] at this
  have hx : d'[j]! = x := by
   rw [getElem!_pos d' j hj']
   rw [Array.getElem?_toList, Array.getElem?_eq_getElem hj'] at hj
   exact Option.some.inj hj
  have hle : j * d.sz + d.sz ≤ d'.size * d.sz := by rw [← Nat.succ_mul]; exact Nat.mul_le_mul_right _ hj'
  have hle2 : d'.size * d.sz ≤ cap * d.sz := Nat.mul_le_mul_right _ (by omega)
  have he : (((Sort.putCells id 0 (Sort.flatK enc d.sz d') cur).toList.take (d'.toList.length * d.sz)).drop (j * d.sz)).take d.sz = enc x := by
   apply List.ext_getElem?
   intro i
   by_cases hi : i < d.sz
   ·rw [List.getElem?_take_of_lt hi, List.getElem?_drop, List.getElem?_take_of_lt (by rw [Array.length_toList]; omega), Array.getElem?_toList, Sort.putCells, Array.getElem?_mapIdx, Array.getElem?_eq_getElem (by omega : j * d.sz + i < cur.size), Option.map_some, if_pos (by rw [Sort.size_flatK]; omega), Nat.sub_zero, Sort.get_flatK _ _ _ _ (by omega)]
    have q1 : (j * d.sz + i) / d.sz = j := (Sort.blk_iff d.sz j _ (by omega)).1 ⟨by omega, by omega⟩
    have q2 : (j * d.sz + i) % d.sz = i := by rw [Nat.mod_eq_sub_div_mul, q1]; omega
    rw [q1, q2, hx, getElem!_pos (enc x) i (by rw [hk]; exact hi), List.getElem?_eq_getElem (by rw [hk]; exact hi)]
    rfl
   ·rw [List.getElem?_eq_none (by rw [List.length_take]; omega), List.getElem?_eq_none (by rw [hk]; omega)]
  rw [he]
  exact hmk _ _ _ _
 ·have hk3 : k < w.heap.size := Nat.lt_of_lt_of_le hk2 hb.size
  rw [a k hk3 (by omega)]
  exact hb.block k hk2
end

/-! ### slices_SortFunc_impl_Square_impl_Square__impl_comparePlaces: the pair slices.SortFunc[[]loop.example/g01296/impl.Square,loop.example/g01296/impl.Square] -/
/-! squares whose places are small enough that comparePlaces does not wrap -/
def BdSq (s : S73) : Prop := (-1099511627776 ≤ s.f0 ∧ s.f0 ≤ 1099511627776) ∧ (-1099511627776 ≤ s.f1 ∧ s.f1 ≤ 1099511627776)
instance (s : S73) : Decidable (BdSq s) := by unfold BdSq; infer_instance
abbrev BSq := {s : S73 // BdSq s}
instance : Inhabited BSq := ⟨⟨⟨0, 0, 0⟩, by unfold BdSq; decide⟩⟩
def encSq (s : S73) : List Value := [.int .i64 s.f0, .int .i64 s.f1, .int .i64 s.f2]
instance : Inhabited S73 := ⟨⟨0, 0, 0⟩⟩
def cfSq (a b : BSq) : Int := if a.1.f1 ≠ b.1.f1 then a.1.f1 - b.1.f1 else a.1.f0 - b.1.f0
def placeLt (a b : S73) : Prop := a.f1 < b.f1 ∨ a.f1 = b.f1 ∧ a.f0 < b.f0
instance (a b : S73) : Decidable (placeLt a b) := by unfold placeLt; infer_instance
theorem ltSq (a b : BSq) : ltOf cfSq a b = decide (placeLt a.1 b.1) := by
 unfold ltOf cfSq placeLt
 by_cases h : a.1.f1 = b.1.f1
 ·simp [h]; omega
 ·simp [h]; omega
theorem swoSq : Sort.SWO (ltOf cfSq) where
 irrefl x := by rw [ltSq, decide_eq_false_iff_not]; unfold placeLt; omega
 trans x y z h1 h2 := by rw [ltSq, decide_eq_true_iff] at *; unfold placeLt at *; omega
 ntrans x y z h1 h2 := by rw [ltSq, decide_eq_false_iff_not] at *; unfold placeLt at *; omega
def slices_SortFunc_impl_Square_impl_Square__impl_comparePlaces_lay_ren : Go.Shelf.Ren := ⟨fun | 6 => 147 | 15 => 120 | 14 => 157 | 28 => 144 | 29 => 145 | 20 => 149 | 21 => 160 | 22 => 161 | 23 => 162 | 24 => 163 | 25 => 164 | 26 => 165 | 27 => 166 | 46 => 168 | 47 => 152 | 48 => 153 | 49 => 169 | 50 => 170 | 57 => 171 | n => n, fun | 22 => 29 | 24 => 73 | 25 => 105 | 3 => 3 | 39 => 121 | 0 => 0 | 53 => 139 | 55 => 141 | 4 => 4 | 46 => 133 | 45 => 132 | 50 => 48 | 5 => 5 | 9 => 9 | 66 => 145 | 70 => 149 | 76 => 151 | 77 => 152 | n => n, fun | n => n⟩
theorem slices_SortFunc_impl_Square_impl_Square__impl_comparePlaces_lay : Go.Proofs.SlLaysF0.n6 Try.prog slices_SortFunc_impl_Square_impl_Square__impl_comparePlaces_lay_ren where
 mixed := by kernel_rfl
 f6 := ⟨"slices.SortFunc[[]loop.example/g01296/impl.Square,loop.example/g01296/impl.Square]", by decide, Try.func147.trans (congrArg some (by kernel_rfl))⟩
 f14 := ⟨"slices.pdqsortCmpFunc[loop.example/g01296/impl.Square]", by decide, Try.func157.trans (congrArg some (by kernel_rfl))⟩
 f15 := Try.func120.trans (congrArg some (by kernel_rfl))
 f20 := ⟨"slices.insertionSortCmpFunc[loop.example/g01296/impl.Square]", by decide, Try.func149.trans (congrArg some (by kernel_rfl))⟩
 f21 := ⟨"slices.heapSortCmpFunc[loop.example/g01296/impl.Square]", by decide, Try.func160.trans (congrArg some (by kernel_rfl))⟩
 f22 := ⟨"slices.breakPatternsCmpFunc[loop.example/g01296/impl.Square]", by decide, Try.func161.trans (congrArg some (by kernel_rfl))⟩
 f23 := ⟨"slices.choosePivotCmpFunc[loop.example/g01296/impl.Square]", by decide, Try.func162.trans (congrArg some (by kernel_rfl))⟩
 f24 := ⟨"slices.reverseRangeCmpFunc[loop.example/g01296/impl.Square]", by decide, Try.func163.trans (congrArg some (by kernel_rfl))⟩
 f25 := ⟨"slices.partialInsertionSortCmpFunc[loop.example/g01296/impl.Square]", by decide, Try.func164.trans (congrArg some (by kernel_rfl))⟩
 f26 := ⟨"slices.partitionEqualCmpFunc[loop.example/g01296/impl.Square]", by decide, Try.func165.trans (congrArg some (by kernel_rfl))⟩
 f27 := ⟨"slices.partitionCmpFunc[loop.example/g01296/impl.Square]", by decide, Try.func166.trans (congrArg some (by kernel_rfl))⟩
 f28 := Try.func144.trans (congrArg some (by kernel_rfl))
 f29 := Try.func145.trans (congrArg some (by kernel_rfl))
 f46 := ⟨"slices.siftDownCmpFunc[loop.example/g01296/impl.Square]", by decide, Try.func168.trans (congrArg some (by kernel_rfl))⟩
 f47 := Try.func152.trans (congrArg some (by kernel_rfl))
 f48 := Try.func153.trans (congrArg some (by kernel_rfl))
 f49 := ⟨"slices.medianAdjacentCmpFunc[loop.example/g01296/impl.Square]", by decide, Try.func169.trans (congrArg some (by kernel_rfl))⟩
 f50 := ⟨"slices.medianCmpFunc[loop.example/g01296/impl.Square]", by decide, Try.func170.trans (congrArg some (by kernel_rfl))⟩
 f57 := ⟨"slices.order2CmpFunc[loop.example/g01296/impl.Square]", by decide, Try.func171.trans (congrArg some (by kernel_rfl))⟩
 t0 := Try.underlying0
 a0 := Try.isAgg0
 z0 := Try.sizeOf0
 v0 := Try.zeroValue0
 t3 := Try.underlying3
 a3 := Try.isAgg3
 z3 := Try.sizeOf3
 v3 := Try.zeroValue3
 t4 := Try.underlying4
 a4 := Try.isAgg4
 z4 := Try.sizeOf4
 v4 := Try.zeroValue4
 t5 := Try.underlying5
 a5 := Try.isAgg5
 z5 := Try.sizeOf5
 v5 := Try.zeroValue5
 t9 := Try.underlying9
 a9 := Try.isAgg9
 z9 := Try.sizeOf9
 v9 := Try.zeroValue9
 t22 := Try.underlying29
 a22 := Try.isAgg29
 z22 := Try.sizeOf29
 v22 := Try.zeroValue29
 t25 := Try.underlying105
 a25 := Try.isAgg105
 z25 := Try.sizeOf105
 v25 := Try.zeroValue105
 t39 := Try.underlying121
 a39 := Try.isAgg121
 z39 := Try.sizeOf121
 v39 := Try.zeroValue121
 t45 := Try.underlying132
 a45 := Try.isAgg132
 z45 := Try.sizeOf132
 v45 := Try.zeroValue132
 t46 := Try.underlying133
 a46 := Try.isAgg133
 z46 := Try.sizeOf133
 v46 := Try.zeroValue133
 t50 := Try.underlying48
 a50 := Try.isAgg48
 z50 := Try.sizeOf48
 v50 := Try.zeroValue48
 t53 := Try.underlying139
 a53 := Try.isAgg139
 z53 := Try.sizeOf139
 v53 := Try.zeroValue139
 t55 := Try.underlying141
 a55 := Try.isAgg141
 z55 := Try.sizeOf141
 v55 := Try.zeroValue141
 t66 := Try.underlying145
 a66 := Try.isAgg145
 z66 := Try.sizeOf145
 v66 := Try.zeroValue145
 t70 := Try.underlying149
 a70 := Try.isAgg149
 z70 := Try.sizeOf149
 v70 := Try.zeroValue149
 t76 := Try.underlying151
 a76 := Try.isAgg151
 z76 := Try.sizeOf151
 v76 := Try.zeroValue151
 t77 := Try.underlying152
 a77 := Try.isAgg152
 z77 := Try.sizeOf152
 v77 := Try.zeroValue152
def bsqOf (l : List S73) (h : ∀ s ∈ l, BdSq s) : Array BSq := (l.attach.map fun s => (⟨s.1, h s.1 s.2⟩ : BSq)).toArray
def slices_SortFunc_impl_Square_impl_Square__impl_comparePlaces.f (l : List S73) : Option (List S73) :=
 if h : (∀ s ∈ l, BdSq s) ∧ l.length ≤ 1000000 then some ((Sort.pdq (ltOf cfSq) (bsqOf l h.1) 0 l.length (Lib.bitLen l.length) true true).toList.map (·.1)) else none
set_option maxHeartbeats 8000000 in
theorem cmpSq (x y : BSq) (W : World) : Calls Try.prog 98 #[.agg #[.int .i64 x.1.f0, .int .i64 x.1.f1, .int .i64 x.1.f2], .agg #[.int .i64 y.1.f0, .int .i64 y.1.f1, .int .i64 y.1.f2]] W fun e w' => e = .returned (.int .i64 (cfSq x y)) ∧ ∃ q os', w' = Sort.grow (W.drewN q) os' := by
 obtain ⟨⟨x0, x1, x2⟩, bx⟩ := x
 obtain ⟨⟨y0, y1, y2⟩, bY⟩ := y
 have bx' := bx
 have bY' := bY
 unfold BdSq at bx' bY'
 dsimp only at bx' bY' ⊢
 have e1 : wrap64 (x1 - y1) = x1 - y1 := by unfold wrap64; omega
 have e0 : wrap64 (x0 - y0) = x0 - y0 := by unfold wrap64; omega
 clear bx' bY'
 by_cases hc : x1 = y1
 ·have hv : cfSq ⟨⟨x0, x1, x2⟩, bx⟩ ⟨⟨y0, y1, y2⟩, bY⟩ = wrap64 (x0 - y0) := by rw [e0]; unfold cfSq; simp [hc]
  rw [hv]
  clear hv e1 e0
  have c1 : (x1 != y1) = false := by simp [hc]
  have c2 : (x1 == y1) = true := by simp [hc]
  clear hc bx bY
  go_enter Try.func98, Try.ntmps98
  go_wp2
  go_ret
  exact ⟨rfl, 0, _, by rw [Sort.alloc_eq_grow, Sort.alloc_eq_grow, Sort.grow_grow]; rfl⟩
 ·have hv : cfSq ⟨⟨x0, x1, x2⟩, bx⟩ ⟨⟨y0, y1, y2⟩, bY⟩ = wrap64 (x1 - y1) := by rw [e1]; unfold cfSq; simp [hc]
  rw [hv]
  clear hv e1 e0
  have c1 : (x1 != y1) = true := by simp [hc]
  have c2 : (x1 == y1) = false := by simp [hc]
  clear hc bx bY
  go_enter Try.func98, Try.ntmps98
  go_wp2
  go_ret
  exact ⟨rfl, 0, _, by rw [Sort.alloc_eq_grow, Sort.alloc_eq_grow, Sort.grow_grow]; rfl⟩
theorem flat_val (d : Array BSq) : Sort.flatK (fun s : BSq => encSq s.1) 3 d = Sort.flatK encSq 3 (d.map (·.1)) := by
 refine Sort.ext_get! (by simp) fun t ht => ?_
 have ht' : t < d.size * 3 := by simpa using ht
 have hq : t / 3 < d.size := by omega
 rw [Sort.get_flatK _ _ _ _ ht', Sort.get_flatK _ _ _ _ (by simpa using ht'), getElem!_pos d (t / 3) hq, getElem!_pos (d.map (·.1)) (t / 3) (by simpa using hq)]
 simp
set_option maxHeartbeats 8000000 in
theorem slices_SortFunc_impl_Square_impl_Square__impl_comparePlaces.calls (P0_ : Nat → Prop) (u9000_ : Value) (l0 : List S73) (r : List S73) (w0 w : World) (hB : Below w0.heap.size w0 w) (ho0 : Kd.R k73 73 w w0.heap.size P0_ u9000_ l0) (h : slices_SortFunc_impl_Square_impl_Square__impl_comparePlaces.f l0 = some r) :
  Calls Try.prog 147 #[u9000_, .func (.func 98) #[] #[]] w fun e w' => e = .returned (.tuple #[]) ∧ Kd.R k73 73 w' w0.heap.size (fun k_ => (P0_ k_ ∨ w.heap.size ≤ k_)) u9000_ r ∧ Below w0.heap.size w0 w' ∧ Kept w w' (fun k_ => P0_ k_) := by
 unfold slices_SortFunc_impl_Square_impl_Square__impl_comparePlaces.f at h
 by_cases hbd0 : (∀ s ∈ l0, BdSq s) ∧ l0.length ≤ 1000000
 ·rw [dif_pos hbd0] at h
  obtain ⟨hbd, hlen⟩ := hbd0
  have h' := (Option.some.inj h).symm
  clear h
  have ho1 : Kd.R k73 73 w w0.heap.size (fun k_ => (P0_ k_ ∨ w.heap.size ≤ k_)) u9000_ l0 := Kd.R_mono ho0 (fun _ hk => .inl hk)
  by_cases hl : l0 = []
  ·subst hl
   have hr : r = [] := by
    rw [h']
    have hs : (bsqOf [] hbd).size = 0 := by simp [bsqOf]
    have hp := (Sort.pdq_sorts (ltOf cfSq) swoSq (bsqOf [] hbd) 0 0 (Lib.bitLen 0) true true (Nat.le_refl _) (by omega) (Or.inl rfl)).1.1
    rw [hs] at hp
    have he := Array.eq_empty_of_size_eq_zero hp
    show List.map _ (Sort.pdq (ltOf cfSq) (bsqOf [] hbd) 0 0 (Lib.bitLen 0) true true).toList = []
    rw [he]; rfl
   subst hr
   obtain ⟨A, c, rfl⟩ := Kd.R_slice ho0
   refine (AnyF.slices_SortFunc_none slices_SortFunc_impl_Square_impl_Square__impl_comparePlaces_lay A c (.func (.func 98) #[] #[]) w).mono ?_
   rintro e w' ⟨rfl, rfl⟩
   exact ⟨rfl, ho1, hB, Kept.refl _ _⟩
  ·have hp : 0 < l0.length := List.length_pos_iff.2 hl
   obtain ⟨g, cap, rfl, hbase, hlt, cells, hcells⟩ := Kd.R_form ho0 hp
   have hbig : l0.length < 4611686018427387904 := by omega
   have hH := rowK_holds (enc := encSq) (fun h => k73_openM h) (fun _ => rfl) ho0
   have hd : (bsqOf l0 hbd).map (·.1) = l0.toArray := by simp [bsqOf]
   have hH2 : Sort.HoldsK (fun s : BSq => encSq s.1) 3 w g 0 (bsqOf l0 hbd) := by
    unfold Sort.HoldsK
    rw [flat_val, hd]
    exact hH
   have hs : (bsqOf l0 hbd).size = l0.length := by simp [bsqOf]
   have eg : ∀ args w, (callFunc 98 args).run Try.prog w = .ok (.enter 98 args) w := enters_of Try.func98 (by kernel_rfl) rfl
   have hcon := AnyQ.slices_SortFunc_eq slices_SortFunc_impl_Square_impl_Square__impl_comparePlaces_lay 3 Try.isAgg73 Try.sizeOf73 (fun s : BSq => encSq s.1) (fun _ => rfl) (fun x v hv => by simp [encSq] at hv; rcases hv with rfl | rfl | rfl <;> rfl) cfSq swoSq 98 #[] g 0 cap (bsqOf l0 hbd) w eg (fun _ _ _ _ x y => cmpSq x y _) hH2 hlt (by rw [hs]; exact hbig)
   rw [hs] at hcon
   refine hcon.mono ?_
   rintro e w' ⟨rfl, q, os, rfl⟩
   have hps := (Sort.pdq_sorts (ltOf cfSq) swoSq (bsqOf l0 hbd) 0 l0.length (Lib.bitLen l0.length) true true (Nat.zero_le _) (by omega) (Or.inl rfl)).1.1
   generalize Sort.pdq (ltOf cfSq) (bsqOf l0 hbd) 0 l0.length (Lib.bitLen l0.length) true true = dd at h' hps ⊢
   have hw : sortWorldK (fun s : BSq => encSq s.1) 3 w g 0 q dd os = sortWorldK encSq 3 w g 0 q (dd.map (·.1)) os := by
    unfold sortWorldK Sort.putRowK
    rw [flat_val]
   have hput := rowK_put (enc := encSq) (S := fun k_ => P0_ k_) (fun h => k73_openM h) (fun _ _ _ x => k73_mkM _ _ _ x) (fun _ => rfl) ho1 (dd.map (·.1)) (by rw [Array.size_map, hps, hs]) q os hB hbase (ho0.1 g rfl)
   have hr : (dd.map (·.1)).toList = r := by rw [h', Array.toList_map]
   rw [hr] at hput
   rw [hw]
   exact ⟨rfl, hput⟩
 ·rw [dif_neg hbd0] at h
  exact absurd h (by simp)

/-! ### impl_Cut_changed__impl_Cut_turned_1: function 100001 -/
def impl_Cut_changed__impl_Cut_turned_1.l0 : Nat → List (S73) → Int → Int → Int → Int → List (S73) → Int → Int → List (S73) → Option (Int × Int × (List (S73)))
 | 0, _, _, _, _, _, _, _, _, _ => none
 | k + 1, x16, x17, x18, x287000, x287001, x287002, x290000, x290001, x290002 => if x18 < x17 then (if 0 ≤ x18 then (if x18 < (x16.length : Int) then ((impl_Cut_turned_1.f ((rd_T73 x16 x18).f0) ((rd_T73 x16 x18).f1) ((rd_T73 x16 x18).f2) x287000 x287001 x287002).bind fun bt292 => (if x290002.length < 5864062014805 then (impl_Cut_changed__impl_Cut_turned_1.l0 k x16 x17 (wrap64 (x18 + 1)) x287000 x287001 x287002 x290000 x290001 (x290002 ++ [(⟨bt292.1, bt292.2.1, bt292.2.2⟩ : S73)])) else (none))) else (none)) else (none)) else ((slices_SortFunc_impl_Square_impl_Square__impl_comparePlaces.f x290002).bind fun t298 => (some (x290000, x290001, t298)))
def impl_Cut_changed__impl_Cut_turned_1.f (k : Nat) (a0_0 : Int) (a0_1 : Int) (l0_2 : List (S73)) (a1 : Int) (a2 : Int) (a3_0_0 : Int) (a3_0_1 : Int) (l3_0_2 : List (S73)) : Option (Int × Int × (List (S73))) := impl_Cut_changed__impl_Cut_turned_1.l0 k l0_2 (l0_2.length : Int) 0 a3_0_0 a3_0_1 l3_0_2 a1 a2 ([] : List (S73))
def impl_Cut_changed__impl_Cut_turned_1.T5 : Bool × List (List Nat × List Nat) := (true, [([], []), ([0], [0]), ([], []), ([], []), ([2, 3], [2, 3]), ([4], [4]), ([1, 5, 4], [1, 5]), ([0, 1, 2, 3, 4, 5, 6], []), ([7, 6, 6, 0, 1, 2, 3, 4, 5, 6], [6, 7])])
def impl_Cut_changed__impl_Cut_turned_1.B5 : List Nat := [0, 1, 0, 0, 12, 28, 63, 127, 255]
theorem impl_Cut_changed__impl_Cut_turned_1.tab5 : rtab .any (opsOf Try.f124 5) = impl_Cut_changed__impl_Cut_turned_1.T5 := by kernel_rfl
theorem impl_Cut_changed__impl_Cut_turned_1.bits5 : waitsOk impl_Cut_changed__impl_Cut_turned_1.T5.2 impl_Cut_changed__impl_Cut_turned_1.B5 = true := by kernel_rfl
set_option maxHeartbeats 8000000 in
set_option maxRecDepth 100000 in
theorem impl_Cut_changed__impl_Cut_turned_1.calls (k : Nat) (a0_0 : Int) (a0_1 : Int) (A0_2 : Option Addr) (c0_2 : Nat) (l0_2 : List (S73)) (a1 : Int) (a2 : Int) (gc3_0 : Nat) (a3_0_0 : Int) (a3_0_1 : Int) (A3_0_2 : Option Addr) (c3_0_2 : Nat) (l3_0_2 : List (S73)) (r1 : Int) (r2 : Int) (r3 : List (S73)) (w : World) (hr0_2 : Kd.C k73 w A0_2 l0_2.length l0_2) (hc0_2 : l0_2.length ≤ c0_2) (hr3_0_2 : Kd.C k73 w A3_0_2 l3_0_2.length l3_0_2) (hc3_0_2 : l3_0_2.length ≤ c3_0_2) (hb3_0 : w.heap[gc3_0]? = some (.cells #[.int .i64 a3_0_0, .int .i64 a3_0_1, .slice A3_0_2 l3_0_2.length c3_0_2] 31 (0, 0))) (h : impl_Cut_changed__impl_Cut_turned_1.f k a0_0 a0_1 l0_2 a1 a2 a3_0_0 a3_0_1 l3_0_2 = some (r1, r2, r3)) :
  Calls Try.prog 124 #[.agg #[.int .i64 a0_0, .int .i64 a0_1, .slice A0_2 l0_2.length c0_2], .int .i64 a1, .int .i64 a2, .func (.func 125) #[] #[.pointer (some ⟨gc3_0, 0, none⟩)]] w fun e w' => ∃ v2_ : Value, e = .returned (.agg #[.int .i64 r1, .int .i64 r2, v2_]) ∧ Kd.R k73 73 w' w.heap.size (fun _ => True) v2_ r3 ∧ Below w.heap.size w w' := by
 have hu31 := Try.underlying31
 have hu73 := Try.underlying73
 have HR0_2 := Aside0.mk hr0_2
 have HC0_2 := Aside0.mk hc0_2
 clear hr0_2 hc0_2
 have HR3_0_2 := Aside0.mk hr3_0_2
 have HC3_0_2 := Aside0.mk hc3_0_2
 clear hr3_0_2 hc3_0_2
 have BK286 := Aside0.mk hb3_0
 clear hb3_0
 have HB := Aside0.mk (Below.refl w.heap.size w)
 have H : (impl_Cut_changed__impl_Cut_turned_1.l0 k l0_2 (l0_2.length : Int) 0 a3_0_0 a3_0_1 l3_0_2 a1 a2 ([] : List (S73))) = some (r1, r2, r3) := h
 clear h
 have H' := Aside0.mk H
 clear H
 go_enter Try.func124, Try.ntmps124
 go_wp2_with (first | ((with_reducible refine gate_dst (N := 4) rfl ?_); refine box_event ?hg (N := 4) ?hd (cs := #[.int .i64 a0_0, .int .i64 a0_1, .slice A0_2 l0_2.length c0_2]) (t := 31) ?hr ?_; (case hd => rfl); (case hg => rfl); (case hr => first | (go_simp; done) | (go_simp; rfl)); intro gb287 hg w5 hbox hb; have n0_ := Aside0.mk (blk_below (g := gc3_0) (o := .cells #[.int .i64 a3_0_0, .int .i64 a3_0_1, .slice A3_0_2 l3_0_2.length c3_0_2] 31 (0, 0)) (upK BK286) hb); have n1_ := Aside0.mk (below_step (upW HB) hb); have n2_ := Aside0.mk (hbox); have n3_ := Aside0.mk ((by rw [hg]; exact (below_size (upW HB)) : w.heap.size ≤ gb287)); have n4_ := Aside0.mk ((by rw [hg]; exact (below_size (upW HB)) : w.heap.size ≤ gb287)); have n5_ := Aside0.mk ((by rw [hg]; exact Nat.ne_of_lt (blk_lt (g := gc3_0) (o := .cells #[.int .i64 a3_0_0, .int .i64 a3_0_1, .slice A3_0_2 l3_0_2.length c3_0_2] 31 (0, 0)) (upK BK286)) : gc3_0 ≠ gb287)); have n6_ := Aside0.mk ((by rw [hg]; exact Nat.ne_of_gt (blk_lt (g := gc3_0) (o := .cells #[.int .i64 a3_0_0, .int .i64 a3_0_1, .slice A3_0_2 l3_0_2.length c3_0_2] 31 (0, 0)) (upK BK286)) : gb287 ≠ gc3_0)); clear BK286; clear HB; have BK286 := n0_; have HB := n1_; have BK287 := n2_; have GW287 := n3_; have GE287 := n4_; have NB286_287 := n5_; have NB287_286 := n6_; clear n0_ n1_ n2_ n3_ n4_ n5_ n6_; clear hb hbox hg) | ((with_reducible refine gate_dst (N := 8) rfl ?_); refine box_event ?hg (N := 8) ?hd (cs := #[.int .i64 0, .int .i64 0, .slice none 0 0]) (t := 31) ?hr ?_; (case hd => rfl); (case hg => rfl); (case hr => first | (go_simp; done) | (go_simp; rfl)); intro gb288 hg w6 hbox hb; have n0_ := Aside0.mk (blk_below (g := gc3_0) (o := .cells #[.int .i64 a3_0_0, .int .i64 a3_0_1, .slice A3_0_2 l3_0_2.length c3_0_2] 31 (0, 0)) (upK BK286) hb); have n1_ := Aside0.mk (blk_below (upK BK287) hb); have n2_ := Aside0.mk (below_step (upW HB) hb); have n3_ := Aside0.mk (hbox); have n4_ := Aside0.mk ((by rw [hg]; exact (below_size (upW HB)) : w.heap.size ≤ gb288)); have n5_ := Aside0.mk ((by rw [hg]; exact (below_size (upW HB)) : w.heap.size ≤ gb288)); have n6_ := Aside0.mk ((by rw [hg]; exact Nat.ne_of_lt (blk_lt (g := gc3_0) (o := .cells #[.int .i64 a3_0_0, .int .i64 a3_0_1, .slice A3_0_2 l3_0_2.length c3_0_2] 31 (0, 0)) (upK BK286)) : gc3_0 ≠ gb288)); have n7_ := Aside0.mk ((by rw [hg]; exact Nat.ne_of_gt (blk_lt (g := gc3_0) (o := .cells #[.int .i64 a3_0_0, .int .i64 a3_0_1, .slice A3_0_2 l3_0_2.length c3_0_2] 31 (0, 0)) (upK BK286)) : gb288 ≠ gc3_0)); have n8_ := Aside0.mk ((by rw [hg]; exact Nat.ne_of_lt (blk_lt (upK BK287)) : gb287 ≠ gb288)); have n9_ := Aside0.mk ((by rw [hg]; exact Nat.ne_of_gt (blk_lt (upK BK287)) : gb288 ≠ gb287)); clear BK286; clear BK287; clear HB; have BK286 := n0_; have BK287 := n1_; have HB := n2_; have BK288 := n3_; have GW288 := n4_; have GE288 := n5_; have NB286_288 := n6_; have NB288_286 := n7_; have NB287_288 := n8_; have NB288_287 := n9_; clear n0_ n1_ n2_ n3_ n4_ n5_ n6_ n7_ n8_ n9_; clear hb hbox hg) | ((with_reducible refine gate_dst (N := 9) rfl ?_); refine box_event ?hg (N := 9) ?hd (cs := #[.int .i64 0, .int .i64 0, .slice none 0 0]) (t := 31) ?hr ?_; (case hd => rfl); (case hg => rfl); (case hr => first | (go_simp; done) | (go_simp; rfl)); intro gb289 hg w7 hbox hb; have n0_ := Aside0.mk (blk_below (g := gc3_0) (o := .cells #[.int .i64 a3_0_0, .int .i64 a3_0_1, .slice A3_0_2 l3_0_2.length c3_0_2] 31 (0, 0)) (upK BK286) hb); have n1_ := Aside0.mk (blk_below (upK BK287) hb); have n2_ := Aside0.mk (blk_below (upK BK288) hb); have n3_ := Aside0.mk (below_step (upW HB) hb); have n4_ := Aside0.mk (hbox); have n5_ := Aside0.mk ((by rw [hg]; exact (below_size (upW HB)) : w.heap.size ≤ gb289)); have n6_ := Aside0.mk ((by rw [hg]; exact (below_size (upW HB)) : w.heap.size ≤ gb289)); have n7_ := Aside0.mk ((by rw [hg]; exact Nat.ne_of_lt (blk_lt (g := gc3_0) (o := .cells #[.int .i64 a3_0_0, .int .i64 a3_0_1, .slice A3_0_2 l3_0_2.length c3_0_2] 31 (0, 0)) (upK BK286)) : gc3_0 ≠ gb289)); have n8_ := Aside0.mk ((by rw [hg]; exact Nat.ne_of_gt (blk_lt (g := gc3_0) (o := .cells #[.int .i64 a3_0_0, .int .i64 a3_0_1, .slice A3_0_2 l3_0_2.length c3_0_2] 31 (0, 0)) (upK BK286)) : gb289 ≠ gc3_0)); have n9_ := Aside0.mk ((by rw [hg]; exact Nat.ne_of_lt (blk_lt (upK BK287)) : gb287 ≠ gb289)); have n10_ := Aside0.mk ((by rw [hg]; exact Nat.ne_of_gt (blk_lt (upK BK287)) : gb289 ≠ gb287)); have n11_ := Aside0.mk ((by rw [hg]; exact Nat.ne_of_lt (blk_lt (upK BK288)) : gb288 ≠ gb289)); have n12_ := Aside0.mk ((by rw [hg]; exact Nat.ne_of_gt (blk_lt (upK BK288)) : gb289 ≠ gb288)); clear BK286; clear BK287; clear BK288; clear HB; have BK286 := n0_; have BK287 := n1_; have BK288 := n2_; have HB := n3_; have BK289 := n4_; have GW289 := n5_; have GE289 := n6_; have NB286_289 := n7_; have NB289_286 := n8_; have NB287_289 := n9_; have NB289_287 := n10_; have NB288_289 := n11_; have NB289_288 := n12_; clear n0_ n1_ n2_ n3_ n4_ n5_ n6_ n7_ n8_ n9_ n10_ n11_ n12_; clear hb hbox hg; have hnb8 := NB289_286.out; have hnc8 := NB286_289.out; have hnb9 := NB289_287.out; have hnc9 := NB287_289.out; have hnb10 := NB289_288.out; have hnc10 := NB288_289.out; have hcz11_0 : w7.cell? ⟨gb289, 0, none⟩ = some (.int .i64 0) := (blk_cell BK289.out 0).trans rfl; have hcz11_1 : w7.cell? ⟨gb289, 1, none⟩ = some (.int .i64 0) := (blk_cell BK289.out 1).trans rfl; have hcz11_2 : w7.cell? ⟨gb289, 2, none⟩ = some (.slice none 0 0) := (blk_cell BK289.out 2).trans rfl; have hfz11_0 := blk_frozen BK289.out 0; have hfz11_1 := blk_frozen BK289.out 1; have hfz11_2 := blk_frozen BK289.out 2; have hnb12 := NB287_286.out; have hnc12 := NB286_287.out; have hnb13 := NB287_288.out; have hnc13 := NB288_287.out; have hcz14_0 : w7.cell? ⟨gb287, 0, none⟩ = some (.int .i64 a0_0) := (blk_cell BK287.out 0).trans rfl; have hcz14_1 : w7.cell? ⟨gb287, 1, none⟩ = some (.int .i64 a0_1) := (blk_cell BK287.out 1).trans rfl; have hcz14_2 : w7.cell? ⟨gb287, 2, none⟩ = some (.slice A0_2 l0_2.length c0_2) := (blk_cell BK287.out 2).trans rfl; have hfz14_0 := blk_frozen BK287.out 0; have hfz14_1 := blk_frozen BK287.out 1; have hfz14_2 := blk_frozen BK287.out 2))
 go_loopg [18] k (fun kq v18 w' => ∃ (x18_1 : Int) (x290002_1 : List (S73)) (u290002 : Value), v18 = .int .i64 x18_1 ∧ Aside0 (impl_Cut_changed__impl_Cut_turned_1.l0 kq l0_2 (l0_2.length : Int) x18_1 a3_0_0 a3_0_1 l3_0_2 a1 a2 x290002_1 = some (r1, r2, r3)) ∧ Aside0 (kq ≤ k) ∧ Aside0 (Kd.R k73 73 w' w.heap.size (fun _ => True) u290002 x290002_1) ∧ Aside0 (w'.heap[gc3_0]? = some (.cells #[.int .i64 a3_0_0, .int .i64 a3_0_1, (.slice A3_0_2 l3_0_2.length c3_0_2)] 31 (0, 0))) ∧ Aside0 (w'.heap[gb287]? = some (.cells #[.int .i64 a0_0, .int .i64 a0_1, (.slice A0_2 l0_2.length c0_2)] 31 (0, 0))) ∧ Aside0 (w'.heap[gb288]? = some (.cells #[.int .i64 0, .int .i64 0, (.slice none 0 0)] 31 (0, 0))) ∧ Aside0 (w'.heap[gb289]? = some (.cells #[.int .i64 a1, .int .i64 a2, u290002] 31 (0, 0))) ∧ Aside0 (Below w.heap.size w w'))
 case atStart => exact ⟨(0), (([] : List (S73))), (.slice none 0 0), (by first | rfl | (simp; done) | (simp [*]; done)), H', ⟨Nat.le_refl _⟩, ⟨by first | exact Kd.R_nil _ _ _ _ _ | exact Kd.N_nil _ _ _ _ _ | exact Kd.V_nil _ _ _ _ _ | exact Kd.Q_nil _ _ _ _ _ | exact Kd.S_nil _ _ _ _ _⟩, ⟨upF BK286⟩, ⟨upF BK287⟩, ⟨upF BK288⟩, ⟨by (with_reducible repeat (first | refine blk_drewN ?_ _ | refine blk_drew ?_ | refine blk_alloc ?_ _)); refine blk_put (cs := #[.int .i64 a1, .int .i64 a2, .slice none 0 0]) ?_ 2 _ rfl; (with_reducible repeat (first | refine blk_drewN ?_ _ | refine blk_drew ?_ | refine blk_alloc ?_ _)); refine blk_put (cs := #[.int .i64 a1, .int .i64 0, .slice none 0 0]) ?_ 1 _ rfl; (with_reducible repeat (first | refine blk_drewN ?_ _ | refine blk_drew ?_ | refine blk_alloc ?_ _)); refine blk_put (cs := #[.int .i64 0, .int .i64 0, .slice none 0 0]) ?_ 0 _ rfl; (with_reducible repeat (first | refine blk_drewN ?_ _ | refine blk_drew ?_ | refine blk_alloc ?_ _)); exact BK289.out⟩, ⟨upW HB⟩⟩
 case round =>
  clear H'
  try clear c1
  try clear p2
  try clear c3
  try clear c8
  try clear c9
  try clear c10
  try clear c12
  try clear c13
  try clear hcz11_0
  try clear hcz11_1
  try clear hcz11_2
  try clear hcz14_0
  try clear hcz14_1
  try clear hcz14_2
  try clear hfz11_0
  try clear hfz11_1
  try clear hfz11_2
  try clear hfz14_0
  try clear hfz14_1
  try clear hfz14_2
  obtain ⟨x18_1, x290002_1, u290002, rfl, HA, HK1, HO_290002, BK286, BK287, BK288, BK289, HB⟩ := hrel
  cases gk with
  | zero => exact absurd HA.out (by simp [impl_Cut_changed__impl_Cut_turned_1.l0])
  | succ k1 =>
   have H := HA.out
   clear HA
   simp only [impl_Cut_changed__impl_Cut_turned_1.l0] at H
   by_cases c15 : x18_1 < (l0_2.length : Int)
   ·rw [if_pos c15] at H
    have c15b0 : decide (x18_1 < (l0_2.length : Int)) = true := decide_eq_true c15
    clear c15
    by_cases c16 : 0 ≤ x18_1
    ·rw [if_pos c16] at H
     have c16b0 : decide (0 ≤ x18_1) = true := decide_eq_true c16
     clear c16
     by_cases c17 : x18_1 < (l0_2.length : Int)
     ·rw [if_pos c17] at H
      have c17b0 : decide (x18_1 < (l0_2.length : Int)) = true := decide_eq_true c17
      clear c17
      replace H := Option.bind_eq_some_iff.mp H
      obtain ⟨⟨t292, t293, t294⟩, A180, H⟩ := H
      replace H : (if x290002_1.length < 5864062014805 then (impl_Cut_changed__impl_Cut_turned_1.l0 k1 l0_2 (l0_2.length : Int) (wrap64 (x18_1 + 1)) a3_0_0 a3_0_1 l3_0_2 a1 a2 (x290002_1 ++ [(⟨t292, t293, t294⟩ : S73)])) else (none)) = some (r1, r2, r3) := H
      have A18 := Aside0.mk A180
      clear A180
      by_cases c19 : x290002_1.length < 5864062014805
      ·rw [if_pos c19] at H
       have LMc19 := Aside0.mk c19
       clear c19
       obtain ⟨y295, hy295⟩ : ∃ y_ : List (S73), y_ = (x290002_1 ++ [(⟨t292, t293, t294⟩ : S73)]) := ⟨_, rfl⟩
       replace H : (impl_Cut_changed__impl_Cut_turned_1.l0 k1 l0_2 (l0_2.length : Int) (wrap64 (x18_1 + 1)) a3_0_0 a3_0_1 l3_0_2 a1 a2 y295) = some (r1, r2, r3) := by first | (rw [hy295]; with_reducible exact H) | (have H2_ := (Option.bind_some _ _).symm.trans H; rw [hy295]; with_reducible exact H2_) | (have H2_ := (Option.bind_some _ _).symm.trans H; with_reducible exact H2_) | with_reducible exact H | (rw [hy295]; exact H) | exact H
       have Ny295 := Aside0.mk hy295
       clear hy295
       have H' := Aside0.mk H
       clear H
       have p290 : 0 ≤ (x18_1 : Int) := of_decide_eq_true (by first | (with_reducible assumption) | assumption)
       have q290 : x18_1 < (l0_2.length : Int) := of_decide_eq_true (by first | (with_reducible assumption) | assumption)
       obtain ⟨ad290, e290, hx290_0, hx290_1, hx290_2⟩ := at_T73 HR0_2.out x18_1 p290 q290
       cases e290
       replace hx290_0 := (HB.out.cell (World.block_lt_of_cell? w _ hx290_0)).trans hx290_0
       replace hx290_1 := (HB.out.cell (World.block_lt_of_cell? w _ hx290_1)).trans hx290_1
       replace hx290_2 := (HB.out.cell (World.block_lt_of_cell? w _ hx290_2)).trans hx290_2
       replace p290 := eq_true p290
       replace q290 := eq_true q290
       try go_wp2_with (first | ((with_reducible refine gate_dst (N := 11) rfl ?_); refine box_event ?hg (N := 11) ?hd (cs := #[.int .i64 0, .int .i64 0, .int .i64 0]) (t := 73) ?hr ?_; (case hd => rfl); (case hg => rfl); (case hr => first | (go_simp; done) | (go_simp; rfl)); intro gb291 hg w20 hbox hb; have n0_ := Aside0.mk (Kd.R_below (Kd.R_elderB (upR HO_290002) gb291 (Nat.le_of_eq hg.symm)) hb); have n1_ := Aside0.mk (blk_below (g := gc3_0) (o := .cells #[.int .i64 a3_0_0, .int .i64 a3_0_1, .slice A3_0_2 l3_0_2.length c3_0_2] 31 (0, 0)) (upK BK286) hb); have n2_ := Aside0.mk (blk_below (upK BK287) hb); have n3_ := Aside0.mk (blk_below (upK BK288) hb); have n4_ := Aside0.mk (blk_below (upK BK289) hb); have n5_ := Aside0.mk (below_step (upW HB) hb); have n6_ := Aside0.mk (hbox); have n7_ := Aside0.mk ((by rw [hg]; exact (below_size (upW HB)) : w.heap.size ≤ gb291)); have n8_ := Aside0.mk ((by rw [hg]; exact (below_size (upW HB)) : w.heap.size ≤ gb291)); have n9_ := Aside0.mk ((by rw [hg]; exact Nat.ne_of_lt (blk_lt (g := gc3_0) (o := .cells #[.int .i64 a3_0_0, .int .i64 a3_0_1, .slice A3_0_2 l3_0_2.length c3_0_2] 31 (0, 0)) (upK BK286)) : gc3_0 ≠ gb291)); have n10_ := Aside0.mk ((by rw [hg]; exact Nat.ne_of_gt (blk_lt (g := gc3_0) (o := .cells #[.int .i64 a3_0_0, .int .i64 a3_0_1, .slice A3_0_2 l3_0_2.length c3_0_2] 31 (0, 0)) (upK BK286)) : gb291 ≠ gc3_0)); have n11_ := Aside0.mk ((by rw [hg]; exact Nat.ne_of_lt (blk_lt (upK BK287)) : gb287 ≠ gb291)); have n12_ := Aside0.mk ((by rw [hg]; exact Nat.ne_of_gt (blk_lt (upK BK287)) : gb291 ≠ gb287)); have n13_ := Aside0.mk ((by rw [hg]; exact Nat.ne_of_lt (blk_lt (upK BK288)) : gb288 ≠ gb291)); have n14_ := Aside0.mk ((by rw [hg]; exact Nat.ne_of_gt (blk_lt (upK BK288)) : gb291 ≠ gb288)); have n15_ := Aside0.mk ((by rw [hg]; exact Nat.ne_of_lt (blk_lt (upK BK289)) : gb289 ≠ gb291)); have n16_ := Aside0.mk ((by rw [hg]; exact Nat.ne_of_gt (blk_lt (upK BK289)) : gb291 ≠ gb289)); clear HO_290002; clear BK286; clear BK287; clear BK288; clear BK289; clear HB; have HO_290002 := n0_; have BK286 := n1_; have BK287 := n2_; have BK288 := n3_; have BK289 := n4_; have HB := n5_; have BK291 := n6_; have GW291 := n7_; have GE291 := n8_; have NB286_291 := n9_; have NB291_286 := n10_; have NB287_291 := n11_; have NB291_287 := n12_; have NB288_291 := n13_; have NB291_288 := n14_; have NB289_291 := n15_; have NB291_289 := n16_; clear n0_ n1_ n2_ n3_ n4_ n5_ n6_ n7_ n8_ n9_ n10_ n11_ n12_ n13_ n14_ n15_ n16_; clear hb hbox hg; have hnb21 := NB291_286.out; have hnc21 := NB286_291.out; have hnb22 := NB291_287.out; have hnc22 := NB287_291.out; have hnb23 := NB291_288.out; have hnc23 := NB288_291.out; have hnb24 := NB291_289.out; have hnc24 := NB289_291.out; have hcz25_0 : w20.cell? ⟨gb291, 0, none⟩ = some (.int .i64 0) := (blk_cell BK291.out 0).trans rfl; have hcz25_1 : w20.cell? ⟨gb291, 1, none⟩ = some (.int .i64 0) := (blk_cell BK291.out 1).trans rfl; have hcz25_2 : w20.cell? ⟨gb291, 2, none⟩ = some (.int .i64 0) := (blk_cell BK291.out 2).trans rfl; have hfz25_0 := blk_frozen BK291.out 0; have hfz25_1 := blk_frozen BK291.out 1; have hfz25_2 := blk_frozen BK291.out 2))
       have n0_ : Aside0 (Kd.R k73 73 (((w20.setCell ⟨gb291, 0, none⟩ (.int .i64 ((rd_T73 l0_2 x18_1).f0))).setCell ⟨gb291, 1, none⟩ (.int .i64 ((rd_T73 l0_2 x18_1).f1))).setCell ⟨gb291, 2, none⟩ (.int .i64 ((rd_T73 l0_2 x18_1).f2))) w.heap.size (fun k_ => k_ ≠ gb291) u290002 x290002_1) := ⟨by (with_reducible repeat (first | apply Kd.R_alloc | apply Kd.R_drewN | apply Kd.R_drew)); exact Kd.R_mono (Kd.R_far (p := ⟨gb291, 2, none⟩) (Kd.R_far (p := ⟨gb291, 1, none⟩) (Kd.R_far (p := ⟨gb291, 0, none⟩) (Kd.R_mono HO_290002.out (fun k_ hk => (⟨hk, hk.2⟩ : _ ∧ k_ ≠ gb291))) (fun _ hk => hk.2) (.int .i64 ((rd_T73 l0_2 x18_1).f0))) (fun _ hk => hk.2) (.int .i64 ((rd_T73 l0_2 x18_1).f1))) (fun _ hk => hk.2) (.int .i64 ((rd_T73 l0_2 x18_1).f2))) (fun _ hk => hk.1.2)⟩
       have n1_ : Aside0 ((((w20.setCell ⟨gb291, 0, none⟩ (.int .i64 ((rd_T73 l0_2 x18_1).f0))).setCell ⟨gb291, 1, none⟩ (.int .i64 ((rd_T73 l0_2 x18_1).f1))).setCell ⟨gb291, 2, none⟩ (.int .i64 ((rd_T73 l0_2 x18_1).f2))).heap[gc3_0]? = some (.cells #[.int .i64 a3_0_0, .int .i64 a3_0_1, .slice A3_0_2 l3_0_2.length c3_0_2] 31 (0, 0))) := ⟨upF BK286⟩
       have n2_ : Aside0 ((((w20.setCell ⟨gb291, 0, none⟩ (.int .i64 ((rd_T73 l0_2 x18_1).f0))).setCell ⟨gb291, 1, none⟩ (.int .i64 ((rd_T73 l0_2 x18_1).f1))).setCell ⟨gb291, 2, none⟩ (.int .i64 ((rd_T73 l0_2 x18_1).f2))).heap[gb287]? = some (.cells #[.int .i64 a0_0, .int .i64 a0_1, .slice (some ad290) l0_2.length c0_2] 31 (0, 0))) := ⟨upF BK287⟩
       have n3_ : Aside0 ((((w20.setCell ⟨gb291, 0, none⟩ (.int .i64 ((rd_T73 l0_2 x18_1).f0))).setCell ⟨gb291, 1, none⟩ (.int .i64 ((rd_T73 l0_2 x18_1).f1))).setCell ⟨gb291, 2, none⟩ (.int .i64 ((rd_T73 l0_2 x18_1).f2))).heap[gb288]? = some (.cells #[.int .i64 0, .int .i64 0, .slice none 0 0] 31 (0, 0))) := ⟨upF BK288⟩
       have n4_ : Aside0 ((((w20.setCell ⟨gb291, 0, none⟩ (.int .i64 ((rd_T73 l0_2 x18_1).f0))).setCell ⟨gb291, 1, none⟩ (.int .i64 ((rd_T73 l0_2 x18_1).f1))).setCell ⟨gb291, 2, none⟩ (.int .i64 ((rd_T73 l0_2 x18_1).f2))).heap[gb289]? = some (.cells #[.int .i64 a1, .int .i64 a2, u290002] 31 (0, 0))) := ⟨upF BK289⟩
       have n5_ : Aside0 ((((w20.setCell ⟨gb291, 0, none⟩ (.int .i64 ((rd_T73 l0_2 x18_1).f0))).setCell ⟨gb291, 1, none⟩ (.int .i64 ((rd_T73 l0_2 x18_1).f1))).setCell ⟨gb291, 2, none⟩ (.int .i64 ((rd_T73 l0_2 x18_1).f2))).heap[gb291]? = some (.cells #[.int .i64 ((rd_T73 l0_2 x18_1).f0), .int .i64 ((rd_T73 l0_2 x18_1).f1), .int .i64 ((rd_T73 l0_2 x18_1).f2)] 73 (0, 0))) := ⟨by (with_reducible repeat (first | refine blk_drewN ?_ _ | refine blk_drew ?_ | refine blk_alloc ?_ _)); refine blk_put (cs := #[.int .i64 ((rd_T73 l0_2 x18_1).f0), .int .i64 ((rd_T73 l0_2 x18_1).f1), .int .i64 0]) ?_ 2 _ rfl; (with_reducible repeat (first | refine blk_drewN ?_ _ | refine blk_drew ?_ | refine blk_alloc ?_ _)); refine blk_put (cs := #[.int .i64 ((rd_T73 l0_2 x18_1).f0), .int .i64 0, .int .i64 0]) ?_ 1 _ rfl; (with_reducible repeat (first | refine blk_drewN ?_ _ | refine blk_drew ?_ | refine blk_alloc ?_ _)); refine blk_put (cs := #[.int .i64 0, .int .i64 0, .int .i64 0]) ?_ 0 _ rfl; (with_reducible repeat (first | refine blk_drewN ?_ _ | refine blk_drew ?_ | refine blk_alloc ?_ _)); exact BK291.out⟩
       have n6_ : Aside0 (Below w.heap.size w (((w20.setCell ⟨gb291, 0, none⟩ (.int .i64 ((rd_T73 l0_2 x18_1).f0))).setCell ⟨gb291, 1, none⟩ (.int .i64 ((rd_T73 l0_2 x18_1).f1))).setCell ⟨gb291, 2, none⟩ (.int .i64 ((rd_T73 l0_2 x18_1).f2)))) := ⟨upW HB⟩
       (try clear HO_290002)
       (try clear BK286)
       (try clear BK287)
       (try clear BK288)
       (try clear BK289)
       (try clear BK291)
       (try clear HB)
       (try simp only [drewN_setCell])
       generalize (((w20.setCell ⟨gb291, 0, none⟩ (.int .i64 ((rd_T73 l0_2 x18_1).f0))).setCell ⟨gb291, 1, none⟩ (.int .i64 ((rd_T73 l0_2 x18_1).f1))).setCell ⟨gb291, 2, none⟩ (.int .i64 ((rd_T73 l0_2 x18_1).f2))) = w26 at n0_ n1_ n2_ n3_ n4_ n5_ n6_ ⊢
       have HO_290002 := n0_
       have BK286 := n1_
       have BK287 := n2_
       have BK288 := n3_
       have BK289 := n4_
       have BK291 := n5_
       have HB := n6_
       clear n0_ n1_ n2_ n3_ n4_ n5_ n6_
       have n0_ := Aside0.mk (Kd.R_drew HO_290002.out)
       have n1_ := Aside0.mk (blk_drew BK286.out)
       have n2_ := Aside0.mk (blk_drew BK287.out)
       have n3_ := Aside0.mk (blk_drew BK288.out)
       have n4_ := Aside0.mk (blk_drew BK289.out)
       have n5_ := Aside0.mk (blk_drew BK291.out)
       have n6_ := Aside0.mk (below_drew1 HB.out)
       clear HO_290002
       clear BK286
       clear BK287
       clear BK288
       clear BK289
       clear BK291
       clear HB
       have HO_290002 := n0_
       have BK286 := n1_
       have BK287 := n2_
       have BK288 := n3_
       have BK289 := n4_
       have BK291 := n5_
       have HB := n6_
       clear n0_ n1_ n2_ n3_ n4_ n5_ n6_
       refine start_ (n := 9) (S := fun w' => w'.cell? ⟨gb289, 0, none⟩ = some (.int .i64 a1) ∧ w'.cell? ⟨gb289, 1, none⟩ = some (.int .i64 a2) ∧ w'.cell? ⟨gb289, 2, none⟩ = some (u290002) ∧ w'.cell? ⟨gb291, 0, none⟩ = some (.int .i64 ((rd_T73 l0_2 x18_1).f0)) ∧ w'.cell? ⟨gb291, 1, none⟩ = some (.int .i64 ((rd_T73 l0_2 x18_1).f1)) ∧ w'.cell? ⟨gb291, 2, none⟩ = some (.int .i64 ((rd_T73 l0_2 x18_1).f2))) (ds := [8]) #[false, false, false, false, false, false, false, false, false] (by kernel_rfl) rfl rfl ⟨(blk_cell BK289.out 0).trans rfl, (blk_cell BK289.out 1).trans rfl, (blk_cell BK289.out 2).trans rfl, (blk_cell BK291.out 0).trans rfl, (blk_cell BK291.out 1).trans rfl, (blk_cell BK291.out 2).trans rfl⟩ (fun hHeld => ?_); refine with_tabW impl_Cut_changed__impl_Cut_turned_1.tab5 impl_Cut_changed__impl_Cut_turned_1.bits5 (fun HT_ HW_ => ?_)
       generalize w26.drew = w27 at HO_290002 BK286 BK287 BK288 BK289 BK291 HB hHeld ⊢
       refine pure_ (i := 0) (N := some 22) (v := ?_) (a' := ?_) #[true, false, false, false, false, false, false, false, false] rfl rfl (any_of HT_.out (by kernel_rfl)) (fun _ _ _ h => h) (Or.inl ⟨by rfl, ?_⟩) ?_ ?_
       rotate_left
       ·intro w'
        go_simp
        with_reducible rfl
       rotate_left
       ·simp only [Act.put, List.setIfInBounds_toArray, List.set_cons_zero, List.set_cons_succ, i64_w, i32_w]
        rfl
       refine pure_ (i := 2) (N := some 24) (v := ?_) (a' := ?_) #[true, false, true, false, false, false, false, false, false] rfl rfl (any_of HT_.out (by kernel_rfl)) (fun _ _ _ h => h) (Or.inl ⟨by rfl, ?_⟩) ?_ ?_
       rotate_left
       ·intro w'
        go_simp
        with_reducible rfl
       rotate_left
       ·simp only [Act.put, List.setIfInBounds_toArray, List.set_cons_zero, List.set_cons_succ, i64_w, i32_w]
        rfl
       refine take_ (i := 1) (N := some 23) (v := ?_) (a' := ?_) #[true, true, true, false, false, false, false, false, false] rfl rfl (take_ofW HT_.out HW_.out (by kernel_rfl)) (fun _ _ _ h => h) (Or.inl ⟨by rfl, ?_⟩) hHeld ?_ ?_
       rotate_left
       ·rintro w' ⟨s0, s1, s2, s3, s4, s5⟩
        go_simp
        with_reducible rfl
       rotate_left
       ·simp only [Act.put, List.setIfInBounds_toArray, List.set_cons_zero, List.set_cons_succ, i64_w, i32_w]
        rfl
       refine take_ (i := 3) (N := some 25) (v := ?_) (a' := ?_) #[true, true, true, true, false, false, false, false, false] rfl rfl (take_ofW HT_.out HW_.out (by kernel_rfl)) (fun _ _ _ h => h) (Or.inl ⟨by rfl, ?_⟩) hHeld ?_ ?_
       rotate_left
       ·rintro w' ⟨s0, s1, s2, s3, s4, s5⟩
        go_simp
        with_reducible rfl
       rotate_left
       ·simp only [Act.put, List.setIfInBounds_toArray, List.set_cons_zero, List.set_cons_succ, i64_w, i32_w]
        rfl
       refine one_ (i := 4) (N := some 26) #[true, true, true, true, true, false, false, false, false] rfl rfl (one_of HT_.out (by kernel_rfl)) (by decide) (fun K hK => ?_)
       (first | (refine goes_ Try.func125 (by kernel_rfl) rfl #[.agg #[.int .i64 ((rd_T73 l0_2 x18_1).f0), .int .i64 ((rd_T73 l0_2 x18_1).f1), .int .i64 ((rd_T73 l0_2 x18_1).f2)], .pointer (some ⟨gc3_0, 0, none⟩)] (by rfl) rfl rfl itp ?_) | (refine goesv_ Try.func125 (by kernel_rfl) rfl #[.agg #[.int .i64 ((rd_T73 l0_2 x18_1).f0), .int .i64 ((rd_T73 l0_2 x18_1).f1), .int .i64 ((rd_T73 l0_2 x18_1).f2)], .pointer (some ⟨gc3_0, 0, none⟩)] (by rfl) rfl rfl (by rfl) itpv ?_))
       with_reducible refine (impl_Cut_turned_1.calls ((rd_T73 l0_2 x18_1).f0) ((rd_T73 l0_2 x18_1).f1) ((rd_T73 l0_2 x18_1).f2) gc3_0 a3_0_0 a3_0_1 A3_0_2 c3_0_2 l3_0_2 t292 t293 t294 _ ?side1 ?side2 ?side3 A18.out).mono ?_
       (case side1 => repeat (first | exact (Kd.C_below HR3_0_2.out HB.out) | (with_reducible refine Kd.C_alloc ?_ _) | (with_reducible refine Kd.C_drewN ?_ _) | (with_reducible refine Kd.C_drew ?_)))
       (case side2 => exact HC3_0_2.out)
       (case side3 => exact (upK BK286))
       rintro e w28 ⟨rfl, hb⟩
       refine ⟨_, rfl, ?_⟩
       have n0_ := Aside0.mk (Kd.R_below (upR HO_290002) hb)
       have n1_ := Aside0.mk (blk_below (g := gc3_0) (o := .cells #[.int .i64 a3_0_0, .int .i64 a3_0_1, .slice A3_0_2 l3_0_2.length c3_0_2] 31 (0, 0)) (upK BK286) hb)
       have n2_ := Aside0.mk (blk_below (upK BK287) hb)
       have n3_ := Aside0.mk (blk_below (upK BK288) hb)
       have n4_ := Aside0.mk (blk_below (upK BK289) hb)
       have n5_ := Aside0.mk (blk_below (upK BK291) hb)
       have n6_ := Aside0.mk (below_step (upW HB) hb)
       clear HO_290002
       clear BK286
       clear BK287
       clear BK288
       clear BK289
       clear BK291
       clear HB
       have HO_290002 := n0_
       have BK286 := n1_
       have BK287 := n2_
       have BK288 := n3_
       have BK289 := n4_
       have BK291 := n5_
       have HB := n6_
       clear n0_ n1_ n2_ n3_ n4_ n5_ n6_
       (try clear hb)
       (try clear hb2)
       (try clear hk)
       (try clear hi)
       refine hK.out _ _ ⟨(blk_cell BK289.out 0).trans rfl, (blk_cell BK289.out 1).trans rfl, (blk_cell BK289.out 2).trans rfl, (blk_cell BK291.out 0).trans rfl, (blk_cell BK291.out 1).trans rfl, (blk_cell BK291.out 2).trans rfl⟩ (fun hHeld => ?_)
       clear hK K
       refine norm_ (a' := ?_) ?_ ?_
       rotate_left
       ·show Act.put _ (some 26) _ = _
        simp only [Act.put, List.setIfInBounds_toArray, List.set_cons_zero, List.set_cons_succ, i64_w, i32_w]
        rfl
       refine one_ (i := 5) (N := some 27) #[true, true, true, true, true, true, false, false, false] rfl rfl (one_of HT_.out (by kernel_rfl)) (by decide) (fun K hK => ?_)
       refine value_ (w1 := ?_) (v := ?_) (by rfl) rfl ?_ ?_
       rotate_left 2
       ·go_simp
        constructor
        ·rfl
        ·rfl
       refine hK.out _ _ ⟨(blk_cell (blk_alloc BK289.out _) 0).trans rfl, (blk_cell (blk_alloc BK289.out _) 1).trans rfl, (blk_cell (blk_alloc BK289.out _) 2).trans rfl, (blk_cell (blk_alloc BK291.out _) 0).trans rfl, (blk_cell (blk_alloc BK291.out _) 1).trans rfl, (blk_cell (blk_alloc BK291.out _) 2).trans rfl⟩ (fun hHeld => ?_)
       clear hK K
       refine norm_ (a' := ?_) ?_ ?_
       rotate_left
       ·show Act.put _ (some 27) _ = _
        simp only [Act.put, List.setIfInBounds_toArray, List.set_cons_zero, List.set_cons_succ, i64_w, i32_w]
        rfl
       refine one_ (i := 6) (N := some 28) #[true, true, true, true, true, true, true, false, false] rfl rfl (one_of HT_.out (by kernel_rfl)) (by decide) (fun K hK => ?_)
       refine Kd.R_append_step k73 (w0 := w) w.heap.size (by rfl) (.tmp 23) (.tmp 27) 29 73 (.agg #[(.int .i64 0), (.int .i64 0), (.int .i64 0)]) 24 rfl Try.underlying29 info73 rfl (by decide) (by omega) u290002 x290002_1 (⟨t292, t293, t294⟩ : S73) [.int .i64 t292, .int .i64 t293, .int .i64 t294] (fun k_ => k_ ≠ gb291) (fun _ => False) rfl rfl ?aP (fun _ hk => hk.elim) ?aF ?aO ?aB ?aS ?aL ?_
       (case aP => exact k73_mkM _ _ _ (⟨t292, t293, t294⟩ : S73))
       (case aB => exact (upW HB))
       (case aF => exact (fun k_ hk => Kd.freshB (g := gb291) (o := .cells #[.int .i64 ((rd_T73 l0_2 x18_1).f0), .int .i64 ((rd_T73 l0_2 x18_1).f1), .int .i64 ((rd_T73 l0_2 x18_1).f2)] 73 (0, 0)) (upK BK291) k_ hk))
       (case aO => exact (upR HO_290002))
       (case aS => exact (below_size (upW HB)))
       (case aL => have := LMc19.out; omega)
       intro v296 w29 ho hb hg hat
       rw [← Ny295.out] at ho
       have n0_ := Aside0.mk (blk_grown (g := gc3_0) (o := .cells #[.int .i64 a3_0_0, .int .i64 a3_0_1, .slice A3_0_2 l3_0_2.length c3_0_2] 31 (0, 0)) (upK BK286) hg (Kd.R_ne HO_290002.out BK286.out (by decide)))
       have n1_ := Aside0.mk (blk_grown (upK BK287) hg (Kd.R_ne HO_290002.out BK287.out (by decide)))
       have n2_ := Aside0.mk (blk_grown (upK BK288) hg (Kd.R_ne HO_290002.out BK288.out (by decide)))
       have n3_ := Aside0.mk (blk_grown (upK BK289) hg (Kd.R_ne HO_290002.out BK289.out (by decide)))
       have n4_ := Aside0.mk (blk_grown (upK BK291) hg (Kd.R_away HO_290002.out (fun _ hk => hk)))
       have n5_ := Aside0.mk (hb)
       have n6_ := Aside0.mk (ho)
       clear BK286
       clear BK287
       clear BK288
       clear BK289
       clear BK291
       clear HB
       clear HO_290002
       have BK286 := n0_
       have BK287 := n1_
       have BK288 := n2_
       have BK289 := n3_
       have BK291 := n4_
       have HB := n5_
       have HO297 := n6_
       clear n0_ n1_ n2_ n3_ n4_ n5_ n6_
       clear ho hb hg hat
       obtain ⟨Ao30, co30, eo30⟩ := Kd.R_slice HO297.out
       (first | subst eo30 | (injection eo30 with f1_ f2_ f3_; have f4_ := f1_.symm; have f5_ := f3_.symm; clear f1_ f2_ f3_; subst f4_; subst f5_))
       refine hK.out _ _ ⟨(blk_cell BK289.out 0).trans rfl, (blk_cell BK289.out 1).trans rfl, (blk_cell BK289.out 2).trans rfl, (blk_cell BK291.out 0).trans rfl, (blk_cell BK291.out 1).trans rfl, (blk_cell BK291.out 2).trans rfl⟩ (fun hHeld => ?_)
       clear hK K
       refine norm_ (a' := ?_) ?_ ?_
       rotate_left
       ·show Act.put _ (some 28) _ = _
        simp only [Act.put, List.setIfInBounds_toArray, List.set_cons_zero, List.set_cons_succ, i64_w, i32_w]
        rfl
       refine pure_ (i := 7) (N := some 29) (v := ?_) (a' := ?_) #[true, true, true, true, true, true, true, true, false] rfl rfl (any_of HT_.out (by kernel_rfl)) (fun _ _ _ h => h) (Or.inl ⟨by rfl, ?_⟩) ?_ ?_
       rotate_left
       ·intro w'
        go_simp
        with_reducible rfl
       rotate_left
       ·simp only [Act.put, List.setIfInBounds_toArray, List.set_cons_zero, List.set_cons_succ, i64_w, i32_w]
        rfl
       refine last_ (i := 8) (N := none) #[true, true, true, true, true, true, true, true, true] rfl rfl (one_of HT_.out (by kernel_rfl)) (by decide) (fun K hK => ?_)
       have hs31 : w29.cell? ⟨gb289, 2, none⟩ = some (u290002) := (blk_cell BK289.out 2).trans rfl
       have hfs31 := blk_frozen BK289.out 2
       have hns31_0 := NB286_289.out
       have hns31_1 := NB287_289.out
       have hns31_2 := NB288_289.out
       have hns31_4 := NB291_289.out
       have hms31_0 := NB289_286.out
       have hms31_1 := NB289_287.out
       have hms31_2 := NB289_288.out
       have hms31_4 := NB289_291.out
       refine skip_ (w1 := ?_) (by rfl) rfl ?_ ?_
       rotate_left
       ·go_simp
        rfl
       refine hK.out _ _ ?_
       clear hK K
       refine done_ (done_of HT_.out (by kernel_rfl)) ?_
       try go_wp2
       go_roundg k1
       case measure => have := HK1.out; omega
       case rel => exact ⟨(wrap64 (x18_1 + 1)), (y295), (.slice Ao30 y295.length co30), (by first | rfl | (simp; done) | (simp [*]; done)), H', ⟨by have := HK1.out; omega⟩, ⟨by (with_reducible repeat (first | apply Kd.R_alloc | apply Kd.R_drewN | apply Kd.R_drew)); exact Kd.R_mono (Kd.R_far (p := ⟨gb289, 2, none⟩) (Kd.R_types HO297.out BK289.out (by decide)) (fun _ hk => hk.2) (.slice Ao30 y295.length co30)) (fun _ hk => trivial)⟩, ⟨upF BK286⟩, ⟨upF BK287⟩, ⟨upF BK288⟩, ⟨by (with_reducible repeat (first | refine blk_drewN ?_ _ | refine blk_drew ?_ | refine blk_alloc ?_ _)); refine blk_put (cs := #[.int .i64 a1, .int .i64 a2, u290002]) ?_ 2 _ rfl; (with_reducible repeat (first | refine blk_drewN ?_ _ | refine blk_drew ?_ | refine blk_alloc ?_ _)); exact BK289.out⟩, ⟨upW HB⟩⟩
      ·rw [if_neg c19] at H
       exact absurd H (by simp)
     ·rw [if_neg c17] at H
      exact absurd H (by simp)
    ·rw [if_neg c16] at H
     exact absurd H (by simp)
   ·rw [if_neg c15] at H
    have c15b0 : decide (x18_1 < (l0_2.length : Int)) = false := decide_eq_false c15
    clear c15
    replace H := Option.bind_eq_some_iff.mp H
    obtain ⟨t298, A320, H⟩ := H
    replace H : (some (a1, a2, t298)) = some (r1, r2, r3) := H
    have A32 := Aside0.mk A320
    clear A320
    simp only [Option.some.injEq, Prod.mk.injEq] at H
    obtain ⟨rfl, rfl, rfl⟩ := H
    have hnb33 := NB289_286.out
    have hnc33 := NB286_289.out
    have hnb34 := NB289_287.out
    have hnc34 := NB287_289.out
    have hnb35 := NB289_288.out
    have hnc35 := NB288_289.out
    have hcz36_0 : wr.cell? ⟨gb289, 0, none⟩ = some (.int .i64 a1) := (blk_cell BK289.out 0).trans rfl
    have hcz36_1 : wr.cell? ⟨gb289, 1, none⟩ = some (.int .i64 a2) := (blk_cell BK289.out 1).trans rfl
    have hcz36_2 : wr.cell? ⟨gb289, 2, none⟩ = some (u290002) := (blk_cell BK289.out 2).trans rfl
    have hfz36_0 := blk_frozen BK289.out 0
    have hfz36_1 := blk_frozen BK289.out 1
    have hfz36_2 := blk_frozen BK289.out 2
    obtain ⟨Ao37, co37, eo37⟩ := Kd.R_slice HO_290002.out
    subst eo37
    go_wp2_with (first | ((first | (with_reducible refine gate_callee (f := 147) rfl ?_) | refine gate_calleev (f := 147) rfl (by rfl) ?_); (first | (refine goesL_ (some 33) rfl rfl Try.func147 (by kernel_rfl) rfl #[.slice Ao37 x290002_1.length co37, .func (.func 98) #[] #[]] rfl itp ?_) | (refine goesvL_ (some 33) rfl rfl Try.func147 (by kernel_rfl) rfl #[.slice Ao37 x290002_1.length co37, .func (.func 98) #[] #[]] rfl (by rfl) itpv ?_)); (with_reducible refine (slices_SortFunc_impl_Square_impl_Square__impl_comparePlaces.calls (fun k_ => some k_ = (.slice Ao37 x290002_1.length co37 : Value).ownBlock) (.slice Ao37 x290002_1.length co37) x290002_1  t298 w _ ?side1 ?side2 A32.out).mono ?_); (case side1 => repeat (first | (with_reducible first | exact HB.out | apply below_alloc | apply pw_below_drewN | apply below_drew1 | refine below_set ?_ GE286.out | refine below_set ?_ GE287.out | refine below_set ?_ GE288.out | refine below_set ?_ GE289.out) | exact HB.out)); (case side2 => exact Kd.R_tight rfl HO_290002.out); rintro e w38 ⟨rfl, hy0, hb, hkp⟩; refine ⟨_, rfl, ?_⟩; have n0_ := Aside0.mk (Kd.R_reok rfl hy0 (fun k_ e_ => HO_290002.out.1 k_ e_)); have n1_ := Aside0.mk (blk_kept (upK BK286) hkp (fun hs_ => (fun e_ => (Kd.R_ne HO_290002.out BK286.out (by decide)) e_) hs_)); have n2_ := Aside0.mk (blk_kept (upK BK287) hkp (fun hs_ => (fun e_ => (Kd.R_ne HO_290002.out BK287.out (by decide)) e_) hs_)); have n3_ := Aside0.mk (blk_kept (upK BK288) hkp (fun hs_ => (fun e_ => (Kd.R_ne HO_290002.out BK288.out (by decide)) e_) hs_)); have n4_ := Aside0.mk (blk_kept (upK BK289) hkp (fun hs_ => (fun e_ => (Kd.R_ne HO_290002.out BK289.out (by decide)) e_) hs_)); have n5_ := Aside0.mk (hb); clear HO_290002; clear BK286; clear BK287; clear BK288; clear BK289; clear HB; have HO_290002 := n0_; have BK286 := n1_; have BK287 := n2_; have BK288 := n3_; have BK289 := n4_; have HB := n5_; clear n0_ n1_ n2_ n3_ n4_ n5_; (try clear hb); (try clear hkp); (try clear hy0); have hcz39_0 : w38.cell? ⟨gb289, 0, none⟩ = some (.int .i64 a1) := (blk_cell BK289.out 0).trans rfl; have hcz39_1 : w38.cell? ⟨gb289, 1, none⟩ = some (.int .i64 a2) := (blk_cell BK289.out 1).trans rfl; have hcz39_2 : w38.cell? ⟨gb289, 2, none⟩ = some (.slice Ao37 x290002_1.length co37) := (blk_cell BK289.out 2).trans rfl; have hfz39_0 := blk_frozen BK289.out 0; have hfz39_1 := blk_frozen BK289.out 1; have hfz39_2 := blk_frozen BK289.out 2; have hnb40 := NB288_286.out; have hnc40 := NB286_288.out; have hnb41 := NB288_287.out; have hnc41 := NB287_288.out; have hcz42_0 : w38.cell? ⟨gb288, 0, none⟩ = some (.int .i64 0) := (blk_cell BK288.out 0).trans rfl; have hcz42_1 : w38.cell? ⟨gb288, 1, none⟩ = some (.int .i64 0) := (blk_cell BK288.out 1).trans rfl; have hcz42_2 : w38.cell? ⟨gb288, 2, none⟩ = some (.slice none 0 0) := (blk_cell BK288.out 2).trans rfl; have hfz42_0 := blk_frozen BK288.out 0; have hfz42_1 := blk_frozen BK288.out 1; have hfz42_2 := blk_frozen BK288.out 2))
    refine bodyPost_ret (results_cell_row rfl _ _ gb288 31 #[.int .i64 a1, .int .i64 a2, .slice Ao37 x290002_1.length co37] (0, 0) _ rfl (by (with_reducible repeat (first | refine blk_drewN ?_ _ | refine blk_drew ?_ | refine blk_alloc ?_ _)); refine blk_put (cs := #[.int .i64 a1, .int .i64 a2, .slice none 0 0]) ?_ 2 _ rfl; (with_reducible repeat (first | refine blk_drewN ?_ _ | refine blk_drew ?_ | refine blk_alloc ?_ _)); refine blk_put (cs := #[.int .i64 a1, .int .i64 0, .slice none 0 0]) ?_ 1 _ rfl; (with_reducible repeat (first | refine blk_drewN ?_ _ | refine blk_drew ?_ | refine blk_alloc ?_ _)); refine blk_put (cs := #[.int .i64 0, .int .i64 0, .slice none 0 0]) ?_ 0 _ rfl; (with_reducible repeat (first | refine blk_drewN ?_ _ | refine blk_drew ?_ | refine blk_alloc ?_ _)); exact BK288.out) Try.underlying31 rfl (by kernel_rfl)) rfl ?_
    exact ⟨_, by first | rfl | (simp [errW_none, errW_some] <;> rfl) | (simp [*, errW_none, errW_some] <;> rfl), by (with_reducible repeat (first | apply Kd.R_alloc | apply Kd.R_drewN | apply Kd.R_drew)); exact Kd.R_mono (Kd.R_far (p := ⟨gb288, 2, none⟩) (Kd.R_far (p := ⟨gb288, 1, none⟩) (Kd.R_far (p := ⟨gb288, 0, none⟩) (Kd.R_types HO_290002.out BK288.out (by decide)) (fun _ hk => hk.2) (.int .i64 a1)) (fun _ hk => hk.2) (.int .i64 a2)) (fun _ hk => hk.2) (.slice Ao37 x290002_1.length co37)) (fun _ hk => trivial), by repeat (first | (with_reducible first | exact HB.out | apply below_alloc | apply pw_below_drewN | apply below_drew1 | refine below_set ?_ GE286.out | refine below_set ?_ GE287.out | refine below_set ?_ GE288.out | refine below_set ?_ GE289.out) | exact HB.out)⟩

/-! ### impl_Cut_turned: function 106 -/
def impl_Cut_turned.f (k : Nat) (a0_0 : Int) (a0_1 : Int) (l0_2 : List (S73)) : Option (Int × Int × (List (S73))) := (impl_Cut_changed__impl_Cut_turned_1.f k a0_0 a0_1 l0_2 a0_1 a0_0 a0_0 a0_1 l0_2).bind fun bt301 => (some (bt301.1, bt301.2.1, bt301.2.2))
set_option maxHeartbeats 8000000 in
set_option maxRecDepth 100000 in
theorem impl_Cut_turned.calls (k : Nat) (a0_0 : Int) (a0_1 : Int) (A0_2 : Option Addr) (c0_2 : Nat) (l0_2 : List (S73)) (r1 : Int) (r2 : Int) (r3 : List (S73)) (w : World) (hr0_2 : Kd.C k73 w A0_2 l0_2.length l0_2) (hc0_2 : l0_2.length ≤ c0_2) (h : impl_Cut_turned.f k a0_0 a0_1 l0_2 = some (r1, r2, r3)) :
  Calls Try.prog 106 #[.agg #[.int .i64 a0_0, .int .i64 a0_1, .slice A0_2 l0_2.length c0_2]] w fun e w' => ∃ v2_ : Value, e = .returned (.agg #[.int .i64 r1, .int .i64 r2, v2_]) ∧ Kd.R k73 73 w' w.heap.size (fun _ => True) v2_ r3 ∧ Below w.heap.size w w' := by
 have hu31 := Try.underlying31
 have hmf : ∀ (fn : Fn) (first cap : Array Value) (w : World), (Instr.makeFunc fn first cap).run Try.prog w = .ok (.func fn first cap) w := fun _ _ _ _ => rfl
 have HR0_2 := Aside0.mk hr0_2
 have HC0_2 := Aside0.mk hc0_2
 clear hr0_2 hc0_2
 have HB := Aside0.mk (Below.refl w.heap.size w)
 have H : ((impl_Cut_changed__impl_Cut_turned_1.f k a0_0 a0_1 l0_2 a0_1 a0_0 a0_0 a0_1 l0_2).bind fun bt301 => (some (bt301.1, bt301.2.1, bt301.2.2))) = some (r1, r2, r3) := h
 clear h
 replace H := Option.bind_eq_some_iff.mp H
 obtain ⟨⟨t301, t302, t303⟩, A20, H⟩ := H
 replace H : (some (t301, t302, t303)) = some (r1, r2, r3) := H
 have A2 := Aside0.mk A20
 clear A20
 simp only [Option.some.injEq, Prod.mk.injEq] at H
 obtain ⟨rfl, rfl, rfl⟩ := H
 go_enter Try.func106, Try.ntmps106
 go_wp2_with (first | ((with_reducible refine gate_dst (N := 1) rfl ?_); refine box_event ?hg (N := 1) ?hd (cs := #[.int .i64 a0_0, .int .i64 a0_1, .slice A0_2 l0_2.length c0_2]) (t := 31) ?hr ?_; (case hd => rfl); (case hg => rfl); (case hr => first | (go_simp; done) | (go_simp; rfl)); intro gb299 hg w3 hbox hb; have n0_ := Aside0.mk (below_step (upW HB) hb); have n1_ := Aside0.mk (hbox); have n2_ := Aside0.mk ((by rw [hg]; exact (below_size (upW HB)) : w.heap.size ≤ gb299)); have n3_ := Aside0.mk ((by rw [hg]; exact (below_size (upW HB)) : w.heap.size ≤ gb299)); clear HB; have HB := n0_; have BK299 := n1_; have GW299 := n2_; have GE299 := n3_; clear n0_ n1_ n2_ n3_; clear hb hbox hg) | ((with_reducible refine gate_dst (N := 2) rfl ?_); refine box_event ?hg (N := 2) ?hd (cs := #[.int .i64 0, .int .i64 0, .slice none 0 0]) (t := 31) ?hr ?_; (case hd => rfl); (case hg => rfl); (case hr => first | (go_simp; done) | (go_simp; rfl)); intro gb300 hg w4 hbox hb; have n0_ := Aside0.mk (blk_below (upK BK299) hb); have n1_ := Aside0.mk (below_step (upW HB) hb); have n2_ := Aside0.mk (hbox); have n3_ := Aside0.mk ((by rw [hg]; exact (below_size (upW HB)) : w.heap.size ≤ gb300)); have n4_ := Aside0.mk ((by rw [hg]; exact (below_size (upW HB)) : w.heap.size ≤ gb300)); have n5_ := Aside0.mk ((by rw [hg]; exact Nat.ne_of_lt (blk_lt (upK BK299)) : gb299 ≠ gb300)); have n6_ := Aside0.mk ((by rw [hg]; exact Nat.ne_of_gt (blk_lt (upK BK299)) : gb300 ≠ gb299)); clear BK299; clear HB; have BK299 := n0_; have HB := n1_; have BK300 := n2_; have GW300 := n3_; have GE300 := n4_; have NB299_300 := n5_; have NB300_299 := n6_; clear n0_ n1_ n2_ n3_ n4_ n5_ n6_; clear hb hbox hg; have hnb5 := NB299_300.out; have hnc5 := NB300_299.out; have hcz6_0 : w4.cell? ⟨gb299, 0, none⟩ = some (.int .i64 a0_0) := (blk_cell BK299.out 0).trans rfl; have hcz6_1 : w4.cell? ⟨gb299, 1, none⟩ = some (.int .i64 a0_1) := (blk_cell BK299.out 1).trans rfl; have hcz6_2 : w4.cell? ⟨gb299, 2, none⟩ = some (.slice A0_2 l0_2.length c0_2) := (blk_cell BK299.out 2).trans rfl; have hfz6_0 := blk_frozen BK299.out 0; have hfz6_1 := blk_frozen BK299.out 1; have hfz6_2 := blk_frozen BK299.out 2) | ((with_reducible refine gate_callee (f := 124) rfl ?_); refine goesL_ (some 9) rfl rfl Try.func124 (by kernel_rfl) rfl #[.agg #[.int .i64 a0_0, .int .i64 a0_1, .slice A0_2 l0_2.length c0_2], .int .i64 a0_1, .int .i64 a0_0, .func (.func 125) #[] #[.pointer (some ⟨gb299, 0, none⟩)]] rfl itp ?_; (with_reducible refine (impl_Cut_changed__impl_Cut_turned_1.calls k a0_0 a0_1 _ _ l0_2 a0_1 a0_0 gb299 a0_0 a0_1 A0_2 c0_2 l0_2 t301 t302 t303 _ ?side1 ?side2 ?side3 ?side4 ?side5 A2.out).mono ?_); (case side1 => repeat (first | exact (Kd.C_below HR0_2.out HB.out) | (with_reducible refine Kd.C_alloc ?_ _) | (with_reducible refine Kd.C_drewN ?_ _) | (with_reducible refine Kd.C_drew ?_))); (case side2 => exact HC0_2.out); (case side3 => repeat (first | exact (Kd.C_below HR0_2.out HB.out) | (with_reducible refine Kd.C_alloc ?_ _) | (with_reducible refine Kd.C_drewN ?_ _) | (with_reducible refine Kd.C_drew ?_))); (case side4 => exact HC0_2.out); (case side5 => exact (upK BK299)); rintro e w7 ⟨v304, rfl, ho0, hb⟩; refine ⟨_, rfl, ?_⟩; have n0_ := Aside0.mk (Kd.R_lower ho0 (below_size (upW HB))); have n1_ := Aside0.mk (blk_below (upK BK299) hb); have n2_ := Aside0.mk (blk_below (upK BK300) hb); have n3_ := Aside0.mk (below_step (upW HB) hb); clear BK299; clear BK300; clear HB; have HO305 := n0_; have BK299 := n1_; have BK300 := n2_; have HB := n3_; clear n0_ n1_ n2_ n3_; (try clear hb); (try clear hb2); (try clear hk); (try clear hi); (try clear ho0); have hcz8_0 : w7.cell? ⟨gb300, 0, none⟩ = some (.int .i64 0) := (blk_cell BK300.out 0).trans rfl; have hcz8_1 : w7.cell? ⟨gb300, 1, none⟩ = some (.int .i64 0) := (blk_cell BK300.out 1).trans rfl; have hcz8_2 : w7.cell? ⟨gb300, 2, none⟩ = some (.slice none 0 0) := (blk_cell BK300.out 2).trans rfl; have hfz8_0 := blk_frozen BK300.out 0; have hfz8_1 := blk_frozen BK300.out 1; have hfz8_2 := blk_frozen BK300.out 2; obtain ⟨Ao9, co9, eo9⟩ := Kd.R_slice HO305.out; subst eo9))
 refine bodyPost_ret (results_cell_row rfl _ _ gb300 31 #[.int .i64 t301, .int .i64 t302, .slice Ao9 t303.length co9] (0, 0) _ rfl (by (with_reducible repeat (first | refine blk_drewN ?_ _ | refine blk_drew ?_ | refine blk_alloc ?_ _)); refine blk_put (cs := #[.int .i64 t301, .int .i64 t302, .slice none 0 0]) ?_ 2 _ rfl; (with_reducible repeat (first | refine blk_drewN ?_ _ | refine blk_drew ?_ | refine blk_alloc ?_ _)); refine blk_put (cs := #[.int .i64 t301, .int .i64 0, .slice none 0 0]) ?_ 1 _ rfl; (with_reducible repeat (first | refine blk_drewN ?_ _ | refine blk_drew ?_ | refine blk_alloc ?_ _)); refine blk_put (cs := #[.int .i64 0, .int .i64 0, .slice none 0 0]) ?_ 0 _ rfl; (with_reducible repeat (first | refine blk_drewN ?_ _ | refine blk_drew ?_ | refine blk_alloc ?_ _)); exact BK300.out) Try.underlying31 rfl (by kernel_rfl)) rfl ?_
 exact ⟨_, by first | rfl | (simp [errW_none, errW_some] <;> rfl) | (simp [*, errW_none, errW_some] <;> rfl), by (with_reducible repeat (first | apply Kd.R_alloc | apply Kd.R_drewN | apply Kd.R_drew)); exact Kd.R_mono (Kd.R_far (p := ⟨gb300, 2, none⟩) (Kd.R_far (p := ⟨gb300, 1, none⟩) (Kd.R_far (p := ⟨gb300, 0, none⟩) (Kd.R_types HO305.out BK300.out (by decide)) (fun _ hk => hk.2) (.int .i64 t301)) (fun _ hk => hk.2) (.int .i64 t302)) (fun _ hk => hk.2) (.slice Ao9 t303.length co9)) (fun _ hk => trivial), by repeat (first | (with_reducible first | exact HB.out | apply below_alloc | apply pw_below_drewN | apply below_drew1 | refine below_set ?_ GE299.out | refine below_set ?_ GE300.out) | exact HB.out)⟩

end Go.Proofs.Ythnjbpabiamkjaa.PFnExactLongestLine
