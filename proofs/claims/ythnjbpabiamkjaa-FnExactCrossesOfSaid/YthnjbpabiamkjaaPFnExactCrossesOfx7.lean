-- made for this claim by a program of this session
import Derived.Test.YthnjbpabiamkjaaPFnExactCrossesOfx0
import Derived.Test.YthnjbpabiamkjaaPFnExactCrossesOfx1
import Derived.Test.YthnjbpabiamkjaaPFnExactCrossesOfx2
import Derived.Test.YthnjbpabiamkjaaPFnExactCrossesOfx4
import Derived.Test.YthnjbpabiamkjaaPFnExactCrossesOfx6
namespace Go.Proofs.Ythnjbpabiamkjaa.PFnExactCrossesOf
open Go.RowKit Go.Proofs.YthnjbpabiamkjaaW.PrintWords Go.Proofs.YthnjbpabiamkjaaW.PrintLast Go.Proofs.YthnjbpabiamkjaaW.PrintMore
attribute [local go_sem] max2_int min2_int max_two min_two max_three min_three max_four min_four   -- for this text's walks alone
set_option linter.unusedVariables false
set_option linter.unusedSimpArgs false

/-! ### laws_FnExactCrossesOf: function 4 -/
mutual
def laws_FnExactCrossesOf.j0 : Nat → List (List Int) → Bool → List (List Int) → Bool → Bool → Int → Int → List (S97) → Int → Int → List (S73) → Option (Bool)
 | 0, _, _, _, _, _, _, _, _, _, _, _ => none
 | k + 1, x4, x5, x7, x8, x40, x225000, x225001, x225002, x241000, x241001, x241002 => if x40 = true then (some false) else ((laws_toCut.f k x225000 x225001 x225002).bind fun bt246 => ((laws_eqCut.f k x241000 x241001 x241002 bt246.1 bt246.2.1 bt246.2.2).bind fun t251 => (if t251 = true then ((laws_markCut.f k x241000 x241001 x241002 1).bind fun bt252 => (if bt252.1 < 0 then (laws_FnExactCrossesOf.j1 k x4 x5 x7 true x225000 x225001 x225002) else ((laws_eqIntSS.f k x7 x4).bind fun t254 => (if t254 = true then (laws_FnExactCrossesOf.j1 k x4 x5 x7 (x8 != x5) x225000 x225001 x225002) else (laws_FnExactCrossesOf.j1 k x4 x5 x7 true x225000 x225001 x225002))))) else (some false))))
def laws_FnExactCrossesOf.j1 : Nat → List (List Int) → Bool → List (List Int) → Bool → Int → Int → List (S97) → Option (Bool)
 | 0, _, _, _, _, _, _, _ => none
 | k + 1, x4, x5, x7, x61, x225000, x225001, x225002 => if x61 = true then (some false) else ((laws_markIntSS.f k x7 1).bind fun bt255 => ((laws_heldIntSS.f k bt255.2 1).bind fun t257 => (if t257 < 0 then (some false) else (if t257 = bt255.1 then ((laws_toCut.f k x225000 x225001 x225002).bind fun bt258 => ((impl_CrossesOf.f k bt258.1 bt258.2.1 bt258.2.2).bind fun bt263 => ((laws_eqIntSS.f k bt263.1 x4).bind fun t267 => (if t267 = true then (laws_FnExactCrossesOf.j2 k bt255.2 bt255.1 (bt263.2 != x5)) else (laws_FnExactCrossesOf.j2 k bt255.2 bt255.1 true))))) else (some false)))))
def laws_FnExactCrossesOf.j2 : Nat → List (List Int) → Int → Bool → Option (Bool)
 | 0, _, _, _ => none
 | k + 1, x7, x10, x87 => if x87 = true then (some false) else ((laws_heldIntSS.f k x7 1).bind fun t268 => (if t268 < 0 then (some false) else (if t268 = x10 then (some true) else (some false))))
end
def laws_FnExactCrossesOf.f (k : Nat) (a0_0 : Int) (a0_1 : Int) (l0_2 : List (S97)) : Option (Bool) := (laws_szCut.f a0_0 a0_1 l0_2 1048576).bind fun t225 => (if t225 < 0 then (some true) else ((laws_toCut.f k a0_0 a0_1 l0_2).bind fun bt226 => ((spec_CrossesOf.f k bt226.1 bt226.2.1 bt226.2.2).bind fun bt231 => ((laws_toCut.f k a0_0 a0_1 l0_2).bind fun bt235 => ((impl_CrossesOf.f k bt235.1 bt235.2.1 bt235.2.2).bind fun bt241 => ((laws_eqIntSS.f k bt241.1 bt231.1).bind fun t245 => (if t245 = true then (laws_FnExactCrossesOf.j0 k bt231.1 bt231.2 bt241.1 bt241.2 (bt241.2 != bt231.2) a0_0 a0_1 l0_2 bt235.1 bt235.2.1 bt235.2.2) else (laws_FnExactCrossesOf.j0 k bt231.1 bt231.2 bt241.1 bt241.2 true a0_0 a0_1 l0_2 bt235.1 bt235.2.1 bt235.2.2))))))))
set_option maxHeartbeats 8000000 in
set_option maxRecDepth 100000 in
theorem laws_FnExactCrossesOf.calls (k : Nat) (a0_0 : Int) (a0_1 : Int) (A0_2 : Option Addr) (c0_2 : Nat) (l0_2 : List (S97)) (r : Bool) (w : World) (hr0_2 : Kd.C k97 w A0_2 l0_2.length l0_2) (hc0_2 : l0_2.length ≤ c0_2) (h : laws_FnExactCrossesOf.f k a0_0 a0_1 l0_2 = some r) :
  Calls Try.prog 4 #[.agg #[.int .i64 a0_0, .int .i64 a0_1, .slice A0_2 l0_2.length c0_2]] w fun e w' => e = .returned (.bool r) ∧ Below w.heap.size w w' := by
 have hu24 := Try.underlying24
 have hu31 := Try.underlying31
 have HR0_2 := Aside0.mk hr0_2
 have HC0_2 := Aside0.mk hc0_2
 clear hr0_2 hc0_2
 have HB := Aside0.mk (Below.refl w.heap.size w)
 have H : ((laws_szCut.f a0_0 a0_1 l0_2 1048576).bind fun t225 => (if t225 < 0 then (some true) else ((laws_toCut.f k a0_0 a0_1 l0_2).bind fun bt226 => ((spec_CrossesOf.f k bt226.1 bt226.2.1 bt226.2.2).bind fun bt231 => ((laws_toCut.f k a0_0 a0_1 l0_2).bind fun bt235 => ((impl_CrossesOf.f k bt235.1 bt235.2.1 bt235.2.2).bind fun bt241 => ((laws_eqIntSS.f k bt241.1 bt231.1).bind fun t245 => (if t245 = true then (laws_FnExactCrossesOf.j0 k bt231.1 bt231.2 bt241.1 bt241.2 (bt241.2 != bt231.2) a0_0 a0_1 l0_2 bt235.1 bt235.2.1 bt235.2.2) else (laws_FnExactCrossesOf.j0 k bt231.1 bt231.2 bt241.1 bt241.2 true a0_0 a0_1 l0_2 bt235.1 bt235.2.1 bt235.2.2))))))))) = some r := h
 clear h
 replace H := Option.bind_eq_some_iff.mp H
 obtain ⟨t225, A20, H⟩ := H
 replace H : (if t225 < 0 then (some true) else ((laws_toCut.f k a0_0 a0_1 l0_2).bind fun bt226 => ((spec_CrossesOf.f k bt226.1 bt226.2.1 bt226.2.2).bind fun bt231 => ((laws_toCut.f k a0_0 a0_1 l0_2).bind fun bt235 => ((impl_CrossesOf.f k bt235.1 bt235.2.1 bt235.2.2).bind fun bt241 => ((laws_eqIntSS.f k bt241.1 bt231.1).bind fun t245 => (if t245 = true then (laws_FnExactCrossesOf.j0 k bt231.1 bt231.2 bt241.1 bt241.2 (bt241.2 != bt231.2) a0_0 a0_1 l0_2 bt235.1 bt235.2.1 bt235.2.2) else (laws_FnExactCrossesOf.j0 k bt231.1 bt231.2 bt241.1 bt241.2 true a0_0 a0_1 l0_2 bt235.1 bt235.2.1 bt235.2.2)))))))) = some r := H
 have A2 := Aside0.mk A20
 clear A20
 by_cases c3 : t225 < 0
 ·rw [if_pos c3] at H
  have c3b0 : decide (t225 < 0) = true := decide_eq_true c3
  clear c3
  obtain rfl := Option.some.inj H
  go_enter Try.func4, Try.ntmps4
  go_wp2_with (first | ((with_reducible refine gate_dst (N := 1) rfl ?_); refine box_event ?hg (N := 1) ?hd (cs := #[.int .i64 a0_0, .int .i64 a0_1, .slice A0_2 l0_2.length c0_2]) (t := 24) ?hr ?_; (case hd => rfl); (case hg => rfl); (case hr => first | (go_simp; done) | (go_simp; rfl)); intro gb224 hg w4 hbox hb; have n0_ := Aside0.mk (below_step (upW HB) hb); have n1_ := Aside0.mk (hbox); have n2_ := Aside0.mk ((by rw [hg]; exact (below_size (upW HB)) : w.heap.size ≤ gb224)); have n3_ := Aside0.mk ((by rw [hg]; exact (below_size (upW HB)) : w.heap.size ≤ gb224)); clear HB; have HB := n0_; have BK224 := n1_; have GW224 := n2_; have GE224 := n3_; clear n0_ n1_ n2_ n3_; clear hb hbox hg; have hcz5_0 : w4.cell? ⟨gb224, 0, none⟩ = some (.int .i64 a0_0) := (blk_cell BK224.out 0).trans rfl; have hcz5_1 : w4.cell? ⟨gb224, 1, none⟩ = some (.int .i64 a0_1) := (blk_cell BK224.out 1).trans rfl; have hcz5_2 : w4.cell? ⟨gb224, 2, none⟩ = some (.slice A0_2 l0_2.length c0_2) := (blk_cell BK224.out 2).trans rfl; have hfz5_0 := blk_frozen BK224.out 0; have hfz5_1 := blk_frozen BK224.out 1; have hfz5_2 := blk_frozen BK224.out 2) | ((with_reducible refine gate_callee (f := 13) rfl ?_); refine goesL_ (some 16) rfl rfl Try.func13 (by kernel_rfl) rfl #[.agg #[.int .i64 a0_0, .int .i64 a0_1, .slice A0_2 l0_2.length c0_2], .int .i64 1048576] rfl itp ?_; (with_reducible refine (laws_szCut.calls a0_0 a0_1 _ _ l0_2 1048576 t225 _ ?side1 ?side2 A2.out).mono ?_); (case side1 => repeat (first | exact (Kd.C_below HR0_2.out HB.out) | (with_reducible refine Kd.C_alloc ?_ _) | (with_reducible refine Kd.C_drewN ?_ _) | (with_reducible refine Kd.C_drew ?_))); (case side2 => exact HC0_2.out); rintro e w6 ⟨rfl, hb⟩; refine ⟨_, rfl, ?_⟩; have n0_ := Aside0.mk (blk_below (upK BK224) hb); have n1_ := Aside0.mk (below_step (upW HB) hb); clear BK224; clear HB; have BK224 := n0_; have HB := n1_; clear n0_ n1_; (try clear hb); (try clear hb2); (try clear hk); (try clear hi)))
  go_ret
  exact ⟨by first | rfl | (simp [errW_none, errW_some] <;> rfl) | (simp [*, errW_none, errW_some] <;> rfl), by repeat (first | (with_reducible first | exact HB.out | apply below_alloc | apply pw_below_drewN | apply below_drew1 | refine below_set ?_ GE224.out) | exact HB.out)⟩
 ·rw [if_neg c3] at H
  have c3b0 : decide (t225 < 0) = false := decide_eq_false c3
  clear c3
  replace H := Option.bind_eq_some_iff.mp H
  obtain ⟨⟨t226, t227, t228⟩, A70, H⟩ := H
  replace H : ((spec_CrossesOf.f k t226 t227 t228).bind fun bt231 => ((laws_toCut.f k a0_0 a0_1 l0_2).bind fun bt235 => ((impl_CrossesOf.f k bt235.1 bt235.2.1 bt235.2.2).bind fun bt241 => ((laws_eqIntSS.f k bt241.1 bt231.1).bind fun t245 => (if t245 = true then (laws_FnExactCrossesOf.j0 k bt231.1 bt231.2 bt241.1 bt241.2 (bt241.2 != bt231.2) a0_0 a0_1 l0_2 bt235.1 bt235.2.1 bt235.2.2) else (laws_FnExactCrossesOf.j0 k bt231.1 bt231.2 bt241.1 bt241.2 true a0_0 a0_1 l0_2 bt235.1 bt235.2.1 bt235.2.2)))))) = some r := H
  have A7 := Aside0.mk A70
  clear A70
  replace H := Option.bind_eq_some_iff.mp H
  obtain ⟨⟨t231, t234⟩, A80, H⟩ := H
  replace H : ((laws_toCut.f k a0_0 a0_1 l0_2).bind fun bt235 => ((impl_CrossesOf.f k bt235.1 bt235.2.1 bt235.2.2).bind fun bt241 => ((laws_eqIntSS.f k bt241.1 t231).bind fun t245 => (if t245 = true then (laws_FnExactCrossesOf.j0 k t231 t234 bt241.1 bt241.2 (bt241.2 != t234) a0_0 a0_1 l0_2 bt235.1 bt235.2.1 bt235.2.2) else (laws_FnExactCrossesOf.j0 k t231 t234 bt241.1 bt241.2 true a0_0 a0_1 l0_2 bt235.1 bt235.2.1 bt235.2.2))))) = some r := H
  have A8 := Aside0.mk A80
  clear A80
  replace H := Option.bind_eq_some_iff.mp H
  obtain ⟨⟨t235, t236, t237⟩, A90, H⟩ := H
  replace H : ((impl_CrossesOf.f k t235 t236 t237).bind fun bt241 => ((laws_eqIntSS.f k bt241.1 t231).bind fun t245 => (if t245 = true then (laws_FnExactCrossesOf.j0 k t231 t234 bt241.1 bt241.2 (bt241.2 != t234) a0_0 a0_1 l0_2 t235 t236 t237) else (laws_FnExactCrossesOf.j0 k t231 t234 bt241.1 bt241.2 true a0_0 a0_1 l0_2 t235 t236 t237)))) = some r := H
  have A9 := Aside0.mk A90
  clear A90
  replace H := Option.bind_eq_some_iff.mp H
  obtain ⟨⟨t241, t244⟩, A100, H⟩ := H
  replace H : ((laws_eqIntSS.f k t241 t231).bind fun t245 => (if t245 = true then (laws_FnExactCrossesOf.j0 k t231 t234 t241 t244 (t244 != t234) a0_0 a0_1 l0_2 t235 t236 t237) else (laws_FnExactCrossesOf.j0 k t231 t234 t241 t244 true a0_0 a0_1 l0_2 t235 t236 t237))) = some r := H
  have A10 := Aside0.mk A100
  clear A100
  have HC11 := Aside0.mk H
  clear H
  go_enter Try.func4, Try.ntmps4
  go_upto_region 8 with (first | ((with_reducible refine gate_dst (N := 1) rfl ?_); refine box_event ?hg (N := 1) ?hd (cs := #[.int .i64 a0_0, .int .i64 a0_1, .slice A0_2 l0_2.length c0_2]) (t := 24) ?hr ?_; (case hd => rfl); (case hg => rfl); (case hr => first | (go_simp; done) | (go_simp; rfl)); intro gb224 hg w12 hbox hb; have n0_ := Aside0.mk (below_step (upW HB) hb); have n1_ := Aside0.mk (hbox); have n2_ := Aside0.mk ((by rw [hg]; exact (below_size (upW HB)) : w.heap.size ≤ gb224)); have n3_ := Aside0.mk ((by rw [hg]; exact (below_size (upW HB)) : w.heap.size ≤ gb224)); clear HB; have HB := n0_; have BK224 := n1_; have GW224 := n2_; have GE224 := n3_; clear n0_ n1_ n2_ n3_; clear hb hbox hg; have hcz13_0 : w12.cell? ⟨gb224, 0, none⟩ = some (.int .i64 a0_0) := (blk_cell BK224.out 0).trans rfl; have hcz13_1 : w12.cell? ⟨gb224, 1, none⟩ = some (.int .i64 a0_1) := (blk_cell BK224.out 1).trans rfl; have hcz13_2 : w12.cell? ⟨gb224, 2, none⟩ = some (.slice A0_2 l0_2.length c0_2) := (blk_cell BK224.out 2).trans rfl; have hfz13_0 := blk_frozen BK224.out 0; have hfz13_1 := blk_frozen BK224.out 1; have hfz13_2 := blk_frozen BK224.out 2) | ((with_reducible refine gate_callee (f := 13) rfl ?_); refine goesL_ (some 16) rfl rfl Try.func13 (by kernel_rfl) rfl #[.agg #[.int .i64 a0_0, .int .i64 a0_1, .slice A0_2 l0_2.length c0_2], .int .i64 1048576] rfl itp ?_; (with_reducible refine (laws_szCut.calls a0_0 a0_1 _ _ l0_2 1048576 t225 _ ?side1 ?side2 A2.out).mono ?_); (case side1 => repeat (first | exact (Kd.C_below HR0_2.out HB.out) | (with_reducible refine Kd.C_alloc ?_ _) | (with_reducible refine Kd.C_drewN ?_ _) | (with_reducible refine Kd.C_drew ?_))); (case side2 => exact HC0_2.out); rintro e w14 ⟨rfl, hb⟩; refine ⟨_, rfl, ?_⟩; have n0_ := Aside0.mk (blk_below (upK BK224) hb); have n1_ := Aside0.mk (below_step (upW HB) hb); clear BK224; clear HB; have BK224 := n0_; have HB := n1_; clear n0_ n1_; (try clear hb); (try clear hb2); (try clear hk); (try clear hi); have hcz15_0 : w14.cell? ⟨gb224, 0, none⟩ = some (.int .i64 a0_0) := (blk_cell BK224.out 0).trans rfl; have hcz15_1 : w14.cell? ⟨gb224, 1, none⟩ = some (.int .i64 a0_1) := (blk_cell BK224.out 1).trans rfl; have hcz15_2 : w14.cell? ⟨gb224, 2, none⟩ = some (.slice A0_2 l0_2.length c0_2) := (blk_cell BK224.out 2).trans rfl; have hfz15_0 := blk_frozen BK224.out 0; have hfz15_1 := blk_frozen BK224.out 1; have hfz15_2 := blk_frozen BK224.out 2) | ((with_reducible refine gate_callee (f := 15) rfl ?_); refine goesL_ (some 21) rfl rfl Try.func15 (by kernel_rfl) rfl #[.agg #[.int .i64 a0_0, .int .i64 a0_1, .slice A0_2 l0_2.length c0_2]] rfl itp ?_; (with_reducible refine (laws_toCut.calls k a0_0 a0_1 _ _ l0_2 t226 t227 t228 _ ?side1 ?side2 A7.out).mono ?_); (case side1 => repeat (first | exact (Kd.C_below HR0_2.out HB.out) | (with_reducible refine Kd.C_alloc ?_ _) | (with_reducible refine Kd.C_drewN ?_ _) | (with_reducible refine Kd.C_drew ?_))); (case side2 => exact HC0_2.out); rintro e w16 ⟨v229, rfl, ho0, hb⟩; refine ⟨_, rfl, ?_⟩; have n0_ := Aside0.mk (Kd.R_lower ho0 (below_size (upW HB))); have n1_ := Aside0.mk (blk_below (upK BK224) hb); have n2_ := Aside0.mk (below_step (upW HB) hb); clear BK224; clear HB; have HO230 := n0_; have BK224 := n1_; have HB := n2_; clear n0_ n1_ n2_; (try clear hb); (try clear hb2); (try clear hk); (try clear hi); (try clear ho0); obtain ⟨Ao17, co17, eo17⟩ := Kd.R_slice HO230.out; subst eo17) | ((with_reducible refine gate_callee (f := 22) rfl ?_); refine goesL_ (some 22) rfl rfl Try.func22 (by kernel_rfl) rfl #[.agg #[.int .i64 t226, .int .i64 t227, .slice Ao17 t228.length co17]] rfl itp ?_; (with_reducible refine (spec_CrossesOf.calls k t226 t227 _ _ t228 t231 t234 _ ?side1 ?side2 A8.out).mono ?_); (case side1 => repeat (first | exact (Kd.R_reads' HO230.out).2.2 | (with_reducible refine Kd.C_alloc ?_ _) | (with_reducible refine Kd.C_drewN ?_ _) | (with_reducible refine Kd.C_drew ?_))); (case side2 => exact (Kd.R_reads' HO230.out).2.1); rintro e w18 ⟨v232, rfl, ho0, hb⟩; refine ⟨_, rfl, ?_⟩; have n0_ := Aside0.mk (Kd.R_below (upR HO230) hb); have n1_ := Aside0.mk (Kd.S_lower ho0 (below_size (upW HB))); have n2_ := Aside0.mk (blk_below (upK BK224) hb); have n3_ := Aside0.mk (below_step (upW HB) hb); clear HO230; clear BK224; clear HB; have HO230 := n0_; have HO233 := n1_; have BK224 := n2_; have HB := n3_; clear n0_ n1_ n2_ n3_; (try clear hb); (try clear hb2); (try clear hk); (try clear hi); (try clear ho0); have hcz19_0 : w18.cell? ⟨gb224, 0, none⟩ = some (.int .i64 a0_0) := (blk_cell BK224.out 0).trans rfl; have hcz19_1 : w18.cell? ⟨gb224, 1, none⟩ = some (.int .i64 a0_1) := (blk_cell BK224.out 1).trans rfl; have hcz19_2 : w18.cell? ⟨gb224, 2, none⟩ = some (.slice A0_2 l0_2.length c0_2) := (blk_cell BK224.out 2).trans rfl; have hfz19_0 := blk_frozen BK224.out 0; have hfz19_1 := blk_frozen BK224.out 1; have hfz19_2 := blk_frozen BK224.out 2) | ((with_reducible refine gate_callee (f := 15) rfl ?_); refine goesL_ (some 26) rfl rfl Try.func15 (by kernel_rfl) rfl #[.agg #[.int .i64 a0_0, .int .i64 a0_1, .slice A0_2 l0_2.length c0_2]] rfl itp ?_; (with_reducible refine (laws_toCut.calls k a0_0 a0_1 _ _ l0_2 t235 t236 t237 _ ?side1 ?side2 A9.out).mono ?_); (case side1 => repeat (first | exact (Kd.C_below HR0_2.out HB.out) | (with_reducible refine Kd.C_alloc ?_ _) | (with_reducible refine Kd.C_drewN ?_ _) | (with_reducible refine Kd.C_drew ?_))); (case side2 => exact HC0_2.out); rintro e w20 ⟨v238, rfl, ho0, hb⟩; refine ⟨_, rfl, ?_⟩; have n0_ := Aside0.mk (Kd.R_elder' (upR HO230) (Kd.R_base ho0) hb); have n1_ := Aside0.mk (Kd.S_below (by (with_reducible repeat (first | apply Kd.S_alloc | apply Kd.S_drewN | apply Kd.S_drew)); exact HO233.out) hb); have n2_ := Aside0.mk (Kd.R_lower (Kd.R_new' ho0 (Kd.R_lt (upR HO230))) (below_size (upW HB))); have n3_ := Aside0.mk (blk_below (upK BK224) hb); have n4_ := Aside0.mk (below_step (upW HB) hb); clear HO230; clear HO233; clear BK224; clear HB; have HO230 := n0_; have HO233 := n1_; have HO239 := n2_; have BK224 := n3_; have HB := n4_; clear n0_ n1_ n2_ n3_ n4_; (try clear hb); (try clear hb2); (try clear hk); (try clear hi); (try clear ho0)) | ((with_reducible refine gate_dst (N := 6) rfl ?_); refine box_event ?hg (N := 6) ?hd (cs := #[.int .i64 0, .int .i64 0, .slice none 0 0]) (t := 31) ?hr ?_; (case hd => rfl); (case hg => rfl); (case hr => first | (go_simp; done) | (go_simp; rfl)); intro gb240 hg w21 hbox hb; have n0_ := Aside0.mk (Kd.R_below (upR HO230) hb); have n1_ := Aside0.mk (Kd.S_below (by (with_reducible repeat (first | apply Kd.S_alloc | apply Kd.S_drewN | apply Kd.S_drew)); exact HO233.out) hb); have n2_ := Aside0.mk (Kd.R_below (upR HO239) hb); have n3_ := Aside0.mk (blk_below (upK BK224) hb); have n4_ := Aside0.mk (below_step (upW HB) hb); have n5_ := Aside0.mk (hbox); have n6_ := Aside0.mk ((by rw [hg]; exact (below_size (upW HB)) : w.heap.size ≤ gb240)); have n7_ := Aside0.mk ((by rw [hg]; exact (below_size (upW HB)) : w.heap.size ≤ gb240)); have n8_ := Aside0.mk ((by rw [hg]; exact Nat.ne_of_lt (blk_lt (upK BK224)) : gb224 ≠ gb240)); have n9_ := Aside0.mk ((by rw [hg]; exact Nat.ne_of_gt (blk_lt (upK BK224)) : gb240 ≠ gb224)); clear HO230; clear HO233; clear HO239; clear BK224; clear HB; have HO230 := n0_; have HO233 := n1_; have HO239 := n2_; have BK224 := n3_; have HB := n4_; have BK240 := n5_; have GW240 := n6_; have GE240 := n7_; have NB224_240 := n8_; have NB240_224 := n9_; clear n0_ n1_ n2_ n3_ n4_ n5_ n6_ n7_ n8_ n9_; clear hb hbox hg; have hnb22 := NB240_224.out; have hnc22 := NB224_240.out; have hcz23_0 : w21.cell? ⟨gb240, 0, none⟩ = some (.int .i64 0) := (blk_cell BK240.out 0).trans rfl; have hcz23_1 : w21.cell? ⟨gb240, 1, none⟩ = some (.int .i64 0) := (blk_cell BK240.out 1).trans rfl; have hcz23_2 : w21.cell? ⟨gb240, 2, none⟩ = some (.slice none 0 0) := (blk_cell BK240.out 2).trans rfl; have hfz23_0 := blk_frozen BK240.out 0; have hfz23_1 := blk_frozen BK240.out 1; have hfz23_2 := blk_frozen BK240.out 2; obtain ⟨Ao24, co24, eo24⟩ := Kd.R_slice HO239.out; subst eo24) | ((with_reducible refine gate_callee (f := 23) rfl ?_); refine goesL_ (some 29) rfl rfl Try.func23 (by kernel_rfl) rfl #[.agg #[.int .i64 t235, .int .i64 t236, .slice Ao24 t237.length co24]] rfl itp ?_; (with_reducible refine (impl_CrossesOf.calls k t235 t236 _ _ t237 t241 t244 _ ?side1 ?side2 A10.out).mono ?_); (case side1 => refine (Kd.R_reads' (e := 73) (base := w.heap.size) (ok := fun k_ => (True ∧ some k_ ≠ (.slice Ao17 t228.length co17 : Value).ownBlock)) (n := t237.length) (c := co24) ?_).2.2; exact (by (with_reducible repeat (first | apply Kd.R_alloc | apply Kd.R_drewN | apply Kd.R_drew)); exact (Kd.R_mono (Kd.R_far (p := ⟨gb240, 2, none⟩) (Kd.R_far (p := ⟨gb240, 1, none⟩) (Kd.R_far (p := ⟨gb240, 0, none⟩) (Kd.R_types HO239.out BK240.out (by decide)) (fun _ hk => hk.2) (.int .i64 t235)) (fun _ hk => hk.2) (.int .i64 t236)) (fun _ hk => hk.2) (.slice Ao24 t237.length co24)) (fun _ h_ => h_.1)))); (case side2 => exact (Kd.R_reads' HO239.out).2.1); rintro e w25 ⟨v242, rfl, ho0, hb⟩; refine ⟨_, rfl, ?_⟩; obtain ⟨ngHO243, hngHO243⟩ := Kd.name_size hb; have n0_ := Aside0.mk (Kd.R_below (by (with_reducible repeat (first | apply Kd.R_alloc | apply Kd.R_drewN | apply Kd.R_drew)); exact (Kd.R_mono (Kd.R_far (p := ⟨gb240, 2, none⟩) (Kd.R_far (p := ⟨gb240, 1, none⟩) (Kd.R_far (p := ⟨gb240, 0, none⟩) (Kd.R_types HO230.out BK240.out (by decide)) (fun _ hk => hk.2) (.int .i64 t235)) (fun _ hk => hk.2) (.int .i64 t236)) (fun _ hk => hk.2) (.slice Ao24 t237.length co24)) (fun _ h_ => h_.1))) hb); have n1_ := Aside0.mk (Kd.S_elderN (by (with_reducible repeat (first | apply Kd.S_alloc | apply Kd.S_drewN | apply Kd.S_drew)); exact (Kd.S_mono (Kd.S_far (p := ⟨gb240, 2, none⟩) (Kd.S_far (p := ⟨gb240, 1, none⟩) (Kd.S_far (p := ⟨gb240, 0, none⟩) (Kd.S_types HO233.out BK240.out (by decide)) (fun _ hk => hk.2) (.int .i64 t235)) (fun _ hk => hk.2) (.int .i64 t236)) (fun _ hk => hk.2) (.slice Ao24 t237.length co24)) (fun _ h_ => h_.1))) (Kd.S_base ho0) hngHO243 hb); have n2_ := Aside0.mk (Kd.R_below (by (with_reducible repeat (first | apply Kd.R_alloc | apply Kd.R_drewN | apply Kd.R_drew)); exact (Kd.R_mono (Kd.R_far (p := ⟨gb240, 2, none⟩) (Kd.R_far (p := ⟨gb240, 1, none⟩) (Kd.R_far (p := ⟨gb240, 0, none⟩) (Kd.R_types HO239.out BK240.out (by decide)) (fun _ hk => hk.2) (.int .i64 t235)) (fun _ hk => hk.2) (.int .i64 t236)) (fun _ hk => hk.2) (.slice Ao24 t237.length co24)) (fun _ h_ => h_.1))) hb); have n3_ := Aside0.mk (Kd.S_lower (Kd.S_fromN (Kd.S_new' ho0 (Kd.S_lt (by (with_reducible repeat (first | apply Kd.S_alloc | apply Kd.S_drewN | apply Kd.S_drew)); exact (Kd.S_mono (Kd.S_far (p := ⟨gb240, 2, none⟩) (Kd.S_far (p := ⟨gb240, 1, none⟩) (Kd.S_far (p := ⟨gb240, 0, none⟩) (Kd.S_types HO233.out BK240.out (by decide)) (fun _ hk => hk.2) (.int .i64 t235)) (fun _ hk => hk.2) (.int .i64 t236)) (fun _ hk => hk.2) (.slice Ao24 t237.length co24)) (fun _ h_ => h_.1))))) hngHO243) (below_size (upW HB))); have n4_ := Aside0.mk (blk_below (upF BK224) hb); have n5_ := Aside0.mk (blk_below (g := gb240) (o := .cells #[.int .i64 t235, .int .i64 t236, .slice Ao24 t237.length co24] 31 (0, 0)) (by (with_reducible repeat (first | refine blk_drewN ?_ _ | refine blk_drew ?_ | refine blk_alloc ?_ _)); refine blk_put (cs := #[.int .i64 t235, .int .i64 t236, .slice none 0 0]) ?_ 2 _ rfl; (with_reducible repeat (first | refine blk_drewN ?_ _ | refine blk_drew ?_ | refine blk_alloc ?_ _)); refine blk_put (cs := #[.int .i64 t235, .int .i64 0, .slice none 0 0]) ?_ 1 _ rfl; (with_reducible repeat (first | refine blk_drewN ?_ _ | refine blk_drew ?_ | refine blk_alloc ?_ _)); refine blk_put (cs := #[.int .i64 0, .int .i64 0, .slice none 0 0]) ?_ 0 _ rfl; (with_reducible repeat (first | refine blk_drewN ?_ _ | refine blk_drew ?_ | refine blk_alloc ?_ _)); exact BK240.out) hb); have n6_ := Aside0.mk (below_step (upW HB) hb); clear HO230; clear HO233; clear HO239; clear BK224; clear BK240; clear HB; have HO230 := n0_; have HO233 := n1_; have HO239 := n2_; have HO243 := n3_; have BK224 := n4_; have BK240 := n5_; have HB := n6_; clear n0_ n1_ n2_ n3_ n4_ n5_ n6_; (try clear hb); (try clear hb2); (try clear hk); (try clear hi); (try clear ho0)))
  (try simp only [Act.put, List.setIfInBounds_toArray, List.set_cons_zero, List.set_cons_succ])
  go_cut [40] (fun v40 wc => ∃ (kq : Nat) (x40_10 : Bool), v40 = .bool x40_10 ∧ Aside0 (laws_FnExactCrossesOf.j0 kq t231 t234 t241 t244 x40_10 a0_0 a0_1 l0_2 t235 t236 t237 = some r) ∧ Aside0 (kq ≤ k) ∧ Aside0 (Kd.S (Kd.slice 3 (Kd.int .i64)) 41 wc w.heap.size (fun k_ => some k_ ≠ (v242 : Value).ownBlock ∧ k_ < ngHO243) v232 t231) ∧ Aside0 (Kd.S (Kd.slice 3 (Kd.int .i64)) 41 wc w.heap.size (fun k_ => some k_ ≠ (v232 : Value).ownBlock ∧ ngHO243 ≤ k_) v242 t241) ∧ Aside0 (Kd.R k73 73 wc w.heap.size (fun _ => True) (.slice Ao24 t237.length co24) t237) ∧ Aside0 (wc.heap[gb224]? = some (.cells #[.int .i64 a0_0, .int .i64 a0_1, (.slice A0_2 l0_2.length c0_2)] 24 (0, 0))) ∧ Aside0 (wc.heap[gb240]? = some (.cells #[.int .i64 t235, .int .i64 t236, (.slice Ao24 t237.length co24)] 31 (0, 0))) ∧ Aside0 (Below w.heap.size w wc))
  case first =>
   have H := HC11.out
   clear HC11
   replace H := Option.bind_eq_some_iff.mp H
   obtain ⟨t245, A260, H⟩ := H
   replace H : (if t245 = true then (laws_FnExactCrossesOf.j0 k t231 t234 t241 t244 (t244 != t234) a0_0 a0_1 l0_2 t235 t236 t237) else (laws_FnExactCrossesOf.j0 k t231 t234 t241 t244 true a0_0 a0_1 l0_2 t235 t236 t237)) = some r := H
   have A26 := Aside0.mk A260
   clear A260
   by_cases c27 : t245 = true
   ·subst c27
    have H1 : (laws_FnExactCrossesOf.j0 k t231 t234 t241 t244 (t244 != t234) a0_0 a0_1 l0_2 t235 t236 t237) = some r := by rw [if_pos rfl] at H; exact H
    clear H
    have H := H1
    clear H1
    have H' := Aside0.mk H
    clear H
    obtain ⟨Ao28, co28, eo28⟩ := Kd.S_slice HO243.out
    subst eo28
    obtain ⟨Ao29, co29, eo29⟩ := Kd.S_slice HO233.out
    subst eo29
    go_wp2_with (first | ((with_reducible refine gate_callee (f := 17) rfl ?_); refine goesL_ (some 34) rfl rfl Try.func17 (by kernel_rfl) rfl #[.slice Ao28 t241.length co28, .slice Ao29 t231.length co29] rfl itp ?_; (with_reducible refine (laws_eqIntSS.calls k _ _ t241 _ _ t231 true _ ?side1 ?side2 ?side3 ?side4 A26.out).mono ?_); (case side1 => repeat (first | exact (Kd.S_reads' HO243.out).2.2 | (with_reducible refine Kd.C_alloc ?_ _) | (with_reducible refine Kd.C_drewN ?_ _) | (with_reducible refine Kd.C_drew ?_))); (case side2 => exact (Kd.S_reads' HO243.out).2.1); (case side3 => repeat (first | exact (Kd.S_reads' HO233.out).2.2 | (with_reducible refine Kd.C_alloc ?_ _) | (with_reducible refine Kd.C_drewN ?_ _) | (with_reducible refine Kd.C_drew ?_))); (case side4 => exact (Kd.S_reads' HO233.out).2.1); rintro e w' ⟨rfl, ⟨nd, rfl⟩⟩; refine ⟨_, rfl, ?_⟩))
    go_meet
    case rel => exact ⟨_, ((t244 != t234)), (by first | rfl | (simp; done) | (simp [*]; done)), H', ⟨by first | omega | exact Nat.le_refl _⟩, ⟨by (with_reducible repeat (first | apply Kd.S_alloc | apply Kd.S_drewN | apply Kd.S_drew)); exact Kd.S_mono HO233.out (fun _ hk => ⟨hk.1.2, hk.2⟩)⟩, ⟨by (with_reducible repeat (first | apply Kd.S_alloc | apply Kd.S_drewN | apply Kd.S_drew)); exact Kd.S_mono HO243.out (fun _ hk => ⟨hk.1.2, hk.2⟩)⟩, ⟨by (with_reducible repeat (first | apply Kd.R_alloc | apply Kd.R_drewN | apply Kd.R_drew)); exact Kd.R_mono HO239.out (fun _ hk => trivial)⟩, ⟨upK BK224⟩, ⟨upK BK240⟩, ⟨upW HB⟩⟩
   ·replace c27 := Bool.eq_false_iff.mpr c27
    subst c27
    have H1 : (laws_FnExactCrossesOf.j0 k t231 t234 t241 t244 true a0_0 a0_1 l0_2 t235 t236 t237) = some r := by rw [if_neg (show ¬ (false = true) by decide)] at H; exact H
    clear H
    have H := H1
    clear H1
    have H' := Aside0.mk H
    clear H
    obtain ⟨Ao30, co30, eo30⟩ := Kd.S_slice HO243.out
    subst eo30
    obtain ⟨Ao31, co31, eo31⟩ := Kd.S_slice HO233.out
    subst eo31
    go_wp2_with (first | ((with_reducible refine gate_callee (f := 17) rfl ?_); refine goesL_ (some 34) rfl rfl Try.func17 (by kernel_rfl) rfl #[.slice Ao30 t241.length co30, .slice Ao31 t231.length co31] rfl itp ?_; (with_reducible refine (laws_eqIntSS.calls k _ _ t241 _ _ t231 false _ ?side1 ?side2 ?side3 ?side4 A26.out).mono ?_); (case side1 => repeat (first | exact (Kd.S_reads' HO243.out).2.2 | (with_reducible refine Kd.C_alloc ?_ _) | (with_reducible refine Kd.C_drewN ?_ _) | (with_reducible refine Kd.C_drew ?_))); (case side2 => exact (Kd.S_reads' HO243.out).2.1); (case side3 => repeat (first | exact (Kd.S_reads' HO233.out).2.2 | (with_reducible refine Kd.C_alloc ?_ _) | (with_reducible refine Kd.C_drewN ?_ _) | (with_reducible refine Kd.C_drew ?_))); (case side4 => exact (Kd.S_reads' HO233.out).2.1); rintro e w' ⟨rfl, ⟨nd, rfl⟩⟩; refine ⟨_, rfl, ?_⟩))
    go_meet
    case rel => exact ⟨_, (true), (by first | rfl | (simp; done) | (simp [*]; done)), H', ⟨by first | omega | exact Nat.le_refl _⟩, ⟨by (with_reducible repeat (first | apply Kd.S_alloc | apply Kd.S_drewN | apply Kd.S_drew)); exact Kd.S_mono HO233.out (fun _ hk => ⟨hk.1.2, hk.2⟩)⟩, ⟨by (with_reducible repeat (first | apply Kd.S_alloc | apply Kd.S_drewN | apply Kd.S_drew)); exact Kd.S_mono HO243.out (fun _ hk => ⟨hk.1.2, hk.2⟩)⟩, ⟨by (with_reducible repeat (first | apply Kd.R_alloc | apply Kd.R_drewN | apply Kd.R_drew)); exact Kd.R_mono HO239.out (fun _ hk => trivial)⟩, ⟨upK BK224⟩, ⟨upK BK240⟩, ⟨upW HB⟩⟩
  case rest =>
   clear HC11
   try clear c1
   try clear c2
   try clear p2
   try clear c3
   try clear c3b0
   try clear c4
   try clear c13
   try clear c15
   try clear c17
   try clear c22
   try clear c23
   try clear c27
   try clear hcz13_0
   try clear hcz13_1
   try clear hcz13_2
   try clear hcz15_0
   try clear hcz15_1
   try clear hcz15_2
   try clear hcz19_0
   try clear hcz19_1
   try clear hcz19_2
   try clear hcz23_0
   try clear hcz23_1
   try clear hcz23_2
   try clear hcz5_0
   try clear hcz5_1
   try clear hcz5_2
   try clear hfz13_0
   try clear hfz13_1
   try clear hfz13_2
   try clear hfz15_0
   try clear hfz15_1
   try clear hfz15_2
   try clear hfz19_0
   try clear hfz19_1
   try clear hfz19_2
   try clear hfz23_0
   try clear hfz23_1
   try clear hfz23_2
   try clear hfz5_0
   try clear hfz5_1
   try clear hfz5_2
   obtain ⟨kq, x40_10, rfl, HA, HJ10, HO_4, HO_7, HO_241002, BK224, BK240, HB⟩ := hcut
   cases kq with
   | zero => exact absurd HA.out (by simp [laws_FnExactCrossesOf.j0])
   | succ kj10 =>
    have H := HA.out
    clear HA
    simp only [laws_FnExactCrossesOf.j0] at H
    by_cases c32 : x40_10 = true
    ·subst c32
     have H1 : (some false) = some r := by rw [if_pos rfl] at H; exact H
     clear H
     have H := H1
     clear H1
     obtain rfl := Option.some.inj H
     go_wp2
     go_ret
     exact ⟨by first | rfl | (simp [errW_none, errW_some] <;> rfl) | (simp [*, errW_none, errW_some] <;> rfl), by repeat (first | (with_reducible first | exact HB.out | apply below_alloc | apply pw_below_drewN | apply below_drew1 | refine below_set ?_ GE224.out | refine below_set ?_ GE240.out) | exact HB.out)⟩
    ·replace c32 := Bool.eq_false_iff.mpr c32
     subst c32
     have H1 : ((laws_toCut.f kj10 a0_0 a0_1 l0_2).bind fun bt246 => ((laws_eqCut.f kj10 t235 t236 t237 bt246.1 bt246.2.1 bt246.2.2).bind fun t251 => (if t251 = true then ((laws_markCut.f kj10 t235 t236 t237 1).bind fun bt252 => (if bt252.1 < 0 then (laws_FnExactCrossesOf.j1 kj10 t231 t234 t241 true a0_0 a0_1 l0_2) else ((laws_eqIntSS.f kj10 t241 t231).bind fun t254 => (if t254 = true then (laws_FnExactCrossesOf.j1 kj10 t231 t234 t241 (t244 != t234) a0_0 a0_1 l0_2) else (laws_FnExactCrossesOf.j1 kj10 t231 t234 t241 true a0_0 a0_1 l0_2))))) else (some false)))) = some r := by rw [if_neg (show ¬ (false = true) by decide)] at H; exact H
     clear H
     have H := H1
     clear H1
     replace H := Option.bind_eq_some_iff.mp H
     obtain ⟨⟨t246, t247, t248⟩, A330, H⟩ := H
     replace H : ((laws_eqCut.f kj10 t235 t236 t237 t246 t247 t248).bind fun t251 => (if t251 = true then ((laws_markCut.f kj10 t235 t236 t237 1).bind fun bt252 => (if bt252.1 < 0 then (laws_FnExactCrossesOf.j1 kj10 t231 t234 t241 true a0_0 a0_1 l0_2) else ((laws_eqIntSS.f kj10 t241 t231).bind fun t254 => (if t254 = true then (laws_FnExactCrossesOf.j1 kj10 t231 t234 t241 (t244 != t234) a0_0 a0_1 l0_2) else (laws_FnExactCrossesOf.j1 kj10 t231 t234 t241 true a0_0 a0_1 l0_2))))) else (some false))) = some r := H
     have A33 := Aside0.mk A330
     clear A330
     replace H := Option.bind_eq_some_iff.mp H
     obtain ⟨t251, A340, H⟩ := H
     replace H : (if t251 = true then ((laws_markCut.f kj10 t235 t236 t237 1).bind fun bt252 => (if bt252.1 < 0 then (laws_FnExactCrossesOf.j1 kj10 t231 t234 t241 true a0_0 a0_1 l0_2) else ((laws_eqIntSS.f kj10 t241 t231).bind fun t254 => (if t254 = true then (laws_FnExactCrossesOf.j1 kj10 t231 t234 t241 (t244 != t234) a0_0 a0_1 l0_2) else (laws_FnExactCrossesOf.j1 kj10 t231 t234 t241 true a0_0 a0_1 l0_2))))) else (some false)) = some r := H
     have A34 := Aside0.mk A340
     clear A340
     by_cases c35 : t251 = true
     ·subst c35
      have H1 : ((laws_markCut.f kj10 t235 t236 t237 1).bind fun bt252 => (if bt252.1 < 0 then (laws_FnExactCrossesOf.j1 kj10 t231 t234 t241 true a0_0 a0_1 l0_2) else ((laws_eqIntSS.f kj10 t241 t231).bind fun t254 => (if t254 = true then (laws_FnExactCrossesOf.j1 kj10 t231 t234 t241 (t244 != t234) a0_0 a0_1 l0_2) else (laws_FnExactCrossesOf.j1 kj10 t231 t234 t241 true a0_0 a0_1 l0_2))))) = some r := by rw [if_pos rfl] at H; exact H
      clear H
      have H := H1
      clear H1
      replace H := Option.bind_eq_some_iff.mp H
      obtain ⟨⟨t252, t253⟩, A360, H⟩ := H
      replace H : (if t252 < 0 then (laws_FnExactCrossesOf.j1 kj10 t231 t234 t241 true a0_0 a0_1 l0_2) else ((laws_eqIntSS.f kj10 t241 t231).bind fun t254 => (if t254 = true then (laws_FnExactCrossesOf.j1 kj10 t231 t234 t241 (t244 != t234) a0_0 a0_1 l0_2) else (laws_FnExactCrossesOf.j1 kj10 t231 t234 t241 true a0_0 a0_1 l0_2)))) = some r := H
      have A36 := Aside0.mk A360
      clear A360
      have HC37 := Aside0.mk H
      clear H
      try go_wp2
      have n0_ := Aside0.mk (Kd.S_drew HO_4.out)
      have n1_ := Aside0.mk (Kd.S_drew HO_7.out)
      have n2_ := Aside0.mk (Kd.R_drew HO_241002.out)
      have n3_ := Aside0.mk (blk_drew BK224.out)
      have n4_ := Aside0.mk (blk_drew BK240.out)
      have n5_ := Aside0.mk (below_drew1 HB.out)
      clear HO_4
      clear HO_7
      clear HO_241002
      clear BK224
      clear BK240
      clear HB
      have HO_4 := n0_
      have HO_7 := n1_
      have HO_241002 := n2_
      have BK224 := n3_
      have BK240 := n4_
      have HB := n5_
      clear n0_ n1_ n2_ n3_ n4_ n5_
      refine start_ (n := 5) (S := fun w' => w'.cell? ⟨gb240, 0, none⟩ = some (.int .i64 t235) ∧ w'.cell? ⟨gb240, 1, none⟩ = some (.int .i64 t236) ∧ w'.cell? ⟨gb240, 2, none⟩ = some (.slice Ao24 t237.length co24) ∧ w'.cell? ⟨gb224, 0, none⟩ = some (.int .i64 a0_0) ∧ w'.cell? ⟨gb224, 1, none⟩ = some (.int .i64 a0_1) ∧ w'.cell? ⟨gb224, 2, none⟩ = some (.slice A0_2 l0_2.length c0_2)) (ds := []) #[false, false, false, false, false] (by kernel_rfl) rfl rfl ⟨(blk_cell BK240.out 0).trans rfl, (blk_cell BK240.out 1).trans rfl, (blk_cell BK240.out 2).trans rfl, (blk_cell BK224.out 0).trans rfl, (blk_cell BK224.out 1).trans rfl, (blk_cell BK224.out 2).trans rfl⟩ (fun hHeld => ?_)
      generalize wc.drew = w38 at HO_4 HO_7 HO_241002 BK224 BK240 HB hHeld ⊢
      refine take_ (i := 0) (N := some 41) (v := ?_) (a' := ?_) #[true, false, false, false, false] rfl rfl (by kernel_rfl) (fun _ _ _ h => h) (Or.inl ⟨by rfl, ?_⟩) hHeld ?_ ?_
      rotate_left
      ·rintro w' ⟨s0, s1, s2, s3, s4, s5⟩
       go_simp
       with_reducible rfl
      rotate_left
      ·simp only [Act.put, List.setIfInBounds_toArray, List.set_cons_zero, List.set_cons_succ, i64_w, i32_w]
       rfl
      refine take_ (i := 1) (N := some 42) (v := ?_) (a' := ?_) #[true, true, false, false, false] rfl rfl (by kernel_rfl) (fun _ _ _ h => h) (Or.inl ⟨by rfl, ?_⟩) hHeld ?_ ?_
      rotate_left
      ·rintro w' ⟨s0, s1, s2, s3, s4, s5⟩
       go_simp
       with_reducible rfl
      rotate_left
      ·simp only [Act.put, List.setIfInBounds_toArray, List.set_cons_zero, List.set_cons_succ, i64_w, i32_w]
       rfl
      refine one_ (i := 2) (N := some 43) #[true, true, true, false, false] rfl rfl (by kernel_rfl) (by decide) (fun K hK => ?_)
      refine goes_ Try.func15 (by kernel_rfl) rfl #[.agg #[.int .i64 a0_0, .int .i64 a0_1, .slice A0_2 l0_2.length c0_2]] (by rfl) rfl rfl itp ?_
      with_reducible refine (laws_toCut.calls kj10 a0_0 a0_1 _ _ l0_2 t246 t247 t248 _ ?side1 ?side2 A33.out).mono ?_
      (case side1 => repeat (first | exact (Kd.C_below HR0_2.out HB.out) | (with_reducible refine Kd.C_alloc ?_ _) | (with_reducible refine Kd.C_drewN ?_ _) | (with_reducible refine Kd.C_drew ?_)))
      (case side2 => exact HC0_2.out)
      rintro e w39 ⟨v249, rfl, ho0, hb⟩
      refine ⟨_, rfl, ?_⟩
      have n0_ := Aside0.mk (Kd.S_below (by (with_reducible repeat (first | apply Kd.S_alloc | apply Kd.S_drewN | apply Kd.S_drew)); exact HO_4.out) hb)
      have n1_ := Aside0.mk (Kd.S_below (by (with_reducible repeat (first | apply Kd.S_alloc | apply Kd.S_drewN | apply Kd.S_drew)); exact HO_7.out) hb)
      have n2_ := Aside0.mk (Kd.R_elder' (upR HO_241002) (Kd.R_base ho0) hb)
      have n3_ := Aside0.mk (Kd.R_lower (Kd.R_new' ho0 (Kd.R_lt (upR HO_241002))) (below_size (upW HB)))
      have n4_ := Aside0.mk (blk_below (upK BK224) hb)
      have n5_ := Aside0.mk (blk_below (upK BK240) hb)
      have n6_ := Aside0.mk (below_step (upW HB) hb)
      clear HO_4
      clear HO_7
      clear HO_241002
      clear BK224
      clear BK240
      clear HB
      have HO_4 := n0_
      have HO_7 := n1_
      have HO_241002 := n2_
      have HO250 := n3_
      have BK224 := n4_
      have BK240 := n5_
      have HB := n6_
      clear n0_ n1_ n2_ n3_ n4_ n5_ n6_
      (try clear hb)
      (try clear hb2)
      (try clear hk)
      (try clear hi)
      (try clear ho0)
      obtain ⟨Ao40, co40, eo40⟩ := Kd.R_slice HO250.out
      (first | subst eo40 | (injection eo40 with f1_ f2_ f3_; have f4_ := f1_.symm; have f5_ := f3_.symm; clear f1_ f2_ f3_; subst f4_; subst f5_))
      refine hK.out _ _ ⟨(blk_cell BK240.out 0).trans rfl, (blk_cell BK240.out 1).trans rfl, (blk_cell BK240.out 2).trans rfl, (blk_cell BK224.out 0).trans rfl, (blk_cell BK224.out 1).trans rfl, (blk_cell BK224.out 2).trans rfl⟩ (fun hHeld => ?_)
      clear hK K
      refine norm_ (a' := ?_) ?_ ?_
      rotate_left
      ·show Act.put _ (some 43) _ = _
       simp only [Act.put, List.setIfInBounds_toArray, List.set_cons_zero, List.set_cons_succ, i64_w, i32_w]
       rfl
      refine one_ (i := 3) (N := some 44) #[true, true, true, true, false] rfl rfl (by kernel_rfl) (by decide) (fun K hK => ?_)
      refine goes_ Try.func18 (by kernel_rfl) rfl #[.agg #[.int .i64 t235, .int .i64 t236, .slice Ao24 t237.length co24], .agg #[.int .i64 t246, .int .i64 t247, .slice Ao40 t248.length co40]] (by rfl) rfl rfl itp ?_
      with_reducible refine (laws_eqCut.calls kj10 t235 t236 _ _ t237 t246 t247 _ _ t248 true _ ?side1 ?side2 ?side3 ?side4 A34.out).mono ?_
      (case side1 => repeat (first | exact (Kd.R_reads' HO_241002.out).2.2 | (with_reducible refine Kd.C_alloc ?_ _) | (with_reducible refine Kd.C_drewN ?_ _) | (with_reducible refine Kd.C_drew ?_)))
      (case side2 => exact (Kd.R_reads' HO_241002.out).2.1)
      (case side3 => repeat (first | exact (Kd.R_reads' HO250.out).2.2 | (with_reducible refine Kd.C_alloc ?_ _) | (with_reducible refine Kd.C_drewN ?_ _) | (with_reducible refine Kd.C_drew ?_)))
      (case side4 => exact (Kd.R_reads' HO250.out).2.1)
      rintro e w41 ⟨rfl, hb⟩
      refine ⟨_, rfl, ?_⟩
      have n0_ := Aside0.mk (Kd.S_below (by (with_reducible repeat (first | apply Kd.S_alloc | apply Kd.S_drewN | apply Kd.S_drew)); exact HO_4.out) hb)
      have n1_ := Aside0.mk (Kd.S_below (by (with_reducible repeat (first | apply Kd.S_alloc | apply Kd.S_drewN | apply Kd.S_drew)); exact HO_7.out) hb)
      have n2_ := Aside0.mk (Kd.R_below (upR HO_241002) hb)
      have n3_ := Aside0.mk (Kd.R_below (upR HO250) hb)
      have n4_ := Aside0.mk (blk_below (upK BK224) hb)
      have n5_ := Aside0.mk (blk_below (upK BK240) hb)
      have n6_ := Aside0.mk (below_step (upW HB) hb)
      clear HO_4
      clear HO_7
      clear HO_241002
      clear HO250
      clear BK224
      clear BK240
      clear HB
      have HO_4 := n0_
      have HO_7 := n1_
      have HO_241002 := n2_
      have HO250 := n3_
      have BK224 := n4_
      have BK240 := n5_
      have HB := n6_
      clear n0_ n1_ n2_ n3_ n4_ n5_ n6_
      (try clear hb)
      (try clear hb2)
      (try clear hk)
      (try clear hi)
      refine hK.out _ _ ⟨(blk_cell BK240.out 0).trans rfl, (blk_cell BK240.out 1).trans rfl, (blk_cell BK240.out 2).trans rfl, (blk_cell BK224.out 0).trans rfl, (blk_cell BK224.out 1).trans rfl, (blk_cell BK224.out 2).trans rfl⟩ (fun hHeld => ?_)
      clear hK K
      refine norm_ (a' := ?_) ?_ ?_
      rotate_left
      ·show Act.put _ (some 44) _ = _
       simp only [Act.put, List.setIfInBounds_toArray, List.set_cons_zero, List.set_cons_succ, i64_w, i32_w]
       rfl
      refine pure_ (i := 4) (N := some 45) (v := ?_) (a' := ?_) #[true, true, true, true, true] rfl rfl (by kernel_rfl) (fun _ _ _ h => h) (Or.inl ⟨by rfl, ?_⟩) ?_ ?_
      rotate_left
      ·intro w'
       go_simp
       with_reducible rfl
      rotate_left
      ·simp only [Act.put, List.setIfInBounds_toArray, List.set_cons_zero, List.set_cons_succ, i64_w, i32_w]
       rfl
      refine done_ (by kernel_rfl) ?_
      have hnb42 := NB240_224.out
      have hnc42 := NB224_240.out
      have hcz43_0 : w41.cell? ⟨gb240, 0, none⟩ = some (.int .i64 t235) := (blk_cell BK240.out 0).trans rfl
      have hcz43_1 : w41.cell? ⟨gb240, 1, none⟩ = some (.int .i64 t236) := (blk_cell BK240.out 1).trans rfl
      have hcz43_2 : w41.cell? ⟨gb240, 2, none⟩ = some (.slice Ao24 t237.length co24) := (blk_cell BK240.out 2).trans rfl
      have hfz43_0 := blk_frozen BK240.out 0
      have hfz43_1 := blk_frozen BK240.out 1
      have hfz43_2 := blk_frozen BK240.out 2
      go_upto_region 14 with (first | ((with_reducible refine gate_callee (f := 19) rfl ?_); refine goesL_ (some 48) rfl rfl Try.func19 (by kernel_rfl) rfl #[.agg #[.int .i64 t235, .int .i64 t236, .slice Ao24 t237.length co24], .int .i64 1] rfl itp ?_; (with_reducible refine (laws_markCut.calls kj10 t235 t236 (fun k_ => some k_ = (.slice Ao24 t237.length co24 : Value).ownBlock) (.slice Ao24 t237.length co24) t237 1 t252 t253 w _ ?side1 ?side2 A36.out).mono ?_); (case side1 => repeat (first | (with_reducible first | exact HB.out | apply below_alloc | apply pw_below_drewN | apply below_drew1 | refine below_set ?_ GE224.out | refine below_set ?_ GE240.out) | exact HB.out)); (case side2 => exact Kd.R_tight rfl HO_241002.out); rintro e w44 ⟨rfl, hy0, hb, hkp⟩; refine ⟨_, rfl, ?_⟩; have n0_ := Aside0.mk (Kd.S_mono (ok' := fun k_ => some k_ ≠ (v242 : Value).ownBlock ∧ k_ < ngHO243) (Kd.S_keptB ((Kd.S_apart' HO_4.out (Kd.R_typed HO_241002.out) (by decide))) hkp (fun k_ hk_ hs_ => (hk_.2) hs_)) (fun k_ hk_ => ⟨hk_.1.1.1, hk_.1.1.2⟩)); have n1_ := Aside0.mk (Kd.S_mono (ok' := fun k_ => some k_ ≠ (v232 : Value).ownBlock ∧ ngHO243 ≤ k_) (Kd.S_keptB ((Kd.S_apart' HO_7.out (Kd.R_typed HO_241002.out) (by decide))) hkp (fun k_ hk_ hs_ => (hk_.2) hs_)) (fun k_ hk_ => ⟨hk_.1.1.1, hk_.1.1.2⟩)); have n2_ := Aside0.mk (Kd.R_reok rfl hy0 (fun k_ e_ => HO_241002.out.1 k_ e_)); have n3_ := Aside0.mk (blk_kept (upK BK224) hkp (fun hs_ => (fun e_ => (Kd.R_ne HO_241002.out BK224.out (by decide)) e_) hs_)); have n4_ := Aside0.mk (blk_kept (upK BK240) hkp (fun hs_ => (fun e_ => (Kd.R_ne HO_241002.out BK240.out (by decide)) e_) hs_)); have n5_ := Aside0.mk (Kd.R_mono (ok' := fun k_ => some k_ ≠ (.slice Ao24 t237.length co24 : Value).ownBlock) (Kd.R_keptB (HO250.out) hkp (fun k_ hk_ hs_ => (hk_.2) hs_)) (fun k_ hk_ => hk_.1.2)); have n6_ := Aside0.mk (hb); clear HO_4; clear HO_7; clear HO_241002; clear BK224; clear BK240; clear HO250; clear HB; have HO_4 := n0_; have HO_7 := n1_; have HO_241002 := n2_; have BK224 := n3_; have BK240 := n4_; have HO250 := n5_; have HB := n6_; clear n0_ n1_ n2_ n3_ n4_ n5_ n6_; (try clear hb); (try clear hkp); (try clear hy0)))
      (try simp only [Act.put, List.setIfInBounds_toArray, List.set_cons_zero, List.set_cons_succ])
      go_cut [61] (fun v61 wc => ∃ (kq : Nat) (x61_36 : Bool), v61 = .bool x61_36 ∧ Aside0 (laws_FnExactCrossesOf.j1 kq t231 t234 t241 x61_36 a0_0 a0_1 l0_2 = some r) ∧ Aside0 (kq ≤ kj10) ∧ Aside0 (Kd.S (Kd.slice 3 (Kd.int .i64)) 41 wc w.heap.size (fun k_ => some k_ ≠ (v242 : Value).ownBlock ∧ k_ < ngHO243) v232 t231) ∧ Aside0 (Kd.S (Kd.slice 3 (Kd.int .i64)) 41 wc w.heap.size (fun k_ => some k_ ≠ (v232 : Value).ownBlock ∧ ngHO243 ≤ k_) v242 t241) ∧ Aside0 (Kd.R k73 73 wc w.heap.size (fun _ => True) (.slice Ao24 t237.length co24) t253) ∧ Aside0 (wc.heap[gb224]? = some (.cells #[.int .i64 a0_0, .int .i64 a0_1, (.slice A0_2 l0_2.length c0_2)] 24 (0, 0))) ∧ Aside0 (wc.heap[gb240]? = some (.cells #[.int .i64 t235, .int .i64 t236, (.slice Ao24 t237.length co24)] 31 (0, 0))) ∧ Aside0 (Below w.heap.size w wc))
      case first =>
       have H := HC37.out
       clear HC37
       by_cases c45 : t252 < 0
       ·rw [if_pos c45] at H
        have c45b0 : decide (t252 < 0) = true := decide_eq_true c45
        clear c45
        (first | rw [c45b0] | (simp only [i64_w, i32_w]; rw [c45b0]) | skip)
        have H' := Aside0.mk H
        clear H
        go_wp2
        go_meet
        case rel => exact ⟨_, (true), (by first | rfl | (simp; done) | (simp [*]; done)), H', ⟨by have := HJ10.out; first | omega | exact Nat.le_refl _⟩, ⟨by (with_reducible repeat (first | apply Kd.S_alloc | apply Kd.S_drewN | apply Kd.S_drew)); exact HO_4.out⟩, ⟨by (with_reducible repeat (first | apply Kd.S_alloc | apply Kd.S_drewN | apply Kd.S_drew)); exact HO_7.out⟩, ⟨by (with_reducible repeat (first | apply Kd.R_alloc | apply Kd.R_drewN | apply Kd.R_drew)); exact Kd.R_mono HO_241002.out (fun _ hk => trivial)⟩, ⟨upK BK224⟩, ⟨upK BK240⟩, ⟨upW HB⟩⟩
       ·rw [if_neg c45] at H
        have c45b0 : decide (t252 < 0) = false := decide_eq_false c45
        clear c45
        (first | rw [c45b0] | (simp only [i64_w, i32_w]; rw [c45b0]) | skip)
        replace H := Option.bind_eq_some_iff.mp H
        obtain ⟨t254, A460, H⟩ := H
        replace H : (if t254 = true then (laws_FnExactCrossesOf.j1 kj10 t231 t234 t241 (t244 != t234) a0_0 a0_1 l0_2) else (laws_FnExactCrossesOf.j1 kj10 t231 t234 t241 true a0_0 a0_1 l0_2)) = some r := H
        have A46 := Aside0.mk A460
        clear A460
        by_cases c47 : t254 = true
        ·subst c47
         have H1 : (laws_FnExactCrossesOf.j1 kj10 t231 t234 t241 (t244 != t234) a0_0 a0_1 l0_2) = some r := by rw [if_pos rfl] at H; exact H
         clear H
         have H := H1
         clear H1
         have H' := Aside0.mk H
         clear H
         obtain ⟨Ao48, co48, eo48⟩ := Kd.S_slice HO_7.out
         subst eo48
         obtain ⟨Ao49, co49, eo49⟩ := Kd.S_slice HO_4.out
         subst eo49
         go_wp2_with (first | (go_at_call 17; (with_reducible refine (laws_eqIntSS.calls kj10 _ _ t241 _ _ t231 true _ ?side1 ?side2 ?side3 ?side4 A46.out).mono ?_); (case side1 => repeat (first | exact (Kd.S_reads' HO_7.out).2.2 | (with_reducible refine Kd.C_alloc ?_ _) | (with_reducible refine Kd.C_drewN ?_ _) | (with_reducible refine Kd.C_drew ?_))); (case side2 => exact (Kd.S_reads' HO_7.out).2.1); (case side3 => repeat (first | exact (Kd.S_reads' HO_4.out).2.2 | (with_reducible refine Kd.C_alloc ?_ _) | (with_reducible refine Kd.C_drewN ?_ _) | (with_reducible refine Kd.C_drew ?_))); (case side4 => exact (Kd.S_reads' HO_4.out).2.1); rintro e w' ⟨rfl, ⟨nd, rfl⟩⟩))
         go_meet
         case rel => exact ⟨_, ((t244 != t234)), (by first | rfl | (simp; done) | (simp [*]; done)), H', ⟨by have := HJ10.out; first | omega | exact Nat.le_refl _⟩, ⟨by (with_reducible repeat (first | apply Kd.S_alloc | apply Kd.S_drewN | apply Kd.S_drew)); exact HO_4.out⟩, ⟨by (with_reducible repeat (first | apply Kd.S_alloc | apply Kd.S_drewN | apply Kd.S_drew)); exact HO_7.out⟩, ⟨by (with_reducible repeat (first | apply Kd.R_alloc | apply Kd.R_drewN | apply Kd.R_drew)); exact Kd.R_mono HO_241002.out (fun _ hk => trivial)⟩, ⟨upK BK224⟩, ⟨upK BK240⟩, ⟨upW HB⟩⟩
        ·replace c47 := Bool.eq_false_iff.mpr c47
         subst c47
         have H1 : (laws_FnExactCrossesOf.j1 kj10 t231 t234 t241 true a0_0 a0_1 l0_2) = some r := by rw [if_neg (show ¬ (false = true) by decide)] at H; exact H
         clear H
         have H := H1
         clear H1
         have H' := Aside0.mk H
         clear H
         obtain ⟨Ao50, co50, eo50⟩ := Kd.S_slice HO_7.out
         subst eo50
         obtain ⟨Ao51, co51, eo51⟩ := Kd.S_slice HO_4.out
         subst eo51
         go_wp2_with (first | (go_at_call 17; (with_reducible refine (laws_eqIntSS.calls kj10 _ _ t241 _ _ t231 false _ ?side1 ?side2 ?side3 ?side4 A46.out).mono ?_); (case side1 => repeat (first | exact (Kd.S_reads' HO_7.out).2.2 | (with_reducible refine Kd.C_alloc ?_ _) | (with_reducible refine Kd.C_drewN ?_ _) | (with_reducible refine Kd.C_drew ?_))); (case side2 => exact (Kd.S_reads' HO_7.out).2.1); (case side3 => repeat (first | exact (Kd.S_reads' HO_4.out).2.2 | (with_reducible refine Kd.C_alloc ?_ _) | (with_reducible refine Kd.C_drewN ?_ _) | (with_reducible refine Kd.C_drew ?_))); (case side4 => exact (Kd.S_reads' HO_4.out).2.1); rintro e w' ⟨rfl, ⟨nd, rfl⟩⟩))
         go_meet
         case rel => exact ⟨_, (true), (by first | rfl | (simp; done) | (simp [*]; done)), H', ⟨by have := HJ10.out; first | omega | exact Nat.le_refl _⟩, ⟨by (with_reducible repeat (first | apply Kd.S_alloc | apply Kd.S_drewN | apply Kd.S_drew)); exact HO_4.out⟩, ⟨by (with_reducible repeat (first | apply Kd.S_alloc | apply Kd.S_drewN | apply Kd.S_drew)); exact HO_7.out⟩, ⟨by (with_reducible repeat (first | apply Kd.R_alloc | apply Kd.R_drewN | apply Kd.R_drew)); exact Kd.R_mono HO_241002.out (fun _ hk => trivial)⟩, ⟨upK BK224⟩, ⟨upK BK240⟩, ⟨upW HB⟩⟩
      case rest =>
       clear HC37
       try clear c1
       try clear c2
       try clear p2
       try clear c3
       try clear c3b0
       try clear c4
       try clear c13
       try clear c15
       try clear c17
       try clear c18
       try clear c19
       try clear c22
       try clear c23
       try clear c27
       try clear c32
       try clear c35
       try clear c42
       try clear c45
       try clear c45b0
       try clear c47
       try clear hcz13_0
       try clear hcz13_1
       try clear hcz13_2
       try clear hcz15_0
       try clear hcz15_1
       try clear hcz15_2
       try clear hcz19_0
       try clear hcz19_1
       try clear hcz19_2
       try clear hcz23_0
       try clear hcz23_1
       try clear hcz23_2
       try clear hcz43_0
       try clear hcz43_1
       try clear hcz43_2
       try clear hcz5_0
       try clear hcz5_1
       try clear hcz5_2
       try clear hfz13_0
       try clear hfz13_1
       try clear hfz13_2
       try clear hfz15_0
       try clear hfz15_1
       try clear hfz15_2
       try clear hfz19_0
       try clear hfz19_1
       try clear hfz19_2
       try clear hfz23_0
       try clear hfz23_1
       try clear hfz23_2
       try clear hfz43_0
       try clear hfz43_1
       try clear hfz43_2
       try clear hfz5_0
       try clear hfz5_1
       try clear hfz5_2
       try clear p2
       obtain ⟨kq, x61_36, rfl, HA, HJ36, HO_4, HO_7, HO_241002, BK224, BK240, HB⟩ := hcut
       have hl241002_36 := (Kd.R_reads' HO_241002.out).1
       rw [hl241002_36] at HO_241002
       (try simp only [hl241002_36])
       (try simp only [hl241002_36] at BK224)
       (try simp only [hl241002_36] at BK240)
       (try simp only [hl241002_36] at HO_4)
       (try simp only [hl241002_36] at HO_7)
       cases kq with
       | zero => exact absurd HA.out (by simp [laws_FnExactCrossesOf.j1])
       | succ kj36 =>
        have H := HA.out
        clear HA
        simp only [laws_FnExactCrossesOf.j1] at H
        by_cases c52 : x61_36 = true
        ·subst c52
         have H1 : (some false) = some r := by rw [if_pos rfl] at H; exact H
         clear H
         have H := H1
         clear H1
         obtain rfl := Option.some.inj H
         go_wp2
         go_ret
         exact ⟨by first | rfl | (simp [errW_none, errW_some] <;> rfl) | (simp [*, errW_none, errW_some] <;> rfl), by repeat (first | (with_reducible first | exact HB.out | apply below_alloc | apply pw_below_drewN | apply below_drew1 | refine below_set ?_ GE224.out | refine below_set ?_ GE240.out) | exact HB.out)⟩
        ·replace c52 := Bool.eq_false_iff.mpr c52
         subst c52
         have H1 : ((laws_markIntSS.f kj36 t241 1).bind fun bt255 => ((laws_heldIntSS.f kj36 bt255.2 1).bind fun t257 => (if t257 < 0 then (some false) else (if t257 = bt255.1 then ((laws_toCut.f kj36 a0_0 a0_1 l0_2).bind fun bt258 => ((impl_CrossesOf.f kj36 bt258.1 bt258.2.1 bt258.2.2).bind fun bt263 => ((laws_eqIntSS.f kj36 bt263.1 t231).bind fun t267 => (if t267 = true then (laws_FnExactCrossesOf.j2 kj36 bt255.2 bt255.1 (bt263.2 != t234)) else (laws_FnExactCrossesOf.j2 kj36 bt255.2 bt255.1 true))))) else (some false))))) = some r := by rw [if_neg (show ¬ (false = true) by decide)] at H; exact H
         clear H
         have H := H1
         clear H1
         replace H := Option.bind_eq_some_iff.mp H
         obtain ⟨⟨t255, t256⟩, A530, H⟩ := H
         replace H : ((laws_heldIntSS.f kj36 t256 1).bind fun t257 => (if t257 < 0 then (some false) else (if t257 = t255 then ((laws_toCut.f kj36 a0_0 a0_1 l0_2).bind fun bt258 => ((impl_CrossesOf.f kj36 bt258.1 bt258.2.1 bt258.2.2).bind fun bt263 => ((laws_eqIntSS.f kj36 bt263.1 t231).bind fun t267 => (if t267 = true then (laws_FnExactCrossesOf.j2 kj36 t256 t255 (bt263.2 != t234)) else (laws_FnExactCrossesOf.j2 kj36 t256 t255 true))))) else (some false)))) = some r := H
         have A53 := Aside0.mk A530
         clear A530
         replace H := Option.bind_eq_some_iff.mp H
         obtain ⟨t257, A540, H⟩ := H
         replace H : (if t257 < 0 then (some false) else (if t257 = t255 then ((laws_toCut.f kj36 a0_0 a0_1 l0_2).bind fun bt258 => ((impl_CrossesOf.f kj36 bt258.1 bt258.2.1 bt258.2.2).bind fun bt263 => ((laws_eqIntSS.f kj36 bt263.1 t231).bind fun t267 => (if t267 = true then (laws_FnExactCrossesOf.j2 kj36 t256 t255 (bt263.2 != t234)) else (laws_FnExactCrossesOf.j2 kj36 t256 t255 true))))) else (some false))) = some r := H
         have A54 := Aside0.mk A540
         clear A540
         by_cases c55 : t257 < 0
         ·rw [if_pos c55] at H
          have c55b0 : decide (t257 < 0) = true := decide_eq_true c55
          clear c55
          obtain rfl := Option.some.inj H
          obtain ⟨Ao56, co56, eo56⟩ := Kd.S_slice HO_7.out
          subst eo56
          go_wp2_with (first | ((with_reducible refine gate_callee (f := 20) rfl ?_); refine goesL_ (some 64) rfl rfl Try.func20 (by kernel_rfl) rfl #[.slice Ao56 t241.length co56, .int .i64 1] rfl itp ?_; (with_reducible refine (laws_markIntSS.calls kj36 ?ps0 (.slice Ao56 t241.length co56) t241 1 t255 t256 w _ ?side1 ?side2 A53.out).mono ?_); (case side1 => repeat (first | (with_reducible first | exact HB.out | apply below_alloc | apply pw_below_drewN | apply below_drew1 | refine below_set ?_ GE224.out | refine below_set ?_ GE240.out) | exact HB.out)); (case side2 => exact Kd.S_bound HO_7.out); rintro e w57 ⟨rfl, hy0, hb, hkp⟩; refine ⟨_, rfl, ?_⟩; have n0_ := Aside0.mk (Kd.S_mono (ok' := fun k_ => some k_ ≠ (.slice Ao56 t241.length co56 : Value).ownBlock ∧ k_ < ngHO243) (Kd.S_keptB ((Kd.S_apartP hkp HO_4.out (fun k_ hk e_ => Nat.not_lt.2 (e_.1.2) (hk.2)))) hkp (fun k_ hk_ hs_ => (hk_.2) hs_)) (fun k_ hk_ => ⟨hk_.1.1.1, hk_.1.1.2⟩)); have n1_ := Aside0.mk (Kd.S_mono hy0 (fun k_ hk_ => hk_.1)); have n2_ := Aside0.mk (Kd.R_mono (ok' := fun k_ => True) (Kd.R_keptB ((Kd.R_apartP hkp rfl HO_241002.out (fun k_ hk ho_ e_ => off_type e_.2.2.2 (Kd.R_typed HO_241002.out k_ hk.symm) (by decide)))) hkp (fun k_ hk_ hs_ => (hk_.2) hs_)) (fun k_ hk_ => trivial)); have n3_ := Aside0.mk (blk_kept (upK BK224) hkp (fun hs_ => (fun e_ => off_type e_.2.2.2 ⟨_, by (with_reducible repeat (first | refine blk_drewN ?_ _ | refine blk_drew ?_ | refine blk_alloc ?_ _)); exact BK224.out⟩ (by decide)) hs_)); have n4_ := Aside0.mk (blk_kept (upK BK240) hkp (fun hs_ => (fun e_ => off_type e_.2.2.2 ⟨_, by (with_reducible repeat (first | refine blk_drewN ?_ _ | refine blk_drew ?_ | refine blk_alloc ?_ _)); exact BK240.out⟩ (by decide)) hs_)); have n5_ := Aside0.mk (hb); clear HO_4; clear HO_7; clear HO_241002; clear BK224; clear BK240; clear HB; have HO_4 := n0_; have HO_7 := n1_; have HO_241002 := n2_; have BK224 := n3_; have BK240 := n4_; have HB := n5_; clear n0_ n1_ n2_ n3_ n4_ n5_; (try clear hb); (try clear hkp); (try clear hy0)) | ((with_reducible refine gate_callee (f := 21) rfl ?_); refine goesL_ (some 67) rfl rfl Try.func21 (by kernel_rfl) rfl #[.slice Ao56 t256.length co56, .int .i64 1] rfl (by (try simp only [List.map_toArray, List.map_cons, List.map_nil]); first | done | (rw [show t256.length = t241.length from (Kd.S_reads' HO_7.out).1.symm] <;> rfl) | rfl | (simp only [List.length_drop, List.length_take]; rfl)) ?_; (with_reducible refine (laws_heldIntSS.calls kj36 _ _ t256 1 t257 _ ?side1 ?side2 A54.out).mono ?_); (case side1 => repeat (first | exact (Kd.S_reads' HO_7.out).2.2 | (with_reducible refine Kd.C_alloc ?_ _) | (with_reducible refine Kd.C_drewN ?_ _) | (with_reducible refine Kd.C_drew ?_))); (case side2 => rw [show t256.length = t241.length from (Kd.S_reads' HO_7.out).1.symm]; exact (Kd.S_reads' HO_7.out).2.1); rintro e w' ⟨rfl, ⟨nd, rfl⟩⟩; refine ⟨_, rfl, ?_⟩))
          go_ret
          exact ⟨by first | rfl | (simp [errW_none, errW_some] <;> rfl) | (simp [*, errW_none, errW_some] <;> rfl), by repeat (first | (with_reducible first | exact HB.out | apply below_alloc | apply pw_below_drewN | apply below_drew1 | refine below_set ?_ GE224.out | refine below_set ?_ GE240.out) | exact HB.out)⟩
         ·rw [if_neg c55] at H
          have c55b0 : decide (t257 < 0) = false := decide_eq_false c55
          clear c55
          by_cases c58 : t257 = t255
          ·rw [if_pos c58] at H
           have c58b0 : (t257 == t255) = true := beq_iff_eq.mpr c58
           have c58b1 : (t257 != t255) = false := bne_eq_false_iff_eq.mpr c58
           clear c58
           replace H := Option.bind_eq_some_iff.mp H
           obtain ⟨⟨t258, t259, t260⟩, A590, H⟩ := H
           replace H : ((impl_CrossesOf.f kj36 t258 t259 t260).bind fun bt263 => ((laws_eqIntSS.f kj36 bt263.1 t231).bind fun t267 => (if t267 = true then (laws_FnExactCrossesOf.j2 kj36 t256 t255 (bt263.2 != t234)) else (laws_FnExactCrossesOf.j2 kj36 t256 t255 true)))) = some r := H
           have A59 := Aside0.mk A590
           clear A590
           replace H := Option.bind_eq_some_iff.mp H
           obtain ⟨⟨t263, t266⟩, A600, H⟩ := H
           replace H : ((laws_eqIntSS.f kj36 t263 t231).bind fun t267 => (if t267 = true then (laws_FnExactCrossesOf.j2 kj36 t256 t255 (t266 != t234)) else (laws_FnExactCrossesOf.j2 kj36 t256 t255 true))) = some r := H
           have A60 := Aside0.mk A600
           clear A600
           have HC61 := Aside0.mk H
           clear H
           obtain ⟨Ao62, co62, eo62⟩ := Kd.S_slice HO_7.out
           subst eo62
           go_upto_region 25 with (first | ((with_reducible refine gate_callee (f := 20) rfl ?_); refine goesL_ (some 64) rfl rfl Try.func20 (by kernel_rfl) rfl #[.slice Ao62 t241.length co62, .int .i64 1] rfl itp ?_; (with_reducible refine (laws_markIntSS.calls kj36 ?ps0 (.slice Ao62 t241.length co62) t241 1 t255 t256 w _ ?side1 ?side2 A53.out).mono ?_); (case side1 => repeat (first | (with_reducible first | exact HB.out | apply below_alloc | apply pw_below_drewN | apply below_drew1 | refine below_set ?_ GE224.out | refine below_set ?_ GE240.out) | exact HB.out)); (case side2 => exact Kd.S_bound HO_7.out); rintro e w63 ⟨rfl, hy0, hb, hkp⟩; refine ⟨_, rfl, ?_⟩; have n0_ := Aside0.mk (Kd.S_mono (ok' := fun k_ => some k_ ≠ (.slice Ao62 t241.length co62 : Value).ownBlock ∧ k_ < ngHO243) (Kd.S_keptB ((Kd.S_apartP hkp HO_4.out (fun k_ hk e_ => Nat.not_lt.2 (e_.1.2) (hk.2)))) hkp (fun k_ hk_ hs_ => (hk_.2) hs_)) (fun k_ hk_ => ⟨hk_.1.1.1, hk_.1.1.2⟩)); have n1_ := Aside0.mk (Kd.S_mono hy0 (fun k_ hk_ => hk_.1)); have n2_ := Aside0.mk (Kd.R_mono (ok' := fun k_ => True) (Kd.R_keptB ((Kd.R_apartP hkp rfl HO_241002.out (fun k_ hk ho_ e_ => off_type e_.2.2.2 (Kd.R_typed HO_241002.out k_ hk.symm) (by decide)))) hkp (fun k_ hk_ hs_ => (hk_.2) hs_)) (fun k_ hk_ => trivial)); have n3_ := Aside0.mk (blk_kept (upK BK224) hkp (fun hs_ => (fun e_ => off_type e_.2.2.2 ⟨_, by (with_reducible repeat (first | refine blk_drewN ?_ _ | refine blk_drew ?_ | refine blk_alloc ?_ _)); exact BK224.out⟩ (by decide)) hs_)); have n4_ := Aside0.mk (blk_kept (upK BK240) hkp (fun hs_ => (fun e_ => off_type e_.2.2.2 ⟨_, by (with_reducible repeat (first | refine blk_drewN ?_ _ | refine blk_drew ?_ | refine blk_alloc ?_ _)); exact BK240.out⟩ (by decide)) hs_)); have n5_ := Aside0.mk (hb); clear HO_4; clear HO_7; clear HO_241002; clear BK224; clear BK240; clear HB; have HO_4 := n0_; have HO_7 := n1_; have HO_241002 := n2_; have BK224 := n3_; have BK240 := n4_; have HB := n5_; clear n0_ n1_ n2_ n3_ n4_ n5_; (try clear hb); (try clear hkp); (try clear hy0)) | ((with_reducible refine gate_callee (f := 21) rfl ?_); refine goesL_ (some 67) rfl rfl Try.func21 (by kernel_rfl) rfl #[.slice Ao62 t256.length co62, .int .i64 1] rfl (by (try simp only [List.map_toArray, List.map_cons, List.map_nil]); first | done | (rw [show t256.length = t241.length from (Kd.S_reads' HO_7.out).1.symm] <;> rfl) | rfl | (simp only [List.length_drop, List.length_take]; rfl)) ?_; (with_reducible refine (laws_heldIntSS.calls kj36 _ _ t256 1 t257 _ ?side1 ?side2 A54.out).mono ?_); (case side1 => repeat (first | exact (Kd.S_reads' HO_7.out).2.2 | (with_reducible refine Kd.C_alloc ?_ _) | (with_reducible refine Kd.C_drewN ?_ _) | (with_reducible refine Kd.C_drew ?_))); (case side2 => rw [show t256.length = t241.length from (Kd.S_reads' HO_7.out).1.symm]; exact (Kd.S_reads' HO_7.out).2.1); rintro e w' ⟨rfl, ⟨nd, rfl⟩⟩; refine ⟨_, rfl, ?_⟩; have hnb64 := NB224_240.out; have hnc64 := NB240_224.out; have hcz65_0 : w63.cell? ⟨gb224, 0, none⟩ = some (.int .i64 a0_0) := (blk_cell BK224.out 0).trans rfl; have hcz65_1 : w63.cell? ⟨gb224, 1, none⟩ = some (.int .i64 a0_1) := (blk_cell BK224.out 1).trans rfl; have hcz65_2 : w63.cell? ⟨gb224, 2, none⟩ = some (.slice A0_2 l0_2.length c0_2) := (blk_cell BK224.out 2).trans rfl; have hfz65_0 := blk_frozen BK224.out 0; have hfz65_1 := blk_frozen BK224.out 1; have hfz65_2 := blk_frozen BK224.out 2) | ((with_reducible refine gate_callee (f := 15) rfl ?_); refine goesL_ (some 75) rfl rfl Try.func15 (by kernel_rfl) rfl #[.agg #[.int .i64 a0_0, .int .i64 a0_1, .slice A0_2 l0_2.length c0_2]] rfl itp ?_; (with_reducible refine (laws_toCut.calls kj36 a0_0 a0_1 _ _ l0_2 t258 t259 t260 _ ?side1 ?side2 A59.out).mono ?_); (case side1 => repeat (first | exact (Kd.C_below HR0_2.out (upW HB)) | (with_reducible refine Kd.C_alloc ?_ _) | (with_reducible refine Kd.C_drewN ?_ _) | (with_reducible refine Kd.C_drew ?_))); (case side2 => exact HC0_2.out); rintro e w66 ⟨v261, rfl, ho0, hb⟩; refine ⟨_, rfl, ?_⟩; have n0_ := Aside0.mk (Kd.S_below (by (with_reducible repeat (first | apply Kd.S_alloc | apply Kd.S_drewN | apply Kd.S_drew)); exact HO_4.out) hb); have n1_ := Aside0.mk (Kd.S_below (by (with_reducible repeat (first | apply Kd.S_alloc | apply Kd.S_drewN | apply Kd.S_drew)); exact HO_7.out) hb); have n2_ := Aside0.mk (Kd.R_elder' (upR HO_241002) (Kd.R_base ho0) hb); have n3_ := Aside0.mk (Kd.R_lower (Kd.R_new' ho0 (Kd.R_lt (upR HO_241002))) (below_size (upW HB))); have n4_ := Aside0.mk (blk_below (upK BK224) hb); have n5_ := Aside0.mk (blk_below (upK BK240) hb); have n6_ := Aside0.mk (below_step (upW HB) hb); clear HO_4; clear HO_7; clear HO_241002; clear BK224; clear BK240; clear HB; have HO_4 := n0_; have HO_7 := n1_; have HO_241002 := n2_; have HO262 := n3_; have BK224 := n4_; have BK240 := n5_; have HB := n6_; clear n0_ n1_ n2_ n3_ n4_ n5_ n6_; (try clear hb); (try clear hb2); (try clear hk); (try clear hi); (try clear ho0); obtain ⟨Ao67, co67, eo67⟩ := Kd.R_slice HO262.out; subst eo67) | ((with_reducible refine gate_callee (f := 23) rfl ?_); refine goesL_ (some 76) rfl rfl Try.func23 (by kernel_rfl) rfl #[.agg #[.int .i64 t258, .int .i64 t259, .slice Ao67 t260.length co67]] rfl itp ?_; (with_reducible refine (impl_CrossesOf.calls kj36 t258 t259 _ _ t260 t263 t266 _ ?side1 ?side2 A60.out).mono ?_); (case side1 => repeat (first | exact (Kd.R_reads' HO262.out).2.2 | (with_reducible refine Kd.C_alloc ?_ _) | (with_reducible refine Kd.C_drewN ?_ _) | (with_reducible refine Kd.C_drew ?_))); (case side2 => exact (Kd.R_reads' HO262.out).2.1); rintro e w68 ⟨v264, rfl, ho0, hb⟩; refine ⟨_, rfl, ?_⟩; obtain ⟨ngHO265, hngHO265⟩ := Kd.name_size hb; have n0_ := Aside0.mk (Kd.S_elderN (by (with_reducible repeat (first | apply Kd.S_alloc | apply Kd.S_drewN | apply Kd.S_drew)); exact HO_4.out) (Kd.S_base ho0) hngHO265 hb); have n1_ := Aside0.mk (Kd.S_elderN (by (with_reducible repeat (first | apply Kd.S_alloc | apply Kd.S_drewN | apply Kd.S_drew)); exact HO_7.out) (Kd.S_base ho0) hngHO265 hb); have n2_ := Aside0.mk (Kd.R_below (upR HO_241002) hb); have n3_ := Aside0.mk (Kd.R_below (upR HO262) hb); have n4_ := Aside0.mk (Kd.S_lower (Kd.S_fromN (Kd.S_new' (Kd.S_new' ho0 (Kd.S_lt (by (with_reducible repeat (first | apply Kd.S_alloc | apply Kd.S_drewN | apply Kd.S_drew)); exact HO_4.out))) (Kd.S_lt (by (with_reducible repeat (first | apply Kd.S_alloc | apply Kd.S_drewN | apply Kd.S_drew)); exact HO_7.out))) hngHO265) (below_size (upW HB))); have n5_ := Aside0.mk (blk_below (upK BK224) hb); have n6_ := Aside0.mk (blk_below (upK BK240) hb); have n7_ := Aside0.mk (below_step (upW HB) hb); clear HO_4; clear HO_7; clear HO_241002; clear HO262; clear BK224; clear BK240; clear HB; have HO_4 := n0_; have HO_7 := n1_; have HO_241002 := n2_; have HO262 := n3_; have HO265 := n4_; have BK224 := n5_; have BK240 := n6_; have HB := n7_; clear n0_ n1_ n2_ n3_ n4_ n5_ n6_ n7_; (try clear hb); (try clear hb2); (try clear hk); (try clear hi); (try clear ho0)))
           (try simp only [Act.put, List.setIfInBounds_toArray, List.set_cons_zero, List.set_cons_succ])
           go_cut [87] (fun v87 wc => ∃ (kq : Nat) (x87_60 : Bool), v87 = .bool x87_60 ∧ Aside0 (laws_FnExactCrossesOf.j2 kq t256 t255 x87_60 = some r) ∧ Aside0 (kq ≤ kj36) ∧ Aside0 (Kd.S (Kd.slice 3 (Kd.int .i64)) 41 wc w.heap.size (fun k_ => ngHO243 ≤ k_ ∧ k_ < ngHO265) (.slice Ao62 t241.length co62) t256) ∧ Aside0 (Kd.R k73 73 wc w.heap.size (fun _ => True) (.slice Ao24 t253.length co24) t253) ∧ Aside0 (wc.heap[gb224]? = some (.cells #[.int .i64 a0_0, .int .i64 a0_1, (.slice A0_2 l0_2.length c0_2)] 24 (0, 0))) ∧ Aside0 (wc.heap[gb240]? = some (.cells #[.int .i64 t235, .int .i64 t236, (.slice Ao24 t253.length co24)] 31 (0, 0))) ∧ Aside0 (Below w.heap.size w wc))
           case first =>
            have H := HC61.out
            clear HC61
            replace H := Option.bind_eq_some_iff.mp H
            obtain ⟨t267, A690, H⟩ := H
            replace H : (if t267 = true then (laws_FnExactCrossesOf.j2 kj36 t256 t255 (t266 != t234)) else (laws_FnExactCrossesOf.j2 kj36 t256 t255 true)) = some r := H
            have A69 := Aside0.mk A690
            clear A690
            by_cases c70 : t267 = true
            ·subst c70
             have H1 : (laws_FnExactCrossesOf.j2 kj36 t256 t255 (t266 != t234)) = some r := by rw [if_pos rfl] at H; exact H
             clear H
             have H := H1
             clear H1
             have H' := Aside0.mk H
             clear H
             obtain ⟨Ao71, co71, eo71⟩ := Kd.S_slice HO265.out
             subst eo71
             obtain ⟨Ao72, co72, eo72⟩ := Kd.S_slice HO_4.out
             subst eo72
             go_wp2_with (first | ((with_reducible refine gate_callee (f := 17) rfl ?_); refine goesL_ (some 81) rfl rfl Try.func17 (by kernel_rfl) rfl #[.slice Ao71 t263.length co71, .slice Ao72 t231.length co72] rfl itp ?_; (with_reducible refine (laws_eqIntSS.calls kj36 _ _ t263 _ _ t231 true _ ?side1 ?side2 ?side3 ?side4 A69.out).mono ?_); (case side1 => repeat (first | exact (Kd.S_reads' HO265.out).2.2 | (with_reducible refine Kd.C_alloc ?_ _) | (with_reducible refine Kd.C_drewN ?_ _) | (with_reducible refine Kd.C_drew ?_))); (case side2 => exact (Kd.S_reads' HO265.out).2.1); (case side3 => repeat (first | exact (Kd.S_reads' HO_4.out).2.2 | (with_reducible refine Kd.C_alloc ?_ _) | (with_reducible refine Kd.C_drewN ?_ _) | (with_reducible refine Kd.C_drew ?_))); (case side4 => exact (Kd.S_reads' HO_4.out).2.1); rintro e w' ⟨rfl, ⟨nd, rfl⟩⟩; refine ⟨_, rfl, ?_⟩))
             go_meet
             case rel => exact ⟨_, ((t266 != t234)), (by first | rfl | (simp; done) | (simp [*]; done)), H', ⟨by have := HJ10.out; have := HJ36.out; first | omega | exact Nat.le_refl _⟩, ⟨by (try simp only [hl241002_36]); (with_reducible repeat (first | apply Kd.S_alloc | apply Kd.S_drewN | apply Kd.S_drew)); exact Kd.S_mono HO_7.out (fun _ hk => ⟨hk.1.1.2, hk.2⟩)⟩, ⟨by (try simp only [hl241002_36]); (with_reducible repeat (first | apply Kd.R_alloc | apply Kd.R_drewN | apply Kd.R_drew)); exact Kd.R_mono HO_241002.out (fun _ hk => trivial)⟩, ⟨by (try simp only [hl241002_36]); (with_reducible repeat (first | refine blk_drewN ?_ _ | refine blk_drew ?_ | refine blk_alloc ?_ _)); exact BK224.out⟩, ⟨by (try simp only [hl241002_36]); (with_reducible repeat (first | refine blk_drewN ?_ _ | refine blk_drew ?_ | refine blk_alloc ?_ _)); exact BK240.out⟩, ⟨upW HB⟩⟩
            ·replace c70 := Bool.eq_false_iff.mpr c70
             subst c70
             have H1 : (laws_FnExactCrossesOf.j2 kj36 t256 t255 true) = some r := by rw [if_neg (show ¬ (false = true) by decide)] at H; exact H
             clear H
             have H := H1
             clear H1
             have H' := Aside0.mk H
             clear H
             obtain ⟨Ao73, co73, eo73⟩ := Kd.S_slice HO265.out
             subst eo73
             obtain ⟨Ao74, co74, eo74⟩ := Kd.S_slice HO_4.out
             subst eo74
             go_wp2_with (first | ((with_reducible refine gate_callee (f := 17) rfl ?_); refine goesL_ (some 81) rfl rfl Try.func17 (by kernel_rfl) rfl #[.slice Ao73 t263.length co73, .slice Ao74 t231.length co74] rfl itp ?_; (with_reducible refine (laws_eqIntSS.calls kj36 _ _ t263 _ _ t231 false _ ?side1 ?side2 ?side3 ?side4 A69.out).mono ?_); (case side1 => repeat (first | exact (Kd.S_reads' HO265.out).2.2 | (with_reducible refine Kd.C_alloc ?_ _) | (with_reducible refine Kd.C_drewN ?_ _) | (with_reducible refine Kd.C_drew ?_))); (case side2 => exact (Kd.S_reads' HO265.out).2.1); (case side3 => repeat (first | exact (Kd.S_reads' HO_4.out).2.2 | (with_reducible refine Kd.C_alloc ?_ _) | (with_reducible refine Kd.C_drewN ?_ _) | (with_reducible refine Kd.C_drew ?_))); (case side4 => exact (Kd.S_reads' HO_4.out).2.1); rintro e w' ⟨rfl, ⟨nd, rfl⟩⟩; refine ⟨_, rfl, ?_⟩))
             go_meet
             case rel => exact ⟨_, (true), (by first | rfl | (simp; done) | (simp [*]; done)), H', ⟨by have := HJ10.out; have := HJ36.out; first | omega | exact Nat.le_refl _⟩, ⟨by (try simp only [hl241002_36]); (with_reducible repeat (first | apply Kd.S_alloc | apply Kd.S_drewN | apply Kd.S_drew)); exact Kd.S_mono HO_7.out (fun _ hk => ⟨hk.1.1.2, hk.2⟩)⟩, ⟨by (try simp only [hl241002_36]); (with_reducible repeat (first | apply Kd.R_alloc | apply Kd.R_drewN | apply Kd.R_drew)); exact Kd.R_mono HO_241002.out (fun _ hk => trivial)⟩, ⟨by (try simp only [hl241002_36]); (with_reducible repeat (first | refine blk_drewN ?_ _ | refine blk_drew ?_ | refine blk_alloc ?_ _)); exact BK224.out⟩, ⟨by (try simp only [hl241002_36]); (with_reducible repeat (first | refine blk_drewN ?_ _ | refine blk_drew ?_ | refine blk_alloc ?_ _)); exact BK240.out⟩, ⟨upW HB⟩⟩
           case rest =>
            clear HC61
            try clear c1
            try clear c2
            try clear p2
            try clear c3
            try clear c3b0
            try clear c4
            try clear c5
            try clear c6
            try clear c7
            try clear c13
            try clear c15
            try clear c17
            try clear c18
            try clear c19
            try clear c20
            try clear c21
            try clear c22
            try clear c23
            try clear c27
            try clear c32
            try clear c35
            try clear c42
            try clear c45
            try clear c45b0
            try clear c47
            try clear c52
            try clear c55
            try clear c55b0
            try clear c58
            try clear c58b0
            try clear c58b1
            try clear c64
            try clear c70
            try clear hcz13_0
            try clear hcz13_1
            try clear hcz13_2
            try clear hcz15_0
            try clear hcz15_1
            try clear hcz15_2
            try clear hcz19_0
            try clear hcz19_1
            try clear hcz19_2
            try clear hcz23_0
            try clear hcz23_1
            try clear hcz23_2
            try clear hcz43_0
            try clear hcz43_1
            try clear hcz43_2
            try clear hcz5_0
            try clear hcz5_1
            try clear hcz5_2
            try clear hcz65_0
            try clear hcz65_1
            try clear hcz65_2
            try clear hfz13_0
            try clear hfz13_1
            try clear hfz13_2
            try clear hfz15_0
            try clear hfz15_1
            try clear hfz15_2
            try clear hfz19_0
            try clear hfz19_1
            try clear hfz19_2
            try clear hfz23_0
            try clear hfz23_1
            try clear hfz23_2
            try clear hfz43_0
            try clear hfz43_1
            try clear hfz43_2
            try clear hfz5_0
            try clear hfz5_1
            try clear hfz5_2
            try clear hfz65_0
            try clear hfz65_1
            try clear hfz65_2
            try clear p2
            obtain ⟨kq, x87_60, rfl, HA, HJ60, HO_7, HO_241002, BK224, BK240, HB⟩ := hcut
            have hl7_60 := (Kd.S_reads' HO_7.out).1
            rw [hl7_60] at HO_7
            (try simp only [hl7_60])
            (try simp only [hl7_60] at BK224)
            (try simp only [hl7_60] at BK240)
            (try simp only [hl7_60] at HO_241002)
            cases kq with
            | zero => exact absurd HA.out (by simp [laws_FnExactCrossesOf.j2])
            | succ kj60 =>
             have H := HA.out
             clear HA
             simp only [laws_FnExactCrossesOf.j2] at H
             by_cases c75 : x87_60 = true
             ·subst c75
              have H1 : (some false) = some r := by rw [if_pos rfl] at H; exact H
              clear H
              have H := H1
              clear H1
              obtain rfl := Option.some.inj H
              go_wp2
              go_ret
              exact ⟨by first | rfl | (simp [errW_none, errW_some] <;> rfl) | (simp [*, errW_none, errW_some] <;> rfl), by repeat (first | (with_reducible first | exact HB.out | apply below_alloc | apply pw_below_drewN | apply below_drew1 | refine below_set ?_ GE224.out | refine below_set ?_ GE240.out) | exact HB.out)⟩
             ·replace c75 := Bool.eq_false_iff.mpr c75
              subst c75
              have H1 : ((laws_heldIntSS.f kj60 t256 1).bind fun t268 => (if t268 < 0 then (some false) else (if t268 = t255 then (some true) else (some false)))) = some r := by rw [if_neg (show ¬ (false = true) by decide)] at H; exact H
              clear H
              have H := H1
              clear H1
              replace H := Option.bind_eq_some_iff.mp H
              obtain ⟨t268, A760, H⟩ := H
              replace H : (if t268 < 0 then (some false) else (if t268 = t255 then (some true) else (some false))) = some r := H
              have A76 := Aside0.mk A760
              clear A760
              by_cases c77 : t268 < 0
              ·rw [if_pos c77] at H
               have c77b0 : decide (t268 < 0) = true := decide_eq_true c77
               clear c77
               obtain rfl := Option.some.inj H
               go_wp2_with (first | ((with_reducible refine gate_callee (f := 21) rfl ?_); refine goesL_ (some 90) rfl rfl Try.func21 (by kernel_rfl) rfl #[.slice Ao62 t256.length co62, .int .i64 1] rfl itp ?_; (with_reducible refine (laws_heldIntSS.calls kj60 _ _ t256 1 t268 _ ?side1 ?side2 A76.out).mono ?_); (case side1 => repeat (first | exact (Kd.S_reads' HO_7.out).2.2 | (with_reducible refine Kd.C_alloc ?_ _) | (with_reducible refine Kd.C_drewN ?_ _) | (with_reducible refine Kd.C_drew ?_))); (case side2 => exact (Kd.S_reads' HO_7.out).2.1); rintro e w' ⟨rfl, ⟨nd, rfl⟩⟩; refine ⟨_, rfl, ?_⟩))
               go_ret
               exact ⟨by first | rfl | (simp [errW_none, errW_some] <;> rfl) | (simp [*, errW_none, errW_some] <;> rfl), by repeat (first | (with_reducible first | exact HB.out | apply below_alloc | apply pw_below_drewN | apply below_drew1 | refine below_set ?_ GE224.out | refine below_set ?_ GE240.out) | exact HB.out)⟩
              ·rw [if_neg c77] at H
               have c77b0 : decide (t268 < 0) = false := decide_eq_false c77
               clear c77
               by_cases c78 : t268 = t255
               ·rw [if_pos c78] at H
                have c78b0 : (t268 == t255) = true := beq_iff_eq.mpr c78
                have c78b1 : (t268 != t255) = false := bne_eq_false_iff_eq.mpr c78
                clear c78
                obtain rfl := Option.some.inj H
                go_wp2_with (first | ((with_reducible refine gate_callee (f := 21) rfl ?_); refine goesL_ (some 90) rfl rfl Try.func21 (by kernel_rfl) rfl #[.slice Ao62 t256.length co62, .int .i64 1] rfl itp ?_; (with_reducible refine (laws_heldIntSS.calls kj60 _ _ t256 1 t268 _ ?side1 ?side2 A76.out).mono ?_); (case side1 => repeat (first | exact (Kd.S_reads' HO_7.out).2.2 | (with_reducible refine Kd.C_alloc ?_ _) | (with_reducible refine Kd.C_drewN ?_ _) | (with_reducible refine Kd.C_drew ?_))); (case side2 => exact (Kd.S_reads' HO_7.out).2.1); rintro e w' ⟨rfl, ⟨nd, rfl⟩⟩; refine ⟨_, rfl, ?_⟩))
                go_ret
                exact ⟨by first | rfl | (simp [errW_none, errW_some] <;> rfl) | (simp [*, errW_none, errW_some] <;> rfl), by repeat (first | (with_reducible first | exact HB.out | apply below_alloc | apply pw_below_drewN | apply below_drew1 | refine below_set ?_ GE224.out | refine below_set ?_ GE240.out) | exact HB.out)⟩
               ·rw [if_neg c78] at H
                have c78b0 : (t268 == t255) = false := beq_eq_false_iff_ne.mpr c78
                have c78b1 : (t268 != t255) = true := bne_iff_ne.mpr c78
                obtain rfl := Option.some.inj H
                go_wp2_with (first | ((with_reducible refine gate_callee (f := 21) rfl ?_); refine goesL_ (some 90) rfl rfl Try.func21 (by kernel_rfl) rfl #[.slice Ao62 t256.length co62, .int .i64 1] rfl itp ?_; (with_reducible refine (laws_heldIntSS.calls kj60 _ _ t256 1 t268 _ ?side1 ?side2 A76.out).mono ?_); (case side1 => repeat (first | exact (Kd.S_reads' HO_7.out).2.2 | (with_reducible refine Kd.C_alloc ?_ _) | (with_reducible refine Kd.C_drewN ?_ _) | (with_reducible refine Kd.C_drew ?_))); (case side2 => exact (Kd.S_reads' HO_7.out).2.1); rintro e w' ⟨rfl, ⟨nd, rfl⟩⟩; refine ⟨_, rfl, ?_⟩))
                go_ret
                exact ⟨by first | rfl | (simp [errW_none, errW_some] <;> rfl) | (simp [*, errW_none, errW_some] <;> rfl), by repeat (first | (with_reducible first | exact HB.out | apply below_alloc | apply pw_below_drewN | apply below_drew1 | refine below_set ?_ GE224.out | refine below_set ?_ GE240.out) | exact HB.out)⟩
          ·rw [if_neg c58] at H
           have c58b0 : (t257 == t255) = false := beq_eq_false_iff_ne.mpr c58
           have c58b1 : (t257 != t255) = true := bne_iff_ne.mpr c58
           obtain rfl := Option.some.inj H
           obtain ⟨Ao79, co79, eo79⟩ := Kd.S_slice HO_7.out
           subst eo79
           go_wp2_with (first | ((with_reducible refine gate_callee (f := 20) rfl ?_); refine goesL_ (some 64) rfl rfl Try.func20 (by kernel_rfl) rfl #[.slice Ao79 t241.length co79, .int .i64 1] rfl itp ?_; (with_reducible refine (laws_markIntSS.calls kj36 ?ps0 (.slice Ao79 t241.length co79) t241 1 t255 t256 w _ ?side1 ?side2 A53.out).mono ?_); (case side1 => repeat (first | (with_reducible first | exact HB.out | apply below_alloc | apply pw_below_drewN | apply below_drew1 | refine below_set ?_ GE224.out | refine below_set ?_ GE240.out) | exact HB.out)); (case side2 => exact Kd.S_bound HO_7.out); rintro e w80 ⟨rfl, hy0, hb, hkp⟩; refine ⟨_, rfl, ?_⟩; have n0_ := Aside0.mk (Kd.S_mono (ok' := fun k_ => some k_ ≠ (.slice Ao79 t241.length co79 : Value).ownBlock ∧ k_ < ngHO243) (Kd.S_keptB ((Kd.S_apartP hkp HO_4.out (fun k_ hk e_ => Nat.not_lt.2 (e_.1.2) (hk.2)))) hkp (fun k_ hk_ hs_ => (hk_.2) hs_)) (fun k_ hk_ => ⟨hk_.1.1.1, hk_.1.1.2⟩)); have n1_ := Aside0.mk (Kd.S_mono hy0 (fun k_ hk_ => hk_.1)); have n2_ := Aside0.mk (Kd.R_mono (ok' := fun k_ => True) (Kd.R_keptB ((Kd.R_apartP hkp rfl HO_241002.out (fun k_ hk ho_ e_ => off_type e_.2.2.2 (Kd.R_typed HO_241002.out k_ hk.symm) (by decide)))) hkp (fun k_ hk_ hs_ => (hk_.2) hs_)) (fun k_ hk_ => trivial)); have n3_ := Aside0.mk (blk_kept (upK BK224) hkp (fun hs_ => (fun e_ => off_type e_.2.2.2 ⟨_, by (with_reducible repeat (first | refine blk_drewN ?_ _ | refine blk_drew ?_ | refine blk_alloc ?_ _)); exact BK224.out⟩ (by decide)) hs_)); have n4_ := Aside0.mk (blk_kept (upK BK240) hkp (fun hs_ => (fun e_ => off_type e_.2.2.2 ⟨_, by (with_reducible repeat (first | refine blk_drewN ?_ _ | refine blk_drew ?_ | refine blk_alloc ?_ _)); exact BK240.out⟩ (by decide)) hs_)); have n5_ := Aside0.mk (hb); clear HO_4; clear HO_7; clear HO_241002; clear BK224; clear BK240; clear HB; have HO_4 := n0_; have HO_7 := n1_; have HO_241002 := n2_; have BK224 := n3_; have BK240 := n4_; have HB := n5_; clear n0_ n1_ n2_ n3_ n4_ n5_; (try clear hb); (try clear hkp); (try clear hy0)) | ((with_reducible refine gate_callee (f := 21) rfl ?_); refine goesL_ (some 67) rfl rfl Try.func21 (by kernel_rfl) rfl #[.slice Ao79 t256.length co79, .int .i64 1] rfl (by (try simp only [List.map_toArray, List.map_cons, List.map_nil]); first | done | (rw [show t256.length = t241.length from (Kd.S_reads' HO_7.out).1.symm] <;> rfl) | rfl | (simp only [List.length_drop, List.length_take]; rfl)) ?_; (with_reducible refine (laws_heldIntSS.calls kj36 _ _ t256 1 t257 _ ?side1 ?side2 A54.out).mono ?_); (case side1 => repeat (first | exact (Kd.S_reads' HO_7.out).2.2 | (with_reducible refine Kd.C_alloc ?_ _) | (with_reducible refine Kd.C_drewN ?_ _) | (with_reducible refine Kd.C_drew ?_))); (case side2 => rw [show t256.length = t241.length from (Kd.S_reads' HO_7.out).1.symm]; exact (Kd.S_reads' HO_7.out).2.1); rintro e w' ⟨rfl, ⟨nd, rfl⟩⟩; refine ⟨_, rfl, ?_⟩))
           go_ret
           exact ⟨by first | rfl | (simp [errW_none, errW_some] <;> rfl) | (simp [*, errW_none, errW_some] <;> rfl), by repeat (first | (with_reducible first | exact HB.out | apply below_alloc | apply pw_below_drewN | apply below_drew1 | refine below_set ?_ GE224.out | refine below_set ?_ GE240.out) | exact HB.out)⟩
     ·replace c35 := Bool.eq_false_iff.mpr c35
      subst c35
      have H1 : (some false) = some r := by rw [if_neg (show ¬ (false = true) by decide)] at H; exact H
      clear H
      have H := H1
      clear H1
      obtain rfl := Option.some.inj H
      try go_wp2
      have n0_ := Aside0.mk (Kd.S_drew HO_4.out)
      have n1_ := Aside0.mk (Kd.S_drew HO_7.out)
      have n2_ := Aside0.mk (Kd.R_drew HO_241002.out)
      have n3_ := Aside0.mk (blk_drew BK224.out)
      have n4_ := Aside0.mk (blk_drew BK240.out)
      have n5_ := Aside0.mk (below_drew1 HB.out)
      clear HO_4
      clear HO_7
      clear HO_241002
      clear BK224
      clear BK240
      clear HB
      have HO_4 := n0_
      have HO_7 := n1_
      have HO_241002 := n2_
      have BK224 := n3_
      have BK240 := n4_
      have HB := n5_
      clear n0_ n1_ n2_ n3_ n4_ n5_
      refine start_ (n := 5) (S := fun w' => w'.cell? ⟨gb240, 0, none⟩ = some (.int .i64 t235) ∧ w'.cell? ⟨gb240, 1, none⟩ = some (.int .i64 t236) ∧ w'.cell? ⟨gb240, 2, none⟩ = some (.slice Ao24 t237.length co24) ∧ w'.cell? ⟨gb224, 0, none⟩ = some (.int .i64 a0_0) ∧ w'.cell? ⟨gb224, 1, none⟩ = some (.int .i64 a0_1) ∧ w'.cell? ⟨gb224, 2, none⟩ = some (.slice A0_2 l0_2.length c0_2)) (ds := []) #[false, false, false, false, false] (by kernel_rfl) rfl rfl ⟨(blk_cell BK240.out 0).trans rfl, (blk_cell BK240.out 1).trans rfl, (blk_cell BK240.out 2).trans rfl, (blk_cell BK224.out 0).trans rfl, (blk_cell BK224.out 1).trans rfl, (blk_cell BK224.out 2).trans rfl⟩ (fun hHeld => ?_)
      generalize wc.drew = w81 at HO_4 HO_7 HO_241002 BK224 BK240 HB hHeld ⊢
      refine take_ (i := 0) (N := some 41) (v := ?_) (a' := ?_) #[true, false, false, false, false] rfl rfl (by kernel_rfl) (fun _ _ _ h => h) (Or.inl ⟨by rfl, ?_⟩) hHeld ?_ ?_
      rotate_left
      ·rintro w' ⟨s0, s1, s2, s3, s4, s5⟩
       go_simp
       with_reducible rfl
      rotate_left
      ·simp only [Act.put, List.setIfInBounds_toArray, List.set_cons_zero, List.set_cons_succ, i64_w, i32_w]
       rfl
      refine take_ (i := 1) (N := some 42) (v := ?_) (a' := ?_) #[true, true, false, false, false] rfl rfl (by kernel_rfl) (fun _ _ _ h => h) (Or.inl ⟨by rfl, ?_⟩) hHeld ?_ ?_
      rotate_left
      ·rintro w' ⟨s0, s1, s2, s3, s4, s5⟩
       go_simp
       with_reducible rfl
      rotate_left
      ·simp only [Act.put, List.setIfInBounds_toArray, List.set_cons_zero, List.set_cons_succ, i64_w, i32_w]
       rfl
      refine one_ (i := 2) (N := some 43) #[true, true, true, false, false] rfl rfl (by kernel_rfl) (by decide) (fun K hK => ?_)
      refine goes_ Try.func15 (by kernel_rfl) rfl #[.agg #[.int .i64 a0_0, .int .i64 a0_1, .slice A0_2 l0_2.length c0_2]] (by rfl) rfl rfl itp ?_
      with_reducible refine (laws_toCut.calls kj10 a0_0 a0_1 _ _ l0_2 t246 t247 t248 _ ?side1 ?side2 A33.out).mono ?_
      (case side1 => repeat (first | exact (Kd.C_below HR0_2.out HB.out) | (with_reducible refine Kd.C_alloc ?_ _) | (with_reducible refine Kd.C_drewN ?_ _) | (with_reducible refine Kd.C_drew ?_)))
      (case side2 => exact HC0_2.out)
      rintro e w82 ⟨v249, rfl, ho0, hb⟩
      refine ⟨_, rfl, ?_⟩
      have n0_ := Aside0.mk (Kd.S_below (by (with_reducible repeat (first | apply Kd.S_alloc | apply Kd.S_drewN | apply Kd.S_drew)); exact HO_4.out) hb)
      have n1_ := Aside0.mk (Kd.S_below (by (with_reducible repeat (first | apply Kd.S_alloc | apply Kd.S_drewN | apply Kd.S_drew)); exact HO_7.out) hb)
      have n2_ := Aside0.mk (Kd.R_elder' (upR HO_241002) (Kd.R_base ho0) hb)
      have n3_ := Aside0.mk (Kd.R_lower (Kd.R_new' ho0 (Kd.R_lt (upR HO_241002))) (below_size (upW HB)))
      have n4_ := Aside0.mk (blk_below (upK BK224) hb)
      have n5_ := Aside0.mk (blk_below (upK BK240) hb)
      have n6_ := Aside0.mk (below_step (upW HB) hb)
      clear HO_4
      clear HO_7
      clear HO_241002
      clear BK224
      clear BK240
      clear HB
      have HO_4 := n0_
      have HO_7 := n1_
      have HO_241002 := n2_
      have HO250 := n3_
      have BK224 := n4_
      have BK240 := n5_
      have HB := n6_
      clear n0_ n1_ n2_ n3_ n4_ n5_ n6_
      (try clear hb)
      (try clear hb2)
      (try clear hk)
      (try clear hi)
      (try clear ho0)
      obtain ⟨Ao83, co83, eo83⟩ := Kd.R_slice HO250.out
      (first | subst eo83 | (injection eo83 with f1_ f2_ f3_; have f4_ := f1_.symm; have f5_ := f3_.symm; clear f1_ f2_ f3_; subst f4_; subst f5_))
      refine hK.out _ _ ⟨(blk_cell BK240.out 0).trans rfl, (blk_cell BK240.out 1).trans rfl, (blk_cell BK240.out 2).trans rfl, (blk_cell BK224.out 0).trans rfl, (blk_cell BK224.out 1).trans rfl, (blk_cell BK224.out 2).trans rfl⟩ (fun hHeld => ?_)
      clear hK K
      refine norm_ (a' := ?_) ?_ ?_
      rotate_left
      ·show Act.put _ (some 43) _ = _
       simp only [Act.put, List.setIfInBounds_toArray, List.set_cons_zero, List.set_cons_succ, i64_w, i32_w]
       rfl
      refine one_ (i := 3) (N := some 44) #[true, true, true, true, false] rfl rfl (by kernel_rfl) (by decide) (fun K hK => ?_)
      refine goes_ Try.func18 (by kernel_rfl) rfl #[.agg #[.int .i64 t235, .int .i64 t236, .slice Ao24 t237.length co24], .agg #[.int .i64 t246, .int .i64 t247, .slice Ao83 t248.length co83]] (by rfl) rfl rfl itp ?_
      with_reducible refine (laws_eqCut.calls kj10 t235 t236 _ _ t237 t246 t247 _ _ t248 false _ ?side1 ?side2 ?side3 ?side4 A34.out).mono ?_
      (case side1 => repeat (first | exact (Kd.R_reads' HO_241002.out).2.2 | (with_reducible refine Kd.C_alloc ?_ _) | (with_reducible refine Kd.C_drewN ?_ _) | (with_reducible refine Kd.C_drew ?_)))
      (case side2 => exact (Kd.R_reads' HO_241002.out).2.1)
      (case side3 => repeat (first | exact (Kd.R_reads' HO250.out).2.2 | (with_reducible refine Kd.C_alloc ?_ _) | (with_reducible refine Kd.C_drewN ?_ _) | (with_reducible refine Kd.C_drew ?_)))
      (case side4 => exact (Kd.R_reads' HO250.out).2.1)
      rintro e w84 ⟨rfl, hb⟩
      refine ⟨_, rfl, ?_⟩
      have n0_ := Aside0.mk (Kd.S_below (by (with_reducible repeat (first | apply Kd.S_alloc | apply Kd.S_drewN | apply Kd.S_drew)); exact HO_4.out) hb)
      have n1_ := Aside0.mk (Kd.S_below (by (with_reducible repeat (first | apply Kd.S_alloc | apply Kd.S_drewN | apply Kd.S_drew)); exact HO_7.out) hb)
      have n2_ := Aside0.mk (Kd.R_below (upR HO_241002) hb)
      have n3_ := Aside0.mk (Kd.R_below (upR HO250) hb)
      have n4_ := Aside0.mk (blk_below (upK BK224) hb)
      have n5_ := Aside0.mk (blk_below (upK BK240) hb)
      have n6_ := Aside0.mk (below_step (upW HB) hb)
      clear HO_4
      clear HO_7
      clear HO_241002
      clear HO250
      clear BK224
      clear BK240
      clear HB
      have HO_4 := n0_
      have HO_7 := n1_
      have HO_241002 := n2_
      have HO250 := n3_
      have BK224 := n4_
      have BK240 := n5_
      have HB := n6_
      clear n0_ n1_ n2_ n3_ n4_ n5_ n6_
      (try clear hb)
      (try clear hb2)
      (try clear hk)
      (try clear hi)
      refine hK.out _ _ ⟨(blk_cell BK240.out 0).trans rfl, (blk_cell BK240.out 1).trans rfl, (blk_cell BK240.out 2).trans rfl, (blk_cell BK224.out 0).trans rfl, (blk_cell BK224.out 1).trans rfl, (blk_cell BK224.out 2).trans rfl⟩ (fun hHeld => ?_)
      clear hK K
      refine norm_ (a' := ?_) ?_ ?_
      rotate_left
      ·show Act.put _ (some 44) _ = _
       simp only [Act.put, List.setIfInBounds_toArray, List.set_cons_zero, List.set_cons_succ, i64_w, i32_w]
       rfl
      refine pure_ (i := 4) (N := some 45) (v := ?_) (a' := ?_) #[true, true, true, true, true] rfl rfl (by kernel_rfl) (fun _ _ _ h => h) (Or.inl ⟨by rfl, ?_⟩) ?_ ?_
      rotate_left
      ·intro w'
       go_simp
       with_reducible rfl
      rotate_left
      ·simp only [Act.put, List.setIfInBounds_toArray, List.set_cons_zero, List.set_cons_succ, i64_w, i32_w]
       rfl
      refine done_ (by kernel_rfl) ?_
      try go_wp2
      go_ret
      exact ⟨by first | rfl | (simp [errW_none, errW_some] <;> rfl) | (simp [*, errW_none, errW_some] <;> rfl), by repeat (first | (with_reducible first | exact HB.out | apply below_alloc | apply pw_below_drewN | apply below_drew1 | refine below_set ?_ GE224.out | refine below_set ?_ GE240.out) | exact HB.out)⟩

/-- THE ONE PURE STATEMENT of laws_FnExactCrossesOf. -/
def laws_FnExactCrossesOf.Pure : Prop := ∀ (a0_0 : Int) (a0_1 : Int) (l0_2 : List (S97)), (Lit.int .i64 a0_0).wf = true → (Lit.int .i64 a0_1).wf = true → l0_2.length ≤ maxLen → (∀ q ∈ l0_2, ((Lit.int .i64 q.f0).wf = true) ∧ ((Lit.int .i64 q.f1).wf = true) ∧ ((Lit.int .i64 q.f2).wf = true)) → ∃ k, laws_FnExactCrossesOf.f k a0_0 a0_1 l0_2 = some true
theorem laws_FnExactCrossesOf.walk (P : laws_FnExactCrossesOf.Pure) (a0_0 : Int) (a0_1 : Int) (A0_2 : Option Addr) (c0_2 : Nat) (l0_2 : List (S97)) (w : World) (hr0_2 : Kd.C k97 w A0_2 l0_2.length l0_2) (hc0_2 : l0_2.length ≤ c0_2) (w0_ : (Lit.int .i64 a0_0).wf = true) (w1_ : (Lit.int .i64 a0_1).wf = true) (w2_ : l0_2.length ≤ maxLen) (w3_ : (∀ q ∈ l0_2, ((Lit.int .i64 q.f0).wf = true) ∧ ((Lit.int .i64 q.f1).wf = true) ∧ ((Lit.int .i64 q.f2).wf = true))) :
  Calls Try.prog 4 #[.agg #[.int .i64 a0_0, .int .i64 a0_1, .slice A0_2 l0_2.length c0_2]] w fun e w' => e = .returned (.bool true) ∧ Below w.heap.size w w' := by
 obtain ⟨k, h⟩ := P a0_0 a0_1 l0_2 w0_ w1_ w2_ w3_
 refine (laws_FnExactCrossesOf.calls k a0_0 a0_1 _ _ l0_2 true w hr0_2 hc0_2 h).mono ?_
 rintro e w' ⟨rfl, hd⟩
 exact ⟨rfl, hd⟩

end Go.Proofs.Ythnjbpabiamkjaa.PFnExactCrossesOf
