-- made for this claim by a program of this session
import Derived.Test.YtlifiingpggocaaPFnExactRatioOfNetx0
namespace Go.Proofs.Ytlifiingpggocaa.PFnExactRatioOfNet
open Go.RowKit Go.Proofs.YtlifiingpggocaaW.PrintWords Go.Proofs.YtlifiingpggocaaW.PrintLast Go.Proofs.YtlifiingpggocaaW.PrintMore
attribute [local go_sem] max2_int min2_int max_two min_two max_three min_three max_four min_four   -- for this text's walks alone
set_option linter.unusedVariables false
set_option linter.unusedSimpArgs false

/-! ### a square table, laid open by its blocks: what eliminates in it, and its determinant by exact divisions -/
theorem dwrap {n : Int} (h0 : -9223372036854775808 ≤ n) (h1 : n ≤ 9223372036854775807) : wrap64 n = n := by unfold wrap64; omega
def dAt (M : List (List Int)) (i j : Nat) : Int := (M.getD i []).getD j 0
def dPut (M : List (List Int)) (i j : Nat) (x : Int) : List (List Int) := M.set i ((M.getD i []).set j x)
def dSwap (M : List (List Int)) (i k : Nat) : List (List Int) := (M.set i (M.getD k [])).set k (M.getD i [])
def dFind (M : List (List Int)) (k : Nat) : Nat → Nat → Nat
 | 0, i => i
 | m + 1, i => if dAt M i k = 0 then dFind M k m (i + 1) else i
def dCell (M : List (List Int)) (k : Nat) (b : Int) (i j : Nat) : Int := wrap64 (Int.tdiv (wrap64 (wrap64 (dAt M i j * dAt M k k) - wrap64 (dAt M i k * dAt M k j))) b)
def dCol (k : Nat) (b : Int) (i : Nat) : Nat → Nat → List (List Int) → List (List Int)
 | 0, _, M => M
 | m + 1, j, M => dCol k b i m (j + 1) (dPut M i j (dCell M k b i j))
def dRow (n k : Nat) (b : Int) : Nat → Nat → List (List Int) → List (List Int)
 | 0, _, M => M
 | m + 1, i, M => dRow n k b m (i + 1) (dCol k b i (n - (k + 1)) (k + 1) M)
def dRun (n : Nat) : Nat → Nat → List (List Int) → Int → Int → Int
 | 0, _, _, b, s => wrap64 (s * b)
 | m + 1, k, M, b, s =>
  if dFind M k (n - k) k = n then 0 else
   dRun n m (k + 1) (dRow n k b (n - (k + 1)) (k + 1) (if dFind M k (n - k) k = k then M else dSwap M (dFind M k (n - k) k) k))
    (dAt (dRow n k b (n - (k + 1)) (k + 1) (if dFind M k (n - k) k = k then M else dSwap M (dFind M k (n - k) k) k)) k k)
    (if dFind M k (n - k) k = k then s else wrap64 (-s))
def detF (M : List (List Int)) : Option Int := if M ≠ [] ∧ ∀ r ∈ M, r.length = M.length then some (dRun M.length M.length 0 M 1 1) else none
/-- A table of n rows of n numbers: its rows' slices at block g, each row in a block of its own. -/
def DTab (w : World) (P : Nat → Prop) (g n : Nat) (rs cs : Nat → Nat) (M : List (List Int)) : Prop :=
 (M.length = n ∧ ∀ i, i < n → (M.getD i []).length = n) ∧
 (P g ∧ ∃ cur : Array Value, w.heap[g]? = some (.cells cur 42 (0, 0)) ∧ ∀ i, i < n → cur[i]? = some (.slice (some ⟨rs i, 0, none⟩) n (cs i))) ∧
 (∀ i, i < n → P (rs i) ∧ n ≤ cs i ∧ ∃ cur : Array Value, w.heap[rs i]? = some (.cells cur 3 (0, 0)) ∧ ∀ j, j < n → cur[j]? = some (.int .i64 (dAt M i j))) ∧
 (∀ i j, i < n → j < n → rs i = rs j → i = j)
theorem DTab.outer {w : World} {P : Nat → Prop} {g n : Nat} {rs cs : Nat → Nat} {M : List (List Int)} (h : DTab w P g n rs cs M) {i : Nat} (hi : i < n) : w.cell? ⟨g, i, none⟩ = some (.slice (some ⟨rs i, 0, none⟩) n (cs i)) ∧ w.frozen? ⟨g, i, none⟩ = false := by
 obtain ⟨_, ⟨_, cur, hc, hv⟩, _⟩ := h;exact ⟨(blk_cell hc i).trans (hv i hi), blk_frozen hc i⟩
theorem DTab.cell {w : World} {P : Nat → Prop} {g n : Nat} {rs cs : Nat → Nat} {M : List (List Int)} (h : DTab w P g n rs cs M) {i j : Nat} (hi : i < n) (hj : j < n) : w.cell? ⟨rs i, j, none⟩ = some (.int .i64 (dAt M i j)) ∧ w.frozen? ⟨rs i, j, none⟩ = false := by
 obtain ⟨_, _, h, _⟩ := h;obtain ⟨_, _, cur, hc, hv⟩ := h i hi;exact ⟨(blk_cell hc j).trans (hv j hj), blk_frozen hc j⟩
theorem dPut_length (M : List (List Int)) (i j : Nat) (x : Int) : (dPut M i j x).length = M.length := by simp [dPut]
theorem dPut_row (M : List (List Int)) (i j : Nat) (x : Int) (q : Nat) : ((dPut M i j x).getD q []).length = (M.getD q []).length := by
 unfold dPut;simp only [List.getD_eq_getElem?_getD, List.getElem?_set];(by_cases hq : i = q)
 ·subst hq;(by_cases hl : i < M.length)
  ·simp [hl]
  ·simp [hl]
 ·simp [hq]
theorem dAt_dPut {M : List (List Int)} {i j : Nat} (hi : i < M.length) (hj : j < (M.getD i []).length) (x : Int) (p q : Nat) : dAt (dPut M i j x) p q = if p = i ∧ q = j then x else dAt M p q := by
 unfold dAt dPut;simp only [List.getD_eq_getElem?_getD, List.getElem?_set] at hj ⊢;(by_cases hp : i = p)
 ·subst hp;rw [List.getElem?_eq_getElem hi] at hj ⊢;(by_cases hq : j = q)
  ·subst hq;simp only [Option.getD_some] at hj;simp [hi, hj]
  ·(have hq' : q ≠ j := fun e => hq e.symm);simp [hi, hq, hq']
 ·(have hp' : p ≠ i := fun e => hp e.symm);simp [hp, hp']
theorem DTab.put {w : World} {P : Nat → Prop} {g n : Nat} {rs cs : Nat → Nat} {M : List (List Int)} (h : DTab w P g n rs cs M) {i j : Nat} (hi : i < n) (hj : j < n) (x : Int) : DTab (w.setCell ⟨rs i, j, none⟩ (.int .i64 x)) P g n rs cs (dPut M i j x) := by
 obtain ⟨⟨hl, hr⟩, ⟨hP, cur, hc, hv⟩, hrow, hinj⟩ := h;(have hAt := fun p q => dAt_dPut (M := M) (i := i) (j := j) (by omega) (by rw [hr i hi]; exact hj) x p q);refine ⟨⟨by rw [dPut_length]; exact hl, fun q hq => by rw [dPut_row]; exact hr q hq⟩, ⟨hP, cur, ?_, hv⟩, fun q hq => ?_, hinj⟩
 ·obtain ⟨_, _, cur2, hc2, _⟩ := hrow i hi;refine blk_far hc (fun e => ?_) _;have e2 : g = rs i := e;rw [← e2, hc] at hc2;(injection hc2 with hc2);(injection hc2 with _ hc2);(revert hc2);(decide)
 ·obtain ⟨hP2, hcap, cur2, hc2, hv2⟩ := hrow q hq;refine ⟨hP2, hcap, ?_⟩;(by_cases hqi : q = i)
  ·subst hqi;refine ⟨_, blk_set hc2 j _, fun p hp => ?_⟩
   have hs : j < cur2.size := by
    have := hv2 j hj;exact (Array.getElem?_eq_some_iff.1 this).1
   rw [hAt];(by_cases hpj : p = j)
   ·subst hpj;simp [hs]
   ·rw [Array.getElem?_setIfInBounds_ne (by omega), if_neg (fun e => hpj e.2)];exact hv2 p hp
  ·refine ⟨cur2, blk_far hc2 (fun e => hqi (hinj q i hq hi e)) _, fun p hp => ?_⟩;rw [hAt, if_neg (fun e => hqi e.1)];exact hv2 p hp
theorem dSwap_getD {M : List (List Int)} {i k : Nat} (hi : i < M.length) (hk : k < M.length) (q : Nat) : (dSwap M i k).getD q [] = M.getD (if q = k then i else if q = i then k else q) [] := by
 unfold dSwap;simp only [List.getD_eq_getElem?_getD, List.getElem?_set, List.length_set];(by_cases h1 : k = q)
 ·(subst h1; simp [hk])
 ·(have h1' : q ≠ k := fun e => h1 e.symm);(by_cases h2 : i = q)
  ·(subst h2; simp [h1, h1', hi])
  ·(have h2' : q ≠ i := fun e => h2 e.symm);simp [h1, h2, h1', h2']
theorem DTab.swap {w : World} {P : Nat → Prop} {g n : Nat} {rs cs : Nat → Nat} {M : List (List Int)} (h : DTab w P g n rs cs M) {i k : Nat} (hi : i < n) (hk : k < n) :
  ∃ rs' cs', DTab ((w.setCell ⟨g, i, none⟩ (.slice (some ⟨rs k, 0, none⟩) n (cs k))).setCell ⟨g, k, none⟩ (.slice (some ⟨rs i, 0, none⟩) n (cs i))) P g n rs' cs' (dSwap M i k) := by
 obtain ⟨⟨hl, hr⟩, ⟨hP, cur, hc, hv⟩, hrow, hinj⟩ := h;(have hG := fun q => dSwap_getD (M := M) (i := i) (k := k) (by omega) (by omega) q)
 have hlt : ∀ q, q < n → (if q = k then i else if q = i then k else q) < n := by
  intro q hq;(split)
  ·exact hi
  ·(split)
   ·exact hk
   ·exact hq
 refine ⟨fun q => rs (if q = k then i else if q = i then k else q), fun q => cs (if q = k then i else if q = i then k else q), ⟨by simp [dSwap, hl], fun q hq => by rw [hG]; exact hr _ (hlt q hq)⟩, ⟨hP, _, blk_set (blk_set hc i _) k _, fun q hq => ?_⟩, fun q hq => ?_, fun p q hp hq he => ?_⟩
 ·(have hs : ∀ p, p < n → p < cur.size := fun p hp => (Array.getElem?_eq_some_iff.1 (hv p hp)).1);(by_cases h1 : q = k)
  ·subst h1;simp [hs q hq]
  ·rw [Array.getElem?_setIfInBounds_ne (by omega)];(by_cases h2 : q = i)
   ·subst h2;simp [hs q hq, h1]
   ·rw [Array.getElem?_setIfInBounds_ne (by omega)];simp only [if_neg h1, if_neg h2];exact hv q hq
 ·obtain ⟨hP2, hcap, cur2, hc2, hv2⟩ := hrow _ (hlt q hq);refine ⟨hP2, hcap, cur2, ?_, fun p hp => ?_⟩
  ·have hne : rs (if q = k then i else if q = i then k else q) ≠ g := by
    intro e;rw [e, hc] at hc2;(injection hc2 with hc2);(injection hc2 with _ hc2);(revert hc2);(decide)
   exact blk_far (blk_far hc2 hne _) hne _
  ·rw [show dAt (dSwap M i k) q p = dAt M (if q = k then i else if q = i then k else q) p by unfold dAt; rw [hG]];exact hv2 p hp
 ·have := hinj _ _ (hlt p hp) (hlt q hq) he;(revert this);(split <;> split <;> (try split) <;> (try split) <;> omega)
theorem DTab.step {w w1 : World} {P : Nat → Prop} {g n : Nat} {rs cs : Nat → Nat} {M : List (List Int)} (h : DTab w P g n rs cs M) (hh : w1.heap = w.heap) : DTab w1 P g n rs cs M := by
 unfold DTab at h ⊢;rw [hh];exact h
/-- Of a table that is told as rows of the call's own, apart. -/
theorem DTab.of_S {w : World} {base : Nat} {P : Nat → Prop} {v : Value} {M : List (List Int)} (h : Kd.S (Kd.slice 3 (Kd.int .i64)) 42 w base P v M) (hne : M ≠ []) (hsq : ∀ r ∈ M, r.length = M.length) :
  ∃ g c rs cs, v = .slice (some ⟨g, 0, none⟩) M.length c ∧ DTab w P g M.length rs cs M := by
 obtain ⟨f, h0, inner, ho, hr⟩ := h;have hpos : 0 < M.length := List.length_pos_iff.2 hne;rw [List.length_zipIdx] at ho;have hsz : (Kd.tag f (Kd.slice 3 (Kd.int .i64))).sz = 1 := rfl;rw [hsz] at ho hr;(rcases ho.2 with ⟨_, h1⟩ | ⟨g, cap, cur, rfl, hb, hh, hnc, hcm, hcs, ht⟩)
 ·omega
 have hrow : ∀ i, i < M.length → ∃ rg rc, inner[i]? = some (.slice (some ⟨rg, 0, none⟩) M.length rc) ∧ f rg = i ∧ P rg ∧ M.length ≤ rc ∧ ∃ cur : Array Value, w.heap[rg]? = some (.cells cur 3 (0, 0)) ∧ ∀ j, j < M.length → cur[j]? = some (.int .i64 (dAt M i j)) := by
  intro i hi;(have hz : M.zipIdx[i]? = some (M[i], i) := by simp [hi]);have hm := hr.2 i _ hz;obtain ⟨u, hu, hR⟩ : ∃ u, (inner.drop (i * 1)).take 1 = [u] ∧ (Kd.int .i64).R 3 w base (fun k => (P k ∧ some k ≠ (Value.slice (some ⟨g, 0, none⟩) M.length cap).ownBlock) ∧ f k = i) u M[i] := hm;have hlen : M[i].length = M.length := hsq _ (List.getElem_mem hi);obtain ⟨rg, rc, rfl, _, _, _⟩ := Kd.R_form hR (by omega)
  have hin : inner[i]? = some (.slice (some ⟨rg, 0, none⟩) M[i].length rc) := by
   have := congrArg (fun l => l[0]?) hu;(simpa [List.getElem?_take, List.getElem?_drop] using this)
  have hok := hR.1 rg rfl;have hown := Kd.own_of_R hR;refine ⟨rg, rc, by rw [hin, hlen], hok.2, hok.1.1, by have := (Kd.R_reads' hR).2.1; omega, ?_⟩;(rcases hown.2 with ⟨h2, _⟩ | ⟨g2, cap2, cur2, h2, _, h4, h5, _, _, h7⟩)
  ·cases h2
  (injection h2 with h2 _ _);(injection h2 with h2);(injection h2 with h2);subst h2;refine ⟨cur2, h4, fun j hj => ?_⟩
  have h8 : cur2.toList[j]? = (encs (Value.int .i64) M[i])[j]? := by
   rw [← h7, List.getElem?_take, if_pos (by omega)]
  rw [Array.getElem?_toList] at h8;rw [h8, encs_get (d := (0 : Int)) _ _ (by omega)];simp [dAt, List.getD_eq_getElem?_getD, List.getElem?_eq_getElem hi]
 classical
 refine ⟨g, cap, fun i => if h : i < M.length then (hrow i h).choose else 0, fun i => if h : i < M.length then (hrow i h).choose_spec.choose else 0, rfl, ⟨rfl, fun i hi => ?_⟩, ⟨h0 g rfl, cur, hh, fun i hi => ?_⟩, fun i hi => ?_, fun i j hi hj he => ?_⟩
 ·rw [List.getD_eq_getElem?_getD, List.getElem?_eq_getElem hi];exact hsq _ (List.getElem_mem hi)
 ·have hs := (hrow i hi).choose_spec.choose_spec.1;simp only [dif_pos hi];rw [← hs, ← Array.getElem?_toList, ← ht, List.getElem?_take, if_pos (by omega)]
 ·have hs := (hrow i hi).choose_spec.choose_spec.2.2;simp only [dif_pos hi];exact ⟨hs.1, hs.2.1, hs.2.2⟩
 ·have h1 := (hrow i hi).choose_spec.choose_spec.2.1;have h2 := (hrow j hj).choose_spec.choose_spec.2.1;simp only [dif_pos hi, dif_pos hj] at he;rw [← h1, ← h2, he]

/-! ### spec_neDet: function 112 -/
def spec_neDet.f (l : List (List Int)) : Option Int := detF l
def spec_neDet.T22 : Bool × List (List Nat × List Nat) := (true, [([], []), ([], []), ([0, 1], [0, 1]), ([2], [2]), ([], []), ([], []), ([], []), ([5, 6], [5, 6]), ([7], [7]), ([], []), ([8, 9], [8, 9]), ([10], [10]), ([], []), ([], []), ([12, 13], [12, 13]), ([14], [14]), ([], []), ([15, 16], [15, 16]), ([17], [17]), ([11, 18], [11, 18]), ([], []), ([], []), ([20, 21], [20, 21]), ([22], [22]), ([], []), ([23, 24], [23, 24]), ([25], [25]), ([], []), ([], []), ([27, 28], [27, 28]), ([29], [29]), ([], []), ([30, 31], [30, 31]), ([32], [32]), ([26, 33], [26, 33]), ([19, 34], [19, 34]), ([], []), ([35, 36], [35, 36]), ([3, 4, 0, 1, 2, 3, 4, 5, 6, 7, 8, 9, 10, 11, 12, 13, 14, 15, 16, 17, 18, 19, 20, 21, 22, 23, 24, 25, 26, 27, 28, 29, 30, 31, 32, 33, 34, 35, 36, 37], [3, 4]), ([38, 37, 0, 1, 2, 3, 4, 5, 6, 7, 8, 9, 10, 11, 12, 13, 14, 15, 16, 17, 18, 19, 20, 21, 22, 23, 24, 25, 26, 27, 28, 29, 30, 31, 32, 33, 34, 35, 36, 37], [37, 38])])
def spec_neDet.B22 : List Nat := [0, 0, 3, 7, 0, 0, 0, 96, 224, 0, 992, 2016, 0, 0, 12288, 28672, 0, 126976, 258048, 524256, 0, 0, 3145728, 7340032, 0, 32505856, 66060288, 0, 0, 402653184, 939524096, 0, 4160749568, 8455716864, 17178820608, 34359738336, 0, 137438953440, 274877906943, 549755813887]
theorem spec_neDet.tab22 : rtab .any (opsOf Try.f112 22) = spec_neDet.T22 := by kernel_rfl
theorem spec_neDet.bits22 : waitsOk spec_neDet.T22.2 spec_neDet.B22 = true := by kernel_rfl
set_option maxHeartbeats 8000000 in
set_option maxRecDepth 100000 in
theorem spec_neDet.calls (P0_ : Nat → Prop) (u9000_ : Value) (l0 : List (List Int)) (r : Int) (w0 w : World) (hB : Below w0.heap.size w0 w) (ho0 : Kd.S (Kd.slice 3 (Kd.int .i64)) 42 w w0.heap.size P0_ u9000_ l0) (h : spec_neDet.f l0 = some r) :
  Calls Try.prog 112 #[u9000_] w fun e w' => e = .returned (.int .i64 r) ∧ Below w0.heap.size w0 w' ∧ Kept w w' (fun k_ => P0_ k_) := by
 unfold spec_neDet.f detF at h;(split at h);(case isFalse => cases h);(rename_i hg);obtain ⟨hne, hsq⟩ := hg;have hr : dRun l0.length l0.length 0 l0 1 1 = r := Option.some.inj h;clear h
 have hmax : l0.length ≤ 9223372036854775807 := by
  obtain ⟨inner, ho⟩ := Kd.R_own (Kd.S_R ho0);(rcases ho.2 with ⟨_, h1⟩ | ⟨_, _, _, _, _, _, h3, h4, _, _⟩)
  ·omega
  ·(have h5 : maxLen ≤ 9223372036854775807 := by decide);omega
 obtain ⟨g, c, rs, cs, rfl, hT⟩ := DTab.of_S (Kd.S_mono (ok' := fun k_ => P0_ k_ ∧ w0.heap.size ≤ k_) (Kd.S_bound ho0) (fun k hk => ⟨hk.1, hk.2.1⟩)) hne hsq;clear hne hsq ho0;generalize l0.length = n at hr hmax hT ⊢;have H := Aside0.mk hr;have HT := Aside0.mk hT;have HN := Aside0.mk hmax;have HK := Aside0.mk (Kept.refl w (fun k_ => P0_ k_));have HB := Aside0.mk hB;clear hr hT hmax hB;go_enter Try.func112, Try.ntmps112;go_wp2;(go_loopg [4, 5, 6] n (fun kq v4 v5 v6 w' => ∃ (M : List (List Int)) (rs cs : Nat → Nat) (k : Nat) (b s x : Int), v5 = .int .i64 b ∧ v4 = .int .i64 s ∧ v6 = .int .i64 x ∧ Aside0 (dRun n kq k M b s = r) ∧ Aside0 (x = (k : Int)) ∧ Aside0 (kq + k = n) ∧ Aside0 (b ≠ 0) ∧ Aside0 (DTab w' (fun k_ => P0_ k_ ∧ w0.heap.size ≤ k_) g n rs cs M) ∧ Aside0 (Kept w w' (fun k_ => P0_ k_)) ∧ Aside0 (Below w0.heap.size w0 w')));(case atStart => exact ⟨l0, rs, cs, 0, 1, 1, 0, rfl, rfl, rfl, H, ⟨rfl⟩, ⟨rfl⟩, ⟨by decide⟩, ⟨HT.out.step rfl⟩, ⟨by repeat (first | (with_reducible first | exact HK.out | apply Kept.alloc | apply Kept.drewN | apply Kept.drew) | exact HK.out)⟩, ⟨upW HB⟩⟩)
 case round =>
  clear H HT HK HB;obtain ⟨M, rs, cs, k, b, s, x, rfl, rfl, rfl, H, HX, HQ, HZ, HT, HK, HB⟩ := hrel
  cases gk with
  | zero =>
   have c3b0 : decide (x < (n : Int)) = false := decide_eq_false (by have := HX.out; have := HQ.out; omega);have hr := H.out;simp only [dRun] at hr;go_wp2;go_ret;exact ⟨by rw [← hr]; first | rfl | (simp [i64_w]; done), HB.out, HK.out⟩
  | succ m =>
   have c3b0 : decide (x < (n : Int)) = true := decide_eq_true (by have := HX.out; have := HQ.out; omega);go_wp2;(go_loopg [7] (n - k) (fun kq v7 w' => ∃ (i : Nat) (y : Int), v7 = .int .i64 y ∧ Aside0 (dFind M k kq i = dFind M k (n - k) k) ∧ Aside0 (y = (i : Int)) ∧ Aside0 (kq + i = n ∧ k ≤ i) ∧ Aside0 (DTab w' (fun k_ => P0_ k_ ∧ w0.heap.size ≤ k_) g n rs cs M) ∧ Aside0 (Kept w w' (fun k_ => P0_ k_)) ∧ Aside0 (Below w0.heap.size w0 w')));(case atStart => exact ⟨k, x, rfl, ⟨rfl⟩, HX, ⟨by have := HQ.out; omega⟩, ⟨HT.out.step rfl⟩, ⟨by repeat (first | (with_reducible first | exact HK.out | apply Kept.alloc | apply Kept.drewN | apply Kept.drew) | exact HK.out)⟩, ⟨upW HB⟩⟩)
   case round =>
    clear HT HK HB;obtain ⟨i, y, rfl, HF, HY, HI, HT, HK, HB⟩ := hrel;(have hkn : k < n := by have := HQ.out; omega)
    cases gk with
    | zero =>
     have d0 : decide (y < (n : Int)) = false := decide_eq_false (by have := HY.out; have := HI.out; omega);have d1 : (y == (n : Int)) = true := beq_iff_eq.mpr (by have := HY.out; have := HI.out; omega);(have hf : dFind M k (n - k) k = n := by rw [← HF.out]; have := HI.out; simp only [dFind]; omega);have hr := H.out;simp only [dRun, hf, if_true] at hr;subst hr;go_wp2;go_ret;exact ⟨rfl, HB.out, HK.out⟩
    | succ q =>
     (have hin : i < n := by have := HI.out; omega);have d0 : decide (y < (n : Int)) = true := decide_eq_true (by have := HY.out; omega);have p1 : (0 ≤ y) = True := eq_true (by have := HY.out; omega);have q1 : (y < (n : Int)) = True := eq_true (by have := HY.out; omega);have p2 : (0 ≤ x) = True := eq_true (by have := HX.out; omega);have q2 : (x < (n : Int)) = True := eq_true (by have := HX.out; omega);(have yt : y.toNat = i := by have := HY.out; omega);(have xt : x.toNat = k := by have := HX.out; omega);(have ho1 : wr.cell? ⟨g, y.toNat, none⟩ = some (.slice (some ⟨rs i, 0, none⟩) n (cs i)) := by rw [yt]; exact (HT.out.outer hin).1);(have hc1 : wr.cell? ⟨rs i, x.toNat, none⟩ = some (.int .i64 (dAt M i k)) := by rw [xt]; exact (HT.out.cell hin hkn).1);clear yt xt;have hin := Aside0.mk hin;have hkn := Aside0.mk hkn;(by_cases hz : dAt M i k = 0)
     ·have d2 : (dAt M i k == 0) = true := beq_iff_eq.mpr hz
      have hw := Aside0.mk (show wrap64 (y + 1) = ((i + 1 : Nat) : Int) by
       (have e1 := HY.out; have e2 := HN.out; have e3 := hin.out)
       rw [dwrap (n := y + 1) (by omega) (by omega)]; omega)
      replace hz := Aside0.mk hz;go_wp2;go_roundg q;(case measure => exact Nat.lt_succ_self q);(case rel => exact ⟨i + 1, wrap64 (y + 1), (by first | rfl | (simp; done) | (simp [*]; done)), ⟨by have hF := HF.out; simp only [dFind, hz.out, if_true] at hF; exact hF⟩, hw, ⟨by have := HI.out; omega⟩, ⟨HT.out.step rfl⟩, ⟨by repeat (first | (with_reducible first | exact HK.out | apply Kept.alloc | apply Kept.drewN | apply Kept.drew) | exact HK.out)⟩, ⟨upW HB⟩⟩)
     ·have d2 : (dAt M i k == 0) = false := beq_eq_false_iff_ne.mpr hz;have d3 : (y == (n : Int)) = false := beq_eq_false_iff_ne.mpr (by have := HY.out; omega);(have hf : dFind M k (n - k) k = i := by have hF := HF.out; simp only [dFind, if_neg hz] at hF; exact hF.symm);have hr := H.out;simp only [dRun, hf, if_neg (show ¬ i = n by omega)] at hr;have HR := Aside0.mk hr;clear hr H HF;replace hf := Aside0.mk hf;replace hz := Aside0.mk hz;have HT0 := HT;(go_upto_if 39 with (fail));(try simp only [Act.put, List.setIfInBounds_toArray, List.set_cons_zero, List.set_cons_succ]);(go_cut [4] (fun v4 wc => ∃ (M1 : List (List Int)) (rs cs : Nat → Nat) (s1 : Int), v4 = .int .i64 s1 ∧ Aside0 (M1 = (if i = k then M else dSwap M i k) ∧ s1 = if i = k then s else wrap64 (-s)) ∧ Aside0 (DTab wc (fun k_ => P0_ k_ ∧ w0.heap.size ≤ k_) g n rs cs M1) ∧ Aside0 (Kept w wc (fun k_ => P0_ k_)) ∧ Aside0 (Below w0.heap.size w0 wc)))
      case first =>
       clear HT0;(by_cases hik : i = k)
       ·(have d4 : (y != x) = false := by rw [bne_eq_false_iff_eq]; have := HY.out; have := HX.out; omega);rw [d4];go_wp2;(go_meet);(case rel => exact ⟨M, rs, cs, s, rfl, ⟨by rw [if_pos hik, if_pos hik]; exact ⟨rfl, rfl⟩⟩, ⟨HT.out.step rfl⟩, ⟨by repeat (first | (with_reducible first | exact HK.out | apply Kept.alloc | apply Kept.drewN | apply Kept.drew) | exact HK.out)⟩, ⟨upW HB⟩⟩)
       ·(have d4 : (y != x) = true := by rw [bne_iff_ne]; have := HY.out; have := HX.out; omega);(have ho2 : wr.cell? ⟨g, x.toNat, none⟩ = some (.slice (some ⟨rs k, 0, none⟩) n (cs k)) := by rw [show x.toNat = k by have := HX.out; omega]; exact (HT.out.outer hkn.out).1);(have hf1 : wr.frozen? ⟨g, y.toNat, none⟩ = false := by rw [show y.toNat = i by have := HY.out; omega]; exact (HT.out.outer hin.out).2);(have hf2 : wr.frozen? ⟨g, x.toNat, none⟩ = false := by rw [show x.toNat = k by have := HX.out; omega]; exact (HT.out.outer hkn.out).2)
        have hf2' : ∀ v, (wr.setCell ⟨g, y.toNat, none⟩ v).frozen? ⟨g, x.toNat, none⟩ = false := fun v => by
         rw [show x.toNat = k by have := HX.out; omega];obtain ⟨_, ⟨_, cur, hc, _⟩, _⟩ := HT.out;exact blk_frozen (blk_set hc _ v) k
        have hc2' : ∀ v, (wr.setCell ⟨g, y.toNat, none⟩ v).cell? ⟨g, x.toNat, none⟩ = some (.slice (some ⟨rs k, 0, none⟩) n (cs k)) := fun v => by
         (have hne : k ≠ y.toNat := by have := HY.out; omega);rw [show x.toNat = k by have := HX.out; omega];obtain ⟨_, ⟨_, cur, hc, hv⟩, _⟩ := HT.out;rw [blk_cell (blk_set hc _ v) k, Array.getElem?_setIfInBounds_ne (by omega)];exact hv k hkn.out
        have hsw : ∃ rs' cs', DTab ((wr.setCell ⟨g, y.toNat, none⟩ (.slice (some ⟨rs k, 0, none⟩) n (cs k))).setCell ⟨g, x.toNat, none⟩ (.slice (some ⟨rs i, 0, none⟩) n (cs i))) (fun k_ => P0_ k_ ∧ w0.heap.size ≤ k_) g n rs' cs' (dSwap M i k) := by
         rw [show y.toNat = i by have := HY.out; omega, show x.toNat = k by have := HX.out; omega];exact DTab.swap HT.out hin.out hkn.out
        replace hsw := Aside0.mk hsw;replace hik := Aside0.mk hik;rw [d4];(try go_wp2);obtain ⟨rs', cs', hsw⟩ := hsw.out;have hg := HT.out.2.1.1;(go_meet);(case rel => exact ⟨dSwap M i k, rs', cs', wrap64 (-s), (by first | rfl | (simp [i64_w]; done)), ⟨by rw [if_neg hik.out, if_neg hik.out]; exact ⟨rfl, rfl⟩⟩, ⟨hsw.step rfl⟩, ⟨Kept.setCell (Kept.setCell HK.out (.inl hg.1) _) (.inl hg.1) _⟩, ⟨below_set (below_set HB.out hg.2) hg.2⟩⟩)
      case rest =>
       obtain ⟨M1, rs, cs, s1, rfl, HM, HT, HK, HB⟩ := hcut
       have hdk : dAt M1 k k ≠ 0 := by
        rw [HM.out.1];(split)
        ·(rename_i h; rw [← h] at hz ⊢; exact hz.out)
        ·have hl := HT0.out.1.1;unfold dAt;rw [dSwap_getD (by omega) (by omega), if_pos rfl];exact hz.out
       have HD := Aside0.mk hdk;clear hdk hz HT0;rw [← HM.out.1, ← HM.out.2] at HR;clear HM
       have hx1 := Aside0.mk (show wrap64 (x + 1) = ((k + 1 : Nat) : Int) by
        (have e1 := HX.out; have e2 := HN.out; have e3 := hkn.out)
        rw [dwrap (n := x + 1) (by omega) (by omega)]; omega)
       go_wp2;(go_loopg [9] (n - (k + 1)) (fun kq v9 w' => ∃ (M2 : List (List Int)) (i : Nat) (y : Int), v9 = .int .i64 y ∧ Aside0 (dRow n k b kq i M2 = dRow n k b (n - (k + 1)) (k + 1) M1) ∧ Aside0 (dAt M2 k k ≠ 0) ∧ Aside0 (y = (i : Int)) ∧ Aside0 (kq + i = n ∧ k + 1 ≤ i) ∧ Aside0 (DTab w' (fun k_ => P0_ k_ ∧ w0.heap.size ≤ k_) g n rs cs M2) ∧ Aside0 (Kept w w' (fun k_ => P0_ k_)) ∧ Aside0 (Below w0.heap.size w0 w')));(case atStart => exact ⟨M1, k + 1, wrap64 (x + 1), (by first | rfl | (simp [i64_w]; done)), ⟨rfl⟩, HD, hx1, ⟨by have := hkn.out; omega⟩, ⟨HT.out.step rfl⟩, ⟨by repeat (first | (with_reducible first | exact HK.out | apply Kept.alloc | apply Kept.drewN | apply Kept.drew) | exact HK.out)⟩, ⟨upW HB⟩⟩)
       case round =>
        clear HT HK HB HD;obtain ⟨M2, i, y, rfl, HF, HD, HY, HI, HT, HK, HB⟩ := hrel
        cases gk with
        | zero =>
         have e0 : decide (y < (n : Int)) = false := decide_eq_false (by have := HY.out; have := HI.out; omega);have hF := HF.out;simp only [dRow] at hF;have p2 : (0 ≤ x) = True := eq_true (by have := HX.out; omega);have q2 : (x < (n : Int)) = True := eq_true (by have := HX.out; have := hkn.out; omega);(have ho1 : wr.cell? ⟨g, x.toNat, none⟩ = some (.slice (some ⟨rs k, 0, none⟩) n (cs k)) := by rw [show x.toNat = k by have := HX.out; omega]; exact (HT.out.outer hkn.out).1);(have hc1 : wr.cell? ⟨rs k, x.toNat, none⟩ = some (.int .i64 (dAt M2 k k)) := by rw [show x.toNat = k by have := HX.out; omega]; exact (HT.out.cell hkn.out hkn.out).1);have HR2 := HR.out;rw [← hF] at HR2;replace hF := Aside0.mk hF;replace HR2 := Aside0.mk HR2;go_wp2;go_roundg m;(case measure => exact Nat.lt_succ_self m);(case rel => exact ⟨M2, rs, cs, k + 1, dAt M2 k k, s1, wrap64 (x + 1), rfl, rfl, (by first | rfl | (simp [i64_w]; done)), HR2, hx1, ⟨by have := HQ.out; omega⟩, HD, ⟨HT.out.step rfl⟩, ⟨by repeat (first | (with_reducible first | exact HK.out | apply Kept.alloc | apply Kept.drewN | apply Kept.drew) | exact HK.out)⟩, ⟨upW HB⟩⟩)
        | succ q =>
         have hin := Aside0.mk (show i < n by have := HI.out; omega);have e0 : decide (y < (n : Int)) = true := decide_eq_true (by have := HY.out; have := hin.out; omega);go_wp2;(go_loopg [10] (n - (k + 1)) (fun kq v10 w' => ∃ (M3 : List (List Int)) (j : Nat) (z : Int), v10 = .int .i64 z ∧ Aside0 (dCol k b i kq j M3 = dCol k b i (n - (k + 1)) (k + 1) M2) ∧ Aside0 (dAt M3 k k ≠ 0) ∧ Aside0 (z = (j : Int)) ∧ Aside0 (kq + j = n ∧ k + 1 ≤ j) ∧ Aside0 (DTab w' (fun k_ => P0_ k_ ∧ w0.heap.size ≤ k_) g n rs cs M3) ∧ Aside0 (Kept w w' (fun k_ => P0_ k_)) ∧ Aside0 (Below w0.heap.size w0 w')));(case atStart => exact ⟨M2, k + 1, wrap64 (x + 1), (by first | rfl | (simp [i64_w]; done)), ⟨rfl⟩, HD, hx1, ⟨by have := hkn.out; omega⟩, ⟨HT.out.step rfl⟩, ⟨by repeat (first | (with_reducible first | exact HK.out | apply Kept.alloc | apply Kept.drewN | apply Kept.drew) | exact HK.out)⟩, ⟨upW HB⟩⟩)
         case round =>
          clear HT HK HB HD;obtain ⟨M3, j, z, rfl, HG, HD, HZ2, HJ, HT, HK, HB⟩ := hrel
          cases gk with
          | zero =>
           have e1 : decide (z < (n : Int)) = false := decide_eq_false (by have := HZ2.out; have := HJ.out; omega);have hG := HG.out;simp only [dCol] at hG;have hF := HF.out;simp only [dRow] at hF;rw [← hG] at hF;replace hF := Aside0.mk hF;clear hG HG HF
           have hy1 := Aside0.mk (show wrap64 (y + 1) = ((i + 1 : Nat) : Int) by
            (have e1 := HY.out; have e2 := HN.out; have e3 := hin.out)
            rw [dwrap (n := y + 1) (by omega) (by omega)]; omega)
           go_wp2;go_roundg q;(case measure => exact Nat.lt_succ_self q);(case rel => exact ⟨M3, i + 1, wrap64 (y + 1), (by first | rfl | (simp [i64_w]; done)), hF, HD, hy1, ⟨by have := HI.out; omega⟩, ⟨HT.out.step rfl⟩, ⟨by repeat (first | (with_reducible first | exact HK.out | apply Kept.alloc | apply Kept.drewN | apply Kept.drew) | exact HK.out)⟩, ⟨upW HB⟩⟩)
          | succ p =>
           have hjn := Aside0.mk (show j < n by have := HJ.out; omega);have e1 : decide (z < (n : Int)) = true := decide_eq_true (by have := HZ2.out; have := hjn.out; omega)
           have hz1 := Aside0.mk (show wrap64 (z + 1) = ((j + 1 : Nat) : Int) by
            (have e1 := HZ2.out; have e2 := HN.out; have e3 := hjn.out)
            rw [dwrap (n := z + 1) (by omega) (by omega)]; omega)
           have p1 : (0 ≤ x) = True := eq_true (by have := HX.out; omega);have q1 : (x < (n : Int)) = True := eq_true (by have := HX.out; have := hkn.out; omega);have p2 : (0 ≤ y) = True := eq_true (by have := HY.out; omega);have q2 : (y < (n : Int)) = True := eq_true (by have := HY.out; have := hin.out; omega);have p3 : (0 ≤ z) = True := eq_true (by have := HZ2.out; omega);have q3 : (z < (n : Int)) = True := eq_true (by have := HZ2.out; have := hjn.out; omega);have xt := Aside0.mk (show x.toNat = k by have := HX.out; omega);have yt := Aside0.mk (show y.toNat = i by have := HY.out; omega);have zt := Aside0.mk (show z.toNat = j by have := HZ2.out; omega);(have oi : wr.cell? ⟨g, y.toNat, none⟩ = some (.slice (some ⟨rs i, 0, none⟩) n (cs i)) := by rw [yt.out]; exact (HT.out.outer hin.out).1);(have ok : wr.cell? ⟨g, x.toNat, none⟩ = some (.slice (some ⟨rs k, 0, none⟩) n (cs k)) := by rw [xt.out]; exact (HT.out.outer hkn.out).1);(have cij : wr.cell? ⟨rs i, z.toNat, none⟩ = some (.int .i64 (dAt M3 i j)) := by rw [zt.out]; exact (HT.out.cell hin.out hjn.out).1);(have ckk : wr.cell? ⟨rs k, x.toNat, none⟩ = some (.int .i64 (dAt M3 k k)) := by rw [xt.out]; exact (HT.out.cell hkn.out hkn.out).1);(have cik : wr.cell? ⟨rs i, x.toNat, none⟩ = some (.int .i64 (dAt M3 i k)) := by rw [xt.out]; exact (HT.out.cell hin.out hkn.out).1);(have ckj : wr.cell? ⟨rs k, z.toNat, none⟩ = some (.int .i64 (dAt M3 k j)) := by rw [zt.out]; exact (HT.out.cell hkn.out hjn.out).1);(have fij : wr.frozen? ⟨rs i, z.toNat, none⟩ = false := by rw [zt.out]; exact (HT.out.cell hin.out hjn.out).2);have hb0 : (b == 0) = false := beq_eq_false_iff_ne.mpr HZ.out;have hb1 : decide (b = 0) = false := decide_eq_false HZ.out;have hb2 : ¬ b = 0 := HZ.out;have HP := Aside0.mk (show DTab (wr.setCell ⟨rs i, z.toNat, none⟩ (.int .i64 (dCell M3 k b i j))) (fun k_ => P0_ k_ ∧ w0.heap.size ≤ k_) g n rs cs (dPut M3 i j (dCell M3 k b i j)) by rw [zt.out]; exact HT.out.put hin.out hjn.out _);have HPr := Aside0.mk (HT.out.2.2.1 i hin.out).1
           have HE := Aside0.mk (show dAt (dPut M3 i j (dCell M3 k b i j)) k k ≠ 0 by
            have hl := HT.out.1;rw [dAt_dPut (by have := hin.out; omega) (by rw [hl.2 i hin.out]; exact hjn.out), if_neg (by have := HI.out; omega)]
            exact HD.out)
           have hG := HG.out;simp only [dCol] at hG;replace hG := Aside0.mk hG;clear HG;(go_upto_region 22 with (fail));(refine start_ (n := 40) (S := fun w' => w'.cell? ⟨g, y.toNat, none⟩ = some (.slice (some ⟨rs i, 0, none⟩) n (cs i)) ∧ w'.cell? ⟨g, x.toNat, none⟩ = some (.slice (some ⟨rs k, 0, none⟩) n (cs k)) ∧ w'.cell? ⟨rs i, z.toNat, none⟩ = some (.int .i64 (dAt M3 i j)) ∧ w'.cell? ⟨rs k, x.toNat, none⟩ = some (.int .i64 (dAt M3 k k)) ∧ w'.cell? ⟨rs i, x.toNat, none⟩ = some (.int .i64 (dAt M3 i k)) ∧ w'.cell? ⟨rs k, z.toNat, none⟩ = some (.int .i64 (dAt M3 k j))) (ds := [39]) #[false, false, false, false, false, false, false, false, false, false, false, false, false, false, false, false, false, false, false, false, false, false, false, false, false, false, false, false, false, false, false, false, false, false, false, false, false, false, false, false] (by kernel_rfl) rfl rfl ⟨oi, ok, cij, ckk, cik, ckj⟩ (fun hHeld => ?_); refine with_tabW spec_neDet.tab22 spec_neDet.bits22 (fun HT_ HW_ => ?_));refine pure_ (i := 0) (N := (some 71)) (v := ?_) (a' := ?_) #[true, false, false, false, false, false, false, false, false, false, false, false, false, false, false, false, false, false, false, false, false, false, false, false, false, false, false, false, false, false, false, false, false, false, false, false, false, false, false, false] rfl rfl (any_of HT_.out (by kernel_rfl)) (fun _ _ _ h => h) (Or.inl ⟨by rfl, ?_⟩) ?_ ?_;rotate_left
           ·intro w';(go_simp);with_reducible rfl
           rotate_left
           ·simp only [Act.put, List.setIfInBounds_toArray, List.set_cons_zero, List.set_cons_succ, i64_w, i32_w];rfl
           refine pure_ (i := 1) (N := (some 72)) (v := ?_) (a' := ?_) #[true, true, false, false, false, false, false, false, false, false, false, false, false, false, false, false, false, false, false, false, false, false, false, false, false, false, false, false, false, false, false, false, false, false, false, false, false, false, false, false] rfl rfl (any_of HT_.out (by kernel_rfl)) (fun _ _ _ h => h) (Or.inl ⟨by rfl, ?_⟩) ?_ ?_;rotate_left
           ·intro w';(go_simp);with_reducible rfl
           rotate_left
           ·simp only [Act.put, List.setIfInBounds_toArray, List.set_cons_zero, List.set_cons_succ, i64_w, i32_w];rfl
           refine pure_ (i := 2) (N := (some 73)) (v := ?_) (a' := ?_) #[true, true, true, false, false, false, false, false, false, false, false, false, false, false, false, false, false, false, false, false, false, false, false, false, false, false, false, false, false, false, false, false, false, false, false, false, false, false, false, false] rfl rfl (any_of HT_.out (by kernel_rfl)) (fun _ _ _ h => h) (Or.inl ⟨by rfl, ?_⟩) ?_ ?_;rotate_left
           ·intro w';(go_simp);with_reducible rfl
           rotate_left
           ·simp only [Act.put, List.setIfInBounds_toArray, List.set_cons_zero, List.set_cons_succ, i64_w, i32_w];rfl
           refine pure_ (i := 4) (N := (some 75)) (v := ?_) (a' := ?_) #[true, true, true, false, true, false, false, false, false, false, false, false, false, false, false, false, false, false, false, false, false, false, false, false, false, false, false, false, false, false, false, false, false, false, false, false, false, false, false, false] rfl rfl (any_of HT_.out (by kernel_rfl)) (fun _ _ _ h => h) (Or.inl ⟨by rfl, ?_⟩) ?_ ?_;rotate_left
           ·intro w';(go_simp);with_reducible rfl
           rotate_left
           ·simp only [Act.put, List.setIfInBounds_toArray, List.set_cons_zero, List.set_cons_succ, i64_w, i32_w];rfl
           refine pure_ (i := 5) (N := (some 76)) (v := ?_) (a' := ?_) #[true, true, true, false, true, true, false, false, false, false, false, false, false, false, false, false, false, false, false, false, false, false, false, false, false, false, false, false, false, false, false, false, false, false, false, false, false, false, false, false] rfl rfl (any_of HT_.out (by kernel_rfl)) (fun _ _ _ h => h) (Or.inl ⟨by rfl, ?_⟩) ?_ ?_;rotate_left
           ·intro w';(go_simp);with_reducible rfl
           rotate_left
           ·simp only [Act.put, List.setIfInBounds_toArray, List.set_cons_zero, List.set_cons_succ, i64_w, i32_w];rfl
           refine pure_ (i := 6) (N := (some 77)) (v := ?_) (a' := ?_) #[true, true, true, false, true, true, true, false, false, false, false, false, false, false, false, false, false, false, false, false, false, false, false, false, false, false, false, false, false, false, false, false, false, false, false, false, false, false, false, false] rfl rfl (any_of HT_.out (by kernel_rfl)) (fun _ _ _ h => h) (Or.inl ⟨by rfl, ?_⟩) ?_ ?_;rotate_left
           ·intro w';(go_simp);with_reducible rfl
           rotate_left
           ·simp only [Act.put, List.setIfInBounds_toArray, List.set_cons_zero, List.set_cons_succ, i64_w, i32_w];rfl
           refine pure_ (i := 7) (N := (some 78)) (v := ?_) (a' := ?_) #[true, true, true, false, true, true, true, true, false, false, false, false, false, false, false, false, false, false, false, false, false, false, false, false, false, false, false, false, false, false, false, false, false, false, false, false, false, false, false, false] rfl rfl (any_of HT_.out (by kernel_rfl)) (fun _ _ _ h => h) (Or.inl ⟨by rfl, ?_⟩) ?_ ?_;rotate_left
           ·intro w';(go_simp);with_reducible rfl
           rotate_left
           ·simp only [Act.put, List.setIfInBounds_toArray, List.set_cons_zero, List.set_cons_succ, i64_w, i32_w];rfl
           refine pure_ (i := 9) (N := (some 80)) (v := ?_) (a' := ?_) #[true, true, true, false, true, true, true, true, false, true, false, false, false, false, false, false, false, false, false, false, false, false, false, false, false, false, false, false, false, false, false, false, false, false, false, false, false, false, false, false] rfl rfl (any_of HT_.out (by kernel_rfl)) (fun _ _ _ h => h) (Or.inl ⟨by rfl, ?_⟩) ?_ ?_;rotate_left
           ·intro w';(go_simp);with_reducible rfl
           rotate_left
           ·simp only [Act.put, List.setIfInBounds_toArray, List.set_cons_zero, List.set_cons_succ, i64_w, i32_w];rfl
           refine pure_ (i := 12) (N := (some 83)) (v := ?_) (a' := ?_) #[true, true, true, false, true, true, true, true, false, true, false, false, true, false, false, false, false, false, false, false, false, false, false, false, false, false, false, false, false, false, false, false, false, false, false, false, false, false, false, false] rfl rfl (any_of HT_.out (by kernel_rfl)) (fun _ _ _ h => h) (Or.inl ⟨by rfl, ?_⟩) ?_ ?_;rotate_left
           ·intro w';(go_simp);with_reducible rfl
           rotate_left
           ·simp only [Act.put, List.setIfInBounds_toArray, List.set_cons_zero, List.set_cons_succ, i64_w, i32_w];rfl
           refine pure_ (i := 13) (N := (some 84)) (v := ?_) (a' := ?_) #[true, true, true, false, true, true, true, true, false, true, false, false, true, true, false, false, false, false, false, false, false, false, false, false, false, false, false, false, false, false, false, false, false, false, false, false, false, false, false, false] rfl rfl (any_of HT_.out (by kernel_rfl)) (fun _ _ _ h => h) (Or.inl ⟨by rfl, ?_⟩) ?_ ?_;rotate_left
           ·intro w';(go_simp);with_reducible rfl
           rotate_left
           ·simp only [Act.put, List.setIfInBounds_toArray, List.set_cons_zero, List.set_cons_succ, i64_w, i32_w];rfl
           refine pure_ (i := 14) (N := (some 85)) (v := ?_) (a' := ?_) #[true, true, true, false, true, true, true, true, false, true, false, false, true, true, true, false, false, false, false, false, false, false, false, false, false, false, false, false, false, false, false, false, false, false, false, false, false, false, false, false] rfl rfl (any_of HT_.out (by kernel_rfl)) (fun _ _ _ h => h) (Or.inl ⟨by rfl, ?_⟩) ?_ ?_;rotate_left
           ·intro w';(go_simp);with_reducible rfl
           rotate_left
           ·simp only [Act.put, List.setIfInBounds_toArray, List.set_cons_zero, List.set_cons_succ, i64_w, i32_w];rfl
           refine pure_ (i := 16) (N := (some 87)) (v := ?_) (a' := ?_) #[true, true, true, false, true, true, true, true, false, true, false, false, true, true, true, false, true, false, false, false, false, false, false, false, false, false, false, false, false, false, false, false, false, false, false, false, false, false, false, false] rfl rfl (any_of HT_.out (by kernel_rfl)) (fun _ _ _ h => h) (Or.inl ⟨by rfl, ?_⟩) ?_ ?_;rotate_left
           ·intro w';(go_simp);with_reducible rfl
           rotate_left
           ·simp only [Act.put, List.setIfInBounds_toArray, List.set_cons_zero, List.set_cons_succ, i64_w, i32_w];rfl
           refine pure_ (i := 20) (N := (some 91)) (v := ?_) (a' := ?_) #[true, true, true, false, true, true, true, true, false, true, false, false, true, true, true, false, true, false, false, false, true, false, false, false, false, false, false, false, false, false, false, false, false, false, false, false, false, false, false, false] rfl rfl (any_of HT_.out (by kernel_rfl)) (fun _ _ _ h => h) (Or.inl ⟨by rfl, ?_⟩) ?_ ?_;rotate_left
           ·intro w';(go_simp);with_reducible rfl
           rotate_left
           ·simp only [Act.put, List.setIfInBounds_toArray, List.set_cons_zero, List.set_cons_succ, i64_w, i32_w];rfl
           refine pure_ (i := 21) (N := (some 92)) (v := ?_) (a' := ?_) #[true, true, true, false, true, true, true, true, false, true, false, false, true, true, true, false, true, false, false, false, true, true, false, false, false, false, false, false, false, false, false, false, false, false, false, false, false, false, false, false] rfl rfl (any_of HT_.out (by kernel_rfl)) (fun _ _ _ h => h) (Or.inl ⟨by rfl, ?_⟩) ?_ ?_;rotate_left
           ·intro w';(go_simp);with_reducible rfl
           rotate_left
           ·simp only [Act.put, List.setIfInBounds_toArray, List.set_cons_zero, List.set_cons_succ, i64_w, i32_w];rfl
           refine pure_ (i := 22) (N := (some 93)) (v := ?_) (a' := ?_) #[true, true, true, false, true, true, true, true, false, true, false, false, true, true, true, false, true, false, false, false, true, true, true, false, false, false, false, false, false, false, false, false, false, false, false, false, false, false, false, false] rfl rfl (any_of HT_.out (by kernel_rfl)) (fun _ _ _ h => h) (Or.inl ⟨by rfl, ?_⟩) ?_ ?_;rotate_left
           ·intro w';(go_simp);with_reducible rfl
           rotate_left
           ·simp only [Act.put, List.setIfInBounds_toArray, List.set_cons_zero, List.set_cons_succ, i64_w, i32_w];rfl
           refine pure_ (i := 24) (N := (some 95)) (v := ?_) (a' := ?_) #[true, true, true, false, true, true, true, true, false, true, false, false, true, true, true, false, true, false, false, false, true, true, true, false, true, false, false, false, false, false, false, false, false, false, false, false, false, false, false, false] rfl rfl (any_of HT_.out (by kernel_rfl)) (fun _ _ _ h => h) (Or.inl ⟨by rfl, ?_⟩) ?_ ?_;rotate_left
           ·intro w';(go_simp);with_reducible rfl
           rotate_left
           ·simp only [Act.put, List.setIfInBounds_toArray, List.set_cons_zero, List.set_cons_succ, i64_w, i32_w];rfl
           refine pure_ (i := 27) (N := (some 98)) (v := ?_) (a' := ?_) #[true, true, true, false, true, true, true, true, false, true, false, false, true, true, true, false, true, false, false, false, true, true, true, false, true, false, false, true, false, false, false, false, false, false, false, false, false, false, false, false] rfl rfl (any_of HT_.out (by kernel_rfl)) (fun _ _ _ h => h) (Or.inl ⟨by rfl, ?_⟩) ?_ ?_;rotate_left
           ·intro w';(go_simp);with_reducible rfl
           rotate_left
           ·simp only [Act.put, List.setIfInBounds_toArray, List.set_cons_zero, List.set_cons_succ, i64_w, i32_w];rfl
           refine pure_ (i := 28) (N := (some 99)) (v := ?_) (a' := ?_) #[true, true, true, false, true, true, true, true, false, true, false, false, true, true, true, false, true, false, false, false, true, true, true, false, true, false, false, true, true, false, false, false, false, false, false, false, false, false, false, false] rfl rfl (any_of HT_.out (by kernel_rfl)) (fun _ _ _ h => h) (Or.inl ⟨by rfl, ?_⟩) ?_ ?_;rotate_left
           ·intro w';(go_simp);with_reducible rfl
           rotate_left
           ·simp only [Act.put, List.setIfInBounds_toArray, List.set_cons_zero, List.set_cons_succ, i64_w, i32_w];rfl
           refine pure_ (i := 29) (N := (some 100)) (v := ?_) (a' := ?_) #[true, true, true, false, true, true, true, true, false, true, false, false, true, true, true, false, true, false, false, false, true, true, true, false, true, false, false, true, true, true, false, false, false, false, false, false, false, false, false, false] rfl rfl (any_of HT_.out (by kernel_rfl)) (fun _ _ _ h => h) (Or.inl ⟨by rfl, ?_⟩) ?_ ?_;rotate_left
           ·intro w';(go_simp);with_reducible rfl
           rotate_left
           ·simp only [Act.put, List.setIfInBounds_toArray, List.set_cons_zero, List.set_cons_succ, i64_w, i32_w];rfl
           refine pure_ (i := 31) (N := (some 102)) (v := ?_) (a' := ?_) #[true, true, true, false, true, true, true, true, false, true, false, false, true, true, true, false, true, false, false, false, true, true, true, false, true, false, false, true, true, true, false, true, false, false, false, false, false, false, false, false] rfl rfl (any_of HT_.out (by kernel_rfl)) (fun _ _ _ h => h) (Or.inl ⟨by rfl, ?_⟩) ?_ ?_;rotate_left
           ·intro w';(go_simp);with_reducible rfl
           rotate_left
           ·simp only [Act.put, List.setIfInBounds_toArray, List.set_cons_zero, List.set_cons_succ, i64_w, i32_w];rfl
           refine pure_ (i := 36) (N := (some 107)) (v := ?_) (a' := ?_) #[true, true, true, false, true, true, true, true, false, true, false, false, true, true, true, false, true, false, false, false, true, true, true, false, true, false, false, true, true, true, false, true, false, false, false, false, true, false, false, false] rfl rfl (any_of HT_.out (by kernel_rfl)) (fun _ _ _ h => h) (Or.inl ⟨by rfl, ?_⟩) ?_ ?_;rotate_left
           ·intro w';(go_simp);with_reducible rfl
           rotate_left
           ·simp only [Act.put, List.setIfInBounds_toArray, List.set_cons_zero, List.set_cons_succ, i64_w, i32_w];rfl
           refine take_ (i := 3) (N := (some 74)) (v := ?_) (a' := ?_) #[true, true, true, true, true, true, true, true, false, true, false, false, true, true, true, false, true, false, false, false, true, true, true, false, true, false, false, true, true, true, false, true, false, false, false, false, true, false, false, false] rfl rfl (take_ofW HT_.out HW_.out (by kernel_rfl)) (fun _ _ _ h => h) (Or.inl ⟨by rfl, ?_⟩) hHeld ?_ ?_;rotate_left
           ·rintro w' ⟨s0, s1, s2, s3, s4, s5⟩;(go_simp);with_reducible rfl
           rotate_left
           ·simp only [Act.put, List.setIfInBounds_toArray, List.set_cons_zero, List.set_cons_succ, i64_w, i32_w];rfl
           refine take_ (i := 8) (N := (some 79)) (v := ?_) (a' := ?_) #[true, true, true, true, true, true, true, true, true, true, false, false, true, true, true, false, true, false, false, false, true, true, true, false, true, false, false, true, true, true, false, true, false, false, false, false, true, false, false, false] rfl rfl (take_ofW HT_.out HW_.out (by kernel_rfl)) (fun _ _ _ h => h) (Or.inl ⟨by rfl, ?_⟩) hHeld ?_ ?_;rotate_left
           ·rintro w' ⟨s0, s1, s2, s3, s4, s5⟩;(go_simp);with_reducible rfl
           rotate_left
           ·simp only [Act.put, List.setIfInBounds_toArray, List.set_cons_zero, List.set_cons_succ, i64_w, i32_w];rfl
           refine pure_ (i := 10) (N := (some 81)) (v := ?_) (a' := ?_) #[true, true, true, true, true, true, true, true, true, true, true, false, true, true, true, false, true, false, false, false, true, true, true, false, true, false, false, true, true, true, false, true, false, false, false, false, true, false, false, false] rfl rfl (any_of HT_.out (by kernel_rfl)) (fun _ _ _ h => h) (Or.inl ⟨by rfl, ?_⟩) ?_ ?_;rotate_left
           ·intro w';(go_simp);with_reducible rfl
           rotate_left
           ·simp only [Act.put, List.setIfInBounds_toArray, List.set_cons_zero, List.set_cons_succ, i64_w, i32_w];rfl
           refine take_ (i := 11) (N := (some 82)) (v := ?_) (a' := ?_) #[true, true, true, true, true, true, true, true, true, true, true, true, true, true, true, false, true, false, false, false, true, true, true, false, true, false, false, true, true, true, false, true, false, false, false, false, true, false, false, false] rfl rfl (take_ofW HT_.out HW_.out (by kernel_rfl)) (fun _ _ _ h => h) (Or.inl ⟨by rfl, ?_⟩) hHeld ?_ ?_;rotate_left
           ·rintro w' ⟨s0, s1, s2, s3, s4, s5⟩;(go_simp);with_reducible rfl
           rotate_left
           ·simp only [Act.put, List.setIfInBounds_toArray, List.set_cons_zero, List.set_cons_succ, i64_w, i32_w];rfl
           refine take_ (i := 15) (N := (some 86)) (v := ?_) (a' := ?_) #[true, true, true, true, true, true, true, true, true, true, true, true, true, true, true, true, true, false, false, false, true, true, true, false, true, false, false, true, true, true, false, true, false, false, false, false, true, false, false, false] rfl rfl (take_ofW HT_.out HW_.out (by kernel_rfl)) (fun _ _ _ h => h) (Or.inl ⟨by rfl, ?_⟩) hHeld ?_ ?_;rotate_left
           ·rintro w' ⟨s0, s1, s2, s3, s4, s5⟩;(go_simp);with_reducible rfl
           rotate_left
           ·simp only [Act.put, List.setIfInBounds_toArray, List.set_cons_zero, List.set_cons_succ, i64_w, i32_w];rfl
           refine pure_ (i := 17) (N := (some 88)) (v := ?_) (a' := ?_) #[true, true, true, true, true, true, true, true, true, true, true, true, true, true, true, true, true, true, false, false, true, true, true, false, true, false, false, true, true, true, false, true, false, false, false, false, true, false, false, false] rfl rfl (any_of HT_.out (by kernel_rfl)) (fun _ _ _ h => h) (Or.inl ⟨by rfl, ?_⟩) ?_ ?_;rotate_left
           ·intro w';(go_simp);with_reducible rfl
           rotate_left
           ·simp only [Act.put, List.setIfInBounds_toArray, List.set_cons_zero, List.set_cons_succ, i64_w, i32_w];rfl
           refine take_ (i := 18) (N := (some 89)) (v := ?_) (a' := ?_) #[true, true, true, true, true, true, true, true, true, true, true, true, true, true, true, true, true, true, true, false, true, true, true, false, true, false, false, true, true, true, false, true, false, false, false, false, true, false, false, false] rfl rfl (take_ofW HT_.out HW_.out (by kernel_rfl)) (fun _ _ _ h => h) (Or.inl ⟨by rfl, ?_⟩) hHeld ?_ ?_;rotate_left
           ·rintro w' ⟨s0, s1, s2, s3, s4, s5⟩;(go_simp);with_reducible rfl
           rotate_left
           ·simp only [Act.put, List.setIfInBounds_toArray, List.set_cons_zero, List.set_cons_succ, i64_w, i32_w];rfl
           refine pure_ (i := 19) (N := (some 90)) (v := ?_) (a' := ?_) #[true, true, true, true, true, true, true, true, true, true, true, true, true, true, true, true, true, true, true, true, true, true, true, false, true, false, false, true, true, true, false, true, false, false, false, false, true, false, false, false] rfl rfl (any_of HT_.out (by kernel_rfl)) (fun _ _ _ h => h) (Or.inl ⟨by rfl, ?_⟩) ?_ ?_;rotate_left
           ·intro w';(go_simp);with_reducible rfl
           rotate_left
           ·simp only [Act.put, List.setIfInBounds_toArray, List.set_cons_zero, List.set_cons_succ, i64_w, i32_w];rfl
           refine take_ (i := 23) (N := (some 94)) (v := ?_) (a' := ?_) #[true, true, true, true, true, true, true, true, true, true, true, true, true, true, true, true, true, true, true, true, true, true, true, true, true, false, false, true, true, true, false, true, false, false, false, false, true, false, false, false] rfl rfl (take_ofW HT_.out HW_.out (by kernel_rfl)) (fun _ _ _ h => h) (Or.inl ⟨by rfl, ?_⟩) hHeld ?_ ?_;rotate_left
           ·rintro w' ⟨s0, s1, s2, s3, s4, s5⟩;(go_simp);with_reducible rfl
           rotate_left
           ·simp only [Act.put, List.setIfInBounds_toArray, List.set_cons_zero, List.set_cons_succ, i64_w, i32_w];rfl
           refine pure_ (i := 25) (N := (some 96)) (v := ?_) (a' := ?_) #[true, true, true, true, true, true, true, true, true, true, true, true, true, true, true, true, true, true, true, true, true, true, true, true, true, true, false, true, true, true, false, true, false, false, false, false, true, false, false, false] rfl rfl (any_of HT_.out (by kernel_rfl)) (fun _ _ _ h => h) (Or.inl ⟨by rfl, ?_⟩) ?_ ?_;rotate_left
           ·intro w';(go_simp);with_reducible rfl
           rotate_left
           ·simp only [Act.put, List.setIfInBounds_toArray, List.set_cons_zero, List.set_cons_succ, i64_w, i32_w];rfl
           refine take_ (i := 26) (N := (some 97)) (v := ?_) (a' := ?_) #[true, true, true, true, true, true, true, true, true, true, true, true, true, true, true, true, true, true, true, true, true, true, true, true, true, true, true, true, true, true, false, true, false, false, false, false, true, false, false, false] rfl rfl (take_ofW HT_.out HW_.out (by kernel_rfl)) (fun _ _ _ h => h) (Or.inl ⟨by rfl, ?_⟩) hHeld ?_ ?_;rotate_left
           ·rintro w' ⟨s0, s1, s2, s3, s4, s5⟩;(go_simp);with_reducible rfl
           rotate_left
           ·simp only [Act.put, List.setIfInBounds_toArray, List.set_cons_zero, List.set_cons_succ, i64_w, i32_w];rfl
           refine take_ (i := 30) (N := (some 101)) (v := ?_) (a' := ?_) #[true, true, true, true, true, true, true, true, true, true, true, true, true, true, true, true, true, true, true, true, true, true, true, true, true, true, true, true, true, true, true, true, false, false, false, false, true, false, false, false] rfl rfl (take_ofW HT_.out HW_.out (by kernel_rfl)) (fun _ _ _ h => h) (Or.inl ⟨by rfl, ?_⟩) hHeld ?_ ?_;rotate_left
           ·rintro w' ⟨s0, s1, s2, s3, s4, s5⟩;(go_simp);with_reducible rfl
           rotate_left
           ·simp only [Act.put, List.setIfInBounds_toArray, List.set_cons_zero, List.set_cons_succ, i64_w, i32_w];rfl
           refine pure_ (i := 32) (N := (some 103)) (v := ?_) (a' := ?_) #[true, true, true, true, true, true, true, true, true, true, true, true, true, true, true, true, true, true, true, true, true, true, true, true, true, true, true, true, true, true, true, true, true, false, false, false, true, false, false, false] rfl rfl (any_of HT_.out (by kernel_rfl)) (fun _ _ _ h => h) (Or.inl ⟨by rfl, ?_⟩) ?_ ?_;rotate_left
           ·intro w';(go_simp);with_reducible rfl
           rotate_left
           ·simp only [Act.put, List.setIfInBounds_toArray, List.set_cons_zero, List.set_cons_succ, i64_w, i32_w];rfl
           refine take_ (i := 33) (N := (some 104)) (v := ?_) (a' := ?_) #[true, true, true, true, true, true, true, true, true, true, true, true, true, true, true, true, true, true, true, true, true, true, true, true, true, true, true, true, true, true, true, true, true, true, false, false, true, false, false, false] rfl rfl (take_ofW HT_.out HW_.out (by kernel_rfl)) (fun _ _ _ h => h) (Or.inl ⟨by rfl, ?_⟩) hHeld ?_ ?_;rotate_left
           ·rintro w' ⟨s0, s1, s2, s3, s4, s5⟩;(go_simp);with_reducible rfl
           rotate_left
           ·simp only [Act.put, List.setIfInBounds_toArray, List.set_cons_zero, List.set_cons_succ, i64_w, i32_w];rfl
           refine pure_ (i := 34) (N := (some 105)) (v := ?_) (a' := ?_) #[true, true, true, true, true, true, true, true, true, true, true, true, true, true, true, true, true, true, true, true, true, true, true, true, true, true, true, true, true, true, true, true, true, true, true, false, true, false, false, false] rfl rfl (any_of HT_.out (by kernel_rfl)) (fun _ _ _ h => h) (Or.inl ⟨by rfl, ?_⟩) ?_ ?_;rotate_left
           ·intro w';(go_simp);with_reducible rfl
           rotate_left
           ·simp only [Act.put, List.setIfInBounds_toArray, List.set_cons_zero, List.set_cons_succ, i64_w, i32_w];rfl
           refine pure_ (i := 35) (N := (some 106)) (v := ?_) (a' := ?_) #[true, true, true, true, true, true, true, true, true, true, true, true, true, true, true, true, true, true, true, true, true, true, true, true, true, true, true, true, true, true, true, true, true, true, true, true, true, false, false, false] rfl rfl (any_of HT_.out (by kernel_rfl)) (fun _ _ _ h => h) (Or.inl ⟨by rfl, ?_⟩) ?_ ?_;rotate_left
           ·intro w';(go_simp);with_reducible rfl
           rotate_left
           ·simp only [Act.put, List.setIfInBounds_toArray, List.set_cons_zero, List.set_cons_succ, i64_w, i32_w];rfl
           refine pure_ (i := 37) (N := (some 108)) (v := ?_) (a' := ?_) #[true, true, true, true, true, true, true, true, true, true, true, true, true, true, true, true, true, true, true, true, true, true, true, true, true, true, true, true, true, true, true, true, true, true, true, true, true, true, false, false] rfl rfl (any_of HT_.out (by kernel_rfl)) (fun _ _ _ h => h) (Or.inl ⟨by rfl, ?_⟩) ?_ ?_;rotate_left
           ·intro w';(go_simp);with_reducible rfl
           rotate_left
           ·simp only [Act.put, List.setIfInBounds_toArray, List.set_cons_zero, List.set_cons_succ, i64_w, i32_w];rfl
           refine pure_ (i := 38) (N := (some 109)) (v := ?_) (a' := ?_) #[true, true, true, true, true, true, true, true, true, true, true, true, true, true, true, true, true, true, true, true, true, true, true, true, true, true, true, true, true, true, true, true, true, true, true, true, true, true, true, false] rfl rfl (any_of HT_.out (by kernel_rfl)) (fun _ _ _ h => h) (Or.inl ⟨by rfl, ?_⟩) ?_ ?_;rotate_left
           ·intro w';(go_simp);with_reducible rfl
           rotate_left
           ·simp only [Act.put, List.setIfInBounds_toArray, List.set_cons_zero, List.set_cons_succ, i64_w, i32_w];rfl
           refine last_ (i := 39) (N := none) #[true, true, true, true, true, true, true, true, true, true, true, true, true, true, true, true, true, true, true, true, true, true, true, true, true, true, true, true, true, true, true, true, true, true, true, true, true, true, true, true] rfl rfl (one_of HT_.out (by kernel_rfl)) (by decide) (fun K hK => ?_);refine skip_ (w1 := ?_) (by rfl) rfl ?_ ?_;rotate_left
           ·(go_simp);rfl
           refine hK.out _ _ ?_;clear hK K;refine done_ (done_of HT_.out (by kernel_rfl)) ?_;(try go_wp2);go_roundg p;(case measure => exact Nat.lt_succ_self p);(case rel => exact ⟨dPut M3 i j (dCell M3 k b i j), j + 1, wrap64 (z + 1), (by first | rfl | (simp [i64_w]; done)), hG, HE, hz1, ⟨by have := HJ.out; omega⟩, ⟨HP.out.step rfl⟩, ⟨Kept.setCell HK.out (.inl HPr.out.1) _⟩, ⟨below_drew1 (below_set HB.out HPr.out.2)⟩⟩)

end Go.Proofs.Ytlifiingpggocaa.PFnExactRatioOfNet
