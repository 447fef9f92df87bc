/- Codes tell cuts again, have the sides of all squares, and their first group is as long as the edge above, whatever is given. -/
import Derived.Test.YtgeahghdikdamaaGreatPureAFnCodesToldOfAll
import Derived.Test.YtgeahghdikdamaaGreatPFnCodesToldOfAllx24
namespace Go.Proofs.YtgeahghdikdamaaGreat.Pure
open Go.RowKit Go.Proofs.YtgeahghdikdamaaGreat.PFnCodesToldOfAll Go.Proofs.YtgeahghdikdamaaGreatW.PrintWords Go.Proofs.YtgeahghdikdamaaGreatW.PrintLast Go.Proofs.YtgeahghdikdamaaGreatW.PrintMore Go.Proofs.YtgeahghdikdamaaGreatW.Evs
set_option linter.unusedVariables false
set_option linter.unusedSimpArgs false
/-! ### levels -/
theorem rd_int (l:List Int) (j:Nat) (h:j<l.length):rd l (j:Int)=l[j]:=by unfold rd;rw [Int.toNat_natCast];simp [List.getD,h]
theorem has_loop (x:List Int) (y:Int) (hx:x.length≤1099511627776):∀ (t:List Int) (i:Nat),x.drop i=t→i+t.length=x.length→Ev (fun k=>Dx.l0 k y x (x.length:Int) (i:Int)) (decide (y ∈ t)):=by
  intro t
  induction t with
  | nil =>
    intro i hd hi
    simp only [List.length_nil] at hi
    refine Ev.succ ?_
    simp only [Dx.l0]
    exact Ev.neg (by omega) (Ev.eqr (Ev.now _) (by simp))
  | cons q t ih =>
    intro i hd hi
    have a0:i<x.length:=by simp only [List.length_cons] at hi;omega
    have e1:=List.drop_eq_getElem_cons a0
    rw [hd] at e1
    injection e1 with e2 e3
    refine Ev.succ ?_
    simp only [Dx.l0]
    refine Ev.pos (by omega) (Ev.pos (by omega) (Ev.pos (by omega) ?_))
    rw [rd_int x i a0,← e2]
    by_cases h:q=y
    · exact Ev.pos h (Ev.eqr (Ev.now _) (by simp [h]))
    · refine Ev.neg h ?_
      rw [Ai (by omega) (by omega)]
      refine Ev.eqr (ih (i+1) e3.symm (by simp only [List.length_cons] at hi;omega)) ?_
      have:y≠q:=fun e=>h e.symm
      simp [this]
theorem has_ev (x:List Int) (y:Int) (hx:x.length≤1099511627776):Ev (fun k=>Dx.f k x y) (decide (y ∈ x)):=by
  unfold Dx.f
  exact has_loop x y hx x 0 rfl (by omega)
def Ii (l:List Sq):List Int:=l.map fun s=>s.f1
theorem Iw (l:List Sq) (i:Nat) (h:i<l.length):(Ii l).toArray[i]! = (Aj l i).f1:=by
  rw [getElem!_pos _ i (by simp [Ii];exact h),Ci l i h]
  simp [Ii]
def lev (l:List Sq) (i:Nat):List Int:=Lib.compactUpTo (Ii l).toArray i
theorem Nu (l:List Sq) (i:Nat):lev l (i+1)=lev l i++(if Lib.keeps (Ii l).toArray i=true then [(Ii l).toArray[i]!] else []):=by
  unfold lev Lib.compactUpTo
  rw [List.range_succ,List.filter_append,List.map_append]
  congr 1
  by_cases h:Lib.keeps (Ii l).toArray i=true
  · rw [if_pos h];simp [h]
  · rw [if_neg h];simp [h]
theorem Kl (l:List Sq) (i:Nat):(lev l i).length≤i:=by
  unfold lev Lib.compactUpTo
  rw [List.length_map]
  exact Nat.le_trans (List.length_filter_le _ _) (by simp)
theorem lev_has (l:List Sq):∀ i,i≤l.length→∀ j,j<i→(Aj l j).f1 ∈ lev l i:=by
  intro i
  induction i with
  | zero=>intro _ j h;omega
  | succ i ih =>
    intro hi j hj
    rw [Nu]
    by_cases e:j=i
    · subst e
      by_cases hk:Lib.keeps (Ii l).toArray j=true
      · rw [if_pos hk,Iw l j (by omega)];simp
      · have h0 : 0 < j := by
          rcases Nat.eq_zero_or_pos j with h|h
          · subst h;exact absurd (Lib.keeps_lt_one _ 0 (by omega)) hk
          · exact h
        have he:(Ii l).toArray[j]! = (Ii l).toArray[j-1]! := by
          apply Decidable.byContradiction
          intro h
          exact hk (Lib.keeps_pos h)
        rw [Iw l j (by omega),Iw l (j-1) (by omega)] at he
        rw [he]
        exact List.mem_append_left _ (ih (by omega) (j-1) (by omega))
    · exact List.mem_append_left _ (ih (by omega) j (by omega))
theorem Ry (l:List Sq) (i:Nat) (hi:i≤l.length) (y:Int) (h:y ∈ lev l i):∃ j,j<i∧y=(Aj l j).f1:=by
  unfold lev Lib.compactUpTo at h
  obtain ⟨j,hj,rfl⟩:=List.mem_map.1 h
  have hj':=List.mem_range.1 (List.mem_filter.1 hj).1
  exact ⟨j,hj',Iw l j (by omega)⟩
theorem Qh {W H:Int} {l:List Sq} (hg:Bz W H l):∀ i,i<l.length→∀ j,j≤i→(Aj l j).f1≤(Aj l i).f1:=by
  intro i
  induction i with
  | zero => intro _ j hj; obtain rfl : j = 0 := by omega
            exact Int.le_refl _
  | succ i ih =>
    intro hi j hj
    by_cases e:j=i+1
    · subst e;exact Int.le_refl _
    · have h1:=ih (by omega) j (by omega)
      have h2:=(hg.2.2.2.1 (i+1) hi).2.1 (by omega)
      rw [Nat.add_sub_cancel] at h2
      unfold D4 at h2
      omega
theorem Nb {W H:Int} {l:List Sq} (hg:Bz W H l) (i:Nat) (hi:i<l.length):(Aj l i).f1 ∈ lev l i↔¬ Lib.keeps (Ii l).toArray i=true:=by
  constructor
  · intro h hk
    obtain ⟨j,hj,he⟩:=Ry l i (by omega) _ h
    have hne:(Ii l).toArray[i]! ≠ (Ii l).toArray[i-1]! := by
      intro h2
      rw [Lib.keeps_neg (by omega) h2] at hk
      exact absurd hk (by simp)
    rw [Iw l i hi,Iw l (i-1) (by omega)] at hne
    have a:=Qh hg (i-1) (by omega) j (by omega)
    have b:=Qh hg i hi (i-1) (by omega)
    omega
  · intro hk
    have h0:0<i:=by
      rcases Nat.eq_zero_or_pos i with h|h
      · subst h;exact absurd (Lib.keeps_lt_one _ 0 (by omega)) hk
      · exact h
    have he:(Ii l).toArray[i]! = (Ii l).toArray[i-1]! := by
      apply Decidable.byContradiction
      intro h
      exact hk (Lib.keeps_pos h)
    rw [Iw l i hi,Iw l (i-1) (by omega)] at he
    rw [he]
    exact lev_has l i (by omega) (i-1) (by omega)
theorem Q8 {W H : Int} {l : List Sq} (hg : Bz W H l) : ∀ (n i : Nat), l.length - i = n → i ≤ l.length →
    Ev (fun k=>C0.l0 k (lev l i) l (l.length:Int) (i:Int)) (lev l l.length,true):=by
  have hl:=hg.2.2.1.2
  intro n
  induction n with
  | zero =>
    intro i hd hi
    obtain rfl:i=l.length:=by omega
    refine Ev.succ ?_
    simp only [C0.l0]
    exact Ev.neg (by omega) (Ev.now _)
  | succ n ih =>
    intro i hd hi
    have hb:=Kl l i
    have ih':=ih (i+1) (by omega) (by omega)
    rw [Nu] at ih'
    refine Ev.succ ?_
    simp only [C0.l0,Ef]
    rw [Ai (n:=(i:Int)+1) (by omega) (by omega)]
    refine Ev.pos (by omega) (Ev.pos (by omega) (Ev.pos (by omega) (Ev.bind (has_ev (lev l i) (Aj l i).f1 (by omega)) ?_)))
    by_cases h:(Aj l i).f1 ∈ lev l i
    · refine Ev.pos (by simpa using h) ?_
      rw [if_neg ((Nb hg i (by omega)).1 h),List.append_nil] at ih'
      exact ih'
    · refine Ev.neg (by simpa using h) (Ev.pos (by omega) ?_)
      have hk:Lib.keeps (Ii l).toArray i=true:=by
        apply Decidable.byContradiction
        intro h2
        exact h ((Nb hg i (by omega)).2 h2)
      rw [if_pos hk,Iw l i (by omega)] at ih'
      exact ih'
theorem Q9 {W H : Int} {l : List Sq} (hg : Bz W H l) : ∀ (n i : Nat) (a : List Int), l.length - i = n → i ≤ l.length → a = (Ii l).take i →
    Ev (fun k=>Cz.l0 k a l (l.length:Int) (i:Int)) (lev l l.length,true):=by
  have hl:=hg.2.2.1.2
  have hyl:(Ii l).length=l.length:=by simp [Ii]
  intro n
  induction n with
  | zero =>
    intro i a hd hi ha
    obtain rfl:i=l.length:=by omega
    refine Ev.succ ?_
    simp only [Cz.l0]
    refine Ev.neg (by omega) (Ev.bindc (a:=lev l l.length) ?_ (Ev.now _))
    rw [ha,List.take_of_length_le (by omega)]
    unfold Ej.f lev
    rw [hyl]
  | succ n ih =>
    intro i a hd hi ha
    have hal:a.length=i:=by rw [ha,List.length_take];omega
    refine Ev.succ ?_
    simp only [Cz.l0,Ef]
    rw [Ai (n:=(i:Int)+1) (by omega) (by omega)]
    refine Ev.pos (by omega) (Ev.pos (by omega) (Ev.pos (by omega) (Ev.pos (by omega) ?_)))
    refine ih (i+1) _ (by omega) (by omega) ?_
    rw [ha,List.take_add_one,List.getElem?_eq_getElem (by omega:i<(Ii l).length),Ci l i (by omega)]
    simp [Ii]
open Classical in
noncomputable def levR (W H:Int) (l:List Sq):List Int×Bool:=if Bz W H l then (lev l l.length,true) else ([],false)
theorem levR_len (W H:Int) (l:List Sq):(levR W H l).1.length≤30:=by
  unfold levR;split
  · rename_i h;exact Nat.le_trans (Kl l _) h.2.2.1.2
  · simp
theorem Ug (W H:Int) (l:List Sq):Ev (fun k=>C0.f k W H l) (levR W H l):=by
  classical
  unfold C0.f levR
  refine Ev.bind (Gk W H l) ?_
  by_cases h:Bz W H l
  · rw [if_pos h]
    exact Ev.pos (by simpa using h) (Q8 h l.length 0 (by omega) (by omega))
  · rw [if_neg h]
    exact Ev.neg (by simpa using h) (Ev.now _)
theorem Uh (W H:Int) (l:List Sq):Ev (fun k=>Cz.f k W H l) (levR W H l):=by
  classical
  unfold Cz.f levR
  refine Ev.bind (Gb W H l) ?_
  by_cases h:Bz W H l
  · rw [if_pos h]
    exact Ev.pos (by simpa using h) (Q9 h l.length 0 [] (by omega) (by omega) rfl)
  · rw [if_neg h]
    exact Ev.neg (by simpa using h) (Ev.now _)

/-- the group of a place -/
def Jz:List (List Int)→Int→Int→Int×Bool
  | [],_,_=>(0,false)
  | g::t,x,i=>if x<(g.length:Int) then (i,true) else Jz t (x-g.length) (i+1)
theorem rd_grp (c:List (List Int)) (i:Nat) (g:List Int) (t:List (List Int)) (h:c.drop i=g::t):Az c (i:Int)=g:=by
  unfold Az
  rw [Int.toNat_natCast,List.getD_eq_getElem?_getD]
  have:(c.drop i)[0]? = some g:=by rw [h];rfl
  rw [List.getElem?_drop,Nat.add_zero] at this
  rw [this];rfl
theorem Mt (c : List (List Int)) (hc : c.length ≤ 1000) (hg : ∀ g ∈ c, g.length ≤ 1000) : ∀ (t : List (List Int)) (i : Nat) (x : Int), c.drop i = t → i + t.length = c.length → 0 ≤ x → x ≤ 1000 →
    Ev (fun k=>Cd.l0 k x c (c.length:Int) (i:Int)) (Jz t x i)∧Ev (fun k=>Bl.l0 k x c (c.length:Int) (i:Int)) (Jz t x i):=by
  intro t
  induction t with
  | nil =>
    intro i x hd hi _ _
    simp only [List.length_nil] at hi
    refine ⟨Ev.succ ?_,Ev.succ ?_⟩
    · simp only [Cd.l0];exact Ev.neg (by omega) (Ev.now _)
    · simp only [Bl.l0];exact Ev.neg (by omega) (Ev.now _)
  | cons g t ih =>
    intro i x hd hi h0 h1
    simp only [List.length_cons] at hi
    have hgl := hg g (by have : g ∈ c.drop i := by rw [hd]; simp
                         exact List.mem_of_mem_drop this)
    have er:=rd_grp c i g t hd
    have ht:c.drop (i+1)=t:=by rw [← List.drop_drop,hd];rfl
    have ei:wrap64 ((i:Int)+1)=((i+1:Nat):Int):=by rw [Ai (by omega) (by omega)];omega
    have ex:wrap64 (x-(g.length:Int))=x-g.length:=Ai (by omega) (by omega)
    simp only [Jz]
    refine ⟨Ev.succ ?_,Ev.succ ?_⟩
    · simp only [Cd.l0,er,ei,ex]
      refine Ev.pos (by omega) (Ev.pos (by omega) (Ev.pos (by omega) ?_))
      by_cases cx:x<(g.length:Int)
      · rw [if_pos cx];exact Ev.pos (by omega) (Ev.now _)
      · rw [if_neg cx]
        exact Ev.neg (by omega) (ih (i+1) (x-g.length) ht (by omega) (by omega) (by omega)).1
    · simp only [Bl.l0,er,ei,ex]
      refine Ev.pos (by omega) (Ev.pos (by omega) (Ev.pos (by omega) ?_))
      by_cases cx:x<(g.length:Int)
      · rw [if_pos cx];exact Ev.pos cx (Ev.now _)
      · rw [if_neg cx]
        exact Ev.neg cx (ih (i+1) (x-g.length) ht (by omega) (by omega) (by omega)).2
theorem Ra (W H:Int) (l:List Sq) (x:Int):Ev (fun k=>Er.f k W H l x) (decide (Bz W H l∧0≤x∧x<l.length)):=by
  unfold Er.f
  refine Ev.bind (Gb W H l) ?_
  by_cases h:Bz W H l
  · rw [decide_eq_true h]
    have:=h.2.2.1
    refine Ev.pos rfl (Ev.bindc (Iy _ _ _) (Ev.eqr (Ev.now _) ?_))
    rw [Ai (by omega) (by omega)]
    exact decide_eq_decide.2 ⟨fun h1=>⟨h,by omega,by omega⟩,fun h1=>by omega⟩
  · rw [decide_eq_false h]
    exact Ev.neg (by decide) (Ev.eqr (Ev.now _) (decide_eq_false fun h1=>h h1.1).symm)
theorem Jm {W H:Int} {l:List Sq} (h:Bz W H l):(Bh l l.length).length≤1000∧∀ g ∈ Bh l l.length,g.length≤1000:=by
  have a0:=h.2.2.1
  have h1:=(Gh l l.length).1
  exact ⟨by omega,fun g hg=>by have:=E0 l l.length g hg;omega⟩
theorem Jn (W H:Int) (l:List Sq) (x:Int):Ev (fun k=>Cd.f k W H l x) (if Bz W H l∧0≤x∧x<l.length then Jz (Bh l l.length) x 0 else (0,false)):=by
  unfold Cd.f
  refine Ev.bind (Ra W H l x) ?_
  by_cases h:Bz W H l∧0≤x∧x<l.length
  · rw [decide_eq_true h,if_pos h]
    have a0:=h.1.2.2.1
    exact Ev.pos rfl (Ev.bind (I3 h.1) (Mt _ (Jm h.1).1 (Jm h.1).2 _ 0 x rfl (by simp) h.2.1 (by omega)).1)
  · rw [decide_eq_false h,if_neg h]
    exact Ev.neg (by decide) (Ev.now _)
theorem Md (W H:Int) (l:List Sq) (x:Int):Ev (fun k=>Bl.f k W H l x) (if Bz W H l∧0≤x∧x<l.length then Jz (Bh l l.length) x 0 else (0,false)):=by
  unfold Bl.f
  refine Ev.bind (Gk W H l) ?_
  have fall:Ev (fun k=>Bl.j0 k x true W H l) (0,false):=by
    refine Ev.succ ?_
    simp only [Bl.j0]
    exact Ev.pos trivial (Ev.now _)
  by_cases hg:Bz W H l
  · rw [decide_eq_true hg]
    have a0:=hg.2.2.1
    refine Ev.pos rfl (Ev.bindc (G7 _ _ _) ?_)
    rw [Ai (by omega) (by omega)]
    by_cases h:0≤x∧x≤(l.length:Int)-1
    · rw [decide_eq_true h,if_pos ⟨hg,by omega,by omega⟩]
      refine Ev.succ ?_
      simp only [Bl.j0,Bool.not_true]
      refine Ev.neg (by decide) (Ev.bind (I4 hg) (Mt _ (Jm hg).1 (Jm hg).2 _ 0 x rfl (by simp) h.1 (by omega)).2)
    · rw [decide_eq_false h,if_neg (fun h1=>h (by omega))]
      exact fall
  · rw [decide_eq_false hg,if_neg (fun h1=>hg h1.1)]
    exact Ev.neg (by decide) fall

/-! ### a cut is filled again out of its sides -/
/-- the columns' heights are what the squares cover -/
structure Cov (W:Int) (F:List Int) (p:List Sq):Prop where
  len:(F.length:Int)=W
  pos:∀ c:Nat,(c:Int)<W→0≤F.getD c 0
  cov:∀ c:Nat,(c:Int)<W→∀ y:Int,0≤y→(y<F.getD c 0↔∃ s ∈ p,Gg s (c:Int) y)
theorem in_one {W H:Int} {l:List Sq} (hg:Bz W H l) {a b:Sq} (ha:a ∈ l) (hb:b ∈ l) {x y:Int} (h1:Gg a x y) (h2:Gg b x y):a=b:=Ml hg ha hb (in_ovl h1 h2)
theorem Je {W H:Int} {l:List Sq} (hg:Bz W H l) {i j:Nat} (hij:i<j) (hj:j<l.length):D4 (Aj l i) (Aj l j):=by
  induction j with
  | zero=>omega
  | succ j ih =>
    have h1:=(hg.2.2.2.1 (j+1) hj).2.1 (by omega)
    rw [Nat.add_sub_cancel] at h1
    by_cases e:i=j
    · subst e;exact h1
    · have h2:=ih (by omega) (by omega)
      unfold D4 at *;omega
theorem J0 (l:List Sq) (i:Nat) (s:Sq):s ∈ l.take i↔∃ j,j<i∧j<l.length∧s=Aj l j:=by
  rw [List.mem_take_iff_getElem]
  constructor
  · rintro ⟨j,hj,e⟩
    exact ⟨j,by omega,by omega,by rw [Ci l j (by omega)];exact e.symm⟩
  · rintro ⟨j,h1,h2,e⟩
    exact ⟨j,by omega,by rw [e,Ci l j h2]⟩
theorem back_step {W H : Int} {l : List Sq} (hg : Bz W H l) (i : Nat) (hi : i < l.length) (F : List Int) (h : Cov W F (l.take i)) :
    ((Cc F:Int)=(Aj l i).f0∧F.getD (Cc F) 0=(Aj l i).f1)∧Jd F (Aj l i).f2∧Cov W (I9 F (Cc F) (F.getD (Cc F) 0+(Aj l i).f2) (Aj l i).f2.toNat) (l.take (i+1)):=by
  have hW:=hg.1
  have hH:=hg.2.1
  have hI:=(hg.2.2.2.1 i hi).1
  have hsm:=Jv l i hi
  have hlen:=h.len
  obtain ⟨m1,m2,m3⟩:=It F F.length (by omega)
  change Cc F<F.length at m1
  change ∀ c,c<F.length→F.getD (Cc F) 0≤F.getD c 0 at m2
  change ∀ c,c<Cc F→F.getD (Cc F) 0<F.getD c 0 at m3
  -- a cell of a placed square belongs to no later one
  have later:∀ j,i≤j→j<l.length→∀ x y:Int,Gg (Aj l j) x y→¬ ∃ s ∈ l.take i,Gg s x y:=by
    rintro j hij hj x y hin ⟨s,hs,a0⟩
    obtain ⟨q,q1,q2,rfl⟩:=(J0 l i s).1 hs
    exact (hg.2.2.2.1 j hj).2.2 q (by omega) (in_ovl hin a0)
  have colI:∀ x:Int,0≤x→((x.toNat:Nat):Int)=x:=fun x hx=>Int.toNat_of_nonneg hx
  have key:(Cc F:Int)=(Aj l i).f0∧F.getD (Cc F) 0=(Aj l i).f1:=by
    have hI':=hI
    unfold Ins at hI'
    have c0:F.getD (Aj l i).f0.toNat 0≤(Aj l i).f1:=by
      rcases Int.lt_or_le (Aj l i).f1 (F.getD (Aj l i).f0.toNat 0) with q|q
      · exfalso
        have:=(h.cov (Aj l i).f0.toNat (by omega) (Aj l i).f1 (by omega)).1 q
        rw [colI _ (by omega)] at this
        exact later i (Nat.le_refl _) hi _ _ (by unfold Gg;omega) this
      · exact q
    have c1:=m2 (Aj l i).f0.toNat (by omega)
    have p0:=h.pos (Cc F) (by omega)
    obtain ⟨j,hj,hin⟩:=Na hg (Cc F:Int) (F.getD (Cc F) 0) (by omega) (by omega)
    have hij:i≤j:=by
      rcases Nat.lt_or_ge j i with q|q
      · exfalso
        have:=(h.cov (Cc F) (by omega) (F.getD (Cc F) 0) p0).2 ⟨_,(J0 l i _).2 ⟨j,q,hj,rfl⟩,hin⟩
        omega
      · exact q
    have hJ:=(hg.2.2.2.1 j hj).1
    unfold Ins at hJ
    have hin':=hin
    unfold Gg at hin'
    have y1:(Aj l j).f1=F.getD (Cc F) 0:=by
      rcases Int.lt_or_le (Aj l j).f1 (F.getD (Cc F) 0) with q|q
      · exact absurd ((h.cov (Cc F) (by omega) (Aj l j).f1 (by omega)).1 q) (later j hij hj _ _ (by unfold Gg;omega))
      · omega
    have x1:(Aj l j).f0=(Cc F:Int):=by
      rcases Int.lt_or_le (Aj l j).f0 (Cc F:Int) with q|q
      · exfalso
        have:=m3 (Aj l j).f0.toNat (by omega)
        have:=(h.cov (Aj l j).f0.toNat (by omega) (F.getD (Cc F) 0) p0).1 this
        rw [colI _ (by omega)] at this
        exact later j hij hj _ _ (by unfold Gg;omega) this
      · omega
    by_cases e:i=j
    · subst e;exact ⟨x1.symm,y1.symm⟩
    · have hl:=Je hg (show i<j by omega) hj
      unfold D4 at hl
      have y2:(Aj l i).f1=F.getD (Cc F) 0:=by omega
      have x2:¬ ((Aj l i).f0<(Cc F:Int)):=fun q=>by
        have:=m3 (Aj l i).f0.toNat (by omega)
        omega
      omega
  obtain ⟨k1,k2⟩:=key
  unfold Ins at hI
  have fok:Jd F (Aj l i).f2:=by
    refine ⟨by omega,fun c a1 a2=>?_⟩
    have:=m2 c (by omega)
    rcases Int.lt_or_le (F.getD (Cc F) 0) (F.getD c 0) with q|q
    · exact absurd ((h.cov c (by omega) (F.getD (Cc F) 0) (by omega)).1 q) (later i (Nat.le_refl _) hi _ _ (by unfold Gg;omega))
    · omega
  refine ⟨⟨k1,k2⟩,fok,?_⟩
  have hd:(((Aj l i).f2.toNat:Nat):Int)=(Aj l i).f2:=colI _ (by omega)
  have hset:=Ma F (Cc F) (F.getD (Cc F) 0+(Aj l i).f2) (Aj l i).f2.toNat (by omega)
  refine ⟨by rw [Ji];exact h.len,fun c hc=>?_,fun c hc y hy=>?_⟩
  · rw [hset c]
    split
    · omega
    · exact h.pos c hc
  · have tk : ∀ s : Sq, s ∈ l.take (i + 1) ↔ s ∈ l.take i ∨ s = Aj l i := fun s => by
      rw [J0,J0]
      constructor
      · rintro ⟨j,q1,q2,q3⟩
        by_cases e:j=i
        · subst e;exact Or.inr q3
        · exact Or.inl ⟨j,by omega,q2,q3⟩
      · rintro (⟨j,q1,q2,q3⟩|q)
        · exact ⟨j,by omega,q2,q3⟩
        · exact ⟨i,by omega,hi,q⟩
    have old:=h.cov c hc y hy
    rw [hset c]
    by_cases hcc:Cc F≤c∧c<Cc F+(Aj l i).f2.toNat
    · rw [if_pos hcc]
      have hb:=fok.2 c hcc.1 (by omega)
      constructor
      · intro hlt
        by_cases q:y<F.getD c 0
        · obtain ⟨s,hs,a0⟩:=old.1 q
          exact ⟨s,(tk s).2 (Or.inl hs),a0⟩
        · exact ⟨Aj l i,(tk _).2 (Or.inr rfl),by unfold Gg;omega⟩
      · rintro ⟨s,hs,a0⟩
        rcases (tk s).1 hs with q|q
        · have:=old.2 ⟨s,q,a0⟩;omega
        · subst q;unfold Gg at a0;omega
    · rw [if_neg hcc]
      constructor
      · intro hlt
        obtain ⟨s,hs,a0⟩:=old.1 hlt
        exact ⟨s,(tk s).2 (Or.inl hs),a0⟩
      · rintro ⟨s,hs,a0⟩
        rcases (tk s).1 hs with q|q
        · exact old.2 ⟨s,q,a0⟩
        · subst q;unfold Gg at a0;omega
theorem Rz {W H:Int} {l:List Sq} (hg:Bz W H l):∀ (t:List Sq) (i:Nat) (F:List Int),l.drop i=t→i+t.length=l.length→Cov W F (l.take i)→∃ F',Cov W F' l∧Gr (t.map fun s=>s.f2) F (l.take i)=some (F',l)
  | [],i,F,hd,hl,h=>by
    have e:l.take i=l:=List.take_of_length_le (by simp at hl;omega)
    rw [e] at h ⊢
    exact ⟨F,h,rfl⟩
  | s::t,i,F,hd,hl,h=>by
    obtain ⟨hi,es,ht⟩:=Ir l i s t hd
    obtain ⟨⟨k1,k2⟩,hok,hc⟩:=back_step hg i hi F h
    rw [es] at k1 k2 hok hc
    have e:l.take i++[⟨(Cc F:Int),F.getD (Cc F) 0,s.f2⟩]=l.take (i+1):=by
      rw [List.take_succ_eq_append_getElem hi,← Ci l i hi,es,k1,k2]
    obtain ⟨F',h1,h2⟩:=Rz hg t (i+1) _ ht (by simp at hl;omega) hc
    refine ⟨F',h1,?_⟩
    rw [List.map_cons,Gr,if_pos hok,e]
    exact h2
theorem cov_start {W:Int} (hW:0≤W):Cov W (List.replicate W.toNat 0) []:=by
  have h0:∀ c:Nat,(c:Int)<W→(List.replicate W.toNat (0:Int)).getD c 0=0:=fun c hc=>by
    rw [List.getD_eq_getElem?_getD,List.getElem?_eq_getElem (by simp;omega)];simp
  refine ⟨by simp;omega,fun c hc=>by rw [h0 c hc];omega,fun c hc y hy=>?_⟩
  rw [h0 c hc]
  exact ⟨fun h=>by omega,fun ⟨s,hs,_⟩=>by cases hs⟩
theorem cov_end {W H:Int} {l:List Sq} (hg:Bz W H l) {F:List Int} (h:Cov W F l) (c:Nat) (hc:(c:Int)<W):F.getD c 0=H:=by
  have hH:=hg.2.1
  have h1:F.getD c 0≤H:=by
    rcases Int.lt_or_le H (F.getD c 0) with q|q
    · obtain ⟨s,hs,a0⟩:=(h.cov c hc H (by omega)).1 q
      have:=Gl hg hs
      unfold Ins at this;unfold Gg at a0;omega
    · exact q
  obtain ⟨j,hj,hin⟩:=Na hg (c:Int) (H-1) (by omega) (by omega)
  have:=(h.cov c hc (H-1) (by omega)).2 ⟨_,Jv l j hj,hin⟩
  omega
theorem R0 {W H:Int} {l:List Sq} (hg:Bz W H l):Jw W (l.map fun s=>s.f2):=by
  have hW:=hg.1
  have hH:=hg.2.1
  have hl:=hg.2.2.1
  refine ⟨hW,by rw [List.length_map];exact hl,fun s hs=>?_⟩
  obtain ⟨q,hq,rfl⟩:=List.mem_map.1 hs
  have:=Gl hg hq
  unfold Ins at this
  omega
/-- the squares' sides tell the cut again -/
theorem Qy {W H:Int} {l:List Sq} (hg:Bz W H l):Dj W (l.map fun s=>s.f2)=(W,H,l,true):=by
  have hW:=hg.1
  obtain ⟨F,h1,h2⟩:=Rz hg l 0 (List.replicate W.toNat 0) rfl (by omega) (by rw [List.take_zero];exact cov_start (by omega))
  rw [List.take_zero] at h2
  have e0:=cov_end hg h1 0 (by omega)
  unfold Dj
  rw [if_pos (R0 hg),h2]
  unfold G8
  dsimp only
  rw [e0,if_pos hg]
theorem R1 (L:List (List Int)) (v:Int) (h:0<L.length):(L.set (L.length-1) (L.getD (L.length-1) []++[v])).flatten=L.flatten++[v]:=by
  obtain ⟨a,b,rfl⟩:∃ a b,L=a++[b]:=⟨L.dropLast,L.getLast (by intro e;subst e;simp at h),(List.dropLast_concat_getLast (by intro e;subst e;simp at h)).symm⟩
  simp [List.getD]
theorem J7 (l:List Sq):∀ n,n≤l.length→(Bh l n).flatten=(l.take n).map fun s=>s.f2
  | 0,_=>rfl
  | n+1,hn=>by
    have ih:=J7 l n (by omega)
    have e:(l.take (n+1)).map (fun s=>s.f2)=((l.take n).map fun s=>s.f2)++[(Aj l n).f2]:=by
      rw [List.take_succ_eq_append_getElem (by omega),List.map_append,Ci l n (by omega)];rfl
    simp only [Bh]
    split
    · rename_i hj
      rw [R1 _ _ ((Gh l n).2 hj.1),ih,e]
    · rw [List.flatten_append,ih,e];simp

/-! ### a cut's code tells the cut again -/
theorem R2 {W H:Int} {l:List Sq} (hg:Bz W H l):(Aj l 0).f0=0∧(Aj l 0).f1=0:=by
  obtain ⟨j,hj,hin⟩:=Na hg 0 0 (by have:=hg.1;omega) (by have:=hg.2.1;omega)
  have hJ:=(hg.2.2.2.1 j hj).1
  have h0:=(hg.2.2.2.1 0 (by omega)).1
  by_cases e:j=0
  · subst e;unfold Gg at hin;unfold Ins at hJ;omega
  · have:=Je hg (show 0<j by omega) hj
    unfold D4 at this;unfold Gg at hin;unfold Ins at hJ h0;omega
theorem Qz {L:List (List Int)} {i j:Nat} {v:List Int} (h:i<L.length):(L.set i v).getD j []=if j=i then v else L.getD j []:=by
  rw [List.getD_eq_getElem?_getD,List.getElem?_set]
  by_cases e:i=j
  · subst e;rw [if_pos rfl,if_pos h,if_pos rfl];rfl
  · rw [if_neg e,if_neg (fun h=>e h.symm),List.getD_eq_getElem?_getD]
theorem Ui (l:List Sq):∀ n,1≤n→n≤l.length→∃ m,1≤m∧m≤n∧(Bh l n).getD 0 []=((l.take m).map fun s=>s.f2)∧(∀ i,1≤i→i<m→Gu l i)∧(m<n→¬ Gu l m)∧(m=n↔(Bh l n).length=1):=by
  intro n
  induction n with
  | zero=>intro h;omega
  | succ n ih =>
    intro _ hn
    by_cases h0:n=0
    · subst h0
      have hj:¬ Gu l 0:=fun h=>by unfold Gu at h;omega
      refine ⟨1,by omega,by omega,?_,fun i _ _=>by omega,fun _=>by omega,?_⟩
      · simp only [Bh];rw [if_neg hj,List.take_succ_eq_append_getElem (by omega),Ci l 0 (by omega)];rfl
      · simp only [Bh];rw [if_neg hj];simp
    · obtain ⟨m,m1,m2,m3,m4,m5,m6⟩:=ih (by omega) (by omega)
      obtain ⟨L1,L2⟩:=Gh l n
      have L3:=L2 (by omega)
      simp only [Bh]
      by_cases hj:Gu l n
      · rw [if_pos hj,List.length_set]
        by_cases e:m=n
        · have e1:=m6.1 e
          subst e
          refine ⟨m+1,by omega,by omega,?_,fun i h1 h2=>?_,fun h=>by omega,by rw [e1];simp⟩
          · rw [e1,Qz (by omega),if_pos rfl,m3,List.take_succ_eq_append_getElem (by omega),List.map_append,Ci l m (by omega)];rfl
          · by_cases e2:i=m
            · subst e2;exact hj
            · exact m4 i h1 (by omega)
        · have e1:(Bh l n).length≠1:=fun h=>e (m6.2 h)
          refine ⟨m,m1,by omega,?_,m4,fun h=>?_,⟨fun h=>by omega,fun h=>absurd h e1⟩⟩
          · rw [Qz (by omega),if_neg (by omega)];exact m3
          · exact m5 (by omega)
      · rw [if_neg hj]
        refine ⟨m,m1,by omega,?_,m4,fun h=>?_,⟨fun h=>by omega,fun h=>by rw [List.length_append,List.length_singleton] at h;omega⟩⟩
        · rw [List.getD_eq_getElem?_getD,List.getElem?_append_left L3,← List.getD_eq_getElem?_getD];exact m3
        · by_cases e:m=n
          · subst e;exact hj
          · exact m5 (by omega)
theorem row_sum {W H:Int} {l:List Sq} (hg:Bz W H l):∀ m,1≤m→m≤l.length→(∀ i,1≤i→i<m→Gu l i)→((l.take m).map fun s=>s.f2).sum=(Aj l (m-1)).f0+(Aj l (m-1)).f2∧(Aj l (m-1)).f1=0:=by
  intro m
  induction m with
  | zero=>intro h;omega
  | succ m ih =>
    intro _ hm hj
    have e:(l.take (m+1)).map (fun s=>s.f2)=((l.take m).map fun s=>s.f2)++[(Aj l m).f2]:=by
      rw [List.take_succ_eq_append_getElem (by omega),List.map_append,Ci l m (by omega)];rfl
    rw [e,List.sum_append,Nat.add_sub_cancel]
    obtain ⟨f0,f1⟩:=R2 hg
    by_cases h0:m=0
    · subst h0;simp;omega
    · obtain ⟨i1,i2⟩:=ih (by omega) (by omega) (fun i h1 h2=>hj i h1 (by omega))
      have:=hj m (by omega) (by omega)
      unfold Gu at this
      rw [i1]
      simp
      omega
theorem row_all {W H:Int} {l:List Sq} (hg:Bz W H l):((Bh l l.length).getD 0 []).sum=W:=by
  have hl:=hg.2.2.1
  obtain ⟨m,m1,m2,m3,m4,m5,_⟩:=Ui l l.length (by omega) (Nat.le_refl _)
  obtain ⟨s1,s2⟩:=row_sum hg m m1 m2 m4
  rw [m3,s1]
  have hI:=(hg.2.2.2.1 (m-1) (by omega)).1
  rcases Int.lt_or_le ((Aj l (m-1)).f0+(Aj l (m-1)).f2) W with q|q
  · exfalso
    have hI':=hI
    unfold Ins at hI'
    obtain ⟨j,hj,hin⟩:=Na hg ((Aj l (m-1)).f0+(Aj l (m-1)).f2) 0 (by omega) (by omega)
    have hJ:=(hg.2.2.2.1 j hj).1
    have jne:j≠m-1:=fun e=>by subst e;unfold Gg at hin;omega
    have hno:¬ Ovl (Aj l j) (Aj l (m-1)):=fun ho=>by
      rcases Nat.lt_trichotomy j (m-1) with k|k|k
      · exact (hg.2.2.2.1 (m-1) (by omega)).2.2 j k (Kq ho)
      · exact jne k
      · exact (hg.2.2.2.1 j hj).2.2 (m-1) k ho
    have jx:(Aj l j).f0=(Aj l (m-1)).f0+(Aj l (m-1)).f2∧(Aj l j).f1=0:=by
      unfold Gg at hin;unfold Ins at hJ;unfold Ovl at hno;omega
    have jm:m≤j:=by
      rcases Nat.lt_or_ge j m with k|k
      · have:=Je hg (show j<m-1 by omega) (by omega)
        unfold D4 at this;omega
      · exact k
    have hM:=(hg.2.2.2.1 m (by omega)).1
    have h1:=Je hg (show m-1<m by omega) (by omega)
    have hmo:=(hg.2.2.2.1 m (by omega)).2.2 (m-1) (by omega)
    have h2:m=j∨D4 (Aj l m) (Aj l j):=by
      by_cases e:m=j
      · exact Or.inl e
      · exact Or.inr (Je hg (by omega) hj)
    refine m5 (by omega) ⟨by omega,?_,?_⟩
    · rcases h2 with e|e
      · rw [show Aj l m=Aj l j by rw [e]];omega
      · unfold D4 at e;unfold Ins at hM;omega
    · rcases h2 with e|e
      · rw [show Aj l m=Aj l j by rw [e]];omega
      · unfold D4 at e h1;unfold Ins at hM;unfold Ovl at hmo;omega
  · unfold Ins at hI;omega
theorem code_ok {W H:Int} {l:List Sq} (hg:Bz W H l):Jj 1 (Bh l l.length):=by
  have hl:=hg.2.2.1
  obtain ⟨c1,c2⟩:=Gh l l.length
  refine ⟨by have:=c2 (by omega);omega,fun g h=>?_⟩
  have:=E0 l l.length g h
  refine ⟨by omega,fun x hx=>?_⟩
  have hm:x ∈ (Bh l l.length).flatten:=List.mem_flatten.2 ⟨g,h,hx⟩
  rw [J7 l l.length (Nat.le_refl _),List.take_length] at hm
  exact (R0 hg).2.2 x hm
/-- the code of a cut is a code, of that cut -/
theorem code_back {W H:Int} {l:List Sq} (hg:Bz W H l):Cw (Bh l l.length)=(W,H,l,true):=by
  unfold Cw
  rw [if_pos (code_ok hg),row_all hg,J7 l l.length (Nat.le_refl _),List.take_length,Qy hg]
  unfold Jh
  rw [if_pos ⟨rfl,rfl⟩]
/-- a place's group, told -/
theorem R3:∀ (t:List (List Int)) (x i:Int),0≤x→x<(t.flatten.length:Int)→∃ q:Nat,q<t.length∧Jz t x i=(i+q,true)∧((t.take q).flatten.length:Int)≤x∧x<((t.take q).flatten.length:Int)+((t.getD q []).length:Int)
  | [],x,i,h0,h1=>by simp at h1;omega
  | g::t,x,i,h0,h1=>by
    rw [List.flatten_cons,List.length_append] at h1
    simp only [Jz]
    by_cases c:x<(g.length:Int)
    · rw [if_pos c]
      exact ⟨0,by simp,by simp,by simp;exact h0,by simp;exact c⟩
    · rw [if_neg c]
      obtain ⟨q,q1,q2,q3,q4⟩:=R3 t (x-g.length) (i+1) (by omega) (by omega)
      refine ⟨q+1,by simp;omega,?_,?_,?_⟩
      · rw [q2];congr 1;push_cast;omega
      · rw [List.take_succ_cons,List.flatten_cons,List.length_append];push_cast;omega
      · rw [List.take_succ_cons,List.flatten_cons,List.length_append,List.getD_cons_succ];push_cast;omega

/-! ### levels rise from 0, and are no more than groups -/
theorem Nv {W H:Int} {l:List Sq} (hg:Bz W H l) (i:Nat) (hi:i<l.length):lev l (i+1)=if (Aj l i).f1 ∈ lev l i then lev l i else lev l i++[(Aj l i).f1]:=by
  rw [Nu]
  by_cases c:(Aj l i).f1 ∈ lev l i
  · rw [if_pos c,if_neg ((Nb hg i hi).1 c),List.append_nil]
  · rw [if_neg c,if_pos (Decidable.byContradiction fun h=>c ((Nb hg i hi).2 h)),Iw l i hi]
theorem Nw {W H:Int} {l:List Sq} (hg:Bz W H l):∀ i,i≤l.length→(lev l i).Pairwise (·<·)
  | 0, _ => by have : lev l 0 = [] := by rw [← List.length_eq_zero_iff]; have := Kl l 0; omega
               rw [this];exact List.Pairwise.nil
  | i+1,hi=>by
    rw [Nv hg i (by omega)]
    split
    · exact Nw hg i (by omega)
    · rename_i c
      rw [List.pairwise_append]
      refine ⟨Nw hg i (by omega),List.pairwise_singleton _ _,fun a ha b hb=>?_⟩
      rw [List.mem_singleton] at hb
      subst hb
      obtain ⟨j,hj,rfl⟩:=Ry l i (by omega) a ha
      have:=Qh hg i (by omega) j (by omega)
      have:(Aj l j).f1≠(Aj l i).f1:=fun e=>c (e ▸ ha)
      omega
theorem R4 {W H:Int} {l:List Sq} (hg:Bz W H l):∀ i,1≤i→i≤l.length→(lev l i).getD 0 1=0∧1≤(lev l i).length
  | 0,h,_=>by omega
  | i+1,_,hi=>by
    rw [Nv hg i (by omega)]
    by_cases e:i=0
    · subst e
      have:lev l 0=[]:=by rw [← List.length_eq_zero_iff];have:=Kl l 0;omega
      rw [this,if_neg (by simp)]
      exact ⟨(R2 hg).2,by simp⟩
    · obtain ⟨h1,h2⟩:=R4 hg i (by omega) (by omega)
      split
      · exact ⟨h1,h2⟩
      · refine ⟨?_,by simp⟩
        rw [List.getD_eq_getElem?_getD,List.getElem?_append_left (by omega),← List.getD_eq_getElem?_getD];exact h1
theorem N8 {W H:Int} {l:List Sq} (hg:Bz W H l):∀ i,i≤l.length→(lev l i).length≤(Bh l i).length
  | 0,_=>by have:=Kl l 0;omega
  | i+1,hi=>by
    have ih:=N8 hg i (by omega)
    rw [Nv hg i (by omega)]
    simp only [Bh]
    by_cases hj:Gu l i
    · have : (Aj l i).f1 ∈ lev l i := by
        have:=lev_has l i (by omega) (i-1) (by unfold Gu at hj;omega)
        rw [hj.2.1] at this;exact this
      rw [if_pos this,if_pos hj,List.length_set];exact ih
    · rw [if_neg hj,List.length_append,List.length_singleton]
      split
      · omega
      · simp;omega
/-! ### a filled cut has the sides that it was filled with -/
theorem Nl:∀ (t F:List Int) (l:List Sq) (F':List Int) (l':List Sq),Gr t F l=some (F',l')→(l'.map fun s=>s.f2)=(l.map fun s=>s.f2)++t
  | [],F,l,F',l',h=>by
    rw [Gr] at h
    obtain ⟨rfl,rfl⟩:=Prod.mk.inj (Option.some.inj h)
    simp
  | s::t,F,l,F',l',h=>by
    rw [Gr] at h
    split at h
    · have:=Nl t _ _ F' l' h
      rw [this];simp
    · cases h
theorem Uj {W:Int} {T:List Int} (h:(Dj W T).2.2.2=true):(Dj W T).1=W∧((Dj W T).2.2.1.map fun s=>s.f2)=T:=by
  unfold Dj G8 at *
  split at h
  · rename_i ho
    rw [if_pos ho]
    have hs:=Nl T (List.replicate W.toNat 0) []
    generalize Gr T (List.replicate W.toNat 0) []=R at h hs ⊢
    cases R with
    | none=>cases h
    | some p =>
      obtain ⟨F,l⟩:=p
      dsimp only at h ⊢
      split at h
      · rename_i hg
        rw [if_pos hg]
        exact ⟨rfl,by have:=hs F l rfl;simpa using this⟩
      · cases h
  · cases h

/-! ### what the law itself asks -/
theorem Mp (l:List Int) (hl:l.length≤1000000):Ev (fun k=>Cr.f k l l) true:=by
  have lp:∀ (d i:Nat),l.length-i=d→i≤l.length→Ev (fun k=>Cr.l0 k l l (l.length:Int) (i:Int)) true:=by
    intro d
    induction d with
    | zero=>intro i hd hi;refine Ev.succ ?_;simp only [Cr.l0];exact Ev.neg (by omega) (Ev.now _)
    | succ d ih =>
      intro i hd hi
      refine Ev.succ ?_
      simp only [Cr.l0]
      refine Ev.pos (by omega) (Ev.pos (by omega) (Ev.pos (by omega) (Ev.pos (by omega) (Ev.pos (by trivial) ?_))))
      rw [Ai (n:=(i:Int)+1) (by omega) (by omega)]
      exact ih (i+1) (by omega) (by omega)
  unfold Cr.f
  exact Ev.pos rfl (lp l.length 0 (by omega) (by omega))
theorem Mq (l:List (List Int)) (hl:l.length≤1000000) (hr:∀ r ∈ l,r.length≤1000000):Ev (fun k=>C7.f k l l) true:=by
  have lp:∀ (d i:Nat),l.length-i=d→i≤l.length→Ev (fun k=>C7.l0 k l l (l.length:Int) (i:Int)) true:=by
    intro d
    induction d with
    | zero=>intro i hd hi;refine Ev.succ ?_;simp only [C7.l0];exact Ev.neg (by omega) (Ev.now _)
    | succ d ih =>
      intro i hd hi
      refine Ev.succ ?_
      simp only [C7.l0]
      have e:(Az l (i:Int)).length≤1000000:=by
        unfold Az
        rw [Int.toNat_natCast,List.getD_eq_getElem?_getD,List.getElem?_eq_getElem (show i<l.length by omega)]
        exact hr _ (List.getElem_mem _)
      refine Ev.pos (by omega) (Ev.pos (by omega) (Ev.pos (by omega) (Ev.pos (by omega) (Ev.bind (Mp _ e) (Ev.pos rfl ?_)))))
      rw [Ai (n:=(i:Int)+1) (by omega) (by omega)]
      exact ih (i+1) (by omega) (by omega)
  unfold C7.f
  exact Ev.pos rfl (lp l.length 0 (by omega) (by omega))
theorem zrises_ev (l:List Int) (hl:l.length≤1000000) (hp:l.Pairwise (·<·)):Ev (fun k=>Dl.f k l) true:=by
  have lp:∀ (d i:Nat),l.length-i=d→1≤i→Ev (fun k=>Dl.l0 k l (i:Int)) true:=by
    intro d
    induction d with
    | zero=>intro i hd hi;refine Ev.succ ?_;simp only [Dl.l0];exact Ev.neg (by omega) (Ev.now _)
    | succ d ih =>
      intro i hd hi
      refine Ev.succ ?_
      simp only [Dl.l0]
      have hlt:rd l ((i:Int)-1)<rd l (i:Int):=by
        have:=List.pairwise_iff_getElem.1 hp (i-1) i (by omega) (by omega) (by omega)
        unfold rd
        rw [show ((i:Int)-1).toNat=i-1 by omega,Int.toNat_natCast,List.getD_eq_getElem?_getD,List.getElem?_eq_getElem (show i-1<l.length by omega),List.getD_eq_getElem?_getD,List.getElem?_eq_getElem (show i<l.length by omega)]
        exact this
      rw [Ai (n:=(i:Int)-1) (by omega) (by omega)]
      refine Ev.pos (by omega) (Ev.pos (by omega) (Ev.pos (by omega) (Ev.pos (by omega) (Ev.neg (by omega) ?_))))
      rw [Ai (n:=(i:Int)+1) (by omega) (by omega)]
      exact ih (i+1) (by omega) (by omega)
  unfold Dl.f
  exact lp (l.length-1) 1 (by omega) (Nat.le_refl _)
theorem Qi (W H:Int) (l:List Sq) (hl:l.length≤1000000):Ev (fun k=>Cu.f k W H l W H l) true:=by
  have lp:∀ (d i:Nat),l.length-i=d→i≤l.length→Ev (fun k=>Cu.l0 k (l.length:Int) (i:Int) W H l W H l) true:=by
    intro d
    induction d with
    | zero=>intro i hd hi;refine Ev.succ ?_;simp only [Cu.l0];exact Ev.neg (by omega) (Ev.now _)
    | succ d ih =>
      intro i hd hi
      refine Ev.succ ?_
      simp only [Cu.l0]
      refine Ev.pos (by omega) (Ev.pos (by omega) (Ev.pos (by omega) (Ev.pos (by omega) (Ev.neg (by simp) ?_))))
      rw [Ai (n:=(i:Int)+1) (by omega) (by omega)]
      exact ih (i+1) (by omega) (by omega)
  unfold Cu.f
  refine Ev.pos rfl (Ev.pos rfl (Ev.succ ?_))
  simp only [Cu.j0]
  exact Ev.neg (by simp) (lp l.length 0 (by omega) (by omega))
theorem zsum_loop (g:List Int) (hg:g.length≤100000) (hx:∀ x ∈ g,1≤x∧x≤500):∀ (t:List Int) (i:Nat) (a:Int),g.drop i=t→i+t.length=g.length→0≤a→a+t.sum≤100000000→Ev (fun k=>Ec.l0 k a g (g.length:Int) (i:Int)) (a+t.sum):=by
  intro t
  induction t with
  | nil =>
    intro i a hd hi h0 h1
    simp only [List.length_nil] at hi
    refine Ev.succ ?_
    simp only [Ec.l0]
    exact Ev.neg (by omega) (Ev.eqr (Ev.now _) (by simp))
  | cons x t ih =>
    intro i a hd hi h0 h1
    obtain ⟨h2,h3,h4,h5⟩:=Gv g i x t hd 0
    have a0:=hx x h5
    have ht:0≤t.sum:=(Ku t (fun y hy=>hx y (by rw [← h4] at hy;exact List.mem_of_mem_drop hy))).1
    simp only [List.length_cons] at hi
    rw [List.sum_cons] at h1 ⊢
    refine Ev.succ ?_
    simp only [Ec.l0,rdInt,h3]
    refine Ev.pos (by omega) (Ev.pos (by omega) (Ev.pos (by omega) ?_))
    rw [Ai (n:=a+x) (by omega) (by omega),Ai (n:=(i:Int)+1) (by omega) (by omega)]
    exact Ev.eqr (ih (i+1) (a+x) h4 (by omega) (by omega) (by omega)) (by omega)
theorem zsum_ev (g:List Int) (hg:g.length≤30) (hx:∀ x ∈ g,1≤x∧x≤500):Ev (fun k=>Ec.f k g) g.sum:=by
  unfold Ec.f
  have:=(Ku g hx).2
  exact Ev.eqr (zsum_loop g (by omega) hx g 0 0 rfl (by omega) (by omega) (by omega)) (by omega)
theorem zall_loop (c:List (List Int)) (hc:c.length≤1000) (hr:∀ g ∈ c,g.length≤1000):∀ (t:List (List Int)) (i:Nat) (a:List Int),c.drop i=t→i+t.length=c.length→a.length+t.length*1000≤100000000→Ev (fun k=>Dd.l0 k a c (c.length:Int) (i:Int)) (a++t.flatten):=by
  intro t
  induction t with
  | nil =>
    intro i a hd hi h
    simp only [List.length_nil] at hi
    refine Ev.succ ?_
    simp only [Dd.l0]
    exact Ev.neg (by omega) (Ev.eqr (Ev.now _) (by simp))
  | cons g t ih =>
    intro i a hd hi h
    obtain ⟨h2,h3,h4,h5⟩:=Gv c i g t hd []
    have hgl:=hr g h5
    simp only [List.length_cons] at hi h
    refine Ev.succ ?_
    simp only [Dd.l0,Im,h3]
    refine Ev.pos (by omega) (Ev.pos (by omega) (Ev.pos (by omega) (Ev.pos (by omega) ?_)))
    rw [Ai (n:=(i:Int)+1) (by omega) (by omega)]
    exact Ev.eqr (ih (i+1) (a++g) h4 (by omega) (by rw [List.length_append];omega)) (by simp)
theorem zall_ev (c:List (List Int)) (hc:c.length≤1000) (hr:∀ g ∈ c,g.length≤1000):Ev (fun k=>Dd.f k c) c.flatten:=by
  unfold Dd.f
  exact Ev.eqr (zall_loop c hc hr c 0 [] rfl (by omega) (by simp;omega)) (by simp)

/-! ### the law -/
theorem M5 (W H:Int) (l:List Sq):∃ R:List (List Int),R.length≤1000∧(∀ r ∈ R,r.length≤1000)∧Ev (fun k=>Gp.f k W H l) (R,decide (Bz W H l))∧Ev (fun k=>Ek.f k W H l) (R,decide (Bz W H l))∧(Bz W H l→R=Bh l l.length):=by
  by_cases hg:Bz W H l
  · have a0:=hg.2.2.1
    have h1:=(Gh l l.length).1
    rw [decide_eq_true hg]
    refine ⟨Bh l l.length,by omega,fun r hr=>by have:=E0 l l.length r hr;omega,?_,?_,fun _=>rfl⟩
    · unfold Gp.f
      exact Ev.bind (Gk W H l) (Ev.pos (decide_eq_true hg) (Ev.bind (I4 hg) (Ev.now _)))
    · unfold Ek.f
      exact Ev.bind (Gb W H l) (Ev.pos (decide_eq_true hg) (Ev.bind (I3 hg) (Ev.now _)))
  · rw [decide_eq_false hg]
    refine ⟨[],Nat.zero_le _,fun r hr=>absurd hr (by simp),?_,?_,fun h=>absurd h hg⟩
    · unfold Gp.f
      exact Ev.bind (Gk W H l) (Ev.neg (by simpa using hg) (Ev.now _))
    · unfold Ek.f
      exact Ev.bind (Gb W H l) (Ev.neg (by simpa using hg) (Ev.now _))
theorem R5 (W H : Int) (l : List Sq) : ∃ R : List (List Int), R.length ≤ 1000 ∧ (∀ r ∈ R, r.length ≤ 1000) ∧ Ev (fun k => E3.f k W H l) (R, decide (Bz W H l)) ∧ Ev (fun k => E2.f k W H l) (R, decide (Bz W H l)) ∧
    (Bz W H l→∃ c:Ct,Bz c.f0 c.f1 c.f2∧Ev (fun k=>De.f k W H l) (c.f0,c.f1,c.f2,true)∧Bh c.f2 c.f2.length=R):=by
  by_cases hg:Bz W H l
  · obtain ⟨c,gc,s1,s2⟩:=firstT_ev hg
    have a0:=gc.2.2.1
    have h1:=(Gh c.f2 c.f2.length).1
    rw [decide_eq_true hg]
    refine ⟨Bh c.f2 c.f2.length,by omega,fun r hr=>by have:=E0 c.f2 c.f2.length r hr;omega,?_,?_,fun _=>⟨c,gc,Ky hg s2,rfl⟩⟩
    · unfold E3.f
      exact Ev.bind (Gk W H l) (Ev.pos (decide_eq_true hg) (Ev.bind s1 (Ev.bind (I4 gc) (Ev.now _))))
    · unfold E2.f
      exact Ev.bind (Ky hg s2) (Ev.pos rfl (Ev.bind (I3 gc) (Ev.now _)))
  · rw [decide_eq_false hg]
    refine ⟨[],Nat.zero_le _,fun r hr=>absurd hr (by simp),?_,?_,fun h=>absurd h hg⟩
    · unfold E3.f
      exact Ev.bind (Gk W H l) (Ev.neg (by simpa using hg) (Ev.now _))
    · unfold E2.f
      exact Ev.bind (Qg hg) (Ev.neg (by simp) (Ev.now _))
theorem law_j7 (w:Int) (s:List Int) (hs:s.length≤10000):Ev (fun k=>laws_FnCodesToldOfAll.j7 k w s (Dj w s).2.2.2 (Dj w s).1 (Dj w s).2.1 (Dj w s).2.2.1) true:=by
  refine Ev.succ ?_
  simp only [laws_FnCodesToldOfAll.j7]
  by_cases h:(Dj w s).2.2.2=true
  · obtain ⟨f1,f2⟩:=Uj h
    have s1:=K0 (Dj w s).1 (Dj w s).2.1 (Dj w s).2.2.1
    rw [if_pos (Ki h),f2] at s1
    refine Ev.pos h (Ev.bind s1 (Ev.pos rfl (Ev.bind (Mp s (by omega)) (Ev.pos rfl ?_))))
    exact Ev.eqr (Ev.now _) (by rw [f1];simp)
  · exact Ev.neg h (Ev.now _)
theorem law_j6 (c:List (List Int)) (w:Int) (s:List Int) (hs:s.length≤10000):Ev (fun k=>laws_FnCodesToldOfAll.j6 k c w s (Cw c).2.2.2 (Dj w s).2.2.2 false (Cw c).1 (Cw c).2.1 (Cw c).2.2.1 (Dj w s).1 (Dj w s).2.1 (Dj w s).2.2.1) true:=by
  have next:=law_j7 w s hs
  refine Ev.succ ?_
  simp only [laws_FnCodesToldOfAll.j6]
  refine Ev.neg (by simp) ?_
  by_cases h:(Cw c).2.2.2=true
  · obtain ⟨hg,hc⟩:=Rw h
    obtain ⟨R,r1,r2,_,r4,r5⟩:=M5 (Cw c).1 (Cw c).2.1 (Cw c).2.2.1
    have k9:=Mq R (by omega) (fun r hr=>by have:=r2 r hr;omega)
    obtain rfl:R=c:=(r5 hg).trans hc
    rw [decide_eq_true hg] at r4
    exact Ev.pos h (Ev.bind r4 (Ev.pos rfl (Ev.bind k9 (Ev.pos rfl next))))
  · exact Ev.neg h next
theorem law_j5 (c:List (List Int)) (w:Int) (s:List Int) (hs:s.length≤10000) (kk dW dH:Int) (dl:List Sq):Ev (fun k=>laws_FnCodesToldOfAll.j5 k c w s kk dW dH dl) true:=by
  refine Ev.succ ?_
  simp only [laws_FnCodesToldOfAll.j5]
  have next:=law_j6 c w s hs
  have c1:=Kf c
  have c2:Ev (fun k=>Gd.f k c) (Cw c):=by
    unfold Gd.f
    exact Ev.bind (Ms c) (Ev.now _)
  have i1:Ev (fun k=>Dg.f k c) (Cw c).2.2.2:=by
    unfold Dg.f
    exact Ev.bind c1 (Ev.now _)
  have i2:Ev (fun k=>Ge.f k c) (Cw c).2.2.2:=by
    unfold Ge.f
    exact Ev.bind (Ms c) (Ev.now _)
  have s1:Ev (fun k=>E8.f k w s) (Dj w s):=by
    unfold E8.f
    exact Ev.bind (Mb w s (by omega)) (Ev.now _)
  have s2:=I1 w s
  have cb:=Uf c
  have fb:=Qw w s
  have g1:=Jn dW dH dl kk
  have g2:=Md dW dH dl kk
  generalize (if Bz dW dH dl∧0≤kk∧kk<(dl.length:Int) then Jz (Bh dl dl.length) kk 0 else (0,false))=G at g1 g2
  generalize Cw c=B at *
  generalize Dj w s=V at *
  refine Ev.bind c1 (Ev.bind c2 (Ev.bind s2 (Ev.bind s1 (Ev.bind g1 (Ev.bind g2 (Ev.neg (by simp) ?_))))))
  refine Ev.bind (Qi B.1 B.2.1 B.2.2.1 (by omega)) (Ev.pos rfl (Ev.neg (by simp) (Ev.bind (Qi V.1 V.2.1 V.2.2.1 (by omega)) (Ev.pos rfl (Ev.neg (by simp) (Ev.pos rfl ?_))))))
  refine Ev.bind i1 (Ev.neg (by simp) (Ev.bind i1 (Ev.bind i2 ?_)))
  rw [show (B.2.2.2 != B.2.2.2)=false by simp]
  exact next
theorem law_l0 {W H : Int} {l : List Sq} (hg : Bz W H l) (c : List (List Int)) (w : Int) (s : List Int) (kk dW dH : Int) (dl : List Sq) (next : Ev (fun k => laws_FnCodesToldOfAll.j5 k c w s kk dW dH dl) true) : ∀ (d i : Nat), l.length - i = d → i ≤ l.length →
    Ev (fun k=>laws_FnCodesToldOfAll.l0 k c w s kk (Bh l l.length) (l.length:Int) (i:Int) W H l dW dH dl) true:=by
  have a0:=hg.2.2.1
  have hf:(Bh l l.length).flatten.length=l.length:=by
    rw [J7 l l.length (Nat.le_refl _),List.take_length,List.length_map]
  obtain ⟨b1,b2⟩:=Jm hg
  have hgrp:∀ i:Nat,i<l.length→_:=fun i hi=>R3 (Bh l l.length) (i:Int) 0 (by omega) (by rw [hf];omega)
  have hcall:∀ i:Nat,i<l.length→Ev (fun k=>Cd.f k W H l (i:Int)) (Jz (Bh l l.length) (i:Int) 0):=fun i hi=>by
    have:=Jn W H l (i:Int)
    rwa [if_pos ⟨hg,by omega,by omega⟩] at this
  generalize Bh l l.length=R at *
  intro d
  induction d with
  | zero =>
    intro i hd hi
    refine Ev.succ ?_
    simp only [laws_FnCodesToldOfAll.l0]
    exact Ev.neg (by omega) next
  | succ d ih =>
    intro i hd hi
    obtain ⟨q,q1,q2,q3,q4⟩:=hgrp i (by omega)
    have s1:=hcall i (by omega)
    rw [q2,Int.zero_add] at s1
    have z:=zall_ev (R.take q) (by rw [List.length_take];omega) (fun g hg=>b2 g (List.mem_of_mem_take hg))
    have hq:(R.getD q []).length≤1000:=by
      rw [List.getD_eq_getElem?_getD,List.getElem?_eq_getElem q1]
      exact b2 _ (List.getElem_mem _)
    have ht:(R.take q).flatten.length≤1000*1000:=by omega
    refine Ev.succ ?_
    simp only [laws_FnCodesToldOfAll.l0]
    refine Ev.pos (by omega) (Ev.bind s1 (Ev.pos rfl (Ev.neg (by dsimp only;omega) (Ev.succ ?_))))
    simp only [laws_FnCodesToldOfAll.j4,Int.toNat_natCast,Im]
    refine Ev.neg (by simp;omega) (Ev.pos (by omega) (Ev.pos (by omega) (Ev.bind z (Ev.neg (by omega) (Ev.pos (by omega) (Ev.neg ?_ ?_))))))
    · rw [Ai (n:=((R.take q).flatten.length:Int)+((R.getD q []).length:Int)) (by omega) (by omega)];omega
    · rw [Ai (n:=(i:Int)+1) (by omega) (by omega)]
      exact ih (i+1) (by omega) (by omega)
theorem law_j1 {W H : Int} {l : List Sq} (hg : Bz W H l) (F : List (List Int)) (f1 : F.length ≤ 1000) (f2 : ∀ r ∈ F, r.length ≤ 1000) (ft : Ct) (gt : Bz ft.f0 ft.f1 ft.f2) (e3 : Ev (fun k => De.f k W H l) (ft.f0, ft.f1, ft.f2, true)) (e4 : Bh ft.f2 ft.f2.length = F)
    (c:List (List Int)) (w:Int) (s:List Int) (kk dW dH:Int) (dl:List Sq) (next:Ev (fun k=>laws_FnCodesToldOfAll.j5 k c w s kk dW dH dl) true) :
    Ev (fun k=>laws_FnCodesToldOfAll.j1 k c w s kk (Bh l l.length) true F (lev l l.length) false W H l dW dH dl) true:=by
  have a4:=hg.2.2.1
  have loop:=law_l0 hg c w s kk dW dH dl next l.length 0 (by omega) (Nat.zero_le _)
  obtain ⟨b1,b2⟩:=Jm hg
  have k1:=Kf (Bh l l.length)
  rw [code_back hg] at k1
  have k2:=K0 W H l
  rw [if_pos hg] at k2
  have k3:=zall_ev (Bh l l.length) b1 b2
  rw [J7 l l.length (Nat.le_refl _),List.take_length] at k3
  have k4:=I1 W (l.map fun s=>s.f2)
  rw [Qy hg] at k4
  have k5:Ev (fun k=>Ew.f k (Bh l l.length)) ((l.length:Int),true):=by
    unfold Ew.f
    exact Ev.bind k1 (Ev.now _)
  have k6:Ev (fun k=>Dg.f k (Bh l l.length)) true:=by
    unfold Dg.f
    exact Ev.bind k1 (Ev.now _)
  obtain ⟨R,r1,r2,_,r4,r5⟩:=M5 ft.f0 ft.f1 ft.f2
  obtain rfl:R=F:=(r5 gt).trans e4
  rw [decide_eq_true gt] at r4
  have k7:=Qi W H l (by omega)
  have k8:=Mp (l.map fun s=>s.f2) (by rw [List.length_map];omega)
  have k9:=Mq R (by omega) (fun r hr=>by have:=r2 r hr;omega)
  have ok:=code_ok hg
  have c0:0<(Bh l l.length).length:=by have:=ok.1.1;omega
  have m0:(Bh l l.length).getD 0 [] ∈ Bh l l.length:=by
    rw [List.getD_eq_getElem?_getD,List.getElem?_eq_getElem c0]
    exact List.getElem_mem _
  have a0:=zsum_ev ((Bh l l.length).getD 0 []) (by have:=(ok.2 _ m0).1.2;omega) (fun x hx=>(ok.2 _ m0).2 x hx)
  rw [row_all hg] at a0
  obtain ⟨v1,v2⟩:=R4 hg l.length (by omega) (Nat.le_refl _)
  have v3:=Kl l l.length
  have a3:=zrises_ev (lev l l.length) (by omega) (Nw hg l.length (Nat.le_refl _))
  have v4:=N8 hg l.length (Nat.le_refl _)
  have a2:rd (lev l l.length) 0=0:=by
    have:=rdInt (lev l l.length) 0
    rw [show ((0:Nat):Int)=0 from rfl] at this
    rw [this]
    rw [List.getD_eq_getElem?_getD,List.getElem?_eq_getElem (show 0<(lev l l.length).length by omega)] at v1 ⊢
    exact v1
  have a1:Az (Bh l l.length) 0=(Bh l l.length).getD 0 []:=Im (Bh l l.length) 0
  refine Ev.succ ?_
  simp only [laws_FnCodesToldOfAll.j1]
  rw [a2,a1]
  refine Ev.neg (by simp) (Ev.pos (by trivial) (Ev.bind k1 (Ev.bind k2 (Ev.bind k3 (Ev.bind k4 (Ev.bind k5 (Ev.bind e3 (Ev.bind r4 ?_))))))))
  refine Ev.pos rfl (Ev.bind k7 (Ev.pos rfl (Ev.pos rfl (Ev.bind k3 (Ev.bind k8 (Ev.pos rfl (Ev.pos rfl (Ev.bind k7 (Ev.pos rfl (Ev.bind k6 (Ev.pos rfl (Ev.pos rfl (Ev.pos rfl (Ev.pos rfl (Ev.pos rfl ?_)))))))))))))))
  refine Ev.bind k9 (Ev.pos rfl (Ev.pos (by omega) (Ev.bind a0 (Ev.pos rfl (Ev.bind a3 (Ev.pos rfl (Ev.pos (by omega) (Ev.pos rfl (Ev.succ ?_)))))))))
  simp only [laws_FnCodesToldOfAll.j2]
  exact Ev.neg (by simp;omega) loop
theorem FnCodesToldOfAll:laws_FnCodesToldOfAll.Pure:=by
  intro W H l c w s dW dH dl kk _ _ _ _ _ _ _ _ _ _ _ _ _ _
  refine Ev.rounds (g:=fun k=>laws_FnCodesToldOfAll.f k W H l c w s dW dH dl kk) ?_
  unfold laws_FnCodesToldOfAll.f
  by_cases h1:(c.length:Int)>10000
  · refine Ev.pos h1 (Ev.succ ?_)
    simp only [laws_FnCodesToldOfAll.j0]
    exact Ev.pos (by trivial) (Ev.now _)
  · refine Ev.neg h1 (Ev.succ ?_)
    simp only [laws_FnCodesToldOfAll.j0]
    by_cases h2:(s.length:Int)>10000
    · exact Ev.pos (decide_eq_true h2) (Ev.now _)
    · have next:=law_j5 c w s (by omega) kk dW dH dl
      obtain ⟨R,r1,r2,r3,r4,r5⟩:=M5 W H l
      obtain ⟨F,f1,f2,f3,f4,f5⟩:=R5 W H l
      have v1:=Ug W H l
      have v2:=Uh W H l
      have v3:=levR_len W H l
      have k9:=Mq R (by omega) (fun r hr=>by have:=r2 r hr;omega)
      have a0:=Mq F (by omega) (fun r hr=>by have:=f2 r hr;omega)
      refine Ev.neg (by simp;omega) (Ev.bind r4 (Ev.bind r3 (Ev.bind f4 (Ev.bind f3 (Ev.bind v2 (Ev.bind v1 (Ev.neg (by simp) (Ev.bind k9 (Ev.pos rfl (Ev.neg (by simp) (Ev.bind a0 (Ev.pos rfl (Ev.neg (by simp) (Ev.bind (Mp _ (by omega)) (Ev.pos rfl (Ev.bind (Gb W H l) ?_))))))))))))))))
      refine Ev.neg (by simp) (Ev.neg (by simp) ?_)
      unfold levR
      by_cases hg:Bz W H l
      · rw [if_pos hg,decide_eq_true hg]
        obtain ⟨ft,gt,e3,e4⟩:=f5 hg
        rw [r5 hg]
        exact law_j1 hg F f1 f2 ft gt e3 e4 c w s kk dW dH dl next
      · rw [if_neg hg,decide_eq_false hg]
        refine Ev.succ ?_
        simp only [laws_FnCodesToldOfAll.j1]
        exact Ev.neg (by simp) (Ev.neg (by simp) next)

end Go.Proofs.YtgeahghdikdamaaGreat.Pure
