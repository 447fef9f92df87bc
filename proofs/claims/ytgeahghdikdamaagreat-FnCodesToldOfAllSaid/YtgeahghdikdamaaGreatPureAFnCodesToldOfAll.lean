/- Codes tell cuts again, have the sides of all squares, and their first group is as long as the edge above, whatever is given. -/
import Derived.Test.YtgeahghdikdamaaGreatPFnCodesToldOfAllx0
import Derived.Test.YtgeahghdikdamaaGreatPFnCodesToldOfAllx1
import Derived.Test.YtgeahghdikdamaaGreatPFnCodesToldOfAllx2
import Derived.Test.YtgeahghdikdamaaGreatPFnCodesToldOfAllx3
import Derived.Test.YtgeahghdikdamaaGreatPFnCodesToldOfAllx4
import Derived.Test.YtgeahghdikdamaaGreatPFnCodesToldOfAllx5
import Derived.Test.YtgeahghdikdamaaGreatPFnCodesToldOfAllx6
import Derived.Test.YtgeahghdikdamaaGreatPFnCodesToldOfAllx7
import Derived.Test.YtgeahghdikdamaaGreatPFnCodesToldOfAllx8
import Derived.Test.YtgeahghdikdamaaGreatPFnCodesToldOfAllx9
import Derived.Test.YtgeahghdikdamaaGreatPFnCodesToldOfAllx10
import Derived.Test.YtgeahghdikdamaaGreatPFnCodesToldOfAllx11
import Derived.Test.YtgeahghdikdamaaGreatPFnCodesToldOfAllx12
import Derived.Test.YtgeahghdikdamaaGreatPFnCodesToldOfAllx13
import Derived.Test.YtgeahghdikdamaaGreatPFnCodesToldOfAllx14
import Derived.Test.YtgeahghdikdamaaGreatPFnCodesToldOfAllx15
import Derived.Test.YtgeahghdikdamaaGreatPFnCodesToldOfAllx16
import Derived.Test.YtgeahghdikdamaaGreatPFnCodesToldOfAllx17
import Derived.Test.YtgeahghdikdamaaGreatPFnCodesToldOfAllx18
import Derived.Test.YtgeahghdikdamaaGreatPFnCodesToldOfAllx19
import Derived.Test.YtgeahghdikdamaaGreatPFnCodesToldOfAllx20
import Derived.Test.YtgeahghdikdamaaGreatPFnCodesToldOfAllx21
import Derived.Test.YtgeahghdikdamaaGreatPFnCodesToldOfAllx22
import Derived.Test.YtgeahghdikdamaaGreatPFnCodesToldOfAllx23
import Derived.Test.YtgeahghdikdamaaGreatWGuardMoreInvWords
namespace Go.Proofs.YtgeahghdikdamaaGreat.Pure
open Go.RowKit Go.Proofs.YtgeahghdikdamaaGreat.PFnCodesToldOfAll Go.Proofs.YtgeahghdikdamaaGreatW.PrintWords Go.Proofs.YtgeahghdikdamaaGreatW.PrintLast Go.Proofs.YtgeahghdikdamaaGreatW.PrintMore Go.Proofs.YtgeahghdikdamaaGreatW.Evs
set_option linter.unusedVariables false
set_option linter.unusedSimpArgs false
/-! ### a cut: what the program's IsCut and the reference's cuGood answer -/
abbrev Sq:=S50
def Aj (l:List Sq) (j:Nat):Sq:=l.getD j z50
theorem Ef (l:List Sq) (j:Nat):Aa l (j:Int)=Aj l j:=by unfold Aa Aj;rw [Int.toNat_natCast]
theorem Ci (l:List Sq) (j:Nat) (h:j<l.length):Aj l j=l[j]:=by unfold Aj;simp [List.getD,h]
theorem Jv (l:List Sq) (j:Nat) (h:j<l.length):Aj l j ∈ l:=by rw [Ci l j h];exact List.getElem_mem h
/-- a square lies in the rectangle -/
def Ins (W H:Int) (s:Sq):Prop:=1≤s.f2∧0≤s.f0∧s.f0+s.f2≤W∧0≤s.f1∧s.f1+s.f2≤H
instance (W H:Int) (s:Sq):Decidable (Ins W H s):=by unfold Ins;infer_instance
def D4 (a b:Sq):Prop:=a.f1<b.f1∨a.f1=b.f1∧a.f0<b.f0
instance (a b:Sq):Decidable (D4 a b):=by unfold D4;infer_instance
def Ovl (a b:Sq):Prop:=a.f0<b.f0+b.f2∧b.f0<a.f0+a.f2∧a.f1<b.f1+b.f2∧b.f1<a.f1+a.f2
instance (a b:Sq):Decidable (Ovl a b):=by unfold Ovl;infer_instance
def Ix (W H:Int) (l:List Sq) (i:Nat):Prop:=Ins W H (Aj l i)∧(0<i→D4 (Aj l (i-1)) (Aj l i))∧∀ j,j<i→¬ Ovl (Aj l i) (Aj l j)
instance (W H:Int) (l:List Sq) (i:Nat):Decidable (Ix W H l i):=by unfold Ix;infer_instance
def Ez (l:List Sq):Nat→Int
  | 0=>0
  | n+1=>Ez l n+(Aj l n).f2*(Aj l n).f2
/-- a width, a height and squares are a cut -/
def Bz (W H:Int) (l:List Sq):Prop:=(1≤W∧W≤500)∧(1≤H∧H≤500)∧(1≤l.length∧l.length≤30)∧(∀ i,i<l.length→Ix W H l i)∧Ez l l.length=W*H
instance (W H:Int) (l:List Sq):Decidable (Bz W H l):=by unfold Bz;infer_instance

theorem Iy (a b c:Int):Cj.f a b c=some (decide (b≤a∧a≤c)):=by
  unfold Cj.f
  by_cases h:b≤a
  · rw [if_pos h];simp [h]
  · rw [if_neg h];simp [h]
theorem Mx (a:Int):Dt.f a=some (decide (1≤a∧a≤500)):=by
  unfold Dt.f;rw [Iy];rfl
theorem G7 (a b c:Int):Ca.f a b c=some (decide (b≤a∧a≤c)):=by
  unfold Ca.f
  by_cases h:b≤a
  · rw [if_pos h];simp [h]
  · rw [if_neg h];simp [h]
theorem J5 (W H:Int) (l:List Sq) (hW:W≤500) (hH:H≤500):∀ n,n≤30→(∀ m,m<n→Ins W H (Aj l m))→0≤Ez l n∧Ez l n≤n*250000
  | 0,_,_=>by simp [Ez]
  | n+1,hn,h=>by
    obtain ⟨h1,h2⟩:=J5 W H l hW hH n (by omega) (fun m hm=>h m (by omega))
    have hi:=h n (by omega)
    unfold Ins at hi
    have q1:0≤(Aj l n).f2*(Aj l n).f2:=Int.mul_nonneg (by omega) (by omega)
    have q2:(Aj l n).f2*(Aj l n).f2≤500*500:=Int.mul_le_mul (by omega) (by omega) (by omega) (by omega)
    simp only [Ez]
    omega
theorem sq_bd {W H:Int} {s:Sq} (hW:W≤500) (hH:H≤500) (h:Ins W H s):0≤s.f2*s.f2∧s.f2*s.f2≤250000:=by
  unfold Ins at h
  have q1:0≤s.f2*s.f2:=Int.mul_nonneg (by omega) (by omega)
  have q2:s.f2*s.f2≤500*500:=Int.mul_le_mul (by omega) (by omega) (by omega) (by omega)
  omega

theorem Ul {W H : Int} {a b : Sq} (hW : W ≤ 500) (hH : H ≤ 500) (ha : Ins W H a) (hb : Ins W H b) :
    ∃ c,Bf.f a.f0 a.f1 a.f2 b.f0 b.f1 b.f2=some c∧(c<0↔D4 a b):=by
  unfold Ins at ha hb
  unfold Bf.f D4
  by_cases e:a.f1=b.f1
  · rw [if_pos e];exact ⟨_,rfl,by rw [Ai (by omega) (by omega)];omega⟩
  · rw [if_neg e];exact ⟨_,rfl,by rw [Ai (by omega) (by omega)];omega⟩
theorem Nz {W H : Int} {a b : Sq} (hW : W ≤ 500) (hH : H ≤ 500) (ha : Ins W H a) (hb : Ins W H b) :
    Eh.f a.f0 a.f1 a.f2 b.f0 b.f1 b.f2=some (decide (Ovl a b)):=by
  unfold Ins at ha hb
  unfold Eh.f Ovl
  rw [Ai (by omega) (by omega),Ai (by omega) (by omega),Ai (by omega) (by omega),Ai (by omega) (by omega)]
  by_cases h1:a.f0<b.f0+b.f2
  · by_cases h2:b.f0<a.f0+a.f2
    · by_cases h3:a.f1<b.f1+b.f2
      · simp [h1,h2,h3]
      · simp [h1,h2,h3]
    · simp [h1,h2]
  · simp [h1]
theorem Qf (a b:Sq):El.f a.f0 a.f1 a.f2 b.f0 b.f1 b.f2=some (decide (D4 a b)):=by
  unfold El.f D4
  by_cases h1:a.f1<b.f1
  · rw [if_pos h1];simp [h1]
  · rw [if_neg h1]
    by_cases h2:a.f1=b.f1
    · rw [if_pos h2];simp [h2]
    · rw [if_neg h2];simp [h1,h2]

/-! the program's own -/
theorem Uc {W H : Int} {l : List Sq} (hW : W ≤ 500) (hH : H ≤ 500) (i : Nat) (hi : i < l.length) (h : ∀ m, m ≤ i → Ins W H (Aj l m)) :
    Al.f (l.take i) (Aj l i).f0 (Aj l i).f1 (Aj l i).f2=some (decide (∃ j,j<i∧Ovl (Aj l i) (Aj l j))):=by
  unfold Al.f
  congr 1
  rw [Bool.eq_iff_iff,List.any_eq_true,decide_eq_true_eq]
  constructor
  · rintro ⟨t,ht,hp⟩
    obtain ⟨j,hj⟩:=List.getElem?_of_mem ht
    have a1:j<(l.take i).length:=(List.getElem?_eq_some_iff.1 hj).1
    have a0:j<i:=by simp at a1;omega
    have e:t=Aj l j:=by
      rw [List.getElem?_take_of_lt a0,List.getElem?_eq_getElem (by omega)] at hj
      rw [Ci l j (by omega)];exact (Option.some.inj hj).symm
    subst e
    rw [Nz hW hH (h i (Nat.le_refl _)) (h j (by omega))] at hp
    exact ⟨j,a0,by simpa using hp⟩
  · rintro ⟨j,hj,ho⟩
    refine ⟨Aj l j,?_,?_⟩
    · rw [Ci l j (by omega)]
      exact List.mem_take_iff_getElem.2 ⟨j,by omega,rfl⟩
    · rw [Nz hW hH (h i (Nat.le_refl _)) (h j (by omega))];simpa using ho

theorem Nf (W H:Int) (l:List Sq) (i:Nat):(∀ m,i≤m→m<l.length→Ix W H l m)↔(i<l.length→Ix W H l i)∧(∀ m,i+1≤m→m<l.length→Ix W H l m) :=
  ⟨fun h=>⟨fun hi=>h i (Nat.le_refl _) hi,fun m h1 h2=>h m (by omega) h2⟩,fun ⟨h1,h2⟩ m h3 h4=>by
    by_cases e:i=m
    · subst e;exact h1 h4
    · exact h2 m (by omega) h4⟩

theorem impl_loop {W H : Int} {l : List Sq} (hW : 1 ≤ W ∧ W ≤ 500) (hH : 1 ≤ H ∧ H ≤ 500) (hl : l.length ≤ 30) : ∀ (d i : Nat), l.length - i = d → i ≤ l.length → (∀ m, m < i → Ix W H l m) →
    ∀ r:Bool,(r=true↔(∀ m,i≤m→m<l.length→Ix W H l m)∧Ez l l.length=W*H)→Ev (fun k=>As.l0 k (Ez l i) l (l.length:Int) (i:Int) W H l) r:=by
  intro d
  induction d with
  | zero =>
    intro i hd hi hok r hr
    obtain rfl:i=l.length:=by omega
    have bd:=J5 W H l hW.2 hH.2 l.length hl (fun m hm=>(hok m hm).1)
    have w1:W*H≤500*500:=Int.mul_le_mul (by omega) (by omega) (by omega) (by omega)
    have w0:0≤W*H:=Int.mul_nonneg (by omega) (by omega)
    refine Ev.succ ?_
    simp only [As.l0]
    refine Ev.neg (by omega) ?_
    rw [Ai (by omega) (by omega)]
    refine Ev.eqr (Ev.now _) ?_
    rw [Bool.eq_iff_iff,hr,beq_iff_eq]
    exact ⟨fun h=>⟨fun m h1 h2=>by omega,h⟩,fun h=>h.2⟩
  | succ d ih =>
    intro i hd hi hok r hr
    have hlt:i<l.length:=by omega
    rw [Nf] at hr
    refine Ev.succ ?_
    simp only [As.l0,Ef]
    refine Ev.pos (by omega) (Ev.pos (by omega) (Ev.pos (by omega) ?_))
    have hmn:mn W H≤500:=by unfold mn;split <;> omega
    have fall:∀ r:Bool,r=false→Ev (fun k=>As.j2 k (Ez l i) (i:Int) l (l.length:Int) (i:Int) true W H l (Aj l i).f0 (Aj l i).f1 (Aj l i).f2) r:=by
      rintro _ rfl
      refine Ev.succ ?_
      simp only [As.j2]
      exact Ev.pos trivial (Ev.now _)
    have rf:¬ Ix W H l i→r=false:=fun h=>by
      cases hq:r with
      | false=>rfl
      | true=>exact absurd ((hr.1 hq).1.1 hlt) h
    have mnle:mn W H≤W∧mn W H≤H∧(mn W H=W∨mn W H=H):=by unfold mn;split <;> omega
    refine Ev.bindc (Iy _ _ _) ?_
    by_cases c1:1≤(Aj l i).f2∧(Aj l i).f2≤mn W H
    · rw [decide_eq_true c1]
      refine Ev.pos rfl (Ev.bindc (Iy _ _ _) ?_)
      rw [Ai (by omega) (by omega)]
      by_cases c2:0≤(Aj l i).f0∧(Aj l i).f0≤W-(Aj l i).f2
      · rw [decide_eq_true c2]
        refine Ev.pos rfl (Ev.bindc (Iy _ _ _) ?_)
        rw [Ai (by omega) (by omega)]
        by_cases c3:0≤(Aj l i).f1∧(Aj l i).f1≤H-(Aj l i).f2
        · rw [decide_eq_true c3]
          have hins:Ins W H (Aj l i):=by unfold Ins;omega
          have hall:∀ m,m≤i→Ins W H (Aj l m):=fun m hm=>by
            by_cases e:m=i
            · rw [e];exact hins
            · exact (hok m (by omega)).1
          refine Ev.succ ?_
          simp only [As.j2,Bool.not_true]
          refine Ev.neg (by decide) ?_
          have bd:=J5 W H l hW.2 hH.2 i (by omega) (fun m hm=>hall m (by omega))
          have qb:=sq_bd hW.2 hH.2 hins
          have tn:((i:Int)).toNat=i:=Int.toNat_natCast i
          have next:(∀ j,j<i→¬ Ovl (Aj l i) (Aj l j))→(0<i→D4 (Aj l (i-1)) (Aj l i))→Ev (fun k=>As.l0 k (wrap64 (Ez l i+wrap64 ((Aj l i).f2*(Aj l i).f2))) l (l.length:Int) (wrap64 ((i:Int)+1)) W H l) r:=by
            intro ho hlss
            have hk:Ix W H l i:=⟨hins,hlss,ho⟩
            rw [Ai (n:=(Aj l i).f2*(Aj l i).f2) (by omega) (by omega),Ai (n:=Ez l i+(Aj l i).f2*(Aj l i).f2) (by omega) (by omega),Ai (n:=(i:Int)+1) (by omega) (by omega)]
            have:=ih (i+1) (by omega) (by omega) (fun m hm=>by
              by_cases e:m=i
              · rw [e];exact hk
              · exact hok m (by omega)) r (by rw [hr];exact ⟨fun h=>⟨h.1.2,h.2⟩,fun h=>⟨⟨fun _=>hk,h.1⟩,h.2⟩⟩)
            exact this
          have cont:(0<i→D4 (Aj l (i-1)) (Aj l i))→Ev (fun k=>if 0≤(i:Int) then if (i:Int)≤(l.length:Int) then (Al.f (l.take ((i:Int)).toNat) (Aj l i).f0 (Aj l i).f1 (Aj l i).f2).bind fun t=>if t=true then some false else As.l0 k (wrap64 (Ez l i+wrap64 ((Aj l i).f2*(Aj l i).f2))) l (l.length:Int) (wrap64 ((i:Int)+1)) W H l else none else none) r:=by
            intro hlss
            refine Ev.pos (by omega) (Ev.pos (by omega) ?_)
            rw [tn]
            refine Ev.bindc (Uc hW.2 hH.2 i hlt hall) ?_
            by_cases ho:∃ j,j<i∧Ovl (Aj l i) (Aj l j)
            · rw [decide_eq_true ho]
              refine Ev.pos rfl (Ev.eqr (Ev.now _) (rf fun hk=>?_).symm)
              obtain ⟨j,hj,hq⟩:=ho
              exact hk.2.2 j hj hq
            · rw [decide_eq_false ho]
              exact Ev.neg (by decide) (next (fun j hj hq=>ho ⟨j,hj,hq⟩) hlss)
          by_cases a0:(i:Int)>0
          · refine Ev.pos a0 ?_
            have e1:wrap64 ((i:Int)-1)=((i-1:Nat):Int):=by rw [Ai (by omega) (by omega)];omega
            simp only [e1,Ef]
            refine Ev.pos (by omega) (Ev.pos (by omega) ?_)
            obtain ⟨c,hc,hcl⟩:=Ul hW.2 hH.2 (hall (i-1) (by omega)) hins
            refine Ev.bindc hc ?_
            by_cases c4:c≥0
            · refine Ev.pos c4 (Ev.eqr (Ev.now _) (rf fun hk=>?_).symm)
              have:=hcl.2 (hk.2.1 (by omega))
              omega
            · exact Ev.neg c4 (cont fun _=>hcl.1 (by omega))
          · exact Ev.neg a0 (cont fun h=>by omega)
        · rw [decide_eq_false c3]
          exact fall _ (rf fun h=>c3 (by have:=h.1;unfold Ins at this;omega))
      · rw [decide_eq_false c2]
        exact Ev.neg (by decide) (fall _ (rf fun h=>c2 (by have:=h.1;unfold Ins at this;omega)))
    · rw [decide_eq_false c1]
      refine Ev.neg (by decide) (fall _ (rf fun h=>c1 ?_))
      have:=h.1
      unfold Ins at this
      rcases mnle.2.2 with e|e <;> omega

theorem Gb (W H:Int) (l:List Sq):Ev (fun k=>As.f k W H l) (decide (Bz W H l)):=by
  unfold As.f
  have fall:∀ r:Bool,r=false→Ev (fun k=>As.j0 k true W H l) r:=by
    rintro _ rfl
    refine Ev.succ ?_
    simp only [As.j0]
    exact Ev.pos trivial (Ev.now _)
  refine Ev.bindc (Mx _) ?_
  by_cases c1:1≤W∧W≤500
  · rw [decide_eq_true c1]
    refine Ev.pos rfl (Ev.bindc (Mx _) ?_)
    by_cases c2:1≤H∧H≤500
    · rw [decide_eq_true c2]
      refine Ev.pos rfl ?_
      by_cases c3:(l.length:Int)>30
      · rw [decide_eq_true c3]
        exact fall _ (decide_eq_false fun h=>by have:=h.2.2.1;omega)
      · rw [decide_eq_false c3]
        refine Ev.succ ?_
        simp only [As.j0]
        refine Ev.neg (by decide) ?_
        have:=impl_loop (l:=l) c1 c2 (by omega) l.length 0 (by omega) (Nat.zero_le _) (fun m hm=>by omega) (decide (Bz W H l)) ?_
        · exact this
        · rw [decide_eq_true_eq]
          constructor
          · intro h;exact ⟨fun m _ h2=>h.2.2.2.1 m h2,h.2.2.2.2⟩
          · intro h
            refine ⟨c1,c2,⟨?_,(by omega:l.length≤30)⟩,fun m hm=>h.1 m (Nat.zero_le _) hm,h.2⟩
            cases hl:l with
            | nil =>
              subst hl
              have e:(0:Int)=W*H:=h.2
              have:0<W*H:=Int.mul_pos (by omega) (by omega)
              omega
            | cons a t=>simp
    · rw [decide_eq_false c2]
      exact Ev.neg (by decide) (fall _ (decide_eq_false fun h=>c2 h.2.1))
  · rw [decide_eq_false c1]
    exact Ev.neg (by decide) (fall _ (decide_eq_false fun h=>c1 h.1))

/-! the reference's own -/
/-- what the inner loop of the reference asks of the squares from place j on -/
def Jl (l:List Sq) (i j:Nat):Prop:=∀ m,j≤m→m<i→¬ Ovl (Aj l i) (Aj l m)∧(m+1=i→D4 (Aj l m) (Aj l i))
theorem Um (l:List Sq) (i j:Nat) (h:j<i):Jl l i j↔(¬ Ovl (Aj l i) (Aj l j)∧(j+1=i→D4 (Aj l j) (Aj l i)))∧Jl l i (j+1) :=
  ⟨fun h1=>⟨h1 j (Nat.le_refl _) h,fun m h2 h3=>h1 m (by omega) h3⟩,fun ⟨h1,h2⟩ m h3 h4=>by
    by_cases e:j=m
    · subst e;exact h1
    · exact h2 m (by omega) h4⟩
theorem inner_ok (W H:Int) (l:List Sq) (i:Nat):Ix W H l i↔Ins W H (Aj l i)∧Jl l i 0:=by
  unfold Ix Jl
  constructor
  · rintro ⟨h1,h2,h3⟩
    refine ⟨h1,fun m _ hm=>⟨h3 m hm,fun e=>?_⟩⟩
    have:=h2 (by omega)
    rw [show i-1=m by omega] at this
    exact this
  · rintro ⟨h1,h2⟩
    exact ⟨h1,fun hi=>(h2 (i-1) (Nat.zero_le _) (by omega)).2 (by omega),fun j hj=>(h2 j (Nat.zero_le _) hj).1⟩

theorem Un {W H : Int} {l : List Sq} (hW : 1 ≤ W ∧ W ≤ 500) (hH : 1 ≤ H ∧ H ≤ 500) (hl : l.length ≤ 30) (i : Nat) (hi : i < l.length) (hall : ∀ m, m ≤ i → Ins W H (Aj l m)) (A : Int) (r : Bool)
    (hgood:Jl l i 0→Ev (fun k=>At.l0 k A l (l.length:Int) ((i:Int)+1) W H l) r) (hbad:¬ Jl l i 0→r=false) :
    ∀ (d j:Nat),i-j=d→j≤i→(Jl l i j↔Jl l i 0) →
      Ev (fun k=>At.l1 k A (i:Int) l (l.length:Int) (i:Int) (l.take i) (i:Int) (j:Int) W H l (Aj l i).f0 (Aj l i).f1 (Aj l i).f2) r:=by
  intro d
  induction d with
  | zero =>
    intro j hd hj hiff
    obtain rfl:j=i:=by omega
    refine Ev.succ ?_
    simp only [At.l1]
    refine Ev.neg (by omega) ?_
    rw [Ai (by omega) (by omega)]
    exact hgood (hiff.1 fun m h1 h2=>by omega)
  | succ d ih =>
    intro j hd hj hiff
    have hlt:j<i:=by omega
    have tk:(l.take i).length=i:=by rw [List.length_take];omega
    have et:Aj (l.take i) j=Aj l j:=by
      rw [Ci _ _ (by omega),Ci _ _ (by omega),List.getElem_take]
    rw [Um l i j hlt] at hiff
    refine Ev.succ ?_
    simp only [At.l1,Ef,et,tk]
    refine Ev.pos (by omega) (Ev.pos (by omega) (Ev.pos (by omega) ?_))
    have a:=hall i (Nat.le_refl _)
    have b:=hall j (by omega)
    have j4:∀ b:Bool,b=decide (Ovl (Aj l i) (Aj l j))→Ev (fun k=>At.j4 k A (i:Int) (j:Int) l (l.length:Int) (i:Int) (l.take i) (i:Int) (j:Int) b W H l (Aj l i).f0 (Aj l i).f1 (Aj l i).f2 (Aj l j).f0 (Aj l j).f1 (Aj l j).f2) r:=by
      rintro b rfl
      refine Ev.succ ?_
      simp only [At.j4]
      by_cases ho:Ovl (Aj l i) (Aj l j)
      · exact Ev.pos (decide_eq_true ho) (Ev.eqr (Ev.now _) (hbad fun h=>(hiff.2 h).1.1 ho).symm)
      · refine Ev.neg (by simpa using ho) ?_
        have e1:wrap64 ((i:Int)-1)=(i:Int)-1:=Ai (by omega) (by omega)
        have e2:wrap64 ((j:Int)+1)=((j+1:Nat):Int):=by rw [Ai (by omega) (by omega)];omega
        rw [e1,e2]
        by_cases a0:j+1=i
        · refine Ev.pos (by omega) (Ev.bindc (Qf _ _) ?_)
          by_cases hls:D4 (Aj l j) (Aj l i)
          · exact Ev.pos (decide_eq_true hls) (ih (j+1) (by omega) (by omega) ⟨fun h=>hiff.1 ⟨⟨ho,fun _=>hls⟩,h⟩,fun h=>(hiff.2 h).2⟩)
          · exact Ev.neg (by simpa using hls) (Ev.eqr (Ev.now _) (hbad fun h=>hls ((hiff.2 h).1.2 a0)).symm)
        · exact Ev.neg (by omega) (ih (j+1) (by omega) (by omega) ⟨fun h=>hiff.1 ⟨⟨ho,fun e=>absurd e a0⟩,h⟩,fun h=>(hiff.2 h).2⟩)
    unfold Ins at a b
    rw [Ai (n:=(Aj l j).f0+(Aj l j).f2) (by omega) (by omega),Ai (n:=(Aj l i).f0+(Aj l i).f2) (by omega) (by omega),Ai (n:=(Aj l j).f1+(Aj l j).f2) (by omega) (by omega),Ai (n:=(Aj l i).f1+(Aj l i).f2) (by omega) (by omega)]
    by_cases c1:(Aj l i).f0<(Aj l j).f0+(Aj l j).f2
    · refine Ev.pos c1 ?_
      by_cases c2:(Aj l j).f0<(Aj l i).f0+(Aj l i).f2
      · refine Ev.pos c2 ?_
        by_cases c3:(Aj l i).f1<(Aj l j).f1+(Aj l j).f2
        · refine Ev.pos c3 (j4 _ ?_)
          unfold Ovl
          simp [c1,c2,c3]
        · exact Ev.neg c3 (j4 _ (decide_eq_false fun h=>c3 h.2.2.1).symm)
      · exact Ev.neg c2 (j4 _ (decide_eq_false fun h=>c2 h.2.1).symm)
    · exact Ev.neg c1 (j4 _ (decide_eq_false fun h=>c1 h.1).symm)

theorem spec_loop {W H : Int} {l : List Sq} (hW : 1 ≤ W ∧ W ≤ 500) (hH : 1 ≤ H ∧ H ≤ 500) (hl : l.length ≤ 30) : ∀ (d i : Nat), l.length - i = d → i ≤ l.length → (∀ m, m < i → Ix W H l m) →
    ∀ r:Bool,(r=true↔(∀ m,i≤m→m<l.length→Ix W H l m)∧Ez l l.length=W*H)→Ev (fun k=>At.l0 k (Ez l i) l (l.length:Int) (i:Int) W H l) r:=by
  intro d
  induction d with
  | zero =>
    intro i hd hi hok r hr
    obtain rfl:i=l.length:=by omega
    have bd:=J5 W H l hW.2 hH.2 l.length hl (fun m hm=>(hok m hm).1)
    have w1:W*H≤500*500:=Int.mul_le_mul (by omega) (by omega) (by omega) (by omega)
    have w0:0≤W*H:=Int.mul_nonneg (by omega) (by omega)
    refine Ev.succ ?_
    simp only [At.l0]
    refine Ev.neg (by omega) ?_
    rw [Ai (by omega) (by omega)]
    refine Ev.eqr (Ev.now _) ?_
    rw [Bool.eq_iff_iff,hr,beq_iff_eq]
    exact ⟨fun h=>⟨fun m h1 h2=>by omega,h⟩,fun h=>h.2⟩
  | succ d ih =>
    intro i hd hi hok r hr
    have hlt:i<l.length:=by omega
    rw [Nf] at hr
    refine Ev.succ ?_
    simp only [At.l0,Ef]
    refine Ev.pos (by omega) (Ev.pos (by omega) (Ev.pos (by omega) ?_))
    have fall:∀ r:Bool,r=false→Ev (fun k=>At.j2 k (Ez l i) (i:Int) l (l.length:Int) (i:Int) true W H l (Aj l i).f0 (Aj l i).f1 (Aj l i).f2) r:=by
      rintro _ rfl
      refine Ev.succ ?_
      simp only [At.j2]
      exact Ev.pos trivial (Ev.now _)
    have rf:¬ Ix W H l i→r=false:=fun h=>by
      cases hq:r with
      | false=>rfl
      | true=>exact absurd ((hr.1 hq).1.1 hlt) h
    refine Ev.bindc (G7 _ _ _) ?_
    by_cases c1:1≤(Aj l i).f2∧(Aj l i).f2≤500
    · rw [decide_eq_true c1]
      refine Ev.pos rfl (Ev.bindc (G7 _ _ _) ?_)
      rw [Ai (by omega) (by omega)]
      by_cases c2:0≤(Aj l i).f0∧(Aj l i).f0≤W-(Aj l i).f2
      · rw [decide_eq_true c2]
        refine Ev.pos rfl (Ev.bindc (G7 _ _ _) ?_)
        rw [Ai (by omega) (by omega)]
        by_cases c3:0≤(Aj l i).f1∧(Aj l i).f1≤H-(Aj l i).f2
        · rw [decide_eq_true c3]
          have hins:Ins W H (Aj l i):=by unfold Ins;omega
          have hall:∀ m,m≤i→Ins W H (Aj l m):=fun m hm=>by
            by_cases e:m=i
            · rw [e];exact hins
            · exact (hok m (by omega)).1
          have bd:=J5 W H l hW.2 hH.2 i (by omega) (fun m hm=>hall m (by omega))
          have qb:=sq_bd hW.2 hH.2 hins
          refine Ev.succ ?_
          simp only [At.j2,Bool.not_true]
          refine Ev.neg (by decide) (Ev.pos (by omega) (Ev.pos (by omega) (Ev.bindc rfl ?_)))
          have tk:(l.take ((i:Int)).toNat).length=i:=by rw [List.length_take];omega
          have tn:((i:Int)).toNat=i:=Int.toNat_natCast i
          rw [tk,tn,Ai (n:=(Aj l i).f2*(Aj l i).f2) (by omega) (by omega),Ai (n:=Ez l i+(Aj l i).f2*(Aj l i).f2) (by omega) (by omega)]
          have iok:=inner_ok W H l i
          refine Un hW hH hl i hlt hall _ r (fun hin=>?_) (fun hin=>rf fun h=>hin (iok.1 h).2) i 0 (by omega) (Nat.zero_le _) Iff.rfl
          have hk:Ix W H l i:=iok.2 ⟨hins,hin⟩
          have := ih (i + 1) (by omega) (by omega) (fun m hm => by
              by_cases e:m=i
              · rw [e];exact hk
              · exact hok m (by omega)) r (by rw [hr];exact ⟨fun h=>⟨h.1.2,h.2⟩,fun h=>⟨⟨fun _=>hk,h.1⟩,h.2⟩⟩)
          exact this
        · rw [decide_eq_false c3]
          exact fall _ (rf fun h=>c3 (by have:=h.1;unfold Ins at this;omega))
      · rw [decide_eq_false c2]
        exact Ev.neg (by decide) (fall _ (rf fun h=>c2 (by have:=h.1;unfold Ins at this;omega)))
    · rw [decide_eq_false c1]
      refine Ev.neg (by decide) (fall _ (rf fun h=>c1 ?_))
      have:=h.1
      unfold Ins at this
      omega

theorem Gk (W H:Int) (l:List Sq):Ev (fun k=>At.f k W H l) (decide (Bz W H l)):=by
  unfold At.f
  have fall:∀ r:Bool,r=false→Ev (fun k=>At.j0 k true W H l) r:=by
    rintro _ rfl
    refine Ev.succ ?_
    simp only [At.j0]
    exact Ev.pos trivial (Ev.now _)
  refine Ev.bindc (G7 _ _ _) ?_
  by_cases c1:1≤W∧W≤500
  · rw [decide_eq_true c1]
    refine Ev.pos rfl (Ev.bindc (G7 _ _ _) ?_)
    by_cases c2:1≤H∧H≤500
    · rw [decide_eq_true c2]
      refine Ev.pos rfl (Ev.bindc (G7 _ _ _) ?_)
      by_cases c3:1≤(l.length:Int)∧(l.length:Int)≤30
      · rw [decide_eq_true c3]
        refine Ev.succ ?_
        simp only [At.j0,Bool.not_true]
        refine Ev.neg (by decide) ?_
        refine spec_loop (l:=l) c1 c2 (by omega) l.length 0 (by omega) (Nat.zero_le _) (fun m hm=>by omega) (decide (Bz W H l)) ?_
        rw [decide_eq_true_eq]
        exact ⟨fun h=>⟨fun m _ h2=>h.2.2.2.1 m h2,h.2.2.2.2⟩,fun h=>⟨c1,c2,by omega,fun m hm=>h.1 m (Nat.zero_le _) hm,h.2⟩⟩
      · rw [decide_eq_false c3]
        exact fall _ (decide_eq_false fun h=>c3 (by have:=h.2.2.1;omega))
    · rw [decide_eq_false c2]
      exact Ev.neg (by decide) (fall _ (decide_eq_false fun h=>c2 h.2.1))
  · rw [decide_eq_false c1]
    exact Ev.neg (by decide) (fall _ (decide_eq_false fun h=>c1 h.1))

/-! ### the squares of a cut cover its rectangle: by counting cells -/
def Dy:Nat→(Nat→Int)→Int
  | 0,_=>0
  | n+1,f=>Dy n f+f n
theorem Qr (n:Nat) (f g:Nat→Int):Dy n (fun i=>f i+g i)=Dy n f+Dy n g:=by
  induction n with
  | zero=>rfl
  | succ n ih=>simp only [Dy,ih];omega
theorem N0 (n:Nat):Dy n (fun _=>0)=0:=by
  induction n with
  | zero=>rfl
  | succ n ih=>simp only [Dy,ih];rfl
theorem Jy (n:Nat) (f g:Nat→Int) (h:∀ i,i<n→f i=g i):Dy n f=Dy n g:=by
  induction n with
  | zero=>rfl
  | succ n ih=>simp only [Dy];rw [ih (fun i hi=>h i (by omega)),h n (by omega)]
theorem Qs (n:Nat) (f:Nat→Int) (c:Int):Dy n (fun i=>f i*c)=Dy n f*c:=by
  induction n with
  | zero=>simp [Dy]
  | succ n ih=>simp only [Dy,ih,Int.add_mul]
theorem Rj (n:Nat) (f g:Nat→Int) (h:∀ i,i<n→f i≤g i):Dy n f≤Dy n g:=by
  induction n with
  | zero=>exact Int.le_refl _
  | succ n ih=>simp only [Dy];have:=ih (fun i hi=>h i (by omega));have:=h n (by omega);omega
theorem Rk (n:Nat) (f g:Nat→Int) (h:∀ i,i<n→f i≤g i) (j:Nat) (hj:j<n) (hlt:f j<g j):Dy n f<Dy n g:=by
  induction n with
  | zero=>omega
  | succ n ih =>
    simp only [Dy]
    by_cases e:j=n
    · subst e
      have:=Rj j f g (fun i hi=>h i (by omega));omega
    · have:=ih (fun i hi=>h i (by omega)) (by omega);have:=h n (by omega);omega
theorem K5 (n:Nat) (c:Int):Dy n (fun _=>c)=n*c:=by
  induction n with
  | zero=>simp [Dy]
  | succ n ih =>
    simp only [Dy,ih]
    rw [show ((n+1:Nat):Int)=(n:Int)+1 by omega,Int.add_mul];omega
/-- 1 in a .. a+s-1, else 0 -/
def ind (a s:Int) (i:Nat):Int:=if a≤(i:Int)∧(i:Int)<a+s then 1 else 0
theorem sum_ind (a s:Int) (ha:0≤a) (hs:0≤s):∀ n:Nat,Dy n (ind a s)=if (n:Int)≤a then 0 else if (n:Int)≤a+s then n-a else s
  | 0=>by simp [Dy];intro h;omega
  | n+1=>by
    simp only [Dy,sum_ind a s ha hs n]
    unfold ind
    split <;> split <;> split <;> (try split) <;> omega
theorem Ng (a s:Int) (n:Nat) (ha:0≤a) (hs:0≤s) (h:a+s≤n):Dy n (ind a s)=s:=by
  rw [sum_ind a s ha hs n]
  split
  · omega
  · split <;> omega
/-- does cell x, y lie in the square -/
def Gg (s:Sq) (x y:Int):Prop:=s.f0≤x∧x<s.f0+s.f2∧s.f1≤y∧y<s.f1+s.f2
instance (s:Sq) (x y:Int):Decidable (Gg s x y):=by unfold Gg;infer_instance
def cell (s:Sq) (x y:Nat):Int:=if Gg s x y then 1 else 0
theorem cell_eq (s:Sq) (x y:Nat):cell s x y=ind s.f0 s.f2 x*ind s.f1 s.f2 y:=by
  unfold cell ind
  by_cases h1:s.f0≤(x:Int)∧(x:Int)<s.f0+s.f2
  · by_cases h2:s.f1≤(y:Int)∧(y:Int)<s.f1+s.f2
    · have h:Gg s x y:=⟨h1.1,h1.2,h2.1,h2.2⟩
      rw [if_pos h1,if_pos h2,if_pos h];rfl
    · have h:¬ Gg s x y:=fun h=>h2 ⟨h.2.2.1,h.2.2.2⟩
      rw [if_pos h1,if_neg h2,if_neg h];rfl
  · have h:¬ Gg s x y:=fun h=>h1 ⟨h.1,h.2.1⟩
    rw [if_neg h1,if_neg h];simp
theorem sum_cell {W H:Int} {s:Sq} (h:Ins W H s) (w h':Nat) (hw:(w:Int)=W) (hh:(h':Int)=H):Dy w (fun x=>Dy h' (fun y=>cell s x y))=s.f2*s.f2:=by
  unfold Ins at h
  have e:∀ x,Dy h' (fun y=>cell s x y)=s.f2*ind s.f0 s.f2 x:=by
    intro x
    rw [Jy h' _ (fun y=>ind s.f1 s.f2 y*ind s.f0 s.f2 x) (fun y _=>by rw [cell_eq,Int.mul_comm]),Qs,Ng _ _ _ (by omega) (by omega) (by omega)]
  rw [Jy w _ (fun x=>ind s.f0 s.f2 x*s.f2) (fun x _=>by rw [e,Int.mul_comm]),Qs,Ng _ _ _ (by omega) (by omega) (by omega)]
/-- how Iz of the first n squares a cell lies in -/
def Iz (l:List Sq):Nat→Nat→Nat→Int
  | 0,_,_=>0
  | n+1,x,y=>Iz l n x y+cell (Aj l n) x y
theorem Rl {W H:Int} (l:List Sq) (w h:Nat) (hw:(w:Int)=W) (hh:(h:Int)=H):∀ n,(∀ m,m<n→Ins W H (Aj l m))→Dy w (fun x=>Dy h (fun y=>Iz l n x y))=Ez l n
  | 0,_=>by
    simp only [Iz,Ez]
    rw [Jy w _ (fun _=>0) (fun x _=>N0 h),N0]
  | n+1,hi=>by
    simp only [Iz,Ez]
    rw [Jy w _ (fun x=>Dy h (fun y=>Iz l n x y)+Dy h (fun y=>cell (Aj l n) x y)) (fun x _=>Qr h _ _),Qr,Rl l w h hw hh n (fun m hm=>hi m (by omega)),sum_cell (hi n (by omega)) w h hw hh]
theorem My (l:List Sq) (x y:Nat):∀ n,(∀ m,m<n→¬ Gg (Aj l m) x y)→Iz l n x y=0
  | 0,_=>rfl
  | n+1,h=>by
    simp only [Iz,My l x y n (fun m hm=>h m (by omega))]
    unfold cell
    rw [if_neg (h n (by omega))];rfl
theorem in_ovl {a b:Sq} {x y:Int} (ha:Gg a x y) (hb:Gg b x y):Ovl a b:=by
  unfold Gg at ha hb
  unfold Ovl
  omega
theorem Nr {W H:Int} (l:List Sq) (x y:Nat):∀ n,(∀ m,m<n→Ix W H l m)→Iz l n x y≤1
  | 0,_=>by simp [Iz]
  | n+1,h=>by
    simp only [Iz]
    unfold cell
    by_cases hn:Gg (Aj l n) x y
    · rw [if_pos hn,My l x y n (fun m hm hc=>(h n (by omega)).2.2 m hm (in_ovl hn hc))];omega
    · rw [if_neg hn];have:=Nr l x y n (fun m hm=>h m (by omega));omega
theorem Na {W H:Int} {l:List Sq} (hg:Bz W H l) (x y:Int) (hx:0≤x∧x<W) (hy:0≤y∧y<H):∃ j,j<l.length∧Gg (Aj l j) x y:=by
  apply Decidable.byContradiction
  intro hno
  obtain ⟨w,rfl⟩:∃ w:Nat,(w:Int)=W:=⟨W.toNat,by have:=hg.1;omega⟩
  obtain ⟨h,rfl⟩:∃ h:Nat,(h:Int)=H:=⟨H.toNat,by have:=hg.2.1;omega⟩
  obtain ⟨a,rfl⟩:∃ a:Nat,(a:Int)=x:=⟨x.toNat,by omega⟩
  obtain ⟨b,rfl⟩:∃ b:Nat,(b:Int)=y:=⟨y.toNat,by omega⟩
  have ok:=hg.2.2.2.1
  have s1:=Rl l w h rfl rfl l.length (fun m hm=>(ok m hm).1)
  have z:=My l a b l.length (fun m hm hc=>hno ⟨m,hm,hc⟩)
  have row:∀ x:Nat,Dy h (fun y=>Iz l l.length x y)≤h:=fun x=>by
    have:=Rj h (fun y=>Iz l l.length x y) (fun _=>1) (fun y _=>Nr l x y l.length ok)
    rw [K5] at this;omega
  have rowa:Dy h (fun y=>Iz l l.length a y)<h:=by
    have:=Rk h (fun y=>Iz l l.length a y) (fun _=>1) (fun y _=>Nr l a y l.length ok) b (by omega) (by show Iz l l.length a b<1;omega)
    rw [K5] at this;omega
  have:=Rk w (fun x=>Dy h (fun y=>Iz l l.length x y)) (fun _=>(h:Int)) (fun x _=>row x) a (by omega) rowa
  rw [s1,K5,hg.2.2.2.2] at this
  omega

/-! ### squares in order: what the two sorts answer -/
def LeP (a b:Sq):Prop:=¬ D4 b a
theorem LeP.trans {a b c:Sq} (h:LeP a b) (k:LeP b c):LeP a c:=by unfold LeP D4 at *;omega
theorem LeP.of_less {a b:Sq} (h:D4 a b):LeP a b:=by unfold LeP D4 at *;omega
def Dist (l:List Sq):Prop:=∀ a ∈ l,∀ b ∈ l,a.f0=b.f0→a.f1=b.f1→a=b
theorem I0 {l r r':List Sq} (hd:Dist l) (hp:r.Perm l) (hp':r'.Perm l) (hs:r.Pairwise LeP) (hs':r'.Pairwise LeP):r=r' :=
  List.Perm.eq_of_pairwise (fun a b ha hb h1 h2=>hd a (hp.mem_iff.1 ha) b (hp'.mem_iff.1 hb) (by unfold LeP D4 at *;omega) (by unfold LeP D4 at *;omega)) hs hs' (hp.trans hp'.symm)
theorem Ja {o:List Sq} {k:Nat} (hk:k≤o.length) {a:Sq} (h:a ∈ o.take k):∃ j,j<k∧a=Aj o j:=by
  obtain ⟨j,hj,rfl⟩:=List.mem_iff_getElem.1 h
  rw [List.length_take] at hj
  exact ⟨j,by omega,by rw [List.getElem_take,Ci o j (by omega)]⟩
theorem Ih {o:List Sq} {k:Nat} {a:Sq} (h:a ∈ o.drop k):∃ j,k≤j∧j<o.length∧a=Aj o j:=by
  obtain ⟨j,hj,rfl⟩:=List.mem_iff_getElem.1 h
  rw [List.length_drop] at hj
  exact ⟨k+j,by omega,by omega,by rw [List.getElem_drop,Ci o (k+j) (by omega)]⟩
theorem Gs {o:List Sq} (ho:o.Pairwise LeP) {i j:Nat} (hij:i≤j) (hj:j<o.length):LeP (Aj o i) (Aj o j):=by
  rcases Nat.lt_or_eq_of_le hij with h|h
  · rw [Ci o i (by omega),Ci o j hj]
    exact List.pairwise_iff_getElem.1 ho i j (by omega) hj h
  · subst h;unfold LeP D4;omega
theorem N1 {o : List Sq} {s : Sq} {k : Nat} (hk : k ≤ o.length) (ho : o.Pairwise LeP) (h1 : ∀ j, k ≤ j → j < o.length → D4 s (Aj o j)) (h2 : k = 0 ∨ ¬ D4 s (Aj o (k - 1))) :
    (o.take k++[s]++o.drop k).Pairwise LeP:=by
  have hts:∀ a ∈ o.take k,LeP a s:=by
    intro a ha
    obtain ⟨j,hj,rfl⟩:=Ja hk ha
    rcases h2 with h2|h2
    · omega
    · exact LeP.trans (Gs ho (show j≤k-1 by omega) (by omega)) h2
  refine List.pairwise_append.2 ⟨List.pairwise_append.2 ⟨ho.sublist (List.take_sublist _ _),List.pairwise_singleton _ _,fun a ha b hb=>?_⟩,ho.sublist (List.drop_sublist _ _),fun a ha b hb=>?_⟩
  · rw [List.mem_singleton.1 hb];exact hts a ha
  · obtain ⟨j,hj,a0,rfl⟩:=Ih hb
    have hsb:=LeP.of_less (h1 j hj a0)
    rcases List.mem_append.1 ha with ha|ha
    · exact (hts a ha).trans hsb
    · rw [List.mem_singleton.1 ha];exact hsb
theorem Rm (o:List Sq) (s:Sq) (k:Nat):(o.take k++[s]++o.drop k).Perm (s::o):=by
  rw [List.append_assoc]
  have h:=List.perm_middle (l₁:=o.take k) (a:=s) (l₂:=o.drop k)
  rw [List.take_append_drop] at h
  exact h
theorem Ir (l:List Sq) (i:Nat) (w:Sq) (t:List Sq) (h:l.drop i=w::t):i<l.length∧Aj l i=w∧l.drop (i+1)=t:=by
  have h1:i<l.length:=by
    apply Decidable.byContradiction
    intro hn
    rw [List.drop_eq_nil_of_le (by omega)] at h;cases h
  rw [List.drop_eq_getElem_cons h1] at h
  injection h with ha hb
  exact ⟨h1,by rw [Ci l i h1];exact ha,hb⟩
theorem ins_loop (l : List Sq) (n i : Int) (s : Sq) (o : List Sq) (hol : o.length ≤ 1000) (ho : o.Pairwise LeP) : ∀ c : Nat, c ≤ o.length → (∀ j, c ≤ j → j < o.length → D4 s (Aj o j)) →
    ∃ o',o'.Pairwise LeP∧o'.Perm (s::o)∧∀ r,Ev (fun k=>Ao.l0 k o' l n (wrap64 (i+1))) r→Ev (fun k=>Ao.l1 k o (c:Int) l n i s.f0 s.f1 s.f2) r:=by
  intro c
  induction c with
  | zero =>
    intro hc h
    refine ⟨_,N1 hc ho h (.inl rfl),Rm o s 0,fun r hr=>Ev.succ ?_⟩
    simp only [Ao.l1]
    refine Ev.neg (by omega) (Ev.bindc rfl (Ev.pos (by omega) (Ev.pos (by omega) (Ev.bindc rfl (Ev.pos (by simp only [List.length_nil,List.length_take];omega) (Ev.bindc rfl (Ev.bindc rfl (Ev.pos (by simp only [List.length_nil,List.length_append,List.length_take,List.length_cons];omega) (Ev.bindc rfl (Ev.bindc rfl (Ev.pos (by simp only [List.length_nil,List.length_append,List.length_take,List.length_cons,List.length_drop];omega) ?_)))))))))))
    exact hr
  | succ c ih =>
    intro hc h
    have hw:wrap64 (((c+1:Nat):Int)-1)=(c:Int):=by rw [Ai (n:=((c+1:Nat):Int)-1) (by omega) (by omega)];omega
    by_cases hl:D4 s (Aj o c)
    · obtain ⟨o', a, b, d⟩ := ih (by omega) (fun j hj a0 => by
        rcases Nat.lt_or_eq_of_le hj with h3|h3
        · exact h j h3 a0
        · rw [← h3];exact hl)
      refine ⟨o',a,b,fun r hr=>Ev.succ ?_⟩
      simp only [Ao.l1]
      rw [hw]
      refine Ev.pos (by omega) (Ev.pos (by omega) (Ev.pos (by omega) ?_))
      rw [Ef]
      exact Ev.bindc (Qf s (Aj o c)) (Ev.pos (by simpa using hl) (d r hr))
    · refine ⟨_,N1 hc ho h (.inr (by rw [Nat.add_sub_cancel];exact hl)),Rm o s (c+1),fun r hr=>Ev.succ ?_⟩
      simp only [Ao.l1]
      rw [hw]
      refine Ev.pos (by omega) (Ev.pos (by omega) (Ev.pos (by omega) ?_))
      rw [Ef]
      refine Ev.bindc (Qf s (Aj o c)) (Ev.neg (by simpa using hl) ?_)
      refine Ev.bindc rfl (Ev.pos (by omega) (Ev.pos (by omega) (Ev.bindc rfl (Ev.pos (by simp only [List.length_nil,List.length_take];omega) (Ev.bindc rfl (Ev.bindc rfl (Ev.pos (by simp only [List.length_nil,List.length_append,List.length_take,List.length_cons];omega) (Ev.bindc rfl (Ev.bindc rfl (Ev.pos (by simp only [List.length_nil,List.length_append,List.length_take,List.length_cons,List.length_drop];omega) ?_))))))))))
      exact hr
theorem Ud (l : List Sq) (hl : l.length ≤ 1000) : ∀ (t : List Sq) (i : Nat) (o : List Sq), l.drop i = t → i + t.length = l.length → o.Pairwise LeP → o.Perm (l.take i) →
    ∃ R,R.Pairwise LeP∧R.Perm l∧Ev (fun k=>Ao.l0 k o l (l.length:Int) (i:Int)) R:=by
  intro t
  induction t with
  | nil =>
    intro i o hd hi ho hp
    simp only [List.length_nil] at hi
    refine ⟨o,ho,by rw [List.take_of_length_le (by omega)] at hp;exact hp,Ev.succ ?_⟩
    simp only [Ao.l0]
    exact Ev.neg (by omega) (Ev.now _)
  | cons s t ih =>
    intro i o hd hi ho hp
    obtain ⟨h1,h2,h3⟩:=Ir l i s t hd
    have hol:o.length≤1000:=by rw [hp.length_eq,List.length_take];omega
    obtain ⟨o',a,b,d⟩:=ins_loop l (l.length:Int) (i:Int) s o hol ho o.length (Nat.le_refl _) (fun j hj a0=>by omega)
    simp only [List.length_cons] at hi
    have htk:l.take (i+1)=l.take i++[s]:=by
      rw [List.take_add_one,List.getElem?_eq_getElem h1,← h2,Ci l i h1];rfl
    obtain ⟨R,e,f,g⟩:=ih (i+1) o' h3 (by omega) a (by
      rw [htk]
      exact (b.trans ((hp.cons s))).trans (List.perm_append_singleton s (l.take i)).symm)
    refine ⟨R,e,f,Ev.succ ?_⟩
    simp only [Ao.l0]
    refine Ev.pos (by omega) (Ev.pos (by omega) (Ev.pos (by omega) ?_))
    rw [Ef,h2]
    refine d R ?_
    rw [Ai (n:=(i:Int)+1) (by omega) (by omega)]
    exact g
theorem Nh (l:List Sq) (hl:l.length≤1000):∃ R,R.Pairwise LeP∧R.Perm l∧Ev (fun k=>Ao.f k l) R:=Ud l hl l 0 [] rfl (by omega) List.Pairwise.nil (List.Perm.refl _)

/-! ### what SortFunc answers -/
theorem N2 (l:List Sq) (hb:∀ s ∈ l,Ju s) (hl:l.length≤1000000):∃ r,Aw.f l=some r∧r.Perm l∧r.Pairwise LeP:=by
  unfold Aw.f
  rw [dif_pos ⟨hb,hl⟩]
  have hs:(Gx l hb).size=l.length:=by simp [Gx]
  have hps:=Sort.pdq_sorts (ltOf I7) swoSq (Gx l hb) 0 l.length (Lib.bitLen l.length) true true (Nat.zero_le _) (by omega) (Or.inl rfl)
  generalize Sort.pdq (ltOf I7) (Gx l hb) 0 l.length (Lib.bitLen l.length) true true=dd at hps ⊢
  have hsz:dd.size=l.length:=by rw [hps.1.1,hs]
  refine ⟨_,rfl,?_,?_⟩
  · have hp:=hps.1.2.2
    rw [Array.toList_extract,Array.toList_extract] at hp
    simp only [List.extract_eq_take_drop,List.drop_zero,Nat.sub_zero] at hp
    rw [List.take_of_length_le (by rw [Array.length_toList,hsz];exact Nat.le_refl _),List.take_of_length_le (by rw [Array.length_toList,hs];exact Nat.le_refl _)] at hp
    have hm:=hp.map (fun s:BSq=>s.1)
    have e:(Gx l hb).toList.map (fun s:BSq=>s.1)=l:=by simp [Gx]
    rw [e] at hm
    exact hm
  · rw [List.pairwise_map,List.pairwise_iff_getElem]
    intro i j hi hj hij
    rw [Array.length_toList] at hi hj
    have h:=hps.2 i j (Nat.zero_le _) hij (by omega)
    rw [ltSq,decide_eq_false_iff_not,getElem!_pos dd i hi,getElem!_pos dd j hj] at h
    simpa [LeP,D4,Jk] using h

/-! ### a cut's squares -/
theorem Gl {W H:Int} {l:List Sq} (hg:Bz W H l) {s:Sq} (hs:s ∈ l):Ins W H s:=by
  obtain ⟨j,hj,rfl⟩:=List.mem_iff_getElem.1 hs
  rw [← Ci l j hj]
  exact (hg.2.2.2.1 j hj).1
theorem Kq {a b:Sq} (h:Ovl a b):Ovl b a:=⟨h.2.1,h.1,h.2.2.2,h.2.2.1⟩
theorem Ml {W H:Int} {l:List Sq} (hg:Bz W H l) {a b:Sq} (ha:a ∈ l) (hb:b ∈ l) (h:Ovl a b):a=b:=by
  obtain ⟨i,hi,rfl⟩:=List.mem_iff_getElem.1 ha
  obtain ⟨j,hj,rfl⟩:=List.mem_iff_getElem.1 hb
  rw [← Ci l i hi,← Ci l j hj] at h ⊢
  rcases Nat.lt_trichotomy i j with hlt|rfl|hlt
  · exact absurd (Kq h) ((hg.2.2.2.1 j hj).2.2 i hlt)
  · rfl
  · exact absurd h ((hg.2.2.2.1 i hi).2.2 j hlt)
theorem Jg (l:List Sq) (f:Sq→Sq) (i:Nat) (s:Sq) (t:List Sq) (h:l.drop i=s::t):(l.take i).map f++[f s]=(l.take (i+1)).map f:=by
  obtain ⟨h1,h2,_⟩:=Ir l i s t h
  have e:l.take (i+1)=l.take i++[s]:=by
    rw [List.take_add_one,List.getElem?_eq_getElem h1,← h2,Ci l i h1];rfl
  rw [e,List.map_append];rfl

/-! ### cuts whose squares are changed and put in order -/
def Gt:List Sq→Int
  | []=>0
  | s::t=>s.f2*s.f2+Gt t
theorem Kr:∀ a b:List Sq,Gt (a++b)=Gt a+Gt b
  | [],b=>by simp [Gt]
  | s::a,b=>by simp only [List.cons_append,Gt,Kr a b];omega
theorem Uo {a b:List Sq} (h:a.Perm b):Gt a=Gt b:=by
  induction h with
  | nil=>rfl
  | cons x _ ih=>simp only [Gt,ih]
  | swap x y l=>simp only [Gt];omega
  | trans _ _ a0 a1=>exact a0.trans a1
theorem Nk (l:List Sq):∀ n,n≤l.length→Ez l n=Gt (l.take n)
  | 0,_=>by simp [Ez,Gt]
  | n+1,h=>by
    rw [Ez,Nk l n (by omega),List.take_succ_eq_append_getElem (by omega),Kr,Ci l n (by omega)]
    simp only [Gt];omega
theorem Mm (l:List Sq):Ez l l.length=Gt l:=by rw [Nk l l.length (Nat.le_refl _),List.take_length]
theorem Qt (f:Sq→Sq):∀ l:List Sq,(∀ s ∈ l,(f s).f2=s.f2)→Gt (l.map f)=Gt l
  | [],_=>rfl
  | s::t,h=>by simp only [List.map_cons,Gt,h s List.mem_cons_self,Qt f t (fun r hr=>h r (List.mem_cons_of_mem _ hr))]
theorem Up {W H:Int} {l:List Sq} (hg:Bz W H l):l.Pairwise (fun a b=>¬ Ovl a b):=by
  rw [List.pairwise_iff_getElem]
  intro i j hi hj hij ho
  have:=(hg.2.2.2.1 j hj).2.2 i hij
  rw [Ci l i hi,Ci l j hj] at this
  exact this (Kq ho)
theorem good_of {W H:Int} {r:List Sq} (hW:1≤W∧W≤500) (hH:1≤H∧H≤500) (hl:1≤r.length∧r.length≤30) (hin:∀ s ∈ r,Ins W H s) (hs:r.Pairwise LeP) (hno:r.Pairwise (fun a b=>¬ Ovl a b)) (ha:Gt r=W*H):Bz W H r:=by
  rw [List.pairwise_iff_getElem] at hs hno
  refine ⟨hW,hH,hl,fun i hi=>⟨hin _ (Jv r i hi),fun h0=>?_,fun j hj ho=>?_⟩,by rw [Mm,ha]⟩
  · have h1:=hs (i-1) i (by omega) hi (by omega)
    have h2:=hno (i-1) i (by omega) hi (by omega)
    have i1:=hin _ (Jv r (i-1) (by omega))
    have i2:=hin _ (Jv r i hi)
    rw [Ci r (i-1) (by omega)] at i1 ⊢
    rw [Ci r i hi] at i2 ⊢
    unfold LeP at h1
    unfold D4 Ovl Ins at *
    omega
  · have:=hno j i (by omega) hi hj
    rw [Ci r i hi,Ci r j (by omega)] at ho
    exact this (Kq ho)
theorem Mz {W H W' H' : Int} {l r : List Sq} (f : Sq → Sq) (hg : Bz W H l) (hW : 1 ≤ W' ∧ W' ≤ 500) (hH : 1 ≤ H' ∧ H' ≤ 500) (hWH : W' * H' = W * H)
    (hin:∀ s,Ins W H s→Ins W' H' (f s)) (a0:∀ s,Ins W H s→(f s).f2=s.f2) (hov:∀ a b,Ins W H a→Ins W H b→Ovl (f a) (f b)→Ovl a b) (hp:r.Perm (l.map f)) (hs:r.Pairwise LeP):Bz W' H' r:=by
  have hl:=hp.length_eq
  rw [List.length_map] at hl
  have a1:=hg.2.2.1
  refine good_of hW hH (by omega) (fun s hs'=>?_) hs ?_ ?_
  · obtain ⟨q,hq,rfl⟩:=List.mem_map.1 (hp.mem_iff.1 hs')
    exact hin q (Gl hg hq)
  · rw [hp.pairwise_iff (fun h k=>h (Kq k)),List.pairwise_map]
    have:=Up hg
    rw [List.pairwise_iff_getElem] at this ⊢
    intro i j hi hj hij ho
    exact this i j hi hj hij (hov _ _ (Gl hg (List.getElem_mem hi)) (Gl hg (List.getElem_mem hj)) ho)
  · rw [Uo hp,Qt f l (fun s hs'=>a0 s (Gl hg hs')),← Mm,hg.2.2.2.2,hWH]

/-! ### cuts that are turned -/
def tur (H:Int) (s:Sq):Sq:=⟨wrap64 ((wrap64 (H-s.f1))-s.f2),s.f0,s.f2⟩
theorem Ks {W H:Int} (hH:H≤500) {s:Sq} (h:Ins W H s):tur H s=⟨H-s.f1-s.f2,s.f0,s.f2⟩:=by
  obtain ⟨h1,_,_,h2,h3⟩:=h
  unfold tur
  rw [Ai (n:=H-s.f1) (by omega) (by omega),Ai (n:=H-s.f1-s.f2) (by omega) (by omega)]
theorem tur_bd {W H:Int} (hW:W≤500) (hH:H≤500) {s:Sq} (h:Ins W H s):Ju (tur H s):=by
  rw [Ks hH h]
  obtain ⟨h1,h2,h3,h4,h5⟩:=h
  unfold Ju
  dsimp only
  omega
theorem tur_dist {W H:Int} {l:List Sq} (hg:Bz W H l):Dist (l.map (tur H)):=by
  intro a ha b hb e0 e1
  obtain ⟨p,hp,rfl⟩:=List.mem_map.1 ha
  obtain ⟨q,hq,rfl⟩:=List.mem_map.1 hb
  have ip:=Gl hg hp
  have iq:=Gl hg hq
  have hH:=hg.2.1.2
  rw [Ks hH ip,Ks hH iq] at e0 e1
  dsimp only at e0 e1
  obtain ⟨p1,p2,p3,p4,p5⟩:=ip
  obtain ⟨q1,q2,q3,q4,q5⟩:=iq
  rw [Ml hg hp hq (by unfold Ovl;omega)]
theorem Q2 (W H : Int) (l : List Sq) (hl : l.length ≤ 1000) (R : List Sq) (hR : Ev (fun k => Ao.f k (l.map (tur H))) R) : ∀ (t : List Sq) (i : Nat), l.drop i = t → i + t.length = l.length →
    Ev (fun k=>Cp.l0 k ((l.take i).map (tur H)) l (l.length:Int) (i:Int) W H l) (H,W,R):=by
  intro t
  induction t with
  | nil =>
    intro i hd hi
    simp only [List.length_nil] at hi
    refine Ev.succ ?_
    simp only [Cp.l0]
    rw [List.take_of_length_le (by omega)]
    exact Ev.neg (by omega) (Ev.bind hR (Ev.now _))
  | cons s t ih =>
    intro i hd hi
    obtain ⟨h1,h2,h3⟩:=Ir l i s t hd
    simp only [List.length_cons] at hi
    refine Ev.succ ?_
    simp only [Cp.l0]
    refine Ev.pos (by omega) (Ev.pos (by omega) (Ev.pos (by omega) (Ev.pos (by rw [List.length_map,List.length_take];omega) ?_)))
    rw [Ef,h2,Ai (n:=(i:Int)+1) (by omega) (by omega)]
    have e:=Jg l (tur H) i s t hd
    have h:=ih (i+1) h3 (by omega)
    rw [← e] at h
    exact h
theorem Q3 (W H : Int) (l : List Sq) (hl : l.length ≤ 1000) (R : List Sq) (hR : Aw.f (l.map (tur H)) = some R) : ∀ (t : List Sq) (i : Nat), l.drop i = t → i + t.length = l.length →
    Ev (fun k=>Aq.l0 k l (l.length:Int) (i:Int) W H l H W ((l.take i).map (tur H))) (H,W,R):=by
  intro t
  induction t with
  | nil =>
    intro i hd hi
    simp only [List.length_nil] at hi
    refine Ev.succ ?_
    simp only [Aq.l0]
    rw [List.take_of_length_le (by omega)]
    exact Ev.neg (by omega) (Ev.bindc hR (Ev.now _))
  | cons s t ih =>
    intro i hd hi
    obtain ⟨h1,h2,h3⟩:=Ir l i s t hd
    simp only [List.length_cons] at hi
    refine Ev.succ ?_
    simp only [Aq.l0]
    refine Ev.pos (by omega) (Ev.pos (by omega) (Ev.pos (by omega) ?_))
    rw [Ef,h2,Ai (n:=(i:Int)+1) (by omega) (by omega)]
    refine Ev.bindc rfl (Ev.pos (by rw [List.length_map,List.length_take];omega) ?_)
    have e:=Jg l (tur H) i s t hd
    have h:=ih (i+1) h3 (by omega)
    rw [← e] at h
    exact h

/-! ### cuts that are mirrored -/
def mir (W:Int) (s:Sq):Sq:=⟨wrap64 ((wrap64 (W-s.f0))-s.f2),s.f1,s.f2⟩
theorem Jb {W H:Int} (hW:W≤500) {s:Sq} (h:Ins W H s):mir W s=⟨W-s.f0-s.f2,s.f1,s.f2⟩:=by
  obtain ⟨h1,h2,h3,_,_⟩:=h
  unfold mir
  rw [Ai (n:=W-s.f0) (by omega) (by omega),Ai (n:=W-s.f0-s.f2) (by omega) (by omega)]
theorem mir_bd {W H:Int} (hW:W≤500) (hH:H≤500) {s:Sq} (h:Ins W H s):Ju (mir W s):=by
  rw [Jb hW h]
  obtain ⟨h1,h2,h3,h4,h5⟩:=h
  unfold Ju
  dsimp only
  omega
theorem mir_dist {W H:Int} {l:List Sq} (hg:Bz W H l):Dist (l.map (mir W)):=by
  intro a ha b hb e0 e1
  obtain ⟨p,hp,rfl⟩:=List.mem_map.1 ha
  obtain ⟨q,hq,rfl⟩:=List.mem_map.1 hb
  have ip:=Gl hg hp
  have iq:=Gl hg hq
  have hW:=hg.1.2
  rw [Jb hW ip,Jb hW iq] at e0 e1
  dsimp only at e0 e1
  obtain ⟨p1,p2,p3,p4,p5⟩:=ip
  obtain ⟨q1,q2,q3,q4,q5⟩:=iq
  rw [Ml hg hp hq (by unfold Ovl;omega)]
theorem Q4 (W H : Int) (l : List Sq) (hl : l.length ≤ 1000) (R : List Sq) (hR : Ev (fun k => Ao.f k (l.map (mir W))) R) : ∀ (t : List Sq) (i : Nat), l.drop i = t → i + t.length = l.length →
    Ev (fun k=>Cb.l0 k ((l.take i).map (mir W)) l (l.length:Int) (i:Int) W H l) (W,H,R):=by
  intro t
  induction t with
  | nil =>
    intro i hd hi
    simp only [List.length_nil] at hi
    refine Ev.succ ?_
    simp only [Cb.l0]
    rw [List.take_of_length_le (by omega)]
    exact Ev.neg (by omega) (Ev.bind hR (Ev.now _))
  | cons s t ih =>
    intro i hd hi
    obtain ⟨h1,h2,h3⟩:=Ir l i s t hd
    simp only [List.length_cons] at hi
    refine Ev.succ ?_
    simp only [Cb.l0]
    refine Ev.pos (by omega) (Ev.pos (by omega) (Ev.pos (by omega) (Ev.pos (by rw [List.length_map,List.length_take];omega) ?_)))
    rw [Ef,h2,Ai (n:=(i:Int)+1) (by omega) (by omega)]
    have e:=Jg l (mir W) i s t hd
    have h:=ih (i+1) h3 (by omega)
    rw [← e] at h
    exact h
theorem Q5 (W H : Int) (l : List Sq) (hl : l.length ≤ 1000) (R : List Sq) (hR : Aw.f (l.map (mir W)) = some R) : ∀ (t : List Sq) (i : Nat), l.drop i = t → i + t.length = l.length →
    Ev (fun k=>An.l0 k l (l.length:Int) (i:Int) W H l W H ((l.take i).map (mir W))) (W,H,R):=by
  intro t
  induction t with
  | nil =>
    intro i hd hi
    simp only [List.length_nil] at hi
    refine Ev.succ ?_
    simp only [An.l0]
    rw [List.take_of_length_le (by omega)]
    exact Ev.neg (by omega) (Ev.bindc hR (Ev.now _))
  | cons s t ih =>
    intro i hd hi
    obtain ⟨h1,h2,h3⟩:=Ir l i s t hd
    simp only [List.length_cons] at hi
    refine Ev.succ ?_
    simp only [An.l0]
    refine Ev.pos (by omega) (Ev.pos (by omega) (Ev.pos (by omega) ?_))
    rw [Ef,h2,Ai (n:=(i:Int)+1) (by omega) (by omega)]
    refine Ev.bindc rfl (Ev.pos (by rw [List.length_map,List.length_take];omega) ?_)
    have e:=Jg l (mir W) i s t hd
    have h:=ih (i+1) h3 (by omega)
    rw [← e] at h
    exact h

/-! ### the first one of all turned and mirrored cuts -/
abbrev Ct:=S24
theorem Uq {W H:Int} {l:List Sq} (hg:Bz W H l):Dist l:=by
  intro a ha b hb e0 e1
  have p1:=Gl hg ha
  have p2:=Gl hg hb
  exact Ml hg ha hb (by unfold Ins at p1 p2;unfold Ovl;omega)
theorem M0 {W H:Int} {l:List Sq} (hg:Bz W H l):l.Pairwise LeP:=by
  have hok:=hg.2.2.2.1
  have h:∀ d i,i+d<l.length→LeP (Aj l i) (Aj l (i+d)):=by
    intro d
    induction d with
    | zero=>intro i _;unfold LeP D4;simp only [Nat.add_zero];omega
    | succ d ih =>
      intro i hi
      have h1:=(hok (i+(d+1)) hi).2.1 (by omega)
      rw [show i+(d+1)-1=i+d by omega] at h1
      exact LeP.trans (ih i (by omega)) (LeP.of_less h1)
  rw [List.pairwise_iff_getElem]
  intro i j hi hj hij
  have:=h (j-i) i (by omega)
  rw [show i+(j-i)=j by omega,Ci l i hi,Ci l j hj] at this
  exact this
theorem Rn {W H:Int} {l:List Sq} (h:Bz W H l):∃ R,Bz W H R∧R.Perm (l.map (mir W))∧Ev (fun k=>Cb.f k W H l) (W,H,R)∧Ev (fun k=>Em.f k W H l) (W,H,R):=by
  have hl:=h.2.2.1.2
  obtain ⟨R,hs,hp,hev⟩:=Nh (l.map (mir W)) (by rw [List.length_map];omega)
  obtain ⟨R',hf,hp',hs'⟩:=N2 (l.map (mir W)) (fun s hq=>by
    obtain ⟨p,hpl,rfl⟩:=List.mem_map.1 hq
    exact mir_bd h.1.2 h.2.1.2 (Gl h hpl)) (by rw [List.length_map];omega)
  obtain rfl:R'=R:=I0 (mir_dist h) hp' hp hs' hs
  refine ⟨R',Mz (mir W) h h.1 h.2.1 rfl (fun s hi=>?_) (fun s hi=>?_) (fun a b ha hb ho=>?_) hp hs,hp,Q4 W H l (by omega) R' hev l 0 rfl (by omega),?_⟩
  · rw [Jb h.1.2 hi];unfold Ins at hi ⊢;dsimp only;omega
  · rw [Jb h.1.2 hi]
  · rw [Jb h.1.2 ha,Jb h.1.2 hb] at ho;unfold Ovl at ho ⊢;dsimp only at ho;unfold Ins at ha hb;omega
  · unfold Em.f
    exact Ev.bind (a:=(W,H,R')) (Q5 W H l (by omega) R' hf l 0 rfl (by omega)) (Ev.now _)
theorem tur_both {W H:Int} {l:List Sq} (h:Bz W H l):∃ R,Bz H W R∧R.Perm (l.map (tur H))∧Ev (fun k=>Cp.f k W H l) (H,W,R)∧Ev (fun k=>Es.f k W H l) (H,W,R):=by
  have hl:=h.2.2.1.2
  obtain ⟨R,hs,hp,hev⟩:=Nh (l.map (tur H)) (by rw [List.length_map];omega)
  obtain ⟨R',hf,hp',hs'⟩:=N2 (l.map (tur H)) (fun s hq=>by
    obtain ⟨p,hpl,rfl⟩:=List.mem_map.1 hq
    exact tur_bd h.1.2 h.2.1.2 (Gl h hpl)) (by rw [List.length_map];omega)
  obtain rfl:R'=R:=I0 (tur_dist h) hp' hp hs' hs
  refine ⟨R',Mz (tur H) h h.2.1 h.1 (Int.mul_comm _ _) (fun s hi=>?_) (fun s hi=>?_) (fun a b ha hb ho=>?_) hp hs,hp,Q2 W H l (by omega) R' hev l 0 rfl (by omega),?_⟩
  · rw [Ks h.2.1.2 hi];unfold Ins at hi ⊢;dsimp only;omega
  · rw [Ks h.2.1.2 hi]
  · rw [Ks h.2.1.2 ha,Ks h.2.1.2 hb] at ho;unfold Ovl at ho ⊢;dsimp only at ho;unfold Ins at ha hb;omega
  · unfold Es.f
    exact Ev.bind (a:=(H,W,R')) (Q3 W H l (by omega) R' hf l 0 rfl (by omega)) (Ev.now _)
theorem mir_twice {W H:Int} {l R R':List Sq} (h:Bz W H l) (hp:R.Perm (l.map (mir W))) (h':Bz W H R') (hp':R'.Perm (R.map (mir W))):R'=l:=by
  refine I0 (Uq h) (hp'.trans ((hp.map _).trans ?_)) (List.Perm.refl _) (M0 h') (M0 h)
  rw [List.map_map]
  have e:l.map (mir W ∘ mir W)=l.map id:=List.map_congr_left (fun s hs=>by
    have hi:=Gl h hs
    have hm:Ins W H (mir W s):=by rw [Jb h.1.2 hi];unfold Ins at hi ⊢;dsimp only;omega
    show mir W (mir W s)=s
    rw [Jb h.1.2 hm,Jb h.1.2 hi]
    dsimp only
    rw [show W-(W-s.f0-s.f2)-s.f2=s.f0 by omega])
  rw [e,List.map_id]
/-! lists of squares compared -/
def Gy (s q:Sq):Int:=if s.f0<q.f0 then -1 else if s.f0>q.f0 then 1 else if s.f1<q.f1 then -1 else if s.f1>q.f1 then 1 else if s.f2<q.f2 then -1 else if s.f2>q.f2 then 1 else 0
def bef:List Sq→List Sq→Bool
  | [],q=>decide (0<q.length)
  | _::_,[]=>false
  | s::t,q::u=>if Gy s q=0 then bef t u else decide (Gy s q<0)
def cmpv:List Sq→List Sq→Int
  | [],[]=>0
  | [],_::_ => -1
  | _::_,[]=>1
  | s::t,q::u=>if Gy s q=0 then cmpv t u else Gy s q
theorem Ro:∀ a b:List Sq,decide (cmpv a b<0)=bef a b
  | [],[]=>rfl
  | [],_::_=>by simp [cmpv,bef]
  | _::_,[]=>by simp [cmpv,bef]
  | s::t,q::u=>by
    simp only [cmpv,bef]
    split
    · exact Ro t u
    · rfl
theorem Kx {s q:Sq}:Gy s q=0↔(s.f0=q.f0∧s.f1=q.f1∧s.f2=q.f2):=by
  unfold Gy
  repeat' split
  all_goals omega
theorem cmpI (a b:Int):Et.f a b=some (if a<b then -1 else if a>b then 1 else 0):=by
  unfold Et.f C5.f
  simp only [bne_self_eq_false,Option.bind_some,Bool.false_eq_true,if_false]
  split
  · rfl
  · split <;> rfl
theorem rd3 (a b c:Int):rd [a,b,c] 0=a∧rd [a,b,c] 1=b∧rd [a,b,c] 2=c:=⟨rfl,rfl,rfl⟩
theorem comp3_ev (s q:Sq):Ev (fun k=>Bn.f k [s.f0,s.f1,s.f2] [q.f0,q.f1,q.f2]) (Gy s q):=by
  unfold Bn.f
  refine Ev.succ ?_
  simp only [Bn.l0,List.length_cons,List.length_nil]
  refine Ev.pos (by decide) (Ev.pos (by decide) (Ev.pos (by decide) (Ev.neg (by decide) (Ev.pos (by decide) (Ev.bindc (cmpI _ _) ?_)))))
  rw [(rd3 _ _ _).1,(rd3 _ _ _).1]
  by_cases h0:s.f0=q.f0
  · refine Ev.pos (by rw [if_neg (by omega),if_neg (by omega)]) ?_
    rw [show wrap64 (0+1)=1 by unfold wrap64;omega]
    refine Ev.succ ?_
    simp only [Bn.l0,List.length_cons,List.length_nil]
    refine Ev.pos (by decide) (Ev.pos (by decide) (Ev.pos (by decide) (Ev.neg (by decide) (Ev.pos (by decide) (Ev.bindc (cmpI _ _) ?_)))))
    rw [(rd3 _ _ _).2.1,(rd3 _ _ _).2.1]
    by_cases h1:s.f1=q.f1
    · refine Ev.pos (by rw [if_neg (by omega),if_neg (by omega)]) ?_
      rw [show wrap64 (1+1)=2 by unfold wrap64;omega]
      refine Ev.succ ?_
      simp only [Bn.l0,List.length_cons,List.length_nil]
      refine Ev.pos (by decide) (Ev.pos (by decide) (Ev.pos (by decide) (Ev.neg (by decide) (Ev.pos (by decide) (Ev.bindc (cmpI _ _) ?_)))))
      rw [(rd3 _ _ _).2.2,(rd3 _ _ _).2.2]
      by_cases h2:s.f2=q.f2
      · refine Ev.pos (by rw [if_neg (by omega),if_neg (by omega)]) ?_
        rw [show wrap64 (2+1)=3 by unfold wrap64;omega]
        refine Ev.succ ?_
        simp only [Bn.l0,List.length_cons,List.length_nil]
        refine Ev.neg (by decide) (Ev.neg (by decide) ?_)
        rw [Kx.2 ⟨h0,h1,h2⟩]
        exact Ev.now _
      · refine Ev.neg (by split <;> (try split) <;> omega) ?_
        have e:Gy s q=if s.f2<q.f2 then -1 else if s.f2>q.f2 then 1 else 0:=by unfold Gy;rw [if_neg (by omega),if_neg (by omega),if_neg (by omega),if_neg (by omega)]
        rw [e];exact Ev.now _
    · refine Ev.neg (by split <;> (try split) <;> omega) ?_
      have e:Gy s q=if s.f1<q.f1 then -1 else if s.f1>q.f1 then 1 else 0:=by unfold Gy;rw [if_neg (by omega),if_neg (by omega)];repeat' split;all_goals omega
      rw [e];exact Ev.now _
  · refine Ev.neg (by split <;> (try split) <;> omega) ?_
    have e:Gy s q=if s.f0<q.f0 then -1 else if s.f0>q.f0 then 1 else 0:=by unfold Gy;repeat' split;all_goals omega
    rw [e];exact Ev.now _
theorem Ur (s q:Sq) (hne:Gy s q≠0):Ev (fun k=>Ce.f k [s.f0,s.f1,s.f2] [q.f0,q.f1,q.f2]) (decide (Gy s q<0)):=by
  have hd:¬ (s.f0=q.f0∧s.f1=q.f1∧s.f2=q.f2):=fun h=>hne (Kx.2 h)
  unfold Ce.f
  refine Ev.succ ?_
  simp only [Ce.l0,List.length_cons,List.length_nil]
  refine Ev.pos (by decide) (Ev.succ ?_)
  simp only [Ce.j1,List.length_cons,List.length_nil]
  refine Ev.pos (by simp) (Ev.pos (by decide) (Ev.pos (by decide) (Ev.pos (by decide) ?_)))
  rw [(rd3 _ _ _).1,(rd3 _ _ _).1]
  by_cases h0:s.f0=q.f0
  · refine Ev.pos h0 ?_
    rw [show wrap64 (0+1)=1 by unfold wrap64;omega]
    refine Ev.succ ?_
    simp only [Ce.l0,List.length_cons,List.length_nil]
    refine Ev.pos (by decide) (Ev.succ ?_)
    simp only [Ce.j1,List.length_cons,List.length_nil]
    refine Ev.pos (by simp) (Ev.pos (by decide) (Ev.pos (by decide) (Ev.pos (by decide) ?_)))
    rw [(rd3 _ _ _).2.1,(rd3 _ _ _).2.1]
    by_cases h1:s.f1=q.f1
    · refine Ev.pos h1 ?_
      rw [show wrap64 (1+1)=2 by unfold wrap64;omega]
      refine Ev.succ ?_
      simp only [Ce.l0,List.length_cons,List.length_nil]
      refine Ev.pos (by decide) (Ev.succ ?_)
      simp only [Ce.j1,List.length_cons,List.length_nil]
      refine Ev.pos (by simp) (Ev.pos (by decide) (Ev.pos (by decide) (Ev.pos (by decide) ?_)))
      rw [(rd3 _ _ _).2.2,(rd3 _ _ _).2.2]
      refine Ev.neg (fun h2=>hd ⟨h0,h1,h2⟩) ?_
      have e:decide (Gy s q<0)=decide (s.f2<q.f2):=by
        rw [decide_eq_decide];unfold Gy;repeat' split;all_goals omega
      rw [e];exact Ev.now _
    · refine Ev.neg h1 ?_
      have e:decide (Gy s q<0)=decide (s.f1<q.f1):=by
        rw [decide_eq_decide];unfold Gy;repeat' split;all_goals omega
      rw [e];exact Ev.now _
  · refine Ev.neg h0 ?_
    have e:decide (Gy s q<0)=decide (s.f0<q.f0):=by
      rw [decide_eq_decide];unfold Gy;repeat' split;all_goals omega
    rw [e];exact Ev.now _
theorem cmp_loop (a b : List Sq) (ha : a.length ≤ 1000) (hb : b.length ≤ 1000) : ∀ (t : List Sq) (i : Nat), a.drop i = t → i + t.length = a.length → i ≤ b.length →
    Ev (fun k=>Af.l0 k a b a (a.length:Int) (i:Int)) (cmpv t (b.drop i)):=by
  intro t
  induction t with
  | nil =>
    intro i hd hi hib
    simp only [List.length_nil] at hi
    refine Ev.succ ?_
    simp only [Af.l0]
    refine Ev.neg (by omega) ?_
    by_cases h:i<b.length
    · refine Ev.pos (by omega) ?_
      rw [List.drop_eq_getElem_cons h]
      exact Ev.now _
    · refine Ev.neg (by omega) ?_
      rw [List.drop_eq_nil_of_le (by omega)]
      exact Ev.now _
  | cons s t ih =>
    intro i hd hi hib
    obtain ⟨h1,h2,h3⟩:=Ir a i s t hd
    simp only [List.length_cons] at hi
    refine Ev.succ ?_
    simp only [Af.l0]
    refine Ev.pos (by omega) (Ev.pos (by omega) (Ev.pos (by omega) ?_))
    by_cases h:i<b.length
    · refine Ev.neg (by omega) (Ev.pos (by omega) ?_)
      rw [Ef,Ef,h2,List.drop_eq_getElem_cons h,← Ci b i h]
      simp only [cmpv]
      have hc:=comp3_ev s (Aj b i)
      refine Ev.bind (a:=Gy s (Aj b i)) (Ev.bind hc (Ev.now _)) ?_
      by_cases hz:Gy s (Aj b i)=0
      · rw [if_pos hz]
        refine Ev.pos hz ?_
        rw [Ai (n:=(i:Int)+1) (by omega) (by omega)]
        exact ih (i+1) h3 (by omega) (by omega)
      · rw [if_neg hz]
        exact Ev.neg hz (Ev.now _)
    · refine Ev.pos (by omega) ?_
      rw [List.drop_eq_nil_of_le (by omega)]
      exact Ev.now _
theorem cmp_ev (W H W' H':Int) (a b:List Sq) (ha:a.length≤1000) (hb:b.length≤1000):Ev (fun k=>Ey.f k W H a W' H' b) (cmpv a b):=by
  unfold Ey.f
  refine Ev.bind (a:=cmpv a b) ?_ (Ev.now _)
  exact cmp_loop a b ha hb a 0 rfl (by omega) (Nat.zero_le _)
theorem Us (W H W' H' : Int) (a b : List Sq) (ha : a.length ≤ 1000) (hb : b.length ≤ 1000) : ∀ (t : List Sq) (i : Nat), a.drop i = t → i + t.length = a.length → i ≤ b.length →
    Ev (fun k=>Dr.l0 k a (a.length:Int) (i:Int) W H a W' H' b) (bef t (b.drop i)):=by
  intro t
  induction t with
  | nil =>
    intro i hd hi hib
    simp only [List.length_nil] at hi
    refine Ev.succ ?_
    simp only [Dr.l0]
    refine Ev.neg (by omega) ?_
    have e:decide ((a.length:Int)<(b.length:Int))=bef [] (b.drop i):=by
      simp only [bef,List.length_drop];rw [decide_eq_decide];omega
    rw [e];exact Ev.now _
  | cons s t ih =>
    intro i hd hi hib
    obtain ⟨h1,h2,h3⟩:=Ir a i s t hd
    simp only [List.length_cons] at hi
    refine Ev.succ ?_
    simp only [Dr.l0]
    refine Ev.pos (by omega) (Ev.pos (by omega) (Ev.pos (by omega) ?_))
    by_cases h:i<b.length
    · refine Ev.neg (by omega) (Ev.pos (by omega) ?_)
      rw [Ef,Ef,h2,List.drop_eq_getElem_cons h,← Ci b i h]
      simp only [bef]
      by_cases hz:Gy s (Aj b i)=0
      · rw [if_pos hz]
        obtain ⟨z0,z1,z2⟩:=Kx.1 hz
        refine Ev.neg (by rw [z0,z1,z2];simp) ?_
        rw [Ai (n:=(i:Int)+1) (by omega) (by omega)]
        exact ih (i+1) h3 (by omega) (by omega)
      · rw [if_neg hz]
        refine Ev.pos ?_ (Ev.bind (Ur s (Aj b i) hz) (Ev.now _))
        have hd:¬ (s.f0=(Aj b i).f0∧s.f1=(Aj b i).f1∧s.f2=(Aj b i).f2):=fun h=>hz (Kx.2 h)
        simp only [Bool.or_eq_true,Bool.not_eq_true',beq_eq_false_iff_ne,ne_eq]
        omega
    · refine Ev.pos (by omega) ?_
      rw [List.drop_eq_nil_of_le (by omega)]
      exact Ev.now _
theorem first_ev (W H W' H':Int) (a b:List Sq) (ha:a.length≤1000) (hb:b.length≤1000):Ev (fun k=>Dr.f k W H a W' H' b) (bef a b) :=
  Us W H W' H' a b ha hb a 0 rfl (by omega) (Nat.zero_le _)
/-! the least of a list, and the reference's way to it -/
def pick (m:Ct):List Ct→Ct
  | []=>m
  | x::t=>pick (if bef x.f2 m.f2=true then x else m) t
def Is (c:Ct):Bool:=decide (c.f0≥c.f1)
def Gq (st:Option Ct) (c:Ct):Option Ct:=if Is c=true then (match st with|none=>some c|some m=>some (if bef c.f2 m.f2=true then c else m)) else st
theorem fold_some (m:Ct):∀ L:List Ct,L.foldl Gq (some m)=some (pick m (L.filter Is)):=by
  intro L
  induction L generalizing m with
  | nil=>rfl
  | cons c t ih =>
    by_cases h:Is c=true
    · rw [List.foldl_cons,List.filter_cons_of_pos h]
      simp only [Gq,if_pos h,pick]
      exact ih _
    · rw [List.foldl_cons,List.filter_cons_of_neg h]
      simp only [Gq,if_neg h]
      exact ih m
theorem fold_none:∀ L:List Ct,L.foldl Gq none=match L.filter Is with|[]=>none|a::t=>some (pick a t):=by
  intro L
  induction L with
  | nil=>rfl
  | cons c t ih =>
    by_cases h:Is c=true
    · rw [List.foldl_cons,List.filter_cons_of_pos h]
      simp only [Gq,if_pos h]
      exact fold_some c t
    · rw [List.foldl_cons,List.filter_cons_of_neg h]
      simp only [Gq,if_neg h]
      exact ih
theorem minGo_ev:∀ (L:List Ct) (m:Ct),m.f2.length≤1000→(∀ c ∈ L,c.f2.length≤1000)→Ev (fun k=>Kg k m L) (pick m L):=by
  intro L
  induction L with
  | nil=>intro m _ _;exact Ev.now _
  | cons x t ih =>
    intro m hm hL
    have hx:=hL x List.mem_cons_self
    simp only [Kg,pick]
    refine Ev.bind (cmp_ev _ _ _ _ x.f2 m.f2 hx hm) ?_
    have e:(if cmpv x.f2 m.f2<0 then x else m)=if bef x.f2 m.f2=true then x else m:=by
      rw [← Ro];simp only [decide_eq_true_eq]
    rw [e]
    exact ih _ (by split <;> assumption) (fun c hc=>hL c (List.mem_cons_of_mem _ hc))
def Gz (st:Option Ct):Ct:=st.getD ⟨0,0,[]⟩
theorem Rp {x5 x6 W H : Int} {l M : List Sq} (hl : l.length ≤ 30) (h6 : 0 ≤ x6 ∧ x6 < 2) (hM : Ev (fun k => Cb.f k W H l) (W, H, M)) (st : Option Ct) (hst : (Gz st).f2.length ≤ 30) {R : Int × Int × List Sq}
    (h:Ev (fun k=>Bm.l1 k (Gq st ⟨W,H,l⟩).isSome x5 (x6+1) W H M (Gz (Gq st ⟨W,H,l⟩)).f0 (Gz (Gq st ⟨W,H,l⟩)).f1 (Gz (Gq st ⟨W,H,l⟩)).f2) R) :
    Ev (fun k=>Bm.l1 k st.isSome x5 x6 W H l (Gz st).f0 (Gz st).f1 (Gz st).f2) R:=by
  have hw:wrap64 (x6+1)=x6+1:=Ai (by omega) (by omega)
  have hown:Ib.f W H l=some (W,H,l):=by
    unfold Ib.f
    rw [Option.bind_some,if_pos (by simp;omega),List.nil_append]
  have take:(Gq st ⟨W,H,l⟩)=some ⟨W,H,l⟩→Ev (fun k=>Bm.j2 k st.isSome x5 x6 true W H l (Gz st).f0 (Gz st).f1 (Gz st).f2) R:=fun e=>by
    rw [e] at h
    refine Ev.succ ?_
    simp only [Bm.j2]
    refine Ev.pos (by simp) (Ev.bindc hown (Ev.bind hM ?_))
    rw [hw]
    exact h
  have leave:(Gq st ⟨W,H,l⟩)=st→Ev (fun k=>Bm.j2 k st.isSome x5 x6 false W H l (Gz st).f0 (Gz st).f1 (Gz st).f2) R:=fun e=>by
    rw [e] at h
    refine Ev.succ ?_
    simp only [Bm.j2]
    refine Ev.neg (by simp) (Ev.bind hM ?_)
    rw [hw]
    exact h
  refine Ev.succ ?_
  simp only [Bm.l1]
  refine Ev.pos h6.2 ?_
  by_cases hWH:W≥H
  · refine Ev.pos hWH ?_
    have hwd:Is ⟨W,H,l⟩=true:=by simp [Is,hWH]
    cases st with
    | none=>exact Ev.neg (by simp) (take (by simp only [Gq,if_pos hwd]))
    | some m =>
      refine Ev.pos (by simp) (Ev.bind (first_ev W H m.f0 m.f1 l m.f2 (by omega) (by have:m.f2.length≤30:=hst;omega)) ?_)
      cases hb:bef l m.f2 with
      | true=>exact take (by simp only [Gq,if_pos hwd,hb,if_true])
      | false=>exact leave (by simp only [Gq,if_pos hwd,hb,Bool.false_eq_true,if_false])
  · refine Ev.neg hWH (leave ?_)
    have hwd:¬ Is ⟨W,H,l⟩=true:=by simp [Is];omega
    simp only [Gq,if_neg hwd]
theorem turns_ev : ∀ (q : Nat) {W H : Int} {l : List Sq}, q ≤ 4 → Bz W H l → ∃ L : List Ct, (∀ c ∈ L, Bz c.f0 c.f1 c.f2) ∧ (0 < q → L.head? = some ⟨W, H, l⟩) ∧ (1 < q → ∃ c ∈ L, c.f0 = H ∧ c.f1 = W) ∧
    (∀ os,Ev (fun k=>J4 k q W H l os) (os++L.filter Is)) ∧
    (∀ st:Option Ct,(Gz st).f2.length≤30→Ev (fun k=>Bm.l0 k st.isSome (4-(q:Int)) W H l (Gz st).f0 (Gz st).f1 (Gz st).f2) ((Gz (L.foldl Gq st)).f0,(Gz (L.foldl Gq st)).f1,(Gz (L.foldl Gq st)).f2)):=by
  intro q
  induction q with
  | zero =>
    intro W H l _ _
    refine ⟨[],by simp,by omega,by omega,fun os=>?_,fun st _=>?_⟩
    · simp only [J4,List.filter_nil,List.append_nil];exact Ev.now _
    · refine Ev.succ ?_
      simp only [Bm.l0]
      exact Ev.neg (by omega) (Ev.now _)
  | succ q ih =>
    intro W H l hq hg
    obtain ⟨M,gM,pM,sM,iM⟩:=Rn hg
    obtain ⟨M',gM',pM',sM',iM'⟩:=Rn gM
    obtain rfl:M'=l:=mir_twice hg pM gM' pM'
    obtain ⟨T,gT,pT,sT,iT⟩:=tur_both hg
    obtain ⟨L,hL,hhd,_,himp,hspec⟩:=ih (by omega) gT
    have hl:=hg.2.2.1.2
    have hm:=gM.2.2.1.2
    refine ⟨⟨W,H,M'⟩::⟨W,H,M⟩::L,?_,fun _=>rfl,fun h1=>?_,fun os=>?_,fun st hst=>?_⟩
    · intro c hc
      simp only [List.mem_cons] at hc
      rcases hc with rfl|rfl|hc
      · exact hg
      · exact gM
      · exact hL c hc
    · have:=hhd (by omega)
      cases L with
      | nil=>simp at this
      | cons a t =>
        simp only [List.head?_cons,Option.some.injEq] at this
        exact ⟨a,by simp,by rw [this],by rw [this]⟩
    · simp only [J4]
      by_cases hWH:W≥H
      · refine Ev.bind (a:=os++[⟨W,H,M'⟩,⟨W,H,M⟩]) (Ev.pos hWH (Ev.bind iM (Ev.now _))) (Ev.bind iT ?_)
        rw [List.filter_cons_of_pos (by simp [Is,hWH]),List.filter_cons_of_pos (by simp [Is,hWH])]
        have:=himp (os++[⟨W,H,M'⟩,⟨W,H,M⟩])
        simpa using this
      · refine Ev.bind (a:=os) (Ev.neg hWH (Ev.now _)) (Ev.bind iT ?_)
        rw [List.filter_cons_of_neg (by simp [Is];omega),List.filter_cons_of_neg (by simp [Is];omega)]
        exact himp os
    · have stl : ∀ (s : Option Ct) (c : Ct), (Gz s).f2.length ≤ 30 → c.f2.length ≤ 30 → (Gz (Gq s c)).f2.length ≤ 30 := by
        intro s c h1 h2
        unfold Gq
        split
        · cases s with
          | none=>exact h2
          | some m =>
            simp only [Gz,Option.getD_some]
            split
            · exact h2
            · exact h1
        · exact h1
      refine Ev.succ ?_
      simp only [Bm.l0]
      refine Ev.pos (by omega) ?_
      refine Rp hl (by omega) sM st hst ?_
      refine Rp hm (by omega) sM' _ (stl _ _ hst hl) ?_
      refine Ev.succ ?_
      simp only [Bm.l1]
      refine Ev.neg (by omega) (Ev.bind sT ?_)
      rw [Ai (n:=4-((q+1:Nat):Int)+1) (by omega) (by omega),show (4-((q+1:Nat):Int)+1)=4-(q:Int) by omega,List.foldl_cons,List.foldl_cons]
      exact hspec _ (stl _ _ (stl _ _ hst hl) hm)
theorem pick_mem:∀ (L:List Ct) (m:Ct),pick m L=m∨pick m L ∈ L:=by
  intro L
  induction L with
  | nil=>intro m;exact .inl rfl
  | cons x t ih =>
    intro m
    simp only [pick]
    rcases ih (if bef x.f2 m.f2=true then x else m) with h|h
    · rw [h]
      split
      · exact .inr List.mem_cons_self
      · exact .inl rfl
    · exact .inr (List.mem_cons_of_mem _ h)
theorem firstT_ev {W H:Int} {l:List Sq} (hg:Bz W H l):∃ c:Ct,Bz c.f0 c.f1 c.f2∧Ev (fun k=>Bm.f k W H l) (c.f0,c.f1,c.f2)∧Ev (fun k=>Ea.f k W H l) (c.f0,c.f1,c.f2):=by
  obtain ⟨L,hL,hhd,hex,himp,hspec⟩:=turns_ev 4 (Nat.le_refl _) hg
  have hne:∃ a t,L.filter Is=a::t:=by
    have h1:∃ c ∈ L,Is c=true:=by
      by_cases h:W≥H
      · refine ⟨⟨W,H,l⟩,List.mem_of_mem_head? (hhd (by omega)),by simp [Is,h]⟩
      · obtain ⟨c,hc,e0,e1⟩:=hex (by omega)
        exact ⟨c,hc,by simp only [Is,e0,e1,decide_eq_true_eq];omega⟩
    obtain ⟨c,hc,hw⟩:=h1
    cases hf:L.filter Is with
    | nil=>rw [List.filter_eq_nil_iff] at hf;exact absurd hw (hf c hc)
    | cons a t=>exact ⟨a,t,rfl⟩
  obtain ⟨a,t,hf⟩:=hne
  have hmem:∀ c ∈ a::t,Bz c.f0 c.f1 c.f2:=fun c hc=>hL c ((List.mem_filter.1 (hf ▸ hc)).1)
  have hlen:∀ c ∈ a::t,c.f2.length≤1000:=fun c hc=>by have:=(hmem c hc).2.2.1.2;omega
  refine ⟨pick a t,?_,?_,?_⟩
  · rcases pick_mem t a with h|h
    · rw [h];exact hmem a List.mem_cons_self
    · exact hmem _ (List.mem_cons_of_mem _ h)
  · have h:=hspec none (by simp [Gz])
    rw [fold_none,hf] at h
    exact h
  · unfold Ea.f
    refine Ev.bind (himp []) (Ev.bind (a:=pick a t) ?_ (Ev.now _))
    rw [List.nil_append,hf]
    simp only [minF]
    exact minGo_ev t a (hlen a List.mem_cons_self) (fun c hc=>hlen c (List.mem_cons_of_mem _ hc))
theorem Ky {W H:Int} {l:List Sq} (h:Bz W H l) {c:Ct} (s2:Ev (fun k=>Ea.f k W H l) (c.f0,c.f1,c.f2)):Ev (fun k=>De.f k W H l) (c.f0,c.f1,c.f2,true):=by
  have hl:=h.2.2.1.2
  unfold De.f
  have hown:Df.f W H l=some (W,H,l):=by
    unfold Df.f Di.f
    rw [Option.bind_some,if_pos (by simp;omega),List.nil_append,Option.bind_some]
  exact Ev.bind (Gb W H l) (Ev.pos (by simpa using h) (Ev.bindc hown (Ev.bind s2 (Ev.now _))))
theorem Qg {W H:Int} {l:List Sq} (h:¬ Bz W H l):Ev (fun k=>De.f k W H l) (0,0,[],false):=by
  unfold De.f
  exact Ev.bind (Gb W H l) (Ev.neg (by simpa using h) (Ev.now _))

/-! ### the stable sort: exchanges and rotations, on the list cut into pieces -/
def I8 (a b:Sq):Int:=if a.f1=b.f1 then wrap64 (a.f0-b.f0) else wrap64 (a.f1-b.f1)
theorem J6 (a b:Sq):Bf.f a.f0 a.f1 a.f2 b.f0 b.f1 b.f2=some (I8 a b):=by
  unfold Bf.f I8;split <;> rfl
def BdS (s:Sq):Prop:=(-1099511627776≤s.f0∧s.f0≤1099511627776)∧(-1099511627776≤s.f1∧s.f1≤1099511627776)
theorem cmpV_lt {a b:Sq} (ha:BdS a) (hb:BdS b):I8 a b<0↔D4 a b:=by
  unfold BdS at ha hb
  unfold I8 D4
  split
  · rw [Ai (by omega) (by omega)];omega
  · rw [Ai (by omega) (by omega)];omega
theorem half_eq (x:Int) (h0:0≤x) (h1:x≤1099511627776):wrap64 (IntKind.u64.wrap (wrap64 x)/2)=x/2:=by
  rw [Ai (n:=x) (by omega) (by omega)]
  have:IntKind.u64.wrap x=x:=by
    simp only [IntKind.wrap]
    have e:(2:Int) ^ IntKind.u64.bits=18446744073709551616:=rfl
    rw [e,if_neg (by simp [IntKind.signed])];omega
  rw [this,Ai (by omega) (by omega)]
theorem M1 (s:Sq):(⟨s.f0,s.f1,s.f2⟩:Sq)=s:=rfl
theorem N3 (p:List Sq) (s:Sq) (t:List Sq) (n:Nat) (h:n=p.length):Aj (p++s::t) n=s:=by
  subst h;unfold Aj;simp [List.getD]
theorem set_app (p:List Sq) (s s':Sq) (t:List Sq) (n:Nat) (h:n=p.length):(p++s::t).set n s'=p++s'::t:=by
  subst h;simp
/-- two places change what they hold -/
theorem Mn (p w q : List Sq) (s t : Sq) (i j : Nat) (hi : i = p.length) (hj : j = p.length + 1 + w.length) :
    ((p++s::(w++t::q)).set i (Aj (p++s::(w++t::q)) j)).set j (Aj (p++s::(w++t::q)) i)=p++t::(w++s::q):=by
  have e1:Aj (p++s::(w++t::q)) j=t:=by
    have:p++s::(w++t::q)=(p++s::w)++t::q:=by simp
    rw [this];exact N3 _ _ _ _ (by simp;omega)
  rw [e1,N3 p s _ i hi,set_app p s t _ i hi]
  have:p++t::(w++t::q)=(p++t::w)++t::q:=by simp
  rw [this,set_app _ t s q j (by simp;omega)]
  simp
theorem swp_loop : ∀ (n : Nat) (p u2 w v2 q v1 u1 : List Sq) (a b : Int), u2.length = n → v2.length = n → u1.length = v1.length → a = p.length → b = p.length + v1.length + u2.length + w.length → (p.length + v1.length + u2.length + w.length + u1.length + v2.length + q.length ≤ 1099511627776) →
    Ev (fun k=>zSwp.l0 k (p++v1++u2++w++u1++v2++q) a b ((v1.length+u2.length:Nat):Int) (v1.length:Int)) (p++(v1++v2)++w++(u1++u2)++q):=by
  intro n
  induction n with
  | zero =>
    intro p u2 w v2 q v1 u1 a b h1 h2 h3 ha hb hl
    obtain rfl:=List.length_eq_zero_iff.1 h1
    obtain rfl:=List.length_eq_zero_iff.1 h2
    refine Ev.succ ?_
    simp only [zSwp.l0]
    exact Ev.neg (by simp) (Ev.eqr (Ev.now _) (by simp))
  | succ n ih =>
    intro p u2 w v2 q v1 u1 a b h1 h2 h3 ha hb hl
    obtain ⟨s,u3,rfl⟩:=List.exists_cons_of_length_pos (by omega:0<u2.length)
    obtain ⟨t,v3,rfl⟩:=List.exists_cons_of_length_pos (by omega:0<v2.length)
    simp only [List.length_cons] at h1 h2 hb hl
    have hx:p++v1++(s::u3)++w++u1++(t::v3)++q=(p++v1)++s::((u3++w++u1)++t::(v3++q)):=by simp
    have hlen:(p++v1++(s::u3)++w++u1++(t::v3)++q).length=p.length+v1.length+(u3.length+1)+w.length+u1.length+(v3.length+1)+q.length:=by simp;omega
    have ea:wrap64 (a+(v1.length:Int))=((p.length+v1.length:Nat):Int):=by rw [Ai (by omega) (by omega)];omega
    have eb:wrap64 (b+(v1.length:Int))=((p.length+v1.length+1+(u3.length+w.length+u1.length):Nat):Int):=by rw [Ai (by omega) (by omega)];omega
    have ew:wrap64 ((v1.length:Int)+1)=((v1.length+1:Nat):Int):=by rw [Ai (by omega) (by omega)];omega
    have hnx:=ih p u3 w v3 q (v1++[t]) (u1++[s]) a b (by omega) (by omega) (by simp;omega) ha (by simp;clear ea eb ew;omega) (by simp;clear ea eb ew;omega)
    refine Ev.succ ?_
    simp only [zSwp.l0,ea,eb,ew,Ef,M1,Int.toNat_natCast]
    rw [hlen]
    clear ea eb ew
    refine Ev.pos (by simp;omega) (Ev.pos (by omega) (Ev.pos (by omega) (Ev.pos (by omega) (Ev.pos (by omega) ?_))))
    rw [hx,Mn (p++v1) (u3++w++u1) (v3++q) s t _ _ (by rw [List.length_append]) (by simp only [List.length_append])]
    have e1:(p++v1)++t::((u3++w++u1)++s::(v3++q))=p++(v1++[t])++u3++w++(u1++[s])++v3++q:=by simp
    have e2:((v1++[t]).length+u3.length:Nat)=v1.length+(s::u3).length:=by simp;omega
    rw [e1]
    rw [e2,List.length_append,List.length_singleton] at hnx
    refine Ev.eqr hnx ?_
    simp
theorem swp_ev (p u w v q : List Sq) (a b n : Int) (hu : n = u.length) (hv : n = v.length) (ha : a = p.length) (hb : b = p.length + u.length + w.length) (hl : p.length + u.length + w.length + v.length + q.length ≤ 1099511627776) :
    Ev (fun k=>zSwp.f k (p++u++w++v++q) a b n) (p++v++w++u++q):=by
  unfold zSwp.f
  have:=swp_loop u.length p u w v q [] [] a b rfl (by omega) rfl ha (by simpa using hb) (by simpa using hl)
  simp only [List.append_nil,List.nil_append,List.length_nil,Nat.zero_add] at this
  rw [hu]
  exact this
theorem rot_loop : ∀ (n : Nat) (p u v q : List Sq), u.length + v.length = n → 1 ≤ u.length → 1 ≤ v.length → p.length + u.length + v.length + q.length ≤ 1099511627776 → ∀ (m i j : Int), m = p.length + u.length → i = u.length → j = v.length →
    Ev (fun k=>zRot.l0 k (p++u++v++q) m i j) (p++v++u++q):=by
  intro n
  induction n using Nat.strongRecOn with
  | _ n ih =>
    intro p u v q hn hu hv hl m i j hm hi hj
    have e0:wrap64 (m-i)=(p.length:Int):=by rw [Ai (by omega) (by omega)];omega
    refine Ev.succ ?_
    simp only [zRot.l0,e0]
    clear e0
    by_cases c1:i=j
    · have hs:=swp_ev p u [] v q (p.length:Int) m i hi (by omega) rfl (by simpa using hm) (by simp only [List.length_nil];omega)
      simp only [List.append_nil] at hs
      exact Ev.pos c1 (Ev.bind hs (Ev.now _))
    · refine Ev.neg c1 ?_
      by_cases c2:i>j
      · refine Ev.pos c2 ?_
        have a2:(u.take v.length).length=v.length:=by rw [List.length_take];omega
        have a0:(u.drop v.length).length=u.length-v.length:=List.length_drop
        have hsp:=List.take_append_drop v.length u
        generalize u.take v.length=u1 at a2 hsp
        generalize u.drop v.length=u2 at a0 hsp
        subst hsp
        rw [List.length_append] at hn hu hl hm hi a0
        have hs:=swp_ev p u1 u2 v q (p.length:Int) m j (by omega) hj rfl (by omega) (by omega)
        rw [show p++(u1++u2)++v++q=p++u1++u2++v++q by simp]
        refine Ev.bind hs ?_
        have e1:wrap64 (i-j)=i-j:=Ai (by omega) (by omega)
        rw [e1]
        clear e1
        have:=ih (u2.length+u1.length) (by omega) (p++v) u2 u1 q rfl (by omega) (by omega) (by rw [List.length_append];omega) m (i-j) j (by rw [List.length_append];omega) (by omega) (by omega)
        refine Ev.eqr this (by simp)
      · refine Ev.neg c2 ?_
        have e1:wrap64 (wrap64 (m+j)-i)=m+j-i:=by rw [Ai (n:=m+j) (by omega) (by omega),Ai (by omega) (by omega)]
        have e2:wrap64 (j-i)=j-i:=Ai (by omega) (by omega)
        rw [e1,e2]
        clear e1 e2
        have a3:(v.drop (v.length-u.length)).length=u.length:=by rw [List.length_drop];omega
        have a1:(v.take (v.length-u.length)).length=v.length-u.length:=by rw [List.length_take];omega
        have hsp:=List.take_append_drop (v.length-u.length) v
        generalize v.take (v.length-u.length)=v1 at a1 hsp
        generalize v.drop (v.length-u.length)=v2 at a3 hsp
        subst hsp
        rw [List.length_append] at hn hv hl hj a1
        have hs:=swp_ev p u v1 v2 q (p.length:Int) (m+j-i) i hi (by omega) rfl (by omega) (by omega)
        rw [show p++u++(v1++v2)++q=p++u++v1++v2++q by simp]
        refine Ev.bind hs ?_
        have:=ih (v2.length+v1.length) (by omega) p v2 v1 (u++q) rfl (by omega) (by omega) (by rw [List.length_append];omega) m i (j-i) (by omega) (by omega) (by omega)
        rw [show p++v2++v1++u++q=p++v2++v1++(u++q) by simp]
        refine Ev.eqr this (by simp)
theorem rot_ev (p u v q : List Sq) (hu : 1 ≤ u.length) (hv : 1 ≤ v.length) (hl : p.length + u.length + v.length + q.length ≤ 1099511627776) (a m b : Int) (ha : a = p.length) (hm : m = p.length + u.length) (hb : b = p.length + u.length + v.length) :
    Ev (fun k=>zRot.f k (p++u++v++q) a m b) (p++v++u++q):=by
  unfold zRot.f
  have e1:wrap64 (m-a)=m-a:=Ai (by omega) (by omega)
  have e2:wrap64 (b-m)=b-m:=Ai (by omega) (by omega)
  rw [e1,e2]
  clear e1 e2
  exact rot_loop _ p u v q rfl hu hv hl m (m-a) (b-m) hm (by omega) (by omega)

/-! ### the stable sort: two neighbouring parts are merged -/
theorem at_u (p u v q:List Sq) (i:Nat) (h:i<u.length):Aj (p++u++v++q) (p.length+i)=Aj u i:=by
  rw [Ci _ _ (by simp;omega),Ci _ _ h]
  rw [List.getElem_append_left (by simp;omega),List.getElem_append_left (by simp;omega),List.getElem_append_right (by omega)]
  congr 1;omega
theorem at_v (p u v q:List Sq) (j:Nat) (h:j<v.length):Aj (p++u++v++q) (p.length+u.length+j)=Aj v j:=by
  have:=at_u (p++u) v [] q j h
  rw [List.append_nil,List.length_append] at this
  exact this
theorem M2 {a b:Sq} (ha:BdS a) (hb:BdS b) (h:¬ I8 b a<0):LeP a b:=fun k=>h ((cmpV_lt hb ha).2 k)
theorem K9 {a b:Sq} (ha:BdS a) (hb:BdS b) (h:I8 a b<0):LeP a b:=LeP.of_less ((cmpV_lt ha hb).1 h)
theorem Kz (a b:Nat) (h:a+b≤1099511627776):wrap64 ((IntKind.u64.wrap (wrap64 ((a:Int)+(b:Int))))/2)=(((a+b)/2:Nat):Int):=by
  rw [half_eq _ (by omega) (by omega)];omega
theorem sm_l4 (x : List Sq) (hx : x.length ≤ 1099511627) (a m b mid n : Nat) (hn : n ≤ 4 * x.length) : ∀ (d s r : Nat), r - s ≤ d → s ≤ r → r ≤ x.length → (∀ c, s ≤ c → c < r → c + 1 ≤ n ∧ n - 1 - c < x.length) →
    ∃ t,s≤t∧t≤r∧(t=s∨¬ I8 (Aj x (n-t)) (Aj x (t-1))<0)∧(t=r∨I8 (Aj x (n-1-t)) (Aj x t)<0) ∧
      ∀ R,Ev (fun k=>if (t:Int)<(m:Int) then zSym.j6 k x a m b mid t (wrap64 ((n:Int)-(t:Int))) (decide ((m:Int)<wrap64 ((n:Int)-(t:Int)))) else zSym.j6 k x a m b mid t (wrap64 ((n:Int)-(t:Int))) false) R →
        Ev (fun k=>zSym.l4 k x a m b mid n s r ((n:Int)-1)) R:=by
  intro d
  induction d with
  | zero =>
    intro s r hd hs hr hc
    obtain rfl:s=r:=by omega
    refine ⟨s,Nat.le_refl _,Nat.le_refl _,Or.inl rfl,Or.inl rfl,fun R hR=>Ev.succ ?_⟩
    simp only [zSym.l4]
    exact Ev.neg (by omega) hR
  | succ d ih =>
    intro s r hd hs hr hc
    by_cases e:s=r
    · subst e
      refine ⟨s,Nat.le_refl _,Nat.le_refl _,Or.inl rfl,Or.inl rfl,fun R hR=>Ev.succ ?_⟩
      simp only [zSym.l4]
      exact Ev.neg (by omega) hR
    · have a0:s≤(s+r)/2:=by omega
      have a1:(s+r)/2<r:=by omega
      obtain ⟨a2,a3⟩:=hc _ a0 a1
      obtain ⟨c,hce⟩:∃ c,c=(s+r)/2:=⟨_,rfl⟩
      rw [← hce] at a0 a1 a2 a3
      by_cases hP:I8 (Aj x (n-1-c)) (Aj x c)<0
      · obtain ⟨t,h1,h2,h3,h4,h5⟩:=ih s c (by omega) a0 (by omega) (fun z z1 z2=>hc z z1 (by omega))
        refine ⟨t,h1,by omega,h3,?_,fun R hR=>Ev.succ ?_⟩
        · rcases h4 with h4|h4
          · right;rw [h4];exact hP
          · exact Or.inr h4
        · have e1:=Kz s r (by omega)
          rw [← hce] at e1
          have e2:wrap64 ((n:Int)-1-(c:Int))=((n-1-c:Nat):Int):=by clear e1;rw [Ai (by omega) (by omega)];omega
          have e3:wrap64 ((c:Int)+1)=((c+1:Nat):Int):=by clear e1 e2;rw [Ai (by omega) (by omega)];omega
          simp only [zSym.l4,e1,e2,e3,Ef,J6,Option.bind_some]
          clear e1 e2 e3
          exact Ev.pos (by omega) (Ev.pos (by omega) (Ev.pos (by omega) (Ev.pos (by omega) (Ev.pos (by omega) (Ev.pos hP (h5 R hR))))))
      · obtain ⟨t,h1,h2,h3,h4,h5⟩:=ih (c+1) r (by omega) (by omega) hr (fun z z1 z2=>hc z (by omega) z2)
        refine ⟨t,by omega,h2,?_,h4,fun R hR=>Ev.succ ?_⟩
        · rcases h3 with h3|h3
          · right;rw [h3,Nat.add_sub_cancel]
            rw [show n-(c+1)=n-1-c by omega];exact hP
          · exact Or.inr h3
        · have e1:=Kz s r (by omega)
          rw [← hce] at e1
          have e2:wrap64 ((n:Int)-1-(c:Int))=((n-1-c:Nat):Int):=by clear e1;rw [Ai (by omega) (by omega)];omega
          have e3:wrap64 ((c:Int)+1)=((c+1:Nat):Int):=by clear e1 e2;rw [Ai (by omega) (by omega)];omega
          simp only [zSym.l4,e1,e2,e3,Ef,J6,Option.bind_some]
          clear e1 e2 e3
          exact Ev.pos (by omega) (Ev.pos (by omega) (Ev.pos (by omega) (Ev.pos (by omega) (Ev.pos (by omega) (Ev.neg hP (h5 R hR))))))
theorem sm_l0 (x : List Sq) (hx : x.length ≤ 1099511627) (a : Nat) (ha : a < x.length) : ∀ (d s r : Nat), r - s ≤ d → s ≤ r → r ≤ x.length →
    ∃ t,s≤t∧t≤r∧(t=s∨I8 (Aj x (t-1)) (Aj x a)<0)∧(t=r∨¬ I8 (Aj x t) (Aj x a)<0) ∧
      ∀ R,Ev (fun k=>zSym.l1 k x t a) R→Ev (fun k=>zSym.l0 k x a s r) R:=by
  intro d
  induction d with
  | zero =>
    intro s r hd hs hr
    obtain rfl:s=r:=by omega
    refine ⟨s,Nat.le_refl _,Nat.le_refl _,Or.inl rfl,Or.inl rfl,fun R hR=>Ev.succ ?_⟩
    simp only [zSym.l0]
    exact Ev.neg (by omega) hR
  | succ d ih =>
    intro s r hd hs hr
    by_cases e:s=r
    · subst e
      refine ⟨s,Nat.le_refl _,Nat.le_refl _,Or.inl rfl,Or.inl rfl,fun R hR=>Ev.succ ?_⟩
      simp only [zSym.l0]
      exact Ev.neg (by omega) hR
    · have a0:s≤(s+r)/2:=by omega
      have a1:(s+r)/2<r:=by omega
      obtain ⟨c,hce⟩:∃ c,c=(s+r)/2:=⟨_,rfl⟩
      rw [← hce] at a0 a1
      by_cases hP:I8 (Aj x c) (Aj x a)<0
      · obtain ⟨t,h1,h2,h3,h4,h5⟩:=ih (c+1) r (by omega) (by omega) hr
        refine ⟨t,by omega,h2,?_,h4,fun R hR=>Ev.succ ?_⟩
        · rcases h3 with h3|h3
          · right;rw [h3,Nat.add_sub_cancel];exact hP
          · exact Or.inr h3
        · have e1:=Kz s r (by omega)
          rw [← hce] at e1
          have e3:wrap64 ((c:Int)+1)=((c+1:Nat):Int):=by clear e1;rw [Ai (by omega) (by omega)];omega
          simp only [zSym.l0,e1,e3,Ef,J6,Option.bind_some]
          clear e1 e3
          exact Ev.pos (by omega) (Ev.pos (by omega) (Ev.pos (by omega) (Ev.pos (by omega) (Ev.pos (by omega) (Ev.pos hP (h5 R hR))))))
      · obtain ⟨t,h1,h2,h3,h4,h5⟩:=ih s c (by omega) a0 (by omega)
        refine ⟨t,h1,by omega,h3,?_,fun R hR=>Ev.succ ?_⟩
        · rcases h4 with h4|h4
          · right;rw [h4];exact hP
          · exact Or.inr h4
        · have e1:=Kz s r (by omega)
          rw [← hce] at e1
          have e3:wrap64 ((c:Int)+1)=((c+1:Nat):Int):=by clear e1;rw [Ai (by omega) (by omega)];omega
          simp only [zSym.l0,e1,e3,Ef,J6,Option.bind_some]
          clear e1 e3
          exact Ev.pos (by omega) (Ev.pos (by omega) (Ev.pos (by omega) (Ev.pos (by omega) (Ev.pos (by omega) (Ev.neg hP (h5 R hR))))))
theorem sm_l2 (x : List Sq) (hx : x.length ≤ 1099511627) (m : Nat) (hm : m < x.length) : ∀ (d s r : Nat), r - s ≤ d → s ≤ r → r ≤ x.length →
    ∃ t,s≤t∧t≤r∧(t=s∨¬ I8 (Aj x m) (Aj x (t-1))<0)∧(t=r∨I8 (Aj x m) (Aj x t)<0) ∧
      ∀ R,Ev (fun k=>zSym.l3 k x t m) R→Ev (fun k=>zSym.l2 k x m s r) R:=by
  intro d
  induction d with
  | zero =>
    intro s r hd hs hr
    obtain rfl:s=r:=by omega
    refine ⟨s,Nat.le_refl _,Nat.le_refl _,Or.inl rfl,Or.inl rfl,fun R hR=>Ev.succ ?_⟩
    simp only [zSym.l2]
    exact Ev.neg (by omega) hR
  | succ d ih =>
    intro s r hd hs hr
    by_cases e:s=r
    · subst e
      refine ⟨s,Nat.le_refl _,Nat.le_refl _,Or.inl rfl,Or.inl rfl,fun R hR=>Ev.succ ?_⟩
      simp only [zSym.l2]
      exact Ev.neg (by omega) hR
    · have a0:s≤(s+r)/2:=by omega
      have a1:(s+r)/2<r:=by omega
      obtain ⟨c,hce⟩:∃ c,c=(s+r)/2:=⟨_,rfl⟩
      rw [← hce] at a0 a1
      by_cases hP:I8 (Aj x m) (Aj x c)<0
      · obtain ⟨t,h1,h2,h3,h4,h5⟩:=ih s c (by omega) a0 (by omega)
        refine ⟨t,h1,by omega,h3,?_,fun R hR=>Ev.succ ?_⟩
        · rcases h4 with h4|h4
          · right;rw [h4];exact hP
          · exact Or.inr h4
        · have e1:=Kz s r (by omega)
          rw [← hce] at e1
          have e3:wrap64 ((c:Int)+1)=((c+1:Nat):Int):=by clear e1;rw [Ai (by omega) (by omega)];omega
          simp only [zSym.l2,e1,e3,Ef,J6,Option.bind_some]
          clear e1 e3
          exact Ev.pos (by omega) (Ev.pos (by omega) (Ev.pos (by omega) (Ev.pos (by omega) (Ev.pos (by omega) (Ev.pos hP (h5 R hR))))))
      · obtain ⟨t,h1,h2,h3,h4,h5⟩:=ih (c+1) r (by omega) (by omega) hr
        refine ⟨t,by omega,h2,?_,h4,fun R hR=>Ev.succ ?_⟩
        · rcases h3 with h3|h3
          · right;rw [h3,Nat.add_sub_cancel];exact hP
          · exact Or.inr h3
        · have e1:=Kz s r (by omega)
          rw [← hce] at e1
          have e3:wrap64 ((c:Int)+1)=((c+1:Nat):Int):=by clear e1;rw [Ai (by omega) (by omega)];omega
          simp only [zSym.l2,e1,e3,Ef,J6,Option.bind_some]
          clear e1 e3
          exact Ev.pos (by omega) (Ev.pos (by omega) (Ev.pos (by omega) (Ev.pos (by omega) (Ev.pos (by omega) (Ev.neg hP (h5 R hR))))))
/-- one goes right past the neighbours -/
theorem sm_l1 (s : Sq) : ∀ (v1 p w : List Sq) (t a : Int), t = p.length + 1 + v1.length → a = p.length → p.length + v1.length + w.length ≤ 1099511627 →
    Ev (fun k=>zSym.l1 k (p++s::(v1++w)) t a) (p++(v1++s::w))
  | [],p,w,t,a,ht,ha,hl=>by
    simp only [List.length_nil] at ht
    refine Ev.succ ?_
    simp only [zSym.l1]
    exact Ev.neg (by rw [Ai (by omega) (by omega)];omega) (Ev.now _)
  | z::v1,p,w,t,a,ht,ha,hl=>by
    simp only [List.length_cons] at ht hl
    have ih:=sm_l1 s v1 (p++[z]) w t (a+1) (by rw [List.length_append,List.length_singleton];omega) (by rw [List.length_append,List.length_singleton];omega) (by rw [List.length_append,List.length_singleton];omega)
    have hlen:(p++s::(z::v1++w)).length=p.length+(v1.length+w.length+2):=by simp
    have sw:=Mn p [] (v1++w) s z p.length (p.length+1) rfl (by simp)
    simp only [List.nil_append] at sw
    have e1:wrap64 (a+1)=((p.length+1:Nat):Int):=by rw [Ai (by omega) (by omega)];omega
    refine Ev.succ ?_
    simp only [zSym.l1,e1]
    clear e1
    refine Ev.pos (by rw [Ai (by omega) (by omega)];omega) (Ev.pos (by omega) (Ev.pos (by omega) (Ev.pos (by omega) (Ev.pos (by omega) ?_))))
    rw [ha]
    simp only [Ef,M1,Int.toNat_natCast]
    rw [show p++s::(z::v1++w)=p++s::z::(v1++w) by simp,sw]
    rw [show p++[z]++s::(v1++w)=p++z::s::(v1++w) by simp] at ih
    rw [show a+1=((p.length+1:Nat):Int) by omega] at ih
    refine Ev.eqr ih ?_
    simp
/-- one goes left past the neighbours -/
theorem sm_l3 (y : Sq) : ∀ (n : Nat) (u2 p w : List Sq), u2.length = n → ∀ (t a : Int), t = p.length → a = p.length + u2.length → p.length + u2.length + w.length ≤ 1099511627 →
    Ev (fun k=>zSym.l3 k (p++u2++y::w) t a) (p++(y::u2)++w)
  | 0,u2,p,w,hn,t,a,ht,ha,hl=>by
    obtain rfl:=List.length_eq_zero_iff.1 hn
    simp only [List.length_nil] at ha
    refine Ev.succ ?_
    simp only [zSym.l3]
    exact Ev.neg (by omega) (Ev.eqr (Ev.now _) (by simp))
  | n+1,u2,p,w,hn,t,a,ht,ha,hl=>by
    obtain ⟨u3,z,rfl⟩:∃ u3 z,u2=u3++[z]:=⟨u2.dropLast,u2.getLast (by intro e;rw [e] at hn;simp at hn),(List.dropLast_concat_getLast _).symm⟩
    simp only [List.length_append,List.length_singleton] at hn ha hl
    have ih:=sm_l3 y n u3 p (z::w) (by omega) t (a-1) ht (by omega) (by rw [List.length_cons];omega)
    have hlen:(p++(u3++[z])++y::w).length=p.length+u3.length+w.length+2:=by simp;omega
    have sw:=Mn (p++u3) [] w z y (p.length+u3.length) (p.length+u3.length+1) (by simp) (by simp)
    simp only [List.nil_append] at sw
    have h0:z=z:=rfl
    have e1:wrap64 (a-1)=((p.length+u3.length:Nat):Int):=by rw [Ai (by omega) (by omega)];omega
    refine Ev.succ ?_
    simp only [zSym.l3,e1]
    clear e1
    refine Ev.pos (by omega) (Ev.pos (by omega) (Ev.pos (by omega) (Ev.pos (by omega) (Ev.pos (by omega) ?_))))
    rw [show a=((p.length+u3.length+1:Nat):Int) by omega]
    simp only [Ef,M1,Int.toNat_natCast]
    have comm:∀ (l:List Sq) (i j:Nat) (x' y':Sq),i≠j→(l.set i x').set j y'=(l.set j y').set i x':=fun l i j x' y' h=>List.set_comm x' y' h
    rw [comm _ _ _ _ _ (by omega),show p++(u3++[z])++y::w=(p++u3)++z::y::w by simp,sw]
    rw [show p++u3++y::(z::w)=(p++u3)++y::z::w by simp,show a-1=((p.length+u3.length:Nat):Int) by omega] at ih
    refine Ev.eqr ih ?_
    simp
theorem mem_sqAt {l:List Sq} {a:Sq} (h:a ∈ l):∃ i,i<l.length∧a=Aj l i:=by
  obtain ⟨i,hi,rfl⟩:=List.mem_iff_getElem.1 h
  exact ⟨i,hi,(Ci l i hi).symm⟩
def Bds (l:List Sq):Prop:=∀ s ∈ l,BdS s
theorem Jc {l:List Sq} (h:Bds l) {i:Nat} (hi:i<l.length):BdS (Aj l i):=h _ (Jv l i hi)
theorem sm_one_u (p : List Sq) (s : Sq) (v q : List Sq) (hl : p.length + 1 + v.length + q.length ≤ 1099511627) (a m b : Int) (ha : a = p.length) (hm : m = p.length + 1) (hb : b = p.length + 1 + v.length) :
    ∃ r,r.Perm ([s]++v)∧(Bds ([s]++v)→v.Pairwise LeP→r.Pairwise LeP)∧Ev (fun k=>zSym.l0 k (p++[s]++v++q) a m b) (p++r++q):=by
  have hxl:(p++[s]++v++q).length=p.length+1+v.length+q.length:=by simp;omega
  obtain ⟨t,h1,h2,h3,h4,h5⟩:=sm_l0 (p++[s]++v++q) (by omega) p.length (by omega) v.length (p.length+1) (p.length+1+v.length) (by omega) (by omega) (by omega)
  obtain ⟨j,rfl⟩:∃ j,t=p.length+1+j:=⟨t-(p.length+1),by omega⟩
  have hj:j≤v.length:=by omega
  have a0:Aj (p++[s]++v++q) p.length=s:=by simp [Aj]
  rw [a0] at h3 h4
  have av:∀ i,i<v.length→Aj (p++[s]++v++q) (p.length+1+i)=Aj v i:=fun i hi=>by have:=at_v p [s] v q i hi;simpa using this
  refine ⟨v.take j++s::v.drop j,?_,fun hB hs=>?_,?_⟩
  · have:=List.perm_middle (l₁:=v.take j) (a:=s) (l₂:=v.drop j)
    rw [List.take_append_drop] at this
    exact this
  · have Bs:BdS s:=hB s (by simp)
    have Bv:Bds v:=fun z hz=>hB z (by simp [hz])
    refine List.pairwise_append.2 ⟨hs.sublist (List.take_sublist _ _),List.pairwise_cons.2 ⟨fun z hz=>?_,hs.sublist (List.drop_sublist _ _)⟩,fun y hy z hz=>?_⟩
    · obtain ⟨i,a1,a2,rfl⟩:=Ih hz
      rcases h4 with h4|h4
      · omega
      · rw [av j (by omega)] at h4
        exact LeP.trans (M2 Bs (Jc Bv (by omega)) h4) (Gs hs a1 a2)
    · have ys : LeP y s := by
        obtain ⟨i,hi,rfl⟩:=Ja hj hy
        rcases h3 with h3|h3
        · omega
        · rw [show p.length+1+j-1=p.length+1+(j-1) by omega,av (j-1) (by omega)] at h3
          exact LeP.trans (Gs hs (by omega) (by omega)) (K9 (Jc Bv (by omega)) Bs h3)
      rcases List.mem_cons.1 hz with rfl|hz
      · exact ys
      · obtain ⟨i,a1,a2,rfl⟩:=Ih hz
        rcases h4 with h4|h4
        · omega
        · rw [av j (by omega)] at h4
          exact LeP.trans ys (LeP.trans (M2 Bs (Jc Bv (by omega)) h4) (Gs hs a1 a2))
  · rw [show a=((p.length:Nat):Int) by omega,show m=((p.length+1:Nat):Int) by omega,show b=((p.length+1+v.length:Nat):Int) by omega]
    refine h5 _ ?_
    have:=sm_l1 s (v.take j) p (v.drop j++q) ((p.length+1+j:Nat):Int) (p.length:Int) (by rw [List.length_take];omega) rfl (by rw [List.length_take,List.length_append,List.length_drop];omega)
    have e:p++s::(v.take j++(v.drop j++q))=p++[s]++v++q:=by
      rw [← List.append_assoc (v.take j),List.take_append_drop];simp
    rw [e] at this
    refine Ev.eqr this ?_
    simp
theorem sm_one_v (p u : List Sq) (y : Sq) (q : List Sq) (hl : p.length + u.length + 1 + q.length ≤ 1099511627) (a m : Int) (ha : a = p.length) (hm : m = p.length + u.length) :
    ∃ r,r.Perm (u++[y])∧(Bds (u++[y])→u.Pairwise LeP→r.Pairwise LeP)∧Ev (fun k=>zSym.l2 k (p++u++[y]++q) m a m) (p++r++q):=by
  have hxl:(p++u++[y]++q).length=p.length+u.length+1+q.length:=by simp;omega
  obtain ⟨t,h1,h2,h3,h4,h5⟩:=sm_l2 (p++u++[y]++q) (by omega) (p.length+u.length) (by omega) u.length p.length (p.length+u.length) (by omega) (by omega) (by omega)
  obtain ⟨j,rfl⟩:∃ j,t=p.length+j:=⟨t-p.length,by omega⟩
  have hj:j≤u.length:=by omega
  have a0:Aj (p++u++[y]++q) (p.length+u.length)=y:=by simp [Aj]
  rw [a0] at h3 h4
  have au:∀ i,i<u.length→Aj (p++u++[y]++q) (p.length+i)=Aj u i:=fun i hi=>at_u p u [y] q i hi
  refine ⟨u.take j++y::u.drop j,?_,fun hB hs=>?_,?_⟩
  · have:=List.perm_middle (l₁:=u.take j) (a:=y) (l₂:=u.drop j)
    rw [List.take_append_drop] at this
    exact this.trans (List.perm_append_singleton y u).symm
  · have By:BdS y:=hB y (by simp)
    have Bu:Bds u:=fun z hz=>hB z (by simp [hz])
    refine List.pairwise_append.2 ⟨hs.sublist (List.take_sublist _ _),List.pairwise_cons.2 ⟨fun z hz=>?_,hs.sublist (List.drop_sublist _ _)⟩,fun x hx z hz=>?_⟩
    · obtain ⟨i,a1,a2,rfl⟩:=Ih hz
      rcases h4 with h4|h4
      · omega
      · rw [au j (by omega)] at h4
        exact LeP.trans (K9 By (Jc Bu (by omega)) h4) (Gs hs a1 a2)
    · have xy : LeP x y := by
        obtain ⟨i,hi,rfl⟩:=Ja hj hx
        rcases h3 with h3|h3
        · omega
        · rw [show p.length+j-1=p.length+(j-1) by omega,au (j-1) (by omega)] at h3
          exact LeP.trans (Gs hs (by omega) (by omega)) (M2 (Jc Bu (by omega)) By h3)
      rcases List.mem_cons.1 hz with rfl|hz
      · exact xy
      · obtain ⟨i,a1,a2,rfl⟩:=Ih hz
        rcases h4 with h4|h4
        · omega
        · rw [au j (by omega)] at h4
          exact LeP.trans xy (LeP.trans (K9 By (Jc Bu (by omega)) h4) (Gs hs a1 a2))
  · rw [show a=((p.length:Nat):Int) by omega,show m=((p.length+u.length:Nat):Int) by omega]
    refine h5 _ ?_
    have:=sm_l3 y (u.drop j).length (u.drop j) (p++u.take j) q rfl ((p.length+j:Nat):Int) ((p.length+u.length:Nat):Int) (by rw [List.length_append,List.length_take];omega) (by rw [List.length_append,List.length_take,List.length_drop];omega) (by rw [List.length_append,List.length_take,List.length_drop];omega)
    have e:p++u.take j++u.drop j++y::q=p++u++[y]++q:=by
      rw [List.append_assoc p,List.take_append_drop];simp
    rw [e] at this
    refine Ev.eqr this ?_
    simp
theorem merge_pw {u v r1 r2 : List Sq} (i j : Nat) (hi : i ≤ u.length) (hj : j ≤ v.length) (hsu : u.Pairwise LeP) (hsv : v.Pairwise LeP) (h1 : i = 0 ∨ j = v.length ∨ LeP (Aj u (i - 1)) (Aj v j)) (h2 : j = 0 ∨ i = u.length ∨ LeP (Aj v (j - 1)) (Aj u i))
    (p1:r1.Perm (u.take i++v.take j)) (p2:r2.Perm (u.drop i++v.drop j)) (q1:r1.Pairwise LeP) (q2:r2.Pairwise LeP):(r1++r2).Pairwise LeP:=by
  have a3:∀ y ∈ u.take i,∀ z ∈ v.drop j,LeP y z:=by
    intro y hy z hz
    obtain ⟨a,ha,rfl⟩:=Ja hi hy
    obtain ⟨c,a0,a1,rfl⟩:=Ih hz
    rcases h1 with h1|h1|h1
    · omega
    · omega
    · exact LeP.trans (Gs hsu (show a≤i-1 by omega) (by omega)) (LeP.trans h1 (Gs hsv a0 a1))
  have a4:∀ y ∈ v.take j,∀ z ∈ u.drop i,LeP y z:=by
    intro y hy z hz
    obtain ⟨a,ha,rfl⟩:=Ja hj hy
    obtain ⟨c,a0,a1,rfl⟩:=Ih hz
    rcases h2 with h2|h2|h2
    · omega
    · omega
    · exact LeP.trans (Gs hsv (show a≤j-1 by omega) (by omega)) (LeP.trans h2 (Gs hsu a0 a1))
  have a2:∀ y ∈ u.take i,∀ z ∈ u.drop i,LeP y z:=by
    rw [← List.take_append_drop i u] at hsu
    exact (List.pairwise_append.1 hsu).2.2
  have a5:∀ y ∈ v.take j,∀ z ∈ v.drop j,LeP y z:=by
    rw [← List.take_append_drop j v] at hsv
    exact (List.pairwise_append.1 hsv).2.2
  refine List.pairwise_append.2 ⟨q1,q2,fun y hy z hz=>?_⟩
  rcases List.mem_append.1 (p1.mem_iff.1 hy) with hy|hy <;> rcases List.mem_append.1 (p2.mem_iff.1 hz) with hz|hz
  · exact a2 y hy z hz
  · exact a3 y hy z hz
  · exact a4 y hy z hz
  · exact a5 y hy z hz
theorem Ut {u v r1 r2:List Sq} (i j:Nat) (p1:r1.Perm (u.take i++v.take j)) (p2:r2.Perm (u.drop i++v.drop j)):(r1++r2).Perm (u++v):=by
  refine (p1.append p2).trans ?_
  have:(u.take i++v.take j++(u.drop i++v.drop j)).Perm (u.take i++(u.drop i++(v.take j++v.drop j))):=by
    rw [List.append_assoc]
    refine List.Perm.append_left _ ?_
    rw [← List.append_assoc,← List.append_assoc]
    exact List.perm_append_comm.append_right _
  rw [List.take_append_drop,← List.append_assoc (List.take i u) (List.drop i u),List.take_append_drop] at this
  exact this
/-- what a merge of two neighbouring parts owes -/
def Mg (p u v q : List Sq) : Prop := ∀ (a m b : Int), a = p.length → m = p.length + u.length → b = p.length + u.length + v.length →
    ∃ r,r.Perm (u++v)∧(Bds (u++v)→u.Pairwise LeP→v.Pairwise LeP→r.Pairwise LeP)∧Ev (fun k=>zSym.f k (p++u++v++q) a m b) (p++r++q)
/-- a part that may be one alone -/
theorem mg_opt (p u v q : List Sq) (h : 1 ≤ u.length → 1 ≤ v.length → Mg p u v q) (a m b : Nat) (ha : a = p.length) (hm : m = p.length + u.length) (hb : b = p.length + u.length + v.length) :
    ∃ r,r.Perm (u++v)∧(Bds (u++v)→u.Pairwise LeP→v.Pairwise LeP→r.Pairwise LeP)∧((a<m∧m<b)→Ev (fun k=>zSym.f k (p++u++v++q) a m b) (p++r++q))∧(¬ (a<m∧m<b)→r=u++v):=by
  by_cases c:a<m∧m<b
  · obtain ⟨r,r1,r2,r3⟩:=h (by omega) (by omega) a m b (by omega) (by omega) (by omega)
    exact ⟨r,r1,r2,fun _=>r3,fun h=>absurd c h⟩
  · refine ⟨u++v,List.Perm.refl _,fun _ h1 h2=>?_,fun h=>absurd h c,fun _=>rfl⟩
    rcases (by omega:u.length=0∨v.length=0) with z|z
    · rw [List.length_eq_zero_iff.1 z];exact h2
    · rw [List.length_eq_zero_iff.1 z,List.append_nil];exact h1
/-- behind the search: rotate, merge left, merge right -/
theorem sm_behind (p u1 u2 v1 v2 q r1 r2 : List Sq) (A M B D t E : Nat) (hA : A = p.length) (ht : t = A + u1.length) (hM : M = t + u2.length) (hE : E = M + v1.length) (hB : B = E + v2.length) (hD : D = t + v1.length) (hl : B + q.length ≤ 1099511627)
    (w1:(A<t∧t<D)→Ev (fun k=>zSym.f k (p++u1++v1++(u2++v2++q)) A t D) (p++r1++(u2++v2++q))) (n1:¬ (A<t∧t<D)→r1=u1++v1)
    (w2:(D<E∧E<B)→Ev (fun k=>zSym.f k (p++r1++u2++v2++q) D E B) (p++r1++r2++q)) (n2:¬ (D<E∧E<B)→r2=u2++v2) :
    Ev (fun k=>if (t:Int)<(M:Int) then zSym.j6 k (p++(u1++u2)++(v1++v2)++q) A M B D t E (decide ((M:Int)<E)) else zSym.j6 k (p++(u1++u2)++(v1++v2)++q) A M B D t E false) (p++(r1++r2)++q):=by
  have a0:Ev (fun k=>zSym.j7 k (p++u1++v1++u2++v2++q) A B D t E) (p++(r1++r2)++q):=by
    refine Ev.succ ?_
    simp only [zSym.j7]
    have fin:∀ L,L=p++r1++u2++v2++q→Ev (fun k=>if (D:Int)<(E:Int) then (if (E:Int)<(B:Int) then ((zSym.f k L D E B).bind fun t=>some t) else some L) else some L) (p++(r1++r2)++q):=by
      rintro L rfl
      by_cases c:D<E∧E<B
      · refine Ev.pos (by omega) (Ev.pos (by omega) (Ev.bind (w2 c) (Ev.eqr (Ev.now _) (by simp))))
      · have e:p++r1++u2++v2++q=p++(r1++r2)++q:=by rw [n2 c];simp
        by_cases c1:(D:Int)<(E:Int)
        · exact Ev.pos c1 (Ev.neg (by omega) (Ev.eqr (Ev.now _) e))
        · exact Ev.neg c1 (Ev.eqr (Ev.now _) e)
    have j8:∀ bb:Bool,bb=decide (A<t∧t<D)→Ev (fun k=>zSym.j8 k (p++u1++v1++u2++v2++q) A B D t E bb) (p++(r1++r2)++q):=by
      rintro bb rfl
      refine Ev.succ ?_
      simp only [zSym.j8]
      by_cases c:A<t∧t<D
      · refine Ev.pos (decide_eq_true c) ?_
        rw [show p++u1++v1++u2++v2++q=p++u1++v1++(u2++v2++q) by simp]
        exact Ev.bind (w1 c) (fin _ (by simp))
      · refine Ev.neg (by simpa using c) (fin _ ?_)
        rw [n1 c];simp
    by_cases c:(A:Int)<(t:Int)
    · refine Ev.pos c (j8 _ ?_)
      by_cases c2:t<D
      · rw [decide_eq_true (show (t:Int)<(D:Int) by omega),decide_eq_true ⟨by omega,c2⟩]
      · rw [decide_eq_false (show ¬ (t:Int)<(D:Int) by omega),decide_eq_false (fun h=>c2 h.2)]
    · refine Ev.neg c (j8 _ (decide_eq_false (fun h=>c (by omega))).symm)
  have nr:¬ (t<M∧M<E)→p++(u1++u2)++(v1++v2)++q=p++u1++v1++u2++v2++q:=by
    intro c
    rcases (by omega:u2.length=0∨v1.length=0) with z|z
    · rw [List.length_eq_zero_iff.1 z];simp
    · rw [List.length_eq_zero_iff.1 z];simp
  have j6:∀ bb:Bool,bb=decide (t<M∧M<E)→Ev (fun k=>zSym.j6 k (p++(u1++u2)++(v1++v2)++q) A M B D t E bb) (p++(r1++r2)++q):=by
    rintro bb rfl
    refine Ev.succ ?_
    simp only [zSym.j6]
    by_cases c:t<M∧M<E
    · refine Ev.pos (decide_eq_true c) ?_
      have hr:=rot_ev (p++u1) u2 v1 (v2++q) (by omega) (by omega) (by simp only [List.length_append];omega) t M E (by simp only [List.length_append];omega) (by simp only [List.length_append];omega) (by simp only [List.length_append];omega)
      rw [show p++u1++u2++v1++(v2++q)=p++(u1++u2)++(v1++v2)++q by simp,show p++u1++v1++u2++(v2++q)=p++u1++v1++u2++v2++q by simp] at hr
      exact Ev.bind hr a0
    · refine Ev.neg (by simpa using c) ?_
      rw [nr c]
      exact a0
  by_cases c:(t:Int)<(M:Int)
  · refine Ev.pos c (j6 _ ?_)
    by_cases c2:M<E
    · rw [decide_eq_true (show (M:Int)<(E:Int) by omega),decide_eq_true ⟨by omega,c2⟩]
    · rw [decide_eq_false (show ¬ (M:Int)<(E:Int) by omega),decide_eq_false (fun h=>c2 h.2)]
  · exact Ev.neg c (j6 _ (decide_eq_false (fun h=>c (by omega))).symm)
set_option maxHeartbeats 2000000 in
theorem sm_tail (N : Nat) (ih : ∀ p u v q : List Sq, u.length + v.length < N → 1 ≤ u.length → 1 ≤ v.length → p.length + u.length + v.length + q.length ≤ 1099511627 → Mg p u v q) (p u v q : List Sq) (hN : u.length + v.length = N) (hu : 2 ≤ u.length) (hv : 2 ≤ v.length) (hl : p.length + u.length + v.length + q.length ≤ 1099511627)
    (A M B D:Nat) (hA:A=p.length) (hM:M=p.length+u.length) (hB:B=p.length+u.length+v.length) (hD:D=(A+B)/2) (S T0:Nat) (hST:S=A∧T0=M∧M≤D∨S=D+M-B∧T0=D∧D<M) :
    ∃ r, r.Perm (u ++ v) ∧ (Bds (u ++ v) → u.Pairwise LeP → v.Pairwise LeP → r.Pairwise LeP) ∧
        Ev (fun k=>zSym.l4 k (p++u++v++q) A M B D ((D+M:Nat):Int) S T0 (((D+M:Nat):Int)-1)) (p++r++q):=by
  have hxl:(p++u++v++q).length=p.length+u.length+v.length+q.length:=by simp only [List.length_append]
  obtain ⟨t,t1,t2,t3,t4,t5⟩:=sm_l4 (p++u++v++q) (by omega) A M B D (D+M) (by omega) (T0-S) S T0 (Nat.le_refl _) (by omega) (by omega) (fun c c1 c2=>by omega)
  obtain ⟨i,hi⟩:∃ i,t=A+i:=⟨t-A,by omega⟩
  obtain ⟨j,hj⟩:∃ j,D+M-t=M+j:=⟨D-t,by omega⟩
  have iu:i≤u.length:=by omega
  have jv:j≤v.length:=by omega
  have ij:i+j=D-A:=by omega
  have a0:(u.take i).length=i:=by rw [List.length_take];omega
  have a2:(u.drop i).length=u.length-i:=List.length_drop
  have a1:(v.take j).length=j:=by rw [List.length_take];omega
  have a3:(v.drop j).length=v.length-j:=List.length_drop
  have k1:i+j<N:=by omega
  have k2:u.length-i+(v.length-j)<N:=by omega
  obtain ⟨r1,p1,s1,w1,n1⟩:=mg_opt p (u.take i) (v.take j) (u.drop i++v.drop j++q) (fun a b=>ih _ _ _ _ (by omega) a b (by simp only [List.length_append,a0,a2,a1,a3];omega)) A t D hA (by omega) (by omega)
  have a4:r1.length=i+j:=by rw [p1.length_eq,List.length_append,a0,a1]
  obtain ⟨r2,p2,s2,w2,n2⟩:=mg_opt (p++r1) (u.drop i) (v.drop j) q (fun a b=>ih _ _ _ _ (by omega) a b (by simp only [List.length_append,a0,a2,a1,a3];omega)) D (M+j) B (by rw [List.length_append];omega) (by rw [List.length_append];omega) (by rw [List.length_append];omega)
  refine ⟨r1++r2,Ut i j p1 p2,fun hBd hsu hsv=>?_,t5 _ ?_⟩
  · have Bu:Bds u:=fun z hz=>hBd z (List.mem_append_left _ hz)
    have Bv:Bds v:=fun z hz=>hBd z (List.mem_append_right _ hz)
    have au:∀ i,i<u.length→Aj (p++u++v++q) (A+i)=Aj u i:=fun i hi=>by rw [hA];exact at_u p u v q i hi
    have av:∀ i,i<v.length→Aj (p++u++v++q) (M+i)=Aj v i:=fun i hi=>by rw [hM];exact at_v p u v q i hi
    refine merge_pw i j iu jv hsu hsv ?_ ?_ p1 p2 (s1 (fun z hz=>?_) (hsu.sublist (List.take_sublist _ _)) (hsv.sublist (List.take_sublist _ _))) (s2 (fun z hz=>?_) (hsu.sublist (List.drop_sublist _ _)) (hsv.sublist (List.drop_sublist _ _)))
    · by_cases c:i=0
      · exact Or.inl c
      by_cases c2:j=v.length
      · exact Or.inr (Or.inl c2)
      · rcases t3 with t3|t3
        · omega
        · rw [hj,av j (by omega),show t-1=A+(i-1) by omega,au _ (by omega)] at t3
          exact Or.inr (Or.inr (M2 (Jc Bu (by omega)) (Jc Bv (by omega)) t3))
    · by_cases c:j=0
      · exact Or.inl c
      by_cases c2:i=u.length
      · exact Or.inr (Or.inl c2)
      · rcases t4 with t4|t4
        · omega
        · rw [show D+M-1-t=M+(j-1) by omega,av _ (by omega),hi,au _ (by omega)] at t4
          exact Or.inr (Or.inr (K9 (Jc Bv (by omega)) (Jc Bu (by omega)) t4))
    · rcases List.mem_append.1 hz with hz|hz
      · exact Bu z (List.mem_of_mem_take hz)
      · exact Bv z (List.mem_of_mem_take hz)
    · rcases List.mem_append.1 hz with hz|hz
      · exact Bu z (List.mem_of_mem_drop hz)
      · exact Bv z (List.mem_of_mem_drop hz)
  · rw [show wrap64 (((D+M:Nat):Int)-(t:Int))=((M+j:Nat):Int) by rw [Ai (by omega) (by omega)];omega]
    have:=sm_behind p (u.take i) (u.drop i) (v.take j) (v.drop j) q r1 r2 A M B D t (M+j) hA (by omega) (by omega) (by omega) (by omega) (by omega) (by omega) w1 n1 w2 n2
    rw [List.take_append_drop,List.take_append_drop] at this
    exact this
theorem sm_ev:∀ (N:Nat) (p u v q:List Sq),u.length+v.length=N→1≤u.length→1≤v.length→p.length+u.length+v.length+q.length≤1099511627→Mg p u v q:=by
  intro N
  induction N using Nat.strongRecOn with
  | _ N ih =>
    intro p u v q hN hu hv hl a m b ha hm hb
    by_cases cu:u.length=1
    · obtain ⟨s,rfl⟩:=List.length_eq_one_iff.1 cu
      obtain ⟨r,r1,r2,r3⟩:=sm_one_u p s v q (by simpa using hl) a m b ha (by simpa using hm) (by simpa using hb)
      refine ⟨r,r1,fun x _ y=>r2 x y,Ev.succ ?_⟩
      simp only [zSym.f]
      exact Ev.pos (by rw [Ai (by omega) (by omega)];omega) r3
    by_cases cv:v.length=1
    · obtain ⟨y,rfl⟩:=List.length_eq_one_iff.1 cv
      obtain ⟨r,r1,r2,r3⟩:=sm_one_v p u y q (by simpa using hl) a m ha hm
      refine ⟨r,r1,fun x z _=>r2 x z,Ev.succ ?_⟩
      simp only [zSym.f]
      exact Ev.neg (by rw [Ai (by omega) (by omega)];omega) (Ev.pos (by rw [Ai (by omega) (by omega)];omega) r3)
    obtain ⟨A,hA⟩:∃ A,A=p.length:=⟨_,rfl⟩
    obtain ⟨M,hM⟩:∃ M,M=p.length+u.length:=⟨_,rfl⟩
    obtain ⟨B,hB⟩:∃ B,B=p.length+u.length+v.length:=⟨_,rfl⟩
    obtain ⟨D,hD⟩:∃ D,D=(A+B)/2:=⟨_,rfl⟩
    have aA:a=(A:Int):=by omega
    have mM:m=(M:Int):=by omega
    have bB:b=(B:Int):=by omega
    have tail:=sm_tail N (fun p u v q h1 h2 h3 h4=>ih _ h1 p u v q rfl h2 h3 h4) p u v q hN (by omega) (by omega) hl A M B D hA hM hB hD
    have j4:∀ (S T0:Int) (R:List Sq),Ev (fun k=>zSym.l4 k (p++u++v++q) A M B D ((D+M:Nat):Int) S T0 (((D+M:Nat):Int)-1)) R→Ev (fun k=>zSym.j4 k (p++u++v++q) A M B D ((D+M:Nat):Int) S T0) R:=by
      intro S T0 R h
      refine Ev.succ ?_
      simp only [zSym.j4]
      rw [Ai (n:=((D+M:Nat):Int)-1) (by omega) (by omega)]
      exact h
    rw [aA,mM,bB]
    clear aA mM bB ih
    by_cases c:D<M
    · obtain ⟨r,h1,h2,h3⟩:=tail (D+M-B) D (Or.inr ⟨rfl,rfl,c⟩)
      clear tail
      refine ⟨r,h1,h2,Ev.succ ?_⟩
      have eh:=Kz A B (by omega)
      rw [← hD] at eh
      have en:wrap64 ((D:Int)+(M:Int))=((D+M:Nat):Int):=by clear eh;rw [Ai (by omega) (by omega)];omega
      have es:wrap64 (((D+M:Nat):Int)-(B:Int))=(((D+M:Nat):Int)-(B:Int)):=by clear eh en;exact Ai (by omega) (by omega)
      simp only [zSym.f,eh,en,es]
      clear eh en es
      refine Ev.neg (by rw [Ai (by omega) (by omega)];omega) (Ev.neg (by rw [Ai (by omega) (by omega)];omega) (Ev.pos (by omega) (j4 _ _ _ ?_)))
      rw [show ((D+M:Nat):Int)-(B:Int)=((D+M-B:Nat):Int) by omega]
      exact h3
    · obtain ⟨r,h1,h2,h3⟩:=tail A M (Or.inl ⟨rfl,rfl,by omega⟩)
      clear tail
      refine ⟨r,h1,h2,Ev.succ ?_⟩
      have eh:=Kz A B (by omega)
      rw [← hD] at eh
      have en:wrap64 ((D:Int)+(M:Int))=((D+M:Nat):Int):=by clear eh;rw [Ai (by omega) (by omega)];omega
      simp only [zSym.f,eh,en]
      clear eh en
      exact Ev.neg (by rw [Ai (by omega) (by omega)];omega) (Ev.neg (by rw [Ai (by omega) (by omega)];omega) (Ev.neg (by omega) (j4 _ _ _ h3)))

/-! ### the stable sort: short parts by insertion, then merges -/
/-- what lies at j goes left past what is greater -/
theorem is_l1 (p rest : List Sq) (a b i : Int) (s : Sq) : ∀ (n : Nat) (d1 d2 : List Sq), d1.length = n → p.length + d1.length + d2.length + 1 + rest.length ≤ 1099511627 → a = p.length →
    ∃ d',d'.Perm (s::(d1++d2))∧(Bds (s::(d1++d2))→(d1++d2).Pairwise LeP→(∀ z ∈ d2,LeP s z)→d'.Pairwise LeP) ∧
      ∀ R,Ev (fun k=>zIns.l0 k (p++d'++rest) a b (wrap64 (i+1))) R→Ev (fun k=>zIns.l1 k (p++(d1++s::d2)++rest) a b i ((p.length+d1.length:Nat):Int)) R
  | 0,d1,d2,hn,hl,ha=>by
    obtain rfl:=List.length_eq_zero_iff.1 hn
    refine ⟨s::d2,List.Perm.refl _,fun _ h1 h2=>List.pairwise_cons.2 ⟨h2,h1⟩,fun R hR=>Ev.succ ?_⟩
    simp only [zIns.l1]
    refine Ev.neg (by simp only [List.length_nil];omega) ?_
    exact hR
  | n+1,d1,d2,hn,hl,ha=>by
    obtain ⟨d3,z,rfl⟩:∃ d3 z,d1=d3++[z]:=⟨d1.dropLast,d1.getLast (by intro e;rw [e] at hn;simp at hn),(List.dropLast_concat_getLast _).symm⟩
    simp only [List.length_append,List.length_singleton] at hn hl
    have hlen:(p++(d3++[z]++s::d2)++rest).length=p.length+d3.length+d2.length+2+rest.length:=by simp;omega
    have e0:p++(d3++[z]++s::d2)++rest=(p++d3)++z::s::(d2++rest):=by simp
    have asx:Aj ((p++d3)++z::s::(d2++rest)) (p.length+d3.length+1)=s:=by
      rw [show (p++d3)++z::s::(d2++rest)=(p++d3++[z])++s::(d2++rest) by simp]
      exact N3 _ _ _ _ (by simp;omega)
    have az:Aj ((p++d3)++z::s::(d2++rest)) (p.length+d3.length)=z:=N3 _ _ _ _ (by simp)
    have sw:=Mn (p++d3) [] (d2++rest) z s (p.length+d3.length) (p.length+d3.length+1) (by simp) (by simp)
    simp only [List.nil_append] at sw
    rw [asx,az] at sw
    by_cases hP:I8 s z<0
    · obtain ⟨d',h1,h2,h3⟩:=is_l1 p rest a b i s n d3 (z::d2) (by omega) (by rw [List.length_cons];omega) ha
      refine ⟨d',?_,fun hB hs hz=>?_,fun R hR=>Ev.succ ?_⟩
      · rw [show d3++[z]++d2=d3++z::d2 by simp];exact h1
      · rw [show d3++[z]++d2=d3++z::d2 by simp] at hB hs
        refine h2 hB hs (fun y hy=>?_)
        rcases List.mem_cons.1 hy with rfl|hy
        · exact K9 (hB s List.mem_cons_self) (hB y (by simp)) hP
        · exact hz y hy
      · have e1 : wrap64 (((p.length + (d3 ++ [z]).length : Nat) : Int) - 1) = ((p.length + d3.length : Nat) : Int) := by
          rw [List.length_append,List.length_singleton,Ai (by omega) (by omega)];omega
        simp only [zIns.l1,e1]
        clear e1
        rw [List.length_append,List.length_singleton,e0]
        rw [e0] at hlen
        simp only [Ef,J6,Option.bind_some,M1,Int.toNat_natCast,← Nat.add_assoc,asx,az]
        refine Ev.pos (by omega) (Ev.pos (by omega) (Ev.pos (by omega) (Ev.pos (by omega) (Ev.pos (by omega) (Ev.pos hP ?_)))))
        have comm:∀ (l:List Sq) (i j:Nat) (x' y':Sq),i≠j→(l.set i x').set j y'=(l.set j y').set i x':=fun l i j x' y' h=>List.set_comm x' y' h
        rw [comm _ _ _ _ _ (by omega),sw]
        have:=h3 R hR
        rw [show p++(d3++s::z::d2)++rest=p++d3++s::z::(d2++rest) by simp] at this
        exact this
    · refine ⟨d3++[z]++s::d2,?_,fun hB hs hz=>?_,fun R hR=>Ev.succ ?_⟩
      · exact List.perm_middle
      · have hBz:BdS z:=hB z (by simp)
        have hBs:BdS s:=hB s List.mem_cons_self
        have zs:LeP z s:=M2 hBz hBs hP
        have hp:=List.pairwise_append.1 hs
        refine List.pairwise_append.2 ⟨hp.1,List.pairwise_cons.2 ⟨hz,hp.2.1⟩,fun y hy w hw=>?_⟩
        have yz:LeP y z:=by
          rcases List.mem_append.1 hy with hy|hy
          · exact (List.pairwise_append.1 hp.1).2.2 y hy z (by simp)
          · rw [List.mem_singleton.1 hy];unfold LeP D4;omega
        rcases List.mem_cons.1 hw with rfl|hw
        · exact LeP.trans yz zs
        · exact hp.2.2 y hy w hw
      · have e1 : wrap64 (((p.length + (d3 ++ [z]).length : Nat) : Int) - 1) = ((p.length + d3.length : Nat) : Int) := by
          rw [List.length_append,List.length_singleton,Ai (by omega) (by omega)];omega
        simp only [zIns.l1,e1]
        clear e1
        rw [e0] at hR
        rw [List.length_append,List.length_singleton,e0]
        rw [e0] at hlen
        simp only [Ef,J6,Option.bind_some,M1,Int.toNat_natCast,← Nat.add_assoc,asx,az]
        exact Ev.pos (by omega) (Ev.pos (by omega) (Ev.pos (by omega) (Ev.pos (by omega) (Ev.pos (by omega) (Ev.neg hP hR)))))
theorem is_l0 (p rest : List Sq) (a b : Int) (ha : a = p.length) : ∀ (todo done : List Sq), p.length + done.length + todo.length + rest.length ≤ 1099511627 → b = p.length + done.length + todo.length →
    ∃ w,w.Perm (done++todo)∧(Bds (done++todo)→done.Pairwise LeP→w.Pairwise LeP)∧Ev (fun k=>zIns.l0 k (p++done++(todo++rest)) a b ((p.length+done.length:Nat):Int)) (p++w++rest)
  | [],done,hl,hb=>by
    refine ⟨done,by simp,fun _ h=>h,Ev.succ ?_⟩
    simp only [List.length_nil] at hb
    simp only [zIns.l0]
    exact Ev.neg (by omega) (Ev.eqr (Ev.now _) (by simp))
  | s::todo,done,hl,hb=>by
    simp only [List.length_cons] at hl hb
    obtain ⟨d',h1,h2,h3⟩:=is_l1 p (todo++rest) a b ((p.length+done.length:Nat):Int) s done.length done [] rfl (by simp only [List.length_nil,List.length_append];omega) ha
    rw [List.append_nil] at h1 h2
    have ld:d'.length=done.length+1:=by rw [h1.length_eq,List.length_cons]
    obtain ⟨w,w1,w2,w3⟩:=is_l0 p rest a b ha todo d' (by omega) (by omega)
    refine ⟨w,?_,fun hB hs=>?_,Ev.succ ?_⟩
    · refine w1.trans ((h1.append_right todo).trans ?_)
      exact List.perm_middle.symm
    · have hB':Bds (s::done):=fun z hz=>hB z (by rcases List.mem_cons.1 hz with rfl|hz <;> simp [*])
      refine w2 (fun z hz=>?_) (h2 hB' hs (fun z hz=>by cases hz))
      rcases List.mem_append.1 hz with hz|hz
      · exact hB' z (h1.mem_iff.1 hz)
      · exact hB z (by simp [hz])
    · simp only [zIns.l0]
      refine Ev.pos (by omega) ?_
      have:=h3 _ (by
        rw [Ai (n:=((p.length+done.length:Nat):Int)+1) (by omega) (by omega),show ((p.length+done.length:Nat):Int)+1=((p.length+d'.length:Nat):Int) by omega]
        exact w3)
      rw [show p++(done++[s])++(todo++rest)=p++done++(s::todo++rest) by simp] at this
      exact this
theorem is_ev (p w rest : List Sq) (hl : p.length + w.length + rest.length ≤ 1099511627) (a b : Int) (ha : a = p.length) (hb : b = p.length + w.length) :
    ∃ r,r.Perm w∧(Bds w→r.Pairwise LeP)∧Ev (fun k=>zIns.f k (p++w++rest) a b) (p++r++rest):=by
  unfold zIns.f
  cases w with
  | nil =>
    refine ⟨[],List.Perm.refl _,fun _=>List.Pairwise.nil,Ev.succ ?_⟩
    simp only [zIns.l0]
    simp only [List.length_nil] at hb
    exact Ev.neg (by rw [Ai (by omega) (by omega)];omega) (Ev.now _)
  | cons s t =>
    simp only [List.length_cons] at hl hb
    obtain ⟨r,r1,r2,r3⟩:=is_l0 p rest a b ha t [s] (by simp only [List.length_singleton];omega) (by simp only [List.length_singleton];omega)
    refine ⟨r,by simpa using r1,fun hB=>r2 (by simpa using hB) (List.pairwise_singleton _ _),?_⟩
    rw [Ai (by omega) (by omega),show a+1=((p.length+[s].length:Nat):Int) by simp only [List.length_singleton];omega]
    rw [show p++[s]++(t++rest)=p++(s::t)++rest by simp] at r3
    exact r3
/-- parts of n, each in order; the last one may be shorter -/
inductive BS (n:Nat):List Sq→Prop
  | last (l:List Sq) (h:l.length≤n) (s:l.Pairwise LeP):BS n l
  | cons (u t:List Sq) (h:u.length=n) (s:u.Pairwise LeP) (k:BS n t):BS n (u++t)
theorem Ns {n:Nat} {l u t:List Sq} (hn:1≤n) (h:BS n l) (e:l=u++t) (hu:u.length=n):u.Pairwise LeP∧BS n t:=by
  cases h with
  | last _ h1 h2 =>
    have h1:l.length≤n:=h1
    have:t=[]:=by
      have:(u++t).length≤n:=by rw [← e];exact h1
      rw [List.length_append] at this
      exact List.length_eq_zero_iff.1 (by omega)
    subst this
    rw [List.append_nil] at e
    subst e
    exact ⟨h2,BS.last [] (by simp) List.Pairwise.nil⟩
  | cons u' t' h1 h2 h3 =>
    obtain ⟨rfl,rfl⟩:=List.append_inj e (by omega)
    exact ⟨h2,h3⟩
theorem Mo {n:Nat} {l:List Sq} (h:BS n l) (hl:l.length≤n):l.Pairwise LeP:=by
  cases h with
  | last _ _ h2=>exact h2
  | cons u t h1 h2 h3 =>
    have:t=[]:=by rw [List.length_append] at hl;exact List.length_eq_zero_iff.1 (by omega)
    subst this;rw [List.append_nil];exact h2
theorem Rq {a b:List Sq} (h:a.Perm b) (hb:Bds b):Bds a:=fun z hz=>hb z (h.mem_iff.1 hz)
theorem Rs {a b:List Sq} (h:Bds (a++b)):Bds a:=fun z hz=>h z (List.mem_append_left _ hz)
theorem Qu {a b:List Sq} (h:Bds (a++b)):Bds b:=fun z hz=>h z (List.mem_append_right _ hz)
theorem st_l0 : ∀ (N : Nat) (done rest : List Sq), rest.length ≤ N → done.length + rest.length ≤ 536870912 →
    ∃ w,w.Perm rest∧(Bds rest→BS 20 w)∧∀ R,Ev (fun k=>zStb.l1 k (done++w) ((done.length+rest.length:Nat):Int) 20) R →
      Ev (fun k=>zStb.l0 k (done++rest) ((done.length+rest.length:Nat):Int) 20 (done.length:Int) ((done.length:Int)+20)) R:=by
  intro N
  induction N with
  | zero =>
    intro done rest hN hl
    obtain rfl:=List.length_eq_zero_iff.1 (show rest.length=0 by omega)
    obtain ⟨r,r1,r2,r3⟩:=is_ev done [] [] (by simp;omega) (done.length:Int) ((done.length+0:Nat):Int) rfl (by simp)
    obtain rfl:=List.length_eq_zero_iff.1 (show r.length=0 by rw [r1.length_eq];rfl)
    refine ⟨[],List.Perm.refl _,fun _=>BS.last _ (by simp) List.Pairwise.nil,fun R hR=>Ev.succ ?_⟩
    simp only [zStb.l0,List.length_nil]
    refine Ev.neg (by omega) (Ev.bind (by simpa using r3) ?_)
    simpa using hR
  | succ N ih =>
    intro done rest hN hl
    by_cases c:rest.length<20
    · obtain ⟨r,r1,r2,r3⟩:=is_ev done rest [] (by simp;omega) (done.length:Int) ((done.length+rest.length:Nat):Int) rfl (by omega)
      refine ⟨r,r1,fun hB=>BS.last _ (by rw [r1.length_eq];omega) (r2 hB),fun R hR=>Ev.succ ?_⟩
      simp only [zStb.l0]
      simp only [List.append_nil] at r3
      exact Ev.neg (by omega) (Ev.bind r3 hR)
    · have hsp:=List.take_append_drop 20 rest
      have lt:(rest.take 20).length=20:=by rw [List.length_take];omega
      have ld:(rest.drop 20).length=rest.length-20:=List.length_drop
      generalize rest.take 20=u at hsp lt
      generalize rest.drop 20=t at hsp ld
      subst hsp
      rw [List.length_append] at ld hN hl c
      obtain ⟨r,r1,r2,r3⟩:=is_ev done u t (by omega) (done.length:Int) ((done.length:Int)+20) rfl (by omega)
      have lr:r.length=20:=by rw [r1.length_eq];exact lt
      obtain ⟨w,w1,w2,w3⟩:=ih (done++r) t (by omega) (by rw [List.length_append];omega)
      refine ⟨r++w,r1.append w1,fun hB=>BS.cons r w lr (r2 (Rs hB)) (w2 (Qu hB)),fun R hR=>Ev.succ ?_⟩
      have hlen:((done++r).length+t.length:Nat)=done.length+(u++t).length:=by rw [List.length_append,List.length_append];omega
      rw [hlen] at w3
      simp only [zStb.l0]
      refine Ev.pos (by rw [List.length_append];omega) ?_
      rw [show done++(u++t)=done++u++t by simp]
      refine Ev.bind r3 ?_
      rw [Ai (n:=(done.length:Int)+20+20) (by omega) (by omega)]
      have:=w3 R (by rw [show done++r++w=done++(r++w) by simp];exact hR)
      rw [show (done++r).length=done.length+r.length from List.length_append,lr] at this
      rw [show ((done.length+20:Nat):Int)=(done.length:Int)+20 by omega] at this
      exact this
theorem st_l2 (bs : Nat) (hb : 1 ≤ bs ∧ bs ≤ 1073741824) : ∀ (N : Nat) (done rest : List Sq), rest.length ≤ N → done.length + rest.length ≤ 536870912 →
    ∃ w,w.Perm rest∧(Bds rest→BS bs rest→BS (2*bs) w)∧∀ R,Ev (fun k=>zStb.l1 k (done++w) ((done.length+rest.length:Nat):Int) ((2*bs:Nat):Int)) R →
      Ev (fun k=>zStb.l2 k (done++rest) ((done.length+rest.length:Nat):Int) (bs:Int) (done.length:Int) ((done.length+2*bs:Nat):Int)) R:=by
  intro N
  induction N with
  | zero =>
    intro done rest hN hl
    obtain rfl:=List.length_eq_zero_iff.1 (show rest.length=0 by omega)
    refine ⟨[],List.Perm.refl _,fun _ _=>BS.last _ (by simp) List.Pairwise.nil,fun R hR=>Ev.succ ?_⟩
    simp only [zStb.l2]
    refine Ev.neg (by simp only [List.length_nil];omega) (Ev.neg (by rw [Ai (by omega) (by omega)];simp only [List.length_nil];omega) ?_)
    rw [Ai (n:=(bs:Int)*2) (by omega) (by omega),show (bs:Int)*2=((2*bs:Nat):Int) by omega]
    exact hR
  | succ N ih =>
    intro done rest hN hl
    by_cases c1:rest.length≤bs
    · refine ⟨rest,List.Perm.refl _,fun _ h=>BS.last _ (by omega) (Mo h c1),fun R hR=>Ev.succ ?_⟩
      simp only [zStb.l2]
      refine Ev.neg (by omega) (Ev.neg (by rw [Ai (by omega) (by omega)];omega) ?_)
      rw [Ai (n:=(bs:Int)*2) (by omega) (by omega),show (bs:Int)*2=((2*bs:Nat):Int) by omega]
      exact hR
    · have hsp:=List.take_append_drop bs rest
      have lt:(rest.take bs).length=bs:=by rw [List.length_take];omega
      have ld:(rest.drop bs).length=rest.length-bs:=List.length_drop
      generalize rest.take bs=u at hsp lt
      generalize rest.drop bs=t at hsp ld
      subst hsp
      rw [List.length_append] at ld hN hl c1
      by_cases c2:t.length<bs
      · obtain ⟨r,r1,r2,r3⟩:=sm_ev _ done u t [] rfl (by omega) (by omega) (by simp only [List.length_nil];omega) (done.length:Int) (wrap64 ((done.length:Int)+(bs:Int))) ((done.length+(u++t).length:Nat):Int) rfl (by rw [Ai (by omega) (by omega)];omega) (by rw [List.length_append];omega)
        refine ⟨r,r1,fun hB h=>?_,fun R hR=>Ev.succ ?_⟩
        · obtain ⟨s1,s2⟩:=Ns hb.1 h rfl lt
          exact BS.last _ (by rw [r1.length_eq,List.length_append];omega) (r2 hB s1 (Mo s2 (by omega)))
        · simp only [zStb.l2]
          simp only [List.append_nil] at r3
          rw [show done++u++t=done++(u++t) by simp] at r3
          refine Ev.neg (by rw [List.length_append];omega) (Ev.pos (by rw [Ai (by omega) (by omega),List.length_append];omega) (Ev.bind r3 ?_))
          rw [Ai (n:=(bs:Int)*2) (by omega) (by omega),show (bs:Int)*2=((2*bs:Nat):Int) by omega]
          exact hR
      · have a0:=List.take_append_drop bs t
        have a2:(t.take bs).length=bs:=by rw [List.length_take];omega
        have a1:(t.drop bs).length=t.length-bs:=List.length_drop
        generalize t.take bs=v at a0 a2
        generalize t.drop bs=q at a0 a1
        subst a0
        rw [List.length_append] at ld a1 hN hl c1 c2
        obtain ⟨r,r1,r2,r3⟩:=sm_ev _ done u v q rfl (by omega) (by omega) (by omega) (done.length:Int) (wrap64 ((done.length:Int)+(bs:Int))) ((done.length+2*bs:Nat):Int) rfl (by rw [Ai (by omega) (by omega)];omega) (by omega)
        have lr:r.length=2*bs:=by rw [r1.length_eq,List.length_append];omega
        obtain ⟨w,w1,w2,w3⟩:=ih (done++r) q (by omega) (by rw [List.length_append];omega)
        refine ⟨r++w,?_,fun hB h=>?_,fun R hR=>Ev.succ ?_⟩
        · rw [← List.append_assoc];exact r1.append w1
        · obtain ⟨s1,s2⟩:=Ns hb.1 h rfl lt
          obtain ⟨s3,s4⟩:=Ns hb.1 s2 rfl a2
          rw [← List.append_assoc] at hB
          exact BS.cons r w lr (r2 (Rs hB) s1 s3) (w2 (Qu hB) s4)
        · have hlen:((done++r).length+q.length:Nat)=done.length+(u++(v++q)).length:=by rw [List.length_append,List.length_append,List.length_append];omega
          rw [hlen] at w3
          simp only [zStb.l2]
          refine Ev.pos (by rw [List.length_append,List.length_append];omega) ?_
          rw [show done++(u++(v++q))=done++u++v++q by simp]
          refine Ev.bind r3 ?_
          rw [Ai (n:=2*(bs:Int)) (by omega) (by omega),Ai (n:=((done.length+2*bs:Nat):Int)+2*(bs:Int)) (by omega) (by omega)]
          have:=w3 R (by rw [show done++r++w=done++(r++w) by simp];exact hR)
          rw [show (done++r).length=done.length+r.length from List.length_append,lr] at this
          rw [show ((done.length+2*bs+2*bs:Nat):Int)=((done.length+2*bs:Nat):Int)+2*(bs:Int) by omega] at this
          exact this
theorem st_l1 (n : Nat) (hn : n ≤ 536870912) : ∀ (d bs : Nat) (l : List Sq), n - bs ≤ d → 1 ≤ bs → bs ≤ 1073741824 → l.length = n →
    ∃ w,w.Perm l∧(Bds l→BS bs l→w.Pairwise LeP)∧Ev (fun k=>zStb.l1 k l (n:Int) (bs:Int)) w:=by
  intro d
  induction d with
  | zero =>
    intro bs l hd h1 h2 hl
    refine ⟨l,List.Perm.refl _,fun _ h=>Mo h (by omega),Ev.succ ?_⟩
    simp only [zStb.l1]
    exact Ev.neg (by omega) (Ev.now _)
  | succ d ih =>
    intro bs l hd h1 h2 hl
    by_cases c:bs<n
    · obtain ⟨w,w1,w2,w3⟩:=st_l2 bs ⟨h1,h2⟩ l.length [] l (Nat.le_refl _) (by simp;omega)
      obtain ⟨r,r1,r2,r3⟩:=ih (2*bs) w (by omega) (by omega) (by omega) (by rw [w1.length_eq];exact hl)
      refine ⟨r,r1.trans w1,fun hB h=>r2 (Rq w1 hB) (w2 hB h),Ev.succ ?_⟩
      simp only [zStb.l1]
      refine Ev.pos (by omega) ?_
      rw [Ai (n:=2*(bs:Int)) (by omega) (by omega)]
      have:=w3 r (by simp only [List.nil_append,List.length_nil,Nat.zero_add];rw [hl];exact r3)
      simp only [List.nil_append,List.length_nil,Nat.zero_add] at this
      rw [hl] at this
      rw [show ((2*bs:Nat):Int)=2*(bs:Int) by omega] at this
      exact this
    · refine ⟨l,List.Perm.refl _,fun _ h=>Mo h (by omega),Ev.succ ?_⟩
      simp only [zStb.l1]
      exact Ev.neg (by omega) (Ev.now _)
theorem stable_ev (l:List Sq) (hl:l.length≤536870912):∃ r,r.Perm l∧(Bds l→r.Pairwise LeP)∧Ev (fun k=>zSSF.f k l) r:=by
  obtain ⟨w,w1,w2,w3⟩:=st_l0 l.length [] l (Nat.le_refl _) (by simp;omega)
  obtain ⟨r,r1,r2,r3⟩:=st_l1 l.length hl l.length 20 w (by omega) (by omega) (by omega) w1.length_eq
  refine ⟨r,r1.trans w1,fun hB=>r2 (Rq w1 hB) (w2 hB),?_⟩
  unfold zSSF.f zStb.f
  have:=w3 r (by simpa using r3)
  simp only [List.nil_append,List.length_nil,Nat.zero_add] at this
  exact Ev.bind (by simpa using this) (Ev.now _)

/-! ### a cut of squares in whichever order: the program -/
noncomputable def srt (l:List Sq):List Sq:=l.mergeSort (fun a b => !decide (D4 b a))
theorem Kt (l:List Sq):(srt l).Perm l:=List.mergeSort_perm l _
theorem N4 (l:List Sq):(srt l).Pairwise LeP:=by
  have h:=List.pairwise_mergeSort (le:=fun a b:Sq => !decide (D4 b a)) (fun a b c h1 h2=>by simp only [Bool.not_eq_true',decide_eq_false_iff_not] at *;exact LeP.trans (show LeP a b from h1) h2) (fun a b=>by simp only [Bool.or_eq_true,Bool.not_eq_true',decide_eq_false_iff_not];unfold D4;omega) l
  refine List.Pairwise.imp (fun {a b} h=>?_) h
  simpa [LeP] using h
theorem Qv {W H:Int} {l:List Sq} (hg:Bz W H l):Dist l:=by
  intro a ha b hb e0 e1
  have i1:=(hg.2.2.2.1)
  have g1:∀ s ∈ l,Ins W H s:=fun s hs=>by
    obtain ⟨j,hj,rfl⟩:=List.mem_iff_getElem.1 hs
    rw [← Ci l j hj];exact (i1 j hj).1
  obtain ⟨i,hi,rfl⟩:=List.mem_iff_getElem.1 ha
  obtain ⟨j,hj,rfl⟩:=List.mem_iff_getElem.1 hb
  have p1:=g1 _ ha
  have p2:=g1 _ hb
  rw [← Ci l i hi] at p1 e0 e1 ⊢
  rw [← Ci l j hj] at p2 e0 e1 ⊢
  have ov:Ovl (Aj l i) (Aj l j):=by unfold Ins at p1 p2;unfold Ovl;omega
  rcases Nat.lt_trichotomy i j with h|h|h
  · exact absurd (show Ovl (Aj l j) (Aj l i) from ⟨ov.2.1,ov.1,ov.2.2.2,ov.2.2.1⟩) ((i1 j hj).2.2 i h)
  · rw [h]
  · exact absurd ov ((i1 i hi).2.2 j h)
theorem Rt {W H:Int} {l:List Sq} (hg:Bz W H l):Bds l:=by
  intro s hs
  obtain ⟨j,hj,rfl⟩:=List.mem_iff_getElem.1 hs
  have:=(hg.2.2.2.1 j hj).1
  rw [Ci l j hj] at this
  have h1:=hg.1.2
  have h2:=hg.2.1.2
  unfold Ins at this
  unfold BdS
  omega
/-- the sorted list is a cut, or no list of these squares in order is one -/
theorem Ru {W H:Int} {l r:List Sq} (hp:r.Perm l) (hs:r.Pairwise LeP):(Bz W H r↔Bz W H (srt l))∧(Bz W H r→r=srt l):=by
  have e:Bz W H r→r=srt l:=fun hg=>I0 (fun a ha b hb=>Qv hg a (hp.mem_iff.2 ha) b (hp.mem_iff.2 hb)) hp (Kt l) hs (N4 l)
  have e':Bz W H (srt l)→r=srt l:=fun hg=>I0 (fun a ha b hb=>Qv hg a ((Kt l).mem_iff.2 ha) b ((Kt l).mem_iff.2 hb)) hp (Kt l) hs (N4 l)
  exact ⟨⟨fun h=>e h ▸ h,fun h=>(e' h).symm ▸ h⟩,e⟩
open Classical in
noncomputable def M3 (W H:Int) (l:List Sq):Int×Int×List Sq×Bool:=if Bz W H (srt l) then (W,H,srt l,true) else (0,0,[],false)
theorem cutOfV_len (W H:Int) (l:List Sq):(M3 W H l).2.2.1.length≤30:=by
  unfold M3;split
  · rename_i h;exact h.2.2.1.2
  · simp
theorem Q6 (W H:Int) (l:List Sq) (hl:l.length≤536870912):Ev (fun k=>Ie.f k W H l) (M3 W H l):=by
  obtain ⟨r,hp,hs,hev⟩:=stable_ev l hl
  unfold Ie.f
  refine Ev.bindc (a:=l) ?_ (Ev.bind hev (Ev.bind (Gb W H r) ?_))
  · unfold Di.f
    rw [Option.bind_some,if_pos (by simp;omega),List.nil_append]
  · unfold M3
    by_cases hB:Bds l
    · obtain ⟨h1,h2⟩:=Ru (W:=W) (H:=H) hp (hs hB)
      by_cases hg:Bz W H r
      · rw [if_pos (h1.1 hg),h2 hg]
        rw [h2 hg] at hg
        exact Ev.pos (by simpa using hg) (Ev.now _)
      · rw [if_neg (fun h=>hg (h1.2 h))]
        exact Ev.neg (by simpa using hg) (Ev.now _)
    · have n1:¬ Bz W H r:=fun h=>hB (fun z hz=>Rt h z (hp.mem_iff.2 hz))
      have n2:¬ Bz W H (srt l):=fun h=>hB (fun z hz=>Rt h z ((Kt l).mem_iff.2 hz))
      rw [if_neg n2]
      exact Ev.neg (by simpa using n1) (Ev.now _)

/-! ### cuts of sides: each one at the first column that is filled least -/
def If (F:List Int):Nat→Nat
  | 0=>0
  | n+1=>if F.getD n 0<F.getD (If F n) 0 then n else If F n
def Cc (F:List Int):Nat:=If F F.length
theorem It (F:List Int):∀ n,1≤n→If F n<n∧(∀ c,c<n→F.getD (If F n) 0≤F.getD c 0)∧∀ c,c<If F n→F.getD (If F n) 0<F.getD c 0
  | 0,h=>by omega
  | 1,_=>by
    have:If F 1=0:=by unfold If;rw [if_neg (by unfold If;omega)];rfl
    rw [this]
    exact ⟨by omega,fun c hc=>by rw [show c=0 by omega];omega,fun c hc=>by omega⟩
  | n+2,_=>by
    obtain ⟨h1,h2,h3⟩:=It F (n+1) (by omega)
    rw [If]
    by_cases h:F.getD (n+1) 0<F.getD (If F (n+1)) 0
    · rw [if_pos h]
      refine ⟨by omega,fun c hc=>?_,fun c hc=>?_⟩
      · by_cases e:c=n+1
        · rw [e];omega
        · have:=h2 c (by omega);omega
      · have:=h2 c (by omega);omega
    · rw [if_neg h]
      refine ⟨by omega,fun c hc=>?_,h3⟩
      by_cases e:c=n+1
      · rw [e];omega
      · exact h2 c (by omega)
def I9 (F:List Int) (x:Nat) (v:Int):Nat→List Int
  | 0=>F
  | d+1=>(I9 F x v d).set (x+d) v
theorem Ji (F:List Int) (x:Nat) (v:Int):∀ d,(I9 F x v d).length=F.length
  | 0=>rfl
  | d+1=>by rw [I9,List.length_set,Ji F x v d]
theorem getD_setI (s:List Int) (i m:Nat) (v:Int) (hi:i<s.length):(s.set i v).getD m 0=if m=i then v else s.getD m 0:=by
  by_cases e:m=i
  · subst e;simp [List.getD,hi]
  · have e':i≠m:=fun h=>e h.symm
    simp [List.getD,e,e']
theorem Ma (F:List Int) (x:Nat) (v:Int):∀ d,x+d≤F.length→∀ c,(I9 F x v d).getD c 0=if x≤c∧c<x+d then v else F.getD c 0
  | 0,_,c=>by rw [I9,if_neg (by omega)]
  | d+1,h,c=>by
    rw [I9,getD_setI _ _ _ _ (by rw [Ji];omega),Ma F x v d (by omega)]
    by_cases e:c=x+d
    · rw [if_pos e,if_pos (by omega)]
    · rw [if_neg e]
      by_cases e2:x≤c∧c<x+d
      · rw [if_pos e2,if_pos (by omega)]
      · rw [if_neg e2,if_neg (by omega)]
def Jd (F:List Int) (s:Int):Prop:=(Cc F:Int)+s≤F.length∧∀ c:Nat,Cc F≤c→(c:Int)<(Cc F:Int)+s→F.getD c 0=F.getD (Cc F) 0
open Classical in
noncomputable def Gr:List Int→List Int→List Sq→Option (List Int×List Sq)
  | [],F,l=>some (F,l)
  | s::t,F,l=>if Jd F s then Gr t (I9 F (Cc F) (F.getD (Cc F) 0+s) s.toNat) (l++[⟨(Cc F:Int),F.getD (Cc F) 0,s⟩]) else none
/-- what holds of the columns and the squares that are put -/
structure FInv (W:Nat) (F:List Int) (l:List Sq):Prop where
  len:F.length=W
  low:∀ c,c<W→0≤F.getD c 0∧F.getD c 0≤500*(l.length:Int)
  top:∀ c,c<W→F.getD c 0=0∨∃ s ∈ l,F.getD c 0=s.f1+s.f2
  ord:∀ s ∈ l,∀ c,c<W→s.f1<F.getD c 0∨s.f1=F.getD c 0∧s.f0<c
  srt:l.Pairwise D4
  sum:F.sum=Gt l
theorem sum_set:∀ (F:List Int) (i:Nat) (v:Int),i<F.length→(F.set i v).sum=F.sum-F.getD i 0+v
  | [],i,v,h=>by simp at h
  | x::t,0,v,h=>by simp;omega
  | x::t,i+1,v,h=>by
    have:=sum_set t i v (by simpa using h)
    simp only [List.set_cons_succ,List.sum_cons,this,List.getD_cons_succ];omega
theorem Rv (F:List Int) (x:Nat) (y v:Int):∀ d:Nat,x+d≤F.length→(∀ c,x≤c→c<x+d→F.getD c 0=y)→(I9 F x v d).sum=F.sum+(d:Int)*(v-y)
  | 0,_,_=>by simp [I9]
  | d+1,h,hy=>by
    rw [I9,sum_set _ _ _ (by rw [Ji];omega),Rv F x y v d (by omega) (fun c h1 h2=>hy c h1 (by omega)),Ma F x v d (by omega),if_neg (by omega),hy (x+d) (by omega) (by omega)]
    grind
theorem M4 {W:Nat} (hW:1≤W) {F:List Int} {l:List Sq} (h:FInv W F l) {s:Int} (hs:1≤s∧s≤500) (ho:Jd F s):FInv W (I9 F (Cc F) (F.getD (Cc F) 0+s) s.toNat) (l++[⟨(Cc F:Int),F.getD (Cc F) 0,s⟩]):=by
  obtain ⟨a1,a2,a3⟩:=It F F.length (by rw [h.len];exact hW)
  have hl:=h.len
  obtain ⟨o1,o2⟩:=ho
  change (Cc F)<F.length at a1
  change ∀ c,c<F.length→F.getD (Cc F) 0≤F.getD c 0 at a2
  change ∀ c,c<Cc F→F.getD (Cc F) 0<F.getD c 0 at a3
  have hat:=Ma F (Cc F) (F.getD (Cc F) 0+s) s.toNat (by omega)
  have lowx:=h.low (Cc F) (by omega)
  have hll:((l++[(⟨(Cc F:Int),F.getD (Cc F) 0,s⟩:Sq)]).length:Int)=l.length+1:=by simp
  refine ⟨by rw [Ji];exact hl,fun c hc=>?_,fun c hc=>?_,fun q hq c hc=>?_,?_,?_⟩
  · rw [hat,hll]
    have:=h.low c hc
    split <;> omega
  · rw [hat]
    split
    · right;exact ⟨_,List.mem_append_right _ (List.mem_singleton_self _),rfl⟩
    · rcases h.top c hc with e|⟨q,hq,e⟩
      · exact Or.inl e
      · exact Or.inr ⟨q,List.mem_append_left _ hq,e⟩
  · rw [hat]
    rcases List.mem_append.1 hq with hq|hq
    · have:=h.ord q hq c hc
      have h0:=h.ord q hq (Cc F) (by omega)
      split
      · left;omega
      · exact this
    · rw [List.mem_singleton.1 hq]
      dsimp only
      split
      · left;omega
      · rename_i hn
        by_cases e:c<Cc F
        · left;exact a3 c e
        · have:=a2 c (by omega);omega
  · refine List.pairwise_append.2 ⟨h.srt,List.pairwise_singleton _ _,fun p hp q hq=>?_⟩
    rw [List.mem_singleton.1 hq]
    have:=h.ord p hp (Cc F) (by omega)
    exact this
  · rw [Rv F (Cc F) (F.getD (Cc F) 0) _ s.toNat (by omega) (fun c h1 h2=>o2 c h1 (by omega)),h.sum,Kr]
    simp only [Gt]
    rw [Int.toNat_of_nonneg (by omega)]
    grind
theorem finv_all {W:Nat} (hW:1≤W):∀ (t F:List Int) (l:List Sq),(∀ s ∈ t,1≤s∧s≤500)→FInv W F l→∀ F' l',Gr t F l=some (F',l')→FInv W F' l'∧l'.length=l.length+t.length
  | [],F,l,_,h,F',l',e=>by
    rw [Gr] at e
    injection e with e
    injection e with e1 e2
    subst e1 e2
    exact ⟨h,by simp⟩
  | s::t,F,l,hs,h,F',l',e=>by
    rw [Gr] at e
    split at e
    · rename_i ho
      have:=finv_all hW t _ _ (fun q hq=>hs q (List.mem_cons_of_mem _ hq)) (M4 hW h (hs s List.mem_cons_self) ho) F' l' e
      refine ⟨this.1,?_⟩
      have h2:=this.2
      simp only [List.length_append,List.length_cons,List.length_nil] at h2 ⊢
      omega
    · cases e
theorem sum_rep (n:Nat):(List.replicate n (0:Int)).sum=0:=by
  induction n with
  | zero=>rfl
  | succ n ih=>rw [List.replicate_succ,List.sum_cons,ih];rfl
theorem N5 (W:Nat):FInv W (List.replicate W 0) []:=by
  have h0:∀ c,c<W→(List.replicate W (0:Int)).getD c 0=0:=fun c hc=>by
    rw [List.getD_eq_getElem?_getD,List.getElem?_eq_getElem (by simpa using hc)];simp
  exact ⟨by simp,fun c hc=>by rw [h0 c hc];simp,fun c hc=>Or.inl (h0 c hc),fun s hs=>(by cases hs),List.Pairwise.nil,by rw [sum_rep];rfl⟩
theorem sum_le (q:Int):∀ F:List Int,(∀ c,c<F.length→F.getD c 0≤q)→F.sum≤F.length*q∧(F.sum=F.length*q→∀ c,c<F.length→F.getD c 0=q)
  | [],_=>by simp
  | x::t,h=>by
    obtain ⟨i1,i2⟩:=sum_le q t (fun c hc=>by have:=h (c+1) (by simpa using hc);simpa using this)
    have h0:=h 0 (by simp)
    simp only [List.getD_cons_zero] at h0
    have e:((x::t).length:Int)*q=t.length*q+q:=by rw [List.length_cons];push_cast;grind
    rw [List.sum_cons,e]
    refine ⟨by omega,fun hs c hc=>?_⟩
    cases c with
    | zero=>simp only [List.getD_cons_zero];omega
    | succ c=>simp only [List.getD_cons_succ];exact i2 (by omega) c (by simpa using hc)
/-- the greatest column and the first one tell the same cut, or none -/
theorem fill_good {W:Nat} (hW:1≤W) {F:List Int} {l:List Sq} (h:FInv W F l) {q:Int} (a1:∃ c,c<W∧q=F.getD c 0) (a0:∀ c,c<W→F.getD c 0≤q):(Bz W q l↔Bz W (F.getD 0 0) l)∧(Bz W q l→q=F.getD 0 0):=by
  have e1:Bz W q l→q=F.getD 0 0:=by
    intro hg
    have ha:=hg.2.2.2.2
    rw [Mm,← h.sum] at ha
    obtain ⟨_,s2⟩:=sum_le q F (fun c hc=>a0 c (by rw [← h.len];exact hc))
    exact (s2 (by rw [ha,h.len]) 0 (by rw [h.len];omega)).symm
  have e2:Bz W (F.getD 0 0) l→q=F.getD 0 0:=by
    intro hg
    have h1:=a0 0 (by omega)
    obtain ⟨c,hc,e⟩:=a1
    rcases h.top c hc with z|⟨s,hs,z⟩
    · have:=hg.2.1.1;omega
    · have hi : Ins W (F.getD 0 0) s := by
        obtain ⟨j,hj,rfl⟩:=List.mem_iff_getElem.1 hs
        have:=(hg.2.2.2.1 j hj).1
        rw [Ci l j hj] at this
        exact this
      unfold Ins at hi
      omega
  exact ⟨⟨fun hg=>e1 hg ▸ hg,fun hg=>(e2 hg).symm ▸ hg⟩,e1⟩
def Jw (W:Int) (t:List Int):Prop:=(1≤W∧W≤500)∧(1≤t.length∧t.length≤30)∧∀ s ∈ t,1≤s∧s≤500
open Classical in
noncomputable def G8 (W:Int) (R:Option (List Int×List Sq)):Int×Int×List Sq×Bool:=match R with
  | some (F,l)=>if Bz W (F.getD 0 0) l then (W,F.getD 0 0,l,true) else (0,0,[],false)
  | none=>(0,0,[],false)
open Classical in
noncomputable def Dj (W:Int) (t:List Int):Int×Int×List Sq×Bool:=if Jw W t then G8 W (Gr t (List.replicate W.toNat 0) []) else (0,0,[],false)
theorem Ue (W:Int) (R:Option (List Int×List Sq)):(G8 W R).2.2.1.length≤30:=by
  unfold G8
  split
  · split
    · rename_i h;exact h.2.2.1.2
    · simp
  · simp
theorem Qw (W:Int) (t:List Int):(Dj W t).2.2.1.length≤30:=by
  unfold Dj;split
  · exact Ue _ _
  · simp
theorem Il (s:List Int) (j:Nat):rd s (j:Int)=s.getD j 0:=by unfold rd;rw [Int.toNat_natCast]

/-! the program -/
theorem minL_loop (s : List Int) (hl : s.length ≤ 100000) : ∀ (d i : Nat) (m : Int), s.length - i = d → i ≤ s.length →
    ∃ q,Ev (fun k=>Cf.l0 k s m (i:Int)) q∧(q=m∨∃ j,i≤j∧j<s.length∧q=s.getD j 0)∧q≤m∧∀ j,i≤j→j<s.length→q≤s.getD j 0:=by
  intro d
  induction d with
  | zero =>
    intro i m hd hi
    refine ⟨m,Ev.succ ?_,Or.inl rfl,Int.le_refl _,fun j h1 h2=>by omega⟩
    simp only [Cf.l0]
    exact Ev.neg (by omega) (Ev.now _)
  | succ d ih =>
    intro i m hd hi
    have hx:mn m (s.getD i 0)=min m (s.getD i 0):=by unfold mn;omega
    obtain ⟨q,hq,h1,h2,h3⟩:=ih (i+1) (mn m (s.getD i 0)) (by omega) (by omega)
    rw [hx] at h1 h2
    refine ⟨q,Ev.succ ?_,?_,by omega,fun j h4 h5=>?_⟩
    · simp only [Cf.l0,Il]
      refine Ev.pos (by omega) (Ev.pos (by omega) ?_)
      rw [Ai (by omega) (by omega)]
      exact hq
    · rcases h1 with h1|⟨j,a,b,c⟩
      · by_cases e:m≤s.getD i 0
        · left;omega
        · right;exact ⟨i,Nat.le_refl _,by omega,by omega⟩
      · right;exact ⟨j,by omega,b,c⟩
    · by_cases e:j=i
      · subst e;omega
      · exact h3 j (by omega) h5
theorem maxL_loop (s : List Int) (hl : s.length ≤ 100000) : ∀ (d i : Nat) (m : Int), s.length - i = d → i ≤ s.length →
    ∃ q,Ev (fun k=>B0.l0 k s m (i:Int)) q∧(q=m∨∃ j,i≤j∧j<s.length∧q=s.getD j 0)∧m≤q∧∀ j,i≤j→j<s.length→s.getD j 0≤q:=by
  intro d
  induction d with
  | zero =>
    intro i m hd hi
    refine ⟨m,Ev.succ ?_,Or.inl rfl,Int.le_refl _,fun j h1 h2=>by omega⟩
    simp only [B0.l0]
    exact Ev.neg (by omega) (Ev.now _)
  | succ d ih =>
    intro i m hd hi
    have hx:mx m (s.getD i 0)=max m (s.getD i 0):=by unfold mx;omega
    obtain ⟨q,hq,h1,h2,h3⟩:=ih (i+1) (mx m (s.getD i 0)) (by omega) (by omega)
    rw [hx] at h1 h2
    refine ⟨q,Ev.succ ?_,?_,by omega,fun j h4 h5=>?_⟩
    · simp only [B0.l0,Il]
      refine Ev.pos (by omega) (Ev.pos (by omega) ?_)
      rw [Ai (by omega) (by omega)]
      exact hq
    · rcases h1 with h1|⟨j,a,b,c⟩
      · by_cases e:s.getD i 0≤m
        · left;omega
        · right;exact ⟨i,Nat.le_refl _,by omega,by omega⟩
      · right;exact ⟨j,by omega,b,c⟩
    · by_cases e:j=i
      · subst e;omega
      · exact h3 j (by omega) h5
theorem minL_ev (s:List Int) (hl:1≤s.length∧s.length≤100000):∃ q,Ev (fun k=>Cf.f k s) q∧(∃ j,j<s.length∧q=s.getD j 0)∧∀ j,j<s.length→q≤s.getD j 0:=by
  obtain ⟨q,hq,h1,h2,h3⟩:=minL_loop s (by omega) (s.length-1) 1 (s.getD 0 0) rfl (by omega)
  refine ⟨q,?_,?_,fun j hj=>?_⟩
  · unfold Cf.f
    exact Ev.neg (by omega) (Ev.pos (by omega) hq)
  · rcases h1 with h1|⟨j,_,b,c⟩
    · exact ⟨0,by omega,h1⟩
    · exact ⟨j,b,c⟩
  · by_cases e:j=0
    · rw [e];exact h2
    · exact h3 j (by omega) hj
theorem maxL_ev (s:List Int) (hl:1≤s.length∧s.length≤100000):∃ q,Ev (fun k=>B0.f k s) q∧(∃ j,j<s.length∧q=s.getD j 0)∧∀ j,j<s.length→s.getD j 0≤q:=by
  obtain ⟨q,hq,h1,h2,h3⟩:=maxL_loop s (by omega) (s.length-1) 1 (s.getD 0 0) rfl (by omega)
  refine ⟨q,?_,?_,fun j hj=>?_⟩
  · unfold B0.f
    exact Ev.neg (by omega) (Ev.pos (by omega) hq)
  · rcases h1 with h1|⟨j,_,b,c⟩
    · exact ⟨0,by omega,h1⟩
    · exact ⟨j,b,c⟩
  · by_cases e:j=0
    · rw [e];exact h2
    · exact h3 j (by omega) hj
theorem Uu (F:List Int) (hl:F.length≤100000) (v:Int) (x:Nat) (hx:x<F.length) (hv:F.getD x 0=v):∀ (d i:Nat),x-i=d→i≤x→(∀ c,i≤c→c<x→F.getD c 0≠v)→Ev (fun k=>Cg.l0 k F v (F.length:Int) (i:Int)) (x:Int):=by
  intro d
  induction d with
  | zero =>
    intro i hd hi h
    obtain rfl:i=x:=by omega
    refine Ev.succ ?_
    simp only [Cg.l0,Il]
    exact Ev.pos (by omega) (Ev.pos (by omega) (Ev.pos (by omega) (Ev.pos hv.symm (Ev.now _))))
  | succ d ih =>
    intro i hd hi h
    refine Ev.succ ?_
    simp only [Cg.l0,Il]
    refine Ev.pos (by omega) (Ev.pos (by omega) (Ev.pos (by omega) (Ev.neg (fun e=>h i (Nat.le_refl _) (by omega) e.symm) ?_)))
    rw [Ai (by omega) (by omega)]
    exact ih (i+1) (by omega) (by omega) (fun c h1 h2=>h c (by omega) h2)
theorem argm_ev (F:List Int) (hl:1≤F.length∧F.length≤100000):Ev (fun k=>Cf.f k F) (F.getD (Cc F) 0)∧Ev (fun k=>Cg.f k F (F.getD (Cc F) 0)) (Cc F:Int):=by
  obtain ⟨a1,a2,a3⟩:=It F F.length hl.1
  obtain ⟨q,hq,⟨j,hj,hqj⟩,h2⟩:=minL_ev F hl
  have e:q=F.getD (Cc F) 0:=by
    have x1:=a2 j hj
    have x2:=h2 (Cc F) a1
    change F.getD (Cc F) 0≤F.getD j 0 at x1
    omega
  rw [← e]
  refine ⟨hq,?_⟩
  unfold Cg.f
  exact Uu F hl.2 q (Cc F) a1 e.symm (Cc F) 0 rfl (Nat.zero_le _) (fun c _ hc=>by have:=a3 c hc;change F.getD (Cc F) 0<_ at this;omega)
theorem implF_l1 (W : Int) (l : List Sq) (s y : Int) (x : Nat) (T : List Int) (n i : Int) (hs : 1 ≤ s ∧ s ≤ 500) (hy : -100000 ≤ y ∧ y ≤ 100000) (F : List Int) (hl : F.length ≤ 100000) (hx : (x : Int) + s ≤ F.length) (R : Int × Int × List Sq × Bool)
    (hR:Ev (fun k=>Ap.l0 k W (I9 F x (y+s) s.toNat) l T n (wrap64 (i+1))) R):∀ (e d:Nat),s.toNat-d=e→d≤s.toNat→Ev (fun k=>Ap.l1 k W (I9 F x (y+s) d) l s y (x:Int) T n i s (d:Int)) R:=by
  intro e
  induction e with
  | zero =>
    intro d he hd
    obtain rfl:d=s.toNat:=by omega
    refine Ev.succ ?_
    simp only [Ap.l1]
    exact Ev.neg (by omega) hR
  | succ e ih =>
    intro d he hd
    have:=ih (d+1) (by omega) (by omega)
    refine Ev.succ ?_
    simp only [Ap.l1]
    have e1:wrap64 ((x:Int)+(d:Int))=((x+d:Nat):Int):=by rw [Ai (by omega) (by omega)];omega
    have e2:wrap64 ((d:Int)+1)=((d+1:Nat):Int):=by clear e1;rw [Ai (by omega) (by omega)];omega
    have e3:wrap64 (y+s)=y+s:=by clear e1 e2;exact Ai (by omega) (by omega)
    rw [e1,e2,e3,Int.toNat_natCast]
    clear e1 e2 e3
    exact Ev.pos (by omega) (Ev.pos (by omega) (Ev.pos (by rw [Ji];omega) this))
theorem implF_l0 {W : Nat} (hW : 1 ≤ W ∧ W ≤ 500) (T : List Int) (hT : T.length ≤ 30) (hTs : ∀ s ∈ T, 1 ≤ s ∧ s ≤ 500) : ∀ (t : List Int) (i : Nat) (F : List Int) (l : List Sq), T.drop i = t → i + t.length = T.length → FInv W F l → l.length = i →
    Ev (fun k=>Ap.l0 k (W:Int) F l T (T.length:Int) (i:Int)) (G8 W (Gr t F l)):=by
  intro t
  induction t with
  | nil =>
    intro i F l hd hi h hli
    simp only [List.length_nil] at hi
    have hl:=h.len
    obtain ⟨q,hq,h1,h2⟩:=maxL_ev F (by omega)
    rw [hl] at h1 h2
    obtain ⟨g1,g2⟩:=fill_good (W:=W) hW.1 h h1 h2
    obtain ⟨s1,s2⟩:=Ru (W:=W) (H:=q) (List.Perm.refl l) (h.srt.imp LeP.of_less)
    refine Ev.succ ?_
    simp only [Ap.l0]
    refine Ev.neg (by omega) (Ev.bind hq (Ev.bind (Q6 W q l (by omega)) (Ev.eqr (Ev.now _) ?_)))
    unfold M3 Gr G8
    dsimp only
    by_cases hg:Bz W q l
    · rw [if_pos (s1.1 hg),if_pos (g1.1 hg),← s2 hg,g2 hg]
    · rw [if_neg (fun z=>hg (s1.2 z)),if_neg (fun z=>hg (g1.2 z))]
  | cons s t ih =>
    intro i F l hd hi h hli
    have hl:=h.len
    simp only [List.length_cons] at hi
    have a0:i<T.length:=by omega
    rw [List.drop_eq_getElem_cons a0] at hd
    injection hd with a4 a6
    have hs:=hTs s (by rw [← a4];exact List.getElem_mem a0)
    have hrd:rd T (i:Int)=s:=by rw [Il,List.getD_eq_getElem?_getD,List.getElem?_eq_getElem a0];exact a4
    obtain ⟨m1,m2⟩:=argm_ev F (by omega)
    obtain ⟨a1,a2,a3⟩:=It F F.length (by omega)
    change Cc F<F.length at a1
    change ∀ c,c<F.length→F.getD (Cc F) 0≤F.getD c 0 at a2
    have low:=h.low (Cc F) (by omega)
    have no:∀ x:Option (List Int×List Sq),x=none→G8 W x=(0,0,[],false):=by rintro _ rfl;rfl
    have a5:¬ Jd F s→Ev (fun k=>Ap.j2 k (W:Int) F l s (F.getD (Cc F) 0) (Cc F:Int) T (T.length:Int) (i:Int) true) (G8 W (Gr (s::t) F l)):=by
      intro hn
      rw [Gr,if_neg hn]
      refine Ev.succ ?_
      simp only [Ap.j2]
      exact Ev.pos trivial (Ev.now _)
    refine Ev.succ ?_
    simp only [Ap.l0,hrd]
    refine Ev.pos (by omega) (Ev.pos (by omega) (Ev.pos (by omega) (Ev.bind m1 (Ev.bind m2 ?_))))
    rw [Ai (n:=(Cc F:Int)+s) (by omega) (by omega)]
    by_cases c1:(Cc F:Int)+s>W
    · exact Ev.pos c1 (a5 (fun ho=>by have:=ho.1;omega))
    · refine Ev.neg c1 (Ev.pos (by omega) (Ev.pos (by omega) (Ev.pos (by omega) ?_)))
      have hsl:((F.take ((Cc F:Int)+s).toNat).drop ((Cc F:Int)).toNat).length=s.toNat:=by
        rw [List.length_drop,List.length_take];omega
      obtain ⟨q,hq,⟨j,hj,hqj⟩,h2⟩:=maxL_ev ((F.take ((Cc F:Int)+s).toNat).drop ((Cc F:Int)).toNat) (by omega)
      have hat:∀ j,j<s.toNat→((F.take ((Cc F:Int)+s).toNat).drop ((Cc F:Int)).toNat).getD j 0=F.getD (Cc F+j) 0:=fun j hj=>by
        rw [List.getD_eq_getElem?_getD,List.getElem?_drop,List.getElem?_take_of_lt (by omega),← List.getD_eq_getElem?_getD,Int.toNat_natCast]
      rw [hsl] at hj h2
      refine Ev.bind hq ?_
      by_cases ho:Jd F s
      · have e : q = F.getD (Cc F) 0 := by
          rw [hqj,hat j hj];exact ho.2 _ (by omega) (by omega)
        rw [decide_eq_false (by omega)]
        refine Ev.succ ?_
        simp only [Ap.j2]
        refine Ev.neg (by simp) (Ev.pos (by omega) ?_)
        have hn:=ih (i+1) _ _ a6 (by omega) (M4 hW.1 h hs ho) (by simp;omega)
        rw [Gr,if_pos ho]
        refine implF_l1 W _ s (F.getD (Cc F) 0) (Cc F) T (T.length:Int) (i:Int) hs (by omega) F (by omega) (by omega) _ ?_ s.toNat 0 (by omega) (by omega)
        rw [Ai (by omega) (by omega)]
        exact hn
      · have : q > F.getD (Cc F) 0 := by
          apply Decidable.byContradiction
          intro hc
          refine ho ⟨by omega,fun c h3 h4=>?_⟩
          have x1:=h2 (c-Cc F) (by omega)
          rw [hat _ (by omega),show Cc F+(c-Cc F)=c by omega] at x1
          have x2:=a2 c (by omega)
          omega
        rw [decide_eq_true this]
        exact a5 ho
theorem areW_eq (l:List Int) (lo hi:Int):D8.f l lo hi=some (decide (∀ x ∈ l,lo≤x∧x≤hi)):=by
  unfold D8.f Cm.f
  rw [Option.bind_some]
  congr 1
  rw [Bool.eq_iff_iff,Bool.not_eq_true',decide_eq_true_eq,List.any_eq_false]
  exact ⟨fun h x hx=>by have:=h x hx;simpa using this,fun h x hx=>by have:=h x hx;simpa using this⟩
theorem I1 (W:Int) (T:List Int):Ev (fun k=>Ap.f k W T) (Dj W T):=by
  have fall:¬ Jw W T→Ev (fun k=>Ap.j0 k W T true) (Dj W T):=fun h=>by
    unfold Dj
    rw [if_neg h]
    refine Ev.succ ?_
    simp only [Ap.j0]
    exact Ev.pos trivial (Ev.now _)
  unfold Ap.f
  refine Ev.bindc (Mx _) ?_
  by_cases c1:1≤W∧W≤500
  · rw [decide_eq_true c1]
    refine Ev.pos rfl (Ev.bindc (Iy _ _ _) ?_)
    by_cases c2:1≤(T.length:Int)∧(T.length:Int)≤30
    · rw [decide_eq_true c2]
      refine Ev.pos rfl (Ev.bindc (areW_eq _ _ _) ?_)
      by_cases c3:∀ x ∈ T,1≤x∧x≤500
      · rw [decide_eq_true c3]
        have hok:Jw W T:=⟨c1,by omega,c3⟩
        obtain ⟨n,rfl⟩:∃ n:Nat,W=n:=⟨W.toNat,by omega⟩
        unfold Dj
        rw [if_pos hok]
        refine Ev.succ ?_
        simp only [Ap.j0,Bool.not_true]
        refine Ev.neg (by simp) (Ev.pos (by omega) (Ev.pos (by omega) ?_))
        rw [Int.toNat_natCast]
        exact implF_l0 (W:=n) (by omega) T (by omega) c3 T 0 _ [] rfl (by omega) (N5 n) rfl
      · rw [decide_eq_false c3]
        exact fall (fun h=>c3 h.2.2)
    · rw [decide_eq_false c2]
      exact Ev.neg (by decide) (fall (fun h=>c2 (by have:=h.2.1;omega)))
  · rw [decide_eq_false c1]
    exact Ev.neg (by decide) (fall (fun h=>c1 h.1))

/-! the reference -/
theorem specF_l1 (W s : Int) (T : List Int) (n i w h : Int) (l : List Sq) (F : List Int) (hl : F.length ≤ 100000) (R : Int × Int × List Sq × Bool)
    (hR:Ev (fun k=>Bc.l2 k W F s (Cc F:Int) (F.getD (Cc F) 0) (Cc F:Int) T n i w h l) R) (h1:1≤F.length):∀ (d c:Nat),F.length-c=d→c≤F.length →
      Ev (fun k=>Bc.l1 k W F s (If F c:Int) T n i F (F.length:Int) (c:Int) w h l) R:=by
  have bd:∀ c,c≤F.length→If F c<F.length:=fun c hc=>by
    cases c with
    | zero=>simp only [If];omega
    | succ c=>have:=(It F (c+1) (by omega)).1;omega
  intro d
  induction d with
  | zero =>
    intro c hd hc
    obtain rfl:c=F.length:=by omega
    have:=bd F.length (Nat.le_refl _)
    refine Ev.succ ?_
    simp only [Bc.l1,Il]
    exact Ev.neg (by omega) (Ev.pos (by omega) (Ev.pos (by omega) hR))
  | succ d ih =>
    intro c hd hc
    have hn:=ih (c+1) (by omega) (by omega)
    have:=bd c hc
    rw [If] at hn
    refine Ev.succ ?_
    simp only [Bc.l1,Il]
    refine Ev.pos (by omega) (Ev.pos (by omega) (Ev.pos (by omega) (Ev.pos (by omega) (Ev.pos (by omega) ?_))))
    rw [Ai (n:=(c:Int)+1) (by omega) (by omega)]
    by_cases e:F.getD c 0<F.getD (If F c) 0
    · rw [if_pos e] at hn
      exact Ev.pos e hn
    · rw [if_neg e] at hn
      exact Ev.neg e hn
theorem specF_l2 {W : Nat} (s : Int) (T : List Int) (n i w h : Int) (l : List Sq) (hll : l.length ≤ 1000) (F : List Int) (hW : F.length = W) (hl : W ≤ 500) (hs : 1 ≤ s ∧ s ≤ 500) (x : Nat) (hx : x < W) (y : Int) (hy : -100000 ≤ y ∧ y ≤ 100000) (R : Int × Int × List Sq × Bool)
    (hgood:((x:Int)+s≤W∧∀ c:Nat,x≤c→(c:Int)<(x:Int)+s→F.getD c 0=y)→Ev (fun k=>Bc.l0 k (W:Int) (I9 F x (y+s) s.toNat) T n (wrap64 (i+1)) w h (l++[⟨(x:Int),y,s⟩])) R)
    (hbad:¬ ((x:Int)+s≤W∧∀ c:Nat,x≤c→(c:Int)<(x:Int)+s→F.getD c 0=y)→R=(0,0,[],false)) :
    ∀ (e d:Nat),s.toNat-d=e→d≤s.toNat→x+d≤W→(∀ c,x≤c→c<x+d→F.getD c 0=y)→Ev (fun k=>Bc.l2 k (W:Int) (I9 F x (y+s) d) s (x:Int) y ((x+d:Nat):Int) T n i w h l) R:=by
  intro e
  induction e with
  | zero =>
    intro d he hd hxd hc
    obtain rfl:d=s.toNat:=by omega
    refine Ev.succ ?_
    simp only [Bc.l2]
    rw [Ai (n:=(x:Int)+s) (by omega) (by omega)]
    exact Ev.neg (by omega) (Ev.pos (by omega) (hgood ⟨by omega,fun c h1 h2=>hc c h1 (by omega)⟩))
  | succ e ih =>
    intro d he hd hxd hc
    refine Ev.succ ?_
    simp only [Bc.l2]
    rw [Ai (n:=(x:Int)+s) (by omega) (by omega)]
    refine Ev.pos (by omega) ?_
    by_cases c1:((x+d:Nat):Int)≥(W:Int)
    · exact Ev.pos c1 (Ev.eqr (Ev.now _) (hbad (fun hh=>by omega)).symm)
    · refine Ev.neg c1 (Ev.pos (by omega) (Ev.pos (by rw [Ji];omega) ?_))
      rw [Il,Ma F x (y+s) d (by omega),if_neg (by omega)]
      by_cases c2:F.getD (x+d) 0=y
      · refine Ev.pos c2 ?_
        have:=ih (d+1) (by omega) (by omega) (by omega) (fun c h1 h2=>by
          by_cases q:c=x+d
          · rw [q];exact c2
          · exact hc c h1 (by omega))
        rw [Ai (n:=y+s) (by omega) (by omega),Ai (n:=((x+d:Nat):Int)+1) (by omega) (by omega),Int.toNat_natCast]
        exact this
      · exact Ev.neg c2 (Ev.eqr (Ev.now _) (hbad (fun hh=>c2 (hh.2 (x+d) (by omega) (by omega)))).symm)
theorem specF_l0 {W : Nat} (hW : 1 ≤ W ∧ W ≤ 500) (T : List Int) (hT : T.length ≤ 30) (hTs : ∀ s ∈ T, 1 ≤ s ∧ s ≤ 500) : ∀ (t : List Int) (i : Nat) (F : List Int) (l : List Sq), T.drop i = t → i + t.length = T.length → FInv W F l → l.length = i →
    Ev (fun k=>Bc.l0 k (W:Int) F T (T.length:Int) (i:Int) (W:Int) 0 l) (G8 W (Gr t F l)):=by
  intro t
  induction t with
  | nil =>
    intro i F l hd hi h hli
    simp only [List.length_nil] at hi
    have hl:=h.len
    refine Ev.succ ?_
    simp only [Bc.l0]
    refine Ev.neg (by omega) (Ev.pos (by omega) ?_)
    rw [show rd F 0=F.getD 0 0 from Il F 0]
    refine Ev.bind (Gk W (F.getD 0 0) l) ?_
    unfold Gr G8
    dsimp only
    by_cases hg:Bz W (F.getD 0 0) l
    · rw [if_pos hg];exact Ev.pos (decide_eq_true hg) (Ev.now _)
    · rw [if_neg hg];exact Ev.neg (by simpa using hg) (Ev.now _)
  | cons s t ih =>
    intro i F l hd hi h hli
    have hl:=h.len
    simp only [List.length_cons] at hi
    have a0:i<T.length:=by omega
    rw [List.drop_eq_getElem_cons a0] at hd
    injection hd with a4 a5
    have hs:=hTs s (by rw [← a4];exact List.getElem_mem a0)
    have hrd:rd T (i:Int)=s:=by rw [Il,List.getD_eq_getElem?_getD,List.getElem?_eq_getElem a0];exact a4
    obtain ⟨a1,a2,a3⟩:=It F F.length (by omega)
    change Cc F<F.length at a1
    have low:=h.low (Cc F) (by omega)
    refine Ev.succ ?_
    simp only [Bc.l0,hrd]
    refine Ev.pos (by omega) (Ev.pos (by omega) (Ev.pos (by omega) ?_))
    refine specF_l1 W s T (T.length:Int) (i:Int) W 0 l F (by omega) _ ?_ (by omega) F.length 0 (by omega) (Nat.zero_le _)
    refine specF_l2 (W:=W) s T (T.length:Int) (i:Int) W 0 l (by omega) F hl hW.2 hs (Cc F) (by omega) (F.getD (Cc F) 0) (by omega) _ (fun ho=>?_) (fun ho=>?_) s.toNat 0 (by omega) (by omega) (by omega) (fun c h1 h2=>by omega)
    · have ho':Jd F s:=by unfold Jd;rw [hl];exact ho
      rw [Gr,if_pos ho',Ai (by omega) (by omega)]
      exact ih (i+1) _ _ a5 (by omega) (M4 hW.1 h hs ho') (by simp;omega)
    · have ho':¬ Jd F s:=by unfold Jd;rw [hl];exact ho
      rw [Gr,if_neg ho'];rfl
theorem N6 (lo hi:Int) (T:List Int) (hT:T.length≤100000):∀ (t:List Int) (i:Nat),T.drop i=t→i+t.length=T.length→Ev (fun k=>Dh.l0 k lo hi T (T.length:Int) (i:Int)) (decide (∀ x ∈ t,lo≤x∧x≤hi)):=by
  intro t
  induction t with
  | nil =>
    intro i hd hi'
    simp only [List.length_nil] at hi'
    refine Ev.succ ?_
    simp only [Dh.l0]
    exact Ev.neg (by omega) (Ev.eqr (Ev.now _) (by simp))
  | cons s t ih =>
    intro i hd hi'
    simp only [List.length_cons] at hi'
    have a0:i<T.length:=by omega
    rw [List.drop_eq_getElem_cons a0] at hd
    injection hd with a1 a2
    have hrd:rd T (i:Int)=s:=by rw [Il,List.getD_eq_getElem?_getD,List.getElem?_eq_getElem a0];exact a1
    refine Ev.succ ?_
    simp only [Dh.l0,hrd]
    refine Ev.pos (by omega) (Ev.pos (by omega) (Ev.pos (by omega) (Ev.bindc (G7 _ _ _) ?_)))
    by_cases c:lo≤s∧s≤hi
    · rw [decide_eq_true c,Ai (by omega) (by omega)]
      refine Ev.pos rfl (Ev.eqr (ih (i+1) a2 (by omega)) (decide_eq_decide.2 ?_))
      simp [c]
    · rw [decide_eq_false c]
      refine Ev.neg (by decide) (Ev.eqr (Ev.now _) (decide_eq_false (fun h=>c (h s List.mem_cons_self))).symm)
theorem Mb (W:Int) (T:List Int) (hTl:T.length≤2000000):Ev (fun k=>Bc.f k W T) (Dj W T):=by
  have fall:¬ Jw W T→Ev (fun k=>Bc.j0 k W T true) (Dj W T):=fun h=>by
    unfold Dj
    rw [if_neg h]
    refine Ev.succ ?_
    simp only [Bc.j0]
    exact Ev.pos trivial (Ev.now _)
  unfold Bc.f
  refine Ev.bindc (G7 _ _ _) ?_
  by_cases c1:1≤W∧W≤500
  · rw [decide_eq_true c1]
    refine Ev.pos rfl (Ev.bindc (G7 _ _ _) ?_)
    by_cases c2:1≤(T.length:Int)∧(T.length:Int)≤30
    · rw [decide_eq_true c2]
      refine Ev.pos rfl (Ev.bind (a:=decide (∀ x ∈ T,1≤x∧x≤500)) ?_ ?_)
      · unfold Dh.f
        exact N6 1 500 T (by omega) T 0 rfl (by omega)
      by_cases c3:∀ x ∈ T,1≤x∧x≤500
      · rw [decide_eq_true c3]
        have hok:Jw W T:=⟨c1,by omega,c3⟩
        obtain ⟨n,rfl⟩:∃ n:Nat,W=n:=⟨W.toNat,by omega⟩
        unfold Dj
        rw [if_pos hok]
        refine Ev.succ ?_
        simp only [Bc.j0,Bool.not_true]
        refine Ev.neg (by simp) (Ev.pos (by omega) (Ev.pos (by omega) ?_))
        rw [Int.toNat_natCast]
        exact specF_l0 (W:=n) (by omega) T (by omega) c3 T 0 _ [] rfl (by omega) (N5 n) rfl
      · rw [decide_eq_false c3]
        exact fall (fun h=>c3 h.2.2)
    · rw [decide_eq_false c2]
      exact Ev.neg (by decide) (fall (fun h=>c2 (by have:=h.2.1;omega)))
  · rw [decide_eq_false c1]
    exact Ev.neg (by decide) (fall (fun h=>c1 h.1))

/-! ### the code of a cut -/
def Gu (l:List Sq) (i:Nat):Prop:=0<i∧(Aj l (i-1)).f1=(Aj l i).f1∧(Aj l (i-1)).f0+(Aj l (i-1)).f2=(Aj l i).f0
instance (l:List Sq) (i:Nat):Decidable (Gu l i):=by unfold Gu;infer_instance
def Bh (l:List Sq):Nat→List (List Int)
  | 0=>[]
  | n+1=>if Gu l n then (Bh l n).set ((Bh l n).length-1) ((Bh l n).getD ((Bh l n).length-1) []++[(Aj l n).f2]) else Bh l n++[[(Aj l n).f2]]
theorem Gh (l:List Sq):∀ n,(Bh l n).length≤n∧(0<n→0<(Bh l n).length)
  | 0=>by simp [Bh]
  | n+1=>by
    obtain ⟨h1,h2⟩:=Gh l n
    simp only [Bh]
    split
    · rename_i hj
      rw [List.length_set]
      exact ⟨by omega,fun _=>h2 hj.1⟩
    · simp;omega
theorem E0 (l:List Sq):∀ n,∀ g ∈ Bh l n,1≤g.length∧g.length≤n
  | 0=>by simp [Bh]
  | n+1=>by
    intro g hg
    simp only [Bh] at hg
    split at hg
    · rename_i hj
      have hl:=(Gh l n).2 hj.1
      rcases List.mem_or_eq_of_mem_set hg with h|h
      · have:=E0 l n g h;omega
      · have hm : (Bh l n).getD ((Bh l n).length - 1) [] ∈ Bh l n := by
          rw [List.getD_eq_getElem?_getD,List.getElem?_eq_getElem (by omega)]
          exact List.getElem_mem _
        have:=E0 l n _ hm
        rw [h,List.length_append,List.length_singleton];omega
    · rcases List.mem_append.1 hg with h|h
      · have:=E0 l n g h;omega
      · rw [List.mem_singleton.1 h];simp
theorem Qx:∀ (k:Nat) (c:List (List Int)) (l:List Sq) (n i W H:Int) (m:List Sq),Bj.l0 k c l n i W H m=Ay.l0 k c l n i W H m
  | 0,_,_,_,_,_,_,_=>rfl
  | k+1,c,l,n,i,W,H,m=>by
    simp only [Bj.l0,Ay.l0,Qx k]
theorem Mc {W H : Int} {l : List Sq} (hg : Bz W H l) : ∀ (d i : Nat), l.length - i = d → i ≤ l.length →
    Ev (fun k=>Ay.l0 k (Bh l i) l (l.length:Int) (i:Int) W H l) (Bh l l.length):=by
  intro d
  induction d with
  | zero =>
    intro i hd hi
    obtain rfl:i=l.length:=by omega
    refine Ev.succ ?_
    simp only [Ay.l0]
    exact Ev.neg (by omega) (Ev.now _)
  | succ d ih =>
    intro i hd hi
    have hlt:i<l.length:=by omega
    have a0:=hg.2.2.1
    have cl:=Gh l i
    have next:=ih (i+1) (by omega) (by omega)
    refine Ev.succ ?_
    simp only [Ay.l0,Ef]
    have ei:wrap64 ((i:Int)+1)=((i+1:Nat):Int):=by rw [Ai (by omega) (by omega)];omega
    rw [ei]
    refine Ev.pos (by omega) (Ev.pos (by omega) (Ev.pos (by omega) ?_))
    have other:¬ Gu l i→Ev (fun k=>if (Bh l i).length<5864062014805 then Ay.l0 k (Bh l i++[[(Aj l i).f2]]) l (l.length:Int) ((i+1:Nat):Int) W H l else none) (Bh l l.length):=by
      intro hn
      refine Ev.pos (by omega) ?_
      have e:Bh l i++[[(Aj l i).f2]]=Bh l (i+1):=by simp only [Bh];rw [if_neg hn]
      rw [e]
      exact next
    by_cases c0:(i:Int)>0
    · refine Ev.pos c0 ?_
      have e1:wrap64 ((i:Int)-1)=((i-1:Nat):Int):=by rw [Ai (by omega) (by omega)];omega
      simp only [e1,Ef]
      have a:=(hg.2.2.2.1 (i-1) (by omega)).1
      have w1:=hg.1
      have w2:=hg.2.1
      unfold Ins at a
      rw [Ai (n:=(Aj l (i-1)).f0+(Aj l (i-1)).f2) (by omega) (by omega)]
      refine Ev.pos (by omega) (Ev.pos (by omega) ?_)
      by_cases c1:(Aj l (i-1)).f1=(Aj l i).f1
      · refine Ev.pos c1 ?_
        by_cases c2:(Aj l (i-1)).f0+(Aj l (i-1)).f2=(Aj l i).f0
        · refine Ev.pos c2 ?_
          have hj:Gu l i:=⟨by omega,c1,c2⟩
          have hp:=cl.2 hj.1
          have e2:wrap64 (((Bh l i).length:Int)-1)=(((Bh l i).length-1:Nat):Int):=by rw [Ai (by omega) (by omega)];omega
          have e3:Az (Bh l i) (((Bh l i).length-1:Nat):Int)=(Bh l i).getD ((Bh l i).length-1) []:=by unfold Az;rw [Int.toNat_natCast]
          have hm:(Bh l i).getD ((Bh l i).length-1) [] ∈ Bh l i:=by
            rw [List.getD_eq_getElem?_getD,List.getElem?_eq_getElem (by omega)]
            exact List.getElem_mem _
          have gl:=E0 l i _ hm
          rw [e2,e3,Int.toNat_natCast]
          refine Ev.pos (by omega) (Ev.pos (by omega) (Ev.pos (by omega) ?_))
          have e:(Bh l i).set ((Bh l i).length-1) ((Bh l i).getD ((Bh l i).length-1) []++[(Aj l i).f2])=Bh l (i+1):=by simp only [Bh];rw [if_pos hj]
          rw [e]
          exact next
        · exact Ev.neg c2 (other fun h=>c2 h.2.2)
      · exact Ev.neg c1 (other fun h=>c1 h.2.1)
    · exact Ev.neg c0 (other fun h=>c0 (by have:=h.1;omega))
theorem I3 {W H:Int} {l:List Sq} (hg:Bz W H l):Ev (fun k=>Ay.f k W H l) (Bh l l.length):=by
  unfold Ay.f
  exact Mc hg l.length 0 (by omega) (Nat.zero_le _)
theorem I4 {W H:Int} {l:List Sq} (hg:Bz W H l):Ev (fun k=>Bj.f k W H l) (Bh l l.length):=by
  unfold Bj.f
  simp only [Qx]
  exact Mc hg l.length 0 (by omega) (Nat.zero_le _)

/-! ### the cut of a code -/
theorem Im (l:List (List Int)) (i:Nat):Az l (i:Int)=l.getD i []:=by unfold Az;rw [Int.toNat_natCast]
theorem Gv {α:Type} (l:List α) (i:Nat) (s:α) (t:List α) (h:l.drop i=s::t) (d:α):i<l.length∧l.getD i d=s∧l.drop (i+1)=t∧s ∈ l:=by
  have h1:i<l.length:=by
    apply Decidable.byContradiction
    intro hn
    rw [List.drop_eq_nil_of_le (by omega)] at h;cases h
  rw [List.drop_eq_getElem_cons h1] at h
  injection h with ha hb
  refine ⟨h1,by rw [List.getD_eq_getElem?_getD,List.getElem?_eq_getElem h1];exact ha,hb,by rw [← ha];exact List.getElem_mem h1⟩
def Jj (b:Nat) (c:List (List Int)):Prop:=(1≤c.length∧c.length≤30)∧∀ g ∈ c,(b≤g.length∧g.length≤30)∧∀ x ∈ g,1≤x∧x≤500
open Classical in
noncomputable def Jh (c:List (List Int)) (B:Int×Int×List Sq×Bool):Int×Int×List Sq×Bool:=if B.2.2.2=true∧Bh B.2.2.1 B.2.2.1.length=c then B else (0,0,[],false)
open Classical in
noncomputable def Cw (c:List (List Int)):Int×Int×List Sq×Bool:=if Jj 1 c then Jh c (Dj (c.getD 0 []).sum c.flatten) else (0,0,[],false)
theorem Ki {W:Int} {T:List Int} (h:(Dj W T).2.2.2=true):Bz (Dj W T).1 (Dj W T).2.1 (Dj W T).2.2.1:=by
  unfold Dj G8 at *
  split at h
  · rename_i ho
    rw [if_pos ho]
    generalize Gr T (List.replicate W.toNat 0) []=R at h ⊢
    cases R with
    | none=>cases h
    | some p =>
      obtain ⟨F,l⟩:=p
      dsimp only at h ⊢
      split at h
      · rename_i hg
        rw [if_pos hg];exact hg
      · cases h
  · cases h
theorem codeV_bad {c:List (List Int)} (h:¬ Jj 1 c) (a0:1≤c.length∧c.length≤30) (hc:∀ g ∈ c,g.length≤30∧∀ x ∈ g,1≤x∧x≤500) (B:Int×Int×List Sq×Bool):Jh c B=(0,0,[],false):=by
  unfold Jh
  rw [if_neg]
  rintro ⟨_,e⟩
  refine h ⟨a0,fun g hg=>⟨⟨?_,(hc g hg).1⟩,(hc g hg).2⟩⟩
  rw [← e] at hg
  exact (E0 _ _ g hg).1
theorem Uf (c:List (List Int)):(Cw c).2.2.1.length≤30:=by
  unfold Cw Jh
  split
  · split
    · exact Qw _ _
    · simp
  · simp
theorem Rw {c:List (List Int)} (h:(Cw c).2.2.2=true):Bz (Cw c).1 (Cw c).2.1 (Cw c).2.2.1∧Bh (Cw c).2.2.1 (Cw c).2.2.1.length=c:=by
  unfold Cw Jh at *
  split at h
  · rename_i h1
    split at h
    · rename_i h2
      rw [if_pos h1,if_pos h2]
      exact ⟨Ki h2.1,h2.2⟩
    · cases h
  · cases h
theorem Ku:∀ g:List Int,(∀ x ∈ g,1≤x∧x≤500)→0≤g.sum∧g.sum≤500*(g.length:Int)
  | [],_=>by simp
  | x::g,h=>by
    obtain ⟨h1,h2⟩:=Ku g (fun y hy=>h y (List.mem_cons_of_mem _ hy))
    have:=h x List.mem_cons_self
    rw [List.sum_cons,List.length_cons];omega
theorem Nt (b:Nat):∀ c:List (List Int),(∀ g ∈ c,g.length≤b)→c.flatten.length≤c.length*b
  | [],_=>by simp
  | g::c,h=>by
    have h1:=Nt b c (fun y hy=>h y (List.mem_cons_of_mem _ hy))
    have h2:=h g List.mem_cons_self
    rw [List.flatten_cons,List.length_append,List.length_cons,Nat.add_mul];omega
theorem rdInt (l:List Int) (j:Nat):rd l (j:Int)=l.getD j 0:=by unfold rd;rw [Int.toNat_natCast]
theorem codeCut_zero (c:List (List Int)) (h:¬ (Cw c).2.2.2=true):Cw c=(0,0,[],false):=by
  unfold Cw Jh at *
  split at h
  · rename_i h1
    split at h
    · rename_i h2;exact absurd h2.1 h
    · rename_i h2;rw [if_pos h1,if_neg h2]
  · rename_i h1;rw [if_neg h1]

/-! the program -/
theorem sum_loop (g:List Int) (hg:g.length≤100000) (hx:∀ x ∈ g,1≤x∧x≤500):∀ (t:List Int) (i:Nat) (a:Int),g.drop i=t→i+t.length=g.length→0≤a→a+t.sum≤100000000→Ev (fun k=>Ee.l0 k a g (g.length:Int) (i:Int)) (a+t.sum):=by
  intro t
  induction t with
  | nil =>
    intro i a hd hi h0 h1
    simp only [List.length_nil] at hi
    refine Ev.succ ?_
    simp only [Ee.l0]
    exact Ev.neg (by omega) (Ev.eqr (Ev.now _) (by simp))
  | cons x t ih =>
    intro i a hd hi h0 h1
    obtain ⟨h2,h3,h4,h5⟩:=Gv g i x t hd 0
    have a0:=hx x h5
    have ht:0≤t.sum:=(Ku t (fun y hy=>hx y (by rw [← h4] at hy;exact List.mem_of_mem_drop hy))).1
    simp only [List.length_cons] at hi
    rw [List.sum_cons] at h1 ⊢
    refine Ev.succ ?_
    simp only [Ee.l0,rdInt,h3]
    refine Ev.pos (by omega) (Ev.pos (by omega) (Ev.pos (by omega) ?_))
    rw [Ai (n:=a+x) (by omega) (by omega),Ai (n:=(i:Int)+1) (by omega) (by omega)]
    exact Ev.eqr (ih (i+1) (a+x) h4 (by omega) (by omega) (by omega)) (by omega)
theorem sum_ev (g:List Int) (hg:g.length≤30) (hx:∀ x ∈ g,1≤x∧x≤500):Ev (fun k=>Ee.f k g) g.sum:=by
  unfold Ee.f
  have:=(Ku g hx).2
  exact Ev.eqr (sum_loop g (by omega) hx g 0 0 rfl (by omega) (by omega) (by omega)) (by omega)
theorem cat_l1 (c:List (List Int)) (hc:c.length≤1000) (hr:∀ g ∈ c,g.length≤1000):∀ (t:List (List Int)) (i:Nat) (a:List Int),c.drop i=t→i+t.length=c.length→a.length+t.length*1000≤100000000→Ev (fun k=>Ba.l1 k a c (c.length:Int) (i:Int)) (a++t.flatten):=by
  intro t
  induction t with
  | nil =>
    intro i a hd hi h
    simp only [List.length_nil] at hi
    refine Ev.succ ?_
    simp only [Ba.l1]
    exact Ev.neg (by omega) (Ev.eqr (Ev.now _) (by simp))
  | cons g t ih =>
    intro i a hd hi h
    obtain ⟨h2,h3,h4,h5⟩:=Gv c i g t hd []
    have hgl:=hr g h5
    simp only [List.length_cons] at hi h
    refine Ev.succ ?_
    simp only [Ba.l1,Im,h3]
    refine Ev.pos (by omega) (Ev.pos (by omega) (Ev.pos (by omega) (Ev.pos (by omega) ?_)))
    rw [Ai (n:=(i:Int)+1) (by omega) (by omega)]
    exact Ev.eqr (ih (i+1) (a++g) h4 (by omega) (by rw [List.length_append];omega)) (by simp)
theorem cat_l0 (c:List (List Int)) (hc:c.length≤1000) (hr:∀ g ∈ c,g.length≤1000):∀ (t:List (List Int)) (i:Nat) (a:Int),c.drop i=t→i+t.length=c.length→0≤a→a≤(i:Int)*1000→Ev (fun k=>Ba.l0 k c a c (c.length:Int) (i:Int)) c.flatten:=by
  intro t
  induction t with
  | nil =>
    intro i a hd hi h0 h1
    simp only [List.length_nil] at hi
    refine Ev.succ ?_
    simp only [Ba.l0]
    refine Ev.neg (by omega) (Ev.bindc (a:=[]) ?_ ?_)
    · unfold Eo.f
      rw [if_pos ⟨rfl,h0,by omega⟩]
    · exact Ev.eqr (cat_l1 c hc hr c 0 [] rfl (by omega) (by simp;omega)) (by simp)
  | cons g t ih =>
    intro i a hd hi h0 h1
    obtain ⟨h2,h3,h4,h5⟩:=Gv c i g t hd []
    have hgl:=hr g h5
    simp only [List.length_cons] at hi
    refine Ev.succ ?_
    simp only [Ba.l0,Im,h3]
    have e1:wrap64 (a+(g.length:Int))=a+(g.length:Int):=Ai (by omega) (by omega)
    rw [e1]
    clear e1
    refine Ev.pos (by omega) (Ev.pos (by omega) (Ev.pos (by omega) (Ev.neg (by omega) ?_)))
    rw [Ai (n:=(i:Int)+1) (by omega) (by omega)]
    exact ih (i+1) (a+(g.length:Int)) h4 (by omega) (by omega) (by omega)
theorem cat_ev (c:List (List Int)) (hc:c.length≤1000) (hr:∀ g ∈ c,g.length≤1000):Ev (fun k=>Ba.f k c) c.flatten:=by
  unfold Ba.f
  exact cat_l0 c hc hr c 0 0 rfl (by omega) (by omega) (by omega)
theorem eqL_loop (x y:List Int) (hl:x.length=y.length) (hx:x.length≤100000):∀ (t:List Int) (i:Nat),x.drop i=t→i+t.length=x.length→Ev (fun k=>Bw.l0 k x y (x.length:Int) (i:Int)) (decide (t=y.drop i)):=by
  intro t
  induction t with
  | nil =>
    intro i hd hi
    simp only [List.length_nil] at hi
    refine Ev.succ ?_
    simp only [Bw.l0]
    refine Ev.neg (by omega) (Ev.eqr (Ev.now _) (decide_eq_true ?_).symm)
    rw [List.drop_eq_nil_of_le (by omega)]
  | cons a t ih =>
    intro i hd hi
    obtain ⟨h2,h3,h4,h5⟩:=Gv x i a t hd 0
    simp only [List.length_cons] at hi
    have hy:i<y.length:=by omega
    have hyd:y.getD i 0=y[i]:=by rw [List.getD_eq_getElem?_getD,List.getElem?_eq_getElem hy];rfl
    refine Ev.succ ?_
    simp only [Bw.l0,rdInt,h3]
    refine Ev.pos (by omega) (Ev.pos (by omega) (Ev.pos (by omega) (Ev.pos (by omega) ?_)))
    rw [List.drop_eq_getElem_cons hy,hyd]
    by_cases e:a=y[i]
    · refine Ev.pos e ?_
      rw [Ai (n:=(i:Int)+1) (by omega) (by omega)]
      refine Ev.eqr (ih (i+1) h4 (by omega)) (decide_eq_decide.2 ?_)
      rw [e];exact ⟨fun h=>by rw [h],fun h=>by injection h⟩
    · exact Ev.neg e (Ev.eqr (Ev.now _) (decide_eq_false (fun h=>e (by injection h))).symm)
theorem eqL_ev (x y:List Int) (hx:x.length≤100000):Ev (fun k=>Bw.f k x y) (decide (x=y)):=by
  unfold Bw.f
  by_cases h:x.length=y.length
  · exact Ev.pos (by omega) (Ev.eqr (eqL_loop x y h hx x 0 rfl (by omega)) (by simp))
  · exact Ev.neg (by omega) (Ev.eqr (Ev.now _) (decide_eq_false (fun e=>h (by rw [e]))).symm)
theorem eqLL_loop (x y:List (List Int)) (hl:x.length=y.length) (hx:x.length≤100000) (hr:∀ g ∈ x,g.length≤100000):∀ (t:List (List Int)) (i:Nat),x.drop i=t→i+t.length=x.length→Ev (fun k=>Ar.l0 k y x (x.length:Int) (i:Int)) (decide (t=y.drop i)):=by
  intro t
  induction t with
  | nil =>
    intro i hd hi
    simp only [List.length_nil] at hi
    refine Ev.succ ?_
    simp only [Ar.l0]
    refine Ev.neg (by omega) (Ev.eqr (Ev.now _) (decide_eq_true ?_).symm)
    rw [List.drop_eq_nil_of_le (by omega)]
  | cons a t ih =>
    intro i hd hi
    obtain ⟨h2,h3,h4,h5⟩:=Gv x i a t hd []
    simp only [List.length_cons] at hi
    have hy:i<y.length:=by omega
    have hyd:y.getD i []=y[i]:=by rw [List.getD_eq_getElem?_getD,List.getElem?_eq_getElem hy];rfl
    refine Ev.succ ?_
    simp only [Ar.l0,Im,h3]
    refine Ev.pos (by omega) (Ev.pos (by omega) (Ev.pos (by omega) (Ev.pos (by omega) (Ev.bind (a:=decide (a=y[i])) ?_ ?_))))
    · unfold Eu.f
      rw [hyd]
      exact Ev.bind (eqL_ev a y[i] (hr a h5)) (Ev.now _)
    · rw [List.drop_eq_getElem_cons hy]
      by_cases e:a=y[i]
      · refine Ev.pos (decide_eq_true e) ?_
        rw [Ai (n:=(i:Int)+1) (by omega) (by omega)]
        refine Ev.eqr (ih (i+1) h4 (by omega)) (decide_eq_decide.2 ?_)
        rw [e];exact ⟨fun h=>by rw [h],fun h=>by injection h⟩
      · exact Ev.neg (by simpa using e) (Ev.eqr (Ev.now _) (decide_eq_false (fun h=>e (by injection h))).symm)
theorem Rx (x y:List (List Int)) (hx:x.length≤100000) (hr:∀ g ∈ x,g.length≤100000):Ev (fun k=>E4.f k x y) (decide (x=y)):=by
  unfold E4.f Ar.f
  refine Ev.bind (a:=decide (x=y)) ?_ (Ev.now _)
  by_cases h:x.length=y.length
  · exact Ev.pos (by omega) (Ev.eqr (eqLL_loop x y h hx hr x 0 rfl (by omega)) (by simp))
  · exact Ev.neg (by omega) (Ev.eqr (Ev.now _) (decide_eq_false (fun e=>h (by rw [e]))).symm)
def Kj (g:List Int):Prop:=g.length≤30∧∀ x ∈ g,1≤x∧x≤500
instance (g:List Int):Decidable (Kj g):=by unfold Kj;infer_instance
theorem grp_eq (g:List Int):Ed.f g=some (!decide (Kj g)):=by
  unfold Ed.f
  rw [areW_eq,Option.bind_some]
  by_cases h:∀ x ∈ g,1≤x∧x≤500
  · rw [if_pos (decide_eq_true h)]
    by_cases h2:g.length≤30
    · rw [decide_eq_false (show ¬ (g.length:Int)>30 by omega),decide_eq_true (show Kj g from ⟨h2,h⟩)];rfl
    · rw [decide_eq_true (show (g.length:Int)>30 by omega),decide_eq_false (show ¬ Kj g from fun z=>h2 z.1)];rfl
  · rw [if_neg (by simpa using h),decide_eq_false (show ¬ Kj g from fun z=>h z.2)];rfl
theorem grp_loop (c:List (List Int)) (hc:c.length≤1000):∀ (t:List (List Int)) (i:Nat),c.drop i=t→i+t.length=c.length→∃ q,Ev (fun k=>Ax.l0 k c (c.length:Int) (i:Int)) q∧(q≥0↔∃ g ∈ t,¬ Kj g):=by
  intro t
  induction t with
  | nil =>
    intro i hd hi
    simp only [List.length_nil] at hi
    refine ⟨-1,Ev.succ ?_,by simp⟩
    simp only [Ax.l0]
    exact Ev.neg (by omega) (Ev.now _)
  | cons g t ih =>
    intro i hd hi
    obtain ⟨h2,h3,h4,h5⟩:=Gv c i g t hd []
    simp only [List.length_cons] at hi
    by_cases e:Kj g
    · obtain ⟨q,hq,hiff⟩:=ih (i+1) h4 (by omega)
      refine ⟨q,Ev.succ ?_,by rw [hiff];simp [e]⟩
      simp only [Ax.l0,Im,h3]
      refine Ev.pos (by omega) (Ev.pos (by omega) (Ev.pos (by omega) (Ev.bindc (grp_eq g) (Ev.neg (by simpa using e) ?_))))
      rw [Ai (n:=(i:Int)+1) (by omega) (by omega)]
      exact hq
    · refine ⟨(i:Int),Ev.succ ?_,⟨fun _=>⟨g,List.mem_cons_self,e⟩,fun _=>by omega⟩⟩
      simp only [Ax.l0,Im,h3]
      exact Ev.pos (by omega) (Ev.pos (by omega) (Ev.pos (by omega) (Ev.bindc (grp_eq g) (Ev.pos (by simpa using e) (Ev.now _)))))
theorem Kf (c:List (List Int)):Ev (fun k=>Cl.f k c) (Cw c):=by
  have fall:¬ Jj 0 c→Ev (fun k=>Cl.j0 k c true) (Cw c):=fun h=>by
    unfold Cw
    rw [if_neg (fun z=>h ⟨z.1,fun g hg=>⟨⟨Nat.zero_le _,(z.2 g hg).1.2⟩,(z.2 g hg).2⟩⟩)]
    refine Ev.succ ?_
    simp only [Cl.j0]
    exact Ev.pos trivial (Ev.now _)
  unfold Cl.f
  refine Ev.bindc (Iy _ _ _) ?_
  by_cases c1:1≤(c.length:Int)∧(c.length:Int)≤30
  · rw [decide_eq_true c1]
    obtain ⟨q,hq,hiff⟩:=grp_loop c (by omega) c 0 rfl (by omega)
    refine Ev.pos rfl (Ev.bind (a:=decide (q≥0)) ?_ ?_)
    · unfold Ch.f Ax.f
      exact Ev.bind hq (Ev.now _)
    · by_cases c2:q≥0
      · rw [decide_eq_true c2]
        obtain ⟨g,hg,hn⟩:=hiff.1 c2
        exact fall (fun z=>hn ⟨(z.2 g hg).1.2,(z.2 g hg).2⟩)
      · rw [decide_eq_false c2]
        have hall:∀ g ∈ c,Kj g:=fun g hg=>Decidable.byContradiction fun hn=>c2 (hiff.2 ⟨g,hg,hn⟩)
        have h0:c.getD 0 [] ∈ c:=by
          rw [List.getD_eq_getElem?_getD,List.getElem?_eq_getElem (show 0<c.length by omega)]
          exact List.getElem_mem _
        refine Ev.succ ?_
        simp only [Cl.j0]
        refine Ev.neg (by simp) (Ev.pos (by omega) ?_)
        rw [show Az c 0=c.getD 0 [] from Im c 0]
        refine Ev.bind (sum_ev _ (hall _ h0).1 (hall _ h0).2) (Ev.bind (cat_ev c (by omega) (fun g hg=>by have:=(hall g hg).1;omega)) (Ev.bind (I1 _ _) ?_))
        have key:Cw c=Jh c (Dj (c.getD 0 []).sum c.flatten):=by
          unfold Cw
          by_cases hg:Jj 1 c
          · rw [if_pos hg]
          · rw [if_neg hg,codeV_bad hg (by omega) hall]
        rw [key]
        have hgood:=Ki (W:=(c.getD 0 []).sum) (T:=c.flatten)
        generalize Dj (c.getD 0 []).sum c.flatten=B at hgood ⊢
        obtain ⟨W,H,l,b⟩:=B
        dsimp only at hgood ⊢
        unfold Jh
        dsimp only
        cases b with
        | false=>exact Ev.neg (by decide) (Ev.eqr (Ev.now _) (by rw [if_neg (fun z=>by cases z.1)]))
        | true =>
          have hg:=hgood rfl
          have hl:=hg.2.2.1
          refine Ev.pos rfl (Ev.bind (I3 hg) (Ev.bind (Rx _ c (by have:=(Gh l l.length).1;omega) (fun g hg=>by have:=E0 l l.length g hg;omega)) ?_))
          by_cases e:Bh l l.length=c
          · rw [if_pos (show true=true∧Bh l l.length=c from ⟨rfl,e⟩)]
            exact Ev.pos (decide_eq_true e) (Ev.now _)
          · rw [if_neg (show ¬ (true=true∧Bh l l.length=c) from fun z=>e z.2)]
            exact Ev.neg (by simpa using e) (Ev.now _)
  · rw [decide_eq_false c1]
    exact Ev.neg (by decide) (fall (fun z=>c1 (by have:=z.1;omega)))

/-! the reference -/
theorem same_eq:∀ (k:Nat) (x y:List Int) (n i:Int),Du.l0 k x y n i=Bw.l0 k x y n i
  | 0,_,_,_,_=>rfl
  | k+1,x,y,n,i=>by simp only [Du.l0,Bw.l0,same_eq k]
theorem l1Same_ev (x y:List Int) (hx:x.length≤100000):Ev (fun k=>Du.f k x y) (decide (x=y)):=by
  have h:=eqL_ev x y hx
  unfold Du.f
  unfold Bw.f at h
  simp only [same_eq]
  exact h
theorem rows_loop (x y:List (List Int)) (hl:x.length=y.length) (hx:x.length≤100000) (hr:∀ g ∈ x,g.length≤100000):∀ (t:List (List Int)) (i:Nat),x.drop i=t→i+t.length=x.length→Ev (fun k=>Dm.l0 k y x (x.length:Int) (i:Int)) (decide (t=y.drop i)):=by
  intro t
  induction t with
  | nil =>
    intro i hd hi
    simp only [List.length_nil] at hi
    refine Ev.succ ?_
    simp only [Dm.l0]
    refine Ev.neg (by omega) (Ev.eqr (Ev.now _) (decide_eq_true ?_).symm)
    rw [List.drop_eq_nil_of_le (by omega)]
  | cons a t ih =>
    intro i hd hi
    obtain ⟨h2,h3,h4,h5⟩:=Gv x i a t hd []
    simp only [List.length_cons] at hi
    have hy:i<y.length:=by omega
    have hyd:y.getD i []=y[i]:=by rw [List.getD_eq_getElem?_getD,List.getElem?_eq_getElem hy];rfl
    refine Ev.succ ?_
    simp only [Dm.l0,Im,h3,hyd]
    refine Ev.pos (by omega) (Ev.pos (by omega) (Ev.pos (by omega) (Ev.pos (by omega) (Ev.bind (l1Same_ev a y[i] (hr a h5)) ?_))))
    rw [List.drop_eq_getElem_cons hy]
    by_cases e:a=y[i]
    · refine Ev.pos (decide_eq_true e) ?_
      rw [Ai (n:=(i:Int)+1) (by omega) (by omega)]
      refine Ev.eqr (ih (i+1) h4 (by omega)) (decide_eq_decide.2 ?_)
      rw [e];exact ⟨fun h=>by rw [h],fun h=>by injection h⟩
    · exact Ev.neg (by simpa using e) (Ev.eqr (Ev.now _) (decide_eq_false (fun h=>e (by injection h))).symm)
theorem rows_ev (x y:List (List Int)) (hx:x.length≤100000) (hr:∀ g ∈ x,g.length≤100000):Ev (fun k=>Dm.f k x y) (decide (x=y)):=by
  unfold Dm.f
  by_cases h:x.length=y.length
  · exact Ev.pos (by omega) (Ev.eqr (rows_loop x y h hx hr x 0 rfl (by omega)) (by simp))
  · exact Ev.neg (by omega) (Ev.eqr (Ev.now _) (decide_eq_false (fun e=>h (by rw [e]))).symm)
theorem Uv (c:List (List Int)) (hc:c.length≤1000) (hr:∀ g ∈ c,g.length≤1000):∀ (t:List (List Int)) (i:Nat) (a:List Int),c.drop i=t→i+t.length=c.length→a.length+t.length*1000≤100000000→Ev (fun k=>C3.l0 k a c (c.length:Int) (i:Int)) (a++t.flatten):=by
  intro t
  induction t with
  | nil =>
    intro i a hd hi h
    simp only [List.length_nil] at hi
    refine Ev.succ ?_
    simp only [C3.l0]
    exact Ev.neg (by omega) (Ev.eqr (Ev.now _) (by simp))
  | cons g t ih =>
    intro i a hd hi h
    obtain ⟨h2,h3,h4,h5⟩:=Gv c i g t hd []
    have hgl:=hr g h5
    simp only [List.length_cons] at hi h
    refine Ev.succ ?_
    simp only [C3.l0,Im,h3]
    refine Ev.pos (by omega) (Ev.pos (by omega) (Ev.pos (by omega) (Ev.pos (by omega) ?_)))
    rw [Ai (n:=(i:Int)+1) (by omega) (by omega)]
    exact Ev.eqr (ih (i+1) (a++g) h4 (by omega) (by rw [List.length_append];omega)) (by simp)
theorem Uw (c:List (List Int)) (hc:c.length≤1000) (hr:∀ g ∈ c,g.length≤1000):Ev (fun k=>C3.f k c) c.flatten:=by
  unfold C3.f
  exact Ev.eqr (Uv c hc hr c 0 [] rfl (by omega) (by simp;omega)) (by simp)
theorem bk_l1 (c : List (List Int)) (hok : Jj 1 c) : ∀ (t : List Int) (i : Nat) (a : Int), (c.getD 0 []).drop i = t → i + t.length = (c.getD 0 []).length → 0 ≤ a → a + t.sum = (c.getD 0 []).sum →
    Ev (fun k=>Cs.l1 k c a (c.getD 0 []) ((c.getD 0 []).length:Int) (i:Int)) (Cw c):=by
  have a1:=hok.1
  have h0:c.getD 0 [] ∈ c:=by
    rw [List.getD_eq_getElem?_getD,List.getElem?_eq_getElem (show 0<c.length by omega)]
    exact List.getElem_mem _
  obtain ⟨a2,a0⟩:=hok.2 _ h0
  intro t
  induction t with
  | nil =>
    intro i a hd hi ha hs
    simp only [List.length_nil] at hi
    simp only [List.sum_nil,Int.add_zero] at hs
    refine Ev.succ ?_
    simp only [Cs.l1]
    have fl:c.flatten.length≤c.length*30:=Nt 30 c (fun g hg=>(hok.2 g hg).1.2)
    refine Ev.neg (by omega) (Ev.bind (Uw c (by omega) (fun g hg=>by have:=(hok.2 g hg).1;omega)) ?_)
    rw [hs]
    refine Ev.bind (Mb _ _ (by omega)) ?_
    have key:Cw c=Jh c (Dj (c.getD 0 []).sum c.flatten):=by unfold Cw;rw [if_pos hok]
    rw [key]
    have hgood:=Ki (W:=(c.getD 0 []).sum) (T:=c.flatten)
    generalize Dj (c.getD 0 []).sum c.flatten=B at hgood ⊢
    obtain ⟨W,H,l,b⟩:=B
    dsimp only at hgood ⊢
    unfold Jh
    dsimp only
    cases b with
    | false=>exact Ev.neg (by decide) (Ev.eqr (Ev.now _) (by rw [if_neg (fun z=>by cases z.1)]))
    | true =>
      have hg:=hgood rfl
      have hl:=hg.2.2.1
      refine Ev.pos rfl (Ev.bind (I4 hg) (Ev.bind (rows_ev _ c (by have:=(Gh l l.length).1;omega) (fun g hg=>by have:=E0 l l.length g hg;omega)) ?_))
      by_cases e:Bh l l.length=c
      · rw [if_pos (show true=true∧Bh l l.length=c from ⟨rfl,e⟩)]
        exact Ev.pos (decide_eq_true e) (Ev.now _)
      · rw [if_neg (show ¬ (true=true∧Bh l l.length=c) from fun z=>e z.2)]
        exact Ev.neg (by simpa using e) (Ev.now _)
  | cons x t ih =>
    intro i a hd hi ha hs
    obtain ⟨h2,h3,h4,h5⟩:=Gv (c.getD 0 []) i x t hd 0
    have hx:=a0 x h5
    have ht:=(Ku t (fun y hy=>a0 y (by rw [← h4] at hy;exact List.mem_of_mem_drop hy))).1
    have hb:=(Ku _ a0).2
    simp only [List.length_cons] at hi
    rw [List.sum_cons] at hs
    refine Ev.succ ?_
    simp only [Cs.l1,rdInt,h3]
    refine Ev.pos (by omega) (Ev.pos (by omega) (Ev.pos (by omega) ?_))
    rw [Ai (n:=a+x) (by omega) (by omega),Ai (n:=(i:Int)+1) (by omega) (by omega)]
    exact ih (i+1) (a+x) h4 (by omega) (by omega) (by omega)
theorem bk_l0 (c : List (List Int)) (a0 : 1 ≤ c.length ∧ c.length ≤ 30) : ∀ (t : List (List Int)) (i : Nat) (d : List (List Int)), c = d ++ t → d.length = i → (∀ g ∈ d, (1 ≤ g.length ∧ g.length ≤ 30) ∧ ∀ x ∈ g, 1 ≤ x ∧ x ≤ 500) →
    Ev (fun k=>Cs.l0 k c (d.flatten.length:Int) c (c.length:Int) (i:Int)) (Cw c):=by
  intro t
  induction t with
  | nil =>
    intro i d hd hi h
    rw [List.append_nil] at hd
    subst hd
    have hok:Jj 1 c:=⟨a0,h⟩
    refine Ev.succ ?_
    simp only [Cs.l0]
    refine Ev.neg (by omega) ?_
    by_cases e:(c.flatten.length:Int)>30
    · refine Ev.pos e (Ev.eqr (Ev.now _) ?_)
      unfold Cw Jh Dj
      rw [if_pos hok,if_neg (show ¬ Jw (c.getD 0 []).sum c.flatten from fun z=>by have:=z.2.1;omega),if_neg (fun z=>by cases z.1)]
    · refine Ev.neg e (Ev.pos (by omega) ?_)
      rw [show Az c 0=c.getD 0 [] from Im c 0]
      exact bk_l1 c hok (c.getD 0 []) 0 0 rfl (by omega) (by omega) (by omega)
  | cons g t ih =>
    intro i d hd hi h
    have hdrop:c.drop i=g::t:=by rw [hd,← hi];simp
    obtain ⟨h2,h3,h4,h5⟩:=Gv c i g t hdrop []
    have no:¬ ((1≤g.length∧g.length≤30)∧∀ x ∈ g,1≤x∧x≤500)→Cw c=(0,0,[],false):=fun hn=>by
      unfold Cw;rw [if_neg (fun z=>hn (z.2 g h5))]
    have fl:d.flatten.length≤d.length*30:=Nt 30 d (fun g hg=>(h g hg).1.2)
    have dl:d.length≤30:=by rw [hd,List.length_append] at a0;omega
    refine Ev.succ ?_
    simp only [Cs.l0,Im,h3]
    refine Ev.pos (by omega) (Ev.pos (by omega) (Ev.pos (by omega) (Ev.bindc (G7 _ _ _) ?_)))
    by_cases c1:1≤(g.length:Int)∧(g.length:Int)≤30
    · rw [decide_eq_true c1]
      refine Ev.pos rfl (Ev.bind (a:=decide (∀ x ∈ g,1≤x∧x≤500)) ?_ ?_)
      · unfold Dh.f
        exact N6 1 500 g (by omega) g 0 rfl (by omega)
      · by_cases c2:∀ x ∈ g,1≤x∧x≤500
        · refine Ev.pos (decide_eq_true c2) ?_
          have:=ih (i+1) (d++[g]) (by rw [hd];simp) (by simp;omega) (fun y hy=>by
            rcases List.mem_append.1 hy with hy|hy
            · exact h y hy
            · rw [List.mem_singleton.1 hy];exact ⟨by omega,c2⟩)
          have e:((d++[g]).flatten.length:Int)=(d.flatten.length:Int)+(g.length:Int):=by simp
          rw [e] at this
          rw [Ai (n:=(d.flatten.length:Int)+(g.length:Int)) (by omega) (by omega),Ai (n:=(i:Int)+1) (by omega) (by omega)]
          exact this
        · exact Ev.neg (by simpa using c2) (Ev.eqr (Ev.now _) (no (fun z=>c2 z.2)).symm)
    · rw [decide_eq_false c1]
      exact Ev.neg (by decide) (Ev.eqr (Ev.now _) (no (fun z=>c1 (by omega))).symm)
theorem Ms (c:List (List Int)):Ev (fun k=>Cs.f k c) (Cw c):=by
  unfold Cs.f
  refine Ev.bindc (G7 _ _ _) ?_
  by_cases c1:1≤(c.length:Int)∧(c.length:Int)≤30
  · rw [decide_eq_true c1]
    exact Ev.pos rfl (bk_l0 c (by omega) c 0 [] rfl rfl (fun g hg=>by cases hg))
  · rw [decide_eq_false c1]
    refine Ev.neg (by decide) (Ev.eqr (Ev.now _) ?_)
    unfold Cw;rw [if_neg (fun z=>c1 (by have:=z.1;omega))]

/-! ### the sides -/
theorem N7 (l : List Sq) (hl : l.length ≤ 10000) : ∀ (d i : Nat), l.length - i = d → i ≤ l.length →
    Ev (fun k=>Ds.l0 k ((l.take i).map (fun s=>s.f2)) l (l.length:Int) (i:Int)) (l.map fun s=>s.f2):=by
  intro d
  induction d with
  | zero =>
    intro i hd hi
    obtain rfl:i=l.length:=by omega
    refine Ev.succ ?_
    simp only [Ds.l0]
    exact Ev.neg (by omega) (Ev.eqr (Ev.now _) (by rw [List.take_length]))
  | succ d ih =>
    intro i hd hi
    have hlt:i<l.length:=by omega
    refine Ev.succ ?_
    simp only [Ds.l0,Ef]
    refine Ev.pos (by omega) (Ev.pos (by omega) (Ev.pos (by omega) (Ev.pos (by rw [List.length_map,List.length_take];omega) ?_)))
    rw [Ai (by omega) (by omega)]
    have e:(l.take i).map (fun s=>s.f2)++[(Aj l i).f2]=(l.take (i+1)).map (fun s=>s.f2):=by
      rw [List.take_succ_eq_append_getElem hlt,List.map_append,Ci l i hlt];rfl
    rw [e]
    exact ih (i+1) (by omega) (by omega)
theorem Q7 (l:List Sq) (hl:l.length≤10000):Ev (fun k=>Ds.f k l) (l.map fun s=>s.f2):=by
  unfold Ds.f
  exact N7 l hl l.length 0 (by omega) (Nat.zero_le _)
theorem K0 (W H:Int) (l:List Sq):Ev (fun k=>Ga.f k W H l) (if Bz W H l then (l.map (fun s=>s.f2),true) else ([],false)):=by
  unfold Ga.f
  refine Ev.bind (Gb W H l) ?_
  by_cases h:Bz W H l
  · rw [if_pos h]
    exact Ev.pos (decide_eq_true h) (Ev.bind (Q7 l (by have:=h.2.2.1;omega)) (Ev.now _))
  · rw [if_neg h]
    exact Ev.neg (by simpa using h) (Ev.now _)

end Go.Proofs.YtgeahghdikdamaaGreat.Pure
