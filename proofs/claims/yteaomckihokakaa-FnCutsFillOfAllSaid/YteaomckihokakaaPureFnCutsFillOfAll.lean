/- Squares of cuts fill their rectangle just once, squares are beside each other both ways, and sides and crosses are told, whatever is given. -/
import Derived.Test.YteaomckihokakaaPFnCutsFillOfAllx22
import Derived.Test.YteaomckihokakaaPFnCutsFillOfAllx0
import Derived.Test.YteaomckihokakaaPFnCutsFillOfAllx1
import Derived.Test.YteaomckihokakaaPFnCutsFillOfAllx2
import Derived.Test.YteaomckihokakaaPFnCutsFillOfAllx3
import Derived.Test.YteaomckihokakaaPFnCutsFillOfAllx4
import Derived.Test.YteaomckihokakaaPFnCutsFillOfAllx5
import Derived.Test.YteaomckihokakaaPFnCutsFillOfAllx6
import Derived.Test.YteaomckihokakaaPFnCutsFillOfAllx7
import Derived.Test.YteaomckihokakaaPFnCutsFillOfAllx8
import Derived.Test.YteaomckihokakaaPFnCutsFillOfAllx9
import Derived.Test.YteaomckihokakaaPFnCutsFillOfAllx10
import Derived.Test.YteaomckihokakaaPFnCutsFillOfAllx11
import Derived.Test.YteaomckihokakaaPFnCutsFillOfAllx12
import Derived.Test.YteaomckihokakaaPFnCutsFillOfAllx13
import Derived.Test.YteaomckihokakaaPFnCutsFillOfAllx14
import Derived.Test.YteaomckihokakaaPFnCutsFillOfAllx15
import Derived.Test.YteaomckihokakaaPFnCutsFillOfAllx16
import Derived.Test.YteaomckihokakaaPFnCutsFillOfAllx17
import Derived.Test.YteaomckihokakaaPFnCutsFillOfAllx18
import Derived.Test.YteaomckihokakaaPFnCutsFillOfAllx19
import Derived.Test.YteaomckihokakaaPFnCutsFillOfAllx20
import Derived.Test.YteaomckihokakaaPFnCutsFillOfAllx21
import Derived.Test.YteaomckihokakaaWGuardMoreInvWords
namespace Go.Proofs.Yteaomckihokakaa.Pure
open Go.RowKit Go.Proofs.Yteaomckihokakaa.PFnCutsFillOfAll Go.Proofs.YteaomckihokakaaW.PrintWords Go.Proofs.YteaomckihokakaaW.PrintLast Go.Proofs.YteaomckihokakaaW.PrintMore Go.Proofs.YteaomckihokakaaW.Evs
set_option linter.unusedVariables false
set_option linter.unusedSimpArgs false
/-! ### a cut: what the program's IsCut and the reference's cuGood answer -/
abbrev Sq:=S61
def Ad (l:List Sq) (j:Nat):Sq:=l.getD j z61
theorem Dg (l:List Sq) (j:Nat):Aa l (j:Int)=Ad l j:=by unfold Aa Ad;rw [Int.toNat_natCast]
theorem Bx (l:List Sq) (j:Nat) (h:j<l.length):Ad l j=l[j]:=by unfold Ad;simp [List.getD,h]
theorem Er (l:List Sq) (j:Nat) (h:j<l.length):Ad l j ∈ l:=by rw [Bx l j h];exact List.getElem_mem h
/-- a square lies in the rectangle -/
def Ins (W H:Int) (s:Sq):Prop:=1≤s.f2∧0≤s.f0∧s.f0+s.f2≤W∧0≤s.f1∧s.f1+s.f2≤H
instance (W H:Int) (s:Sq):Decidable (Ins W H s):=by unfold Ins;infer_instance
def Ee (a b:Sq):Prop:=a.f1<b.f1∨a.f1=b.f1∧a.f0<b.f0
instance (a b:Sq):Decidable (Ee a b):=by unfold Ee;infer_instance
def Ovl (a b:Sq):Prop:=a.f0<b.f0+b.f2∧b.f0<a.f0+a.f2∧a.f1<b.f1+b.f2∧b.f1<a.f1+a.f2
instance (a b:Sq):Decidable (Ovl a b):=by unfold Ovl;infer_instance
def Gk (W H:Int) (l:List Sq) (i:Nat):Prop:=Ins W H (Ad l i)∧(0<i→Ee (Ad l (i-1)) (Ad l i))∧∀ j,j<i→¬ Ovl (Ad l i) (Ad l j)
instance (W H:Int) (l:List Sq) (i:Nat):Decidable (Gk W H l i):=by unfold Gk;infer_instance
def Dk (l:List Sq):Nat→Int
  | 0=>0
  | n+1=>Dk l n+(Ad l n).f2*(Ad l n).f2
/-- a width, a height and squares are a cut -/
def Bq (W H:Int) (l:List Sq):Prop:=(1≤W∧W≤500)∧(1≤H∧H≤500)∧(1≤l.length∧l.length≤30)∧(∀ i,i<l.length→Gk W H l i)∧Dk l l.length=W*H
instance (W H:Int) (l:List Sq):Decidable (Bq W H l):=by unfold Bq;infer_instance

theorem Gf (a b c:Int):Bw.f a b c=some (decide (b≤a∧a≤c)):=by
  unfold Bw.f
  by_cases h:b≤a
  · rw [if_pos h];simp [h]
  · rw [if_neg h];simp [h]
theorem Nk (a:Int):Ds.f a=some (decide (1≤a∧a≤500)):=by
  unfold Ds.f;rw [Gf];rfl
theorem E3 (a b c:Int):Bm.f a b c=some (decide (b≤a∧a≤c)):=by
  unfold Bm.f
  by_cases h:b≤a
  · rw [if_pos h];simp [h]
  · rw [if_neg h];simp [h]
theorem G4 (W H:Int) (l:List Sq) (hW:W≤500) (hH:H≤500):∀ n,n≤30→(∀ m,m<n→Ins W H (Ad l m))→0≤Dk l n∧Dk l n≤n*250000
  | 0,_,_=>by simp [Dk]
  | n+1,hn,h=>by
    obtain ⟨h1,h2⟩:=G4 W H l hW hH n (by omega) (fun m hm=>h m (by omega))
    have hi:=h n (by omega)
    unfold Ins at hi
    have q1:0≤(Ad l n).f2*(Ad l n).f2:=Int.mul_nonneg (by omega) (by omega)
    have q2:(Ad l n).f2*(Ad l n).f2≤500*500:=Int.mul_le_mul (by omega) (by omega) (by omega) (by omega)
    simp only [Dk]
    omega
theorem sq_bd {W H:Int} {s:Sq} (hW:W≤500) (hH:H≤500) (h:Ins W H s):0≤s.f2*s.f2∧s.f2*s.f2≤250000:=by
  unfold Ins at h
  have q1:0≤s.f2*s.f2:=Int.mul_nonneg (by omega) (by omega)
  have q2:s.f2*s.f2≤500*500:=Int.mul_le_mul (by omega) (by omega) (by omega) (by omega)
  omega

theorem Q5 {W H : Int} {a b : Sq} (hW : W ≤ 500) (hH : H ≤ 500) (ha : Ins W H a) (hb : Ins W H b) :
    ∃ c,Az.f a.f0 a.f1 a.f2 b.f0 b.f1 b.f2=some c∧(c<0↔Ee a b):=by
  unfold Ins at ha hb
  unfold Az.f Ee
  by_cases e:a.f1=b.f1
  · rw [if_pos e];exact ⟨_,rfl,by rw [Af (by omega) (by omega)];omega⟩
  · rw [if_neg e];exact ⟨_,rfl,by rw [Af (by omega) (by omega)];omega⟩
theorem Jx {W H : Int} {a b : Sq} (hW : W ≤ 500) (hH : H ≤ 500) (ha : Ins W H a) (hb : Ins W H b) :
    Cl.f a.f0 a.f1 a.f2 b.f0 b.f1 b.f2=some (decide (Ovl a b)):=by
  unfold Ins at ha hb
  unfold Cl.f Ovl
  rw [Af (by omega) (by omega),Af (by omega) (by omega),Af (by omega) (by omega),Af (by omega) (by omega)]
  by_cases h1:a.f0<b.f0+b.f2
  · by_cases h2:b.f0<a.f0+a.f2
    · by_cases h3:a.f1<b.f1+b.f2
      · simp [h1,h2,h3]
      · simp [h1,h2,h3]
    · simp [h1,h2]
  · simp [h1]
theorem M4 (a b:Sq):Dt.f a.f0 a.f1 a.f2 b.f0 b.f1 b.f2=some (decide (Ee a b)):=by
  unfold Dt.f Ee
  by_cases h1:a.f1<b.f1
  · rw [if_pos h1];simp [h1]
  · rw [if_neg h1]
    by_cases h2:a.f1=b.f1
    · rw [if_pos h2];simp [h2]
    · rw [if_neg h2];simp [h1,h2]

/-! the program's own -/
theorem Qx {W H : Int} {l : List Sq} (hW : W ≤ 500) (hH : H ≤ 500) (i : Nat) (hi : i < l.length) (h : ∀ m, m ≤ i → Ins W H (Ad l m)) :
    Ai.f (l.take i) (Ad l i).f0 (Ad l i).f1 (Ad l i).f2=some (decide (∃ j,j<i∧Ovl (Ad l i) (Ad l j))):=by
  unfold Ai.f
  congr 1
  rw [Bool.eq_iff_iff,List.any_eq_true,decide_eq_true_eq]
  constructor
  · rintro ⟨t,ht,hp⟩
    obtain ⟨j,hj⟩:=List.getElem?_of_mem ht
    have hj1:j<(l.take i).length:=(List.getElem?_eq_some_iff.1 hj).1
    have hj2:j<i:=by simp at hj1;omega
    have e:t=Ad l j:=by
      rw [List.getElem?_take_of_lt hj2,List.getElem?_eq_getElem (by omega)] at hj
      rw [Bx l j (by omega)];exact (Option.some.inj hj).symm
    subst e
    rw [Jx hW hH (h i (Nat.le_refl _)) (h j (by omega))] at hp
    exact ⟨j,hj2,by simpa using hp⟩
  · rintro ⟨j,hj,ho⟩
    refine ⟨Ad l j,?_,?_⟩
    · rw [Bx l j (by omega)]
      exact List.mem_take_iff_getElem.2 ⟨j,by omega,rfl⟩
    · rw [Jx hW hH (h i (Nat.le_refl _)) (h j (by omega))];simpa using ho

theorem K2 (W H:Int) (l:List Sq) (i:Nat):(∀ m,i≤m→m<l.length→Gk W H l m)↔(i<l.length→Gk W H l i)∧(∀ m,i+1≤m→m<l.length→Gk W H l m) :=
  ⟨fun h=>⟨fun hi=>h i (Nat.le_refl _) hi,fun m h1 h2=>h m (by omega) h2⟩,fun ⟨h1,h2⟩ m h3 h4=>by
    by_cases e:i=m
    · subst e;exact h1 h4
    · exact h2 m (by omega) h4⟩

theorem impl_loop {W H : Int} {l : List Sq} (hW : 1 ≤ W ∧ W ≤ 500) (hH : 1 ≤ H ∧ H ≤ 500) (hl : l.length ≤ 30) : ∀ (d i : Nat), l.length - i = d → i ≤ l.length → (∀ m, m < i → Gk W H l m) →
    ∀ r:Bool,(r=true↔(∀ m,i≤m→m<l.length→Gk W H l m)∧Dk l l.length=W*H)→Ev (fun k=>Aj.l0 k (Dk l i) l (l.length:Int) (i:Int) W H l) r:=by
  intro d
  induction d with
  | zero =>
    intro i hd hi hok r hr
    obtain rfl:i=l.length:=by omega
    have bd:=G4 W H l hW.2 hH.2 l.length hl (fun m hm=>(hok m hm).1)
    have w1:W*H≤500*500:=Int.mul_le_mul (by omega) (by omega) (by omega) (by omega)
    have w0:0≤W*H:=Int.mul_nonneg (by omega) (by omega)
    refine Ev.succ ?_
    simp only [Aj.l0]
    refine Ev.neg (by omega) ?_
    rw [Af (by omega) (by omega)]
    refine Ev.eqr (Ev.now _) ?_
    rw [Bool.eq_iff_iff,hr,beq_iff_eq]
    exact ⟨fun h=>⟨fun m h1 h2=>by omega,h⟩,fun h=>h.2⟩
  | succ d ih =>
    intro i hd hi hok r hr
    have hlt:i<l.length:=by omega
    rw [K2] at hr
    refine Ev.succ ?_
    simp only [Aj.l0,Dg]
    refine Ev.pos (by omega) (Ev.pos (by omega) (Ev.pos (by omega) ?_))
    have hmn:mn W H≤500:=by unfold mn;split <;> omega
    have fall:∀ r:Bool,r=false→Ev (fun k=>Aj.j2 k (Dk l i) (i:Int) l (l.length:Int) (i:Int) true W H l (Ad l i).f0 (Ad l i).f1 (Ad l i).f2) r:=by
      rintro _ rfl
      refine Ev.succ ?_
      simp only [Aj.j2]
      exact Ev.pos trivial (Ev.now _)
    have rf:¬ Gk W H l i→r=false:=fun h=>by
      cases hq:r with
      | false=>rfl
      | true=>exact absurd ((hr.1 hq).1.1 hlt) h
    have mnle:mn W H≤W∧mn W H≤H∧(mn W H=W∨mn W H=H):=by unfold mn;split <;> omega
    refine Ev.bindc (Gf _ _ _) ?_
    by_cases c1:1≤(Ad l i).f2∧(Ad l i).f2≤mn W H
    · rw [decide_eq_true c1]
      refine Ev.pos rfl (Ev.bindc (Gf _ _ _) ?_)
      rw [Af (by omega) (by omega)]
      by_cases c2:0≤(Ad l i).f0∧(Ad l i).f0≤W-(Ad l i).f2
      · rw [decide_eq_true c2]
        refine Ev.pos rfl (Ev.bindc (Gf _ _ _) ?_)
        rw [Af (by omega) (by omega)]
        by_cases c3:0≤(Ad l i).f1∧(Ad l i).f1≤H-(Ad l i).f2
        · rw [decide_eq_true c3]
          have hins:Ins W H (Ad l i):=by unfold Ins;omega
          have hall:∀ m,m≤i→Ins W H (Ad l m):=fun m hm=>by
            by_cases e:m=i
            · rw [e];exact hins
            · exact (hok m (by omega)).1
          refine Ev.succ ?_
          simp only [Aj.j2,Bool.not_true]
          refine Ev.neg (by decide) ?_
          have bd:=G4 W H l hW.2 hH.2 i (by omega) (fun m hm=>hall m (by omega))
          have qb:=sq_bd hW.2 hH.2 hins
          have tn:((i:Int)).toNat=i:=Int.toNat_natCast i
          have next:(∀ j,j<i→¬ Ovl (Ad l i) (Ad l j))→(0<i→Ee (Ad l (i-1)) (Ad l i))→Ev (fun k=>Aj.l0 k (wrap64 (Dk l i+wrap64 ((Ad l i).f2*(Ad l i).f2))) l (l.length:Int) (wrap64 ((i:Int)+1)) W H l) r:=by
            intro ho hlss
            have hk:Gk W H l i:=⟨hins,hlss,ho⟩
            rw [Af (n:=(Ad l i).f2*(Ad l i).f2) (by omega) (by omega),Af (n:=Dk l i+(Ad l i).f2*(Ad l i).f2) (by omega) (by omega),Af (n:=(i:Int)+1) (by omega) (by omega)]
            have:=ih (i+1) (by omega) (by omega) (fun m hm=>by
              by_cases e:m=i
              · rw [e];exact hk
              · exact hok m (by omega)) r (by rw [hr];exact ⟨fun h=>⟨h.1.2,h.2⟩,fun h=>⟨⟨fun _=>hk,h.1⟩,h.2⟩⟩)
            exact this
          have cont:(0<i→Ee (Ad l (i-1)) (Ad l i))→Ev (fun k=>if 0≤(i:Int) then if (i:Int)≤(l.length:Int) then (Ai.f (l.take ((i:Int)).toNat) (Ad l i).f0 (Ad l i).f1 (Ad l i).f2).bind fun t=>if t=true then some false else Aj.l0 k (wrap64 (Dk l i+wrap64 ((Ad l i).f2*(Ad l i).f2))) l (l.length:Int) (wrap64 ((i:Int)+1)) W H l else none else none) r:=by
            intro hlss
            refine Ev.pos (by omega) (Ev.pos (by omega) ?_)
            rw [tn]
            refine Ev.bindc (Qx hW.2 hH.2 i hlt hall) ?_
            by_cases ho:∃ j,j<i∧Ovl (Ad l i) (Ad l j)
            · rw [decide_eq_true ho]
              refine Ev.pos rfl (Ev.eqr (Ev.now _) (rf fun hk=>?_).symm)
              obtain ⟨j,hj,hq⟩:=ho
              exact hk.2.2 j hj hq
            · rw [decide_eq_false ho]
              exact Ev.neg (by decide) (next (fun j hj hq=>ho ⟨j,hj,hq⟩) hlss)
          by_cases hi0:(i:Int)>0
          · refine Ev.pos hi0 ?_
            have e1:wrap64 ((i:Int)-1)=((i-1:Nat):Int):=by rw [Af (by omega) (by omega)];omega
            simp only [e1,Dg]
            refine Ev.pos (by omega) (Ev.pos (by omega) ?_)
            obtain ⟨c,hc,hcl⟩:=Q5 hW.2 hH.2 (hall (i-1) (by omega)) hins
            refine Ev.bindc hc ?_
            by_cases c4:c≥0
            · refine Ev.pos c4 (Ev.eqr (Ev.now _) (rf fun hk=>?_).symm)
              have:=hcl.2 (hk.2.1 (by omega))
              omega
            · exact Ev.neg c4 (cont fun _=>hcl.1 (by omega))
          · exact Ev.neg hi0 (cont fun h=>by omega)
        · rw [decide_eq_false c3]
          exact fall _ (rf fun h=>c3 (by have:=h.1;unfold Ins at this;omega))
      · rw [decide_eq_false c2]
        exact Ev.neg (by decide) (fall _ (rf fun h=>c2 (by have:=h.1;unfold Ins at this;omega)))
    · rw [decide_eq_false c1]
      refine Ev.neg (by decide) (fall _ (rf fun h=>c1 ?_))
      have:=h.1
      unfold Ins at this
      rcases mnle.2.2 with e|e <;> omega

theorem C0 (W H:Int) (l:List Sq):Ev (fun k=>Aj.f k W H l) (decide (Bq W H l)):=by
  unfold Aj.f
  have fall:∀ r:Bool,r=false→Ev (fun k=>Aj.j0 k true W H l) r:=by
    rintro _ rfl
    refine Ev.succ ?_
    simp only [Aj.j0]
    exact Ev.pos trivial (Ev.now _)
  refine Ev.bindc (Nk _) ?_
  by_cases c1:1≤W∧W≤500
  · rw [decide_eq_true c1]
    refine Ev.pos rfl (Ev.bindc (Nk _) ?_)
    by_cases c2:1≤H∧H≤500
    · rw [decide_eq_true c2]
      refine Ev.pos rfl ?_
      by_cases c3:(l.length:Int)>30
      · rw [decide_eq_true c3]
        exact fall _ (decide_eq_false fun h=>by have:=h.2.2.1;omega)
      · rw [decide_eq_false c3]
        refine Ev.succ ?_
        simp only [Aj.j0]
        refine Ev.neg (by decide) ?_
        have:=impl_loop (l:=l) c1 c2 (by omega) l.length 0 (by omega) (Nat.zero_le _) (fun m hm=>by omega) (decide (Bq W H l)) ?_
        · exact this
        · rw [decide_eq_true_eq]
          constructor
          · intro h;exact ⟨fun m _ h2=>h.2.2.2.1 m h2,h.2.2.2.2⟩
          · intro h
            refine ⟨c1,c2,⟨?_,(by omega:l.length≤30)⟩,fun m hm=>h.1 m (Nat.zero_le _) hm,h.2⟩
            cases hl:l with
            | nil =>
              subst hl
              have e:(0:Int)=W*H:=h.2
              have:0<W*H:=Int.mul_pos (by omega) (by omega)
              omega
            | cons a t=>simp
    · rw [decide_eq_false c2]
      exact Ev.neg (by decide) (fall _ (decide_eq_false fun h=>c2 h.2.1))
  · rw [decide_eq_false c1]
    exact Ev.neg (by decide) (fall _ (decide_eq_false fun h=>c1 h.1))

/-! the reference's own -/
/-- what the inner loop of the reference asks of the squares from place j on -/
def G5 (l:List Sq) (i j:Nat):Prop:=∀ m,j≤m→m<i→¬ Ovl (Ad l i) (Ad l m)∧(m+1=i→Ee (Ad l m) (Ad l i))
theorem Q6 (l:List Sq) (i j:Nat) (h:j<i):G5 l i j↔(¬ Ovl (Ad l i) (Ad l j)∧(j+1=i→Ee (Ad l j) (Ad l i)))∧G5 l i (j+1) :=
  ⟨fun h1=>⟨h1 j (Nat.le_refl _) h,fun m h2 h3=>h1 m (by omega) h3⟩,fun ⟨h1,h2⟩ m h3 h4=>by
    by_cases e:j=m
    · subst e;exact h1
    · exact h2 m (by omega) h4⟩
theorem inner_ok (W H:Int) (l:List Sq) (i:Nat):Gk W H l i↔Ins W H (Ad l i)∧G5 l i 0:=by
  unfold Gk G5
  constructor
  · rintro ⟨h1,h2,h3⟩
    refine ⟨h1,fun m _ hm=>⟨h3 m hm,fun e=>?_⟩⟩
    have:=h2 (by omega)
    rw [show i-1=m by omega] at this
    exact this
  · rintro ⟨h1,h2⟩
    exact ⟨h1,fun hi=>(h2 (i-1) (Nat.zero_le _) (by omega)).2 (by omega),fun j hj=>(h2 j (Nat.zero_le _) hj).1⟩

theorem Q7 {W H : Int} {l : List Sq} (hW : 1 ≤ W ∧ W ≤ 500) (hH : 1 ≤ H ∧ H ≤ 500) (hl : l.length ≤ 30) (i : Nat) (hi : i < l.length) (hall : ∀ m, m ≤ i → Ins W H (Ad l m)) (A : Int) (r : Bool)
    (hgood:G5 l i 0→Ev (fun k=>Al.l0 k A l (l.length:Int) ((i:Int)+1) W H l) r) (hbad:¬ G5 l i 0→r=false) :
    ∀ (d j:Nat),i-j=d→j≤i→(G5 l i j↔G5 l i 0) →
      Ev (fun k=>Al.l1 k A (i:Int) l (l.length:Int) (i:Int) (l.take i) (i:Int) (j:Int) W H l (Ad l i).f0 (Ad l i).f1 (Ad l i).f2) r:=by
  intro d
  induction d with
  | zero =>
    intro j hd hj hiff
    obtain rfl:j=i:=by omega
    refine Ev.succ ?_
    simp only [Al.l1]
    refine Ev.neg (by omega) ?_
    rw [Af (by omega) (by omega)]
    exact hgood (hiff.1 fun m h1 h2=>by omega)
  | succ d ih =>
    intro j hd hj hiff
    have hlt:j<i:=by omega
    have tk:(l.take i).length=i:=by rw [List.length_take];omega
    have et:Ad (l.take i) j=Ad l j:=by
      rw [Bx _ _ (by omega),Bx _ _ (by omega),List.getElem_take]
    rw [Q6 l i j hlt] at hiff
    refine Ev.succ ?_
    simp only [Al.l1,Dg,et,tk]
    refine Ev.pos (by omega) (Ev.pos (by omega) (Ev.pos (by omega) ?_))
    have a:=hall i (Nat.le_refl _)
    have b:=hall j (by omega)
    have j4:∀ b:Bool,b=decide (Ovl (Ad l i) (Ad l j))→Ev (fun k=>Al.j4 k A (i:Int) (j:Int) l (l.length:Int) (i:Int) (l.take i) (i:Int) (j:Int) b W H l (Ad l i).f0 (Ad l i).f1 (Ad l i).f2 (Ad l j).f0 (Ad l j).f1 (Ad l j).f2) r:=by
      rintro b rfl
      refine Ev.succ ?_
      simp only [Al.j4]
      by_cases ho:Ovl (Ad l i) (Ad l j)
      · exact Ev.pos (decide_eq_true ho) (Ev.eqr (Ev.now _) (hbad fun h=>(hiff.2 h).1.1 ho).symm)
      · refine Ev.neg (by simpa using ho) ?_
        have e1:wrap64 ((i:Int)-1)=(i:Int)-1:=Af (by omega) (by omega)
        have e2:wrap64 ((j:Int)+1)=((j+1:Nat):Int):=by rw [Af (by omega) (by omega)];omega
        rw [e1,e2]
        by_cases hj1:j+1=i
        · refine Ev.pos (by omega) (Ev.bindc (M4 _ _) ?_)
          by_cases hls:Ee (Ad l j) (Ad l i)
          · exact Ev.pos (decide_eq_true hls) (ih (j+1) (by omega) (by omega) ⟨fun h=>hiff.1 ⟨⟨ho,fun _=>hls⟩,h⟩,fun h=>(hiff.2 h).2⟩)
          · exact Ev.neg (by simpa using hls) (Ev.eqr (Ev.now _) (hbad fun h=>hls ((hiff.2 h).1.2 hj1)).symm)
        · exact Ev.neg (by omega) (ih (j+1) (by omega) (by omega) ⟨fun h=>hiff.1 ⟨⟨ho,fun e=>absurd e hj1⟩,h⟩,fun h=>(hiff.2 h).2⟩)
    unfold Ins at a b
    rw [Af (n:=(Ad l j).f0+(Ad l j).f2) (by omega) (by omega),Af (n:=(Ad l i).f0+(Ad l i).f2) (by omega) (by omega),Af (n:=(Ad l j).f1+(Ad l j).f2) (by omega) (by omega),Af (n:=(Ad l i).f1+(Ad l i).f2) (by omega) (by omega)]
    by_cases c1:(Ad l i).f0<(Ad l j).f0+(Ad l j).f2
    · refine Ev.pos c1 ?_
      by_cases c2:(Ad l j).f0<(Ad l i).f0+(Ad l i).f2
      · refine Ev.pos c2 ?_
        by_cases c3:(Ad l i).f1<(Ad l j).f1+(Ad l j).f2
        · refine Ev.pos c3 (j4 _ ?_)
          unfold Ovl
          simp [c1,c2,c3]
        · exact Ev.neg c3 (j4 _ (decide_eq_false fun h=>c3 h.2.2.1).symm)
      · exact Ev.neg c2 (j4 _ (decide_eq_false fun h=>c2 h.2.1).symm)
    · exact Ev.neg c1 (j4 _ (decide_eq_false fun h=>c1 h.1).symm)

theorem spec_loop {W H : Int} {l : List Sq} (hW : 1 ≤ W ∧ W ≤ 500) (hH : 1 ≤ H ∧ H ≤ 500) (hl : l.length ≤ 30) : ∀ (d i : Nat), l.length - i = d → i ≤ l.length → (∀ m, m < i → Gk W H l m) →
    ∀ r:Bool,(r=true↔(∀ m,i≤m→m<l.length→Gk W H l m)∧Dk l l.length=W*H)→Ev (fun k=>Al.l0 k (Dk l i) l (l.length:Int) (i:Int) W H l) r:=by
  intro d
  induction d with
  | zero =>
    intro i hd hi hok r hr
    obtain rfl:i=l.length:=by omega
    have bd:=G4 W H l hW.2 hH.2 l.length hl (fun m hm=>(hok m hm).1)
    have w1:W*H≤500*500:=Int.mul_le_mul (by omega) (by omega) (by omega) (by omega)
    have w0:0≤W*H:=Int.mul_nonneg (by omega) (by omega)
    refine Ev.succ ?_
    simp only [Al.l0]
    refine Ev.neg (by omega) ?_
    rw [Af (by omega) (by omega)]
    refine Ev.eqr (Ev.now _) ?_
    rw [Bool.eq_iff_iff,hr,beq_iff_eq]
    exact ⟨fun h=>⟨fun m h1 h2=>by omega,h⟩,fun h=>h.2⟩
  | succ d ih =>
    intro i hd hi hok r hr
    have hlt:i<l.length:=by omega
    rw [K2] at hr
    refine Ev.succ ?_
    simp only [Al.l0,Dg]
    refine Ev.pos (by omega) (Ev.pos (by omega) (Ev.pos (by omega) ?_))
    have fall:∀ r:Bool,r=false→Ev (fun k=>Al.j2 k (Dk l i) (i:Int) l (l.length:Int) (i:Int) true W H l (Ad l i).f0 (Ad l i).f1 (Ad l i).f2) r:=by
      rintro _ rfl
      refine Ev.succ ?_
      simp only [Al.j2]
      exact Ev.pos trivial (Ev.now _)
    have rf:¬ Gk W H l i→r=false:=fun h=>by
      cases hq:r with
      | false=>rfl
      | true=>exact absurd ((hr.1 hq).1.1 hlt) h
    refine Ev.bindc (E3 _ _ _) ?_
    by_cases c1:1≤(Ad l i).f2∧(Ad l i).f2≤500
    · rw [decide_eq_true c1]
      refine Ev.pos rfl (Ev.bindc (E3 _ _ _) ?_)
      rw [Af (by omega) (by omega)]
      by_cases c2:0≤(Ad l i).f0∧(Ad l i).f0≤W-(Ad l i).f2
      · rw [decide_eq_true c2]
        refine Ev.pos rfl (Ev.bindc (E3 _ _ _) ?_)
        rw [Af (by omega) (by omega)]
        by_cases c3:0≤(Ad l i).f1∧(Ad l i).f1≤H-(Ad l i).f2
        · rw [decide_eq_true c3]
          have hins:Ins W H (Ad l i):=by unfold Ins;omega
          have hall:∀ m,m≤i→Ins W H (Ad l m):=fun m hm=>by
            by_cases e:m=i
            · rw [e];exact hins
            · exact (hok m (by omega)).1
          have bd:=G4 W H l hW.2 hH.2 i (by omega) (fun m hm=>hall m (by omega))
          have qb:=sq_bd hW.2 hH.2 hins
          refine Ev.succ ?_
          simp only [Al.j2,Bool.not_true]
          refine Ev.neg (by decide) (Ev.pos (by omega) (Ev.pos (by omega) (Ev.bindc rfl ?_)))
          have tk:(l.take ((i:Int)).toNat).length=i:=by rw [List.length_take];omega
          have tn:((i:Int)).toNat=i:=Int.toNat_natCast i
          rw [tk,tn,Af (n:=(Ad l i).f2*(Ad l i).f2) (by omega) (by omega),Af (n:=Dk l i+(Ad l i).f2*(Ad l i).f2) (by omega) (by omega)]
          have iok:=inner_ok W H l i
          refine Q7 hW hH hl i hlt hall _ r (fun hin=>?_) (fun hin=>rf fun h=>hin (iok.1 h).2) i 0 (by omega) (Nat.zero_le _) Iff.rfl
          have hk:Gk W H l i:=iok.2 ⟨hins,hin⟩
          have := ih (i + 1) (by omega) (by omega) (fun m hm => by
              by_cases e:m=i
              · rw [e];exact hk
              · exact hok m (by omega)) r (by rw [hr];exact ⟨fun h=>⟨h.1.2,h.2⟩,fun h=>⟨⟨fun _=>hk,h.1⟩,h.2⟩⟩)
          exact this
        · rw [decide_eq_false c3]
          exact fall _ (rf fun h=>c3 (by have:=h.1;unfold Ins at this;omega))
      · rw [decide_eq_false c2]
        exact Ev.neg (by decide) (fall _ (rf fun h=>c2 (by have:=h.1;unfold Ins at this;omega)))
    · rw [decide_eq_false c1]
      refine Ev.neg (by decide) (fall _ (rf fun h=>c1 ?_))
      have:=h.1
      unfold Ins at this
      omega

theorem Cp (W H:Int) (l:List Sq):Ev (fun k=>Al.f k W H l) (decide (Bq W H l)):=by
  unfold Al.f
  have fall:∀ r:Bool,r=false→Ev (fun k=>Al.j0 k true W H l) r:=by
    rintro _ rfl
    refine Ev.succ ?_
    simp only [Al.j0]
    exact Ev.pos trivial (Ev.now _)
  refine Ev.bindc (E3 _ _ _) ?_
  by_cases c1:1≤W∧W≤500
  · rw [decide_eq_true c1]
    refine Ev.pos rfl (Ev.bindc (E3 _ _ _) ?_)
    by_cases c2:1≤H∧H≤500
    · rw [decide_eq_true c2]
      refine Ev.pos rfl (Ev.bindc (E3 _ _ _) ?_)
      by_cases c3:1≤(l.length:Int)∧(l.length:Int)≤30
      · rw [decide_eq_true c3]
        refine Ev.succ ?_
        simp only [Al.j0,Bool.not_true]
        refine Ev.neg (by decide) ?_
        refine spec_loop (l:=l) c1 c2 (by omega) l.length 0 (by omega) (Nat.zero_le _) (fun m hm=>by omega) (decide (Bq W H l)) ?_
        rw [decide_eq_true_eq]
        exact ⟨fun h=>⟨fun m _ h2=>h.2.2.2.1 m h2,h.2.2.2.2⟩,fun h=>⟨c1,c2,by omega,fun m hm=>h.1 m (Nat.zero_le _) hm,h.2⟩⟩
      · rw [decide_eq_false c3]
        exact fall _ (decide_eq_false fun h=>c3 (by have:=h.2.2.1;omega))
    · rw [decide_eq_false c2]
      exact Ev.neg (by decide) (fall _ (decide_eq_false fun h=>c2 h.2.1))
  · rw [decide_eq_false c1]
    exact Ev.neg (by decide) (fall _ (decide_eq_false fun h=>c1 h.1))

/-! ### the squares of a cut cover its rectangle: by counting cells -/
def Dd:Nat→(Nat→Int)→Int
  | 0,_=>0
  | n+1,f=>Dd n f+f n
theorem Nl (n:Nat) (f g:Nat→Int):Dd n (fun i=>f i+g i)=Dd n f+Dd n g:=by
  induction n with
  | zero=>rfl
  | succ n ih=>simp only [Dd,ih];omega
theorem Mo (n:Nat):Dd n (fun _=>0)=0:=by
  induction n with
  | zero=>rfl
  | succ n ih=>simp only [Dd,ih];rfl
theorem Im (n:Nat) (f g:Nat→Int) (h:∀ i,i<n→f i=g i):Dd n f=Dd n g:=by
  induction n with
  | zero=>rfl
  | succ n ih=>simp only [Dd];rw [ih (fun i hi=>h i (by omega)),h n (by omega)]
theorem Nm (n:Nat) (f:Nat→Int) (c:Int):Dd n (fun i=>f i*c)=Dd n f*c:=by
  induction n with
  | zero=>simp [Dd]
  | succ n ih=>simp only [Dd,ih,Int.add_mul]
theorem N8 (n:Nat) (f g:Nat→Int) (h:∀ i,i<n→f i≤g i):Dd n f≤Dd n g:=by
  induction n with
  | zero=>exact Int.le_refl _
  | succ n ih=>simp only [Dd];have:=ih (fun i hi=>h i (by omega));have:=h n (by omega);omega
theorem N9 (n:Nat) (f g:Nat→Int) (h:∀ i,i<n→f i≤g i) (j:Nat) (hj:j<n) (hlt:f j<g j):Dd n f<Dd n g:=by
  induction n with
  | zero=>omega
  | succ n ih =>
    simp only [Dd]
    by_cases e:j=n
    · subst e
      have:=N8 j f g (fun i hi=>h i (by omega));omega
    · have:=ih (fun i hi=>h i (by omega)) (by omega);have:=h n (by omega);omega
theorem Ji (n:Nat) (c:Int):Dd n (fun _=>c)=n*c:=by
  induction n with
  | zero=>simp [Dd]
  | succ n ih =>
    simp only [Dd,ih]
    rw [show ((n+1:Nat):Int)=(n:Int)+1 by omega,Int.add_mul];omega
/-- 1 in a .. a+s-1, else 0 -/
def ind (a s:Int) (i:Nat):Int:=if a≤(i:Int)∧(i:Int)<a+s then 1 else 0
theorem sum_ind (a s:Int) (ha:0≤a) (hs:0≤s):∀ n:Nat,Dd n (ind a s)=if (n:Int)≤a then 0 else if (n:Int)≤a+s then n-a else s
  | 0=>by simp [Dd];intro h;omega
  | n+1=>by
    simp only [Dd,sum_ind a s ha hs n]
    unfold ind
    split <;> split <;> split <;> (try split) <;> omega
theorem K3 (a s:Int) (n:Nat) (ha:0≤a) (hs:0≤s) (h:a+s≤n):Dd n (ind a s)=s:=by
  rw [sum_ind a s ha hs n]
  split
  · omega
  · split <;> omega
/-- does cell x, y lie in the square -/
def Ck (s:Sq) (x y:Int):Prop:=s.f0≤x∧x<s.f0+s.f2∧s.f1≤y∧y<s.f1+s.f2
instance (s:Sq) (x y:Int):Decidable (Ck s x y):=by unfold Ck;infer_instance
def cell (s:Sq) (x y:Nat):Int:=if Ck s x y then 1 else 0
theorem cell_eq (s:Sq) (x y:Nat):cell s x y=ind s.f0 s.f2 x*ind s.f1 s.f2 y:=by
  unfold cell ind
  by_cases h1:s.f0≤(x:Int)∧(x:Int)<s.f0+s.f2
  · by_cases h2:s.f1≤(y:Int)∧(y:Int)<s.f1+s.f2
    · have h:Ck s x y:=⟨h1.1,h1.2,h2.1,h2.2⟩
      rw [if_pos h1,if_pos h2,if_pos h];rfl
    · have h:¬ Ck s x y:=fun h=>h2 ⟨h.2.2.1,h.2.2.2⟩
      rw [if_pos h1,if_neg h2,if_neg h];rfl
  · have h:¬ Ck s x y:=fun h=>h1 ⟨h.1,h.2.1⟩
    rw [if_neg h1,if_neg h];simp
theorem sum_cell {W H:Int} {s:Sq} (h:Ins W H s) (w h':Nat) (hw:(w:Int)=W) (hh:(h':Int)=H):Dd w (fun x=>Dd h' (fun y=>cell s x y))=s.f2*s.f2:=by
  unfold Ins at h
  have e:∀ x,Dd h' (fun y=>cell s x y)=s.f2*ind s.f0 s.f2 x:=by
    intro x
    rw [Im h' _ (fun y=>ind s.f1 s.f2 y*ind s.f0 s.f2 x) (fun y _=>by rw [cell_eq,Int.mul_comm]),Nm,K3 _ _ _ (by omega) (by omega) (by omega)]
  rw [Im w _ (fun x=>ind s.f0 s.f2 x*s.f2) (fun x _=>by rw [e,Int.mul_comm]),Nm,K3 _ _ _ (by omega) (by omega) (by omega)]
/-- how Gl of the first n squares a cell lies in -/
def Gl (l:List Sq):Nat→Nat→Nat→Int
  | 0,_,_=>0
  | n+1,x,y=>Gl l n x y+cell (Ad l n) x y
theorem Qa {W H:Int} (l:List Sq) (w h:Nat) (hw:(w:Int)=W) (hh:(h:Int)=H):∀ n,(∀ m,m<n→Ins W H (Ad l m))→Dd w (fun x=>Dd h (fun y=>Gl l n x y))=Dk l n
  | 0,_=>by
    simp only [Gl,Dk]
    rw [Im w _ (fun _=>0) (fun x _=>Mo h),Mo]
  | n+1,hi=>by
    simp only [Gl,Dk]
    rw [Im w _ (fun x=>Dd h (fun y=>Gl l n x y)+Dd h (fun y=>cell (Ad l n) x y)) (fun x _=>Nl h _ _),Nl,Qa l w h hw hh n (fun m hm=>hi m (by omega)),sum_cell (hi n (by omega)) w h hw hh]
theorem Kg (l:List Sq) (x y:Nat):∀ n,(∀ m,m<n→¬ Ck (Ad l m) x y)→Gl l n x y=0
  | 0,_=>rfl
  | n+1,h=>by
    simp only [Gl,Kg l x y n (fun m hm=>h m (by omega))]
    unfold cell
    rw [if_neg (h n (by omega))];rfl
theorem Jj {a b:Sq} {x y:Int} (ha:Ck a x y) (hb:Ck b x y):Ovl a b:=by
  unfold Ck at ha hb
  unfold Ovl
  omega
theorem Me {W H:Int} (l:List Sq) (x y:Nat):∀ n,(∀ m,m<n→Gk W H l m)→Gl l n x y≤1
  | 0,_=>by simp [Gl]
  | n+1,h=>by
    simp only [Gl]
    unfold cell
    by_cases hn:Ck (Ad l n) x y
    · rw [if_pos hn,Kg l x y n (fun m hm hc=>(h n (by omega)).2.2 m hm (Jj hn hc))];omega
    · rw [if_neg hn];have:=Me l x y n (fun m hm=>h m (by omega));omega
theorem Jk {W H:Int} {l:List Sq} (hg:Bq W H l) (x y:Int) (hx:0≤x∧x<W) (hy:0≤y∧y<H):∃ j,j<l.length∧Ck (Ad l j) x y:=by
  apply Decidable.byContradiction
  intro hno
  obtain ⟨w,rfl⟩:∃ w:Nat,(w:Int)=W:=⟨W.toNat,by have:=hg.1;omega⟩
  obtain ⟨h,rfl⟩:∃ h:Nat,(h:Int)=H:=⟨H.toNat,by have:=hg.2.1;omega⟩
  obtain ⟨a,rfl⟩:∃ a:Nat,(a:Int)=x:=⟨x.toNat,by omega⟩
  obtain ⟨b,rfl⟩:∃ b:Nat,(b:Int)=y:=⟨y.toNat,by omega⟩
  have ok:=hg.2.2.2.1
  have s1:=Qa l w h rfl rfl l.length (fun m hm=>(ok m hm).1)
  have z:=Kg l a b l.length (fun m hm hc=>hno ⟨m,hm,hc⟩)
  have row:∀ x:Nat,Dd h (fun y=>Gl l l.length x y)≤h:=fun x=>by
    have:=N8 h (fun y=>Gl l l.length x y) (fun _=>1) (fun y _=>Me l x y l.length ok)
    rw [Ji] at this;omega
  have rowa:Dd h (fun y=>Gl l l.length a y)<h:=by
    have:=N9 h (fun y=>Gl l l.length a y) (fun _=>1) (fun y _=>Me l a y l.length ok) b (by omega) (by show Gl l l.length a b<1;omega)
    rw [Ji] at this;omega
  have:=N9 w (fun x=>Dd h (fun y=>Gl l l.length x y)) (fun _=>(h:Int)) (fun x _=>row x) a (by omega) rowa
  rw [s1,Ji,hg.2.2.2.2] at this
  omega

/-! ### squares in order: what the two sorts answer -/
def LeP (a b:Sq):Prop:=¬ Ee b a
theorem LeP.trans {a b c:Sq} (h:LeP a b) (k:LeP b c):LeP a c:=by unfold LeP Ee at *;omega
theorem LeP.of_less {a b:Sq} (h:Ee a b):LeP a b:=by unfold LeP Ee at *;omega
def Dist (l:List Sq):Prop:=∀ a ∈ l,∀ b ∈ l,a.f0=b.f0→a.f1=b.f1→a=b
theorem I5 {l r r':List Sq} (hd:Dist l) (hp:r.Perm l) (hp':r'.Perm l) (hs:r.Pairwise LeP) (hs':r'.Pairwise LeP):r=r' :=
  List.Perm.eq_of_pairwise (fun a b ha hb h1 h2=>hd a (hp.mem_iff.1 ha) b (hp'.mem_iff.1 hb) (by unfold LeP Ee at *;omega) (by unfold LeP Ee at *;omega)) hs hs' (hp.trans hp'.symm)
theorem G1 {o:List Sq} {k:Nat} (hk:k≤o.length) {a:Sq} (h:a ∈ o.take k):∃ j,j<k∧a=Ad o j:=by
  obtain ⟨j,hj,rfl⟩:=List.mem_iff_getElem.1 h
  rw [List.length_take] at hj
  exact ⟨j,by omega,by rw [List.getElem_take,Bx o j (by omega)]⟩
theorem Gc {o:List Sq} {k:Nat} {a:Sq} (h:a ∈ o.drop k):∃ j,k≤j∧j<o.length∧a=Ad o j:=by
  obtain ⟨j,hj,rfl⟩:=List.mem_iff_getElem.1 h
  rw [List.length_drop] at hj
  exact ⟨k+j,by omega,by omega,by rw [List.getElem_drop,Bx o (k+j) (by omega)]⟩
theorem Ex {o:List Sq} (ho:o.Pairwise LeP) {i j:Nat} (hij:i≤j) (hj:j<o.length):LeP (Ad o i) (Ad o j):=by
  rcases Nat.lt_or_eq_of_le hij with h|h
  · rw [Bx o i (by omega),Bx o j hj]
    exact List.pairwise_iff_getElem.1 ho i j (by omega) hj h
  · subst h;unfold LeP Ee;omega
theorem Mp {o : List Sq} {s : Sq} {k : Nat} (hk : k ≤ o.length) (ho : o.Pairwise LeP) (h1 : ∀ j, k ≤ j → j < o.length → Ee s (Ad o j)) (h2 : k = 0 ∨ ¬ Ee s (Ad o (k - 1))) :
    (o.take k++[s]++o.drop k).Pairwise LeP:=by
  have hts:∀ a ∈ o.take k,LeP a s:=by
    intro a ha
    obtain ⟨j,hj,rfl⟩:=G1 hk ha
    rcases h2 with h2|h2
    · omega
    · exact LeP.trans (Ex ho (show j≤k-1 by omega) (by omega)) h2
  refine List.pairwise_append.2 ⟨List.pairwise_append.2 ⟨ho.sublist (List.take_sublist _ _),List.pairwise_singleton _ _,fun a ha b hb=>?_⟩,ho.sublist (List.drop_sublist _ _),fun a ha b hb=>?_⟩
  · rw [List.mem_singleton.1 hb];exact hts a ha
  · obtain ⟨j,hj,hj2,rfl⟩:=Gc hb
    have hsb:=LeP.of_less (h1 j hj hj2)
    rcases List.mem_append.1 ha with ha|ha
    · exact (hts a ha).trans hsb
    · rw [List.mem_singleton.1 ha];exact hsb
theorem Qb (o:List Sq) (s:Sq) (k:Nat):(o.take k++[s]++o.drop k).Perm (s::o):=by
  rw [List.append_assoc]
  have h:=List.perm_middle (l₁:=o.take k) (a:=s) (l₂:=o.drop k)
  rw [List.take_append_drop] at h
  exact h
theorem Jy (l:List Sq) (i:Nat) (w:Sq) (t:List Sq) (h:l.drop i=w::t):i<l.length∧Ad l i=w∧l.drop (i+1)=t:=by
  have h1:i<l.length:=by
    apply Decidable.byContradiction
    intro hn
    rw [List.drop_eq_nil_of_le (by omega)] at h;cases h
  rw [List.drop_eq_getElem_cons h1] at h
  injection h with ha hb
  exact ⟨h1,by rw [Bx l i h1];exact ha,hb⟩
theorem ins_loop (l : List Sq) (n i : Int) (s : Sq) (o : List Sq) (hol : o.length ≤ 1000) (ho : o.Pairwise LeP) : ∀ c : Nat, c ≤ o.length → (∀ j, c ≤ j → j < o.length → Ee s (Ad o j)) →
    ∃ o',o'.Pairwise LeP∧o'.Perm (s::o)∧∀ r,Ev (fun k=>Ak.l0 k o' l n (wrap64 (i+1))) r→Ev (fun k=>Ak.l1 k o (c:Int) l n i s.f0 s.f1 s.f2) r:=by
  intro c
  induction c with
  | zero =>
    intro hc h
    refine ⟨_,Mp hc ho h (.inl rfl),Qb o s 0,fun r hr=>Ev.succ ?_⟩
    simp only [Ak.l1]
    refine Ev.neg (by omega) (Ev.bindc rfl (Ev.pos (by omega) (Ev.pos (by omega) (Ev.bindc rfl (Ev.pos (by simp only [List.length_nil,List.length_take];omega) (Ev.bindc rfl (Ev.bindc rfl (Ev.pos (by simp only [List.length_nil,List.length_append,List.length_take,List.length_cons];omega) (Ev.bindc rfl (Ev.bindc rfl (Ev.pos (by simp only [List.length_nil,List.length_append,List.length_take,List.length_cons,List.length_drop];omega) ?_)))))))))))
    exact hr
  | succ c ih =>
    intro hc h
    have hw:wrap64 (((c+1:Nat):Int)-1)=(c:Int):=by rw [Af (n:=((c+1:Nat):Int)-1) (by omega) (by omega)];omega
    by_cases hl:Ee s (Ad o c)
    · obtain ⟨o', a, b, d⟩ := ih (by omega) (fun j hj hj2 => by
        rcases Nat.lt_or_eq_of_le hj with h3|h3
        · exact h j h3 hj2
        · rw [← h3];exact hl)
      refine ⟨o',a,b,fun r hr=>Ev.succ ?_⟩
      simp only [Ak.l1]
      rw [hw]
      refine Ev.pos (by omega) (Ev.pos (by omega) (Ev.pos (by omega) ?_))
      rw [Dg]
      exact Ev.bindc (M4 s (Ad o c)) (Ev.pos (by simpa using hl) (d r hr))
    · refine ⟨_,Mp hc ho h (.inr (by rw [Nat.add_sub_cancel];exact hl)),Qb o s (c+1),fun r hr=>Ev.succ ?_⟩
      simp only [Ak.l1]
      rw [hw]
      refine Ev.pos (by omega) (Ev.pos (by omega) (Ev.pos (by omega) ?_))
      rw [Dg]
      refine Ev.bindc (M4 s (Ad o c)) (Ev.neg (by simpa using hl) ?_)
      refine Ev.bindc rfl (Ev.pos (by omega) (Ev.pos (by omega) (Ev.bindc rfl (Ev.pos (by simp only [List.length_nil,List.length_take];omega) (Ev.bindc rfl (Ev.bindc rfl (Ev.pos (by simp only [List.length_nil,List.length_append,List.length_take,List.length_cons];omega) (Ev.bindc rfl (Ev.bindc rfl (Ev.pos (by simp only [List.length_nil,List.length_append,List.length_take,List.length_cons,List.length_drop];omega) ?_))))))))))
      exact hr
theorem Qy (l : List Sq) (hl : l.length ≤ 1000) : ∀ (t : List Sq) (i : Nat) (o : List Sq), l.drop i = t → i + t.length = l.length → o.Pairwise LeP → o.Perm (l.take i) →
    ∃ R,R.Pairwise LeP∧R.Perm l∧Ev (fun k=>Ak.l0 k o l (l.length:Int) (i:Int)) R:=by
  intro t
  induction t with
  | nil =>
    intro i o hd hi ho hp
    simp only [List.length_nil] at hi
    refine ⟨o,ho,by rw [List.take_of_length_le (by omega)] at hp;exact hp,Ev.succ ?_⟩
    simp only [Ak.l0]
    exact Ev.neg (by omega) (Ev.now _)
  | cons s t ih =>
    intro i o hd hi ho hp
    obtain ⟨h1,h2,h3⟩:=Jy l i s t hd
    have hol:o.length≤1000:=by rw [hp.length_eq,List.length_take];omega
    obtain ⟨o',a,b,d⟩:=ins_loop l (l.length:Int) (i:Int) s o hol ho o.length (Nat.le_refl _) (fun j hj hj2=>by omega)
    simp only [List.length_cons] at hi
    have htk:l.take (i+1)=l.take i++[s]:=by
      rw [List.take_add_one,List.getElem?_eq_getElem h1,← h2,Bx l i h1];rfl
    obtain ⟨R,e,f,g⟩:=ih (i+1) o' h3 (by omega) a (by
      rw [htk]
      exact (b.trans ((hp.cons s))).trans (List.perm_append_singleton s (l.take i)).symm)
    refine ⟨R,e,f,Ev.succ ?_⟩
    simp only [Ak.l0]
    refine Ev.pos (by omega) (Ev.pos (by omega) (Ev.pos (by omega) ?_))
    rw [Dg,h2]
    refine d R ?_
    rw [Af (n:=(i:Int)+1) (by omega) (by omega)]
    exact g
theorem K4 (l:List Sq) (hl:l.length≤1000):∃ R,R.Pairwise LeP∧R.Perm l∧Ev (fun k=>Ak.f k l) R:=Qy l hl l 0 [] rfl (by omega) List.Pairwise.nil (List.Perm.refl _)

/-! ### a cut's squares -/
theorem Ig {W H:Int} {l:List Sq} (hg:Bq W H l) {s:Sq} (hs:s ∈ l):Ins W H s:=by
  obtain ⟨j,hj,rfl⟩:=List.mem_iff_getElem.1 hs
  rw [← Bx l j hj]
  exact (hg.2.2.2.1 j hj).1
theorem Ih {a b:Sq} (h:Ovl a b):Ovl b a:=⟨h.2.1,h.1,h.2.2.2,h.2.2.1⟩
theorem I6 {W H:Int} {l:List Sq} (hg:Bq W H l) {a b:Sq} (ha:a ∈ l) (hb:b ∈ l) (h:Ovl a b):a=b:=by
  obtain ⟨i,hi,rfl⟩:=List.mem_iff_getElem.1 ha
  obtain ⟨j,hj,rfl⟩:=List.mem_iff_getElem.1 hb
  rw [← Bx l i hi,← Bx l j hj] at h ⊢
  rcases Nat.lt_trichotomy i j with hlt|rfl|hlt
  · exact absurd (Ih h) ((hg.2.2.2.1 j hj).2.2 i hlt)
  · rfl
  · exact absurd h ((hg.2.2.2.1 i hi).2.2 j hlt)
theorem J8 (l:List Sq) (f:Sq→Sq) (i:Nat) (s:Sq) (t:List Sq) (h:l.drop i=s::t):(l.take i).map f++[f s]=(l.take (i+1)).map f:=by
  obtain ⟨h1,h2,_⟩:=Jy l i s t h
  have e:l.take (i+1)=l.take i++[s]:=by
    rw [List.take_add_one,List.getElem?_eq_getElem h1,← h2,Bx l i h1];rfl
  rw [e,List.map_append];rfl

/-! ### a square of a cut -/
theorem Nt (W H:Int) (l:List Sq) (x:Int):Ev (fun k=>Dv.f k W H l x) (decide (Bq W H l∧0≤x∧x<l.length)):=by
  unfold Dv.f
  refine Ev.bind (C0 W H l) ?_
  by_cases h:Bq W H l
  · rw [decide_eq_true h]
    have:=h.2.2.1
    refine Ev.pos rfl (Ev.bindc (Gf _ _ _) (Ev.eqr (Ev.now _) ?_))
    rw [Af (by omega) (by omega)]
    exact decide_eq_decide.2 ⟨fun h1=>⟨h,by omega,by omega⟩,fun h1=>by omega⟩
  · rw [decide_eq_false h]
    exact Ev.neg (by decide) (Ev.eqr (Ev.now _) (decide_eq_false fun h1=>h h1.1).symm)

/-! ### the squares beside one: what both sides answer, told -/
def Bes (a b:Sq):Prop:=(mn (a.f0+a.f2) (b.f0+b.f2)=mx a.f0 b.f0∧mx a.f1 b.f1<mn (a.f1+a.f2) (b.f1+b.f2))∨(mn (a.f1+a.f2) (b.f1+b.f2)=mx a.f1 b.f1∧mx a.f0 b.f0<mn (a.f0+a.f2) (b.f0+b.f2))
instance (a b:Sq):Decidable (Bes a b):=by unfold Bes;infer_instance
theorem Qc {W H : Int} {a b : Sq} (hW : W ≤ 500) (hH : H ≤ 500) (ha : Ins W H a) (hb : Ins W H b) :
    Dn.f a.f0 a.f1 a.f2 b.f0 b.f1 b.f2=some (decide (Bes a b)):=by
  unfold Ins at ha hb
  have x1 : -2000≤mn (a.f0+a.f2) (b.f0+b.f2)∧mn (a.f0+a.f2) (b.f0+b.f2)≤2000:=by unfold mn;split <;> omega
  have x2 : -2000≤mx a.f0 b.f0∧mx a.f0 b.f0≤2000:=by unfold mx;split <;> omega
  have x3 : -2000≤mn (a.f1+a.f2) (b.f1+b.f2)∧mn (a.f1+a.f2) (b.f1+b.f2)≤2000:=by unfold mn;split <;> omega
  have x4 : -2000≤mx a.f1 b.f1∧mx a.f1 b.f1≤2000:=by unfold mx;split <;> omega
  unfold Dn.f
  rw [Af (n:=a.f0+a.f2) (by omega) (by omega),Af (n:=b.f0+b.f2) (by omega) (by omega),Af (n:=a.f1+a.f2) (by omega) (by omega),Af (n:=b.f1+b.f2) (by omega) (by omega)]
  rw [Af (n:=mn (a.f0+a.f2) (b.f0+b.f2)-mx a.f0 b.f0) (by omega) (by omega),Af (n:=mn (a.f1+a.f2) (b.f1+b.f2)-mx a.f1 b.f1) (by omega) (by omega)]
  have hB:Bes a b↔(mn (a.f0+a.f2) (b.f0+b.f2)=mx a.f0 b.f0∧mx a.f1 b.f1<mn (a.f1+a.f2) (b.f1+b.f2))∨(mn (a.f1+a.f2) (b.f1+b.f2)=mx a.f1 b.f1∧mx a.f0 b.f0<mn (a.f0+a.f2) (b.f0+b.f2)):=Iff.rfl
  by_cases h1:mn (a.f0+a.f2) (b.f0+b.f2)-mx a.f0 b.f0=0
  · rw [if_pos h1]
    by_cases h2:mn (a.f1+a.f2) (b.f1+b.f2)-mx a.f1 b.f1>0
    · rw [if_pos h2,decide_eq_true (hB.2 (by omega))]
    · rw [if_neg h2]
      by_cases h3:mn (a.f1+a.f2) (b.f1+b.f2)-mx a.f1 b.f1=0
      · rw [if_pos h3];congr 1;exact decide_eq_decide.2 ⟨fun h=>hB.2 (by omega),fun h=>by have:=hB.1 h;omega⟩
      · rw [if_neg h3,decide_eq_false (fun h=>by have:=hB.1 h;omega)]
  · rw [if_neg h1]
    by_cases h3:mn (a.f1+a.f2) (b.f1+b.f2)-mx a.f1 b.f1=0
    · rw [if_pos h3];congr 1;exact decide_eq_decide.2 ⟨fun h=>hB.2 (by omega),fun h=>by have:=hB.1 h;omega⟩
    · rw [if_neg h3,decide_eq_false (fun h=>by have:=hB.1 h;omega)]
theorem Qd (a b:Int):Bf.f a b=some (mn a b):=by
  unfold Bf.f mn
  by_cases h:a<b
  · rw [if_pos h,if_neg (by omega)]
  · rw [if_neg h]
    by_cases h2:b<a
    · rw [if_pos h2]
    · rw [if_neg h2];congr 1;omega
theorem Ks (a b:Int):Be.f a b=some (mx a b):=by
  unfold Be.f mx
  by_cases h:a<b
  · rw [if_pos h,if_neg (by omega)]
  · rw [if_neg h]
    by_cases h2:a>b
    · rw [if_pos h2]
    · rw [if_neg h2];congr 1;omega
theorem Qz (a b c d e f:Int):Eb.f a b c d e f=Dn.f a b c d e f:=by
  unfold Eb.f Dn.f
  rw [Qd,Ks,Qd,Ks]
  rfl
theorem Mq:∀ (k:Nat) (x:Int) (r:List Int) (l:List Sq) (n i W H:Int) (m:List Sq),A9.l0 k x r l n i W H m=Bc.l0 k x r l n i W H m
  | 0,_,_,_,_,_,_,_,_=>rfl
  | k+1,x,r,l,n,i,W,H,m=>by
    simp only [A9.l0,Bc.l0,Mq k,Qz]
def D4 (l:List Sq) (x:Nat):Nat→List Int
  | 0=>[]
  | n+1=>if Bes (Ad l n) (Ad l x) then D4 l x n++[(n:Int)] else D4 l x n
theorem G6 (l:List Sq) (x:Nat):∀ n,(D4 l x n).length≤n
  | 0=>Nat.le_refl _
  | n+1=>by have:=G6 l x n;unfold D4;split <;> simp <;> omega
theorem Gm (l:List Sq) (x:Nat) (v:Int):∀ n,v ∈ D4 l x n↔∃ m,m<n∧v=(m:Int)∧Bes (Ad l m) (Ad l x)
  | 0=>by simp [D4]
  | n+1=>by
    unfold D4
    split
    · rename_i h
      rw [List.mem_append,Gm l x v n,List.mem_singleton]
      constructor
      · rintro (⟨m,h1,h2⟩|h1)
        · exact ⟨m,by omega,h2⟩
        · exact ⟨n,by omega,h1,h⟩
      · rintro ⟨m,h1,h2,h3⟩
        by_cases e:m=n
        · subst e;exact Or.inr h2
        · exact Or.inl ⟨m,by omega,h2,h3⟩
    · rename_i h
      rw [Gm l x v n]
      constructor
      · rintro ⟨m,h1,h2⟩;exact ⟨m,by omega,h2⟩
      · rintro ⟨m,h1,h2,h3⟩
        by_cases e:m=n
        · subst e;exact absurd h3 h
        · exact ⟨m,by omega,h2,h3⟩
theorem Jz (l:List Sq) (x:Nat):∀ n,(D4 l x n).Pairwise (·<·)
  | 0=>List.Pairwise.nil
  | n+1=>by
    unfold D4
    split
    · rw [List.pairwise_append]
      refine ⟨Jz l x n,List.pairwise_singleton _ _,fun a ha b hb=>?_⟩
      rw [List.mem_singleton] at hb
      obtain ⟨m,h1,h2,_⟩:=(Gm l x a n).1 ha
      omega
    · exact Jz l x n
theorem K5 {W H : Int} {l : List Sq} (hg : Bq W H l) (x : Nat) (hx : x < l.length) : ∀ (d i : Nat), l.length - i = d → i ≤ l.length →
    Ev (fun k=>Bc.l0 k (x:Int) (D4 l x i) l (l.length:Int) (i:Int) W H l) (D4 l x l.length,true):=by
  have hl:=hg.2.2.1.2
  intro d
  induction d with
  | zero =>
    intro i hd hi
    obtain rfl:i=l.length:=by omega
    refine Ev.succ ?_
    simp only [Bc.l0]
    exact Ev.neg (by omega) (Ev.now _)
  | succ d ih =>
    intro i hd hi
    have hb:=Qc hg.1.2 hg.2.1.2 (hg.2.2.2.1 i (by omega)).1 (hg.2.2.2.1 x hx).1
    have ih':=ih (i+1) (by omega) (by omega)
    have hbl:=G6 l x i
    refine Ev.succ ?_
    simp only [Bc.l0,Dg]
    refine Ev.pos (by omega) (Ev.pos (by omega) (Ev.pos (by omega) (Ev.pos (by omega) (Ev.pos (by omega) (Ev.bindc hb ?_)))))
    rw [Af (n:=(i:Int)+1) (by omega) (by omega)]
    by_cases c:Bes (Ad l i) (Ad l x)
    · rw [decide_eq_true c]
      refine Ev.pos rfl (Ev.pos (by omega) ?_)
      rw [show D4 l x (i+1)=D4 l x i++[(i:Int)] by simp only [D4];rw [if_pos c]] at ih'
      exact ih'
    · rw [decide_eq_false c]
      refine Ev.neg (by decide) ?_
      rw [show D4 l x (i+1)=D4 l x i by simp only [D4];rw [if_neg c]] at ih'
      exact ih'
open Classical in
noncomputable def besR (W H:Int) (l:List Sq) (x:Int):List Int×Bool:=if Bq W H l∧0≤x∧x<l.length then (D4 l x.toNat l.length,true) else ([],false)
theorem besR_len (W H:Int) (l:List Sq) (x:Int):(besR W H l x).1.length≤30:=by
  unfold besR;split
  · rename_i h;have:=G6 l x.toNat l.length;have:=h.1.2.2.1.2;dsimp only;omega
  · simp
theorem Ii (W H:Int) (l:List Sq) (x:Int):Ev (fun k=>Bc.f k W H l x) (besR W H l x):=by
  unfold Bc.f besR
  refine Ev.bind (Nt W H l x) ?_
  by_cases h:Bq W H l∧0≤x∧x<l.length
  · rw [if_pos h]
    refine Ev.pos (by simpa using h) ?_
    have:=K5 h.1 x.toNat (by omega) l.length 0 (by omega) (Nat.zero_le _)
    rw [Int.toNat_of_nonneg h.2.1] at this
    exact this
  · rw [if_neg h]
    exact Ev.neg (by simpa using h) (Ev.now _)
theorem M5 (W H:Int) (l:List Sq) (x:Int):Ev (fun k=>A9.f k W H l x) (besR W H l x):=by
  have fall:Ev (fun k=>A9.j0 k x true W H l) ([],false):=by
    refine Ev.succ ?_
    simp only [A9.j0]
    exact Ev.pos trivial (Ev.now _)
  unfold A9.f besR
  by_cases hg:Bq W H l
  · have h30:=hg.2.2.1
    refine Ev.bind (Cp W H l) (Ev.pos (decide_eq_true hg) (Ev.bindc (E3 _ _ _) ?_))
    rw [Af (by omega) (by omega)]
    by_cases hx:0≤x∧x<l.length
    · rw [if_pos ⟨hg,hx⟩,decide_eq_true (show 0≤x∧x≤(l.length:Int)-1 by omega)]
      refine Ev.succ ?_
      simp only [A9.j0,Bool.not_true,Mq]
      have:=K5 hg x.toNat (by omega) l.length 0 (by omega) (Nat.zero_le _)
      rw [Int.toNat_of_nonneg hx.1] at this
      exact Ev.neg (by decide) this
    · rw [if_neg (fun h=>hx h.2),decide_eq_false (show ¬ (0≤x∧x≤(l.length:Int)-1) by omega)]
      exact fall
  · rw [if_neg (fun h=>hg h.1)]
    exact Ev.bind (Cp W H l) (Ev.neg (by simpa using hg) fall)
/-! what is beside what -/
theorem mn_comm (a b:Int):mn a b=mn b a:=by unfold mn;split <;> split <;> omega
theorem mx_comm (a b:Int):mx a b=mx b a:=by unfold mx;split <;> split <;> omega
theorem bes_comm {a b:Sq} (h:Bes a b):Bes b a:=by
  unfold Bes at *
  rw [mn_comm (b.f0+b.f2),mx_comm b.f0,mn_comm (b.f1+b.f2),mx_comm b.f1]
  exact h
theorem bes_self {a:Sq} (h:1≤a.f2):¬ Bes a a:=by
  unfold Bes mn mx
  simp only [Int.lt_irrefl,if_false]
  omega
/-- each square of a cut of several has one beside it -/
theorem bes_some {W H:Int} {l:List Sq} (hg:Bq W H l) (h2:1<l.length) (i:Nat) (hi:i<l.length):∃ m,m<l.length∧Bes (Ad l m) (Ad l i):=by
  have hIi:=(hg.2.2.2.1 i hi).1
  have key:∀ x y:Int,0≤x∧x<W→0≤y∧y<H→¬ Ck (Ad l i) x y→∃ j,j<l.length∧Ck (Ad l j) x y∧Ins W H (Ad l j)∧¬ Ovl (Ad l j) (Ad l i):=fun x y hx hy hn=>by
    obtain ⟨j,hj,hin⟩:=Jk hg x y hx hy
    refine ⟨j,hj,hin,(hg.2.2.2.1 j hj).1,fun ho=>?_⟩
    have:=I6 hg (Er l j hj) (Er l i hi) ho
    rw [this] at hin
    exact hn hin
  generalize hs:Ad l i=s at *
  unfold Ins at hIi
  by_cases c1:s.f0+s.f2<W
  · obtain ⟨j,hj,a,b,c⟩:=key (s.f0+s.f2) s.f1 (by omega) (by omega) (by unfold Ck;omega)
    refine ⟨j,hj,?_⟩
    generalize Ad l j=t at *
    unfold Ck at a;unfold Ins at b;unfold Ovl at c
    unfold Bes mn mx
    split <;> split <;> split <;> split <;> omega
  by_cases c2:0<s.f0
  · obtain ⟨j,hj,a,b,c⟩:=key (s.f0-1) s.f1 (by omega) (by omega) (by unfold Ck;omega)
    refine ⟨j,hj,?_⟩
    generalize Ad l j=t at *
    unfold Ck at a;unfold Ins at b;unfold Ovl at c
    unfold Bes mn mx
    split <;> split <;> split <;> split <;> omega
  by_cases c3:s.f1+s.f2<H
  · obtain ⟨j,hj,a,b,c⟩:=key s.f0 (s.f1+s.f2) (by omega) (by omega) (by unfold Ck;omega)
    refine ⟨j,hj,?_⟩
    generalize Ad l j=t at *
    unfold Ck at a;unfold Ins at b;unfold Ovl at c
    unfold Bes mn mx
    split <;> split <;> split <;> split <;> omega
  by_cases c4:0<s.f1
  · obtain ⟨j,hj,a,b,c⟩:=key s.f0 (s.f1-1) (by omega) (by omega) (by unfold Ck;omega)
    refine ⟨j,hj,?_⟩
    generalize Ad l j=t at *
    unfold Ck at a;unfold Ins at b;unfold Ovl at c
    unfold Bes mn mx
    split <;> split <;> split <;> split <;> omega
  · exfalso
    obtain ⟨j,hj,hji⟩:∃ j,j<l.length∧j≠i:=by
      by_cases e:i=0
      · exact ⟨1,h2,by omega⟩
      · exact ⟨0,by omega,by omega⟩
    have hb:=(hg.2.2.2.1 j hj).1
    have ho:Ovl (Ad l i) (Ad l j):=by
      rw [hs]
      generalize Ad l j=t at *
      unfold Ins at hb;unfold Ovl;omega
    rcases Nat.lt_trichotomy i j with q|q|q
    · exact (hg.2.2.2.1 j hj).2.2 i q (Ih ho)
    · exact hji q.symm
    · exact (hg.2.2.2.1 i hi).2.2 j q ho

/-! ### corners -/
def Cor (s:Sq) (x y:Int):Prop:=(s.f0=x∨s.f0+s.f2=x)∧(s.f1=y∨s.f1+s.f2=y)
instance (s:Sq) (x y:Int):Decidable (Cor s x y):=by unfold Cor;infer_instance
def cnt (P:Nat→Prop) [DecidablePred P]:Nat→Int
  | 0=>0
  | n+1=>cnt P n+(if P n then 1 else 0)
theorem cnt_bd (P:Nat→Prop) [DecidablePred P]:∀ n,0≤cnt P n∧cnt P n≤n
  | 0=>by simp [cnt]
  | n+1=>by have:=cnt_bd P n;simp only [cnt];split <;> ((try clear ew);(try clear es);(try clear e1);(try clear e2);(try clear ec);omega)
theorem Mf (P:Nat→Prop) [DecidablePred P]:∀ n,(∀ i,i<n→¬ P i)→cnt P n=0
  | 0,_=>rfl
  | n+1,h=>by simp only [cnt];rw [if_neg (h n (by ((try clear ew);(try clear es);(try clear e1);(try clear e2);(try clear ec);omega))),Mf P n (fun i hi=>h i (by ((try clear ew);(try clear es);(try clear e1);(try clear e2);(try clear ec);omega)))];rfl
theorem Gq (P:Nat→Prop) [DecidablePred P]:∀ n,(∀ i j,i<j→j<n→P i→P j→False)→cnt P n≤1
  | 0,_=>by simp [cnt]
  | n+1,h=>by
    simp only [cnt]
    by_cases hp:P n
    · rw [if_pos hp,Mf P n (fun i hi hpi=>h i n hi (by ((try clear ew);(try clear es);(try clear e1);(try clear e2);(try clear ec);omega)) hpi hp)];((try clear ew);(try clear es);(try clear e1);(try clear e2);(try clear ec);omega)
    · rw [if_neg hp]
      have:=Gq P n (fun i j hij hj=>h i j hij (by ((try clear ew);(try clear es);(try clear e1);(try clear e2);(try clear ec);omega)))
      ((try clear ew);(try clear es);(try clear e1);(try clear e2);(try clear ec);omega)
theorem Jl (P A B:Nat→Prop) [DecidablePred P] [DecidablePred A] [DecidablePred B]:∀ n,(∀ i,i<n→P i→A i∨B i)→cnt P n≤cnt A n+cnt B n
  | 0,_=>by simp [cnt]
  | n+1,h=>by
    have ih:=Jl P A B n (fun i hi=>h i (by ((try clear ew);(try clear es);(try clear e1);(try clear e2);(try clear ec);omega)))
    have hn:=h n (by ((try clear ew);(try clear es);(try clear e1);(try clear e2);(try clear ec);omega))
    simp only [cnt]
    by_cases hp:P n
    · rw [if_pos hp]
      rcases hn hp with ha|hb
      · rw [if_pos ha];split <;> ((try clear ew);(try clear es);(try clear e1);(try clear e2);(try clear ec);omega)
      · rw [if_pos hb];split <;> ((try clear ew);(try clear es);(try clear e1);(try clear e2);(try clear ec);omega)
    · rw [if_neg hp];split <;> split <;> ((try clear ew);(try clear es);(try clear e1);(try clear e2);(try clear ec);omega)
def D8 (l:List Sq) (x y:Int) (n:Nat):Int:=cnt (fun i=>Cor (Ad l i) x y) n
theorem Kh {W H:Int} {l:List Sq} (hg:Bq W H l) (x y:Int) (h:x=0∨y=0):D8 l x y l.length≠4:=by
  have hin:∀ i,i<l.length→Ins W H (Ad l i):=fun i hi=>(hg.2.2.2.1 i hi).1
  have hno:∀ i j,i<j→j<l.length→¬ Ovl (Ad l j) (Ad l i):=fun i j hij hj=>(hg.2.2.2.1 j hj).2.2 i hij
  rcases h with rfl|rfl
  · have h1 := Jl (fun i => Cor (Ad l i) 0 y) (fun i => (Ad l i).f0 = 0 ∧ (Ad l i).f1 = y) (fun i => (Ad l i).f0 = 0 ∧ (Ad l i).f1 + (Ad l i).f2 = y) l.length (fun i hi hc => by
      have hI:=hin i hi
      unfold Ins at hI;unfold Cor at hc
      ((try clear ew);(try clear es);(try clear e1);(try clear e2);(try clear ec);omega))
    have h2:=Gq (fun i=>(Ad l i).f0=0∧(Ad l i).f1=y) l.length (fun i j hij hj hi hj2=>hno i j hij hj (by
      have a:=hin i (by ((try clear ew);(try clear es);(try clear e1);(try clear e2);(try clear ec);omega));have b:=hin j hj
      unfold Ins at a b;unfold Ovl;((try clear ew);(try clear es);(try clear e1);(try clear e2);(try clear ec);omega)))
    have h3:=Gq (fun i=>(Ad l i).f0=0∧(Ad l i).f1+(Ad l i).f2=y) l.length (fun i j hij hj hi hj2=>hno i j hij hj (by
      have a:=hin i (by ((try clear ew);(try clear es);(try clear e1);(try clear e2);(try clear ec);omega));have b:=hin j hj
      unfold Ins at a b;unfold Ovl;((try clear ew);(try clear es);(try clear e1);(try clear e2);(try clear ec);omega)))
    unfold D8
    ((try clear ew);(try clear es);(try clear e1);(try clear e2);(try clear ec);omega)
  · have h1 := Jl (fun i => Cor (Ad l i) x 0) (fun i => (Ad l i).f1 = 0 ∧ (Ad l i).f0 = x) (fun i => (Ad l i).f1 = 0 ∧ (Ad l i).f0 + (Ad l i).f2 = x) l.length (fun i hi hc => by
      have hI:=hin i hi
      unfold Ins at hI;unfold Cor at hc
      ((try clear ew);(try clear es);(try clear e1);(try clear e2);(try clear ec);omega))
    have h2:=Gq (fun i=>(Ad l i).f1=0∧(Ad l i).f0=x) l.length (fun i j hij hj hi hj2=>hno i j hij hj (by
      have a:=hin i (by ((try clear ew);(try clear es);(try clear e1);(try clear e2);(try clear ec);omega));have b:=hin j hj
      unfold Ins at a b;unfold Ovl;((try clear ew);(try clear es);(try clear e1);(try clear e2);(try clear ec);omega)))
    have h3:=Gq (fun i=>(Ad l i).f1=0∧(Ad l i).f0+(Ad l i).f2=x) l.length (fun i j hij hj hi hj2=>hno i j hij hj (by
      have a:=hin i (by ((try clear ew);(try clear es);(try clear e1);(try clear e2);(try clear ec);omega));have b:=hin j hj
      unfold Ins at a b;unfold Ovl;((try clear ew);(try clear es);(try clear e1);(try clear e2);(try clear ec);omega)))
    unfold D8
    ((try clear ew);(try clear es);(try clear e1);(try clear e2);(try clear ec);omega)
def Dj (l:List Sq):Nat→List (List Int)
  | 0=>[]
  | n+1=>if D8 l (Ad l n).f0 (Ad l n).f1 l.length=4 then Dj l n++[[(Ad l n).f0,(Ad l n).f1]] else Dj l n
theorem G7 (l:List Sq):∀ n,(Dj l n).length≤n
  | 0=>by simp [Dj]
  | n+1=>by have:=G7 l n;simp only [Dj];split <;> simp <;> ((try clear ew);(try clear es);(try clear e1);(try clear e2);(try clear ec);omega)
theorem Jb (l:List Sq):∀ n,∀ r ∈ Dj l n,r.length=2
  | 0,r,hr=>by simp [Dj] at hr
  | n+1,r,hr=>by
    simp only [Dj] at hr
    split at hr
    · rw [List.mem_append] at hr
      rcases hr with hr|hr
      · exact Jb l n r hr
      · rw [List.mem_singleton.1 hr];rfl
    · exact Jb l n r hr
theorem bitb_eq (b:Bool):Cg.f b=some (if b=true then 1 else 0):=by unfold Cg.f;cases b <;> rfl
theorem Nu {W H : Int} {l : List Sq} (hg : Bq W H l) (x y : Int) : ∀ (d i : Nat), l.length - i = d → i ≤ l.length →
    Ev (fun k=>Br.l0 k x y (D8 l x y i) l (l.length:Int) (i:Int)) (D8 l x y l.length):=by
  intro d
  have h30:=hg.2.2.1
  have hW:=hg.1
  have hH:=hg.2.1
  induction d with
  | zero =>
    intro i hd hi
    obtain rfl:i=l.length:=by ((try clear ew);(try clear es);(try clear e1);(try clear e2);(try clear ec);omega)
    refine Ev.succ ?_
    simp only [Br.l0]
    exact Ev.neg (by ((try clear ew);(try clear es);(try clear e1);(try clear e2);(try clear ec);omega)) (Ev.now _)
  | succ d ih =>
    intro i hd hi
    have hok:=(hg.2.2.2.1 i (by ((try clear ew);(try clear es);(try clear e1);(try clear e2);(try clear ec);omega))).1
    unfold Ins at hok
    have hb:=cnt_bd (fun i=>Cor (Ad l i) x y) i
    have hn:=ih (i+1) (by ((try clear ew);(try clear es);(try clear e1);(try clear e2);(try clear ec);omega)) (by ((try clear ew);(try clear es);(try clear e1);(try clear e2);(try clear ec);omega))
    have ew:wrap64 ((i:Int)+1)=((i+1:Nat):Int):=by rw [Af (by ((try clear ew);(try clear es);(try clear e1);(try clear e2);(try clear ec);omega)) (by ((try clear ew);(try clear es);(try clear e1);(try clear e2);(try clear ec);omega))];((try clear ew);(try clear es);(try clear e1);(try clear e2);(try clear ec);omega)
    have ec:wrap64 (D8 l x y i+1)=D8 l x y i+1:=by unfold D8;rw [Af (by ((try clear ew);(try clear es);(try clear e1);(try clear e2);(try clear ec);omega)) (by ((try clear ew);(try clear es);(try clear e1);(try clear e2);(try clear ec);omega))]
    have yes:Cor (Ad l i) x y→Ev (fun k=>Br.l0 k x y (D8 l x y i+1) l (l.length:Int) ((i+1:Nat):Int)) (D8 l x y l.length):=fun h=>by
      rw [show D8 l x y (i+1)=D8 l x y i+1 from by unfold D8;simp only [cnt];rw [if_pos h]] at hn;exact hn
    have no:¬ Cor (Ad l i) x y→Ev (fun k=>Br.l0 k x y (D8 l x y i) l (l.length:Int) ((i+1:Nat):Int)) (D8 l x y l.length):=fun h=>by
      rw [show D8 l x y (i+1)=D8 l x y i from by unfold D8;simp only [cnt];rw [if_neg h];((try clear ew);(try clear es);(try clear e1);(try clear e2);(try clear ec);omega)] at hn;exact hn
    refine Ev.succ ?_
    simp only [Br.l0,Dg,ew,ec]
    rw [Af (n:=(Ad l i).f0+(Ad l i).f2) (by ((try clear ew);(try clear es);(try clear e1);(try clear e2);(try clear ec);omega)) (by ((try clear ew);(try clear es);(try clear e1);(try clear e2);(try clear ec);omega)),Af (n:=(Ad l i).f1+(Ad l i).f2) (by ((try clear ew);(try clear es);(try clear e1);(try clear e2);(try clear ec);omega)) (by ((try clear ew);(try clear es);(try clear e1);(try clear e2);(try clear ec);omega))]
    refine Ev.pos (by ((try clear ew);(try clear es);(try clear e1);(try clear e2);(try clear ec);omega)) (Ev.pos (by ((try clear ew);(try clear es);(try clear e1);(try clear e2);(try clear ec);omega)) (Ev.pos (by ((try clear ew);(try clear es);(try clear e1);(try clear e2);(try clear ec);omega)) ?_))
    unfold Cor at yes no
    by_cases c1:x=(Ad l i).f0
    · refine Ev.pos c1 ?_
      by_cases c2:y=(Ad l i).f1
      · exact Ev.pos c2 (yes (by ((try clear ew);(try clear es);(try clear e1);(try clear e2);(try clear ec);omega)))
      · refine Ev.neg c2 ?_
        by_cases c3:y=(Ad l i).f1+(Ad l i).f2
        · exact Ev.pos c3 (yes (by ((try clear ew);(try clear es);(try clear e1);(try clear e2);(try clear ec);omega)))
        · exact Ev.neg c3 (no (by ((try clear ew);(try clear es);(try clear e1);(try clear e2);(try clear ec);omega)))
    · refine Ev.neg c1 ?_
      by_cases c4:x=(Ad l i).f0+(Ad l i).f2
      · refine Ev.pos c4 ?_
        by_cases c2:y=(Ad l i).f1
        · exact Ev.pos c2 (yes (by ((try clear ew);(try clear es);(try clear e1);(try clear e2);(try clear ec);omega)))
        · refine Ev.neg c2 ?_
          by_cases c3:y=(Ad l i).f1+(Ad l i).f2
          · exact Ev.pos c3 (yes (by ((try clear ew);(try clear es);(try clear e1);(try clear e2);(try clear ec);omega)))
          · exact Ev.neg c3 (no (by ((try clear ew);(try clear es);(try clear e1);(try clear e2);(try clear ec);omega)))
      · exact Ev.neg c4 (no (by ((try clear ew);(try clear es);(try clear e1);(try clear e2);(try clear ec);omega)))
theorem Q0 {W H:Int} {l:List Sq} (hg:Bq W H l) (x y:Int):Ev (fun k=>Br.f k W H l x y) (D8 l x y l.length):=by
  unfold Br.f
  exact Nu hg x y l.length 0 (by ((try clear ew);(try clear es);(try clear e1);(try clear e2);(try clear ec);omega)) (Nat.zero_le _)
theorem J9 {W H : Int} {l : List Sq} (hg : Bq W H l) : ∀ (d i : Nat), l.length - i = d → i ≤ l.length →
    Ev (fun k=>B1.l0 k (Dj l i) l (l.length:Int) (i:Int) W H l) (Dj l l.length,true):=by
  intro d
  have h30:=hg.2.2.1
  induction d with
  | zero =>
    intro i hd hi
    obtain rfl:i=l.length:=by ((try clear ew);(try clear es);(try clear e1);(try clear e2);(try clear ec);omega)
    refine Ev.succ ?_
    simp only [B1.l0]
    exact Ev.neg (by ((try clear ew);(try clear es);(try clear e1);(try clear e2);(try clear ec);omega)) (Ev.now _)
  | succ d ih =>
    intro i hd hi
    have hn:=ih (i+1) (by ((try clear ew);(try clear es);(try clear e1);(try clear e2);(try clear ec);omega)) (by ((try clear ew);(try clear es);(try clear e1);(try clear e2);(try clear ec);omega))
    have hl:=G7 l i
    have ew:wrap64 ((i:Int)+1)=((i+1:Nat):Int):=by rw [Af (by ((try clear ew);(try clear es);(try clear e1);(try clear e2);(try clear ec);omega)) (by ((try clear ew);(try clear es);(try clear e1);(try clear e2);(try clear ec);omega))];((try clear ew);(try clear es);(try clear e1);(try clear e2);(try clear ec);omega)
    refine Ev.succ ?_
    simp only [B1.l0,Dg,ew]
    refine Ev.pos (by ((try clear ew);(try clear es);(try clear e1);(try clear e2);(try clear ec);omega)) (Ev.pos (by ((try clear ew);(try clear es);(try clear e1);(try clear e2);(try clear ec);omega)) (Ev.pos (by ((try clear ew);(try clear es);(try clear e1);(try clear e2);(try clear ec);omega)) (Ev.bind (Q0 hg _ _) ?_)))
    simp only [Dj] at hn
    by_cases c:D8 l (Ad l i).f0 (Ad l i).f1 l.length=4
    · rw [if_pos c] at hn
      exact Ev.pos c (Ev.pos (by ((try clear ew);(try clear es);(try clear e1);(try clear e2);(try clear ec);omega)) hn)
    · rw [if_neg c] at hn
      exact Ev.neg c hn
theorem Nv {W H : Int} {l : List Sq} (hg : Bq W H l) (O : List (List Int)) (hO : O.length ≤ 1000) (m : Nat) (s : Sq) (R : List (List Int))
    (h:Ev (fun k=>if D8 l s.f0 s.f1 l.length=4 then At.l0 k (O++[[s.f0,s.f1]]) l (l.length:Int) (wrap64 ((m:Int)+1)) W H l else At.l0 k O l (l.length:Int) (wrap64 ((m:Int)+1)) W H l) R) :
    ∀ (d i:Nat),l.length-i=d→i≤l.length→Ev (fun k=>At.l1 k O (D8 l s.f0 s.f1 i) l (l.length:Int) (m:Int) l (l.length:Int) (i:Int) W H l s.f0 s.f1 s.f2) R:=by
  intro d
  have h30:=hg.2.2.1
  have hW:=hg.1
  have hH:=hg.2.1
  induction d with
  | zero =>
    intro i hd hi
    obtain rfl:i=l.length:=by ((try clear ew);(try clear es);(try clear e1);(try clear e2);(try clear ec);omega)
    refine Ev.succ ?_
    simp only [At.l1]
    refine Ev.neg (by ((try clear ew);(try clear es);(try clear e1);(try clear e2);(try clear ec);omega)) ?_
    by_cases c:D8 l s.f0 s.f1 l.length=4
    · simp only [if_pos c] at h ⊢
      exact Ev.pos (by ((try clear ew);(try clear es);(try clear e1);(try clear e2);(try clear ec);omega)) h
    · simp only [if_neg c] at h ⊢
      exact h
  | succ d ih =>
    intro i hd hi
    have hok:=(hg.2.2.2.1 i (by ((try clear ew);(try clear es);(try clear e1);(try clear e2);(try clear ec);omega))).1
    unfold Ins at hok
    have hb:=cnt_bd (fun i=>Cor (Ad l i) s.f0 s.f1) i
    have hn:=ih (i+1) (by ((try clear ew);(try clear es);(try clear e1);(try clear e2);(try clear ec);omega)) (by ((try clear ew);(try clear es);(try clear e1);(try clear e2);(try clear ec);omega))
    have ew:wrap64 ((i:Int)+1)=((i+1:Nat):Int):=by rw [Af (by ((try clear ew);(try clear es);(try clear e1);(try clear e2);(try clear ec);omega)) (by ((try clear ew);(try clear es);(try clear e1);(try clear e2);(try clear ec);omega))];((try clear ew);(try clear es);(try clear e1);(try clear e2);(try clear ec);omega)
    have ec:∀ b:Bool,b=decide (Cor (Ad l i) s.f0 s.f1)→Ev (fun k=>(Cg.f b).bind fun t=>At.l1 k O (wrap64 (D8 l s.f0 s.f1 i+t)) l (l.length:Int) (m:Int) l (l.length:Int) ((i+1:Nat):Int) W H l s.f0 s.f1 s.f2) R:=by
      rintro b rfl
      refine Ev.bindc (bitb_eq _) ?_
      rw [show wrap64 (D8 l s.f0 s.f1 i+(if decide (Cor (Ad l i) s.f0 s.f1)=true then 1 else 0))=D8 l s.f0 s.f1 (i+1) from by
        unfold D8;simp only [cnt,decide_eq_true_eq]
        split <;> rw [Af (by ((try clear ew);(try clear es);(try clear e1);(try clear e2);(try clear ec);omega)) (by ((try clear ew);(try clear es);(try clear e1);(try clear e2);(try clear ec);omega))]]
      exact hn
    refine Ev.succ ?_
    simp only [At.l1,Dg,ew]
    rw [Af (n:=(Ad l i).f0+(Ad l i).f2) (by ((try clear ew);(try clear es);(try clear e1);(try clear e2);(try clear ec);omega)) (by ((try clear ew);(try clear es);(try clear e1);(try clear e2);(try clear ec);omega)),Af (n:=(Ad l i).f1+(Ad l i).f2) (by ((try clear ew);(try clear es);(try clear e1);(try clear e2);(try clear ec);omega)) (by ((try clear ew);(try clear es);(try clear e1);(try clear e2);(try clear ec);omega))]
    refine Ev.pos (by ((try clear ew);(try clear es);(try clear e1);(try clear e2);(try clear ec);omega)) (Ev.pos (by ((try clear ew);(try clear es);(try clear e1);(try clear e2);(try clear ec);omega)) (Ev.pos (by ((try clear ew);(try clear es);(try clear e1);(try clear e2);(try clear ec);omega)) ?_))
    by_cases c1:(Ad l i).f0=s.f0
    · refine Ev.pos c1 ?_
      by_cases c2:(Ad l i).f1=s.f1
      · exact Ev.pos c2 (ec true (decide_eq_true (by unfold Cor;((try clear ew);(try clear es);(try clear e1);(try clear e2);(try clear ec);omega))).symm)
      · refine Ev.neg c2 (ec _ ?_)
        show decide _=_
        exact decide_eq_decide.2 (by unfold Cor;((try clear ew);(try clear es);(try clear e1);(try clear e2);(try clear ec);omega))
    · refine Ev.neg c1 ?_
      by_cases c3:(Ad l i).f0+(Ad l i).f2=s.f0
      · refine Ev.pos c3 ?_
        by_cases c2:(Ad l i).f1=s.f1
        · exact Ev.pos c2 (ec true (decide_eq_true (by unfold Cor;((try clear ew);(try clear es);(try clear e1);(try clear e2);(try clear ec);omega))).symm)
        · refine Ev.neg c2 (ec _ ?_)
          show decide _=_
          exact decide_eq_decide.2 (by unfold Cor;((try clear ew);(try clear es);(try clear e1);(try clear e2);(try clear ec);omega))
      · exact Ev.neg c3 (ec false (decide_eq_false (by unfold Cor;((try clear ew);(try clear es);(try clear e1);(try clear e2);(try clear ec);omega))).symm)
theorem Ka {W H : Int} {l : List Sq} (hg : Bq W H l) : ∀ (d i : Nat), l.length - i = d → i ≤ l.length →
    Ev (fun k=>At.l0 k (Dj l i) l (l.length:Int) (i:Int) W H l) (Dj l l.length):=by
  intro d
  have h30:=hg.2.2.1
  induction d with
  | zero =>
    intro i hd hi
    obtain rfl:i=l.length:=by ((try clear ew);(try clear es);(try clear e1);(try clear e2);(try clear ec);omega)
    refine Ev.succ ?_
    simp only [At.l0]
    exact Ev.neg (by ((try clear ew);(try clear es);(try clear e1);(try clear e2);(try clear ec);omega)) (Ev.now _)
  | succ d ih =>
    intro i hd hi
    have hn:=ih (i+1) (by ((try clear ew);(try clear es);(try clear e1);(try clear e2);(try clear ec);omega)) (by ((try clear ew);(try clear es);(try clear e1);(try clear e2);(try clear ec);omega))
    have hl:=G7 l i
    have ew:wrap64 ((i:Int)+1)=((i+1:Nat):Int):=by rw [Af (by ((try clear ew);(try clear es);(try clear e1);(try clear e2);(try clear ec);omega)) (by ((try clear ew);(try clear es);(try clear e1);(try clear e2);(try clear ec);omega))];((try clear ew);(try clear es);(try clear e1);(try clear e2);(try clear ec);omega)
    have skip:((Ad l i).f0=0∨(Ad l i).f1=0)→Ev (fun k=>At.j1 k (Dj l i) l (l.length:Int) (i:Int) true W H l (Ad l i).f0 (Ad l i).f1 (Ad l i).f2) (Dj l l.length):=fun he=>by
      refine Ev.succ ?_
      simp only [At.j1,ew]
      simp only [Dj] at hn
      rw [if_neg (Kh hg _ _ he)] at hn
      exact Ev.pos trivial hn
    refine Ev.succ ?_
    simp only [At.l0,Dg]
    refine Ev.pos (by ((try clear ew);(try clear es);(try clear e1);(try clear e2);(try clear ec);omega)) (Ev.pos (by ((try clear ew);(try clear es);(try clear e1);(try clear e2);(try clear ec);omega)) (Ev.pos (by ((try clear ew);(try clear es);(try clear e1);(try clear e2);(try clear ec);omega)) ?_))
    by_cases c1:(Ad l i).f0=0
    · exact Ev.pos c1 (skip (.inl c1))
    · refine Ev.neg c1 ?_
      by_cases c2:(Ad l i).f1=0
      · rw [show ((Ad l i).f1==0)=true from by rw [c2];rfl]
        exact skip (.inr c2)
      · rw [show ((Ad l i).f1==0)=false from by simpa using c2]
        refine Ev.succ ?_
        simp only [At.j1]
        refine Ev.neg (by simp) ?_
        refine Nv hg (Dj l i) (by ((try clear ew);(try clear es);(try clear e1);(try clear e2);(try clear ec);omega)) i (Ad l i) (Dj l l.length) ?_ l.length 0 (by ((try clear ew);(try clear es);(try clear e1);(try clear e2);(try clear ec);omega)) (Nat.zero_le _)
        rw [ew]
        simp only [Dj] at hn
        by_cases c:D8 l (Ad l i).f0 (Ad l i).f1 l.length=4
        · rw [if_pos c] at hn
          exact Ev.pos c hn
        · rw [if_neg c] at hn
          exact Ev.neg c hn
theorem both_ev (W H:Int) (l:List Sq):∃ R:List (List Int)×Bool,R.1.length≤1000000∧(∀ r ∈ R.1,r.length≤1000)∧Ev (fun k=>B1.f k W H l) R∧Ev (fun k=>Do.f k W H l) R:=by
  by_cases hg:Bq W H l
  · have h30:=hg.2.2.1
    have h1:=G7 l l.length
    refine ⟨(Dj l l.length,true),by show (Dj l l.length).length≤1000000;((try clear ew);(try clear es);(try clear e1);(try clear e2);(try clear ec);omega),fun r hr=>by have:=Jb l l.length r hr;((try clear ew);(try clear es);(try clear e1);(try clear e2);(try clear ec);omega),?_,?_⟩
    · unfold B1.f
      exact Ev.bind (Cp W H l) (Ev.pos (decide_eq_true hg) (J9 hg l.length 0 (by ((try clear ew);(try clear es);(try clear e1);(try clear e2);(try clear ec);omega)) (Nat.zero_le _)))
    · unfold Do.f At.f
      exact Ev.bind (C0 W H l) (Ev.pos (decide_eq_true hg) (Ev.bind (Ka hg l.length 0 (by ((try clear ew);(try clear es);(try clear e1);(try clear e2);(try clear ec);omega)) (Nat.zero_le _)) (Ev.now _)))
  · refine ⟨([],false),Nat.zero_le _,fun r hr=>absurd hr (by simp),?_,?_⟩
    · unfold B1.f
      exact Ev.bind (Cp W H l) (Ev.neg (by simpa using hg) (Ev.now _))
    · unfold Do.f
      exact Ev.bind (C0 W H l) (Ev.neg (by simpa using hg) (Ev.now _))

theorem Q8 {α:Type} (p q:α→Bool) (l:List α) (h:∀ t ∈ l,p t=q t):Ew p l=Ew q l:=by
  have e:∀ l:List α,(∀ t ∈ l,p t=q t)→l.any p=l.any q∧l.findIdx p=l.findIdx q:=by
    intro l
    induction l with
    | nil=>intro _;exact ⟨rfl,rfl⟩
    | cons a t ih =>
      intro h
      obtain ⟨h1,h2⟩:=ih (fun x hx=>h x (List.mem_cons_of_mem _ hx))
      have ha:=h a List.mem_cons_self
      refine ⟨by simp only [List.any_cons,ha,h1],?_⟩
      rw [List.findIdx_cons,List.findIdx_cons,ha,h2]
  obtain ⟨h1,h2⟩:=e l h
  unfold Ew
  rw [h1,h2]
theorem mem_ins {W H:Int} {l:List Sq} (hg:Bq W H l) (t:Sq) (ht:t ∈ l):Ins W H t:=by
  obtain ⟨j,hj,e⟩:=List.getElem_of_mem ht
  rw [← e,← Bx l j hj]
  exact (hg.2.2.2.1 j hj).1
theorem Q9 {W H:Int} {l:List Sq} (hg:Bq W H l) (x y:Int) (hx:0≤x∧x<W) (hy:0≤y∧y<H):E1.f W H l x y=some (Ew (fun t=>decide (Ck t x y)) l):=by
  unfold E1.f Ba.f
  rw [Option.bind_some]
  congr 1
  refine Q8 _ _ l (fun t ht=>?_)
  have hb:Ins W H (⟨x,y,1⟩:Sq):=by unfold Ins;simp only;omega
  have:=Jx (a:=t) (b:=⟨x,y,1⟩) hg.1.2 hg.2.1.2 (mem_ins hg t ht) hb
  simp only at this
  rw [this]
  unfold Ovl Ck
  simp only [Option.getD_some]
  exact decide_eq_decide.2 ⟨fun h=>by omega,fun h=>by omega⟩
theorem Qe {W H : Int} {l : List Sq} (hg : Bq W H l) (x y : Int) (hx : 0 ≤ x ∧ x < W) (hy : 0 ≤ y ∧ y < H) : ∀ (d i : Nat), l.length - i = d → i ≤ l.length → (∀ j, j < i → ¬ Ck (Ad l j) x y) →
    Ev (fun k=>Bt.l0 k x y l (l.length:Int) (i:Int)) (Ew (fun t=>decide (Ck t x y)) l,true):=by
  intro d
  induction d with
  | zero =>
    intro i hd hi hn
    obtain ⟨j,hj,hc⟩:=Jk hg x y hx hy
    exact absurd hc (hn j (by omega))
  | succ d ih =>
    intro i hd hi hn
    have hlt:i<l.length:=by omega
    have h30:=hg.2.2.1
    have a:=(hg.2.2.2.1 i hlt).1
    have w1:=hg.1
    have w2:=hg.2.1
    unfold Ins at a
    have next:¬ Ck (Ad l i) x y→Ev (fun k=>Bt.l0 k x y l (l.length:Int) ((i+1:Nat):Int)) (Ew (fun t=>decide (Ck t x y)) l,true):=fun hc =>
      ih (i+1) (by omega) (by omega) (fun j hj=>by
        by_cases e:j=i
        · rw [e];exact hc
        · exact hn j (by omega))
    refine Ev.succ ?_
    simp only [Bt.l0,Dg]
    rw [show wrap64 ((i:Int)+1)=((i+1:Nat):Int) from by rw [Af (by omega) (by omega)];omega,Af (n:=(Ad l i).f0+(Ad l i).f2) (by omega) (by omega),Af (n:=(Ad l i).f0+(Ad l i).f2-1) (by omega) (by omega),Af (n:=(Ad l i).f1+(Ad l i).f2) (by omega) (by omega),Af (n:=(Ad l i).f1+(Ad l i).f2-1) (by omega) (by omega)]
    refine Ev.pos (by omega) (Ev.pos (by omega) (Ev.pos (by omega) (Ev.bindc (E3 _ _ _) ?_)))
    by_cases c1:(Ad l i).f0≤x∧x≤(Ad l i).f0+(Ad l i).f2-1
    · rw [decide_eq_true c1]
      refine Ev.pos rfl (Ev.bindc (E3 _ _ _) ?_)
      by_cases c2:(Ad l i).f1≤y∧y≤(Ad l i).f1+(Ad l i).f2-1
      · rw [decide_eq_true c2]
        refine Ev.pos rfl (Ev.eqr (Ev.now _) ?_)
        have hin:Ck (Ad l i) x y:=by unfold Ck;omega
        rw [Md _ l i (Ad l i) (by rw [Bx l i hlt];exact List.getElem?_eq_getElem hlt) (decide_eq_true hin) (fun j hj b hb=>by
          have hjl:j<l.length:=by omega
          rw [List.getElem?_eq_getElem hjl] at hb
          have:=hn j hj
          rw [Bx l j hjl,Option.some.inj hb] at this
          exact decide_eq_false this)]
      · rw [decide_eq_false c2]
        exact Ev.neg (by decide) (next fun hc=>c2 (by unfold Ck at hc;omega))
    · rw [decide_eq_false c1]
      exact Ev.neg (by decide) (next fun hc=>c1 (by unfold Ck at hc;omega))
def Ep (W H:Int) (l:List Sq) (x y:Int):Prop:=Bq W H l∧(0≤x∧x<W)∧(0≤y∧y<H)
instance (W H:Int) (l:List Sq) (x y:Int):Decidable (Ep W H l x y):=by unfold Ep;infer_instance
theorem Ef (W H:Int) (l:List Sq) (x y:Int):Ev (fun k=>Cf.f k W H l x y) (if Ep W H l x y then (Ew (fun t=>decide (Ck t x y)) l,true) else (0,false)):=by
  unfold Cf.f
  refine Ev.bind (C0 W H l) ?_
  by_cases hg:Bq W H l
  · rw [decide_eq_true hg]
    have w1:=hg.1
    have w2:=hg.2.1
    refine Ev.pos rfl (Ev.bindc (Gf _ _ _) ?_)
    rw [Af (n:=W-1) (by omega) (by omega),Af (n:=H-1) (by omega) (by omega)]
    by_cases c1:0≤x∧x≤W-1
    · rw [decide_eq_true c1]
      refine Ev.pos rfl (Ev.bindc (Gf _ _ _) ?_)
      by_cases c2:0≤y∧y≤H-1
      · rw [decide_eq_true c2,if_pos (show Ep W H l x y from ⟨hg,by omega,by omega⟩)]
        exact Ev.pos rfl (Ev.bindc (Q9 hg x y (by omega) (by omega)) (Ev.now _))
      · rw [decide_eq_false c2,if_neg (fun h:Ep W H l x y=>c2 (by have:=h.2.2;omega))]
        exact Ev.neg (by decide) (Ev.now _)
    · rw [decide_eq_false c1,if_neg (fun h:Ep W H l x y=>c1 (by have:=h.2.1;omega))]
      exact Ev.neg (by decide) (Ev.now _)
  · rw [decide_eq_false hg,if_neg (fun h:Ep W H l x y=>hg h.1)]
    exact Ev.neg (by decide) (Ev.now _)
theorem Mh (W H:Int) (l:List Sq) (x y:Int):Ev (fun k=>Bt.f k W H l x y) (if Ep W H l x y then (Ew (fun t=>decide (Ck t x y)) l,true) else (0,false)):=by
  unfold Bt.f
  have fall:Ev (fun k=>Bt.j0 k x y true W H l) (0,false):=by
    refine Ev.succ ?_
    simp only [Bt.j0]
    exact Ev.pos trivial (Ev.now _)
  refine Ev.bind (Cp W H l) ?_
  by_cases hg:Bq W H l
  · rw [decide_eq_true hg]
    have w1:=hg.1
    have w2:=hg.2.1
    refine Ev.pos rfl (Ev.bindc (E3 _ _ _) ?_)
    rw [Af (n:=W-1) (by omega) (by omega),Af (n:=H-1) (by omega) (by omega)]
    by_cases c1:0≤x∧x≤W-1
    · rw [decide_eq_true c1]
      refine Ev.pos rfl (Ev.bindc (E3 _ _ _) ?_)
      by_cases c2:0≤y∧y≤H-1
      · rw [decide_eq_true c2,if_pos (show Ep W H l x y from ⟨hg,by omega,by omega⟩)]
        refine Ev.succ ?_
        simp only [Bt.j0,Bool.not_true]
        exact Ev.neg (by decide) (Qe hg x y (by omega) (by omega) l.length 0 (by omega) (Nat.zero_le _) (fun j hj=>by omega))
      · rw [decide_eq_false c2,if_neg (fun h:Ep W H l x y=>c2 (by have:=h.2.2;omega))]
        exact fall
    · rw [decide_eq_false c1,if_neg (fun h:Ep W H l x y=>c1 (by have:=h.2.1;omega))]
      exact Ev.neg (by decide) fall
  · rw [decide_eq_false hg,if_neg (fun h:Ep W H l x y=>hg h.1)]
    exact Ev.neg (by decide) fall

/-! ### crosses: four squares meet -/
theorem J0 (P:Nat→Prop) [DecidablePred P] (n:Nat) (h:1≤cnt P n):∃ i,i<n∧P i:=by
  by_cases c:∃ i,i<n∧P i
  · exact c
  · have:=Mf P n (fun i hi hp=>c ⟨i,hi,hp⟩)
    ((try clear ew);(try clear es);(try clear e1);(try clear e2);(try clear ec);omega)
theorem Ra {W H : Int} {l : List Sq} (hg : Bq W H l) (x y : Int) (h : D8 l x y l.length = 4) :
    (∃ i,i<l.length∧(Ad l i).f0=x∧(Ad l i).f1=y)∧(∃ i,i<l.length∧(Ad l i).f0+(Ad l i).f2=x∧(Ad l i).f1=y) ∧
    (∃ i,i<l.length∧(Ad l i).f0=x∧(Ad l i).f1+(Ad l i).f2=y)∧(∃ i,i<l.length∧(Ad l i).f0+(Ad l i).f2=x∧(Ad l i).f1+(Ad l i).f2=y):=by
  have hin:∀ i,i<l.length→Ins W H (Ad l i):=fun i hi=>(hg.2.2.2.1 i hi).1
  have hno:∀ i j,i<j→j<l.length→¬ Ovl (Ad l j) (Ad l i):=fun i j hij hj=>(hg.2.2.2.1 j hj).2.2 i hij
  have h1:=Jl (fun i=>Cor (Ad l i) x y) (fun i=>((Ad l i).f0=x∧(Ad l i).f1=y)∨((Ad l i).f0+(Ad l i).f2=x∧(Ad l i).f1=y)) (fun i=>((Ad l i).f0=x∧(Ad l i).f1+(Ad l i).f2=y)∨((Ad l i).f0+(Ad l i).f2=x∧(Ad l i).f1+(Ad l i).f2=y)) l.length (fun i hi hc=>by
    unfold Cor at hc;((try clear ew);(try clear es);(try clear e1);(try clear e2);(try clear ec);omega))
  have h2:=Jl (fun i=>((Ad l i).f0=x∧(Ad l i).f1=y)∨((Ad l i).f0+(Ad l i).f2=x∧(Ad l i).f1=y)) (fun i=>(Ad l i).f0=x∧(Ad l i).f1=y) (fun i=>(Ad l i).f0+(Ad l i).f2=x∧(Ad l i).f1=y) l.length (fun i hi hc=>hc)
  have h3:=Jl (fun i=>((Ad l i).f0=x∧(Ad l i).f1+(Ad l i).f2=y)∨((Ad l i).f0+(Ad l i).f2=x∧(Ad l i).f1+(Ad l i).f2=y)) (fun i=>(Ad l i).f0=x∧(Ad l i).f1+(Ad l i).f2=y) (fun i=>(Ad l i).f0+(Ad l i).f2=x∧(Ad l i).f1+(Ad l i).f2=y) l.length (fun i hi hc=>hc)
  have o1:=Gq (fun i=>(Ad l i).f0=x∧(Ad l i).f1=y) l.length (fun i j hij hj hi hj2=>hno i j hij hj (by
    have a:=hin i (by ((try clear ew);(try clear es);(try clear e1);(try clear e2);(try clear ec);omega));have b:=hin j hj
    unfold Ins at a b;unfold Ovl;((try clear ew);(try clear es);(try clear e1);(try clear e2);(try clear ec);omega)))
  have o2:=Gq (fun i=>(Ad l i).f0+(Ad l i).f2=x∧(Ad l i).f1=y) l.length (fun i j hij hj hi hj2=>hno i j hij hj (by
    have a:=hin i (by ((try clear ew);(try clear es);(try clear e1);(try clear e2);(try clear ec);omega));have b:=hin j hj
    unfold Ins at a b;unfold Ovl;((try clear ew);(try clear es);(try clear e1);(try clear e2);(try clear ec);omega)))
  have o3:=Gq (fun i=>(Ad l i).f0=x∧(Ad l i).f1+(Ad l i).f2=y) l.length (fun i j hij hj hi hj2=>hno i j hij hj (by
    have a:=hin i (by ((try clear ew);(try clear es);(try clear e1);(try clear e2);(try clear ec);omega));have b:=hin j hj
    unfold Ins at a b;unfold Ovl;((try clear ew);(try clear es);(try clear e1);(try clear e2);(try clear ec);omega)))
  have o4:=Gq (fun i=>(Ad l i).f0+(Ad l i).f2=x∧(Ad l i).f1+(Ad l i).f2=y) l.length (fun i j hij hj hi hj2=>hno i j hij hj (by
    have a:=hin i (by ((try clear ew);(try clear es);(try clear e1);(try clear e2);(try clear ec);omega));have b:=hin j hj
    unfold Ins at a b;unfold Ovl;((try clear ew);(try clear es);(try clear e1);(try clear e2);(try clear ec);omega)))
  unfold D8 at h
  exact ⟨J0 _ l.length (by ((try clear ew);(try clear es);(try clear e1);(try clear e2);(try clear ec);omega)),J0 _ l.length (by ((try clear ew);(try clear es);(try clear e1);(try clear e2);(try clear ec);omega)),J0 _ l.length (by ((try clear ew);(try clear es);(try clear e1);(try clear e2);(try clear ec);omega)),J0 _ l.length (by ((try clear ew);(try clear es);(try clear e1);(try clear e2);(try clear ec);omega))⟩
theorem Ki (l:List Sq):∀ n,∀ r ∈ Dj l n,∃ m,m<n∧D8 l (Ad l m).f0 (Ad l m).f1 l.length=4∧r=[(Ad l m).f0,(Ad l m).f1]
  | 0,r,h=>by simp [Dj] at h
  | n+1,r,h=>by
    simp only [Dj] at h
    split at h
    · rename_i c
      rw [List.mem_append] at h
      rcases h with h|h
      · obtain ⟨m,a,b⟩:=Ki l n r h;exact ⟨m,by ((try clear ew);(try clear es);(try clear e1);(try clear e2);(try clear ec);omega),b⟩
      · exact ⟨n,by ((try clear ew);(try clear es);(try clear e1);(try clear e2);(try clear ec);omega),c,List.mem_singleton.1 h⟩
    · obtain ⟨m,a,b⟩:=Ki l n r h;exact ⟨m,by ((try clear ew);(try clear es);(try clear e1);(try clear e2);(try clear ec);omega),b⟩
/-- the square that is found at a place of a cut -/
theorem at_spec {W H : Int} {l : List Sq} (hg : Bq W H l) (x y : Int) (hx : 0 ≤ x ∧ x < W) (hy : 0 ≤ y ∧ y < H) :
    ∃ j,j<l.length∧Ck (Ad l j) x y∧Ew (fun t=>decide (Ck t x y)) l=(j:Int):=by
  obtain ⟨j,hj,hin⟩:=Jk hg x y hx hy
  refine ⟨j,hj,hin,?_⟩
  refine Md _ l j (l[j]) (List.getElem?_eq_getElem hj) (by rw [← Bx l j hj];exact decide_eq_true hin) (fun i hi b hb=>?_)
  have hil:i<l.length:=by ((try clear ew);(try clear es);(try clear e1);(try clear e2);(try clear ec);omega)
  rw [List.getElem?_eq_getElem hil] at hb
  rw [← Option.some.inj hb,← Bx l i hil]
  exact decide_eq_false fun h=>(hg.2.2.2.1 j hj).2.2 i hi (Jj hin h)
theorem at_uniq {W H:Int} {l:List Sq} (hg:Bq W H l) {i j:Nat} (hi:i<l.length) (hj:j<l.length) {x y:Int} (h1:Ck (Ad l i) x y) (h2:Ck (Ad l j) x y):i=j:=by
  rcases Nat.lt_trichotomy i j with q|q|q
  · exact absurd (Jj h2 h1) ((hg.2.2.2.1 j hj).2.2 i q)
  · exact q
  · exact absurd (Jj h1 h2) ((hg.2.2.2.1 i hi).2.2 j q)
theorem Kt {W H:Int} {l:List Sq} (hg:Bq W H l) {i:Nat} (hi:i<l.length) {x y:Int} (h:Ck (Ad l i) x y):(0≤x∧x<W)∧(0≤y∧y<H)∧Ew (fun t=>decide (Ck t x y)) l=(i:Int):=by
  have hI:=(hg.2.2.2.1 i hi).1
  have b:(0≤x∧x<W)∧(0≤y∧y<H):=by unfold Ins at hI;unfold Ck at h;((try clear ew);(try clear es);(try clear e1);(try clear e2);(try clear ec);omega)
  obtain ⟨j,hj,hin,e⟩:=at_spec hg x y b.1 b.2
  rw [at_uniq hg hi hj h hin]
  exact ⟨b.1,b.2,e⟩
/-- at a cross: four places of four squares -/
theorem Rb {W H : Int} {l : List Sq} (hg : Bq W H l) (r : List Int) (hr : r ∈ Dj l l.length) : ∃ (x y : Int) (a b d e : Nat), r = [x, y] ∧ (0 < x ∧ x < W) ∧ (0 < y ∧ y < H) ∧
    Ew (fun t=>decide (Ck t x y)) l=(a:Int)∧Ew (fun t=>decide (Ck t (x-1) y)) l=(b:Int)∧Ew (fun t=>decide (Ck t x (y-1))) l=(d:Int)∧Ew (fun t=>decide (Ck t (x-1) (y-1))) l=(e:Int) ∧
    a≠b∧a≠d∧a≠e∧b≠d∧b≠e∧d≠e:=by
  obtain ⟨m,hm,hc,rfl⟩:=Ki l l.length r hr
  have hI:=(hg.2.2.2.1 m hm).1
  have c1:(Ad l m).f0≠0:=fun h=>Kh hg _ _ (Or.inl h) hc
  have c2:(Ad l m).f1≠0:=fun h=>Kh hg _ _ (Or.inr h) hc
  obtain ⟨⟨a,ha,a1,a2⟩,⟨b,hb,b1,b2⟩,⟨d,hd,d1,d2⟩,⟨e,he,f1,f2⟩⟩:=Ra hg _ _ hc
  have ia:=(hg.2.2.2.1 a ha).1
  have ib:=(hg.2.2.2.1 b hb).1
  have id:=(hg.2.2.2.1 d hd).1
  have ie:=(hg.2.2.2.1 e he).1
  generalize hx:(Ad l m).f0=x at *
  generalize hy:(Ad l m).f1=y at *
  unfold Ins at hI ia ib id ie
  refine ⟨x,y,a,b,d,e,rfl,by ((try clear ew);(try clear es);(try clear e1);(try clear e2);(try clear ec);omega),by ((try clear ew);(try clear es);(try clear e1);(try clear e2);(try clear ec);omega),(Kt hg ha (by unfold Ck;((try clear ew);(try clear es);(try clear e1);(try clear e2);(try clear ec);omega))).2.2,(Kt hg hb (by unfold Ck;((try clear ew);(try clear es);(try clear e1);(try clear e2);(try clear ec);omega))).2.2,(Kt hg hd (by unfold Ck;((try clear ew);(try clear es);(try clear e1);(try clear e2);(try clear ec);omega))).2.2,(Kt hg he (by unfold Ck;((try clear ew);(try clear es);(try clear e1);(try clear e2);(try clear ec);omega))).2.2,?_,?_,?_,?_,?_,?_⟩ <;>
    (intro h;subst h;((try clear ew);(try clear es);(try clear e1);(try clear e2);(try clear ec);omega))
/-! what both sides answer, crosses -/
open Classical in
noncomputable def crsR (W H:Int) (l:List Sq):List (List Int)×Bool:=if Bq W H l then (Dj l l.length,true) else ([],false)
theorem Q1 (W H:Int) (l:List Sq):Ev (fun k=>B1.f k W H l) (crsR W H l):=by
  unfold B1.f crsR
  by_cases hg:Bq W H l
  · rw [if_pos hg]
    exact Ev.bind (Cp W H l) (Ev.pos (decide_eq_true hg) (J9 hg l.length 0 (by ((try clear ew);(try clear es);(try clear e1);(try clear e2);(try clear ec);omega)) (Nat.zero_le _)))
  · rw [if_neg hg]
    exact Ev.bind (Cp W H l) (Ev.neg (by simpa using hg) (Ev.now _))
theorem Q2 (W H:Int) (l:List Sq):Ev (fun k=>Do.f k W H l) (crsR W H l):=by
  unfold Do.f At.f crsR
  by_cases hg:Bq W H l
  · rw [if_pos hg]
    exact Ev.bind (C0 W H l) (Ev.pos (decide_eq_true hg) (Ev.bind (Ka hg l.length 0 (by ((try clear ew);(try clear es);(try clear e1);(try clear e2);(try clear ec);omega)) (Nat.zero_le _)) (Ev.now _)))
  · rw [if_neg hg]
    exact Ev.bind (C0 W H l) (Ev.neg (by simpa using hg) (Ev.now _))
theorem crsR_len (W H:Int) (l:List Sq):(crsR W H l).1.length≤30∧∀ r ∈ (crsR W H l).1,r.length=2:=by
  unfold crsR;split
  · rename_i h
    have:=G7 l l.length
    exact ⟨by have:=h.2.2.1.2;dsimp only;((try clear ew);(try clear es);(try clear e1);(try clear e2);(try clear ec);omega),Jb l l.length⟩
  · simp

/-! ### what SortFunc answers -/
theorem Rc (l:List Sq) (hb:∀ s ∈ l,BdSq s) (hl:l.length≤1000000):∃ r,Ax.f l=some r∧r.Perm l∧r.Pairwise LeP:=by
  unfold Ax.f
  rw [dif_pos ⟨hb,hl⟩]
  have hs:(Ey l hb).size=l.length:=by simp [Ey]
  have hps:=Sort.pdq_sorts (ltOf Gy) swoSq (Ey l hb) 0 l.length (Lib.bitLen l.length) true true (Nat.zero_le _) (by omega) (Or.inl rfl)
  generalize Sort.pdq (ltOf Gy) (Ey l hb) 0 l.length (Lib.bitLen l.length) true true=dd at hps ⊢
  have hsz:dd.size=l.length:=by rw [hps.1.1,hs]
  refine ⟨_,rfl,?_,?_⟩
  · have hp:=hps.1.2.2
    rw [Array.toList_extract,Array.toList_extract] at hp
    simp only [List.extract_eq_take_drop,List.drop_zero,Nat.sub_zero] at hp
    rw [List.take_of_length_le (by rw [Array.length_toList,hsz];exact Nat.le_refl _),List.take_of_length_le (by rw [Array.length_toList,hs];exact Nat.le_refl _)] at hp
    have hm:=hp.map (fun s:BSq=>s.1)
    have e:(Ey l hb).toList.map (fun s:BSq=>s.1)=l:=by simp [Ey]
    rw [e] at hm
    exact hm
  · rw [List.pairwise_map,List.pairwise_iff_getElem]
    intro i j hi hj hij
    rw [Array.length_toList] at hi hj
    have h:=hps.2 i j (Nat.zero_le _) hij (by omega)
    rw [ltSq,decide_eq_false_iff_not,getElem!_pos dd i hi,getElem!_pos dd j hj] at h
    simpa [LeP,Ee,G3] using h

/-! ### cuts whose squares are changed and put in order -/
def E7:List Sq→Int
  | []=>0
  | s::t=>s.f2*s.f2+E7 t
theorem Kj:∀ a b:List Sq,E7 (a++b)=E7 a+E7 b
  | [],b=>by simp [E7]
  | s::a,b=>by simp only [List.cons_append,E7,Kj a b];omega
theorem Rd {a b:List Sq} (h:a.Perm b):E7 a=E7 b:=by
  induction h with
  | nil=>rfl
  | cons x _ ih=>simp only [E7,ih]
  | swap x y l=>simp only [E7];omega
  | trans _ _ ih1 ih2=>exact ih1.trans ih2
theorem K6 (l:List Sq):∀ n,n≤l.length→Dk l n=E7 (l.take n)
  | 0,_=>by simp [Dk,E7]
  | n+1,h=>by
    rw [Dk,K6 l n (by omega),List.take_succ_eq_append_getElem (by omega),Kj,Bx l n (by omega)]
    simp only [E7];omega
theorem Mr (l:List Sq):Dk l l.length=E7 l:=by rw [K6 l l.length (Nat.le_refl _),List.take_length]
theorem Nn (f:Sq→Sq):∀ l:List Sq,(∀ s ∈ l,(f s).f2=s.f2)→E7 (l.map f)=E7 l
  | [],_=>rfl
  | s::t,h=>by simp only [List.map_cons,E7,h s List.mem_cons_self,Nn f t (fun r hr=>h r (List.mem_cons_of_mem _ hr))]
theorem Re {W H:Int} {l:List Sq} (hg:Bq W H l):l.Pairwise (fun a b=>¬ Ovl a b):=by
  rw [List.pairwise_iff_getElem]
  intro i j hi hj hij ho
  have:=(hg.2.2.2.1 j hj).2.2 i hij
  rw [Bx l i hi,Bx l j hj] at this
  exact this (Ih ho)
theorem good_of {W H:Int} {r:List Sq} (hW:1≤W∧W≤500) (hH:1≤H∧H≤500) (hl:1≤r.length∧r.length≤30) (hin:∀ s ∈ r,Ins W H s) (hs:r.Pairwise LeP) (hno:r.Pairwise (fun a b=>¬ Ovl a b)) (ha:E7 r=W*H):Bq W H r:=by
  rw [List.pairwise_iff_getElem] at hs hno
  refine ⟨hW,hH,hl,fun i hi=>⟨hin _ (Er r i hi),fun h0=>?_,fun j hj ho=>?_⟩,by rw [Mr,ha]⟩
  · have h1:=hs (i-1) i (by omega) hi (by omega)
    have h2:=hno (i-1) i (by omega) hi (by omega)
    have i1:=hin _ (Er r (i-1) (by omega))
    have i2:=hin _ (Er r i hi)
    rw [Bx r (i-1) (by omega)] at i1 ⊢
    rw [Bx r i hi] at i2 ⊢
    unfold LeP at h1
    unfold Ee Ovl Ins at *
    omega
  · have:=hno j i (by omega) hi hj
    rw [Bx r i hi,Bx r j (by omega)] at ho
    exact this (Ih ho)
theorem Qf {W H W' H' : Int} {l r : List Sq} (f : Sq → Sq) (hg : Bq W H l) (hW : 1 ≤ W' ∧ W' ≤ 500) (hH : 1 ≤ H' ∧ H' ≤ 500) (hWH : W' * H' = W * H)
    (hin:∀ s,Ins W H s→Ins W' H' (f s)) (hf2:∀ s,Ins W H s→(f s).f2=s.f2) (hov:∀ a b,Ins W H a→Ins W H b→Ovl (f a) (f b)→Ovl a b) (hp:r.Perm (l.map f)) (hs:r.Pairwise LeP):Bq W' H' r:=by
  have hl:=hp.length_eq
  rw [List.length_map] at hl
  have h30:=hg.2.2.1
  refine good_of hW hH (by omega) (fun s hs'=>?_) hs ?_ ?_
  · obtain ⟨q,hq,rfl⟩:=List.mem_map.1 (hp.mem_iff.1 hs')
    exact hin q (Ig hg hq)
  · rw [hp.pairwise_iff (fun h k=>h (Ih k)),List.pairwise_map]
    have:=Re hg
    rw [List.pairwise_iff_getElem] at this ⊢
    intro i j hi hj hij ho
    exact this i j hi hj hij (hov _ _ (Ig hg (List.getElem_mem hi)) (Ig hg (List.getElem_mem hj)) ho)
  · rw [Rd hp,Nn f l (fun s hs'=>hf2 s (Ig hg hs')),← Mr,hg.2.2.2.2,hWH]

/-! ### cuts that are turned -/
def tur (H:Int) (s:Sq):Sq:=⟨wrap64 ((wrap64 (H-s.f1))-s.f2),s.f0,s.f2⟩
theorem Ir {W H:Int} (hH:H≤500) {s:Sq} (h:Ins W H s):tur H s=⟨H-s.f1-s.f2,s.f0,s.f2⟩:=by
  obtain ⟨h1,_,_,h2,h3⟩:=h
  unfold tur
  rw [Af (n:=H-s.f1) (by omega) (by omega),Af (n:=H-s.f1-s.f2) (by omega) (by omega)]
theorem tur_bd {W H:Int} (hW:W≤500) (hH:H≤500) {s:Sq} (h:Ins W H s):BdSq (tur H s):=by
  rw [Ir hH h]
  obtain ⟨h1,h2,h3,h4,h5⟩:=h
  unfold BdSq
  dsimp only
  omega
theorem tur_dist {W H:Int} {l:List Sq} (hg:Bq W H l):Dist (l.map (tur H)):=by
  intro a ha b hb e0 e1
  obtain ⟨p,hp,rfl⟩:=List.mem_map.1 ha
  obtain ⟨q,hq,rfl⟩:=List.mem_map.1 hb
  have ip:=Ig hg hp
  have iq:=Ig hg hq
  have hH:=hg.2.1.2
  rw [Ir hH ip,Ir hH iq] at e0 e1
  dsimp only at e0 e1
  obtain ⟨p1,p2,p3,p4,p5⟩:=ip
  obtain ⟨q1,q2,q3,q4,q5⟩:=iq
  rw [I6 hg hp hq (by unfold Ovl;omega)]
theorem Nw (W H : Int) (l : List Sq) (hl : l.length ≤ 1000) (R : List Sq) (hR : Ev (fun k => Ak.f k (l.map (tur H))) R) : ∀ (t : List Sq) (i : Nat), l.drop i = t → i + t.length = l.length →
    Ev (fun k=>Cd.l0 k ((l.take i).map (tur H)) l (l.length:Int) (i:Int) W H l) (H,W,R):=by
  intro t
  induction t with
  | nil =>
    intro i hd hi
    simp only [List.length_nil] at hi
    refine Ev.succ ?_
    simp only [Cd.l0]
    rw [List.take_of_length_le (by omega)]
    exact Ev.neg (by omega) (Ev.bind hR (Ev.now _))
  | cons s t ih =>
    intro i hd hi
    obtain ⟨h1,h2,h3⟩:=Jy l i s t hd
    simp only [List.length_cons] at hi
    refine Ev.succ ?_
    simp only [Cd.l0]
    refine Ev.pos (by omega) (Ev.pos (by omega) (Ev.pos (by omega) (Ev.pos (by rw [List.length_map,List.length_take];omega) ?_)))
    rw [Dg,h2,Af (n:=(i:Int)+1) (by omega) (by omega)]
    have e:=J8 l (tur H) i s t hd
    have h:=ih (i+1) h3 (by omega)
    rw [← e] at h
    exact h
theorem Nx (W H : Int) (l : List Sq) (hl : l.length ≤ 1000) (R : List Sq) (hR : Ax.f (l.map (tur H)) = some R) : ∀ (t : List Sq) (i : Nat), l.drop i = t → i + t.length = l.length →
    Ev (fun k=>Ap.l0 k l (l.length:Int) (i:Int) W H l H W ((l.take i).map (tur H))) (H,W,R):=by
  intro t
  induction t with
  | nil =>
    intro i hd hi
    simp only [List.length_nil] at hi
    refine Ev.succ ?_
    simp only [Ap.l0]
    rw [List.take_of_length_le (by omega)]
    exact Ev.neg (by omega) (Ev.bindc hR (Ev.now _))
  | cons s t ih =>
    intro i hd hi
    obtain ⟨h1,h2,h3⟩:=Jy l i s t hd
    simp only [List.length_cons] at hi
    refine Ev.succ ?_
    simp only [Ap.l0]
    refine Ev.pos (by omega) (Ev.pos (by omega) (Ev.pos (by omega) ?_))
    rw [Dg,h2,Af (n:=(i:Int)+1) (by omega) (by omega)]
    refine Ev.bindc rfl (Ev.pos (by rw [List.length_map,List.length_take];omega) ?_)
    have e:=J8 l (tur H) i s t hd
    have h:=ih (i+1) h3 (by omega)
    rw [← e] at h
    exact h

/-! ### the straight lines across: those of a height, column by column -/
def Gg (l:List Sq) (y x:Int):Nat→Bool
  | 0=>false
  | n+1=>Gg l y x n||decide (((Ad l n).f1=y∨(Ad l n).f1+(Ad l n).f2=y)∧(Ad l n).f0≤x∧x<(Ad l n).f0+(Ad l n).f2)
theorem Is (l:List Sq) (y x:Int):∀ n,Gg l y x n=true↔∃ m,m<n∧((Ad l m).f1=y∨(Ad l m).f1+(Ad l m).f2=y)∧(Ad l m).f0≤x∧x<(Ad l m).f0+(Ad l m).f2
  | 0=>by simp [Gg]
  | n+1=>by
    rw [Gg,Bool.or_eq_true,Is l y x n,decide_eq_true_eq]
    constructor
    · rintro (⟨m,hm,h⟩|h)
      · exact ⟨m,by ((try clear ew);(try clear es);(try clear e1);(try clear e2);(try clear ec);omega),h⟩
      · exact ⟨n,by ((try clear ew);(try clear es);(try clear e1);(try clear e2);(try clear ec);omega),h⟩
    · rintro ⟨m,hm,h⟩
      by_cases e:m=n
      · subst e;exact .inr h
      · exact .inl ⟨m,by ((try clear ew);(try clear es);(try clear e1);(try clear e2);(try clear ec);omega),h⟩
def Dx (w:Nat) (f:Nat→Bool):List Bool:=(List.range w).map f
theorem Mi (w:Nat) (f:Nat→Bool):(Dx w f).length=w:=by simp [Dx]
theorem I3 {w:Nat} {f g:Nat→Bool} (h:∀ x,x<w→f x=g x):Dx w f=Dx w g:=by
  unfold Dx
  apply List.map_congr_left
  intro x hx
  exact h x (List.mem_range.1 hx)
theorem rowB_rd (w:Nat) (f:Nat→Bool) (i:Nat) (h:i<w):Go.Proofs.YteaomckihokakaaW.PrintWords.Id false (Dx w f) (i:Int)=f i:=by
  unfold Go.Proofs.YteaomckihokakaaW.PrintWords.Id Dx;rw [Int.toNat_natCast];simp [List.getD,h]
theorem rowB_set (w:Nat) (f:Nat→Bool) (j:Nat) (h:j<w):(Dx w f).set j true=Dx w (fun x=>f x||decide (x=j)):=by
  apply List.ext_getElem
  · simp [Dx]
  · intro i h1 h2
    simp only [Dx,List.length_map,List.length_range] at h2
    rw [List.getElem_set]
    simp only [Dx,List.getElem_map,List.getElem_range]
    by_cases e:j=i
    · subst e;simp
    · rw [if_neg e];simp;intro h';((try clear ew);(try clear es);(try clear e1);(try clear e2);(try clear ec);omega)
theorem Rf (w:Nat):List.replicate w false=Dx w (fun _=>false):=by
  apply List.ext_getElem
  · simp [Dx]
  · intro i h1 h2;simp [Dx]
def st (b:Nat→Bool) (y:Int):Nat→List (List Int)×Int
  | 0=>([],-1)
  | n+1=>if b n=true then ((st b y n).1,if (st b y n).2<0 then (n:Int) else (st b y n).2) else if (st b y n).2<0 then st b y n else ((st b y n).1++[[y,(st b y n).2,(n:Int)]],-1)
def fin (b:Nat→Bool) (y:Int) (n:Nat):List (List Int):=(st b y n).1++(if (st b y n).2<0 then [] else [[y,(st b y n).2,(n:Int)]])
theorem M6 (b:Nat→Bool) (y:Int) (n:Nat):¬ (st b y n).2<0↔0<n∧b (n-1)=true:=by
  cases n with
  | zero=>simp [st]
  | succ n =>
    rw [Nat.add_sub_cancel]
    by_cases h:b n=true
    · simp only [st,if_pos h]
      by_cases h2:(st b y n).2<0
      · rw [if_pos h2];simp [h]
      · rw [if_neg h2];simp [h];((try clear ew);(try clear es);(try clear e1);(try clear e2);(try clear ec);omega)
    · simp only [st,if_neg h]
      by_cases h2:(st b y n).2<0
      · rw [if_pos h2];simp [h,h2]
      · rw [if_neg h2];simp [h]
theorem It {b:Nat→Bool} {y:Int} {n:Nat} (h:¬ b n=true):fin b y (n+1)=fin b y n:=by
  unfold fin
  simp only [st,if_neg h]
  by_cases h2:(st b y n).2<0
  · rw [if_pos h2];simp [h2]
  · rw [if_neg h2];simp [h2]
theorem Jm {b:Nat→Bool} {y:Int} {n:Nat} (h:b n=true) (h2:(st b y n).2<0):fin b y (n+1)=fin b y n++[[y,(n:Int),(n:Int)+1]]:=by
  unfold fin
  simp only [st,if_pos h,if_pos h2]
  rw [if_neg (by ((try clear ew);(try clear es);(try clear e1);(try clear e2);(try clear ec);omega))]
  simp
theorem Ij {b:Nat→Bool} {y:Int} {n:Nat} (h2:¬ (st b y n).2<0):fin b y n=(st b y n).1++[[y,(st b y n).2,(n:Int)]]:=by
  unfold fin;rw [if_neg h2]
theorem I7 {b:Nat→Bool} {y:Int} {n:Nat} (h:b n=true) (h2:¬ (st b y n).2<0):fin b y (n+1)=(st b y n).1++[[y,(st b y n).2,(n:Int)+1]]:=by
  unfold fin
  simp only [st,if_pos h,if_neg h2]
  simp
theorem st_close {b:Nat→Bool} {y:Int} {n:Nat} (h:¬ b n=true):(st b y (n+1)).1=fin b y n:=by
  unfold fin
  simp only [st,if_neg h]
  by_cases h2:(st b y n).2<0
  · simp [h2]
  · simp [h2]
theorem Ku (b:Nat→Bool) (y:Int):∀ n,(fin b y n).length≤n
  | 0=>by simp [fin,st]
  | n+1=>by
    have ih:=Ku b y n
    by_cases h:b n=true
    · by_cases h2:(st b y n).2<0
      · rw [Jm h h2];simp;((try clear ew);(try clear es);(try clear e1);(try clear e2);(try clear ec);omega)
      · rw [I7 h h2];rw [Ij h2] at ih;simp at ih ⊢;((try clear ew);(try clear es);(try clear e1);(try clear e2);(try clear ec);omega)
    · rw [It h];((try clear ew);(try clear es);(try clear e1);(try clear e2);(try clear ec);omega)
theorem st_len (b:Nat→Bool) (y:Int) (n:Nat):(st b y n).1.length≤n:=by
  have:=Ku b y n;unfold fin at this;rw [List.length_append] at this;((try clear ew);(try clear es);(try clear e1);(try clear e2);(try clear ec);omega)
theorem M7 (b:Nat→Bool) (y:Int):∀ n,∀ r ∈ fin b y n,∃ a z,r=[y,a,z]
  | 0,r,hr=>by simp [fin,st] at hr
  | n+1,r,hr=>by
    have ih:=M7 b y n
    by_cases h:b n=true
    · by_cases h2:(st b y n).2<0
      · rw [Jm h h2,List.mem_append] at hr
        rcases hr with hr|hr
        · exact ih r hr
        · exact ⟨_,_,List.mem_singleton.1 hr⟩
      · rw [I7 h h2,List.mem_append] at hr
        rw [Ij h2] at ih
        rcases hr with hr|hr
        · exact ih r (List.mem_append_left _ hr)
        · exact ⟨_,_,List.mem_singleton.1 hr⟩
    · rw [It h] at hr;exact ih r hr
def bAt (l:List Sq) (y:Int) (x:Nat):Bool:=Gg l y (x:Int) l.length
def Ek (l:List Sq) (w:Nat):Nat→List (List Int)
  | 0=>[]
  | y+1=>Ek l w y++fin (bAt l (y:Int)) (y:Int) w
theorem J1 (l:List Sq) (w:Nat):∀ n,(Ek l w n).length≤n*w
  | 0=>by simp [Ek]
  | n+1=>by
    have:=J1 l w n
    have:=Ku (bAt l (n:Int)) (n:Int) w
    simp only [Ek,List.length_append,Nat.add_mul,Nat.one_mul];((try clear ew);(try clear es);(try clear e1);(try clear e2);(try clear ec);omega)
theorem allL_row (l:List Sq) (w:Nat):∀ n,∀ r ∈ Ek l w n,r.length=3
  | 0,r,hr=>by simp [Ek] at hr
  | n+1,r,hr=>by
    simp only [Ek,List.mem_append] at hr
    rcases hr with hr|hr
    · exact allL_row l w n r hr
    · obtain ⟨a,z,rfl⟩:=M7 _ _ _ r hr;rfl
/-! ### the program's -/
theorem acr_l2 (O : List (List Int)) (y : Int) (w : Nat) (n1 i1 : Int) (l : List Sq) (len i W H f0 f1 f2 : Int) (R : List (List Int)) (h0 : 0 ≤ f0) (h2 : 0 ≤ f2) (hw : f0 + f2 ≤ w) (hw5 : w ≤ 1000) :
    ∀ (d j:Nat) (g:Nat→Bool),(f0+f2-(j:Int))=d→Ev (fun k=>Ae.l1 k O y (Dx w (fun x=>g x||decide ((j:Int)≤x∧(x:Int)<f0+f2))) n1 i1 l len (wrap64 (i+1)) W H l) R →
      Ev (fun k=>Ae.l2 k O y (Dx w g) (j:Int) n1 i1 l len i W H l f0 f1 f2) R:=by
  intro d
  induction d with
  | zero =>
    intro j g hd h
    refine Ev.succ ?_
    simp only [Ae.l2]
    rw [Af (n:=f0+f2) (by ((try clear ew);(try clear es);(try clear e1);(try clear e2);(try clear ec);omega)) (by ((try clear ew);(try clear es);(try clear e1);(try clear e2);(try clear ec);omega))]
    refine Ev.neg (by ((try clear ew);(try clear es);(try clear e1);(try clear e2);(try clear ec);omega)) ?_
    rw [show Dx w g=Dx w (fun x=>g x||decide ((j:Int)≤x∧(x:Int)<f0+f2)) from I3 (fun x hx=>by rw [decide_eq_false (by ((try clear ew);(try clear es);(try clear e1);(try clear e2);(try clear ec);omega)),Bool.or_false])]
    exact h
  | succ d ih =>
    intro j g hd h
    refine Ev.succ ?_
    simp only [Ae.l2]
    rw [Af (n:=f0+f2) (by ((try clear ew);(try clear es);(try clear e1);(try clear e2);(try clear ec);omega)) (by ((try clear ew);(try clear es);(try clear e1);(try clear e2);(try clear ec);omega)),Af (n:=(j:Int)+1) (by ((try clear ew);(try clear es);(try clear e1);(try clear e2);(try clear ec);omega)) (by ((try clear ew);(try clear es);(try clear e1);(try clear e2);(try clear ec);omega))]
    refine Ev.pos (by ((try clear ew);(try clear es);(try clear e1);(try clear e2);(try clear ec);omega)) (Ev.pos (by ((try clear ew);(try clear es);(try clear e1);(try clear e2);(try clear ec);omega)) (Ev.pos (by rw [Mi];((try clear ew);(try clear es);(try clear e1);(try clear e2);(try clear ec);omega)) ?_))
    rw [Int.toNat_natCast,rowB_set w g j (by ((try clear ew);(try clear es);(try clear e1);(try clear e2);(try clear ec);omega))]
    refine ih (j+1) _ (by ((try clear ew);(try clear es);(try clear e1);(try clear e2);(try clear ec);omega)) ?_
    rw [show Dx w (fun x=>(g x||decide (x=j))||decide (((j+1:Nat):Int)≤x∧(x:Int)<f0+f2))=Dx w (fun x=>g x||decide ((j:Int)≤x∧(x:Int)<f0+f2)) from I3 (fun x hx=>by
      rw [Bool.or_assoc];congr 1
      by_cases e:x=j
      · subst e;rw [decide_eq_true rfl,Bool.true_or];exact (decide_eq_true (by ((try clear ew);(try clear es);(try clear e1);(try clear e2);(try clear ec);omega))).symm
      · rw [decide_eq_false e,Bool.false_or];exact decide_eq_decide.2 (by ((try clear ew);(try clear es);(try clear e1);(try clear e2);(try clear ec);omega)))]
    exact h
theorem acr_l1 {W H : Int} {l : List Sq} (hg : Bq W H l) (w : Nat) (hw : (w : Int) = W) (O : List (List Int)) (y n1 i1 : Int) (R : List (List Int))
    (h:Ev (fun k=>Ae.l3 k O y (Dx w (bAt l y)) n1 i1 (Dx w (bAt l y)) (w:Int) 0 W H l) R) :
    ∀ (d i:Nat),l.length-i=d→i≤l.length→Ev (fun k=>Ae.l1 k O y (Dx w (fun x=>Gg l y (x:Int) i)) n1 i1 l (l.length:Int) (i:Int) W H l) R:=by
  intro d
  have h30:=hg.2.2.1
  have hW:=hg.1
  have hH:=hg.2.1
  induction d with
  | zero =>
    intro i hd hi
    obtain rfl:i=l.length:=by ((try clear ew);(try clear es);(try clear e1);(try clear e2);(try clear ec);omega)
    refine Ev.succ ?_
    simp only [Ae.l1,Mi]
    exact Ev.neg (by ((try clear ew);(try clear es);(try clear e1);(try clear e2);(try clear ec);omega)) h
  | succ d ih =>
    intro i hd hi
    have hok:=(hg.2.2.2.1 i (by ((try clear ew);(try clear es);(try clear e1);(try clear e2);(try clear ec);omega))).1
    unfold Ins at hok
    have hn:=ih (i+1) (by ((try clear ew);(try clear es);(try clear e1);(try clear e2);(try clear ec);omega)) (by ((try clear ew);(try clear es);(try clear e1);(try clear e2);(try clear ec);omega))
    have ew:wrap64 ((i:Int)+1)=((i+1:Nat):Int):=by rw [Af (by ((try clear ew);(try clear es);(try clear e1);(try clear e2);(try clear ec);omega)) (by ((try clear ew);(try clear es);(try clear e1);(try clear e2);(try clear ec);omega))];((try clear ew);(try clear es);(try clear e1);(try clear e2);(try clear ec);omega)
    have yes:((Ad l i).f1=y∨(Ad l i).f1+(Ad l i).f2=y)→Ev (fun k=>Ae.j2 k O y (Dx w (fun x=>Gg l y (x:Int) i)) n1 i1 l (l.length:Int) (i:Int) true W H l (Ad l i).f0 (Ad l i).f1 (Ad l i).f2) R:=by
      intro hy
      refine Ev.succ ?_
      simp only [Ae.j2]
      refine Ev.pos trivial ?_
      have e0:(Ad l i).f0=(((Ad l i).f0.toNat:Nat):Int):=by ((try clear ew);(try clear es);(try clear e1);(try clear e2);(try clear ec);omega)
      have:=acr_l2 O y w n1 i1 l (l.length:Int) (i:Int) W H (Ad l i).f0 (Ad l i).f1 (Ad l i).f2 R (by ((try clear ew);(try clear es);(try clear e1);(try clear e2);(try clear ec);omega)) (by ((try clear ew);(try clear es);(try clear e1);(try clear e2);(try clear ec);omega)) (by ((try clear ew);(try clear es);(try clear e1);(try clear e2);(try clear ec);omega)) (by ((try clear ew);(try clear es);(try clear e1);(try clear e2);(try clear ec);omega)) (Ad l i).f2.toNat (Ad l i).f0.toNat (fun x=>Gg l y (x:Int) i) (by ((try clear ew);(try clear es);(try clear e1);(try clear e2);(try clear ec);omega)) (by
        rw [ew,show Dx w (fun x=>Gg l y (x:Int) i||decide ((((Ad l i).f0.toNat:Nat):Int)≤x∧(x:Int)<(Ad l i).f0+(Ad l i).f2))=Dx w (fun x=>Gg l y (x:Int) (i+1)) from I3 (fun x hx=>by
          rw [Gg];congr 1;exact decide_eq_decide.2 (by rw [← e0];exact ⟨fun h=>⟨hy,h⟩,fun h=>h.2⟩))]
        exact hn)
      rw [← e0] at this
      exact this
    have no:¬ ((Ad l i).f1=y∨(Ad l i).f1+(Ad l i).f2=y)→Ev (fun k=>Ae.j2 k O y (Dx w (fun x=>Gg l y (x:Int) i)) n1 i1 l (l.length:Int) (i:Int) false W H l (Ad l i).f0 (Ad l i).f1 (Ad l i).f2) R:=by
      intro hy
      refine Ev.succ ?_
      simp only [Ae.j2]
      refine Ev.neg (by simp) ?_
      rw [ew,show Dx w (fun x=>Gg l y (x:Int) i)=Dx w (fun x=>Gg l y (x:Int) (i+1)) from I3 (fun x hx=>by
        rw [Gg,decide_eq_false (fun h=>hy h.1),Bool.or_false])]
      exact hn
    refine Ev.succ ?_
    simp only [Ae.l1,Dg]
    refine Ev.pos (by ((try clear ew);(try clear es);(try clear e1);(try clear e2);(try clear ec);omega)) (Ev.pos (by ((try clear ew);(try clear es);(try clear e1);(try clear e2);(try clear ec);omega)) (Ev.pos (by ((try clear ew);(try clear es);(try clear e1);(try clear e2);(try clear ec);omega)) ?_))
    by_cases c1:(Ad l i).f1=y
    · exact Ev.pos c1 (yes (.inl c1))
    · refine Ev.neg c1 ?_
      rw [Af (by ((try clear ew);(try clear es);(try clear e1);(try clear e2);(try clear ec);omega)) (by ((try clear ew);(try clear es);(try clear e1);(try clear e2);(try clear ec);omega))]
      by_cases c2:(Ad l i).f1+(Ad l i).f2=y
      · rw [show ((Ad l i).f1+(Ad l i).f2==y)=true from by rw [c2];exact beq_self_eq_true _]
        exact yes (.inr c2)
      · rw [show ((Ad l i).f1+(Ad l i).f2==y)=false from by simpa using c2]
        exact no (fun h=>h.elim c1 c2)
theorem last_get (O:List (List Int)) (r:List Int):(O++[r]).getD ((O++[r]).length-1) []=r:=by simp [List.getD]
theorem last_set (O:List (List Int)) (r s:List Int):(O++[r]).set ((O++[r]).length-1) s=O++[s]:=by simp
theorem acr_l3 {W H : Int} {l : List Sq} (w : Nat) (hw5 : w ≤ 1000) (b : Nat → Bool) (O : List (List Int)) (hO : O.length ≤ 1000000) (y n1 i1 : Int) (R : List (List Int))
    (h:Ev (fun k=>Ae.l0 k (O++fin b y w) n1 (wrap64 (i1+1)) W H l) R) :
    ∀ (d n:Nat),w-n=d→n≤w→Ev (fun k=>Ae.l3 k (O++fin b y n) y (Dx w b) n1 i1 (Dx w b) (w:Int) (n:Int) W H l) R:=by
  intro d
  induction d with
  | zero =>
    intro n hd hn
    obtain rfl:n=w:=by ((try clear ew);(try clear es);(try clear e1);(try clear e2);(try clear ec);omega)
    refine Ev.succ ?_
    simp only [Ae.l3]
    exact Ev.neg (by ((try clear ew);(try clear es);(try clear e1);(try clear e2);(try clear ec);omega)) h
  | succ d ih =>
    intro n hd hn
    have hnx:=ih (n+1) (by ((try clear ew);(try clear es);(try clear e1);(try clear e2);(try clear ec);omega)) (by ((try clear ew);(try clear es);(try clear e1);(try clear e2);(try clear ec);omega))
    have hfl:=Ku b y n
    have ew:wrap64 ((n:Int)+1)=(n:Int)+1:=Af (by ((try clear ew);(try clear es);(try clear e1);(try clear e2);(try clear ec);omega)) (by ((try clear ew);(try clear es);(try clear e1);(try clear e2);(try clear ec);omega))
    have ec:((n+1:Nat):Int)=(n:Int)+1:=by ((try clear ew);(try clear es);(try clear e1);(try clear e2);(try clear ec);omega)
    refine Ev.succ ?_
    simp only [Ae.l3,Mi,rowB_rd w b n (by ((try clear ew);(try clear es);(try clear e1);(try clear e2);(try clear ec);omega)),ew]
    refine Ev.pos (by ((try clear ew);(try clear es);(try clear e1);(try clear e2);(try clear ec);omega)) (Ev.pos (by ((try clear ew);(try clear es);(try clear e1);(try clear e2);(try clear ec);omega)) (Ev.pos (by ((try clear ew);(try clear es);(try clear e1);(try clear e2);(try clear ec);omega)) ?_))
    by_cases hb:b n=true
    · refine Ev.pos hb ?_
      have new:(st b y n).2<0→Ev (fun k=>if (O++fin b y n).length<5864062014805 then Ae.l3 k (O++fin b y n++[[y,(n:Int),(n:Int)+1]]) y (Dx w b) n1 i1 (Dx w b) (w:Int) ((n:Int)+1) W H l else none) R:=by
        intro h2
        refine Ev.pos (by rw [List.length_append];((try clear ew);(try clear es);(try clear e1);(try clear e2);(try clear ec);omega)) ?_
        rw [List.append_assoc,← Jm hb h2,← ec]
        exact hnx
      by_cases h0:0<n
      · refine Ev.pos (by ((try clear ew);(try clear es);(try clear e1);(try clear e2);(try clear ec);omega)) ?_
        have e1:wrap64 ((n:Int)-1)=((n-1:Nat):Int):=by rw [Af (by ((try clear ew);(try clear es);(try clear e1);(try clear e2);(try clear ec);omega)) (by ((try clear ew);(try clear es);(try clear e1);(try clear e2);(try clear ec);omega))];((try clear ew);(try clear es);(try clear e1);(try clear e2);(try clear ec);omega)
        rw [e1,rowB_rd w b (n-1) (by ((try clear ew);(try clear es);(try clear e1);(try clear e2);(try clear ec);omega))]
        refine Ev.pos (by ((try clear ew);(try clear es);(try clear e1);(try clear e2);(try clear ec);omega)) (Ev.pos (by ((try clear ew);(try clear es);(try clear e1);(try clear e2);(try clear ec);omega)) ?_)
        by_cases hb1:b (n-1)=true
        · refine Ev.pos hb1 ?_
          have h2:=(M6 b y n).2 ⟨h0,hb1⟩
          rw [Ij h2] at hfl
          rw [Ij h2,← List.append_assoc]
          have e2:wrap64 (((O++(st b y n).1++[[y,(st b y n).2,(n:Int)]]).length:Int)-1)=(((O++(st b y n).1++[[y,(st b y n).2,(n:Int)]]).length-1:Nat):Int):=by
            rw [List.length_append] at hfl
            rw [Af (by simp only [List.length_append,List.length_singleton] at hfl ⊢;((try clear ew);(try clear es);(try clear e1);(try clear e2);(try clear ec);omega)) (by simp only [List.length_append,List.length_singleton] at hfl ⊢;((try clear ew);(try clear es);(try clear e1);(try clear e2);(try clear ec);omega))];simp only [List.length_append,List.length_singleton];((try clear ew);(try clear es);(try clear e1);(try clear e2);(try clear ec);omega)
          have e3:As (O++(st b y n).1++[[y,(st b y n).2,(n:Int)]]) (((O++(st b y n).1++[[y,(st b y n).2,(n:Int)]]).length-1:Nat):Int)=[y,(st b y n).2,(n:Int)]:=by
            unfold As;rw [Int.toNat_natCast,last_get]
          rw [e2,e3,Int.toNat_natCast,last_set]
          refine Ev.pos (by ((try clear ew);(try clear es);(try clear e1);(try clear e2);(try clear ec);omega)) (Ev.pos (by simp;((try clear ew);(try clear es);(try clear e1);(try clear e2);(try clear ec);omega)) (Ev.pos (by simp) ?_))
          show Ev (fun k=>Ae.l3 k (O++(st b y n).1++[[y,(st b y n).2,(n:Int)+1]]) y (Dx w b) n1 i1 (Dx w b) (w:Int) ((n:Int)+1) W H l) R
          rw [List.append_assoc,← I7 hb h2,← ec]
          exact hnx
        · refine Ev.neg hb1 (new ?_)
          have:=(not_congr (M6 b y n)).2 (fun h=>hb1 h.2)
          ((try clear ew);(try clear es);(try clear e1);(try clear e2);(try clear ec);omega)
      · refine Ev.neg (by ((try clear ew);(try clear es);(try clear e1);(try clear e2);(try clear ec);omega)) (new ?_)
        have:=(not_congr (M6 b y n)).2 (fun h=>h0 h.1)
        ((try clear ew);(try clear es);(try clear e1);(try clear e2);(try clear ec);omega)
    · refine Ev.neg hb ?_
      rw [← It hb,← ec]
      exact hnx
theorem acr_l0 {W H : Int} {l : List Sq} (hg : Bq W H l) (w h : Nat) (hw : (w : Int) = W) (hh : (h : Int) = H) :
    ∀ (d y:Nat),h+1-y=d→y≤h+1→Ev (fun k=>Ae.l0 k (Ek l w y) (H+1) (y:Int) W H l) (Ek l w (h+1)):=by
  intro d
  have hW:=hg.1
  have hH:=hg.2.1
  induction d with
  | zero =>
    intro y hd hy
    obtain rfl:y=h+1:=by ((try clear ew);(try clear es);(try clear e1);(try clear e2);(try clear ec);omega)
    refine Ev.succ ?_
    simp only [Ae.l0]
    exact Ev.neg (by ((try clear ew);(try clear es);(try clear e1);(try clear e2);(try clear ec);omega)) (Ev.now _)
  | succ d ih =>
    intro y hd hy
    have hnx:=ih (y+1) (by ((try clear ew);(try clear es);(try clear e1);(try clear e2);(try clear ec);omega)) (by ((try clear ew);(try clear es);(try clear e1);(try clear e2);(try clear ec);omega))
    refine Ev.succ ?_
    simp only [Ae.l0]
    refine Ev.pos (by ((try clear ew);(try clear es);(try clear e1);(try clear e2);(try clear ec);omega)) (Ev.pos (by ((try clear ew);(try clear es);(try clear e1);(try clear e2);(try clear ec);omega)) (Ev.pos (by ((try clear ew);(try clear es);(try clear e1);(try clear e2);(try clear ec);omega)) ?_))
    rw [show W.toNat=w by ((try clear ew);(try clear es);(try clear e1);(try clear e2);(try clear ec);omega),Rf]
    have hl:=J1 l w y
    have hyw:y*w≤501*500:=Nat.mul_le_mul (by ((try clear ew);(try clear es);(try clear e1);(try clear e2);(try clear ec);omega)) (by ((try clear ew);(try clear es);(try clear e1);(try clear e2);(try clear ec);omega))
    have e0:fin (bAt l (y:Int)) (y:Int) 0=[]:=rfl
    have:=acr_l1 hg w hw (Ek l w y) (y:Int) (H+1) (y:Int) (Ek l w (h+1)) (by
      have:=acr_l3 (W:=W) (H:=H) (l:=l) w (by ((try clear ew);(try clear es);(try clear e1);(try clear e2);(try clear ec);omega)) (bAt l (y:Int)) (Ek l w y) (by ((try clear ew);(try clear es);(try clear e1);(try clear e2);(try clear ec);omega)) (y:Int) (H+1) (y:Int) (Ek l w (h+1)) (by
        rw [Af (by ((try clear ew);(try clear es);(try clear e1);(try clear e2);(try clear ec);omega)) (by ((try clear ew);(try clear es);(try clear e1);(try clear e2);(try clear ec);omega))]
        have e:((y+1:Nat):Int)=(y:Int)+1:=by ((try clear ew);(try clear es);(try clear e1);(try clear e2);(try clear ec);omega)
        rw [e] at hnx
        exact hnx) w 0 (by ((try clear ew);(try clear es);(try clear e1);(try clear e2);(try clear ec);omega)) (by ((try clear ew);(try clear es);(try clear e1);(try clear e2);(try clear ec);omega))
      rw [e0,List.append_nil] at this
      exact this) l.length 0 (by ((try clear ew);(try clear es);(try clear e1);(try clear e2);(try clear ec);omega)) (by ((try clear ew);(try clear es);(try clear e1);(try clear e2);(try clear ec);omega))
    exact this
theorem Jn {W H:Int} {l:List Sq} (hg:Bq W H l):Ev (fun k=>Ae.f k W H l) (Ek l W.toNat (H.toNat+1)):=by
  have hW:=hg.1
  have hH:=hg.2.1
  unfold Ae.f
  rw [Af (by ((try clear ew);(try clear es);(try clear e1);(try clear e2);(try clear ec);omega)) (by ((try clear ew);(try clear es);(try clear e1);(try clear e2);(try clear ec);omega))]
  exact acr_l0 hg W.toNat H.toNat (by ((try clear ew);(try clear es);(try clear e1);(try clear e2);(try clear ec);omega)) (by ((try clear ew);(try clear es);(try clear e1);(try clear e2);(try clear ec);omega)) (H.toNat+1) 0 (by ((try clear ew);(try clear es);(try clear e1);(try clear e2);(try clear ec);omega)) (by ((try clear ew);(try clear es);(try clear e1);(try clear e2);(try clear ec);omega))

theorem tur_good {W H:Int} {l r:List Sq} (hg:Bq W H l) (hp:r.Perm (l.map (tur H))) (hs:r.Pairwise LeP):Bq H W r:=by
  have hH:=hg.2.1.2
  refine Qf (tur H) hg hg.2.1 hg.1 (Int.mul_comm _ _) (fun s h=>?_) (fun s h=>?_) (fun a b ha hb ho=>?_) hp hs
  · rw [Ir hH h];unfold Ins at *;dsimp only;((try clear ew);(try clear es);(try clear e1);(try clear e2);(try clear ec);omega)
  · rw [Ir hH h]
  · rw [Ir hH ha,Ir hH hb] at ho
    unfold Ovl Ins at *
    dsimp only at ho
    ((try clear ew);(try clear es);(try clear e1);(try clear e2);(try clear ec);omega)
/-! ### lines without a square across -/
def Gz (l:List Sq) (y x:Int):Nat→Bool
  | 0=>false
  | n+1=>Gz l y x n||decide (((Ad l n).f1<y∧y<(Ad l n).f1+(Ad l n).f2)∧(Ad l n).f0≤x∧x<(Ad l n).f0+(Ad l n).f2)
theorem Mj (l:List Sq) (y x:Int):∀ n,Gz l y x n=true↔∃ m,m<n∧((Ad l m).f1<y∧y<(Ad l m).f1+(Ad l m).f2)∧(Ad l m).f0≤x∧x<(Ad l m).f0+(Ad l m).f2
  | 0=>by simp [Gz]
  | n+1=>by
    rw [Gz,Bool.or_eq_true,Mj l y x n,decide_eq_true_eq]
    constructor
    · rintro (⟨m,hm,h⟩|h)
      · exact ⟨m,by ((try clear ew);(try clear es);(try clear e1);(try clear e2);(try clear ec);omega),h⟩
      · exact ⟨n,by ((try clear ew);(try clear es);(try clear e1);(try clear e2);(try clear ec);omega),h⟩
    · rintro ⟨m,hm,h⟩
      by_cases e:m=n
      · subst e;exact .inr h
      · exact .inl ⟨m,by ((try clear ew);(try clear es);(try clear e1);(try clear e2);(try clear ec);omega),h⟩
theorem bAt_free {W H:Int} {l:List Sq} (hg:Bq W H l) (y:Int) (hy:1≤y∧y<H) (x:Nat) (hx:(x:Int)<W):bAt l y x = !Gz l y (x:Int) l.length:=by
  unfold bAt
  by_cases hc:Gz l y (x:Int) l.length=true
  · rw [hc]
    rw [Bool.not_true,← Bool.not_eq_true,Is]
    rintro ⟨m,hm,h1,h2⟩
    obtain ⟨m',hm',h3,h4⟩:=(Mj l y x l.length).1 hc
    have i1:=(hg.2.2.2.1 m hm).1
    have i2:=(hg.2.2.2.1 m' hm').1
    have:Ad l m=Ad l m':=by
      rcases h1 with h1|h1
      · exact I6 hg (Er l m hm) (Er l m' hm') (Jj (x:=x) (y:=y) (by unfold Ck;unfold Ins at i1;((try clear ew);(try clear es);(try clear e1);(try clear e2);(try clear ec);omega)) (by unfold Ck;unfold Ins at i2;((try clear ew);(try clear es);(try clear e1);(try clear e2);(try clear ec);omega)))
      · exact I6 hg (Er l m hm) (Er l m' hm') (Jj (x:=x) (y:=y-1) (by unfold Ck;unfold Ins at i1;((try clear ew);(try clear es);(try clear e1);(try clear e2);(try clear ec);omega)) (by unfold Ck;unfold Ins at i2;((try clear ew);(try clear es);(try clear e1);(try clear e2);(try clear ec);omega)))
    rw [this] at h1
    ((try clear ew);(try clear es);(try clear e1);(try clear e2);(try clear ec);omega)
  · rw [Bool.eq_false_iff.2 hc,Bool.not_false,Is]
    obtain ⟨j,hj,h1⟩:=Jk hg (x:Int) y (by ((try clear ew);(try clear es);(try clear e1);(try clear e2);(try clear ec);omega)) (by ((try clear ew);(try clear es);(try clear e1);(try clear e2);(try clear ec);omega))
    unfold Ck at h1
    have:¬ (Ad l j).f1<y:=fun h=>hc ((Mj l y x l.length).2 ⟨j,hj,by ((try clear ew);(try clear es);(try clear e1);(try clear e2);(try clear ec);omega),by ((try clear ew);(try clear es);(try clear e1);(try clear e2);(try clear ec);omega)⟩)
    exact ⟨j,hj,.inl (by ((try clear ew);(try clear es);(try clear e1);(try clear e2);(try clear ec);omega)),by ((try clear ew);(try clear es);(try clear e1);(try clear e2);(try clear ec);omega)⟩
/-! ### the longest run -/
def rn (b:Nat→Bool):Nat→Int
  | 0=>0
  | n+1=>if b n=true then rn b n+1 else 0
def mo (b:Nat→Bool) (m:Int):Nat→Int
  | 0=>m
  | n+1=>mx (mo b m n) (rn b (n+1))
def stp (H m:Int) (r:List Int):Int:=if 1≤rd r 0∧rd r 0≤H-1 then mx m (rd r 2-rd r 1) else m
def bst (H m:Int) (L:List (List Int)):Int:=L.foldl (stp H) m
theorem Qg (a b c:Int):mx (mx a b) c=mx a (mx b c):=by unfold mx;split <;> split <;> (try split) <;> (try split) <;> omega
theorem rn_bd (b:Nat→Bool):∀ n,0≤rn b n∧rn b n≤n
  | 0=>by simp [rn]
  | n+1=>by have:=rn_bd b n;simp only [rn];split <;> ((try clear ew);(try clear es);(try clear e1);(try clear e2);(try clear ec);omega)
theorem mo_bd (b:Nat→Bool) (m:Int) (hm:0≤m):∀ n,m≤mo b m n∧mo b m n≤mx m n
  | 0=>by simp only [mo];unfold mx;split <;> ((try clear ew);(try clear es);(try clear e1);(try clear e2);(try clear ec);omega)
  | n+1=>by
    have h1:=mo_bd b m hm n
    have h2:=rn_bd b (n+1)
    simp only [mo]
    unfold mx at *
    constructor
    · split <;> ((try clear ew);(try clear es);(try clear e1);(try clear e2);(try clear ec);omega)
    · split at h1 <;> split <;> split <;> ((try clear ew);(try clear es);(try clear e1);(try clear e2);(try clear ec);omega)
theorem mo_congr {b c:Nat→Bool} (m:Int):∀ n,(∀ i,i<n→b i=c i)→rn b n=rn c n∧mo b m n=mo c m n
  | 0,_=>⟨rfl,rfl⟩
  | n+1,h=>by
    obtain ⟨h1,h2⟩:=mo_congr (b:=b) (c:=c) m n (fun i hi=>h i (by ((try clear ew);(try clear es);(try clear e1);(try clear e2);(try clear ec);omega)))
    have hr:rn b (n+1)=rn c (n+1):=by simp only [rn,h1,h n (by ((try clear ew);(try clear es);(try clear e1);(try clear e2);(try clear ec);omega))]
    exact ⟨hr,by simp only [mo,h2,hr]⟩
theorem rn_st (b:Nat→Bool) (y:Int):∀ n,rn b n=if (st b y n).2<0 then 0 else (n:Int)-(st b y n).2
  | 0=>by simp [rn,st]
  | n+1=>by
    have ih:=rn_st b y n
    by_cases h:b n=true
    · simp only [rn,st,if_pos h,ih]
      by_cases h2:(st b y n).2<0
      · rw [if_pos h2,if_pos h2,if_neg (by ((try clear ew);(try clear es);(try clear e1);(try clear e2);(try clear ec);omega))];((try clear ew);(try clear es);(try clear e1);(try clear e2);(try clear ec);omega)
      · rw [if_neg h2,if_neg h2,if_neg h2];((try clear ew);(try clear es);(try clear e1);(try clear e2);(try clear ec);omega)
    · simp only [rn,st,if_neg h]
      by_cases h2:(st b y n).2<0
      · rw [if_pos h2,if_pos h2]
      · rw [if_neg h2];simp
theorem J2 (H m:Int) (L:List (List Int)) (r:List Int):bst H m (L++[r])=stp H (bst H m L) r:=by unfold bst;rw [List.foldl_append];rfl
theorem Jo (H m y a z:Int):stp H m [y,a,z]=if 1≤y∧y≤H-1 then mx m (z-a) else m:=rfl
theorem mo_fin (b:Nat→Bool) (y H:Int) (hy:1≤y∧y≤H-1) (m:Int) (hm:0≤m):∀ n,mo b m n=bst H m (fin b y n)
  | 0=>by simp [mo,fin,st,bst]
  | n+1=>by
    have ih:=mo_fin b y H hy m hm n
    have hr:=rn_st b y n
    have hb:=mo_bd b m hm n
    by_cases h:b n=true
    · by_cases h2:(st b y n).2<0
      · rw [Jm h h2,J2,← ih,Jo,if_pos hy]
        rw [if_pos h2] at hr
        simp only [mo,rn,if_pos h,hr]
        congr 1;((try clear ew);(try clear es);(try clear e1);(try clear e2);(try clear ec);omega)
      · rw [I7 h h2,J2,Jo,if_pos hy]
        rw [Ij h2,J2,Jo,if_pos hy] at ih
        rw [if_neg h2] at hr
        simp only [mo,rn,if_pos h,ih,hr,Qg]
        congr 1
        unfold mx;split <;> ((try clear ew);(try clear es);(try clear e1);(try clear e2);(try clear ec);omega)
    · rw [It h,← ih]
      simp only [mo,rn,if_neg h]
      unfold mx;split <;> ((try clear ew);(try clear es);(try clear e1);(try clear e2);(try clear ec);omega)
def lin (l:List Sq) (w:Nat) (H m:Int) (n:Nat):Int:=bst H m (Ek l w n)
theorem fin_bd (b:Nat→Bool) (y:Int):∀ n,(∀ r ∈ fin b y n,∃ a z,r=[y,a,z]∧0≤a∧a≤n∧0≤z∧z≤n)∧(st b y n).2≤n
  | 0=>by simp [fin,st]
  | n+1=>by
    obtain ⟨ih,ih2⟩:=fin_bd b y n
    constructor
    · intro r hr
      by_cases h:b n=true
      · by_cases h2:(st b y n).2<0
        · rw [Jm h h2,List.mem_append] at hr
          rcases hr with hr|hr
          · obtain ⟨a,z,rfl,h1⟩:=ih r hr;exact ⟨a,z,rfl,by ((try clear ew);(try clear es);(try clear e1);(try clear e2);(try clear ec);omega)⟩
          · exact ⟨_,_,List.mem_singleton.1 hr,by ((try clear ew);(try clear es);(try clear e1);(try clear e2);(try clear ec);omega)⟩
        · rw [I7 h h2,List.mem_append] at hr
          rw [Ij h2] at ih
          rcases hr with hr|hr
          · obtain ⟨a,z,rfl,h1⟩:=ih r (List.mem_append_left _ hr);exact ⟨a,z,rfl,by ((try clear ew);(try clear es);(try clear e1);(try clear e2);(try clear ec);omega)⟩
          · exact ⟨_,_,List.mem_singleton.1 hr,by ((try clear ew);(try clear es);(try clear e1);(try clear e2);(try clear ec);omega)⟩
      · rw [It h] at hr
        obtain ⟨a,z,rfl,h1⟩:=ih r hr;exact ⟨a,z,rfl,by ((try clear ew);(try clear es);(try clear e1);(try clear e2);(try clear ec);omega)⟩
    · simp only [st]
      split
      · dsimp only;split <;> ((try clear ew);(try clear es);(try clear e1);(try clear e2);(try clear ec);omega)
      · split
        · ((try clear ew);(try clear es);(try clear e1);(try clear e2);(try clear ec);omega)
        · dsimp only;((try clear ew);(try clear es);(try clear e1);(try clear e2);(try clear ec);omega)
theorem M8 (l:List Sq) (w:Nat):∀ n,∀ r ∈ Ek l w n,∃ y a z:Int,r=[y,a,z]∧0≤a∧a≤w∧0≤z∧z≤w
  | 0,r,hr=>by simp [Ek] at hr
  | n+1,r,hr=>by
    simp only [Ek,List.mem_append] at hr
    rcases hr with hr|hr
    · exact M8 l w n r hr
    · obtain ⟨a,z,rfl,h⟩:=(fin_bd (bAt l (n:Int)) (n:Int) w).1 r hr
      exact ⟨_,a,z,rfl,h⟩
theorem lin_succ (l:List Sq) (w:Nat) (H m:Int) (n:Nat):lin l w H m (n+1)=bst H (lin l w H m n) (fin (bAt l (n:Int)) (n:Int) w):=by
  unfold lin bst;rw [Ek,List.foldl_append]
theorem bst_out (H m y:Int) (hy:¬ (1≤y∧y≤H-1)):∀ L:List (List Int),(∀ r ∈ L,∃ a z,r=[y,a,z])→bst H m L=m
  | [],_=>rfl
  | r::t,h=>by
    obtain ⟨a,z,rfl⟩:=h r List.mem_cons_self
    unfold bst
    rw [List.foldl_cons,Jo,if_neg hy]
    exact bst_out H m y hy t (fun r hr=>h r (List.mem_cons_of_mem _ hr))
theorem Gn (l:List Sq) (w:Nat) (H m:Int) (n:Nat) (hm:0≤lin l w H m n):lin l w H m (n+1)=if 1≤(n:Int)∧(n:Int)≤H-1 then mo (bAt l (n:Int)) (lin l w H m n) w else lin l w H m n:=by
  rw [lin_succ]
  by_cases h:1≤(n:Int)∧(n:Int)≤H-1
  · rw [if_pos h,mo_fin (bAt l (n:Int)) (n:Int) H h _ hm]
  · rw [if_neg h];exact bst_out H _ (n:Int) h _ (fun r hr=>M7 _ _ _ r hr)
theorem Iu (l:List Sq) (w:Nat) (H m:Int) (hm:0≤m):∀ n,0≤lin l w H m n∧lin l w H m n≤mx m w
  | 0=>by unfold lin bst Ek mx;simp only [List.foldl_nil];split <;> ((try clear ew);(try clear es);(try clear e1);(try clear e2);(try clear ec);omega)
  | n+1=>by
    have ih:=Iu l w H m hm n
    rw [Gn l w H m n ih.1]
    split
    · have:=mo_bd (bAt l (n:Int)) (lin l w H m n) ih.1 w
      unfold mx at *
      split at this <;> split at ih <;> split <;> ((try clear ew);(try clear es);(try clear e1);(try clear e2);(try clear ec);omega)
    · exact ih
theorem bst_mx (H:Int):∀ (L:List (List Int)) (a m:Int),bst H (mx a m) L=mx a (bst H m L)
  | [],a,m=>rfl
  | r::t,a,m=>by
    have ih:=bst_mx H t
    unfold bst at ih ⊢
    rw [List.foldl_cons,List.foldl_cons]
    have:stp H (mx a m) r=mx a (stp H m r):=by
      unfold stp;split
      · exact Qg _ _ _
      · rfl
    rw [this]
    exact ih a _
/-! ### the reference's -/
theorem cl_l2 {W H : Int} {l : List Sq} (hg : Bq W H l) (m y run : Int) (hr : 0 ≤ run ∧ run ≤ 1000) (x : Nat) (hx : (x : Int) < W) (R : Int)
    (h:Ev (fun k=>Bd.l1 k (mx m (if Gz l y (x:Int) l.length=true then 0 else run+1)) y (if Gz l y (x:Int) l.length=true then 0 else run+1) (wrap64 ((x:Int)+1)) W H l) R) :
    ∀ (d i:Nat),l.length-i=d→i≤l.length→Ev (fun k=>Bd.l2 k m y (if Gz l y (x:Int) i=true then 0 else run+1) (x:Int) l (l.length:Int) (i:Int) W H l) R:=by
  intro d
  have h30:=hg.2.2.1
  have hW:=hg.1
  have hH:=hg.2.1
  induction d with
  | zero =>
    intro i hd hi
    obtain rfl:i=l.length:=by ((try clear ew);(try clear es);(try clear e1);(try clear e2);(try clear ec);omega)
    refine Ev.succ ?_
    simp only [Bd.l2]
    exact Ev.neg (by ((try clear ew);(try clear es);(try clear e1);(try clear e2);(try clear ec);omega)) (Ev.bindc (Ks _ _) h)
  | succ d ih =>
    intro i hd hi
    have hok:=(hg.2.2.2.1 i (by ((try clear ew);(try clear es);(try clear e1);(try clear e2);(try clear ec);omega))).1
    unfold Ins at hok
    have hn:=ih (i+1) (by ((try clear ew);(try clear es);(try clear e1);(try clear e2);(try clear ec);omega)) (by ((try clear ew);(try clear es);(try clear e1);(try clear e2);(try clear ec);omega))
    have ew:wrap64 ((i:Int)+1)=((i+1:Nat):Int):=by rw [Af (by ((try clear ew);(try clear es);(try clear e1);(try clear e2);(try clear ec);omega)) (by ((try clear ew);(try clear es);(try clear e1);(try clear e2);(try clear ec);omega))];((try clear ew);(try clear es);(try clear e1);(try clear e2);(try clear ec);omega)
    have es:wrap64 (wrap64 ((Ad l i).f0+(Ad l i).f2)-1)=(Ad l i).f0+(Ad l i).f2-1:=by
      rw [Af (n:=(Ad l i).f0+(Ad l i).f2) (by ((try clear ew);(try clear es);(try clear e1);(try clear e2);(try clear ec);omega)) (by ((try clear ew);(try clear es);(try clear e1);(try clear e2);(try clear ec);omega)),Af (by ((try clear ew);(try clear es);(try clear e1);(try clear e2);(try clear ec);omega)) (by ((try clear ew);(try clear es);(try clear e1);(try clear e2);(try clear ec);omega))]
    have no:¬ (((Ad l i).f1<y∧y<(Ad l i).f1+(Ad l i).f2)∧(Ad l i).f0≤(x:Int)∧(x:Int)<(Ad l i).f0+(Ad l i).f2)→Ev (fun k=>Bd.l2 k m y (if Gz l y (x:Int) i=true then 0 else run+1) (x:Int) l (l.length:Int) ((i+1:Nat):Int) W H l) R:=fun hno=>by
      rw [Gz,decide_eq_false hno,Bool.or_false] at hn;exact hn
    refine Ev.succ ?_
    simp only [Bd.l2,Dg,ew]
    rw [Af (n:=(Ad l i).f1+(Ad l i).f2) (by ((try clear ew);(try clear es);(try clear e1);(try clear e2);(try clear ec);omega)) (by ((try clear ew);(try clear es);(try clear e1);(try clear e2);(try clear ec);omega))]
    refine Ev.pos (by ((try clear ew);(try clear es);(try clear e1);(try clear e2);(try clear ec);omega)) (Ev.pos (by ((try clear ew);(try clear es);(try clear e1);(try clear e2);(try clear ec);omega)) (Ev.pos (by ((try clear ew);(try clear es);(try clear e1);(try clear e2);(try clear ec);omega)) ?_))
    by_cases c1:(Ad l i).f1<y
    · refine Ev.pos c1 ?_
      by_cases c2:y<(Ad l i).f1+(Ad l i).f2
      · refine Ev.pos c2 (Ev.bindc (E3 _ _ _) ?_)
        rw [es]
        by_cases c3:(Ad l i).f0≤(x:Int)∧(x:Int)≤(Ad l i).f0+(Ad l i).f2-1
        · rw [decide_eq_true c3]
          rw [Gz,decide_eq_true (show ((Ad l i).f1<y∧y<(Ad l i).f1+(Ad l i).f2)∧(Ad l i).f0≤(x:Int)∧(x:Int)<(Ad l i).f0+(Ad l i).f2 by ((try clear ew);(try clear es);(try clear e1);(try clear e2);(try clear ec);omega)),Bool.or_true,if_pos rfl] at hn
          exact Ev.pos rfl hn
        · rw [decide_eq_false c3]
          exact Ev.neg (by decide) (no (by ((try clear ew);(try clear es);(try clear e1);(try clear e2);(try clear ec);omega)))
      · exact Ev.neg c2 (no (by ((try clear ew);(try clear es);(try clear e1);(try clear e2);(try clear ec);omega)))
    · exact Ev.neg c1 (no (by ((try clear ew);(try clear es);(try clear e1);(try clear e2);(try clear ec);omega)))
theorem cl_l1 {W H : Int} {l : List Sq} (hg : Bq W H l) (w : Nat) (hw : (w : Int) = W) (y m : Int) (R : Int) (b : Nat → Bool) (hb : ∀ x, x < w → b x = !Gz l y (x : Int) l.length)
    (h:Ev (fun k=>Bd.l0 k (mo b m w) (wrap64 (y+1)) W H l) R) :
    ∀ (d n:Nat),w-n=d→n≤w→Ev (fun k=>Bd.l1 k (mo b m n) y (rn b n) (n:Int) W H l) R:=by
  intro d
  have hW:=hg.1
  induction d with
  | zero =>
    intro n hd hn
    obtain rfl:n=w:=by ((try clear ew);(try clear es);(try clear e1);(try clear e2);(try clear ec);omega)
    refine Ev.succ ?_
    simp only [Bd.l1]
    exact Ev.neg (by ((try clear ew);(try clear es);(try clear e1);(try clear e2);(try clear ec);omega)) h
  | succ d ih =>
    intro n hd hn
    have hnx:=ih (n+1) (by ((try clear ew);(try clear es);(try clear e1);(try clear e2);(try clear ec);omega)) (by ((try clear ew);(try clear es);(try clear e1);(try clear e2);(try clear ec);omega))
    have hr:=rn_bd b n
    have ew:wrap64 ((n:Int)+1)=((n+1:Nat):Int):=by rw [Af (by ((try clear ew);(try clear es);(try clear e1);(try clear e2);(try clear ec);omega)) (by ((try clear ew);(try clear es);(try clear e1);(try clear e2);(try clear ec);omega))];((try clear ew);(try clear es);(try clear e1);(try clear e2);(try clear ec);omega)
    refine Ev.succ ?_
    simp only [Bd.l1]
    rw [Af (n:=rn b n+1) (by ((try clear ew);(try clear es);(try clear e1);(try clear e2);(try clear ec);omega)) (by ((try clear ew);(try clear es);(try clear e1);(try clear e2);(try clear ec);omega))]
    refine Ev.pos (by ((try clear ew);(try clear es);(try clear e1);(try clear e2);(try clear ec);omega)) ?_
    have:=cl_l2 hg (mo b m n) y (rn b n) (by ((try clear ew);(try clear es);(try clear e1);(try clear e2);(try clear ec);omega)) n (by ((try clear ew);(try clear es);(try clear e1);(try clear e2);(try clear ec);omega)) R (by
      have e:(if Gz l y (n:Int) l.length=true then (0:Int) else rn b n+1)=rn b (n+1):=by
        simp only [rn,hb n (by ((try clear ew);(try clear es);(try clear e1);(try clear e2);(try clear ec);omega))]
        by_cases c:Gz l y (n:Int) l.length=true
        · rw [c];rfl
        · rw [Bool.eq_false_iff.2 c];rfl
      rw [e,ew]
      exact hnx) l.length 0 (by ((try clear ew);(try clear es);(try clear e1);(try clear e2);(try clear ec);omega)) (by ((try clear ew);(try clear es);(try clear e1);(try clear e2);(try clear ec);omega))
    simpa [Gz] using this
theorem cl_l0 {W H : Int} {l : List Sq} (hg : Bq W H l) (w h : Nat) (hw : (w : Int) = W) (hh : (h : Int) = H) :
    ∀ (d y:Nat),h-y=d→1≤y→y≤h→Ev (fun k=>Bd.l0 k (lin l w H 0 y) (y:Int) W H l) (lin l w H 0 h):=by
  intro d
  have hW:=hg.1
  have hH:=hg.2.1
  induction d with
  | zero =>
    intro y hd hy hy2
    obtain rfl:y=h:=by ((try clear ew);(try clear es);(try clear e1);(try clear e2);(try clear ec);omega)
    refine Ev.succ ?_
    simp only [Bd.l0]
    exact Ev.neg (by ((try clear ew);(try clear es);(try clear e1);(try clear e2);(try clear ec);omega)) (Ev.now _)
  | succ d ih =>
    intro y hd hy hy2
    have hnx:=ih (y+1) (by ((try clear ew);(try clear es);(try clear e1);(try clear e2);(try clear ec);omega)) (by ((try clear ew);(try clear es);(try clear e1);(try clear e2);(try clear ec);omega)) (by ((try clear ew);(try clear es);(try clear e1);(try clear e2);(try clear ec);omega))
    rw [Gn l w H 0 y (Iu l w H 0 (by ((try clear ew);(try clear es);(try clear e1);(try clear e2);(try clear ec);omega)) y).1,if_pos (by ((try clear ew);(try clear es);(try clear e1);(try clear e2);(try clear ec);omega))] at hnx
    refine Ev.succ ?_
    simp only [Bd.l0]
    refine Ev.pos (by ((try clear ew);(try clear es);(try clear e1);(try clear e2);(try clear ec);omega)) ?_
    exact cl_l1 hg w hw (y:Int) (lin l w H 0 y) (lin l w H 0 h) (bAt l (y:Int)) (fun x hx=>bAt_free hg (y:Int) (by ((try clear ew);(try clear es);(try clear e1);(try clear e2);(try clear ec);omega)) x (by ((try clear ew);(try clear es);(try clear e1);(try clear e2);(try clear ec);omega))) (by
      rw [Af (by ((try clear ew);(try clear es);(try clear e1);(try clear e2);(try clear ec);omega)) (by ((try clear ew);(try clear es);(try clear e1);(try clear e2);(try clear ec);omega))]
      have e:((y+1:Nat):Int)=(y:Int)+1:=by ((try clear ew);(try clear es);(try clear e1);(try clear e2);(try clear ec);omega)
      rw [e] at hnx
      exact hnx) w 0 (by ((try clear ew);(try clear es);(try clear e1);(try clear e2);(try clear ec);omega)) (by ((try clear ew);(try clear es);(try clear e1);(try clear e2);(try clear ec);omega))
theorem lin_one (l:List Sq) (w:Nat) (H m:Int) (hm:0≤m):lin l w H m 1=m:=by
  rw [Gn l w H m 0 (by unfold lin bst Ek;simpa using hm),if_neg (by simp)]
  rfl
theorem Kk {W H:Int} {l:List Sq} (hg:Bq W H l):Ev (fun k=>Bd.f k W H l) (lin l W.toNat H 0 (H.toNat+1)):=by
  have hW:=hg.1
  have hH:=hg.2.1
  have:=cl_l0 hg W.toNat H.toNat (by ((try clear ew);(try clear es);(try clear e1);(try clear e2);(try clear ec);omega)) (by ((try clear ew);(try clear es);(try clear e1);(try clear e2);(try clear ec);omega)) (H.toNat-1) 1 (by ((try clear ew);(try clear es);(try clear e1);(try clear e2);(try clear ec);omega)) (by ((try clear ew);(try clear es);(try clear e1);(try clear e2);(try clear ec);omega)) (by ((try clear ew);(try clear es);(try clear e1);(try clear e2);(try clear ec);omega))
  rw [lin_one _ _ _ _ (by ((try clear ew);(try clear es);(try clear e1);(try clear e2);(try clear ec);omega))] at this
  unfold Bd.f
  rw [Gn l W.toNat H 0 H.toNat (Iu l W.toNat H 0 (by ((try clear ew);(try clear es);(try clear e1);(try clear e2);(try clear ec);omega)) H.toNat).1,if_neg (by ((try clear ew);(try clear es);(try clear e1);(try clear e2);(try clear ec);omega))]
  exact this
/-! ### the program's -/
theorem ll_l1 (m : Int) (hm : 0 ≤ m ∧ m ≤ 1000) (C : List (S26)) (nC iC W H : Int) (hH : 1 ≤ H ∧ H ≤ 500) (l : List Sq) (L : List (List Int)) (hL : L.length ≤ 1000000) (hr : ∀ r ∈ L, ∃ y a z : Int, r = [y, a, z] ∧ 0 ≤ a ∧ a ≤ 500 ∧ 0 ≤ z ∧ z ≤ 500) (R : Int)
    (h:Ev (fun k=>Aq.l0 k (bst H m L) C nC (wrap64 (iC+1))) R) :
    ∀ (t D:List (List Int)),L=D++t→Ev (fun k=>Aq.l1 k (bst H m D) C nC iC L (L.length:Int) (D.length:Int) W H l) R
  | [],D,e=>by
    refine Ev.succ ?_
    simp only [Aq.l1]
    rw [List.append_nil] at e
    subst e
    exact Ev.neg (by ((try clear ew);(try clear es);(try clear e1);(try clear e2);(try clear ec);omega)) h
  | r::t,D,e=>by
    obtain ⟨y,a,z,er,h1⟩:=hr r (by rw [e];simp)
    have hlen:L.length=D.length+(t.length+1):=by rw [e];simp
    have hrd:As L (D.length:Int)=r:=by unfold As;rw [Int.toNat_natCast,e];simp [List.getD]
    have hn:=ll_l1 m hm C nC iC W H hH l L hL hr R h t (D++[r]) (by rw [e];simp)
    rw [J2,er,Jo] at hn
    simp only [List.length_append,List.length_singleton,Int.natCast_add,Int.natCast_one] at hn
    refine Ev.succ ?_
    simp only [Aq.l1,hrd,er]
    rw [Af (n:=H-1) (by ((try clear ew);(try clear es);(try clear e1);(try clear e2);(try clear ec);omega)) (by ((try clear ew);(try clear es);(try clear e1);(try clear e2);(try clear ec);omega)),Af (n:=(D.length:Int)+1) (by ((try clear ew);(try clear es);(try clear e1);(try clear e2);(try clear ec);omega)) (by ((try clear ew);(try clear es);(try clear e1);(try clear e2);(try clear ec);omega))]
    refine Ev.pos (by ((try clear ew);(try clear es);(try clear e1);(try clear e2);(try clear ec);omega)) (Ev.pos (by ((try clear ew);(try clear es);(try clear e1);(try clear e2);(try clear ec);omega)) (Ev.pos (by ((try clear ew);(try clear es);(try clear e1);(try clear e2);(try clear ec);omega)) (Ev.pos (by simp) (Ev.bindc (Gf _ _ _) ?_))))
    show Ev (fun k=>if decide (1≤y∧y≤H-1)=true then (if 2<(([y,a,z]:List Int).length:Int) then (if 1<(([y,a,z]:List Int).length:Int) then Aq.l1 k (mx (bst H m D) (wrap64 (z-a))) C nC iC L (L.length:Int) ((D.length:Int)+1) W H l else none) else none) else Aq.l1 k (bst H m D) C nC iC L (L.length:Int) ((D.length:Int)+1) W H l) R
    rw [Af (n:=z-a) (by ((try clear ew);(try clear es);(try clear e1);(try clear e2);(try clear ec);omega)) (by ((try clear ew);(try clear es);(try clear e1);(try clear e2);(try clear ec);omega))]
    by_cases c:1≤y∧y≤H-1
    · rw [if_pos c] at hn
      exact Ev.pos (decide_eq_true c) (Ev.pos (by simp) (Ev.pos (by simp) hn))
    · rw [if_neg c] at hn
      exact Ev.neg (by simpa using c) hn
theorem line_ev {W H:Int} {l:List Sq} (h:Bq W H l):∃ B:Int×Bool,Ev (fun k=>B0.f k W H l) B∧Ev (fun k=>C6.f k W H l) B∧∃ R:List Sq,R.Perm (l.map (tur H))∧Bq H W R∧B=(mx (lin l W.toNat H 0 (H.toNat+1)) (lin R H.toNat W 0 (W.toNat+1)),true):=by
  have hl:=h.2.2.1.2
  have hW:=h.1
  have hH:=h.2.1
  obtain ⟨R,hs,hp,hev⟩:=K4 (l.map (tur H)) (by rw [List.length_map];((try clear ew);(try clear es);(try clear e1);(try clear e2);(try clear ec);omega))
  obtain ⟨R',hf,hp',hs'⟩:=Rc (l.map (tur H)) (fun s hq=>by
    obtain ⟨p,hpl,rfl⟩:=List.mem_map.1 hq
    exact tur_bd h.1.2 h.2.1.2 (Ig h hpl)) (by rw [List.length_map];((try clear ew);(try clear es);(try clear e1);(try clear e2);(try clear ec);omega))
  obtain rfl:R'=R:=I5 (tur_dist h) hp' hp hs' hs
  have hg':=tur_good h hp hs
  have b1:=Iu l W.toNat H 0 (by ((try clear ew);(try clear es);(try clear e1);(try clear e2);(try clear ec);omega)) (H.toNat+1)
  have b1':lin l W.toNat H 0 (H.toNat+1)≤500:=by have:=b1.2;unfold mx at this;split at this <;> ((try clear ew);(try clear es);(try clear e1);(try clear e2);(try clear ec);omega)
  refine ⟨(mx (lin l W.toNat H 0 (H.toNat+1)) (lin R' H.toNat W 0 (W.toNat+1)),true),?_,?_,R',hp,hg',rfl⟩
  · unfold B0.f
    refine Ev.bind (Cp W H l) (Ev.pos (by simpa using h) (Ev.bind (Kk h) (Ev.bind (a:=(H,W,R')) ?_ (Ev.bind (Kk hg') (Ev.bindc (Ks _ _) (Ev.now _))))))
    exact Nw W H l (by ((try clear ew);(try clear es);(try clear e1);(try clear e2);(try clear ec);omega)) R' hev l 0 rfl (by ((try clear ew);(try clear es);(try clear e1);(try clear e2);(try clear ec);omega))
  · unfold C6.f Aq.f El.f
    refine Ev.bind (C0 W H l) (Ev.pos (by simpa using h) (Ev.bind (a:=mx (lin l W.toNat H 0 (H.toNat+1)) (lin R' H.toNat W 0 (W.toNat+1))) ?_ (Ev.now _)))
    refine Ev.bind (a:=(H,W,R')) (Ev.bind (a:=(H,W,R')) (Nx W H l (by ((try clear ew);(try clear es);(try clear e1);(try clear e2);(try clear ec);omega)) R' hf l 0 rfl (by ((try clear ew);(try clear es);(try clear e1);(try clear e2);(try clear ec);omega))) (Ev.now _)) (Ev.bindc rfl ?_)
    have a1:=J1 l W.toNat (H.toNat+1)
    have a1':(H.toNat+1)*W.toNat≤501*500:=Nat.mul_le_mul (by ((try clear ew);(try clear es);(try clear e1);(try clear e2);(try clear ec);omega)) (by ((try clear ew);(try clear es);(try clear e1);(try clear e2);(try clear ec);omega))
    have a2:=J1 R' H.toNat (W.toNat+1)
    have a2':(W.toNat+1)*H.toNat≤501*500:=Nat.mul_le_mul (by ((try clear ew);(try clear es);(try clear e1);(try clear e2);(try clear ec);omega)) (by ((try clear ew);(try clear es);(try clear e1);(try clear e2);(try clear ec);omega))
    refine Ev.succ ?_
    simp only [Aq.l0]
    refine Ev.pos (by simp) (Ev.pos (by ((try clear ew);(try clear es);(try clear e1);(try clear e2);(try clear ec);omega)) (Ev.pos (by simp) (Ev.bind (Jn h) ?_)))
    have f2:Ev (fun k=>Aq.l0 k (bst H 0 (Ek l W.toNat (H.toNat+1))) [(⟨W,H,l⟩:S26),(⟨H,W,R'⟩:S26)] (([(⟨W,H,l⟩:S26),(⟨H,W,R'⟩:S26)]:List (S26)).length:Int) (wrap64 (0+1))) (mx (lin l W.toNat H 0 (H.toNat+1)) (lin R' H.toNat W 0 (W.toNat+1))):=by
      rw [show wrap64 (0+1)=1 from by rw [Af (by omega) (by omega)];rfl]
      refine Ev.succ ?_
      simp only [Aq.l0]
      refine Ev.pos (by simp) (Ev.pos (by ((try clear ew);(try clear es);(try clear e1);(try clear e2);(try clear ec);omega)) (Ev.pos (by simp) (Ev.bind (Jn hg') ?_)))
      refine ll_l1 (bst H 0 (Ek l W.toNat (H.toNat+1))) (by unfold lin at b1 b1';((try clear ew);(try clear es);(try clear e1);(try clear e2);(try clear ec);omega)) _ _ _ _ _ hW _ (Ek R' H.toNat (W.toNat+1)) (by ((try clear ew);(try clear es);(try clear e1);(try clear e2);(try clear ec);omega)) (fun r hr=>?_) _ ?_ (Ek R' H.toNat (W.toNat+1)) [] rfl
      · obtain ⟨y,a,z,e,hb⟩:=M8 R' H.toNat (W.toNat+1) r hr
        exact ⟨y,a,z,e,by ((try clear ew);(try clear es);(try clear e1);(try clear e2);(try clear ec);omega)⟩
      · rw [show wrap64 (1+1)=2 from by rw [Af (by omega) (by omega)];rfl]
        refine Ev.succ ?_
        simp only [Aq.l0]
        refine Ev.neg (by simp) (Ev.eqr (Ev.now _) ?_)
        show bst W (bst H 0 (Ek l W.toNat (H.toNat+1))) (Ek R' H.toNat (W.toNat+1))=_
        have e0:bst H 0 (Ek l W.toNat (H.toNat+1))=mx (lin l W.toNat H 0 (H.toNat+1)) 0:=by
          show lin l W.toNat H 0 (H.toNat+1)=_
          unfold mx;split <;> ((try clear ew);(try clear es);(try clear e1);(try clear e2);(try clear ec);omega)
        rw [e0,bst_mx]
        rfl
    refine ll_l1 0 (by ((try clear ew);(try clear es);(try clear e1);(try clear e2);(try clear ec);omega)) _ _ _ _ _ hH _ (Ek l W.toNat (H.toNat+1)) (by ((try clear ew);(try clear es);(try clear e1);(try clear e2);(try clear ec);omega)) (fun r hr=>?_) _ f2 (Ek l W.toNat (H.toNat+1)) [] rfl
    obtain ⟨y,a,z,e,hb⟩:=M8 l W.toNat (H.toNat+1) r hr
    exact ⟨y,a,z,e,by ((try clear ew);(try clear es);(try clear e1);(try clear e2);(try clear ec);omega)⟩
theorem line_no {W H:Int} {l:List Sq} (h:¬ Bq W H l):Ev (fun k=>B0.f k W H l) ((0,false):Int×Bool)∧Ev (fun k=>C6.f k W H l) ((0,false):Int×Bool):=by
  refine ⟨?_,?_⟩
  · unfold B0.f
    exact Ev.bind (Cp W H l) (Ev.neg (by simpa using h) (Ev.now _))
  · unfold C6.f
    exact Ev.bind (C0 W H l) (Ev.neg (by simpa using h) (Ev.now _))

/-! ### the longest line: none in a square alone, and never longer than both Gr -/
theorem mo_pos (b:Nat→Bool) (m:Int) (hm:0≤m):∀ n x,x<n→b x=true→1≤mo b m n
  | 0,x,h,_=>by ((try clear ew);(try clear es);(try clear e1);(try clear e2);(try clear ec);omega)
  | n+1,x,h,hb=>by
    have h1:=mo_bd b m hm n
    have h2:=rn_bd b (n+1)
    simp only [mo]
    by_cases e:x=n
    · subst e
      have h3:=rn_bd b x
      have:rn b (x+1)=rn b x+1:=by simp only [rn];rw [if_pos hb]
      unfold mx;split <;> ((try clear ew);(try clear es);(try clear e1);(try clear e2);(try clear ec);omega)
    · have:=mo_pos b m hm n x (by ((try clear ew);(try clear es);(try clear e1);(try clear e2);(try clear ec);omega)) hb
      unfold mx;split <;> ((try clear ew);(try clear es);(try clear e1);(try clear e2);(try clear ec);omega)
theorem mo_none (b:Nat→Bool) (m:Int) (hm:0≤m):∀ n,(∀ x,x<n→b x=false)→mo b m n=m
  | 0,_=>rfl
  | n+1,h=>by
    simp only [mo,rn]
    rw [mo_none b m hm n (fun x hx=>h x (by ((try clear ew);(try clear es);(try clear e1);(try clear e2);(try clear ec);omega))),if_neg (by rw [h n (by ((try clear ew);(try clear es);(try clear e1);(try clear e2);(try clear ec);omega))];simp)]
    unfold mx;split <;> ((try clear ew);(try clear es);(try clear e1);(try clear e2);(try clear ec);omega)
theorem Qh (l:List Sq) (w:Nat) (H:Int):∀ n y,y≤n→lin l w H 0 y≤lin l w H 0 n
  | 0, y, h => by obtain rfl : y = 0 := by ((try clear ew); (try clear es); (try clear e1); (try clear e2); (try clear ec); omega)
                  exact Int.le_refl _
  | n+1,y,h=>by
    by_cases e:y=n+1
    · subst e;exact Int.le_refl _
    · have h1:=Qh l w H n y (by ((try clear ew);(try clear es);(try clear e1);(try clear e2);(try clear ec);omega))
      have h0:=(Iu l w H 0 (Int.le_refl _) n).1
      rw [Gn l w H 0 n h0]
      split
      · have:=(mo_bd (bAt l (n:Int)) (lin l w H 0 n) h0 w).1
        ((try clear ew);(try clear es);(try clear e1);(try clear e2);(try clear ec);omega)
      · exact h1
theorem lin_pos (l:List Sq) (w:Nat) (H:Int) (n y x:Nat) (hy:y<n) (hyH:1≤(y:Int)∧(y:Int)≤H-1) (hx:x<w) (hb:bAt l (y:Int) x=true):1≤lin l w H 0 n:=by
  have h1:=Qh l w H n (y+1) (by ((try clear ew);(try clear es);(try clear e1);(try clear e2);(try clear ec);omega))
  have h0:=(Iu l w H 0 (Int.le_refl _) y).1
  rw [Gn l w H 0 y h0,if_pos hyH] at h1
  have:=mo_pos (bAt l (y:Int)) (lin l w H 0 y) h0 w x hx hb
  ((try clear ew);(try clear es);(try clear e1);(try clear e2);(try clear ec);omega)
theorem Qi (l:List Sq) (w:Nat) (H:Int) (h:∀ y x:Nat,1≤(y:Int)→(y:Int)≤H-1→x<w→bAt l (y:Int) x=false):∀ n,lin l w H 0 n=0
  | 0=>rfl
  | n+1=>by
    have ih:=Qi l w H h n
    rw [Gn l w H 0 n (by ((try clear ew);(try clear es);(try clear e1);(try clear e2);(try clear ec);omega))]
    split
    · rename_i c
      rw [ih]
      exact mo_none _ 0 (Int.le_refl _) w (fun x hx=>h n x c.1 c.2 hx)
    · exact ih
theorem No {W H:Int} {l:List Sq} (hg:Bq W H l) (h1:l.length=1):Ad l 0=⟨0,0,W⟩∧W=H:=by
  have hi:=(hg.2.2.2.1 0 (by ((try clear ew);(try clear es);(try clear e1);(try clear e2);(try clear ec);omega))).1
  have ha:=hg.2.2.2.2
  rw [h1] at ha
  simp only [Dk,Int.zero_add] at ha
  have hW:=hg.1
  have hH:=hg.2.1
  generalize hs:Ad l 0=s at *
  unfold Ins at hi
  have k1:s.f2*s.f2≤W*s.f2:=Int.mul_le_mul_of_nonneg_right (by ((try clear ew);(try clear es);(try clear e1);(try clear e2);(try clear ec);omega)) (by ((try clear ew);(try clear es);(try clear e1);(try clear e2);(try clear ec);omega))
  have k2:W*s.f2≤W*H:=Int.mul_le_mul_of_nonneg_left (by ((try clear ew);(try clear es);(try clear e1);(try clear e2);(try clear ec);omega)) (by ((try clear ew);(try clear es);(try clear e1);(try clear e2);(try clear ec);omega))
  have q1:s.f2=W:=Int.eq_of_mul_eq_mul_right (show s.f2≠0 by ((try clear ew);(try clear es);(try clear e1);(try clear e2);(try clear ec);omega)) (by ((try clear ew);(try clear es);(try clear e1);(try clear e2);(try clear ec);omega))
  have q2:s.f2=H:=Int.eq_of_mul_eq_mul_left (show W≠0 by ((try clear ew);(try clear es);(try clear e1);(try clear e2);(try clear ec);omega)) (by ((try clear ew);(try clear es);(try clear e1);(try clear e2);(try clear ec);omega))
  refine ⟨?_,by ((try clear ew);(try clear es);(try clear e1);(try clear e2);(try clear ec);omega)⟩
  obtain ⟨a,b,c⟩:=s
  dsimp only at *
  congr 1 <;> ((try clear ew);(try clear es);(try clear e1);(try clear e2);(try clear ec);omega)
theorem Qj {W H:Int} {l:List Sq} (hg:Bq W H l) (h1:l.length=1):lin l W.toNat H 0 (H.toNat+1)=0:=by
  obtain ⟨e,_⟩:=No hg h1
  refine Qi l _ H (fun y x hy hy2 hx=>?_) _
  rw [← Bool.not_eq_true]
  intro hb
  obtain ⟨m,hm,hs,_⟩:=(Is l (y:Int) (x:Int) l.length).1 hb
  obtain rfl:m=0:=by ((try clear ew);(try clear es);(try clear e1);(try clear e2);(try clear ec);omega)
  rw [e] at hs
  have:=No hg h1
  dsimp only at hs
  ((try clear ew);(try clear es);(try clear e1);(try clear e2);(try clear ec);omega)
theorem Qk {W H:Int} {l:List Sq} (hg:Bq W H l) (i:Nat) (hi:i<l.length) (h:(Ad l i).f1+(Ad l i).f2<H):1≤lin l W.toNat H 0 (H.toNat+1):=by
  have hI:=(hg.2.2.2.1 i hi).1
  unfold Ins at hI
  refine lin_pos l _ H _ ((Ad l i).f1+(Ad l i).f2).toNat (Ad l i).f0.toNat (by ((try clear ew);(try clear es);(try clear e1);(try clear e2);(try clear ec);omega)) (by ((try clear ew);(try clear es);(try clear e1);(try clear e2);(try clear ec);omega)) (by ((try clear ew);(try clear es);(try clear e1);(try clear e2);(try clear ec);omega)) ?_
  unfold bAt
  rw [Int.toNat_of_nonneg (by ((try clear ew);(try clear es);(try clear e1);(try clear e2);(try clear ec);omega)),Int.toNat_of_nonneg (by ((try clear ew);(try clear es);(try clear e1);(try clear e2);(try clear ec);omega))]
  exact (Is l _ _ l.length).2 ⟨i,hi,Or.inr rfl,by ((try clear ew);(try clear es);(try clear e1);(try clear e2);(try clear ec);omega),by ((try clear ew);(try clear es);(try clear e1);(try clear e2);(try clear ec);omega)⟩
/-- a cut of several squares has a line within -/
theorem line_some {W H:Int} {l R:List Sq} (hg:Bq W H l) (hp:R.Perm (l.map (tur H))) (hR:Bq H W R) (h2:1<l.length):1≤mx (lin l W.toNat H 0 (H.toNat+1)) (lin R H.toNat W 0 (W.toNat+1)):=by
  obtain ⟨j,hj,hin⟩:=Jk hg 0 0 (by have:=hg.1;((try clear ew);(try clear es);(try clear e1);(try clear e2);(try clear ec);omega)) (by have:=hg.2.1;((try clear ew);(try clear es);(try clear e1);(try clear e2);(try clear ec);omega))
  have hI:=(hg.2.2.2.1 j hj).1
  by_cases c:(Ad l j).f1+(Ad l j).f2<H
  · have:=Qk hg j hj c
    unfold mx;split <;> ((try clear ew);(try clear es);(try clear e1);(try clear e2);(try clear ec);omega)
  · by_cases c2:(Ad l j).f0+(Ad l j).f2<W
    · have hm:tur H (Ad l j) ∈ R:=hp.mem_iff.2 (List.mem_map.2 ⟨_,Er l j hj,rfl⟩)
      obtain ⟨i,hi,e⟩:=List.getElem_of_mem hm
      rw [← Bx R i hi] at e
      have:=Qk hR i hi (by rw [e,Ir hg.2.1.2 hI];exact c2)
      unfold mx;split <;> ((try clear ew);(try clear es);(try clear e1);(try clear e2);(try clear ec);omega)
    · exfalso
      obtain ⟨i,hi,hij⟩:∃ i,i<l.length∧i≠j:=by
        by_cases e:j=0
        · exact ⟨1,h2,by ((try clear ew);(try clear es);(try clear e1);(try clear e2);(try clear ec);omega)⟩
        · exact ⟨0,by ((try clear ew);(try clear es);(try clear e1);(try clear e2);(try clear ec);omega),by ((try clear ew);(try clear es);(try clear e1);(try clear e2);(try clear ec);omega)⟩
      have hb:=(hg.2.2.2.1 i hi).1
      have ho:Ovl (Ad l j) (Ad l i):=by
        generalize Ad l j=s at *
        generalize Ad l i=t at *
        unfold Ck at hin;unfold Ins at hb hI;unfold Ovl;((try clear ew);(try clear es);(try clear e1);(try clear e2);(try clear ec);omega)
      have:=I6 hg (Er l j hj) (Er l i hi) ho
      rcases Nat.lt_trichotomy i j with q|q|q
      · exact (hg.2.2.2.1 j hj).2.2 i q ho
      · exact hij q
      · exact (hg.2.2.2.1 i hi).2.2 j q (Ih ho)
/-- the longest line's answer, told -/
theorem line_told (W H:Int) (l:List Sq):∃ B:Int×Bool,(Bq W H l→B.2=true∧(B.1≤W∨B.1≤H)∧(B.1=0↔l.length=1))∧(¬ Bq W H l→B.2=false)∧Ev (fun k=>B0.f k W H l) B∧Ev (fun k=>C6.f k W H l) B:=by
  by_cases h:Bq W H l
  · obtain ⟨B,hs,hi,R,hp,hR,e⟩:=line_ev h
    refine ⟨B,fun _=>?_,fun hn=>absurd h hn,hs,hi⟩
    have hW:=h.1
    have hH:=h.2.1
    have b1:=Iu l W.toNat H 0 (Int.le_refl _) (H.toNat+1)
    have b2:=Iu R H.toNat W 0 (Int.le_refl _) (W.toNat+1)
    subst e
    dsimp only
    refine ⟨rfl,?_,?_⟩
    · have b1':lin l W.toNat H 0 (H.toNat+1)≤W:=by have:=b1.2;unfold mx at this;split at this <;> ((try clear ew);(try clear es);(try clear e1);(try clear e2);(try clear ec);omega)
      have b2':lin R H.toNat W 0 (W.toNat+1)≤H:=by have:=b2.2;unfold mx at this;split at this <;> ((try clear ew);(try clear es);(try clear e1);(try clear e2);(try clear ec);omega)
      unfold mx;split
      · exact Or.inr b2'
      · exact Or.inl b1'
    · constructor
      · intro h0
        have h1:=h.2.2.1.1
        by_cases h2:1<l.length
        · have:=line_some h hp hR h2;((try clear ew);(try clear es);(try clear e1);(try clear e2);(try clear ec);omega)
        · ((try clear ew);(try clear es);(try clear e1);(try clear e2);(try clear ec);omega)
      · intro h1
        have hRl:R.length=1:=by rw [hp.length_eq,List.length_map];exact h1
        rw [Qj h h1,Qj hR hRl];rfl
  · exact ⟨(0,false),fun hn=>absurd hn h,fun _=>rfl,(line_no h).1,(line_no h).2⟩

/-! ### the sides -/
theorem Ms (l : List Sq) (hl : l.length ≤ 10000) : ∀ (d i : Nat), l.length - i = d → i ≤ l.length →
    Ev (fun k=>C2.l0 k ((l.take i).map (fun s=>s.f2)) l (l.length:Int) (i:Int)) (l.map fun s=>s.f2):=by
  intro d
  induction d with
  | zero =>
    intro i hd hi
    obtain rfl:i=l.length:=by omega
    refine Ev.succ ?_
    simp only [C2.l0]
    exact Ev.neg (by omega) (Ev.eqr (Ev.now _) (by rw [List.take_length]))
  | succ d ih =>
    intro i hd hi
    have hlt:i<l.length:=by omega
    refine Ev.succ ?_
    simp only [C2.l0,Dg]
    refine Ev.pos (by omega) (Ev.pos (by omega) (Ev.pos (by omega) (Ev.pos (by rw [List.length_map,List.length_take];omega) ?_)))
    rw [Af (by omega) (by omega)]
    have e:(l.take i).map (fun s=>s.f2)++[(Ad l i).f2]=(l.take (i+1)).map (fun s=>s.f2):=by
      rw [List.take_succ_eq_append_getElem hlt,List.map_append,Bx l i hlt];rfl
    rw [e]
    exact ih (i+1) (by omega) (by omega)
theorem Ny (l:List Sq) (hl:l.length≤10000):Ev (fun k=>C2.f k l) (l.map fun s=>s.f2):=by
  unfold C2.f
  exact Ms l hl l.length 0 (by omega) (Nat.zero_le _)
theorem Ib (W H:Int) (l:List Sq):Ev (fun k=>Dz.f k W H l) (if Bq W H l then (l.map (fun s=>s.f2),true) else ([],false)):=by
  unfold Dz.f
  refine Ev.bind (C0 W H l) ?_
  by_cases h:Bq W H l
  · rw [if_pos h]
    exact Ev.pos (decide_eq_true h) (Ev.bind (Ny l (by have:=h.2.2.1;omega)) (Ev.now _))
  · rw [if_neg h]
    exact Ev.neg (by simpa using h) (Ev.now _)
theorem Ky (l : List Sq) (hl : l.length ≤ 10000) : ∀ (d i : Nat), l.length - i = d → i ≤ l.length →
    Ev (fun k=>Cm.l0 k ((l.take i).map (fun s=>s.f2)) l (l.length:Int) (i:Int)) (l.map (fun s=>s.f2),true):=by
  intro d
  induction d with
  | zero =>
    intro i hd hi
    obtain rfl:i=l.length:=by omega
    refine Ev.succ ?_
    simp only [Cm.l0]
    exact Ev.neg (by omega) (Ev.eqr (Ev.now _) (by rw [List.take_length]))
  | succ d ih =>
    intro i hd hi
    have hlt:i<l.length:=by omega
    refine Ev.succ ?_
    simp only [Cm.l0,Dg]
    refine Ev.pos (by omega) (Ev.pos (by omega) (Ev.pos (by omega) (Ev.pos (by rw [List.length_map,List.length_take];omega) ?_)))
    rw [Af (by omega) (by omega)]
    have e:(l.take i).map (fun s=>s.f2)++[(Ad l i).f2]=(l.take (i+1)).map (fun s=>s.f2):=by
      rw [List.take_succ_eq_append_getElem hlt,List.map_append,Bx l i hlt];rfl
    rw [e]
    exact ih (i+1) (by omega) (by omega)
theorem Mt (W H:Int) (l:List Sq):Ev (fun k=>Cm.f k W H l) (if Bq W H l then (l.map (fun s=>s.f2),true) else ([],false)):=by
  unfold Cm.f
  refine Ev.bind (Cp W H l) ?_
  by_cases h:Bq W H l
  · rw [if_pos h]
    exact Ev.pos (decide_eq_true h) (Ky l (by have:=h.2.2.1;omega) l.length 0 (by omega) (Nat.zero_le _))
  · rw [if_neg h]
    exact Ev.neg (by simpa using h) (Ev.now _)

/-! ### squares at the four Gr -/
def e0 (s:Sq):Int:=if s.f1=0 then 1 else 0
def e1 (W:Int) (s:Sq):Int:=if s.f0+s.f2=W then 1 else 0
def e2 (H:Int) (s:Sq):Int:=if s.f1+s.f2=H then 1 else 0
def e3 (s:Sq):Int:=if s.f0=0 then 1 else 0
def Gh (l:List Sq) (e:Sq→Int):Nat→Int
  | 0=>0
  | i+1=>Gh l e i+e (Ad l i)
theorem G8 (l:List Sq) (e:Sq→Int) (he:∀ s,0≤e s∧e s≤1):∀ i,0≤Gh l e i∧Gh l e i≤i:=by
  intro i
  induction i with
  | zero=>simp [Gh]
  | succ i ih=>have:=he (Ad l i);simp only [Gh];omega
theorem bd0 (s:Sq):0≤e0 s∧e0 s≤1:=by unfold e0;split <;> omega
theorem bd1 (W:Int) (s:Sq):0≤e1 W s∧e1 W s≤1:=by unfold e1;split <;> omega
theorem bd2 (H:Int) (s:Sq):0≤e2 H s∧e2 H s≤1:=by unfold e2;split <;> omega
theorem bd3 (s:Sq):0≤e3 s∧e3 s≤1:=by unfold e3;split <;> omega
def Gr (W H:Int) (l:List Sq) (i:Nat):List Int:=[Gh l e0 i,Gh l (e1 W) i,Gh l (e2 H) i,Gh l e3 i]
section
variable (a b c d v:Int)
theorem set_0:([a,b,c,d]:List Int).set (0:Int).toNat v=[v,b,c,d]:=rfl
theorem set_1:([a,b,c,d]:List Int).set (1:Int).toNat v=[a,v,c,d]:=rfl
theorem set_2:([a,b,c,d]:List Int).set (2:Int).toNat v=[a,b,v,d]:=rfl
theorem set_3:([a,b,c,d]:List Int).set (3:Int).toNat v=[a,b,c,v]:=rfl
theorem rd_0:rd [a,b,c,d] 0=a:=rfl
theorem rd_1:rd [a,b,c,d] 1=b:=rfl
theorem rd_2:rd [a,b,c,d] 2=c:=rfl
theorem rd_3:rd [a,b,c,d] 3=d:=rfl
theorem Jc:(([a,b,c,d]:List Int).length:Int)=4:=rfl
end
theorem Mu (p:Prop) [Decidable p]:Cg.f (decide p)=some (if p then 1 else 0):=by
  unfold Cg.f
  by_cases h:p
  · rw [if_pos (by simpa using h),if_pos h]
  · rw [if_neg (by simpa using h),if_neg h]
theorem Mv {W H : Int} {l : List Sq} (hg : Bq W H l) : ∀ (n i : Nat), l.length - i = n → i ≤ l.length →
    Ev (fun k=>An.l0 k (Gr W H l i) l (l.length:Int) (i:Int) W H l) (Gr W H l l.length):=by
  obtain ⟨hW,hH,hl,hok,_⟩:=hg
  intro n
  induction n with
  | zero =>
    intro i hd hi
    obtain rfl:i=l.length:=by omega
    refine Ev.succ ?_
    simp only [An.l0]
    exact Ev.neg (by omega) (Ev.now _)
  | succ n ih =>
    intro i hd hi
    obtain ⟨⟨i1,i2,i3,i4,i5⟩,_,_⟩:=hok i (by omega)
    have b0:=G8 l e0 bd0 i
    have b1:=G8 l (e1 W) (bd1 W) i
    have b2:=G8 l (e2 H) (bd2 H) i
    have b3:=G8 l e3 bd3 i
    have c0:=bd0 (Ad l i)
    have c1:=bd1 W (Ad l i)
    have c2:=bd2 H (Ad l i)
    have c3:=bd3 (Ad l i)
    have ih':=ih (i+1) (by omega) (by omega)
    unfold Gr at ih' ⊢
    simp only [Gh] at ih'
    refine Ev.succ ?_
    simp only [An.l0,Dg]
    generalize Ad l i=s at *
    generalize Gh l e0 i=p0 at *
    generalize Gh l (e1 W) i=p1 at *
    generalize Gh l (e2 H) i=p2 at *
    generalize Gh l e3 i=p3 at *
    refine Ev.pos (by omega) (Ev.pos (by omega) (Ev.pos (by omega) (Ev.pos (by rw [Jc];omega) ?_)))
    rw [Af (n:=s.f0+s.f2) (by omega) (by omega),Af (n:=s.f1+s.f2) (by omega) (by omega),Af (n:=(i:Int)+1) (by omega) (by omega)]
    refine Ev.bindc (Mu (s.f1=0)) (Ev.bindc rfl ?_)
    rw [rd_0,set_0,show wrap64 (p0+(if s.f1=0 then (1:Int) else 0))=p0+e0 s from Af (n:=p0+e0 s) (by omega) (by omega)]
    refine Ev.pos (by rw [Jc];omega) (Ev.bindc (Mu (s.f0+s.f2=W)) (Ev.bindc rfl ?_))
    rw [rd_1,set_1,show wrap64 (p1+(if s.f0+s.f2=W then (1:Int) else 0))=p1+e1 W s from Af (n:=p1+e1 W s) (by omega) (by omega)]
    refine Ev.pos (by rw [Jc];omega) (Ev.bindc (Mu (s.f1+s.f2=H)) (Ev.bindc rfl ?_))
    rw [rd_2,set_2,show wrap64 (p2+(if s.f1+s.f2=H then (1:Int) else 0))=p2+e2 H s from Af (n:=p2+e2 H s) (by omega) (by omega)]
    refine Ev.pos (by rw [Jc];omega) (Ev.bindc (Mu (s.f0=0)) ?_)
    rw [rd_3,set_3,show wrap64 (p3+(if s.f0=0 then (1:Int) else 0))=p3+e3 s from Af (n:=p3+e3 s) (by omega) (by omega)]
    exact ih'
theorem Mw {W H : Int} {l : List Sq} (hg : Bq W H l) : ∀ (n i : Nat), l.length - i = n → i ≤ l.length →
    Ev (fun k=>Am.l0 k (Gr W H l i) l (l.length:Int) (i:Int) W H l) (Gr W H l l.length,true):=by
  obtain ⟨hW,hH,hl,hok,_⟩:=hg
  intro n
  induction n with
  | zero =>
    intro i hd hi
    obtain rfl:i=l.length:=by omega
    refine Ev.succ ?_
    simp only [Am.l0]
    exact Ev.neg (by omega) (Ev.now _)
  | succ n ih =>
    intro i hd hi
    obtain ⟨⟨i1,i2,i3,i4,i5⟩,_,_⟩:=hok i (by omega)
    have b0:=G8 l e0 bd0 i
    have b1:=G8 l (e1 W) (bd1 W) i
    have b2:=G8 l (e2 H) (bd2 H) i
    have b3:=G8 l e3 bd3 i
    have ih':=ih (i+1) (by omega) (by omega)
    generalize Gr W H l l.length=R at ih' ⊢
    unfold Gr at ih' ⊢
    simp only [Gh] at ih'
    refine Ev.succ ?_
    simp only [Am.l0,Dg]
    generalize Ad l i=s at *
    generalize Gh l e0 i=p0 at *
    generalize Gh l (e1 W) i=p1 at *
    generalize Gh l (e2 H) i=p2 at *
    generalize Gh l e3 i=p3 at *
    have g1:(i:Int)<(l.length:Int):=by omega
    have g0:0≤(i:Int):=by omega
    obtain ⟨w1,w2,w3,v0,v1,v2,v3⟩:wrap64 (s.f0+s.f2)=s.f0+s.f2∧wrap64 (s.f1+s.f2)=s.f1+s.f2∧wrap64 ((i:Int)+1)=((i+1:Nat):Int)∧wrap64 (p0+1)=p0+1∧wrap64 (p1+1)=p1+1∧wrap64 (p2+1)=p2+1∧wrap64 (p3+1)=p3+1 :=
      ⟨Af (by omega) (by omega),Af (by omega) (by omega),by rw [Af] <;> omega,Af (by omega) (by omega),Af (by omega) (by omega),Af (by omega) (by omega),Af (by omega) (by omega)⟩
    clear b0 b1 b2 b3
    have last : ∀ x0 x1 x2 : Int, (∀ y, y = p3 + e3 s → Ev (fun k => Am.l0 k [x0, x1, x2, y] l (l.length : Int) ((i + 1 : Nat) : Int) W H l) (R, true)) →
        Ev (fun k=>if s.f0=0 then (if 3<(([x0,x1,x2,p3]:List Int).length:Int) then Am.l0 k (([x0,x1,x2,p3]:List Int).set (3:Int).toNat (wrap64 (rd [x0,x1,x2,p3] 3+1))) l (l.length:Int) (wrap64 ((i:Int)+1)) W H l else none) else Am.l0 k [x0,x1,x2,p3] l (l.length:Int) (wrap64 ((i:Int)+1)) W H l) (R,true):=by
      intro x0 x1 x2 h
      rw [rd_3,set_3,v3,w3]
      by_cases c:s.f0=0
      · exact Ev.pos c (Ev.pos (by rw [Jc];decide) (h _ (by unfold e3;rw [if_pos c])))
      · exact Ev.neg c (h _ (by unfold e3;rw [if_neg c,Int.add_zero]))
    have st2 : ∀ x0 x1 : Int, (∀ x y, x = p2 + e2 H s → y = p3 + e3 s → Ev (fun k => Am.l0 k [x0, x1, x, y] l (l.length : Int) ((i + 1 : Nat) : Int) W H l) (R, true)) →
        Ev (fun k=>Am.j2 k [x0,x1,p2,p3] l (l.length:Int) (i:Int) W H l s.f0 s.f1 s.f2) (R,true):=by
      intro x0 x1 h
      refine Ev.succ ?_
      simp only [Am.j2,w2]
      by_cases c:s.f1+s.f2=H
      · refine Ev.pos c (Ev.pos (by rw [Jc];decide) (Ev.bindc rfl ?_))
        rw [rd_2,set_2,v2]
        exact last _ _ _ fun y hy=>h _ _ (by unfold e2;rw [if_pos c]) hy
      · exact Ev.neg c (last _ _ _ fun y hy=>h _ _ (by unfold e2;rw [if_neg c,Int.add_zero]) hy)
    have st1 : ∀ x0 : Int, (∀ z x y, z = p1 + e1 W s → x = p2 + e2 H s → y = p3 + e3 s → Ev (fun k => Am.l0 k [x0, z, x, y] l (l.length : Int) ((i + 1 : Nat) : Int) W H l) (R, true)) →
        Ev (fun k=>Am.j1 k [x0,p1,p2,p3] l (l.length:Int) (i:Int) W H l s.f0 s.f1 s.f2) (R,true):=by
      intro x0 h
      refine Ev.succ ?_
      simp only [Am.j1,w1]
      by_cases c:s.f0+s.f2=W
      · refine Ev.pos c (Ev.pos (by rw [Jc];decide) ?_)
        rw [rd_1,set_1,v1]
        exact st2 _ _ fun x y hx hy=>h _ _ _ (by unfold e1;rw [if_pos c]) hx hy
      · exact Ev.neg c (st2 _ _ fun x y hx hy=>h _ _ _ (by unfold e1;rw [if_neg c,Int.add_zero]) hx hy)
    refine Ev.pos g1 (Ev.pos g0 (Ev.pos g1 ?_))
    by_cases c:s.f1=0
    · refine Ev.pos c (Ev.pos (by rw [Jc];decide) ?_)
      rw [rd_0,set_0,v0]
      refine st1 _ fun z x y hz hx hy=>?_
      subst hz hx hy
      rw [show p0+1=p0+e0 s from by unfold e0;rw [if_pos c]]
      exact ih'
    · refine Ev.neg c (st1 _ fun z x y hz hx hy=>?_)
      subst hz hx hy
      rw [show p0=p0+e0 s from by unfold e0;rw [if_neg c,Int.add_zero]]
      exact ih'
open Classical in
noncomputable def Iv (W H:Int) (l:List Sq):List Int×Bool:=if Bq W H l then (Gr W H l l.length,true) else ([],false)
theorem Rg (W H:Int) (l:List Sq):(Iv W H l).1.length≤4:=by
  unfold Iv;split <;> simp [Gr]
theorem edges_0 (W H:Int) (l:List Sq):(List.replicate 4 0:List Int)=Gr W H l 0:=rfl
theorem Nz (W H:Int) (l:List Sq):Ev (fun k=>Am.f k W H l) (Iv W H l):=by
  classical
  unfold Am.f Iv
  refine Ev.bind (Cp W H l) ?_
  by_cases h:Bq W H l
  · rw [if_pos h]
    refine Ev.pos (by simpa using h) (Ev.pos (by omega) ?_)
    rw [edges_0 W H l]
    exact Mw h l.length 0 (by omega) (by omega)
  · rw [if_neg h]
    exact Ev.neg (by simpa using h) (Ev.now _)
theorem N0 (W H:Int) (l:List Sq):Ev (fun k=>Dm.f k W H l) (Iv W H l):=by
  classical
  unfold Dm.f Iv
  refine Ev.bind (C0 W H l) ?_
  by_cases h:Bq W H l
  · rw [if_pos h]
    refine Ev.pos (by simpa using h) (Ev.bind (a:=Gr W H l l.length) ?_ (Ev.now _))
    unfold An.f
    refine Ev.pos (by omega) ?_
    rw [edges_0 W H l]
    exact Mv h l.length 0 (by omega) (by omega)
  · rw [if_neg h]
    exact Ev.neg (by simpa using h) (Ev.now _)

theorem gD (l:List Int) (j:Nat) (h:j<l.length):l.getD j 0=l[j]:=by simp [List.getD,h]
open Classical in
theorem rise_loop (S:List Int) (hl:S.length≤100000):∀ (d i:Nat),S.length-i=d→1≤i→Ev (fun k=>Ci.l0 k S (i:Int)) (decide (∀ j,i≤j→j<S.length→S.getD (j-1) 0<S.getD j 0)):=by
  intro d
  induction d with
  | zero =>
    intro i hd hi
    refine Ev.succ ?_
    simp only [Ci.l0]
    refine Ev.neg (by omega) (Ev.eqr (Ev.now _) (decide_eq_true (fun j h1 h2=>by omega)).symm)
  | succ d ih =>
    intro i hd hi
    have hn:=ih (i+1) (by omega) (by omega)
    have e1:wrap64 ((i:Int)-1)=((i-1:Nat):Int):=by rw [Af (by omega) (by omega)];omega
    have e2:wrap64 ((i:Int)+1)=((i+1:Nat):Int):=by rw [Af (by omega) (by omega)];omega
    refine Ev.succ ?_
    simp only [Ci.l0,e1,e2]
    clear e1 e2
    refine Ev.pos (by omega) (Ev.pos (by omega) (Ev.pos (by omega) (Ev.pos (by omega) ?_)))
    show Ev (fun k=>if S.getD (i:Int).toNat 0≤S.getD ((i-1:Nat):Int).toNat 0 then some false else Ci.l0 k S ((i+1:Nat):Int)) _
    rw [Int.toNat_natCast,Int.toNat_natCast]
    by_cases c:S.getD i 0≤S.getD (i-1) 0
    · refine Ev.pos c (Ev.eqr (Ev.now _) (decide_eq_false (fun h=>?_)).symm)
      have:=h i (Nat.le_refl _) (by omega)
      omega
    · refine Ev.neg c (Ev.eqr hn (decide_eq_decide.2 ⟨fun h j h1 h2=>?_,fun h j h1 h2=>h j (by omega) h2⟩))
      by_cases e:j=i
      · subst e;omega
      · exact h j (by omega) h2
theorem sort_rise (L:List Int) (hL:L.length≤1000):Ev (fun k=>Ci.f k (L.mergeSort fun x y=>decide (x≤y))) (decide (L.Pairwise (·≠·))):=by
  have hp:=List.mergeSort_perm L (fun x y=>decide (x≤y))
  have hs:=List.pairwise_mergeSort (le:=fun x y:Int=>decide (x≤y)) (fun a b c h1 h2=>by simp only [decide_eq_true_eq] at *;omega) (fun a b=>by simp only [Bool.or_eq_true,decide_eq_true_eq];omega) L
  have hl:=hp.length_eq
  generalize (L.mergeSort fun x y=>decide (x≤y))=S at hp hs hl
  unfold Ci.f
  refine Ev.eqr (rise_loop S (by omega) (S.length-1) 1 rfl (Nat.le_refl _)) (decide_eq_decide.2 ?_)
  rw [← hp.pairwise_iff (fun h=>h.symm)]
  constructor
  · intro h
    have lt:∀ d i:Nat,i+d+1<S.length→S.getD i 0<S.getD (i+d+1) 0:=by
      intro d
      induction d with
      | zero=>intro i hi;have:=h (i+1) (by omega) hi;rwa [Nat.add_sub_cancel] at this
      | succ d ih=>intro i hi;have h1:=ih i (by omega);have h2:=h (i+d+1+1) (by omega) (by omega);rw [Nat.add_sub_cancel] at h2;rw [show i+(d+1)+1=i+d+1+1 by omega];omega
    rw [List.pairwise_iff_getElem]
    intro i j hi hj hij
    have:=lt (j-i-1) i (by omega)
    rw [show i+(j-i-1)+1=j by omega,gD S i hi,gD S j hj] at this
    omega
  · intro h j h1 h2
    rw [List.pairwise_iff_getElem] at h hs
    have a:=h (j-1) j (by omega) h2 (by omega)
    have b:=hs (j-1) j (by omega) h2 (by omega)
    simp only [decide_eq_true_eq] at b
    rw [gD S (j-1) (by omega),gD S j h2]
    omega
theorem at_take (l:List Sq) (i m:Nat) (h:m<i) (hm:m<l.length):Ad (l.take i) m=Ad l m:=by
  rw [Bx _ _ (by rw [List.length_take];omega),Bx _ _ hm,List.getElem_take]
theorem perf_l1 (W H : Int) (l : List Sq) (hl : l.length ≤ 1000) (i : Nat) (hi : i < l.length) (s : Sq) (R : Bool × Bool) : ∀ (d j : Nat), i - j = d → j ≤ i → ((∃ m, j ≤ m ∧ m < i ∧ s.f2 = (Ad l m).f2) → R = (false, true)) →
    ((∀ m,j≤m→m<i→s.f2≠(Ad l m).f2)→Ev (fun k=>Bl.l0 k l (l.length:Int) ((i+1:Nat):Int) W H l) R) →
    Ev (fun k=>Bl.l1 k l (l.length:Int) (i:Int) (l.take i) ((l.take i).length:Int) (j:Int) W H l s.f0 s.f1 s.f2) R:=by
  intro d
  have hlt:(l.take i).length=i:=by rw [List.length_take];omega
  induction d with
  | zero =>
    intro j hd hj h1 h2
    have e2:wrap64 ((i:Int)+1)=((i+1:Nat):Int):=by rw [Af (by omega) (by omega)];omega
    refine Ev.succ ?_
    simp only [Bl.l1,e2,hlt]
    exact Ev.neg (by omega) (h2 (fun m a b=>by omega))
  | succ d ih =>
    intro j hd hj h1 h2
    have hn:=ih (j+1) (by omega) (by omega) (fun ⟨m,a,b,c⟩=>h1 ⟨m,by omega,b,c⟩)
    have e2:wrap64 ((j:Int)+1)=((j+1:Nat):Int):=by rw [Af (by omega) (by omega)];omega
    refine Ev.succ ?_
    simp only [Bl.l1,Dg,e2,hlt,at_take l i j (by omega) (by omega)]
    clear e2
    rw [hlt] at hn
    refine Ev.pos (by omega) (Ev.pos (by omega) (Ev.pos (by omega) ?_))
    by_cases c:s.f2=(Ad l j).f2
    · exact Ev.pos c (Ev.eqr (Ev.now _) (h1 ⟨j,Nat.le_refl _,by omega,c⟩).symm)
    · refine Ev.neg c (hn (fun h=>h2 (fun m a b=>?_)))
      by_cases e:m=j
      · subst e;exact c
      · exact h m (by omega) b
open Classical in
theorem perf_l0 (W H : Int) (l : List Sq) (hl : l.length ≤ 1000) : ∀ (d i : Nat), l.length - i = d → i ≤ l.length →
    Ev (fun k=>Bl.l0 k l (l.length:Int) (i:Int) W H l) (decide (∀ a b,i≤a→a<l.length→b<a→(Ad l a).f2≠(Ad l b).f2),true):=by
  intro d
  induction d with
  | zero =>
    intro i hd hi
    refine Ev.succ ?_
    simp only [Bl.l0]
    refine Ev.neg (by omega) (Ev.eqr (Ev.now _) ?_)
    rw [decide_eq_true (fun a b h1 h2 h3=>by omega)]
  | succ d ih =>
    intro i hd hi
    have hn:=ih (i+1) (by omega) (by omega)
    refine Ev.succ ?_
    simp only [Bl.l0,Dg,Int.toNat_natCast]
    refine Ev.pos (by omega) (Ev.pos (by omega) (Ev.pos (by omega) (Ev.pos (by omega) (Ev.bindc rfl ?_))))
    refine perf_l1 W H l hl i (by omega) (Ad l i) _ i 0 (by omega) (by omega) ?_ ?_
    · rintro ⟨m,a,b,c⟩
      rw [decide_eq_false (fun h=>h i m (Nat.le_refl _) (by omega) b c)]
    · intro h
      refine Ev.eqr hn ?_
      congr 1
      refine decide_eq_decide.2 ⟨fun g a b h1 h2 h3=>?_,fun g a b h1 h2 h3=>g a b (by omega) h2 h3⟩
      by_cases e:a=i
      · subst e;exact h b (by omega) h3
      · exact g a b (by omega) h2 h3
theorem perf_ev (W H:Int) (l:List Sq):∃ B:Bool×Bool,B.2=decide (Bq W H l)∧Ev (fun k=>Bl.f k W H l) B∧Ev (fun k=>D3.f k W H l) B:=by
  by_cases hg:Bq W H l
  · have h30:=hg.2.2.1
    refine ⟨(decide ((l.map fun s=>s.f2).Pairwise (·≠·)),true),(decide_eq_true hg).symm,?_,?_⟩
    · unfold Bl.f
      refine Ev.bind (Cp W H l) (Ev.pos (decide_eq_true hg) (Ev.eqr (perf_l0 W H l (by omega) l.length 0 (by omega) (by omega)) ?_))
      congr 1
      refine decide_eq_decide.2 ?_
      rw [List.pairwise_map,List.pairwise_iff_getElem]
      constructor
      · intro h i j hi hj hij e
        have:=h j i (by omega) hj hij
        rw [Bx l j hj,Bx l i hi] at this
        exact this e.symm
      · intro h a b _ ha hb e
        have:=h b a (by omega) ha hb
        rw [Bx l a ha,Bx l b (by omega)] at e
        exact this e.symm
    · unfold D3.f
      have hs:=Ib W H l
      rw [if_pos hg] at hs
      refine Ev.bind hs (Ev.bindc (a:=(l.map fun s=>s.f2).mergeSort fun x y=>decide (x≤y)) ?_ (Ev.pos rfl (Ev.bind (sort_rise (l.map fun s=>s.f2) (by rw [List.length_map];omega)) (Ev.now _))))
      unfold Dc.f
      rw [if_pos (by rw [List.length_map];omega)]
  · refine ⟨(false,false),(decide_eq_false hg).symm,?_,?_⟩
    · unfold Bl.f
      exact Ev.bind (Cp W H l) (Ev.neg (by simpa using hg) (Ev.now _))
    · unfold D3.f
      have hs:=Ib W H l
      rw [if_neg hg] at hs
      refine Ev.bind hs (Ev.bindc (a:=[]) ?_ (Ev.neg (by decide) (Ev.now _)))
      unfold Dc.f
      rw [if_pos (by simp)];simp

/-! ### the stable sort: exchanges and rotations, on the list cut into pieces -/
def G0 (a b:Sq):Int:=if a.f1=b.f1 then wrap64 (a.f0-b.f0) else wrap64 (a.f1-b.f1)
theorem Iw (a b:Sq):Az.f a.f0 a.f1 a.f2 b.f0 b.f1 b.f2=some (G0 a b):=by
  unfold Az.f G0;split <;> rfl
def BdS (s:Sq):Prop:=(-1099511627776≤s.f0∧s.f0≤1099511627776)∧(-1099511627776≤s.f1∧s.f1≤1099511627776)
theorem cmpV_lt {a b:Sq} (ha:BdS a) (hb:BdS b):G0 a b<0↔Ee a b:=by
  unfold BdS at ha hb
  unfold G0 Ee
  split
  · rw [Af (by omega) (by omega)];omega
  · rw [Af (by omega) (by omega)];omega
theorem half_eq (x:Int) (h0:0≤x) (h1:x≤1099511627776):wrap64 (IntKind.u64.wrap (wrap64 x)/2)=x/2:=by
  rw [Af (n:=x) (by omega) (by omega)]
  have:IntKind.u64.wrap x=x:=by
    simp only [IntKind.wrap]
    have e:(2:Int) ^ IntKind.u64.bits=18446744073709551616:=rfl
    rw [e,if_neg (by simp [IntKind.signed])];omega
  rw [this,Af (by omega) (by omega)]
theorem Kl (s:Sq):(⟨s.f0,s.f1,s.f2⟩:Sq)=s:=rfl
theorem Mx (p:List Sq) (s:Sq) (t:List Sq) (n:Nat) (h:n=p.length):Ad (p++s::t) n=s:=by
  subst h;unfold Ad;simp [List.getD]
theorem set_app (p:List Sq) (s s':Sq) (t:List Sq) (n:Nat) (h:n=p.length):(p++s::t).set n s'=p++s'::t:=by
  subst h;simp
/-- two places change what they hold -/
theorem J3 (p w q : List Sq) (s t : Sq) (i j : Nat) (hi : i = p.length) (hj : j = p.length + 1 + w.length) :
    ((p++s::(w++t::q)).set i (Ad (p++s::(w++t::q)) j)).set j (Ad (p++s::(w++t::q)) i)=p++t::(w++s::q):=by
  have e1:Ad (p++s::(w++t::q)) j=t:=by
    have:p++s::(w++t::q)=(p++s::w)++t::q:=by simp
    rw [this];exact Mx _ _ _ _ (by simp;omega)
  rw [e1,Mx p s _ i hi,set_app p s t _ i hi]
  have:p++t::(w++t::q)=(p++t::w)++t::q:=by simp
  rw [this,set_app _ t s q j (by simp;omega)]
  simp
theorem swp_loop : ∀ (n : Nat) (p u2 w v2 q v1 u1 : List Sq) (a b : Int), u2.length = n → v2.length = n → u1.length = v1.length → a = p.length → b = p.length + v1.length + u2.length + w.length → (p.length + v1.length + u2.length + w.length + u1.length + v2.length + q.length ≤ 1099511627776) →
    Ev (fun k=>zSwp.l0 k (p++v1++u2++w++u1++v2++q) a b ((v1.length+u2.length:Nat):Int) (v1.length:Int)) (p++(v1++v2)++w++(u1++u2)++q):=by
  intro n
  induction n with
  | zero =>
    intro p u2 w v2 q v1 u1 a b h1 h2 h3 ha hb hl
    obtain rfl:=List.length_eq_zero_iff.1 h1
    obtain rfl:=List.length_eq_zero_iff.1 h2
    refine Ev.succ ?_
    simp only [zSwp.l0]
    exact Ev.neg (by simp) (Ev.eqr (Ev.now _) (by simp))
  | succ n ih =>
    intro p u2 w v2 q v1 u1 a b h1 h2 h3 ha hb hl
    obtain ⟨s,u3,rfl⟩:=List.exists_cons_of_length_pos (by omega:0<u2.length)
    obtain ⟨t,v3,rfl⟩:=List.exists_cons_of_length_pos (by omega:0<v2.length)
    simp only [List.length_cons] at h1 h2 hb hl
    have hx:p++v1++(s::u3)++w++u1++(t::v3)++q=(p++v1)++s::((u3++w++u1)++t::(v3++q)):=by simp
    have hlen:(p++v1++(s::u3)++w++u1++(t::v3)++q).length=p.length+v1.length+(u3.length+1)+w.length+u1.length+(v3.length+1)+q.length:=by simp;omega
    have ea:wrap64 (a+(v1.length:Int))=((p.length+v1.length:Nat):Int):=by rw [Af (by omega) (by omega)];omega
    have eb:wrap64 (b+(v1.length:Int))=((p.length+v1.length+1+(u3.length+w.length+u1.length):Nat):Int):=by rw [Af (by omega) (by omega)];omega
    have ew:wrap64 ((v1.length:Int)+1)=((v1.length+1:Nat):Int):=by rw [Af (by omega) (by omega)];omega
    have hnx:=ih p u3 w v3 q (v1++[t]) (u1++[s]) a b (by omega) (by omega) (by simp;omega) ha (by simp;clear ea eb ew;omega) (by simp;clear ea eb ew;omega)
    refine Ev.succ ?_
    simp only [zSwp.l0,ea,eb,ew,Dg,Kl,Int.toNat_natCast]
    rw [hlen]
    clear ea eb ew
    refine Ev.pos (by simp;omega) (Ev.pos (by omega) (Ev.pos (by omega) (Ev.pos (by omega) (Ev.pos (by omega) ?_))))
    rw [hx,J3 (p++v1) (u3++w++u1) (v3++q) s t _ _ (by rw [List.length_append]) (by simp only [List.length_append])]
    have e1:(p++v1)++t::((u3++w++u1)++s::(v3++q))=p++(v1++[t])++u3++w++(u1++[s])++v3++q:=by simp
    have e2:((v1++[t]).length+u3.length:Nat)=v1.length+(s::u3).length:=by simp;omega
    rw [e1]
    rw [e2,List.length_append,List.length_singleton] at hnx
    refine Ev.eqr hnx ?_
    simp
theorem swp_ev (p u w v q : List Sq) (a b n : Int) (hu : n = u.length) (hv : n = v.length) (ha : a = p.length) (hb : b = p.length + u.length + w.length) (hl : p.length + u.length + w.length + v.length + q.length ≤ 1099511627776) :
    Ev (fun k=>zSwp.f k (p++u++w++v++q) a b n) (p++v++w++u++q):=by
  unfold zSwp.f
  have:=swp_loop u.length p u w v q [] [] a b rfl (by omega) rfl ha (by simpa using hb) (by simpa using hl)
  simp only [List.append_nil,List.nil_append,List.length_nil,Nat.zero_add] at this
  rw [hu]
  exact this
theorem rot_loop : ∀ (n : Nat) (p u v q : List Sq), u.length + v.length = n → 1 ≤ u.length → 1 ≤ v.length → p.length + u.length + v.length + q.length ≤ 1099511627776 → ∀ (m i j : Int), m = p.length + u.length → i = u.length → j = v.length →
    Ev (fun k=>zRot.l0 k (p++u++v++q) m i j) (p++v++u++q):=by
  intro n
  induction n using Nat.strongRecOn with
  | _ n ih =>
    intro p u v q hn hu hv hl m i j hm hi hj
    have e0:wrap64 (m-i)=(p.length:Int):=by rw [Af (by omega) (by omega)];omega
    refine Ev.succ ?_
    simp only [zRot.l0,e0]
    clear e0
    by_cases c1:i=j
    · have hs:=swp_ev p u [] v q (p.length:Int) m i hi (by omega) rfl (by simpa using hm) (by simp only [List.length_nil];omega)
      simp only [List.append_nil] at hs
      exact Ev.pos c1 (Ev.bind hs (Ev.now _))
    · refine Ev.neg c1 ?_
      by_cases c2:i>j
      · refine Ev.pos c2 ?_
        have hu1:(u.take v.length).length=v.length:=by rw [List.length_take];omega
        have hu2:(u.drop v.length).length=u.length-v.length:=List.length_drop
        have hsp:=List.take_append_drop v.length u
        generalize u.take v.length=u1 at hu1 hsp
        generalize u.drop v.length=u2 at hu2 hsp
        subst hsp
        rw [List.length_append] at hn hu hl hm hi hu2
        have hs:=swp_ev p u1 u2 v q (p.length:Int) m j (by omega) hj rfl (by omega) (by omega)
        rw [show p++(u1++u2)++v++q=p++u1++u2++v++q by simp]
        refine Ev.bind hs ?_
        have e1:wrap64 (i-j)=i-j:=Af (by omega) (by omega)
        rw [e1]
        clear e1
        have:=ih (u2.length+u1.length) (by omega) (p++v) u2 u1 q rfl (by omega) (by omega) (by rw [List.length_append];omega) m (i-j) j (by rw [List.length_append];omega) (by omega) (by omega)
        refine Ev.eqr this (by simp)
      · refine Ev.neg c2 ?_
        have e1:wrap64 (wrap64 (m+j)-i)=m+j-i:=by rw [Af (n:=m+j) (by omega) (by omega),Af (by omega) (by omega)]
        have e2:wrap64 (j-i)=j-i:=Af (by omega) (by omega)
        rw [e1,e2]
        clear e1 e2
        have hv2:(v.drop (v.length-u.length)).length=u.length:=by rw [List.length_drop];omega
        have hv1:(v.take (v.length-u.length)).length=v.length-u.length:=by rw [List.length_take];omega
        have hsp:=List.take_append_drop (v.length-u.length) v
        generalize v.take (v.length-u.length)=v1 at hv1 hsp
        generalize v.drop (v.length-u.length)=v2 at hv2 hsp
        subst hsp
        rw [List.length_append] at hn hv hl hj hv1
        have hs:=swp_ev p u v1 v2 q (p.length:Int) (m+j-i) i hi (by omega) rfl (by omega) (by omega)
        rw [show p++u++(v1++v2)++q=p++u++v1++v2++q by simp]
        refine Ev.bind hs ?_
        have:=ih (v2.length+v1.length) (by omega) p v2 v1 (u++q) rfl (by omega) (by omega) (by rw [List.length_append];omega) m i (j-i) (by omega) (by omega) (by omega)
        rw [show p++v2++v1++u++q=p++v2++v1++(u++q) by simp]
        refine Ev.eqr this (by simp)
theorem rot_ev (p u v q : List Sq) (hu : 1 ≤ u.length) (hv : 1 ≤ v.length) (hl : p.length + u.length + v.length + q.length ≤ 1099511627776) (a m b : Int) (ha : a = p.length) (hm : m = p.length + u.length) (hb : b = p.length + u.length + v.length) :
    Ev (fun k=>zRot.f k (p++u++v++q) a m b) (p++v++u++q):=by
  unfold zRot.f
  have e1:wrap64 (m-a)=m-a:=Af (by omega) (by omega)
  have e2:wrap64 (b-m)=b-m:=Af (by omega) (by omega)
  rw [e1,e2]
  clear e1 e2
  exact rot_loop _ p u v q rfl hu hv hl m (m-a) (b-m) hm (by omega) (by omega)

/-! ### the stable sort: two neighbouring parts are merged -/
theorem at_u (p u v q:List Sq) (i:Nat) (h:i<u.length):Ad (p++u++v++q) (p.length+i)=Ad u i:=by
  rw [Bx _ _ (by simp;omega),Bx _ _ h]
  rw [List.getElem_append_left (by simp;omega),List.getElem_append_left (by simp;omega),List.getElem_append_right (by omega)]
  congr 1;omega
theorem at_v (p u v q:List Sq) (j:Nat) (h:j<v.length):Ad (p++u++v++q) (p.length+u.length+j)=Ad v j:=by
  have:=at_u (p++u) v [] q j h
  rw [List.append_nil,List.length_append] at this
  exact this
theorem Km {a b:Sq} (ha:BdS a) (hb:BdS b) (h:¬ G0 b a<0):LeP a b:=fun k=>h ((cmpV_lt hb ha).2 k)
theorem Jp {a b:Sq} (ha:BdS a) (hb:BdS b) (h:G0 a b<0):LeP a b:=LeP.of_less ((cmpV_lt ha hb).1 h)
theorem Jd (a b:Nat) (h:a+b≤1099511627776):wrap64 ((IntKind.u64.wrap (wrap64 ((a:Int)+(b:Int))))/2)=(((a+b)/2:Nat):Int):=by
  rw [half_eq _ (by omega) (by omega)];omega
theorem sm_l4 (x : List Sq) (hx : x.length ≤ 1099511627) (a m b mid n : Nat) (hn : n ≤ 4 * x.length) : ∀ (d s r : Nat), r - s ≤ d → s ≤ r → r ≤ x.length → (∀ c, s ≤ c → c < r → c + 1 ≤ n ∧ n - 1 - c < x.length) →
    ∃ t,s≤t∧t≤r∧(t=s∨¬ G0 (Ad x (n-t)) (Ad x (t-1))<0)∧(t=r∨G0 (Ad x (n-1-t)) (Ad x t)<0) ∧
      ∀ R,Ev (fun k=>if (t:Int)<(m:Int) then zSym.j6 k x a m b mid t (wrap64 ((n:Int)-(t:Int))) (decide ((m:Int)<wrap64 ((n:Int)-(t:Int)))) else zSym.j6 k x a m b mid t (wrap64 ((n:Int)-(t:Int))) false) R →
        Ev (fun k=>zSym.l4 k x a m b mid n s r ((n:Int)-1)) R:=by
  intro d
  induction d with
  | zero =>
    intro s r hd hs hr hc
    obtain rfl:s=r:=by omega
    refine ⟨s,Nat.le_refl _,Nat.le_refl _,Or.inl rfl,Or.inl rfl,fun R hR=>Ev.succ ?_⟩
    simp only [zSym.l4]
    exact Ev.neg (by omega) hR
  | succ d ih =>
    intro s r hd hs hr hc
    by_cases e:s=r
    · subst e
      refine ⟨s,Nat.le_refl _,Nat.le_refl _,Or.inl rfl,Or.inl rfl,fun R hR=>Ev.succ ?_⟩
      simp only [zSym.l4]
      exact Ev.neg (by omega) hR
    · have hc1:s≤(s+r)/2:=by omega
      have hc2:(s+r)/2<r:=by omega
      obtain ⟨hb1,hb2⟩:=hc _ hc1 hc2
      obtain ⟨c,hce⟩:∃ c,c=(s+r)/2:=⟨_,rfl⟩
      rw [← hce] at hc1 hc2 hb1 hb2
      by_cases hP:G0 (Ad x (n-1-c)) (Ad x c)<0
      · obtain ⟨t,h1,h2,h3,h4,h5⟩:=ih s c (by omega) hc1 (by omega) (fun z z1 z2=>hc z z1 (by omega))
        refine ⟨t,h1,by omega,h3,?_,fun R hR=>Ev.succ ?_⟩
        · rcases h4 with h4|h4
          · right;rw [h4];exact hP
          · exact Or.inr h4
        · have e1:=Jd s r (by omega)
          rw [← hce] at e1
          have e2:wrap64 ((n:Int)-1-(c:Int))=((n-1-c:Nat):Int):=by clear e1;rw [Af (by omega) (by omega)];omega
          have e3:wrap64 ((c:Int)+1)=((c+1:Nat):Int):=by clear e1 e2;rw [Af (by omega) (by omega)];omega
          simp only [zSym.l4,e1,e2,e3,Dg,Iw,Option.bind_some]
          clear e1 e2 e3
          exact Ev.pos (by omega) (Ev.pos (by omega) (Ev.pos (by omega) (Ev.pos (by omega) (Ev.pos (by omega) (Ev.pos hP (h5 R hR))))))
      · obtain ⟨t,h1,h2,h3,h4,h5⟩:=ih (c+1) r (by omega) (by omega) hr (fun z z1 z2=>hc z (by omega) z2)
        refine ⟨t,by omega,h2,?_,h4,fun R hR=>Ev.succ ?_⟩
        · rcases h3 with h3|h3
          · right;rw [h3,Nat.add_sub_cancel]
            rw [show n-(c+1)=n-1-c by omega];exact hP
          · exact Or.inr h3
        · have e1:=Jd s r (by omega)
          rw [← hce] at e1
          have e2:wrap64 ((n:Int)-1-(c:Int))=((n-1-c:Nat):Int):=by clear e1;rw [Af (by omega) (by omega)];omega
          have e3:wrap64 ((c:Int)+1)=((c+1:Nat):Int):=by clear e1 e2;rw [Af (by omega) (by omega)];omega
          simp only [zSym.l4,e1,e2,e3,Dg,Iw,Option.bind_some]
          clear e1 e2 e3
          exact Ev.pos (by omega) (Ev.pos (by omega) (Ev.pos (by omega) (Ev.pos (by omega) (Ev.pos (by omega) (Ev.neg hP (h5 R hR))))))
theorem sm_l0 (x : List Sq) (hx : x.length ≤ 1099511627) (a : Nat) (ha : a < x.length) : ∀ (d s r : Nat), r - s ≤ d → s ≤ r → r ≤ x.length →
    ∃ t,s≤t∧t≤r∧(t=s∨G0 (Ad x (t-1)) (Ad x a)<0)∧(t=r∨¬ G0 (Ad x t) (Ad x a)<0) ∧
      ∀ R,Ev (fun k=>zSym.l1 k x t a) R→Ev (fun k=>zSym.l0 k x a s r) R:=by
  intro d
  induction d with
  | zero =>
    intro s r hd hs hr
    obtain rfl:s=r:=by omega
    refine ⟨s,Nat.le_refl _,Nat.le_refl _,Or.inl rfl,Or.inl rfl,fun R hR=>Ev.succ ?_⟩
    simp only [zSym.l0]
    exact Ev.neg (by omega) hR
  | succ d ih =>
    intro s r hd hs hr
    by_cases e:s=r
    · subst e
      refine ⟨s,Nat.le_refl _,Nat.le_refl _,Or.inl rfl,Or.inl rfl,fun R hR=>Ev.succ ?_⟩
      simp only [zSym.l0]
      exact Ev.neg (by omega) hR
    · have hc1:s≤(s+r)/2:=by omega
      have hc2:(s+r)/2<r:=by omega
      obtain ⟨c,hce⟩:∃ c,c=(s+r)/2:=⟨_,rfl⟩
      rw [← hce] at hc1 hc2
      by_cases hP:G0 (Ad x c) (Ad x a)<0
      · obtain ⟨t,h1,h2,h3,h4,h5⟩:=ih (c+1) r (by omega) (by omega) hr
        refine ⟨t,by omega,h2,?_,h4,fun R hR=>Ev.succ ?_⟩
        · rcases h3 with h3|h3
          · right;rw [h3,Nat.add_sub_cancel];exact hP
          · exact Or.inr h3
        · have e1:=Jd s r (by omega)
          rw [← hce] at e1
          have e3:wrap64 ((c:Int)+1)=((c+1:Nat):Int):=by clear e1;rw [Af (by omega) (by omega)];omega
          simp only [zSym.l0,e1,e3,Dg,Iw,Option.bind_some]
          clear e1 e3
          exact Ev.pos (by omega) (Ev.pos (by omega) (Ev.pos (by omega) (Ev.pos (by omega) (Ev.pos (by omega) (Ev.pos hP (h5 R hR))))))
      · obtain ⟨t,h1,h2,h3,h4,h5⟩:=ih s c (by omega) hc1 (by omega)
        refine ⟨t,h1,by omega,h3,?_,fun R hR=>Ev.succ ?_⟩
        · rcases h4 with h4|h4
          · right;rw [h4];exact hP
          · exact Or.inr h4
        · have e1:=Jd s r (by omega)
          rw [← hce] at e1
          have e3:wrap64 ((c:Int)+1)=((c+1:Nat):Int):=by clear e1;rw [Af (by omega) (by omega)];omega
          simp only [zSym.l0,e1,e3,Dg,Iw,Option.bind_some]
          clear e1 e3
          exact Ev.pos (by omega) (Ev.pos (by omega) (Ev.pos (by omega) (Ev.pos (by omega) (Ev.pos (by omega) (Ev.neg hP (h5 R hR))))))
theorem sm_l2 (x : List Sq) (hx : x.length ≤ 1099511627) (m : Nat) (hm : m < x.length) : ∀ (d s r : Nat), r - s ≤ d → s ≤ r → r ≤ x.length →
    ∃ t,s≤t∧t≤r∧(t=s∨¬ G0 (Ad x m) (Ad x (t-1))<0)∧(t=r∨G0 (Ad x m) (Ad x t)<0) ∧
      ∀ R,Ev (fun k=>zSym.l3 k x t m) R→Ev (fun k=>zSym.l2 k x m s r) R:=by
  intro d
  induction d with
  | zero =>
    intro s r hd hs hr
    obtain rfl:s=r:=by omega
    refine ⟨s,Nat.le_refl _,Nat.le_refl _,Or.inl rfl,Or.inl rfl,fun R hR=>Ev.succ ?_⟩
    simp only [zSym.l2]
    exact Ev.neg (by omega) hR
  | succ d ih =>
    intro s r hd hs hr
    by_cases e:s=r
    · subst e
      refine ⟨s,Nat.le_refl _,Nat.le_refl _,Or.inl rfl,Or.inl rfl,fun R hR=>Ev.succ ?_⟩
      simp only [zSym.l2]
      exact Ev.neg (by omega) hR
    · have hc1:s≤(s+r)/2:=by omega
      have hc2:(s+r)/2<r:=by omega
      obtain ⟨c,hce⟩:∃ c,c=(s+r)/2:=⟨_,rfl⟩
      rw [← hce] at hc1 hc2
      by_cases hP:G0 (Ad x m) (Ad x c)<0
      · obtain ⟨t,h1,h2,h3,h4,h5⟩:=ih s c (by omega) hc1 (by omega)
        refine ⟨t,h1,by omega,h3,?_,fun R hR=>Ev.succ ?_⟩
        · rcases h4 with h4|h4
          · right;rw [h4];exact hP
          · exact Or.inr h4
        · have e1:=Jd s r (by omega)
          rw [← hce] at e1
          have e3:wrap64 ((c:Int)+1)=((c+1:Nat):Int):=by clear e1;rw [Af (by omega) (by omega)];omega
          simp only [zSym.l2,e1,e3,Dg,Iw,Option.bind_some]
          clear e1 e3
          exact Ev.pos (by omega) (Ev.pos (by omega) (Ev.pos (by omega) (Ev.pos (by omega) (Ev.pos (by omega) (Ev.pos hP (h5 R hR))))))
      · obtain ⟨t,h1,h2,h3,h4,h5⟩:=ih (c+1) r (by omega) (by omega) hr
        refine ⟨t,by omega,h2,?_,h4,fun R hR=>Ev.succ ?_⟩
        · rcases h3 with h3|h3
          · right;rw [h3,Nat.add_sub_cancel];exact hP
          · exact Or.inr h3
        · have e1:=Jd s r (by omega)
          rw [← hce] at e1
          have e3:wrap64 ((c:Int)+1)=((c+1:Nat):Int):=by clear e1;rw [Af (by omega) (by omega)];omega
          simp only [zSym.l2,e1,e3,Dg,Iw,Option.bind_some]
          clear e1 e3
          exact Ev.pos (by omega) (Ev.pos (by omega) (Ev.pos (by omega) (Ev.pos (by omega) (Ev.pos (by omega) (Ev.neg hP (h5 R hR))))))
/-- one goes right past the neighbours -/
theorem sm_l1 (s : Sq) : ∀ (v1 p w : List Sq) (t a : Int), t = p.length + 1 + v1.length → a = p.length → p.length + v1.length + w.length ≤ 1099511627 →
    Ev (fun k=>zSym.l1 k (p++s::(v1++w)) t a) (p++(v1++s::w))
  | [],p,w,t,a,ht,ha,hl=>by
    simp only [List.length_nil] at ht
    refine Ev.succ ?_
    simp only [zSym.l1]
    exact Ev.neg (by rw [Af (by omega) (by omega)];omega) (Ev.now _)
  | z::v1,p,w,t,a,ht,ha,hl=>by
    simp only [List.length_cons] at ht hl
    have ih:=sm_l1 s v1 (p++[z]) w t (a+1) (by rw [List.length_append,List.length_singleton];omega) (by rw [List.length_append,List.length_singleton];omega) (by rw [List.length_append,List.length_singleton];omega)
    have hlen:(p++s::(z::v1++w)).length=p.length+(v1.length+w.length+2):=by simp
    have sw:=J3 p [] (v1++w) s z p.length (p.length+1) rfl (by simp)
    simp only [List.nil_append] at sw
    have e1:wrap64 (a+1)=((p.length+1:Nat):Int):=by rw [Af (by omega) (by omega)];omega
    refine Ev.succ ?_
    simp only [zSym.l1,e1]
    clear e1
    refine Ev.pos (by rw [Af (by omega) (by omega)];omega) (Ev.pos (by omega) (Ev.pos (by omega) (Ev.pos (by omega) (Ev.pos (by omega) ?_))))
    rw [ha]
    simp only [Dg,Kl,Int.toNat_natCast]
    rw [show p++s::(z::v1++w)=p++s::z::(v1++w) by simp,sw]
    rw [show p++[z]++s::(v1++w)=p++z::s::(v1++w) by simp] at ih
    rw [show a+1=((p.length+1:Nat):Int) by omega] at ih
    refine Ev.eqr ih ?_
    simp
/-- one goes left past the neighbours -/
theorem sm_l3 (y : Sq) : ∀ (n : Nat) (u2 p w : List Sq), u2.length = n → ∀ (t a : Int), t = p.length → a = p.length + u2.length → p.length + u2.length + w.length ≤ 1099511627 →
    Ev (fun k=>zSym.l3 k (p++u2++y::w) t a) (p++(y::u2)++w)
  | 0,u2,p,w,hn,t,a,ht,ha,hl=>by
    obtain rfl:=List.length_eq_zero_iff.1 hn
    simp only [List.length_nil] at ha
    refine Ev.succ ?_
    simp only [zSym.l3]
    exact Ev.neg (by omega) (Ev.eqr (Ev.now _) (by simp))
  | n+1,u2,p,w,hn,t,a,ht,ha,hl=>by
    obtain ⟨u3,z,rfl⟩:∃ u3 z,u2=u3++[z]:=⟨u2.dropLast,u2.getLast (by intro e;rw [e] at hn;simp at hn),(List.dropLast_concat_getLast _).symm⟩
    simp only [List.length_append,List.length_singleton] at hn ha hl
    have ih:=sm_l3 y n u3 p (z::w) (by omega) t (a-1) ht (by omega) (by rw [List.length_cons];omega)
    have hlen:(p++(u3++[z])++y::w).length=p.length+u3.length+w.length+2:=by simp;omega
    have sw:=J3 (p++u3) [] w z y (p.length+u3.length) (p.length+u3.length+1) (by simp) (by simp)
    simp only [List.nil_append] at sw
    have h0:z=z:=rfl
    have e1:wrap64 (a-1)=((p.length+u3.length:Nat):Int):=by rw [Af (by omega) (by omega)];omega
    refine Ev.succ ?_
    simp only [zSym.l3,e1]
    clear e1
    refine Ev.pos (by omega) (Ev.pos (by omega) (Ev.pos (by omega) (Ev.pos (by omega) (Ev.pos (by omega) ?_))))
    rw [show a=((p.length+u3.length+1:Nat):Int) by omega]
    simp only [Dg,Kl,Int.toNat_natCast]
    have comm:∀ (l:List Sq) (i j:Nat) (x' y':Sq),i≠j→(l.set i x').set j y'=(l.set j y').set i x':=fun l i j x' y' h=>List.set_comm x' y' h
    rw [comm _ _ _ _ _ (by omega),show p++(u3++[z])++y::w=(p++u3)++z::y::w by simp,sw]
    rw [show p++u3++y::(z::w)=(p++u3)++y::z::w by simp,show a-1=((p.length+u3.length:Nat):Int) by omega] at ih
    refine Ev.eqr ih ?_
    simp
theorem mem_sqAt {l:List Sq} {a:Sq} (h:a ∈ l):∃ i,i<l.length∧a=Ad l i:=by
  obtain ⟨i,hi,rfl⟩:=List.mem_iff_getElem.1 h
  exact ⟨i,hi,(Bx l i hi).symm⟩
def Bds (l:List Sq):Prop:=∀ s ∈ l,BdS s
theorem G2 {l:List Sq} (h:Bds l) {i:Nat} (hi:i<l.length):BdS (Ad l i):=h _ (Er l i hi)
theorem sm_one_u (p : List Sq) (s : Sq) (v q : List Sq) (hl : p.length + 1 + v.length + q.length ≤ 1099511627) (a m b : Int) (ha : a = p.length) (hm : m = p.length + 1) (hb : b = p.length + 1 + v.length) :
    ∃ r,r.Perm ([s]++v)∧(Bds ([s]++v)→v.Pairwise LeP→r.Pairwise LeP)∧Ev (fun k=>zSym.l0 k (p++[s]++v++q) a m b) (p++r++q):=by
  have hxl:(p++[s]++v++q).length=p.length+1+v.length+q.length:=by simp;omega
  obtain ⟨t,h1,h2,h3,h4,h5⟩:=sm_l0 (p++[s]++v++q) (by omega) p.length (by omega) v.length (p.length+1) (p.length+1+v.length) (by omega) (by omega) (by omega)
  obtain ⟨j,rfl⟩:∃ j,t=p.length+1+j:=⟨t-(p.length+1),by omega⟩
  have hj:j≤v.length:=by omega
  have a0:Ad (p++[s]++v++q) p.length=s:=by simp [Ad]
  rw [a0] at h3 h4
  have av:∀ i,i<v.length→Ad (p++[s]++v++q) (p.length+1+i)=Ad v i:=fun i hi=>by have:=at_v p [s] v q i hi;simpa using this
  refine ⟨v.take j++s::v.drop j,?_,fun hB hs=>?_,?_⟩
  · have:=List.perm_middle (l₁:=v.take j) (a:=s) (l₂:=v.drop j)
    rw [List.take_append_drop] at this
    exact this
  · have Bs:BdS s:=hB s (by simp)
    have Bv:Bds v:=fun z hz=>hB z (by simp [hz])
    refine List.pairwise_append.2 ⟨hs.sublist (List.take_sublist _ _),List.pairwise_cons.2 ⟨fun z hz=>?_,hs.sublist (List.drop_sublist _ _)⟩,fun y hy z hz=>?_⟩
    · obtain ⟨i,hi1,hi2,rfl⟩:=Gc hz
      rcases h4 with h4|h4
      · omega
      · rw [av j (by omega)] at h4
        exact LeP.trans (Km Bs (G2 Bv (by omega)) h4) (Ex hs hi1 hi2)
    · have ys : LeP y s := by
        obtain ⟨i,hi,rfl⟩:=G1 hj hy
        rcases h3 with h3|h3
        · omega
        · rw [show p.length+1+j-1=p.length+1+(j-1) by omega,av (j-1) (by omega)] at h3
          exact LeP.trans (Ex hs (by omega) (by omega)) (Jp (G2 Bv (by omega)) Bs h3)
      rcases List.mem_cons.1 hz with rfl|hz
      · exact ys
      · obtain ⟨i,hi1,hi2,rfl⟩:=Gc hz
        rcases h4 with h4|h4
        · omega
        · rw [av j (by omega)] at h4
          exact LeP.trans ys (LeP.trans (Km Bs (G2 Bv (by omega)) h4) (Ex hs hi1 hi2))
  · rw [show a=((p.length:Nat):Int) by omega,show m=((p.length+1:Nat):Int) by omega,show b=((p.length+1+v.length:Nat):Int) by omega]
    refine h5 _ ?_
    have:=sm_l1 s (v.take j) p (v.drop j++q) ((p.length+1+j:Nat):Int) (p.length:Int) (by rw [List.length_take];omega) rfl (by rw [List.length_take,List.length_append,List.length_drop];omega)
    have e:p++s::(v.take j++(v.drop j++q))=p++[s]++v++q:=by
      rw [← List.append_assoc (v.take j),List.take_append_drop];simp
    rw [e] at this
    refine Ev.eqr this ?_
    simp
theorem sm_one_v (p u : List Sq) (y : Sq) (q : List Sq) (hl : p.length + u.length + 1 + q.length ≤ 1099511627) (a m : Int) (ha : a = p.length) (hm : m = p.length + u.length) :
    ∃ r,r.Perm (u++[y])∧(Bds (u++[y])→u.Pairwise LeP→r.Pairwise LeP)∧Ev (fun k=>zSym.l2 k (p++u++[y]++q) m a m) (p++r++q):=by
  have hxl:(p++u++[y]++q).length=p.length+u.length+1+q.length:=by simp;omega
  obtain ⟨t,h1,h2,h3,h4,h5⟩:=sm_l2 (p++u++[y]++q) (by omega) (p.length+u.length) (by omega) u.length p.length (p.length+u.length) (by omega) (by omega) (by omega)
  obtain ⟨j,rfl⟩:∃ j,t=p.length+j:=⟨t-p.length,by omega⟩
  have hj:j≤u.length:=by omega
  have a0:Ad (p++u++[y]++q) (p.length+u.length)=y:=by simp [Ad]
  rw [a0] at h3 h4
  have au:∀ i,i<u.length→Ad (p++u++[y]++q) (p.length+i)=Ad u i:=fun i hi=>at_u p u [y] q i hi
  refine ⟨u.take j++y::u.drop j,?_,fun hB hs=>?_,?_⟩
  · have:=List.perm_middle (l₁:=u.take j) (a:=y) (l₂:=u.drop j)
    rw [List.take_append_drop] at this
    exact this.trans (List.perm_append_singleton y u).symm
  · have By:BdS y:=hB y (by simp)
    have Bu:Bds u:=fun z hz=>hB z (by simp [hz])
    refine List.pairwise_append.2 ⟨hs.sublist (List.take_sublist _ _),List.pairwise_cons.2 ⟨fun z hz=>?_,hs.sublist (List.drop_sublist _ _)⟩,fun x hx z hz=>?_⟩
    · obtain ⟨i,hi1,hi2,rfl⟩:=Gc hz
      rcases h4 with h4|h4
      · omega
      · rw [au j (by omega)] at h4
        exact LeP.trans (Jp By (G2 Bu (by omega)) h4) (Ex hs hi1 hi2)
    · have xy : LeP x y := by
        obtain ⟨i,hi,rfl⟩:=G1 hj hx
        rcases h3 with h3|h3
        · omega
        · rw [show p.length+j-1=p.length+(j-1) by omega,au (j-1) (by omega)] at h3
          exact LeP.trans (Ex hs (by omega) (by omega)) (Km (G2 Bu (by omega)) By h3)
      rcases List.mem_cons.1 hz with rfl|hz
      · exact xy
      · obtain ⟨i,hi1,hi2,rfl⟩:=Gc hz
        rcases h4 with h4|h4
        · omega
        · rw [au j (by omega)] at h4
          exact LeP.trans xy (LeP.trans (Jp By (G2 Bu (by omega)) h4) (Ex hs hi1 hi2))
  · rw [show a=((p.length:Nat):Int) by omega,show m=((p.length+u.length:Nat):Int) by omega]
    refine h5 _ ?_
    have:=sm_l3 y (u.drop j).length (u.drop j) (p++u.take j) q rfl ((p.length+j:Nat):Int) ((p.length+u.length:Nat):Int) (by rw [List.length_append,List.length_take];omega) (by rw [List.length_append,List.length_take,List.length_drop];omega) (by rw [List.length_append,List.length_take,List.length_drop];omega)
    have e:p++u.take j++u.drop j++y::q=p++u++[y]++q:=by
      rw [List.append_assoc p,List.take_append_drop];simp
    rw [e] at this
    refine Ev.eqr this ?_
    simp
theorem merge_pw {u v r1 r2 : List Sq} (i j : Nat) (hi : i ≤ u.length) (hj : j ≤ v.length) (hsu : u.Pairwise LeP) (hsv : v.Pairwise LeP) (h1 : i = 0 ∨ j = v.length ∨ LeP (Ad u (i - 1)) (Ad v j)) (h2 : j = 0 ∨ i = u.length ∨ LeP (Ad v (j - 1)) (Ad u i))
    (p1:r1.Perm (u.take i++v.take j)) (p2:r2.Perm (u.drop i++v.drop j)) (q1:r1.Pairwise LeP) (q2:r2.Pairwise LeP):(r1++r2).Pairwise LeP:=by
  have x12:∀ y ∈ u.take i,∀ z ∈ v.drop j,LeP y z:=by
    intro y hy z hz
    obtain ⟨a,ha,rfl⟩:=G1 hi hy
    obtain ⟨c,hc1,hc2,rfl⟩:=Gc hz
    rcases h1 with h1|h1|h1
    · omega
    · omega
    · exact LeP.trans (Ex hsu (show a≤i-1 by omega) (by omega)) (LeP.trans h1 (Ex hsv hc1 hc2))
  have x21:∀ y ∈ v.take j,∀ z ∈ u.drop i,LeP y z:=by
    intro y hy z hz
    obtain ⟨a,ha,rfl⟩:=G1 hj hy
    obtain ⟨c,hc1,hc2,rfl⟩:=Gc hz
    rcases h2 with h2|h2|h2
    · omega
    · omega
    · exact LeP.trans (Ex hsv (show a≤j-1 by omega) (by omega)) (LeP.trans h2 (Ex hsu hc1 hc2))
  have x11:∀ y ∈ u.take i,∀ z ∈ u.drop i,LeP y z:=by
    rw [← List.take_append_drop i u] at hsu
    exact (List.pairwise_append.1 hsu).2.2
  have x22:∀ y ∈ v.take j,∀ z ∈ v.drop j,LeP y z:=by
    rw [← List.take_append_drop j v] at hsv
    exact (List.pairwise_append.1 hsv).2.2
  refine List.pairwise_append.2 ⟨q1,q2,fun y hy z hz=>?_⟩
  rcases List.mem_append.1 (p1.mem_iff.1 hy) with hy|hy <;> rcases List.mem_append.1 (p2.mem_iff.1 hz) with hz|hz
  · exact x11 y hy z hz
  · exact x12 y hy z hz
  · exact x21 y hy z hz
  · exact x22 y hy z hz
theorem Rh {u v r1 r2:List Sq} (i j:Nat) (p1:r1.Perm (u.take i++v.take j)) (p2:r2.Perm (u.drop i++v.drop j)):(r1++r2).Perm (u++v):=by
  refine (p1.append p2).trans ?_
  have:(u.take i++v.take j++(u.drop i++v.drop j)).Perm (u.take i++(u.drop i++(v.take j++v.drop j))):=by
    rw [List.append_assoc]
    refine List.Perm.append_left _ ?_
    rw [← List.append_assoc,← List.append_assoc]
    exact List.perm_append_comm.append_right _
  rw [List.take_append_drop,← List.append_assoc (List.take i u) (List.drop i u),List.take_append_drop] at this
  exact this
/-- what a merge of two neighbouring parts owes -/
def Mg (p u v q : List Sq) : Prop := ∀ (a m b : Int), a = p.length → m = p.length + u.length → b = p.length + u.length + v.length →
    ∃ r,r.Perm (u++v)∧(Bds (u++v)→u.Pairwise LeP→v.Pairwise LeP→r.Pairwise LeP)∧Ev (fun k=>zSym.f k (p++u++v++q) a m b) (p++r++q)
/-- a part that may be one alone -/
theorem mg_opt (p u v q : List Sq) (h : 1 ≤ u.length → 1 ≤ v.length → Mg p u v q) (a m b : Nat) (ha : a = p.length) (hm : m = p.length + u.length) (hb : b = p.length + u.length + v.length) :
    ∃ r,r.Perm (u++v)∧(Bds (u++v)→u.Pairwise LeP→v.Pairwise LeP→r.Pairwise LeP)∧((a<m∧m<b)→Ev (fun k=>zSym.f k (p++u++v++q) a m b) (p++r++q))∧(¬ (a<m∧m<b)→r=u++v):=by
  by_cases c:a<m∧m<b
  · obtain ⟨r,r1,r2,r3⟩:=h (by omega) (by omega) a m b (by omega) (by omega) (by omega)
    exact ⟨r,r1,r2,fun _=>r3,fun h=>absurd c h⟩
  · refine ⟨u++v,List.Perm.refl _,fun _ h1 h2=>?_,fun h=>absurd h c,fun _=>rfl⟩
    rcases (by omega:u.length=0∨v.length=0) with z|z
    · rw [List.length_eq_zero_iff.1 z];exact h2
    · rw [List.length_eq_zero_iff.1 z,List.append_nil];exact h1
/-- behind the search: rotate, merge left, merge right -/
theorem sm_behind (p u1 u2 v1 v2 q r1 r2 : List Sq) (A M B D t E : Nat) (hA : A = p.length) (ht : t = A + u1.length) (hM : M = t + u2.length) (hE : E = M + v1.length) (hB : B = E + v2.length) (hD : D = t + v1.length) (hl : B + q.length ≤ 1099511627)
    (w1:(A<t∧t<D)→Ev (fun k=>zSym.f k (p++u1++v1++(u2++v2++q)) A t D) (p++r1++(u2++v2++q))) (n1:¬ (A<t∧t<D)→r1=u1++v1)
    (w2:(D<E∧E<B)→Ev (fun k=>zSym.f k (p++r1++u2++v2++q) D E B) (p++r1++r2++q)) (n2:¬ (D<E∧E<B)→r2=u2++v2) :
    Ev (fun k=>if (t:Int)<(M:Int) then zSym.j6 k (p++(u1++u2)++(v1++v2)++q) A M B D t E (decide ((M:Int)<E)) else zSym.j6 k (p++(u1++u2)++(v1++v2)++q) A M B D t E false) (p++(r1++r2)++q):=by
  have hj7:Ev (fun k=>zSym.j7 k (p++u1++v1++u2++v2++q) A B D t E) (p++(r1++r2)++q):=by
    refine Ev.succ ?_
    simp only [zSym.j7]
    have fin:∀ L,L=p++r1++u2++v2++q→Ev (fun k=>if (D:Int)<(E:Int) then (if (E:Int)<(B:Int) then ((zSym.f k L D E B).bind fun t=>some t) else some L) else some L) (p++(r1++r2)++q):=by
      rintro L rfl
      by_cases c:D<E∧E<B
      · refine Ev.pos (by omega) (Ev.pos (by omega) (Ev.bind (w2 c) (Ev.eqr (Ev.now _) (by simp))))
      · have e:p++r1++u2++v2++q=p++(r1++r2)++q:=by rw [n2 c];simp
        by_cases c1:(D:Int)<(E:Int)
        · exact Ev.pos c1 (Ev.neg (by omega) (Ev.eqr (Ev.now _) e))
        · exact Ev.neg c1 (Ev.eqr (Ev.now _) e)
    have j8:∀ bb:Bool,bb=decide (A<t∧t<D)→Ev (fun k=>zSym.j8 k (p++u1++v1++u2++v2++q) A B D t E bb) (p++(r1++r2)++q):=by
      rintro bb rfl
      refine Ev.succ ?_
      simp only [zSym.j8]
      by_cases c:A<t∧t<D
      · refine Ev.pos (decide_eq_true c) ?_
        rw [show p++u1++v1++u2++v2++q=p++u1++v1++(u2++v2++q) by simp]
        exact Ev.bind (w1 c) (fin _ (by simp))
      · refine Ev.neg (by simpa using c) (fin _ ?_)
        rw [n1 c];simp
    by_cases c:(A:Int)<(t:Int)
    · refine Ev.pos c (j8 _ ?_)
      by_cases c2:t<D
      · rw [decide_eq_true (show (t:Int)<(D:Int) by omega),decide_eq_true ⟨by omega,c2⟩]
      · rw [decide_eq_false (show ¬ (t:Int)<(D:Int) by omega),decide_eq_false (fun h=>c2 h.2)]
    · refine Ev.neg c (j8 _ (decide_eq_false (fun h=>c (by omega))).symm)
  have nr:¬ (t<M∧M<E)→p++(u1++u2)++(v1++v2)++q=p++u1++v1++u2++v2++q:=by
    intro c
    rcases (by omega:u2.length=0∨v1.length=0) with z|z
    · rw [List.length_eq_zero_iff.1 z];simp
    · rw [List.length_eq_zero_iff.1 z];simp
  have j6:∀ bb:Bool,bb=decide (t<M∧M<E)→Ev (fun k=>zSym.j6 k (p++(u1++u2)++(v1++v2)++q) A M B D t E bb) (p++(r1++r2)++q):=by
    rintro bb rfl
    refine Ev.succ ?_
    simp only [zSym.j6]
    by_cases c:t<M∧M<E
    · refine Ev.pos (decide_eq_true c) ?_
      have hr:=rot_ev (p++u1) u2 v1 (v2++q) (by omega) (by omega) (by simp only [List.length_append];omega) t M E (by simp only [List.length_append];omega) (by simp only [List.length_append];omega) (by simp only [List.length_append];omega)
      rw [show p++u1++u2++v1++(v2++q)=p++(u1++u2)++(v1++v2)++q by simp,show p++u1++v1++u2++(v2++q)=p++u1++v1++u2++v2++q by simp] at hr
      exact Ev.bind hr hj7
    · refine Ev.neg (by simpa using c) ?_
      rw [nr c]
      exact hj7
  by_cases c:(t:Int)<(M:Int)
  · refine Ev.pos c (j6 _ ?_)
    by_cases c2:M<E
    · rw [decide_eq_true (show (M:Int)<(E:Int) by omega),decide_eq_true ⟨by omega,c2⟩]
    · rw [decide_eq_false (show ¬ (M:Int)<(E:Int) by omega),decide_eq_false (fun h=>c2 h.2)]
  · exact Ev.neg c (j6 _ (decide_eq_false (fun h=>c (by omega))).symm)
set_option maxHeartbeats 2000000 in
theorem sm_tail (N : Nat) (ih : ∀ p u v q : List Sq, u.length + v.length < N → 1 ≤ u.length → 1 ≤ v.length → p.length + u.length + v.length + q.length ≤ 1099511627 → Mg p u v q) (p u v q : List Sq) (hN : u.length + v.length = N) (hu : 2 ≤ u.length) (hv : 2 ≤ v.length) (hl : p.length + u.length + v.length + q.length ≤ 1099511627)
    (A M B D:Nat) (hA:A=p.length) (hM:M=p.length+u.length) (hB:B=p.length+u.length+v.length) (hD:D=(A+B)/2) (S T0:Nat) (hST:S=A∧T0=M∧M≤D∨S=D+M-B∧T0=D∧D<M) :
    ∃ r, r.Perm (u ++ v) ∧ (Bds (u ++ v) → u.Pairwise LeP → v.Pairwise LeP → r.Pairwise LeP) ∧
        Ev (fun k=>zSym.l4 k (p++u++v++q) A M B D ((D+M:Nat):Int) S T0 (((D+M:Nat):Int)-1)) (p++r++q):=by
  have hxl:(p++u++v++q).length=p.length+u.length+v.length+q.length:=by simp only [List.length_append]
  obtain ⟨t,t1,t2,t3,t4,t5⟩:=sm_l4 (p++u++v++q) (by omega) A M B D (D+M) (by omega) (T0-S) S T0 (Nat.le_refl _) (by omega) (by omega) (fun c c1 c2=>by omega)
  obtain ⟨i,hi⟩:∃ i,t=A+i:=⟨t-A,by omega⟩
  obtain ⟨j,hj⟩:∃ j,D+M-t=M+j:=⟨D-t,by omega⟩
  have iu:i≤u.length:=by omega
  have jv:j≤v.length:=by omega
  have ij:i+j=D-A:=by omega
  have lu1:(u.take i).length=i:=by rw [List.length_take];omega
  have lu2:(u.drop i).length=u.length-i:=List.length_drop
  have lv1:(v.take j).length=j:=by rw [List.length_take];omega
  have lv2:(v.drop j).length=v.length-j:=List.length_drop
  have k1:i+j<N:=by omega
  have k2:u.length-i+(v.length-j)<N:=by omega
  obtain ⟨r1,p1,s1,w1,n1⟩:=mg_opt p (u.take i) (v.take j) (u.drop i++v.drop j++q) (fun a b=>ih _ _ _ _ (by omega) a b (by simp only [List.length_append,lu1,lu2,lv1,lv2];omega)) A t D hA (by omega) (by omega)
  have lr1:r1.length=i+j:=by rw [p1.length_eq,List.length_append,lu1,lv1]
  obtain ⟨r2,p2,s2,w2,n2⟩:=mg_opt (p++r1) (u.drop i) (v.drop j) q (fun a b=>ih _ _ _ _ (by omega) a b (by simp only [List.length_append,lu1,lu2,lv1,lv2];omega)) D (M+j) B (by rw [List.length_append];omega) (by rw [List.length_append];omega) (by rw [List.length_append];omega)
  refine ⟨r1++r2,Rh i j p1 p2,fun hBd hsu hsv=>?_,t5 _ ?_⟩
  · have Bu:Bds u:=fun z hz=>hBd z (List.mem_append_left _ hz)
    have Bv:Bds v:=fun z hz=>hBd z (List.mem_append_right _ hz)
    have au:∀ i,i<u.length→Ad (p++u++v++q) (A+i)=Ad u i:=fun i hi=>by rw [hA];exact at_u p u v q i hi
    have av:∀ i,i<v.length→Ad (p++u++v++q) (M+i)=Ad v i:=fun i hi=>by rw [hM];exact at_v p u v q i hi
    refine merge_pw i j iu jv hsu hsv ?_ ?_ p1 p2 (s1 (fun z hz=>?_) (hsu.sublist (List.take_sublist _ _)) (hsv.sublist (List.take_sublist _ _))) (s2 (fun z hz=>?_) (hsu.sublist (List.drop_sublist _ _)) (hsv.sublist (List.drop_sublist _ _)))
    · by_cases c:i=0
      · exact Or.inl c
      by_cases c2:j=v.length
      · exact Or.inr (Or.inl c2)
      · rcases t3 with t3|t3
        · omega
        · rw [hj,av j (by omega),show t-1=A+(i-1) by omega,au _ (by omega)] at t3
          exact Or.inr (Or.inr (Km (G2 Bu (by omega)) (G2 Bv (by omega)) t3))
    · by_cases c:j=0
      · exact Or.inl c
      by_cases c2:i=u.length
      · exact Or.inr (Or.inl c2)
      · rcases t4 with t4|t4
        · omega
        · rw [show D+M-1-t=M+(j-1) by omega,av _ (by omega),hi,au _ (by omega)] at t4
          exact Or.inr (Or.inr (Jp (G2 Bv (by omega)) (G2 Bu (by omega)) t4))
    · rcases List.mem_append.1 hz with hz|hz
      · exact Bu z (List.mem_of_mem_take hz)
      · exact Bv z (List.mem_of_mem_take hz)
    · rcases List.mem_append.1 hz with hz|hz
      · exact Bu z (List.mem_of_mem_drop hz)
      · exact Bv z (List.mem_of_mem_drop hz)
  · rw [show wrap64 (((D+M:Nat):Int)-(t:Int))=((M+j:Nat):Int) by rw [Af (by omega) (by omega)];omega]
    have:=sm_behind p (u.take i) (u.drop i) (v.take j) (v.drop j) q r1 r2 A M B D t (M+j) hA (by omega) (by omega) (by omega) (by omega) (by omega) (by omega) w1 n1 w2 n2
    rw [List.take_append_drop,List.take_append_drop] at this
    exact this
theorem sm_ev:∀ (N:Nat) (p u v q:List Sq),u.length+v.length=N→1≤u.length→1≤v.length→p.length+u.length+v.length+q.length≤1099511627→Mg p u v q:=by
  intro N
  induction N using Nat.strongRecOn with
  | _ N ih =>
    intro p u v q hN hu hv hl a m b ha hm hb
    by_cases cu:u.length=1
    · obtain ⟨s,rfl⟩:=List.length_eq_one_iff.1 cu
      obtain ⟨r,r1,r2,r3⟩:=sm_one_u p s v q (by simpa using hl) a m b ha (by simpa using hm) (by simpa using hb)
      refine ⟨r,r1,fun x _ y=>r2 x y,Ev.succ ?_⟩
      simp only [zSym.f]
      exact Ev.pos (by rw [Af (by omega) (by omega)];omega) r3
    by_cases cv:v.length=1
    · obtain ⟨y,rfl⟩:=List.length_eq_one_iff.1 cv
      obtain ⟨r,r1,r2,r3⟩:=sm_one_v p u y q (by simpa using hl) a m ha hm
      refine ⟨r,r1,fun x z _=>r2 x z,Ev.succ ?_⟩
      simp only [zSym.f]
      exact Ev.neg (by rw [Af (by omega) (by omega)];omega) (Ev.pos (by rw [Af (by omega) (by omega)];omega) r3)
    obtain ⟨A,hA⟩:∃ A,A=p.length:=⟨_,rfl⟩
    obtain ⟨M,hM⟩:∃ M,M=p.length+u.length:=⟨_,rfl⟩
    obtain ⟨B,hB⟩:∃ B,B=p.length+u.length+v.length:=⟨_,rfl⟩
    obtain ⟨D,hD⟩:∃ D,D=(A+B)/2:=⟨_,rfl⟩
    have aA:a=(A:Int):=by omega
    have mM:m=(M:Int):=by omega
    have bB:b=(B:Int):=by omega
    have tail:=sm_tail N (fun p u v q h1 h2 h3 h4=>ih _ h1 p u v q rfl h2 h3 h4) p u v q hN (by omega) (by omega) hl A M B D hA hM hB hD
    have j4:∀ (S T0:Int) (R:List Sq),Ev (fun k=>zSym.l4 k (p++u++v++q) A M B D ((D+M:Nat):Int) S T0 (((D+M:Nat):Int)-1)) R→Ev (fun k=>zSym.j4 k (p++u++v++q) A M B D ((D+M:Nat):Int) S T0) R:=by
      intro S T0 R h
      refine Ev.succ ?_
      simp only [zSym.j4]
      rw [Af (n:=((D+M:Nat):Int)-1) (by omega) (by omega)]
      exact h
    rw [aA,mM,bB]
    clear aA mM bB ih
    by_cases c:D<M
    · obtain ⟨r,h1,h2,h3⟩:=tail (D+M-B) D (Or.inr ⟨rfl,rfl,c⟩)
      clear tail
      refine ⟨r,h1,h2,Ev.succ ?_⟩
      have eh:=Jd A B (by omega)
      rw [← hD] at eh
      have en:wrap64 ((D:Int)+(M:Int))=((D+M:Nat):Int):=by clear eh;rw [Af (by omega) (by omega)];omega
      have es:wrap64 (((D+M:Nat):Int)-(B:Int))=(((D+M:Nat):Int)-(B:Int)):=by clear eh en;exact Af (by omega) (by omega)
      simp only [zSym.f,eh,en,es]
      clear eh en es
      refine Ev.neg (by rw [Af (by omega) (by omega)];omega) (Ev.neg (by rw [Af (by omega) (by omega)];omega) (Ev.pos (by omega) (j4 _ _ _ ?_)))
      rw [show ((D+M:Nat):Int)-(B:Int)=((D+M-B:Nat):Int) by omega]
      exact h3
    · obtain ⟨r,h1,h2,h3⟩:=tail A M (Or.inl ⟨rfl,rfl,by omega⟩)
      clear tail
      refine ⟨r,h1,h2,Ev.succ ?_⟩
      have eh:=Jd A B (by omega)
      rw [← hD] at eh
      have en:wrap64 ((D:Int)+(M:Int))=((D+M:Nat):Int):=by clear eh;rw [Af (by omega) (by omega)];omega
      simp only [zSym.f,eh,en]
      clear eh en
      exact Ev.neg (by rw [Af (by omega) (by omega)];omega) (Ev.neg (by rw [Af (by omega) (by omega)];omega) (Ev.neg (by omega) (j4 _ _ _ h3)))

/-! ### the stable sort: short parts by insertion, then merges -/
/-- what lies at j goes left past what is greater -/
theorem is_l1 (p rest : List Sq) (a b i : Int) (s : Sq) : ∀ (n : Nat) (d1 d2 : List Sq), d1.length = n → p.length + d1.length + d2.length + 1 + rest.length ≤ 1099511627 → a = p.length →
    ∃ d',d'.Perm (s::(d1++d2))∧(Bds (s::(d1++d2))→(d1++d2).Pairwise LeP→(∀ z ∈ d2,LeP s z)→d'.Pairwise LeP) ∧
      ∀ R,Ev (fun k=>zIns.l0 k (p++d'++rest) a b (wrap64 (i+1))) R→Ev (fun k=>zIns.l1 k (p++(d1++s::d2)++rest) a b i ((p.length+d1.length:Nat):Int)) R
  | 0,d1,d2,hn,hl,ha=>by
    obtain rfl:=List.length_eq_zero_iff.1 hn
    refine ⟨s::d2,List.Perm.refl _,fun _ h1 h2=>List.pairwise_cons.2 ⟨h2,h1⟩,fun R hR=>Ev.succ ?_⟩
    simp only [zIns.l1]
    refine Ev.neg (by simp only [List.length_nil];omega) ?_
    exact hR
  | n+1,d1,d2,hn,hl,ha=>by
    obtain ⟨d3,z,rfl⟩:∃ d3 z,d1=d3++[z]:=⟨d1.dropLast,d1.getLast (by intro e;rw [e] at hn;simp at hn),(List.dropLast_concat_getLast _).symm⟩
    simp only [List.length_append,List.length_singleton] at hn hl
    have hlen:(p++(d3++[z]++s::d2)++rest).length=p.length+d3.length+d2.length+2+rest.length:=by simp;omega
    have e0:p++(d3++[z]++s::d2)++rest=(p++d3)++z::s::(d2++rest):=by simp
    have asx:Ad ((p++d3)++z::s::(d2++rest)) (p.length+d3.length+1)=s:=by
      rw [show (p++d3)++z::s::(d2++rest)=(p++d3++[z])++s::(d2++rest) by simp]
      exact Mx _ _ _ _ (by simp;omega)
    have az:Ad ((p++d3)++z::s::(d2++rest)) (p.length+d3.length)=z:=Mx _ _ _ _ (by simp)
    have sw:=J3 (p++d3) [] (d2++rest) z s (p.length+d3.length) (p.length+d3.length+1) (by simp) (by simp)
    simp only [List.nil_append] at sw
    rw [asx,az] at sw
    by_cases hP:G0 s z<0
    · obtain ⟨d',h1,h2,h3⟩:=is_l1 p rest a b i s n d3 (z::d2) (by omega) (by rw [List.length_cons];omega) ha
      refine ⟨d',?_,fun hB hs hz=>?_,fun R hR=>Ev.succ ?_⟩
      · rw [show d3++[z]++d2=d3++z::d2 by simp];exact h1
      · rw [show d3++[z]++d2=d3++z::d2 by simp] at hB hs
        refine h2 hB hs (fun y hy=>?_)
        rcases List.mem_cons.1 hy with rfl|hy
        · exact Jp (hB s List.mem_cons_self) (hB y (by simp)) hP
        · exact hz y hy
      · have e1 : wrap64 (((p.length + (d3 ++ [z]).length : Nat) : Int) - 1) = ((p.length + d3.length : Nat) : Int) := by
          rw [List.length_append,List.length_singleton,Af (by omega) (by omega)];omega
        simp only [zIns.l1,e1]
        clear e1
        rw [List.length_append,List.length_singleton,e0]
        rw [e0] at hlen
        simp only [Dg,Iw,Option.bind_some,Kl,Int.toNat_natCast,← Nat.add_assoc,asx,az]
        refine Ev.pos (by omega) (Ev.pos (by omega) (Ev.pos (by omega) (Ev.pos (by omega) (Ev.pos (by omega) (Ev.pos hP ?_)))))
        have comm:∀ (l:List Sq) (i j:Nat) (x' y':Sq),i≠j→(l.set i x').set j y'=(l.set j y').set i x':=fun l i j x' y' h=>List.set_comm x' y' h
        rw [comm _ _ _ _ _ (by omega),sw]
        have:=h3 R hR
        rw [show p++(d3++s::z::d2)++rest=p++d3++s::z::(d2++rest) by simp] at this
        exact this
    · refine ⟨d3++[z]++s::d2,?_,fun hB hs hz=>?_,fun R hR=>Ev.succ ?_⟩
      · exact List.perm_middle
      · have hBz:BdS z:=hB z (by simp)
        have hBs:BdS s:=hB s List.mem_cons_self
        have zs:LeP z s:=Km hBz hBs hP
        have hp:=List.pairwise_append.1 hs
        refine List.pairwise_append.2 ⟨hp.1,List.pairwise_cons.2 ⟨hz,hp.2.1⟩,fun y hy w hw=>?_⟩
        have yz:LeP y z:=by
          rcases List.mem_append.1 hy with hy|hy
          · exact (List.pairwise_append.1 hp.1).2.2 y hy z (by simp)
          · rw [List.mem_singleton.1 hy];unfold LeP Ee;omega
        rcases List.mem_cons.1 hw with rfl|hw
        · exact LeP.trans yz zs
        · exact hp.2.2 y hy w hw
      · have e1 : wrap64 (((p.length + (d3 ++ [z]).length : Nat) : Int) - 1) = ((p.length + d3.length : Nat) : Int) := by
          rw [List.length_append,List.length_singleton,Af (by omega) (by omega)];omega
        simp only [zIns.l1,e1]
        clear e1
        rw [e0] at hR
        rw [List.length_append,List.length_singleton,e0]
        rw [e0] at hlen
        simp only [Dg,Iw,Option.bind_some,Kl,Int.toNat_natCast,← Nat.add_assoc,asx,az]
        exact Ev.pos (by omega) (Ev.pos (by omega) (Ev.pos (by omega) (Ev.pos (by omega) (Ev.pos (by omega) (Ev.neg hP hR)))))
theorem is_l0 (p rest : List Sq) (a b : Int) (ha : a = p.length) : ∀ (todo done : List Sq), p.length + done.length + todo.length + rest.length ≤ 1099511627 → b = p.length + done.length + todo.length →
    ∃ w,w.Perm (done++todo)∧(Bds (done++todo)→done.Pairwise LeP→w.Pairwise LeP)∧Ev (fun k=>zIns.l0 k (p++done++(todo++rest)) a b ((p.length+done.length:Nat):Int)) (p++w++rest)
  | [],done,hl,hb=>by
    refine ⟨done,by simp,fun _ h=>h,Ev.succ ?_⟩
    simp only [List.length_nil] at hb
    simp only [zIns.l0]
    exact Ev.neg (by omega) (Ev.eqr (Ev.now _) (by simp))
  | s::todo,done,hl,hb=>by
    simp only [List.length_cons] at hl hb
    obtain ⟨d',h1,h2,h3⟩:=is_l1 p (todo++rest) a b ((p.length+done.length:Nat):Int) s done.length done [] rfl (by simp only [List.length_nil,List.length_append];omega) ha
    rw [List.append_nil] at h1 h2
    have ld:d'.length=done.length+1:=by rw [h1.length_eq,List.length_cons]
    obtain ⟨w,w1,w2,w3⟩:=is_l0 p rest a b ha todo d' (by omega) (by omega)
    refine ⟨w,?_,fun hB hs=>?_,Ev.succ ?_⟩
    · refine w1.trans ((h1.append_right todo).trans ?_)
      exact List.perm_middle.symm
    · have hB':Bds (s::done):=fun z hz=>hB z (by rcases List.mem_cons.1 hz with rfl|hz <;> simp [*])
      refine w2 (fun z hz=>?_) (h2 hB' hs (fun z hz=>by cases hz))
      rcases List.mem_append.1 hz with hz|hz
      · exact hB' z (h1.mem_iff.1 hz)
      · exact hB z (by simp [hz])
    · simp only [zIns.l0]
      refine Ev.pos (by omega) ?_
      have:=h3 _ (by
        rw [Af (n:=((p.length+done.length:Nat):Int)+1) (by omega) (by omega),show ((p.length+done.length:Nat):Int)+1=((p.length+d'.length:Nat):Int) by omega]
        exact w3)
      rw [show p++(done++[s])++(todo++rest)=p++done++(s::todo++rest) by simp] at this
      exact this
theorem is_ev (p w rest : List Sq) (hl : p.length + w.length + rest.length ≤ 1099511627) (a b : Int) (ha : a = p.length) (hb : b = p.length + w.length) :
    ∃ r,r.Perm w∧(Bds w→r.Pairwise LeP)∧Ev (fun k=>zIns.f k (p++w++rest) a b) (p++r++rest):=by
  unfold zIns.f
  cases w with
  | nil =>
    refine ⟨[],List.Perm.refl _,fun _=>List.Pairwise.nil,Ev.succ ?_⟩
    simp only [zIns.l0]
    simp only [List.length_nil] at hb
    exact Ev.neg (by rw [Af (by omega) (by omega)];omega) (Ev.now _)
  | cons s t =>
    simp only [List.length_cons] at hl hb
    obtain ⟨r,r1,r2,r3⟩:=is_l0 p rest a b ha t [s] (by simp only [List.length_singleton];omega) (by simp only [List.length_singleton];omega)
    refine ⟨r,by simpa using r1,fun hB=>r2 (by simpa using hB) (List.pairwise_singleton _ _),?_⟩
    rw [Af (by omega) (by omega),show a+1=((p.length+[s].length:Nat):Int) by simp only [List.length_singleton];omega]
    rw [show p++[s]++(t++rest)=p++(s::t)++rest by simp] at r3
    exact r3
/-- parts of n, each in order; the last one may be shorter -/
inductive BS (n:Nat):List Sq→Prop
  | last (l:List Sq) (h:l.length≤n) (s:l.Pairwise LeP):BS n l
  | cons (u t:List Sq) (h:u.length=n) (s:u.Pairwise LeP) (k:BS n t):BS n (u++t)
theorem Mk {n:Nat} {l u t:List Sq} (hn:1≤n) (h:BS n l) (e:l=u++t) (hu:u.length=n):u.Pairwise LeP∧BS n t:=by
  cases h with
  | last _ h1 h2 =>
    have h1:l.length≤n:=h1
    have:t=[]:=by
      have:(u++t).length≤n:=by rw [← e];exact h1
      rw [List.length_append] at this
      exact List.length_eq_zero_iff.1 (by omega)
    subst this
    rw [List.append_nil] at e
    subst e
    exact ⟨h2,BS.last [] (by simp) List.Pairwise.nil⟩
  | cons u' t' h1 h2 h3 =>
    obtain ⟨rfl,rfl⟩:=List.append_inj e (by omega)
    exact ⟨h2,h3⟩
theorem J4 {n:Nat} {l:List Sq} (h:BS n l) (hl:l.length≤n):l.Pairwise LeP:=by
  cases h with
  | last _ _ h2=>exact h2
  | cons u t h1 h2 h3 =>
    have:t=[]:=by rw [List.length_append] at hl;exact List.length_eq_zero_iff.1 (by omega)
    subst this;rw [List.append_nil];exact h2
theorem Ql {a b:List Sq} (h:a.Perm b) (hb:Bds b):Bds a:=fun z hz=>hb z (h.mem_iff.1 hz)
theorem Qm {a b:List Sq} (h:Bds (a++b)):Bds a:=fun z hz=>h z (List.mem_append_left _ hz)
theorem Np {a b:List Sq} (h:Bds (a++b)):Bds b:=fun z hz=>h z (List.mem_append_right _ hz)
theorem st_l0 : ∀ (N : Nat) (done rest : List Sq), rest.length ≤ N → done.length + rest.length ≤ 536870912 →
    ∃ w,w.Perm rest∧(Bds rest→BS 20 w)∧∀ R,Ev (fun k=>zStb.l1 k (done++w) ((done.length+rest.length:Nat):Int) 20) R →
      Ev (fun k=>zStb.l0 k (done++rest) ((done.length+rest.length:Nat):Int) 20 (done.length:Int) ((done.length:Int)+20)) R:=by
  intro N
  induction N with
  | zero =>
    intro done rest hN hl
    obtain rfl:=List.length_eq_zero_iff.1 (show rest.length=0 by omega)
    obtain ⟨r,r1,r2,r3⟩:=is_ev done [] [] (by simp;omega) (done.length:Int) ((done.length+0:Nat):Int) rfl (by simp)
    obtain rfl:=List.length_eq_zero_iff.1 (show r.length=0 by rw [r1.length_eq];rfl)
    refine ⟨[],List.Perm.refl _,fun _=>BS.last _ (by simp) List.Pairwise.nil,fun R hR=>Ev.succ ?_⟩
    simp only [zStb.l0,List.length_nil]
    refine Ev.neg (by omega) (Ev.bind (by simpa using r3) ?_)
    simpa using hR
  | succ N ih =>
    intro done rest hN hl
    by_cases c:rest.length<20
    · obtain ⟨r,r1,r2,r3⟩:=is_ev done rest [] (by simp;omega) (done.length:Int) ((done.length+rest.length:Nat):Int) rfl (by omega)
      refine ⟨r,r1,fun hB=>BS.last _ (by rw [r1.length_eq];omega) (r2 hB),fun R hR=>Ev.succ ?_⟩
      simp only [zStb.l0]
      simp only [List.append_nil] at r3
      exact Ev.neg (by omega) (Ev.bind r3 hR)
    · have hsp:=List.take_append_drop 20 rest
      have lt:(rest.take 20).length=20:=by rw [List.length_take];omega
      have ld:(rest.drop 20).length=rest.length-20:=List.length_drop
      generalize rest.take 20=u at hsp lt
      generalize rest.drop 20=t at hsp ld
      subst hsp
      rw [List.length_append] at ld hN hl c
      obtain ⟨r,r1,r2,r3⟩:=is_ev done u t (by omega) (done.length:Int) ((done.length:Int)+20) rfl (by omega)
      have lr:r.length=20:=by rw [r1.length_eq];exact lt
      obtain ⟨w,w1,w2,w3⟩:=ih (done++r) t (by omega) (by rw [List.length_append];omega)
      refine ⟨r++w,r1.append w1,fun hB=>BS.cons r w lr (r2 (Qm hB)) (w2 (Np hB)),fun R hR=>Ev.succ ?_⟩
      have hlen:((done++r).length+t.length:Nat)=done.length+(u++t).length:=by rw [List.length_append,List.length_append];omega
      rw [hlen] at w3
      simp only [zStb.l0]
      refine Ev.pos (by rw [List.length_append];omega) ?_
      rw [show done++(u++t)=done++u++t by simp]
      refine Ev.bind r3 ?_
      rw [Af (n:=(done.length:Int)+20+20) (by omega) (by omega)]
      have:=w3 R (by rw [show done++r++w=done++(r++w) by simp];exact hR)
      rw [show (done++r).length=done.length+r.length from List.length_append,lr] at this
      rw [show ((done.length+20:Nat):Int)=(done.length:Int)+20 by omega] at this
      exact this
theorem st_l2 (bs : Nat) (hb : 1 ≤ bs ∧ bs ≤ 1073741824) : ∀ (N : Nat) (done rest : List Sq), rest.length ≤ N → done.length + rest.length ≤ 536870912 →
    ∃ w,w.Perm rest∧(Bds rest→BS bs rest→BS (2*bs) w)∧∀ R,Ev (fun k=>zStb.l1 k (done++w) ((done.length+rest.length:Nat):Int) ((2*bs:Nat):Int)) R →
      Ev (fun k=>zStb.l2 k (done++rest) ((done.length+rest.length:Nat):Int) (bs:Int) (done.length:Int) ((done.length+2*bs:Nat):Int)) R:=by
  intro N
  induction N with
  | zero =>
    intro done rest hN hl
    obtain rfl:=List.length_eq_zero_iff.1 (show rest.length=0 by omega)
    refine ⟨[],List.Perm.refl _,fun _ _=>BS.last _ (by simp) List.Pairwise.nil,fun R hR=>Ev.succ ?_⟩
    simp only [zStb.l2]
    refine Ev.neg (by simp only [List.length_nil];omega) (Ev.neg (by rw [Af (by omega) (by omega)];simp only [List.length_nil];omega) ?_)
    rw [Af (n:=(bs:Int)*2) (by omega) (by omega),show (bs:Int)*2=((2*bs:Nat):Int) by omega]
    exact hR
  | succ N ih =>
    intro done rest hN hl
    by_cases c1:rest.length≤bs
    · refine ⟨rest,List.Perm.refl _,fun _ h=>BS.last _ (by omega) (J4 h c1),fun R hR=>Ev.succ ?_⟩
      simp only [zStb.l2]
      refine Ev.neg (by omega) (Ev.neg (by rw [Af (by omega) (by omega)];omega) ?_)
      rw [Af (n:=(bs:Int)*2) (by omega) (by omega),show (bs:Int)*2=((2*bs:Nat):Int) by omega]
      exact hR
    · have hsp:=List.take_append_drop bs rest
      have lt:(rest.take bs).length=bs:=by rw [List.length_take];omega
      have ld:(rest.drop bs).length=rest.length-bs:=List.length_drop
      generalize rest.take bs=u at hsp lt
      generalize rest.drop bs=t at hsp ld
      subst hsp
      rw [List.length_append] at ld hN hl c1
      by_cases c2:t.length<bs
      · obtain ⟨r,r1,r2,r3⟩:=sm_ev _ done u t [] rfl (by omega) (by omega) (by simp only [List.length_nil];omega) (done.length:Int) (wrap64 ((done.length:Int)+(bs:Int))) ((done.length+(u++t).length:Nat):Int) rfl (by rw [Af (by omega) (by omega)];omega) (by rw [List.length_append];omega)
        refine ⟨r,r1,fun hB h=>?_,fun R hR=>Ev.succ ?_⟩
        · obtain ⟨s1,s2⟩:=Mk hb.1 h rfl lt
          exact BS.last _ (by rw [r1.length_eq,List.length_append];omega) (r2 hB s1 (J4 s2 (by omega)))
        · simp only [zStb.l2]
          simp only [List.append_nil] at r3
          rw [show done++u++t=done++(u++t) by simp] at r3
          refine Ev.neg (by rw [List.length_append];omega) (Ev.pos (by rw [Af (by omega) (by omega),List.length_append];omega) (Ev.bind r3 ?_))
          rw [Af (n:=(bs:Int)*2) (by omega) (by omega),show (bs:Int)*2=((2*bs:Nat):Int) by omega]
          exact hR
      · have hsp2:=List.take_append_drop bs t
        have lt2:(t.take bs).length=bs:=by rw [List.length_take];omega
        have ld2:(t.drop bs).length=t.length-bs:=List.length_drop
        generalize t.take bs=v at hsp2 lt2
        generalize t.drop bs=q at hsp2 ld2
        subst hsp2
        rw [List.length_append] at ld ld2 hN hl c1 c2
        obtain ⟨r,r1,r2,r3⟩:=sm_ev _ done u v q rfl (by omega) (by omega) (by omega) (done.length:Int) (wrap64 ((done.length:Int)+(bs:Int))) ((done.length+2*bs:Nat):Int) rfl (by rw [Af (by omega) (by omega)];omega) (by omega)
        have lr:r.length=2*bs:=by rw [r1.length_eq,List.length_append];omega
        obtain ⟨w,w1,w2,w3⟩:=ih (done++r) q (by omega) (by rw [List.length_append];omega)
        refine ⟨r++w,?_,fun hB h=>?_,fun R hR=>Ev.succ ?_⟩
        · rw [← List.append_assoc];exact r1.append w1
        · obtain ⟨s1,s2⟩:=Mk hb.1 h rfl lt
          obtain ⟨s3,s4⟩:=Mk hb.1 s2 rfl lt2
          rw [← List.append_assoc] at hB
          exact BS.cons r w lr (r2 (Qm hB) s1 s3) (w2 (Np hB) s4)
        · have hlen:((done++r).length+q.length:Nat)=done.length+(u++(v++q)).length:=by rw [List.length_append,List.length_append,List.length_append];omega
          rw [hlen] at w3
          simp only [zStb.l2]
          refine Ev.pos (by rw [List.length_append,List.length_append];omega) ?_
          rw [show done++(u++(v++q))=done++u++v++q by simp]
          refine Ev.bind r3 ?_
          rw [Af (n:=2*(bs:Int)) (by omega) (by omega),Af (n:=((done.length+2*bs:Nat):Int)+2*(bs:Int)) (by omega) (by omega)]
          have:=w3 R (by rw [show done++r++w=done++(r++w) by simp];exact hR)
          rw [show (done++r).length=done.length+r.length from List.length_append,lr] at this
          rw [show ((done.length+2*bs+2*bs:Nat):Int)=((done.length+2*bs:Nat):Int)+2*(bs:Int) by omega] at this
          exact this
theorem st_l1 (n : Nat) (hn : n ≤ 536870912) : ∀ (d bs : Nat) (l : List Sq), n - bs ≤ d → 1 ≤ bs → bs ≤ 1073741824 → l.length = n →
    ∃ w,w.Perm l∧(Bds l→BS bs l→w.Pairwise LeP)∧Ev (fun k=>zStb.l1 k l (n:Int) (bs:Int)) w:=by
  intro d
  induction d with
  | zero =>
    intro bs l hd h1 h2 hl
    refine ⟨l,List.Perm.refl _,fun _ h=>J4 h (by omega),Ev.succ ?_⟩
    simp only [zStb.l1]
    exact Ev.neg (by omega) (Ev.now _)
  | succ d ih =>
    intro bs l hd h1 h2 hl
    by_cases c:bs<n
    · obtain ⟨w,w1,w2,w3⟩:=st_l2 bs ⟨h1,h2⟩ l.length [] l (Nat.le_refl _) (by simp;omega)
      obtain ⟨r,r1,r2,r3⟩:=ih (2*bs) w (by omega) (by omega) (by omega) (by rw [w1.length_eq];exact hl)
      refine ⟨r,r1.trans w1,fun hB h=>r2 (Ql w1 hB) (w2 hB h),Ev.succ ?_⟩
      simp only [zStb.l1]
      refine Ev.pos (by omega) ?_
      rw [Af (n:=2*(bs:Int)) (by omega) (by omega)]
      have:=w3 r (by simp only [List.nil_append,List.length_nil,Nat.zero_add];rw [hl];exact r3)
      simp only [List.nil_append,List.length_nil,Nat.zero_add] at this
      rw [hl] at this
      rw [show ((2*bs:Nat):Int)=2*(bs:Int) by omega] at this
      exact this
    · refine ⟨l,List.Perm.refl _,fun _ h=>J4 h (by omega),Ev.succ ?_⟩
      simp only [zStb.l1]
      exact Ev.neg (by omega) (Ev.now _)
theorem stable_ev (l:List Sq) (hl:l.length≤536870912):∃ r,r.Perm l∧(Bds l→r.Pairwise LeP)∧Ev (fun k=>zSSF.f k l) r:=by
  obtain ⟨w,w1,w2,w3⟩:=st_l0 l.length [] l (Nat.le_refl _) (by simp;omega)
  obtain ⟨r,r1,r2,r3⟩:=st_l1 l.length hl l.length 20 w (by omega) (by omega) (by omega) w1.length_eq
  refine ⟨r,r1.trans w1,fun hB=>r2 (Ql w1 hB) (w2 hB),?_⟩
  unfold zSSF.f zStb.f
  have:=w3 r (by simpa using r3)
  simp only [List.nil_append,List.length_nil,Nat.zero_add] at this
  exact Ev.bind (by simpa using this) (Ev.now _)

/-! ### a cut of squares in whichever order: the program -/
noncomputable def srt (l:List Sq):List Sq:=l.mergeSort (fun a b => !decide (Ee b a))
theorem Ik (l:List Sq):(srt l).Perm l:=List.mergeSort_perm l _
theorem My (l:List Sq):(srt l).Pairwise LeP:=by
  have h:=List.pairwise_mergeSort (le:=fun a b:Sq => !decide (Ee b a)) (fun a b c h1 h2=>by simp only [Bool.not_eq_true',decide_eq_false_iff_not] at *;exact LeP.trans (show LeP a b from h1) h2) (fun a b=>by simp only [Bool.or_eq_true,Bool.not_eq_true',decide_eq_false_iff_not];unfold Ee;omega) l
  refine List.Pairwise.imp (fun {a b} h=>?_) h
  simpa [LeP] using h
theorem Nq {W H:Int} {l:List Sq} (hg:Bq W H l):Dist l:=by
  intro a ha b hb e0 e1
  have i1:=(hg.2.2.2.1)
  have g1:∀ s ∈ l,Ins W H s:=fun s hs=>by
    obtain ⟨j,hj,rfl⟩:=List.mem_iff_getElem.1 hs
    rw [← Bx l j hj];exact (i1 j hj).1
  obtain ⟨i,hi,rfl⟩:=List.mem_iff_getElem.1 ha
  obtain ⟨j,hj,rfl⟩:=List.mem_iff_getElem.1 hb
  have p1:=g1 _ ha
  have p2:=g1 _ hb
  rw [← Bx l i hi] at p1 e0 e1 ⊢
  rw [← Bx l j hj] at p2 e0 e1 ⊢
  have ov:Ovl (Ad l i) (Ad l j):=by unfold Ins at p1 p2;unfold Ovl;omega
  rcases Nat.lt_trichotomy i j with h|h|h
  · exact absurd (show Ovl (Ad l j) (Ad l i) from ⟨ov.2.1,ov.1,ov.2.2.2,ov.2.2.1⟩) ((i1 j hj).2.2 i h)
  · rw [h]
  · exact absurd ov ((i1 i hi).2.2 j h)
theorem Qn {W H:Int} {l:List Sq} (hg:Bq W H l):Bds l:=by
  intro s hs
  obtain ⟨j,hj,rfl⟩:=List.mem_iff_getElem.1 hs
  have:=(hg.2.2.2.1 j hj).1
  rw [Bx l j hj] at this
  have h1:=hg.1.2
  have h2:=hg.2.1.2
  unfold Ins at this
  unfold BdS
  omega
/-- the sorted list is a cut, or no list of these squares in order is one -/
theorem Qo {W H:Int} {l r:List Sq} (hp:r.Perm l) (hs:r.Pairwise LeP):(Bq W H r↔Bq W H (srt l))∧(Bq W H r→r=srt l):=by
  have e:Bq W H r→r=srt l:=fun hg=>I5 (fun a ha b hb=>Nq hg a (hp.mem_iff.2 ha) b (hp.mem_iff.2 hb)) hp (Ik l) hs (My l)
  have e':Bq W H (srt l)→r=srt l:=fun hg=>I5 (fun a ha b hb=>Nq hg a ((Ik l).mem_iff.2 ha) b ((Ik l).mem_iff.2 hb)) hp (Ik l) hs (My l)
  exact ⟨⟨fun h=>e h ▸ h,fun h=>(e' h).symm ▸ h⟩,e⟩
open Classical in
noncomputable def E5 (W H:Int) (l:List Sq):Int×Int×List Sq×Bool:=if Bq W H (srt l) then (W,H,srt l,true) else (0,0,[],false)
theorem Ri (W H:Int) (l:List Sq):(E5 W H l).2.2.1.length≤30:=by
  unfold E5;split
  · rename_i h;exact h.2.2.1.2
  · simp
theorem N1 (W H:Int) (l:List Sq) (hl:l.length≤536870912):Ev (fun k=>Ea.f k W H l) (E5 W H l):=by
  obtain ⟨r,hp,hs,hev⟩:=stable_ev l hl
  unfold Ea.f
  refine Ev.bindc (a:=l) ?_ (Ev.bind hev (Ev.bind (C0 W H r) ?_))
  · unfold C4.f
    rw [Option.bind_some,if_pos (by simp;omega),List.nil_append]
  · unfold E5
    by_cases hB:Bds l
    · obtain ⟨h1,h2⟩:=Qo (W:=W) (H:=H) hp (hs hB)
      by_cases hg:Bq W H r
      · rw [if_pos (h1.1 hg),h2 hg]
        rw [h2 hg] at hg
        exact Ev.pos (by simpa using hg) (Ev.now _)
      · rw [if_neg (fun h=>hg (h1.2 h))]
        exact Ev.neg (by simpa using hg) (Ev.now _)
    · have n1:¬ Bq W H r:=fun h=>hB (fun z hz=>Qn h z (hp.mem_iff.2 hz))
      have n2:¬ Bq W H (srt l):=fun h=>hB (fun z hz=>Qn h z ((Ik l).mem_iff.2 hz))
      rw [if_neg n2]
      exact Ev.neg (by simpa using n1) (Ev.now _)

/-! ### a cut of squares in whichever order: the reference -/
theorem M9 (W H:Int) (l:List Sq):Ev (fun k=>E2.f k W H l) (E5 W H l):=by
  unfold E2.f
  by_cases c:(l.length:Int)>30
  · refine Ev.pos c (Ev.eqr (Ev.now _) ?_)
    unfold E5
    rw [if_neg (fun h=>by have:=h.2.2.1.2;rw [(Ik l).length_eq] at this;omega)]
  · obtain ⟨r,hs,hp,hev⟩:=K4 l (by omega)
    refine Ev.neg c (Ev.bind hev (Ev.bind (Cp W H r) ?_))
    obtain ⟨h1,h2⟩:=Qo (W:=W) (H:=H) hp hs
    unfold E5
    by_cases hg:Bq W H r
    · rw [if_pos (h1.1 hg),h2 hg]
      rw [h2 hg] at hg
      exact Ev.pos (by simpa using hg) (Ev.now _)
    · rw [if_neg (fun h=>hg (h1.2 h))]
      exact Ev.neg (by simpa using hg) (Ev.now _)

/-! ### the cut of one square -/
open Classical in
noncomputable def Ei (a:Int):Int×Int×List Sq×Bool:=if 1≤a∧a≤500 then (a,a,[⟨0,0,a⟩],true) else (0,0,[],false)
theorem Kz (a:Int):Eh.f a=some (Ei a):=by
  unfold Eh.f Ei
  rw [E3,Option.bind_some]
  by_cases h:1≤a∧a≤500
  · rw [if_pos (by simpa using h),if_pos h]
  · rw [if_neg (by simpa using h),if_neg h]
theorem Ml (a:Int):Bq a a [⟨0,0,a⟩]↔1≤a∧a≤500:=by
  constructor
  · intro h;exact h.1
  · intro h
    refine ⟨h,h,by simp,fun i hi=>?_,?_⟩
    · have hi0:i=0:=by simpa using hi
      subst hi0
      refine ⟨?_,fun h0=>by omega,fun j hj=>by omega⟩
      unfold Ins Ad
      simp
      omega
    · simp [Dk,Ad]
theorem Rj (s:Sq):Ev (fun k=>zSSF.f k [s]) [s]:=by
  unfold zSSF.f zStb.f
  refine Ev.bind (a:=[s]) ?_ (Ev.now _)
  refine Ev.succ ?_
  simp only [zStb.l0]
  refine Ev.neg (by simp) ?_
  refine Ev.bind (a:=[s]) ?_ ?_
  · unfold zIns.f
    refine Ev.succ ?_
    simp only [zIns.l0]
    exact Ev.neg (by simp only [List.length_cons,List.length_nil];unfold wrap64;omega) (Ev.now _)
  · refine Ev.succ ?_
    simp only [zStb.l1]
    exact Ev.neg (by simp) (Ev.now _)
theorem K0 (a:Int):Ev (fun k=>Eg.f k a) (Ei a):=by
  unfold Eg.f Ea.f
  refine Ev.bind (a:=Ei a) ?_ (Ev.now _)
  refine Ev.bindc (a:=[⟨0,0,a⟩]) ?_ (Ev.bind (Rj _) (Ev.bind (C0 a a _) ?_))
  · unfold C4.f
    rw [Option.bind_some,if_pos (by simp),List.nil_append]
  · unfold Ei
    by_cases h:1≤a∧a≤500
    · rw [if_pos h]
      exact Ev.pos (by simpa using (Ml a).2 h) (Ev.now _)
    · rw [if_neg h]
      refine Ev.neg ?_ (Ev.now _)
      simp only [decide_eq_true_eq]
      exact fun x=>h ((Ml a).1 x)

/-! ### what the law itself asks -/
theorem Kv (l:List Int) (hl:l.length≤1000000):Ev (fun k=>Ca.f k l l) true:=by
  have lp:∀ (d i:Nat),l.length-i=d→i≤l.length→Ev (fun k=>Ca.l0 k l l (l.length:Int) (i:Int)) true:=by
    intro d
    induction d with
    | zero=>intro i hd hi;refine Ev.succ ?_;simp only [Ca.l0];exact Ev.neg (by omega) (Ev.now _)
    | succ d ih =>
      intro i hd hi
      refine Ev.succ ?_
      simp only [Ca.l0]
      refine Ev.pos (by omega) (Ev.pos (by omega) (Ev.pos (by omega) (Ev.pos (by omega) (Ev.pos (by trivial) ?_))))
      rw [Af (n:=(i:Int)+1) (by omega) (by omega)]
      exact ih (i+1) (by omega) (by omega)
  unfold Ca.f
  exact Ev.pos rfl (lp l.length 0 (by omega) (by omega))
theorem rows_ev (l:List (List Int)) (hl:l.length≤1000000) (hr:∀ r ∈ l,r.length≤1000000):Ev (fun k=>Dh.f k l l) true:=by
  have lp:∀ (d i:Nat),l.length-i=d→i≤l.length→Ev (fun k=>Dh.l0 k l l (l.length:Int) (i:Int)) true:=by
    intro d
    induction d with
    | zero=>intro i hd hi;refine Ev.succ ?_;simp only [Dh.l0];exact Ev.neg (by omega) (Ev.now _)
    | succ d ih =>
      intro i hd hi
      refine Ev.succ ?_
      simp only [Dh.l0]
      have e:(As l (i:Int)).length≤1000000:=by
        unfold As
        rw [Int.toNat_natCast,List.getD_eq_getElem?_getD,List.getElem?_eq_getElem (show i<l.length by omega)]
        exact hr _ (List.getElem_mem _)
      refine Ev.pos (by omega) (Ev.pos (by omega) (Ev.pos (by omega) (Ev.pos (by omega) (Ev.bind (Kv _ e) (Ev.pos rfl ?_)))))
      rw [Af (n:=(i:Int)+1) (by omega) (by omega)]
      exact ih (i+1) (by omega) (by omega)
  unfold Dh.f
  exact Ev.pos rfl (lp l.length 0 (by omega) (by omega))
theorem rises_ev (l:List Int) (hl:l.length≤1000000) (hp:l.Pairwise (·<·)):Ev (fun k=>Cs.f k l) true:=by
  have lp:∀ (d i:Nat),l.length-i=d→1≤i→Ev (fun k=>Cs.l0 k l (i:Int)) true:=by
    intro d
    induction d with
    | zero=>intro i hd hi;refine Ev.succ ?_;simp only [Cs.l0];exact Ev.neg (by omega) (Ev.now _)
    | succ d ih =>
      intro i hd hi
      refine Ev.succ ?_
      simp only [Cs.l0]
      have hlt:rd l ((i:Int)-1)<rd l (i:Int):=by
        have:=List.pairwise_iff_getElem.1 hp (i-1) i (by omega) (by omega) (by omega)
        unfold rd
        rw [show ((i:Int)-1).toNat=i-1 by omega,Int.toNat_natCast,List.getD_eq_getElem?_getD,List.getElem?_eq_getElem (show i-1<l.length by omega),List.getD_eq_getElem?_getD,List.getElem?_eq_getElem (show i<l.length by omega)]
        exact this
      rw [Af (n:=(i:Int)-1) (by omega) (by omega)]
      refine Ev.pos (by omega) (Ev.pos (by omega) (Ev.pos (by omega) (Ev.pos (by omega) (Ev.neg (by omega) ?_))))
      rw [Af (n:=(i:Int)+1) (by omega) (by omega)]
      exact ih (i+1) (by omega) (by omega)
  unfold Cs.f
  exact lp (l.length-1) 1 (by omega) (Nat.le_refl _)
theorem has_ev (l:List Int) (hl:l.length≤1000000) (v:Int):Ev (fun k=>Df.f k l v) (decide (v ∈ l)):=by
  have lp:∀ (d i:Nat),l.length-i=d→i≤l.length→v ∉ l.take i→Ev (fun k=>Df.l0 k v l (l.length:Int) (i:Int)) (decide (v ∈ l)):=by
    intro d
    induction d with
    | zero =>
      intro i hd hi hn
      refine Ev.succ ?_
      simp only [Df.l0]
      refine Ev.neg (by omega) (Ev.eqr (Ev.now _) (decide_eq_false ?_).symm)
      rwa [List.take_of_length_le (by omega)] at hn
    | succ d ih =>
      intro i hd hi hn
      have hi2:i<l.length:=by omega
      have e:rd l (i:Int)=l[i]:=by
        unfold rd
        rw [Int.toNat_natCast,List.getD_eq_getElem?_getD,List.getElem?_eq_getElem hi2];rfl
      refine Ev.succ ?_
      simp only [Df.l0]
      refine Ev.pos (by omega) (Ev.pos (by omega) (Ev.pos (by omega) ?_))
      rw [e]
      by_cases c:l[i]=v
      · refine Ev.pos c (Ev.eqr (Ev.now _) (decide_eq_true ?_).symm)
        rw [← c];exact List.getElem_mem hi2
      · refine Ev.neg c ?_
        rw [Af (n:=(i:Int)+1) (by omega) (by omega)]
        refine ih (i+1) (by omega) (by omega) ?_
        rw [List.take_succ_eq_append_getElem hi2,List.mem_append,List.mem_singleton]
        exact fun h=>h.elim hn (fun h=>c h.symm)
  unfold Df.f
  exact lp l.length 0 (by omega) (Nat.zero_le _) (by simp)
theorem cuts_ev (W H:Int) (l:List Sq) (hl:l.length≤1000000):Ev (fun k=>Cb.f k W H l W H l) true:=by
  have lp:∀ (d i:Nat),l.length-i=d→i≤l.length→Ev (fun k=>Cb.l0 k (l.length:Int) (i:Int) W H l W H l) true:=by
    intro d
    induction d with
    | zero=>intro i hd hi;refine Ev.succ ?_;simp only [Cb.l0];exact Ev.neg (by omega) (Ev.now _)
    | succ d ih =>
      intro i hd hi
      refine Ev.succ ?_
      simp only [Cb.l0]
      refine Ev.pos (by omega) (Ev.pos (by omega) (Ev.pos (by omega) (Ev.pos (by omega) (Ev.neg (by simp) ?_))))
      rw [Af (n:=(i:Int)+1) (by omega) (by omega)]
      exact ih (i+1) (by omega) (by omega)
  unfold Cb.f
  refine Ev.pos rfl (Ev.pos rfl (Ev.succ ?_))
  simp only [Cb.j0]
  exact Ev.neg (by simp) (lp l.length 0 (by omega) (by omega))

/-! ### the law -/
theorem law_j7 (dW dH:Int) (dl:List Sq) (x y:Int):Ev (fun k=>laws_FnCutsFillOfAll.j7 k x y (if Ep dW dH dl x y then (Ew (fun t=>decide (Ck t x y)) dl,true) else (0,false)).1 (if Ep dW dH dl x y then (Ew (fun t=>decide (Ck t x y)) dl,true) else (0,false)).2 false dW dH dl) true:=by
  refine Ev.succ ?_
  simp only [laws_FnCutsFillOfAll.j7]
  refine Ev.neg (by simp) ?_
  by_cases h:Ep dW dH dl x y
  · rw [if_pos h]
    obtain ⟨j,hj,hin,e⟩:=at_spec h.1 x y h.2.1 h.2.2
    have hI:=(h.1.2.2.2.1 j hj).1
    have hW:=h.1.1
    have hH:=h.1.2.1
    dsimp only
    rw [e,Dg]
    unfold Ck at hin
    unfold Ins at hI
    rw [Af (n:=(Ad dl j).f0+(Ad dl j).f2) (by omega) (by omega),Af (n:=(Ad dl j).f1+(Ad dl j).f2) (by omega) (by omega)]
    refine Ev.pos rfl (Ev.pos (by omega) (Ev.pos (by omega) (Ev.pos hin.1 (Ev.pos hin.2.1 (Ev.pos hin.2.2.1 ?_)))))
    exact Ev.eqr (Ev.now _) (decide_eq_true hin.2.2.2)
  · rw [if_neg h]
    exact Ev.neg (by simp) (Ev.now _)
theorem law_j6 (w h : Int) (l3 : List Sq) (hl3 : l3.length ≤ 10000) (sd x y kk dW dH : Int) (dl : List Sq) (eW eH : Int) (el : List Sq) :
    Ev (fun k=>laws_FnCutsFillOfAll.j6 k w h l3 sd x y kk dW dH dl eW eH el) true:=by
  refine Ev.succ ?_
  simp only [laws_FnCutsFillOfAll.j6]
  have c1:Ev (fun k=>Ga.f k w h l3) (E5 w h l3):=by
    unfold Ga.f
    exact Ev.bind (N1 w h l3 (by omega)) (Ev.now _)
  have c2:Ev (fun k=>Gb.f k w h l3) (E5 w h l3):=by
    unfold Gb.f
    exact Ev.bind (M9 w h l3) (Ev.now _)
  have cb:=Ri w h l3
  have cg:(E5 w h l3).2.2.2=true→Bq (E5 w h l3).1 (E5 w h l3).2.1 (E5 w h l3).2.2.1:=by
    unfold E5;split
    · rename_i q;exact fun _=>q
    · intro q;cases q
  have ob:(Ei sd).2.2.1.length≤1:=by unfold Ei;split <;> simp
  have og:(Ei sd).2.2.2=true→Bq (Ei sd).1 (Ei sd).2.1 (Ei sd).2.2.1:=by
    unfold Ei;split
    · rename_i q;exact fun _=>(Ml sd).2 q
    · intro q;cases q
  have o1:=K0 sd
  have o2:=Kz sd
  have b0:=besR_len eW eH el kk
  have b1:=Ii eW eH el kk
  have b2:=M5 eW eH el kk
  have a1:=Ef dW dH dl x y
  have a2:=Mh dW dH dl x y
  have last:=law_j7 dW dH dl x y
  generalize E5 w h l3=C at *
  generalize Ei sd=O at *
  generalize besR eW eH el kk=B at *
  generalize (if Ep dW dH dl x y then (Ew (fun t=>decide (Ck t x y)) dl,true) else (0,false))=A at *
  refine Ev.bind c1 (Ev.bind c2 (Ev.bind o1 (Ev.bindc o2 (Ev.bind a1 (Ev.bind a2 (Ev.bind b1 (Ev.bind b2 (Ev.neg (by simp) ?_))))))))
  refine Ev.bind (cuts_ev C.1 C.2.1 C.2.2.1 (by omega)) (Ev.pos rfl (Ev.neg (by simp) (Ev.bind (cuts_ev O.1 O.2.1 O.2.2.1 (by omega)) (Ev.pos rfl ?_))))
  refine Ev.neg (by simp) (Ev.pos rfl (Ev.neg (by simp) (Ev.bind (Kv B.1 (by omega)) (Ev.pos rfl ?_))))
  have two:Ev (fun k=>if O.2.2.2=true then (Aj.f k O.1 O.2.1 O.2.2.1).bind fun t=>laws_FnCutsFillOfAll.j7 k x y A.1 A.2 (!t) dW dH dl else laws_FnCutsFillOfAll.j7 k x y A.1 A.2 false dW dH dl) true:=by
    by_cases q:O.2.2.2=true
    · refine Ev.pos q (Ev.bind (C0 _ _ _) ?_)
      rw [decide_eq_true (og q)]
      exact last
    · exact Ev.neg q last
  by_cases q:C.2.2.2=true
  · refine Ev.pos q (Ev.bind (C0 _ _ _) (Ev.pos (decide_eq_true (cg q)) ?_))
    exact two
  · exact Ev.neg q two
theorem law_l2 {W H : Int} {l : List Sq} (hg : Bq W H l) (w h : Int) (l3 : List Sq) (sd x y kk dW dH : Int) (dl : List Sq) (eW eH : Int) (el : List Sq)
    (next:Ev (fun k=>laws_FnCutsFillOfAll.j6 k w h l3 sd x y kk dW dH dl eW eH el) true):∀ (d i:Nat),(Dj l l.length).length-i=d→i≤(Dj l l.length).length →
    Ev (fun k=>laws_FnCutsFillOfAll.l2 k w h l3 sd x y kk (Dj l l.length) ((Dj l l.length).length:Int) (i:Int) W H l dW dH dl eW eH el) true:=by
  have hW:=hg.1
  have hH:=hg.2.1
  have hcl:=G7 l l.length
  have h30:=hg.2.2.1.2
  have hall:=Rb hg
  generalize Dj l l.length=R at *
  intro d
  induction d with
  | zero =>
    intro i hd hi
    refine Ev.succ ?_
    simp only [laws_FnCutsFillOfAll.l2]
    exact Ev.neg (by omega) next
  | succ d ih =>
    intro i hd hi
    have hi2:i<R.length:=by omega
    obtain ⟨px,py,a,b,c,e,hr,hx,hy,pa,pb,pc,pe,n1,n2,n3,n4,n5,n6⟩:=hall _ (List.getElem_mem hi2)
    have er:As R (i:Int)=[px,py]:=by
      unfold As
      rw [Int.toNat_natCast,List.getD_eq_getElem?_getD,List.getElem?_eq_getElem hi2];exact hr
    refine Ev.succ ?_
    simp only [laws_FnCutsFillOfAll.l2]
    rw [er]
    have r0:rd [px,py] 0=px:=rfl
    have r1:rd [px,py] 1=py:=rfl
    rw [r0,r1,Af (n:=px-1) (by omega) (by omega),Af (n:=py-1) (by omega) (by omega)]
    refine Ev.pos (by omega) (Ev.pos (by omega) (Ev.pos (by omega) (Ev.pos rfl (Ev.pos (by simp) (Ev.neg (by omega) (Ev.neg (by omega) (Ev.pos (by simp) (Ev.neg (by omega) (Ev.neg (by omega) ?_)))))))))
    have s1:=Ef W H l px py
    have s2:=Ef W H l (px-1) py
    have s3:=Ef W H l px (py-1)
    have s4:=Ef W H l (px-1) (py-1)
    rw [if_pos (show Ep W H l px py from ⟨hg,by omega,by omega⟩),pa] at s1
    rw [if_pos (show Ep W H l (px-1) py from ⟨hg,by omega,by omega⟩),pb] at s2
    rw [if_pos (show Ep W H l px (py-1) from ⟨hg,by omega,by omega⟩),pc] at s3
    rw [if_pos (show Ep W H l (px-1) (py-1) from ⟨hg,by omega,by omega⟩),pe] at s4
    refine Ev.bind s1 (Ev.bind s2 (Ev.bind s3 (Ev.bind s4 (Ev.pos rfl (Ev.pos rfl (Ev.pos rfl (Ev.pos rfl ?_)))))))
    refine Ev.neg (by dsimp only;omega) (Ev.neg (by dsimp only;omega) (Ev.neg (by dsimp only;omega) (Ev.neg (by dsimp only;omega) (Ev.neg (by dsimp only;omega) (Ev.neg (by dsimp only;omega) ?_)))))
    rw [Af (n:=(i:Int)+1) (by omega) (by omega)]
    exact ih (i+1) (by omega) (by omega)
theorem law_l1 {W H : Int} {l : List Sq} (hg : Bq W H l) (j : Nat) (hj : j < l.length) (w h : Int) (l3 : List Sq) (sd x y kk : Int) (S E : List Int) (C : List (List Int)) (ln ar n0 i0 : Int) (dW dH : Int) (dl : List Sq) (eW eH : Int) (el : List Sq)
    (next:Ev (fun k=>laws_FnCutsFillOfAll.l0 k w h l3 sd x y kk S E C ln ar l n0 (wrap64 (i0+1)) W H l dW dH dl eW eH el) true):∀ (d i:Nat),(D4 l j l.length).length-i=d→i≤(D4 l j l.length).length →
    Ev (fun k=>laws_FnCutsFillOfAll.l1 k w h l3 sd x y kk S E C ln ar (j:Int) l n0 i0 (D4 l j l.length) ((D4 l j l.length).length:Int) (i:Int) W H l dW dH dl eW eH el) true:=by
  have hbl:=G6 l j l.length
  have h30:=hg.2.2.1.2
  have hall:∀ v ∈ D4 l j l.length,∃ m:Nat,m<l.length∧v=(m:Int)∧Bes (Ad l m) (Ad l j):=fun v hv=>(Gm l j v l.length).1 hv
  generalize D4 l j l.length=R at *
  intro d
  induction d with
  | zero =>
    intro i hd hi
    refine Ev.succ ?_
    simp only [laws_FnCutsFillOfAll.l1]
    exact Ev.neg (by omega) next
  | succ d ih =>
    intro i hd hi
    have hi2:i<R.length:=by omega
    obtain ⟨m,hml,hme,hmb⟩:=hall _ (List.getElem_mem hi2)
    have er:rd R (i:Int)=(m:Int):=by
      unfold rd
      rw [Int.toNat_natCast,List.getD_eq_getElem?_getD,List.getElem?_eq_getElem hi2];exact hme
    have s1:=Ii W H l (m:Int)
    unfold besR at s1
    rw [if_pos ⟨hg,by omega,by omega⟩,Int.toNat_natCast] at s1
    refine Ev.succ ?_
    simp only [laws_FnCutsFillOfAll.l1]
    rw [er]
    refine Ev.pos (by omega) (Ev.pos (by omega) (Ev.pos (by omega) (Ev.bind s1 (Ev.pos rfl (Ev.bind (has_ev _ (by have:=G6 l m l.length;dsimp only;omega) _) (Ev.pos (decide_eq_true ?_) ?_))))))
    · exact (Gm l m (j:Int) l.length).2 ⟨j,hj,rfl,bes_comm hmb⟩
    · rw [Af (n:=(i:Int)+1) (by omega) (by omega)]
      exact ih (i+1) (by omega) (by omega)
theorem law_l0 {W H : Int} {l : List Sq} (hg : Bq W H l) (w h : Int) (l3 : List Sq) (sd x y kk : Int) (E : List Int) (hE : E.length = 4) (ln : Int) (hln : (ln ≤ W ∨ ln ≤ H) ∧ (ln = 0 ↔ l.length = 1)) (dW dH : Int) (dl : List Sq) (eW eH : Int) (el : List Sq)
    (next:Ev (fun k=>laws_FnCutsFillOfAll.j6 k w h l3 sd x y kk dW dH dl eW eH el) true):∀ (d i:Nat),l.length-i=d→i≤l.length →
    Ev (fun k=>laws_FnCutsFillOfAll.l0 k w h l3 sd x y kk (l.map fun s=>s.f2) E (Dj l l.length) ln (Dk l i) l (l.length:Int) (i:Int) W H l dW dH dl eW eH el) true:=by
  have hW:=hg.1
  have hH:=hg.2.1
  have h30:=hg.2.2.1
  intro d
  induction d with
  | zero =>
    intro i hd hi
    obtain rfl:i=l.length:=by omega
    refine Ev.succ ?_
    simp only [laws_FnCutsFillOfAll.l0]
    have w1:W*H≤500*500:=Int.mul_le_mul (by omega) (by omega) (by omega) (by omega)
    have w0:0≤W*H:=Int.mul_nonneg (by omega) (by omega)
    have fin:Ev (fun k=>laws_FnCutsFillOfAll.j4 k w h l3 sd x y kk (Dj l l.length) ((ln==0) != ((l.length:Int)==1)) W H l dW dH dl eW eH el) true:=by
      refine Ev.succ ?_
      simp only [laws_FnCutsFillOfAll.j4]
      refine Ev.neg ?_ (law_l2 hg w h l3 sd x y kk dW dH dl eW eH el next _ 0 rfl (Nat.zero_le _))
      have:(ln==0)=((l.length:Int)==1):=by
        rw [Bool.eq_iff_iff,beq_iff_eq,beq_iff_eq,hln.2];omega
      rw [this];simp
    refine Ev.neg (by omega) (Ev.pos ?_ (Ev.pos (by omega) ?_))
    · rw [Af (by omega) (by omega)];exact hg.2.2.2.2
    · by_cases c:ln>W
      · exact Ev.pos c (Ev.neg (by omega) fin)
      · exact Ev.neg c fin
  | succ d ih =>
    intro i hd hi
    have hi2:i<l.length:=by omega
    have hI:=(hg.2.2.2.1 i hi2).1
    have ih':=ih (i+1) (by omega) (by omega)
    have sb:=sq_bd hW.2 hH.2 hI
    have ab:=G4 W H l hW.2 hH.2 i (by omega) (fun m hm=>(hg.2.2.2.1 m (by omega)).1)
    have er:rd (l.map fun s=>s.f2) (i:Int)=(Ad l i).f2:=by
      unfold rd
      rw [Int.toNat_natCast,List.getD_eq_getElem?_getD,List.getElem?_map,List.getElem?_eq_getElem hi2,Bx l i hi2];rfl
    have q1:=Kt hg hi2 (x:=(Ad l i).f0) (y:=(Ad l i).f1) (by unfold Ins at hI;unfold Ck;omega)
    have q2:=Kt hg hi2 (x:=(Ad l i).f0+(Ad l i).f2-1) (y:=(Ad l i).f1+(Ad l i).f2-1) (by unfold Ins at hI;unfold Ck;omega)
    have s1:=Ef W H l (Ad l i).f0 (Ad l i).f1
    have s2:=Ef W H l ((Ad l i).f0+(Ad l i).f2-1) ((Ad l i).f1+(Ad l i).f2-1)
    rw [if_pos (show Ep W H l (Ad l i).f0 (Ad l i).f1 from ⟨hg,q1.1,q1.2.1⟩),q1.2.2] at s1
    rw [if_pos (show Ep W H l ((Ad l i).f0+(Ad l i).f2-1) ((Ad l i).f1+(Ad l i).f2-1) from ⟨hg,q2.1,q2.2.1⟩),q2.2.2] at s2
    have s3:=Ii W H l (i:Int)
    unfold besR at s3
    rw [if_pos ⟨hg,by omega,by omega⟩,Int.toNat_natCast] at s3
    have hbl:=G6 l i l.length
    unfold Ins at hI
    refine Ev.succ ?_
    simp only [laws_FnCutsFillOfAll.l0,Dg]
    rw [Af (n:=(Ad l i).f0+(Ad l i).f2) (by omega) (by omega),Af (n:=(Ad l i).f1+(Ad l i).f2) (by omega) (by omega),Af (n:=(Ad l i).f0+(Ad l i).f2-1) (by omega) (by omega),Af (n:=(Ad l i).f1+(Ad l i).f2-1) (by omega) (by omega),Af (n:=(Ad l i).f2*(Ad l i).f2) (by omega) (by omega),Af (n:=Dk l i+(Ad l i).f2*(Ad l i).f2) (by omega) (by omega)]
    refine Ev.pos (by omega) (Ev.pos (by omega) (Ev.pos (by omega) (Ev.pos (by rw [List.length_map];omega) (Ev.pos er ?_))))
    refine Ev.bind s1 (Ev.bind s2 (Ev.bind s3 (Ev.pos rfl (Ev.pos rfl (Ev.pos rfl (Ev.pos rfl (Ev.pos rfl ?_)))))))
    refine Ev.bind (rises_ev _ (by dsimp only;omega) (Jz l i l.length)) (Ev.pos rfl (Ev.bind (has_ev _ (by dsimp only;omega) _) (Ev.neg ?_ ?_)))
    · rw [decide_eq_true_eq]
      intro hm
      obtain ⟨m,hm1,hm2,hm3⟩:=(Gm l i (i:Int) l.length).1 hm
      obtain rfl:m=i:=by omega
      exact bes_self hI.1 hm3
    · have nx : Ev (fun k => laws_FnCutsFillOfAll.j2 k w h l3 sd x y kk (l.map fun s => s.f2) E (Dj l l.length) ln (Dk l i + (Ad l i).f2 * (Ad l i).f2) (i : Int) (D4 l i l.length) l (l.length : Int) (i : Int) false W H l dW dH dl eW eH el) true := by
        refine Ev.succ ?_
        simp only [laws_FnCutsFillOfAll.j2]
        refine Ev.neg (by simp) (law_l1 hg i hi2 w h l3 sd x y kk _ E _ ln _ _ _ dW dH dl eW eH el ?_ _ 0 rfl (Nat.zero_le _))
        rw [Af (n:=(i:Int)+1) (by omega) (by omega)]
        exact ih'
      by_cases c:((D4 l i l.length).length:Int)=0
      · refine Ev.pos c ?_
        have:¬ ((l.length:Int)>1):=fun h2=>by
          obtain ⟨m,hm,hmb⟩:=bes_some hg (by omega) i hi2
          have:=(Gm l i (m:Int) l.length).2 ⟨m,hm,rfl,hmb⟩
          rw [show D4 l i l.length=[] from List.eq_nil_of_length_eq_zero (by omega)] at this
          cases this
        rw [decide_eq_false this]
        exact nx
      · exact Ev.neg c nx
theorem FnCutsFillOfAll:laws_FnCutsFillOfAll.Pure:=by
  intro W H l w h l3 sd dW dH dl x y eW eH el kk _ _ _ _ _ _ _ _ _ _ _ _ _ _ _ _ _ _ _ _
  refine Ev.rounds (g:=fun k=>laws_FnCutsFillOfAll.f k W H l w h l3 sd dW dH dl x y eW eH el kk) ?_
  unfold laws_FnCutsFillOfAll.f
  by_cases c:(l3.length:Int)>10000
  · exact Ev.pos c (Ev.now _)
  · have next:=law_j6 w h l3 (by omega) sd x y kk dW dH dl eW eH el
    obtain ⟨P,hP,p1,p2⟩:=perf_ev W H l
    obtain ⟨B,hB1,hB2,g1,g2⟩:=line_told W H l
    have d1:=Rg W H l
    obtain ⟨d2,d3⟩:=crsR_len W H l
    have sc:Ev (fun k=>E9.f k W H l) (decide (Bq W H l)):=by
      unfold E9.f
      exact Ev.bind (Cp W H l) (Ev.now _)
    refine Ev.neg c (Ev.bind (C0 W H l) (Ev.bind (Ib W H l) (Ev.bind (Mt W H l) (Ev.bind p2 (Ev.bind p1 (Ev.bind (N0 W H l) (Ev.bind (Nz W H l) (Ev.bind (Q2 W H l) (Ev.bind (Q1 W H l) (Ev.bind g2 (Ev.bind g1 (Ev.bind sc ?_))))))))))))
    refine Ev.neg (by simp) (Ev.neg (by simp) (Ev.bind (Kv _ ?_) (Ev.pos (by trivial) (Ev.neg (by simp) (Ev.neg (by simp) (Ev.neg (by simp) (Ev.bind (Kv _ (by omega)) (Ev.pos (by trivial) (Ev.neg (by simp) (Ev.bind (rows_ev _ (by omega) (fun r hr=>by have:=d3 r hr;omega)) (Ev.pos (by trivial) (Ev.neg (by simp) (Ev.pos (by trivial) ?_)))))))))))))
    · split
      · rename_i hg;have:=hg.2.2.1.2;rw [List.length_map];omega
      · simp
    by_cases hg:Bq W H l
    · have hB:=hB1 hg
      rw [if_pos hg,decide_eq_true hg]
      unfold Iv crsR
      rw [if_pos hg,if_pos hg]
      rw [decide_eq_true hg] at hP
      refine Ev.neg (by simp) (Ev.neg (by rw [hP];simp) (Ev.neg (by simp) (Ev.neg (by simp) ?_)))
      rw [hB.1]
      refine Ev.succ ?_
      simp only [laws_FnCutsFillOfAll.j0]
      refine Ev.neg (by simp) (Ev.pos (by trivial) ?_)
      exact law_l0 hg w h l3 sd x y kk _ rfl B.1 hB.2 dW dH dl eW eH el next l.length 0 (by omega) (Nat.zero_le _)
    · have hB:=hB2 hg
      rw [if_neg hg,decide_eq_false hg]
      unfold Iv crsR
      rw [if_neg hg,if_neg hg]
      rw [decide_eq_false hg] at hP
      refine Ev.neg (by simp) (Ev.neg (by rw [hP];simp) (Ev.neg (by simp) (Ev.neg (by simp) ?_)))
      rw [hB]
      refine Ev.succ ?_
      simp only [laws_FnCutsFillOfAll.j0]
      exact Ev.neg (by simp) (Ev.neg (by simp) next)

end Go.Proofs.Yteaomckihokakaa.Pure
