/- Codes are turned, mirrored and grown as their cuts are, compared by their sides, and texts are read back, whatever is given. -/
import Derived.Test.YtgeahghdikdamaaGreatDoorPFnCodesTurnedOfAllx0
import Derived.Test.YtgeahghdikdamaaGreatDoorPFnCodesTurnedOfAllx1
import Derived.Test.YtgeahghdikdamaaGreatDoorPFnCodesTurnedOfAllx2
import Derived.Test.YtgeahghdikdamaaGreatDoorPFnCodesTurnedOfAllx3
import Derived.Test.YtgeahghdikdamaaGreatDoorPFnCodesTurnedOfAllx4
import Derived.Test.YtgeahghdikdamaaGreatDoorPFnCodesTurnedOfAllx5
import Derived.Test.YtgeahghdikdamaaGreatDoorPFnCodesTurnedOfAllx6
import Derived.Test.YtgeahghdikdamaaGreatDoorPFnCodesTurnedOfAllx7
import Derived.Test.YtgeahghdikdamaaGreatDoorPFnCodesTurnedOfAllx8
import Derived.Test.YtgeahghdikdamaaGreatDoorPFnCodesTurnedOfAllx9
import Derived.Test.YtgeahghdikdamaaGreatDoorPFnCodesTurnedOfAllx10
import Derived.Test.YtgeahghdikdamaaGreatDoorPFnCodesTurnedOfAllx11
import Derived.Test.YtgeahghdikdamaaGreatDoorPFnCodesTurnedOfAllx12
import Derived.Test.YtgeahghdikdamaaGreatDoorPFnCodesTurnedOfAllx13
import Derived.Test.YtgeahghdikdamaaGreatDoorPFnCodesTurnedOfAllx14
import Derived.Test.YtgeahghdikdamaaGreatDoorPFnCodesTurnedOfAllx15
import Derived.Test.YtgeahghdikdamaaGreatDoorPFnCodesTurnedOfAllx16
import Derived.Test.YtgeahghdikdamaaGreatDoorPFnCodesTurnedOfAllx17
import Derived.Test.YtgeahghdikdamaaGreatDoorPFnCodesTurnedOfAllx18
import Derived.Test.YtgeahghdikdamaaGreatDoorPFnCodesTurnedOfAllx19
import Derived.Test.YtgeahghdikdamaaGreatDoorPFnCodesTurnedOfAllx20
import Derived.Test.YtgeahghdikdamaaGreatDoorPFnCodesTurnedOfAllx21
import Derived.Test.YtgeahghdikdamaaGreatDoorPFnCodesTurnedOfAllx22
import Derived.Test.YtgeahghdikdamaaGreatDoorPFnCodesTurnedOfAllx23
import Derived.Test.YtgeahghdikdamaaGreatDoorWGuardMoreInvWords
namespace Go.Proofs.YtgeahghdikdamaaGreatDoor.Pure
open Go.RowKit Go.Proofs.YtgeahghdikdamaaGreatDoor.PFnCodesTurnedOfAll Go.Proofs.YtgeahghdikdamaaGreatDoorW.PrintWords Go.Proofs.YtgeahghdikdamaaGreatDoorW.PrintLast Go.Proofs.YtgeahghdikdamaaGreatDoorW.PrintMore Go.Proofs.YtgeahghdikdamaaGreatDoorW.Evs
set_option linter.unusedVariables false
set_option linter.unusedSimpArgs false
/-! ### a cut: what the program's IsCut and the reference's cuGood answer -/
abbrev Sq:=S67
def Ah (l:List Sq) (j:Nat):Sq:=l.getD j z67
theorem Gm (l:List Sq) (j:Nat):Aa l (j:Int)=Ah l j:=by unfold Aa Ah;rw [Int.toNat_natCast]
theorem Cm (l:List Sq) (j:Nat) (h:j<l.length):Ah l j=l[j]:=by unfold Ah;simp [List.getD,h]
theorem Iw (l:List Sq) (j:Nat) (h:j<l.length):Ah l j ∈ l:=by rw [Cm l j h];exact List.getElem_mem h
/-- a square lies in the rectangle -/
def Ins (W H:Int) (s:Sq):Prop:=1≤s.f2∧0≤s.f0∧s.f0+s.f2≤W∧0≤s.f1∧s.f1+s.f2≤H
instance (W H:Int) (s:Sq):Decidable (Ins W H s):=by unfold Ins;infer_instance
def D2 (a b:Sq):Prop:=a.f1<b.f1∨a.f1=b.f1∧a.f0<b.f0
instance (a b:Sq):Decidable (D2 a b):=by unfold D2;infer_instance
def Ovl (a b:Sq):Prop:=a.f0<b.f0+b.f2∧b.f0<a.f0+a.f2∧a.f1<b.f1+b.f2∧b.f1<a.f1+a.f2
instance (a b:Sq):Decidable (Ovl a b):=by unfold Ovl;infer_instance
def I9 (W H:Int) (l:List Sq) (i:Nat):Prop:=Ins W H (Ah l i)∧(0<i→D2 (Ah l (i-1)) (Ah l i))∧∀ j,j<i→¬ Ovl (Ah l i) (Ah l j)
instance (W H:Int) (l:List Sq) (i:Nat):Decidable (I9 W H l i):=by unfold I9;infer_instance
def Ee (l:List Sq):Nat→Int
  | 0=>0
  | n+1=>Ee l n+(Ah l n).f2*(Ah l n).f2
/-- a width, a height and squares are a cut -/
def Cv (W H:Int) (l:List Sq):Prop:=(1≤W∧W≤500)∧(1≤H∧H≤500)∧(1≤l.length∧l.length≤30)∧(∀ i,i<l.length→I9 W H l i)∧Ee l l.length=W*H
instance (W H:Int) (l:List Sq):Decidable (Cv W H l):=by unfold Cv;infer_instance

theorem Is (a b c:Int):Br.f a b c=some (decide (b≤a∧a≤c)):=by
  unfold Br.f
  by_cases h:b≤a
  · rw [if_pos h];simp [h]
  · rw [if_neg h];simp [h]
theorem Nt (a:Int):Dw.f a=some (decide (1≤a∧a≤500)):=by
  unfold Dw.f;rw [Is];rfl
theorem G1 (a b c:Int):Bt.f a b c=some (decide (b≤a∧a≤c)):=by
  unfold Bt.f
  by_cases h:b≤a
  · rw [if_pos h];simp [h]
  · rw [if_neg h];simp [h]
theorem Kl (W H:Int) (l:List Sq) (hW:W≤500) (hH:H≤500):∀ n,n≤30→(∀ m,m<n→Ins W H (Ah l m))→0≤Ee l n∧Ee l n≤n*250000
  | 0,_,_=>by simp [Ee]
  | n+1,hn,h=>by
    obtain ⟨h1,h2⟩:=Kl W H l hW hH n oz (fun m hm=>h m oz)
    have hi:=h n oz
    unfold Ins at hi
    have q1:0≤(Ah l n).f2*(Ah l n).f2:=Int.mul_nonneg oz oz
    have q2:(Ah l n).f2*(Ah l n).f2≤500*500:=Int.mul_le_mul oz oz oz oz
    simp only [Ee]
    omega
theorem sq_bd {W H:Int} {s:Sq} (hW:W≤500) (hH:H≤500) (h:Ins W H s):0≤s.f2*s.f2∧s.f2*s.f2≤250000:=by
  unfold Ins at h
  have q1:0≤s.f2*s.f2:=Int.mul_nonneg oz oz
  have q2:s.f2*s.f2≤500*500:=Int.mul_le_mul oz oz oz oz
  omega

theorem V8 {W H : Int} {a b : Sq} (hW : W ≤ 500) (hH : H ≤ 500) (ha : Ins W H a) (hb : Ins W H b) :
    ∃ c,Bj.f a.f0 a.f1 a.f2 b.f0 b.f1 b.f2=some c∧(c<0↔D2 a b):=by
  unfold Ins at ha hb
  unfold Bj.f D2
  by_cases e:a.f1=b.f1
  · rw [if_pos e];exact ⟨_,rfl,by rw [Af oz oz];omega⟩
  · rw [if_neg e];exact ⟨_,rfl,by rw [Af oz oz];omega⟩
theorem Q2 {W H : Int} {a b : Sq} (hW : W ≤ 500) (hH : H ≤ 500) (ha : Ins W H a) (hb : Ins W H b) :
    Et.f a.f0 a.f1 a.f2 b.f0 b.f1 b.f2=some (decide (Ovl a b)):=by
  unfold Ins at ha hb
  unfold Et.f Ovl
  rw [Af oz oz,Af oz oz,Af oz oz,Af oz oz]
  by_cases h1:a.f0<b.f0+b.f2
  · by_cases h2:b.f0<a.f0+a.f2
    · by_cases h3:a.f1<b.f1+b.f2
      · simp [h1,h2,h3]
      · simp [h1,h2,h3]
    · simp [h1,h2]
  · simp [h1]
theorem Ru (a b:Sq):Ey.f a.f0 a.f1 a.f2 b.f0 b.f1 b.f2=some (decide (D2 a b)):=by
  unfold Ey.f D2
  by_cases h1:a.f1<b.f1
  · rw [if_pos h1];simp [h1]
  · rw [if_neg h1]
    by_cases h2:a.f1=b.f1
    · rw [if_pos h2];simp [h2]
    · rw [if_neg h2];simp [h1,h2]

/-! the program's own -/
theorem Vv {W H : Int} {l : List Sq} (hW : W ≤ 500) (hH : H ≤ 500) (i : Nat) (hi : i < l.length) (h : ∀ m, m ≤ i → Ins W H (Ah l m)) :
    Aj.f (l.take i) (Ah l i).f0 (Ah l i).f1 (Ah l i).f2=some (decide (∃ j,j<i∧Ovl (Ah l i) (Ah l j))):=by
  unfold Aj.f
  congr 1
  rw [Bool.eq_iff_iff,List.any_eq_true,decide_eq_true_eq]
  constructor
  · rintro ⟨t,ht,hp⟩
    obtain ⟨j,hj⟩:=List.getElem?_of_mem ht
    have a1:j<(l.take i).length:=(List.getElem?_eq_some_iff.1 hj).1
    have a0:j<i:=by simp at a1;omega
    have e:t=Ah l j:=by
      rw [List.getElem?_take_of_lt a0,List.getElem?_eq_getElem oz] at hj
      rw [Cm l j oz];exact (Option.some.inj hj).symm
    subst e
    rw [Q2 hW hH (h i (Nat.le_refl _)) (h j oz)] at hp
    exact ⟨j,a0,by simpa using hp⟩
  · rintro ⟨j,hj,ho⟩
    refine ⟨Ah l j,?_,?_⟩
    · rw [Cm l j oz]
      exact List.mem_take_iff_getElem.2 ⟨j,by omega,rfl⟩
    · rw [Q2 hW hH (h i (Nat.le_refl _)) (h j oz)];simpa using ho

theorem Qk (W H:Int) (l:List Sq) (i:Nat):(∀ m,i≤m→m<l.length→I9 W H l m)↔(i<l.length→I9 W H l i)∧(∀ m,i+1≤m→m<l.length→I9 W H l m) :=
  ⟨fun h=>⟨fun hi=>h i (Nat.le_refl _) hi,fun m h1 h2=>h m oz h2⟩,fun ⟨h1,h2⟩ m h3 h4=>by
    by_cases e:i=m
    · subst e;exact h1 h4
    · exact h2 m oz h4⟩

theorem impl_loop {W H : Int} {l : List Sq} (hW : 1 ≤ W ∧ W ≤ 500) (hH : 1 ≤ H ∧ H ≤ 500) (hl : l.length ≤ 30) : ∀ (d i : Nat), l.length - i = d → i ≤ l.length → (∀ m, m < i → I9 W H l m) →
    ∀ r:Bool,(r=true↔(∀ m,i≤m→m<l.length→I9 W H l m)∧Ee l l.length=W*H)→Ev (fun k=>Ba.l0 k (Ee l i) l (l.length:Int) (i:Int) W H l) r:=by
  intro d
  induction d with
  | zero =>
    intro i hd hi hok r hr
    obtain rfl:i=l.length:=by omega
    have bd:=Kl W H l hW.2 hH.2 l.length hl (fun m hm=>(hok m hm).1)
    have w1:W*H≤500*500:=Int.mul_le_mul oz oz oz oz
    have w0:0≤W*H:=Int.mul_nonneg oz oz
    refine Ev.succ ?_
    simp only [Ba.l0]
    refine Ev.neg oz ?_
    rw [Af oz oz]
    refine Ev.eqr (Ev.now _) ?_
    rw [Bool.eq_iff_iff,hr,beq_iff_eq]
    exact ⟨fun h=>⟨fun m h1 h2=>by omega,h⟩,fun h=>h.2⟩
  | succ d ih =>
    intro i hd hi hok r hr
    have hlt:i<l.length:=by omega
    rw [Qk] at hr
    refine Ev.succ ?_
    simp only [Ba.l0,Gm]
    refine Ev.pos oz (Ev.pos oz (Ev.pos oz ?_))
    have hmn:mn W H≤500:=by unfold mn;split <;> omega
    have fall:∀ r:Bool,r=false→Ev (fun k=>Ba.j2 k (Ee l i) (i:Int) l (l.length:Int) (i:Int) true W H l (Ah l i).f0 (Ah l i).f1 (Ah l i).f2) r:=by
      rintro _ rfl
      refine Ev.succ ?_
      simp only [Ba.j2]
      exact Ev.pos trivial (Ev.now _)
    have rf:¬ I9 W H l i→r=false:=fun h=>by
      cases hq:r with
      | false=>rfl
      | true=>exact absurd ((hr.1 hq).1.1 hlt) h
    have mnle:mn W H≤W∧mn W H≤H∧(mn W H=W∨mn W H=H):=by unfold mn;split <;> omega
    refine Ev.bindc (Is _ _ _) ?_
    by_cases c1:1≤(Ah l i).f2∧(Ah l i).f2≤mn W H
    · rw [decide_eq_true c1]
      refine Ev.pos rfl (Ev.bindc (Is _ _ _) ?_)
      rw [Af oz oz]
      by_cases c2:0≤(Ah l i).f0∧(Ah l i).f0≤W-(Ah l i).f2
      · rw [decide_eq_true c2]
        refine Ev.pos rfl (Ev.bindc (Is _ _ _) ?_)
        rw [Af oz oz]
        by_cases c3:0≤(Ah l i).f1∧(Ah l i).f1≤H-(Ah l i).f2
        · rw [decide_eq_true c3]
          have hins:Ins W H (Ah l i):=by unfold Ins;omega
          have hall:∀ m,m≤i→Ins W H (Ah l m):=fun m hm=>by
            by_cases e:m=i
            · rw [e];exact hins
            · exact (hok m oz).1
          refine Ev.succ ?_
          simp only [Ba.j2,Bool.not_true]
          refine Ev.neg zd ?_
          have bd:=Kl W H l hW.2 hH.2 i oz (fun m hm=>hall m oz)
          have qb:=sq_bd hW.2 hH.2 hins
          have tn:((i:Int)).toNat=i:=Int.toNat_natCast i
          have next:(∀ j,j<i→¬ Ovl (Ah l i) (Ah l j))→(0<i→D2 (Ah l (i-1)) (Ah l i))→Ev (fun k=>Ba.l0 k (wrap64 (Ee l i+wrap64 ((Ah l i).f2*(Ah l i).f2))) l (l.length:Int) (wrap64 ((i:Int)+1)) W H l) r:=by
            intro ho hlss
            have hk:I9 W H l i:=⟨hins,hlss,ho⟩
            rw [Af (n:=(Ah l i).f2*(Ah l i).f2) oz oz,Af (n:=Ee l i+(Ah l i).f2*(Ah l i).f2) oz oz,Af (n:=(i:Int)+1) oz oz]
            have:=ih (i+1) oz oz (fun m hm=>by
              by_cases e:m=i
              · rw [e];exact hk
              · exact hok m oz) r (by rw [hr];exact ⟨fun h=>⟨h.1.2,h.2⟩,fun h=>⟨⟨fun _=>hk,h.1⟩,h.2⟩⟩)
            exact this
          have cont:(0<i→D2 (Ah l (i-1)) (Ah l i))→Ev (fun k=>if 0≤(i:Int) then if (i:Int)≤(l.length:Int) then (Aj.f (l.take ((i:Int)).toNat) (Ah l i).f0 (Ah l i).f1 (Ah l i).f2).bind fun t=>if t=true then some false else Ba.l0 k (wrap64 (Ee l i+wrap64 ((Ah l i).f2*(Ah l i).f2))) l (l.length:Int) (wrap64 ((i:Int)+1)) W H l else none else none) r:=by
            intro hlss
            refine Ev.pos oz (Ev.pos oz ?_)
            rw [tn]
            refine Ev.bindc (Vv hW.2 hH.2 i hlt hall) ?_
            by_cases ho:∃ j,j<i∧Ovl (Ah l i) (Ah l j)
            · rw [decide_eq_true ho]
              refine Ev.pos rfl (Ev.eqr (Ev.now _) (rf fun hk=>?_).symm)
              obtain ⟨j,hj,hq⟩:=ho
              exact hk.2.2 j hj hq
            · rw [decide_eq_false ho]
              exact Ev.neg zd (next (fun j hj hq=>ho ⟨j,hj,hq⟩) hlss)
          by_cases a0:(i:Int)>0
          · refine Ev.pos a0 ?_
            have e1:wrap64 ((i:Int)-1)=((i-1:Nat):Int):=by rw [Af oz oz];omega
            simp only [e1,Gm]
            refine Ev.pos oz (Ev.pos oz ?_)
            obtain ⟨c,hc,hcl⟩:=V8 hW.2 hH.2 (hall (i-1) oz) hins
            refine Ev.bindc hc ?_
            by_cases c4:c≥0
            · refine Ev.pos c4 (Ev.eqr (Ev.now _) (rf fun hk=>?_).symm)
              have:=hcl.2 (hk.2.1 oz)
              omega
            · exact Ev.neg c4 (cont fun _=>hcl.1 oz)
          · exact Ev.neg a0 (cont fun h=>by omega)
        · rw [decide_eq_false c3]
          exact fall _ (rf fun h=>c3 (by have:=h.1;unfold Ins at this;omega))
      · rw [decide_eq_false c2]
        exact Ev.neg zd (fall _ (rf fun h=>c2 (by have:=h.1;unfold Ins at this;omega)))
    · rw [decide_eq_false c1]
      refine Ev.neg zd (fall _ (rf fun h=>c1 ?_))
      have:=h.1
      unfold Ins at this
      rcases mnle.2.2 with e|e <;> omega

theorem Ur (W H:Int) (l:List Sq):Ev (fun k=>Ba.f k W H l) (decide (Cv W H l)):=by
  unfold Ba.f
  have fall:∀ r:Bool,r=false→Ev (fun k=>Ba.j0 k true W H l) r:=by
    rintro _ rfl
    refine Ev.succ ?_
    simp only [Ba.j0]
    exact Ev.pos trivial (Ev.now _)
  refine Ev.bindc (Nt _) ?_
  by_cases c1:1≤W∧W≤500
  · rw [decide_eq_true c1]
    refine Ev.pos rfl (Ev.bindc (Nt _) ?_)
    by_cases c2:1≤H∧H≤500
    · rw [decide_eq_true c2]
      refine Ev.pos rfl ?_
      by_cases c3:(l.length:Int)>30
      · rw [decide_eq_true c3]
        exact fall _ (decide_eq_false fun h=>by have:=h.2.2.1;omega)
      · rw [decide_eq_false c3]
        refine Ev.succ ?_
        simp only [Ba.j0]
        refine Ev.neg zd ?_
        have:=impl_loop (l:=l) c1 c2 oz l.length 0 oz (Nat.zero_le _) (fun m hm=>by omega) (decide (Cv W H l)) ?_
        · exact this
        · rw [decide_eq_true_eq]
          constructor
          · intro h;exact ⟨fun m _ h2=>h.2.2.2.1 m h2,h.2.2.2.2⟩
          · intro h
            refine ⟨c1,c2,⟨?_,(by omega:l.length≤30)⟩,fun m hm=>h.1 m (Nat.zero_le _) hm,h.2⟩
            cases hl:l with
            | nil =>
              subst hl
              have e:(0:Int)=W*H:=h.2
              have:0<W*H:=Int.mul_pos oz oz
              omega
            | cons a t=>simp
    · rw [decide_eq_false c2]
      exact Ev.neg zd (fall _ (decide_eq_false fun h=>c2 h.2.1))
  · rw [decide_eq_false c1]
    exact Ev.neg zd (fall _ (decide_eq_false fun h=>c1 h.1))

/-! the reference's own -/
/-- what the inner loop of the reference asks of the squares from place j on -/
def J0 (l:List Sq) (i j:Nat):Prop:=∀ m,j≤m→m<i→¬ Ovl (Ah l i) (Ah l m)∧(m+1=i→D2 (Ah l m) (Ah l i))
theorem V9 (l:List Sq) (i j:Nat) (h:j<i):J0 l i j↔(¬ Ovl (Ah l i) (Ah l j)∧(j+1=i→D2 (Ah l j) (Ah l i)))∧J0 l i (j+1) :=
  ⟨fun h1=>⟨h1 j (Nat.le_refl _) h,fun m h2 h3=>h1 m oz h3⟩,fun ⟨h1,h2⟩ m h3 h4=>by
    by_cases e:j=m
    · subst e;exact h1
    · exact h2 m oz h4⟩
theorem inner_ok (W H:Int) (l:List Sq) (i:Nat):I9 W H l i↔Ins W H (Ah l i)∧J0 l i 0:=by
  unfold I9 J0
  constructor
  · rintro ⟨h1,h2,h3⟩
    refine ⟨h1,fun m _ hm=>⟨h3 m hm,fun e=>?_⟩⟩
    have:=h2 oz
    rw [show i-1=m by omega] at this
    exact this
  · rintro ⟨h1,h2⟩
    exact ⟨h1,fun hi=>(h2 (i-1) (Nat.zero_le _) oz).2 oz,fun j hj=>(h2 j (Nat.zero_le _) hj).1⟩

theorem Xa {W H : Int} {l : List Sq} (hW : 1 ≤ W ∧ W ≤ 500) (hH : 1 ≤ H ∧ H ≤ 500) (hl : l.length ≤ 30) (i : Nat) (hi : i < l.length) (hall : ∀ m, m ≤ i → Ins W H (Ah l m)) (A : Int) (r : Bool)
    (hgood:J0 l i 0→Ev (fun k=>Aw.l0 k A l (l.length:Int) ((i:Int)+1) W H l) r) (hbad:¬ J0 l i 0→r=false) :
    ∀ (d j:Nat),i-j=d→j≤i→(J0 l i j↔J0 l i 0) →
      Ev (fun k=>Aw.l1 k A (i:Int) l (l.length:Int) (i:Int) (l.take i) (i:Int) (j:Int) W H l (Ah l i).f0 (Ah l i).f1 (Ah l i).f2) r:=by
  intro d
  induction d with
  | zero =>
    intro j hd hj hiff
    obtain rfl:j=i:=by omega
    refine Ev.succ ?_
    simp only [Aw.l1]
    refine Ev.neg oz ?_
    rw [Af oz oz]
    exact hgood (hiff.1 fun m h1 h2=>by omega)
  | succ d ih =>
    intro j hd hj hiff
    have hlt:j<i:=by omega
    have tk:(l.take i).length=i:=by rw [List.length_take];omega
    have et:Ah (l.take i) j=Ah l j:=by
      rw [Cm _ _ oz,Cm _ _ oz,List.getElem_take]
    rw [V9 l i j hlt] at hiff
    refine Ev.succ ?_
    simp only [Aw.l1,Gm,et,tk]
    refine Ev.pos oz (Ev.pos oz (Ev.pos oz ?_))
    have a:=hall i (Nat.le_refl _)
    have b:=hall j oz
    have j4:∀ b:Bool,b=decide (Ovl (Ah l i) (Ah l j))→Ev (fun k=>Aw.j4 k A (i:Int) (j:Int) l (l.length:Int) (i:Int) (l.take i) (i:Int) (j:Int) b W H l (Ah l i).f0 (Ah l i).f1 (Ah l i).f2 (Ah l j).f0 (Ah l j).f1 (Ah l j).f2) r:=by
      rintro b rfl
      refine Ev.succ ?_
      simp only [Aw.j4]
      by_cases ho:Ovl (Ah l i) (Ah l j)
      · exact Ev.pos (decide_eq_true ho) (Ev.eqr (Ev.now _) (hbad fun h=>(hiff.2 h).1.1 ho).symm)
      · refine Ev.neg (by simpa using ho) ?_
        have e1:wrap64 ((i:Int)-1)=(i:Int)-1:=Af oz oz
        have e2:wrap64 ((j:Int)+1)=((j+1:Nat):Int):=by rw [Af oz oz];omega
        rw [e1,e2]
        by_cases a0:j+1=i
        · refine Ev.pos oz (Ev.bindc (Ru _ _) ?_)
          by_cases hls:D2 (Ah l j) (Ah l i)
          · exact Ev.pos (decide_eq_true hls) (ih (j+1) oz oz ⟨fun h=>hiff.1 ⟨⟨ho,fun _=>hls⟩,h⟩,fun h=>(hiff.2 h).2⟩)
          · exact Ev.neg (by simpa using hls) (Ev.eqr (Ev.now _) (hbad fun h=>hls ((hiff.2 h).1.2 a0)).symm)
        · exact Ev.neg oz (ih (j+1) oz oz ⟨fun h=>hiff.1 ⟨⟨ho,fun e=>absurd e a0⟩,h⟩,fun h=>(hiff.2 h).2⟩)
    unfold Ins at a b
    rw [Af (n:=(Ah l j).f0+(Ah l j).f2) oz oz,Af (n:=(Ah l i).f0+(Ah l i).f2) oz oz,Af (n:=(Ah l j).f1+(Ah l j).f2) oz oz,Af (n:=(Ah l i).f1+(Ah l i).f2) oz oz]
    by_cases c1:(Ah l i).f0<(Ah l j).f0+(Ah l j).f2
    · refine Ev.pos c1 ?_
      by_cases c2:(Ah l j).f0<(Ah l i).f0+(Ah l i).f2
      · refine Ev.pos c2 ?_
        by_cases c3:(Ah l i).f1<(Ah l j).f1+(Ah l j).f2
        · refine Ev.pos c3 (j4 _ ?_)
          unfold Ovl
          simp [c1,c2,c3]
        · exact Ev.neg c3 (j4 _ (decide_eq_false fun h=>c3 h.2.2.1).symm)
      · exact Ev.neg c2 (j4 _ (decide_eq_false fun h=>c2 h.2.1).symm)
    · exact Ev.neg c1 (j4 _ (decide_eq_false fun h=>c1 h.1).symm)

theorem spec_loop {W H : Int} {l : List Sq} (hW : 1 ≤ W ∧ W ≤ 500) (hH : 1 ≤ H ∧ H ≤ 500) (hl : l.length ≤ 30) : ∀ (d i : Nat), l.length - i = d → i ≤ l.length → (∀ m, m < i → I9 W H l m) →
    ∀ r:Bool,(r=true↔(∀ m,i≤m→m<l.length→I9 W H l m)∧Ee l l.length=W*H)→Ev (fun k=>Aw.l0 k (Ee l i) l (l.length:Int) (i:Int) W H l) r:=by
  intro d
  induction d with
  | zero =>
    intro i hd hi hok r hr
    obtain rfl:i=l.length:=by omega
    have bd:=Kl W H l hW.2 hH.2 l.length hl (fun m hm=>(hok m hm).1)
    have w1:W*H≤500*500:=Int.mul_le_mul oz oz oz oz
    have w0:0≤W*H:=Int.mul_nonneg oz oz
    refine Ev.succ ?_
    simp only [Aw.l0]
    refine Ev.neg oz ?_
    rw [Af oz oz]
    refine Ev.eqr (Ev.now _) ?_
    rw [Bool.eq_iff_iff,hr,beq_iff_eq]
    exact ⟨fun h=>⟨fun m h1 h2=>by omega,h⟩,fun h=>h.2⟩
  | succ d ih =>
    intro i hd hi hok r hr
    have hlt:i<l.length:=by omega
    rw [Qk] at hr
    refine Ev.succ ?_
    simp only [Aw.l0,Gm]
    refine Ev.pos oz (Ev.pos oz (Ev.pos oz ?_))
    have fall:∀ r:Bool,r=false→Ev (fun k=>Aw.j2 k (Ee l i) (i:Int) l (l.length:Int) (i:Int) true W H l (Ah l i).f0 (Ah l i).f1 (Ah l i).f2) r:=by
      rintro _ rfl
      refine Ev.succ ?_
      simp only [Aw.j2]
      exact Ev.pos trivial (Ev.now _)
    have rf:¬ I9 W H l i→r=false:=fun h=>by
      cases hq:r with
      | false=>rfl
      | true=>exact absurd ((hr.1 hq).1.1 hlt) h
    refine Ev.bindc (G1 _ _ _) ?_
    by_cases c1:1≤(Ah l i).f2∧(Ah l i).f2≤500
    · rw [decide_eq_true c1]
      refine Ev.pos rfl (Ev.bindc (G1 _ _ _) ?_)
      rw [Af oz oz]
      by_cases c2:0≤(Ah l i).f0∧(Ah l i).f0≤W-(Ah l i).f2
      · rw [decide_eq_true c2]
        refine Ev.pos rfl (Ev.bindc (G1 _ _ _) ?_)
        rw [Af oz oz]
        by_cases c3:0≤(Ah l i).f1∧(Ah l i).f1≤H-(Ah l i).f2
        · rw [decide_eq_true c3]
          have hins:Ins W H (Ah l i):=by unfold Ins;omega
          have hall:∀ m,m≤i→Ins W H (Ah l m):=fun m hm=>by
            by_cases e:m=i
            · rw [e];exact hins
            · exact (hok m oz).1
          have bd:=Kl W H l hW.2 hH.2 i oz (fun m hm=>hall m oz)
          have qb:=sq_bd hW.2 hH.2 hins
          refine Ev.succ ?_
          simp only [Aw.j2,Bool.not_true]
          refine Ev.neg zd (Ev.pos oz (Ev.pos oz (Ev.bindc rfl ?_)))
          have tk:(l.take ((i:Int)).toNat).length=i:=by rw [List.length_take];omega
          have tn:((i:Int)).toNat=i:=Int.toNat_natCast i
          rw [tk,tn,Af (n:=(Ah l i).f2*(Ah l i).f2) oz oz,Af (n:=Ee l i+(Ah l i).f2*(Ah l i).f2) oz oz]
          have iok:=inner_ok W H l i
          refine Xa hW hH hl i hlt hall _ r (fun hin=>?_) (fun hin=>rf fun h=>hin (iok.1 h).2) i 0 oz (Nat.zero_le _) Iff.rfl
          have hk:I9 W H l i:=iok.2 ⟨hins,hin⟩
          have := ih (i + 1) oz oz (fun m hm => by
              by_cases e:m=i
              · rw [e];exact hk
              · exact hok m oz) r (by rw [hr];exact ⟨fun h=>⟨h.1.2,h.2⟩,fun h=>⟨⟨fun _=>hk,h.1⟩,h.2⟩⟩)
          exact this
        · rw [decide_eq_false c3]
          exact fall _ (rf fun h=>c3 (by have:=h.1;unfold Ins at this;omega))
      · rw [decide_eq_false c2]
        exact Ev.neg zd (fall _ (rf fun h=>c2 (by have:=h.1;unfold Ins at this;omega)))
    · rw [decide_eq_false c1]
      refine Ev.neg zd (fall _ (rf fun h=>c1 ?_))
      have:=h.1
      unfold Ins at this
      omega

theorem Ig (W H:Int) (l:List Sq):Ev (fun k=>Aw.f k W H l) (decide (Cv W H l)):=by
  unfold Aw.f
  have fall:∀ r:Bool,r=false→Ev (fun k=>Aw.j0 k true W H l) r:=by
    rintro _ rfl
    refine Ev.succ ?_
    simp only [Aw.j0]
    exact Ev.pos trivial (Ev.now _)
  refine Ev.bindc (G1 _ _ _) ?_
  by_cases c1:1≤W∧W≤500
  · rw [decide_eq_true c1]
    refine Ev.pos rfl (Ev.bindc (G1 _ _ _) ?_)
    by_cases c2:1≤H∧H≤500
    · rw [decide_eq_true c2]
      refine Ev.pos rfl (Ev.bindc (G1 _ _ _) ?_)
      by_cases c3:1≤(l.length:Int)∧(l.length:Int)≤30
      · rw [decide_eq_true c3]
        refine Ev.succ ?_
        simp only [Aw.j0,Bool.not_true]
        refine Ev.neg zd ?_
        refine spec_loop (l:=l) c1 c2 oz l.length 0 oz (Nat.zero_le _) (fun m hm=>by omega) (decide (Cv W H l)) ?_
        rw [decide_eq_true_eq]
        exact ⟨fun h=>⟨fun m _ h2=>h.2.2.2.1 m h2,h.2.2.2.2⟩,fun h=>⟨c1,c2,by omega,fun m hm=>h.1 m (Nat.zero_le _) hm,h.2⟩⟩
      · rw [decide_eq_false c3]
        exact fall _ (decide_eq_false fun h=>c3 (by have:=h.2.2.1;omega))
    · rw [decide_eq_false c2]
      exact Ev.neg zd (fall _ (decide_eq_false fun h=>c2 h.2.1))
  · rw [decide_eq_false c1]
    exact Ev.neg zd (fall _ (decide_eq_false fun h=>c1 h.1))

/-! ### the squares of a cut cover its rectangle: by counting cells -/
def D0:Nat→(Nat→Int)→Int
  | 0,_=>0
  | n+1,f=>D0 n f+f n
theorem Uf (n:Nat) (f g:Nat→Int):D0 n (fun i=>f i+g i)=D0 n f+D0 n g:=by
  induction n with
  | zero=>rfl
  | succ n ih=>simp only [D0,ih];omega
theorem Q3 (n:Nat):D0 n (fun _=>0)=0:=by
  induction n with
  | zero=>rfl
  | succ n ih=>simp only [D0,ih];rfl
theorem Ke (n:Nat) (f g:Nat→Int) (h:∀ i,i<n→f i=g i):D0 n f=D0 n g:=by
  induction n with
  | zero=>rfl
  | succ n ih=>simp only [D0];rw [ih (fun i hi=>h i oz),h n oz]
theorem Ug (n:Nat) (f:Nat→Int) (c:Int):D0 n (fun i=>f i*c)=D0 n f*c:=by
  induction n with
  | zero=>simp [D0]
  | succ n ih=>simp only [D0,ih,Int.add_mul]
theorem U3 (n:Nat) (f g:Nat→Int) (h:∀ i,i<n→f i≤g i):D0 n f≤D0 n g:=by
  induction n with
  | zero=>exact Int.le_refl _
  | succ n ih=>simp only [D0];have:=ih (fun i hi=>h i oz);have:=h n oz;omega
theorem U4 (n:Nat) (f g:Nat→Int) (h:∀ i,i<n→f i≤g i) (j:Nat) (hj:j<n) (hlt:f j<g j):D0 n f<D0 n g:=by
  induction n with
  | zero=>omega
  | succ n ih =>
    simp only [D0]
    by_cases e:j=n
    · subst e
      have:=U3 j f g (fun i hi=>h i oz);omega
    · have:=ih (fun i hi=>h i oz) oz;have:=h n oz;omega
theorem Ml (n:Nat) (c:Int):D0 n (fun _=>c)=n*c:=by
  induction n with
  | zero=>simp [D0]
  | succ n ih =>
    simp only [D0,ih]
    rw [show ((n+1:Nat):Int)=(n:Int)+1 by omega,Int.add_mul];omega
/-- 1 in a .. a+s-1, else 0 -/
def ind (a s:Int) (i:Nat):Int:=if a≤(i:Int)∧(i:Int)<a+s then 1 else 0
theorem sum_ind (a s:Int) (ha:0≤a) (hs:0≤s):∀ n:Nat,D0 n (ind a s)=if (n:Int)≤a then 0 else if (n:Int)≤a+s then n-a else s
  | 0=>by simp [D0];intro h;omega
  | n+1=>by
    simp only [D0,sum_ind a s ha hs n]
    unfold ind
    split <;> split <;> split <;> (try split) <;> omega
theorem Ql (a s:Int) (n:Nat) (ha:0≤a) (hs:0≤s) (h:a+s≤n):D0 n (ind a s)=s:=by
  rw [sum_ind a s ha hs n]
  split
  · omega
  · split <;> omega
/-- does cell x, y lie in the square -/
def Gt (s:Sq) (x y:Int):Prop:=s.f0≤x∧x<s.f0+s.f2∧s.f1≤y∧y<s.f1+s.f2
instance (s:Sq) (x y:Int):Decidable (Gt s x y):=by unfold Gt;infer_instance
def cell (s:Sq) (x y:Nat):Int:=if Gt s x y then 1 else 0
theorem cell_eq (s:Sq) (x y:Nat):cell s x y=ind s.f0 s.f2 x*ind s.f1 s.f2 y:=by
  unfold cell ind
  by_cases h1:s.f0≤(x:Int)∧(x:Int)<s.f0+s.f2
  · by_cases h2:s.f1≤(y:Int)∧(y:Int)<s.f1+s.f2
    · have h:Gt s x y:=⟨h1.1,h1.2,h2.1,h2.2⟩
      rw [if_pos h1,if_pos h2,if_pos h];rfl
    · have h:¬ Gt s x y:=fun h=>h2 ⟨h.2.2.1,h.2.2.2⟩
      rw [if_pos h1,if_neg h2,if_neg h];rfl
  · have h:¬ Gt s x y:=fun h=>h1 ⟨h.1,h.2.1⟩
    rw [if_neg h1,if_neg h];simp
theorem sum_cell {W H:Int} {s:Sq} (h:Ins W H s) (w h':Nat) (hw:(w:Int)=W) (hh:(h':Int)=H):D0 w (fun x=>D0 h' (fun y=>cell s x y))=s.f2*s.f2:=by
  unfold Ins at h
  have e:∀ x,D0 h' (fun y=>cell s x y)=s.f2*ind s.f0 s.f2 x:=by
    intro x
    rw [Ke h' _ (fun y=>ind s.f1 s.f2 y*ind s.f0 s.f2 x) (fun y _=>by rw [cell_eq,Int.mul_comm]),Ug,Ql _ _ _ oz oz oz]
  rw [Ke w _ (fun x=>ind s.f0 s.f2 x*s.f2) (fun x _=>by rw [e,Int.mul_comm]),Ug,Ql _ _ _ oz oz oz]
/-- how Ja of the first n squares a cell lies in -/
def Ja (l:List Sq):Nat→Nat→Nat→Int
  | 0,_,_=>0
  | n+1,x,y=>Ja l n x y+cell (Ah l n) x y
theorem U5 {W H:Int} (l:List Sq) (w h:Nat) (hw:(w:Int)=W) (hh:(h:Int)=H):∀ n,(∀ m,m<n→Ins W H (Ah l m))→D0 w (fun x=>D0 h (fun y=>Ja l n x y))=Ee l n
  | 0,_=>by
    simp only [Ja,Ee]
    rw [Ke w _ (fun _=>0) (fun x _=>Q3 h),Q3]
  | n+1,hi=>by
    simp only [Ja,Ee]
    rw [Ke w _ (fun x=>D0 h (fun y=>Ja l n x y)+D0 h (fun y=>cell (Ah l n) x y)) (fun x _=>Uf h _ _),Uf,U5 l w h hw hh n (fun m hm=>hi m oz),sum_cell (hi n oz) w h hw hh]
theorem Nu (l:List Sq) (x y:Nat):∀ n,(∀ m,m<n→¬ Gt (Ah l m) x y)→Ja l n x y=0
  | 0,_=>rfl
  | n+1,h=>by
    simp only [Ja,Nu l x y n (fun m hm=>h m oz)]
    unfold cell
    rw [if_neg (h n oz)];rfl
theorem in_ovl {a b:Sq} {x y:Int} (ha:Gt a x y) (hb:Gt b x y):Ovl a b:=by
  unfold Gt at ha hb
  unfold Ovl
  omega
theorem Qu {W H:Int} (l:List Sq) (x y:Nat):∀ n,(∀ m,m<n→I9 W H l m)→Ja l n x y≤1
  | 0,_=>by simp [Ja]
  | n+1,h=>by
    simp only [Ja]
    unfold cell
    by_cases hn:Gt (Ah l n) x y
    · rw [if_pos hn,Nu l x y n (fun m hm hc=>(h n oz).2.2 m hm (in_ovl hn hc))];omega
    · rw [if_neg hn];have:=Qu l x y n (fun m hm=>h m oz);omega
theorem Qe {W H:Int} {l:List Sq} (hg:Cv W H l) (x y:Int) (hx:0≤x∧x<W) (hy:0≤y∧y<H):∃ j,j<l.length∧Gt (Ah l j) x y:=by
  apply Decidable.byContradiction
  intro hno
  obtain ⟨w,rfl⟩:∃ w:Nat,(w:Int)=W:=⟨W.toNat,by have:=hg.1;omega⟩
  obtain ⟨h,rfl⟩:∃ h:Nat,(h:Int)=H:=⟨H.toNat,by have:=hg.2.1;omega⟩
  obtain ⟨a,rfl⟩:∃ a:Nat,(a:Int)=x:=⟨x.toNat,by omega⟩
  obtain ⟨b,rfl⟩:∃ b:Nat,(b:Int)=y:=⟨y.toNat,by omega⟩
  have ok:=hg.2.2.2.1
  have s1:=U5 l w h rfl rfl l.length (fun m hm=>(ok m hm).1)
  have z:=Nu l a b l.length (fun m hm hc=>hno ⟨m,hm,hc⟩)
  have row:∀ x:Nat,D0 h (fun y=>Ja l l.length x y)≤h:=fun x=>by
    have:=U3 h (fun y=>Ja l l.length x y) (fun _=>1) (fun y _=>Qu l x y l.length ok)
    rw [Ml] at this;omega
  have rowa:D0 h (fun y=>Ja l l.length a y)<h:=by
    have:=U4 h (fun y=>Ja l l.length a y) (fun _=>1) (fun y _=>Qu l a y l.length ok) b oz (by show Ja l l.length a b<1;omega)
    rw [Ml] at this;omega
  have:=U4 w (fun x=>D0 h (fun y=>Ja l l.length x y)) (fun _=>(h:Int)) (fun x _=>row x) a oz rowa
  rw [s1,Ml,hg.2.2.2.2] at this
  omega

/-! ### squares in order: what the two sorts answer -/
def LeP (a b:Sq):Prop:=¬ D2 b a
theorem LeP.trans {a b c:Sq} (h:LeP a b) (k:LeP b c):LeP a c:=by unfold LeP D2 at *;omega
theorem LeP.of_less {a b:Sq} (h:D2 a b):LeP a b:=by unfold LeP D2 at *;omega
def Dist (l:List Sq):Prop:=∀ a ∈ l,∀ b ∈ l,a.f0=b.f0→a.f1=b.f1→a=b
theorem G7 {l r r':List Sq} (hd:Dist l) (hp:r.Perm l) (hp':r'.Perm l) (hs:r.Pairwise LeP) (hs':r'.Pairwise LeP):r=r' :=
  List.Perm.eq_of_pairwise (fun a b ha hb h1 h2=>hd a (hp.mem_iff.1 ha) b (hp'.mem_iff.1 hb) (by unfold LeP D2 at *;omega) (by unfold LeP D2 at *;omega)) hs hs' (hp.trans hp'.symm)
theorem Jo {o:List Sq} {k:Nat} (hk:k≤o.length) {a:Sq} (h:a ∈ o.take k):∃ j,j<k∧a=Ah o j:=by
  obtain ⟨j,hj,rfl⟩:=List.mem_iff_getElem.1 h
  rw [List.length_take] at hj
  exact ⟨j,by omega,by rw [List.getElem_take,Cm o j oz]⟩
theorem Ix {o:List Sq} {k:Nat} {a:Sq} (h:a ∈ o.drop k):∃ j,k≤j∧j<o.length∧a=Ah o j:=by
  obtain ⟨j,hj,rfl⟩:=List.mem_iff_getElem.1 h
  rw [List.length_drop] at hj
  exact ⟨k+j,by omega,by omega,by rw [List.getElem_drop,Cm o (k+j) oz]⟩
theorem G8 {o:List Sq} (ho:o.Pairwise LeP) {i j:Nat} (hij:i≤j) (hj:j<o.length):LeP (Ah o i) (Ah o j):=by
  rcases Nat.lt_or_eq_of_le hij with h|h
  · rw [Cm o i oz,Cm o j hj]
    exact List.pairwise_iff_getElem.1 ho i j oz hj h
  · subst h;unfold LeP D2;omega
theorem Q4 {o : List Sq} {s : Sq} {k : Nat} (hk : k ≤ o.length) (ho : o.Pairwise LeP) (h1 : ∀ j, k ≤ j → j < o.length → D2 s (Ah o j)) (h2 : k = 0 ∨ ¬ D2 s (Ah o (k - 1))) :
    (o.take k++[s]++o.drop k).Pairwise LeP:=by
  have hts:∀ a ∈ o.take k,LeP a s:=by
    intro a ha
    obtain ⟨j,hj,rfl⟩:=Jo hk ha
    rcases h2 with h2|h2
    · omega
    · exact LeP.trans (G8 ho (show j≤k-1 by omega) oz) h2
  refine List.pairwise_append.2 ⟨List.pairwise_append.2 ⟨ho.sublist (List.take_sublist _ _),List.pairwise_singleton _ _,fun a ha b hb=>?_⟩,ho.sublist (List.drop_sublist _ _),fun a ha b hb=>?_⟩
  · rw [List.mem_singleton.1 hb];exact hts a ha
  · obtain ⟨j,hj,a0,rfl⟩:=Ix hb
    have hsb:=LeP.of_less (h1 j hj a0)
    rcases List.mem_append.1 ha with ha|ha
    · exact (hts a ha).trans hsb
    · rw [List.mem_singleton.1 ha];exact hsb
theorem U6 (o:List Sq) (s:Sq) (k:Nat):(o.take k++[s]++o.drop k).Perm (s::o):=by
  rw [List.append_assoc]
  have h:=List.perm_middle (l₁:=o.take k) (a:=s) (l₂:=o.drop k)
  rw [List.take_append_drop] at h
  exact h
theorem I2 (l:List Sq) (i:Nat) (w:Sq) (t:List Sq) (h:l.drop i=w::t):i<l.length∧Ah l i=w∧l.drop (i+1)=t:=by
  have h1:i<l.length:=by
    apply Decidable.byContradiction
    intro hn
    rw [List.drop_eq_nil_of_le oz] at h;cases h
  rw [List.drop_eq_getElem_cons h1] at h
  injection h with ha hb
  exact ⟨h1,by rw [Cm l i h1];exact ha,hb⟩
theorem ins_loop (l : List Sq) (n i : Int) (s : Sq) (o : List Sq) (hol : o.length ≤ 1000) (ho : o.Pairwise LeP) : ∀ c : Nat, c ≤ o.length → (∀ j, c ≤ j → j < o.length → D2 s (Ah o j)) →
    ∃ o',o'.Pairwise LeP∧o'.Perm (s::o)∧∀ r,Ev (fun k=>Ak.l0 k o' l n (wrap64 (i+1))) r→Ev (fun k=>Ak.l1 k o (c:Int) l n i s.f0 s.f1 s.f2) r:=by
  intro c
  induction c with
  | zero =>
    intro hc h
    refine ⟨_,Q4 hc ho h (.inl rfl),U6 o s 0,fun r hr=>Ev.succ ?_⟩
    simp only [Ak.l1]
    refine Ev.neg oz (Ev.bindc rfl (Ev.pos oz (Ev.pos oz (Ev.bindc rfl (Ev.pos (by simp only [List.length_nil,List.length_take];omega) (Ev.bindc rfl (Ev.bindc rfl (Ev.pos (by simp only [List.length_nil,List.length_append,List.length_take,List.length_cons];omega) (Ev.bindc rfl (Ev.bindc rfl (Ev.pos (by simp only [List.length_nil,List.length_append,List.length_take,List.length_cons,List.length_drop];omega) ?_)))))))))))
    exact hr
  | succ c ih =>
    intro hc h
    have hw:wrap64 (((c+1:Nat):Int)-1)=(c:Int):=by rw [Af (n:=((c+1:Nat):Int)-1) oz oz];omega
    by_cases hl:D2 s (Ah o c)
    · obtain ⟨o', a, b, d⟩ := ih oz (fun j hj a0 => by
        rcases Nat.lt_or_eq_of_le hj with h3|h3
        · exact h j h3 a0
        · rw [← h3];exact hl)
      refine ⟨o',a,b,fun r hr=>Ev.succ ?_⟩
      simp only [Ak.l1]
      rw [hw]
      refine Ev.pos oz (Ev.pos oz (Ev.pos oz ?_))
      rw [Gm]
      exact Ev.bindc (Ru s (Ah o c)) (Ev.pos (by simpa using hl) (d r hr))
    · refine ⟨_,Q4 hc ho h (.inr (by rw [Nat.add_sub_cancel];exact hl)),U6 o s (c+1),fun r hr=>Ev.succ ?_⟩
      simp only [Ak.l1]
      rw [hw]
      refine Ev.pos oz (Ev.pos oz (Ev.pos oz ?_))
      rw [Gm]
      refine Ev.bindc (Ru s (Ah o c)) (Ev.neg (by simpa using hl) ?_)
      refine Ev.bindc rfl (Ev.pos oz (Ev.pos oz (Ev.bindc rfl (Ev.pos (by simp only [List.length_nil,List.length_take];omega) (Ev.bindc rfl (Ev.bindc rfl (Ev.pos (by simp only [List.length_nil,List.length_append,List.length_take,List.length_cons];omega) (Ev.bindc rfl (Ev.bindc rfl (Ev.pos (by simp only [List.length_nil,List.length_append,List.length_take,List.length_cons,List.length_drop];omega) ?_))))))))))
      exact hr
theorem Vw (l : List Sq) (hl : l.length ≤ 1000) : ∀ (t : List Sq) (i : Nat) (o : List Sq), l.drop i = t → i + t.length = l.length → o.Pairwise LeP → o.Perm (l.take i) →
    ∃ R,R.Pairwise LeP∧R.Perm l∧Ev (fun k=>Ak.l0 k o l (l.length:Int) (i:Int)) R:=by
  intro t
  induction t with
  | nil =>
    intro i o hd hi ho hp
    simp only [List.length_nil] at hi
    refine ⟨o,ho,by rw [List.take_of_length_le oz] at hp;exact hp,Ev.succ ?_⟩
    simp only [Ak.l0]
    exact Ev.neg oz (Ev.now _)
  | cons s t ih =>
    intro i o hd hi ho hp
    obtain ⟨h1,h2,h3⟩:=I2 l i s t hd
    have hol:o.length≤1000:=by rw [hp.length_eq,List.length_take];omega
    obtain ⟨o',a,b,d⟩:=ins_loop l (l.length:Int) (i:Int) s o hol ho o.length (Nat.le_refl _) (fun j hj a0=>by omega)
    simp only [List.length_cons] at hi
    have htk:l.take (i+1)=l.take i++[s]:=by
      rw [List.take_add_one,List.getElem?_eq_getElem h1,← h2,Cm l i h1];rfl
    obtain ⟨R,e,f,g⟩:=ih (i+1) o' h3 oz a (by
      rw [htk]
      exact (b.trans ((hp.cons s))).trans (List.perm_append_singleton s (l.take i)).symm)
    refine ⟨R,e,f,Ev.succ ?_⟩
    simp only [Ak.l0]
    refine Ev.pos oz (Ev.pos oz (Ev.pos oz ?_))
    rw [Gm,h2]
    refine d R ?_
    rw [Af (n:=(i:Int)+1) oz oz]
    exact g
theorem Mm (l:List Sq) (hl:l.length≤1000):∃ R,R.Pairwise LeP∧R.Perm l∧Ev (fun k=>Ak.f k l) R:=Vw l hl l 0 [] rfl oz List.Pairwise.nil (List.Perm.refl _)

/-! ### what SortFunc answers -/
theorem M7 (l:List Sq) (hb:∀ s ∈ l,Jw s) (hl:l.length≤1000000):∃ r,Am.f l=some r∧r.Perm l∧r.Pairwise LeP:=by
  unfold Am.f
  rw [dif_pos ⟨hb,hl⟩]
  have hs:(Ic l hb).size=l.length:=by simp [Ic]
  have hps:=Sort.pdq_sorts (ltOf Jk) swoSq (Ic l hb) 0 l.length (Lib.bitLen l.length) true true (Nat.zero_le _) oz (Or.inl rfl)
  generalize Sort.pdq (ltOf Jk) (Ic l hb) 0 l.length (Lib.bitLen l.length) true true=dd at hps ⊢
  have hsz:dd.size=l.length:=by rw [hps.1.1,hs]
  refine ⟨_,rfl,?_,?_⟩
  · have hp:=hps.1.2.2
    rw [Array.toList_extract,Array.toList_extract] at hp
    simp only [List.extract_eq_take_drop,List.drop_zero,Nat.sub_zero] at hp
    rw [List.take_of_length_le (by rw [Array.length_toList,hsz];exact Nat.le_refl _),List.take_of_length_le (by rw [Array.length_toList,hs];exact Nat.le_refl _)] at hp
    have hm:=hp.map (fun s:BSq=>s.1)
    have e:(Ic l hb).toList.map (fun s:BSq=>s.1)=l:=by simp [Ic]
    rw [e] at hm
    exact hm
  · rw [List.pairwise_map,List.pairwise_iff_getElem]
    intro i j hi hj hij
    rw [Array.length_toList] at hi hj
    have h:=hps.2 i j (Nat.zero_le _) hij oz
    rw [ltSq,decide_eq_false_iff_not,getElem!_pos dd i hi,getElem!_pos dd j hj] at h
    simpa [LeP,D2,Jy] using h

/-! ### a cut's squares -/
theorem Dm {W H:Int} {l:List Sq} (hg:Cv W H l) {s:Sq} (hs:s ∈ l):Ins W H s:=by
  obtain ⟨j,hj,rfl⟩:=List.mem_iff_getElem.1 hs
  rw [← Cm l j hj]
  exact (hg.2.2.2.1 j hj).1
theorem K5 {a b:Sq} (h:Ovl a b):Ovl b a:=⟨h.2.1,h.1,h.2.2.2,h.2.2.1⟩
theorem K6 {W H:Int} {l:List Sq} (hg:Cv W H l) {a b:Sq} (ha:a ∈ l) (hb:b ∈ l) (h:Ovl a b):a=b:=by
  obtain ⟨i,hi,rfl⟩:=List.mem_iff_getElem.1 ha
  obtain ⟨j,hj,rfl⟩:=List.mem_iff_getElem.1 hb
  rw [← Cm l i hi,← Cm l j hj] at h ⊢
  rcases Nat.lt_trichotomy i j with hlt|rfl|hlt
  · exact absurd (K5 h) ((hg.2.2.2.1 j hj).2.2 i hlt)
  · rfl
  · exact absurd h ((hg.2.2.2.1 i hi).2.2 j hlt)
theorem Il (l:List Sq) (f:Sq→Sq) (i:Nat) (s:Sq) (t:List Sq) (h:l.drop i=s::t):(l.take i).map f++[f s]=(l.take (i+1)).map f:=by
  obtain ⟨h1,h2,_⟩:=I2 l i s t h
  have e:l.take (i+1)=l.take i++[s]:=by
    rw [List.take_add_one,List.getElem?_eq_getElem h1,← h2,Cm l i h1];rfl
  rw [e,List.map_append];rfl

/-! ### cuts whose squares are changed and put in order -/
def G9:List Sq→Int
  | []=>0
  | s::t=>s.f2*s.f2+G9 t
theorem K7:∀ a b:List Sq,G9 (a++b)=G9 a+G9 b
  | [],b=>by simp [G9]
  | s::a,b=>by simp only [List.cons_append,G9,K7 a b];omega
theorem Xb {a b:List Sq} (h:a.Perm b):G9 a=G9 b:=by
  induction h with
  | nil=>rfl
  | cons x _ ih=>simp only [G9,ih]
  | swap x y l=>simp only [G9];omega
  | trans _ _ a0 a1=>exact a0.trans a1
theorem Qm (l:List Sq):∀ n,n≤l.length→Ee l n=G9 (l.take n)
  | 0,_=>by simp [Ee,G9]
  | n+1,h=>by
    rw [Ee,Qm l n oz,List.take_succ_eq_append_getElem oz,K7,Cm l n oz]
    simp only [G9];omega
theorem M8 (l:List Sq):Ee l l.length=G9 l:=by rw [Qm l l.length (Nat.le_refl _),List.take_length]
theorem Uh (f:Sq→Sq):∀ l:List Sq,(∀ s ∈ l,(f s).f2=s.f2)→G9 (l.map f)=G9 l
  | [],_=>rfl
  | s::t,h=>by simp only [List.map_cons,G9,h s List.mem_cons_self,Uh f t (fun r hr=>h r (List.mem_cons_of_mem _ hr))]
theorem Xc {W H:Int} {l:List Sq} (hg:Cv W H l):l.Pairwise (fun a b=>¬ Ovl a b):=by
  rw [List.pairwise_iff_getElem]
  intro i j hi hj hij ho
  have:=(hg.2.2.2.1 j hj).2.2 i hij
  rw [Cm l i hi,Cm l j hj] at this
  exact this (K5 ho)
theorem good_of {W H:Int} {r:List Sq} (hW:1≤W∧W≤500) (hH:1≤H∧H≤500) (hl:1≤r.length∧r.length≤30) (hin:∀ s ∈ r,Ins W H s) (hs:r.Pairwise LeP) (hno:r.Pairwise (fun a b=>¬ Ovl a b)) (ha:G9 r=W*H):Cv W H r:=by
  rw [List.pairwise_iff_getElem] at hs hno
  refine ⟨hW,hH,hl,fun i hi=>⟨hin _ (Iw r i hi),fun h0=>?_,fun j hj ho=>?_⟩,by rw [M8,ha]⟩
  · have h1:=hs (i-1) i oz hi oz
    have h2:=hno (i-1) i oz hi oz
    have i1:=hin _ (Iw r (i-1) oz)
    have i2:=hin _ (Iw r i hi)
    rw [Cm r (i-1) oz] at i1 ⊢
    rw [Cm r i hi] at i2 ⊢
    unfold LeP at h1
    unfold D2 Ovl Ins at *
    omega
  · have:=hno j i oz hi hj
    rw [Cm r i hi,Cm r j oz] at ho
    exact this (K5 ho)
theorem Nv {W H W' H' : Int} {l r : List Sq} (f : Sq → Sq) (hg : Cv W H l) (hW : 1 ≤ W' ∧ W' ≤ 500) (hH : 1 ≤ H' ∧ H' ≤ 500) (hWH : W' * H' = W * H)
    (hin:∀ s,Ins W H s→Ins W' H' (f s)) (a0:∀ s,Ins W H s→(f s).f2=s.f2) (hov:∀ a b,Ins W H a→Ins W H b→Ovl (f a) (f b)→Ovl a b) (hp:r.Perm (l.map f)) (hs:r.Pairwise LeP):Cv W' H' r:=by
  have hl:=hp.length_eq
  rw [List.length_map] at hl
  have a1:=hg.2.2.1
  refine good_of hW hH oz (fun s hs'=>?_) hs ?_ ?_
  · obtain ⟨q,hq,rfl⟩:=List.mem_map.1 (hp.mem_iff.1 hs')
    exact hin q (Dm hg hq)
  · rw [hp.pairwise_iff (fun h k=>h (K5 k)),List.pairwise_map]
    have:=Xc hg
    rw [List.pairwise_iff_getElem] at this ⊢
    intro i j hi hj hij ho
    exact this i j hi hj hij (hov _ _ (Dm hg (List.getElem_mem hi)) (Dm hg (List.getElem_mem hj)) ho)
  · rw [Xb hp,Uh f l (fun s hs'=>a0 s (Dm hg hs')),← M8,hg.2.2.2.2,hWH]

/-! ### cuts that are turned -/
def tur (H:Int) (s:Sq):Sq:=⟨wrap64 ((wrap64 (H-s.f1))-s.f2),s.f0,s.f2⟩
theorem I6 {W H:Int} (hH:H≤500) {s:Sq} (h:Ins W H s):tur H s=⟨H-s.f1-s.f2,s.f0,s.f2⟩:=by
  obtain ⟨h1,_,_,h2,h3⟩:=h
  unfold tur
  rw [Af (n:=H-s.f1) oz oz,Af (n:=H-s.f1-s.f2) oz oz]
theorem tur_bd {W H:Int} (hW:W≤500) (hH:H≤500) {s:Sq} (h:Ins W H s):Jw (tur H s):=by
  rw [I6 hH h]
  obtain ⟨h1,h2,h3,h4,h5⟩:=h
  unfold Jw
  dsimp only
  omega
theorem tur_dist {W H:Int} {l:List Sq} (hg:Cv W H l):Dist (l.map (tur H)):=by
  intro a ha b hb e0 e1
  obtain ⟨p,hp,rfl⟩:=List.mem_map.1 ha
  obtain ⟨q,hq,rfl⟩:=List.mem_map.1 hb
  have ip:=Dm hg hp
  have iq:=Dm hg hq
  have hH:=hg.2.1.2
  rw [I6 hH ip,I6 hH iq] at e0 e1
  dsimp only at e0 e1
  obtain ⟨p1,p2,p3,p4,p5⟩:=ip
  obtain ⟨q1,q2,q3,q4,q5⟩:=iq
  rw [K6 hg hp hq (by unfold Ovl;omega)]
theorem Us (W H : Int) (l : List Sq) (hl : l.length ≤ 1000) (R : List Sq) (hR : Ev (fun k => Ak.f k (l.map (tur H))) R) : ∀ (t : List Sq) (i : Nat), l.drop i = t → i + t.length = l.length →
    Ev (fun k=>Cz.l0 k ((l.take i).map (tur H)) l (l.length:Int) (i:Int) W H l) (H,W,R):=by
  intro t
  induction t with
  | nil =>
    intro i hd hi
    simp only [List.length_nil] at hi
    refine Ev.succ ?_
    simp only [Cz.l0]
    rw [List.take_of_length_le oz]
    exact Ev.neg oz (Ev.bind hR (Ev.now _))
  | cons s t ih =>
    intro i hd hi
    obtain ⟨h1,h2,h3⟩:=I2 l i s t hd
    simp only [List.length_cons] at hi
    refine Ev.succ ?_
    simp only [Cz.l0]
    refine Ev.pos oz (Ev.pos oz (Ev.pos oz (Ev.pos (by rw [List.length_map,List.length_take];omega) ?_)))
    rw [Gm,h2,Af (n:=(i:Int)+1) oz oz]
    have e:=Il l (tur H) i s t hd
    have h:=ih (i+1) h3 oz
    rw [← e] at h
    exact h
theorem Ut (W H : Int) (l : List Sq) (hl : l.length ≤ 1000) (R : List Sq) (hR : Am.f (l.map (tur H)) = some R) : ∀ (t : List Sq) (i : Nat), l.drop i = t → i + t.length = l.length →
    Ev (fun k=>An.l0 k l (l.length:Int) (i:Int) W H l H W ((l.take i).map (tur H))) (H,W,R):=by
  intro t
  induction t with
  | nil =>
    intro i hd hi
    simp only [List.length_nil] at hi
    refine Ev.succ ?_
    simp only [An.l0]
    rw [List.take_of_length_le oz]
    exact Ev.neg oz (Ev.bindc hR (Ev.now _))
  | cons s t ih =>
    intro i hd hi
    obtain ⟨h1,h2,h3⟩:=I2 l i s t hd
    simp only [List.length_cons] at hi
    refine Ev.succ ?_
    simp only [An.l0]
    refine Ev.pos oz (Ev.pos oz (Ev.pos oz ?_))
    rw [Gm,h2,Af (n:=(i:Int)+1) oz oz]
    refine Ev.bindc rfl (Ev.pos (by rw [List.length_map,List.length_take];omega) ?_)
    have e:=Il l (tur H) i s t hd
    have h:=ih (i+1) h3 oz
    rw [← e] at h
    exact h

/-! ### cuts that are mirrored -/
def mir (W:Int) (s:Sq):Sq:=⟨wrap64 ((wrap64 (W-s.f0))-s.f2),s.f1,s.f2⟩
theorem Jp {W H:Int} (hW:W≤500) {s:Sq} (h:Ins W H s):mir W s=⟨W-s.f0-s.f2,s.f1,s.f2⟩:=by
  obtain ⟨h1,h2,h3,_,_⟩:=h
  unfold mir
  rw [Af (n:=W-s.f0) oz oz,Af (n:=W-s.f0-s.f2) oz oz]
theorem mir_bd {W H:Int} (hW:W≤500) (hH:H≤500) {s:Sq} (h:Ins W H s):Jw (mir W s):=by
  rw [Jp hW h]
  obtain ⟨h1,h2,h3,h4,h5⟩:=h
  unfold Jw
  dsimp only
  omega
theorem mir_dist {W H:Int} {l:List Sq} (hg:Cv W H l):Dist (l.map (mir W)):=by
  intro a ha b hb e0 e1
  obtain ⟨p,hp,rfl⟩:=List.mem_map.1 ha
  obtain ⟨q,hq,rfl⟩:=List.mem_map.1 hb
  have ip:=Dm hg hp
  have iq:=Dm hg hq
  have hW:=hg.1.2
  rw [Jp hW ip,Jp hW iq] at e0 e1
  dsimp only at e0 e1
  obtain ⟨p1,p2,p3,p4,p5⟩:=ip
  obtain ⟨q1,q2,q3,q4,q5⟩:=iq
  rw [K6 hg hp hq (by unfold Ovl;omega)]
theorem Uu (W H : Int) (l : List Sq) (hl : l.length ≤ 1000) (R : List Sq) (hR : Ev (fun k => Ak.f k (l.map (mir W))) R) : ∀ (t : List Sq) (i : Nat), l.drop i = t → i + t.length = l.length →
    Ev (fun k=>Cp.l0 k ((l.take i).map (mir W)) l (l.length:Int) (i:Int) W H l) (W,H,R):=by
  intro t
  induction t with
  | nil =>
    intro i hd hi
    simp only [List.length_nil] at hi
    refine Ev.succ ?_
    simp only [Cp.l0]
    rw [List.take_of_length_le oz]
    exact Ev.neg oz (Ev.bind hR (Ev.now _))
  | cons s t ih =>
    intro i hd hi
    obtain ⟨h1,h2,h3⟩:=I2 l i s t hd
    simp only [List.length_cons] at hi
    refine Ev.succ ?_
    simp only [Cp.l0]
    refine Ev.pos oz (Ev.pos oz (Ev.pos oz (Ev.pos (by rw [List.length_map,List.length_take];omega) ?_)))
    rw [Gm,h2,Af (n:=(i:Int)+1) oz oz]
    have e:=Il l (mir W) i s t hd
    have h:=ih (i+1) h3 oz
    rw [← e] at h
    exact h
theorem Uv (W H : Int) (l : List Sq) (hl : l.length ≤ 1000) (R : List Sq) (hR : Am.f (l.map (mir W)) = some R) : ∀ (t : List Sq) (i : Nat), l.drop i = t → i + t.length = l.length →
    Ev (fun k=>Al.l0 k l (l.length:Int) (i:Int) W H l W H ((l.take i).map (mir W))) (W,H,R):=by
  intro t
  induction t with
  | nil =>
    intro i hd hi
    simp only [List.length_nil] at hi
    refine Ev.succ ?_
    simp only [Al.l0]
    rw [List.take_of_length_le oz]
    exact Ev.neg oz (Ev.bindc hR (Ev.now _))
  | cons s t ih =>
    intro i hd hi
    obtain ⟨h1,h2,h3⟩:=I2 l i s t hd
    simp only [List.length_cons] at hi
    refine Ev.succ ?_
    simp only [Al.l0]
    refine Ev.pos oz (Ev.pos oz (Ev.pos oz ?_))
    rw [Gm,h2,Af (n:=(i:Int)+1) oz oz]
    refine Ev.bindc rfl (Ev.pos (by rw [List.length_map,List.length_take];omega) ?_)
    have e:=Il l (mir W) i s t hd
    have h:=ih (i+1) h3 oz
    rw [← e] at h
    exact h

/-! ### cuts whose lengths grow -/
def gro (k:Int) (s:Sq):Sq:=⟨wrap64 (k*s.f0),wrap64 (k*s.f1),wrap64 (k*s.f2)⟩
theorem Km {k x:Int} (hk:1≤k∧k≤500) (h0:0≤x) (h1:x≤500):0≤k*x∧k*x≤250000:=by
  have a:=Int.mul_nonneg (show 0≤k by omega) h0
  have b:=Int.mul_le_mul_of_nonneg_left h1 (show 0≤k by omega)
  have c:=Int.mul_le_mul_of_nonneg_right hk.2 (show (0:Int)≤500 by omega)
  omega
theorem Jq {k W H:Int} (hk:1≤k∧k≤500) (hW:W≤500) (hH:H≤500) {s:Sq} (h:Ins W H s):gro k s=⟨k*s.f0,k*s.f1,k*s.f2⟩:=by
  obtain ⟨h1,h2,h3,h4,h5⟩:=h
  have a:=Km hk h2 oz
  have b:=Km hk h4 oz
  have c:=Km hk (show 0≤s.f2 by omega) oz
  unfold gro
  rw [Af (n:=k*s.f0) oz oz,Af (n:=k*s.f1) oz oz,Af (n:=k*s.f2) oz oz]
theorem lt_mul {k u v:Int} (hk:1≤k):k*u<k*v↔u<v :=
  ⟨fun h=>Int.lt_of_mul_lt_mul_left h oz,fun h=>Int.mul_lt_mul_of_pos_left h oz⟩
theorem Q5 {k u v:Int} (hk:1≤k):k*u≤k*v↔u≤v :=
  ⟨fun h=>Int.le_of_mul_le_mul_left h oz,fun h=>Int.mul_le_mul_of_nonneg_left h oz⟩
theorem U7 {k W H:Int} {l:List Sq} (hk:1≤k∧k≤500) (hg:Cv W H l) {a b:Sq} (ha:a ∈ l) (hb:b ∈ l) (h:D2 a b):D2 (gro k a) (gro k b):=by
  rw [Jq hk hg.1.2 hg.2.1.2 (Dm hg ha),Jq hk hg.1.2 hg.2.1.2 (Dm hg hb)]
  unfold D2 at h ⊢
  dsimp only
  rw [lt_mul hk.1,lt_mul hk.1]
  rcases h with h|⟨h1,h2⟩
  · exact .inl h
  · exact .inr ⟨by rw [h1],h2⟩
theorem gro_ovl {k W H:Int} {l:List Sq} (hk:1≤k∧k≤500) (hg:Cv W H l) {a b:Sq} (ha:a ∈ l) (hb:b ∈ l) (h:Ovl (gro k a) (gro k b)):Ovl a b:=by
  rw [Jq hk hg.1.2 hg.2.1.2 (Dm hg ha),Jq hk hg.1.2 hg.2.1.2 (Dm hg hb)] at h
  unfold Ovl at h ⊢
  dsimp only at h
  simp only [← Int.mul_add,lt_mul hk.1] at h
  exact h
theorem gro_ins {k W H:Int} {l:List Sq} (hk:1≤k∧k≤500) (hg:Cv W H l) {a:Sq} (ha:a ∈ l):Ins (k*W) (k*H) (gro k a):=by
  rw [Jq hk hg.1.2 hg.2.1.2 (Dm hg ha)]
  obtain ⟨h1,h2,h3,h4,h5⟩:=Dm hg ha
  unfold Ins
  dsimp only
  simp only [← Int.mul_add,Q5 hk.1]
  refine ⟨?_,Int.mul_nonneg oz h2,h3,Int.mul_nonneg oz h4,h5⟩
  have:=(Q5 (k:=k) hk.1).2 h1
  omega
theorem Mq (l:List Sq) (f:Sq→Sq) (i:Nat) (h:i<l.length):Ah (l.map f) i=f (Ah l i):=by
  rw [Cm _ i (by rw [List.length_map];exact h),Cm l i h,List.getElem_map]
theorem gro_area {k W H:Int} {l:List Sq} (hk:1≤k∧k≤500) (hg:Cv W H l):∀ n,n≤l.length→Ee (l.map (gro k)) n=k*k*Ee l n:=by
  intro n
  induction n with
  | zero=>intro _;simp [Ee]
  | succ n ih =>
    intro hn
    rw [Ee,Ee,ih oz,Mq l _ n oz,Jq hk hg.1.2 hg.2.1.2 (Dm hg (Iw l n oz))]
    dsimp only
    rw [Int.mul_add]
    congr 1
    rw [Int.mul_assoc,Int.mul_assoc,Int.mul_left_comm (Ah l n).f2 k]
theorem gro_good {k W H:Int} {l:List Sq} (hk:1≤k∧k≤500) (hg:Cv W H l) (hw:k*W≤500) (hh:k*H≤500):Cv (k*W) (k*H) (l.map (gro k)):=by
  have h1:=(Q5 (k:=k) hk.1).2 hg.1.1
  have h2:=(Q5 (k:=k) hk.1).2 hg.2.1.1
  refine ⟨⟨by omega,hw⟩,⟨by omega,hh⟩,by rw [List.length_map];exact hg.2.2.1,fun i hi=>?_,?_⟩
  · rw [List.length_map] at hi
    have hok:=hg.2.2.2.1 i hi
    have hm:=Iw l i hi
    refine ⟨by rw [Mq l _ i hi];exact gro_ins hk hg hm,fun h0=>?_,fun j hj ho=>?_⟩
    · rw [Mq l _ i hi,Mq l _ (i-1) oz]
      exact U7 hk hg (Iw l (i-1) oz) hm (hok.2.1 h0)
    · rw [Mq l _ i hi,Mq l _ j oz] at ho
      exact hok.2.2 j hj (gro_ovl hk hg hm (Iw l j oz) ho)
  · rw [List.length_map,gro_area hk hg _ (Nat.le_refl _),hg.2.2.2.2]
    rw [Int.mul_assoc,Int.mul_assoc,Int.mul_left_comm k W]
theorem less_at {W H:Int} {l:List Sq} (hg:Cv W H l):∀ (d i:Nat),i+d+1<l.length→D2 (Ah l i) (Ah l (i+d+1)):=by
  intro d
  induction d with
  | zero =>
    intro i h
    have:=(hg.2.2.2.1 (i+1) h).2.1 oz
    rw [Nat.add_sub_cancel] at this
    exact this
  | succ d ih =>
    intro i h
    have h1:=ih i oz
    have h2:=(hg.2.2.2.1 (i+(d+1)+1) h).2.1 oz
    rw [Nat.add_sub_cancel,show i+(d+1)=i+d+1 by omega] at h2
    rw [show i+(d+1)+1=i+d+1+1 by omega]
    unfold D2 at h1 h2 ⊢;omega
theorem Q6 {k W H:Int} {l:List Sq} (hk:1≤k∧k≤500) (hg:Cv W H l):(l.map (gro k)).Pairwise LeP:=by
  rw [List.pairwise_map,List.pairwise_iff_getElem]
  intro i j hi hj hij
  refine LeP.of_less (U7 hk hg (List.getElem_mem _) (List.getElem_mem _) ?_)
  have:=less_at hg (j-i-1) i oz
  rw [show i+(j-i-1)+1=j by omega,Cm l i hi,Cm l j hj] at this
  exact this
theorem U8 {k W H:Int} {l:List Sq} (hk:1≤k∧k≤500) (hg:Cv W H l):Dist (l.map (gro k)):=by
  intro a ha b hb e0 e1
  obtain ⟨p,hp,rfl⟩:=List.mem_map.1 ha
  obtain ⟨q,hq,rfl⟩:=List.mem_map.1 hb
  rw [Jq hk hg.1.2 hg.2.1.2 (Dm hg hp),Jq hk hg.1.2 hg.2.1.2 (Dm hg hq)] at e0 e1
  have x0:p.f0=q.f0:=Int.eq_of_mul_eq_mul_left (show k≠0 by omega) e0
  have x1:p.f1=q.f1:=Int.eq_of_mul_eq_mul_left (show k≠0 by omega) e1
  obtain ⟨p1,p2,p3,p4,p5⟩:=Dm hg hp
  obtain ⟨q1,q2,q3,q4,q5⟩:=Dm hg hq
  rw [K6 hg hp hq (by unfold Ovl;omega)]
theorem gro_bd {k W H:Int} {l:List Sq} (hk:1≤k∧k≤500) (hg:Cv W H l) {s:Sq} (hs:s ∈ l):Jw (gro k s):=by
  have hi:=Dm hg hs
  have hW:=hg.1.2;have hH:=hg.2.1.2
  rw [Jq hk hg.1.2 hg.2.1.2 hi]
  obtain ⟨h1,h2,h3,h4,h5⟩:=hi
  have a:=Km hk h2 oz
  have b:=Km hk h4 oz
  unfold Jw
  dsimp only
  omega
theorem Mr (k W H : Int) (l : List Sq) (hl : l.length ≤ 1000) (r : Int × Int × List Sq × Bool) (hR : Ev (fun q => G4.f q (wrap64 (k * W)) (wrap64 (k * H)) (l.map (gro k))) r) : ∀ (t : List Sq) (i : Nat), l.drop i = t → i + t.length = l.length →
    Ev (fun q=>Cf.l0 q k ((l.take i).map (gro k)) l (l.length:Int) (i:Int) W H l) r:=by
  intro t
  induction t with
  | nil =>
    intro i hd hi
    simp only [List.length_nil] at hi
    refine Ev.succ ?_
    simp only [Cf.l0]
    rw [List.take_of_length_le oz]
    exact Ev.neg oz (Ev.bind hR (Ev.now _))
  | cons s t ih =>
    intro i hd hi
    obtain ⟨h1,h2,h3⟩:=I2 l i s t hd
    simp only [List.length_cons] at hi
    refine Ev.succ ?_
    simp only [Cf.l0]
    refine Ev.pos oz (Ev.pos oz (Ev.pos oz (Ev.pos (by rw [List.length_map,List.length_take];omega) ?_)))
    rw [Gm,h2,Af (n:=(i:Int)+1) oz oz]
    have e:=Il l (gro k) i s t hd
    have h:=ih (i+1) h3 oz
    rw [← e] at h
    exact h
theorem Rv (k A B : Int) (l : List Sq) (hl : l.length ≤ 1000) (R : List Sq) (hR : Am.f (l.map (gro k)) = some R) : ∀ (t : List Sq) (i : Nat), l.drop i = t → i + t.length = l.length →
    Ev (fun q=>Ao.l0 q l (l.length:Int) (i:Int) k A B ((l.take i).map (gro k))) (A,B,R):=by
  intro t
  induction t with
  | nil =>
    intro i hd hi
    simp only [List.length_nil] at hi
    refine Ev.succ ?_
    simp only [Ao.l0]
    rw [List.take_of_length_le oz]
    exact Ev.neg oz (Ev.bindc hR (Ev.now _))
  | cons s t ih =>
    intro i hd hi
    obtain ⟨h1,h2,h3⟩:=I2 l i s t hd
    simp only [List.length_cons] at hi
    refine Ev.succ ?_
    simp only [Ao.l0]
    refine Ev.pos oz (Ev.pos oz (Ev.pos oz ?_))
    rw [Gm,h2,Af (n:=(i:Int)+1) oz oz]
    refine Ev.bindc (a:=((gro k s).f0,(gro k s).f1,(gro k s).f2)) (by unfold E8.f gro;rw [Int.mul_comm s.f0,Int.mul_comm s.f1,Int.mul_comm s.f2]) (Ev.pos (by rw [List.length_map,List.length_take];omega) ?_)
    have e:=Il l (gro k) i s t hd
    have h:=ih (i+1) h3 oz
    rw [← e] at h
    exact h
theorem Xd {W H:Int} {l:List Sq} (h:Cv W H l) (k:Int):∃ B:Int×Int×List Sq×Bool,Ev (fun q=>Cf.f q W H l k) B∧Ev (fun q=>Ej.f q W H l k) B∧(B.2.2.2=true→Cv B.1 B.2.1 B.2.2.1∧B.2.2.1=l.map (gro k)∧1≤k∧k≤500):=by
  have hl:=h.2.2.1.2
  have hW:=h.1;have hH:=h.2.1
  by_cases hk:1≤k∧k≤500
  · have bW:=Km hk (show 0≤W by omega) hW.2
    have bH:=Km hk (show 0≤H by omega) hH.2
    have eW:wrap64 (k*W)=k*W:=Af (n:=k*W) oz oz
    have eH:wrap64 (k*H)=k*H:=Af (n:=k*H) oz oz
    obtain ⟨R,hs,hp,hev⟩:=Mm (l.map (gro k)) (by rw [List.length_map];omega)
    obtain ⟨R',hf,hp',hs'⟩:=M7 (l.map (gro k)) (fun s hq=>by
      obtain ⟨p,hpl,rfl⟩:=List.mem_map.1 hq
      exact gro_bd hk h hpl) (by rw [List.length_map];omega)
    have e1:R'=l.map (gro k):=G7 (U8 hk h) hp' (List.Perm.refl _) hs' (Q6 hk h)
    have e2:R=l.map (gro k):=G7 (U8 hk h) hp (List.Perm.refl _) hs (Q6 hk h)
    rw [e1] at hf
    rw [e2] at hev
    by_cases hsz:k*W≤500∧k*H≤500
    · have hgood:=gro_good hk h hsz.1 hsz.2
      refine ⟨(k*W,k*H,l.map (gro k),true),?_,?_,fun _=>⟨hgood,rfl,hk⟩⟩
      · unfold Cf.f
        refine Ev.bind (Ig W H l) (Ev.pos (by simpa using h) (Ev.bindc (G1 _ _ _) (Ev.succ ?_)))
        simp only [Cf.j0]
        refine Ev.neg (by simp;omega) (Mr k W H l oz _ ?_ l 0 rfl oz)
        unfold G4.f
        rw [eW,eH]
        exact Ev.neg (by rw [List.length_map];omega) (Ev.bind hev (Ev.bind (Ig _ _ _) (Ev.pos (by simpa using hgood) (Ev.now _))))
      · unfold Ej.f
        rw [Int.mul_comm W,Int.mul_comm H,eW,eH]
        refine Ev.bindc (Is _ _ _) (Ev.pos (by simp;omega) (Ev.neg oz (Ev.neg oz (Ev.bind (a:=(k*W,k*H,l.map (gro k))) ?_ (Ev.now _)))))
        exact Rv k _ _ l oz _ hf l 0 rfl oz
    · refine ⟨(0,0,[],false),?_,?_,fun h=>by cases h⟩
      · unfold Cf.f
        refine Ev.bind (Ig W H l) (Ev.pos (by simpa using h) (Ev.bindc (G1 _ _ _) (Ev.succ ?_)))
        simp only [Cf.j0]
        refine Ev.neg (by simp;omega) (Mr k W H l oz _ ?_ l 0 rfl oz)
        unfold G4.f
        rw [eW,eH]
        refine Ev.neg (by rw [List.length_map];omega) (Ev.bind hev (Ev.bind (Ig _ _ _) (Ev.neg ?_ (Ev.now _))))
        simp only [decide_eq_true_eq]
        exact fun x=>hsz ⟨x.1.2,x.2.1.2⟩
      · unfold Ej.f
        rw [Int.mul_comm W,Int.mul_comm H,eW,eH]
        refine Ev.bindc (Is _ _ _) (Ev.pos (by simp;omega) ?_)
        by_cases hw:k*W>500
        · exact Ev.pos hw (Ev.now _)
        · exact Ev.neg hw (Ev.pos oz (Ev.now _))
  · refine ⟨(0,0,[],false),?_,?_,fun h=>by cases h⟩
    · unfold Cf.f
      refine Ev.bind (Ig W H l) (Ev.pos (by simpa using h) (Ev.bindc (G1 _ _ _) (Ev.succ ?_)))
      simp only [Cf.j0]
      exact Ev.pos (by simp;omega) (Ev.now _)
    · unfold Ej.f
      exact Ev.bindc (Is _ _ _) (Ev.neg (by simp;omega) (Ev.now _))

theorem Q7 {W H:Int} {l:List Sq} (hg:Cv W H l):Dist l:=by
  intro a ha b hb e0 e1
  have p1:=Dm hg ha
  have p2:=Dm hg hb
  exact K6 hg ha hb (by unfold Ins at p1 p2;unfold Ovl;omega)
theorem J5 {W H:Int} {l:List Sq} (hg:Cv W H l):l.Pairwise LeP:=by
  have hok:=hg.2.2.2.1
  have h:∀ d i,i+d<l.length→LeP (Ah l i) (Ah l (i+d)):=by
    intro d
    induction d with
    | zero=>intro i _;unfold LeP D2;simp only [Nat.add_zero];omega
    | succ d ih =>
      intro i hi
      have h1:=(hok (i+(d+1)) hi).2.1 oz
      rw [show i+(d+1)-1=i+d by omega] at h1
      exact LeP.trans (ih i oz) (LeP.of_less h1)
  rw [List.pairwise_iff_getElem]
  intro i j hi hj hij
  have:=h (j-i) i oz
  rw [show i+(j-i)=j by omega,Cm l i hi,Cm l j hj] at this
  exact this

/-! ### four turns come back -/
theorem Rw {W H:Int} {s:Sq} (hH:H≤500) (h:Ins W H s):Ins H W (tur H s):=by
  rw [I6 hH h];unfold Ins at h ⊢;dsimp only;omega
theorem tur_four {W H : Int} {l R1 R2 R3 R4 : List Sq} (h : Cv W H l) (h4 : Cv W H R4)
    (p1:R1.Perm (l.map (tur H))) (p2:R2.Perm (R1.map (tur W))) (p3:R3.Perm (R2.map (tur H))) (p4:R4.Perm (R3.map (tur W))):R4=l:=by
  refine G7 (Q7 h) (p4.trans ((p3.map _).trans (((p2.map _).map _).trans ((((p1.map _).map _).map _).trans ?_)))) (List.Perm.refl _) (J5 h4) (J5 h)
  simp only [List.map_map]
  have e:l.map (tur W ∘ tur H ∘ tur W ∘ tur H)=l.map id:=List.map_congr_left (fun s hs=>by
    have i0:=Dm h hs
    have i1:=Rw h.2.1.2 i0
    have i2:=Rw h.1.2 i1
    have i3:=Rw h.2.1.2 i2
    show tur W (tur H (tur W (tur H s)))=s
    rw [I6 h.1.2 i3,I6 h.2.1.2 i2,I6 h.1.2 i1,I6 h.2.1.2 i0]
    obtain ⟨a,b,c⟩:=s
    dsimp only
    rw [show H-(H-b-c)-c=b by omega,show W-(W-a-c)-c=a by omega])
  rw [e,List.map_id]

/-! ### the stable sort: exchanges and rotations, on the list cut into pieces -/
def Jl (a b:Sq):Int:=if a.f1=b.f1 then wrap64 (a.f0-b.f0) else wrap64 (a.f1-b.f1)
theorem Kn (a b:Sq):Bj.f a.f0 a.f1 a.f2 b.f0 b.f1 b.f2=some (Jl a b):=by
  unfold Bj.f Jl;split <;> rfl
def BdS (s:Sq):Prop:=(-1099511627776≤s.f0∧s.f0≤1099511627776)∧(-1099511627776≤s.f1∧s.f1≤1099511627776)
theorem cmpV_lt {a b:Sq} (ha:BdS a) (hb:BdS b):Jl a b<0↔D2 a b:=by
  unfold BdS at ha hb
  unfold Jl D2
  split
  · rw [Af oz oz];omega
  · rw [Af oz oz];omega
theorem half_eq (x:Int) (h0:0≤x) (h1:x≤1099511627776):wrap64 (IntKind.u64.wrap (wrap64 x)/2)=x/2:=by
  rw [Af (n:=x) oz oz]
  have:IntKind.u64.wrap x=x:=by
    simp only [IntKind.wrap]
    have e:(2:Int) ^ IntKind.u64.bits=18446744073709551616:=rfl
    rw [e,if_neg (by simp [IntKind.signed])];omega
  rw [this,Af oz oz]
theorem Nw (s:Sq):(⟨s.f0,s.f1,s.f2⟩:Sq)=s:=rfl
theorem Q8 (p:List Sq) (s:Sq) (t:List Sq) (n:Nat) (h:n=p.length):Ah (p++s::t) n=s:=by
  subst h;unfold Ah;simp [List.getD]
theorem set_app (p:List Sq) (s s':Sq) (t:List Sq) (n:Nat) (h:n=p.length):(p++s::t).set n s'=p++s'::t:=by
  subst h;simp
/-- two places change what they hold -/
theorem M9 (p w q : List Sq) (s t : Sq) (i j : Nat) (hi : i = p.length) (hj : j = p.length + 1 + w.length) :
    ((p++s::(w++t::q)).set i (Ah (p++s::(w++t::q)) j)).set j (Ah (p++s::(w++t::q)) i)=p++t::(w++s::q):=by
  have e1:Ah (p++s::(w++t::q)) j=t:=by
    have:p++s::(w++t::q)=(p++s::w)++t::q:=by simp
    rw [this];exact Q8 _ _ _ _ (by simp;omega)
  rw [e1,Q8 p s _ i hi,set_app p s t _ i hi]
  have:p++t::(w++t::q)=(p++t::w)++t::q:=by simp
  rw [this,set_app _ t s q j (by simp;omega)]
  simp
theorem swp_loop : ∀ (n : Nat) (p u2 w v2 q v1 u1 : List Sq) (a b : Int), u2.length = n → v2.length = n → u1.length = v1.length → a = p.length → b = p.length + v1.length + u2.length + w.length → (p.length + v1.length + u2.length + w.length + u1.length + v2.length + q.length ≤ 1099511627776) →
    Ev (fun k=>zSwp.l0 k (p++v1++u2++w++u1++v2++q) a b ((v1.length+u2.length:Nat):Int) (v1.length:Int)) (p++(v1++v2)++w++(u1++u2)++q):=by
  intro n
  induction n with
  | zero =>
    intro p u2 w v2 q v1 u1 a b h1 h2 h3 ha hb hl
    obtain rfl:=List.length_eq_zero_iff.1 h1
    obtain rfl:=List.length_eq_zero_iff.1 h2
    refine Ev.succ ?_
    simp only [zSwp.l0]
    exact Ev.neg (by simp) (Ev.eqr (Ev.now _) (by simp))
  | succ n ih =>
    intro p u2 w v2 q v1 u1 a b h1 h2 h3 ha hb hl
    obtain ⟨s,u3,rfl⟩:=List.exists_cons_of_length_pos (by omega:0<u2.length)
    obtain ⟨t,v3,rfl⟩:=List.exists_cons_of_length_pos (by omega:0<v2.length)
    simp only [List.length_cons] at h1 h2 hb hl
    have hx:p++v1++(s::u3)++w++u1++(t::v3)++q=(p++v1)++s::((u3++w++u1)++t::(v3++q)):=by simp
    have hlen:(p++v1++(s::u3)++w++u1++(t::v3)++q).length=p.length+v1.length+(u3.length+1)+w.length+u1.length+(v3.length+1)+q.length:=by simp;omega
    have ea:wrap64 (a+(v1.length:Int))=((p.length+v1.length:Nat):Int):=by rw [Af oz oz];omega
    have eb:wrap64 (b+(v1.length:Int))=((p.length+v1.length+1+(u3.length+w.length+u1.length):Nat):Int):=by rw [Af oz oz];omega
    have ew:wrap64 ((v1.length:Int)+1)=((v1.length+1:Nat):Int):=by rw [Af oz oz];omega
    have hnx:=ih p u3 w v3 q (v1++[t]) (u1++[s]) a b oz oz (by simp;omega) ha (by simp;clear ea eb ew;omega) (by simp;clear ea eb ew;omega)
    refine Ev.succ ?_
    simp only [zSwp.l0,ea,eb,ew,Gm,Nw,Int.toNat_natCast]
    rw [hlen]
    clear ea eb ew
    refine Ev.pos (by simp;omega) (Ev.pos oz (Ev.pos oz (Ev.pos oz (Ev.pos oz ?_))))
    rw [hx,M9 (p++v1) (u3++w++u1) (v3++q) s t _ _ (by rw [List.length_append]) (by simp only [List.length_append])]
    have e1:(p++v1)++t::((u3++w++u1)++s::(v3++q))=p++(v1++[t])++u3++w++(u1++[s])++v3++q:=by simp
    have e2:((v1++[t]).length+u3.length:Nat)=v1.length+(s::u3).length:=by simp;omega
    rw [e1]
    rw [e2,List.length_append,List.length_singleton] at hnx
    refine Ev.eqr hnx ?_
    simp
theorem swp_ev (p u w v q : List Sq) (a b n : Int) (hu : n = u.length) (hv : n = v.length) (ha : a = p.length) (hb : b = p.length + u.length + w.length) (hl : p.length + u.length + w.length + v.length + q.length ≤ 1099511627776) :
    Ev (fun k=>zSwp.f k (p++u++w++v++q) a b n) (p++v++w++u++q):=by
  unfold zSwp.f
  have:=swp_loop u.length p u w v q [] [] a b rfl oz rfl ha (by simpa using hb) (by simpa using hl)
  simp only [List.append_nil,List.nil_append,List.length_nil,Nat.zero_add] at this
  rw [hu]
  exact this
theorem rot_loop : ∀ (n : Nat) (p u v q : List Sq), u.length + v.length = n → 1 ≤ u.length → 1 ≤ v.length → p.length + u.length + v.length + q.length ≤ 1099511627776 → ∀ (m i j : Int), m = p.length + u.length → i = u.length → j = v.length →
    Ev (fun k=>zRot.l0 k (p++u++v++q) m i j) (p++v++u++q):=by
  intro n
  induction n using Nat.strongRecOn with
  | _ n ih =>
    intro p u v q hn hu hv hl m i j hm hi hj
    have e0:wrap64 (m-i)=(p.length:Int):=by rw [Af oz oz];omega
    refine Ev.succ ?_
    simp only [zRot.l0,e0]
    clear e0
    by_cases c1:i=j
    · have hs:=swp_ev p u [] v q (p.length:Int) m i hi oz rfl (by simpa using hm) (by simp only [List.length_nil];omega)
      simp only [List.append_nil] at hs
      exact Ev.pos c1 (Ev.bind hs (Ev.now _))
    · refine Ev.neg c1 ?_
      by_cases c2:i>j
      · refine Ev.pos c2 ?_
        have a2:(u.take v.length).length=v.length:=by rw [List.length_take];omega
        have a0:(u.drop v.length).length=u.length-v.length:=List.length_drop
        have hsp:=List.take_append_drop v.length u
        generalize u.take v.length=u1 at a2 hsp
        generalize u.drop v.length=u2 at a0 hsp
        subst hsp
        rw [List.length_append] at hn hu hl hm hi a0
        have hs:=swp_ev p u1 u2 v q (p.length:Int) m j oz hj rfl oz oz
        rw [show p++(u1++u2)++v++q=p++u1++u2++v++q by simp]
        refine Ev.bind hs ?_
        have e1:wrap64 (i-j)=i-j:=Af oz oz
        rw [e1]
        clear e1
        have:=ih (u2.length+u1.length) oz (p++v) u2 u1 q rfl oz oz (by rw [List.length_append];omega) m (i-j) j (by rw [List.length_append];omega) oz oz
        refine Ev.eqr this (by simp)
      · refine Ev.neg c2 ?_
        have e1:wrap64 (wrap64 (m+j)-i)=m+j-i:=by rw [Af (n:=m+j) oz oz,Af oz oz]
        have e2:wrap64 (j-i)=j-i:=Af oz oz
        rw [e1,e2]
        clear e1 e2
        have a3:(v.drop (v.length-u.length)).length=u.length:=by rw [List.length_drop];omega
        have a1:(v.take (v.length-u.length)).length=v.length-u.length:=by rw [List.length_take];omega
        have hsp:=List.take_append_drop (v.length-u.length) v
        generalize v.take (v.length-u.length)=v1 at a1 hsp
        generalize v.drop (v.length-u.length)=v2 at a3 hsp
        subst hsp
        rw [List.length_append] at hn hv hl hj a1
        have hs:=swp_ev p u v1 v2 q (p.length:Int) (m+j-i) i hi oz rfl oz oz
        rw [show p++u++(v1++v2)++q=p++u++v1++v2++q by simp]
        refine Ev.bind hs ?_
        have:=ih (v2.length+v1.length) oz p v2 v1 (u++q) rfl oz oz (by rw [List.length_append];omega) m i (j-i) oz oz oz
        rw [show p++v2++v1++u++q=p++v2++v1++(u++q) by simp]
        refine Ev.eqr this (by simp)
theorem rot_ev (p u v q : List Sq) (hu : 1 ≤ u.length) (hv : 1 ≤ v.length) (hl : p.length + u.length + v.length + q.length ≤ 1099511627776) (a m b : Int) (ha : a = p.length) (hm : m = p.length + u.length) (hb : b = p.length + u.length + v.length) :
    Ev (fun k=>zRot.f k (p++u++v++q) a m b) (p++v++u++q):=by
  unfold zRot.f
  have e1:wrap64 (m-a)=m-a:=Af oz oz
  have e2:wrap64 (b-m)=b-m:=Af oz oz
  rw [e1,e2]
  clear e1 e2
  exact rot_loop _ p u v q rfl hu hv hl m (m-a) (b-m) hm oz oz

/-! ### the stable sort: two neighbouring parts are merged -/
theorem at_u (p u v q:List Sq) (i:Nat) (h:i<u.length):Ah (p++u++v++q) (p.length+i)=Ah u i:=by
  rw [Cm _ _ (by simp;omega),Cm _ _ h]
  rw [List.getElem_append_left (by simp;omega),List.getElem_append_left (by simp;omega),List.getElem_append_right oz]
  congr 1;omega
theorem at_v (p u v q:List Sq) (j:Nat) (h:j<v.length):Ah (p++u++v++q) (p.length+u.length+j)=Ah v j:=by
  have:=at_u (p++u) v [] q j h
  rw [List.append_nil,List.length_append] at this
  exact this
theorem Nx {a b:Sq} (ha:BdS a) (hb:BdS b) (h:¬ Jl b a<0):LeP a b:=fun k=>h ((cmpV_lt hb ha).2 k)
theorem Ms {a b:Sq} (ha:BdS a) (hb:BdS b) (h:Jl a b<0):LeP a b:=LeP.of_less ((cmpV_lt ha hb).1 h)
theorem Mf (a b:Nat) (h:a+b≤1099511627776):wrap64 ((IntKind.u64.wrap (wrap64 ((a:Int)+(b:Int))))/2)=(((a+b)/2:Nat):Int):=by
  rw [half_eq _ oz oz];omega
theorem sm_l4 (x : List Sq) (hx : x.length ≤ 1099511627) (a m b mid n : Nat) (hn : n ≤ 4 * x.length) : ∀ (d s r : Nat), r - s ≤ d → s ≤ r → r ≤ x.length → (∀ c, s ≤ c → c < r → c + 1 ≤ n ∧ n - 1 - c < x.length) →
    ∃ t,s≤t∧t≤r∧(t=s∨¬ Jl (Ah x (n-t)) (Ah x (t-1))<0)∧(t=r∨Jl (Ah x (n-1-t)) (Ah x t)<0) ∧
      ∀ R,Ev (fun k=>if (t:Int)<(m:Int) then zSym.j6 k x a m b mid t (wrap64 ((n:Int)-(t:Int))) (decide ((m:Int)<wrap64 ((n:Int)-(t:Int)))) else zSym.j6 k x a m b mid t (wrap64 ((n:Int)-(t:Int))) false) R →
        Ev (fun k=>zSym.l4 k x a m b mid n s r ((n:Int)-1)) R:=by
  intro d
  induction d with
  | zero =>
    intro s r hd hs hr hc
    obtain rfl:s=r:=by omega
    refine ⟨s,Nat.le_refl _,Nat.le_refl _,Or.inl rfl,Or.inl rfl,fun R hR=>Ev.succ ?_⟩
    simp only [zSym.l4]
    exact Ev.neg oz hR
  | succ d ih =>
    intro s r hd hs hr hc
    by_cases e:s=r
    · subst e
      refine ⟨s,Nat.le_refl _,Nat.le_refl _,Or.inl rfl,Or.inl rfl,fun R hR=>Ev.succ ?_⟩
      simp only [zSym.l4]
      exact Ev.neg oz hR
    · have a0:s≤(s+r)/2:=by omega
      have a1:(s+r)/2<r:=by omega
      obtain ⟨a2,a3⟩:=hc _ a0 a1
      obtain ⟨c,hce⟩:∃ c,c=(s+r)/2:=⟨_,rfl⟩
      rw [← hce] at a0 a1 a2 a3
      by_cases hP:Jl (Ah x (n-1-c)) (Ah x c)<0
      · obtain ⟨t,h1,h2,h3,h4,h5⟩:=ih s c oz a0 oz (fun z z1 z2=>hc z z1 oz)
        refine ⟨t,h1,by omega,h3,?_,fun R hR=>Ev.succ ?_⟩
        · rcases h4 with h4|h4
          · right;rw [h4];exact hP
          · exact Or.inr h4
        · have e1:=Mf s r oz
          rw [← hce] at e1
          have e2:wrap64 ((n:Int)-1-(c:Int))=((n-1-c:Nat):Int):=by clear e1;rw [Af oz oz];omega
          have e3:wrap64 ((c:Int)+1)=((c+1:Nat):Int):=by clear e1 e2;rw [Af oz oz];omega
          simp only [zSym.l4,e1,e2,e3,Gm,Kn,Option.bind_some]
          clear e1 e2 e3
          exact Ev.pos oz (Ev.pos oz (Ev.pos oz (Ev.pos oz (Ev.pos oz (Ev.pos hP (h5 R hR))))))
      · obtain ⟨t,h1,h2,h3,h4,h5⟩:=ih (c+1) r oz oz hr (fun z z1 z2=>hc z oz z2)
        refine ⟨t,by omega,h2,?_,h4,fun R hR=>Ev.succ ?_⟩
        · rcases h3 with h3|h3
          · right;rw [h3,Nat.add_sub_cancel]
            rw [show n-(c+1)=n-1-c by omega];exact hP
          · exact Or.inr h3
        · have e1:=Mf s r oz
          rw [← hce] at e1
          have e2:wrap64 ((n:Int)-1-(c:Int))=((n-1-c:Nat):Int):=by clear e1;rw [Af oz oz];omega
          have e3:wrap64 ((c:Int)+1)=((c+1:Nat):Int):=by clear e1 e2;rw [Af oz oz];omega
          simp only [zSym.l4,e1,e2,e3,Gm,Kn,Option.bind_some]
          clear e1 e2 e3
          exact Ev.pos oz (Ev.pos oz (Ev.pos oz (Ev.pos oz (Ev.pos oz (Ev.neg hP (h5 R hR))))))
theorem sm_l0 (x : List Sq) (hx : x.length ≤ 1099511627) (a : Nat) (ha : a < x.length) : ∀ (d s r : Nat), r - s ≤ d → s ≤ r → r ≤ x.length →
    ∃ t,s≤t∧t≤r∧(t=s∨Jl (Ah x (t-1)) (Ah x a)<0)∧(t=r∨¬ Jl (Ah x t) (Ah x a)<0) ∧
      ∀ R,Ev (fun k=>zSym.l1 k x t a) R→Ev (fun k=>zSym.l0 k x a s r) R:=by
  intro d
  induction d with
  | zero =>
    intro s r hd hs hr
    obtain rfl:s=r:=by omega
    refine ⟨s,Nat.le_refl _,Nat.le_refl _,Or.inl rfl,Or.inl rfl,fun R hR=>Ev.succ ?_⟩
    simp only [zSym.l0]
    exact Ev.neg oz hR
  | succ d ih =>
    intro s r hd hs hr
    by_cases e:s=r
    · subst e
      refine ⟨s,Nat.le_refl _,Nat.le_refl _,Or.inl rfl,Or.inl rfl,fun R hR=>Ev.succ ?_⟩
      simp only [zSym.l0]
      exact Ev.neg oz hR
    · have a0:s≤(s+r)/2:=by omega
      have a1:(s+r)/2<r:=by omega
      obtain ⟨c,hce⟩:∃ c,c=(s+r)/2:=⟨_,rfl⟩
      rw [← hce] at a0 a1
      by_cases hP:Jl (Ah x c) (Ah x a)<0
      · obtain ⟨t,h1,h2,h3,h4,h5⟩:=ih (c+1) r oz oz hr
        refine ⟨t,by omega,h2,?_,h4,fun R hR=>Ev.succ ?_⟩
        · rcases h3 with h3|h3
          · right;rw [h3,Nat.add_sub_cancel];exact hP
          · exact Or.inr h3
        · have e1:=Mf s r oz
          rw [← hce] at e1
          have e3:wrap64 ((c:Int)+1)=((c+1:Nat):Int):=by clear e1;rw [Af oz oz];omega
          simp only [zSym.l0,e1,e3,Gm,Kn,Option.bind_some]
          clear e1 e3
          exact Ev.pos oz (Ev.pos oz (Ev.pos oz (Ev.pos oz (Ev.pos oz (Ev.pos hP (h5 R hR))))))
      · obtain ⟨t,h1,h2,h3,h4,h5⟩:=ih s c oz a0 oz
        refine ⟨t,h1,by omega,h3,?_,fun R hR=>Ev.succ ?_⟩
        · rcases h4 with h4|h4
          · right;rw [h4];exact hP
          · exact Or.inr h4
        · have e1:=Mf s r oz
          rw [← hce] at e1
          have e3:wrap64 ((c:Int)+1)=((c+1:Nat):Int):=by clear e1;rw [Af oz oz];omega
          simp only [zSym.l0,e1,e3,Gm,Kn,Option.bind_some]
          clear e1 e3
          exact Ev.pos oz (Ev.pos oz (Ev.pos oz (Ev.pos oz (Ev.pos oz (Ev.neg hP (h5 R hR))))))
theorem sm_l2 (x : List Sq) (hx : x.length ≤ 1099511627) (m : Nat) (hm : m < x.length) : ∀ (d s r : Nat), r - s ≤ d → s ≤ r → r ≤ x.length →
    ∃ t,s≤t∧t≤r∧(t=s∨¬ Jl (Ah x m) (Ah x (t-1))<0)∧(t=r∨Jl (Ah x m) (Ah x t)<0) ∧
      ∀ R,Ev (fun k=>zSym.l3 k x t m) R→Ev (fun k=>zSym.l2 k x m s r) R:=by
  intro d
  induction d with
  | zero =>
    intro s r hd hs hr
    obtain rfl:s=r:=by omega
    refine ⟨s,Nat.le_refl _,Nat.le_refl _,Or.inl rfl,Or.inl rfl,fun R hR=>Ev.succ ?_⟩
    simp only [zSym.l2]
    exact Ev.neg oz hR
  | succ d ih =>
    intro s r hd hs hr
    by_cases e:s=r
    · subst e
      refine ⟨s,Nat.le_refl _,Nat.le_refl _,Or.inl rfl,Or.inl rfl,fun R hR=>Ev.succ ?_⟩
      simp only [zSym.l2]
      exact Ev.neg oz hR
    · have a0:s≤(s+r)/2:=by omega
      have a1:(s+r)/2<r:=by omega
      obtain ⟨c,hce⟩:∃ c,c=(s+r)/2:=⟨_,rfl⟩
      rw [← hce] at a0 a1
      by_cases hP:Jl (Ah x m) (Ah x c)<0
      · obtain ⟨t,h1,h2,h3,h4,h5⟩:=ih s c oz a0 oz
        refine ⟨t,h1,by omega,h3,?_,fun R hR=>Ev.succ ?_⟩
        · rcases h4 with h4|h4
          · right;rw [h4];exact hP
          · exact Or.inr h4
        · have e1:=Mf s r oz
          rw [← hce] at e1
          have e3:wrap64 ((c:Int)+1)=((c+1:Nat):Int):=by clear e1;rw [Af oz oz];omega
          simp only [zSym.l2,e1,e3,Gm,Kn,Option.bind_some]
          clear e1 e3
          exact Ev.pos oz (Ev.pos oz (Ev.pos oz (Ev.pos oz (Ev.pos oz (Ev.pos hP (h5 R hR))))))
      · obtain ⟨t,h1,h2,h3,h4,h5⟩:=ih (c+1) r oz oz hr
        refine ⟨t,by omega,h2,?_,h4,fun R hR=>Ev.succ ?_⟩
        · rcases h3 with h3|h3
          · right;rw [h3,Nat.add_sub_cancel];exact hP
          · exact Or.inr h3
        · have e1:=Mf s r oz
          rw [← hce] at e1
          have e3:wrap64 ((c:Int)+1)=((c+1:Nat):Int):=by clear e1;rw [Af oz oz];omega
          simp only [zSym.l2,e1,e3,Gm,Kn,Option.bind_some]
          clear e1 e3
          exact Ev.pos oz (Ev.pos oz (Ev.pos oz (Ev.pos oz (Ev.pos oz (Ev.neg hP (h5 R hR))))))
/-- one goes right past the neighbours -/
theorem sm_l1 (s : Sq) : ∀ (v1 p w : List Sq) (t a : Int), t = p.length + 1 + v1.length → a = p.length → p.length + v1.length + w.length ≤ 1099511627 →
    Ev (fun k=>zSym.l1 k (p++s::(v1++w)) t a) (p++(v1++s::w))
  | [],p,w,t,a,ht,ha,hl=>by
    simp only [List.length_nil] at ht
    refine Ev.succ ?_
    simp only [zSym.l1]
    exact Ev.neg (by rw [Af oz oz];omega) (Ev.now _)
  | z::v1,p,w,t,a,ht,ha,hl=>by
    simp only [List.length_cons] at ht hl
    have ih:=sm_l1 s v1 (p++[z]) w t (a+1) (by rw [List.length_append,List.length_singleton];omega) (by rw [List.length_append,List.length_singleton];omega) (by rw [List.length_append,List.length_singleton];omega)
    have hlen:(p++s::(z::v1++w)).length=p.length+(v1.length+w.length+2):=by simp
    have sw:=M9 p [] (v1++w) s z p.length (p.length+1) rfl (by simp)
    simp only [List.nil_append] at sw
    have e1:wrap64 (a+1)=((p.length+1:Nat):Int):=by rw [Af oz oz];omega
    refine Ev.succ ?_
    simp only [zSym.l1,e1]
    clear e1
    refine Ev.pos (by rw [Af oz oz];omega) (Ev.pos oz (Ev.pos oz (Ev.pos oz (Ev.pos oz ?_))))
    rw [ha]
    simp only [Gm,Nw,Int.toNat_natCast]
    rw [show p++s::(z::v1++w)=p++s::z::(v1++w) by simp,sw]
    rw [show p++[z]++s::(v1++w)=p++z::s::(v1++w) by simp] at ih
    rw [show a+1=((p.length+1:Nat):Int) by omega] at ih
    refine Ev.eqr ih ?_
    simp
/-- one goes left past the neighbours -/
theorem sm_l3 (y : Sq) : ∀ (n : Nat) (u2 p w : List Sq), u2.length = n → ∀ (t a : Int), t = p.length → a = p.length + u2.length → p.length + u2.length + w.length ≤ 1099511627 →
    Ev (fun k=>zSym.l3 k (p++u2++y::w) t a) (p++(y::u2)++w)
  | 0,u2,p,w,hn,t,a,ht,ha,hl=>by
    obtain rfl:=List.length_eq_zero_iff.1 hn
    simp only [List.length_nil] at ha
    refine Ev.succ ?_
    simp only [zSym.l3]
    exact Ev.neg oz (Ev.eqr (Ev.now _) (by simp))
  | n+1,u2,p,w,hn,t,a,ht,ha,hl=>by
    obtain ⟨u3,z,rfl⟩:∃ u3 z,u2=u3++[z]:=⟨u2.dropLast,u2.getLast (by intro e;rw [e] at hn;simp at hn),(List.dropLast_concat_getLast _).symm⟩
    simp only [List.length_append,List.length_singleton] at hn ha hl
    have ih:=sm_l3 y n u3 p (z::w) oz t (a-1) ht oz (by rw [List.length_cons];omega)
    have hlen:(p++(u3++[z])++y::w).length=p.length+u3.length+w.length+2:=by simp;omega
    have sw:=M9 (p++u3) [] w z y (p.length+u3.length) (p.length+u3.length+1) (by simp) (by simp)
    simp only [List.nil_append] at sw
    have h0:z=z:=rfl
    have e1:wrap64 (a-1)=((p.length+u3.length:Nat):Int):=by rw [Af oz oz];omega
    refine Ev.succ ?_
    simp only [zSym.l3,e1]
    clear e1
    refine Ev.pos oz (Ev.pos oz (Ev.pos oz (Ev.pos oz (Ev.pos oz ?_))))
    rw [show a=((p.length+u3.length+1:Nat):Int) by omega]
    simp only [Gm,Nw,Int.toNat_natCast]
    have comm:∀ (l:List Sq) (i j:Nat) (x' y':Sq),i≠j→(l.set i x').set j y'=(l.set j y').set i x':=fun l i j x' y' h=>List.set_comm x' y' h
    rw [comm _ _ _ _ _ oz,show p++(u3++[z])++y::w=(p++u3)++z::y::w by simp,sw]
    rw [show p++u3++y::(z::w)=(p++u3)++y::z::w by simp,show a-1=((p.length+u3.length:Nat):Int) by omega] at ih
    refine Ev.eqr ih ?_
    simp
theorem mem_sqAt {l:List Sq} {a:Sq} (h:a ∈ l):∃ i,i<l.length∧a=Ah l i:=by
  obtain ⟨i,hi,rfl⟩:=List.mem_iff_getElem.1 h
  exact ⟨i,hi,(Cm l i hi).symm⟩
def Bds (l:List Sq):Prop:=∀ s ∈ l,BdS s
theorem Jr {l:List Sq} (h:Bds l) {i:Nat} (hi:i<l.length):BdS (Ah l i):=h _ (Iw l i hi)
theorem sm_one_u (p : List Sq) (s : Sq) (v q : List Sq) (hl : p.length + 1 + v.length + q.length ≤ 1099511627) (a m b : Int) (ha : a = p.length) (hm : m = p.length + 1) (hb : b = p.length + 1 + v.length) :
    ∃ r,r.Perm ([s]++v)∧(Bds ([s]++v)→v.Pairwise LeP→r.Pairwise LeP)∧Ev (fun k=>zSym.l0 k (p++[s]++v++q) a m b) (p++r++q):=by
  have hxl:(p++[s]++v++q).length=p.length+1+v.length+q.length:=by simp;omega
  obtain ⟨t,h1,h2,h3,h4,h5⟩:=sm_l0 (p++[s]++v++q) oz p.length oz v.length (p.length+1) (p.length+1+v.length) oz oz oz
  obtain ⟨j,rfl⟩:∃ j,t=p.length+1+j:=⟨t-(p.length+1),by omega⟩
  have hj:j≤v.length:=by omega
  have a0:Ah (p++[s]++v++q) p.length=s:=by simp [Ah]
  rw [a0] at h3 h4
  have av:∀ i,i<v.length→Ah (p++[s]++v++q) (p.length+1+i)=Ah v i:=fun i hi=>by have:=at_v p [s] v q i hi;simpa using this
  refine ⟨v.take j++s::v.drop j,?_,fun hB hs=>?_,?_⟩
  · have:=List.perm_middle (l₁:=v.take j) (a:=s) (l₂:=v.drop j)
    rw [List.take_append_drop] at this
    exact this
  · have Bs:BdS s:=hB s (by simp)
    have Bv:Bds v:=fun z hz=>hB z (by simp [hz])
    refine List.pairwise_append.2 ⟨hs.sublist (List.take_sublist _ _),List.pairwise_cons.2 ⟨fun z hz=>?_,hs.sublist (List.drop_sublist _ _)⟩,fun y hy z hz=>?_⟩
    · obtain ⟨i,a1,a2,rfl⟩:=Ix hz
      rcases h4 with h4|h4
      · omega
      · rw [av j oz] at h4
        exact LeP.trans (Nx Bs (Jr Bv oz) h4) (G8 hs a1 a2)
    · have ys : LeP y s := by
        obtain ⟨i,hi,rfl⟩:=Jo hj hy
        rcases h3 with h3|h3
        · omega
        · rw [show p.length+1+j-1=p.length+1+(j-1) by omega,av (j-1) oz] at h3
          exact LeP.trans (G8 hs oz oz) (Ms (Jr Bv oz) Bs h3)
      rcases List.mem_cons.1 hz with rfl|hz
      · exact ys
      · obtain ⟨i,a1,a2,rfl⟩:=Ix hz
        rcases h4 with h4|h4
        · omega
        · rw [av j oz] at h4
          exact LeP.trans ys (LeP.trans (Nx Bs (Jr Bv oz) h4) (G8 hs a1 a2))
  · rw [show a=((p.length:Nat):Int) by omega,show m=((p.length+1:Nat):Int) by omega,show b=((p.length+1+v.length:Nat):Int) by omega]
    refine h5 _ ?_
    have:=sm_l1 s (v.take j) p (v.drop j++q) ((p.length+1+j:Nat):Int) (p.length:Int) (by rw [List.length_take];omega) rfl (by rw [List.length_take,List.length_append,List.length_drop];omega)
    have e:p++s::(v.take j++(v.drop j++q))=p++[s]++v++q:=by
      rw [← List.append_assoc (v.take j),List.take_append_drop];simp
    rw [e] at this
    refine Ev.eqr this ?_
    simp
theorem sm_one_v (p u : List Sq) (y : Sq) (q : List Sq) (hl : p.length + u.length + 1 + q.length ≤ 1099511627) (a m : Int) (ha : a = p.length) (hm : m = p.length + u.length) :
    ∃ r,r.Perm (u++[y])∧(Bds (u++[y])→u.Pairwise LeP→r.Pairwise LeP)∧Ev (fun k=>zSym.l2 k (p++u++[y]++q) m a m) (p++r++q):=by
  have hxl:(p++u++[y]++q).length=p.length+u.length+1+q.length:=by simp;omega
  obtain ⟨t,h1,h2,h3,h4,h5⟩:=sm_l2 (p++u++[y]++q) oz (p.length+u.length) oz u.length p.length (p.length+u.length) oz oz oz
  obtain ⟨j,rfl⟩:∃ j,t=p.length+j:=⟨t-p.length,by omega⟩
  have hj:j≤u.length:=by omega
  have a0:Ah (p++u++[y]++q) (p.length+u.length)=y:=by simp [Ah]
  rw [a0] at h3 h4
  have au:∀ i,i<u.length→Ah (p++u++[y]++q) (p.length+i)=Ah u i:=fun i hi=>at_u p u [y] q i hi
  refine ⟨u.take j++y::u.drop j,?_,fun hB hs=>?_,?_⟩
  · have:=List.perm_middle (l₁:=u.take j) (a:=y) (l₂:=u.drop j)
    rw [List.take_append_drop] at this
    exact this.trans (List.perm_append_singleton y u).symm
  · have By:BdS y:=hB y (by simp)
    have Bu:Bds u:=fun z hz=>hB z (by simp [hz])
    refine List.pairwise_append.2 ⟨hs.sublist (List.take_sublist _ _),List.pairwise_cons.2 ⟨fun z hz=>?_,hs.sublist (List.drop_sublist _ _)⟩,fun x hx z hz=>?_⟩
    · obtain ⟨i,a1,a2,rfl⟩:=Ix hz
      rcases h4 with h4|h4
      · omega
      · rw [au j oz] at h4
        exact LeP.trans (Ms By (Jr Bu oz) h4) (G8 hs a1 a2)
    · have xy : LeP x y := by
        obtain ⟨i,hi,rfl⟩:=Jo hj hx
        rcases h3 with h3|h3
        · omega
        · rw [show p.length+j-1=p.length+(j-1) by omega,au (j-1) oz] at h3
          exact LeP.trans (G8 hs oz oz) (Nx (Jr Bu oz) By h3)
      rcases List.mem_cons.1 hz with rfl|hz
      · exact xy
      · obtain ⟨i,a1,a2,rfl⟩:=Ix hz
        rcases h4 with h4|h4
        · omega
        · rw [au j oz] at h4
          exact LeP.trans xy (LeP.trans (Ms By (Jr Bu oz) h4) (G8 hs a1 a2))
  · rw [show a=((p.length:Nat):Int) by omega,show m=((p.length+u.length:Nat):Int) by omega]
    refine h5 _ ?_
    have:=sm_l3 y (u.drop j).length (u.drop j) (p++u.take j) q rfl ((p.length+j:Nat):Int) ((p.length+u.length:Nat):Int) (by rw [List.length_append,List.length_take];omega) (by rw [List.length_append,List.length_take,List.length_drop];omega) (by rw [List.length_append,List.length_take,List.length_drop];omega)
    have e:p++u.take j++u.drop j++y::q=p++u++[y]++q:=by
      rw [List.append_assoc p,List.take_append_drop];simp
    rw [e] at this
    refine Ev.eqr this ?_
    simp
theorem merge_pw {u v r1 r2 : List Sq} (i j : Nat) (hi : i ≤ u.length) (hj : j ≤ v.length) (hsu : u.Pairwise LeP) (hsv : v.Pairwise LeP) (h1 : i = 0 ∨ j = v.length ∨ LeP (Ah u (i - 1)) (Ah v j)) (h2 : j = 0 ∨ i = u.length ∨ LeP (Ah v (j - 1)) (Ah u i))
    (p1:r1.Perm (u.take i++v.take j)) (p2:r2.Perm (u.drop i++v.drop j)) (q1:r1.Pairwise LeP) (q2:r2.Pairwise LeP):(r1++r2).Pairwise LeP:=by
  have a3:∀ y ∈ u.take i,∀ z ∈ v.drop j,LeP y z:=by
    intro y hy z hz
    obtain ⟨a,ha,rfl⟩:=Jo hi hy
    obtain ⟨c,a0,a1,rfl⟩:=Ix hz
    rcases h1 with h1|h1|h1
    · omega
    · omega
    · exact LeP.trans (G8 hsu (show a≤i-1 by omega) oz) (LeP.trans h1 (G8 hsv a0 a1))
  have a4:∀ y ∈ v.take j,∀ z ∈ u.drop i,LeP y z:=by
    intro y hy z hz
    obtain ⟨a,ha,rfl⟩:=Jo hj hy
    obtain ⟨c,a0,a1,rfl⟩:=Ix hz
    rcases h2 with h2|h2|h2
    · omega
    · omega
    · exact LeP.trans (G8 hsv (show a≤j-1 by omega) oz) (LeP.trans h2 (G8 hsu a0 a1))
  have a2:∀ y ∈ u.take i,∀ z ∈ u.drop i,LeP y z:=by
    rw [← List.take_append_drop i u] at hsu
    exact (List.pairwise_append.1 hsu).2.2
  have a5:∀ y ∈ v.take j,∀ z ∈ v.drop j,LeP y z:=by
    rw [← List.take_append_drop j v] at hsv
    exact (List.pairwise_append.1 hsv).2.2
  refine List.pairwise_append.2 ⟨q1,q2,fun y hy z hz=>?_⟩
  rcases List.mem_append.1 (p1.mem_iff.1 hy) with hy|hy <;> rcases List.mem_append.1 (p2.mem_iff.1 hz) with hz|hz
  · exact a2 y hy z hz
  · exact a3 y hy z hz
  · exact a4 y hy z hz
  · exact a5 y hy z hz
theorem Xe {u v r1 r2:List Sq} (i j:Nat) (p1:r1.Perm (u.take i++v.take j)) (p2:r2.Perm (u.drop i++v.drop j)):(r1++r2).Perm (u++v):=by
  refine (p1.append p2).trans ?_
  have:(u.take i++v.take j++(u.drop i++v.drop j)).Perm (u.take i++(u.drop i++(v.take j++v.drop j))):=by
    rw [List.append_assoc]
    refine List.Perm.append_left _ ?_
    rw [← List.append_assoc,← List.append_assoc]
    exact List.perm_append_comm.append_right _
  rw [List.take_append_drop,← List.append_assoc (List.take i u) (List.drop i u),List.take_append_drop] at this
  exact this
/-- what a merge of two neighbouring parts owes -/
def Mg (p u v q : List Sq) : Prop := ∀ (a m b : Int), a = p.length → m = p.length + u.length → b = p.length + u.length + v.length →
    ∃ r,r.Perm (u++v)∧(Bds (u++v)→u.Pairwise LeP→v.Pairwise LeP→r.Pairwise LeP)∧Ev (fun k=>zSym.f k (p++u++v++q) a m b) (p++r++q)
/-- a part that may be one alone -/
theorem mg_opt (p u v q : List Sq) (h : 1 ≤ u.length → 1 ≤ v.length → Mg p u v q) (a m b : Nat) (ha : a = p.length) (hm : m = p.length + u.length) (hb : b = p.length + u.length + v.length) :
    ∃ r,r.Perm (u++v)∧(Bds (u++v)→u.Pairwise LeP→v.Pairwise LeP→r.Pairwise LeP)∧((a<m∧m<b)→Ev (fun k=>zSym.f k (p++u++v++q) a m b) (p++r++q))∧(¬ (a<m∧m<b)→r=u++v):=by
  by_cases c:a<m∧m<b
  · obtain ⟨r,r1,r2,r3⟩:=h oz oz a m b oz oz oz
    exact ⟨r,r1,r2,fun _=>r3,fun h=>absurd c h⟩
  · refine ⟨u++v,List.Perm.refl _,fun _ h1 h2=>?_,fun h=>absurd h c,fun _=>rfl⟩
    rcases (by omega:u.length=0∨v.length=0) with z|z
    · rw [List.length_eq_zero_iff.1 z];exact h2
    · rw [List.length_eq_zero_iff.1 z,List.append_nil];exact h1
/-- behind the search: rotate, merge left, merge right -/
theorem sm_behind (p u1 u2 v1 v2 q r1 r2 : List Sq) (A M B D t E : Nat) (hA : A = p.length) (ht : t = A + u1.length) (hM : M = t + u2.length) (hE : E = M + v1.length) (hB : B = E + v2.length) (hD : D = t + v1.length) (hl : B + q.length ≤ 1099511627)
    (w1:(A<t∧t<D)→Ev (fun k=>zSym.f k (p++u1++v1++(u2++v2++q)) A t D) (p++r1++(u2++v2++q))) (n1:¬ (A<t∧t<D)→r1=u1++v1)
    (w2:(D<E∧E<B)→Ev (fun k=>zSym.f k (p++r1++u2++v2++q) D E B) (p++r1++r2++q)) (n2:¬ (D<E∧E<B)→r2=u2++v2) :
    Ev (fun k=>if (t:Int)<(M:Int) then zSym.j6 k (p++(u1++u2)++(v1++v2)++q) A M B D t E (decide ((M:Int)<E)) else zSym.j6 k (p++(u1++u2)++(v1++v2)++q) A M B D t E false) (p++(r1++r2)++q):=by
  have a0:Ev (fun k=>zSym.j7 k (p++u1++v1++u2++v2++q) A B D t E) (p++(r1++r2)++q):=by
    refine Ev.succ ?_
    simp only [zSym.j7]
    have fin:∀ L,L=p++r1++u2++v2++q→Ev (fun k=>if (D:Int)<(E:Int) then (if (E:Int)<(B:Int) then ((zSym.f k L D E B).bind fun t=>some t) else some L) else some L) (p++(r1++r2)++q):=by
      rintro L rfl
      by_cases c:D<E∧E<B
      · refine Ev.pos oz (Ev.pos oz (Ev.bind (w2 c) (Ev.eqr (Ev.now _) (by simp))))
      · have e:p++r1++u2++v2++q=p++(r1++r2)++q:=by rw [n2 c];simp
        by_cases c1:(D:Int)<(E:Int)
        · exact Ev.pos c1 (Ev.neg oz (Ev.eqr (Ev.now _) e))
        · exact Ev.neg c1 (Ev.eqr (Ev.now _) e)
    have j8:∀ bb:Bool,bb=decide (A<t∧t<D)→Ev (fun k=>zSym.j8 k (p++u1++v1++u2++v2++q) A B D t E bb) (p++(r1++r2)++q):=by
      rintro bb rfl
      refine Ev.succ ?_
      simp only [zSym.j8]
      by_cases c:A<t∧t<D
      · refine Ev.pos (decide_eq_true c) ?_
        rw [show p++u1++v1++u2++v2++q=p++u1++v1++(u2++v2++q) by simp]
        exact Ev.bind (w1 c) (fin _ (by simp))
      · refine Ev.neg (by simpa using c) (fin _ ?_)
        rw [n1 c];simp
    by_cases c:(A:Int)<(t:Int)
    · refine Ev.pos c (j8 _ ?_)
      by_cases c2:t<D
      · rw [decide_eq_true (show (t:Int)<(D:Int) by omega),decide_eq_true ⟨by omega,c2⟩]
      · rw [decide_eq_false (show ¬ (t:Int)<(D:Int) by omega),decide_eq_false (fun h=>c2 h.2)]
    · refine Ev.neg c (j8 _ (decide_eq_false (fun h=>c oz)).symm)
  have nr:¬ (t<M∧M<E)→p++(u1++u2)++(v1++v2)++q=p++u1++v1++u2++v2++q:=by
    intro c
    rcases (by omega:u2.length=0∨v1.length=0) with z|z
    · rw [List.length_eq_zero_iff.1 z];simp
    · rw [List.length_eq_zero_iff.1 z];simp
  have j6:∀ bb:Bool,bb=decide (t<M∧M<E)→Ev (fun k=>zSym.j6 k (p++(u1++u2)++(v1++v2)++q) A M B D t E bb) (p++(r1++r2)++q):=by
    rintro bb rfl
    refine Ev.succ ?_
    simp only [zSym.j6]
    by_cases c:t<M∧M<E
    · refine Ev.pos (decide_eq_true c) ?_
      have hr:=rot_ev (p++u1) u2 v1 (v2++q) oz oz (by simp only [List.length_append];omega) t M E (by simp only [List.length_append];omega) (by simp only [List.length_append];omega) (by simp only [List.length_append];omega)
      rw [show p++u1++u2++v1++(v2++q)=p++(u1++u2)++(v1++v2)++q by simp,show p++u1++v1++u2++(v2++q)=p++u1++v1++u2++v2++q by simp] at hr
      exact Ev.bind hr a0
    · refine Ev.neg (by simpa using c) ?_
      rw [nr c]
      exact a0
  by_cases c:(t:Int)<(M:Int)
  · refine Ev.pos c (j6 _ ?_)
    by_cases c2:M<E
    · rw [decide_eq_true (show (M:Int)<(E:Int) by omega),decide_eq_true ⟨by omega,c2⟩]
    · rw [decide_eq_false (show ¬ (M:Int)<(E:Int) by omega),decide_eq_false (fun h=>c2 h.2)]
  · exact Ev.neg c (j6 _ (decide_eq_false (fun h=>c oz)).symm)
set_option maxHeartbeats 2000000 in
theorem sm_tail (N : Nat) (ih : ∀ p u v q : List Sq, u.length + v.length < N → 1 ≤ u.length → 1 ≤ v.length → p.length + u.length + v.length + q.length ≤ 1099511627 → Mg p u v q) (p u v q : List Sq) (hN : u.length + v.length = N) (hu : 2 ≤ u.length) (hv : 2 ≤ v.length) (hl : p.length + u.length + v.length + q.length ≤ 1099511627)
    (A M B D:Nat) (hA:A=p.length) (hM:M=p.length+u.length) (hB:B=p.length+u.length+v.length) (hD:D=(A+B)/2) (S T0:Nat) (hST:S=A∧T0=M∧M≤D∨S=D+M-B∧T0=D∧D<M) :
    ∃ r, r.Perm (u ++ v) ∧ (Bds (u ++ v) → u.Pairwise LeP → v.Pairwise LeP → r.Pairwise LeP) ∧
        Ev (fun k=>zSym.l4 k (p++u++v++q) A M B D ((D+M:Nat):Int) S T0 (((D+M:Nat):Int)-1)) (p++r++q):=by
  have hxl:(p++u++v++q).length=p.length+u.length+v.length+q.length:=by simp only [List.length_append]
  obtain ⟨t,t1,t2,t3,t4,t5⟩:=sm_l4 (p++u++v++q) oz A M B D (D+M) oz (T0-S) S T0 (Nat.le_refl _) oz oz (fun c c1 c2=>by omega)
  obtain ⟨i,hi⟩:∃ i,t=A+i:=⟨t-A,by omega⟩
  obtain ⟨j,hj⟩:∃ j,D+M-t=M+j:=⟨D-t,by omega⟩
  have iu:i≤u.length:=by omega
  have jv:j≤v.length:=by omega
  have ij:i+j=D-A:=by omega
  have a0:(u.take i).length=i:=by rw [List.length_take];omega
  have a2:(u.drop i).length=u.length-i:=List.length_drop
  have a1:(v.take j).length=j:=by rw [List.length_take];omega
  have a3:(v.drop j).length=v.length-j:=List.length_drop
  have k1:i+j<N:=by omega
  have k2:u.length-i+(v.length-j)<N:=by omega
  obtain ⟨r1,p1,s1,w1,n1⟩:=mg_opt p (u.take i) (v.take j) (u.drop i++v.drop j++q) (fun a b=>ih _ _ _ _ oz a b (by simp only [List.length_append,a0,a2,a1,a3];omega)) A t D hA oz oz
  have a4:r1.length=i+j:=by rw [p1.length_eq,List.length_append,a0,a1]
  obtain ⟨r2,p2,s2,w2,n2⟩:=mg_opt (p++r1) (u.drop i) (v.drop j) q (fun a b=>ih _ _ _ _ oz a b (by simp only [List.length_append,a0,a2,a1,a3];omega)) D (M+j) B (by rw [List.length_append];omega) (by rw [List.length_append];omega) (by rw [List.length_append];omega)
  refine ⟨r1++r2,Xe i j p1 p2,fun hBd hsu hsv=>?_,t5 _ ?_⟩
  · have Bu:Bds u:=fun z hz=>hBd z (List.mem_append_left _ hz)
    have Bv:Bds v:=fun z hz=>hBd z (List.mem_append_right _ hz)
    have au:∀ i,i<u.length→Ah (p++u++v++q) (A+i)=Ah u i:=fun i hi=>by rw [hA];exact at_u p u v q i hi
    have av:∀ i,i<v.length→Ah (p++u++v++q) (M+i)=Ah v i:=fun i hi=>by rw [hM];exact at_v p u v q i hi
    refine merge_pw i j iu jv hsu hsv ?_ ?_ p1 p2 (s1 (fun z hz=>?_) (hsu.sublist (List.take_sublist _ _)) (hsv.sublist (List.take_sublist _ _))) (s2 (fun z hz=>?_) (hsu.sublist (List.drop_sublist _ _)) (hsv.sublist (List.drop_sublist _ _)))
    · by_cases c:i=0
      · exact Or.inl c
      by_cases c2:j=v.length
      · exact Or.inr (Or.inl c2)
      · rcases t3 with t3|t3
        · omega
        · rw [hj,av j oz,show t-1=A+(i-1) by omega,au _ oz] at t3
          exact Or.inr (Or.inr (Nx (Jr Bu oz) (Jr Bv oz) t3))
    · by_cases c:j=0
      · exact Or.inl c
      by_cases c2:i=u.length
      · exact Or.inr (Or.inl c2)
      · rcases t4 with t4|t4
        · omega
        · rw [show D+M-1-t=M+(j-1) by omega,av _ oz,hi,au _ oz] at t4
          exact Or.inr (Or.inr (Ms (Jr Bv oz) (Jr Bu oz) t4))
    · rcases List.mem_append.1 hz with hz|hz
      · exact Bu z (List.mem_of_mem_take hz)
      · exact Bv z (List.mem_of_mem_take hz)
    · rcases List.mem_append.1 hz with hz|hz
      · exact Bu z (List.mem_of_mem_drop hz)
      · exact Bv z (List.mem_of_mem_drop hz)
  · rw [show wrap64 (((D+M:Nat):Int)-(t:Int))=((M+j:Nat):Int) by rw [Af oz oz];omega]
    have:=sm_behind p (u.take i) (u.drop i) (v.take j) (v.drop j) q r1 r2 A M B D t (M+j) hA oz oz oz oz oz oz w1 n1 w2 n2
    rw [List.take_append_drop,List.take_append_drop] at this
    exact this
theorem sm_ev:∀ (N:Nat) (p u v q:List Sq),u.length+v.length=N→1≤u.length→1≤v.length→p.length+u.length+v.length+q.length≤1099511627→Mg p u v q:=by
  intro N
  induction N using Nat.strongRecOn with
  | _ N ih =>
    intro p u v q hN hu hv hl a m b ha hm hb
    by_cases cu:u.length=1
    · obtain ⟨s,rfl⟩:=List.length_eq_one_iff.1 cu
      obtain ⟨r,r1,r2,r3⟩:=sm_one_u p s v q (by simpa using hl) a m b ha (by simpa using hm) (by simpa using hb)
      refine ⟨r,r1,fun x _ y=>r2 x y,Ev.succ ?_⟩
      simp only [zSym.f]
      exact Ev.pos (by rw [Af oz oz];omega) r3
    by_cases cv:v.length=1
    · obtain ⟨y,rfl⟩:=List.length_eq_one_iff.1 cv
      obtain ⟨r,r1,r2,r3⟩:=sm_one_v p u y q (by simpa using hl) a m ha hm
      refine ⟨r,r1,fun x z _=>r2 x z,Ev.succ ?_⟩
      simp only [zSym.f]
      exact Ev.neg (by rw [Af oz oz];omega) (Ev.pos (by rw [Af oz oz];omega) r3)
    obtain ⟨A,hA⟩:∃ A,A=p.length:=⟨_,rfl⟩
    obtain ⟨M,hM⟩:∃ M,M=p.length+u.length:=⟨_,rfl⟩
    obtain ⟨B,hB⟩:∃ B,B=p.length+u.length+v.length:=⟨_,rfl⟩
    obtain ⟨D,hD⟩:∃ D,D=(A+B)/2:=⟨_,rfl⟩
    have aA:a=(A:Int):=by omega
    have mM:m=(M:Int):=by omega
    have bB:b=(B:Int):=by omega
    have tail:=sm_tail N (fun p u v q h1 h2 h3 h4=>ih _ h1 p u v q rfl h2 h3 h4) p u v q hN oz oz hl A M B D hA hM hB hD
    have j4:∀ (S T0:Int) (R:List Sq),Ev (fun k=>zSym.l4 k (p++u++v++q) A M B D ((D+M:Nat):Int) S T0 (((D+M:Nat):Int)-1)) R→Ev (fun k=>zSym.j4 k (p++u++v++q) A M B D ((D+M:Nat):Int) S T0) R:=by
      intro S T0 R h
      refine Ev.succ ?_
      simp only [zSym.j4]
      rw [Af (n:=((D+M:Nat):Int)-1) oz oz]
      exact h
    rw [aA,mM,bB]
    clear aA mM bB ih
    by_cases c:D<M
    · obtain ⟨r,h1,h2,h3⟩:=tail (D+M-B) D (Or.inr ⟨rfl,rfl,c⟩)
      clear tail
      refine ⟨r,h1,h2,Ev.succ ?_⟩
      have eh:=Mf A B oz
      rw [← hD] at eh
      have en:wrap64 ((D:Int)+(M:Int))=((D+M:Nat):Int):=by clear eh;rw [Af oz oz];omega
      have es:wrap64 (((D+M:Nat):Int)-(B:Int))=(((D+M:Nat):Int)-(B:Int)):=by clear eh en;exact Af oz oz
      simp only [zSym.f,eh,en,es]
      clear eh en es
      refine Ev.neg (by rw [Af oz oz];omega) (Ev.neg (by rw [Af oz oz];omega) (Ev.pos oz (j4 _ _ _ ?_)))
      rw [show ((D+M:Nat):Int)-(B:Int)=((D+M-B:Nat):Int) by omega]
      exact h3
    · obtain ⟨r,h1,h2,h3⟩:=tail A M (Or.inl ⟨rfl,rfl,by omega⟩)
      clear tail
      refine ⟨r,h1,h2,Ev.succ ?_⟩
      have eh:=Mf A B oz
      rw [← hD] at eh
      have en:wrap64 ((D:Int)+(M:Int))=((D+M:Nat):Int):=by clear eh;rw [Af oz oz];omega
      simp only [zSym.f,eh,en]
      clear eh en
      exact Ev.neg (by rw [Af oz oz];omega) (Ev.neg (by rw [Af oz oz];omega) (Ev.neg oz (j4 _ _ _ h3)))

/-! ### the stable sort: short parts by insertion, then merges -/
/-- what lies at j goes left past what is greater -/
theorem is_l1 (p rest : List Sq) (a b i : Int) (s : Sq) : ∀ (n : Nat) (d1 d2 : List Sq), d1.length = n → p.length + d1.length + d2.length + 1 + rest.length ≤ 1099511627 → a = p.length →
    ∃ d',d'.Perm (s::(d1++d2))∧(Bds (s::(d1++d2))→(d1++d2).Pairwise LeP→(∀ z ∈ d2,LeP s z)→d'.Pairwise LeP) ∧
      ∀ R,Ev (fun k=>zIns.l0 k (p++d'++rest) a b (wrap64 (i+1))) R→Ev (fun k=>zIns.l1 k (p++(d1++s::d2)++rest) a b i ((p.length+d1.length:Nat):Int)) R
  | 0,d1,d2,hn,hl,ha=>by
    obtain rfl:=List.length_eq_zero_iff.1 hn
    refine ⟨s::d2,List.Perm.refl _,fun _ h1 h2=>List.pairwise_cons.2 ⟨h2,h1⟩,fun R hR=>Ev.succ ?_⟩
    simp only [zIns.l1]
    refine Ev.neg (by simp only [List.length_nil];omega) ?_
    exact hR
  | n+1,d1,d2,hn,hl,ha=>by
    obtain ⟨d3,z,rfl⟩:∃ d3 z,d1=d3++[z]:=⟨d1.dropLast,d1.getLast (by intro e;rw [e] at hn;simp at hn),(List.dropLast_concat_getLast _).symm⟩
    simp only [List.length_append,List.length_singleton] at hn hl
    have hlen:(p++(d3++[z]++s::d2)++rest).length=p.length+d3.length+d2.length+2+rest.length:=by simp;omega
    have e0:p++(d3++[z]++s::d2)++rest=(p++d3)++z::s::(d2++rest):=by simp
    have asx:Ah ((p++d3)++z::s::(d2++rest)) (p.length+d3.length+1)=s:=by
      rw [show (p++d3)++z::s::(d2++rest)=(p++d3++[z])++s::(d2++rest) by simp]
      exact Q8 _ _ _ _ (by simp;omega)
    have az:Ah ((p++d3)++z::s::(d2++rest)) (p.length+d3.length)=z:=Q8 _ _ _ _ (by simp)
    have sw:=M9 (p++d3) [] (d2++rest) z s (p.length+d3.length) (p.length+d3.length+1) (by simp) (by simp)
    simp only [List.nil_append] at sw
    rw [asx,az] at sw
    by_cases hP:Jl s z<0
    · obtain ⟨d',h1,h2,h3⟩:=is_l1 p rest a b i s n d3 (z::d2) oz (by rw [List.length_cons];omega) ha
      refine ⟨d',?_,fun hB hs hz=>?_,fun R hR=>Ev.succ ?_⟩
      · rw [show d3++[z]++d2=d3++z::d2 by simp];exact h1
      · rw [show d3++[z]++d2=d3++z::d2 by simp] at hB hs
        refine h2 hB hs (fun y hy=>?_)
        rcases List.mem_cons.1 hy with rfl|hy
        · exact Ms (hB s List.mem_cons_self) (hB y (by simp)) hP
        · exact hz y hy
      · have e1 : wrap64 (((p.length + (d3 ++ [z]).length : Nat) : Int) - 1) = ((p.length + d3.length : Nat) : Int) := by
          rw [List.length_append,List.length_singleton,Af oz oz];omega
        simp only [zIns.l1,e1]
        clear e1
        rw [List.length_append,List.length_singleton,e0]
        rw [e0] at hlen
        simp only [Gm,Kn,Option.bind_some,Nw,Int.toNat_natCast,← Nat.add_assoc,asx,az]
        refine Ev.pos oz (Ev.pos oz (Ev.pos oz (Ev.pos oz (Ev.pos oz (Ev.pos hP ?_)))))
        have comm:∀ (l:List Sq) (i j:Nat) (x' y':Sq),i≠j→(l.set i x').set j y'=(l.set j y').set i x':=fun l i j x' y' h=>List.set_comm x' y' h
        rw [comm _ _ _ _ _ oz,sw]
        have:=h3 R hR
        rw [show p++(d3++s::z::d2)++rest=p++d3++s::z::(d2++rest) by simp] at this
        exact this
    · refine ⟨d3++[z]++s::d2,?_,fun hB hs hz=>?_,fun R hR=>Ev.succ ?_⟩
      · exact List.perm_middle
      · have hBz:BdS z:=hB z (by simp)
        have hBs:BdS s:=hB s List.mem_cons_self
        have zs:LeP z s:=Nx hBz hBs hP
        have hp:=List.pairwise_append.1 hs
        refine List.pairwise_append.2 ⟨hp.1,List.pairwise_cons.2 ⟨hz,hp.2.1⟩,fun y hy w hw=>?_⟩
        have yz:LeP y z:=by
          rcases List.mem_append.1 hy with hy|hy
          · exact (List.pairwise_append.1 hp.1).2.2 y hy z (by simp)
          · rw [List.mem_singleton.1 hy];unfold LeP D2;omega
        rcases List.mem_cons.1 hw with rfl|hw
        · exact LeP.trans yz zs
        · exact hp.2.2 y hy w hw
      · have e1 : wrap64 (((p.length + (d3 ++ [z]).length : Nat) : Int) - 1) = ((p.length + d3.length : Nat) : Int) := by
          rw [List.length_append,List.length_singleton,Af oz oz];omega
        simp only [zIns.l1,e1]
        clear e1
        rw [e0] at hR
        rw [List.length_append,List.length_singleton,e0]
        rw [e0] at hlen
        simp only [Gm,Kn,Option.bind_some,Nw,Int.toNat_natCast,← Nat.add_assoc,asx,az]
        exact Ev.pos oz (Ev.pos oz (Ev.pos oz (Ev.pos oz (Ev.pos oz (Ev.neg hP hR)))))
theorem is_l0 (p rest : List Sq) (a b : Int) (ha : a = p.length) : ∀ (todo done : List Sq), p.length + done.length + todo.length + rest.length ≤ 1099511627 → b = p.length + done.length + todo.length →
    ∃ w,w.Perm (done++todo)∧(Bds (done++todo)→done.Pairwise LeP→w.Pairwise LeP)∧Ev (fun k=>zIns.l0 k (p++done++(todo++rest)) a b ((p.length+done.length:Nat):Int)) (p++w++rest)
  | [],done,hl,hb=>by
    refine ⟨done,by simp,fun _ h=>h,Ev.succ ?_⟩
    simp only [List.length_nil] at hb
    simp only [zIns.l0]
    exact Ev.neg oz (Ev.eqr (Ev.now _) (by simp))
  | s::todo,done,hl,hb=>by
    simp only [List.length_cons] at hl hb
    obtain ⟨d',h1,h2,h3⟩:=is_l1 p (todo++rest) a b ((p.length+done.length:Nat):Int) s done.length done [] rfl (by simp only [List.length_nil,List.length_append];omega) ha
    rw [List.append_nil] at h1 h2
    have ld:d'.length=done.length+1:=by rw [h1.length_eq,List.length_cons]
    obtain ⟨w,w1,w2,w3⟩:=is_l0 p rest a b ha todo d' oz oz
    refine ⟨w,?_,fun hB hs=>?_,Ev.succ ?_⟩
    · refine w1.trans ((h1.append_right todo).trans ?_)
      exact List.perm_middle.symm
    · have hB':Bds (s::done):=fun z hz=>hB z (by rcases List.mem_cons.1 hz with rfl|hz <;> simp [*])
      refine w2 (fun z hz=>?_) (h2 hB' hs (fun z hz=>by cases hz))
      rcases List.mem_append.1 hz with hz|hz
      · exact hB' z (h1.mem_iff.1 hz)
      · exact hB z (by simp [hz])
    · simp only [zIns.l0]
      refine Ev.pos oz ?_
      have:=h3 _ (by
        rw [Af (n:=((p.length+done.length:Nat):Int)+1) oz oz,show ((p.length+done.length:Nat):Int)+1=((p.length+d'.length:Nat):Int) by omega]
        exact w3)
      rw [show p++(done++[s])++(todo++rest)=p++done++(s::todo++rest) by simp] at this
      exact this
theorem is_ev (p w rest : List Sq) (hl : p.length + w.length + rest.length ≤ 1099511627) (a b : Int) (ha : a = p.length) (hb : b = p.length + w.length) :
    ∃ r,r.Perm w∧(Bds w→r.Pairwise LeP)∧Ev (fun k=>zIns.f k (p++w++rest) a b) (p++r++rest):=by
  unfold zIns.f
  cases w with
  | nil =>
    refine ⟨[],List.Perm.refl _,fun _=>List.Pairwise.nil,Ev.succ ?_⟩
    simp only [zIns.l0]
    simp only [List.length_nil] at hb
    exact Ev.neg (by rw [Af oz oz];omega) (Ev.now _)
  | cons s t =>
    simp only [List.length_cons] at hl hb
    obtain ⟨r,r1,r2,r3⟩:=is_l0 p rest a b ha t [s] (by simp only [List.length_singleton];omega) (by simp only [List.length_singleton];omega)
    refine ⟨r,by simpa using r1,fun hB=>r2 (by simpa using hB) (List.pairwise_singleton _ _),?_⟩
    rw [Af oz oz,show a+1=((p.length+[s].length:Nat):Int) by simp only [List.length_singleton];omega]
    rw [show p++[s]++(t++rest)=p++(s::t)++rest by simp] at r3
    exact r3
/-- parts of n, each in order; the last one may be shorter -/
inductive BS (n:Nat):List Sq→Prop
  | last (l:List Sq) (h:l.length≤n) (s:l.Pairwise LeP):BS n l
  | cons (u t:List Sq) (h:u.length=n) (s:u.Pairwise LeP) (k:BS n t):BS n (u++t)
theorem Qv {n:Nat} {l u t:List Sq} (hn:1≤n) (h:BS n l) (e:l=u++t) (hu:u.length=n):u.Pairwise LeP∧BS n t:=by
  cases h with
  | last _ h1 h2 =>
    have h1:l.length≤n:=h1
    have:t=[]:=by
      have:(u++t).length≤n:=by rw [← e];exact h1
      rw [List.length_append] at this
      exact List.length_eq_zero_iff.1 oz
    subst this
    rw [List.append_nil] at e
    subst e
    exact ⟨h2,BS.last [] (by simp) List.Pairwise.nil⟩
  | cons u' t' h1 h2 h3 =>
    obtain ⟨rfl,rfl⟩:=List.append_inj e oz
    exact ⟨h2,h3⟩
theorem Na {n:Nat} {l:List Sq} (h:BS n l) (hl:l.length≤n):l.Pairwise LeP:=by
  cases h with
  | last _ _ h2=>exact h2
  | cons u t h1 h2 h3 =>
    have:t=[]:=by rw [List.length_append] at hl;exact List.length_eq_zero_iff.1 oz
    subst this;rw [List.append_nil];exact h2
theorem U9 {a b:List Sq} (h:a.Perm b) (hb:Bds b):Bds a:=fun z hz=>hb z (h.mem_iff.1 hz)
theorem Va {a b:List Sq} (h:Bds (a++b)):Bds a:=fun z hz=>h z (List.mem_append_left _ hz)
theorem Ui {a b:List Sq} (h:Bds (a++b)):Bds b:=fun z hz=>h z (List.mem_append_right _ hz)
theorem st_l0 : ∀ (N : Nat) (done rest : List Sq), rest.length ≤ N → done.length + rest.length ≤ 536870912 →
    ∃ w,w.Perm rest∧(Bds rest→BS 20 w)∧∀ R,Ev (fun k=>zStb.l1 k (done++w) ((done.length+rest.length:Nat):Int) 20) R →
      Ev (fun k=>zStb.l0 k (done++rest) ((done.length+rest.length:Nat):Int) 20 (done.length:Int) ((done.length:Int)+20)) R:=by
  intro N
  induction N with
  | zero =>
    intro done rest hN hl
    obtain rfl:=List.length_eq_zero_iff.1 (show rest.length=0 by omega)
    obtain ⟨r,r1,r2,r3⟩:=is_ev done [] [] (by simp;omega) (done.length:Int) ((done.length+0:Nat):Int) rfl (by simp)
    obtain rfl:=List.length_eq_zero_iff.1 (show r.length=0 by rw [r1.length_eq];rfl)
    refine ⟨[],List.Perm.refl _,fun _=>BS.last _ (by simp) List.Pairwise.nil,fun R hR=>Ev.succ ?_⟩
    simp only [zStb.l0,List.length_nil]
    refine Ev.neg oz (Ev.bind (by simpa using r3) ?_)
    simpa using hR
  | succ N ih =>
    intro done rest hN hl
    by_cases c:rest.length<20
    · obtain ⟨r,r1,r2,r3⟩:=is_ev done rest [] (by simp;omega) (done.length:Int) ((done.length+rest.length:Nat):Int) rfl oz
      refine ⟨r,r1,fun hB=>BS.last _ (by rw [r1.length_eq];omega) (r2 hB),fun R hR=>Ev.succ ?_⟩
      simp only [zStb.l0]
      simp only [List.append_nil] at r3
      exact Ev.neg oz (Ev.bind r3 hR)
    · have hsp:=List.take_append_drop 20 rest
      have lt:(rest.take 20).length=20:=by rw [List.length_take];omega
      have ld:(rest.drop 20).length=rest.length-20:=List.length_drop
      generalize rest.take 20=u at hsp lt
      generalize rest.drop 20=t at hsp ld
      subst hsp
      rw [List.length_append] at ld hN hl c
      obtain ⟨r,r1,r2,r3⟩:=is_ev done u t oz (done.length:Int) ((done.length:Int)+20) rfl oz
      have lr:r.length=20:=by rw [r1.length_eq];exact lt
      obtain ⟨w,w1,w2,w3⟩:=ih (done++r) t oz (by rw [List.length_append];omega)
      refine ⟨r++w,r1.append w1,fun hB=>BS.cons r w lr (r2 (Va hB)) (w2 (Ui hB)),fun R hR=>Ev.succ ?_⟩
      have hlen:((done++r).length+t.length:Nat)=done.length+(u++t).length:=by rw [List.length_append,List.length_append];omega
      rw [hlen] at w3
      simp only [zStb.l0]
      refine Ev.pos (by rw [List.length_append];omega) ?_
      rw [show done++(u++t)=done++u++t by simp]
      refine Ev.bind r3 ?_
      rw [Af (n:=(done.length:Int)+20+20) oz oz]
      have:=w3 R (by rw [show done++r++w=done++(r++w) by simp];exact hR)
      rw [show (done++r).length=done.length+r.length from List.length_append,lr] at this
      rw [show ((done.length+20:Nat):Int)=(done.length:Int)+20 by omega] at this
      exact this
theorem st_l2 (bs : Nat) (hb : 1 ≤ bs ∧ bs ≤ 1073741824) : ∀ (N : Nat) (done rest : List Sq), rest.length ≤ N → done.length + rest.length ≤ 536870912 →
    ∃ w,w.Perm rest∧(Bds rest→BS bs rest→BS (2*bs) w)∧∀ R,Ev (fun k=>zStb.l1 k (done++w) ((done.length+rest.length:Nat):Int) ((2*bs:Nat):Int)) R →
      Ev (fun k=>zStb.l2 k (done++rest) ((done.length+rest.length:Nat):Int) (bs:Int) (done.length:Int) ((done.length+2*bs:Nat):Int)) R:=by
  intro N
  induction N with
  | zero =>
    intro done rest hN hl
    obtain rfl:=List.length_eq_zero_iff.1 (show rest.length=0 by omega)
    refine ⟨[],List.Perm.refl _,fun _ _=>BS.last _ (by simp) List.Pairwise.nil,fun R hR=>Ev.succ ?_⟩
    simp only [zStb.l2]
    refine Ev.neg (by simp only [List.length_nil];omega) (Ev.neg (by rw [Af oz oz];simp only [List.length_nil];omega) ?_)
    rw [Af (n:=(bs:Int)*2) oz oz,show (bs:Int)*2=((2*bs:Nat):Int) by omega]
    exact hR
  | succ N ih =>
    intro done rest hN hl
    by_cases c1:rest.length≤bs
    · refine ⟨rest,List.Perm.refl _,fun _ h=>BS.last _ oz (Na h c1),fun R hR=>Ev.succ ?_⟩
      simp only [zStb.l2]
      refine Ev.neg oz (Ev.neg (by rw [Af oz oz];omega) ?_)
      rw [Af (n:=(bs:Int)*2) oz oz,show (bs:Int)*2=((2*bs:Nat):Int) by omega]
      exact hR
    · have hsp:=List.take_append_drop bs rest
      have lt:(rest.take bs).length=bs:=by rw [List.length_take];omega
      have ld:(rest.drop bs).length=rest.length-bs:=List.length_drop
      generalize rest.take bs=u at hsp lt
      generalize rest.drop bs=t at hsp ld
      subst hsp
      rw [List.length_append] at ld hN hl c1
      by_cases c2:t.length<bs
      · obtain ⟨r,r1,r2,r3⟩:=sm_ev _ done u t [] rfl oz oz (by simp only [List.length_nil];omega) (done.length:Int) (wrap64 ((done.length:Int)+(bs:Int))) ((done.length+(u++t).length:Nat):Int) rfl (by rw [Af oz oz];omega) (by rw [List.length_append];omega)
        refine ⟨r,r1,fun hB h=>?_,fun R hR=>Ev.succ ?_⟩
        · obtain ⟨s1,s2⟩:=Qv hb.1 h rfl lt
          exact BS.last _ (by rw [r1.length_eq,List.length_append];omega) (r2 hB s1 (Na s2 oz))
        · simp only [zStb.l2]
          simp only [List.append_nil] at r3
          rw [show done++u++t=done++(u++t) by simp] at r3
          refine Ev.neg (by rw [List.length_append];omega) (Ev.pos (by rw [Af oz oz,List.length_append];omega) (Ev.bind r3 ?_))
          rw [Af (n:=(bs:Int)*2) oz oz,show (bs:Int)*2=((2*bs:Nat):Int) by omega]
          exact hR
      · have a0:=List.take_append_drop bs t
        have a2:(t.take bs).length=bs:=by rw [List.length_take];omega
        have a1:(t.drop bs).length=t.length-bs:=List.length_drop
        generalize t.take bs=v at a0 a2
        generalize t.drop bs=q at a0 a1
        subst a0
        rw [List.length_append] at ld a1 hN hl c1 c2
        obtain ⟨r,r1,r2,r3⟩:=sm_ev _ done u v q rfl oz oz oz (done.length:Int) (wrap64 ((done.length:Int)+(bs:Int))) ((done.length+2*bs:Nat):Int) rfl (by rw [Af oz oz];omega) oz
        have lr:r.length=2*bs:=by rw [r1.length_eq,List.length_append];omega
        obtain ⟨w,w1,w2,w3⟩:=ih (done++r) q oz (by rw [List.length_append];omega)
        refine ⟨r++w,?_,fun hB h=>?_,fun R hR=>Ev.succ ?_⟩
        · rw [← List.append_assoc];exact r1.append w1
        · obtain ⟨s1,s2⟩:=Qv hb.1 h rfl lt
          obtain ⟨s3,s4⟩:=Qv hb.1 s2 rfl a2
          rw [← List.append_assoc] at hB
          exact BS.cons r w lr (r2 (Va hB) s1 s3) (w2 (Ui hB) s4)
        · have hlen:((done++r).length+q.length:Nat)=done.length+(u++(v++q)).length:=by rw [List.length_append,List.length_append,List.length_append];omega
          rw [hlen] at w3
          simp only [zStb.l2]
          refine Ev.pos (by rw [List.length_append,List.length_append];omega) ?_
          rw [show done++(u++(v++q))=done++u++v++q by simp]
          refine Ev.bind r3 ?_
          rw [Af (n:=2*(bs:Int)) oz oz,Af (n:=((done.length+2*bs:Nat):Int)+2*(bs:Int)) oz oz]
          have:=w3 R (by rw [show done++r++w=done++(r++w) by simp];exact hR)
          rw [show (done++r).length=done.length+r.length from List.length_append,lr] at this
          rw [show ((done.length+2*bs+2*bs:Nat):Int)=((done.length+2*bs:Nat):Int)+2*(bs:Int) by omega] at this
          exact this
theorem st_l1 (n : Nat) (hn : n ≤ 536870912) : ∀ (d bs : Nat) (l : List Sq), n - bs ≤ d → 1 ≤ bs → bs ≤ 1073741824 → l.length = n →
    ∃ w,w.Perm l∧(Bds l→BS bs l→w.Pairwise LeP)∧Ev (fun k=>zStb.l1 k l (n:Int) (bs:Int)) w:=by
  intro d
  induction d with
  | zero =>
    intro bs l hd h1 h2 hl
    refine ⟨l,List.Perm.refl _,fun _ h=>Na h oz,Ev.succ ?_⟩
    simp only [zStb.l1]
    exact Ev.neg oz (Ev.now _)
  | succ d ih =>
    intro bs l hd h1 h2 hl
    by_cases c:bs<n
    · obtain ⟨w,w1,w2,w3⟩:=st_l2 bs ⟨h1,h2⟩ l.length [] l (Nat.le_refl _) (by simp;omega)
      obtain ⟨r,r1,r2,r3⟩:=ih (2*bs) w oz oz oz (by rw [w1.length_eq];exact hl)
      refine ⟨r,r1.trans w1,fun hB h=>r2 (U9 w1 hB) (w2 hB h),Ev.succ ?_⟩
      simp only [zStb.l1]
      refine Ev.pos oz ?_
      rw [Af (n:=2*(bs:Int)) oz oz]
      have:=w3 r (by simp only [List.nil_append,List.length_nil,Nat.zero_add];rw [hl];exact r3)
      simp only [List.nil_append,List.length_nil,Nat.zero_add] at this
      rw [hl] at this
      rw [show ((2*bs:Nat):Int)=2*(bs:Int) by omega] at this
      exact this
    · refine ⟨l,List.Perm.refl _,fun _ h=>Na h oz,Ev.succ ?_⟩
      simp only [zStb.l1]
      exact Ev.neg oz (Ev.now _)
theorem stable_ev (l:List Sq) (hl:l.length≤536870912):∃ r,r.Perm l∧(Bds l→r.Pairwise LeP)∧Ev (fun k=>zSSF.f k l) r:=by
  obtain ⟨w,w1,w2,w3⟩:=st_l0 l.length [] l (Nat.le_refl _) (by simp;omega)
  obtain ⟨r,r1,r2,r3⟩:=st_l1 l.length hl l.length 20 w oz oz oz w1.length_eq
  refine ⟨r,r1.trans w1,fun hB=>r2 (U9 w1 hB) (w2 hB),?_⟩
  unfold zSSF.f zStb.f
  have:=w3 r (by simpa using r3)
  simp only [List.nil_append,List.length_nil,Nat.zero_add] at this
  exact Ev.bind (by simpa using this) (Ev.now _)

/-! ### a cut of squares in whichever order: the program -/
noncomputable def srt (l:List Sq):List Sq:=l.mergeSort (fun a b => !decide (D2 b a))
theorem K8 (l:List Sq):(srt l).Perm l:=List.mergeSort_perm l _
theorem Q9 (l:List Sq):(srt l).Pairwise LeP:=by
  have h:=List.pairwise_mergeSort (le:=fun a b:Sq => !decide (D2 b a)) (fun a b c h1 h2=>by simp only [Bool.not_eq_true',decide_eq_false_iff_not] at *;exact LeP.trans (show LeP a b from h1) h2) (fun a b=>by simp only [Bool.or_eq_true,Bool.not_eq_true',decide_eq_false_iff_not];unfold D2;omega) l
  refine List.Pairwise.imp (fun {a b} h=>?_) h
  simpa [LeP] using h
theorem Uj {W H:Int} {l:List Sq} (hg:Cv W H l):Dist l:=by
  intro a ha b hb e0 e1
  have i1:=(hg.2.2.2.1)
  have g1:∀ s ∈ l,Ins W H s:=fun s hs=>by
    obtain ⟨j,hj,rfl⟩:=List.mem_iff_getElem.1 hs
    rw [← Cm l j hj];exact (i1 j hj).1
  obtain ⟨i,hi,rfl⟩:=List.mem_iff_getElem.1 ha
  obtain ⟨j,hj,rfl⟩:=List.mem_iff_getElem.1 hb
  have p1:=g1 _ ha
  have p2:=g1 _ hb
  rw [← Cm l i hi] at p1 e0 e1 ⊢
  rw [← Cm l j hj] at p2 e0 e1 ⊢
  have ov:Ovl (Ah l i) (Ah l j):=by unfold Ins at p1 p2;unfold Ovl;omega
  rcases Nat.lt_trichotomy i j with h|h|h
  · exact absurd (show Ovl (Ah l j) (Ah l i) from ⟨ov.2.1,ov.1,ov.2.2.2,ov.2.2.1⟩) ((i1 j hj).2.2 i h)
  · rw [h]
  · exact absurd ov ((i1 i hi).2.2 j h)
theorem Vb {W H:Int} {l:List Sq} (hg:Cv W H l):Bds l:=by
  intro s hs
  obtain ⟨j,hj,rfl⟩:=List.mem_iff_getElem.1 hs
  have:=(hg.2.2.2.1 j hj).1
  rw [Cm l j hj] at this
  have h1:=hg.1.2
  have h2:=hg.2.1.2
  unfold Ins at this
  unfold BdS
  omega
/-- the sorted list is a cut, or no list of these squares in order is one -/
theorem Vc {W H:Int} {l r:List Sq} (hp:r.Perm l) (hs:r.Pairwise LeP):(Cv W H r↔Cv W H (srt l))∧(Cv W H r→r=srt l):=by
  have e:Cv W H r→r=srt l:=fun hg=>G7 (fun a ha b hb=>Uj hg a (hp.mem_iff.2 ha) b (hp.mem_iff.2 hb)) hp (K8 l) hs (Q9 l)
  have e':Cv W H (srt l)→r=srt l:=fun hg=>G7 (fun a ha b hb=>Uj hg a ((K8 l).mem_iff.2 ha) b ((K8 l).mem_iff.2 hb)) hp (K8 l) hs (Q9 l)
  exact ⟨⟨fun h=>e h ▸ h,fun h=>(e' h).symm ▸ h⟩,e⟩
open Classical in
noncomputable def Ny (W H:Int) (l:List Sq):Int×Int×List Sq×Bool:=if Cv W H (srt l) then (W,H,srt l,true) else (0,0,[],false)
theorem cutOfV_len (W H:Int) (l:List Sq):(Ny W H l).2.2.1.length≤30:=by
  unfold Ny;split
  · rename_i h;exact h.2.2.1.2
  · simp
theorem Uw (W H:Int) (l:List Sq) (hl:l.length≤536870912):Ev (fun k=>Ir.f k W H l) (Ny W H l):=by
  obtain ⟨r,hp,hs,hev⟩:=stable_ev l hl
  unfold Ir.f
  refine Ev.bindc (a:=l) ?_ (Ev.bind hev (Ev.bind (Ur W H r) ?_))
  · unfold Ea.f
    rw [Option.bind_some,if_pos (by simp;omega),List.nil_append]
  · unfold Ny
    by_cases hB:Bds l
    · obtain ⟨h1,h2⟩:=Vc (W:=W) (H:=H) hp (hs hB)
      by_cases hg:Cv W H r
      · rw [if_pos (h1.1 hg),h2 hg]
        rw [h2 hg] at hg
        exact Ev.pos (by simpa using hg) (Ev.now _)
      · rw [if_neg (fun h=>hg (h1.2 h))]
        exact Ev.neg (by simpa using hg) (Ev.now _)
    · have n1:¬ Cv W H r:=fun h=>hB (fun z hz=>Vb h z (hp.mem_iff.2 hz))
      have n2:¬ Cv W H (srt l):=fun h=>hB (fun z hz=>Vb h z ((K8 l).mem_iff.2 hz))
      rw [if_neg n2]
      exact Ev.neg (by simpa using n1) (Ev.now _)

/-! ### cuts of sides: each one at the first column that is filled least -/
def It (F:List Int):Nat→Nat
  | 0=>0
  | n+1=>if F.getD n 0<F.getD (It F n) 0 then n else It F n
def Ce (F:List Int):Nat:=It F F.length
theorem I3 (F:List Int):∀ n,1≤n→It F n<n∧(∀ c,c<n→F.getD (It F n) 0≤F.getD c 0)∧∀ c,c<It F n→F.getD (It F n) 0<F.getD c 0
  | 0,h=>by omega
  | 1,_=>by
    have:It F 1=0:=by unfold It;rw [if_neg (by unfold It;omega)];rfl
    rw [this]
    exact ⟨by omega,fun c hc=>by rw [show c=0 by omega];omega,fun c hc=>by omega⟩
  | n+2,_=>by
    obtain ⟨h1,h2,h3⟩:=I3 F (n+1) oz
    rw [It]
    by_cases h:F.getD (n+1) 0<F.getD (It F (n+1)) 0
    · rw [if_pos h]
      refine ⟨by omega,fun c hc=>?_,fun c hc=>?_⟩
      · by_cases e:c=n+1
        · rw [e];omega
        · have:=h2 c oz;omega
      · have:=h2 c oz;omega
    · rw [if_neg h]
      refine ⟨by omega,fun c hc=>?_,h3⟩
      by_cases e:c=n+1
      · rw [e];omega
      · exact h2 c oz
def Jm (F:List Int) (x:Nat) (v:Int):Nat→List Int
  | 0=>F
  | d+1=>(Jm F x v d).set (x+d) v
theorem Jx (F:List Int) (x:Nat) (v:Int):∀ d,(Jm F x v d).length=F.length
  | 0=>rfl
  | d+1=>by rw [Jm,List.length_set,Jx F x v d]
theorem getD_setI (s:List Int) (i m:Nat) (v:Int) (hi:i<s.length):(s.set i v).getD m 0=if m=i then v else s.getD m 0:=by
  by_cases e:m=i
  · subst e;simp [List.getD,hi]
  · have e':i≠m:=fun h=>e h.symm
    simp [List.getD,e,e']
theorem Mt (F:List Int) (x:Nat) (v:Int):∀ d,x+d≤F.length→∀ c,(Jm F x v d).getD c 0=if x≤c∧c<x+d then v else F.getD c 0
  | 0,_,c=>by rw [Jm,if_neg oz]
  | d+1,h,c=>by
    rw [Jm,getD_setI _ _ _ _ (by rw [Jx];omega),Mt F x v d oz]
    by_cases e:c=x+d
    · rw [if_pos e,if_pos oz]
    · rw [if_neg e]
      by_cases e2:x≤c∧c<x+d
      · rw [if_pos e2,if_pos oz]
      · rw [if_neg e2,if_neg oz]
def Js (F:List Int) (s:Int):Prop:=(Ce F:Int)+s≤F.length∧∀ c:Nat,Ce F≤c→(c:Int)<(Ce F:Int)+s→F.getD c 0=F.getD (Ce F) 0
open Classical in
noncomputable def G5:List Int→List Int→List Sq→Option (List Int×List Sq)
  | [],F,l=>some (F,l)
  | s::t,F,l=>if Js F s then G5 t (Jm F (Ce F) (F.getD (Ce F) 0+s) s.toNat) (l++[⟨(Ce F:Int),F.getD (Ce F) 0,s⟩]) else none
/-- what holds of the columns and the squares that are put -/
structure FInv (W:Nat) (F:List Int) (l:List Sq):Prop where
  len:F.length=W
  low:∀ c,c<W→0≤F.getD c 0∧F.getD c 0≤500*(l.length:Int)
  top:∀ c,c<W→F.getD c 0=0∨∃ s ∈ l,F.getD c 0=s.f1+s.f2
  ord:∀ s ∈ l,∀ c,c<W→s.f1<F.getD c 0∨s.f1=F.getD c 0∧s.f0<c
  srt:l.Pairwise D2
  sum:F.sum=G9 l
theorem sum_set:∀ (F:List Int) (i:Nat) (v:Int),i<F.length→(F.set i v).sum=F.sum-F.getD i 0+v
  | [],i,v,h=>by simp at h
  | x::t,0,v,h=>by simp;omega
  | x::t,i+1,v,h=>by
    have:=sum_set t i v (by simpa using h)
    simp only [List.set_cons_succ,List.sum_cons,this,List.getD_cons_succ];omega
theorem Vd (F:List Int) (x:Nat) (y v:Int):∀ d:Nat,x+d≤F.length→(∀ c,x≤c→c<x+d→F.getD c 0=y)→(Jm F x v d).sum=F.sum+(d:Int)*(v-y)
  | 0,_,_=>by simp [Jm]
  | d+1,h,hy=>by
    rw [Jm,sum_set _ _ _ (by rw [Jx];omega),Vd F x y v d oz (fun c h1 h2=>hy c h1 oz),Mt F x v d oz,if_neg oz,hy (x+d) oz oz]
    grind
theorem Nz {W:Nat} (hW:1≤W) {F:List Int} {l:List Sq} (h:FInv W F l) {s:Int} (hs:1≤s∧s≤500) (ho:Js F s):FInv W (Jm F (Ce F) (F.getD (Ce F) 0+s) s.toNat) (l++[⟨(Ce F:Int),F.getD (Ce F) 0,s⟩]):=by
  obtain ⟨a1,a2,a3⟩:=I3 F F.length (by rw [h.len];exact hW)
  have hl:=h.len
  obtain ⟨o1,o2⟩:=ho
  change (Ce F)<F.length at a1
  change ∀ c,c<F.length→F.getD (Ce F) 0≤F.getD c 0 at a2
  change ∀ c,c<Ce F→F.getD (Ce F) 0<F.getD c 0 at a3
  have hat:=Mt F (Ce F) (F.getD (Ce F) 0+s) s.toNat oz
  have lowx:=h.low (Ce F) oz
  have hll:((l++[(⟨(Ce F:Int),F.getD (Ce F) 0,s⟩:Sq)]).length:Int)=l.length+1:=by simp
  refine ⟨by rw [Jx];exact hl,fun c hc=>?_,fun c hc=>?_,fun q hq c hc=>?_,?_,?_⟩
  · rw [hat,hll]
    have:=h.low c hc
    split <;> omega
  · rw [hat]
    split
    · right;exact ⟨_,List.mem_append_right _ (List.mem_singleton_self _),rfl⟩
    · rcases h.top c hc with e|⟨q,hq,e⟩
      · exact Or.inl e
      · exact Or.inr ⟨q,List.mem_append_left _ hq,e⟩
  · rw [hat]
    rcases List.mem_append.1 hq with hq|hq
    · have:=h.ord q hq c hc
      have h0:=h.ord q hq (Ce F) oz
      split
      · left;omega
      · exact this
    · rw [List.mem_singleton.1 hq]
      dsimp only
      split
      · left;omega
      · rename_i hn
        by_cases e:c<Ce F
        · left;exact a3 c e
        · have:=a2 c oz;omega
  · refine List.pairwise_append.2 ⟨h.srt,List.pairwise_singleton _ _,fun p hp q hq=>?_⟩
    rw [List.mem_singleton.1 hq]
    have:=h.ord p hp (Ce F) oz
    exact this
  · rw [Vd F (Ce F) (F.getD (Ce F) 0) _ s.toNat oz (fun c h1 h2=>o2 c h1 oz),h.sum,K7]
    simp only [G9]
    rw [Int.toNat_of_nonneg oz]
    grind
theorem finv_all {W:Nat} (hW:1≤W):∀ (t F:List Int) (l:List Sq),(∀ s ∈ t,1≤s∧s≤500)→FInv W F l→∀ F' l',G5 t F l=some (F',l')→FInv W F' l'∧l'.length=l.length+t.length
  | [],F,l,_,h,F',l',e=>by
    rw [G5] at e
    injection e with e
    injection e with e1 e2
    subst e1 e2
    exact ⟨h,by simp⟩
  | s::t,F,l,hs,h,F',l',e=>by
    rw [G5] at e
    split at e
    · rename_i ho
      have:=finv_all hW t _ _ (fun q hq=>hs q (List.mem_cons_of_mem _ hq)) (Nz hW h (hs s List.mem_cons_self) ho) F' l' e
      refine ⟨this.1,?_⟩
      have h2:=this.2
      simp only [List.length_append,List.length_cons,List.length_nil] at h2 ⊢
      omega
    · cases e
theorem sum_rep (n:Nat):(List.replicate n (0:Int)).sum=0:=by
  induction n with
  | zero=>rfl
  | succ n ih=>rw [List.replicate_succ,List.sum_cons,ih];rfl
theorem Ra (W:Nat):FInv W (List.replicate W 0) []:=by
  have h0:∀ c,c<W→(List.replicate W (0:Int)).getD c 0=0:=fun c hc=>by
    rw [List.getD_eq_getElem?_getD,List.getElem?_eq_getElem (by simpa using hc)];simp
  exact ⟨by simp,fun c hc=>by rw [h0 c hc];simp,fun c hc=>Or.inl (h0 c hc),fun s hs=>(by cases hs),List.Pairwise.nil,by rw [sum_rep];rfl⟩
theorem sum_le (q:Int):∀ F:List Int,(∀ c,c<F.length→F.getD c 0≤q)→F.sum≤F.length*q∧(F.sum=F.length*q→∀ c,c<F.length→F.getD c 0=q)
  | [],_=>by simp
  | x::t,h=>by
    obtain ⟨i1,i2⟩:=sum_le q t (fun c hc=>by have:=h (c+1) (by simpa using hc);simpa using this)
    have h0:=h 0 (by simp)
    simp only [List.getD_cons_zero] at h0
    have e:((x::t).length:Int)*q=t.length*q+q:=by rw [List.length_cons];push_cast;grind
    rw [List.sum_cons,e]
    refine ⟨by omega,fun hs c hc=>?_⟩
    cases c with
    | zero=>simp only [List.getD_cons_zero];omega
    | succ c=>simp only [List.getD_cons_succ];exact i2 oz c (by simpa using hc)
/-- the greatest column and the first one tell the same cut, or none -/
theorem fill_good {W:Nat} (hW:1≤W) {F:List Int} {l:List Sq} (h:FInv W F l) {q:Int} (a1:∃ c,c<W∧q=F.getD c 0) (a0:∀ c,c<W→F.getD c 0≤q):(Cv W q l↔Cv W (F.getD 0 0) l)∧(Cv W q l→q=F.getD 0 0):=by
  have e1:Cv W q l→q=F.getD 0 0:=by
    intro hg
    have ha:=hg.2.2.2.2
    rw [M8,← h.sum] at ha
    obtain ⟨_,s2⟩:=sum_le q F (fun c hc=>a0 c (by rw [← h.len];exact hc))
    exact (s2 (by rw [ha,h.len]) 0 (by rw [h.len];omega)).symm
  have e2:Cv W (F.getD 0 0) l→q=F.getD 0 0:=by
    intro hg
    have h1:=a0 0 oz
    obtain ⟨c,hc,e⟩:=a1
    rcases h.top c hc with z|⟨s,hs,z⟩
    · have:=hg.2.1.1;omega
    · have hi : Ins W (F.getD 0 0) s := by
        obtain ⟨j,hj,rfl⟩:=List.mem_iff_getElem.1 hs
        have:=(hg.2.2.2.1 j hj).1
        rw [Cm l j hj] at this
        exact this
      unfold Ins at hi
      omega
  exact ⟨⟨fun hg=>e1 hg ▸ hg,fun hg=>(e2 hg).symm ▸ hg⟩,e1⟩
def J9 (W:Int) (t:List Int):Prop:=(1≤W∧W≤500)∧(1≤t.length∧t.length≤30)∧∀ s ∈ t,1≤s∧s≤500
open Classical in
noncomputable def Im (W:Int) (R:Option (List Int×List Sq)):Int×Int×List Sq×Bool:=match R with
  | some (F,l)=>if Cv W (F.getD 0 0) l then (W,F.getD 0 0,l,true) else (0,0,[],false)
  | none=>(0,0,[],false)
open Classical in
noncomputable def Eu (W:Int) (t:List Int):Int×Int×List Sq×Bool:=if J9 W t then Im W (G5 t (List.replicate W.toNat 0) []) else (0,0,[],false)
theorem Vx (W:Int) (R:Option (List Int×List Sq)):(Im W R).2.2.1.length≤30:=by
  unfold Im
  split
  · split
    · rename_i h;exact h.2.2.1.2
    · simp
  · simp
theorem fillV_len (W:Int) (t:List Int):(Eu W t).2.2.1.length≤30:=by
  unfold Eu;split
  · exact Vx _ _
  · simp
theorem Iz (s:List Int) (j:Nat):rd s (j:Int)=s.getD j 0:=by unfold rd;rw [Int.toNat_natCast]

/-! the program -/
theorem minL_loop (s : List Int) (hl : s.length ≤ 100000) : ∀ (d i : Nat) (m : Int), s.length - i = d → i ≤ s.length →
    ∃ q,Ev (fun k=>Ch.l0 k s m (i:Int)) q∧(q=m∨∃ j,i≤j∧j<s.length∧q=s.getD j 0)∧q≤m∧∀ j,i≤j→j<s.length→q≤s.getD j 0:=by
  intro d
  induction d with
  | zero =>
    intro i m hd hi
    refine ⟨m,Ev.succ ?_,Or.inl rfl,Int.le_refl _,fun j h1 h2=>by omega⟩
    simp only [Ch.l0]
    exact Ev.neg oz (Ev.now _)
  | succ d ih =>
    intro i m hd hi
    have hx:mn m (s.getD i 0)=min m (s.getD i 0):=by unfold mn;omega
    obtain ⟨q,hq,h1,h2,h3⟩:=ih (i+1) (mn m (s.getD i 0)) oz oz
    rw [hx] at h1 h2
    refine ⟨q,Ev.succ ?_,?_,by omega,fun j h4 h5=>?_⟩
    · simp only [Ch.l0,Iz]
      refine Ev.pos oz (Ev.pos oz ?_)
      rw [Af oz oz]
      exact hq
    · rcases h1 with h1|⟨j,a,b,c⟩
      · by_cases e:m≤s.getD i 0
        · left;omega
        · right;exact ⟨i,Nat.le_refl _,by omega,by omega⟩
      · right;exact ⟨j,by omega,b,c⟩
    · by_cases e:j=i
      · subst e;omega
      · exact h3 j oz h5
theorem maxL_loop (s : List Int) (hl : s.length ≤ 100000) : ∀ (d i : Nat) (m : Int), s.length - i = d → i ≤ s.length →
    ∃ q,Ev (fun k=>Cb.l0 k s m (i:Int)) q∧(q=m∨∃ j,i≤j∧j<s.length∧q=s.getD j 0)∧m≤q∧∀ j,i≤j→j<s.length→s.getD j 0≤q:=by
  intro d
  induction d with
  | zero =>
    intro i m hd hi
    refine ⟨m,Ev.succ ?_,Or.inl rfl,Int.le_refl _,fun j h1 h2=>by omega⟩
    simp only [Cb.l0]
    exact Ev.neg oz (Ev.now _)
  | succ d ih =>
    intro i m hd hi
    have hx:mx m (s.getD i 0)=max m (s.getD i 0):=by unfold mx;omega
    obtain ⟨q,hq,h1,h2,h3⟩:=ih (i+1) (mx m (s.getD i 0)) oz oz
    rw [hx] at h1 h2
    refine ⟨q,Ev.succ ?_,?_,by omega,fun j h4 h5=>?_⟩
    · simp only [Cb.l0,Iz]
      refine Ev.pos oz (Ev.pos oz ?_)
      rw [Af oz oz]
      exact hq
    · rcases h1 with h1|⟨j,a,b,c⟩
      · by_cases e:s.getD i 0≤m
        · left;omega
        · right;exact ⟨i,Nat.le_refl _,by omega,by omega⟩
      · right;exact ⟨j,by omega,b,c⟩
    · by_cases e:j=i
      · subst e;omega
      · exact h3 j oz h5
theorem minL_ev (s:List Int) (hl:1≤s.length∧s.length≤100000):∃ q,Ev (fun k=>Ch.f k s) q∧(∃ j,j<s.length∧q=s.getD j 0)∧∀ j,j<s.length→q≤s.getD j 0:=by
  obtain ⟨q,hq,h1,h2,h3⟩:=minL_loop s oz (s.length-1) 1 (s.getD 0 0) rfl oz
  refine ⟨q,?_,?_,fun j hj=>?_⟩
  · unfold Ch.f
    exact Ev.neg oz (Ev.pos oz hq)
  · rcases h1 with h1|⟨j,_,b,c⟩
    · exact ⟨0,by omega,h1⟩
    · exact ⟨j,b,c⟩
  · by_cases e:j=0
    · rw [e];exact h2
    · exact h3 j oz hj
theorem maxL_ev (s:List Int) (hl:1≤s.length∧s.length≤100000):∃ q,Ev (fun k=>Cb.f k s) q∧(∃ j,j<s.length∧q=s.getD j 0)∧∀ j,j<s.length→s.getD j 0≤q:=by
  obtain ⟨q,hq,h1,h2,h3⟩:=maxL_loop s oz (s.length-1) 1 (s.getD 0 0) rfl oz
  refine ⟨q,?_,?_,fun j hj=>?_⟩
  · unfold Cb.f
    exact Ev.neg oz (Ev.pos oz hq)
  · rcases h1 with h1|⟨j,_,b,c⟩
    · exact ⟨0,by omega,h1⟩
    · exact ⟨j,b,c⟩
  · by_cases e:j=0
    · rw [e];exact h2
    · exact h3 j oz hj
theorem Xf (F:List Int) (hl:F.length≤100000) (v:Int) (x:Nat) (hx:x<F.length) (hv:F.getD x 0=v):∀ (d i:Nat),x-i=d→i≤x→(∀ c,i≤c→c<x→F.getD c 0≠v)→Ev (fun k=>Ci.l0 k F v (F.length:Int) (i:Int)) (x:Int):=by
  intro d
  induction d with
  | zero =>
    intro i hd hi h
    obtain rfl:i=x:=by omega
    refine Ev.succ ?_
    simp only [Ci.l0,Iz]
    exact Ev.pos oz (Ev.pos oz (Ev.pos oz (Ev.pos hv.symm (Ev.now _))))
  | succ d ih =>
    intro i hd hi h
    refine Ev.succ ?_
    simp only [Ci.l0,Iz]
    refine Ev.pos oz (Ev.pos oz (Ev.pos oz (Ev.neg (fun e=>h i (Nat.le_refl _) oz e.symm) ?_)))
    rw [Af oz oz]
    exact ih (i+1) oz oz (fun c h1 h2=>h c oz h2)
theorem argm_ev (F:List Int) (hl:1≤F.length∧F.length≤100000):Ev (fun k=>Ch.f k F) (F.getD (Ce F) 0)∧Ev (fun k=>Ci.f k F (F.getD (Ce F) 0)) (Ce F:Int):=by
  obtain ⟨a1,a2,a3⟩:=I3 F F.length hl.1
  obtain ⟨q,hq,⟨j,hj,hqj⟩,h2⟩:=minL_ev F hl
  have e:q=F.getD (Ce F) 0:=by
    have x1:=a2 j hj
    have x2:=h2 (Ce F) a1
    change F.getD (Ce F) 0≤F.getD j 0 at x1
    omega
  rw [← e]
  refine ⟨hq,?_⟩
  unfold Ci.f
  exact Xf F hl.2 q (Ce F) a1 e.symm (Ce F) 0 rfl (Nat.zero_le _) (fun c _ hc=>by have:=a3 c hc;change F.getD (Ce F) 0<_ at this;omega)
theorem implF_l1 (W : Int) (l : List Sq) (s y : Int) (x : Nat) (T : List Int) (n i : Int) (hs : 1 ≤ s ∧ s ≤ 500) (hy : -100000 ≤ y ∧ y ≤ 100000) (F : List Int) (hl : F.length ≤ 100000) (hx : (x : Int) + s ≤ F.length) (R : Int × Int × List Sq × Bool)
    (hR:Ev (fun k=>As.l0 k W (Jm F x (y+s) s.toNat) l T n (wrap64 (i+1))) R):∀ (e d:Nat),s.toNat-d=e→d≤s.toNat→Ev (fun k=>As.l1 k W (Jm F x (y+s) d) l s y (x:Int) T n i s (d:Int)) R:=by
  intro e
  induction e with
  | zero =>
    intro d he hd
    obtain rfl:d=s.toNat:=by omega
    refine Ev.succ ?_
    simp only [As.l1]
    exact Ev.neg oz hR
  | succ e ih =>
    intro d he hd
    have:=ih (d+1) oz oz
    refine Ev.succ ?_
    simp only [As.l1]
    have e1:wrap64 ((x:Int)+(d:Int))=((x+d:Nat):Int):=by rw [Af oz oz];omega
    have e2:wrap64 ((d:Int)+1)=((d+1:Nat):Int):=by clear e1;rw [Af oz oz];omega
    have e3:wrap64 (y+s)=y+s:=by clear e1 e2;exact Af oz oz
    rw [e1,e2,e3,Int.toNat_natCast]
    clear e1 e2 e3
    exact Ev.pos oz (Ev.pos oz (Ev.pos (by rw [Jx];omega) this))
theorem implF_l0 {W : Nat} (hW : 1 ≤ W ∧ W ≤ 500) (T : List Int) (hT : T.length ≤ 30) (hTs : ∀ s ∈ T, 1 ≤ s ∧ s ≤ 500) : ∀ (t : List Int) (i : Nat) (F : List Int) (l : List Sq), T.drop i = t → i + t.length = T.length → FInv W F l → l.length = i →
    Ev (fun k=>As.l0 k (W:Int) F l T (T.length:Int) (i:Int)) (Im W (G5 t F l)):=by
  intro t
  induction t with
  | nil =>
    intro i F l hd hi h hli
    simp only [List.length_nil] at hi
    have hl:=h.len
    obtain ⟨q,hq,h1,h2⟩:=maxL_ev F oz
    rw [hl] at h1 h2
    obtain ⟨g1,g2⟩:=fill_good (W:=W) hW.1 h h1 h2
    obtain ⟨s1,s2⟩:=Vc (W:=W) (H:=q) (List.Perm.refl l) (h.srt.imp LeP.of_less)
    refine Ev.succ ?_
    simp only [As.l0]
    refine Ev.neg oz (Ev.bind hq (Ev.bind (Uw W q l oz) (Ev.eqr (Ev.now _) ?_)))
    unfold Ny G5 Im
    dsimp only
    by_cases hg:Cv W q l
    · rw [if_pos (s1.1 hg),if_pos (g1.1 hg),← s2 hg,g2 hg]
    · rw [if_neg (fun z=>hg (s1.2 z)),if_neg (fun z=>hg (g1.2 z))]
  | cons s t ih =>
    intro i F l hd hi h hli
    have hl:=h.len
    simp only [List.length_cons] at hi
    have a0:i<T.length:=by omega
    rw [List.drop_eq_getElem_cons a0] at hd
    injection hd with a4 a6
    have hs:=hTs s (by rw [← a4];exact List.getElem_mem a0)
    have hrd:rd T (i:Int)=s:=by rw [Iz,List.getD_eq_getElem?_getD,List.getElem?_eq_getElem a0];exact a4
    obtain ⟨m1,m2⟩:=argm_ev F oz
    obtain ⟨a1,a2,a3⟩:=I3 F F.length oz
    change Ce F<F.length at a1
    change ∀ c,c<F.length→F.getD (Ce F) 0≤F.getD c 0 at a2
    have low:=h.low (Ce F) oz
    have no:∀ x:Option (List Int×List Sq),x=none→Im W x=(0,0,[],false):=by rintro _ rfl;rfl
    have a5:¬ Js F s→Ev (fun k=>As.j2 k (W:Int) F l s (F.getD (Ce F) 0) (Ce F:Int) T (T.length:Int) (i:Int) true) (Im W (G5 (s::t) F l)):=by
      intro hn
      rw [G5,if_neg hn]
      refine Ev.succ ?_
      simp only [As.j2]
      exact Ev.pos trivial (Ev.now _)
    refine Ev.succ ?_
    simp only [As.l0,hrd]
    refine Ev.pos oz (Ev.pos oz (Ev.pos oz (Ev.bind m1 (Ev.bind m2 ?_))))
    rw [Af (n:=(Ce F:Int)+s) oz oz]
    by_cases c1:(Ce F:Int)+s>W
    · exact Ev.pos c1 (a5 (fun ho=>by have:=ho.1;omega))
    · refine Ev.neg c1 (Ev.pos oz (Ev.pos oz (Ev.pos oz ?_)))
      have hsl:((F.take ((Ce F:Int)+s).toNat).drop ((Ce F:Int)).toNat).length=s.toNat:=by
        rw [List.length_drop,List.length_take];omega
      obtain ⟨q,hq,⟨j,hj,hqj⟩,h2⟩:=maxL_ev ((F.take ((Ce F:Int)+s).toNat).drop ((Ce F:Int)).toNat) oz
      have hat:∀ j,j<s.toNat→((F.take ((Ce F:Int)+s).toNat).drop ((Ce F:Int)).toNat).getD j 0=F.getD (Ce F+j) 0:=fun j hj=>by
        rw [List.getD_eq_getElem?_getD,List.getElem?_drop,List.getElem?_take_of_lt oz,← List.getD_eq_getElem?_getD,Int.toNat_natCast]
      rw [hsl] at hj h2
      refine Ev.bind hq ?_
      by_cases ho:Js F s
      · have e : q = F.getD (Ce F) 0 := by
          rw [hqj,hat j hj];exact ho.2 _ oz oz
        rw [decide_eq_false oz]
        refine Ev.succ ?_
        simp only [As.j2]
        refine Ev.neg (by simp) (Ev.pos oz ?_)
        have hn:=ih (i+1) _ _ a6 oz (Nz hW.1 h hs ho) (by simp;omega)
        rw [G5,if_pos ho]
        refine implF_l1 W _ s (F.getD (Ce F) 0) (Ce F) T (T.length:Int) (i:Int) hs oz F oz oz _ ?_ s.toNat 0 oz oz
        rw [Af oz oz]
        exact hn
      · have : q > F.getD (Ce F) 0 := by
          apply Decidable.byContradiction
          intro hc
          refine ho ⟨by omega,fun c h3 h4=>?_⟩
          have x1:=h2 (c-Ce F) oz
          rw [hat _ oz,show Ce F+(c-Ce F)=c by omega] at x1
          have x2:=a2 c oz
          omega
        rw [decide_eq_true this]
        exact a5 ho
theorem areW_eq (l:List Int) (lo hi:Int):Ei.f l lo hi=some (decide (∀ x ∈ l,lo≤x∧x≤hi)):=by
  unfold Ei.f Ct.f
  rw [Option.bind_some]
  congr 1
  rw [Bool.eq_iff_iff,Bool.not_eq_true',decide_eq_true_eq,List.any_eq_false]
  exact ⟨fun h x hx=>by have:=h x hx;simpa using this,fun h x hx=>by have:=h x hx;simpa using this⟩
theorem N0 (W:Int) (T:List Int):Ev (fun k=>As.f k W T) (Eu W T):=by
  have fall:¬ J9 W T→Ev (fun k=>As.j0 k W T true) (Eu W T):=fun h=>by
    unfold Eu
    rw [if_neg h]
    refine Ev.succ ?_
    simp only [As.j0]
    exact Ev.pos trivial (Ev.now _)
  unfold As.f
  refine Ev.bindc (Nt _) ?_
  by_cases c1:1≤W∧W≤500
  · rw [decide_eq_true c1]
    refine Ev.pos rfl (Ev.bindc (Is _ _ _) ?_)
    by_cases c2:1≤(T.length:Int)∧(T.length:Int)≤30
    · rw [decide_eq_true c2]
      refine Ev.pos rfl (Ev.bindc (areW_eq _ _ _) ?_)
      by_cases c3:∀ x ∈ T,1≤x∧x≤500
      · rw [decide_eq_true c3]
        have hok:J9 W T:=⟨c1,by omega,c3⟩
        obtain ⟨n,rfl⟩:∃ n:Nat,W=n:=⟨W.toNat,by omega⟩
        unfold Eu
        rw [if_pos hok]
        refine Ev.succ ?_
        simp only [As.j0,Bool.not_true]
        refine Ev.neg (by simp) (Ev.pos oz (Ev.pos oz ?_))
        rw [Int.toNat_natCast]
        exact implF_l0 (W:=n) oz T oz c3 T 0 _ [] rfl oz (Ra n) rfl
      · rw [decide_eq_false c3]
        exact fall (fun h=>c3 h.2.2)
    · rw [decide_eq_false c2]
      exact Ev.neg zd (fall (fun h=>c2 (by have:=h.2.1;omega)))
  · rw [decide_eq_false c1]
    exact Ev.neg zd (fall (fun h=>c1 h.1))

/-! the reference -/
theorem specF_l1 (W s : Int) (T : List Int) (n i w h : Int) (l : List Sq) (F : List Int) (hl : F.length ≤ 100000) (R : Int × Int × List Sq × Bool)
    (hR:Ev (fun k=>Be.l2 k W F s (Ce F:Int) (F.getD (Ce F) 0) (Ce F:Int) T n i w h l) R) (h1:1≤F.length):∀ (d c:Nat),F.length-c=d→c≤F.length →
      Ev (fun k=>Be.l1 k W F s (It F c:Int) T n i F (F.length:Int) (c:Int) w h l) R:=by
  have bd:∀ c,c≤F.length→It F c<F.length:=fun c hc=>by
    cases c with
    | zero=>simp only [It];omega
    | succ c=>have:=(I3 F (c+1) oz).1;omega
  intro d
  induction d with
  | zero =>
    intro c hd hc
    obtain rfl:c=F.length:=by omega
    have:=bd F.length (Nat.le_refl _)
    refine Ev.succ ?_
    simp only [Be.l1,Iz]
    exact Ev.neg oz (Ev.pos oz (Ev.pos oz hR))
  | succ d ih =>
    intro c hd hc
    have hn:=ih (c+1) oz oz
    have:=bd c hc
    rw [It] at hn
    refine Ev.succ ?_
    simp only [Be.l1,Iz]
    refine Ev.pos oz (Ev.pos oz (Ev.pos oz (Ev.pos oz (Ev.pos oz ?_))))
    rw [Af (n:=(c:Int)+1) oz oz]
    by_cases e:F.getD c 0<F.getD (It F c) 0
    · rw [if_pos e] at hn
      exact Ev.pos e hn
    · rw [if_neg e] at hn
      exact Ev.neg e hn
theorem specF_l2 {W : Nat} (s : Int) (T : List Int) (n i w h : Int) (l : List Sq) (hll : l.length ≤ 1000) (F : List Int) (hW : F.length = W) (hl : W ≤ 500) (hs : 1 ≤ s ∧ s ≤ 500) (x : Nat) (hx : x < W) (y : Int) (hy : -100000 ≤ y ∧ y ≤ 100000) (R : Int × Int × List Sq × Bool)
    (hgood:((x:Int)+s≤W∧∀ c:Nat,x≤c→(c:Int)<(x:Int)+s→F.getD c 0=y)→Ev (fun k=>Be.l0 k (W:Int) (Jm F x (y+s) s.toNat) T n (wrap64 (i+1)) w h (l++[⟨(x:Int),y,s⟩])) R)
    (hbad:¬ ((x:Int)+s≤W∧∀ c:Nat,x≤c→(c:Int)<(x:Int)+s→F.getD c 0=y)→R=(0,0,[],false)) :
    ∀ (e d:Nat),s.toNat-d=e→d≤s.toNat→x+d≤W→(∀ c,x≤c→c<x+d→F.getD c 0=y)→Ev (fun k=>Be.l2 k (W:Int) (Jm F x (y+s) d) s (x:Int) y ((x+d:Nat):Int) T n i w h l) R:=by
  intro e
  induction e with
  | zero =>
    intro d he hd hxd hc
    obtain rfl:d=s.toNat:=by omega
    refine Ev.succ ?_
    simp only [Be.l2]
    rw [Af (n:=(x:Int)+s) oz oz]
    exact Ev.neg oz (Ev.pos oz (hgood ⟨by omega,fun c h1 h2=>hc c h1 oz⟩))
  | succ e ih =>
    intro d he hd hxd hc
    refine Ev.succ ?_
    simp only [Be.l2]
    rw [Af (n:=(x:Int)+s) oz oz]
    refine Ev.pos oz ?_
    by_cases c1:((x+d:Nat):Int)≥(W:Int)
    · exact Ev.pos c1 (Ev.eqr (Ev.now _) (hbad (fun hh=>by omega)).symm)
    · refine Ev.neg c1 (Ev.pos oz (Ev.pos (by rw [Jx];omega) ?_))
      rw [Iz,Mt F x (y+s) d oz,if_neg oz]
      by_cases c2:F.getD (x+d) 0=y
      · refine Ev.pos c2 ?_
        have:=ih (d+1) oz oz oz (fun c h1 h2=>by
          by_cases q:c=x+d
          · rw [q];exact c2
          · exact hc c h1 oz)
        rw [Af (n:=y+s) oz oz,Af (n:=((x+d:Nat):Int)+1) oz oz,Int.toNat_natCast]
        exact this
      · exact Ev.neg c2 (Ev.eqr (Ev.now _) (hbad (fun hh=>c2 (hh.2 (x+d) oz oz))).symm)
theorem specF_l0 {W : Nat} (hW : 1 ≤ W ∧ W ≤ 500) (T : List Int) (hT : T.length ≤ 30) (hTs : ∀ s ∈ T, 1 ≤ s ∧ s ≤ 500) : ∀ (t : List Int) (i : Nat) (F : List Int) (l : List Sq), T.drop i = t → i + t.length = T.length → FInv W F l → l.length = i →
    Ev (fun k=>Be.l0 k (W:Int) F T (T.length:Int) (i:Int) (W:Int) 0 l) (Im W (G5 t F l)):=by
  intro t
  induction t with
  | nil =>
    intro i F l hd hi h hli
    simp only [List.length_nil] at hi
    have hl:=h.len
    refine Ev.succ ?_
    simp only [Be.l0]
    refine Ev.neg oz (Ev.pos oz ?_)
    rw [show rd F 0=F.getD 0 0 from Iz F 0]
    refine Ev.bind (Ig W (F.getD 0 0) l) ?_
    unfold G5 Im
    dsimp only
    by_cases hg:Cv W (F.getD 0 0) l
    · rw [if_pos hg];exact Ev.pos (decide_eq_true hg) (Ev.now _)
    · rw [if_neg hg];exact Ev.neg (by simpa using hg) (Ev.now _)
  | cons s t ih =>
    intro i F l hd hi h hli
    have hl:=h.len
    simp only [List.length_cons] at hi
    have a0:i<T.length:=by omega
    rw [List.drop_eq_getElem_cons a0] at hd
    injection hd with a4 a5
    have hs:=hTs s (by rw [← a4];exact List.getElem_mem a0)
    have hrd:rd T (i:Int)=s:=by rw [Iz,List.getD_eq_getElem?_getD,List.getElem?_eq_getElem a0];exact a4
    obtain ⟨a1,a2,a3⟩:=I3 F F.length oz
    change Ce F<F.length at a1
    have low:=h.low (Ce F) oz
    refine Ev.succ ?_
    simp only [Be.l0,hrd]
    refine Ev.pos oz (Ev.pos oz (Ev.pos oz ?_))
    refine specF_l1 W s T (T.length:Int) (i:Int) W 0 l F oz _ ?_ oz F.length 0 oz (Nat.zero_le _)
    refine specF_l2 (W:=W) s T (T.length:Int) (i:Int) W 0 l oz F hl hW.2 hs (Ce F) oz (F.getD (Ce F) 0) oz _ (fun ho=>?_) (fun ho=>?_) s.toNat 0 oz oz oz (fun c h1 h2=>by omega)
    · have ho':Js F s:=by unfold Js;rw [hl];exact ho
      rw [G5,if_pos ho',Af oz oz]
      exact ih (i+1) _ _ a5 oz (Nz hW.1 h hs ho') (by simp;omega)
    · have ho':¬ Js F s:=by unfold Js;rw [hl];exact ho
      rw [G5,if_neg ho'];rfl
theorem Rb (lo hi:Int) (T:List Int) (hT:T.length≤100000):∀ (t:List Int) (i:Nat),T.drop i=t→i+t.length=T.length→Ev (fun k=>Dl.l0 k lo hi T (T.length:Int) (i:Int)) (decide (∀ x ∈ t,lo≤x∧x≤hi)):=by
  intro t
  induction t with
  | nil =>
    intro i hd hi'
    simp only [List.length_nil] at hi'
    refine Ev.succ ?_
    simp only [Dl.l0]
    exact Ev.neg oz (Ev.eqr (Ev.now _) (by simp))
  | cons s t ih =>
    intro i hd hi'
    simp only [List.length_cons] at hi'
    have a0:i<T.length:=by omega
    rw [List.drop_eq_getElem_cons a0] at hd
    injection hd with a1 a2
    have hrd:rd T (i:Int)=s:=by rw [Iz,List.getD_eq_getElem?_getD,List.getElem?_eq_getElem a0];exact a1
    refine Ev.succ ?_
    simp only [Dl.l0,hrd]
    refine Ev.pos oz (Ev.pos oz (Ev.pos oz (Ev.bindc (G1 _ _ _) ?_)))
    by_cases c:lo≤s∧s≤hi
    · rw [decide_eq_true c,Af oz oz]
      refine Ev.pos rfl (Ev.eqr (ih (i+1) a2 oz) (decide_eq_decide.2 ?_))
      simp [c]
    · rw [decide_eq_false c]
      refine Ev.neg zd (Ev.eqr (Ev.now _) (decide_eq_false (fun h=>c (h s List.mem_cons_self))).symm)
theorem Rx (W:Int) (T:List Int) (hTl:T.length≤2000000):Ev (fun k=>Be.f k W T) (Eu W T):=by
  have fall:¬ J9 W T→Ev (fun k=>Be.j0 k W T true) (Eu W T):=fun h=>by
    unfold Eu
    rw [if_neg h]
    refine Ev.succ ?_
    simp only [Be.j0]
    exact Ev.pos trivial (Ev.now _)
  unfold Be.f
  refine Ev.bindc (G1 _ _ _) ?_
  by_cases c1:1≤W∧W≤500
  · rw [decide_eq_true c1]
    refine Ev.pos rfl (Ev.bindc (G1 _ _ _) ?_)
    by_cases c2:1≤(T.length:Int)∧(T.length:Int)≤30
    · rw [decide_eq_true c2]
      refine Ev.pos rfl (Ev.bind (a:=decide (∀ x ∈ T,1≤x∧x≤500)) ?_ ?_)
      · unfold Dl.f
        exact Rb 1 500 T oz T 0 rfl oz
      by_cases c3:∀ x ∈ T,1≤x∧x≤500
      · rw [decide_eq_true c3]
        have hok:J9 W T:=⟨c1,by omega,c3⟩
        obtain ⟨n,rfl⟩:∃ n:Nat,W=n:=⟨W.toNat,by omega⟩
        unfold Eu
        rw [if_pos hok]
        refine Ev.succ ?_
        simp only [Be.j0,Bool.not_true]
        refine Ev.neg (by simp) (Ev.pos oz (Ev.pos oz ?_))
        rw [Int.toNat_natCast]
        exact specF_l0 (W:=n) oz T oz c3 T 0 _ [] rfl oz (Ra n) rfl
      · rw [decide_eq_false c3]
        exact fall (fun h=>c3 h.2.2)
    · rw [decide_eq_false c2]
      exact Ev.neg zd (fall (fun h=>c2 (by have:=h.2.1;omega)))
  · rw [decide_eq_false c1]
    exact Ev.neg zd (fall (fun h=>c1 h.1))

/-! ### the code of a cut -/
def In (l:List Sq) (i:Nat):Prop:=0<i∧(Ah l (i-1)).f1=(Ah l i).f1∧(Ah l (i-1)).f0+(Ah l (i-1)).f2=(Ah l i).f0
instance (l:List Sq) (i:Nat):Decidable (In l i):=by unfold In;infer_instance
def Bw (l:List Sq):Nat→List (List Int)
  | 0=>[]
  | n+1=>if In l n then (Bw l n).set ((Bw l n).length-1) ((Bw l n).getD ((Bw l n).length-1) []++[(Ah l n).f2]) else Bw l n++[[(Ah l n).f2]]
theorem Ie (l:List Sq):∀ n,(Bw l n).length≤n∧(0<n→0<(Bw l n).length)
  | 0=>by simp [Bw]
  | n+1=>by
    obtain ⟨h1,h2⟩:=Ie l n
    simp only [Bw]
    split
    · rename_i hj
      rw [List.length_set]
      exact ⟨by omega,fun _=>h2 hj.1⟩
    · simp;omega
theorem Gv (l:List Sq):∀ n,∀ g ∈ Bw l n,1≤g.length∧g.length≤n
  | 0=>by simp [Bw]
  | n+1=>by
    intro g hg
    simp only [Bw] at hg
    split at hg
    · rename_i hj
      have hl:=(Ie l n).2 hj.1
      rcases List.mem_or_eq_of_mem_set hg with h|h
      · have:=Gv l n g h;omega
      · have hm : (Bw l n).getD ((Bw l n).length - 1) [] ∈ Bw l n := by
          rw [List.getD_eq_getElem?_getD,List.getElem?_eq_getElem oz]
          exact List.getElem_mem _
        have:=Gv l n _ hm
        rw [h,List.length_append,List.length_singleton];omega
    · rcases List.mem_append.1 hg with h|h
      · have:=Gv l n g h;omega
      · rw [List.mem_singleton.1 h];simp
theorem Uk:∀ (k:Nat) (c:List (List Int)) (l:List Sq) (n i W H:Int) (m:List Sq),Bm.l0 k c l n i W H m=Av.l0 k c l n i W H m
  | 0,_,_,_,_,_,_,_=>rfl
  | k+1,c,l,n,i,W,H,m=>by
    simp only [Bm.l0,Av.l0,Uk k]
theorem Mu {W H : Int} {l : List Sq} (hg : Cv W H l) : ∀ (d i : Nat), l.length - i = d → i ≤ l.length →
    Ev (fun k=>Av.l0 k (Bw l i) l (l.length:Int) (i:Int) W H l) (Bw l l.length):=by
  intro d
  induction d with
  | zero =>
    intro i hd hi
    obtain rfl:i=l.length:=by omega
    refine Ev.succ ?_
    simp only [Av.l0]
    exact Ev.neg oz (Ev.now _)
  | succ d ih =>
    intro i hd hi
    have hlt:i<l.length:=by omega
    have a0:=hg.2.2.1
    have cl:=Ie l i
    have next:=ih (i+1) oz oz
    refine Ev.succ ?_
    simp only [Av.l0,Gm]
    have ei:wrap64 ((i:Int)+1)=((i+1:Nat):Int):=by rw [Af oz oz];omega
    rw [ei]
    refine Ev.pos oz (Ev.pos oz (Ev.pos oz ?_))
    have other:¬ In l i→Ev (fun k=>if (Bw l i).length<5864062014805 then Av.l0 k (Bw l i++[[(Ah l i).f2]]) l (l.length:Int) ((i+1:Nat):Int) W H l else none) (Bw l l.length):=by
      intro hn
      refine Ev.pos oz ?_
      have e:Bw l i++[[(Ah l i).f2]]=Bw l (i+1):=by simp only [Bw];rw [if_neg hn]
      rw [e]
      exact next
    by_cases c0:(i:Int)>0
    · refine Ev.pos c0 ?_
      have e1:wrap64 ((i:Int)-1)=((i-1:Nat):Int):=by rw [Af oz oz];omega
      simp only [e1,Gm]
      have a:=(hg.2.2.2.1 (i-1) oz).1
      have w1:=hg.1
      have w2:=hg.2.1
      unfold Ins at a
      rw [Af (n:=(Ah l (i-1)).f0+(Ah l (i-1)).f2) oz oz]
      refine Ev.pos oz (Ev.pos oz ?_)
      by_cases c1:(Ah l (i-1)).f1=(Ah l i).f1
      · refine Ev.pos c1 ?_
        by_cases c2:(Ah l (i-1)).f0+(Ah l (i-1)).f2=(Ah l i).f0
        · refine Ev.pos c2 ?_
          have hj:In l i:=⟨by omega,c1,c2⟩
          have hp:=cl.2 hj.1
          have e2:wrap64 (((Bw l i).length:Int)-1)=(((Bw l i).length-1:Nat):Int):=by rw [Af oz oz];omega
          have e3:Bc (Bw l i) (((Bw l i).length-1:Nat):Int)=(Bw l i).getD ((Bw l i).length-1) []:=by unfold Bc;rw [Int.toNat_natCast]
          have hm:(Bw l i).getD ((Bw l i).length-1) [] ∈ Bw l i:=by
            rw [List.getD_eq_getElem?_getD,List.getElem?_eq_getElem oz]
            exact List.getElem_mem _
          have gl:=Gv l i _ hm
          rw [e2,e3,Int.toNat_natCast]
          refine Ev.pos oz (Ev.pos oz (Ev.pos oz ?_))
          have e:(Bw l i).set ((Bw l i).length-1) ((Bw l i).getD ((Bw l i).length-1) []++[(Ah l i).f2])=Bw l (i+1):=by simp only [Bw];rw [if_pos hj]
          rw [e]
          exact next
        · exact Ev.neg c2 (other fun h=>c2 h.2.2)
      · exact Ev.neg c1 (other fun h=>c1 h.2.1)
    · exact Ev.neg c0 (other fun h=>c0 (by have:=h.1;omega))
theorem Jf {W H:Int} {l:List Sq} (hg:Cv W H l):Ev (fun k=>Av.f k W H l) (Bw l l.length):=by
  unfold Av.f
  exact Mu hg l.length 0 oz (Nat.zero_le _)
theorem Jg {W H:Int} {l:List Sq} (hg:Cv W H l):Ev (fun k=>Bm.f k W H l) (Bw l l.length):=by
  unfold Bm.f
  simp only [Uk]
  exact Mu hg l.length 0 oz (Nat.zero_le _)

/-! ### the cut of a code -/
theorem Iu (l:List (List Int)) (i:Nat):Bc l (i:Int)=l.getD i []:=by unfold Bc;rw [Int.toNat_natCast]
theorem Gw {α:Type} (l:List α) (i:Nat) (s:α) (t:List α) (h:l.drop i=s::t) (d:α):i<l.length∧l.getD i d=s∧l.drop (i+1)=t∧s ∈ l:=by
  have h1:i<l.length:=by
    apply Decidable.byContradiction
    intro hn
    rw [List.drop_eq_nil_of_le oz] at h;cases h
  rw [List.drop_eq_getElem_cons h1] at h
  injection h with ha hb
  refine ⟨h1,by rw [List.getD_eq_getElem?_getD,List.getElem?_eq_getElem h1];exact ha,hb,by rw [← ha];exact List.getElem_mem h1⟩
def Ih (b:Nat) (c:List (List Int)):Prop:=(1≤c.length∧c.length≤30)∧∀ g ∈ c,(b≤g.length∧g.length≤30)∧∀ x ∈ g,1≤x∧x≤500
open Classical in
noncomputable def I8 (c:List (List Int)) (B:Int×Int×List Sq×Bool):Int×Int×List Sq×Bool:=if B.2.2.2=true∧Bw B.2.2.1 B.2.2.1.length=c then B else (0,0,[],false)
open Classical in
noncomputable def Ai (c:List (List Int)):Int×Int×List Sq×Bool:=if Ih 1 c then I8 c (Eu (c.getD 0 []).sum c.flatten) else (0,0,[],false)
theorem Nb {W:Int} {T:List Int} (h:(Eu W T).2.2.2=true):Cv (Eu W T).1 (Eu W T).2.1 (Eu W T).2.2.1:=by
  unfold Eu Im at *
  split at h
  · rename_i ho
    rw [if_pos ho]
    generalize G5 T (List.replicate W.toNat 0) []=R at h ⊢
    cases R with
    | none=>cases h
    | some p =>
      obtain ⟨F,l⟩:=p
      dsimp only at h ⊢
      split at h
      · rename_i hg
        rw [if_pos hg];exact hg
      · cases h
  · cases h
theorem codeV_bad {c:List (List Int)} (h:¬ Ih 1 c) (a0:1≤c.length∧c.length≤30) (hc:∀ g ∈ c,g.length≤30∧∀ x ∈ g,1≤x∧x≤500) (B:Int×Int×List Sq×Bool):I8 c B=(0,0,[],false):=by
  unfold I8
  rw [if_neg]
  rintro ⟨_,e⟩
  refine h ⟨a0,fun g hg=>⟨⟨?_,(hc g hg).1⟩,(hc g hg).2⟩⟩
  rw [← e] at hg
  exact (Gv _ _ g hg).1
theorem codeCut_len (c:List (List Int)):(Ai c).2.2.1.length≤30:=by
  unfold Ai I8
  split
  · split
    · exact fillV_len _ _
    · simp
  · simp
theorem Gq {c:List (List Int)} (h:(Ai c).2.2.2=true):Cv (Ai c).1 (Ai c).2.1 (Ai c).2.2.1∧Bw (Ai c).2.2.1 (Ai c).2.2.1.length=c:=by
  unfold Ai I8 at *
  split at h
  · rename_i h1
    split at h
    · rename_i h2
      rw [if_pos h1,if_pos h2]
      exact ⟨Nb h2.1,h2.2⟩
    · cases h
  · cases h
theorem N1:∀ g:List Int,(∀ x ∈ g,1≤x∧x≤500)→0≤g.sum∧g.sum≤500*(g.length:Int)
  | [],_=>by simp
  | x::g,h=>by
    obtain ⟨h1,h2⟩:=N1 g (fun y hy=>h y (List.mem_cons_of_mem _ hy))
    have:=h x List.mem_cons_self
    rw [List.sum_cons,List.length_cons];omega
theorem Nc (b:Nat):∀ c:List (List Int),(∀ g ∈ c,g.length≤b)→c.flatten.length≤c.length*b
  | [],_=>by simp
  | g::c,h=>by
    have h1:=Nc b c (fun y hy=>h y (List.mem_cons_of_mem _ hy))
    have h2:=h g List.mem_cons_self
    rw [List.flatten_cons,List.length_append,List.length_cons,Nat.add_mul];omega
theorem Nd (l:List Int) (j:Nat):rd l (j:Int)=l.getD j 0:=by unfold rd;rw [Int.toNat_natCast]
theorem N2 (c:List (List Int)) (h:¬ (Ai c).2.2.2=true):Ai c=(0,0,[],false):=by
  unfold Ai I8 at *
  split at h
  · rename_i h1
    split at h
    · rename_i h2;exact absurd h2.1 h
    · rename_i h2;rw [if_pos h1,if_neg h2]
  · rename_i h1;rw [if_neg h1]

/-! the program -/
theorem sum_loop (g:List Int) (hg:g.length≤100000) (hx:∀ x ∈ g,1≤x∧x≤500):∀ (t:List Int) (i:Nat) (a:Int),g.drop i=t→i+t.length=g.length→0≤a→a+t.sum≤100000000→Ev (fun k=>Er.l0 k a g (g.length:Int) (i:Int)) (a+t.sum):=by
  intro t
  induction t with
  | nil =>
    intro i a hd hi h0 h1
    simp only [List.length_nil] at hi
    refine Ev.succ ?_
    simp only [Er.l0]
    exact Ev.neg oz (Ev.eqr (Ev.now _) (by simp))
  | cons x t ih =>
    intro i a hd hi h0 h1
    obtain ⟨h2,h3,h4,h5⟩:=Gw g i x t hd 0
    have a0:=hx x h5
    have ht:0≤t.sum:=(N1 t (fun y hy=>hx y (by rw [← h4] at hy;exact List.mem_of_mem_drop hy))).1
    simp only [List.length_cons] at hi
    rw [List.sum_cons] at h1 ⊢
    refine Ev.succ ?_
    simp only [Er.l0,Nd,h3]
    refine Ev.pos oz (Ev.pos oz (Ev.pos oz ?_))
    rw [Af (n:=a+x) oz oz,Af (n:=(i:Int)+1) oz oz]
    exact Ev.eqr (ih (i+1) (a+x) h4 oz oz oz) oz
theorem sum_ev (g:List Int) (hg:g.length≤30) (hx:∀ x ∈ g,1≤x∧x≤500):Ev (fun k=>Er.f k g) g.sum:=by
  unfold Er.f
  have:=(N1 g hx).2
  exact Ev.eqr (sum_loop g oz hx g 0 0 rfl oz oz oz) oz
theorem cat_l1 (c:List (List Int)) (hc:c.length≤1000) (hr:∀ g ∈ c,g.length≤1000):∀ (t:List (List Int)) (i:Nat) (a:List Int),c.drop i=t→i+t.length=c.length→a.length+t.length*1000≤100000000→Ev (fun k=>Ay.l1 k a c (c.length:Int) (i:Int)) (a++t.flatten):=by
  intro t
  induction t with
  | nil =>
    intro i a hd hi h
    simp only [List.length_nil] at hi
    refine Ev.succ ?_
    simp only [Ay.l1]
    exact Ev.neg oz (Ev.eqr (Ev.now _) (by simp))
  | cons g t ih =>
    intro i a hd hi h
    obtain ⟨h2,h3,h4,h5⟩:=Gw c i g t hd []
    have hgl:=hr g h5
    simp only [List.length_cons] at hi h
    refine Ev.succ ?_
    simp only [Ay.l1,Iu,h3]
    refine Ev.pos oz (Ev.pos oz (Ev.pos oz (Ev.pos oz ?_)))
    rw [Af (n:=(i:Int)+1) oz oz]
    exact Ev.eqr (ih (i+1) (a++g) h4 oz (by rw [List.length_append];omega)) (by simp)
theorem cat_l0 (c:List (List Int)) (hc:c.length≤1000) (hr:∀ g ∈ c,g.length≤1000):∀ (t:List (List Int)) (i:Nat) (a:Int),c.drop i=t→i+t.length=c.length→0≤a→a≤(i:Int)*1000→Ev (fun k=>Ay.l0 k c a c (c.length:Int) (i:Int)) c.flatten:=by
  intro t
  induction t with
  | nil =>
    intro i a hd hi h0 h1
    simp only [List.length_nil] at hi
    refine Ev.succ ?_
    simp only [Ay.l0]
    refine Ev.neg oz (Ev.bindc (a:=[]) ?_ ?_)
    · unfold E2.f
      rw [if_pos ⟨rfl,h0,by omega⟩]
    · exact Ev.eqr (cat_l1 c hc hr c 0 [] rfl oz (by simp;omega)) (by simp)
  | cons g t ih =>
    intro i a hd hi h0 h1
    obtain ⟨h2,h3,h4,h5⟩:=Gw c i g t hd []
    have hgl:=hr g h5
    simp only [List.length_cons] at hi
    refine Ev.succ ?_
    simp only [Ay.l0,Iu,h3]
    have e1:wrap64 (a+(g.length:Int))=a+(g.length:Int):=Af oz oz
    rw [e1]
    clear e1
    refine Ev.pos oz (Ev.pos oz (Ev.pos oz (Ev.neg oz ?_)))
    rw [Af (n:=(i:Int)+1) oz oz]
    exact ih (i+1) (a+(g.length:Int)) h4 oz oz oz
theorem cat_ev (c:List (List Int)) (hc:c.length≤1000) (hr:∀ g ∈ c,g.length≤1000):Ev (fun k=>Ay.f k c) c.flatten:=by
  unfold Ay.f
  exact cat_l0 c hc hr c 0 0 rfl oz oz oz
theorem eqL_loop (x y:List Int) (hl:x.length=y.length) (hx:x.length≤100000):∀ (t:List Int) (i:Nat),x.drop i=t→i+t.length=x.length→Ev (fun k=>Bp.l0 k x y (x.length:Int) (i:Int)) (decide (t=y.drop i)):=by
  intro t
  induction t with
  | nil =>
    intro i hd hi
    simp only [List.length_nil] at hi
    refine Ev.succ ?_
    simp only [Bp.l0]
    refine Ev.neg oz (Ev.eqr (Ev.now _) (decide_eq_true ?_).symm)
    rw [List.drop_eq_nil_of_le oz]
  | cons a t ih =>
    intro i hd hi
    obtain ⟨h2,h3,h4,h5⟩:=Gw x i a t hd 0
    simp only [List.length_cons] at hi
    have hy:i<y.length:=by omega
    have hyd:y.getD i 0=y[i]:=by rw [List.getD_eq_getElem?_getD,List.getElem?_eq_getElem hy];rfl
    refine Ev.succ ?_
    simp only [Bp.l0,Nd,h3]
    refine Ev.pos oz (Ev.pos oz (Ev.pos oz (Ev.pos oz ?_)))
    rw [List.drop_eq_getElem_cons hy,hyd]
    by_cases e:a=y[i]
    · refine Ev.pos e ?_
      rw [Af (n:=(i:Int)+1) oz oz]
      refine Ev.eqr (ih (i+1) h4 oz) (decide_eq_decide.2 ?_)
      rw [e];exact ⟨fun h=>by rw [h],fun h=>by injection h⟩
    · exact Ev.neg e (Ev.eqr (Ev.now _) (decide_eq_false (fun h=>e (by injection h))).symm)
theorem eqL_ev (x y:List Int) (hx:x.length≤100000):Ev (fun k=>Bp.f k x y) (decide (x=y)):=by
  unfold Bp.f
  by_cases h:x.length=y.length
  · exact Ev.pos oz (Ev.eqr (eqL_loop x y h hx x 0 rfl oz) (by simp))
  · exact Ev.neg oz (Ev.eqr (Ev.now _) (decide_eq_false (fun e=>h (by rw [e]))).symm)
theorem eqLL_loop (x y:List (List Int)) (hl:x.length=y.length) (hx:x.length≤100000) (hr:∀ g ∈ x,g.length≤100000):∀ (t:List (List Int)) (i:Nat),x.drop i=t→i+t.length=x.length→Ev (fun k=>Aq.l0 k y x (x.length:Int) (i:Int)) (decide (t=y.drop i)):=by
  intro t
  induction t with
  | nil =>
    intro i hd hi
    simp only [List.length_nil] at hi
    refine Ev.succ ?_
    simp only [Aq.l0]
    refine Ev.neg oz (Ev.eqr (Ev.now _) (decide_eq_true ?_).symm)
    rw [List.drop_eq_nil_of_le oz]
  | cons a t ih =>
    intro i hd hi
    obtain ⟨h2,h3,h4,h5⟩:=Gw x i a t hd []
    simp only [List.length_cons] at hi
    have hy:i<y.length:=by omega
    have hyd:y.getD i []=y[i]:=by rw [List.getD_eq_getElem?_getD,List.getElem?_eq_getElem hy];rfl
    refine Ev.succ ?_
    simp only [Aq.l0,Iu,h3]
    refine Ev.pos oz (Ev.pos oz (Ev.pos oz (Ev.pos oz (Ev.bind (a:=decide (a=y[i])) ?_ ?_))))
    · unfold E9.f
      rw [hyd]
      exact Ev.bind (eqL_ev a y[i] (hr a h5)) (Ev.now _)
    · rw [List.drop_eq_getElem_cons hy]
      by_cases e:a=y[i]
      · refine Ev.pos (decide_eq_true e) ?_
        rw [Af (n:=(i:Int)+1) oz oz]
        refine Ev.eqr (ih (i+1) h4 oz) (decide_eq_decide.2 ?_)
        rw [e];exact ⟨fun h=>by rw [h],fun h=>by injection h⟩
      · exact Ev.neg (by simpa using e) (Ev.eqr (Ev.now _) (decide_eq_false (fun h=>e (by injection h))).symm)
theorem Ve (x y:List (List Int)) (hx:x.length≤100000) (hr:∀ g ∈ x,g.length≤100000):Ev (fun k=>Gc.f k x y) (decide (x=y)):=by
  unfold Gc.f Aq.f
  refine Ev.bind (a:=decide (x=y)) ?_ (Ev.now _)
  by_cases h:x.length=y.length
  · exact Ev.pos oz (Ev.eqr (eqLL_loop x y h hx hr x 0 rfl oz) (by simp))
  · exact Ev.neg oz (Ev.eqr (Ev.now _) (decide_eq_false (fun e=>h (by rw [e]))).symm)
def Kx (g:List Int):Prop:=g.length≤30∧∀ x ∈ g,1≤x∧x≤500
instance (g:List Int):Decidable (Kx g):=by unfold Kx;infer_instance
theorem grp_eq (g:List Int):Ep.f g=some (!decide (Kx g)):=by
  unfold Ep.f
  rw [areW_eq,Option.bind_some]
  by_cases h:∀ x ∈ g,1≤x∧x≤500
  · rw [if_pos (decide_eq_true h)]
    by_cases h2:g.length≤30
    · rw [decide_eq_false (show ¬ (g.length:Int)>30 by omega),decide_eq_true (show Kx g from ⟨h2,h⟩)];rfl
    · rw [decide_eq_true (show (g.length:Int)>30 by omega),decide_eq_false (show ¬ Kx g from fun z=>h2 z.1)];rfl
  · rw [if_neg (by simpa using h),decide_eq_false (show ¬ Kx g from fun z=>h z.2)];rfl
theorem grp_loop (c:List (List Int)) (hc:c.length≤1000):∀ (t:List (List Int)) (i:Nat),c.drop i=t→i+t.length=c.length→∃ q,Ev (fun k=>At.l0 k c (c.length:Int) (i:Int)) q∧(q≥0↔∃ g ∈ t,¬ Kx g):=by
  intro t
  induction t with
  | nil =>
    intro i hd hi
    simp only [List.length_nil] at hi
    refine ⟨-1,Ev.succ ?_,by simp⟩
    simp only [At.l0]
    exact Ev.neg oz (Ev.now _)
  | cons g t ih =>
    intro i hd hi
    obtain ⟨h2,h3,h4,h5⟩:=Gw c i g t hd []
    simp only [List.length_cons] at hi
    by_cases e:Kx g
    · obtain ⟨q,hq,hiff⟩:=ih (i+1) h4 oz
      refine ⟨q,Ev.succ ?_,by rw [hiff];simp [e]⟩
      simp only [At.l0,Iu,h3]
      refine Ev.pos oz (Ev.pos oz (Ev.pos oz (Ev.bindc (grp_eq g) (Ev.neg (by simpa using e) ?_))))
      rw [Af (n:=(i:Int)+1) oz oz]
      exact hq
    · refine ⟨(i:Int),Ev.succ ?_,⟨fun _=>⟨g,List.mem_cons_self,e⟩,fun _=>by omega⟩⟩
      simp only [At.l0,Iu,h3]
      exact Ev.pos oz (Ev.pos oz (Ev.pos oz (Ev.bindc (grp_eq g) (Ev.pos (by simpa using e) (Ev.now _)))))
theorem C3 (c:List (List Int)):Ev (fun k=>Bl.f k c) (Ai c):=by
  have fall:¬ Ih 0 c→Ev (fun k=>Bl.j0 k c true) (Ai c):=fun h=>by
    unfold Ai
    rw [if_neg (fun z=>h ⟨z.1,fun g hg=>⟨⟨Nat.zero_le _,(z.2 g hg).1.2⟩,(z.2 g hg).2⟩⟩)]
    refine Ev.succ ?_
    simp only [Bl.j0]
    exact Ev.pos trivial (Ev.now _)
  unfold Bl.f
  refine Ev.bindc (Is _ _ _) ?_
  by_cases c1:1≤(c.length:Int)∧(c.length:Int)≤30
  · rw [decide_eq_true c1]
    obtain ⟨q,hq,hiff⟩:=grp_loop c oz c 0 rfl oz
    refine Ev.pos rfl (Ev.bind (a:=decide (q≥0)) ?_ ?_)
    · unfold Cj.f At.f
      exact Ev.bind hq (Ev.now _)
    · by_cases c2:q≥0
      · rw [decide_eq_true c2]
        obtain ⟨g,hg,hn⟩:=hiff.1 c2
        exact fall (fun z=>hn ⟨(z.2 g hg).1.2,(z.2 g hg).2⟩)
      · rw [decide_eq_false c2]
        have hall:∀ g ∈ c,Kx g:=fun g hg=>Decidable.byContradiction fun hn=>c2 (hiff.2 ⟨g,hg,hn⟩)
        have h0:c.getD 0 [] ∈ c:=by
          rw [List.getD_eq_getElem?_getD,List.getElem?_eq_getElem (show 0<c.length by omega)]
          exact List.getElem_mem _
        refine Ev.succ ?_
        simp only [Bl.j0]
        refine Ev.neg (by simp) (Ev.pos oz ?_)
        rw [show Bc c 0=c.getD 0 [] from Iu c 0]
        refine Ev.bind (sum_ev _ (hall _ h0).1 (hall _ h0).2) (Ev.bind (cat_ev c oz (fun g hg=>by have:=(hall g hg).1;omega)) (Ev.bind (N0 _ _) ?_))
        have key:Ai c=I8 c (Eu (c.getD 0 []).sum c.flatten):=by
          unfold Ai
          by_cases hg:Ih 1 c
          · rw [if_pos hg]
          · rw [if_neg hg,codeV_bad hg oz hall]
        rw [key]
        have hgood:=Nb (W:=(c.getD 0 []).sum) (T:=c.flatten)
        generalize Eu (c.getD 0 []).sum c.flatten=B at hgood ⊢
        obtain ⟨W,H,l,b⟩:=B
        dsimp only at hgood ⊢
        unfold I8
        dsimp only
        cases b with
        | false=>exact Ev.neg zd (Ev.eqr (Ev.now _) (by rw [if_neg (fun z=>by cases z.1)]))
        | true =>
          have hg:=hgood rfl
          have hl:=hg.2.2.1
          refine Ev.pos rfl (Ev.bind (Jf hg) (Ev.bind (Ve _ c (by have:=(Ie l l.length).1;omega) (fun g hg=>by have:=Gv l l.length g hg;omega)) ?_))
          by_cases e:Bw l l.length=c
          · rw [if_pos (show true=true∧Bw l l.length=c from ⟨rfl,e⟩)]
            exact Ev.pos (decide_eq_true e) (Ev.now _)
          · rw [if_neg (show ¬ (true=true∧Bw l l.length=c) from fun z=>e z.2)]
            exact Ev.neg (by simpa using e) (Ev.now _)
  · rw [decide_eq_false c1]
    exact Ev.neg zd (fall (fun z=>c1 (by have:=z.1;omega)))

/-! the reference -/
theorem same_eq:∀ (k:Nat) (x y:List Int) (n i:Int),Dv.l0 k x y n i=Bp.l0 k x y n i
  | 0,_,_,_,_=>rfl
  | k+1,x,y,n,i=>by simp only [Dv.l0,Bp.l0,same_eq k]
theorem l1Same_ev (x y:List Int) (hx:x.length≤100000):Ev (fun k=>Dv.f k x y) (decide (x=y)):=by
  have h:=eqL_ev x y hx
  unfold Dv.f
  unfold Bp.f at h
  simp only [same_eq]
  exact h
theorem rows_loop (x y:List (List Int)) (hl:x.length=y.length) (hx:x.length≤100000) (hr:∀ g ∈ x,g.length≤100000):∀ (t:List (List Int)) (i:Nat),x.drop i=t→i+t.length=x.length→Ev (fun k=>Do.l0 k y x (x.length:Int) (i:Int)) (decide (t=y.drop i)):=by
  intro t
  induction t with
  | nil =>
    intro i hd hi
    simp only [List.length_nil] at hi
    refine Ev.succ ?_
    simp only [Do.l0]
    refine Ev.neg oz (Ev.eqr (Ev.now _) (decide_eq_true ?_).symm)
    rw [List.drop_eq_nil_of_le oz]
  | cons a t ih =>
    intro i hd hi
    obtain ⟨h2,h3,h4,h5⟩:=Gw x i a t hd []
    simp only [List.length_cons] at hi
    have hy:i<y.length:=by omega
    have hyd:y.getD i []=y[i]:=by rw [List.getD_eq_getElem?_getD,List.getElem?_eq_getElem hy];rfl
    refine Ev.succ ?_
    simp only [Do.l0,Iu,h3,hyd]
    refine Ev.pos oz (Ev.pos oz (Ev.pos oz (Ev.pos oz (Ev.bind (l1Same_ev a y[i] (hr a h5)) ?_))))
    rw [List.drop_eq_getElem_cons hy]
    by_cases e:a=y[i]
    · refine Ev.pos (decide_eq_true e) ?_
      rw [Af (n:=(i:Int)+1) oz oz]
      refine Ev.eqr (ih (i+1) h4 oz) (decide_eq_decide.2 ?_)
      rw [e];exact ⟨fun h=>by rw [h],fun h=>by injection h⟩
    · exact Ev.neg (by simpa using e) (Ev.eqr (Ev.now _) (decide_eq_false (fun h=>e (by injection h))).symm)
theorem rows_ev (x y:List (List Int)) (hx:x.length≤100000) (hr:∀ g ∈ x,g.length≤100000):Ev (fun k=>Do.f k x y) (decide (x=y)):=by
  unfold Do.f
  by_cases h:x.length=y.length
  · exact Ev.pos oz (Ev.eqr (rows_loop x y h hx hr x 0 rfl oz) (by simp))
  · exact Ev.neg oz (Ev.eqr (Ev.now _) (decide_eq_false (fun e=>h (by rw [e]))).symm)
theorem Xg (c:List (List Int)) (hc:c.length≤1000) (hr:∀ g ∈ c,g.length≤1000):∀ (t:List (List Int)) (i:Nat) (a:List Int),c.drop i=t→i+t.length=c.length→a.length+t.length*1000≤100000000→Ev (fun k=>Cn.l0 k a c (c.length:Int) (i:Int)) (a++t.flatten):=by
  intro t
  induction t with
  | nil =>
    intro i a hd hi h
    simp only [List.length_nil] at hi
    refine Ev.succ ?_
    simp only [Cn.l0]
    exact Ev.neg oz (Ev.eqr (Ev.now _) (by simp))
  | cons g t ih =>
    intro i a hd hi h
    obtain ⟨h2,h3,h4,h5⟩:=Gw c i g t hd []
    have hgl:=hr g h5
    simp only [List.length_cons] at hi h
    refine Ev.succ ?_
    simp only [Cn.l0,Iu,h3]
    refine Ev.pos oz (Ev.pos oz (Ev.pos oz (Ev.pos oz ?_)))
    rw [Af (n:=(i:Int)+1) oz oz]
    exact Ev.eqr (ih (i+1) (a++g) h4 oz (by rw [List.length_append];omega)) (by simp)
theorem Nf (c:List (List Int)) (hc:c.length≤1000) (hr:∀ g ∈ c,g.length≤1000):Ev (fun k=>Cn.f k c) c.flatten:=by
  unfold Cn.f
  exact Ev.eqr (Xg c hc hr c 0 [] rfl oz (by simp;omega)) (by simp)
theorem bk_l1 (c : List (List Int)) (hok : Ih 1 c) : ∀ (t : List Int) (i : Nat) (a : Int), (c.getD 0 []).drop i = t → i + t.length = (c.getD 0 []).length → 0 ≤ a → a + t.sum = (c.getD 0 []).sum →
    Ev (fun k=>Bi.l1 k c a (c.getD 0 []) ((c.getD 0 []).length:Int) (i:Int)) (Ai c):=by
  have a1:=hok.1
  have h0:c.getD 0 [] ∈ c:=by
    rw [List.getD_eq_getElem?_getD,List.getElem?_eq_getElem (show 0<c.length by omega)]
    exact List.getElem_mem _
  obtain ⟨a2,a0⟩:=hok.2 _ h0
  intro t
  induction t with
  | nil =>
    intro i a hd hi ha hs
    simp only [List.length_nil] at hi
    simp only [List.sum_nil,Int.add_zero] at hs
    refine Ev.succ ?_
    simp only [Bi.l1]
    have fl:c.flatten.length≤c.length*30:=Nc 30 c (fun g hg=>(hok.2 g hg).1.2)
    refine Ev.neg oz (Ev.bind (Nf c oz (fun g hg=>by have:=(hok.2 g hg).1;omega)) ?_)
    rw [hs]
    refine Ev.bind (Rx _ _ oz) ?_
    have key:Ai c=I8 c (Eu (c.getD 0 []).sum c.flatten):=by unfold Ai;rw [if_pos hok]
    rw [key]
    have hgood:=Nb (W:=(c.getD 0 []).sum) (T:=c.flatten)
    generalize Eu (c.getD 0 []).sum c.flatten=B at hgood ⊢
    obtain ⟨W,H,l,b⟩:=B
    dsimp only at hgood ⊢
    unfold I8
    dsimp only
    cases b with
    | false=>exact Ev.neg zd (Ev.eqr (Ev.now _) (by rw [if_neg (fun z=>by cases z.1)]))
    | true =>
      have hg:=hgood rfl
      have hl:=hg.2.2.1
      refine Ev.pos rfl (Ev.bind (Jg hg) (Ev.bind (rows_ev _ c (by have:=(Ie l l.length).1;omega) (fun g hg=>by have:=Gv l l.length g hg;omega)) ?_))
      by_cases e:Bw l l.length=c
      · rw [if_pos (show true=true∧Bw l l.length=c from ⟨rfl,e⟩)]
        exact Ev.pos (decide_eq_true e) (Ev.now _)
      · rw [if_neg (show ¬ (true=true∧Bw l l.length=c) from fun z=>e z.2)]
        exact Ev.neg (by simpa using e) (Ev.now _)
  | cons x t ih =>
    intro i a hd hi ha hs
    obtain ⟨h2,h3,h4,h5⟩:=Gw (c.getD 0 []) i x t hd 0
    have hx:=a0 x h5
    have ht:=(N1 t (fun y hy=>a0 y (by rw [← h4] at hy;exact List.mem_of_mem_drop hy))).1
    have hb:=(N1 _ a0).2
    simp only [List.length_cons] at hi
    rw [List.sum_cons] at hs
    refine Ev.succ ?_
    simp only [Bi.l1,Nd,h3]
    refine Ev.pos oz (Ev.pos oz (Ev.pos oz ?_))
    rw [Af (n:=a+x) oz oz,Af (n:=(i:Int)+1) oz oz]
    exact ih (i+1) (a+x) h4 oz oz oz
theorem bk_l0 (c : List (List Int)) (a0 : 1 ≤ c.length ∧ c.length ≤ 30) : ∀ (t : List (List Int)) (i : Nat) (d : List (List Int)), c = d ++ t → d.length = i → (∀ g ∈ d, (1 ≤ g.length ∧ g.length ≤ 30) ∧ ∀ x ∈ g, 1 ≤ x ∧ x ≤ 500) →
    Ev (fun k=>Bi.l0 k c (d.flatten.length:Int) c (c.length:Int) (i:Int)) (Ai c):=by
  intro t
  induction t with
  | nil =>
    intro i d hd hi h
    rw [List.append_nil] at hd
    subst hd
    have hok:Ih 1 c:=⟨a0,h⟩
    refine Ev.succ ?_
    simp only [Bi.l0]
    refine Ev.neg oz ?_
    by_cases e:(c.flatten.length:Int)>30
    · refine Ev.pos e (Ev.eqr (Ev.now _) ?_)
      unfold Ai I8 Eu
      rw [if_pos hok,if_neg (show ¬ J9 (c.getD 0 []).sum c.flatten from fun z=>by have:=z.2.1;omega),if_neg (fun z=>by cases z.1)]
    · refine Ev.neg e (Ev.pos oz ?_)
      rw [show Bc c 0=c.getD 0 [] from Iu c 0]
      exact bk_l1 c hok (c.getD 0 []) 0 0 rfl oz oz oz
  | cons g t ih =>
    intro i d hd hi h
    have hdrop:c.drop i=g::t:=by rw [hd,← hi];simp
    obtain ⟨h2,h3,h4,h5⟩:=Gw c i g t hdrop []
    have no:¬ ((1≤g.length∧g.length≤30)∧∀ x ∈ g,1≤x∧x≤500)→Ai c=(0,0,[],false):=fun hn=>by
      unfold Ai;rw [if_neg (fun z=>hn (z.2 g h5))]
    have fl:d.flatten.length≤d.length*30:=Nc 30 d (fun g hg=>(h g hg).1.2)
    have dl:d.length≤30:=by rw [hd,List.length_append] at a0;omega
    refine Ev.succ ?_
    simp only [Bi.l0,Iu,h3]
    refine Ev.pos oz (Ev.pos oz (Ev.pos oz (Ev.bindc (G1 _ _ _) ?_)))
    by_cases c1:1≤(g.length:Int)∧(g.length:Int)≤30
    · rw [decide_eq_true c1]
      refine Ev.pos rfl (Ev.bind (a:=decide (∀ x ∈ g,1≤x∧x≤500)) ?_ ?_)
      · unfold Dl.f
        exact Rb 1 500 g oz g 0 rfl oz
      · by_cases c2:∀ x ∈ g,1≤x∧x≤500
        · refine Ev.pos (decide_eq_true c2) ?_
          have:=ih (i+1) (d++[g]) (by rw [hd];simp) (by simp;omega) (fun y hy=>by
            rcases List.mem_append.1 hy with hy|hy
            · exact h y hy
            · rw [List.mem_singleton.1 hy];exact ⟨by omega,c2⟩)
          have e:((d++[g]).flatten.length:Int)=(d.flatten.length:Int)+(g.length:Int):=by simp
          rw [e] at this
          rw [Af (n:=(d.flatten.length:Int)+(g.length:Int)) oz oz,Af (n:=(i:Int)+1) oz oz]
          exact this
        · exact Ev.neg (by simpa using c2) (Ev.eqr (Ev.now _) (no (fun z=>c2 z.2)).symm)
    · rw [decide_eq_false c1]
      exact Ev.neg zd (Ev.eqr (Ev.now _) (no (fun z=>c1 oz)).symm)
theorem Dp (c:List (List Int)):Ev (fun k=>Bi.f k c) (Ai c):=by
  unfold Bi.f
  refine Ev.bindc (G1 _ _ _) ?_
  by_cases c1:1≤(c.length:Int)∧(c.length:Int)≤30
  · rw [decide_eq_true c1]
    exact Ev.pos rfl (bk_l0 c oz c 0 [] rfl rfl (fun g hg=>by cases hg))
  · rw [decide_eq_false c1]
    refine Ev.neg zd (Ev.eqr (Ev.now _) ?_)
    unfold Ai;rw [if_neg (fun z=>c1 (by have:=z.1;omega))]

theorem Jb (a b c:Int):Bt.f a b c=some (decide (b≤a∧a≤c)):=G1 a b c

/-! ### texts: numerals and what is joined -/
def mk (l:List UInt8):ByteArray:=⟨l.toArray⟩
theorem Jt (a b:List UInt8):mk a++mk b=mk (a++b):=by
  unfold mk
  apply ByteArray.ext
  rw [ByteArray.data_append]
  simp
theorem Dk (a:List UInt8):(mk a).size=a.length:=by simp [mk,ByteArray.size]
theorem Gs (a:List UInt8):(mk a).data.toList=a:=by simp [mk]
abbrev dd (a:Int):List UInt8:=Lib.decDigits a.toNat
theorem Mv (u:Nat) (h:u<10):Lib.decDigits u=[UInt8.ofNat (48+u)]:=by rw [Lib.decDigits,dif_pos h]
theorem Rc (u:Nat) (h:¬ u<10):Lib.decDigits u=Lib.decDigits (u/10)++[UInt8.ofNat (48+u%10)]:=by rw [Lib.decDigits,dif_neg h]
theorem dd_len2 (u:Nat) (h:u<100):(Lib.decDigits u).length≤2:=by
  by_cases h1:u<10
  · rw [Mv u h1];simp
  · rw [Rc u h1,Mv (u/10) oz];simp
theorem K9 (u:Nat) (h:u<1000):(Lib.decDigits u).length≤3:=by
  by_cases h1:u<10
  · rw [Mv u h1];simp
  · rw [Rc u h1]
    have:=dd_len2 (u/10) oz
    simp only [List.length_append,List.length_cons,List.length_nil]
    omega
theorem num_one (a:Int) (h0:0≤a) (h1:a<10):strOfNums [(wrap64 (48+a))%256]=mk (dd a):=by
  rw [Af oz oz]
  unfold mk dd strOfNums
  rw [Mv a.toNat oz]
  simp only [List.map_cons,List.map_nil]
  rw [show ((48+a)%256).toNat=48+a.toNat by omega]
theorem N3 (a:Int) (h0:0≤a) (h:a<10):Ev (fun k=>C0.f k a) (mk (dd a)):=by
  refine Ev.succ ?_
  simp only [C0.f]
  exact Ev.pos h (Ev.eqr (Ev.now _) (num_one a h0 h))
theorem Re (a:Int) (h0:10≤a) (h1:a<1000) (hq:Ev (fun k=>C0.f k (a/10)) (mk (dd (a/10)))):Ev (fun k=>C0.f k a) (mk (dd a)):=by
  refine Ev.succ ?_
  simp only [C0.f]
  refine Ev.neg oz ?_
  have e1:Int.tdiv a 10=a/10:=Int.tdiv_eq_ediv_of_nonneg oz
  have e2:Int.tmod a 10=a%10:=Int.tmod_eq_emod_of_nonneg oz
  rw [e1,e2,Af (n:=a/10) oz oz]
  refine Ev.bind hq (Ev.bindc rfl ?_)
  have e3:=num_one (a%10) oz oz
  rw [e3]
  have l1:=K9 (a/10).toNat oz
  have l2:=K9 (a%10).toNat oz
  refine Ev.pos (by rw [Dk,Dk];show (Lib.decDigits (a/10).toNat).length+(Lib.decDigits (a%10).toNat).length≤_;omega) (Ev.eqr (Ev.now _) ?_)
  rw [Jt]
  congr 1
  show Lib.decDigits (a/10).toNat++Lib.decDigits (a%10).toNat=Lib.decDigits a.toNat
  rw [Rc a.toNat oz,Mv (a%10).toNat oz,show (a/10).toNat=a.toNat/10 by omega,show (a%10).toNat=a.toNat%10 by omega]
theorem l1Num_ev (a:Int) (h0:0≤a) (h1:a<1000):Ev (fun k=>C0.f k a) (mk (dd a)):=by
  by_cases h:a<10
  · exact N3 a h0 h
  · refine Re a oz h1 ?_
    by_cases h2:a/10<10
    · exact N3 (a/10) oz h2
    · exact Re (a/10) oz oz (N3 (a/10/10) oz oz)
theorem itoa_eq (a:Int) (h0:0≤a) (h1:a<1000):Gl.f a=some (mk (dd a)):=by
  unfold Gl.f
  rw [if_pos ⟨h0,by omega⟩]
  rfl
theorem join_eq (l:List (List UInt8)) (s:List UInt8) (h1:l.length≤1000000) (h2:(Lib.join l s).length≤100000000):strings_Join.f (l.map mk) (mk s)=some (mk (Lib.join l s)):=by
  have e:(l.map mk).map (·.data.toList)=l:=by
    rw [List.map_map]
    refine (List.map_congr_left (fun x _=>?_)).trans (List.map_id l)
    exact Gs x
  unfold strings_Join.f
  rw [e,Gs,if_pos ⟨by rw [List.length_map];exact h1,h2⟩]
  rfl
theorem Ul (l:List (List UInt8)) (s:List UInt8) (b:Nat) (h:∀ x ∈ l,x.length≤b):(Lib.join l s).length≤l.length*(b+s.length):=by
  cases l with
  | nil=>simp [Lib.join_nil]
  | cons x t =>
    rw [Lib.join_cons]
    have hx:=h x (List.mem_cons_self)
    have ht:(Lib.joinTail s t).length≤t.length*(b+s.length):=by
      clear hx
      induction t with
      | nil=>simp [Lib.joinTail]
      | cons y t ih =>
        have hy:=h y (List.mem_cons_of_mem _ List.mem_cons_self)
        have:=ih (fun z hz=>h z ((List.mem_cons.1 hz).elim (fun e=>e ▸ List.mem_cons_self) (fun hz=>List.mem_cons_of_mem _ (List.mem_cons_of_mem _ hz))))
        have e:Lib.joinTail s (y::t)=(s++y)++Lib.joinTail s t:=by simp [Lib.joinTail]
        rw [e,List.length_append,List.length_append,List.length_cons,Nat.succ_mul]
        omega
    rw [List.length_append,List.length_cons,Nat.succ_mul]
    omega
/-- a list of small numbers, with signs between them -/
theorem list_loop (s : List UInt8) (hs : s.length ≤ 10) (l : List Int) (hl : l.length ≤ 1000) (hb : ∀ a ∈ l, 0 ≤ a ∧ a < 1000) : ∀ (t : List Int) (i : Nat), l.drop i = t → i + t.length = l.length →
    Ev (fun k=>C4.l0 k (mk s) (((l.take i).map dd).map mk) l (l.length:Int) (i:Int)) (mk (Lib.join (l.map dd) s)):=by
  intro t
  induction t with
  | nil =>
    intro i hd hi
    simp only [List.length_nil] at hi
    refine Ev.succ ?_
    simp only [C4.l0]
    rw [List.take_of_length_le oz]
    have hj:=Ul (l.map dd) s 3 (fun x hx=>by
      obtain ⟨a,ha,rfl⟩:=List.mem_map.1 hx
      have:=hb a ha
      exact K9 a.toNat oz)
    have a1:(l.map dd).length*(3+s.length)≤1000*13:=by
      rw [List.length_map]
      exact Nat.mul_le_mul hl oz
    exact Ev.neg oz (Ev.bindc (join_eq _ s (by rw [List.length_map];omega) oz) (Ev.now _))
  | cons a t ih =>
    intro i hd hi
    simp only [List.length_cons] at hi
    have a0:i<l.length:=by omega
    have e1:=List.drop_eq_getElem_cons a0
    rw [hd] at e1
    injection e1 with e2 e3
    have hm:a ∈ l:=by rw [e2];exact List.getElem_mem _
    refine Ev.succ ?_
    simp only [C4.l0]
    refine Ev.pos oz (Ev.pos oz (Ev.pos oz ?_))
    rw [show rd l (i:Int)=a by unfold rd;rw [Int.toNat_natCast];simp [List.getD,a0,← e2]]
    refine Ev.bindc (itoa_eq a (hb a hm).1 (hb a hm).2) (Ev.pos (by simp only [List.length_map,List.length_take];omega) ?_)
    rw [Af (n:=(i:Int)+1) oz oz]
    have h:=ih (i+1) e3.symm oz
    rw [List.take_add_one,List.getElem?_eq_getElem a0,← e2,List.map_append,List.map_append] at h
    exact h
theorem Vy (s:List UInt8) (hs:s.length≤10) (l:List Int) (hl:l.length≤1000) (hb:∀ a ∈ l,0≤a∧a<1000):Ev (fun k=>C4.f k (mk s) l) (mk (Lib.join (l.map dd) s)):=by
  unfold C4.f
  exact list_loop s hs l hl hb l 0 rfl oz

/-! ### texts split at a byte -/
def spl (b:UInt8):List UInt8→List (List UInt8)
  | []=>[[]]
  | c::t=>if c=b then []::spl b t else match spl b t with
    | []=>[[c]]
    | g::r=>(c::g)::r
theorem Rf (b:UInt8):∀ l,spl b l≠[]:=by
  intro l
  cases l with
  | nil=>simp [spl]
  | cons c t =>
    simp only [spl]
    split
    · simp
    · split <;> simp
theorem Qw (b:UInt8):∀ p:List UInt8,b ∉ p→spl b p=[p]:=by
  intro p
  induction p with
  | nil=>intro _;rfl
  | cons c t ih =>
    intro h
    have h1:c≠b:=fun e=>h (by rw [e];exact List.mem_cons_self)
    simp only [spl]
    rw [if_neg h1,ih (fun hm=>h (List.mem_cons_of_mem _ hm))]
theorem Qx (b:UInt8) (q:List UInt8):∀ p:List UInt8,b ∉ p→spl b (p++b::q)=p::spl b q:=by
  intro p
  induction p with
  | nil=>intro _;simp [spl]
  | cons c t ih =>
    intro h
    have h1:c≠b:=fun e=>h (by rw [e];exact List.mem_cons_self)
    rw [List.cons_append]
    simp only [spl]
    rw [if_neg h1,ih (fun hm=>h (List.mem_cons_of_mem _ hm))]
theorem spl_parts (b:UInt8):∀ l,∀ g ∈ spl b l,b ∉ g:=by
  intro l
  induction l with
  | nil=>intro g hg;simp only [spl,List.mem_singleton] at hg;subst hg;exact List.not_mem_nil
  | cons c t ih =>
    intro g hg
    simp only [spl] at hg
    split at hg
    · rcases List.mem_cons.1 hg with e|e
      · subst e;exact List.not_mem_nil
      · exact ih g e
    · rename_i h1
      cases hs:spl b t with
      | nil=>exact absurd hs (Rf b t)
      | cons g0 r =>
        rw [hs] at hg ih
        rcases List.mem_cons.1 hg with e|e
        · subst e
          intro hm
          rcases List.mem_cons.1 hm with e2|e2
          · exact h1 e2.symm
          · exact ih g0 List.mem_cons_self e2
        · exact ih g (List.mem_cons_of_mem _ e)
theorem Qy (b:UInt8):∀ l,Lib.join (spl b l) [b]=l:=by
  intro l
  induction l with
  | nil=>exact Lib.join_one _ _
  | cons c t ih =>
    simp only [spl]
    cases hs:spl b t with
    | nil=>exact absurd hs (Rf b t)
    | cons g r =>
      rw [hs,Lib.join_cons] at ih
      split
      · rename_i h1
        rw [Lib.join_cons]
        simp only [List.nil_append]
        rw [h1,← ih]
        simp [Lib.joinTail]
      · rw [Lib.join_cons,List.cons_append,ih]
theorem Qn (b:UInt8):∀ ps:List (List UInt8),ps≠[]→(∀ p ∈ ps,b ∉ p)→spl b (Lib.join ps [b])=ps:=by
  intro ps
  induction ps with
  | nil=>intro h _;exact absurd rfl h
  | cons p r ih =>
    intro _ hb
    cases r with
    | nil=>rw [Lib.join_one];exact Qw b p (hb p List.mem_cons_self)
    | cons q r =>
      have h2:=ih (by simp) (fun z hz=>hb z (List.mem_cons_of_mem _ hz))
      rw [Lib.join_cons]
      have e:p++Lib.joinTail [b] (q::r)=p++b::Lib.join (q::r) [b]:=by
        rw [Lib.join_cons]
        simp [Lib.joinTail]
      rw [e,Qx b _ p (hb p List.mem_cons_self),h2]
theorem Vf (b:UInt8):∀ l:List UInt8,b ∈ l→∃ p q,l=p++b::q∧b ∉ p:=by
  intro l
  induction l with
  | nil=>intro h;exact absurd h List.not_mem_nil
  | cons c t ih =>
    intro h
    by_cases e:c=b
    · exact ⟨[],t,by rw [e];rfl,List.not_mem_nil⟩
    · have hm:b ∈ t:=(List.mem_cons.1 h).elim (fun e2=>absurd e2.symm e) id
      obtain ⟨p,q,h1,h2⟩:=ih hm
      exact ⟨c::p,q,by rw [h1];rfl,fun hx=>(List.mem_cons.1 hx).elim (fun e2=>e e2.symm) h2⟩
theorem Rg (b:UInt8):∀ l:List UInt8,b ∉ l→Lib.index l [b] = -1:=by
  intro l
  induction l with
  | nil=>intro _;rfl
  | cons c t ih =>
    intro h
    have h1:¬ b=c:=fun e=>h (by rw [e];exact List.mem_cons_self)
    have h2:=ih (fun hm=>h (List.mem_cons_of_mem _ hm))
    simp [Lib.index,List.isPrefixOf,h1,h2]
theorem Rh (b:UInt8) (q:List UInt8):∀ p:List UInt8,b ∉ p→Lib.index (p++b::q) [b]=p.length:=by
  intro p
  induction p with
  | nil=>intro _;simp [Lib.index,List.isPrefixOf]
  | cons c t ih =>
    intro h
    have h1:¬ b=c:=fun e=>h (by rw [e];exact List.mem_cons_self)
    have h2:=ih (fun hm=>h (List.mem_cons_of_mem _ hm))
    rw [List.cons_append]
    simp only [Lib.index,List.isPrefixOf,Bool.and_true,beq_iff_eq,h1,if_false,h2]
    rw [if_neg oz,List.length_cons]
    omega
theorem Xh (b:UInt8):∀ (n f:Nat) (s:List UInt8),s.length≤n→s.length+1≤f→Lib.countFrom [b] f s=Lib.countFrom [b] (s.length+1) s:=by
  intro n
  induction n with
  | zero =>
    intro f s hn hf
    obtain ⟨f,rfl⟩:∃ g,f=g+1:=⟨f-1,by omega⟩
    have e:s=[]:=List.eq_nil_of_length_eq_zero oz
    subst e
    simp [Lib.countFrom,Lib.index]
  | succ n ih =>
    intro f s hn hf
    obtain ⟨f,rfl⟩:∃ g,f=g+1:=⟨f-1,by omega⟩
    by_cases hb:b ∈ s
    · obtain ⟨p,q,e,hp⟩:=Vf b s hb
      have hl:s.length=p.length+(q.length+1):=by rw [e,List.length_append,List.length_cons]
      have hi:Lib.index s [b]=p.length:=by rw [e];exact Rh b q p hp
      have hd:s.drop ((Lib.index s [b]).toNat+[b].length)=q:=by
        rw [hi,e,Int.toNat_natCast]
        simp
      have hne:¬ (Lib.index s [b] == -1)=true:=by rw [hi];simp
      simp only [Lib.countFrom]
      rw [if_neg hne,if_neg hne,hd,ih f q oz oz,ih s.length q oz oz]
    · have hi:=Rg b s hb
      simp [Lib.countFrom,hi]
theorem Xi (b:UInt8):∀ (n:Nat) (s:List UInt8),s.length≤n→Lib.splitK [b] 0 (Lib.count s [b]) s=spl b s:=by
  intro n
  induction n with
  | zero =>
    intro s hn
    have e:s=[]:=List.eq_nil_of_length_eq_zero oz
    subst e
    rfl
  | succ n ih =>
    intro s hn
    by_cases hb:b ∈ s
    · obtain ⟨p,q,e,hp⟩:=Vf b s hb
      have hl:s.length=p.length+(q.length+1):=by rw [e,List.length_append,List.length_cons]
      have hi:Lib.index s [b]=p.length:=by rw [e];exact Rh b q p hp
      have hd:s.drop ((Lib.index s [b]).toNat+[b].length)=q:=by
        rw [hi,e,Int.toNat_natCast]
        simp
      have hne:¬ (Lib.index s [b] == -1)=true:=by rw [hi];simp
      have hc:Lib.count s [b]=Lib.count q [b]+1:=by
        unfold Lib.count
        simp only [Lib.countFrom]
        rw [if_neg hne,hd,Xh b q.length s.length q (Nat.le_refl _) oz]
        simp only [Lib.countFrom]
        omega
      rw [hc]
      simp only [Lib.splitK]
      rw [if_neg hne,hd,ih q oz,hi,e,Qx b q p hp]
      simp
    · have hi:=Rg b s hb
      rw [Qw b s hb]
      unfold Lib.count
      simp [Lib.countFrom,hi,Lib.splitK]

/-! ### what strconv.Atoi makes of a numeral -/
theorem K1:∀ x:Nat,x<10→Lib.digitVal (UInt8.ofNat (48+x))=some x:=by decide
theorem dig_ne:∀ x:Nat,x<10→(UInt8.ofNat (48+x)).toNat≠43∧(UInt8.ofNat (48+x)).toNat≠45:=by decide
theorem Ry (u:Nat) (h:u<1000):∃ x:Nat,x<10∧∃ r:List UInt8,Lib.decDigits u=UInt8.ofNat (48+x)::r∧r.length≤2∧Lib.decFrom 0 (UInt8.ofNat (48+x)::r)=some u∧(r=[]∨0<x):=by
  have one:∀ v:Nat,v<10→Lib.decDigits v=[UInt8.ofNat (48+v)]:=fun v hv=>by rw [Lib.decDigits,dif_pos hv]
  have two:∀ v:Nat,¬ v<10→Lib.decDigits v=Lib.decDigits (v/10)++[UInt8.ofNat (48+v%10)]:=fun v hv=>by rw [Lib.decDigits,dif_neg hv]
  by_cases h1:u<10
  · refine ⟨u,h1,[],one u h1,by simp,?_⟩
    simp only [Lib.decFrom,K1 u h1]
    exact ⟨by simp,.inl (by trivial)⟩
  · by_cases h2:u<100
    · refine ⟨u/10,by omega,[UInt8.ofNat (48+u%10)],?_,by simp,?_⟩
      · rw [two u h1,one (u/10) oz];rfl
      · simp only [Lib.decFrom,K1 (u/10) oz,K1 (u%10) oz]
        exact ⟨by congr 1;omega,.inr oz⟩
    · refine ⟨u/10/10,by omega,[UInt8.ofNat (48+u/10%10),UInt8.ofNat (48+u%10)],?_,by simp,?_⟩
      · rw [two u h1,two (u/10) oz,one (u/10/10) oz];rfl
      · simp only [Lib.decFrom,K1 (u/10/10) oz,K1 (u/10%10) oz,K1 (u%10) oz]
        exact ⟨by congr 1;omega,.inr oz⟩
theorem Rz (u:Nat) (h:u<1000):Lib.atoiAll (Lib.decDigits u)=.ok (u:Int):=by
  obtain ⟨x,hx,r,e,hr,hd,_⟩:=Ry u h
  obtain ⟨n1,n2⟩:=dig_ne x hx
  rw [e,Lib.atoiAll_plain _ r n1 n2,Lib.signless_short (by simp only [List.length_cons];omega)]
  have e2:Lib.decNat (UInt8.ofNat (48+x)::r)=some u:=by
    unfold Lib.decNat
    rw [if_neg (by simp)]
    exact hd
  rw [e2]
  rfl
theorem R0:∀ x:Nat,x<10→(UInt8.ofNat (48+x)).toNat=48+x:=by decide
theorem dd_dig (u:Nat) (h:u<1000):∀ c ∈ Lib.decDigits u,48≤c.toNat∧c.toNat≤57:=by
  have one:∀ v:Nat,v<10→∀ c ∈ Lib.decDigits v,48≤c.toNat∧c.toNat≤57:=fun v hv c hc=>by
    rw [Lib.decDigits,dif_pos hv] at hc
    rw [List.mem_singleton.1 hc,R0 v hv]
    omega
  have step:∀ v:Nat,¬ v<10→(∀ c ∈ Lib.decDigits (v/10),48≤c.toNat∧c.toNat≤57)→∀ c ∈ Lib.decDigits v,48≤c.toNat∧c.toNat≤57:=fun v hv hq c hc=>by
    rw [Lib.decDigits,dif_neg hv] at hc
    rcases List.mem_append.1 hc with hc|hc
    · exact hq c hc
    · rw [List.mem_singleton.1 hc,R0 (v%10) oz]
      omega
  by_cases h1:u<10
  · exact one u h1
  · refine step u h1 ?_
    by_cases h2:u/10<10
    · exact one (u/10) h2
    · exact step (u/10) h2 (one (u/10/10) oz)
theorem dd_no (u:Nat) (h:u<1000) (b:UInt8) (hb:b.toNat<48∨57<b.toNat):b ∉ Lib.decDigits u:=fun hm=>by
  have:=dd_dig u h b hm
  omega

end Go.Proofs.YtgeahghdikdamaaGreatDoor.Pure
