/- Full currents are a flow that is balanced, trees go into the net, potentials are told from pole to pole, and nets of cuts flow by their sides, whatever is given. -/
import Derived.Test.YteaomckihokakaaPureAFnNetsFlowOfAll
import Derived.Test.YteaomckihokakaaPFnNetsFlowOfAllx23
namespace Go.Proofs.Yteaomckihokakaa.Pure
open Go.RowKit Go.Proofs.Yteaomckihokakaa.PFnNetsFlowOfAll Go.Proofs.YteaomckihokakaaW.PrintWords Go.Proofs.YteaomckihokakaaW.PrintLast Go.Proofs.YteaomckihokakaaW.PrintMore Go.Proofs.YteaomckihokakaaW.Evs
set_option linter.unusedVariables false
set_option linter.unusedSimpArgs false
namespace CUT

/-! ### the lines of a cut: what they cover, each place once -/
def SegOk (b:Nat→Bool) (w:Nat) (r:List Int):Prop:=0≤rd r 1∧rd r 1<rd r 2∧rd r 2≤w∧(∀ x:Nat,rd r 1≤x→(x:Int)<rd r 2→b x=true)∧(∀ x:Nat,(x:Int)=rd r 2→x<w→b x=false)
def Bef (r s:List Int):Prop:=rd r 0<rd s 0∨rd r 0=rd s 0∧rd r 2≤rd s 1
theorem rd3 (y a z:Int):rd [y,a,z] 0=y∧rd [y,a,z] 1=a∧rd [y,a,z] 2=z:=⟨rfl,rfl,rfl⟩
theorem st_ok (b : Nat → Bool) (y : Int) : ∀ n : Nat, (∀ r ∈ (st b y n).1, rd r 0 = y ∧ 0 ≤ rd r 1 ∧ rd r 1 < rd r 2 ∧ rd r 2 < n ∧ (∀ x : Nat, rd r 1 ≤ x → (x : Int) < rd r 2 → b x = true) ∧ (∀ x : Nat, (x : Int) = rd r 2 → b x = false)) ∧
    ((st b y n).2<0∨(0≤(st b y n).2∧(st b y n).2<n∧∀ x:Nat,(st b y n).2≤x→x<n→b x=true))∧(st b y n).1.Pairwise Bef∧(0≤(st b y n).2→∀ r ∈ (st b y n).1,rd r 2≤(st b y n).2)
  | 0=>by simp [st]
  | n+1=>by
    obtain ⟨h1,h2,h3,h4⟩:=st_ok b y n
    by_cases hb:b n=true
    · have e:st b y (n+1)=((st b y n).1,if (st b y n).2<0 then (n:Int) else (st b y n).2):=by simp only [st,if_pos hb]
      rw [e]
      refine ⟨fun r hr=>?_,.inr ?_,h3,fun _ r hr=>?_⟩
      · obtain ⟨a1,a2,a3,a4,a5,a6⟩:=h1 r hr
        exact ⟨a1,a2,a3,by omega,a5,a6⟩
      · dsimp only
        split
        · exact ⟨by omega,by omega,fun x hx hx2=>by rw [show x=n by omega];exact hb⟩
        · rename_i hn
          rcases h2 with h2|⟨c1,c2,c3⟩
          · exact absurd h2 hn
          · refine ⟨c1,by omega,fun x hx hx2=>?_⟩
            by_cases e:x=n
            · rw [e];exact hb
            · exact c3 x hx (by omega)
      · dsimp only
        obtain ⟨a1,a2,a3,a4,a5,a6⟩:=h1 r hr
        split
        · omega
        · rename_i hn;exact h4 (by omega) r hr
    · have hb':b n=false:=by simpa using hb
      by_cases hs:(st b y n).2<0
      · have e:st b y (n+1)=st b y n:=by simp only [st,if_neg hb,if_pos hs]
        rw [e]
        refine ⟨fun r hr=>?_,.inl hs,h3,h4⟩
        obtain ⟨a1,a2,a3,a4,a5,a6⟩:=h1 r hr
        exact ⟨a1,a2,a3,by omega,a5,a6⟩
      · have e:st b y (n+1)=((st b y n).1++[[y,(st b y n).2,(n:Int)]],-1):=by simp only [st,if_neg hb,if_neg hs]
        rcases h2 with h2|⟨c1,c2,c3⟩
        · exact absurd h2 hs
        · rw [e]
          refine ⟨fun r hr=>?_,.inl (show (-1:Int)<0 by decide),?_,fun h=>absurd h (show ¬ (0:Int) ≤ -1 by decide)⟩
          · rcases List.mem_append.1 hr with hr|hr
            · obtain ⟨a1,a2,a3,a4,a5,a6⟩:=h1 r hr
              exact ⟨a1,a2,a3,by omega,a5,a6⟩
            · rw [List.mem_singleton.1 hr]
              obtain ⟨e0,e1,e2⟩:=rd3 y (st b y n).2 (n:Int)
              rw [e0,e1,e2]
              exact ⟨rfl,c1,c2,by omega,fun x hx hx2=>c3 x hx (by omega),fun x hx=>by rw [show x=n by omega];exact hb'⟩
          · refine List.pairwise_append.2 ⟨h3,List.pairwise_singleton _ _,fun r hr s hs=>?_⟩
            rw [List.mem_singleton.1 hs]
            obtain ⟨e0,e1,e2⟩:=rd3 y (st b y n).2 (n:Int)
            refine .inr ⟨by rw [e0];exact (h1 r hr).1,by rw [e1];exact h4 c1 r hr⟩
theorem fin_ok (b:Nat→Bool) (y:Int) (w:Nat):(∀ r ∈ fin b y w,rd r 0=y∧SegOk b w r)∧(fin b y w).Pairwise Bef:=by
  obtain ⟨h1,h2,h3,h4⟩:=st_ok b y w
  have old:∀ r ∈ (st b y w).1,rd r 0=y∧SegOk b w r:=fun r hr=>by
    obtain ⟨a1,a2,a3,a4,a5,a6⟩:=h1 r hr
    exact ⟨a1,a2,a3,by omega,a5,fun x hx _=>a6 x hx⟩
  unfold fin
  rcases h2 with h2|⟨c1,c2,c3⟩
  · rw [if_pos h2,List.append_nil];exact ⟨old,h3⟩
  · rw [if_neg (by omega)]
    obtain ⟨e0,e1,e2⟩:=rd3 y (st b y w).2 (w:Int)
    refine ⟨fun r hr=>?_,List.pairwise_append.2 ⟨h3,List.pairwise_singleton _ _,fun r hr s hs=>?_⟩⟩
    · rcases List.mem_append.1 hr with hr|hr
      · exact old r hr
      · rw [List.mem_singleton.1 hr]
        unfold SegOk
        rw [e0,e1,e2]
        exact ⟨rfl,c1,c2,by omega,fun x hx hx2=>c3 x hx (by omega),fun x hx hx2=>by omega⟩
    · rw [List.mem_singleton.1 hs]
      exact .inr ⟨by rw [e0];exact (h1 r hr).1,by rw [e1];exact h4 c1 r hr⟩
theorem Q5 (l:List Sq) (w:Nat):∀ n:Nat,(∀ r ∈ allL l w n,0≤rd r 0∧rd r 0<n∧SegOk (bAt l (rd r 0)) w r)∧(allL l w n).Pairwise Bef
  | 0=>by simp [allL]
  | n+1=>by
    obtain ⟨h1,h2⟩:=Q5 l w n
    obtain ⟨f1,f2⟩:=fin_ok (bAt l (n:Int)) (n:Int) w
    rw [allL]
    refine ⟨fun r hr=>?_,List.pairwise_append.2 ⟨h2,f2,fun r hr s hs=>.inl ?_⟩⟩
    · rcases List.mem_append.1 hr with hr|hr
      · obtain ⟨a1,a2,a3⟩:=h1 r hr;exact ⟨a1,by omega,a3⟩
      · obtain ⟨a1,a2⟩:=f1 r hr;rw [a1];exact ⟨by omega,by omega,a2⟩
    · have:=(h1 r hr).2.1;rw [(f1 s hs).1];exact this
def On (L:List (List Int)) (y x:Int) (k:Nat):Prop:=rd (L.getD k []) 0=y∧rd (L.getD k []) 1≤x∧x<rd (L.getD k []) 2
theorem seg {W H:Int} {l:List Sq} (hg:Good W H l) {L:List (List Int)} (hL:L=allL l W.toNat (H.toNat+1)) (k:Nat) (hk:k<L.length):0≤rd (L.getD k []) 0∧rd (L.getD k []) 0≤H∧SegOk (bAt l (rd (L.getD k []) 0)) W.toNat (L.getD k []):=by
  have hH:=hg.2.1
  have e:L.getD k []=L[k]:=by simp [List.getD,hk]
  rw [e]
  have m:L[k] ∈ allL l W.toNat (H.toNat+1):=hL ▸ List.getElem_mem hk
  obtain ⟨a1,a2,a3⟩:=(Q5 l W.toNat (H.toNat+1)).1 _ m
  exact ⟨a1,by omega,a3⟩
theorem linP_iff {W H:Int} {l:List Sq} (hg:Good W H l) {L:List (List Int)} (hL:L=allL l W.toNat (H.toNat+1)) (y x:Int) (k:Nat) (hk:k<L.length):E8 L y x k=true↔On L y x k:=by
  have hW:=hg.1
  obtain ⟨_,_,s1,s2,s3,_⟩:=seg hg hL k hk
  unfold E8 On
  rw [decide_eq_true_eq,Ap (by omega) (by omega)]
  omega
theorem K0 {W H:Int} {l:List Sq} (hg:Good W H l) {L:List (List Int)} (hL:L=allL l W.toNat (H.toNat+1)) (y x:Int) (i j:Nat) (hi:i<L.length) (hj:j<L.length) (h1:On L y x i) (h2:On L y x j):i=j:=by
  have P:L.Pairwise Bef:=hL ▸ (Q5 l W.toNat (H.toNat+1)).2
  have key:∀ i j,i<j→j<L.length→On L y x i→On L y x j→False:=fun i j hij hj a b=>by
    have:=List.pairwise_iff_getElem.1 P i j (by omega) hj hij
    have e1:L.getD i []=L[i]:=by simp [List.getD,show i<L.length by omega]
    have e2:L.getD j []=L[j]:=by simp [List.getD,hj]
    unfold On at a b
    rw [e1] at a
    rw [e2] at b
    unfold Bef at this
    omega
  rcases Nat.lt_trichotomy i j with h|h|h
  · exact (key i j h hj h1 h2).elim
  · exact h
  · exact (key j i h hi h2 h1).elim
theorem on_next {W H:Int} {l:List Sq} (hg:Good W H l) {L:List (List Int)} (hL:L=allL l W.toNat (H.toNat+1)) (y:Int) (x:Nat) (k:Nat) (hk:k<L.length) (h:On L y x k) (hx:(x:Int)+1<W) (hb:bAt l y (x+1)=true):On L y ((x+1:Nat):Int) k:=by
  obtain ⟨_,_,s1,s2,s3,_,s5⟩:=seg hg hL k hk
  obtain ⟨h1,h2,h3⟩:=h
  rw [h1] at s5
  refine ⟨h1,by omega,?_⟩
  by_cases e:rd (L.getD k []) 2=((x+1:Nat):Int)
  · have:=s5 (x+1) e.symm (by omega)
    rw [hb] at this;cases this
  · omega
/-- a square's edge lies in one line -/
theorem on_edge {W H:Int} {l:List Sq} (hg:Good W H l) {L:List (List Int)} (hL:L=allL l W.toNat (H.toNat+1)) (m:Nat) (hm:m<l.length) (y:Int) (hy:y=(Al l m).f1∨y=(Al l m).f1+(Al l m).f2) (k:Nat) (hk:k<L.length):∀ d:Nat,(d:Int)<(Al l m).f2→On L y (Al l m).f0 k→On L y ((Al l m).f0+d) k
  | 0,_,h=>by simpa using h
  | d+1,hd,h=>by
    have hi:=(hg.2.2.2.1 m hm).1
    unfold Ins at hi
    have ih:=on_edge hg hL m hm y hy k hk d (by omega) h
    have e:(Al l m).f0+(d:Int)=(((Al l m).f0.toNat+d:Nat):Int):=by omega
    rw [e] at ih
    have:=on_next hg hL y _ k hk ih (by omega) (by
      unfold bAt;rw [If]
      exact ⟨m,hm,by omega,by omega,by omega⟩)
    rw [show (Al l m).f0+((d+1:Nat):Int)=(((Al l m).f0.toNat+d+1:Nat):Int) by omega]
    exact this
theorem Rs {W H:Int} {l:List Sq} (hg:Good W H l) {L:List (List Int)} (hL:L=allL l W.toNat (H.toNat+1)) (m:Nat) (hm:m<l.length) (y:Int) (hy:y=(Al l m).f1∨y=(Al l m).f1+(Al l m).f2):ixF (E8 L y (Al l m).f0) L.length 0<L.length∧On L y (Al l m).f0 (ixF (E8 L y (Al l m).f0) L.length 0):=by
  have ix:∀ (P:Nat→Bool) (d i:Nat),(∃ k,i≤k∧k<i+d∧P k=true)→ixF P d i<i+d∧P (ixF P d i)=true:=by
    intro P d
    induction d with
    | zero=>intro i ⟨k,a,b,_⟩;omega
    | succ d ih =>
      intro i ⟨k,a,b,c⟩
      rw [ixF]
      by_cases h:P i=true
      · rw [if_pos h];exact ⟨by omega,h⟩
      · rw [if_neg h]
        have:k≠i:=fun e=>h (e ▸ c)
        obtain ⟨q1,q2⟩:=ih (i+1) ⟨k,by omega,by omega,c⟩
        exact ⟨by omega,q2⟩
  obtain ⟨k,k1,k2⟩:=Kx hg (Md l m hm) y hy
  rw [← hL] at k1 k2
  obtain ⟨q1,q2⟩:=ix (E8 L y (Al l m).f0) L.length 0 ⟨k,by omega,by omega,k2⟩
  rw [Nat.zero_add] at q1
  exact ⟨q1,(linP_iff hg hL y _ _ q1).1 q2⟩
theorem Jr {W H:Int} {l:List Sq} (hg:Good W H l) (i j:Nat) (hi:i<l.length) (hj:j<l.length) (x y:Int) (a:Ek (Al l i) x y) (b:Ek (Al l j) x y):i=j:=by
  rcases Nat.lt_trichotomy i j with h|h|h
  · exact ((hg.2.2.2.1 j hj).2.2 i h (in_ovl b a)).elim
  · exact h
  · exact ((hg.2.2.2.1 i hi).2.2 j h (in_ovl a b)).elim
/-- on a line just one square hangs below each place, and one stands Mg -/
theorem below {W H:Int} {l:List Sq} (hg:Good W H l) (x:Nat) (y:Int) (hx:(x:Int)<W) (hy:0≤y∧y<H) (hb:bAt l y x=true):∃ m,m<l.length∧(Al l m).f1=y∧(Al l m).f0≤x∧(x:Int)<(Al l m).f0+(Al l m).f2:=by
  obtain ⟨m,hm,hin⟩:=Np hg x y ⟨by omega,hx⟩ hy
  refine ⟨m,hm,?_,hin.1,hin.2.1⟩
  unfold bAt at hb
  rw [If] at hb
  obtain ⟨n,hn,hs,h0,h1⟩:=hb
  have ins:=(hg.2.2.2.1 n hn).1
  have insm:=(hg.2.2.2.1 m hm).1
  unfold Ins at ins insm
  unfold Ek at hin
  rcases hs with hs|hs
  · have:=Jr hg m n hm hn x y hin (by unfold Ek;omega)
    rw [this];exact hs
  · by_cases e:(Al l m).f1=y
    · exact e
    · have:=Jr hg m n hm hn x (y-1) (by unfold Ek;omega) (by unfold Ek;omega)
      rw [this] at hin;omega
theorem Mg {W H:Int} {l:List Sq} (hg:Good W H l) (x:Nat) (y:Int) (hx:(x:Int)<W) (hy:0<y∧y≤H) (hb:bAt l y x=true):∃ m,m<l.length∧(Al l m).f1+(Al l m).f2=y∧(Al l m).f0≤x∧(x:Int)<(Al l m).f0+(Al l m).f2:=by
  obtain ⟨m,hm,hin⟩:=Np hg x (y-1) ⟨by omega,hx⟩ ⟨by omega,by omega⟩
  refine ⟨m,hm,?_,hin.1,hin.2.1⟩
  unfold bAt at hb
  rw [If] at hb
  obtain ⟨n,hn,hs,h0,h1⟩:=hb
  have ins:=(hg.2.2.2.1 n hn).1
  have insm:=(hg.2.2.2.1 m hm).1
  unfold Ins at ins insm
  unfold Ek at hin
  rcases hs with hs|hs
  · by_cases e:(Al l m).f1+(Al l m).f2=y
    · exact e
    · have:=Jr hg m n hm hn x y (by unfold Ek;omega) (by unfold Ek;omega)
      rw [this] at hin;omega
  · have:=Jr hg m n hm hn x (y-1) (by unfold Ek;omega) (by unfold Ek;omega)
    rw [this];exact hs
/-- the first line and the last -/
theorem Up (b:Nat→Bool) (y:Int):∀ w:Nat,0<w→(∀ x,x<w→b x=true)→fin b y w=[[y,0,(w:Int)]]:=by
  have key:∀ w:Nat,(∀ x,x<w+1→b x=true)→st b y (w+1)=([],0):=by
    intro w
    induction w with
    | zero=>intro h;simp only [st,if_pos (h 0 (by omega))];rfl
    | succ w ih=>intro h;rw [st,ih (fun x hx=>h x (by omega)),if_pos (h (w+1) (by omega))];rfl
  intro w hw h
  obtain ⟨v,rfl⟩:∃ v,w=v+1:=⟨w-1,by omega⟩
  unfold fin
  rw [key v h];rfl
theorem Uq {W H:Int} {l:List Sq} (hg:Good W H l) (y:Int) (hy:y=0∨y=H) (x:Nat) (hx:x<W.toNat):bAt l y x=true:=by
  have hW:=hg.1
  have hH:=hg.2.1
  unfold bAt
  rw [If]
  rcases hy with rfl|rfl
  · obtain ⟨m,hm,hin⟩:=Np hg x 0 ⟨by omega,by omega⟩ ⟨by omega,by omega⟩
    have ins:=(hg.2.2.2.1 m hm).1
    unfold Ins at ins
    unfold Ek at hin
    exact ⟨m,hm,.inl (by omega),hin.1,hin.2.1⟩
  · obtain ⟨m,hm,hin⟩:=Np hg x (y-1) ⟨by omega,by omega⟩ ⟨by omega,by omega⟩
    have ins:=(hg.2.2.2.1 m hm).1
    unfold Ins at ins
    unfold Ek at hin
    exact ⟨m,hm,.inr (by omega),hin.1,hin.2.1⟩
theorem allL_ends {W H:Int} {l:List Sq} (hg:Good W H l):∃ M,allL l W.toNat (H.toNat+1)=[0,0,W]::(M++[[H,0,W]]):=by
  have hW:=hg.1
  have hH:=hg.2.1
  have first:∀ n:Nat,∃ M,allL l W.toNat (n+1)=[0,0,W]::M:=by
    intro n
    induction n with
    | zero =>
      refine ⟨[],?_⟩
      have e:=Up (bAt l ((0:Nat):Int)) ((0:Nat):Int) W.toNat (by omega) (fun x hx=>Uq hg _ (.inl rfl) x hx)
      rw [allL,allL,List.nil_append,e,Int.toNat_of_nonneg (by omega)];rfl
    | succ n ih =>
      obtain ⟨M,e⟩:=ih
      exact ⟨M++fin (bAt l ((n+1:Nat):Int)) ((n+1:Nat):Int) W.toNat,by rw [allL,e];rfl⟩
  obtain ⟨h,hh⟩:∃ h,H.toNat=h+1:=⟨H.toNat-1,by omega⟩
  obtain ⟨M,e⟩:=first h
  refine ⟨M,?_⟩
  have e2:=Up (bAt l ((h+1:Nat):Int)) ((h+1:Nat):Int) W.toNat (by omega) (fun x hx=>Uq hg _ (.inr (by omega)) x hx)
  rw [allL,hh,e,e2,Int.toNat_of_nonneg (by omega),show ((h+1:Nat):Int)=H by omega];rfl

/-! ### the net of a cut is a net; its sides flow -/
theorem Qk (F:Nat→Nat→Int) (w:Nat):∀ n,Ce n (fun m=>Ce w (fun x=>F m x))=Ce w (fun x=>Ce n (fun m=>F m x))
  | 0=>(Jn w).symm
  | n+1=>by simp only [Ce];rw [Qk F w n,← M9]
theorem I3 (f:Nat→Int):∀ n,(∀ j,j<n→f j=0)→Ce n f=0
  | 0,_=>rfl
  | n+1,h=>by rw [Ce,I3 f n (fun j hj=>h j (by omega)),h n (by omega)];rfl
theorem Rt (f:Nat→Int) (m:Nat) (hm:f m=1):∀ n,m<n→(∀ j,j<n→j≠m→f j=0)→Ce n f=1
  | 0,h,_=>by omega
  | n+1,h,h0=>by
    by_cases e:n=m
    · subst e;rw [Ce,I3 f n (fun j hj=>h0 j (by omega) (by omega)),hm];rfl
    · rw [Ce,Rt f m hm n (by omega) (fun j hj=>h0 j (by omega)),h0 n (by omega) e];rfl
theorem og_app (g:Wr→Int) (w:Wr) (v:Int):∀ t:List Wr,og g (t++[w]) v=og g t v+(bI (w.f0=v)-bI (w.f1=v))*g w
  | []=>by simp only [List.nil_append,og];omega
  | u::t=>by rw [List.cons_append,og,og_app g w v t,og];omega
theorem og_sum (g:Wr→Int) (f:Sq→Wr) (l:List Sq) (v:Int):∀ n,n≤l.length→og g ((l.take n).map f) v=Ce n (fun m=>(bI ((f (Al l m)).f0=v)-bI ((f (Al l m)).f1=v))*g (f (Al l m)))
  | 0,_=>rfl
  | n+1,h=>by
    have e:(l.take (n+1)).map f=(l.take n).map f++[f (Al l n)]:=by
      rw [List.take_succ_eq_append_getElem (by omega),List.map_append,sqAt_get l n (by omega)];rfl
    rw [e,og_app,og_sum g f l v n (by omega),Ce]
abbrev tp (L:List (List Int)) (s:Sq):Nat:=ixF (E8 L s.f1 s.f0) L.length 0
abbrev bo (L:List (List Int)) (s:Sq):Nat:=ixF (E8 L (s.f1+s.f2) s.f0) L.length 0
def Yv (L:List (List Int)) (v:Int):Int:=rd (L.getD v.toNat []) 0
theorem Yv_nat (L:List (List Int)) (k:Nat):Yv L (k:Int)=rd (L.getD k []) 0:=by unfold Yv;rw [Int.toNat_natCast]
theorem tp_ok {W H:Int} {l:List Sq} (hg:Good W H l) {L:List (List Int)} (hL:L=allL l W.toNat (H.toNat+1)) (m:Nat) (hm:m<l.length):tp L (Al l m)<L.length∧On L (Al l m).f1 (Al l m).f0 (tp L (Al l m)):=Rs hg hL m hm _ (.inl rfl)
theorem bo_ok {W H:Int} {l:List Sq} (hg:Good W H l) {L:List (List Int)} (hL:L=allL l W.toNat (H.toNat+1)) (m:Nat) (hm:m<l.length):bo L (Al l m)<L.length∧On L ((Al l m).f1+(Al l m).f2) (Al l m).f0 (bo L (Al l m)):=Rs hg hL m hm _ (.inr rfl)
theorem sd_eq {W H:Int} {l:List Sq} (hg:Good W H l) {L:List (List Int)} (hL:L=allL l W.toNat (H.toNat+1)) (m:Nat) (hm:m<l.length):Yv L (wireOf L (Al l m)).f1-Yv L (wireOf L (Al l m)).f0=(Al l m).f2:=by
  have a:=(tp_ok hg hL m hm).2.1
  have b:=(bo_ok hg hL m hm).2.1
  show Yv L ((bo L (Al l m):Nat):Int)-Yv L ((tp L (Al l m):Nat):Int)=_
  rw [Yv_nat,Yv_nat,a,b];omega
/-- sums over the squares that hang from, or stand on, a line -/
theorem Ur {W H : Int} {l : List Sq} (hg : Good W H l) (P : Nat → Bool) (a z : Int) (ha : 0 ≤ a) (haz : a ≤ z) (hz : z ≤ W) (h1 : ∀ m, m < l.length → P m = true → ∀ x : Nat, (Al l m).f0 ≤ x → (x : Int) < (Al l m).f0 + (Al l m).f2 → a ≤ (x : Int) ∧ (x : Int) < z)
    (h2:∀ x:Nat,a≤(x:Int)→(x:Int)<z→∃ m,m<l.length∧P m=true∧(Al l m).f0≤x∧(x:Int)<(Al l m).f0+(Al l m).f2)
    (h3:∀ i j,i<l.length→j<l.length→P i=true→P j=true→∀ x:Nat,(Al l i).f0≤x→(x:Int)<(Al l i).f0+(Al l i).f2→(Al l j).f0≤x→(x:Int)<(Al l j).f0+(Al l j).f2→i=j) :
    Ce l.length (fun m=>(if P m=true then 1 else 0)*(Al l m).f2)=z-a:=by
  have hW:=hg.1
  have e1:Ce l.length (fun m=>(if P m=true then 1 else 0)*(Al l m).f2)=Ce l.length (fun m=>Ce W.toNat (fun x=>(if P m=true then 1 else 0)*ind (Al l m).f0 (Al l m).f2 x)):=Gr _ _ _ (fun m hm=>by
    have hi:=(hg.2.2.2.1 m hm).1
    unfold Ins at hi
    have:=I7 (Al l m).f0 (Al l m).f2 W.toNat (by omega) (by omega) (by omega)
    by_cases h:P m=true
    · simp only [if_pos h,Int.one_mul];exact this.symm
    · simp only [if_neg h,Int.zero_mul];exact (Jn _).symm)
  have e2:=I7 a (z-a) W.toNat ha (by omega) (by omega)
  rw [e1,Qk,← e2]
  refine Gr _ _ _ (fun x hx=>?_)
  have val:∀ m,(if P m=true then (1:Int) else 0)*ind (Al l m).f0 (Al l m).f2 x=if P m=true∧(Al l m).f0≤x∧(x:Int)<(Al l m).f0+(Al l m).f2 then 1 else 0:=fun m=>by
    unfold ind
    by_cases h:P m=true
    · by_cases h':(Al l m).f0≤x∧(x:Int)<(Al l m).f0+(Al l m).f2
      · rw [if_pos h,if_pos h',if_pos ⟨h,h'⟩];rfl
      · rw [if_pos h,if_neg h',if_neg (show ¬ (P m=true∧(Al l m).f0≤x∧(x:Int)<(Al l m).f0+(Al l m).f2) from fun q=>h' q.2)];rfl
    · rw [if_neg h,if_neg (show ¬ (P m=true∧(Al l m).f0≤x∧(x:Int)<(Al l m).f0+(Al l m).f2) from fun q=>h q.1),Int.zero_mul]
  by_cases hin:a≤(x:Int)∧(x:Int)<z
  · obtain ⟨m,m1,m2,m3,m4⟩:=h2 x hin.1 hin.2
    rw [Rt _ m (by rw [val,if_pos ⟨m2,m3,m4⟩]) l.length m1 (fun j hj hne=>by
      rw [val,if_neg]
      rintro ⟨q1,q2,q3⟩
      exact hne (h3 j m hj m1 q1 m2 x q2 q3 m3 m4))]
    unfold ind;rw [if_pos ⟨hin.1,by omega⟩]
  · rw [I3 _ _ (fun j hj => by
      rw [val,if_neg]
      rintro ⟨q1,q2,q3⟩
      exact hin (h1 j hj q1 x q2 q3))]
    unfold ind;rw [if_neg (by omega)]
theorem at_x {W H:Int} {l:List Sq} (hg:Good W H l) {L:List (List Int)} (hL:L=allL l W.toNat (H.toNat+1)) (m:Nat) (hm:m<l.length) (y:Int) (hy:y=(Al l m).f1∨y=(Al l m).f1+(Al l m).f2) (k:Nat) (hk:k<L.length) (h:On L y (Al l m).f0 k) (x:Nat) (h0:(Al l m).f0≤x) (h1:(x:Int)<(Al l m).f0+(Al l m).f2):On L y x k:=by
  have:=on_edge hg hL m hm y hy k hk ((x:Int)-(Al l m).f0).toNat (by omega) h
  rw [show (Al l m).f0+((((x:Int)-(Al l m).f0).toNat:Nat):Int)=(x:Int) by omega] at this
  exact this
theorem tops {W H:Int} {l:List Sq} (hg:Good W H l) {L:List (List Int)} (hL:L=allL l W.toNat (H.toNat+1)) (k:Nat) (hk:k<L.length):Ce l.length (fun m=>(if decide (tp L (Al l m)=k)=true then 1 else 0)*(Al l m).f2)=if rd (L.getD k []) 0<H then rd (L.getD k []) 2-rd (L.getD k []) 1 else 0:=by
  have hW:=hg.1
  obtain ⟨y0,yH,s1,s2,s3,s4,s5⟩:=seg hg hL k hk
  have on:∀ m,m<l.length→tp L (Al l m)=k→rd (L.getD k []) 0=(Al l m).f1∧On L (rd (L.getD k []) 0) (Al l m).f0 k:=fun m hm e=>by
    have:=(tp_ok hg hL m hm).2
    rw [e] at this
    have e2:=this.1
    exact ⟨e2,e2 ▸ this⟩
  by_cases h:rd (L.getD k []) 0<H
  · rw [if_pos h]
    refine Ur hg (fun m=>decide (tp L (Al l m)=k)) _ _ s1 (by omega) (by omega) (fun m hm hp x x0 x1=>?_) (fun x x0 x1=>?_) (fun i j hi hj p q x a b c d=>?_)
    · obtain ⟨e,o⟩:=on m hm (of_decide_eq_true hp)
      have:=at_x hg hL m hm _ (.inl e) k hk o x x0 x1
      exact ⟨this.2.1,this.2.2⟩
    · obtain ⟨m,m1,m2,m3,m4⟩:=below hg x (rd (L.getD k []) 0) (by omega) ⟨y0,h⟩ (s4 x x0 x1)
      refine ⟨m,m1,decide_eq_true ?_,m3,m4⟩
      obtain ⟨t1,t2⟩:=tp_ok hg hL m m1
      rw [m2] at t2
      exact K0 hg hL _ x _ k t1 hk (at_x hg hL m m1 _ (.inl m2.symm) _ t1 t2 x m3 m4) ⟨rfl,x0,x1⟩
    · have e1:=(on i hi (of_decide_eq_true p)).1
      have e2:=(on j hj (of_decide_eq_true q)).1
      have i1:=(hg.2.2.2.1 i hi).1
      have i2:=(hg.2.2.2.1 j hj).1
      unfold Ins at i1 i2
      exact Jr hg i j hi hj x (rd (L.getD k []) 0) (by unfold Ek;omega) (by unfold Ek;omega)
  · rw [if_neg h]
    refine I3 _ _ (fun m hm=>?_)
    rw [if_neg,Int.zero_mul]
    intro e
    have e1:=(on m hm (of_decide_eq_true e)).1
    have i1:=(hg.2.2.2.1 m hm).1
    unfold Ins at i1
    omega
theorem bots {W H:Int} {l:List Sq} (hg:Good W H l) {L:List (List Int)} (hL:L=allL l W.toNat (H.toNat+1)) (k:Nat) (hk:k<L.length):Ce l.length (fun m=>(if decide (bo L (Al l m)=k)=true then 1 else 0)*(Al l m).f2)=if 0<rd (L.getD k []) 0 then rd (L.getD k []) 2-rd (L.getD k []) 1 else 0:=by
  have hW:=hg.1
  obtain ⟨y0,yH,s1,s2,s3,s4,s5⟩:=seg hg hL k hk
  have on:∀ m,m<l.length→bo L (Al l m)=k→rd (L.getD k []) 0=(Al l m).f1+(Al l m).f2∧On L (rd (L.getD k []) 0) (Al l m).f0 k:=fun m hm e=>by
    have:=(bo_ok hg hL m hm).2
    rw [e] at this
    have e2:=this.1
    exact ⟨e2,e2 ▸ this⟩
  by_cases h:0<rd (L.getD k []) 0
  · rw [if_pos h]
    refine Ur hg (fun m=>decide (bo L (Al l m)=k)) _ _ s1 (by omega) (by omega) (fun m hm hp x x0 x1=>?_) (fun x x0 x1=>?_) (fun i j hi hj p q x a b c d=>?_)
    · obtain ⟨e,o⟩:=on m hm (of_decide_eq_true hp)
      have:=at_x hg hL m hm _ (.inr e) k hk o x x0 x1
      exact ⟨this.2.1,this.2.2⟩
    · obtain ⟨m,m1,m2,m3,m4⟩:=Mg hg x (rd (L.getD k []) 0) (by omega) ⟨h,yH⟩ (s4 x x0 x1)
      refine ⟨m,m1,decide_eq_true ?_,m3,m4⟩
      obtain ⟨t1,t2⟩:=bo_ok hg hL m m1
      rw [m2] at t2
      exact K0 hg hL _ x _ k t1 hk (at_x hg hL m m1 _ (.inr m2.symm) _ t1 t2 x m3 m4) ⟨rfl,x0,x1⟩
    · have e1:=(on i hi (of_decide_eq_true p)).1
      have e2:=(on j hj (of_decide_eq_true q)).1
      have i1:=(hg.2.2.2.1 i hi).1
      have i2:=(hg.2.2.2.1 j hj).1
      unfold Ins at i1 i2
      exact Jr hg i j hi hj x (rd (L.getD k []) 0-1) (by unfold Ek;omega) (by unfold Ek;omega)
  · rw [if_neg h]
    refine I3 _ _ (fun m hm=>?_)
    rw [if_neg,Int.zero_mul]
    intro e
    have e1:=(on m hm (of_decide_eq_true e)).1
    have i1:=(hg.2.2.2.1 m hm).1
    unfold Ins at i1
    omega
/-- the first and the last line -/
theorem ends {W H:Int} {l:List Sq} (hg:Good W H l) {L:List (List Int)} (hL:L=allL l W.toNat (H.toNat+1)):2≤L.length∧L.getD 0 []=[0,0,W]∧L.getD (L.length-1) []=[H,0,W]∧∀ k,k<L.length→(rd (L.getD k []) 0=0→k=0)∧(rd (L.getD k []) 0=H→k=L.length-1):=by
  obtain ⟨M,e⟩:=allL_ends hg
  have e':L=[0,0,W]::(M++[[H,0,W]]):=hL.trans e
  have hl:L.length=M.length+2:=by rw [e'];simp
  have f0:L.getD 0 []=[0,0,W]:=by rw [e'];rfl
  have f1:L.getD (L.length-1) []=[H,0,W]:=by
    rw [hl,e',show M.length+2-1=M.length+1 by omega,List.getD_cons_succ,List.getD_eq_getElem?_getD,List.getElem?_append_right (Nat.le_refl _)]
    simp
  refine ⟨by omega,f0,f1,fun k hk=>?_⟩
  obtain ⟨y0,yH,s1,s2,s3,_⟩:=seg hg hL k hk
  have hW:=hg.1
  refine ⟨fun h=>K0 hg hL 0 (rd (L.getD k []) 1) k 0 hk (by omega) ⟨h,Int.le_refl _,s2⟩ ?_,fun h=>K0 hg hL H (rd (L.getD k []) 1) k _ hk (by omega) ⟨h,Int.le_refl _,s2⟩ ?_⟩
  · unfold On;rw [f0];exact ⟨rfl,s1,show rd (L.getD k []) 1<W by omega⟩
  · unfold On;rw [f1];exact ⟨rfl,s1,show rd (L.getD k []) 1<W by omega⟩
theorem cut_og {W H:Int} {l:List Sq} (hg:Good W H l) {L:List (List Int)} (hL:L=allL l W.toNat (H.toNat+1)) (k:Nat) (hk:k<L.length):og (fun w=>Yv L w.f1-Yv L w.f0) (l.map (wireOf L)) (k:Int)=(if rd (L.getD k []) 0<H then rd (L.getD k []) 2-rd (L.getD k []) 1 else 0)-(if 0<rd (L.getD k []) 0 then rd (L.getD k []) 2-rd (L.getD k []) 1 else 0):=by
  have s:=og_sum (fun w=>Yv L w.f1-Yv L w.f0) (wireOf L) l (k:Int) l.length (Nat.le_refl _)
  rw [List.take_length] at s
  rw [s,← tops hg hL k hk,← bots hg hL k hk]
  have neg:∀ (f g:Nat→Int) n,Ce n f-Ce n g=Ce n (fun m=>f m-g m):=fun f g n=>by
    induction n with
    | zero=>rfl
    | succ n ih=>simp only [Ce];omega
  rw [neg]
  refine Gr _ _ _ (fun m hm=>?_)
  rw [sd_eq hg hL m hm,← Int.sub_mul]
  congr 1
  have c:∀ j:Nat,bI (((j:Nat):Int)=(k:Int))=if decide (j=k)=true then 1 else 0:=fun j=>by
    unfold bI
    by_cases e:j=k
    · rw [if_pos (by omega),if_pos (decide_eq_true e)]
    · rw [if_neg (by omega),if_neg (by simpa using e)]
  show bI (((tp L (Al l m):Nat):Int)=(k:Int))-bI (((bo L (Al l m):Nat):Int)=(k:Int))=_
  rw [c,c]
theorem cut_net {W H:Int} {l:List Sq} (hg:Good W H l) {L:List (List Int)} (hL:L=allL l W.toNat (H.toNat+1)) (h12:L.length≤12):B1 (L.length:Int) (l.map (wireOf L)):=by
  have hl:=hg.2.2.1
  obtain ⟨l2,f0,f1,fe⟩:=ends hg hL
  refine ⟨⟨by omega,by omega⟩,by rw [List.length_map];omega,fun w hw=>?_,fun j j0 j1=>?_⟩
  · obtain ⟨s,hs,rfl⟩:=List.mem_map.1 hw
    obtain ⟨m,hm,e⟩:=List.mem_iff_getElem.1 hs
    rw [← sqAt_get l m hm] at e
    subst e
    have a:=tp_ok hg hL m hm
    have b:=bo_ok hg hL m hm
    have i1:=(hg.2.2.2.1 m hm).1
    unfold Ins at i1
    have a1:=a.2.1
    have b1:=b.2.1
    refine ⟨⟨show (0:Int)≤((tp L (Al l m):Nat):Int) by omega,show ((tp L (Al l m):Nat):Int)≤_ by omega⟩,⟨show (0:Int)≤((bo L (Al l m):Nat):Int) by omega,show ((bo L (Al l m):Nat):Int)≤_ by omega⟩,show ((tp L (Al l m):Nat):Int)≠((bo L (Al l m):Nat):Int) from fun e=>?_⟩
    have e':tp L (Al l m)=bo L (Al l m):=by omega
    rw [e'] at a1
    omega
  · have go : ∀ (d k : Nat), k < L.length → rd (L.getD k []) 0 ≤ d → Ee (l.map (wireOf L)) (k : Int) := by
      intro d
      induction d with
      | zero =>
        intro k hk hd
        have:=(seg hg hL k hk).1
        rw [(fe k hk).1 (by omega)];exact .zero
      | succ d ih =>
        intro k hk hd
        obtain ⟨y0,yH,s1,s2,s3,s4,s5⟩:=seg hg hL k hk
        by_cases h0:rd (L.getD k []) 0=0
        · rw [(fe k hk).1 h0];exact .zero
        · have hW:=hg.1
          have ex:((rd (L.getD k []) 1).toNat:Int)=rd (L.getD k []) 1:=by omega
          obtain ⟨m,m1,m2,m3,m4⟩:=Mg hg (rd (L.getD k []) 1).toNat (rd (L.getD k []) 0) (by omega) ⟨by omega,yH⟩ (s4 _ (by omega) (by omega))
          obtain ⟨t1,t2⟩:=bo_ok hg hL m m1
          have o:=at_x hg hL m m1 _ (.inr rfl) _ t1 t2 _ m3 m4
          rw [m2] at o
          have e:=K0 hg hL _ _ _ k t1 hk o ⟨rfl,by omega,by omega⟩
          have a:=tp_ok hg hL m m1
          have i1:=(hg.2.2.2.1 m m1).1
          unfold Ins at i1
          have a1:=a.2.1
          have r:=ih (tp L (Al l m)) a.1 (by omega)
          have f:Ee (l.map (wireOf L)) (wireOf L (Al l m)).f1:=.fwd (wireOf L (Al l m)) (List.mem_map.2 ⟨_,Md l m m1,rfl⟩) r
          have:(wireOf L (Al l m)).f1=(k:Int):=show ((bo L (Al l m):Nat):Int)=(k:Int) by rw [e]
          rw [this] at f;exact f
    have:=go (rd (L.getD j.toNat []) 0).toNat j.toNat (by omega) (by have:=(seg hg hL j.toNat (by omega)).1;omega)
    rw [Int.toNat_of_nonneg j0] at this;exact this
theorem sides_map {W H:Int} {l:List Sq} (hg:Good W H l) {L:List (List Int)} (hL:L=allL l W.toNat (H.toNat+1)):l.map (fun s=>s.f2)=(l.map (wireOf L)).map (fun w=>Yv L w.f1-Yv L w.f0):=by
  rw [List.map_map]
  refine List.map_congr_left (fun s hs=>?_)
  obtain ⟨m,hm,e⟩:=List.mem_iff_getElem.1 hs
  rw [← sqAt_get l m hm] at e
  subst e
  exact (sd_eq hg hL m hm).symm
theorem cut_zero {W H:Int} {l:List Sq} (hg:Good W H l) {L:List (List Int)} (hL:L=allL l W.toNat (H.toNat+1)) (v:Int) (h0:0≤v) (h1:v<(L.length:Int)-1):og (fun w=>Yv L w.f1-Yv L w.f0) (l.map (wireOf L)) v=if v=0 then W else 0:=by
  obtain ⟨l2,f0,f1,fe⟩:=ends hg hL
  have hH:=hg.2.1
  obtain ⟨k,rfl⟩:∃ k:Nat,v=k:=⟨v.toNat,by omega⟩
  have hk:k<L.length:=by omega
  obtain ⟨y0,yH,_⟩:=seg hg hL k hk
  obtain ⟨e0,e1⟩:=fe k hk
  rw [cut_og hg hL k hk, if_pos (by have : rd (L.getD k []) 0 ≠ H := fun e => by have := e1 e; omega
                                    omega)]
  by_cases h:k=0
  · subst h
    rw [if_pos (show ((0:Nat):Int)=0 from rfl),f0]
    obtain ⟨r0,r1,r2⟩:=rd3 0 0 W
    rw [r0,r1,r2,if_neg (by omega)];omega
  · have ne:rd (L.getD k []) 0≠0:=fun e=>h (e0 e)
    rw [if_neg (show ¬ ((k:Nat):Int)=0 by omega),if_pos (by omega)];omega
/-- the heights Mg the lowest line are the net's potentials but for a factor -/
theorem cut_pot {W H:Int} {l:List Sq} (hg:Good W H l) {L:List (List Int)} (hL:L=allL l W.toNat (H.toNat+1)) (h12:L.length≤12) (v:Int) (h0:0≤v) (h1:v≤(L.length:Int)-1):C3 (L.length:Int) (l.map (wireOf L))*(H-Yv L v)=W*rd (Ba (L.length:Int) (l.map (wireOf L))) v:=by
  obtain ⟨l2,f0,f1,fe⟩:=ends hg hL
  refine pot_only (cut_net hg hL h12) (fun v=>H-Yv L v) W ?_ (fun i hi=>?_) v h0 h1
  · rw [show (L.length:Int)-1=((L.length-1:Nat):Int) by omega,Yv_nat,f1]
    show H-H=0
    omega
  · have e:(fun w:Wr=>H-Yv L w.f0-(H-Yv L w.f1))=fun w=>Yv L w.f1-Yv L w.f0:=by funext w;omega
    rw [e,cut_zero hg hL _ (by omega) hi]
    by_cases h:i=0
    · rw [if_pos h,if_pos (by omega)]
    · rw [if_neg h,if_neg (by omega)]

end CUT

/-! ### the ratio of a net -/
open Classical in
noncomputable def Ii (n:Int) (ws:List Wr):Int×Bool:=if B1 n ws then (det (lap (n-1) ws),true) else (0,false)
open Classical in
noncomputable def Ew (n:Int) (ws:List Wr):Int×Bool:=if B1 n ws then (rd (Ba n ws) 0,true) else (0,false)
theorem Kg (n:Int) (ws:List Wr):Ev (fun k=>Dd.f k n ws) (Ii n ws):=by
  unfold Dd.f Ii
  refine Ev.bind (Gl n ws) ?_
  by_cases h:B1 n ws
  · rw [if_pos h]
    have hw:∀ w ∈ ws,0≤w.f0∧0≤w.f1:=fun w hq=>⟨(h.2.2.1 w hq).1.1,(h.2.2.1 w hq).2.1.1⟩
    have h1:=h.1;have h2:=h.2.1
    refine Ev.pos (by simpa using h) ?_
    unfold Ep.f
    refine Ev.bind (a:=det (lap (n-1) ws)) ?_ (Ev.now _)
    refine Ev.bind (M0 (n:=n) (by omega) ws (by omega) hw) ?_
    exact Ev.bindc (Jz (m:=n-1) (by omega) (Mz (by omega) hw)) (Ev.now _)
  · rw [if_neg h]
    exact Ev.neg (by simpa using h) (Ev.now _)
theorem I5 (n:Int) (ws:List Wr):Ev (fun k=>Cn.f k n ws) (Ew n ws):=by
  unfold Cn.f Ew
  refine Ev.bind (G1 n ws) ?_
  unfold Du
  by_cases h:B1 n ws
  · rw [if_pos h,if_pos h]
    have h3:=Gd (n:=n) (by have:=h.1;omega) ws
    have h1:=h.1
    exact Ev.pos rfl (Ev.pos (by dsimp only;omega) (Ev.now _))
  · rw [if_neg h,if_neg h]
    exact Ev.neg (by simp) (Ev.now _)
noncomputable def ratG (n:Int) (ws:List Wr):Int:=((Nat.gcd (det (lap (n-1) ws)).toNat (rd (Ba n ws) 0).toNat:Nat):Int)
theorem Q6 {n:Int} {ws:List Wr} (h:B1 n ws):ratG n ws≠0:=by
  have:=M7 h
  unfold ratG
  intro e
  have e1:Nat.gcd (det (lap (n-1) ws)).toNat (rd (Ba n ws) 0).toNat=0:=by omega
  have:=(Nat.gcd_eq_zero_iff.1 e1).1
  omega
open Classical in
noncomputable def Iv (n:Int) (ws:List Wr):Int×Int×Bool:=if B1 n ws then (wrap64 (Int.tdiv (det (lap (n-1) ws)) (ratG n ws)),wrap64 (Int.tdiv (rd (Ba n ws) 0) (ratG n ws)),true) else (0,0,false)
theorem Nc (n:Int) (ws:List Wr):Ev (fun k=>Bw.f k n ws) (Iv n ws):=by
  unfold Bw.f Iv
  refine Ev.bind (Er n ws) ?_
  by_cases h:B1 n ws
  · rw [if_pos h]
    have hw:∀ w ∈ ws,0≤w.f0∧0≤w.f1:=fun w hq=>⟨(h.2.2.1 w hq).1.1,(h.2.2.1 w hq).2.1.1⟩
    have h1:=h.1;have h2:=h.2.1
    have h3:=Gd (n:=n) (by omega) ws
    have tp:=M7 h;have pp:=Ku h
    have g:=Ks (rd (Ba n ws) 0).toNat (det (lap (n-1) ws)).toNat
    rw [Int.toNat_of_nonneg (by omega),Int.toNat_of_nonneg (by omega)] at g
    refine Ev.pos (by simpa using h) ?_
    refine Ev.bind (a:=det (lap (n-1) ws)) ?_ ?_
    · unfold Eb.f
      rw [Ap (n:=n-1) (by omega) (by omega)]
      refine Ev.bind (N4 (n:=n) (by omega) ws (by omega) hw (-1) _ (Ev.neg (by omega) (Ev.now _))) ?_
      exact Ev.bindc (Jz (m:=n-1) (by omega) (Mz (by omega) hw)) (Ev.now _)
    refine Ev.bind (G7 (n:=n) (by omega) ws (by omega) hw) ?_
    exact Ev.pos (by omega) (Ev.bind g (Ev.neg (Q6 h) (Ev.now _)))
  · rw [if_neg h]
    exact Ev.neg (by simpa using h) (Ev.now _)
theorem Je (n:Int) (ws:List Wr):Ev (fun k=>Dr.f k n ws) (Iv n ws):=by
  unfold Dr.f Iv
  refine Ev.bind (Kg n ws) (Ev.bind (I5 n ws) ?_)
  unfold Ii Ew
  by_cases h:B1 n ws
  · rw [if_pos h,if_pos h,if_pos h]
    have tp:=M7 h;have pp:=Ku h
    have g:=Kr (rd (Ba n ws) 0).toNat (det (lap (n-1) ws)).toNat
    rw [Int.toNat_of_nonneg (by omega),Int.toNat_of_nonneg (by omega)] at g
    exact Ev.pos rfl (Ev.bind g (Ev.neg (Q6 h) (Ev.now _)))
  · rw [if_neg h,if_neg h,if_neg h]
    exact Ev.neg (by simp) (Ev.now _)

/-! ### how G6 trees -/
theorem Ql (n:Int) (ws:List Wr):Ev (fun k=>E1.f k n ws) (Ii n ws):=by
  unfold E1.f Ii
  refine Ev.bind (Er n ws) ?_
  by_cases h:B1 n ws
  · rw [if_pos h]
    have hw:∀ w ∈ ws,0≤w.f0∧0≤w.f1:=fun w hq=>⟨(h.2.2.1 w hq).1.1,(h.2.2.1 w hq).2.1.1⟩
    have h1:=h.1;have h2:=h.2.1
    refine Ev.pos (by simpa using h) ?_
    unfold Eb.f
    rw [Ap (n:=n-1) (by omega) (by omega)]
    refine Ev.bind (a:=det (lap (n-1) ws)) ?_ (Ev.now _)
    refine Ev.bind (N4 (n:=n) (by omega) ws (by omega) hw (-1) _ (Ev.neg (by omega) (Ev.now _))) ?_
    exact Ev.bindc (Jz (m:=n-1) (by omega) (Mz (by omega) hw)) (Ev.now _)
  · rw [if_neg h]
    exact Ev.neg (by simpa using h) (Ev.now _)

/-! ### the first pole's potential -/
theorem Mr (n:Int) (ws:List Wr):Ev (fun k=>Dz.f k n ws) (Ew n ws):=by
  unfold Dz.f Ew
  refine Ev.bind (Er n ws) ?_
  by_cases h:B1 n ws
  · rw [if_pos h]
    have hw:∀ w ∈ ws,0≤w.f0∧0≤w.f1:=fun w hq=>⟨(h.2.2.1 w hq).1.1,(h.2.2.1 w hq).2.1.1⟩
    have h1:=h.1;have h2:=h.2.1
    have h3:=Gd (n:=n) (by omega) ws
    exact Ev.pos (by simpa using h) (Ev.bind (G7 (n:=n) (by omega) ws (by omega) hw) (Ev.pos (by omega) (Ev.now _)))
  · rw [if_neg h]
    exact Ev.neg (by simpa using h) (Ev.now _)

/-! ### the potentials of all nodes -/
theorem Mh (n:Int) (ws:List Wr):Ev (fun k=>Dw.f k n ws) (Du n ws):=by
  unfold Dw.f Du
  refine Ev.bind (Er n ws) ?_
  by_cases h:B1 n ws
  · rw [if_pos h]
    have hw:∀ w ∈ ws,0≤w.f0∧0≤w.f1:=fun w hq=>⟨(h.2.2.1 w hq).1.1,(h.2.2.1 w hq).2.1.1⟩
    have h1:=h.1;have h2:=h.2.1
    exact Ev.pos (by simpa using h) (Ev.bind (G7 (n:=n) (by omega) ws (by omega) hw) (Ev.now _))
  · rw [if_neg h]
    exact Ev.neg (by simpa using h) (Ev.now _)

/-! ### the full currents -/
theorem Nd (n:Int) (ws:List Wr):Ev (fun k=>D9.f k n ws) (D3 n ws):=by
  unfold D9.f D3
  refine Ev.bind (Er n ws) ?_
  by_cases h:B1 n ws
  · rw [if_pos h]
    exact Ev.pos (by simpa using h) (Ev.bind (Mo h) (Ev.now _))
  · rw [if_neg h]
    exact Ev.neg (by simpa using h) (Ev.now _)

/-! ### the low currents -/
open Classical in
noncomputable def I8 (n:Int) (ws:List Wr):List Int×Bool:=if B1 n ws then (Nn (cgs 0 (Dm n ws)) (Dm n ws),true) else ([],false)
theorem Nw (n:Int) (ws:List Wr):(Dm n ws).length=ws.length:=by unfold Dm;simp
theorem Ms (n:Int) (ws:List Wr):Ev (fun k=>Bl.f k n ws) (I8 n ws):=by
  unfold Bl.f I8
  refine Ev.bind (Er n ws) ?_
  by_cases h:B1 n ws
  · rw [if_pos h]
    have h2:=h.2.1
    have hl:=Nw n ws
    refine Ev.pos (by simpa using h) (Ev.bind (Mo h) ?_)
    exact Va (Dm n ws) (Dm n ws) (by omega) _ (U8 _ _ (by omega) (fun _=>Kb h) (Dm n ws) 0 _ rfl (by omega) rfl) (Dm n ws) 0 0 rfl (by omega) (Int.le_refl _) rfl
  · rw [if_neg h]
    exact Ev.neg (by simpa using h) (Ev.now _)
theorem Mt (n:Int) (ws:List Wr):Ev (fun k=>Bj.f k n ws) (I8 n ws):=by
  unfold Bj.f I8
  refine Ev.bind (Ib n ws) ?_
  unfold D3
  by_cases h:B1 n ws
  · rw [if_pos h,if_pos h]
    have h2:=h.2.1
    have hl:=Nw n ws
    refine Ev.pos rfl ?_
    exact Vb (Dm n ws) (Dm n ws) (by omega) _ (U9 _ _ (by omega) (fun _=>Kb h) (Dm n ws) 0 _ rfl (by omega) rfl) (Dm n ws) 0 0 rfl (by omega) (Int.le_refl _) rfl
  · rw [if_neg h,if_neg h]
    exact Ev.neg (by simp) (Ev.now _)
theorem lowOf_len (n:Int) (ws:List Wr):(I8 n ws).1.length≤30:=by
  unfold I8;split
  · rename_i h
    have:=h.2.1
    dsimp only;unfold Nn Dm;rw [List.length_map,List.length_map];exact this
  · simp

/-! ### what the law asks of a net: the full currents and the low ones -/
theorem cg_dvd {a b:Int} (h:0≤a):cg a b∣a∧(0≤b→cg a b∣b):=by
  unfold cg
  by_cases hb:0<b
  · rw [if_pos hb]
    have h1:=Int.natCast_dvd_natCast.2 (Nat.gcd_dvd_left a.toNat b.toNat)
    have h2:=Int.natCast_dvd_natCast.2 (Nat.gcd_dvd_right a.toNat b.toNat)
    rw [Int.toNat_of_nonneg (by omega)] at h1 h2
    exact ⟨h1,fun _=>h2⟩
  · rw [if_neg hb]
    exact ⟨Int.dvd_refl _,fun q=>by rw [show b=0 by omega];exact Int.dvd_zero _⟩
theorem cgs_dvd:∀ (l:List Int) (a:Int),0≤a→cgs a l∣a∧∀ c ∈ l,0≤sz c→cgs a l∣sz c
  | [],_,_=>⟨Int.dvd_refl _,fun c hc=>by cases hc⟩
  | c::l,a,h=>by
    obtain ⟨h1,h2⟩:=cgs_dvd l (cg a (sz c)) (cg_nn h)
    obtain ⟨h3,h4⟩:=cg_dvd (b:=sz c) h
    refine ⟨Int.dvd_trans h1 h3,fun q hq h0=>?_⟩
    rcases List.mem_cons.1 hq with rfl|hq
    · exact Int.dvd_trans h1 (h4 h0)
    · exact h2 q hq h0
def dv (n:Int) (ws:List Wr) (w:Wr):Int:=rd (Ba n ws) w.f0-rd (Ba n ws) w.f1
def gg (n:Int) (ws:List Wr):Int:=cgs 0 (Dm n ws)
def lw (n:Int) (ws:List Wr) (w:Wr):Int:=Int.tdiv (dv n ws w) (gg n ws)
theorem dv_bd {n:Int} {ws:List Wr} (h:B1 n ws) {w:Wr} (hw:w ∈ ws) : -4294967294≤dv n ws w∧dv n ws w≤4294967294:=by
  obtain ⟨⟨a0,a1⟩,⟨b0,b1⟩,_⟩:=h.2.2.1 w hw
  have:=J1 h w.f0 a0 a1
  have:=J1 h w.f1 b0 b1
  unfold dv
  omega
theorem cur_dv {n:Int} {ws:List Wr} (h:B1 n ws) {w:Wr} (hw:w ∈ ws):cur (Ba n ws) w=dv n ws w:=by
  have:=dv_bd h hw
  unfold dv at *
  exact Ap (by omega) (by omega)
theorem K1 {n:Int} {ws:List Wr} (h:B1 n ws):Dm n ws=ws.map (dv n ws):=List.map_congr_left fun _ hw=>cur_dv h hw
theorem gg_pos {n:Int} {ws:List Wr} (h:B1 n ws):0<gg n ws:=by
  have:=Kb h
  have:=cgs_nn (Dm n ws) 0 (Int.le_refl _)
  unfold gg
  omega
theorem gg_dvd {n:Int} {ws:List Wr} (h:B1 n ws) {w:Wr} (hw:w ∈ ws):gg n ws∣dv n ws w:=by
  have b:=dv_bd h hw
  have e:sz (dv n ws w)=if 0≤dv n ws w then dv n ws w else -dv n ws w:=by
    unfold sz mx
    rw [Ap (n := -dv n ws w) (by omega) (by omega)]
    split <;> split <;> omega
  have d:=(cgs_dvd (Dm n ws) 0 (Int.le_refl _)).2 (dv n ws w) (by rw [K1 h];exact List.mem_map.2 ⟨w,hw,rfl⟩) (by rw [e];split <;> omega)
  rw [e] at d
  unfold gg
  split at d
  · exact d
  · exact Int.dvd_neg.1 d
theorem gg_lw {n:Int} {ws:List Wr} (h:B1 n ws) {w:Wr} (hw:w ∈ ws):gg n ws*lw n ws w=dv n ws w:=Int.mul_tdiv_cancel' (gg_dvd h hw)
theorem lw_bd {n:Int} {ws:List Wr} (w:Wr) (B:Int) (hB : -B≤dv n ws w∧dv n ws w≤B) : -B≤lw n ws w∧lw n ws w≤B:=by
  have:=Int.natAbs_tdiv_le_natAbs (dv n ws w) (gg n ws)
  unfold lw
  omega
theorem low_map {n:Int} {ws:List Wr} (h:B1 n ws):Nn (cgs 0 (Dm n ws)) (Dm n ws)=ws.map (lw n ws):=by
  unfold Nn
  rw [K1 h,List.map_map]
  refine List.map_congr_left fun w hw=>?_
  have:=lw_bd (ws:=ws) w _ (dv_bd h hw)
  show wrap64 (Int.tdiv (dv n ws w) (cgs 0 (ws.map (dv n ws))))=_
  rw [← K1 h]
  exact Ap (n:=lw n ws w) (by omega) (by omega)
theorem pot_dvd {n:Int} {ws:List Wr} (h:B1 n ws) (v:Int) (h0:0≤v) (h1:v<n):gg n ws∣rd (Ba n ws) v-rd (Ba n ws) 0:=by
  have r:=h.2.2.2 v h0 h1
  clear h0 h1
  induction r with
  | zero=>rw [Int.sub_self];exact Int.dvd_zero _
  | fwd w hq _ ih =>
    rw [show rd (Ba n ws) w.f1-rd (Ba n ws) 0=rd (Ba n ws) w.f0-rd (Ba n ws) 0-dv n ws w by unfold dv;omega]
    exact Int.dvd_sub ih (gg_dvd h hq)
  | bwd w hq _ ih =>
    rw [show rd (Ba n ws) w.f0-rd (Ba n ws) 0=rd (Ba n ws) w.f1-rd (Ba n ws) 0+dv n ws w by unfold dv;omega]
    exact Int.dvd_add ih (gg_dvd h hq)
/-- the balance of the low currents -/
theorem low_bal {n:Int} {ws:List Wr} (h:B1 n ws) (hs:∀ w ∈ ws,-1000000≤dv n ws w∧dv n ws w≤1000000):Ev (fun k=>Ar.f k n ws (ws.map (lw n ws))) (true,true):=by
  have hg:=gg_pos h
  have q:∀ v,0≤v→v<n→gg n ws*Int.tdiv (rd (Ba n ws) v-rd (Ba n ws) 0) (gg n ws)=rd (Ba n ws) v-rd (Ba n ws) 0:=fun v h0 h1=>Int.mul_tdiv_cancel' (pot_dvd h v h0 h1)
  refine bal_yes h (lw n ws) (fun w hw=>lw_bd w _ (hs w hw)) (fun v=>if 0≤v∧v<n then Int.tdiv (rd (Ba n ws) v-rd (Ba n ws) 0) (gg n ws) else 0) ?_ ?_ ?_
  · rw [Int.sub_self];split <;> simp
  · intro v
    split
    · rename_i hv
      have:=J1 h v hv.1 (by omega)
      have:=J1 h 0 (by omega) (by have:=h.1;omega)
      have:=Int.natAbs_tdiv_le_natAbs (rd (Ba n ws) v-rd (Ba n ws) 0) (gg n ws)
      unfold R64;omega
    · unfold R64;omega
  · intro w hw
    obtain ⟨⟨a0,a1⟩,⟨b0,b1⟩,_⟩:=h.2.2.1 w hw
    rw [if_pos ⟨a0,by omega⟩,if_pos ⟨b0,by omega⟩]
    have e:Int.tdiv (rd (Ba n ws) w.f0-rd (Ba n ws) 0) (gg n ws)-Int.tdiv (rd (Ba n ws) w.f1-rd (Ba n ws) 0) (gg n ws)=lw n ws w:=by
      refine Int.eq_of_mul_eq_mul_left (show gg n ws≠0 by omega) ?_
      rw [Int.mul_sub,q w.f0 a0 (by omega),q w.f1 b0 (by omega),gg_lw h hw]
      unfold dv;omega
    have:=lw_bd (ws:=ws) w _ (hs w hw)
    rw [e]
    exact Ap (by omega) (by omega)
/-- the full currents flow -/
theorem full_flow {n:Int} {ws:List Wr} (h:B1 n ws) (hs:∀ w ∈ ws,-1000000≤dv n ws w∧dv n ws w≤1000000):flowR n ws (ws.map (dv n ws))=(true,true):=by
  refine Uk h (dv n ws) hs fun v h0 h1=>?_
  have:=Mc h v.toNat (by omega)
  rw [if_neg (by omega),Int.toNat_of_nonneg (by omega)] at this
  exact this
theorem full_from {n:Int} {ws:List Wr} (h:B1 n ws):og (dv n ws) ws 0=C3 n ws:=Mc h 0 (by have:=h.1;omega)
theorem full_to {n:Int} {ws:List Wr} (h:B1 n ws):og (dv n ws) ws (n-1) = -C3 n ws:=og_last (by have:=h.1;omega) h.2.2.1 _ _ fun i hi=>Mc h i hi
theorem og_bd {n:Int} {ws:List Wr} (h:B1 n ws) (v:Int):∀ t:List Wr,(∀ w ∈ t,w ∈ ws) → -(4294967294*(t.length:Int))≤og (dv n ws) t v∧og (dv n ws) t v≤4294967294*(t.length:Int)
  | [],_=>by simp [og]
  | w::t,hm=>by
    have:=og_bd h v t fun q hq=>hm q (List.mem_cons_of_mem _ hq)
    have:=dv_bd h (hm w List.mem_cons_self)
    have hx:(bI (w.f0=v)-bI (w.f1=v))*dv n ws w=0∨(bI (w.f0=v)-bI (w.f1=v))*dv n ws w=dv n ws w∨(bI (w.f0=v)-bI (w.f1=v))*dv n ws w = -dv n ws w:=by
      unfold bI;split <;> split <;> omega
    rw [og,List.length_cons]
    omega
theorem Mi {n:Int} {ws:List Wr} (h:B1 n ws):0<C3 n ws∧C3 n ws≤2147483647:=by
  obtain ⟨z,z1,_,z3,z4⟩:=Kl h
  unfold C3 det
  rw [z1];exact ⟨z3,z4⟩
/-- the ratio in lowest terms -/
theorem rat_is {n:Int} {ws:List Wr} (h:B1 n ws):∃ g x y:Int,g≠0∧g*x=C3 n ws∧g*y=rd (Ba n ws) 0∧Iv n ws=(x,y,true):=by
  have hT:=Mi h
  have hp:=Ku h
  have hp2:=J1 h 0 (by omega) (by have:=h.1;omega)
  have hz:∀ z:Int,0<z→z≤2147483647→ratG n ws∣z→ratG n ws*wrap64 (Int.tdiv z (ratG n ws))=z:=fun z h0 h1 hd=>by
    have:=Int.natAbs_tdiv_le_natAbs z (ratG n ws)
    rw [Ap (by omega) (by omega)]
    exact Int.mul_tdiv_cancel' hd
  have d1:=Int.natCast_dvd_natCast.2 (Nat.gcd_dvd_left (det (lap (n-1) ws)).toNat (rd (Ba n ws) 0).toNat)
  have d2:=Int.natCast_dvd_natCast.2 (Nat.gcd_dvd_right (det (lap (n-1) ws)).toNat (rd (Ba n ws) 0).toNat)
  unfold C3 at hT
  rw [Int.toNat_of_nonneg (by omega)] at d1 d2
  refine ⟨ratG n ws,wrap64 (Int.tdiv (det (lap (n-1) ws)) (ratG n ws)),wrap64 (Int.tdiv (rd (Ba n ws) 0) (ratG n ws)),Q6 h,hz _ hT.1 hT.2 d1,hz _ hp hp2.2 d2,?_⟩
  unfold Iv
  rw [if_pos h]

/-! ### the law's loops -/
theorem Iw (l:List Int) (hl:l.length≤1000000):Ev (fun k=>Bz.f k l l) true:=by
  have lp:∀ (d i:Nat),l.length-i=d→i≤l.length→Ev (fun k=>Bz.l0 k l l (l.length:Int) (i:Int)) true:=by
    intro d
    induction d with
    | zero=>intro i hd hi;refine Ev.succ ?_;simp only [Bz.l0];exact Ev.neg (by omega) (Ev.now _)
    | succ d ih =>
      intro i hd hi
      refine Ev.succ ?_
      simp only [Bz.l0]
      refine Ev.pos (by omega) (Ev.pos (by omega) (Ev.pos (by omega) (Ev.pos (by omega) (Ev.pos (by trivial) ?_))))
      rw [Ap (n:=(i:Int)+1) (by omega) (by omega)]
      exact ih (i+1) (by omega) (by omega)
  unfold Bz.f
  exact Ev.pos rfl (lp l.length 0 (by omega) (by omega))
theorem rows_ev (l:List (List Int)) (hl:l.length≤1000000) (hr:∀ r ∈ l,r.length≤1000000):Ev (fun k=>De.f k l l) true:=by
  have lp:∀ (d i:Nat),l.length-i=d→i≤l.length→Ev (fun k=>De.l0 k l l (l.length:Int) (i:Int)) true:=by
    intro d
    induction d with
    | zero=>intro i hd hi;refine Ev.succ ?_;simp only [De.l0];exact Ev.neg (by omega) (Ev.now _)
    | succ d ih =>
      intro i hd hi
      refine Ev.succ ?_
      simp only [De.l0]
      have e:(Af l (i:Int)).length≤1000000:=by
        unfold Af
        rw [Int.toNat_natCast,List.getD_eq_getElem?_getD,List.getElem?_eq_getElem (show i<l.length by omega)]
        exact hr _ (List.getElem_mem _)
      refine Ev.pos (by omega) (Ev.pos (by omega) (Ev.pos (by omega) (Ev.pos (by omega) (Ev.bind (Iw _ e) (Ev.pos rfl ?_)))))
      rw [Ap (n:=(i:Int)+1) (by omega) (by omega)]
      exact ih (i+1) (by omega) (by omega)
  unfold De.f
  exact Ev.pos rfl (lp l.length 0 (by omega) (by omega))
theorem nets_ev (n:Int) (l:List Wr) (hl:l.length≤1000000):Ev (fun k=>Cs.f k n l n l) true:=by
  have lp:∀ (d i:Nat),l.length-i=d→i≤l.length→Ev (fun k=>Cs.l0 k (l.length:Int) (i:Int) n l n l) true:=by
    intro d
    induction d with
    | zero=>intro i hd hi;refine Ev.succ ?_;simp only [Cs.l0];exact Ev.neg (by omega) (Ev.now _)
    | succ d ih =>
      intro i hd hi
      refine Ev.succ ?_
      simp only [Cs.l0]
      refine Ev.pos (by omega) (Ev.pos (by omega) (Ev.pos (by omega) (Ev.pos (by omega) (Ev.neg (by simp) ?_))))
      rw [Ap (n:=(i:Int)+1) (by omega) (by omega)]
      exact ih (i+1) (by omega) (by omega)
  unfold Cs.f
  refine Ev.pos rfl (Ev.succ ?_)
  simp only [Cs.j0]
  exact Ev.neg (by simp) (lp l.length 0 (by omega) (by omega))
/-- the second loop: are all full currents small? -/
theorem law_l1 {n : Int} {ws : List Wr} (h : B1 n ws) (W H : Int) (l : List CUT.Sq) (hr : Ev (fun k => laws_FnNetsFlowOfAll.j8 k W H l) true) : ∀ (t : List Wr) (i : Nat) (fl : Bool), ws.drop i = t → i + t.length = ws.length → (fl = true → ∀ m, m < i → -1000000 ≤ rd (ws.map (dv n ws)) (m : Int) ∧ rd (ws.map (dv n ws)) (m : Int) ≤ 1000000) →
    Ev (fun k=>laws_FnNetsFlowOfAll.l1 k (ws.map (dv n ws)) (ws.map (lw n ws)) fl (ws.map (dv n ws)) ((ws.map (dv n ws)).length:Int) (i:Int) n ws W H l) true:=by
  have h30:=h.2.1
  have hln:(ws.map (dv n ws)).length=ws.length:=List.length_map _
  intro t
  induction t with
  | nil =>
    intro i fl hd hi hf
    simp only [List.length_nil] at hi
    refine Ev.succ ?_
    simp only [laws_FnNetsFlowOfAll.l1]
    refine Ev.neg (by omega) ?_
    cases fl with
    | false=>exact Ev.neg (by simp) hr
    | true =>
      have hs:∀ w ∈ ws,-1000000≤dv n ws w∧dv n ws w≤1000000:=fun w hw=>by
        obtain ⟨m,hm,e⟩:=List.getElem_of_mem hw
        have:=hf rfl m (by omega)
        rw [Ic (dv n ws) ws m w _ (by rw [List.drop_eq_getElem_cons hm,e])] at this
        exact this
      refine Ev.pos rfl (Ev.bind (a:=(true,true)) (Ev.eqr (Kw n ws _) (full_flow h hs)) (Ev.bind (low_bal h hs) ?_))
      exact Ev.pos rfl (Ev.pos rfl (Ev.pos rfl (Ev.pos rfl hr)))
  | cons w t ih =>
    intro i fl hd hi hf
    obtain ⟨h1,h2,h3,h4,h5⟩:=El ws i w t hd
    have hx:=Ic (dv n ws) ws i w t hd
    simp only [List.length_cons] at hi
    refine Ev.succ ?_
    simp only [laws_FnNetsFlowOfAll.l1]
    refine Ev.pos (by omega) (Ev.pos (by omega) (Ev.pos (by omega) ?_))
    rw [Ap (n:=(i:Int)+1) (by omega) (by omega),hx]
    have nx:=fun (b:Bool) q=>ih (i+1) b h3 (by omega) q
    cases fl with
    | false=>exact Ev.neg (by simp) (nx false (by simp))
    | true =>
      refine Ev.pos rfl ?_
      by_cases c:dv n ws w≤1000000
      · refine Ev.pos c (nx _ fun hb m hm=>?_)
        have hb:=of_decide_eq_true hb
        by_cases e:m=i
        · rw [e,hx];omega
        · exact hf rfl m (by omega)
      · exact Ev.neg c (nx false (by simp))
/-- the first loop: what leaves the first node and enters the last -/
theorem law_l0 {n : Int} {ws : List Wr} (h : B1 n ws) (W H : Int) (l : List CUT.Sq) (hr : Ev (fun k => laws_FnNetsFlowOfAll.j8 k W H l) true) : ∀ (t : List Wr) (i : Nat) (a b : Int), ws.drop i = t → i + t.length = ws.length → a = C3 n ws - og (dv n ws) t 0 → b = C3 n ws + og (dv n ws) t (n - 1) →
    Ev (fun k=>laws_FnNetsFlowOfAll.l0 k (ws.map (dv n ws)) (C3 n ws) (Ba n ws) (ws.map (lw n ws)) (n-1) a b ws (ws.length:Int) (i:Int) n ws W H l) true:=by
  have h30:=h.2.1
  have hn:=h.1
  have hT:=Mi h
  have hp:=Gd (n:=n) (by omega) ws
  have hln:(ws.map (dv n ws)).length=ws.length:=List.length_map _
  have hlw:(ws.map (lw n ws)).length=ws.length:=List.length_map _
  intro t
  induction t with
  | nil =>
    intro i a b hd hi ha hb
    simp only [List.length_nil] at hi
    simp only [og,Int.sub_zero,Int.add_zero] at ha hb
    refine Ev.succ ?_
    simp only [laws_FnNetsFlowOfAll.l0]
    refine Ev.neg (by omega) (Ev.pos ha (Ev.succ ?_))
    simp only [laws_FnNetsFlowOfAll.j6]
    exact Ev.neg (by rw [hb];simp) (law_l1 h W H l hr ws 0 true rfl (by omega) fun _ m hm=>by omega)
  | cons w t ih =>
    intro i a b hd hi ha hb
    obtain ⟨h1,h2,h3,h4,h5⟩:=El ws i w t hd
    obtain ⟨⟨a0,a1⟩,⟨b0,b1⟩,hne⟩:=h.2.2.1 w h4
    have hx:=Ic (dv n ws) ws i w t hd
    have hy:=Ic (lw n ws) ws i w t hd
    simp only [List.length_cons] at hi
    have hc:=dv_bd h h4
    have hm:∀ w ∈ t,w ∈ ws:=fun q hq=>by rw [← h3] at hq;exact List.mem_of_mem_drop hq
    have k0:=og_bd h 0 t hm
    have k1:=og_bd h (n-1) t hm
    have hl30:t.length≤30:=by omega
    have ww:∀ x:Int,x=dv n ws w∨x = -dv n ws w∨x=0 → -4294967294≤x∧x≤4294967294:=fun x hx=>by omega
    rw [og] at ha hb
    have wc:wrap64 (dv n ws w)=dv n ws w:=Ap (by omega) (by omega)
    refine Ev.succ ?_
    simp only [laws_FnNetsFlowOfAll.l0]
    have e2:An ws (i:Int)=w:=by rw [I0,h2]
    rw [e2,hx,hy]
    obtain ⟨u,us,hu⟩:∃ u us,ws=u::us:=by
      cases hq:ws with
      | nil=>rw [hq] at h1;simp at h1
      | cons u us=>exact ⟨u,us,rfl⟩
    have hu0:ws.drop 0=u::us:=hu
    have f0:rd (ws.map (dv n ws)) 0=dv n ws u:=Ic (dv n ws) ws 0 u us hu0
    have f1:rd (ws.map (lw n ws)) 0=lw n ws u:=Ic (lw n ws) ws 0 u us hu0
    have hum:u ∈ ws:=by rw [hu];exact List.mem_cons_self
    have cross:dv n ws w*lw n ws u=lw n ws w*dv n ws u:=by
      rw [← gg_lw h h4,← gg_lw h hum];ac_rfl
    rw [f0,f1,cross]
    refine Ev.pos (by omega) (Ev.pos (by omega) (Ev.pos (by omega) (Ev.pos (by omega) (Ev.pos (by omega) (Ev.pos (by omega) (Ev.pos (by omega) (Ev.pos (by omega) (Ev.pos (by rw [show rd (Ba n ws) w.f0-rd (Ba n ws) w.f1=dv n ws w from rfl,wc]) (Ev.pos (by omega) (Ev.pos (by omega) (Ev.pos (by omega) ?_)))))))))))
    refine Ev.succ ?_
    simp only [laws_FnNetsFlowOfAll.j3]
    refine Ev.neg (by simp) ?_
    rw [hx]
    have nx:∀ a' b',a'=C3 n ws-og (dv n ws) t 0→b'=C3 n ws+og (dv n ws) t (n-1)→Ev (fun k=>laws_FnNetsFlowOfAll.l0 k (ws.map (dv n ws)) (C3 n ws) (Ba n ws) (ws.map (lw n ws)) (n-1) a' b' ws (ws.length:Int) (wrap64 ((i:Int)+1)) n ws W H l) true:=fun a' b' ea eb=>by
      rw [Ap (n:=(i:Int)+1) (by omega) (by omega)]
      exact ih (i+1) a' b' h3 (by omega) ea eb
    have last:∀ a',a'=C3 n ws-og (dv n ws) t 0→Ev (fun k=>laws_FnNetsFlowOfAll.j5 k (ws.map (dv n ws)) (C3 n ws) (Ba n ws) (ws.map (lw n ws)) (n-1) a' b (i:Int) ws (ws.length:Int) (i:Int) n ws W H l w.f0 w.f1) true:=fun a' ea=>by
      refine Ev.succ ?_
      simp only [laws_FnNetsFlowOfAll.j5]
      rw [hx]
      by_cases c1:w.f1=n-1
      · have c0:¬ w.f0=n-1:=fun e=>hne (e.trans c1.symm)
        rw [show (bI (w.f0=n-1)-bI (w.f1=n-1))*dv n ws w = -dv n ws w by unfold bI;rw [if_neg c0,if_pos c1];omega] at hb
        refine Ev.pos c1 (Ev.pos (by omega) (Ev.pos (by omega) (Ev.neg c0 ?_)))
        rw [Ap (n:=b+dv n ws w) (by omega) (by omega)]
        exact nx a' _ ea (by omega)
      · refine Ev.neg c1 ?_
        by_cases c0:w.f0=n-1
        · rw [show (bI (w.f0=n-1)-bI (w.f1=n-1))*dv n ws w=dv n ws w by unfold bI;rw [if_pos c0,if_neg c1];omega] at hb
          refine Ev.pos c0 (Ev.pos (by omega) (Ev.pos (by omega) ?_))
          rw [Ap (n:=b-dv n ws w) (by omega) (by omega)]
          exact nx a' _ ea (by omega)
        · rw [show (bI (w.f0=n-1)-bI (w.f1=n-1))*dv n ws w=0 by unfold bI;rw [if_neg c0,if_neg c1];omega] at hb
          exact Ev.neg c0 (nx a' _ ea (by omega))
    by_cases c0:w.f0=0
    · have c1:¬ w.f1=0:=fun e=>hne (c0.trans e.symm)
      rw [show (bI (w.f0=0)-bI (w.f1=0))*dv n ws w=dv n ws w by unfold bI;rw [if_pos c0,if_neg c1];omega] at ha
      refine Ev.pos c0 (Ev.pos (by omega) (Ev.pos (by omega) (Ev.succ ?_)))
      simp only [laws_FnNetsFlowOfAll.j4]
      rw [Ap (n:=a+dv n ws w) (by omega) (by omega)]
      exact Ev.neg c1 (last _ (by omega))
    · refine Ev.neg c0 (Ev.succ ?_)
      simp only [laws_FnNetsFlowOfAll.j4]
      rw [hx]
      by_cases c1:w.f1=0
      · rw [show (bI (w.f0=0)-bI (w.f1=0))*dv n ws w = -dv n ws w by unfold bI;rw [if_neg c0,if_pos c1];omega] at ha
        rw [Ap (n:=a-dv n ws w) (by omega) (by omega)]
        exact Ev.pos c1 (Ev.pos (by omega) (Ev.pos (by omega) (last _ (by omega))))
      · rw [show (bI (w.f0=0)-bI (w.f1=0))*dv n ws w=0 by unfold bI;rw [if_neg c0,if_neg c1];omega] at ha
        exact Ev.neg c1 (last _ (by omega))
/-- the third loop: the sides go as the currents -/
theorem law_l2 (n:Int) (ws:List Wr) (f g:Wr→Int) (hl:ws.length≤30) (hx:∀ w ∈ ws,∀ u ∈ ws,f w*g u=g w*f u):Ev (fun k=>laws_FnNetsFlowOfAll.j11 k (ws.map f) (ws.map g) false) true:=by
  have hlf:(ws.map f).length=ws.length:=List.length_map _
  have hlg:(ws.map g).length=ws.length:=List.length_map _
  have lp:∀ (t:List Wr) (i:Nat),ws.drop i=t→i+t.length=ws.length→Ev (fun k=>laws_FnNetsFlowOfAll.l2 k (ws.map f) (ws.map g) (ws.map f) ((ws.map f).length:Int) (i:Int)) true:=by
    intro t
    induction t with
    | nil =>
      intro i hd hi
      simp only [List.length_nil] at hi
      refine Ev.succ ?_;simp only [laws_FnNetsFlowOfAll.l2];exact Ev.neg (by omega) (Ev.now _)
    | cons w t ih =>
      intro i hd hi
      obtain ⟨h1,h2,h3,h4,h5⟩:=El ws i w t hd
      simp only [List.length_cons] at hi
      obtain ⟨u,us,hu⟩:∃ u us,ws=u::us:=by
        cases hq:ws with
        | nil=>rw [hq] at h1;simp at h1
        | cons u us=>exact ⟨u,us,rfl⟩
      have hum:u ∈ ws:=by rw [hu];exact List.mem_cons_self
      have f0:rd (ws.map f) 0=f u:=Ic f ws 0 u us hu
      have g0:rd (ws.map g) 0=g u:=Ic g ws 0 u us hu
      refine Ev.succ ?_
      simp only [laws_FnNetsFlowOfAll.l2]
      rw [Ic f ws i w t hd,Ic g ws i w t hd,f0,g0,hx w h4 u hum]
      refine Ev.pos (by omega) (Ev.pos (by omega) (Ev.pos (by omega) (Ev.pos (by omega) (Ev.pos (by omega) (Ev.pos (by omega) (Ev.pos rfl ?_))))))
      rw [Ap (n:=(i:Int)+1) (by omega) (by omega)]
      exact ih (i+1) h3 (by omega)
  refine Ev.succ ?_
  simp only [laws_FnNetsFlowOfAll.j11]
  exact Ev.neg (by simp) (lp ws 0 rfl (by omega))

/-! ### the law -/
open Classical in
theorem R1 (n:Int) (ws:List Wr):Ev (fun k=>Gn.f k n ws) (decide (B1 n ws)):=by
  unfold Gn.f
  exact Ev.bind (Er n ws) (Ev.now _)
open Classical in
theorem law_cut (W H:Int) (l:List CUT.Sq):Ev (fun k=>laws_FnNetsFlowOfAll.j8 k W H l) true:=by
  refine Ev.succ ?_
  simp only [laws_FnNetsFlowOfAll.j8]
  refine Ev.bind (CUT.impl_NetOfCut_ev W H l) (Ev.bind (CUT.spec_NetOfCut_ev W H l) ?_)
  obtain ⟨n1,n2⟩:=CUT.netOfCut_len W H l
  by_cases hg:CUT.Good W H l
  · have hW:=hg.1
    have hH:=hg.2.1
    obtain ⟨L,hL⟩:∃ L,L=CUT.allL l W.toNat (H.toNat+1):=⟨_,rfl⟩
    have hlen:L.length≤1000000:=hL ▸ CUT.lines_len hg
    refine Ev.bind (a:=(L,true)) ?_ (Ev.bind (a:=(L,true)) ?_ ?_)
    · unfold D0.f
      rw [hL]
      exact Ev.bind (CUT.impl_IsCut_ev W H l) (Ev.pos (decide_eq_true hg) (Ev.bind (CUT.impl_across_ev hg) (Ev.now _)))
    · unfold E3.f
      rw [hL]
      exact Ev.bind (CUT.spec_cuGood_ev W H l) (Ev.pos (decide_eq_true hg) (Ev.bind (CUT.spec_lines_ev hg) (Ev.now _)))
    have hrow:∀ r ∈ L,r.length≤1000000:=fun r hr=>by have:=CUT.allL_row l W.toNat (H.toNat+1) r (hL ▸ hr);omega
    obtain ⟨h2,e0,e1,_⟩:=CUT.ends hg hL
    have hz:CUT.netOfCut W H l=if L.length≤12 then ((L.length:Int),l.map (CUT.wireOf L),l.map (fun s=>s.f2),true) else (0,[],[],false):=by
      unfold CUT.netOfCut
      rw [← hL]
      by_cases c:L.length≤12
      · rw [if_pos ⟨hg,c⟩,if_pos c]
      · rw [if_neg (fun q=>c q.2),if_neg c]
    refine Ev.neg (by simp) (Ev.bind (nets_ev _ _ (by omega)) (Ev.pos (by trivial) (Ev.bind (Iw _ (by omega)) (Ev.pos (by trivial) (Ev.neg (by simp) (Ev.bind (rows_ev L hlen hrow) (Ev.pos (by trivial) (Ev.bind (CUT.impl_IsCut_ev W H l) (Ev.neg (by simpa using hg) (Ev.pos (by trivial) ?_))))))))))
    refine Ev.succ ?_
    simp only [laws_FnNetsFlowOfAll.j9]
    have hf:((CUT.netOfCut W H l).2.2.2 != decide ((L.length:Int)≤12))=false:=by
      rw [hz]
      by_cases c:L.length≤12
      · rw [if_pos c,decide_eq_true (by omega)];rfl
      · rw [if_neg c,decide_eq_false (by omega)];rfl
    refine Ev.neg (by rw [hf];simp) (Ev.pos (by trivial) (Ev.neg (by omega) (Ev.pos (by omega) ?_)))
    rw [Ap (n:=(L.length:Int)-1) (by omega) (by omega)]
    have r0:Af L 0=[0,0,W]:=e0
    have r1:Af L ((L.length:Int)-1)=[H,0,W]:=by
      unfold Af
      rw [show ((L.length:Int)-1).toNat=L.length-1 by omega];exact e1
    rw [r0,r1]
    refine Ev.bind (Iw _ (by simp)) (Ev.pos (by trivial) (Ev.pos (by omega) (Ev.pos (by omega) (Ev.bind (Iw _ (by simp)) (Ev.pos (by trivial) (Ev.succ ?_))))))
    simp only [laws_FnNetsFlowOfAll.j10]
    by_cases c:L.length≤12
    · rw [if_pos c] at hz
      rw [hz]
      have hnet:=CUT.cut_net hg hL c
      have hs:=CUT.sides_map hg hL
      obtain ⟨ws,hws⟩:∃ ws,ws=l.map (CUT.wireOf L):=⟨_,rfl⟩
      obtain ⟨g,hgf⟩:∃ g:Wr→Int,g=fun w=>CUT.Yv L w.f1-CUT.Yv L w.f0:=⟨_,rfl⟩
      rw [← hws] at hnet hs
      have hp:=CUT.cut_pot hg hL c
      rw [← hws] at hp
      have hzr:=CUT.cut_zero hg hL
      rw [← hws,← hgf] at hzr
      rw [← hgf] at hs
      have hsd:∀ w ∈ ws,-1000000≤g w∧g w≤1000000:=fun w hw=>by
        have:g w ∈ l.map (fun s=>s.f2):=by rw [hs];exact List.mem_map.2 ⟨w,hw,rfl⟩
        obtain ⟨s,hsm,hse⟩:=List.mem_map.1 this
        obtain ⟨m,hm,e⟩:=List.getElem_of_mem hsm
        have:=(hg.2.2.2.1 m hm).1
        rw [CUT.sqAt_get l m hm,e] at this
        unfold CUT.Ins at this
        omega
      have hY:∀ v:Int,R64 (-CUT.Yv L v):=fun v=>by
        rcases Nat.lt_or_ge v.toNat L.length with q|q
        · obtain ⟨y0,yH,_⟩:=CUT.seg hg hL v.toNat q
          unfold CUT.Yv R64
          omega
        · unfold CUT.Yv
          rw [List.getD_eq_getElem?_getD,List.getElem?_eq_none q]
          unfold R64 rd;simp
      have hY0:CUT.Yv L 0=0:=by unfold CUT.Yv;rw [show (0:Int).toNat=0 from rfl,e0];rfl
      have hfl:=Uk hnet g hsd fun v h0 h1=>by rw [hzr v (by omega) h1,if_neg (by omega)]
      have hbl:=bal_yes hnet g hsd (fun v => -CUT.Yv L v) (by rw [hY0];rfl) hY fun w hw=>by
        have:=hsd w hw
        rw [hgf] at this ⊢
        dsimp only at this ⊢
        rw [Ap (by omega) (by omega)];omega
      obtain ⟨G,x,y,hG,hx,hy,hra⟩:=rat_is hnet
      have hTH:C3 (L.length:Int) ws*H=W*rd (Ba (L.length:Int) ws) 0:=by
        have:=hp 0 (by omega) (by omega)
        rw [hY0,Int.sub_zero] at this;exact this
      have hxy:x*H=y*W:=Int.eq_of_mul_eq_mul_left hG (by rw [← Int.mul_assoc,hx,hTH,← hy];ac_rfl)
      have hrt:=Je (L.length:Int) ws
      rw [hra] at hrt
      have hcu:=Ib (L.length:Int) ws
      unfold D3 at hcu
      rw [if_pos hnet,K1 hnet] at hcu
      refine Ev.pos (by trivial) ?_
      dsimp only
      rw [← hws,hs]
      refine Ev.bind (a:=(true,true)) (Ev.eqr (Kw _ ws _) hfl) (Ev.bind hbl (Ev.bind hrt (Ev.bind hcu (Ev.bind (Gl _ ws) ?_))))
      refine Ev.pos (decide_eq_true hnet) (Ev.pos (by trivial) (Ev.pos (by rw [hws];simp) (Ev.pos (by trivial) (Ev.pos (by trivial) (Ev.pos (by trivial) (Ev.pos (by trivial) (Ev.pos (by trivial) (Ev.pos (by rw [hxy]) ?_))))))))
      refine law_l2 (L.length:Int) ws g (dv (L.length:Int) ws) hnet.2.1 fun w hw u hu=>?_
      have hT:=(Mi hnet).1
      have key:∀ w ∈ ws,C3 (L.length:Int) ws*g w=W*dv (L.length:Int) ws w:=fun w hw=>by
        obtain ⟨⟨a0,a1⟩,⟨b0,b1⟩,_⟩:=hnet.2.2.1 w hw
        have k0:=hp w.f0 a0 a1
        have k1:=hp w.f1 b0 b1
        rw [hgf]
        dsimp only
        unfold dv
        rw [Int.mul_sub] at k0 k1 ⊢
        rw [Int.mul_sub]
        omega
      refine Int.eq_of_mul_eq_mul_left (show C3 (L.length:Int) ws≠0 by omega) ?_
      rw [← Int.mul_assoc,key w hw,show C3 (L.length:Int) ws*(dv (L.length:Int) ws w*g u)=dv (L.length:Int) ws w*(C3 (L.length:Int) ws*g u) by ac_rfl,key u hu]
      ac_rfl
    · rw [if_neg c] at hz
      rw [hz]
      exact Ev.neg (by simp) (Ev.now _)
  · have hz:CUT.netOfCut W H l=(0,[],[],false):=by unfold CUT.netOfCut;rw [if_neg (fun q=>hg q.1)]
    rw [hz]
    refine Ev.bind (a:=([],false)) ?_ (Ev.bind (a:=([],false)) ?_ ?_)
    · unfold D0.f
      exact Ev.bind (CUT.impl_IsCut_ev W H l) (Ev.neg (by simpa using hg) (Ev.now _))
    · unfold E3.f
      exact Ev.bind (CUT.spec_cuGood_ev W H l) (Ev.neg (by simpa using hg) (Ev.now _))
    refine Ev.neg (by simp) (Ev.bind (nets_ev 0 [] (by simp)) (Ev.pos (by trivial) (Ev.bind (Iw [] (by simp)) (Ev.pos (by trivial) (Ev.neg (by simp) (Ev.bind (rows_ev [] (by simp) (by simp)) (Ev.pos (by trivial) (Ev.bind (CUT.impl_IsCut_ev W H l) (Ev.neg (by simpa using hg) (Ev.neg (by simp) (Ev.succ ?_)))))))))))
    simp only [laws_FnNetsFlowOfAll.j9]
    refine Ev.neg (by simp) (Ev.neg (by simp) (Ev.succ ?_))
    simp only [laws_FnNetsFlowOfAll.j10]
    exact Ev.neg (by simp) (Ev.now _)
open Classical in
theorem FnNetsFlowOfAll:laws_FnNetsFlowOfAll.Pure:=by
  intro n ws W H l _ _ _ _ _ _ _
  refine Ev.rounds (g:=fun k=>laws_FnNetsFlowOfAll.f k n ws W H l) ?_
  unfold laws_FnNetsFlowOfAll.f
  refine Ev.bind (Ib n ws) (Ev.bind (Nd n ws) (Ev.bind (Kg n ws) (Ev.bind (Ql n ws) (Ev.bind (I5 n ws) (Ev.bind (Mr n ws) (Ev.bind (G1 n ws) (Ev.bind (Mh n ws) (Ev.bind (Mt n ws) (Ev.bind (Ms n ws) (Ev.bind (Je n ws) (Ev.bind (Nc n ws) ?_)))))))))))
  have l1:=Qv n ws
  have l2:=N5 n ws
  have l3:=lowOf_len n ws
  refine Ev.neg (by simp) (Ev.bind (Iw _ (by omega)) (Ev.pos (by trivial) (Ev.neg (by simp) (Ev.pos (by trivial) (Ev.neg (by simp) (Ev.pos (by trivial) (Ev.neg (by simp) (Ev.bind (Iw _ (by omega)) (Ev.pos (by trivial) (Ev.neg (by simp) (Ev.bind (Iw _ (by omega)) (Ev.pos (by trivial) (Ev.neg (by simp) (Ev.pos (by trivial) (Ev.pos (by trivial) ?_)))))))))))))))
  have hb:(D3 n ws).2=decide (B1 n ws)∧(Ii n ws).2=decide (B1 n ws)∧(Ew n ws).2=decide (B1 n ws)∧(Du n ws).2=decide (B1 n ws)∧(I8 n ws).2=decide (B1 n ws)∧(Iv n ws).2.2=decide (B1 n ws):=by
    unfold D3 Ii Ew Du I8 Iv
    by_cases h:B1 n ws
    · simp only [if_pos h,decide_eq_true h,and_self]
    · simp only [if_neg h,decide_eq_false h,and_self]
  obtain ⟨q1,q2,q3,q4,q5,q6⟩:=hb
  refine Ev.bind (Gl n ws) (Ev.neg (by rw [q1];simp) (Ev.bind (Gl n ws) (Ev.bind (R1 n ws) (Ev.neg (by simp) (Ev.neg (by rw [q1,q2];simp) (Ev.neg (by rw [q1,q3];simp) (Ev.neg (by rw [q1,q4];simp) (Ev.neg (by rw [q1,q5];simp) ?_))))))))
  refine Ev.succ ?_
  simp only [laws_FnNetsFlowOfAll.j0]
  refine Ev.neg (by rw [q1,q6];simp) ?_
  by_cases h:B1 n ws
  · have hn:=h.1
    have hT:=Mi h
    have hp:=Ku h
    have hpl:=Gd (n:=n) (by omega) ws
    have c1:D3 n ws=(ws.map (dv n ws),true):=by unfold D3;rw [if_pos h,K1 h]
    have c2:Ii n ws=(C3 n ws,true):=by unfold Ii;rw [if_pos h];rfl
    have c3:Ew n ws=(rd (Ba n ws) 0,true):=by unfold Ew;rw [if_pos h]
    have c4:Du n ws=(Ba n ws,true):=by unfold Du;rw [if_pos h]
    have c5:I8 n ws=(ws.map (lw n ws),true):=by unfold I8;rw [if_pos h,low_map h]
    obtain ⟨G,x,y,hG,hx,hy,c6⟩:=rat_is h
    rw [c1,c2,c3,c4,c5,c6]
    have hxy:x*rd (Ba n ws) 0=y*C3 n ws:=by rw [← hx,← hy];ac_rfl
    refine Ev.pos (by trivial) (Ev.neg (by show ¬ C3 n ws<1;omega) (Ev.neg (by show ¬ rd (Ba n ws) 0<1;omega) (Ev.pos hpl (Ev.pos (by show 0<((Ba n ws).length:Int);omega) (Ev.pos (by trivial) ?_)))))
    rw [Ap (n:=n-1) (by omega) (by omega)]
    refine Ev.pos (by omega) (Ev.pos (by show n-1<((Ba n ws).length:Int);omega) (Ev.pos (Kt n ws) (Ev.pos (by show wrap64 (x*rd (Ba n ws) 0)=wrap64 (y*C3 n ws);rw [hxy]) (Ev.succ ?_))))
    simp only [laws_FnNetsFlowOfAll.j1]
    exact Ev.neg (by simp) (law_l0 h W H l (law_cut W H l) ws 0 0 0 rfl (by omega) (by rw [full_from h];omega) (by rw [full_to h];omega))
  · have c1:(D3 n ws).2=false:=by rw [q1];exact decide_eq_false h
    rw [c1]
    exact Ev.neg (by simp) (law_cut W H l)

end Go.Proofs.Yteaomckihokakaa.Pure
