/- Full currents are a flow that is balanced, trees go into the net, potentials are told from pole to pole, and nets of cuts flow by their sides, whatever is given. -/
import Derived.Test.YteaomckihokakaaPFnNetsFlowOfAllx0
import Derived.Test.YteaomckihokakaaPFnNetsFlowOfAllx1
import Derived.Test.YteaomckihokakaaPFnNetsFlowOfAllx2
import Derived.Test.YteaomckihokakaaPFnNetsFlowOfAllx3
import Derived.Test.YteaomckihokakaaPFnNetsFlowOfAllx4
import Derived.Test.YteaomckihokakaaPFnNetsFlowOfAllx5
import Derived.Test.YteaomckihokakaaPFnNetsFlowOfAllx6
import Derived.Test.YteaomckihokakaaPFnNetsFlowOfAllx7
import Derived.Test.YteaomckihokakaaPFnNetsFlowOfAllx8
import Derived.Test.YteaomckihokakaaPFnNetsFlowOfAllx9
import Derived.Test.YteaomckihokakaaPFnNetsFlowOfAllx10
import Derived.Test.YteaomckihokakaaPFnNetsFlowOfAllx11
import Derived.Test.YteaomckihokakaaPFnNetsFlowOfAllx12
import Derived.Test.YteaomckihokakaaPFnNetsFlowOfAllx13
import Derived.Test.YteaomckihokakaaPFnNetsFlowOfAllx14
import Derived.Test.YteaomckihokakaaPFnNetsFlowOfAllx15
import Derived.Test.YteaomckihokakaaPFnNetsFlowOfAllx16
import Derived.Test.YteaomckihokakaaPFnNetsFlowOfAllx17
import Derived.Test.YteaomckihokakaaPFnNetsFlowOfAllx18
import Derived.Test.YteaomckihokakaaPFnNetsFlowOfAllx19
import Derived.Test.YteaomckihokakaaPFnNetsFlowOfAllx20
import Derived.Test.YteaomckihokakaaPFnNetsFlowOfAllx21
import Derived.Test.YteaomckihokakaaPFnNetsFlowOfAllx22
import Derived.Test.YteaomckihokakaaWGuardMoreInvWords
namespace Go.Proofs.Yteaomckihokakaa.Pure
open Go.RowKit Go.Proofs.Yteaomckihokakaa.PFnNetsFlowOfAll Go.Proofs.YteaomckihokakaaW.PrintWords Go.Proofs.YteaomckihokakaaW.PrintLast Go.Proofs.YteaomckihokakaaW.PrintMore Go.Proofs.YteaomckihokakaaW.Evs
set_option linter.unusedVariables false
set_option linter.unusedSimpArgs false
/-! ### a net: what the program's IsNet and the reference's neGood answer -/
abbrev Wr:=S47
def Gv (l:List Wr) (j:Nat):Wr:=l.getD j z47
theorem I0 (l:List Wr) (j:Nat):An l (j:Int)=Gv l j:=by unfold An Gv;rw [Int.toNat_natCast]
theorem I6 (l:List Wr) (j:Nat) (h:j<l.length):Gv l j=l[j]:=by unfold Gv;simp [List.getD,h]
theorem El (l:List Wr) (i:Nat) (w:Wr) (t:List Wr) (h:l.drop i=w::t):i<l.length∧Gv l i=w∧l.drop (i+1)=t∧w ∈ l∧i+1+t.length=l.length:=by
  have h1:i<l.length:=by
    apply Decidable.byContradiction
    intro hn
    rw [List.drop_eq_nil_of_le (by omega)] at h;cases h
  rw [List.drop_eq_getElem_cons h1] at h
  injection h with ha hb
  refine ⟨h1,by rw [I6 l i h1];exact ha,hb,by rw [← ha];exact List.getElem_mem h1,?_⟩
  rw [← hb,List.length_drop];omega
theorem K7 (a b c:Int):Bo.f a b c=some (decide (b≤a∧a≤c)):=by
  unfold Bo.f
  by_cases h:b≤a
  · rw [if_pos h];simp [h]
  · rw [if_neg h];simp [h]
theorem K8 (a b c:Int):Br.f a b c=some (decide (b≤a∧a≤c)):=by
  unfold Br.f
  by_cases h:b≤a
  · rw [if_pos h];simp [h]
  · rw [if_neg h];simp [h]
/-- nodes that are joined to node 0 -/
inductive Ee (ws:List Wr):Int→Prop
  | zero:Ee ws 0
  | fwd (w:Wr) (h:w ∈ ws) (r:Ee ws w.f0):Ee ws w.f1
  | bwd (w:Wr) (h:w ∈ ws) (r:Ee ws w.f1):Ee ws w.f0
def Bm (n:Int) (w:Wr):Prop:=(0≤w.f0∧w.f0≤n-1)∧(0≤w.f1∧w.f1≤n-1)∧w.f0≠w.f1
instance (n:Int) (w:Wr):Decidable (Bm n w):=by unfold Bm;infer_instance
def Jb (n:Int) (ws:List Wr):Prop:=∀ j,0≤j→j<n→Ee ws j
def B1 (n:Int) (ws:List Wr):Prop:=(2≤n∧n≤12)∧ws.length≤30∧(∀ w ∈ ws,Bm n w)∧Jb n ws
/-- a list's place by a whole number -/
def bAt (s:List Bool) (j:Int):Bool:=s.getD j.toNat false
def iAt (s:List Int) (j:Int):Int:=s.getD j.toNat 0
theorem Jv {α:Type} (s:List α) (i m:Nat) (v d:α) (hi:i<s.length):(s.set i v).getD m d=if m=i then v else s.getD m d:=by
  by_cases e:m=i
  · subst e;simp [List.getD,hi]
  · have e':i≠m:=fun h=>e h.symm
    simp [List.getD,e,e']
theorem Jp (s:List Bool) (i m:Int) (v:Bool) (h0:0≤i) (hi:i<s.length) (hm:0≤m):bAt (s.set i.toNat v) m=if m=i then v else bAt s m:=by
  unfold bAt
  rw [Jv _ _ _ _ _ (by omega)]
  by_cases e:m=i
  · rw [if_pos e,if_pos (by omega)]
  · rw [if_neg e,if_neg (by omega)]
theorem Gw (s:List Int) (i m:Int) (v:Int) (h0:0≤i) (hi:i<s.length) (hm:0≤m):iAt (s.set i.toNat v) m=if m=i then v else iAt s m:=by
  unfold iAt
  rw [Jv _ _ _ _ _ (by omega)]
  by_cases e:m=i
  · rw [if_pos e,if_pos (by omega)]
  · rw [if_neg e,if_neg (by omega)]
theorem Mx {α β:Type} (p:α→Bool) (q:β→Bool):∀ (a:List α) (b:List β),a.length=b.length→(∀ (j:Nat) (x:α) (y:β),a[j]? = some x→b[j]? = some y→p x=true→q y=true)→a.countP p≤b.countP q
  | [],[],_,_=>Nat.le_refl _
  | x::a,y::b,hl,h=>by
    have ih:=Mx p q a b (by simpa using hl) (fun j u v hu hv=>h (j+1) u v hu hv)
    have h0:=h 0 x y rfl rfl
    rw [List.countP_cons,List.countP_cons]
    cases hp:p x
    · simp;split <;> omega
    · rw [h0 hp];simp;omega
theorem Jw {α β:Type} (p:α→Bool) (q:β→Bool):∀ (a:List α) (b:List β),a.length=b.length→(∀ (j:Nat) (x:α) (y:β),a[j]? = some x→b[j]? = some y→p x=true→q y=true)→(∃ (j:Nat) (x:α) (y:β),a[j]? = some x∧b[j]? = some y∧p x=false∧q y=true)→a.countP p<b.countP q
  | [],[],_,_,h=>by obtain ⟨j,x,y,hx,_⟩:=h;simp at hx
  | x::a,y::b,hl,h,hs=>by
    have h0:=h 0 x y rfl rfl
    have hl':a.length=b.length:=by simpa using hl
    have ht:∀ (j:Nat) (u:α) (v:β),a[j]? = some u→b[j]? = some v→p u=true→q v=true:=fun j u v hu hv=>h (j+1) u v hu hv
    obtain ⟨j,u,v,hu,hv,hp,hq⟩:=hs
    rw [List.countP_cons,List.countP_cons]
    cases j with
    | zero =>
      have le:=Mx p q a b hl' ht
      simp at hu hv
      subst hu hv
      rw [hp,hq];simp;omega
    | succ j =>
      have lt:=Jw p q a b hl' ht ⟨j,u,v,hu,hv,hp,hq⟩
      cases hp:p x
      · simp;split <;> omega
      · rw [h0 hp];simp;omega

/-! the program: names -/
def step (s:List Int) (w:Wr):List Int:=(s.set w.f0.toNat (mn (iAt s w.f0) (iAt s w.f1))).set w.f1.toNat (mn (iAt s w.f0) (iAt s w.f1))
def Io (s:List Int) (t:List Wr):List Int:=t.foldl step s
def Nm (n:Int) (s:List Int):Prop:=(s.length:Int)=n∧∀ j,0≤j→j<n→0≤iAt s j
theorem mn_eq (a b:Int):mn a b=min a b:=by unfold mn;omega
theorem Kp {n:Int} {s:List Int} {w:Wr} (hs:Nm n s) (hw:Bm n w) (j:Int) (h0:0≤j):iAt (step s w) j=if j=w.f0∨j=w.f1 then min (iAt s w.f0) (iAt s w.f1) else iAt s j:=by
  unfold Bm at hw
  have hl:=hs.1
  unfold step
  rw [Gw _ _ _ _ (by omega) (by rw [List.length_set];omega) h0,Gw _ _ _ _ (by omega) (by omega) h0,mn_eq]
  by_cases e1:j=w.f1
  · rw [if_pos e1,if_pos (Or.inr e1)]
  · rw [if_neg e1]
    by_cases e0:j=w.f0
    · rw [if_pos e0,if_pos (Or.inl e0)]
    · rw [if_neg e0,if_neg (fun h=>h.elim e0 e1)]
theorem step_nm {n:Int} {s:List Int} {w:Wr} (hs:Nm n s) (hw:Bm n w):Nm n (step s w):=by
  refine ⟨by unfold step;rw [List.length_set,List.length_set];exact hs.1,fun j h0 h1=>?_⟩
  rw [Kp hs hw j h0]
  have a:=hs.2 w.f0 (by unfold Bm at hw;omega) (by unfold Bm at hw;omega)
  have b:=hs.2 w.f1 (by unfold Bm at hw;omega) (by unfold Bm at hw;omega)
  have c:=hs.2 j h0 h1
  split <;> omega
theorem My {n:Int} {s:List Int} {w:Wr} (hs:Nm n s) (hw:Bm n w) (j:Int) (h0:0≤j) (hz:iAt s j=0):iAt (step s w) j=0:=by
  rw [Kp hs hw j h0]
  have a:=hs.2 w.f0 (by unfold Bm at hw;omega) (by unfold Bm at hw;omega)
  have b:=hs.2 w.f1 (by unfold Bm at hw;omega) (by unfold Bm at hw;omega)
  split
  · rename_i h
    rcases h with e|e <;> subst e <;> omega
  · exact hz
theorem N1 {n : Int} {ws : List Wr} (hws : ∀ w ∈ ws, Bm n w) : ∀ (t : List Wr), (∀ w ∈ t, w ∈ ws) → ∀ s, Nm n s → (∀ j, 0 ≤ j → j < n → iAt s j = 0 → Ee ws j) →
    Nm n (Io s t)∧(∀ j,0≤j→iAt s j=0→iAt (Io s t) j=0)∧(∀ j,0≤j→j<n→iAt (Io s t) j=0→Ee ws j) ∧
      ∀ w ∈ t,iAt s w.f0=0∨iAt s w.f1=0→iAt (Io s t) w.f0=0∧iAt (Io s t) w.f1=0
  | [],_,s,hs,hr=>⟨hs,fun _ _ h=>h,hr,fun w hw=>by cases hw⟩
  | w::t,ht,s,hs,hr=>by
    have hw:=hws w (ht w List.mem_cons_self)
    have hwm:=ht w List.mem_cons_self
    have hw':=hw
    unfold Bm at hw'
    have hr':∀ j,0≤j→j<n→iAt (step s w) j=0→Ee ws j:=by
      intro j h0 h1 hz
      rw [Kp hs hw j h0] at hz
      have a:=hs.2 w.f0 (by omega) (by omega)
      have b:=hs.2 w.f1 (by omega) (by omega)
      split at hz
      · rename_i h
        have hh:Ee ws w.f0∧Ee ws w.f1:=by
          rcases (by omega:iAt s w.f0=0∨iAt s w.f1=0) with e|e
          · have:=hr w.f0 (by omega) (by omega) e;exact ⟨this,.fwd w hwm this⟩
          · have:=hr w.f1 (by omega) (by omega) e;exact ⟨.bwd w hwm this,this⟩
        rcases h with e|e <;> subst e
        · exact hh.1
        · exact hh.2
      · exact hr j h0 h1 hz
    obtain ⟨p1,p2,p3,p4⟩:=N1 hws t (fun x hx=>ht x (List.mem_cons_of_mem _ hx)) (step s w) (step_nm hs hw) hr'
    have keep:∀ j,0≤j→iAt s j=0→iAt (Io s (w::t)) j=0:=fun j h0 hz=>p2 j h0 (My hs hw j h0 hz)
    refine ⟨p1,keep,p3,fun x hx hz=>?_⟩
    rcases List.mem_cons.1 hx with rfl|hx
    · have a:=hs.2 x.f0 (by omega) (by omega)
      have b:=hs.2 x.f1 (by omega) (by omega)
      constructor
      · refine p2 x.f0 (by omega) ?_
        rw [Kp hs hw _ (by omega),if_pos (Or.inl rfl)];omega
      · refine p2 x.f1 (by omega) ?_
        rw [Kp hs hw _ (by omega),if_pos (Or.inr rfl)];omega
    · have hxw:=hws x (ht x (List.mem_cons_of_mem _ hx))
      unfold Bm at hxw
      refine p4 x hx ?_
      rcases hz with hz|hz
      · exact Or.inl (My hs hw _ (by omega) hz)
      · exact Or.inr (My hs hw _ (by omega) hz)
def rounds (ws:List Wr):Nat→List Int→List Int
  | 0,s=>s
  | r+1,s=>rounds ws r (Io s ws)
def Full (n:Int) (ws:List Wr) (s:List Int):Prop:=∀ j,0≤j→j<n→Ee ws j→iAt s j=0
theorem Qs {n:Int} {ws:List Wr} (hws:∀ w ∈ ws,Bm n w) {s:List Int} (h0:iAt s 0=0) (hc:∀ w ∈ ws,iAt s w.f0=0↔iAt s w.f1=0):Full n ws s:=by
  intro j _ _ hr
  induction hr with
  | zero=>exact h0
  | fwd w hw _ ih=>have:=hws w hw;unfold Bm at this;exact (hc w hw).1 (ih (by omega) (by omega))
  | bwd w hw _ ih=>have:=hws w hw;unfold Bm at this;exact (hc w hw).2 (ih (by omega) (by omega))
theorem J9 (s:List Int) (j:Nat) (h:j<s.length):s[j]? = some (iAt s (j:Int)):=by
  unfold iAt;rw [Int.toNat_natCast,List.getD_eq_getElem?_getD,List.getElem?_eq_getElem h];rfl
theorem Nu {n : Int} {ws : List Wr} (hn : 1 ≤ n) (hws : ∀ w ∈ ws, Bm n w) : ∀ (r c : Nat) (s : List Int), Nm n s → iAt s 0 = 0 → (∀ j, 0 ≤ j → j < n → iAt s j = 0 → Ee ws j) → (Full n ws s ∨ c ≤ s.countP (· == 0)) → n < c + r →
    Full n ws (rounds ws r s)∧Nm n (rounds ws r s)∧∀ j,0≤j→j<n→iAt (rounds ws r s) j=0→Ee ws j
  | 0,c,s,hs,h0,hr,hf,hc=>by
    refine ⟨?_,hs,hr⟩
    rcases hf with hf|hf
    · exact hf
    · have:=List.countP_le_length (p:=(·==(0:Int))) (l:=s)
      have:=hs.1
      omega
  | r+1,c,s,hs,h0,hr,hf,hc=>by
    obtain ⟨p1,p2,p3,p4⟩:=N1 hws ws (fun _ h=>h) s hs hr
    refine Nu hn hws r (c+1) (Io s ws) p1 (p2 0 (by omega) h0) p3 ?_ (by omega)
    by_cases full:Full n ws s
    · exact Or.inl fun j a b d=>p2 j a (full j a b d)
    · right
      have hex:∃ w ∈ ws,¬ (iAt s w.f0=0↔iAt s w.f1=0):=by
        apply Decidable.byContradiction
        intro hno
        exact full (Qs hws h0 fun w hw=>Decidable.byContradiction fun h=>hno ⟨w,hw,h⟩)
      obtain ⟨w,hw,hne⟩:=hex
      have hwo:=hws w hw
      unfold Bm at hwo
      obtain ⟨q1,q2⟩:=p4 w hw (by omega)
      have hl1:=hs.1
      have hl2:=p1.1
      have lt:s.countP (·==0)<(Io s ws).countP (·==0):=by
        refine Jw _ _ s (Io s ws) (by omega) (fun j x y hx hy hp=>?_) ?_
        · have hj:j<s.length:=(List.getElem?_eq_some_iff.1 hx).1
          rw [J9 s j hj] at hx
          rw [J9 _ j (by omega)] at hy
          obtain rfl:=Option.some.inj hx
          obtain rfl:=Option.some.inj hy
          have:=p2 (j:Int) (by omega) (by simpa using hp)
          simpa using this
        · by_cases hz:iAt s w.f0=0
          · have hz1:iAt s w.f1≠0:=fun h=>hne ⟨fun _=>h,fun _=>hz⟩
            refine ⟨w.f1.toNat,iAt s w.f1,iAt (Io s ws) w.f1,?_,?_,by simpa using hz1,by simpa using q2⟩
            · rw [J9 s _ (by omega)];congr 2;omega
            · rw [J9 _ _ (by omega)];congr 2;omega
          · refine ⟨w.f0.toNat,iAt s w.f0,iAt (Io s ws) w.f0,?_,?_,by simpa using hz,by simpa using q1⟩
            · rw [J9 s _ (by omega)];congr 2;omega
            · rw [J9 _ _ (by omega)];congr 2;omega
      rcases hf with hf|hf
      · exact absurd hf full
      · omega

/-! the program's loops -/
theorem rd_i (s:List Int) (j:Int):rd s j=iAt s j:=rfl
theorem impl_l2 {n : Int} {ws : List Wr} (hws : ∀ w ∈ ws, Bm n w) (hl : ws.length ≤ 1000) (a b : Int) (r : Bool) : ∀ (t : List Wr) (i : Nat) (s : List Int), ws.drop i = t → i + t.length = ws.length → Nm n s →
    Ev (fun k=>Ao.l1 k (Io s t) a (wrap64 (b+1)) n ws) r→Ev (fun k=>Ao.l2 k s a b ws (ws.length:Int) (i:Int) n ws) r
  | [],i,s,_,hi,hs,h=>by
    simp only [List.length_nil] at hi
    refine Ev.succ ?_
    simp only [Ao.l2]
    exact Ev.neg (by omega) h
  | w::t,i,s,hd,hi,hs,h=>by
    obtain ⟨h1,h2,h3,h4,h5⟩:=El ws i w t hd
    have hw:=hws w h4
    have hw':=hw
    unfold Bm at hw'
    have hsl:=hs.1
    have ih:=impl_l2 hws hl a b r t (i+1) (step s w) h3 (by omega) (step_nm hs hw) h
    refine Ev.succ ?_
    simp only [Ao.l2,I0,h2,rd_i]
    refine Ev.pos (by omega) (Ev.pos (by omega) (Ev.pos (by omega) (Ev.pos (by omega) (Ev.pos (by omega) (Ev.pos (by omega) (Ev.pos (by omega) ?_))))))
    rw [Ap (n:=(i:Int)+1) (by omega) (by omega)]
    exact ih
theorem max_loop (s : List Int) (hl : s.length ≤ 1000) : ∀ (d i : Nat) (m : Int), s.length - i = d → i ≤ s.length → 0 ≤ m → (∀ j, j < s.length → 0 ≤ iAt s (j : Int)) →
    ∃ q,Ev (fun k=>B2.l0 k s m (i:Int)) q∧(q=0↔m=0∧∀ j,i≤j→j<s.length→iAt s (j:Int)=0):=by
  intro d
  induction d with
  | zero =>
    intro i m hd hi hm h0
    refine ⟨m,Ev.succ ?_,⟨fun h=>⟨h,fun j h1 h2=>by omega⟩,fun h=>h.1⟩⟩
    simp only [B2.l0]
    exact Ev.neg (by omega) (Ev.now _)
  | succ d ih =>
    intro i m hd hi hm h0
    have hi0:=h0 i (by omega)
    have hx:mx m (iAt s (i:Int))=max m (iAt s (i:Int)):=by unfold mx;omega
    obtain ⟨q,hq,hiff⟩:=ih (i+1) (mx m (iAt s (i:Int))) (by omega) (by omega) (by omega) h0
    refine ⟨q,Ev.succ ?_,?_⟩
    · simp only [B2.l0,rd_i]
      refine Ev.pos (by omega) (Ev.pos (by omega) ?_)
      rw [Ap (by omega) (by omega)]
      exact hq
    · rw [hiff,hx]
      constructor
      · rintro ⟨h1,h2⟩
        refine ⟨by omega,fun j h3 h4=>?_⟩
        by_cases e:i=j
        · subst e;omega
        · exact h2 j (by omega) h4
      · rintro ⟨h1,h2⟩
        have:=h2 i (Nat.le_refl _) (by omega)
        exact ⟨by omega,fun j h3 h4=>h2 j (by omega) h4⟩
theorem max_ev {n:Int} {s:List Int} (hn:1≤n∧n≤1000) (hs:Nm n s):∃ q,Ev (fun k=>B2.f k s) q∧(q=0↔∀ j,0≤j→j<n→iAt s j=0):=by
  have hl:=hs.1
  have h0:∀ j:Nat,j<s.length→0≤iAt s (j:Int):=fun j hj=>hs.2 j (by omega) (by omega)
  obtain ⟨q,hq,hiff⟩:=max_loop s (by omega) (s.length-1) 1 (iAt s 0) (by omega) (by omega) (h0 0 (by omega)) h0
  refine ⟨q,?_,?_⟩
  · unfold B2.f
    exact Ev.neg (by omega) (Ev.pos (by omega) hq)
  · rw [hiff]
    constructor
    · rintro ⟨h1,h2⟩ j h3 h4
      by_cases e:j=0
      · rw [e];exact h1
      · have:=h2 j.toNat (by omega) (by omega)
        rw [show ((j.toNat:Nat):Int)=j by omega] at this
        exact this
    · intro h
      exact ⟨h 0 (by omega) (by omega),fun j h3 h4=>h j (by omega) (by omega)⟩
theorem impl_l1 {n : Int} {ws : List Wr} (hn : 1 ≤ n ∧ n ≤ 1000) (hws : ∀ w ∈ ws, Bm n w) (hl : ws.length ≤ 1000) (r : Bool) : ∀ (d : Nat) (b : Int) (s : List Int), n - b = d → 0 ≤ b → Nm n s → (∀ j, 0 ≤ j → j < n → iAt s j = 0 → Ee ws j) →
    (∀ q,Nm n (rounds ws d s)→(q=0↔∀ j,0≤j→j<n→iAt (rounds ws d s) j=0)→(q==(0:Int))=r)→Ev (fun k=>Ao.l1 k s n b n ws) r
  | 0,b,s,hd,hb,hs,hr,h=>by
    obtain ⟨q,hq,hiff⟩:=max_ev hn hs
    refine Ev.succ ?_
    simp only [Ao.l1]
    exact Ev.neg (by omega) (Ev.bind hq (Ev.eqr (Ev.now _) (h q hs hiff)))
  | d+1,b,s,hd,hb,hs,hr,h=>by
    obtain ⟨p1,p2,p3,p4⟩:=N1 hws ws (fun _ h=>h) s hs hr
    refine Ev.succ ?_
    simp only [Ao.l1]
    refine Ev.pos (by omega) (impl_l2 hws hl n b r ws 0 s rfl (by simp) hs ?_)
    rw [Ap (by omega) (by omega)]
    exact impl_l1 hn hws hl r d (b+1) (Io s ws) (by omega) (by omega) p1 p3 h
def upTo:Nat→List Int
  | 0=>[]
  | k+1=>upTo k++[(k:Int)]
theorem Ip:∀ k,(upTo k).length=k
  | 0=>rfl
  | k+1=>by simp [upTo,Ip k]
theorem Qt:∀ (k j:Nat),j<k→iAt (upTo k) (j:Int)=j
  | k+1,j,h=>by
    unfold iAt
    rw [Int.toNat_natCast]
    simp only [upTo,List.getD_eq_getElem?_getD]
    by_cases e:j<k
    · rw [List.getElem?_append_left (by rw [Ip];exact e)]
      have:=Qt k j e
      unfold iAt at this
      rw [Int.toNat_natCast,List.getD_eq_getElem?_getD] at this
      exact this
    · obtain rfl:j=k:=by omega
      rw [List.getElem?_append_right (by rw [Ip];exact Nat.le_refl _),Ip];simp
theorem impl_l0 {n : Int} {ws : List Wr} (hn : 1 ≤ n ∧ n ≤ 1000) (r : Bool) (h : Ev (fun k => Ao.l1 k (upTo n.toNat) n 0 n ws) r) : ∀ (d i : Nat), n - i = d → (i : Int) ≤ n →
    Ev (fun k=>Ao.l0 k (upTo i) n (i:Int) n ws) r
  | 0,i,hd,hi=>by
    refine Ev.succ ?_
    simp only [Ao.l0]
    refine Ev.neg (by omega) ?_
    rw [show i=n.toNat by omega]
    exact h
  | d+1,i,hd,hi=>by
    refine Ev.succ ?_
    simp only [Ao.l0]
    have hl:=Ip i
    refine Ev.pos (by omega) (Ev.pos (by omega) ?_)
    rw [Ap (by omega) (by omega)]
    exact impl_l0 hn r h d (i+1) (by omega) (by omega)
theorem up_nm {n:Int} (hn:1≤n):Nm n (upTo n.toNat):=by
  refine ⟨by rw [Ip];omega,fun j h0 h1=>?_⟩
  have:=Qt n.toNat j.toNat (by omega)
  rw [show ((j.toNat:Nat):Int)=j by omega] at this
  omega
open Classical in
theorem Uz {n:Int} {ws:List Wr} (hn:1≤n∧n≤1000) (hws:∀ w ∈ ws,Bm n w) (hl:ws.length≤1000):Ev (fun k=>Ao.f k n ws) (decide (Jb n ws)):=by
  have hs:=up_nm hn.1
  have at0:∀ j,0≤j→j<n→iAt (upTo n.toNat) j=j:=fun j h0 h1=>by
    have:=Qt n.toNat j.toNat (by omega)
    rw [show ((j.toNat:Nat):Int)=j by omega] at this
    exact this
  have hr:∀ j,0≤j→j<n→iAt (upTo n.toNat) j=0→Ee ws j:=fun j h0 h1 hz=>by
    rw [at0 j h0 h1] at hz;rw [hz];exact .zero
  unfold Ao.f
  refine impl_l0 hn _ ?_ n.toNat 0 (by omega) (by omega)
  refine impl_l1 hn hws hl _ n.toNat 0 _ (by omega) (by omega) hs hr (fun q hq hiff=>?_)
  obtain ⟨f1,f2,f3⟩:=Nu hn.1 hws n.toNat 1 _ hs (at0 0 (by omega) (by omega)) hr (Or.inr (by
    refine List.countP_pos_iff.2 ⟨0,?_,rfl⟩
    have hl:=Ip n.toNat
    have:=J9 (upTo n.toNat) 0 (by omega)
    have e:=at0 0 (by omega) (by omega)
    rw [show (((0:Nat)):Int)=0 from rfl,e] at this
    exact List.mem_of_getElem? this)) (by omega)
  rw [Bool.eq_iff_iff,beq_iff_eq,decide_eq_true_eq,hiff]
  exact ⟨fun h j h0 h1=>f3 j h0 h1 (h j h0 h1),fun h j h0 h1=>f1 j h0 h1 (h j h0 h1)⟩
theorem Ka {n : Int} {ws : List Wr} (hn : 2 ≤ n ∧ n ≤ 12) (hl : ws.length ≤ 30) (r : Bool) (hall : (∀ w ∈ ws, Bm n w) → Ev (fun k => Ao.f k n ws) r) (hbad : ¬ (∀ w ∈ ws, Bm n w) → r = false) : ∀ (t : List Wr) (i : Nat), ws.drop i = t → i + t.length = ws.length →
    ((∀ w ∈ t,Bm n w)→∀ w ∈ ws,Bm n w)→Ev (fun k=>Bt.l0 k ws (ws.length:Int) (i:Int) n ws) r
  | [],i,_,hi,h=>by
    simp only [List.length_nil] at hi
    refine Ev.succ ?_
    simp only [Bt.l0]
    exact Ev.neg (by omega) (Ev.bind (hall (h fun w hw=>by cases hw)) (Ev.now _))
  | w::t,i,hd,hi,h=>by
    obtain ⟨h1,h2,h3,h4,h5⟩:=El ws i w t hd
    have no:¬ Bm n w→r=false:=fun hc=>hbad fun ha=>hc (ha w h4)
    refine Ev.succ ?_
    simp only [Bt.l0,I0,h2]
    refine Ev.pos (by omega) (Ev.pos (by omega) (Ev.pos (by omega) (Ev.bindc (K7 _ _ _) ?_)))
    rw [Ap (n:=n-1) (by omega) (by omega),Ap (n:=(i:Int)+1) (by omega) (by omega)]
    by_cases c1:0≤w.f0∧w.f0≤n-1
    · rw [decide_eq_true c1]
      refine Ev.pos rfl (Ev.bindc (K7 _ _ _) ?_)
      by_cases c2:0≤w.f1∧w.f1≤n-1
      · rw [decide_eq_true c2]
        refine Ev.pos rfl ?_
        by_cases c3:w.f0=w.f1
        · exact Ev.pos c3 (Ev.eqr (Ev.now _) (no fun hc=>hc.2.2 c3).symm)
        · refine Ev.neg c3 (Ka hn hl r hall hbad t (i+1) h3 (by omega) fun ht=>h fun x hx=>?_)
          rcases List.mem_cons.1 hx with rfl|hx
          · exact ⟨c1,c2,c3⟩
          · exact ht x hx
      · rw [decide_eq_false c2]
        exact Ev.neg (by decide) (Ev.eqr (Ev.now _) (no fun hc=>c2 hc.2.1).symm)
    · rw [decide_eq_false c1]
      exact Ev.neg (by decide) (Ev.eqr (Ev.now _) (no fun hc=>c1 hc.1).symm)
open Classical in
theorem Gl (n:Int) (ws:List Wr):Ev (fun k=>Bt.f k n ws) (decide (B1 n ws)):=by
  have fall:¬ B1 n ws→Ev (fun k=>Bt.j0 k true n ws) (decide (B1 n ws)):=fun h=>by
    rw [decide_eq_false h]
    refine Ev.succ ?_
    simp only [Bt.j0]
    exact Ev.pos trivial (Ev.now _)
  unfold Bt.f
  refine Ev.bindc (K7 _ _ _) ?_
  by_cases c1:2≤n∧n≤12
  · rw [decide_eq_true c1]
    refine Ev.pos rfl ?_
    by_cases c2:(ws.length:Int)>30
    · rw [decide_eq_true c2]
      exact fall fun h=>by have:=h.2.1;omega
    · rw [decide_eq_false c2]
      refine Ev.succ ?_
      simp only [Bt.j0]
      refine Ev.neg (by decide) (Ka c1 (by omega) _ (fun ha=>?_) (fun hn=>decide_eq_false fun h=>hn h.2.2.1) ws 0 rfl (by simp) (fun h=>h))
      refine Ev.eqr (Uz ⟨by omega,by omega⟩ ha (by omega)) ?_
      exact decide_eq_decide.2 ⟨fun h=>⟨c1,by omega,ha,h⟩,fun h=>h.2.2.2⟩
  · rw [decide_eq_false c1]
    exact Ev.neg (by decide) (fall fun h=>c1 h.1)

/-! the reference's loops -/
theorem rd_b (s:List Bool) (j:Int):D4 false s j=bAt s j:=rfl
def Sn (n:Int) (ws:List Wr) (s:List Bool):Prop:=(s.length:Int)=n∧bAt s 0=true∧∀ j,0≤j→j<n→bAt s j=true→Ee ws j
def G0 (s:List Bool) (w:Wr):List Bool:=(s.set w.f0.toNat true).set w.f1.toNat true
theorem Gh {n:Int} {s:List Bool} {w:Wr} (hl:(s.length:Int)=n) (hw:Bm n w) (j:Int) (h0:0≤j):bAt (G0 s w) j=(if j=w.f0∨j=w.f1 then true else bAt s j):=by
  unfold Bm at hw
  unfold G0
  rw [Jp _ _ _ _ (by omega) (by rw [List.length_set];omega) h0,Jp _ _ _ _ (by omega) (by omega) h0]
  by_cases e1:j=w.f1
  · rw [if_pos e1,if_pos (Or.inr e1)]
  · rw [if_neg e1]
    by_cases e0:j=w.f0
    · rw [if_pos e0,if_pos (Or.inl e0)]
    · rw [if_neg e0,if_neg (fun h=>h.elim e0 e1)]
theorem Im (s:List Bool) (j:Nat) (h:j<s.length):s[j]? = some (bAt s (j:Int)):=by
  unfold bAt;rw [Int.toNat_natCast,List.getD_eq_getElem?_getD,List.getElem?_eq_getElem h];rfl
theorem Jx {n:Int} {s:List Bool} {w:Wr} (hl:(s.length:Int)=n) (hw:Bm n w) (hne:bAt s w.f0≠bAt s w.f1):s.countP id<(G0 s w).countP id:=by
  have hw':=hw
  unfold Bm at hw'
  have hl2:(G0 s w).length=s.length:=by unfold G0;rw [List.length_set,List.length_set]
  refine Jw id id s (G0 s w) hl2.symm (fun j x y hx hy hp=>?_) ?_
  · have hj:j<s.length:=(List.getElem?_eq_some_iff.1 hx).1
    rw [Im s j hj] at hx
    rw [Im _ j (by omega)] at hy
    obtain rfl:=Option.some.inj hx
    obtain rfl:=Option.some.inj hy
    rw [Gh hl hw _ (by omega)]
    split
    · rfl
    · exact hp
  · by_cases hz:bAt s w.f0=false
    · refine ⟨w.f0.toNat,false,true,?_,?_,rfl,rfl⟩
      · rw [Im s _ (by omega),show ((w.f0.toNat:Nat):Int)=w.f0 by omega,hz]
      · rw [Im _ _ (by omega),show ((w.f0.toNat:Nat):Int)=w.f0 by omega,Gh hl hw _ (by omega),if_pos (Or.inl rfl)]
    · have hz1 : bAt s w.f1 = false := by
        cases h0:bAt s w.f0 <;> cases h1:bAt s w.f1 <;> simp_all
      refine ⟨w.f1.toNat,false,true,?_,?_,rfl,rfl⟩
      · rw [Im s _ (by omega),show ((w.f1.toNat:Nat):Int)=w.f1 by omega,hz1]
      · rw [Im _ _ (by omega),show ((w.f1.toNat:Nat):Int)=w.f1 by omega,Gh hl hw _ (by omega),if_pos (Or.inr rfl)]
theorem N2 {n:Int} {ws:List Wr} {s:List Bool} {w:Wr} (hs:Sn n ws s) (hw:Bm n w) (hm:w ∈ ws) (hne:bAt s w.f0≠bAt s w.f1):Sn n ws (G0 s w):=by
  obtain ⟨h1,h2,h3⟩:=hs
  have hw':=hw
  unfold Bm at hw'
  refine ⟨by unfold G0;rw [List.length_set,List.length_set];exact h1,?_,fun j h0 hj hb=>?_⟩
  · rw [Gh h1 hw 0 (by omega)];split
    · rfl
    · exact h2
  · rw [Gh h1 hw j h0] at hb
    have hh:Ee ws w.f0∧Ee ws w.f1:=by
      by_cases hz:bAt s w.f0=true
      · have:=h3 w.f0 (by omega) (by omega) hz;exact ⟨this,.fwd w hm this⟩
      · have hz1 : bAt s w.f1 = true := by
          cases h0:bAt s w.f0 <;> cases h1:bAt s w.f1 <;> simp_all
        have:=h3 w.f1 (by omega) (by omega) hz1;exact ⟨.bwd w hm this,this⟩
    split at hb
    · rename_i h
      rcases h with e|e <;> subst e
      · exact hh.1
      · exact hh.2
    · exact h3 j h0 hj hb
/-- one Io of the reference over wires from place i on -/
theorem Nk {n : Int} {ws : List Wr} (hws : ∀ w ∈ ws, Bm n w) (hl : ws.length ≤ 1000) (r : Bool) : ∀ (t : List Wr) (i : Nat) (s : List Bool) (ag : Bool), ws.drop i = t → i + t.length = ws.length → Sn n ws s →
    (∀ s' ag',Sn n ws s'→s.countP id≤s'.countP id→(ag'=false→ag=false∧s'=s∧∀ w ∈ t,bAt s w.f0=bAt s w.f1)→(ag'=true→ag=true∨s.countP id<s'.countP id)→Ev (fun k=>Bc.l0 k s' ag' n ws) r) →
    Ev (fun k=>Bc.l1 k s ag ws (ws.length:Int) (i:Int) n ws) r
  | [],i,s,ag,_,hi,hs,h=>by
    simp only [List.length_nil] at hi
    refine Ev.succ ?_
    simp only [Bc.l1]
    exact Ev.neg (by omega) (h s ag hs (Nat.le_refl _) (fun e=>⟨e,rfl,fun w hw=>by cases hw⟩) (fun e=>Or.inl e))
  | w::t,i,s,ag,hd,hi,hs,h=>by
    obtain ⟨h1,h2,h3,h4,h5⟩:=El ws i w t hd
    have hw:=hws w h4
    have hw':=hw
    unfold Bm at hw'
    have hsl:=hs.1
    refine Ev.succ ?_
    simp only [Bc.l1,I0,h2,rd_b]
    refine Ev.pos (by omega) (Ev.pos (by omega) (Ev.pos (by omega) (Ev.pos (by omega) (Ev.pos (by omega) (Ev.pos (by omega) (Ev.pos (by omega) ?_))))))
    rw [Ap (n:=(i:Int)+1) (by omega) (by omega)]
    by_cases hne:bAt s w.f0=bAt s w.f1
    · refine Ev.neg (by simp [hne]) (Nk hws hl r t (i+1) s ag h3 (by omega) hs fun s' ag' q1 q2 q3 q4=>h s' ag' q1 q2 (fun e=>?_) q4)
      obtain ⟨a,b,c⟩:=q3 e
      refine ⟨a,b,fun x hx=>?_⟩
      rcases List.mem_cons.1 hx with rfl|hx
      · exact hne
      · exact c x hx
    · have lt:=Jx hsl hw hne
      refine Ev.pos (by simpa using hne) (Nk hws hl r t (i+1) (G0 s w) true h3 (by omega) (N2 hs hw h4 hne) fun s' ag' q1 q2 q3 q4=>h s' ag' q1 (by omega) (fun e=>?_) (fun e=>Or.inr (by omega)))
      exact absurd (q3 e).1 (by decide)
theorem spec_l2 (s:List Bool) (hl:s.length≤1000):∀ (d i:Nat),s.length-i=d→i≤s.length→∀ r:Bool,(r=true↔∀ j,i≤j→j<s.length→bAt s (j:Int)=true)→Ev (fun k=>Bc.l2 k s (s.length:Int) (i:Int)) r:=by
  intro d
  induction d with
  | zero =>
    intro i hd hi r hr
    refine Ev.succ ?_
    simp only [Bc.l2]
    refine Ev.neg (by omega) (Ev.eqr (Ev.now _) ?_)
    exact (hr.2 fun j h1 h2=>by omega).symm
  | succ d ih =>
    intro i hd hi r hr
    refine Ev.succ ?_
    simp only [Bc.l2,rd_b]
    refine Ev.pos (by omega) (Ev.pos (by omega) (Ev.pos (by omega) ?_))
    rw [Ap (by omega) (by omega)]
    by_cases hb:bAt s (i:Int)=true
    · refine Ev.pos hb (ih (i+1) (by omega) (by omega) r ?_)
      rw [hr]
      exact ⟨fun h j h1 h2=>h j (by omega) h2,fun h j h1 h2=>by
        by_cases e:i=j
        · subst e;exact hb
        · exact h j (by omega) h2⟩
    · refine Ev.neg hb (Ev.eqr (Ev.now _) ?_)
      cases hq:r with
      | false=>rfl
      | true=>exact absurd (hr.1 hq i (Nat.le_refl _) (by omega)) hb
open Classical in
theorem spec_l0 {n:Int} {ws:List Wr} (hn:1≤n∧n≤1000) (hws:∀ w ∈ ws,Bm n w) (hl:ws.length≤1000):∀ (d:Nat) (s:List Bool),Sn n ws s→s.length-s.countP id≤d→Ev (fun k=>Bc.l0 k s true n ws) (decide (Jb n ws)):=by
  have fin:∀ s,Sn n ws s→(∀ w ∈ ws,bAt s w.f0=bAt s w.f1)→Ev (fun k=>Bc.l0 k s false n ws) (decide (Jb n ws)):=by
    intro s hs hc
    have hsl:=hs.1
    refine Ev.succ ?_
    simp only [Bc.l0]
    refine Ev.neg (by decide) (spec_l2 s (by omega) s.length 0 (by omega) (Nat.zero_le _) _ ?_)
    rw [decide_eq_true_eq]
    constructor
    · intro h j _ hj
      have hr:=h (j:Int) (by omega) (by omega)
      have:∀ x,Ee ws x→0≤x∧x<n∧bAt s x=true:=by
        intro x hx
        induction hx with
        | zero=>exact ⟨by omega,by omega,hs.2.1⟩
        | fwd w hw _ ih=>have:=hws w hw;unfold Bm at this;exact ⟨by omega,by omega,by rw [← hc w hw];exact ih.2.2⟩
        | bwd w hw _ ih=>have:=hws w hw;unfold Bm at this;exact ⟨by omega,by omega,by rw [hc w hw];exact ih.2.2⟩
      exact (this _ hr).2.2
    · intro h j h0 h1
      have:=h j.toNat (Nat.zero_le _) (by omega)
      rw [show ((j.toNat:Nat):Int)=j by omega] at this
      exact hs.2.2 j h0 h1 this
  intro d
  induction d with
  | zero =>
    intro s hs hd
    have hcl:=List.countP_le_length (p:=id) (l:=s)
    have hsl:=hs.1
    refine Ev.succ ?_
    simp only [Bc.l0]
    refine Ev.pos trivial (Nk hws hl _ ws 0 s false rfl (by simp) hs fun s' ag' q1 q2 q3 q4=>?_)
    have hcl':=List.countP_le_length (p:=id) (l:=s')
    have hsl':=q1.1
    cases ag' with
    | false =>
      obtain ⟨_,b,c⟩:=q3 rfl
      subst b
      exact fin s' q1 c
    | true =>
      rcases q4 rfl with h|h
      · cases h
      · omega
  | succ d ih =>
    intro s hs hd
    have hsl:=hs.1
    refine Ev.succ ?_
    simp only [Bc.l0]
    refine Ev.pos trivial (Nk hws hl _ ws 0 s false rfl (by simp) hs fun s' ag' q1 q2 q3 q4=>?_)
    have hsl':=q1.1
    cases ag' with
    | false =>
      obtain ⟨_,b,c⟩:=q3 rfl
      subst b
      exact fin s' q1 c
    | true =>
      rcases q4 rfl with h|h
      · cases h
      · exact ih s' q1 (by omega)
open Classical in
theorem U0 {n:Int} {ws:List Wr} (hn:1≤n∧n≤1000) (hws:∀ w ∈ ws,Bm n w) (hl:ws.length≤1000):Ev (fun k=>Bc.f k n ws) (decide (Jb n ws)):=by
  unfold Bc.f
  refine Ev.pos (by omega) (Ev.pos (by omega) (Ev.bindc rfl (Ev.pos (by rw [List.length_replicate];omega) ?_)))
  refine spec_l0 hn hws hl _ _ ⟨by simp;omega,?_,fun j h0 h1 hb=>?_⟩ (Nat.le_refl _)
  · have:=Jp (List.replicate n.toNat false) 0 0 true (by omega) (by simp;omega) (by omega)
    rw [if_pos rfl] at this;exact this
  · have:=Jp (List.replicate n.toNat false) 0 j true (by omega) (by simp;omega) (by omega)
    have hb':bAt ((List.replicate n.toNat false).set (0:Int).toNat true) j=true:=hb
    rw [this] at hb'
    by_cases e:j=0
    · rw [e];exact .zero
    · rw [if_neg e] at hb'
      unfold bAt at hb'
      rw [List.getD_eq_getElem?_getD,List.getElem?_replicate] at hb'
      split at hb' <;> cases hb'
theorem neWire_eq {n:Int} (hn:2≤n∧n≤12) (ws:List Wr) (w:Wr):Eu.f n ws w.f0 w.f1=some (decide (Bm n w)):=by
  unfold Eu.f Bm
  rw [Ap (by omega) (by omega),K8,K8]
  by_cases c1:0≤w.f0∧w.f0≤n-1
  · by_cases c2:0≤w.f1∧w.f1≤n-1
    · by_cases c3:w.f0=w.f1
      · simp [c1,c2,c3]
      · simp [c1,c2,c3]
    · simp [c1,c2]
  · simp [c1]
theorem Jy {n : Int} {ws : List Wr} (hn : 2 ≤ n ∧ n ≤ 12) (hl : ws.length ≤ 30) (r : Bool) (hall : (∀ w ∈ ws, Bm n w) → Ev (fun k => Bc.f k n ws) r) (hbad : ¬ (∀ w ∈ ws, Bm n w) → r = false) : ∀ (t : List Wr) (i : Nat), ws.drop i = t → i + t.length = ws.length →
    ((∀ w ∈ t,Bm n w)→∀ w ∈ ws,Bm n w)→Ev (fun k=>Bi.l0 k ws (ws.length:Int) (i:Int) n ws) r
  | [],i,_,hi,h=>by
    simp only [List.length_nil] at hi
    refine Ev.succ ?_
    simp only [Bi.l0]
    exact Ev.neg (by omega) (Ev.bind (hall (h fun w hw=>by cases hw)) (Ev.now _))
  | w::t,i,hd,hi,h=>by
    obtain ⟨h1,h2,h3,h4,h5⟩:=El ws i w t hd
    refine Ev.succ ?_
    simp only [Bi.l0,I0,h2]
    refine Ev.pos (by omega) (Ev.pos (by omega) (Ev.pos (by omega) (Ev.bindc (neWire_eq hn ws w) ?_)))
    rw [Ap (n:=(i:Int)+1) (by omega) (by omega)]
    by_cases c:Bm n w
    · rw [decide_eq_true c]
      refine Ev.pos rfl (Jy hn hl r hall hbad t (i+1) h3 (by omega) fun ht=>h fun x hx=>?_)
      rcases List.mem_cons.1 hx with rfl|hx
      · exact c
      · exact ht x hx
    · rw [decide_eq_false c]
      exact Ev.neg (by decide) (Ev.eqr (Ev.now _) (hbad fun ha=>c (ha w h4)).symm)
theorem U1 {n:Int} {ws:List Wr} (hn:2≤n) (h:Jb n ws):ws≠[]:=by
  intro e
  subst e
  have:=h 1 (by omega) (by omega)
  generalize hx:(1:Int)=x at this
  cases this with
  | zero=>omega
  | fwd w hw _=>cases hw
  | bwd w hw _=>cases hw
open Classical in
theorem Er (n:Int) (ws:List Wr):Ev (fun k=>Bi.f k n ws) (decide (B1 n ws)):=by
  have fall:¬ B1 n ws→Ev (fun k=>Bi.j0 k true n ws) (decide (B1 n ws)):=fun h=>by
    rw [decide_eq_false h]
    refine Ev.succ ?_
    simp only [Bi.j0]
    exact Ev.pos trivial (Ev.now _)
  unfold Bi.f
  refine Ev.bindc (K8 _ _ _) ?_
  by_cases c1:2≤n∧n≤12
  · rw [decide_eq_true c1]
    refine Ev.pos rfl (Ev.bindc (K8 _ _ _) ?_)
    by_cases c2:1≤(ws.length:Int)∧(ws.length:Int)≤30
    · rw [decide_eq_true c2]
      refine Ev.succ ?_
      simp only [Bi.j0,Bool.not_true]
      refine Ev.neg (by decide) (Jy c1 (by omega) _ (fun ha=>?_) (fun hn=>decide_eq_false fun h=>hn h.2.2.1) ws 0 rfl (by simp) (fun h=>h))
      refine Ev.eqr (U0 ⟨by omega,by omega⟩ ha (by omega)) ?_
      exact decide_eq_decide.2 ⟨fun h=>⟨c1,by omega,ha,h⟩,fun h=>h.2.2.2⟩
    · rw [decide_eq_false c2]
      refine fall fun h=>?_
      have h1:=U1 c1.1 h.2.2.2
      have h2:=h.2.1
      have:0<ws.length:=List.length_pos_iff.2 h1
      omega
  · rw [decide_eq_false c1]
    exact Ev.neg (by decide) (fall fun h=>c1 h.1)

/-! ### the table of a net: the program's and the reference's are one -/
def Gx (M:List (List Int)) (i j:Int):List (List Int):=M.set i.toNat ((Af M i).set j.toNat (wrap64 ((rd (Af M i) j)+1)))
def dnAt (M:List (List Int)) (i j:Int):List (List Int):=M.set i.toNat ((Af M i).set j.toNat (wrap64 ((rd (Af M i) j)-1)))
def Di (m:Int) (M:List (List Int)) (w:Wr):List (List Int) :=
  if w.f1<m then (if w.f0<m then dnAt (dnAt (Gx (Gx M w.f0 w.f0) w.f1 w.f1) w.f0 w.f1) w.f1 w.f0 else Gx M w.f1 w.f1)
  else (if w.f0<m then Gx M w.f0 w.f0 else M)
def Sq (m:Int) (M:List (List Int)):Prop:=(M.length:Int)=m∧∀ j:Int,0≤j→j<m→((Af M j).length:Int)=m
theorem sq_set {m:Int} {M:List (List Int)} (hs:Sq m M) {i:Int} (h0:0≤i) (hi:i<m) {R:List Int} (hR:(R.length:Int)=m):Sq m (M.set i.toNat R):=by
  refine ⟨by rw [List.length_set];exact hs.1,fun j hj hj2=>?_⟩
  have h1:=hs.1
  have:=hs.2 j hj hj2
  unfold Af at this ⊢
  rw [Jv M i.toNat j.toNat R [] (by omega)]
  split
  · exact hR
  · exact this
theorem Kq {m:Int} {M:List (List Int)} (hs:Sq m M) {i:Int} (h0:0≤i) (hi:i<m) (j:Nat) (x:Int):Sq m (M.set i.toNat ((Af M i).set j x)) :=
  sq_set hs h0 hi (by rw [List.length_set];exact hs.2 i h0 hi)
theorem Nl {m:Int} {M:List (List Int)} (hs:Sq m M) {i:Int} (h0:0≤i) (hi:i<m) (j:Int):Sq m (Gx M i j):=Kq hs h0 hi _ _
theorem sq_dn {m:Int} {M:List (List Int)} (hs:Sq m M) {i:Int} (h0:0≤i) (hi:i<m) (j:Int):Sq m (dnAt M i j):=Kq hs h0 hi _ _
theorem Qu {m:Int} {M:List (List Int)} (hs:Sq m M) {w:Wr} (h0:0≤w.f0) (h1:0≤w.f1):Sq m (Di m M w):=by
  unfold Di
  split
  · split
    · exact sq_dn (sq_dn (Nl (Nl hs h0 (by assumption) _) h1 (by assumption) _) h0 (by assumption) _) h1 (by assumption) _
    · exact Nl hs h1 (by assumption) _
  · split
    · exact Nl hs h0 (by assumption) _
    · exact hs
def Z (m:Int):List Int:=List.replicate m.toNat 0
def lap (m:Int) (ws:List Wr):List (List Int):=ws.foldl (Di m) (List.replicate m.toNat (Z m))
theorem N3 {m:Int} (hm:1≤m):Sq m (List.replicate m.toNat (Z m)):=by
  refine ⟨by simp;omega,fun j h0 h1=>?_⟩
  unfold Af Z
  rw [List.getD_eq_getElem?_getD,List.getElem?_eq_getElem (by simp;omega)]
  simp;omega
theorem sq_fold {m:Int}:∀ (t:List Wr) (M:List (List Int)),(∀ w ∈ t,0≤w.f0∧0≤w.f1)→Sq m M→Sq m (t.foldl (Di m) M)
  | [],_,_,hs=>hs
  | w::t,M,hw,hs=>sq_fold t _ (fun q hq=>hw q (List.mem_cons_of_mem _ hq)) (Qu hs (hw w List.mem_cons_self).1 (hw w List.mem_cons_self).2)
theorem Mz {m:Int} (hm:1≤m) {ws:List Wr} (hw:∀ w ∈ ws,0≤w.f0∧0≤w.f1):Sq m (lap m ws):=sq_fold ws _ hw (N3 hm)
theorem U2 {m : Int} (c : Int) (hm : 1 ≤ m ∧ m ≤ 1000) (ws : List Wr) (hl : ws.length ≤ 1000) (hws : ∀ w ∈ ws, 0 ≤ w.f0 ∧ 0 ≤ w.f1) (r : List (List Int)) : ∀ (t : List Wr) (i : Nat) (M : List (List Int)), ws.drop i = t → i + t.length = ws.length → Sq m M →
    Ev (fun k=>if c≥0 then Am.l2 k c (t.foldl (Di m) M) ((t.foldl (Di m) M).length:Int) 0 else some (t.foldl (Di m) M)) r →
    Ev (fun k=>Am.l1 k m c M ws (ws.length:Int) (i:Int)) r:=by
  intro t
  induction t with
  | nil =>
    intro i M hd hi hs hr
    refine Ev.succ ?_
    simp only [Am.l1]
    simp only [List.length_nil] at hi
    exact Ev.neg (by omega) hr
  | cons w t ih =>
    intro i M hd hi hs hr
    obtain ⟨h1,h2,h3,h4,_⟩:=El ws i w t hd
    obtain ⟨g0,g1⟩:=hws w h4
    have hl1:=hs.1
    simp only [List.length_cons] at hi
    refine Ev.succ ?_
    simp only [Am.l1]
    refine Ev.pos (by omega) (Ev.pos (by omega) (Ev.pos (by omega) ?_))
    rw [I0,h2]
    rw [List.foldl_cons] at hr
    have hgo:∀ M',Di m M w=M'→Ev (fun k=>Am.l1 k m c M' ws (ws.length:Int) (wrap64 ((i:Int)+1))) r:=by
      intro M' e
      rw [Ap (n:=(i:Int)+1) (by omega) (by omega)]
      rw [e] at hr
      exact ih (i+1) M' h3 (by omega) (e ▸ Qu hs g0 g1) hr
    unfold Di at hgo
    by_cases a:w.f0<m
    · refine Ev.pos a (Ev.pos g0 (Ev.pos (by omega) (Ev.pos (by rw [hs.2 _ g0 a];exact a) ?_)))
      have s1:=Nl hs g0 a w.f0
      refine Ev.succ ?_
      simp only [Am.j2]
      have hl2:=s1.1
      unfold Gx at hl2 s1
      by_cases b:w.f1<m
      · refine Ev.pos b (Ev.pos g1 (Ev.pos (by omega) (Ev.pos (by rw [s1.2 _ g1 b];exact b) (Ev.bindc rfl ?_))))
        have s2:=Kq s1 g1 b w.f1.toNat (wrap64 ((rd (Af (M.set w.f0.toNat ((Af M w.f0).set w.f0.toNat (wrap64 (rd (Af M w.f0) w.f0+1)))) w.f1) w.f1)+1))
        refine Ev.pos a (Ev.pos g0 (Ev.pos (by omega) (Ev.pos (by rw [s2.2 _ g0 a];exact b) (Ev.bindc rfl ?_))))
        refine Ev.pos (by rw [(Kq s2 g0 a _ _).2 _ g1 b];exact a) ?_
        exact hgo _ (by rw [if_pos b,if_pos a];rfl)
      · exact Ev.neg b (Ev.pos a (hgo _ (by rw [if_neg b,if_pos a];rfl)))
    · refine Ev.neg a ?_
      refine Ev.succ ?_
      simp only [Am.j2]
      by_cases b:w.f1<m
      · refine Ev.pos b (Ev.pos g1 (Ev.pos (by omega) (Ev.pos (by rw [hs.2 _ g1 b];exact b) (Ev.bindc rfl ?_))))
        exact Ev.neg a (hgo _ (by rw [if_pos b,if_neg a];rfl))
      · exact Ev.neg b (Ev.neg a (hgo _ (by rw [if_neg b,if_neg a])))
theorem U3 {n m : Int} (hm : 1 ≤ m ∧ m ≤ 1000) (hn : wrap64 (n - 1) = m) (ws : List Wr) (hl : ws.length ≤ 1000) (hws : ∀ w ∈ ws, 0 ≤ w.f0 ∧ 0 ≤ w.f1) : ∀ (t : List Wr) (i : Nat) (M : List (List Int)), ws.drop i = t → i + t.length = ws.length → Sq m M →
    Ev (fun k=>Ad.l1 k M ws (ws.length:Int) (i:Int) n ws) (t.foldl (Di m) M):=by
  intro t
  induction t with
  | nil =>
    intro i M hd hi hs
    refine Ev.succ ?_
    simp only [Ad.l1]
    simp only [List.length_nil] at hi
    exact Ev.neg (by omega) (Ev.now _)
  | cons w t ih =>
    intro i M hd hi hs
    obtain ⟨h1,h2,h3,h4,_⟩:=El ws i w t hd
    obtain ⟨g0,g1⟩:=hws w h4
    have hl1:=hs.1
    simp only [List.length_cons] at hi
    refine Ev.succ ?_
    simp only [Ad.l1]
    refine Ev.pos (by omega) (Ev.pos (by omega) (Ev.pos (by omega) ?_))
    rw [I0,h2,hn]
    rw [List.foldl_cons]
    have hgo:∀ M',Di m M w=M'→Ev (fun k=>Ad.l1 k M' ws (ws.length:Int) (wrap64 ((i:Int)+1)) n ws) (t.foldl (Di m) (Di m M w)):=by
      intro M' e
      rw [Ap (n:=(i:Int)+1) (by omega) (by omega)]
      rw [e]
      exact ih (i+1) M' h3 (by omega) (e ▸ Qu hs g0 g1)
    generalize t.foldl (Di m) (Di m M w)=r at hgo ⊢
    unfold Di at hgo
    by_cases a:w.f0<m
    · refine Ev.pos a (Ev.pos g0 (Ev.pos (by omega) (Ev.pos (by rw [hs.2 _ g0 a];exact a) ?_)))
      have s1:=Nl hs g0 a w.f0
      refine Ev.succ ?_
      simp only [Ad.j2]
      have hl2:=s1.1
      unfold Gx at hl2 s1
      by_cases b:w.f1<m
      · refine Ev.pos b (Ev.pos g1 (Ev.pos (by omega) (Ev.pos (by rw [s1.2 _ g1 b];exact b) (Ev.bindc rfl ?_))))
        have s2:=Kq s1 g1 b w.f1.toNat (wrap64 ((rd (Af (M.set w.f0.toNat ((Af M w.f0).set w.f0.toNat (wrap64 (rd (Af M w.f0) w.f0+1)))) w.f1) w.f1)+1))
        refine Ev.pos a (Ev.pos g0 (Ev.pos (by omega) (Ev.pos (by rw [s2.2 _ g0 a];exact b) (Ev.bindc rfl ?_))))
        refine Ev.pos (by rw [(Kq s2 g0 a _ _).2 _ g1 b];exact a) ?_
        exact hgo _ (by rw [if_pos b,if_pos a];rfl)
      · exact Ev.neg b (Ev.pos a (hgo _ (by rw [if_neg b,if_pos a];rfl)))
    · refine Ev.neg a ?_
      refine Ev.succ ?_
      simp only [Ad.j2]
      by_cases b:w.f1<m
      · refine Ev.pos b (Ev.pos g1 (Ev.pos (by omega) (Ev.pos (by rw [hs.2 _ g1 b];exact b) (Ev.bindc rfl ?_))))
        exact Ev.neg a (hgo _ (by rw [if_pos b,if_neg a];rfl))
      · exact Ev.neg b (Ev.neg a (hgo _ (by rw [if_neg b,if_neg a])))
def Gy (m:Int) (i:Nat):List (List Int):=List.replicate i (Z m)++List.replicate (m.toNat-i) []
theorem R8 (m:Int) (i:Nat) (h:i<m.toNat):(Gy m i).set i (Z m)=Gy m (i+1):=by
  unfold Gy
  rw [List.set_append_right _ _ (by simp),List.length_replicate,Nat.sub_self,List.replicate_succ',List.append_assoc]
  congr 1
  obtain ⟨q,hq⟩:∃ q,m.toNat-i=q+1:=⟨m.toNat-i-1,by omega⟩
  rw [hq,show m.toNat-(i+1)=q by omega,List.replicate_succ]
  rfl
theorem R9 (m:Int) (i:Nat) (h:i≤m.toNat):(Gy m i).length=m.toNat:=by unfold Gy;simp;omega
theorem U4 {m : Int} (c n : Int) (hm : 1 ≤ m ∧ m ≤ 1000) (ws : List Wr) (r : List (List Int)) (h : Ev (fun k => Am.l1 k m c (List.replicate m.toNat (Z m)) ws (ws.length : Int) 0) r) : ∀ (d i : Nat), m.toNat - i = d → i ≤ m.toNat →
    Ev (fun k=>Am.l0 k m c (Gy m i) (m.toNat:Int) (i:Int) n ws) r:=by
  intro d
  induction d with
  | zero =>
    intro i hd hi
    refine Ev.succ ?_
    simp only [Am.l0]
    refine Ev.neg (by omega) ?_
    have e:Gy m i=List.replicate m.toNat (Z m):=by unfold Gy;rw [show i=m.toNat by omega];simp
    rw [e];exact h
  | succ d ih =>
    intro i hd hi
    refine Ev.succ ?_
    simp only [Am.l0]
    have hl:=R9 m i hi
    refine Ev.pos (by omega) (Ev.pos (by omega) (Ev.pos (by omega) (Ev.pos (by omega) (Ev.pos (by omega) ?_))))
    rw [Ap (n:=(i:Int)+1) (by omega) (by omega),Int.toNat_natCast,show List.replicate m.toNat 0=Z m from rfl,R8 m i (by omega)]
    exact ih (i+1) (by omega) (by omega)
theorem U5 {n m : Int} (hm : 1 ≤ m ∧ m ≤ 1000) (hn : wrap64 (n - 1) = m) (ws : List Wr) (r : List (List Int)) (h : Ev (fun k => Ad.l1 k (List.replicate m.toNat (Z m)) ws (ws.length : Int) 0 n ws) r) : ∀ (d i : Nat), m.toNat - i = d → i ≤ m.toNat →
    Ev (fun k=>Ad.l0 k (Gy m i) (m.toNat:Int) (i:Int) n ws) r:=by
  intro d
  induction d with
  | zero =>
    intro i hd hi
    refine Ev.succ ?_
    simp only [Ad.l0]
    refine Ev.neg (by omega) ?_
    have e:Gy m i=List.replicate m.toNat (Z m):=by unfold Gy;rw [show i=m.toNat by omega];simp
    rw [e];exact h
  | succ d ih =>
    intro i hd hi
    refine Ev.succ ?_
    simp only [Ad.l0]
    rw [hn]
    have hl:=R9 m i hi
    refine Ev.pos (by omega) (Ev.pos (by omega) (Ev.pos (by omega) (Ev.pos (by omega) (Ev.pos (by omega) ?_))))
    rw [Ap (n:=(i:Int)+1) (by omega) (by omega),Int.toNat_natCast,show List.replicate m.toNat 0=Z m from rfl,R8 m i (by omega)]
    exact ih (i+1) (by omega) (by omega)
theorem Re (m:Int):Gy m 0=List.replicate m.toNat []:=by unfold Gy;simp
theorem M0 {n:Int} (hn:2≤n∧n≤1000) (ws:List Wr) (hl:ws.length≤1000) (hws:∀ w ∈ ws,0≤w.f0∧0≤w.f1):Ev (fun k=>Ad.f k n ws) (lap (n-1) ws):=by
  have hw:wrap64 (n-1)=n-1:=Ap (n:=n-1) (by omega) (by omega)
  unfold Ad.f
  rw [hw]
  refine Ev.pos (by omega) (Ev.pos (by omega) (Ev.bindc rfl ?_))
  have h:=U5 (n:=n) (m:=n-1) (by omega) hw ws (lap (n-1) ws) (U3 (by omega) hw ws hl hws ws 0 _ rfl (by omega) (N3 (by omega))) (n-1).toNat 0 (by omega) (by omega)
  rw [Re] at h
  rw [List.length_replicate]
  exact h
theorem N4 {n:Int} (hn:2≤n∧n≤1000) (ws:List Wr) (hl:ws.length≤1000) (hws:∀ w ∈ ws,0≤w.f0∧0≤w.f1) (c:Int) (r:List (List Int)) (hr:Ev (fun k=>if c≥0 then Am.l2 k c (lap (n-1) ws) ((lap (n-1) ws).length:Int) 0 else some (lap (n-1) ws)) r):Ev (fun k=>Am.f k n ws (n-1) c) r:=by
  unfold Am.f
  refine Ev.pos (by omega) (Ev.pos (by omega) (Ev.bindc rfl ?_))
  have h:=U4 (m:=n-1) c n (by omega) ws r (U2 c (by omega) ws hl hws r ws 0 _ rfl (by omega) (N3 (by omega)) hr) (n-1).toNat 0 (by omega) (by omega)
  rw [Re] at h
  rw [List.length_replicate]
  exact h
theorem Jz {m:Int} (hm:1≤m) {M:List (List Int)} (hs:Sq m M):Jh M=some ((Jh M).getD 0):=by
  unfold Jh
  rw [if_pos]
  · rfl
  refine ⟨fun e=>by have:=hs.1;rw [e] at this;simp at this;omega,fun R hR=>?_⟩
  obtain ⟨j,hj,rfl⟩:=List.mem_iff_getElem.1 hR
  have h1:=hs.1
  have h:=hs.2 (j:Int) (by omega) (by omega)
  unfold Af at h
  rw [Int.toNat_natCast,List.getD_eq_getElem?_getD,List.getElem?_eq_getElem hj] at h
  simp only [Option.getD_some] at h
  omega
def det (M:List (List Int)):Int:=(Jh M).getD 0

/-! ### potentials: the table with the first pole's column, for each node -/
def G5 (c:Nat) (j:Nat) (R:List Int):List Int:=R.set c (if j=0 then 1 else 0)
def En (F:Nat→List Int→List Int) (M:List (List Int)) (i:Nat):List (List Int):=M.mapIdx (fun j R=>if j<i then F j R else R)
theorem Gp (F:Nat→List Int→List Int) (M:List (List Int)) (i q:Nat):(En F M i)[q]? = (M[q]?).map (fun R=>if q<i then F q R else R):=by unfold En;rw [List.getElem?_mapIdx]
theorem Ia (F:Nat→List Int→List Int) (M:List (List Int)) (i:Nat):(En F M i).length=M.length:=by unfold En;simp
theorem Qc (F:Nat→List Int→List Int) (M:List (List Int)):En F M 0=M:=by
  apply List.ext_getElem?
  intro q
  rw [Gp]
  simp
theorem Rf (F:Nat→List Int→List Int) (M:List (List Int)) (i:Nat):(En F M i).getD i []=M.getD i []:=by
  rw [List.getD_eq_getElem?_getD,Gp,List.getD_eq_getElem?_getD]
  simp
theorem Rg (F:Nat→List Int→List Int) (M:List (List Int)) (i:Nat) (h:i<M.length):(En F M i).set i (F i (M.getD i []))=En F M (i+1):=by
  apply List.ext_getElem?
  intro q
  rw [List.getElem?_set,Gp,Gp,Ia]
  by_cases hq:i=q
  · subst hq
    rw [if_pos rfl,if_pos h,List.getElem?_eq_getElem h,List.getD_eq_getElem?_getD,List.getElem?_eq_getElem h]
    simp
  · rw [if_neg hq]
    congr 1
    funext R
    by_cases hlt:q<i
    · rw [if_pos hlt,if_pos (by omega)]
    · rw [if_neg hlt,if_neg (by omega)]
theorem Jl {m:Int} {F:Nat→List Int→List Int} (hF:∀ j R,(F j R).length=R.length) {M:List (List Int)} (hs:Sq m M) (i:Nat):Sq m (En F M i):=by
  refine ⟨by rw [Ia];exact hs.1,fun j h0 h1=>?_⟩
  have h:=hs.2 j h0 h1
  have hl:=hs.1
  unfold Af at h ⊢
  rw [List.getD_eq_getElem?_getD,Gp,List.getElem?_eq_getElem (by omega)]
  rw [List.getD_eq_getElem?_getD,List.getElem?_eq_getElem (by omega)] at h
  simp only [Option.getD_some,Option.map_some] at h ⊢
  split
  · rw [hF];exact h
  · exact h
theorem spec_col {m : Int} (hm : 1 ≤ m ∧ m ≤ 1000) (c : Nat) (hc : (c : Int) < m) {M : List (List Int)} (hs : Sq m M) : ∀ (d i : Nat), M.length - i = d → i ≤ M.length →
    Ev (fun k=>Am.l2 k (c:Int) (En (fun _ R=>R.set c 0) M i) (M.length:Int) (i:Int)) (En (G5 c) M M.length):=by
  have hl:=hs.1
  intro d
  induction d with
  | zero =>
    intro i hd hi
    have hi2:i=M.length:=by omega
    subst hi2
    have hr:=Jl (F:=fun _ R=>R.set c 0) (fun j R=>by simp) hs M.length
    refine Ev.succ ?_
    simp only [Am.l2]
    refine Ev.neg (by omega) (Ev.pos (by rw [Ia];omega) (Ev.pos (by omega) (Ev.pos (by rw [hr.2 0 (by omega) (by omega)];exact hc) (Ev.eqr (Ev.now _) ?_))))
    apply List.ext_getElem?
    intro q
    unfold Af
    rw [List.getElem?_set,Ia,Gp,Gp,List.getD_eq_getElem?_getD,Gp,Int.toNat_natCast,show (0:Int).toNat=0 from rfl]
    by_cases hq:q=0
    · subst hq
      rw [if_pos rfl,if_pos (by omega),List.getElem?_eq_getElem (show 0<M.length by omega)]
      simp [G5,show 0<M.length by omega]
    · rw [if_neg (by omega)]
      congr 1
      funext R
      by_cases hlt:q<M.length
      · rw [if_pos hlt,if_pos hlt]
        simp [G5,hq]
      · rw [if_neg hlt,if_neg hlt]
  | succ d ih =>
    intro i hd hi
    have hr:=Jl (F:=fun _ R=>R.set c 0) (fun j R=>by simp) hs i
    refine Ev.succ ?_
    simp only [Am.l2]
    refine Ev.pos (by omega) (Ev.pos (by omega) (Ev.pos (by rw [Ia];omega) (Ev.pos (by omega) (Ev.pos (by rw [hr.2 _ (by omega) (by omega)];exact hc) ?_))))
    rw [Ap (n:=(i:Int)+1) (by omega) (by omega),Int.toNat_natCast,Int.toNat_natCast,show Af (En (fun _ R=>R.set c 0) M i) (i:Int)=M.getD i [] by unfold Af;rw [Int.toNat_natCast];exact Rf _ _ _,Rg (fun _ R=>R.set c 0) M i (by omega)]
    exact ih (i+1) (by omega) (by omega)
def pot (n:Int) (ws:List Wr) (c:Nat):Int:=det (En (G5 c) (lap (n-1) ws) (lap (n-1) ws).length)
def Ji (n:Int) (ws:List Wr):Nat→List Int
  | 0=>[]
  | i+1=>Ji n ws i++[pot n ws i]
theorem E7 (n:Int) (ws:List Wr):∀ i,(Ji n ws i).length=i
  | 0=>rfl
  | i+1=>by rw [Ji,List.length_append,E7 n ws i];rfl
theorem col_sq {m:Int} {M:List (List Int)} (hs:Sq m M) (c:Nat):Sq m (En (G5 c) M M.length):=Jl (fun j R=>by unfold G5;simp) hs _
theorem spec_pots {n : Int} (hn : 2 ≤ n ∧ n ≤ 1000) (ws : List Wr) (hl : ws.length ≤ 1000) (hws : ∀ w ∈ ws, 0 ≤ w.f0 ∧ 0 ≤ w.f1) : ∀ (d i : Nat), (n - 1).toNat - i = d → i ≤ (n - 1).toNat →
    Ev (fun k=>Bu.l0 k (Ji n ws i) (i:Int) n ws) (Ji n ws (n-1).toNat++[0]):=by
  have hs:=Mz (m:=n-1) (by omega) hws
  have hll:=hs.1
  intro d
  induction d with
  | zero =>
    intro i hd hi
    have hi2:i=(n-1).toNat:=by omega
    subst hi2
    refine Ev.succ ?_
    simp only [Bu.l0]
    rw [Ap (n:=n-1) (by omega) (by omega)]
    exact Ev.neg (by omega) (Ev.pos (by rw [E7];omega) (Ev.now _))
  | succ d ih =>
    intro i hd hi
    refine Ev.succ ?_
    simp only [Bu.l0]
    rw [Ap (n:=n-1) (by omega) (by omega)]
    refine Ev.pos (by omega) ?_
    refine Ev.bind (N4 hn ws hl hws (i:Int) (En (G5 i) (lap (n-1) ws) (lap (n-1) ws).length) (Ev.pos (by omega) ?_)) ?_
    · have h:=spec_col (m:=n-1) (by omega) i (by omega) hs (lap (n-1) ws).length 0 (by omega) (by omega)
      rw [Qc] at h
      exact h
    · refine Ev.bindc (Jz (m:=n-1) (by omega) (col_sq hs i)) ?_
      refine Ev.pos (by rw [E7];omega) ?_
      rw [Ap (n:=(i:Int)+1) (by omega) (by omega)]
      exact ih (i+1) (by omega) (by omega)
theorem bit_eq (i:Nat):G9.f ((i:Int)==0)=some (if i=0 then 1 else 0):=by
  unfold G9.f
  by_cases h:i=0
  · subst h;simp
  · rw [if_neg (by simp;exact h),if_neg h]
theorem impl_col {n m : Int} (hm : 1 ≤ m ∧ m ≤ 1000) (ws : List Wr) (c : Nat) (hc : (c : Int) < m) {M : List (List Int)} (hs : Sq m M) (x3 : List Int) (h3 : x3.length ≤ 1000) (b : Int) (r : List Int) (hr : Ev (fun k => As.l0 k (x3 ++ [det (En (G5 c) M M.length)]) b (wrap64 ((c : Int) + 1)) n ws) r) : ∀ (d i : Nat), M.length - i = d → i ≤ M.length →
    Ev (fun k=>As.l1 k x3 (c:Int) (En (G5 c) M i) b (c:Int) (M.length:Int) (i:Int) n ws) r:=by
  have hl:=hs.1
  intro d
  induction d with
  | zero =>
    intro i hd hi
    have hi2:i=M.length:=by omega
    subst hi2
    refine Ev.succ ?_
    simp only [As.l1]
    refine Ev.neg (by omega) ?_
    refine Ev.bindc (Jz (m:=m) (by omega) (col_sq hs c)) ?_
    exact Ev.pos (by omega) hr
  | succ d ih =>
    intro i hd hi
    have hr2:=Jl (F:=G5 c) (fun j R=>by unfold G5;simp) hs i
    refine Ev.succ ?_
    simp only [As.l1]
    refine Ev.pos (by omega) (Ev.pos (by omega) (Ev.pos (by rw [Ia];omega) (Ev.bindc (bit_eq i) (Ev.pos (by omega) (Ev.pos (by rw [hr2.2 _ (by omega) (by omega)];exact hc) ?_)))))
    rw [Ap (n:=(i:Int)+1) (by omega) (by omega),Int.toNat_natCast,Int.toNat_natCast,show Af (En (G5 c) M i) (i:Int)=M.getD i [] by unfold Af;rw [Int.toNat_natCast];exact Rf _ _ _]
    have e:=Rg (G5 c) M i (by omega)
    rw [show G5 c i (M.getD i [])=(M.getD i []).set c (if i=0 then 1 else 0) from rfl] at e
    rw [e]
    exact ih (i+1) (by omega) (by omega)
theorem impl_pots {n : Int} (hn : 2 ≤ n ∧ n ≤ 1000) (ws : List Wr) (hl : ws.length ≤ 1000) (hws : ∀ w ∈ ws, 0 ≤ w.f0 ∧ 0 ≤ w.f1) : ∀ (d i : Nat), (n - 1).toNat - i = d → i ≤ (n - 1).toNat →
    Ev (fun k=>As.l0 k (Ji n ws i) (n-1) (i:Int) n ws) (Ji n ws (n-1).toNat++[0]):=by
  have hs:=Mz (m:=n-1) (by omega) hws
  have hll:=hs.1
  intro d
  induction d with
  | zero =>
    intro i hd hi
    have hi2:i=(n-1).toNat:=by omega
    subst hi2
    refine Ev.succ ?_
    simp only [As.l0]
    exact Ev.neg (by omega) (Ev.pos (by rw [E7];omega) (Ev.now _))
  | succ d ih =>
    intro i hd hi
    refine Ev.succ ?_
    simp only [As.l0]
    refine Ev.pos (by omega) ?_
    refine Ev.bind (M0 hn ws hl hws) ?_
    have h:=impl_col (n:=n) (m:=n-1) (by omega) ws i (by omega) hs (Ji n ws i) (by rw [E7];omega) (n-1) (Ji n ws (n-1).toNat++[0]) (by
      rw [Ap (n:=(i:Int)+1) (by omega) (by omega)]
      exact ih (i+1) (by omega) (by omega)) (lap (n-1) ws).length 0 (by omega) (by omega)
    rw [Qc] at h
    exact h
def Ba (n:Int) (ws:List Wr):List Int:=Ji n ws (n-1).toNat++[0]
theorem Gd {n:Int} (hn:2≤n) (ws:List Wr):((Ba n ws).length:Int)=n:=by unfold Ba;rw [List.length_append,E7];simp;omega
theorem G7 {n:Int} (hn:2≤n∧n≤1000) (ws:List Wr) (hl:ws.length≤1000) (hws:∀ w ∈ ws,0≤w.f0∧0≤w.f1):Ev (fun k=>Bu.f k n ws) (Ba n ws):=spec_pots hn ws hl hws (n-1).toNat 0 (by omega) (by omega)
theorem Ry {n:Int} (hn:2≤n∧n≤1000) (ws:List Wr) (hl:ws.length≤1000) (hws:∀ w ∈ ws,0≤w.f0∧0≤w.f1):Ev (fun k=>As.f k n ws) (Ba n ws):=by
  unfold As.f
  rw [Ap (n:=n-1) (by omega) (by omega)]
  exact impl_pots hn ws hl hws (n-1).toNat 0 (by omega) (by omega)
open Classical in
noncomputable def Du (n:Int) (ws:List Wr):List Int×Bool:=if B1 n ws then (Ba n ws,true) else ([],false)
theorem G1 (n:Int) (ws:List Wr):Ev (fun k=>Co.f k n ws) (Du n ws):=by
  unfold Co.f Du
  refine Ev.bind (Gl n ws) ?_
  by_cases h:B1 n ws
  · rw [if_pos h]
    have hw:∀ w ∈ ws,0≤w.f0∧0≤w.f1:=fun w hq=>⟨(h.2.2.1 w hq).1.1,(h.2.2.1 w hq).2.1.1⟩
    have h1:=h.1;have h2:=h.2.1
    exact Ev.pos (by simpa using h) (Ev.bind (Ry (n:=n) (by omega) ws (by omega) hw) (Ev.now _))
  · rw [if_neg h]
    exact Ev.neg (by simpa using h) (Ev.now _)
theorem N5 (n:Int) (ws:List Wr):(Du n ws).1.length≤12:=by
  unfold Du;split
  · rename_i h
    have h1:=Gd (n:=n) (by have:=h.1;omega) ws
    have:=h.1
    dsimp only;omega
  · simp

/-! ### currents: the potentials' differences along the wires -/
def cur (p:List Int) (w:Wr):Int:=wrap64 ((rd p w.f0)-(rd p w.f1))
def Dm (n:Int) (ws:List Wr):List Int:=ws.map (cur (Ba n ws))
theorem U6 {n : Int} (p : List Int) (hp : (p.length : Int) = n) (l : List Wr) (hw : ∀ w ∈ l, Bm n w) (hl : l.length ≤ 1000) : ∀ (t : List Wr) (i : Nat) (a : List Int), l.drop i = t → i + t.length = l.length → a = (l.take i).map (cur p) →
    Ev (fun k=>Bp.l0 k p a l (l.length:Int) (i:Int)) (l.map (cur p)):=by
  intro t
  induction t with
  | nil =>
    intro i a hd hi ha
    refine Ev.succ ?_
    simp only [Bp.l0]
    simp only [List.length_nil] at hi
    refine Ev.neg (by omega) (Ev.eqr (Ev.now _) ?_)
    rw [ha,List.take_of_length_le (by omega)]
  | cons w t ih =>
    intro i a hd hi ha
    obtain ⟨h1,h2,h3,h4,_⟩:=El l i w t hd
    obtain ⟨⟨g0,g1⟩,⟨g2,g3⟩,_⟩:=hw w h4
    have hal:a.length=i:=by rw [ha];simp;omega
    refine Ev.succ ?_
    simp only [Bp.l0]
    refine Ev.pos (by omega) (Ev.pos (by omega) (Ev.pos (by omega) ?_))
    rw [I0,h2]
    refine Ev.pos (by omega) (Ev.pos (by omega) (Ev.pos (by omega) (Ev.pos (by omega) (Ev.pos (by omega) ?_))))
    rw [Ap (n:=(i:Int)+1) (by omega) (by omega)]
    refine ih (i+1) _ h3 (by simp only [List.length_cons] at hi;omega) ?_
    rw [ha]
    have e:l.take (i+1)=l.take i++[w]:=by
      rw [List.take_add_one,List.getElem?_eq_getElem h1,← h2,I6 l i h1];rfl
    rw [e,List.map_append];rfl
theorem U7 {n : Int} (p : List Int) (hp : (p.length : Int) = n) (l : List Wr) (hw : ∀ w ∈ l, Bm n w) (hl : l.length ≤ 1000) : ∀ (t : List Wr) (i : Nat) (a : List Int), l.drop i = t → i + t.length = l.length → a = (l.take i).map (cur p) →
    Ev (fun k=>Bf.l0 k p a l (l.length:Int) (i:Int)) (l.map (cur p),true):=by
  intro t
  induction t with
  | nil =>
    intro i a hd hi ha
    refine Ev.succ ?_
    simp only [Bf.l0]
    simp only [List.length_nil] at hi
    refine Ev.neg (by omega) (Ev.eqr (Ev.now _) ?_)
    rw [ha,List.take_of_length_le (by omega)]
  | cons w t ih =>
    intro i a hd hi ha
    obtain ⟨h1,h2,h3,h4,_⟩:=El l i w t hd
    obtain ⟨⟨g0,g1⟩,⟨g2,g3⟩,_⟩:=hw w h4
    have hal:a.length=i:=by rw [ha];simp;omega
    refine Ev.succ ?_
    simp only [Bf.l0]
    refine Ev.pos (by omega) (Ev.pos (by omega) (Ev.pos (by omega) ?_))
    rw [I0,h2]
    refine Ev.pos (by omega) (Ev.pos (by omega) (Ev.pos (by omega) (Ev.pos (by omega) (Ev.pos (by omega) ?_))))
    rw [Ap (n:=(i:Int)+1) (by omega) (by omega)]
    refine ih (i+1) _ h3 (by simp only [List.length_cons] at hi;omega) ?_
    rw [ha]
    have e:l.take (i+1)=l.take i++[w]:=by
      rw [List.take_add_one,List.getElem?_eq_getElem h1,← h2,I6 l i h1];rfl
    rw [e,List.map_append];rfl
open Classical in
noncomputable def D3 (n:Int) (ws:List Wr):List Int×Bool:=if B1 n ws then (Dm n ws,true) else ([],false)
theorem Ib (n:Int) (ws:List Wr):Ev (fun k=>Bf.f k n ws) (D3 n ws):=by
  unfold Bf.f D3
  refine Ev.bind (G1 n ws) ?_
  unfold Du
  by_cases h:B1 n ws
  · rw [if_pos h,if_pos h]
    have h1:=h.1;have h2:=h.2.1
    exact Ev.pos rfl (U7 (n:=n) (Ba n ws) (Gd (by omega) ws) ws h.2.2.1 (by omega) ws 0 [] rfl (by omega) rfl)
  · rw [if_neg h,if_neg h]
    exact Ev.neg (by simp) (Ev.now _)
theorem Mo {n:Int} {ws:List Wr} (h:B1 n ws):Ev (fun k=>Bp.f k n ws) (Dm n ws):=by
  have hw:∀ w ∈ ws,0≤w.f0∧0≤w.f1:=fun w hq=>⟨(h.2.2.1 w hq).1.1,(h.2.2.1 w hq).2.1.1⟩
  have h1:=h.1;have h2:=h.2.1
  unfold Bp.f
  exact Ev.bind (G7 (n:=n) (by omega) ws (by omega) hw) (U6 (n:=n) (Ba n ws) (Gd (by omega) ws) ws h.2.2.1 (by omega) ws 0 [] rfl (by omega) rfl)
theorem Qv (n:Int) (ws:List Wr):(D3 n ws).1.length≤30:=by
  unfold D3;split
  · rename_i h
    have:=h.2.1
    dsimp only;unfold Dm;rw [List.length_map];exact this
  · simp

/-! ### greatest common divisors -/
theorem Kr:∀ (n m:Nat),Ev (fun k=>Cp.l0 k (m:Int) (n:Int)) ((Nat.gcd m n:Nat):Int):=by
  intro n
  induction n using Nat.strongRecOn with
  | _ n ih =>
    intro m
    refine Ev.succ ?_
    simp only [Cp.l0]
    by_cases h:n=0
    · subst h
      refine Ev.neg (by omega) (Ev.eqr (Ev.now _) ?_)
      rw [Nat.gcd_zero_right]
    · refine Ev.pos (by omega) (Ev.neg (by omega) ?_)
      rw [← Int.ofNat_tmod]
      have:=ih (m%n) (Nat.mod_lt _ (by omega)) n
      rw [Nat.gcd_comm m n,Nat.gcd_rec n m,Nat.gcd_comm]
      exact this
theorem Ks:∀ (n m:Nat),Ev (fun k=>Cl.l0 k (m:Int) (n:Int)) ((Nat.gcd m n:Nat):Int):=by
  intro n
  induction n using Nat.strongRecOn with
  | _ n ih =>
    intro m
    refine Ev.succ ?_
    simp only [Cl.l0]
    by_cases h:n=0
    · subst h
      refine Ev.neg (by omega) (Ev.eqr (Ev.now _) ?_)
      rw [Nat.gcd_zero_right]
    · refine Ev.pos (by omega) (Ev.neg (by omega) ?_)
      rw [← Int.ofNat_tmod]
      have:=ih (m%n) (Nat.mod_lt _ (by omega)) n
      rw [Nat.gcd_comm m n,Nat.gcd_rec n m,Nat.gcd_comm]
      exact this

/-! ### cells of a table -/
theorem dPut_lenB (M:List (List Int)) (i j:Nat) (x:Int):(Gg M i j x).length=M.length:=by simp [Gg]
theorem dPut_rowB (M:List (List Int)) (i j:Nat) (x:Int) (q:Nat):((Gg M i j x).getD q []).length=(M.getD q []).length:=by
  unfold Gg
  simp only [List.getD_eq_getElem?_getD,List.getElem?_set]
  by_cases hq:i=q
  · subst hq
    by_cases hl:i<M.length
    · simp [hl]
    · simp [hl]
  · simp [hq]
theorem Rh {M:List (List Int)} {i j:Nat} (hi:i<M.length) (hj:j<(M.getD i []).length) (x:Int) (p q:Nat):dAt (Gg M i j x) p q=if p=i∧q=j then x else dAt M p q:=by
  unfold dAt Gg
  simp only [List.getD_eq_getElem?_getD,List.getElem?_set] at hj ⊢
  by_cases hp:i=p
  · subst hp
    rw [List.getElem?_eq_getElem hi] at hj ⊢
    by_cases hq:j=q
    · subst hq
      simp only [Option.getD_some] at hj
      simp [hi,hj]
    · have hq':q≠j:=fun e=>hq e.symm
      simp [hi,hq,hq']
  · have hp':p≠i:=fun e=>hp e.symm
    simp [hp,hp']

namespace DM
/-! ### sums and determinants of rational numbers -/
def sm (n:Nat) (f:Nat→Rat):Rat:=match n with
  | 0=>0
  | n+1=>sm n f+f n
theorem sm_congr {f g:Nat→Rat}:∀ n,(∀ j,j<n→f j=g j)→sm n f=sm n g
  | 0,_=>rfl
  | n+1,h=>by rw [sm,sm,sm_congr n (fun j hj=>h j (by omega)),h n (by omega)]
theorem sm_lin (x y:Rat) (f g:Nat→Rat):∀ n,sm n (fun j=>x*f j+y*g j)=x*sm n f+y*sm n g
  | 0=>by simp only [sm];grind
  | n+1=>by simp only [sm,sm_lin x y f g n];grind
theorem sm_zero {f:Nat→Rat}:∀ n,(∀ j,j<n→f j=0)→sm n f=0
  | 0,_=>rfl
  | n+1,h=>by rw [sm,sm_zero n (fun j hj=>h j (by omega)),h n (by omega)];grind
theorem sm_pair {f:Nat→Rat} (p:Nat) (h2:f p+f (p+1)=0):∀ n,p+1<n→(∀ j,j<n→j≠p→j≠p+1→f j=0)→sm n f=0
  | 0,h,_=>by omega
  | n+1,h,h0=>by
    by_cases e:n=p+1
    · subst e
      rw [sm,sm,sm_zero p (fun j hj=>h0 j (by omega) (by omega) (by omega))]
      grind
    · rw [sm,sm_pair p h2 n (by omega) (fun j hj a b=>h0 j (by omega) a b),h0 n (by omega) (by omega) (by omega)];grind
theorem sm_one {f:Nat→Rat} (p:Nat):∀ n,p<n→(∀ j,j<n→j≠p→f j=0)→sm n f=f p
  | 0,h,_=>by omega
  | n+1,h,h0=>by
    by_cases e:n=p
    · subst e
      rw [sm,sm_zero n (fun j hj=>h0 j (by omega) (by omega))]
      grind
    · rw [sm,sm_one p n (by omega) (fun j hj a=>h0 j (by omega) a),h0 n (by omega) (by omega)];grind
theorem sm_head (f:Nat→Rat):∀ n,sm (n+1) f=f 0+sm n (fun j=>f (j+1))
  | 0=>by simp only [sm];grind
  | n+1=>by rw [sm,sm_head f n,sm];grind
def sg (j:Nat):Rat:=if j%2=0 then 1 else -1
theorem sg_succ (j:Nat):sg (j+1) = - sg j:=by
  unfold sg
  by_cases h:j%2=0
  · rw [if_pos h,if_neg (by omega)]
  · rw [if_neg h,if_pos (by omega)];grind
def skip (j c:Nat):Nat:=if c<j then c else c+1
def det:Nat→(Nat→Nat→Rat)→Rat
  | 0,_=>1
  | n+1,A=>sm (n+1) fun j=>sg j*A 0 j*det n (fun r c=>A (r+1) (skip j c))
theorem det_congr:∀ (n:Nat) {A B:Nat→Nat→Rat},(∀ r c,r<n→c<n→A r c=B r c)→det n A=det n B
  | 0,_,_,_=>rfl
  | n+1,A,B,h=>by
    rw [det,det]
    refine sm_congr _ (fun j hj=>?_)
    rw [h 0 j (by omega) hj,det_congr n (fun r c hr hc=>h (r+1) (skip j c) (by omega) (by unfold skip;split <;> omega))]
def Es (A:Nat→Nat→Rat) (p:Nat) (u:Nat→Rat):Nat→Nat→Rat:=fun r c=>if c=p then u r else A r c
theorem Dg (A:Nat→Nat→Rat) (p:Nat) (u:Nat→Rat) (r c:Nat):Es A p u r c=if c=p then u r else A r c:=rfl
def pos (j p:Nat):Nat:=if p<j then p else p-1
theorem skip_eq {j c p:Nat} (h:j≠p):skip j c=p↔c=pos j p:=by
  unfold skip pos
  split <;> split <;> omega
theorem K9 (A:Nat→Nat→Rat) {p j:Nat} (u:Nat→Rat) (h:j≠p):(fun r c=>Es A p u (r+1) (skip j c))=Es (fun r c=>A (r+1) (skip j c)) (pos j p) (fun r=>u (r+1)):=by
  funext r c
  rw [Dg,Dg]
  by_cases e:skip j c=p
  · rw [if_pos e,if_pos ((skip_eq h).1 e)]
  · rw [if_neg e,if_neg (fun k=>e ((skip_eq h).2 k))]
theorem I1 (A:Nat→Nat→Rat) (p:Nat) (u:Nat→Rat):(fun r c=>Es A p u (r+1) (skip p c))=fun r c=>A (r+1) (skip p c):=by
  funext r c
  rw [Dg,if_neg]
  unfold skip;split <;> omega
theorem Jq:∀ (n:Nat) (A:Nat→Nat→Rat) (p:Nat) (_:p<n) (x y:Rat) (u v:Nat→Rat),det n (Es A p (fun r=>x*u r+y*v r))=x*det n (Es A p u)+y*det n (Es A p v)
  | 0,_,_,h,_,_,_,_=>by omega
  | n+1,A,p,h,x,y,u,v=>by
    rw [det,det,det,← sm_lin]
    refine sm_congr _ (fun j hj=>?_)
    by_cases e:j=p
    · subst e
      rw [I1,I1,I1,Dg,Dg,Dg,if_pos rfl,if_pos rfl,if_pos rfl]
      grind
    · rw [K9 _ _ e,K9 _ _ e,K9 _ _ e,Jq n _ _ (by unfold pos;split <;> omega),Dg,Dg,Dg,if_neg e,if_neg e,if_neg e]
      grind
/-- two neighbouring columns that are the same -/
theorem Qw:∀ (n:Nat) (A:Nat→Nat→Rat) (p:Nat),p+1<n→(∀ r,r<n→A r p=A r (p+1))→det n A=0
  | 0,_,_,h,_=>by omega
  | n+1,A,p,h,he=>by
    rw [det]
    refine sm_pair p ?_ (n+1) h (fun j hj a b=>?_)
    · have e : det n (fun r c => A (r + 1) (skip p c)) = det n (fun r c => A (r + 1) (skip (p + 1) c)) := by
        refine det_congr n (fun r c hr hc=>?_)
        unfold skip
        by_cases e:c=p
        · subst e
          rw [if_neg (by omega),if_pos (by omega)]
          exact (he (r+1) (by omega)).symm
        · by_cases l:c<p
          · rw [if_pos l,if_pos (by omega)]
          · rw [if_neg l,if_neg (by omega)]
      rw [e,sg_succ,he 0 (by omega)]
      grind
    · rw [Qw n _ (pos j p) (by unfold pos;split <;> omega) (fun r hr=>?_)]
      · grind
      · have e1:skip j (pos j p)=p:=(skip_eq a).2 rfl
        have e2:skip j (pos j p+1)=p+1:=by unfold skip pos;split <;> split <;> omega
        rw [e1,e2]
        exact he (r+1) (by omega)
def swc (A:Nat→Nat→Rat) (p q:Nat):Nat→Nat→Rat:=fun r c=>if c=p then A r q else if c=q then A r p else A r c
theorem det_swap (n:Nat) (A:Nat→Nat→Rat) (p:Nat) (h:p+1<n):det n (swc A p (p+1)) = - det n A:=by
  have key:∀ u v:Nat→Rat,det n (Es (Es A p u) (p+1) v)+det n (Es (Es A p v) (p+1) u)=0:=by
    intro u v
    have dup:∀ w:Nat→Rat,det n (Es (Es A p w) (p+1) w)=0:=fun w=>Qw n _ p h (fun r _=>by
      rw [Dg,Dg,Dg,if_neg (by omega),if_pos rfl,if_pos rfl])
    have comm:∀ u v:Nat→Rat,Es (Es A p u) (p+1) v=Es (Es A (p+1) v) p u:=by
      intro u v;funext r c
      simp only [Dg]
      by_cases e:c=p
      · subst e;rw [if_neg (by omega),if_pos rfl,if_pos rfl]
      · by_cases e2:c=p+1
        · rw [if_pos e2,if_neg e,if_pos e2]
        · rw [if_neg e2,if_neg e,if_neg e,if_neg e2]
    have s:=dup (fun r=>1*u r+1*v r)
    rw [Jq n _ (p+1) h,comm,comm,Jq n _ p (by omega),Jq n _ p (by omega),← comm,← comm,← comm,← comm,dup,dup] at s
    grind
  have k:=key (fun r=>A r p) (fun r=>A r (p+1))
  have e1:det n (Es (Es A p fun r=>A r p) (p+1) fun r=>A r (p+1))=det n A:=det_congr n (fun r c _ _=>by
    simp only [Dg]
    split
    · rename_i e;rw [e]
    · split
      · rename_i e;rw [e]
      · rfl)
  have e2:det n (Es (Es A p fun r=>A r (p+1)) (p+1) fun r=>A r p)=det n (swc A p (p+1)):=det_congr n (fun r c _ _=>by
    simp only [Dg,swc]
    by_cases e:c=p
    · subst e;rw [if_neg (by omega),if_pos rfl,if_pos rfl]
    · by_cases e2:c=p+1
      · rw [if_pos e2,if_neg e,if_pos e2]
      · rw [if_neg e2,if_neg e,if_neg e,if_neg e2])
  rw [e1,e2] at k
  grind
theorem Qx (n:Nat):∀ (d:Nat) (A:Nat→Nat→Rat) (p:Nat),p+d+1<n→(∀ r,r<n→A r p=A r (p+d+1))→det n A=0
  | 0,A,p,h,he=>Qw n A p h he
  | d+1,A,p,h,he=>by
    have s:=det_swap n A (p+d+1) h
    rw [Qx n d (swc A (p+d+1) (p+d+1+1)) p (by omega) (fun r hr=>?_)] at s
    · grind
    · simp only [swc]
      rw [if_neg (by omega),if_neg (by omega),if_pos trivial]
      exact he r hr
theorem det_same (n:Nat) (A:Nat→Nat→Rat) (p q:Nat) (hp:p<n) (hq:q<n) (hpq:p≠q) (he:∀ r,r<n→A r p=A r q):det n A=0:=by
  rcases Nat.lt_or_gt_of_ne hpq with h|h
  · refine Qx n (q-p-1) A p (by omega) (fun r hr=>?_)
    rw [show p+(q-p-1)+1=q by omega];exact he r hr
  · refine Qx n (p-q-1) A q (by omega) (fun r hr=>?_)
    rw [show q+(p-q-1)+1=p by omega];exact (he r hr).symm
/-- a column's multiple is added to another column -/
theorem N6 (n:Nat) (A:Nat→Nat→Rat) (p q:Nat) (hp:p<n) (hq:q<n) (hpq:p≠q) (x:Rat):det n (Es A p (fun r=>A r p+x*A r q))=det n A:=by
  have e:(fun r=>A r p+x*A r q)=fun r=>1*A r p+x*A r q:=by funext r;grind
  rw [e,Jq n A p hp,det_same n (Es A p fun r=>A r q) p q hp hq hpq (fun r _=>by
    rw [Dg,Dg,if_pos rfl,if_neg (fun h=>hpq h.symm)])]
  have:det n (Es A p fun r=>A r p)=det n A:=det_congr n (fun r c _ _=>by
    rw [Dg];split
    · rename_i e;rw [e]
    · rfl)
  rw [this];grind
/-- the first column cleared from the first row: m columns behind it -/
def clr (A:Nat→Nat→Rat) (m:Nat):Nat→Nat→Rat:=fun r c=>if 1≤c∧c≤m then A r c-A r 0*A 0 c/A 0 0 else A r c
theorem det_clr (n:Nat) (A:Nat→Nat→Rat) (h0:A 0 0≠0):∀ m,m<n→det n (clr A m)=det n A
  | 0,_=>det_congr n (fun r c _ _=>by unfold clr;rw [if_neg (by omega)])
  | m+1,h=>by
    rw [← det_clr n A h0 m (by omega),← N6 n (clr A m) (m+1) 0 h (by omega) (by omega) (- (A 0 (m+1)/A 0 0))]
    refine det_congr n (fun r c _ _=>?_)
    simp only [Dg]
    unfold clr
    by_cases e:c=m+1
    · subst e
      rw [if_pos (by omega),if_pos rfl,if_neg (by omega),if_neg (by omega)]
      grind
    · rw [if_neg e]
      by_cases l:1≤c∧c≤m
      · rw [if_pos l,if_pos (by omega)]
      · rw [if_neg l,if_neg (by omega)]
def schur (A:Nat→Nat→Rat):Nat→Nat→Rat:=fun r c=>A (r+1) (c+1)-A (r+1) 0*A 0 (c+1)/A 0 0
theorem det_step (n:Nat) (A:Nat→Nat→Rat) (h0:A 0 0≠0):det (n+1) A=A 0 0*det n (schur A):=by
  rw [← det_clr (n+1) A h0 n (by omega),det,sm_one 0 (n+1) (by omega)]
  · have e : det n (fun r c => clr A n (r + 1) (skip 0 c)) = det n (schur A) := det_congr n (fun r c hr hc => by
      unfold clr schur skip
      rw [if_neg (show ¬ c<0 by omega),if_pos (by omega)])
    rw [e]
    have e0:clr A n 0 0=A 0 0:=by unfold clr;rw [if_neg (by omega)]
    have e1:sg 0=1:=rfl
    rw [e0,e1]
    grind
  · intro j hj hj0
    have:clr A n 0 j=0:=by unfold clr;rw [if_pos (by omega)];grind
    rw [this];grind
def IsI (x:Rat):Prop:=∃ z:Int,x=(z:Rat)
theorem sm_int {f:Nat→Rat}:∀ n,(∀ j,j<n→IsI (f j))→IsI (sm n f)
  | 0,_=>⟨0,rfl⟩
  | n+1,h=>by
    obtain ⟨a,ha⟩:=sm_int n (fun j hj=>h j (by omega))
    obtain ⟨b,hb⟩:=h n (by omega)
    exact ⟨a+b,by rw [sm,ha,hb,Rat.intCast_add]⟩
theorem det_int:∀ (n:Nat) (A:Nat→Nat→Rat),(∀ r c,r<n→c<n→IsI (A r c))→IsI (det n A)
  | 0,_,_=>⟨1,rfl⟩
  | n+1,A,h=>by
    rw [det]
    refine sm_int _ (fun j hj=>?_)
    obtain ⟨a,ha⟩:=h 0 j (by omega) hj
    obtain ⟨b,hb⟩:=det_int n (fun r c=>A (r+1) (skip j c)) (fun r c hr hc=>h _ _ (by omega) (by unfold skip;split <;> omega))
    have hs:IsI (sg j):=by unfold sg;split;exact ⟨1,rfl⟩;exact ⟨-1,rfl⟩
    obtain ⟨s,hs⟩:=hs
    exact ⟨s*a*b,by rw [ha,hb,hs,Rat.intCast_mul,Rat.intCast_mul]⟩

/-! ### rows -/
def setr (A:Nat→Nat→Rat) (p:Nat) (u:Nat→Rat):Nat→Nat→Rat:=fun r c=>if r=p then u c else A r c
theorem setr_at (A:Nat→Nat→Rat) (p:Nat) (u:Nat→Rat) (r c:Nat):setr A p u r c=if r=p then u c else A r c:=rfl
theorem J0:∀ (n:Nat) (A:Nat→Nat→Rat) (p:Nat) (_:p<n) (x y:Rat) (u v:Nat→Rat),det n (setr A p (fun c=>x*u c+y*v c))=x*det n (setr A p u)+y*det n (setr A p v)
  | 0,_,_,h,_,_,_,_=>by omega
  | n+1,A,0,h,x,y,u,v=>by
    rw [det,det,det,← sm_lin]
    refine sm_congr _ (fun j hj=>?_)
    have e:∀ w,(fun r c=>setr A 0 w (r+1) (skip j c))=fun r c=>A (r+1) (skip j c):=fun w=>by
      funext r c;rw [setr_at,if_neg (by omega)]
    rw [e,e,e,setr_at,setr_at,setr_at,if_pos rfl,if_pos rfl,if_pos rfl]
    grind
  | n+1,A,p+1,h,x,y,u,v=>by
    rw [det,det,det,← sm_lin]
    refine sm_congr _ (fun j hj=>?_)
    have e:∀ w,(fun r c=>setr A (p+1) w (r+1) (skip j c))=setr (fun r c=>A (r+1) (skip j c)) p (fun c=>w (skip j c)):=fun w=>by
      funext r c
      rw [setr_at,setr_at]
      by_cases e:r=p
      · rw [if_pos (by omega),if_pos e]
      · rw [if_neg (by omega),if_neg e]
    rw [e,e,e,J0 n _ p (by omega),setr_at,setr_at,setr_at,if_neg (by omega),if_neg (by omega),if_neg (by omega)]
    grind
theorem det_zeroc (n:Nat) (A:Nat→Nat→Rat) (p:Nat) (hp:p<n) (h:∀ r,r<n→A r p=0):det n A=0:=by
  have e:det n A=det n (Es A p (fun r=>0*A r p+0*A r p)):=det_congr n (fun r c hr _=>by
    rw [Dg];split
    · rename_i e;rw [e,h r hr];grind
    · rfl)
  rw [e,Jq n A p hp];grind
theorem Ri (n:Nat) (A:Nat→Nat→Rat) (p:Nat) (hp:p<n) (h:∀ c,c<n→A p c=0):det n A=0:=by
  have e:det n A=det n (setr A p (fun c=>0*A p c+0*A p c)):=det_congr n (fun r c _ hc=>by
    rw [setr_at];split
    · rename_i e;rw [e,h c hc];grind
    · rfl)
  rw [e,J0 n A p hp];grind
theorem Qd (n:Nat) (A:Nat→Nat→Rat) (q:Nat) (hq:q+1<n+1) (he:∀ c,c<n+1→A 0 c=A (q+1) c) (h0:A 0 0≠0):det (n+1) A=0:=by
  rw [det_step n A h0,Ri n (schur A) q (by omega)]
  · grind
  · intro c hc
    unfold schur
    rw [← he (c+1) (by omega),← he 0 (by omega)]
    grind
theorem det_samer:∀ (n:Nat) (A:Nat→Nat→Rat) (p q:Nat),p<q→q<n→(∀ c,c<n→A p c=A q c)→det n A=0
  | 0,_,_,_,_,h,_=>by omega
  | n+1,A,p+1,q,hpq,hq,he=>by
    obtain ⟨q,rfl⟩:∃ m,q=m+1:=⟨q-1,by omega⟩
    rw [det]
    refine sm_zero _ (fun j hj=>?_)
    rw [det_samer n _ p q (by omega) (by omega) (fun c hc=>he _ (by unfold skip;split <;> omega))]
    grind
  | n+1,A,0,q,hpq,hq,he=>by
    obtain ⟨q,rfl⟩:∃ m,q=m+1:=⟨q-1,by omega⟩
    by_cases h0:A 0 0=0
    · by_cases hz:∀ c,c<n+1→A 0 c=0
      · exact Ri _ A 0 (by omega) hz
      · have:∃ c,c<n+1∧A 0 c≠0:=Classical.byContradiction fun h=>hz fun c hc=>Classical.byContradiction fun k=>h ⟨c,hc,k⟩
        obtain ⟨c,hc,hn⟩:=this
        have hc0:c≠0:=fun e=>hn (e ▸ h0)
        rw [← N6 (n+1) A 0 c (by omega) hc (fun e=>hc0 e.symm) 1]
        refine Qd n _ q hq (fun d hd=>?_) ?_
        · rw [Dg,Dg,he d hd,he 0 (by omega),he c hc]
        · rw [Dg,if_pos rfl,h0];grind
    · exact Qd n A q hq he h0
theorem det_swapr (n:Nat) (A:Nat→Nat→Rat) (p q:Nat) (hpq:p<q) (h:q<n):det n (fun r c=>if r=p then A q c else if r=q then A p c else A r c) = - det n A:=by
  have comm:∀ u v:Nat→Rat,setr (setr A p u) q v=setr (setr A q v) p u:=by
    intro u v;funext r c
    simp only [setr_at]
    by_cases e:r=p
    · subst e;rw [if_neg (by omega),if_pos rfl,if_pos rfl]
    · by_cases e2:r=q
      · rw [if_pos e2,if_neg e,if_pos e2]
      · rw [if_neg e2,if_neg e,if_neg e,if_neg e2]
  have key:∀ u v:Nat→Rat,det n (setr (setr A p u) q v)+det n (setr (setr A p v) q u)=0:=by
    intro u v
    have dup:∀ w:Nat→Rat,det n (setr (setr A p w) q w)=0:=fun w=>det_samer n _ p q hpq h (fun c _=>by
      rw [setr_at,setr_at,setr_at,if_neg (by omega),if_pos rfl,if_pos rfl])
    have s:=dup (fun r=>1*u r+1*v r)
    rw [J0 n _ q h,comm,comm,J0 n _ p (by omega),J0 n _ p (by omega),← comm,← comm,← comm,← comm,dup,dup] at s
    grind
  have k:=key (A p) (A q)
  have e1:det n (setr (setr A p (A p)) q (A q))=det n A:=det_congr n (fun r c _ _=>by
    simp only [setr_at]
    split
    · rename_i e;rw [e]
    · split
      · rename_i e;rw [e]
      · rfl)
  have e2:det n (setr (setr A p (A q)) q (A p))=det n (fun r c=>if r=p then A q c else if r=q then A p c else A r c):=det_congr n (fun r c _ _=>by
    simp only [setr_at]
    by_cases e:r=p
    · subst e;rw [if_neg (by omega),if_pos rfl,if_pos rfl]
    · by_cases e2:r=q
      · rw [if_pos e2,if_neg e,if_pos e2]
      · rw [if_neg e2,if_neg e,if_neg e,if_neg e2])
  rw [e1,e2] at k
  grind
/-! ### a bound: the greater one of the sums of what is Mg and what is below 0, in each row -/
def pp (x:Rat):Rat:=if 0≤x then x else 0
theorem pp_add (x y:Rat):pp (x+y)≤pp x+pp y:=by unfold pp;split <;> split <;> split <;> grind
theorem pp_nn (x:Rat):0≤pp x:=by unfold pp;split <;> grind
theorem pp_sub (x:Rat):x=pp x-pp (-x):=by unfold pp;split <;> split <;> grind
theorem sm_le {f g:Nat→Rat}:∀ n,(∀ j,j<n→f j≤g j)→sm n f≤sm n g
  | 0,_=>by simp only [sm];grind
  | n+1,h=>by
    have:=sm_le n (fun j hj=>h j (by omega));have:=h n (by omega)
    simp only [sm];grind
theorem sm_nn {f:Nat→Rat} (n:Nat) (h:∀ j,j<n→0≤f j):0≤sm n f:=by
  have:=sm_le (f:=fun _=>0) n h
  rw [sm_zero n (fun _ _=>rfl)] at this;exact this
/-- a sum without one place -/
theorem Qy (f:Nat→Rat) (p:Nat):∀ n,p<n+1→sm (n+1) f=f p+sm n (fun c=>f (skip p c))
  | 0,h=>by
    obtain rfl:p=0:=by omega
    simp only [sm];grind
  | n+1,h=>by
    by_cases e:p=n+1
    · subst e
      rw [sm,sm_congr (f:=fun c=>f (skip (n+1) c)) (g:=f) (n+1) (fun j hj=>by unfold skip;rw [if_pos hj])]
      grind
    · rw [sm,Qy f p n (by omega),sm,show skip p n=n+1 by unfold skip;rw [if_neg (by omega)]]
      grind
theorem span (C:Nat→Rat) (M:Rat) (hM:0≤M):∀ n,(∀ c,c<n→C c≤M ∧ -M≤C c)→(∀ c d,c<n→d<n→C c-C d≤M)→∃ l u:Rat,l≤0∧0≤u∧u-l≤M∧((u=0)∨∃ c,c<n∧u=C c)∧((l=0)∨∃ c,c<n∧l=C c)∧∀ c,c<n→l≤C c∧C c≤u
  | 0,_,_=>⟨0,0,by grind,by grind,by grind,Or.inl rfl,Or.inl rfl,fun c h=>by omega⟩
  | n+1,h1,h2=>by
    obtain ⟨l,u,hl,hu,hlu,eu,el,hc⟩:=span C M hM n (fun c h=>h1 c (by omega)) (fun c d h k=>h2 c d (by omega) (by omega))
    have b:=h1 n (by omega)
    have lb:C n-l≤M:=by
      rcases el with e|⟨c,hcn,e⟩
      · grind
      · have:=h2 n c (by omega) (by omega);grind
    have ub:u-C n≤M:=by
      rcases eu with e|⟨c,hcn,e⟩
      · grind
      · have:=h2 c n (by omega) (by omega);grind
    have el':l=0∨∃ c,c<n+1∧l=C c:=el.imp id (fun ⟨c,a,b⟩=>⟨c,by omega,b⟩)
    have eu':u=0∨∃ c,c<n+1∧u=C c:=eu.imp id (fun ⟨c,a,b⟩=>⟨c,by omega,b⟩)
    have all:∀ l' u':Rat,l'≤l→u≤u'→l'≤C n→C n≤u'→∀ c,c<n+1→l'≤C c∧C c≤u':=by
      intro l' u' a b d e c hcn
      by_cases k:c=n
      · subst k;exact ⟨d,e⟩
      · have:=hc c (by omega);grind
    by_cases a:C n<l
    · exact ⟨C n,u,by grind,hu,ub,eu',Or.inr ⟨n,by omega,rfl⟩,all _ _ (by grind) (by grind) (by grind) (by grind)⟩
    · by_cases b:u<C n
      · exact ⟨l,C n,hl,by grind,lb,Or.inr ⟨n,by omega,rfl⟩,el',all _ _ (by grind) (by grind) (by grind) (by grind)⟩
      · exact ⟨l,u,hl,hu,hlu,eu',el',all _ _ (by grind) (by grind) (by grind) (by grind)⟩
theorem mul_le {a b m:Rat} (h:0≤m) (hab:a≤b):m*a≤m*b:=Rat.mul_le_mul_of_nonneg_left hab h
theorem comb (a C:Nat→Rat) (n:Nat) (m M:Rat) (hm:0≤m) (hM:0≤M) (hp:sm n (fun c=>pp (a c))≤m) (hn:sm n (fun c=>pp (- a c))≤m) (h1:∀ c,c<n→C c≤M ∧ -M≤C c) (h2:∀ c d,c<n→d<n→C c-C d≤M):sm n (fun c=>a c*C c)≤m*M:=by
  obtain ⟨l,u,hl,hu,hlu,_,_,hc⟩:=span C M hM n h1 h2
  have s:sm n (fun c=>a c*C c)≤sm n (fun c=>u*pp (a c)+(-l)*pp (- a c)):=sm_le n (fun c hcn=>by
    obtain ⟨b1,b2⟩:=hc c hcn
    have x1:=mul_le (pp_nn (a c)) b2
    have x2:=mul_le (pp_nn (- a c)) b1
    have:=pp_sub (a c)
    have e:a c*C c=pp (a c)*C c-pp (- a c)*C c:=by
      grind
    grind)
  rw [sm_lin] at s
  have y1:=mul_le hu hp
  have y2:=mul_le (m := -l) (by grind) hn
  have y3:=mul_le hm hlu
  grind
def pr (n:Nat) (f:Nat→Rat):Rat:=match n with
  | 0=>1
  | n+1=>pr n f*f n
theorem pr_nn {f:Nat→Rat}:∀ n,(∀ j,j<n→0≤f j)→0≤pr n f
  | 0,_=>by simp only [pr];grind
  | n+1,h=>by rw [pr];exact Rat.mul_nonneg (pr_nn n (fun j hj=>h j (by omega))) (h n (by omega))
theorem pr_head (f:Nat→Rat):∀ n,pr (n+1) f=f 0*pr n (fun j=>f (j+1))
  | 0=>by simp only [pr];grind
  | n+1=>by rw [pr,pr_head f n,pr];grind
def RowB (n:Nat) (a:Nat→Rat) (m:Rat):Prop:=sm n (fun c=>pp (a c))≤m∧sm n (fun c=>pp (- a c))≤m
theorem rowB_skip {n:Nat} {a:Nat→Rat} {m:Rat} (p:Nat) (hp:p<n+1) (h:RowB (n+1) a m):RowB n (fun c=>a (skip p c)) m:=by
  obtain ⟨h1,h2⟩:=h
  rw [Qy _ p n hp] at h1 h2
  have:=pp_nn (a p);have:=pp_nn (- a p)
  exact ⟨by grind,by grind⟩
theorem sm_setat (f:Nat→Rat) (x:Rat) (d:Nat):∀ n,d<n→sm n (fun c=>if c=d then x else f c)=sm n f-f d+x
  | 0,h=>by omega
  | n+1,h=>by
    by_cases e:n=d
    · subst e
      rw [sm,sm,if_pos rfl,sm_congr n (g:=f) (fun j hj=>if_neg (by omega))]
      grind
    · rw [sm,sm,if_neg e,sm_setat f x d n (by omega)];grind
/-- one column put onto another one, and taken away -/
theorem rowB_join {n:Nat} {a:Nat→Rat} {m:Rat} (c d:Nat) (hc:c<n+1) (hd:d<n+1) (hcd:c≠d) (h:RowB (n+1) a m):RowB n (fun k=>if skip c k=d then a d+a c else a (skip c k)) m:=by
  obtain ⟨h1,h2⟩:=h
  have go:∀ b:Nat→Rat,(∀ x y,b d=x→b c=y→pp (x+y)≤pp x+pp y)→sm n (fun k=>pp (if skip c k=d then b d+b c else b (skip c k)))≤sm (n+1) (fun c=>pp (b c)):=by
    intro b _
    have e:sm n (fun k=>pp (if skip c k=d then b d+b c else b (skip c k)))=sm n (fun k=>if k=pos c d then pp (b d+b c) else pp (b (skip c k))):=sm_congr n (fun k hk=>by
      by_cases e:skip c k=d
      · rw [if_pos e,if_pos ((skip_eq hcd).1 e)]
      · rw [if_neg e,if_neg (fun q=>e ((skip_eq hcd).2 q))])
    have hs:skip c (pos c d)=d:=(skip_eq hcd).2 rfl
    rw [e,sm_setat _ _ _ n (by unfold pos;split <;> omega),hs,Qy (fun c=>pp (b c)) c n hc]
    have:=pp_add (b d) (b c)
    grind
  have g1:=go a (fun x y _ _=>pp_add x y)
  have g2:=go (fun k => - a k) (fun x y _ _=>pp_add x y)
  refine ⟨by grind,?_⟩
  have e:(fun k=>pp (-(if skip c k=d then a d+a c else a (skip c k))))=fun k=>pp (if skip c k=d then-a d + - a c else-a (skip c k)):=by
    funext k;split
    · congr 1;grind
    · rfl
  rw [e];grind
theorem det_bound:∀ (n:Nat) (A:Nat→Nat→Rat) (m:Nat→Rat),(∀ r,r<n→0≤m r)→(∀ r,r<n→RowB n (A r) (m r))→det n A≤pr n m ∧ - pr n m≤det n A
  | 0,_,_,_,_=>⟨by simp only [det,pr];grind,by simp only [det,pr];grind⟩
  | n+1,A,m,hm,h=>by
    have hM:=pr_nn (f:=fun j=>m (j+1)) n (fun j hj=>hm (j+1) (by omega))
    generalize hMe:pr n (fun j=>m (j+1))=M at hM
    have b1:∀ c,c<n+1→(sg c*det n (fun r k=>A (r+1) (skip c k))≤M)∧(-M≤sg c*det n (fun r k=>A (r+1) (skip c k))):=by
      intro c hc
      have:=det_bound n (fun r k=>A (r+1) (skip c k)) (fun j=>m (j+1)) (fun j hj=>hm (j+1) (by omega)) (fun r hr=>rowB_skip c hc (h (r+1) (by omega)))
      rw [hMe] at this
      unfold sg;split <;> grind
    have b2:∀ c d,c<n+1→d<n+1→sg c*det n (fun r k=>A (r+1) (skip c k))-sg d*det n (fun r k=>A (r+1) (skip d k))≤M:=by
      intro c d hc hd
      by_cases e:c=d
      · subst e;grind
      · have key : sg c * det n (fun r k => A (r + 1) (skip c k)) - sg d * det n (fun r k => A (r + 1) (skip d k)) = det (n + 1) (setr A 0 (fun k => if k = c then 1 else if k = d then -1 else 0)) := by
          rw [det]
          have mm:∀ j,(fun r k=>setr A 0 (fun k=>if k=c then (1:Rat) else if k=d then -1 else 0) (r+1) (skip j k))=fun r k=>A (r+1) (skip j k):=fun j=>by
            funext r k;rw [setr_at,if_neg (by omega)]
          have e2:sm (n+1) (fun j=>sg j*setr A 0 (fun k=>if k=c then (1:Rat) else if k=d then -1 else 0) 0 j*det n (fun r k=>setr A 0 (fun k=>if k=c then (1:Rat) else if k=d then -1 else 0) (r+1) (skip j k)))=sm (n+1) (fun j=>1*(if j=c then sg c*det n (fun r k=>A (r+1) (skip c k)) else 0)+(-1)*(if j=d then sg d*det n (fun r k=>A (r+1) (skip d k)) else 0)):=sm_congr _ (fun j hj=>by
            rw [mm,setr_at,if_pos rfl]
            by_cases e1:j=c
            · subst e1;rw [if_pos rfl,if_pos rfl,if_neg e];grind
            · rw [if_neg e1,if_neg e1]
              by_cases e2:j=d
              · subst e2;rw [if_pos rfl,if_pos rfl];grind
              · rw [if_neg e2,if_neg e2];grind)
          rw [e2,sm_lin,sm_one c (n+1) hc (fun j _ hj=>if_neg hj),sm_one d (n+1) hd (fun j _ hj=>if_neg hj),if_pos rfl,if_pos rfl]
          grind
        rw [key,← N6 (n+1) _ d c hd hc (fun k=>e k.symm) 1,det,sm_one c (n+1) hc]
        · have mm : (fun r k => Es (setr A 0 (fun k => if k = c then (1 : Rat) else if k = d then -1 else 0)) d (fun r => setr A 0 (fun k => if k = c then (1 : Rat) else if k = d then -1 else 0) r d + 1 * setr A 0 (fun k => if k = c then (1 : Rat) else if k = d then -1 else 0) r c) (r + 1) (skip c k)) = fun r k => if skip c k = d then A (r + 1) d + A (r + 1) c else A (r + 1) (skip c k) := by
            funext r k
            rw [Dg,setr_at,setr_at,setr_at,if_neg (show r+1≠0 by omega),if_neg (show r+1≠0 by omega),if_neg (show r+1≠0 by omega)]
            split <;> grind
          rw [mm,Dg,if_neg e,setr_at,if_pos rfl,if_pos rfl]
          have:=det_bound n (fun r k=>if skip c k=d then A (r+1) d+A (r+1) c else A (r+1) (skip c k)) (fun j=>m (j+1)) (fun j hj=>hm (j+1) (by omega)) (fun r hr=>rowB_join c d hc hd e (h (r+1) (by omega)))
          rw [hMe] at this
          unfold sg;split <;> grind
        · intro j hj hjc
          have:Es (setr A 0 (fun k=>if k=c then (1:Rat) else if k=d then -1 else 0)) d (fun r=>setr A 0 (fun k=>if k=c then (1:Rat) else if k=d then -1 else 0) r d+1*setr A 0 (fun k=>if k=c then (1:Rat) else if k=d then -1 else 0) r c) 0 j=0:=by
            simp only [Dg,setr_at]
            by_cases q:j=d
            · subst q;simp [hjc];grind
            · simp [hjc,q]
          rw [this];grind
    have h0:=h 0 (by omega)
    have e1:det (n+1) A=sm (n+1) (fun c=>A 0 c*(sg c*det n (fun r k=>A (r+1) (skip c k)))):=by
      rw [det];exact sm_congr _ (fun j _=>by grind)
    have e2:sm (n+1) (fun c=>A 0 c*(- (sg c*det n (fun r k=>A (r+1) (skip c k))))) = - det (n+1) A:=by
      rw [e1]
      have:=sm_lin (-1) 0 (fun c=>A 0 c*(sg c*det n (fun r k=>A (r+1) (skip c k)))) (fun _=>0) (n+1)
      rw [show-sm (n+1) (fun c=>A 0 c*(sg c*det n (fun r k=>A (r+1) (skip c k)))) = -1*sm (n+1) (fun c=>A 0 c*(sg c*det n (fun r k=>A (r+1) (skip c k))))+0*sm (n+1) (fun _=>0) by grind,← this]
      exact sm_congr _ (fun j _=>by grind)
    have c1:=comb (A 0) (fun c=>sg c*det n (fun r k=>A (r+1) (skip c k))) (n+1) (m 0) M (hm 0 (by omega)) hM h0.1 h0.2 b1 b2
    have c2:=comb (A 0) (fun c => - (sg c*det n (fun r k=>A (r+1) (skip c k)))) (n+1) (m 0) M (hm 0 (by omega)) hM h0.1 h0.2 (fun c hc=>by have:=b1 c hc;grind) (fun c d hc hd=>by have:=b2 d c hd hc;grind)
    rw [← e1] at c1
    rw [e2] at c2
    rw [pr_head,hMe]
    exact ⟨c1,by grind⟩
end DM

/-! ### elimination by exact divisions tells the determinant -/
def Gi (A:Nat→Nat→Rat) (k i j:Nat):Nat→Nat→Rat:=fun r c=>A (if r<k then r else i) (if c<k then c else j)
def G2:Nat→(Nat→Nat→Rat)→Nat→Nat→Rat
  | 0,A=>A
  | k+1,A=>G2 k (DM.schur A)
def Gb:Nat→(Nat→Nat→Rat)→Rat
  | 0,_=>1
  | k+1,A=>A 0 0*Gb k (DM.schur A)
def dPv:Nat→(Nat→Nat→Rat)→Prop
  | 0,_=>True
  | k+1,A=>A 0 0≠0∧dPv k (DM.schur A)
theorem Rj:∀ k A,G2 (k+1) A=DM.schur (G2 k A)
  | 0,_=>rfl
  | k+1,A=>Rj k (DM.schur A)
theorem M4:∀ k A,Gb (k+1) A=Gb k A*G2 k A 0 0
  | 0,A=>by simp only [Gb,G2];grind
  | k+1,A=>by rw [Gb,M4 k (DM.schur A),Gb,G2];grind
theorem Ma:∀ k A,dPv (k+1) A↔dPv k A∧G2 k A 0 0≠0
  | 0,A=>by simp [dPv,G2]
  | k+1,A=>by rw [dPv,Ma k (DM.schur A),dPv,G2,and_assoc]
theorem Qz:∀ k A,dPv k A→Gb k A≠0
  | 0,_,_=>by simp only [Gb];grind
  | k+1,A,h=>by
    have:=Qz k _ h.2
    have:=h.1
    rw [Gb];grind
theorem Ih:∀ (k:Nat) (A:Nat→Nat→Rat),dPv k A→∀ i j,DM.det (k+1) (Gi A k (k+i) (k+j))=Gb k A*G2 k A i j
  | 0,A,_,i,j=>by
    simp only [DM.det,DM.sm,Gi,Gb,G2,DM.sg,Nat.not_lt_zero,if_false,Nat.zero_add]
    simp;grind
  | k+1,A,h,i,j=>by
    have e:DM.schur (Gi A (k+1) (k+1+i) (k+1+j))=Gi (DM.schur A) k (k+i) (k+j):=by
      funext r c
      have hA:∀ a b a' b':Nat,a=a'→b=b'→A a b=A a' b':=by intro a b a' b' e1 e2;rw [e1,e2]
      unfold DM.schur Gi
      simp only [Nat.zero_lt_succ,if_true]
      rw [hA (if r+1<k+1 then r+1 else k+1+i) (if c+1<k+1 then c+1 else k+1+j) ((if r<k then r else k+i)+1) ((if c<k then c else k+j)+1) (by split <;> split <;> omega) (by split <;> split <;> omega),
        hA (if r+1<k+1 then r+1 else k+1+i) 0 ((if r<k then r else k+i)+1) 0 (by split <;> split <;> omega) rfl,
        hA 0 (if c+1<k+1 then c+1 else k+1+j) 0 ((if c<k then c else k+j)+1) rfl (by split <;> split <;> omega)]
    have e0:Gi A (k+1) (k+1+i) (k+1+j) 0 0=A 0 0:=by unfold Gi;simp
    rw [DM.det_step (k+1) _ (by rw [e0];exact h.1),e,e0,Ih k _ h.2 i j,Gb,G2]
    grind
theorem M5:∀ (k n:Nat) (A:Nat→Nat→Rat),dPv k A→DM.det (k+n) A=Gb k A*DM.det n (G2 k A)
  | 0,n,A,_=>by simp only [Gb,G2,Nat.zero_add];grind
  | k+1,n,A,h=>by
    rw [show k+1+n=(k+n)+1 by omega,DM.det_step _ A h.1,M5 k n _ h.2,Gb,G2];grind
/-- one round -/
theorem det_round (k : Nat) (A : Nat → Nat → Rat) (h : dPv (k + 1) A) (i j : Nat) :
    DM.det (k+2) (Gi A (k+1) (k+1+i) (k+1+j))*Gb k A =
      DM.det (k+1) (Gi A k (k+(i+1)) (k+(j+1)))*DM.det (k+1) (Gi A k (k+0) (k+0))-DM.det (k+1) (Gi A k (k+(i+1)) (k+0))*DM.det (k+1) (Gi A k (k+0) (k+(j+1))):=by
  have hk:=(Ma k A).1 h
  rw [Ih (k+1) A h,Ih k A hk.1,Ih k A hk.1,Ih k A hk.1,Ih k A hk.1,M4,Rj]
  unfold DM.schur
  have:=hk.2
  grind
theorem sm_sub (f:Nat→Rat) (h:∀ c,0≤f c) (k j:Nat):∀ n,k≤j→j<n→DM.sm k f+f j≤DM.sm n f
  | 0,_,hj=>by omega
  | n+1,hk,hj=>by
    have mono:∀ n,k≤n→DM.sm k f≤DM.sm n f:=by
      intro n
      induction n with
      | zero => intro hk; obtain rfl : k = 0 := by omega
                exact Rat.le_refl
      | succ n ih =>
        intro hk
        by_cases e:k=n+1
        · rw [e];exact Rat.le_refl
        · have:=ih (by omega);have:=h n;rw [DM.sm];grind
    by_cases e:j=n
    · subst e;have:=mono j hk;rw [DM.sm];grind
    · have:=sm_sub f h k j n hk (by omega);have:=h n;rw [DM.sm];grind
theorem pr_ge (f:Nat→Rat) (h:∀ c,1≤f c):∀ n,1≤DM.pr n f
  | 0=>by simp only [DM.pr];grind
  | n+1=>by
    have a:=pr_ge f h n
    have b:=h n
    have:=DM.mul_le (m:=DM.pr n f) (by grind) b
    rw [DM.pr];grind
theorem pr_sub (f:Nat→Rat) (h:∀ c,1≤f c) (k i:Nat):∀ n,k≤i→i<n→DM.pr k f*f i≤DM.pr n f
  | 0,_,hj=>by omega
  | n+1,hk,hj=>by
    have mono:∀ n,k≤n→DM.pr k f≤DM.pr n f:=by
      intro n
      induction n with
      | zero => intro hk; obtain rfl : k = 0 := by omega
                exact Rat.le_refl
      | succ n ih =>
        intro hk
        by_cases e:k=n+1
        · rw [e];exact Rat.le_refl
        · have a:=ih (by omega)
          have:=DM.mul_le (m:=DM.pr n f) (by have:=pr_ge f h n;grind) (h n)
          rw [DM.pr];grind
    by_cases e:i=n
    · subst e
      have a:=mono i hk
      have:=DM.mul_le (m:=f i) (by have:=h i;grind) a
      rw [DM.pr];grind
    · have a:=pr_sub f h k i n hk (by omega)
      have:=DM.mul_le (m:=DM.pr n f) (by have:=pr_ge f h n;grind) (h n)
      rw [DM.pr];grind
theorem Q0 {f g:Nat→Rat}:∀ k,(∀ r,r<k→f r=g r)→DM.pr k f=DM.pr k g
  | 0,_=>rfl
  | k+1,h=>by rw [DM.pr,DM.pr,Q0 k (fun r hr=>h r (by omega)),h k (by omega)]
theorem sub_bound (n : Nat) (A : Nat → Nat → Rat) (m : Nat → Rat) (hm : ∀ c, 1 ≤ m c) (hA : ∀ r, r < n → DM.RowB n (A r) (m r)) (k i j : Nat) (hi : k ≤ i) (hin : i < n) (hj : k ≤ j) (hjn : j < n) :
    DM.det (k+1) (Gi A k i j)≤DM.pr n m ∧ - DM.pr n m≤DM.det (k+1) (Gi A k i j):=by
  have row:∀ (a:Nat→Rat),DM.sm (k+1) (fun c=>DM.pp (a (if c<k then c else j)))≤DM.sm n (fun c=>DM.pp (a c)):=fun a=>by
    have:=sm_sub (fun c=>DM.pp (a c)) (fun c=>DM.pp_nn _) k j n hj hjn
    rw [DM.sm,DM.sm_congr k (g:=fun c=>DM.pp (a c)) (fun c hc=>by rw [if_pos hc]),if_neg (by omega)]
    exact this
  have b:=DM.det_bound (k+1) (Gi A k i j) (fun r=>m (if r<k then r else i)) (fun r _=>by have:=hm (if r<k then r else i);grind) (fun r hr=>by
    have hr':(if r<k then r else i)<n:=by split <;> omega
    obtain ⟨h1,h2⟩:=hA _ hr'
    have r1:=row (A (if r<k then r else i))
    have r2:=row (fun c => - A (if r<k then r else i) c)
    exact ⟨Rat.le_trans r1 h1,Rat.le_trans r2 h2⟩)
  have p:=pr_sub m hm k i n hi hin
  have e:DM.pr (k+1) (fun r=>m (if r<k then r else i))=DM.pr k m*m i:=by
    rw [DM.pr,Q0 k (g:=m) (fun r hr=>by rw [if_pos hr]),if_neg (by omega)]
  rw [e] at b
  grind
/-! the lists -/
def Dim (n:Nat) (M:List (List Int)):Prop:=M.length=n∧∀ i,i<n→(M.getD i []).length=n
theorem dim_put {n:Nat} {M:List (List Int)} (h:Dim n M) (i j:Nat) (x:Int):Dim n (Gg M i j x) :=
  ⟨by rw [dPut_lenB];exact h.1,fun q hq=>by rw [dPut_rowB];exact h.2 q hq⟩
theorem dCol_at {n : Nat} (k : Nat) (b : Int) (i : Nat) (hi : i < n) (hik : k < i) : ∀ (m j : Nat) (M : List (List Int)), Dim n M → k < j → j + m = n →
    Dim n (Iz k b i m j M)∧∀ p q,p<n→q<n→dAt (Iz k b i m j M) p q=if p=i∧j≤q then Gk M k b i q else dAt M p q
  | 0,j,M,hd,hj,hm=>⟨hd,fun p q _ hq=>by rw [Iz,if_neg (by omega)]⟩
  | m+1,j,M,hd,hj,hm=>by
    have at_:=fun p q=>Rh (M:=M) (i:=i) (j:=j) (by rw [hd.1];exact hi) (by rw [hd.2 i hi];omega) (Gk M k b i j) p q
    obtain ⟨h1,h2⟩:=dCol_at k b i hi hik m (j+1) (Gg M i j (Gk M k b i j)) (dim_put hd i j _) (by omega) (by omega)
    refine ⟨h1,fun p q hp hq=>?_⟩
    rw [Iz,h2 p q hp hq]
    by_cases e:p=i∧j+1≤q
    · rw [if_pos e,if_pos (by omega)]
      generalize Gk M k b i j=x at at_ ⊢
      unfold Gk
      rw [at_,at_,at_,at_,if_neg (by omega),if_neg (by omega),if_neg (by omega),if_neg (by omega)]
    · rw [if_neg e,at_]
      by_cases e2:p=i∧q=j
      · rw [if_pos e2,if_pos (by omega),e2.2]
      · rw [if_neg e2,if_neg (by omega)]
theorem dRow_at {n : Nat} (k : Nat) (b : Int) (hk : k < n) : ∀ (m i : Nat) (M : List (List Int)), Dim n M → k < i → i + m = n →
    Dim n (G8 n k b m i M)∧∀ p q,p<n→q<n→dAt (G8 n k b m i M) p q=if i≤p∧k<q then Gk M k b p q else dAt M p q
  | 0,i,M,hd,hi,hm=>⟨hd,fun p q hp _=>by rw [G8,if_neg (by omega)]⟩
  | m+1,i,M,hd,hi,hm=>by
    obtain ⟨c1,c2⟩:=dCol_at k b i (by omega) hi (n-(k+1)) (k+1) M hd (by omega) (by omega)
    obtain ⟨h1,h2⟩:=dRow_at k b hk m (i+1) _ c1 (by omega) (by omega)
    refine ⟨h1,fun p q hp hq=>?_⟩
    rw [G8,h2 p q hp hq]
    by_cases e:i+1≤p∧k<q
    · rw [if_pos e,if_pos (by omega)]
      unfold Gk
      rw [c2 p q hp hq,c2 k k hk hk,c2 p k hp hk,c2 k q hk hq,if_neg (by omega),if_neg (by omega),if_neg (by omega),if_neg (by omega)]
    · rw [if_neg e,c2 p q hp hq]
      by_cases e2:p=i∧k+1≤q
      · rw [if_pos e2,if_pos (by omega),e2.1]
      · rw [if_neg e2,if_neg (by omega)]
theorem Ua (M:List (List Int)) (k:Nat):∀ (m i:Nat),i≤Ds M k m i∧Ds M k m i≤i+m∧(∀ p,i≤p→p<Ds M k m i→dAt M p k=0)∧(Ds M k m i<i+m→dAt M (Ds M k m i) k≠0)
  | 0,i=>⟨Nat.le_refl _,Nat.le_refl _,fun p h1 h2=>by rw [Ds] at h2;omega,fun h=>by rw [Ds] at h;omega⟩
  | m+1,i=>by
    rw [Ds]
    by_cases e:dAt M i k=0
    · rw [if_pos e]
      obtain ⟨h1,h2,h3,h4⟩:=Ua M k m (i+1)
      refine ⟨by omega,by omega,fun p a b=>?_,fun h=>h4 (by omega)⟩
      by_cases q:p=i
      · rw [q];exact e
      · exact h3 p (by omega) b
    · rw [if_neg e]
      exact ⟨Nat.le_refl _,by omega,fun p a b=>by omega,fun _=>e⟩
theorem dSwap_at {n:Nat} {M:List (List Int)} (h:Dim n M) {i k:Nat} (hi:i<n) (hk:k<n):Dim n (Ga M i k)∧∀ p q,dAt (Ga M i k) p q=dAt M (if p=k then i else if p=i then k else p) q:=by
  have key:∀ p,(Ga M i k).getD p []=M.getD (if p=k then i else if p=i then k else p) []:=by
    intro p
    have hl:=h.1
    unfold Ga
    simp only [List.getD_eq_getElem?_getD,List.getElem?_set,List.length_set]
    by_cases e:k=p
    · subst e;rw [if_pos rfl,if_pos (by omega),if_pos rfl];rfl
    · have e':¬ p=k:=fun z=>e z.symm
      rw [if_neg e,if_neg e']
      by_cases e2:i=p
      · subst e2;rw [if_pos rfl,if_pos (by omega),if_pos rfl];rfl
      · have e2':¬ p=i:=fun z=>e2 z.symm
        rw [if_neg e2,if_neg e2']
  refine ⟨⟨by unfold Ga;simp;exact h.1,fun p hp=>by rw [key];exact h.2 _ (by split;exact hi;split;exact hk;exact hp)⟩,fun p q=>?_⟩
  unfold dAt;rw [key]
def rw2 (A:Nat→Nat→Rat) (k i:Nat):Nat→Nat→Rat:=fun r c=>A (if r=k then i else if r=i then k else r) c
theorem det_rw2 (n:Nat) (A:Nat→Nat→Rat) (k i:Nat) (h:k<i) (hi:i<n):DM.det n (rw2 A k i) = - DM.det n A:=by
  rw [← DM.det_swapr n A k i h hi]
  refine DM.det_congr n (fun r c _ _=>?_)
  unfold rw2
  by_cases e:r=k
  · rw [if_pos e,if_pos e]
  · by_cases e2:r=i
    · rw [if_neg e,if_pos e2,if_neg e,if_pos e2]
    · rw [if_neg e,if_neg e2,if_neg e,if_neg e2]
theorem sub_rw2 (A:Nat→Nat→Rat) (k i p q:Nat) (h:k≤i) (_:k≤p):DM.det (k+1) (Gi (rw2 A k i) k p q)=DM.det (k+1) (Gi A k (if p=k then i else if p=i then k else p) q):=by
  refine DM.det_congr _ (fun r c hr hc=>?_)
  unfold Gi rw2
  by_cases e:r<k
  · rw [if_pos e,if_neg (by omega),if_neg (by omega),if_pos e]
  · rw [if_neg e,if_neg e]
theorem pv_rw2 (A:Nat→Nat→Rat) (i:Nat):∀ k B,k≤i→(∀ r c,r<k→A r c=B r c)→dPv k A→dPv k B∧Gb k B=Gb k A:=by
  intro k
  induction k generalizing A i with
  | zero=>intro B _ _ _;exact ⟨trivial,rfl⟩
  | succ k ih =>
    intro B hi h hp
    have e0:=h 0 0 (by omega)
    obtain ⟨a,b⟩:=ih (DM.schur A) k (DM.schur B) (Nat.le_refl _) (fun r c hr=>by unfold DM.schur;rw [h (r+1) (c+1) (by omega),h (r+1) 0 (by omega),h 0 (c+1) (by omega),e0]) hp.2
    exact ⟨⟨by rw [← e0];exact hp.1,a⟩,by rw [Gb,Gb,b,e0]⟩
/-- what the rows' bounds owe -/
structure DB (n:Nat) (A:Nat→Nat→Rat) (m:Nat→Rat):Prop where
  int:∀ r c,DM.IsI (A r c)
  one:∀ c,1≤m c
  row:∀ r,r<n→DM.RowB n (A r) (m r)
  top:DM.pr n m≤2147483647
theorem pr_rw2 (m:Nat→Rat) (k i:Nat) (h:k<i):∀ n,i<n→DM.pr n (fun r=>m (if r=k then i else if r=i then k else r))=DM.pr n m:=by
  have one:∀ (f g:Nat→Rat) (i:Nat) (n:Nat),i<n→(∀ r,r<n→r≠i→f r=g r)→DM.pr n f*g i=DM.pr n g*f i:=by
    intro f g i n
    induction n with
    | zero=>intro h;omega
    | succ n ih =>
      intro hi h
      rw [DM.pr,DM.pr]
      by_cases e:i=n
      · subst e
        rw [Q0 i (f:=f) (g:=g) (fun r hr=>h r (by omega) (by omega))];grind
      · have:=ih (by omega) (fun r hr hne=>h r (by omega) hne)
        have e2:=h n (by omega) (fun z=>e z.symm)
        rw [e2];grind
  intro n
  induction n with
  | zero=>intro h;omega
  | succ n ih =>
    intro hi
    rw [DM.pr,DM.pr]
    by_cases e:i=n
    · subst e
      rw [if_neg (by omega),if_pos rfl]
      have h1:=one (fun r=>m (if r=k then i else if r=i then k else r)) m k i h (fun r hr hne=>by rw [if_neg hne,if_neg (by omega)])
      simp only [if_true] at h1
      exact h1
    · rw [ih (by omega),if_neg (by omega),if_neg (by omega)]
theorem db_rw2 {n:Nat} {A:Nat→Nat→Rat} {m:Nat→Rat} (h:DB n A m) (k i:Nat) (hk:k<i) (hi:i<n):DB n (rw2 A k i) (fun r=>m (if r=k then i else if r=i then k else r)) :=
  ⟨fun r c=>h.int _ c,fun c=>h.one _,fun r hr=>h.row _ (by split;exact hi;split;omega;exact hr),by rw [pr_rw2 m k i hk n hi];exact h.top⟩
theorem M6 {n:Nat} {A:Nat→Nat→Rat} {m:Nat→Rat} (h:DB n A m) {k i j:Nat} (hi:k≤i) (hin:i<n) (hj:k≤j) (hjn:j<n) {z:Int} (hz:DM.det (k+1) (Gi A k i j)=(z:Rat)) : -2147483647≤z∧z≤2147483647:=by
  have:=sub_bound n A m h.one h.row k i j hi hin hj hjn
  have t:=h.top
  rw [hz] at this
  have a : (z : Rat) ≤ ((2147483647 : Int) : Rat) := by have e : ((2147483647 : Int) : Rat) = 2147483647 := rfl
                                                        rw [e];grind
  have b : ((-2147483647 : Int) : Rat) ≤ (z : Rat) := by have e : ((-2147483647 : Int) : Rat) = -2147483647 := rfl
                                                         rw [e];grind
  exact ⟨Rat.intCast_le_intCast.1 b,Rat.intCast_le_intCast.1 a⟩
/-- the table of the k-th round -/
def Tab (n:Nat) (A:Nat→Nat→Rat) (k:Nat) (M:List (List Int)):Prop:=Dim n M∧∀ i j,k≤i→i<n→k≤j→j<n→DM.det (k+1) (Gi A k i j)=(dAt M i j:Rat)
theorem mul_bd {a b:Int} (h1 : -2147483647≤a∧a≤2147483647) (h2 : -2147483647≤b∧b≤2147483647) : -4611686014132420609≤a*b∧a*b≤4611686014132420609:=by
  have x1:(2147483647-a)*(2147483647+b)≥0:=Int.mul_nonneg (by omega) (by omega)
  have x2:(2147483647+a)*(2147483647-b)≥0:=Int.mul_nonneg (by omega) (by omega)
  have x3:(2147483647-a)*(2147483647-b)≥0:=Int.mul_nonneg (by omega) (by omega)
  have x4:(2147483647+a)*(2147483647+b)≥0:=Int.mul_nonneg (by omega) (by omega)
  constructor <;> grind
theorem Q1 {n : Nat} {A : Nat → Nat → Rat} {m : Nat → Rat} (h : DB n A m) {k : Nat} {M : List (List Int)} (ht : Tab n A k M) {b : Int} (hp : dPv k A) (hb : (b : Rat) = Gb k A) (hkn : k < n) (h0 : dAt M k k ≠ 0) {i j : Nat} (hi : k < i) (hin : i < n) (hj : k < j) (hjn : j < n) :
    dPv (k+1) A∧DM.det (k+2) (Gi A (k+1) i j)=(Gk M k b i j:Rat):=by
  have tkk:=ht.2 k k (Nat.le_refl _) hkn (Nat.le_refl _) hkn
  have tij:=ht.2 i j (by omega) hin (by omega) hjn
  have tik:=ht.2 i k (by omega) hin (Nat.le_refl _) hkn
  have tkj:=ht.2 k j (Nat.le_refl _) hkn (by omega) hjn
  have hne:G2 k A 0 0≠0:=by
    intro e
    have:=Ih k A hp 0 0
    simp only [Nat.add_zero] at this
    rw [e,tkk] at this
    have z:(dAt M k k:Rat)=((0:Int):Rat):=by rw [this];exact Rat.mul_zero _
    exact h0 (Rat.intCast_inj.1 z)
  have hp1:=(Ma k A).2 ⟨hp,hne⟩
  refine ⟨hp1,?_⟩
  obtain ⟨z,hz⟩:=DM.det_int (k+2) (Gi A (k+1) i j) (fun r c _ _=>h.int _ _)
  have r:=det_round k A hp1 (i-(k+1)) (j-(k+1))
  rw [show k+1+(i-(k+1))=i by omega,show k+1+(j-(k+1))=j by omega,show k+(i-(k+1)+1)=i by omega,show k+(j-(k+1)+1)=j by omega] at r
  simp only [Nat.add_zero] at r
  rw [hz,tkk,tij,tik,tkj,← hb,← Rat.intCast_mul,← Rat.intCast_mul,← Rat.intCast_mul,← Rat.intCast_sub] at r
  have r':=Rat.intCast_inj.1 r
  have b1:=mul_bd (M6 h (by omega) hin (by omega) hjn tij) (M6 h (Nat.le_refl _) hkn (Nat.le_refl _) hkn tkk)
  have b2:=mul_bd (M6 h (by omega) hin (Nat.le_refl _) hkn tik) (M6 h (Nat.le_refl _) hkn (by omega) hjn tkj)
  have bz:=M6 (k:=k+1) h (by omega) hin (by omega) hjn hz
  have hb0:b≠0:=by
    intro e
    have:=Qz k A hp
    rw [← hb,e] at this
    exact this rfl
  rw [hz]
  congr 1
  unfold Gk
  rw [Ap (n:=dAt M i j*dAt M k k) (by omega) (by omega),Ap (n:=dAt M i k*dAt M k j) (by omega) (by omega),Ap (n:=dAt M i j*dAt M k k-dAt M i k*dAt M k j) (by omega) (by omega),← r',Int.mul_tdiv_cancel _ hb0,Ap (by omega) (by omega)]
theorem run_eq (n:Nat) (A0:Nat→Nat→Rat) (z:Int) (hz:DM.det n A0=(z:Rat)) (hzb : -2147483647≤z∧z≤2147483647):∀ (l k:Nat) (A:Nat→Nat→Rat) (m:Nat→Rat) (M:List (List Int)) (b s:Int),k+l=n→DB n A m→(k<n→Tab n A k M)→dPv k A→(b:Rat)=Gb k A→(s=1∨s = -1)→(s:Rat)*DM.det n A=DM.det n A0→Il n l k M b s=z
  | 0,k,A,m,M,b,s,hk,hA,ht,hp,hb,hs,hd=>by
    have e:=M5 k 0 A hp
    rw [hk] at e
    rw [Il]
    have e2:DM.det 0 (G2 k A)=1:=rfl
    rw [e2,Rat.mul_one,← hb] at e
    rw [e,hz,← Rat.intCast_mul] at hd
    have:=Rat.intCast_inj.1 hd
    rw [this,Ap (by omega) (by omega)]
  | l+1,k,A,m,M,b,s,hk,hA,ht,hp,hb,hs,hd=>by
    have hkn:k<n:=by omega
    have ht:=ht hkn
    obtain ⟨f1,f2,f3,f4⟩:=Ua M k (n-k) k
    have swrap:wrap64 (-s) = -s:=Ap (n := -s) (by rcases hs with e|e <;> subst e <;> decide) (by rcases hs with e|e <;> subst e <;> decide)
    have next:∀ (A:Nat→Nat→Rat) (m:Nat→Rat) (M:List (List Int)) (s:Int),DB n A m→Tab n A k M→dPv k A→(b:Rat)=Gb k A→dAt M k k≠0→(s=1∨s = -1)→(s:Rat)*DM.det n A=DM.det n A0→Il n l (k+1) (G8 n k b (n-(k+1)) (k+1) M) (dAt (G8 n k b (n-(k+1)) (k+1) M) k k) s=z:=by
      intro A m M s hA ht hp hb h0 hs hd
      obtain ⟨r1,r2⟩:=dRow_at k b hkn (n-(k+1)) (k+1) M ht.1 (by omega) (by omega)
      have tkk:=ht.2 k k (Nat.le_refl _) hkn (Nat.le_refl _) hkn
      have hpk:=Ih k A hp 0 0
      simp only [Nat.add_zero] at hpk
      rw [tkk] at hpk
      have hne:G2 k A 0 0≠0:=by
        intro e
        rw [e] at hpk
        have zz:(dAt M k k:Rat)=((0:Int):Rat):=by rw [hpk];exact Rat.mul_zero _
        exact h0 (Rat.intCast_inj.1 zz)
      refine run_eq n A0 z hz hzb l (k+1) A m _ _ s (by omega) hA (fun hk1=>⟨r1,fun i j hi hin hj hjn=>?_⟩) ((Ma k A).2 ⟨hp,hne⟩) ?_ hs hd
      · rw [r2 i j hin hjn,if_pos ⟨hi,hj⟩]
        exact (Q1 hA ht hp hb hkn h0 hi hin hj hjn).2
      · rw [r2 k k hkn hkn,if_neg (by omega),M4,hpk]
    rw [Il]
    by_cases e:Ds M k (n-k) k=n
    · rw [if_pos e]
      have col0:DM.det n A=0:=by
        have sp:=M5 k (l+1) A hp
        rw [hk] at sp
        rw [sp,DM.det_zeroc (l+1) _ 0 (by omega) (fun r hr=>?_),Rat.mul_zero]
        have t:=ht.2 (k+r) k (by omega) (by omega) (Nat.le_refl _) hkn
        have q:=Ih k A hp r 0
        simp only [Nat.add_zero] at q
        rw [t,f3 (k+r) (by omega) (by omega)] at q
        have:=Qz k A hp
        have q':Gb k A*G2 k A r 0=0:=q.symm
        grind
      rw [col0,Rat.mul_zero,hz] at hd
      have:((0:Int):Rat)=(z:Rat):=hd
      exact Rat.intCast_inj.1 this
    · rw [if_neg e]
      have hne:=f4 (by omega)
      by_cases e2:Ds M k (n-k) k=k
      · rw [if_pos e2,if_pos e2]
        rw [e2] at hne
        exact next A m M s hA ht hp hb hne hs hd
      · rw [if_neg e2,if_neg e2,swrap]
        generalize hi:Ds M k (n-k) k=i at f1 f2 hne e e2
        have hki:k<i:=by omega
        have hin:i<n:=by omega
        obtain ⟨w1,w2⟩:=dSwap_at ht.1 hin hkn
        obtain ⟨p1,p2⟩:=pv_rw2 A i k (rw2 A k i) (by omega) (fun r c hr=>by unfold rw2;rw [if_neg (by omega),if_neg (by omega)]) hp
        refine next (rw2 A k i) _ (Ga M i k) (-s) (db_rw2 hA k i hki hin) ⟨w1,fun p q hp hpn hq hqn=>?_⟩ p1 (by rw [p2];exact hb) ?_ (by omega) ?_
        · rw [sub_rw2 A k i p q (by omega) hp,w2]
          exact ht.2 _ q (by split;omega;split;omega;exact hp) (by split;omega;split;omega;exact hpn) hq hqn
        · rw [w2,if_pos rfl];exact hne
        · rw [det_rw2 n A k i hki hin,Rat.intCast_neg]
          grind
theorem detF_eq (n:Nat) (hn:0<n) (A:Nat→Nat→Int) (M:List (List Int)) (hM:Dim n M) (hA:∀ i j,i<n→j<n→dAt M i j=A i j) (m:Nat→Rat) (h:DB n (fun r c=>(A r c:Rat)) m):∃ z:Int,Jh M=some z∧DM.det n (fun r c=>(A r c:Rat))=(z:Rat) ∧ -2147483647≤z∧z≤2147483647:=by
  obtain ⟨z,hz⟩:=DM.det_int n (fun r c=>(A r c:Rat)) (fun r c _ _=>⟨_,rfl⟩)
  have zb : -2147483647≤z∧z≤2147483647:=by
    have:=DM.det_bound n (fun r c=>(A r c:Rat)) m (fun r _=>by have:=h.one r;grind) h.row
    have t:=h.top
    rw [hz] at this
    have a : (z : Rat) ≤ ((2147483647 : Int) : Rat) := by have e : ((2147483647 : Int) : Rat) = 2147483647 := rfl
                                                          rw [e];grind
    have b : ((-2147483647 : Int) : Rat) ≤ (z : Rat) := by have e : ((-2147483647 : Int) : Rat) = -2147483647 := rfl
                                                           rw [e];grind
    exact ⟨Rat.intCast_le_intCast.1 b,Rat.intCast_le_intCast.1 a⟩
  refine ⟨z,?_,hz,zb⟩
  unfold Jh
  rw [if_pos]
  · congr 1
    rw [hM.1]
    refine run_eq n _ z hz zb n 0 (fun r c=>(A r c:Rat)) m M 1 1 (by omega) h (fun _=>⟨hM,fun i j _ hi _ hj=>?_⟩) trivial rfl (Or.inl rfl) (by rw [show ((1:Int):Rat)=1 from rfl,Rat.one_mul])
    rw [hA i j hi hj]
    simp only [DM.det,DM.sm,Gi,DM.sg,Nat.not_lt_zero,if_false]
    simp;grind
  · refine ⟨fun e=>by have:=hM.1;rw [e] at this;simp at this;omega,fun R hR=>?_⟩
    obtain ⟨j,hj,rfl⟩:=List.mem_iff_getElem.1 hR
    have h1:=hM.1
    have h2:=hM.2 j (by omega)
    rw [List.getD_eq_getElem?_getD,List.getElem?_eq_getElem hj] at h2
    simp only [Option.getD_some] at h2
    omega

/-! ### the table of a net as numbers: what its determinants are -/
def bI (p:Prop) [Decidable p]:Int:=if p then 1 else 0
def wd (w:Wr) (i j:Nat):Int:=bI (w.f0=i∧w.f0=j)+bI (w.f1=i∧w.f1=j)-bI (w.f0=i∧w.f1=j)-bI (w.f1=i∧w.f0=j)
def Lf:List Wr→Nat→Nat→Int
  | [],_,_=>0
  | w::t,i,j=>wd w i j+Lf t i j
def dg:List Wr→Nat→Nat
  | [],_=>0
  | w::t,i=>(if w.f0=i then 1 else 0)+(if w.f1=i then 1 else 0)+dg t i
theorem Mb (p:Prop) [Decidable p]:0≤bI p∧bI p≤1:=by unfold bI;split <;> omega
theorem wd_bd (w:Wr) (i j:Nat) : -2≤wd w i j∧wd w i j≤2:=by
  unfold wd
  have:=Mb (w.f0=i∧w.f0=j);have:=Mb (w.f1=i∧w.f1=j);have:=Mb (w.f0=i∧w.f1=j);have:=Mb (w.f1=i∧w.f0=j)
  omega
theorem Lf_bd:∀ (t:List Wr) (i j:Nat),-(2*(t.length:Int))≤Lf t i j∧Lf t i j≤2*(t.length:Int)
  | [],_,_=>by simp [Lf]
  | w::t,i,j=>by
    have:=Lf_bd t i j;have:=wd_bd w i j
    simp only [Lf,List.length_cons];omega
theorem dAt_put {m:Nat} {M:List (List Int)} (hd:Dim m M) {i j:Int} (hi0:0≤i) (hi:i<m) (hj0:0≤j) (hj:j<m) (x:Int):Dim m (M.set i.toNat ((Af M i).set j.toNat x))∧∀ p q:Nat,dAt (M.set i.toNat ((Af M i).set j.toNat x)) p q=if i=p∧j=q then x else dAt M p q:=by
  have h:=Rh (M:=M) (i:=i.toNat) (j:=j.toNat) (by rw [hd.1];omega) (by rw [hd.2 _ (by omega)];omega) x
  refine ⟨dim_put hd i.toNat j.toNat x,fun p q=>?_⟩
  have:=h p q
  unfold Gg at this
  unfold Af
  rw [this]
  by_cases e:i=p∧j=q
  · rw [if_pos e,if_pos (by omega)]
  · rw [if_neg e,if_neg (by omega)]
theorem up_at {m:Nat} {M:List (List Int)} (hd:Dim m M) {i j:Int} (hi0:0≤i) (hi:i<m) (hj0:0≤j) (hj:j<m) (hb:∀ p q:Nat,-1000≤dAt M p q∧dAt M p q≤1000):Dim m (Gx M i j)∧∀ p q:Nat,dAt (Gx M i j) p q=dAt M p q+bI (i=p∧j=q):=by
  obtain ⟨h1,h2⟩:=dAt_put hd hi0 hi hj0 hj (wrap64 ((rd (Af M i) j)+1))
  refine ⟨h1,fun p q=>?_⟩
  have b:=hb i.toNat j.toNat
  unfold Gx
  rw [h2]
  unfold bI
  split
  · rename_i e
    have e1:rd (Af M i) j=dAt M p q:=by
      obtain ⟨rfl,rfl⟩:=e;unfold rd Af dAt;rw [Int.toNat_natCast,Int.toNat_natCast]
    rw [e1,Ap (by have:=hb p q;omega) (by have:=hb p q;omega)]
  · omega
theorem dn_at {m:Nat} {M:List (List Int)} (hd:Dim m M) {i j:Int} (hi0:0≤i) (hi:i<m) (hj0:0≤j) (hj:j<m) (hb:∀ p q:Nat,-1000≤dAt M p q∧dAt M p q≤1000):Dim m (dnAt M i j)∧∀ p q:Nat,dAt (dnAt M i j) p q=dAt M p q-bI (i=p∧j=q):=by
  obtain ⟨h1,h2⟩:=dAt_put hd hi0 hi hj0 hj (wrap64 ((rd (Af M i) j)-1))
  refine ⟨h1,fun p q=>?_⟩
  unfold dnAt
  rw [h2]
  unfold bI
  split
  · rename_i e
    have e1:rd (Af M i) j=dAt M p q:=by
      obtain ⟨rfl,rfl⟩:=e;unfold rd Af dAt;rw [Int.toNat_natCast,Int.toNat_natCast]
    rw [e1,Ap (by have:=hb p q;omega) (by have:=hb p q;omega)]
  · omega
theorem step_atL {m:Nat} {M:List (List Int)} (hd:Dim m M) {w:Wr} (h0:0≤w.f0) (h1:0≤w.f1) (hb:∀ p q:Nat,-900≤dAt M p q∧dAt M p q≤900):Dim m (Di (m:Int) M w)∧∀ p q:Nat,p<m→q<m→dAt (Di (m:Int) M w) p q=dAt M p q+wd w p q:=by
  have B:=fun (p:Prop) [Decidable p]=>Mb p
  have off0:∀ p q:Nat,p<m→q<m→¬ w.f0<m→bI (w.f0=p∧w.f0=q)=0∧bI (w.f0=p∧w.f1=q)=0∧bI (w.f1=p∧w.f0=q)=0:=fun p q hp hq a=>by
    unfold bI;rw [if_neg (by omega),if_neg (by omega),if_neg (by omega)];exact ⟨rfl,rfl,rfl⟩
  have off1:∀ p q:Nat,p<m→q<m→¬ w.f1<m→bI (w.f1=p∧w.f1=q)=0∧bI (w.f0=p∧w.f1=q)=0∧bI (w.f1=p∧w.f0=q)=0:=fun p q hp hq a=>by
    unfold bI;rw [if_neg (by omega),if_neg (by omega),if_neg (by omega)];exact ⟨rfl,rfl,rfl⟩
  unfold Di
  by_cases b:w.f1<m
  · rw [if_pos b]
    by_cases a:w.f0<m
    · rw [if_pos a]
      obtain ⟨d1,e1⟩:=up_at hd h0 a h0 a (fun p q=>by have:=hb p q;omega)
      have b1:∀ p q:Nat,-901≤dAt (Gx M w.f0 w.f0) p q∧dAt (Gx M w.f0 w.f0) p q≤901:=fun p q=>by
        have:=hb p q;have:=B (w.f0=p∧w.f0=q);rw [e1];omega
      obtain ⟨d2,e2⟩:=up_at d1 h1 b h1 b (fun p q=>by have:=b1 p q;omega)
      have b2:∀ p q:Nat,-902≤dAt (Gx (Gx M w.f0 w.f0) w.f1 w.f1) p q∧dAt (Gx (Gx M w.f0 w.f0) w.f1 w.f1) p q≤902:=fun p q=>by
        have:=b1 p q;have:=B (w.f1=p∧w.f1=q);rw [e2];omega
      obtain ⟨d3,e3⟩:=dn_at d2 h0 a h1 b (fun p q=>by have:=b2 p q;omega)
      have b3:∀ p q:Nat,-903≤dAt (dnAt (Gx (Gx M w.f0 w.f0) w.f1 w.f1) w.f0 w.f1) p q∧dAt (dnAt (Gx (Gx M w.f0 w.f0) w.f1 w.f1) w.f0 w.f1) p q≤903:=fun p q=>by
        have:=b2 p q;have:=B (w.f0=p∧w.f1=q);rw [e3];omega
      obtain ⟨d4,e4⟩:=dn_at d3 h1 b h0 a (fun p q=>by have:=b3 p q;omega)
      refine ⟨d4,fun p q _ _=>?_⟩
      rw [e4,e3,e2,e1]
      unfold wd;omega
    · rw [if_neg a]
      obtain ⟨d1,e1⟩:=up_at hd h1 b h1 b (fun p q=>by have:=hb p q;omega)
      refine ⟨d1,fun p q hp hq=>?_⟩
      obtain ⟨o1,o2,o3⟩:=off0 p q hp hq a
      rw [e1];unfold wd;omega
  · rw [if_neg b]
    by_cases a:w.f0<m
    · rw [if_pos a]
      obtain ⟨d1,e1⟩:=up_at hd h0 a h0 a (fun p q=>by have:=hb p q;omega)
      refine ⟨d1,fun p q hp hq=>?_⟩
      obtain ⟨o1,o2,o3⟩:=off1 p q hp hq b
      rw [e1];unfold wd;omega
    · rw [if_neg a]
      refine ⟨hd,fun p q hp hq=>?_⟩
      obtain ⟨o1,o2,o3⟩:=off1 p q hp hq b
      obtain ⟨o4,_,_⟩:=off0 p q hp hq a
      unfold wd;omega
theorem dAt_out {m:Nat} {M:List (List Int)} (hd:Dim m M) (p q:Nat) (h:¬ (p<m∧q<m)):dAt M p q=0:=by
  unfold dAt
  by_cases e:p<m
  · rw [List.getD_eq_getElem?_getD,List.getElem?_eq_none (by rw [hd.2 p e];omega)];rfl
  · have:M.getD p []=[]:=by rw [List.getD_eq_getElem?_getD,List.getElem?_eq_none (by rw [hd.1];omega)];rfl
    rw [this];rfl
theorem fold_at {m : Nat} : ∀ (t : List Wr) (M : List (List Int)) (k : Int), 0 ≤ k → k + 2 * (t.length : Int) ≤ 900 → (∀ w ∈ t, 0 ≤ w.f0 ∧ 0 ≤ w.f1) → Dim m M → (∀ p q : Nat, p < m → q < m → -k ≤ dAt M p q ∧ dAt M p q ≤ k) →
    Dim m (t.foldl (Di (m:Int)) M)∧∀ p q:Nat,p<m→q<m→dAt (t.foldl (Di (m:Int)) M) p q=dAt M p q+Lf t p q
  | [],M,_,_,_,_,hd,_=>⟨hd,fun p q _ _=>by simp [Lf]⟩
  | w::t,M,k,hk,hl,hw,hd,hb=>by
    simp only [List.length_cons] at hl
    have hw0:=hw w List.mem_cons_self
    have hb':∀ p q:Nat,-900≤dAt M p q∧dAt M p q≤900:=fun p q=>by
      by_cases e:p<m∧q<m
      · have:=hb p q e.1 e.2;omega
      · rw [dAt_out hd p q e];omega
    obtain ⟨d1,e1⟩:=step_atL hd hw0.1 hw0.2 hb'
    obtain ⟨d2,e2⟩:=fold_at t (Di (m:Int) M w) (k+2) (by omega) (by omega) (fun x hx=>hw x (List.mem_cons_of_mem _ hx)) d1 (fun p q hp hq=>by
      have:=hb p q hp hq;have:=wd_bd w p q;rw [e1 p q hp hq];omega)
    refine ⟨d2,fun p q hp hq=>?_⟩
    rw [List.foldl_cons,e2 p q hp hq,e1 p q hp hq,Lf];omega
theorem lap_at {m:Nat} {ws:List Wr} (hl:ws.length≤400) (hw:∀ w ∈ ws,0≤w.f0∧0≤w.f1):Dim m (lap (m:Int) ws)∧∀ p q:Nat,p<m→q<m→dAt (lap (m:Int) ws) p q=Lf ws p q:=by
  have hd:Dim m (List.replicate (m:Int).toNat (Z (m:Int))):=⟨by simp,fun i hi=>by
    rw [List.getD_eq_getElem?_getD,List.getElem?_eq_getElem (by simpa using hi)];simp [Z]⟩
  have h0:∀ p q:Nat,p<m→q<m→dAt (List.replicate (m:Int).toNat (Z (m:Int))) p q=0:=fun p q hp hq=>by
    have e:(List.replicate (m:Int).toNat (Z (m:Int))).getD p []=Z (m:Int):=by
      rw [List.getD_eq_getElem?_getD,List.getElem?_eq_getElem (by simpa using hp)];simp
    unfold dAt
    rw [e]
    unfold Z
    rw [List.getD_eq_getElem?_getD,List.getElem?_eq_getElem (by simpa using hq)];simp
  obtain ⟨h1,h2⟩:=fold_at ws _ 0 (by omega) (by omega) hw hd (fun p q hp hq=>by rw [h0 p q hp hq];omega)
  refine ⟨h1,fun p q hp hq=>?_⟩
  unfold lap
  rw [h2 p q hp hq,h0 p q hp hq];omega
/-! the rows' bounds -/
theorem rowB_add {n:Nat} {a b:Nat→Rat} {x y:Rat} (ha:DM.RowB n a x) (hb:DM.RowB n b y):DM.RowB n (fun c=>a c+b c) (x+y):=by
  obtain ⟨a1,a2⟩:=ha;obtain ⟨b1,b2⟩:=hb
  have go:∀ u v:Nat→Rat,DM.sm n (fun c=>DM.pp (u c+v c))≤DM.sm n (fun c=>DM.pp (u c))+DM.sm n (fun c=>DM.pp (v c)):=fun u v=>by
    have h:=DM.sm_le (f:=fun c=>DM.pp (u c+v c)) (g:=fun c=>1*DM.pp (u c)+1*DM.pp (v c)) n (fun c _=>by have:=DM.pp_add (u c) (v c);grind)
    rw [DM.sm_lin] at h;grind
  have g1:=go a b
  have g2:=go (fun c => - a c) (fun c => - b c)
  have e:(fun c=>DM.pp (-(a c+b c)))=fun c=>DM.pp (- a c + - b c):=by funext c;congr 1;grind
  exact ⟨by grind,by rw [e];grind⟩
theorem Rk (n:Nat):DM.RowB n (fun _=>0) 0:=by
  have:DM.sm n (fun _=>DM.pp 0)=0:=DM.sm_zero n (fun _ _=>by unfold DM.pp;split <;> rfl)
  have e:(fun _:Nat=>DM.pp (-0))=fun _=>DM.pp 0:=by funext _;congr 1
  refine ⟨by rw [this];exact Rat.le_refl,?_⟩
  rw [e,this];exact Rat.le_refl
/-- at most one place is 1, at most one is -1 -/
theorem Ub (n:Nat) (a b:Int) (h:a≠b):DM.RowB n (fun c=>((bI (a=c)-bI (b=c):Int):Rat)) 1:=by
  have one:∀ x:Int,DM.sm n (fun c=>if x=c then (1:Rat) else 0)≤1:=fun x=>by
    by_cases e:0≤x∧x<n
    · rw [DM.sm_one x.toNat n (by omega) (fun j hj hne=>if_neg (by omega)),if_pos (by omega)];exact Rat.le_refl
    · rw [DM.sm_zero n (fun j hj=>if_neg (by omega))];grind
  have go:∀ x y:Int,x≠y→DM.sm n (fun c=>DM.pp ((bI (x=c)-bI (y=c):Int):Rat))≤1:=fun x y hxy=>by
    refine Rat.le_trans (DM.sm_le n (fun c _=>?_)) (one x)
    unfold bI
    by_cases e:x=c
    · rw [if_pos e,if_pos e,if_neg (fun q=>hxy (e.trans q.symm))]
      unfold DM.pp;split <;> decide
    · rw [if_neg e,if_neg e]
      by_cases e2:y=c
      · rw [if_pos e2];unfold DM.pp;split <;> grind
      · rw [if_neg e2];unfold DM.pp;split <;> grind
  refine ⟨go a b h,?_⟩
  have e:(fun c:Nat=>DM.pp (-((bI (a=c)-bI (b=c):Int):Rat)))=fun c:Nat=>DM.pp ((bI (b=c)-bI (a=c):Int):Rat):=by
    funext c;congr 1;rw [← Rat.intCast_neg];congr 1;omega
  rw [e];exact go b a (fun q=>h q.symm)
theorem G3 (p q:Prop) [Decidable p] [Decidable q]:bI (p∧q)=bI p*bI q:=by
  unfold bI
  by_cases a:p <;> by_cases b:q <;> simp [a,b]
theorem Qe (w:Wr) (_:w.f0≠w.f1) (r c:Nat):wd w r c=bI (w.f0=r)*(bI (w.f0=c)-bI (w.f1=c))+bI (w.f1=r)*(bI (w.f1=c)-bI (w.f0=c)):=by
  unfold wd
  rw [G3,G3,G3,G3];grind
theorem Q2 (n:Nat):∀ (t:List Wr) (_:∀ w ∈ t,w.f0≠w.f1) (r:Nat),DM.RowB n (fun c=>(Lf t r c:Rat)) ((dg t r:Int):Rat)
  | [],_,r=>by simpa [Lf,dg] using Rk n
  | w::t,hw,r=>by
    have ih:=Q2 n t (fun x hx=>hw x (List.mem_cons_of_mem _ hx)) r
    have h:=hw w List.mem_cons_self
    have e:(fun c:Nat=>(Lf (w::t) r c:Rat))=fun c=>(((wd w r c:Int):Rat)+(Lf t r c:Rat)):=by
      funext c;rw [Lf,Rat.intCast_add]
    have e2:(((dg (w::t) r:Nat):Int):Rat)=(((if w.f0=r then 1 else 0)+(if w.f1=r then 1 else 0):Int):Rat)+((dg t r:Int):Rat):=by
      rw [← Rat.intCast_add];congr 1;rw [dg];split <;> split <;> omega
    rw [e,e2]
    refine rowB_add ?_ ih
    by_cases e1:w.f0=r
    · rw [if_pos e1,if_neg (show ¬ w.f1=r from fun q=>h (e1.trans q.symm))]
      have:=Ub n w.f0 w.f1 h
      refine cast ?_ this
      congr 1
      funext c;congr 1
      rw [Qe w h]
      unfold bI
      rw [if_pos e1,if_neg (show ¬ w.f1=r from fun q=>h (e1.trans q.symm))];omega
    · by_cases e3:w.f1=r
      · rw [if_neg e1,if_pos e3]
        have:=Ub n w.f1 w.f0 (fun q=>h q.symm)
        refine cast ?_ this
        congr 1
        funext c;congr 1
        rw [Qe w h]
        unfold bI
        rw [if_neg e1,if_pos e3];omega
      · rw [if_neg e1,if_neg e3]
        refine cast ?_ (Rk n)
        congr 1
        funext c
        rw [Qe w h]
        unfold bI
        rw [if_neg e1,if_neg e3]
        simp
theorem four_step (x:Nat) (h:6≤x):(x+1)*(x+1)*(x+1)*(x+1)≤2*(x*x*x*x):=by
  have k2:=Nat.mul_le_mul (show 6*(x+1)≤7*x by omega) (show 6*(x+1)≤7*x by omega)
  have k3:=Nat.mul_le_mul k2 k2
  have k4:6*(x+1)*(6*(x+1))*(6*(x+1)*(6*(x+1)))=1296*((x+1)*(x+1)*(x+1)*(x+1)):=by
    generalize x+1=z;grind
  have k5:7*x*(7*x)*(7*x*(7*x))=2401*(x*x*x*x):=by grind
  rw [k4,k5] at k3
  generalize (x+1)*(x+1)*(x+1)*(x+1)=a at *
  generalize x*x*x*x=b at *
  clear k2 k4 k5
  omega
theorem four (d:Nat):(d+1)*(d+1)*(d+1)*(d+1)≤42*2 ^ d:=by
  by_cases h:d≤5
  · match d,h with
    | 0,_=>decide
    | 1,_=>decide
    | 2,_=>decide
    | 3,_=>decide
    | 4,_=>decide
    | 5,_=>decide
  · obtain ⟨e,rfl⟩:∃ e,d=e+5:=⟨d-5,by omega⟩
    clear h
    induction e with
    | zero=>decide
    | succ e ih =>
      rw [show e+1+5=(e+5)+1 by omega,Nat.pow_succ]
      exact Nat.le_trans (four_step (e+5+1) (by omega)) (Nat.le_trans (Nat.mul_le_mul_left 2 ih) (Nat.le_of_eq (by rw [Nat.mul_left_comm,Nat.mul_comm 2])))
def prN (t:List Wr):Nat→Nat
  | 0=>1
  | n+1=>prN t n*(dg t n+1)
def sdN (t:List Wr):Nat→Nat
  | 0=>0
  | n+1=>sdN t n+dg t n
theorem Uc (t:List Wr):∀ n,DM.pr n (fun r=>((dg t r+1:Int):Rat))=((prN t n:Int):Rat)
  | 0=>rfl
  | n+1=>by rw [DM.pr,Uc t n,← Rat.intCast_mul];congr 1
theorem Ud (t:List Wr):∀ n,prN t n*prN t n*prN t n*prN t n≤42 ^ n*2 ^ sdN t n
  | 0=>by simp [prN,sdN]
  | n+1=>by
    have h1:=Ud t n
    have h2:=four (dg t n)
    rw [prN,sdN,Nat.pow_add,Nat.pow_succ]
    have e:prN t n*(dg t n+1)*(prN t n*(dg t n+1))*(prN t n*(dg t n+1))*(prN t n*(dg t n+1))=(prN t n*prN t n*prN t n*prN t n)*((dg t n+1)*(dg t n+1)*(dg t n+1)*(dg t n+1)):=by grind
    rw [e]
    have:=Nat.mul_le_mul h1 h2
    refine Nat.le_trans this (Nat.le_of_eq ?_)
    grind
theorem sdN_le:∀ (t:List Wr) (n:Nat),sdN t n≤2*t.length
  | [],n=>by
    have:∀ n,sdN [] n=0:=fun n=>by induction n with
      | zero=>rfl
      | succ n ih=>rw [sdN,ih];rfl
    rw [this];exact Nat.zero_le _
  | w::t,n=>by
    have h:=sdN_le t n
    have e:∀ n:Nat,sdN (w::t) n=sdN t n+(if 0≤w.f0∧w.f0<n then 1 else 0)+(if 0≤w.f1∧w.f1<n then 1 else 0):=fun n=>by
      induction n with
      | zero=>simp only [sdN];rw [if_neg (by omega),if_neg (by omega)]
      | succ n ih =>
        have c:∀ v:Int,(if 0≤v∧v<((n+1:Nat):Int) then 1 else 0)=(if 0≤v∧v<(n:Int) then 1 else 0)+(if v=(n:Int) then 1 else 0):=fun v=>by
          split <;> split <;> split <;> omega
        rw [sdN,sdN,ih,dg,c,c]
        omega
    rw [e,List.length_cons]
    split <;> split <;> omega
theorem prN_le (t:List Wr) (n:Nat) (hn:n≤11) (ht:t.length≤30):prN t n≤2147483647:=by
  have h:=Ud t n
  have hs:=sdN_le t n
  have h1:42 ^ n≤42 ^ 11:=Nat.pow_le_pow_right (by omega) hn
  have h2:2 ^ sdN t n≤2 ^ 60:=Nat.pow_le_pow_right (by omega) (by omega)
  have h3:=Nat.le_trans h (Nat.mul_le_mul h1 h2)
  apply Decidable.byContradiction
  intro hc
  generalize prN t n=p at h3 hc
  have q:2147483648≤p:=by omega
  have q2:=Nat.mul_le_mul q q
  have q3:=Nat.mul_le_mul q2 q
  have q4:=Nat.mul_le_mul q3 q
  have:(42:Nat) ^ 11*2 ^ 60<2147483648*2147483648*2147483648*2147483648:=by decide
  omega
theorem db_lf {m:Nat} (hm:m≤11) {ws:List Wr} (hl:ws.length≤30) (hw:∀ w ∈ ws,w.f0≠w.f1):DB m (fun r c=>(Lf ws r c:Rat)) (fun r=>((dg ws r+1:Int):Rat)):=by
  refine ⟨fun r c=>⟨_,rfl⟩,fun c=>?_,fun r _=>?_,?_⟩
  · have:((1:Int):Rat)≤((dg ws c+1:Int):Rat):=Rat.intCast_le_intCast.2 (by omega)
    exact this
  · obtain ⟨h1,h2⟩:=Q2 m ws hw r
    have:((dg ws r:Int):Rat)≤((dg ws r+1:Int):Rat):=Rat.intCast_le_intCast.2 (by omega)
    exact ⟨Rat.le_trans h1 this,Rat.le_trans h2 this⟩
  · rw [Uc]
    have:=prN_le ws m hm hl
    have:((prN ws m:Int):Rat)≤((2147483647:Int):Rat):=Rat.intCast_le_intCast.2 (by omega)
    exact this
/-- one place of a row anew, by 0 or 1 -/
theorem rowB_put {n:Nat} {a:Nat→Rat} {x:Rat} (c:Nat) (y:Rat) (hy:0≤y∧y≤1) (h:DM.RowB n a x):DM.RowB n (fun k=>if k=c then y else a k) (x+1):=by
  obtain ⟨h1,h2⟩:=h
  have go:∀ (u:Nat→Rat) (z:Rat),DM.pp z≤1→DM.sm n (fun k=>DM.pp (if k=c then z else u k))≤DM.sm n (fun k=>DM.pp (u k))+1:=fun u z hz=>by
    have e:(fun k=>DM.pp (if k=c then z else u k))=fun k=>if k=c then DM.pp z else DM.pp (u k):=by funext k;split <;> rfl
    rw [e]
    by_cases hc:c<n
    · rw [DM.sm_setat _ _ _ n hc];have:=DM.pp_nn (u c);grind
    · rw [DM.sm_congr n (g:=fun k=>DM.pp (u k)) (fun j hj=>if_neg (by omega))];grind
  have g1:=go a y (by unfold DM.pp;split <;> grind)
  have g2:=go (fun k => - a k) (-y) (by unfold DM.pp;split <;> grind)
  have e:(fun k=>DM.pp (-(if k=c then y else a k)))=fun k=>DM.pp (if k=c then -y else-a k):=by funext k;split <;> rfl
  exact ⟨by grind,by rw [e];grind⟩
def Lc (ws:List Wr) (c:Nat):Nat→Nat→Int:=fun i j=>if j=c then (if i=0 then 1 else 0) else Lf ws i j
theorem db_lc {m:Nat} (hm:m≤11) {ws:List Wr} (hl:ws.length≤30) (hw:∀ w ∈ ws,w.f0≠w.f1) (c:Nat):DB m (fun r k=>(Lc ws c r k:Rat)) (fun r=>((dg ws r+1:Int):Rat)):=by
  have h:=db_lf hm hl hw
  refine ⟨fun r c=>⟨_,rfl⟩,h.one,fun r _=>?_,h.top⟩
  have:=rowB_put c (if r=0 then (1:Rat) else 0) (by split <;> grind) (Q2 m ws hw r)
  have e:(fun k=>((Lc ws c r k:Int):Rat))=fun k=>if k=c then (if r=0 then (1:Rat) else 0) else ((Lf ws r k:Int):Rat):=by
    funext k;unfold Lc;split
    · split <;> rfl
    · rfl
  rw [e,Rat.intCast_add];exact this
theorem col_at {m:Nat} {ws:List Wr} (hl:ws.length≤400) (hw:∀ w ∈ ws,0≤w.f0∧0≤w.f1) (c:Nat) (hc:c<m):Dim m (En (G5 c) (lap (m:Int) ws) (lap (m:Int) ws).length)∧∀ p q:Nat,p<m→q<m→dAt (En (G5 c) (lap (m:Int) ws) (lap (m:Int) ws).length) p q=Lc ws c p q:=by
  obtain ⟨h1,h2⟩:=lap_at (m:=m) hl hw
  have row:∀ i,i<m→(En (G5 c) (lap (m:Int) ws) (lap (m:Int) ws).length).getD i []=((lap (m:Int) ws).getD i []).set c (if i=0 then 1 else 0):=fun i hi=>by
    rw [List.getD_eq_getElem?_getD,Gp,List.getD_eq_getElem?_getD,List.getElem?_eq_getElem (by rw [h1.1];exact hi)]
    simp only [Option.map_some,Option.getD_some]
    rw [if_pos (by rw [h1.1];exact hi)];rfl
  refine ⟨⟨by rw [Ia];exact h1.1,fun i hi=>by rw [row i hi,List.length_set];exact h1.2 i hi⟩,fun p q hp hq=>?_⟩
  unfold dAt Lc
  rw [row p hp,Jv _ _ _ _ _ (by rw [h1.2 p hp];exact hc),← h2 p q hp hq]
  split <;> rfl
/-! what is Mg 0 -/
def qf (n:Nat) (A:Nat→Nat→Rat) (x:Nat→Rat):Rat:=DM.sm n (fun i=>x i*DM.sm n (fun j=>A i j*x j))
def PD (n:Nat) (A:Nat→Nat→Rat):Prop:=(∀ i j,A i j=A j i)∧∀ x:Nat→Rat,(∃ i,i<n∧x i≠0)→0<qf n A x
theorem pd_head {n:Nat} {A:Nat→Nat→Rat} (h:PD (n+1) A):0<A 0 0:=by
  have:=h.2 (fun i=>if i=0 then 1 else 0) ⟨0,by omega,by rw [if_pos rfl];decide⟩
  unfold qf at this
  rw [DM.sm_one 0 (n+1) (by omega) (fun j _ hj=>by dsimp only;rw [if_neg hj];grind),DM.sm_one 0 (n+1) (by omega) (fun j _ hj=>by dsimp only;rw [if_neg hj];grind)] at this
  dsimp only at this
  rw [if_pos rfl] at this
  grind
theorem pd_schur {n:Nat} {A:Nat→Nat→Rat} (h:PD (n+1) A):PD n (DM.schur A):=by
  have h0:=pd_head h
  refine ⟨fun i j=>by unfold DM.schur;rw [h.1 (i+1) (j+1),h.1 (i+1) 0,h.1 0 (j+1)];grind,fun y hy=>?_⟩
  obtain ⟨i,hi,hne⟩:=hy
  let s:Rat:=DM.sm n (fun j=>A 0 (j+1)*y j)
  have hs:s=DM.sm n (fun j=>A 0 (j+1)*y j):=rfl
  clear_value s
  have:=h.2 (fun k=>if k=0 then-s/A 0 0 else y (k-1)) ⟨i+1,by omega,by rw [if_neg (by omega)];exact hne⟩
  unfold qf at this ⊢
  have row:∀ i,DM.sm (n+1) (fun j=>A i j*(if j=0 then-s/A 0 0 else y (j-1)))=A i 0*(- s/A 0 0)+DM.sm n (fun j=>A i (j+1)*y j):=fun i=>by
    rw [DM.sm_head,if_pos rfl]
    congr 1
  rw [DM.sm_head,row 0,← hs] at this
  dsimp only at this
  rw [if_pos rfl] at this
  have e1:DM.sm n (fun k=>(if k+1=0 then-s/A 0 0 else y (k+1-1))*DM.sm (n+1) (fun j=>A (k+1) j*(if j=0 then-s/A 0 0 else y (j-1))))=DM.sm n (fun k=>y k*(A (k+1) 0*(- s/A 0 0)+DM.sm n (fun j=>A (k+1) (j+1)*y j))):=DM.sm_congr n (fun k _=>by
    rw [row,if_neg (by omega),Nat.add_sub_cancel])
  rw [e1] at this
  have e2:DM.sm n (fun k=>y k*DM.sm n (fun j=>DM.schur A k j*y j))=DM.sm n (fun k=>y k*(A (k+1) 0*(- s/A 0 0)+DM.sm n (fun j=>A (k+1) (j+1)*y j))):=DM.sm_congr n (fun k _=>by
    have e3:DM.sm n (fun j=>DM.schur A k j*y j)=DM.sm n (fun j=>1*(A (k+1) (j+1)*y j)+(- (A (k+1) 0/A 0 0))*(A 0 (j+1)*y j)):=DM.sm_congr n (fun j _=>by unfold DM.schur;grind)
    rw [e3,DM.sm_lin,← hs];grind)
  rw [e2]
  have e4 : - s/A 0 0*(A 0 0*(- s/A 0 0)+s)=0:=by grind
  rw [e4] at this
  grind
theorem pd_det:∀ (n:Nat) (A:Nat→Nat→Rat),PD n A→0<DM.det n A
  | 0,_,_=>by simp only [DM.det];decide
  | n+1,A,h=>by
    have h0:=pd_head h
    rw [DM.det_step n A (by grind)]
    exact Rat.mul_pos h0 (pd_det n _ (pd_schur h))
theorem pd_tail {n:Nat} {A:Nat→Nat→Rat} (h:PD (n+1) A):PD n (fun i j=>A (i+1) (j+1)):=by
  refine ⟨fun i j=>h.1 _ _,fun x hx=>?_⟩
  obtain ⟨i,hi,hne⟩:=hx
  have:=h.2 (fun k=>if k=0 then 0 else x (k-1)) ⟨i+1,by omega,by rw [if_neg (by omega)];exact hne⟩
  unfold qf at this ⊢
  rw [DM.sm_head] at this
  dsimp only at this
  rw [if_pos rfl,Rat.zero_mul,Rat.zero_add] at this
  have e1:DM.sm n (fun k=>(if k+1=0 then 0 else x (k+1-1))*DM.sm (n+1) (fun j=>A (k+1) j*(if j=0 then 0 else x (j-1))))=DM.sm n (fun k=>x k*DM.sm n (fun j=>A (k+1) (j+1)*x j)):=DM.sm_congr n (fun k _=>by
    rw [DM.sm_head,if_pos rfl,Rat.mul_zero,Rat.zero_add,if_neg (by omega),Nat.add_sub_cancel]
    congr 1)
  rw [e1] at this
  exact this
theorem wd_comm (w:Wr) (i j:Nat):wd w i j=wd w j i:=by
  unfold wd
  rw [G3,G3,G3,G3,G3,G3,G3,G3];grind
theorem Lf_comm:∀ (t:List Wr) (i j:Nat),Lf t i j=Lf t j i
  | [],_,_=>rfl
  | w::t,i,j=>by rw [Lf,Lf,wd_comm,Lf_comm t]
/-- a number for each node, 0 from place m on -/
def nv (m:Nat) (x:Nat→Rat) (v:Int):Rat:=if 0≤v∧v<m then x v.toNat else 0
theorem sm_at (m:Nat) (x:Nat→Rat) (v:Int) (h0:0≤v):DM.sm m (fun j=>((bI (v=j):Int):Rat)*x j)=nv m x v:=by
  unfold nv
  by_cases e:v<m
  · rw [if_pos ⟨h0,e⟩,DM.sm_one v.toNat m (by omega) (fun j hj hne=>?_)]
    · unfold bI;rw [if_pos (by omega)];grind
    · unfold bI;rw [if_neg (by omega)];exact Rat.zero_mul _
  · rw [if_neg (by omega),DM.sm_zero m (fun j hj=>?_)]
    unfold bI;rw [if_neg (by omega)];exact Rat.zero_mul _
theorem wd_sum (m:Nat) (x:Nat→Rat) (w:Wr) (h0:0≤w.f0) (h1:0≤w.f1) (h:w.f0≠w.f1) (i:Nat):DM.sm m (fun j=>((wd w i j:Int):Rat)*x j)=(((bI (w.f0=i)-bI (w.f1=i):Int)):Rat)*(nv m x w.f0-nv m x w.f1):=by
  have e:DM.sm m (fun j=>((wd w i j:Int):Rat)*x j)=DM.sm m (fun j=>(((bI (w.f0=i)-bI (w.f1=i):Int)):Rat)*(((bI (w.f0=j):Int):Rat)*x j)+(-(((bI (w.f0=i)-bI (w.f1=i):Int)):Rat))*(((bI (w.f1=j):Int):Rat)*x j)):=DM.sm_congr m (fun j _=>by
    rw [Qe w h,Rat.intCast_add,Rat.intCast_mul,Rat.intCast_mul,Rat.intCast_sub,Rat.intCast_sub,Rat.intCast_sub];grind)
  rw [e,DM.sm_lin,sm_at m x _ h0,sm_at m x _ h1];grind
theorem wd_qf (m:Nat) (x:Nat→Rat) (w:Wr) (h0:0≤w.f0) (h1:0≤w.f1) (h:w.f0≠w.f1):qf m (fun i j=>((wd w i j:Int):Rat)) x=(nv m x w.f0-nv m x w.f1)*(nv m x w.f0-nv m x w.f1):=by
  unfold qf
  have e:DM.sm m (fun i=>x i*DM.sm m (fun j=>((wd w i j:Int):Rat)*x j))=DM.sm m (fun i=>(nv m x w.f0-nv m x w.f1)*(((bI (w.f0=i):Int):Rat)*x i)+(- (nv m x w.f0-nv m x w.f1))*(((bI (w.f1=i):Int):Rat)*x i)):=DM.sm_congr m (fun i _=>by
    rw [wd_sum m x w h0 h1 h,Rat.intCast_sub];grind)
  rw [e,DM.sm_lin,sm_at m x _ h0,sm_at m x _ h1];grind
theorem qf_add (m:Nat) (A B:Nat→Nat→Rat) (x:Nat→Rat):qf m (fun i j=>A i j+B i j) x=qf m A x+qf m B x:=by
  unfold qf
  have e:DM.sm m (fun i=>x i*DM.sm m (fun j=>(A i j+B i j)*x j))=DM.sm m (fun i=>1*(x i*DM.sm m (fun j=>A i j*x j))+1*(x i*DM.sm m (fun j=>B i j*x j))):=DM.sm_congr m (fun i _=>by
    have e2:DM.sm m (fun j=>(A i j+B i j)*x j)=DM.sm m (fun j=>1*(A i j*x j)+1*(B i j*x j)):=DM.sm_congr m (fun j _=>by grind)
    rw [e2,DM.sm_lin];grind)
  rw [e,DM.sm_lin];grind
theorem sqr_nn (a:Rat):0≤a*a:=by
  by_cases h:0≤a
  · exact Rat.mul_nonneg h h
  · have:=Rat.mul_nonneg (a := -a) (b := -a) (by grind) (by grind);grind
theorem lf_qf (m:Nat) (x:Nat→Rat):∀ (t:List Wr),(∀ w ∈ t,0≤w.f0∧0≤w.f1∧w.f0≠w.f1)→0≤qf m (fun i j=>(Lf t i j:Rat)) x∧∀ w ∈ t,(nv m x w.f0-nv m x w.f1)*(nv m x w.f0-nv m x w.f1)≤qf m (fun i j=>(Lf t i j:Rat)) x
  | [],_=>by
    refine ⟨?_,fun w hw=>by cases hw⟩
    unfold qf
    have e:DM.sm m (fun i=>x i*DM.sm m (fun j=>((Lf [] i j:Int):Rat)*x j))=0:=DM.sm_zero m (fun i _=>by
      rw [DM.sm_zero m (fun j _=>by rw [Lf];exact Rat.zero_mul _)];exact Rat.mul_zero _)
    rw [e];exact Rat.le_refl
  | w::t,hw=>by
    obtain ⟨i1,i2⟩:=lf_qf m x t (fun y hy=>hw y (List.mem_cons_of_mem _ hy))
    obtain ⟨h0,h1,h2⟩:=hw w List.mem_cons_self
    have e:(fun i j=>((Lf (w::t) i j:Int):Rat))=fun i j=>((wd w i j:Int):Rat)+((Lf t i j:Int):Rat):=by funext i j;rw [Lf,Rat.intCast_add]
    rw [e,qf_add,wd_qf m x w h0 h1 h2]
    have s:=sqr_nn (nv m x w.f0-nv m x w.f1)
    refine ⟨by grind,fun y hy=>?_⟩
    rcases List.mem_cons.1 hy with rfl|hy
    · grind
    · have:=i2 y hy;grind
theorem sqr_zero {a:Rat} (h:a*a≤0):a=0:=by
  have:a*a=0:=by have:=sqr_nn a;grind
  rcases Rat.mul_eq_zero.1 this with e|e <;> exact e
theorem pd_lap {m:Nat} {n:Int} (hm:n=m+1) {ws:List Wr} (h:B1 n ws):PD m (fun i j=>(Lf ws i j:Rat)):=by
  refine ⟨fun i j=>by dsimp only;rw [Lf_comm],fun x hx=>?_⟩
  have hw:∀ w ∈ ws,0≤w.f0∧0≤w.f1∧w.f0≠w.f1:=fun w hq=>⟨(h.2.2.1 w hq).1.1,(h.2.2.1 w hq).2.1.1,(h.2.2.1 w hq).2.2⟩
  obtain ⟨q0,q1⟩:=lf_qf m x ws hw
  apply Classical.byContradiction
  intro hn
  have z:qf m (fun i j=>(Lf ws i j:Rat)) x≤0:=by grind
  have eqw:∀ w ∈ ws,nv m x w.f0=nv m x w.f1:=fun w hq=>by
    have:=sqr_zero (Rat.le_trans (q1 w hq) z);grind
  have all:∀ v,Ee ws v→nv m x v=nv m x 0:=by
    intro v hv
    induction hv with
    | zero=>rfl
    | fwd w hw _ ih=>rw [← eqw w hw];exact ih
    | bwd w hw _ ih=>rw [eqw w hw];exact ih
  have l:=all (n-1) (h.2.2.2 (n-1) (by omega) (by omega))
  have l0:nv m x (n-1)=0:=by unfold nv;rw [if_neg (by omega)]
  obtain ⟨i,hi,hne⟩:=hx
  have li:=all (i:Int) (h.2.2.2 (i:Int) (by omega) (by omega))
  have e:nv m x (i:Int)=x i:=by unfold nv;rw [if_pos (by omega),Int.toNat_natCast]
  rw [← e,li,← l,l0] at hne
  exact hne rfl
theorem Kl {n:Int} {ws:List Wr} (h:B1 n ws):∃ z:Int,Jh (lap (n-1) ws)=some z∧DM.det (n-1).toNat (fun r c=>(Lf ws r c:Rat))=(z:Rat)∧0<z∧z≤2147483647:=by
  have hn:=h.1
  obtain ⟨m,hm⟩:∃ m:Nat,n=m+1:=⟨(n-1).toNat,by omega⟩
  have hw:∀ w ∈ ws,0≤w.f0∧0≤w.f1:=fun w hq=>⟨(h.2.2.1 w hq).1.1,(h.2.2.1 w hq).2.1.1⟩
  rw [show n-1=(m:Int) by omega,Int.toNat_natCast]
  obtain ⟨h1,h2⟩:=lap_at (m:=m) (ws:=ws) (by have:=h.2.1;omega) hw
  obtain ⟨z,z1,z2,z3,z4⟩:=detF_eq m (by omega) (Lf ws) _ h1 h2 _ (db_lf (m:=m) (by omega) h.2.1 (fun w hq=>(h.2.2.1 w hq).2.2))
  have p:=pd_det m _ (pd_lap hm h)
  rw [z2] at p
  exact ⟨z,z1,z2,Rat.intCast_pos.1 p,z4⟩
theorem Q3 {n:Int} {ws:List Wr} (h:B1 n ws) (c:Nat) (hc:(c:Int)<n-1):∃ z:Int,Jh (En (G5 c) (lap (n-1) ws) (lap (n-1) ws).length)=some z∧DM.det (n-1).toNat (fun r k=>(Lc ws c r k:Rat))=(z:Rat) ∧ -2147483647≤z∧z≤2147483647∧(c=0→0<z):=by
  have hn:=h.1
  obtain ⟨m,hm⟩:∃ m:Nat,n=m+1:=⟨(n-1).toNat,by omega⟩
  have hw:∀ w ∈ ws,0≤w.f0∧0≤w.f1:=fun w hq=>⟨(h.2.2.1 w hq).1.1,(h.2.2.1 w hq).2.1.1⟩
  rw [show n-1=(m:Int) by omega,Int.toNat_natCast]
  obtain ⟨h1,h2⟩:=col_at (m:=m) (ws:=ws) (by have:=h.2.1;omega) hw c (by omega)
  obtain ⟨z,z1,z2,z3,z4⟩:=detF_eq m (by omega) (Lc ws c) _ h1 h2 _ (db_lc (m:=m) (by omega) h.2.1 (fun w hq=>(h.2.2.1 w hq).2.2) c)
  refine ⟨z,z1,z2,z3,z4,fun hc0=>?_⟩
  subst hc0
  obtain ⟨k,rfl⟩:∃ k,m=k+1:=⟨m-1,by omega⟩
  have p:=pd_det k _ (pd_tail (pd_lap hm h))
  have e0:((Lc ws 0 0 0:Int):Rat)=1:=rfl
  rw [DM.det_step k _ (by rw [e0];decide),e0,Rat.one_mul] at z2
  have e:DM.det k (DM.schur (fun r k=>(Lc ws 0 r k:Rat)))=DM.det k (fun i j=>(Lf ws (i+1) (j+1):Rat)):=DM.det_congr k (fun r c _ _=>by
    unfold DM.schur
    have x1:((Lc ws 0 (r+1) 0:Int):Rat)=0:=rfl
    have x2:((Lc ws 0 (r+1) (c+1):Int):Rat)=(Lf ws (r+1) (c+1):Rat):=by unfold Lc;rw [if_neg (by omega)]
    dsimp only;rw [x1,x2];grind)
  rw [e] at z2
  rw [z2] at p
  exact Rat.intCast_pos.1 p

/-! ### the potentials of a joined net: small, and the first pole's is Mg 0 -/
theorem pots_at (n:Int) (ws:List Wr):∀ (m i:Nat),i<m→(Ji n ws m)[i]? = some (pot n ws i)
  | 0,i,h=>by omega
  | m+1,i,h=>by
    rw [Ji]
    by_cases e:i<m
    · rw [List.getElem?_append_left (by rw [E7];exact e)];exact pots_at n ws m i e
    · obtain rfl:i=m:=by omega
      rw [List.getElem?_append_right (by rw [E7];exact Nat.le_refl _),E7,Nat.sub_self];rfl
theorem rd_pot (n:Int) (ws:List Wr) (i:Nat) (hi:(i:Int)<n-1):rd (Ba n ws) (i:Int)=pot n ws i:=by
  unfold rd Ba
  rw [Int.toNat_natCast,List.getD_eq_getElem?_getD,List.getElem?_append_left (by rw [E7];omega),pots_at n ws _ i (by omega)];rfl
theorem Kt (n:Int) (ws:List Wr):rd (Ba n ws) (n-1)=0:=by
  unfold rd Ba
  rw [List.getD_eq_getElem?_getD,List.getElem?_append_right (by rw [E7];exact Nat.le_refl _),E7,Nat.sub_self];rfl
theorem J1 {n:Int} {ws:List Wr} (h:B1 n ws) (j:Int) (h0:0≤j) (h1:j≤n-1) : -2147483647≤rd (Ba n ws) j∧rd (Ba n ws) j≤2147483647:=by
  by_cases e:j=n-1
  · rw [e,Kt];omega
  · obtain ⟨i,rfl⟩:∃ i:Nat,j=i:=⟨j.toNat,by omega⟩
    rw [rd_pot n ws i (by omega)]
    obtain ⟨z,z1,_,z3,z4,_⟩:=Q3 h i (by omega)
    unfold pot det
    rw [z1];exact ⟨z3,z4⟩
theorem Ku {n:Int} {ws:List Wr} (h:B1 n ws):0<rd (Ba n ws) 0:=by
  have hn:=h.1
  have e:=rd_pot n ws 0 (by omega)
  obtain ⟨z,z1,_,z3,z4,z5⟩:=Q3 h 0 (by omega)
  have e2:rd (Ba n ws) 0=pot n ws 0:=e
  rw [e2]
  unfold pot det
  rw [z1];exact z5 rfl
theorem M7 {n:Int} {ws:List Wr} (h:B1 n ws):0<det (lap (n-1) ws):=by
  obtain ⟨z,z1,_,z3,_⟩:=Kl h
  unfold det
  rw [z1];exact z3

/-! ### greatest common divisors of a row's sizes -/
def cg (a b:Int):Int:=if 0<b then ((Nat.gcd a.toNat b.toNat:Nat):Int) else a
theorem cg_nn {a b:Int} (h:0≤a):0≤cg a b:=by unfold cg;split <;> omega
theorem cg_zero {a b:Int} (h:0≤a) (e:cg a b=0):a=0∧b≤0:=by
  unfold cg at e
  split at e
  · rename_i hb
    have e1:Nat.gcd a.toNat b.toNat=0:=by omega
    have:=(Nat.gcd_eq_zero_iff.1 e1).2
    omega
  · omega
theorem impl_cg (a b:Int) (h:0≤a):Ev (fun k=>Cp.f k a b) (cg a b):=by
  unfold Cp.f cg
  by_cases hb:0<b
  · rw [if_pos hb]
    have g:=Kr b.toNat a.toNat
    rw [Int.toNat_of_nonneg (by omega),Int.toNat_of_nonneg (by omega)] at g
    exact g
  · rw [if_neg hb]
    refine Ev.succ ?_
    simp only [Cp.l0]
    exact Ev.neg (by omega) (Ev.now _)
theorem spec_cg (a b:Int) (h:0≤a):Ev (fun k=>Cl.f k a b) (cg a b):=by
  unfold Cl.f cg
  by_cases hb:0<b
  · rw [if_pos hb]
    have g:=Ks b.toNat a.toNat
    rw [Int.toNat_of_nonneg (by omega),Int.toNat_of_nonneg (by omega)] at g
    exact g
  · rw [if_neg hb]
    refine Ev.succ ?_
    simp only [Cl.l0]
    exact Ev.neg (by omega) (Ev.now _)
def sz (c:Int):Int:=mx c (wrap64 (-c))
def cgs (a:Int) (l:List Int):Int:=l.foldl (fun a c=>cg a (sz c)) a
theorem cgs_nn:∀ (l:List Int) (a:Int),0≤a→0≤cgs a l
  | [],_,h=>h
  | c::l,a,h=>cgs_nn l (cg a (sz c)) (cg_nn h)
theorem Ue:∀ (l:List Int) (a:Int),0≤a→cgs a l=0→a=0∧∀ c ∈ l,sz c≤0
  | [],a,_,e=>⟨e,fun c hc=>by cases hc⟩
  | c::l,a,h,e=>by
    obtain ⟨h1,h2⟩:=Ue l (cg a (sz c)) (cg_nn h) e
    obtain ⟨h3,h4⟩:=cg_zero h h1
    exact ⟨h3,fun q hq=>by rcases List.mem_cons.1 hq with rfl|hq;exact h4;exact h2 q hq⟩
theorem Qf (l:List Int) (i:Nat) (c:Int) (t:List Int) (h:l.drop i=c::t):i<l.length∧rd l (i:Int)=c∧l.drop (i+1)=t:=by
  have h1:i<l.length:=by
    rcases Nat.lt_or_ge i l.length with q|q
    · exact q
    · rw [List.drop_eq_nil_of_le q] at h;cases h
  rw [List.drop_eq_getElem_cons h1] at h
  injection h with e1 e2
  refine ⟨h1,?_,e2⟩
  unfold rd
  rw [Int.toNat_natCast,List.getD_eq_getElem?_getD,List.getElem?_eq_getElem h1];exact e1
def Nn (g:Int) (l:List Int):List Int:=l.map (fun c=>wrap64 (Int.tdiv c g))
theorem U8 (g : Int) (l : List Int) (hl : l.length ≤ 1000) (hg : l ≠ [] → g ≠ 0) : ∀ (t : List Int) (i : Nat) (a : List Int), l.drop i = t → i + t.length = l.length → a = (l.take i).map (fun c => wrap64 (Int.tdiv c g)) ++ t →
    Ev (fun k=>Bl.l1 k a g (l.length:Int) (i:Int)) (Nn g l,true):=by
  intro t
  induction t with
  | nil =>
    intro i a hd hi ha
    refine Ev.succ ?_
    simp only [Bl.l1]
    simp only [List.length_nil] at hi
    refine Ev.neg (by omega) (Ev.eqr (Ev.now _) ?_)
    rw [ha,List.take_of_length_le (by omega),List.append_nil];rfl
  | cons c t ih =>
    intro i a hd hi ha
    obtain ⟨h1,h2,h3⟩:=Qf l i c t hd
    have hlen:((l.take i).map (fun c=>wrap64 (Int.tdiv c g))).length=i:=by rw [List.length_map,List.length_take];omega
    have hal:a.length=l.length:=by rw [ha,List.length_append,hlen];exact hi
    have hra:rd a (i:Int)=c:=by
      unfold rd
      rw [Int.toNat_natCast,List.getD_eq_getElem?_getD,ha,List.getElem?_append_right (by rw [hlen];exact Nat.le_refl _),hlen,Nat.sub_self];rfl
    refine Ev.succ ?_
    simp only [Bl.l1]
    refine Ev.pos (by omega) (Ev.pos (by omega) (Ev.pos (by omega) (Ev.neg (hg (by rintro rfl;simp at h1)) ?_)))
    rw [Ap (n:=(i:Int)+1) (by omega) (by omega),hra,Int.toNat_natCast]
    refine ih (i+1) _ h3 (by simp only [List.length_cons] at hi;omega) ?_
    have e:l.take (i+1)=l.take i++[c]:=by
      rw [List.take_add_one,List.getElem?_eq_getElem h1]
      have:l[i]=c:=by
        unfold rd at h2
        rw [Int.toNat_natCast,List.getD_eq_getElem?_getD,List.getElem?_eq_getElem h1] at h2;exact h2
      rw [this];rfl
    rw [ha,List.set_append_right _ _ (by rw [hlen];exact Nat.le_refl _),hlen,Nat.sub_self,e,List.map_append,List.append_assoc];rfl
theorem U9 (g : Int) (l : List Int) (hl : l.length ≤ 1000) (hg : l ≠ [] → g ≠ 0) : ∀ (t : List Int) (i : Nat) (a : List Int), l.drop i = t → i + t.length = l.length → a = (l.take i).map (fun c => wrap64 (Int.tdiv c g)) ++ t →
    Ev (fun k=>Bj.l1 k a g (l.length:Int) (i:Int)) (Nn g l,true):=by
  intro t
  induction t with
  | nil =>
    intro i a hd hi ha
    refine Ev.succ ?_
    simp only [Bj.l1]
    simp only [List.length_nil] at hi
    refine Ev.neg (by omega) (Ev.eqr (Ev.now _) ?_)
    rw [ha,List.take_of_length_le (by omega),List.append_nil];rfl
  | cons c t ih =>
    intro i a hd hi ha
    obtain ⟨h1,h2,h3⟩:=Qf l i c t hd
    have hlen:((l.take i).map (fun c=>wrap64 (Int.tdiv c g))).length=i:=by rw [List.length_map,List.length_take];omega
    have hal:a.length=l.length:=by rw [ha,List.length_append,hlen];exact hi
    have hra:rd a (i:Int)=c:=by
      unfold rd
      rw [Int.toNat_natCast,List.getD_eq_getElem?_getD,ha,List.getElem?_append_right (by rw [hlen];exact Nat.le_refl _),hlen,Nat.sub_self];rfl
    refine Ev.succ ?_
    simp only [Bj.l1]
    refine Ev.pos (by omega) (Ev.pos (by omega) (Ev.pos (by omega) (Ev.neg (hg (by rintro rfl;simp at h1)) ?_)))
    rw [Ap (n:=(i:Int)+1) (by omega) (by omega),hra,Int.toNat_natCast]
    refine ih (i+1) _ h3 (by simp only [List.length_cons] at hi;omega) ?_
    have e:l.take (i+1)=l.take i++[c]:=by
      rw [List.take_add_one,List.getElem?_eq_getElem h1]
      have:l[i]=c:=by
        unfold rd at h2
        rw [Int.toNat_natCast,List.getD_eq_getElem?_getD,List.getElem?_eq_getElem h1] at h2;exact h2
      rw [this];rfl
    rw [ha,List.set_append_right _ _ (by rw [hlen];exact Nat.le_refl _),hlen,Nat.sub_self,e,List.map_append,List.append_assoc];rfl
theorem spec_abs (c:Int):Gm.f c=some (sz c):=by
  unfold Gm.f Gq.f sz mx
  by_cases h:c>wrap64 (-c)
  · rw [if_pos h];simp;omega
  · rw [if_neg h];simp;omega
theorem Va (x l : List Int) (hl : l.length ≤ 1000) (r : List Int × Bool) (hr : Ev (fun k => Bl.l1 k x (cgs 0 l) (x.length : Int) 0) r) : ∀ (t : List Int) (i : Nat) (a : Int), l.drop i = t → i + t.length = l.length → 0 ≤ a → cgs a t = cgs 0 l →
    Ev (fun k=>Bl.l0 k x a l (l.length:Int) (i:Int)) r:=by
  intro t
  induction t with
  | nil =>
    intro i a hd hi h0 ha
    refine Ev.succ ?_
    simp only [Bl.l0]
    simp only [List.length_nil] at hi
    refine Ev.neg (by omega) ?_
    have:a=cgs 0 l:=ha
    rw [this];exact hr
  | cons c t ih =>
    intro i a hd hi h0 ha
    obtain ⟨h1,h2,h3⟩:=Qf l i c t hd
    refine Ev.succ ?_
    simp only [Bl.l0]
    refine Ev.pos (by omega) (Ev.pos (by omega) (Ev.pos (by omega) ?_))
    rw [h2]
    refine Ev.bindc (spec_abs c) (Ev.bind (spec_cg a (sz c) h0) ?_)
    rw [Ap (n:=(i:Int)+1) (by omega) (by omega)]
    exact ih (i+1) _ h3 (by simp only [List.length_cons] at hi;omega) (cg_nn h0) ha
theorem Vb (x l : List Int) (hl : l.length ≤ 1000) (r : List Int × Bool) (hr : Ev (fun k => Bj.l1 k x (cgs 0 l) (x.length : Int) 0) r) : ∀ (t : List Int) (i : Nat) (a : Int), l.drop i = t → i + t.length = l.length → 0 ≤ a → cgs a t = cgs 0 l →
    Ev (fun k=>Bj.l0 k x a l (l.length:Int) (i:Int)) r:=by
  intro t
  induction t with
  | nil =>
    intro i a hd hi h0 ha
    refine Ev.succ ?_
    simp only [Bj.l0]
    simp only [List.length_nil] at hi
    refine Ev.neg (by omega) ?_
    have:a=cgs 0 l:=ha
    rw [this];exact hr
  | cons c t ih =>
    intro i a hd hi h0 ha
    obtain ⟨h1,h2,h3⟩:=Qf l i c t hd
    refine Ev.succ ?_
    simp only [Bj.l0]
    refine Ev.pos (by omega) (Ev.pos (by omega) (Ev.pos (by omega) ?_))
    rw [h2]
    refine Ev.bind (impl_cg a (sz c) h0) ?_
    rw [Ap (n:=(i:Int)+1) (by omega) (by omega)]
    exact ih (i+1) _ h3 (by simp only [List.length_cons] at hi;omega) (cg_nn h0) ha
/-! ### some current Kb -/
theorem cur_zero {n:Int} {ws:List Wr} (h:B1 n ws) {w:Wr} (hw:w ∈ ws) (hz:sz (cur (Ba n ws) w)≤0):rd (Ba n ws) w.f0=rd (Ba n ws) w.f1:=by
  obtain ⟨⟨a0,a1⟩,⟨b0,b1⟩,_⟩:=h.2.2.1 w hw
  obtain ⟨p0,p1⟩:=J1 h w.f0 a0 a1
  obtain ⟨q0,q1⟩:=J1 h w.f1 b0 b1
  unfold sz cur mx at hz
  generalize rd (Ba n ws) w.f0=x at hz p0 p1 ⊢
  generalize rd (Ba n ws) w.f1=y at hz q0 q1 ⊢
  rw [Ap (n:=x-y) (by omega) (by omega),Ap (n := -(x-y)) (by omega) (by omega)] at hz
  omega
theorem Kb {n:Int} {ws:List Wr} (h:B1 n ws):cgs 0 (Dm n ws)≠0:=by
  intro e
  obtain ⟨_,hz⟩:=Ue (Dm n ws) 0 (Int.le_refl _) e
  have hw:∀ w ∈ ws,rd (Ba n ws) w.f0=rd (Ba n ws) w.f1:=fun w hq=>cur_zero h hq (hz _ (List.mem_map.2 ⟨w,hq,rfl⟩))
  have all:∀ j,Ee ws j→rd (Ba n ws) j=rd (Ba n ws) 0:=fun j r=>by
    induction r with
    | zero=>rfl
    | fwd w hq _ ih=>rw [← hw w hq];exact ih
    | bwd w hq _ ih=>rw [hw w hq];exact ih
  have h1:=all (n-1) (h.2.2.2 (n-1) (by have:=h.1;omega) (by omega))
  rw [Kt] at h1
  have:=Ku h
  omega

/-! ### what Kb out of the nodes of a net: potentials by determinants, and that they are the only ones -/
theorem cramer (k:Nat) (A:Nat→Nat→Rat) (i:Nat) (hi:i<k+1):DM.sm (k+1) (fun j=>A i j*DM.det (k+1) (fun r c=>if c=j then (if r=0 then 1 else 0) else A r c))=if i=0 then DM.det (k+1) A else 0:=by
  have col:∀ j,j<k+1→DM.det (k+1) (fun r c=>if c=j then (if r=0 then (1:Rat) else 0) else A r c)=DM.sg j*DM.det k (fun r c=>A (r+1) (DM.skip j c)):=fun j hj=>by
    rw [DM.det,DM.sm_one j (k+1) hj (fun p hp hne=>?_)]
    · rw [if_pos rfl,if_pos rfl,Rat.mul_one]
      congr 1
      refine DM.det_congr k (fun r c _ _=>?_)
      rw [if_neg (by unfold DM.skip;split <;> omega)]
    · rw [DM.det_zeroc k _ (DM.pos p j) (by unfold DM.pos;split <;> omega) (fun r _=>?_)]
      · exact Rat.mul_zero _
      · rw [if_pos ((DM.skip_eq hne).2 rfl),if_neg (by omega)]
  have e:DM.sm (k+1) (fun j=>A i j*DM.det (k+1) (fun r c=>if c=j then (if r=0 then (1:Rat) else 0) else A r c))=DM.det (k+1) (DM.setr A 0 (A i)):=by
    rw [DM.det]
    refine DM.sm_congr _ (fun j hj=>?_)
    rw [col j hj,DM.setr_at,if_pos rfl]
    have:(fun r c=>DM.setr A 0 (A i) (r+1) (DM.skip j c))=fun r c=>A (r+1) (DM.skip j c):=by funext r c;rw [DM.setr_at,if_neg (by omega)]
    rw [this];grind
  rw [e]
  by_cases h0:i=0
  · subst h0
    rw [if_pos rfl]
    refine DM.det_congr _ (fun r c _ _=>?_)
    rw [DM.setr_at];split
    · rename_i h;rw [h]
    · rfl
  · rw [if_neg h0]
    refine DM.det_samer _ _ 0 i (by omega) hi (fun c _=>?_)
    rw [DM.setr_at,DM.setr_at,if_pos rfl,if_neg h0]
/-- what goes out of a node -/
def og (g:Wr→Int):List Wr→Int→Int
  | [],_=>0
  | w::t,i=>(bI (w.f0=i)-bI (w.f1=i))*g w+og g t i
theorem Qg (m:Nat) (x:Nat→Rat) (y:Int→Int):∀ (t:List Wr) (i:Nat),(∀ w ∈ t,0≤w.f0∧0≤w.f1∧w.f0≠w.f1)→(∀ w ∈ t,(y w.f0:Rat)=nv m x w.f0∧(y w.f1:Rat)=nv m x w.f1)→DM.sm m (fun j=>((Lf t i j:Int):Rat)*x j)=((og (fun w=>y w.f0-y w.f1) t (i:Int):Int):Rat)
  | [],i,_,_=>by
    rw [DM.sm_zero m (fun j _=>by rw [Lf];exact Rat.zero_mul _)];rfl
  | w::t,i,hw,hy=>by
    obtain ⟨h0,h1,h2⟩:=hw w List.mem_cons_self
    obtain ⟨y0,y1⟩:=hy w List.mem_cons_self
    have e:DM.sm m (fun j=>((Lf (w::t) i j:Int):Rat)*x j)=DM.sm m (fun j=>1*(((wd w i j:Int):Rat)*x j)+1*(((Lf t i j:Int):Rat)*x j)):=DM.sm_congr m (fun j _=>by
      rw [Lf,Rat.intCast_add];grind)
    rw [e,DM.sm_lin,wd_sum m x w h0 h1 h2,Qg m x y t i (fun q hq=>hw q (List.mem_cons_of_mem _ hq)) (fun q hq=>hy q (List.mem_cons_of_mem _ hq)),og,Rat.intCast_add,Rat.intCast_mul,Rat.intCast_sub (y w.f0),y0,y1]
    grind
/-- all together nothing goes out -/
def ogs (g:Wr→Int) (t:List Wr):Nat→Int
  | 0=>0
  | n+1=>ogs g t n+og g t (n:Int)
theorem Uf (g:Wr→Int) (w:Wr) (t:List Wr):∀ n,ogs g (w::t) n=ogs g [w] n+ogs g t n
  | 0=>rfl
  | n+1=>by rw [ogs,ogs,ogs,Uf g w t n,og,og,og];omega
theorem ogs_one (g:Wr→Int) (w:Wr) (h0:0≤w.f0) (h1:0≤w.f1):∀ n:Nat,ogs g [w] n=(bI (w.f0<n)-bI (w.f1<n))*g w
  | 0=>by
    rw [ogs];unfold bI;rw [if_neg (by omega),if_neg (by omega)];simp
  | n+1=>by
    rw [ogs,ogs_one g w h0 h1 n,og,og,Int.add_zero,← Int.add_mul]
    congr 1
    unfold bI
    split <;> split <;> split <;> split <;> split <;> split <;> omega
theorem Ug (g:Wr→Int) (n:Nat):∀ t:List Wr,(∀ w ∈ t,(0≤w.f0∧w.f0<n)∧0≤w.f1∧w.f1<n)→ogs g t n=0
  | [],_=>by
    have:∀ k,ogs g [] k=0:=fun k=>by
      induction k with
      | zero=>rfl
      | succ k ih=>rw [ogs,ih,og];rfl
    exact this n
  | w::t,h=>by
    obtain ⟨⟨a,b⟩,c,d⟩:=h w List.mem_cons_self
    rw [Uf,ogs_one g w a c,Ug g n t (fun q hq=>h q (List.mem_cons_of_mem _ hq))]
    unfold bI;rw [if_pos b,if_pos d];simp
theorem Rl (g:Wr→Int) (t:List Wr) (s:Int) (m:Nat) (h:∀ i:Nat,i<m→og g t (i:Int)=if i=0 then s else 0):∀ k,0<k→k≤m→ogs g t k=s
  | 0,h0,_=>by omega
  | k+1,_,hk=>by
    rw [ogs,h k (by omega)]
    by_cases e:k=0
    · subst e;rw [if_pos rfl,ogs];omega
    · rw [if_neg e,Rl g t s m h k (by omega) (by omega)];omega
theorem og_last {n:Int} {ws:List Wr} (hn:2≤n) (hw:∀ w ∈ ws,Bm n w) (g:Wr→Int) (s:Int) (h:∀ i:Nat,(i:Int)<n-1→og g ws (i:Int)=if i=0 then s else 0):og g ws (n-1) = -s:=by
  obtain ⟨m,hm⟩:∃ m:Nat,n=m+1:=⟨(n-1).toNat,by omega⟩
  have z:=Ug g (m+1) ws (fun w hq=>by have:=hw w hq;unfold Bm at this;omega)
  have a:=Rl g ws s m (fun i hi=>h i (by omega)) m (by omega) (by omega)
  rw [ogs,a] at z
  rw [show n-1=(m:Int) by omega];omega
/-- a net's potentials: the number of trees goes in at the first pole and out at the last -/
def C3 (n:Int) (ws:List Wr):Int:=det (lap (n-1) ws)
theorem No {n:Int} {ws:List Wr} (h:B1 n ws) (m:Nat) (hm:n=m+1) (v:Int) (h0:0≤v) (h1:v≤n-1):((rd (Ba n ws) v:Int):Rat)=nv m (fun j=>((rd (Ba n ws) (j:Int):Int):Rat)) v:=by
  unfold nv
  by_cases e:v<m
  · rw [if_pos ⟨h0,e⟩];dsimp only;rw [Int.toNat_of_nonneg h0]
  · rw [if_neg (by omega),show v=n-1 by omega,Kt];rfl
theorem Mc {n:Int} {ws:List Wr} (h:B1 n ws) (i:Nat) (hi:(i:Int)<n-1):og (fun w=>rd (Ba n ws) w.f0-rd (Ba n ws) w.f1) ws (i:Int)=if i=0 then C3 n ws else 0:=by
  obtain ⟨m,hm⟩:∃ m:Nat,n=m+1:=⟨(n-1).toNat,by have:=h.1;omega⟩
  obtain ⟨k,hk⟩:∃ k:Nat,m=k+1:=⟨m-1,by have:=h.1;omega⟩
  have s:=Qg m (fun j=>((rd (Ba n ws) (j:Int):Int):Rat)) (rd (Ba n ws)) ws i (fun w hq=>by have:=h.2.2.1 w hq;unfold Bm at this;omega) (fun w hq=>by
    have:=h.2.2.1 w hq;unfold Bm at this
    exact ⟨No h m hm _ (by omega) (by omega),No h m hm _ (by omega) (by omega)⟩)
  have c:=cramer k (fun r c=>((Lf ws r c:Int):Rat)) i (by omega)
  obtain ⟨z,z1,z2,_⟩:=Kl h
  have ht:C3 n ws=z:=by unfold C3 det;rw [z1];rfl
  have hm1:(n-1).toNat=k+1:=by omega
  rw [hm1] at z2
  rw [z2] at c
  have e:DM.sm m (fun j=>((Lf ws i j:Int):Rat)*((rd (Ba n ws) (j:Int):Int):Rat))=if i=0 then (z:Rat) else 0:=by
    rw [← c,hk]
    refine DM.sm_congr _ (fun j hj=>?_)
    congr 1
    obtain ⟨y,y1,y2,_⟩:=Q3 h j (by omega)
    rw [rd_pot n ws j (by omega)]
    unfold pot det
    rw [y1,← hm1]
    show (y:Rat)=_
    rw [← y2]
    refine DM.det_congr _ (fun r c _ _=>?_)
    unfold Lc
    split
    · split <;> rfl
    · rfl
  rw [e] at s
  rw [ht]
  by_cases h0:i=0
  · rw [if_pos h0] at s ⊢;exact (Rat.intCast_inj.1 s).symm
  · rw [if_neg h0] at s ⊢
    have:((0:Int):Rat)=((og (fun w=>rd (Ba n ws) w.f0-rd (Ba n ws) w.f1) ws (i:Int):Int):Rat):=s
    exact (Rat.intCast_inj.1 this).symm
/-- there are no other ones, but for a factor -/
theorem pot_only {n:Int} {ws:List Wr} (h:B1 n ws) (y:Int→Int) (s:Int) (hl:y (n-1)=0) (hf:∀ i:Nat,(i:Int)<n-1→og (fun w=>y w.f0-y w.f1) ws (i:Int)=if i=0 then s else 0) (v:Int) (h0:0≤v) (h1:v≤n-1):C3 n ws*y v=s*rd (Ba n ws) v:=by
  obtain ⟨m,hm⟩:∃ m:Nat,n=m+1:=⟨(n-1).toNat,by have:=h.1;omega⟩
  by_cases e:v=n-1
  · rw [e,Kt,hl];simp
  · let x:Nat→Rat:=fun j=>((C3 n ws*y (j:Int)-s*rd (Ba n ws) (j:Int):Int):Rat)
    have hx:∀ j,x j=((C3 n ws*y (j:Int)-s*rd (Ba n ws) (j:Int):Int):Rat):=fun j=>rfl
    clear_value x
    have hy:∀ v:Int,0≤v→v≤n-1→((y v:Int):Rat)=nv m (fun j=>((y (j:Int):Int):Rat)) v:=fun v h0 h1=>by
      unfold nv
      by_cases e:v<m
      · rw [if_pos ⟨h0,e⟩];dsimp only;rw [Int.toNat_of_nonneg h0]
      · rw [if_neg (by omega),show v=n-1 by omega,hl];rfl
    have hw:∀ w ∈ ws,0≤w.f0∧0≤w.f1∧w.f0≠w.f1:=fun w hq=>by have:=h.2.2.1 w hq;unfold Bm at this;omega
    have zero:∀ i,i<m→DM.sm m (fun j=>((Lf ws i j:Int):Rat)*x j)=0:=fun i hi=>by
      have a:=Qg m (fun j=>((y (j:Int):Int):Rat)) y ws i hw (fun w hq=>by
        have:=h.2.2.1 w hq;unfold Bm at this
        exact ⟨hy _ (by omega) (by omega),hy _ (by omega) (by omega)⟩)
      have b:=Qg m (fun j=>((rd (Ba n ws) (j:Int):Int):Rat)) (rd (Ba n ws)) ws i hw (fun w hq=>by
        have:=h.2.2.1 w hq;unfold Bm at this
        exact ⟨No h m hm _ (by omega) (by omega),No h m hm _ (by omega) (by omega)⟩)
      rw [hf i (by omega)] at a
      rw [Mc h i (by omega)] at b
      have e:DM.sm m (fun j=>((Lf ws i j:Int):Rat)*x j)=DM.sm m (fun j=>((C3 n ws:Int):Rat)*(((Lf ws i j:Int):Rat)*((y (j:Int):Int):Rat))+(-((s:Int):Rat))*(((Lf ws i j:Int):Rat)*((rd (Ba n ws) (j:Int):Int):Rat))):=DM.sm_congr m (fun j _=>by
        rw [hx,Rat.intCast_sub,Rat.intCast_mul,Rat.intCast_mul];grind)
      rw [e,DM.sm_lin,a,b]
      by_cases h0:i=0
      · rw [if_pos h0,if_pos h0];grind
      · rw [if_neg h0,if_neg h0];show _*((0:Int):Rat)+_*((0:Int):Rat)=0;grind
    have q:qf m (fun i j=>((Lf ws i j:Int):Rat)) x=0:=by
      unfold qf
      exact DM.sm_zero m (fun i hi=>by rw [zero i hi];exact Rat.mul_zero _)
    have all:∀ i,i<m→x i=0:=fun i hi=>Classical.byContradiction fun hne=>by
      have:=(pd_lap hm h).2 x ⟨i,hi,hne⟩
      rw [q] at this
      exact absurd this (by decide)
    have z:=all v.toNat (by omega)
    rw [hx,Int.toNat_of_nonneg h0] at z
    have:((C3 n ws*y v-s*rd (Ba n ws) v:Int):Rat)=((0:Int):Rat):=z
    have:=Rat.intCast_inj.1 this
    omega

/-! ### asked currents; what Kb into nodes -/
def okC (c:List Int):Bool := !(c.any fun q => !(decide (-1000000≤q∧q≤1000000)))
open Classical in
noncomputable def J2 (n:Int) (W:List Wr) (c:List Int):Bool:=decide (B1 n W)&&decide ((c.length:Int)=(W.length:Int))&&okC c
theorem Kv (n:Int) (W:List Wr) (c:List Int):Ev (fun k=>C2.f k n W c) (J2 n W c):=by
  classical
  unfold C2.f J2
  refine Ev.bind (Gl n W) ?_
  by_cases h:B1 n W
  · refine Ev.pos (by simpa using h) ?_
    by_cases h2:(c.length:Int)=(W.length:Int)
    · refine Ev.pos h2 (Ev.bindc rfl (Ev.eqr (Ev.now _) ?_))
      simp [h,h2,okC]
    · exact Ev.neg h2 (Ev.eqr (Ev.now _) (by simp [h2]))
  · exact Ev.neg (by simpa using h) (Ev.eqr (Ev.now _) (by simp [h]))

/-! ### asked currents; what Kb into nodes -/
def fstep (c:List Int) (i:Nat) (s:List Int) (w:Wr):List Int :=
  (s.set w.f0.toNat (wrap64 (rd s w.f0-rd c (i:Int)))).set w.f1.toNat (wrap64 (rd (s.set w.f0.toNat (wrap64 (rd s w.f0-rd c (i:Int)))) w.f1+rd c (i:Int)))
def I2 (c:List Int):List Wr→Nat→List Int→List Int
  | [],_,s=>s
  | w::t,i,s=>I2 c t (i+1) (fstep c i s w)
theorem M8 (c:List Int):∀ (t:List Wr) (i:Nat) (s:List Int),(I2 c t i s).length=s.length:=by
  intro t
  induction t with
  | nil=>intro i s;rfl
  | cons w t ih=>intro i s;rw [I2,ih];simp [fstep]
def allZ (y:List Int):Bool := !(y.any fun n=>n != 0)
def Av (n:Int) (s:List Int):List Int:=(s.take (n-1).toNat).drop 1
open Classical in
noncomputable def flowR (n:Int) (W:List Wr) (c:List Int):Bool×Bool:=if J2 n W c=true then (allZ (Av n (I2 c W 0 (List.replicate n.toNat 0))),true) else (false,false)
theorem Uh {n : Int} {W : List Wr} (hn : 2 ≤ n ∧ n ≤ 12) (hW : W.length ≤ 30) (hws : ∀ w ∈ W, Bm n w) (c : List Int) (hc : c.length = W.length) : ∀ (t : List Wr) (i : Nat) (s : List Int), W.drop i = t → i + t.length = W.length → (s.length : Int) = n →
    Ev (fun k=>Bn.l0 k c s W (W.length:Int) (i:Int) n W) (allZ (Av n (I2 c t i s)),true):=by
  intro t
  induction t with
  | nil =>
    intro i s hd hi hs
    refine Ev.succ ?_
    simp only [Bn.l0]
    simp only [List.length_nil] at hi
    rw [Ap (n:=n-1) (by omega) (by omega)]
    refine Ev.neg (by omega) (Ev.pos (by omega) (Ev.pos (by omega) ?_))
    exact Ev.bindc rfl (Ev.now _)
  | cons w t ih =>
    intro i s hd hi hs
    obtain ⟨h1,h2,h3,h4,h5⟩:=El W i w t hd
    obtain ⟨⟨a1,a2⟩,⟨b1,b2⟩,ab⟩:=hws w h4
    refine Ev.succ ?_
    simp only [Bn.l0]
    rw [I0,h2]
    refine Ev.pos (by omega) (Ev.pos (by omega) (Ev.pos (by omega) (Ev.pos a1 (Ev.pos (by omega) (Ev.pos (by omega) (Ev.bindc rfl (Ev.pos b1 ?_)))))))
    refine Ev.pos (by omega) ?_
    rw [Ap (n:=(i:Int)+1) (by omega) (by omega)]
    exact ih (i+1) _ h3 (by simp only [List.length_cons] at hi;omega) (by simp only [List.length_set];exact hs)
theorem Kw (n:Int) (W:List Wr) (c:List Int):Ev (fun k=>Bn.f k n W c) (flowR n W c):=by
  classical
  unfold Bn.f flowR
  refine Ev.bind (Kv n W c) ?_
  by_cases h:J2 n W c=true
  · rw [if_pos h]
    have h':=h
    unfold J2 at h'
    simp only [Bool.and_eq_true,decide_eq_true_eq] at h'
    obtain ⟨⟨⟨n1,n2,n3,n4⟩,h2⟩,_⟩:=h'
    exact Ev.pos h (Ev.pos (by omega) (Ev.pos (by omega) (Uh n1 n2 n3 c (by omega) W 0 _ rfl (by omega) (by simp;omega))))
  · rw [if_neg h]
    exact Ev.neg h (Ev.now _)

/-! ### potentials along wires: the reference's sweeps and the program's -/
def Gc (c:List Int) (i:Nat) (s:List Bool) (p:List Int) (w:Wr):List Bool×List Int :=
  if bAt s w.f0=bAt s w.f1 then (s,p) else if bAt s w.f0=true then (G0 s w,p.set w.f1.toNat (wrap64 (rd p w.f0-rd c (i:Int)))) else (G0 s w,p.set w.f0.toNat (wrap64 (rd p w.f1+rd c (i:Int))))
def E6 (c:List Int):List Wr→Nat→List Bool→List Int→List Bool×List Int
  | [],_,s,p=>(s,p)
  | w::t,i,s,p=>E6 c t (i+1) (Gc c i s p w).1 (Gc c i s p w).2
def R64 (x:Int):Prop := -9223372036854775808≤x∧x<9223372036854775808
theorem wrap64_R (x:Int):R64 (wrap64 x):=by unfold wrap64 R64;omega
def Okp (n:Int) (W:List Wr) (s:List Bool) (p:List Int):Prop:=Sn n W s∧p.length=s.length∧∀ j,R64 (iAt p j)
/-- there are potentials that agree with what is known and fit all wires -/
def Sat (n:Int) (W:List Wr) (c:List Int) (s:List Bool) (p:List Int):Prop :=
  ∃ q:Int→Int,(∀ j,R64 (q j))∧(∀ j,0≤j→j<n→bAt s j=true→iAt p j=q j)∧∀ i,i<W.length→wrap64 (q (Gv W i).f0-q (Gv W i).f1)=rd c (i:Int)
theorem Ui {s:List Bool} {a b:Int} (h0:0≤a) (h1:a<s.length) (hb:bAt s a=true):(s.set a.toNat true).set b.toNat true=s.set b.toNat true:=by
  have e:s.set a.toNat true=s:=by
    apply List.ext_getElem?
    intro j
    rw [List.getElem?_set]
    by_cases hj:a.toNat=j
    · rw [if_pos hj]
      subst hj
      rw [if_pos (by omega),Im s a.toNat (by omega),show ((a.toNat:Nat):Int)=a by omega,hb]
    · rw [if_neg hj]
  rw [e]
theorem mark_two {s:List Bool} {a b:Int} (h0:0≤b) (h1:b<s.length) (hb:bAt s b=true):(s.set a.toNat true).set b.toNat true=s.set a.toNat true:=by
  by_cases h:a.toNat=b.toNat
  · rw [h,List.set_set]
  · rw [List.set_comm _ _ h]
    exact Ui h0 h1 hb
theorem iAt_oob {p:List Int} {j:Int} (h:¬ j.toNat<p.length):iAt p j=0:=by
  unfold iAt
  rw [List.getD_eq_getElem?_getD,List.getElem?_eq_none (by omega)]
  rfl
theorem Rm {p:List Int} (h:∀ j,R64 (iAt p j)) (a x:Int) (j:Int):R64 (iAt (p.set a.toNat (wrap64 x)) j):=by
  unfold iAt
  by_cases hj:a.toNat<p.length
  · rw [Jv _ _ _ _ _ hj]
    split
    · exact wrap64_R x
    · exact h j
  · rw [List.set_eq_of_length_le (by omega)]
    exact h j
theorem wrap_eq {x y c:Int} (hx:R64 x) (hy:R64 y) (hc:R64 c):wrap64 (x-y)=c↔wrap64 (x-c)=y:=by
  unfold wrap64 R64 at *
  omega
theorem wrap_eq2 {x y c:Int} (hx:R64 x) (hy:R64 y) (hc:R64 c):wrap64 (x-y)=c↔wrap64 (y+c)=x:=by
  unfold wrap64 R64 at *
  omega
theorem N7 {n:Int} {W:List Wr} {c:List Int} {i:Nat} {s:List Bool} {p:List Int} {w:Wr} (hw:Bm n w) (hm:w ∈ W) (h:Okp n W s p):Okp n W (Gc c i s p w).1 (Gc c i s p w).2:=by
  unfold Gc
  have hl:(G0 s w).length=s.length:=by unfold G0;rw [List.length_set,List.length_set]
  split
  · exact h
  · rename_i hne
    split
    · exact ⟨N2 h.1 hw hm hne,by rw [List.length_set,hl];exact h.2.1,fun j=>Rm h.2.2 _ _ j⟩
    · exact ⟨N2 h.1 hw hm hne,by rw [List.length_set,hl];exact h.2.1,fun j=>Rm h.2.2 _ _ j⟩
theorem Rn {n : Int} {W : List Wr} {c : List Int} (hcR : ∀ i : Nat, R64 (rd c (i : Int))) {i : Nat} (hi : i < W.length) {s : List Bool} {p : List Int} (hw : Bm n (Gv W i)) (h : Okp n W s p) :
    Sat n W c s p↔Sat n W c (Gc c i s p (Gv W i)).1 (Gc c i s p (Gv W i)).2:=by
  have hw':=hw
  obtain ⟨⟨a1,a2⟩,⟨b1,b2⟩,ab⟩:=hw'
  have hsl:=h.1.1
  have hpl:=h.2.1
  unfold Gc
  split
  · exact Iff.rfl
  · rename_i hne
    split
    · rename_i h0
      constructor
      · rintro ⟨q,q1,q2,q3⟩
        refine ⟨q,q1,fun j j0 j1 jb=>?_,q3⟩
        rw [Gw _ _ _ _ b1 (by omega) j0]
        split
        · rename_i e
          subst e
          rw [rd_i,q2 _ a1 (by omega) h0]
          exact (wrap_eq (q1 _) (q1 _) (hcR i)).1 (q3 i hi)
        · rename_i e
          refine q2 j j0 j1 ?_
          rw [Gh hsl hw j j0] at jb
          split at jb
          · rename_i e2
            rcases e2 with e2|e2
            · rw [e2];exact h0
            · exact absurd e2 e
          · exact jb
      · rintro ⟨q,q1,q2,q3⟩
        refine ⟨q,q1,fun j j0 j1 jb=>?_,q3⟩
        have hj:j≠(Gv W i).f1:=fun e=>hne (by rw [h0,← e,jb])
        have h2:=q2 j j0 j1 (by rw [Gh hsl hw j j0];split <;> first|rfl|exact jb)
        rw [Gw _ _ _ _ b1 (by omega) j0,if_neg hj] at h2
        exact h2
    · rename_i h0
      have h1:bAt s (Gv W i).f1=true:=by
        cases x:bAt s (Gv W i).f0 <;> cases y:bAt s (Gv W i).f1 <;> simp_all
      constructor
      · rintro ⟨q,q1,q2,q3⟩
        refine ⟨q,q1,fun j j0 j1 jb=>?_,q3⟩
        rw [Gw _ _ _ _ a1 (by omega) j0]
        split
        · rename_i e
          subst e
          rw [rd_i,q2 _ b1 (by omega) h1]
          exact (wrap_eq2 (q1 _) (q1 _) (hcR i)).1 (q3 i hi)
        · rename_i e
          refine q2 j j0 j1 ?_
          rw [Gh hsl hw j j0] at jb
          split at jb
          · rename_i e2
            rcases e2 with e2|e2
            · exact absurd e2 e
            · rw [e2];exact h1
          · exact jb
      · rintro ⟨q,q1,q2,q3⟩
        refine ⟨q,q1,fun j j0 j1 jb=>?_,q3⟩
        have hj:j≠(Gv W i).f0:=fun e=>h0 (by rw [← e];exact jb)
        have h2:=q2 j j0 j1 (by rw [Gh hsl hw j j0];split <;> first|rfl|exact jb)
        rw [Gw _ _ _ _ a1 (by omega) j0,if_neg hj] at h2
        exact h2
/-- what a sweep over wires from place i on leaves -/
theorem bpass_all {n : Int} {W : List Wr} {c : List Int} (hcR : ∀ i : Nat, R64 (rd c (i : Int))) (hws : ∀ w ∈ W, Bm n w) : ∀ (t : List Wr) (i : Nat) (s : List Bool) (p : List Int), W.drop i = t → Okp n W s p →
    Okp n W (E6 c t i s p).1 (E6 c t i s p).2∧(Sat n W c s p↔Sat n W c (E6 c t i s p).1 (E6 c t i s p).2)∧s.countP id≤(E6 c t i s p).1.countP id ∧
      (((∀ w ∈ t,bAt s w.f0=bAt s w.f1)∧E6 c t i s p=(s,p))∨s.countP id<(E6 c t i s p).1.countP id):=by
  intro t
  induction t with
  | nil=>intro i s p _ h;exact ⟨h,Iff.rfl,Nat.le_refl _,.inl ⟨fun w hw=>(List.not_mem_nil hw).elim,rfl⟩⟩
  | cons w t ih =>
    intro i s p hd h
    obtain ⟨h1,h2,h3,h4,h5⟩:=El W i w t hd
    have hw:=hws w h4
    have hok:=N7 (c:=c) (i:=i) hw h4 h
    have hst:=Rn hcR h1 (s:=s) (p:=p) (by rw [h2];exact hw) h
    rw [h2] at hst
    obtain ⟨r1,r2,r3,r4⟩:=ih (i+1) _ _ h3 hok
    rw [E6]
    by_cases he:bAt s w.f0=bAt s w.f1
    · have e:Gc c i s p w=(s,p):=by unfold Gc;rw [if_pos he]
      rw [e] at r1 r2 r3 r4 ⊢
      refine ⟨r1,r2,r3,?_⟩
      rcases r4 with ⟨x,y⟩|x
      · exact .inl ⟨fun v hv=>(List.mem_cons.1 hv).elim (fun e=>e ▸ he) (fun hv=>x v hv),y⟩
      · exact .inr x
    · have hlt : s.countP id < (Gc c i s p w).1.countP id := by
        unfold Gc
        rw [if_neg he]
        split
        · exact Jx h.1.1 hw he
        · exact Jx h.1.1 hw he
      exact ⟨r1,hst.trans r2,by omega,.inr (by omega)⟩
def AllS (n:Int) (s:List Bool):Prop:=∀ j,0≤j→j<n→bAt s j=true
theorem alls_of {n:Int} {W:List Wr} (hws:∀ w ∈ W,Bm n w) (hj:Jb n W) (hn:1≤n) {s:List Bool} (hs:Sn n W s) (hc:∀ w ∈ W,bAt s w.f0=bAt s w.f1):AllS n s:=by
  have:∀ x,Ee W x→0≤x∧x<n∧bAt s x=true:=by
    intro x hx
    induction hx with
    | zero=>exact ⟨by omega,by omega,hs.2.1⟩
    | fwd w hw _ ih=>have:=hws w hw;unfold Bm at this;exact ⟨by omega,by omega,by rw [← hc w hw];exact ih.2.2⟩
    | bwd w hw _ ih=>have:=hws w hw;unfold Bm at this;exact ⟨by omega,by omega,by rw [hc w hw];exact ih.2.2⟩
  intro j h0 h1
  exact (this j (hj j h0 h1)).2.2
theorem Qh {n:Int} {s:List Bool} (hl:(s.length:Int)=n) (h:s.length≤s.countP id):AllS n s:=by
  have e:s.countP id=s.length:=Nat.le_antisymm List.countP_le_length h
  rw [List.countP_eq_length] at e
  intro j h0 h1
  have:=e _ (List.mem_of_getElem? (Im s j.toNat (by omega)))
  rw [show ((j.toNat:Nat):Int)=j by omega] at this
  exact this
def Con (W:List Wr) (c p:List Int) (i:Nat):Prop:=wrap64 (rd p (Gv W i).f0-rd p (Gv W i).f1)=rd c (i:Int)
instance (W:List Wr) (c p:List Int) (i:Nat):Decidable (Con W c p i):=by unfold Con;infer_instance
theorem sat_con {n:Int} {W:List Wr} {c:List Int} (hws:∀ w ∈ W,Bm n w) {s:List Bool} {p:List Int} (h:Sat n W c s p) {i:Nat} (hi:i<W.length) (h0:bAt s (Gv W i).f0=true) (h1:bAt s (Gv W i).f1=true):Con W c p i:=by
  obtain ⟨q,q1,q2,q3⟩:=h
  have hw:=hws (Gv W i) (by rw [I6 W i hi];exact List.getElem_mem _)
  obtain ⟨⟨a1,a2⟩,⟨b1,b2⟩,ab⟩:=hw
  unfold Con
  rw [rd_i,rd_i,q2 _ a1 (by omega) h0,q2 _ b1 (by omega) h1]
  exact q3 i hi
theorem sat_all {n:Int} {W:List Wr} {c:List Int} {s:List Bool} {p:List Int} (h:Okp n W s p) (hc:∀ i,i<W.length→Con W c p i):Sat n W c s p :=
  ⟨fun j=>iAt p j,h.2.2,fun _ _ _ _=>rfl,fun i hi=>hc i hi⟩
theorem bcount {n:Int} {W:List Wr} (c:List Int):∀ (t:List Wr) (i:Nat) (s:List Bool) (p:List Int),(∀ w ∈ W,Bm n w)→(∀ w ∈ t,w ∈ W)→Okp n W s p→s.countP id≤(E6 c t i s p).1.countP id:=by
  intro t
  induction t with
  | nil=>intro i s p _ _ _;exact Nat.le_refl _
  | cons w t ih =>
    intro i s p hws ht h
    have hm:=ht w (List.mem_cons_self)
    have h1:=ih (i+1) _ _ hws (fun v hv=>ht v (List.mem_cons_of_mem _ hv)) (N7 (c:=c) (i:=i) (hws w hm) hm h)
    rw [E6]
    refine Nat.le_trans ?_ h1
    unfold Gc
    split
    · exact Nat.le_refl _
    · rename_i hne
      split
      · exact Nat.le_of_lt (Jx h.1.1 (hws w hm) hne)
      · exact Nat.le_of_lt (Jx h.1.1 (hws w hm) hne)

/-! ### what both answer: whether there are potentials -/
theorem mark_l {n:Int} {s:List Bool} {w:Wr} (hl:(s.length:Int)=n) (hw:Bm n w) (h:bAt s w.f0=true):G0 s w=s.set w.f1.toNat true:=by
  obtain ⟨⟨a1,a2⟩,⟨b1,b2⟩,ab⟩:=hw
  exact Ui a1 (by omega) h
theorem mark_r {n:Int} {s:List Bool} {w:Wr} (hl:(s.length:Int)=n) (hw:Bm n w) (h:bAt s w.f1=true):G0 s w=s.set w.f0.toNat true:=by
  obtain ⟨⟨a1,a2⟩,⟨b1,b2⟩,ab⟩:=hw
  exact mark_two b1 (by omega) h
def Rel (n:Int) (s:List Bool) (p:List Int) (m:Int→Option Int):Prop:=∀ a,0≤a→a<n→m a=if bAt s a=true then some (iAt p a) else none
theorem wf64 {n:Int} (h0:0≤n) (h1:n<1000):(Lit.int .i64 n).wf=true:=by
  rw [← Ap (n:=n) (by omega) (by omega)]
  exact wrap64_wf _
theorem impl_b1 {n : Int} {W : List Wr} {c : List Int} (hn : n ≤ 12) (hws : ∀ w ∈ W, Bm n w) (hW : W.length ≤ 30) (hc : c.length = W.length) (hcR : ∀ i : Nat, R64 (rd c (i : Int))) (R : Bool × Bool) (x : Int) : ∀ (t : List Wr) (i : Nat) (s : List Bool) (p : List Int) (m : Int → Option Int) (q : Nat), W.drop i = t → i + t.length = W.length → Okp n W s p → Rel n s p m → q + t.length ≤ 900000 → (¬ Sat n W c s p → R = (false, true)) →
    (∀ m' q',Rel n (E6 c t i s p).1 (E6 c t i s p).2 m'→q'≤q+t.length→(AllS n s→∀ j,i≤j→j<W.length→Con W c p j)→Ev (fun k=>Ar.l0 k m' q' (wrap64 (x+1)) n W c) R) →
    Ev (fun k=>Ar.l1 k m q (i:Int) x n W c) R:=by
  intro t
  induction t with
  | nil =>
    intro i s p m q hd hi h hr hq hbad hk
    refine Ev.succ ?_
    simp only [Ar.l1]
    simp only [List.length_nil] at hi
    exact Ev.neg (by omega) (hk m q hr (by omega) (fun _ j h1 h2=>by omega))
  | cons w t ih =>
    intro i s p m q hd hi h hr hq hbad hk
    obtain ⟨h1,h2,h3,h4,h5⟩:=El W i w t hd
    have hw:=hws w h4
    have hw':=hw
    obtain ⟨⟨a1,a2⟩,⟨b1,b2⟩,ab⟩:=hw'
    have hsl:=h.1.1
    have hpl:=h.2.1
    have hok:=N7 (c:=c) (i:=i) hw h4 h
    have hst:=Rn hcR h1 (s:=s) (p:=p) (by rw [h2];exact hw) h
    rw [h2] at hst
    have ei:wrap64 ((i:Int)+1)=((i+1:Nat):Int):=(Ap (by omega) (by omega)).trans (by omega)
    simp only [List.length_cons] at hi hq hk
    have m0:=hr _ a1 (by omega)
    have m1:=hr _ b1 (by omega)
    have g1:(i:Int)<(W.length:Int):=by omega
    have g2:0≤(i:Int):=Int.natCast_nonneg i
    have g7:(i:Int)<(c.length:Int):=by omega
    have g8:q<1000000:=by omega
    have g9:w.f0<1000:=by omega
    have g10:w.f1<1000:=by omega
    have g11:w.f0<n:=by omega
    have g12:w.f1<n:=by omega
    have g13:w.f0<(p.length:Int):=by omega
    have g14:w.f1<(p.length:Int):=by omega
    have k1:i+1+t.length=W.length:=by omega
    have k2:q+1+t.length≤900000:=by omega
    have k3:q+1+t.length≤q+(t.length+1):=by omega
    have same:bAt s w.f0=bAt s w.f1→∀ m' q',Rel n s p m'→q'≤q+1→(AllS n s→Con W c p i)→Ev (fun k=>Ar.l1 k m' q' (wrap64 ((i:Int)+1)) x n W c) R:=by
      intro he m' q' hr' hq' hcn
      have e:Gc c i s p w=(s,p):=by unfold Gc;rw [if_pos he]
      rw [E6,e] at hk
      rw [ei]
      refine ih (i+1) s p m' q' h3 k1 h hr' (Nat.le_trans (Nat.add_le_add_right hq' _) k2) hbad (fun m2 q2 r2 hq2 hc2=>hk m2 q2 r2 (Nat.le_trans hq2 (Nat.le_trans (Nat.add_le_add_right hq' _) k3)) (fun hA j j1 j2=>?_))
      by_cases ej:j=i
      · subst ej;exact hcn hA
      · exact hc2 hA j (Nat.lt_of_le_of_ne j1 (Ne.symm ej)) j2
    have other:bAt s w.f0≠bAt s w.f1→∀ m',Rel n (Gc c i s p w).1 (Gc c i s p w).2 m'→Ev (fun k=>Ar.l1 k m' (q+1) (wrap64 ((i:Int)+1)) x n W c) R:=by
      intro hne m' hr'
      rw [E6] at hk
      rw [ei]
      refine ih (i+1) _ _ m' (q+1) h3 k1 hok hr' k2 (fun hns=>hbad (fun y=>hns (hst.1 y))) (fun m2 q2 r2 hq2 _=>hk m2 q2 r2 (Nat.le_trans hq2 k3) (fun hA=>?_))
      exact absurd ((hA _ a1 g11).trans (hA _ b1 g12).symm) hne
    refine Ev.succ ?_
    simp only [Ar.l1]
    rw [I0,h2]
    refine Ev.pos g1 (Ev.pos ⟨g2,g7,g8,wf64 a1 g9,wf64 b1 g10⟩ ?_)
    by_cases h0:bAt s w.f0=true
    · rw [if_pos h0] at m0
      by_cases hb:bAt s w.f1=true
      · rw [if_pos hb] at m1
        rw [m0,m1]
        refine Ev.pos rfl (Ev.pos rfl ?_)
        simp only [Option.getD_some]
        by_cases hcn:wrap64 (iAt p w.f0-iAt p w.f1)=rd c (i:Int)
        · refine Ev.pos hcn (same (by rw [h0,hb]) _ _ (fun a h5 h6=>?_) (Nat.le_refl _) (fun _=>?_))
          · unfold Ik
            by_cases ea:a=w.f1
            · subst ea
              rw [if_pos rfl,if_pos hb,(wrap_eq (h.2.2 _) (h.2.2 _) (hcR i)).1 hcn]
            · rw [if_neg ea];exact hr a h5 h6
          · unfold Con
            rw [h2]
            exact hcn
        · refine Ev.neg hcn (Ev.eqr (Ev.now _) (hbad (fun hs=>hcn ?_)).symm)
          have:=sat_con hws hs h1 (by rw [h2];exact h0) (by rw [h2];exact hb)
          unfold Con at this
          rw [h2] at this
          exact this
      · rw [if_neg hb] at m1
        have hne:bAt s w.f0≠bAt s w.f1:=fun e=>hb (by rw [← e];exact h0)
        rw [m0,m1]
        refine Ev.pos rfl (Ev.neg (by simp) (other hne _ (fun a h5 h6=>?_)))
        simp only [Option.getD_some]
        unfold Gc Ik
        rw [if_neg hne,if_pos h0]
        simp only
        rw [Gh hsl hw a h5,Gw _ _ _ _ b1 g14 h5]
        by_cases ea:a=w.f1
        · rw [if_pos ea,if_pos ea,if_pos (Or.inr ea),if_pos rfl];rfl
        · rw [if_neg ea,if_neg ea,hr a h5 h6]
          by_cases e0:a=w.f0
          · rw [if_pos (Or.inl e0),if_pos rfl,e0,if_pos h0]
          · have e9:(if a=w.f0∨a=w.f1 then true else bAt s a)=bAt s a:=if_neg (fun y=>y.elim e0 ea)
            rw [e9]
    · rw [if_neg h0] at m0
      by_cases hb:bAt s w.f1=true
      · rw [if_pos hb] at m1
        have hne:bAt s w.f0≠bAt s w.f1:=fun e=>h0 (by rw [e];exact hb)
        rw [m0,m1]
        refine Ev.neg (by simp) (Ev.pos rfl (other hne _ (fun a h5 h6=>?_)))
        simp only [Option.getD_some]
        unfold Gc Ik
        rw [if_neg hne,if_neg h0]
        simp only
        rw [Gh hsl hw a h5,Gw _ _ _ _ a1 g13 h5]
        by_cases ea:a=w.f0
        · rw [if_pos ea,if_pos ea,if_pos (Or.inl ea),if_pos rfl];rfl
        · rw [if_neg ea,if_neg ea,hr a h5 h6]
          by_cases e0:a=w.f1
          · rw [if_pos (Or.inr e0),if_pos rfl,e0,if_pos hb]
          · have e9:(if a=w.f0∨a=w.f1 then true else bAt s a)=bAt s a:=if_neg (fun y=>y.elim ea e0)
            rw [e9]
      · rw [if_neg hb] at m1
        rw [m0,m1]
        refine Ev.neg (by simp) (Ev.neg (by simp) (same ?_ m q hr (Nat.le_succ q) (fun hA=>absurd (hA _ a1 g11) h0)))
        cases x:bAt s w.f0 <;> cases y:bAt s w.f1 <;> simp_all
open Classical in
theorem impl_b0 {n : Int} {W : List Wr} {c : List Int} (hn : 2 ≤ n ∧ n ≤ 12) (hws : ∀ w ∈ W, Bm n w) (hj : Jb n W) (hW : W.length ≤ 30) (hc : c.length = W.length) (hcR : ∀ i : Nat, R64 (rd c (i : Int))) : ∀ (d x : Nat) (s : List Bool) (p : List Int) (m : Int → Option Int) (q : Nat), (x : Int) + d = n → Okp n W s p → Rel n s p m → q ≤ 1 + 31 * x →
    (AllS n s∨s.length+1≤s.countP id+d)→(d=0→Sat n W c s p)→Ev (fun k=>Ar.l0 k m q (x:Int) n W c) (decide (Sat n W c s p),true):=by
  intro d
  induction d with
  | zero =>
    intro x s p m q hx h hr hq hA hS
    refine Ev.succ ?_
    simp only [Ar.l0]
    refine Ev.neg (by omega) (Ev.eqr (Ev.now _) ?_)
    rw [decide_eq_true (hS rfl)]
  | succ d ih =>
    intro x s p m q hx h hr hq hA hS
    refine Ev.succ ?_
    simp only [Ar.l0]
    refine Ev.pos (by omega) (impl_b1 hn.2 hws hW hc hcR _ x W 0 s p m q rfl (by omega) h hr (by omega) (fun hns=>by rw [decide_eq_false hns]) (fun m' q' r' hq' hcn=>?_))
    obtain ⟨r1,r2,r3,r4⟩:=bpass_all hcR hws W 0 s p rfl h
    have l1:=r1.1.1
    have l2:=h.1.1
    have l3:(E6 c W 0 s p).1.countP id≤(E6 c W 0 s p).1.length:=List.countP_le_length
    have hA':AllS n (E6 c W 0 s p).1∨(E6 c W 0 s p).1.length+1≤(E6 c W 0 s p).1.countP id+d:=by
      rcases r4 with ⟨y1,y2⟩|y
      · rw [y2];exact .inl (alls_of hws hj (by omega) h.1 y1)
      · rcases hA with hA|hA
        · refine .inl (Qh l1 ?_)
          have:s.countP id=s.length:=by
            rw [List.countP_eq_length]
            intro b hb
            obtain ⟨i,hi,rfl⟩:=List.getElem_of_mem hb
            have h9:=hA i (by omega) (by omega)
            have h8:=Im s i hi
            rw [h9,List.getElem?_eq_getElem hi] at h8
            exact Option.some.inj h8
          omega
        · exact .inr (by omega)
    rw [show wrap64 ((x:Int)+1)=((x+1:Nat):Int) from (Ap (by omega) (by omega)).trans (by omega)]
    refine Ev.eqr (ih (x+1) _ _ m' q' (by omega) r1 r' (by omega) hA' (fun hd=>r2.1 ?_)) ?_
    · have hAs:AllS n s:=hA.elim id (fun y=>Qh l2 (by omega))
      exact sat_all h (fun i hi=>hcn hAs i (Nat.zero_le _) hi)
    · rw [decide_eq_decide.2 r2.symm]
theorem start_ok {n:Int} {W:List Wr} (hn:2≤n∧n≤12):Okp n W ((List.replicate n.toNat false).set 0 true) (List.replicate n.toNat 0)∧0<((List.replicate n.toNat false).set 0 true).countP id∧Rel n ((List.replicate n.toNat false).set 0 true) (List.replicate n.toNat 0) (Ik (fun _=>none) 0 0):=by
  have hb:∀ a:Int,0≤a→a<n→bAt ((List.replicate n.toNat false).set 0 true) a=decide (a=0):=by
    intro a h0 h1
    have h:=Jp (List.replicate n.toNat false) 0 a true (Int.le_refl _) (by simp;omega) h0
    rw [show (0:Int).toNat=0 from rfl] at h
    rw [h]
    by_cases e:a=0
    · rw [if_pos e];simp [e]
    · rw [if_neg e];simp [e,bAt,List.getD_eq_getElem?_getD,List.getElem?_replicate]
      split <;> rfl
  have hp:∀ a:Int,iAt (List.replicate n.toNat 0) a=0:=by
    intro a
    simp [iAt,List.getD_eq_getElem?_getD,List.getElem?_replicate]
    split <;> rfl
  have hl:(((List.replicate n.toNat false).set 0 true).length:Int)=n:=by simp;omega
  refine ⟨⟨⟨hl,by rw [hb 0 (Int.le_refl _) (by omega)];rfl,fun j h0 h1 hj=>?_⟩,by simp,fun j=>by rw [hp];unfold R64;omega⟩,?_,fun a h0 h1=>?_⟩
  · rw [hb j h0 h1] at hj
    have e:j=0:=by simpa using hj
    rw [e];exact .zero
  · rw [List.countP_pos_iff]
    refine ⟨true,?_,rfl⟩
    have h:=Im ((List.replicate n.toNat false).set 0 true) 0 (by omega)
    have h9:=hb 0 (Int.le_refl _) (by omega)
    rw [show ((0:Nat):Int)=0 from rfl,h9] at h
    exact List.mem_of_getElem? h
  · rw [hb a h0 h1,hp]
    unfold Ik
    by_cases e:a=0
    · rw [if_pos e];simp [e]
    · rw [if_neg e];simp [e]
theorem rd_R {c:List Int} (hc:okC c=true) (i:Nat):R64 (rd c (i:Int)):=by
  unfold rd
  rw [Int.toNat_natCast,List.getD_eq_getElem?_getD]
  by_cases h:i<c.length
  · rw [List.getElem?_eq_getElem h]
    have h2:(c.any fun q => !(decide (-1000000≤q∧q≤1000000)))=false:=by
      unfold okC at hc
      cases hx:(c.any fun q => !(decide (-1000000≤q∧q≤1000000))) with
      | false=>rfl
      | true=>rw [hx] at hc;exact absurd hc (by decide)
    rw [List.any_eq_false] at h2
    have h3:=h2 _ (List.getElem_mem h)
    have h4 : -1000000≤c[i]∧c[i]≤1000000:=by
      by_cases hd:(-1000000≤c[i]∧c[i]≤1000000)
      · exact hd
      · exact absurd (by simp only [decide_eq_false hd];rfl) h3
    show -9223372036854775808≤c[i]∧c[i]<9223372036854775808
    omega
  · rw [List.getElem?_eq_none (by omega)]
    unfold R64
    show -9223372036854775808≤(0:Int)∧(0:Int)<9223372036854775808
    omega

/-! ### Kb that fit: what the program says of currents of which much is known -/
theorem fstep_at {n : Int} {s c : List Int} {w : Wr} (hs : (s.length : Int) = n) (hw : Bm n w) (i : Nat) (B : Int) (hB : B ≤ 1000000000) (hb : ∀ v, 0 ≤ v → -B ≤ iAt s v ∧ iAt s v ≤ B) (hc : -1000000 ≤ rd c (i : Int) ∧ rd c (i : Int) ≤ 1000000) (v : Int) (h0 : 0 ≤ v) :
    iAt (fstep c i s w) v=iAt s v-(bI (w.f0=v)-bI (w.f1=v))*rd c (i:Int):=by
  obtain ⟨⟨a0,a1⟩,⟨b0,b1⟩,ab⟩:=hw
  have x0:=hb w.f0 a0
  have x1:=hb w.f1 b0
  unfold fstep
  rw [rd_i s,rd_i (s.set _ _),Gw _ _ _ _ b0 (by rw [List.length_set];omega) h0,Gw _ _ _ _ a0 (by omega) b0,Gw _ _ _ _ a0 (by omega) h0,if_neg (show ¬ w.f1=w.f0 by omega),Ap (by omega) (by omega),Ap (by omega) (by omega)]
  unfold bI
  by_cases e1:v=w.f1
  · rw [if_pos e1,if_neg (by omega),if_pos e1.symm,e1];omega
  · rw [if_neg e1,if_neg (show ¬ w.f1=v by omega)]
    by_cases e0:v=w.f0
    · rw [if_pos e0,if_pos e0.symm,e0];omega
    · rw [if_neg e0,if_neg (show ¬ w.f0=v by omega)];omega
theorem Ic (g:Wr→Int) (W:List Wr) (i:Nat) (w:Wr) (t:List Wr) (h:W.drop i=w::t):rd (W.map g) (i:Int)=g w:=by
  obtain ⟨h1,h2,_⟩:=El W i w t h
  rw [I6 W i h1] at h2
  unfold rd
  rw [Int.toNat_natCast,List.getD_eq_getElem?_getD,List.getElem?_map,List.getElem?_eq_getElem h1,h2];rfl
theorem Uj {n : Int} {W : List Wr} (hws : ∀ w ∈ W, Bm n w) (g : Wr → Int) (hg : ∀ w ∈ W, -1000000 ≤ g w ∧ g w ≤ 1000000) : ∀ (t : List Wr) (i : Nat) (s : List Int) (B : Int), W.drop i = t → (s.length : Int) = n → 0 ≤ B → B + 1000000 * (t.length : Int) ≤ 1000000000 → (∀ v, 0 ≤ v → -B ≤ iAt s v ∧ iAt s v ≤ B) →
    ∀ v,0≤v→iAt (I2 (W.map g) t i s) v=iAt s v-og g t v
  | [],_,s,B,_,_,_,_,_,v,_=>by rw [I2,og];omega
  | w::t,i,s,B,hd,hs,hB0,hB,hb,v,h0=>by
    obtain ⟨h1,h2,h3,h4,h5⟩:=El W i w t hd
    have e:=Ic g W i w t hd
    have hc:=hg w h4
    rw [List.length_cons] at hB
    have st:=fun v h0=>fstep_at (c:=W.map g) hs (hws w h4) i B (by omega) hb (by rw [e];exact hc) v h0
    rw [I2,Uj hws g hg t (i+1) _ (B+1000000) h3 (by simp [fstep];exact hs) (by omega) (by omega) (fun v h0=>?_) v h0,st v h0,e,og]
    · omega
    · rw [st v h0,e]
      have:=hb v h0
      have a:=Mb (w.f0=v)
      have b:=Mb (w.f1=v)
      unfold bI
      split <;> split <;> omega
theorem okC_map (g:Wr→Int) (W:List Wr) (hg:∀ w ∈ W,-1000000≤g w∧g w≤1000000):okC (W.map g)=true:=by
  unfold okC
  rw [List.any_map]
  have:(W.any ((fun q => !(decide (-1000000≤q∧q≤1000000))) ∘ g))=false:=by
    rw [List.any_eq_false]
    intro w hw
    simp [hg w hw]
  rw [this];rfl
theorem Ro {n:Int} {W:List Wr} (h:B1 n W) (g:Wr→Int) (hg:∀ w ∈ W,-1000000≤g w∧g w≤1000000):J2 n W (W.map g)=true:=by
  unfold J2
  rw [okC_map g W hg]
  simp [h]
theorem Uk {n:Int} {W:List Wr} (h:B1 n W) (g:Wr→Int) (hg:∀ w ∈ W,-1000000≤g w∧g w≤1000000) (hz:∀ v,1≤v→v<n-1→og g W v=0):flowR n W (W.map g)=(true,true):=by
  have hn:=h.1
  have hl:=h.2.1
  have z:∀ v:Int,iAt (List.replicate n.toNat 0) v=0:=fun v=>by
    simp [iAt,List.getD_eq_getElem?_getD,List.getElem?_replicate]
    split <;> rfl
  unfold flowR
  rw [if_pos (Ro h g hg)]
  have all:allZ (Av n (I2 (W.map g) W 0 (List.replicate n.toNat 0)))=true:=by
    unfold allZ
    have:((Av n (I2 (W.map g) W 0 (List.replicate n.toNat 0))).any fun n=>n != 0)=false:=by
      rw [List.any_eq_false]
      intro q hq
      obtain ⟨j,hj,rfl⟩:=List.mem_iff_getElem.1 hq
      unfold Av at hj ⊢
      rw [List.length_drop,List.length_take,M8] at hj
      rw [List.getElem_drop,List.getElem_take]
      simp only [List.length_replicate] at hj
      have a:=Uj h.2.2.1 g hg W 0 (List.replicate n.toNat 0) 0 rfl (by simp;omega) (by omega) (by omega) (fun v _=>by rw [z];omega) ((1+j:Nat):Int) (by omega)
      rw [z,hz _ (by omega) (by omega)] at a
      have b:=J9 (I2 (W.map g) W 0 (List.replicate n.toNat 0)) (1+j) (by rw [M8];simp;omega)
      rw [List.getElem?_eq_getElem (by rw [M8];simp;omega)] at b
      rw [Option.some.inj b,a];decide
    rw [this];rfl
  rw [all]
theorem bal_yes {n:Int} {W:List Wr} (h:B1 n W) (g:Wr→Int) (hg:∀ w ∈ W,-1000000≤g w∧g w≤1000000) (q:Int→Int) (q0:q 0=0) (hq:∀ j,R64 (q j)) (hf:∀ w ∈ W,wrap64 (q w.f0-q w.f1)=g w):Ev (fun k=>Ar.f k n W (W.map g)) (true,true):=by
  classical
  have h':=h
  obtain ⟨n1,n2,n3,n4⟩:=h'
  obtain ⟨k1,k2,k3⟩:=start_ok (n:=n) (W:=W) n1
  have hR:=rd_R (okC_map g W hg)
  unfold Ar.f
  refine Ev.bind (Kv n W (W.map g)) (Ev.pos (Ro h g hg) ?_)
  have hl:=k1.1.1
  refine Ev.eqr (impl_b0 n1 n3 n4 n2 (by simp) hR n.toNat 0 _ _ _ 1 (by omega) k1 k3 (by omega) (.inr (by omega)) (fun e=>by omega)) ?_
  have S:Sat n W (W.map g) ((List.replicate n.toNat false).set 0 true) (List.replicate n.toNat 0):=by
    refine ⟨q,hq,fun j h0 h1 hj=>?_,fun i hi=>?_⟩
    · have hs:=Jp (List.replicate n.toNat false) 0 j true (Int.le_refl _) (by simp;omega) h0
      rw [show (0:Int).toNat=0 from rfl] at hs
      rw [hs] at hj
      by_cases e:j=0
      · rw [e,q0];simp [iAt,List.getD_eq_getElem?_getD,List.getElem?_replicate];split <;> rfl
      · rw [if_neg e] at hj
        simp [bAt,List.getD_eq_getElem?_getD,List.getElem?_replicate] at hj
        exact absurd hj (by split <;> simp)
    · rw [I6 W i hi,hf _ (List.getElem_mem hi)]
      unfold rd
      rw [Int.toNat_natCast,List.getD_eq_getElem?_getD,List.getElem?_map,List.getElem?_eq_getElem hi];rfl
  rw [decide_eq_true S]

namespace CUT

/-! ### a cut: what the program's IsCut and the reference's cuGood answer -/
abbrev Sq:=S61
def Al (l:List Sq) (j:Nat):Sq:=l.getD j z61
theorem Jm (l:List Sq) (j:Nat):Aj l (j:Int)=Al l j:=by unfold Aj Al;rw [Int.toNat_natCast]
theorem sqAt_get (l:List Sq) (j:Nat) (h:j<l.length):Al l j=l[j]:=by unfold Al;simp [List.getD,h]
theorem Md (l:List Sq) (j:Nat) (h:j<l.length):Al l j ∈ l:=by rw [sqAt_get l j h];exact List.getElem_mem h
/-- a square lies in the rectangle -/
def Ins (W H:Int) (s:Sq):Prop:=1≤s.f2∧0≤s.f0∧s.f0+s.f2≤W∧0≤s.f1∧s.f1+s.f2≤H
instance (W H:Int) (s:Sq):Decidable (Ins W H s):=by unfold Ins;infer_instance
def Jj (a b:Sq):Prop:=a.f1<b.f1∨a.f1=b.f1∧a.f0<b.f0
instance (a b:Sq):Decidable (Jj a b):=by unfold Jj;infer_instance
def Ovl (a b:Sq):Prop:=a.f0<b.f0+b.f2∧b.f0<a.f0+a.f2∧a.f1<b.f1+b.f2∧b.f1<a.f1+a.f2
instance (a b:Sq):Decidable (Ovl a b):=by unfold Ovl;infer_instance
def Ie (W H:Int) (l:List Sq) (i:Nat):Prop:=Ins W H (Al l i)∧(0<i→Jj (Al l (i-1)) (Al l i))∧∀ j,j<i→¬ Ovl (Al l i) (Al l j)
instance (W H:Int) (l:List Sq) (i:Nat):Decidable (Ie W H l i):=by unfold Ie;infer_instance
def Ej (l:List Sq):Nat→Int
  | 0=>0
  | n+1=>Ej l n+(Al l n).f2*(Al l n).f2
/-- a width, a height and squares are a cut -/
def Good (W H:Int) (l:List Sq):Prop:=(1≤W∧W≤500)∧(1≤H∧H≤500)∧(1≤l.length∧l.length≤30)∧(∀ i,i<l.length→Ie W H l i)∧Ej l l.length=W*H
instance (W H:Int) (l:List Sq):Decidable (Good W H l):=by unfold Good;infer_instance

theorem Jc (a b c:Int):Bo.f a b c=some (decide (b≤a∧a≤c)):=by
  unfold Bo.f
  by_cases h:b≤a
  · rw [if_pos h];simp [h]
  · rw [if_neg h];simp [h]
theorem Rp (a:Int):Dv.f a=some (decide (1≤a∧a≤500)):=by
  unfold Dv.f;rw [Jc];rfl
theorem It (a b c:Int):Br.f a b c=some (decide (b≤a∧a≤c)):=by
  unfold Br.f
  by_cases h:b≤a
  · rw [if_pos h];simp [h]
  · rw [if_neg h];simp [h]
theorem Jd (W H:Int) (l:List Sq) (hW:W≤500) (hH:H≤500):∀ n,n≤30→(∀ m,m<n→Ins W H (Al l m))→0≤Ej l n∧Ej l n≤n*250000
  | 0,_,_=>by simp [Ej]
  | n+1,hn,h=>by
    obtain ⟨h1,h2⟩:=Jd W H l hW hH n (by omega) (fun m hm=>h m (by omega))
    have hi:=h n (by omega)
    unfold Ins at hi
    have q1:0≤(Al l n).f2*(Al l n).f2:=Int.mul_nonneg (by omega) (by omega)
    have q2:(Al l n).f2*(Al l n).f2≤500*500:=Int.mul_le_mul (by omega) (by omega) (by omega) (by omega)
    simp only [Ej]
    omega
theorem sq_bd {W H:Int} {s:Sq} (hW:W≤500) (hH:H≤500) (h:Ins W H s):0≤s.f2*s.f2∧s.f2*s.f2≤250000:=by
  unfold Ins at h
  have q1:0≤s.f2*s.f2:=Int.mul_nonneg (by omega) (by omega)
  have q2:s.f2*s.f2≤500*500:=Int.mul_le_mul (by omega) (by omega) (by omega) (by omega)
  omega

theorem Ve {W H : Int} {a b : Sq} (hW : W ≤ 500) (hH : H ≤ 500) (ha : Ins W H a) (hb : Ins W H b) :
    ∃ c,Cx.f a.f0 a.f1 a.f2 b.f0 b.f1 b.f2=some c∧(c<0↔Jj a b):=by
  unfold Ins at ha hb
  unfold Cx.f Jj
  by_cases e:a.f1=b.f1
  · rw [if_pos e];exact ⟨_,rfl,by rw [Ap (by omega) (by omega)];omega⟩
  · rw [if_neg e];exact ⟨_,rfl,by rw [Ap (by omega) (by omega)];omega⟩
theorem Qi {W H : Int} {a b : Sq} (hW : W ≤ 500) (hH : H ≤ 500) (ha : Ins W H a) (hb : Ins W H b) :
    Dt.f a.f0 a.f1 a.f2 b.f0 b.f1 b.f2=some (decide (Ovl a b)):=by
  unfold Ins at ha hb
  unfold Dt.f Ovl
  rw [Ap (by omega) (by omega),Ap (by omega) (by omega),Ap (by omega) (by omega),Ap (by omega) (by omega)]
  by_cases h1:a.f0<b.f0+b.f2
  · by_cases h2:b.f0<a.f0+a.f2
    · by_cases h3:a.f1<b.f1+b.f2
      · simp [h1,h2,h3]
      · simp [h1,h2,h3]
    · simp [h1,h2]
  · simp [h1]
theorem less_eq (a b:Sq):Et.f a.f0 a.f1 a.f2 b.f0 b.f1 b.f2=some (decide (Jj a b)):=by
  unfold Et.f Jj
  by_cases h1:a.f1<b.f1
  · rw [if_pos h1];simp [h1]
  · rw [if_neg h1]
    by_cases h2:a.f1=b.f1
    · rw [if_pos h2];simp [h2]
    · rw [if_neg h2];simp [h1,h2]

/-! the program's own -/
theorem Vc {W H : Int} {l : List Sq} (hW : W ≤ 500) (hH : H ≤ 500) (i : Nat) (hi : i < l.length) (h : ∀ m, m ≤ i → Ins W H (Al l m)) :
    Aq.f (l.take i) (Al l i).f0 (Al l i).f1 (Al l i).f2=some (decide (∃ j,j<i∧Ovl (Al l i) (Al l j))):=by
  unfold Aq.f
  congr 1
  rw [Bool.eq_iff_iff,List.any_eq_true,decide_eq_true_eq]
  constructor
  · rintro ⟨t,ht,hp⟩
    obtain ⟨j,hj⟩:=List.getElem?_of_mem ht
    have hj1:j<(l.take i).length:=(List.getElem?_eq_some_iff.1 hj).1
    have hj2:j<i:=by simp at hj1;omega
    have e:t=Al l j:=by
      rw [List.getElem?_take_of_lt hj2,List.getElem?_eq_getElem (by omega)] at hj
      rw [sqAt_get l j (by omega)];exact (Option.some.inj hj).symm
    subst e
    rw [Qi hW hH (h i (Nat.le_refl _)) (h j (by omega))] at hp
    exact ⟨j,hj2,by simpa using hp⟩
  · rintro ⟨j,hj,ho⟩
    refine ⟨Al l j,?_,?_⟩
    · rw [sqAt_get l j (by omega)]
      exact List.mem_take_iff_getElem.2 ⟨j,by omega,rfl⟩
    · rw [Qi hW hH (h i (Nat.le_refl _)) (h j (by omega))];simpa using ho

theorem Nv (W H:Int) (l:List Sq) (i:Nat):(∀ m,i≤m→m<l.length→Ie W H l m)↔(i<l.length→Ie W H l i)∧(∀ m,i+1≤m→m<l.length→Ie W H l m) :=
  ⟨fun h=>⟨fun hi=>h i (Nat.le_refl _) hi,fun m h1 h2=>h m (by omega) h2⟩,fun ⟨h1,h2⟩ m h3 h4=>by
    by_cases e:i=m
    · subst e;exact h1 h4
    · exact h2 m (by omega) h4⟩

theorem impl_loop {W H : Int} {l : List Sq} (hW : 1 ≤ W ∧ W ≤ 500) (hH : 1 ≤ H ∧ H ≤ 500) (hl : l.length ≤ 30) : ∀ (d i : Nat), l.length - i = d → i ≤ l.length → (∀ m, m < i → Ie W H l m) →
    ∀ r:Bool,(r=true↔(∀ m,i≤m→m<l.length→Ie W H l m)∧Ej l l.length=W*H)→Ev (fun k=>Az.l0 k (Ej l i) l (l.length:Int) (i:Int) W H l) r:=by
  intro d
  induction d with
  | zero =>
    intro i hd hi hok r hr
    obtain rfl:i=l.length:=by omega
    have bd:=Jd W H l hW.2 hH.2 l.length hl (fun m hm=>(hok m hm).1)
    have w1:W*H≤500*500:=Int.mul_le_mul (by omega) (by omega) (by omega) (by omega)
    have w0:0≤W*H:=Int.mul_nonneg (by omega) (by omega)
    refine Ev.succ ?_
    simp only [Az.l0]
    refine Ev.neg (by omega) ?_
    rw [Ap (by omega) (by omega)]
    refine Ev.eqr (Ev.now _) ?_
    rw [Bool.eq_iff_iff,hr,beq_iff_eq]
    exact ⟨fun h=>⟨fun m h1 h2=>by omega,h⟩,fun h=>h.2⟩
  | succ d ih =>
    intro i hd hi hok r hr
    have hlt:i<l.length:=by omega
    rw [Nv] at hr
    refine Ev.succ ?_
    simp only [Az.l0,Jm]
    refine Ev.pos (by omega) (Ev.pos (by omega) (Ev.pos (by omega) ?_))
    have hmn:mn W H≤500:=by unfold mn;split <;> omega
    have fall:∀ r:Bool,r=false→Ev (fun k=>Az.j2 k (Ej l i) (i:Int) l (l.length:Int) (i:Int) true W H l (Al l i).f0 (Al l i).f1 (Al l i).f2) r:=by
      rintro _ rfl
      refine Ev.succ ?_
      simp only [Az.j2]
      exact Ev.pos trivial (Ev.now _)
    have rf:¬ Ie W H l i→r=false:=fun h=>by
      cases hq:r with
      | false=>rfl
      | true=>exact absurd ((hr.1 hq).1.1 hlt) h
    have mnle:mn W H≤W∧mn W H≤H∧(mn W H=W∨mn W H=H):=by unfold mn;split <;> omega
    refine Ev.bindc (Jc _ _ _) ?_
    by_cases c1:1≤(Al l i).f2∧(Al l i).f2≤mn W H
    · rw [decide_eq_true c1]
      refine Ev.pos rfl (Ev.bindc (Jc _ _ _) ?_)
      rw [Ap (by omega) (by omega)]
      by_cases c2:0≤(Al l i).f0∧(Al l i).f0≤W-(Al l i).f2
      · rw [decide_eq_true c2]
        refine Ev.pos rfl (Ev.bindc (Jc _ _ _) ?_)
        rw [Ap (by omega) (by omega)]
        by_cases c3:0≤(Al l i).f1∧(Al l i).f1≤H-(Al l i).f2
        · rw [decide_eq_true c3]
          have hins:Ins W H (Al l i):=by unfold Ins;omega
          have hall:∀ m,m≤i→Ins W H (Al l m):=fun m hm=>by
            by_cases e:m=i
            · rw [e];exact hins
            · exact (hok m (by omega)).1
          refine Ev.succ ?_
          simp only [Az.j2,Bool.not_true]
          refine Ev.neg (by decide) ?_
          have bd:=Jd W H l hW.2 hH.2 i (by omega) (fun m hm=>hall m (by omega))
          have qb:=sq_bd hW.2 hH.2 hins
          have tn:((i:Int)).toNat=i:=Int.toNat_natCast i
          have next:(∀ j,j<i→¬ Ovl (Al l i) (Al l j))→(0<i→Jj (Al l (i-1)) (Al l i))→Ev (fun k=>Az.l0 k (wrap64 (Ej l i+wrap64 ((Al l i).f2*(Al l i).f2))) l (l.length:Int) (wrap64 ((i:Int)+1)) W H l) r:=by
            intro ho hlss
            have hk:Ie W H l i:=⟨hins,hlss,ho⟩
            rw [Ap (n:=(Al l i).f2*(Al l i).f2) (by omega) (by omega),Ap (n:=Ej l i+(Al l i).f2*(Al l i).f2) (by omega) (by omega),Ap (n:=(i:Int)+1) (by omega) (by omega)]
            have:=ih (i+1) (by omega) (by omega) (fun m hm=>by
              by_cases e:m=i
              · rw [e];exact hk
              · exact hok m (by omega)) r (by rw [hr];exact ⟨fun h=>⟨h.1.2,h.2⟩,fun h=>⟨⟨fun _=>hk,h.1⟩,h.2⟩⟩)
            exact this
          have cont:(0<i→Jj (Al l (i-1)) (Al l i))→Ev (fun k=>if 0≤(i:Int) then if (i:Int)≤(l.length:Int) then (Aq.f (l.take ((i:Int)).toNat) (Al l i).f0 (Al l i).f1 (Al l i).f2).bind fun t=>if t=true then some false else Az.l0 k (wrap64 (Ej l i+wrap64 ((Al l i).f2*(Al l i).f2))) l (l.length:Int) (wrap64 ((i:Int)+1)) W H l else none else none) r:=by
            intro hlss
            refine Ev.pos (by omega) (Ev.pos (by omega) ?_)
            rw [tn]
            refine Ev.bindc (Vc hW.2 hH.2 i hlt hall) ?_
            by_cases ho:∃ j,j<i∧Ovl (Al l i) (Al l j)
            · rw [decide_eq_true ho]
              refine Ev.pos rfl (Ev.eqr (Ev.now _) (rf fun hk=>?_).symm)
              obtain ⟨j,hj,hq⟩:=ho
              exact hk.2.2 j hj hq
            · rw [decide_eq_false ho]
              exact Ev.neg (by decide) (next (fun j hj hq=>ho ⟨j,hj,hq⟩) hlss)
          by_cases hi0:(i:Int)>0
          · refine Ev.pos hi0 ?_
            have e1:wrap64 ((i:Int)-1)=((i-1:Nat):Int):=by rw [Ap (by omega) (by omega)];omega
            simp only [e1,Jm]
            refine Ev.pos (by omega) (Ev.pos (by omega) ?_)
            obtain ⟨c,hc,hcl⟩:=Ve hW.2 hH.2 (hall (i-1) (by omega)) hins
            refine Ev.bindc hc ?_
            by_cases c4:c≥0
            · refine Ev.pos c4 (Ev.eqr (Ev.now _) (rf fun hk=>?_).symm)
              have:=hcl.2 (hk.2.1 (by omega))
              omega
            · exact Ev.neg c4 (cont fun _=>hcl.1 (by omega))
          · exact Ev.neg hi0 (cont fun h=>by omega)
        · rw [decide_eq_false c3]
          exact fall _ (rf fun h=>c3 (by have:=h.1;unfold Ins at this;omega))
      · rw [decide_eq_false c2]
        exact Ev.neg (by decide) (fall _ (rf fun h=>c2 (by have:=h.1;unfold Ins at this;omega)))
    · rw [decide_eq_false c1]
      refine Ev.neg (by decide) (fall _ (rf fun h=>c1 ?_))
      have:=h.1
      unfold Ins at this
      rcases mnle.2.2 with e|e <;> omega

theorem impl_IsCut_ev (W H:Int) (l:List Sq):Ev (fun k=>Az.f k W H l) (decide (Good W H l)):=by
  unfold Az.f
  have fall:∀ r:Bool,r=false→Ev (fun k=>Az.j0 k true W H l) r:=by
    rintro _ rfl
    refine Ev.succ ?_
    simp only [Az.j0]
    exact Ev.pos trivial (Ev.now _)
  refine Ev.bindc (Rp _) ?_
  by_cases c1:1≤W∧W≤500
  · rw [decide_eq_true c1]
    refine Ev.pos rfl (Ev.bindc (Rp _) ?_)
    by_cases c2:1≤H∧H≤500
    · rw [decide_eq_true c2]
      refine Ev.pos rfl ?_
      by_cases c3:(l.length:Int)>30
      · rw [decide_eq_true c3]
        exact fall _ (decide_eq_false fun h=>by have:=h.2.2.1;omega)
      · rw [decide_eq_false c3]
        refine Ev.succ ?_
        simp only [Az.j0]
        refine Ev.neg (by decide) ?_
        have:=impl_loop (l:=l) c1 c2 (by omega) l.length 0 (by omega) (Nat.zero_le _) (fun m hm=>by omega) (decide (Good W H l)) ?_
        · exact this
        · rw [decide_eq_true_eq]
          constructor
          · intro h;exact ⟨fun m _ h2=>h.2.2.2.1 m h2,h.2.2.2.2⟩
          · intro h
            refine ⟨c1,c2,⟨?_,(by omega:l.length≤30)⟩,fun m hm=>h.1 m (Nat.zero_le _) hm,h.2⟩
            cases hl:l with
            | nil =>
              subst hl
              have e:(0:Int)=W*H:=h.2
              have:0<W*H:=Int.mul_pos (by omega) (by omega)
              omega
            | cons a t=>simp
    · rw [decide_eq_false c2]
      exact Ev.neg (by decide) (fall _ (decide_eq_false fun h=>c2 h.2.1))
  · rw [decide_eq_false c1]
    exact Ev.neg (by decide) (fall _ (decide_eq_false fun h=>c1 h.1))

/-! the reference's own -/
/-- what the Av loop of the reference asks of the squares from place j on -/
def Iu (l:List Sq) (i j:Nat):Prop:=∀ m,j≤m→m<i→¬ Ovl (Al l i) (Al l m)∧(m+1=i→Jj (Al l m) (Al l i))
theorem Vf (l:List Sq) (i j:Nat) (h:j<i):Iu l i j↔(¬ Ovl (Al l i) (Al l j)∧(j+1=i→Jj (Al l j) (Al l i)))∧Iu l i (j+1) :=
  ⟨fun h1=>⟨h1 j (Nat.le_refl _) h,fun m h2 h3=>h1 m (by omega) h3⟩,fun ⟨h1,h2⟩ m h3 h4=>by
    by_cases e:j=m
    · subst e;exact h1
    · exact h2 m (by omega) h4⟩
theorem inner_ok (W H:Int) (l:List Sq) (i:Nat):Ie W H l i↔Ins W H (Al l i)∧Iu l i 0:=by
  unfold Ie Iu
  constructor
  · rintro ⟨h1,h2,h3⟩
    refine ⟨h1,fun m _ hm=>⟨h3 m hm,fun e=>?_⟩⟩
    have:=h2 (by omega)
    rw [show i-1=m by omega] at this
    exact this
  · rintro ⟨h1,h2⟩
    exact ⟨h1,fun hi=>(h2 (i-1) (Nat.zero_le _) (by omega)).2 (by omega),fun j hj=>(h2 j (Nat.zero_le _) hj).1⟩

theorem Vg {W H : Int} {l : List Sq} (hW : 1 ≤ W ∧ W ≤ 500) (hH : 1 ≤ H ∧ H ≤ 500) (hl : l.length ≤ 30) (i : Nat) (hi : i < l.length) (hall : ∀ m, m ≤ i → Ins W H (Al l m)) (A : Int) (r : Bool)
    (hgood:Iu l i 0→Ev (fun k=>Ay.l0 k A l (l.length:Int) ((i:Int)+1) W H l) r) (hbad:¬ Iu l i 0→r=false) :
    ∀ (d j:Nat),i-j=d→j≤i→(Iu l i j↔Iu l i 0) →
      Ev (fun k=>Ay.l1 k A (i:Int) l (l.length:Int) (i:Int) (l.take i) (i:Int) (j:Int) W H l (Al l i).f0 (Al l i).f1 (Al l i).f2) r:=by
  intro d
  induction d with
  | zero =>
    intro j hd hj hiff
    obtain rfl:j=i:=by omega
    refine Ev.succ ?_
    simp only [Ay.l1]
    refine Ev.neg (by omega) ?_
    rw [Ap (by omega) (by omega)]
    exact hgood (hiff.1 fun m h1 h2=>by omega)
  | succ d ih =>
    intro j hd hj hiff
    have hlt:j<i:=by omega
    have tk:(l.take i).length=i:=by rw [List.length_take];omega
    have et:Al (l.take i) j=Al l j:=by
      rw [sqAt_get _ _ (by omega),sqAt_get _ _ (by omega),List.getElem_take]
    rw [Vf l i j hlt] at hiff
    refine Ev.succ ?_
    simp only [Ay.l1,Jm,et,tk]
    refine Ev.pos (by omega) (Ev.pos (by omega) (Ev.pos (by omega) ?_))
    have a:=hall i (Nat.le_refl _)
    have b:=hall j (by omega)
    have j4:∀ b:Bool,b=decide (Ovl (Al l i) (Al l j))→Ev (fun k=>Ay.j4 k A (i:Int) (j:Int) l (l.length:Int) (i:Int) (l.take i) (i:Int) (j:Int) b W H l (Al l i).f0 (Al l i).f1 (Al l i).f2 (Al l j).f0 (Al l j).f1 (Al l j).f2) r:=by
      rintro b rfl
      refine Ev.succ ?_
      simp only [Ay.j4]
      by_cases ho:Ovl (Al l i) (Al l j)
      · exact Ev.pos (decide_eq_true ho) (Ev.eqr (Ev.now _) (hbad fun h=>(hiff.2 h).1.1 ho).symm)
      · refine Ev.neg (by simpa using ho) ?_
        have e1:wrap64 ((i:Int)-1)=(i:Int)-1:=Ap (by omega) (by omega)
        have e2:wrap64 ((j:Int)+1)=((j+1:Nat):Int):=by rw [Ap (by omega) (by omega)];omega
        rw [e1,e2]
        by_cases hj1:j+1=i
        · refine Ev.pos (by omega) (Ev.bindc (less_eq _ _) ?_)
          by_cases hls:Jj (Al l j) (Al l i)
          · exact Ev.pos (decide_eq_true hls) (ih (j+1) (by omega) (by omega) ⟨fun h=>hiff.1 ⟨⟨ho,fun _=>hls⟩,h⟩,fun h=>(hiff.2 h).2⟩)
          · exact Ev.neg (by simpa using hls) (Ev.eqr (Ev.now _) (hbad fun h=>hls ((hiff.2 h).1.2 hj1)).symm)
        · exact Ev.neg (by omega) (ih (j+1) (by omega) (by omega) ⟨fun h=>hiff.1 ⟨⟨ho,fun e=>absurd e hj1⟩,h⟩,fun h=>(hiff.2 h).2⟩)
    unfold Ins at a b
    rw [Ap (n:=(Al l j).f0+(Al l j).f2) (by omega) (by omega),Ap (n:=(Al l i).f0+(Al l i).f2) (by omega) (by omega),Ap (n:=(Al l j).f1+(Al l j).f2) (by omega) (by omega),Ap (n:=(Al l i).f1+(Al l i).f2) (by omega) (by omega)]
    by_cases c1:(Al l i).f0<(Al l j).f0+(Al l j).f2
    · refine Ev.pos c1 ?_
      by_cases c2:(Al l j).f0<(Al l i).f0+(Al l i).f2
      · refine Ev.pos c2 ?_
        by_cases c3:(Al l i).f1<(Al l j).f1+(Al l j).f2
        · refine Ev.pos c3 (j4 _ ?_)
          unfold Ovl
          simp [c1,c2,c3]
        · exact Ev.neg c3 (j4 _ (decide_eq_false fun h=>c3 h.2.2.1).symm)
      · exact Ev.neg c2 (j4 _ (decide_eq_false fun h=>c2 h.2.1).symm)
    · exact Ev.neg c1 (j4 _ (decide_eq_false fun h=>c1 h.1).symm)

theorem spec_loop {W H : Int} {l : List Sq} (hW : 1 ≤ W ∧ W ≤ 500) (hH : 1 ≤ H ∧ H ≤ 500) (hl : l.length ≤ 30) : ∀ (d i : Nat), l.length - i = d → i ≤ l.length → (∀ m, m < i → Ie W H l m) →
    ∀ r:Bool,(r=true↔(∀ m,i≤m→m<l.length→Ie W H l m)∧Ej l l.length=W*H)→Ev (fun k=>Ay.l0 k (Ej l i) l (l.length:Int) (i:Int) W H l) r:=by
  intro d
  induction d with
  | zero =>
    intro i hd hi hok r hr
    obtain rfl:i=l.length:=by omega
    have bd:=Jd W H l hW.2 hH.2 l.length hl (fun m hm=>(hok m hm).1)
    have w1:W*H≤500*500:=Int.mul_le_mul (by omega) (by omega) (by omega) (by omega)
    have w0:0≤W*H:=Int.mul_nonneg (by omega) (by omega)
    refine Ev.succ ?_
    simp only [Ay.l0]
    refine Ev.neg (by omega) ?_
    rw [Ap (by omega) (by omega)]
    refine Ev.eqr (Ev.now _) ?_
    rw [Bool.eq_iff_iff,hr,beq_iff_eq]
    exact ⟨fun h=>⟨fun m h1 h2=>by omega,h⟩,fun h=>h.2⟩
  | succ d ih =>
    intro i hd hi hok r hr
    have hlt:i<l.length:=by omega
    rw [Nv] at hr
    refine Ev.succ ?_
    simp only [Ay.l0,Jm]
    refine Ev.pos (by omega) (Ev.pos (by omega) (Ev.pos (by omega) ?_))
    have fall:∀ r:Bool,r=false→Ev (fun k=>Ay.j2 k (Ej l i) (i:Int) l (l.length:Int) (i:Int) true W H l (Al l i).f0 (Al l i).f1 (Al l i).f2) r:=by
      rintro _ rfl
      refine Ev.succ ?_
      simp only [Ay.j2]
      exact Ev.pos trivial (Ev.now _)
    have rf:¬ Ie W H l i→r=false:=fun h=>by
      cases hq:r with
      | false=>rfl
      | true=>exact absurd ((hr.1 hq).1.1 hlt) h
    refine Ev.bindc (It _ _ _) ?_
    by_cases c1:1≤(Al l i).f2∧(Al l i).f2≤500
    · rw [decide_eq_true c1]
      refine Ev.pos rfl (Ev.bindc (It _ _ _) ?_)
      rw [Ap (by omega) (by omega)]
      by_cases c2:0≤(Al l i).f0∧(Al l i).f0≤W-(Al l i).f2
      · rw [decide_eq_true c2]
        refine Ev.pos rfl (Ev.bindc (It _ _ _) ?_)
        rw [Ap (by omega) (by omega)]
        by_cases c3:0≤(Al l i).f1∧(Al l i).f1≤H-(Al l i).f2
        · rw [decide_eq_true c3]
          have hins:Ins W H (Al l i):=by unfold Ins;omega
          have hall:∀ m,m≤i→Ins W H (Al l m):=fun m hm=>by
            by_cases e:m=i
            · rw [e];exact hins
            · exact (hok m (by omega)).1
          have bd:=Jd W H l hW.2 hH.2 i (by omega) (fun m hm=>hall m (by omega))
          have qb:=sq_bd hW.2 hH.2 hins
          refine Ev.succ ?_
          simp only [Ay.j2,Bool.not_true]
          refine Ev.neg (by decide) (Ev.pos (by omega) (Ev.pos (by omega) (Ev.bindc rfl ?_)))
          have tk:(l.take ((i:Int)).toNat).length=i:=by rw [List.length_take];omega
          have tn:((i:Int)).toNat=i:=Int.toNat_natCast i
          rw [tk,tn,Ap (n:=(Al l i).f2*(Al l i).f2) (by omega) (by omega),Ap (n:=Ej l i+(Al l i).f2*(Al l i).f2) (by omega) (by omega)]
          have iok:=inner_ok W H l i
          refine Vg hW hH hl i hlt hall _ r (fun hin=>?_) (fun hin=>rf fun h=>hin (iok.1 h).2) i 0 (by omega) (Nat.zero_le _) Iff.rfl
          have hk:Ie W H l i:=iok.2 ⟨hins,hin⟩
          have := ih (i + 1) (by omega) (by omega) (fun m hm => by
              by_cases e:m=i
              · rw [e];exact hk
              · exact hok m (by omega)) r (by rw [hr];exact ⟨fun h=>⟨h.1.2,h.2⟩,fun h=>⟨⟨fun _=>hk,h.1⟩,h.2⟩⟩)
          exact this
        · rw [decide_eq_false c3]
          exact fall _ (rf fun h=>c3 (by have:=h.1;unfold Ins at this;omega))
      · rw [decide_eq_false c2]
        exact Ev.neg (by decide) (fall _ (rf fun h=>c2 (by have:=h.1;unfold Ins at this;omega)))
    · rw [decide_eq_false c1]
      refine Ev.neg (by decide) (fall _ (rf fun h=>c1 ?_))
      have:=h.1
      unfold Ins at this
      omega

theorem spec_cuGood_ev (W H:Int) (l:List Sq):Ev (fun k=>Ay.f k W H l) (decide (Good W H l)):=by
  unfold Ay.f
  have fall:∀ r:Bool,r=false→Ev (fun k=>Ay.j0 k true W H l) r:=by
    rintro _ rfl
    refine Ev.succ ?_
    simp only [Ay.j0]
    exact Ev.pos trivial (Ev.now _)
  refine Ev.bindc (It _ _ _) ?_
  by_cases c1:1≤W∧W≤500
  · rw [decide_eq_true c1]
    refine Ev.pos rfl (Ev.bindc (It _ _ _) ?_)
    by_cases c2:1≤H∧H≤500
    · rw [decide_eq_true c2]
      refine Ev.pos rfl (Ev.bindc (It _ _ _) ?_)
      by_cases c3:1≤(l.length:Int)∧(l.length:Int)≤30
      · rw [decide_eq_true c3]
        refine Ev.succ ?_
        simp only [Ay.j0,Bool.not_true]
        refine Ev.neg (by decide) ?_
        refine spec_loop (l:=l) c1 c2 (by omega) l.length 0 (by omega) (Nat.zero_le _) (fun m hm=>by omega) (decide (Good W H l)) ?_
        rw [decide_eq_true_eq]
        exact ⟨fun h=>⟨fun m _ h2=>h.2.2.2.1 m h2,h.2.2.2.2⟩,fun h=>⟨c1,c2,by omega,fun m hm=>h.1 m (Nat.zero_le _) hm,h.2⟩⟩
      · rw [decide_eq_false c3]
        exact fall _ (decide_eq_false fun h=>c3 (by have:=h.2.2.1;omega))
    · rw [decide_eq_false c2]
      exact Ev.neg (by decide) (fall _ (decide_eq_false fun h=>c2 h.2.1))
  · rw [decide_eq_false c1]
    exact Ev.neg (by decide) (fall _ (decide_eq_false fun h=>c1 h.1))

theorem N8 (l:List Sq) (i:Nat) (w:Sq) (t:List Sq) (h:l.drop i=w::t):i<l.length∧Al l i=w∧l.drop (i+1)=t:=by
  have h1:i<l.length:=by
    apply Decidable.byContradiction
    intro hn
    rw [List.drop_eq_nil_of_le (by omega)] at h;cases h
  rw [List.drop_eq_getElem_cons h1] at h
  injection h with ha hb
  exact ⟨h1,by rw [sqAt_get l i h1];exact ha,hb⟩

/-! ### the squares of a cut cover its rectangle: by counting cells -/
def Ce:Nat→(Nat→Int)→Int
  | 0,_=>0
  | n+1,f=>Ce n f+f n
theorem M9 (n:Nat) (f g:Nat→Int):Ce n (fun i=>f i+g i)=Ce n f+Ce n g:=by
  induction n with
  | zero=>rfl
  | succ n ih=>simp only [Ce,ih];omega
theorem Jn (n:Nat):Ce n (fun _=>0)=0:=by
  induction n with
  | zero=>rfl
  | succ n ih=>simp only [Ce,ih];rfl
theorem Gr (n:Nat) (f g:Nat→Int) (h:∀ i,i<n→f i=g i):Ce n f=Ce n g:=by
  induction n with
  | zero=>rfl
  | succ n ih=>simp only [Ce];rw [ih (fun i hi=>h i (by omega)),h n (by omega)]
theorem Rq (n:Nat) (f:Nat→Int) (c:Int):Ce n (fun i=>f i*c)=Ce n f*c:=by
  induction n with
  | zero=>simp [Ce]
  | succ n ih=>simp only [Ce,ih,Int.add_mul]
theorem Ul (n:Nat) (f g:Nat→Int) (h:∀ i,i<n→f i≤g i):Ce n f≤Ce n g:=by
  induction n with
  | zero=>exact Int.le_refl _
  | succ n ih=>simp only [Ce];have:=ih (fun i hi=>h i (by omega));have:=h n (by omega);omega
theorem Um (n:Nat) (f g:Nat→Int) (h:∀ i,i<n→f i≤g i) (j:Nat) (hj:j<n) (hlt:f j<g j):Ce n f<Ce n g:=by
  induction n with
  | zero=>omega
  | succ n ih =>
    simp only [Ce]
    by_cases e:j=n
    · subst e
      have:=Ul j f g (fun i hi=>h i (by omega));omega
    · have:=ih (fun i hi=>h i (by omega)) (by omega);have:=h n (by omega);omega
theorem Km (n:Nat) (c:Int):Ce n (fun _=>c)=n*c:=by
  induction n with
  | zero=>simp [Ce]
  | succ n ih =>
    simp only [Ce,ih]
    rw [show ((n+1:Nat):Int)=(n:Int)+1 by omega,Int.add_mul];omega
/-- 1 in a .. a+s-1, else 0 -/
def ind (a s:Int) (i:Nat):Int:=if a≤(i:Int)∧(i:Int)<a+s then 1 else 0
theorem sum_ind (a s:Int) (ha:0≤a) (hs:0≤s):∀ n:Nat,Ce n (ind a s)=if (n:Int)≤a then 0 else if (n:Int)≤a+s then n-a else s
  | 0=>by simp [Ce];intro h;omega
  | n+1=>by
    simp only [Ce,sum_ind a s ha hs n]
    unfold ind
    split <;> split <;> split <;> (try split) <;> omega
theorem I7 (a s:Int) (n:Nat) (ha:0≤a) (hs:0≤s) (h:a+s≤n):Ce n (ind a s)=s:=by
  rw [sum_ind a s ha hs n]
  split
  · omega
  · split <;> omega
/-- does cell x, y lie in the square -/
def Ek (s:Sq) (x y:Int):Prop:=s.f0≤x∧x<s.f0+s.f2∧s.f1≤y∧y<s.f1+s.f2
instance (s:Sq) (x y:Int):Decidable (Ek s x y):=by unfold Ek;infer_instance
def cell (s:Sq) (x y:Nat):Int:=if Ek s x y then 1 else 0
theorem Q1 (s:Sq) (x y:Nat):cell s x y=ind s.f0 s.f2 x*ind s.f1 s.f2 y:=by
  unfold cell ind
  by_cases h1:s.f0≤(x:Int)∧(x:Int)<s.f0+s.f2
  · by_cases h2:s.f1≤(y:Int)∧(y:Int)<s.f1+s.f2
    · have h:Ek s x y:=⟨h1.1,h1.2,h2.1,h2.2⟩
      rw [if_pos h1,if_pos h2,if_pos h];rfl
    · have h:¬ Ek s x y:=fun h=>h2 ⟨h.2.2.1,h.2.2.2⟩
      rw [if_pos h1,if_neg h2,if_neg h];rfl
  · have h:¬ Ek s x y:=fun h=>h1 ⟨h.1,h.2.1⟩
    rw [if_neg h1,if_neg h];simp
theorem sum_cell {W H:Int} {s:Sq} (h:Ins W H s) (w h':Nat) (hw:(w:Int)=W) (hh:(h':Int)=H):Ce w (fun x=>Ce h' (fun y=>cell s x y))=s.f2*s.f2:=by
  unfold Ins at h
  have e:∀ x,Ce h' (fun y=>cell s x y)=s.f2*ind s.f0 s.f2 x:=by
    intro x
    rw [Gr h' _ (fun y=>ind s.f1 s.f2 y*ind s.f0 s.f2 x) (fun y _=>by rw [Q1,Int.mul_comm]),Rq,I7 _ _ _ (by omega) (by omega) (by omega)]
  rw [Gr w _ (fun x=>ind s.f0 s.f2 x*s.f2) (fun x _=>by rw [e,Int.mul_comm]),Rq,I7 _ _ _ (by omega) (by omega) (by omega)]
/-- how G6 of the first n squares a cell lies in -/
def G6 (l:List Sq):Nat→Nat→Nat→Int
  | 0,_,_=>0
  | n+1,x,y=>G6 l n x y+cell (Al l n) x y
theorem Un {W H:Int} (l:List Sq) (w h:Nat) (hw:(w:Int)=W) (hh:(h:Int)=H):∀ n,(∀ m,m<n→Ins W H (Al l m))→Ce w (fun x=>Ce h (fun y=>G6 l n x y))=Ej l n
  | 0,_=>by
    simp only [G6,Ej]
    rw [Gr w _ (fun _=>0) (fun x _=>Jn h),Jn]
  | n+1,hi=>by
    simp only [G6,Ej]
    rw [Gr w _ (fun x=>Ce h (fun y=>G6 l n x y)+Ce h (fun y=>cell (Al l n) x y)) (fun x _=>M9 h _ _),M9,Un l w h hw hh n (fun m hm=>hi m (by omega)),sum_cell (hi n (by omega)) w h hw hh]
theorem Na (l:List Sq) (x y:Nat):∀ n,(∀ m,m<n→¬ Ek (Al l m) x y)→G6 l n x y=0
  | 0,_=>rfl
  | n+1,h=>by
    simp only [G6,Na l x y n (fun m hm=>h m (by omega))]
    unfold cell
    rw [if_neg (h n (by omega))];rfl
theorem in_ovl {a b:Sq} {x y:Int} (ha:Ek a x y) (hb:Ek b x y):Ovl a b:=by
  unfold Ek at ha hb
  unfold Ovl
  omega
theorem N9 {W H:Int} (l:List Sq) (x y:Nat):∀ n,(∀ m,m<n→Ie W H l m)→G6 l n x y≤1
  | 0,_=>by simp [G6]
  | n+1,h=>by
    simp only [G6]
    unfold cell
    by_cases hn:Ek (Al l n) x y
    · rw [if_pos hn,Na l x y n (fun m hm hc=>(h n (by omega)).2.2 m hm (in_ovl hn hc))];omega
    · rw [if_neg hn];have:=N9 l x y n (fun m hm=>h m (by omega));omega
theorem Np {W H:Int} {l:List Sq} (hg:Good W H l) (x y:Int) (hx:0≤x∧x<W) (hy:0≤y∧y<H):∃ j,j<l.length∧Ek (Al l j) x y:=by
  apply Decidable.byContradiction
  intro hno
  obtain ⟨w,rfl⟩:∃ w:Nat,(w:Int)=W:=⟨W.toNat,by have:=hg.1;omega⟩
  obtain ⟨h,rfl⟩:∃ h:Nat,(h:Int)=H:=⟨H.toNat,by have:=hg.2.1;omega⟩
  obtain ⟨a,rfl⟩:∃ a:Nat,(a:Int)=x:=⟨x.toNat,by omega⟩
  obtain ⟨b,rfl⟩:∃ b:Nat,(b:Int)=y:=⟨y.toNat,by omega⟩
  have ok:=hg.2.2.2.1
  have s1:=Un l w h rfl rfl l.length (fun m hm=>(ok m hm).1)
  have z:=Na l a b l.length (fun m hm hc=>hno ⟨m,hm,hc⟩)
  have row:∀ x:Nat,Ce h (fun y=>G6 l l.length x y)≤h:=fun x=>by
    have:=Ul h (fun y=>G6 l l.length x y) (fun _=>1) (fun y _=>N9 l x y l.length ok)
    rw [Km] at this;omega
  have rowa:Ce h (fun y=>G6 l l.length a y)<h:=by
    have:=Um h (fun y=>G6 l l.length a y) (fun _=>1) (fun y _=>N9 l a y l.length ok) b (by omega) (by show G6 l l.length a b<1;omega)
    rw [Km] at this;omega
  have:=Um w (fun x=>Ce h (fun y=>G6 l l.length x y)) (fun _=>(h:Int)) (fun x _=>row x) a (by omega) rowa
  rw [s1,Km,hg.2.2.2.2] at this
  omega

/-! ### the sides -/
theorem Qj (l : List Sq) (hl : l.length ≤ 10000) : ∀ (d i : Nat), l.length - i = d → i ≤ l.length →
    Ev (fun k=>C4.l0 k ((l.take i).map (fun s=>s.f2)) l (l.length:Int) (i:Int)) (l.map fun s=>s.f2):=by
  intro d
  induction d with
  | zero =>
    intro i hd hi
    obtain rfl:i=l.length:=by omega
    refine Ev.succ ?_
    simp only [C4.l0]
    exact Ev.neg (by omega) (Ev.eqr (Ev.now _) (by rw [List.take_length]))
  | succ d ih =>
    intro i hd hi
    have hlt:i<l.length:=by omega
    refine Ev.succ ?_
    simp only [C4.l0,Jm]
    refine Ev.pos (by omega) (Ev.pos (by omega) (Ev.pos (by omega) (Ev.pos (by rw [List.length_map,List.length_take];omega) ?_)))
    rw [Ap (by omega) (by omega)]
    have e:(l.take i).map (fun s=>s.f2)++[(Al l i).f2]=(l.take (i+1)).map (fun s=>s.f2):=by
      rw [List.take_succ_eq_append_getElem hlt,List.map_append,sqAt_get l i hlt];rfl
    rw [e]
    exact ih (i+1) (by omega) (by omega)
theorem Rz (l:List Sq) (hl:l.length≤10000):Ev (fun k=>C4.f k l) (l.map fun s=>s.f2):=by
  unfold C4.f
  exact Qj l hl l.length 0 (by omega) (Nat.zero_le _)

/-! ### the straight lines across: those of a height, column by column -/
def Eo (l:List Sq) (y x:Int):Nat→Bool
  | 0=>false
  | n+1=>Eo l y x n||decide (((Al l n).f1=y∨(Al l n).f1+(Al l n).f2=y)∧(Al l n).f0≤x∧x<(Al l n).f0+(Al l n).f2)
theorem If (l:List Sq) (y x:Int):∀ n,Eo l y x n=true↔∃ m,m<n∧((Al l m).f1=y∨(Al l m).f1+(Al l m).f2=y)∧(Al l m).f0≤x∧x<(Al l m).f0+(Al l m).f2
  | 0=>by simp [Eo]
  | n+1=>by
    rw [Eo,Bool.or_eq_true,If l y x n,decide_eq_true_eq]
    constructor
    · rintro (⟨m,hm,h⟩|h)
      · exact ⟨m,by ((try clear ew);(try clear es);(try clear e1);(try clear e2);(try clear ec);omega),h⟩
      · exact ⟨n,by ((try clear ew);(try clear es);(try clear e1);(try clear e2);(try clear ec);omega),h⟩
    · rintro ⟨m,hm,h⟩
      by_cases e:m=n
      · subst e;exact .inr h
      · exact .inl ⟨m,by ((try clear ew);(try clear es);(try clear e1);(try clear e2);(try clear ec);omega),h⟩
def Dy (w:Nat) (f:Nat→Bool):List Bool:=(List.range w).map f
theorem Qa (w:Nat) (f:Nat→Bool):(Dy w f).length=w:=by simp [Dy]
theorem Jo {w:Nat} {f g:Nat→Bool} (h:∀ x,x<w→f x=g x):Dy w f=Dy w g:=by
  unfold Dy
  apply List.map_congr_left
  intro x hx
  exact h x (List.mem_range.1 hx)
theorem rowB_rd (w:Nat) (f:Nat→Bool) (i:Nat) (h:i<w):D4 false (Dy w f) (i:Int)=f i:=by
  unfold D4 Dy;rw [Int.toNat_natCast];simp [List.getD,h]
theorem rowB_set (w:Nat) (f:Nat→Bool) (j:Nat) (h:j<w):(Dy w f).set j true=Dy w (fun x=>f x||decide (x=j)):=by
  apply List.ext_getElem
  · simp [Dy]
  · intro i h1 h2
    simp only [Dy,List.length_map,List.length_range] at h2
    rw [List.getElem_set]
    simp only [Dy,List.getElem_map,List.getElem_range]
    by_cases e:j=i
    · subst e;simp
    · rw [if_neg e];simp;intro h';((try clear ew);(try clear es);(try clear e1);(try clear e2);(try clear ec);omega)
theorem Vh (w:Nat):List.replicate w false=Dy w (fun _=>false):=by
  apply List.ext_getElem
  · simp [Dy]
  · intro i h1 h2;simp [Dy]
def st (b:Nat→Bool) (y:Int):Nat→List (List Int)×Int
  | 0=>([],-1)
  | n+1=>if b n=true then ((st b y n).1,if (st b y n).2<0 then (n:Int) else (st b y n).2) else if (st b y n).2<0 then st b y n else ((st b y n).1++[[y,(st b y n).2,(n:Int)]],-1)
def fin (b:Nat→Bool) (y:Int) (n:Nat):List (List Int):=(st b y n).1++(if (st b y n).2<0 then [] else [[y,(st b y n).2,(n:Int)]])
theorem Q4 (b:Nat→Bool) (y:Int) (n:Nat):¬ (st b y n).2<0↔0<n∧b (n-1)=true:=by
  cases n with
  | zero=>simp [st]
  | succ n =>
    rw [Nat.add_sub_cancel]
    by_cases h:b n=true
    · simp only [st,if_pos h]
      by_cases h2:(st b y n).2<0
      · rw [if_pos h2];simp [h]
      · rw [if_neg h2];simp [h];((try clear ew);(try clear es);(try clear e1);(try clear e2);(try clear ec);omega)
    · simp only [st,if_neg h]
      by_cases h2:(st b y n).2<0
      · rw [if_pos h2];simp [h,h2]
      · rw [if_neg h2];simp [h]
theorem Ke {b:Nat→Bool} {y:Int} {n:Nat} (h:¬ b n=true):fin b y (n+1)=fin b y n:=by
  unfold fin
  simp only [st,if_neg h]
  by_cases h2:(st b y n).2<0
  · rw [if_pos h2];simp [h2]
  · rw [if_neg h2];simp [h2]
theorem Nq {b:Nat→Bool} {y:Int} {n:Nat} (h:b n=true) (h2:(st b y n).2<0):fin b y (n+1)=fin b y n++[[y,(n:Int),(n:Int)+1]]:=by
  unfold fin
  simp only [st,if_pos h,if_pos h2]
  rw [if_neg (by ((try clear ew);(try clear es);(try clear e1);(try clear e2);(try clear ec);omega))]
  simp
theorem J3 {b:Nat→Bool} {y:Int} {n:Nat} (h2:¬ (st b y n).2<0):fin b y n=(st b y n).1++[[y,(st b y n).2,(n:Int)]]:=by
  unfold fin;rw [if_neg h2]
theorem Me {b:Nat→Bool} {y:Int} {n:Nat} (h:b n=true) (h2:¬ (st b y n).2<0):fin b y (n+1)=(st b y n).1++[[y,(st b y n).2,(n:Int)+1]]:=by
  unfold fin
  simp only [st,if_pos h,if_neg h2]
  simp
theorem st_close {b:Nat→Bool} {y:Int} {n:Nat} (h:¬ b n=true):(st b y (n+1)).1=fin b y n:=by
  unfold fin
  simp only [st,if_neg h]
  by_cases h2:(st b y n).2<0
  · simp [h2]
  · simp [h2]
theorem Nr (b:Nat→Bool) (y:Int):∀ n,(fin b y n).length≤n
  | 0=>by simp [fin,st]
  | n+1=>by
    have ih:=Nr b y n
    by_cases h:b n=true
    · by_cases h2:(st b y n).2<0
      · rw [Nq h h2];simp;((try clear ew);(try clear es);(try clear e1);(try clear e2);(try clear ec);omega)
      · rw [Me h h2];rw [J3 h2] at ih;simp at ih ⊢;((try clear ew);(try clear es);(try clear e1);(try clear e2);(try clear ec);omega)
    · rw [Ke h];((try clear ew);(try clear es);(try clear e1);(try clear e2);(try clear ec);omega)
theorem st_len (b:Nat→Bool) (y:Int) (n:Nat):(st b y n).1.length≤n:=by
  have:=Nr b y n;unfold fin at this;rw [List.length_append] at this;((try clear ew);(try clear es);(try clear e1);(try clear e2);(try clear ec);omega)
theorem fin_row (b:Nat→Bool) (y:Int):∀ n,∀ r ∈ fin b y n,∃ a z,r=[y,a,z]
  | 0,r,hr=>by simp [fin,st] at hr
  | n+1,r,hr=>by
    have ih:=fin_row b y n
    by_cases h:b n=true
    · by_cases h2:(st b y n).2<0
      · rw [Nq h h2,List.mem_append] at hr
        rcases hr with hr|hr
        · exact ih r hr
        · exact ⟨_,_,List.mem_singleton.1 hr⟩
      · rw [Me h h2,List.mem_append] at hr
        rw [J3 h2] at ih
        rcases hr with hr|hr
        · exact ih r (List.mem_append_left _ hr)
        · exact ⟨_,_,List.mem_singleton.1 hr⟩
    · rw [Ke h] at hr;exact ih r hr
def bAt (l:List Sq) (y:Int) (x:Nat):Bool:=Eo l y (x:Int) l.length
def allL (l:List Sq) (w:Nat):Nat→List (List Int)
  | 0=>[]
  | y+1=>allL l w y++fin (bAt l (y:Int)) (y:Int) w
theorem Mf (l:List Sq) (w:Nat):∀ n,(allL l w n).length≤n*w
  | 0=>by simp [allL]
  | n+1=>by
    have:=Mf l w n
    have:=Nr (bAt l (n:Int)) (n:Int) w
    simp only [allL,List.length_append,Nat.add_mul,Nat.one_mul];((try clear ew);(try clear es);(try clear e1);(try clear e2);(try clear ec);omega)
theorem allL_row (l:List Sq) (w:Nat):∀ n,∀ r ∈ allL l w n,r.length=3
  | 0,r,hr=>by simp [allL] at hr
  | n+1,r,hr=>by
    simp only [allL,List.mem_append] at hr
    rcases hr with hr|hr
    · exact allL_row l w n r hr
    · obtain ⟨a,z,rfl⟩:=fin_row _ _ _ r hr;rfl
/-! ### the program's -/
theorem acr_l2 (O : List (List Int)) (y : Int) (w : Nat) (n1 i1 : Int) (l : List Sq) (len i W H f0 f1 f2 : Int) (R : List (List Int)) (h0 : 0 ≤ f0) (h2 : 0 ≤ f2) (hw : f0 + f2 ≤ w) (hw5 : w ≤ 1000) :
    ∀ (d j:Nat) (g:Nat→Bool),(f0+f2-(j:Int))=d→Ev (fun k=>Ae.l1 k O y (Dy w (fun x=>g x||decide ((j:Int)≤x∧(x:Int)<f0+f2))) n1 i1 l len (wrap64 (i+1)) W H l) R →
      Ev (fun k=>Ae.l2 k O y (Dy w g) (j:Int) n1 i1 l len i W H l f0 f1 f2) R:=by
  intro d
  induction d with
  | zero =>
    intro j g hd h
    refine Ev.succ ?_
    simp only [Ae.l2]
    rw [Ap (n:=f0+f2) (by ((try clear ew);(try clear es);(try clear e1);(try clear e2);(try clear ec);omega)) (by ((try clear ew);(try clear es);(try clear e1);(try clear e2);(try clear ec);omega))]
    refine Ev.neg (by ((try clear ew);(try clear es);(try clear e1);(try clear e2);(try clear ec);omega)) ?_
    rw [show Dy w g=Dy w (fun x=>g x||decide ((j:Int)≤x∧(x:Int)<f0+f2)) from Jo (fun x hx=>by rw [decide_eq_false (by ((try clear ew);(try clear es);(try clear e1);(try clear e2);(try clear ec);omega)),Bool.or_false])]
    exact h
  | succ d ih =>
    intro j g hd h
    refine Ev.succ ?_
    simp only [Ae.l2]
    rw [Ap (n:=f0+f2) (by ((try clear ew);(try clear es);(try clear e1);(try clear e2);(try clear ec);omega)) (by ((try clear ew);(try clear es);(try clear e1);(try clear e2);(try clear ec);omega)),Ap (n:=(j:Int)+1) (by ((try clear ew);(try clear es);(try clear e1);(try clear e2);(try clear ec);omega)) (by ((try clear ew);(try clear es);(try clear e1);(try clear e2);(try clear ec);omega))]
    refine Ev.pos (by ((try clear ew);(try clear es);(try clear e1);(try clear e2);(try clear ec);omega)) (Ev.pos (by ((try clear ew);(try clear es);(try clear e1);(try clear e2);(try clear ec);omega)) (Ev.pos (by rw [Qa];((try clear ew);(try clear es);(try clear e1);(try clear e2);(try clear ec);omega)) ?_))
    rw [Int.toNat_natCast,rowB_set w g j (by ((try clear ew);(try clear es);(try clear e1);(try clear e2);(try clear ec);omega))]
    refine ih (j+1) _ (by ((try clear ew);(try clear es);(try clear e1);(try clear e2);(try clear ec);omega)) ?_
    rw [show Dy w (fun x=>(g x||decide (x=j))||decide (((j+1:Nat):Int)≤x∧(x:Int)<f0+f2))=Dy w (fun x=>g x||decide ((j:Int)≤x∧(x:Int)<f0+f2)) from Jo (fun x hx=>by
      rw [Bool.or_assoc];congr 1
      by_cases e:x=j
      · subst e;rw [decide_eq_true rfl,Bool.true_or];exact (decide_eq_true (by ((try clear ew);(try clear es);(try clear e1);(try clear e2);(try clear ec);omega))).symm
      · rw [decide_eq_false e,Bool.false_or];exact decide_eq_decide.2 (by ((try clear ew);(try clear es);(try clear e1);(try clear e2);(try clear ec);omega)))]
    exact h
theorem acr_l1 {W H : Int} {l : List Sq} (hg : Good W H l) (w : Nat) (hw : (w : Int) = W) (O : List (List Int)) (y n1 i1 : Int) (R : List (List Int))
    (h:Ev (fun k=>Ae.l3 k O y (Dy w (bAt l y)) n1 i1 (Dy w (bAt l y)) (w:Int) 0 W H l) R) :
    ∀ (d i:Nat),l.length-i=d→i≤l.length→Ev (fun k=>Ae.l1 k O y (Dy w (fun x=>Eo l y (x:Int) i)) n1 i1 l (l.length:Int) (i:Int) W H l) R:=by
  intro d
  have h30:=hg.2.2.1
  have hW:=hg.1
  have hH:=hg.2.1
  induction d with
  | zero =>
    intro i hd hi
    obtain rfl:i=l.length:=by ((try clear ew);(try clear es);(try clear e1);(try clear e2);(try clear ec);omega)
    refine Ev.succ ?_
    simp only [Ae.l1,Qa]
    exact Ev.neg (by ((try clear ew);(try clear es);(try clear e1);(try clear e2);(try clear ec);omega)) h
  | succ d ih =>
    intro i hd hi
    have hok:=(hg.2.2.2.1 i (by ((try clear ew);(try clear es);(try clear e1);(try clear e2);(try clear ec);omega))).1
    unfold Ins at hok
    have hn:=ih (i+1) (by ((try clear ew);(try clear es);(try clear e1);(try clear e2);(try clear ec);omega)) (by ((try clear ew);(try clear es);(try clear e1);(try clear e2);(try clear ec);omega))
    have ew:wrap64 ((i:Int)+1)=((i+1:Nat):Int):=by rw [Ap (by ((try clear ew);(try clear es);(try clear e1);(try clear e2);(try clear ec);omega)) (by ((try clear ew);(try clear es);(try clear e1);(try clear e2);(try clear ec);omega))];((try clear ew);(try clear es);(try clear e1);(try clear e2);(try clear ec);omega)
    have yes:((Al l i).f1=y∨(Al l i).f1+(Al l i).f2=y)→Ev (fun k=>Ae.j2 k O y (Dy w (fun x=>Eo l y (x:Int) i)) n1 i1 l (l.length:Int) (i:Int) true W H l (Al l i).f0 (Al l i).f1 (Al l i).f2) R:=by
      intro hy
      refine Ev.succ ?_
      simp only [Ae.j2]
      refine Ev.pos trivial ?_
      have e0:(Al l i).f0=(((Al l i).f0.toNat:Nat):Int):=by ((try clear ew);(try clear es);(try clear e1);(try clear e2);(try clear ec);omega)
      have:=acr_l2 O y w n1 i1 l (l.length:Int) (i:Int) W H (Al l i).f0 (Al l i).f1 (Al l i).f2 R (by ((try clear ew);(try clear es);(try clear e1);(try clear e2);(try clear ec);omega)) (by ((try clear ew);(try clear es);(try clear e1);(try clear e2);(try clear ec);omega)) (by ((try clear ew);(try clear es);(try clear e1);(try clear e2);(try clear ec);omega)) (by ((try clear ew);(try clear es);(try clear e1);(try clear e2);(try clear ec);omega)) (Al l i).f2.toNat (Al l i).f0.toNat (fun x=>Eo l y (x:Int) i) (by ((try clear ew);(try clear es);(try clear e1);(try clear e2);(try clear ec);omega)) (by
        rw [ew,show Dy w (fun x=>Eo l y (x:Int) i||decide ((((Al l i).f0.toNat:Nat):Int)≤x∧(x:Int)<(Al l i).f0+(Al l i).f2))=Dy w (fun x=>Eo l y (x:Int) (i+1)) from Jo (fun x hx=>by
          rw [Eo];congr 1;exact decide_eq_decide.2 (by rw [← e0];exact ⟨fun h=>⟨hy,h⟩,fun h=>h.2⟩))]
        exact hn)
      rw [← e0] at this
      exact this
    have no:¬ ((Al l i).f1=y∨(Al l i).f1+(Al l i).f2=y)→Ev (fun k=>Ae.j2 k O y (Dy w (fun x=>Eo l y (x:Int) i)) n1 i1 l (l.length:Int) (i:Int) false W H l (Al l i).f0 (Al l i).f1 (Al l i).f2) R:=by
      intro hy
      refine Ev.succ ?_
      simp only [Ae.j2]
      refine Ev.neg (by simp) ?_
      rw [ew,show Dy w (fun x=>Eo l y (x:Int) i)=Dy w (fun x=>Eo l y (x:Int) (i+1)) from Jo (fun x hx=>by
        rw [Eo,decide_eq_false (fun h=>hy h.1),Bool.or_false])]
      exact hn
    refine Ev.succ ?_
    simp only [Ae.l1,Jm]
    refine Ev.pos (by ((try clear ew);(try clear es);(try clear e1);(try clear e2);(try clear ec);omega)) (Ev.pos (by ((try clear ew);(try clear es);(try clear e1);(try clear e2);(try clear ec);omega)) (Ev.pos (by ((try clear ew);(try clear es);(try clear e1);(try clear e2);(try clear ec);omega)) ?_))
    by_cases c1:(Al l i).f1=y
    · exact Ev.pos c1 (yes (.inl c1))
    · refine Ev.neg c1 ?_
      rw [Ap (by ((try clear ew);(try clear es);(try clear e1);(try clear e2);(try clear ec);omega)) (by ((try clear ew);(try clear es);(try clear e1);(try clear e2);(try clear ec);omega))]
      by_cases c2:(Al l i).f1+(Al l i).f2=y
      · rw [show ((Al l i).f1+(Al l i).f2==y)=true from by rw [c2];exact beq_self_eq_true _]
        exact yes (.inr c2)
      · rw [show ((Al l i).f1+(Al l i).f2==y)=false from by simpa using c2]
        exact no (fun h=>h.elim c1 c2)
theorem last_get (O:List (List Int)) (r:List Int):(O++[r]).getD ((O++[r]).length-1) []=r:=by simp [List.getD]
theorem last_set (O:List (List Int)) (r s:List Int):(O++[r]).set ((O++[r]).length-1) s=O++[s]:=by simp
theorem acr_l3 {W H : Int} {l : List Sq} (w : Nat) (hw5 : w ≤ 1000) (b : Nat → Bool) (O : List (List Int)) (hO : O.length ≤ 1000000) (y n1 i1 : Int) (R : List (List Int))
    (h:Ev (fun k=>Ae.l0 k (O++fin b y w) n1 (wrap64 (i1+1)) W H l) R) :
    ∀ (d n:Nat),w-n=d→n≤w→Ev (fun k=>Ae.l3 k (O++fin b y n) y (Dy w b) n1 i1 (Dy w b) (w:Int) (n:Int) W H l) R:=by
  intro d
  induction d with
  | zero =>
    intro n hd hn
    obtain rfl:n=w:=by ((try clear ew);(try clear es);(try clear e1);(try clear e2);(try clear ec);omega)
    refine Ev.succ ?_
    simp only [Ae.l3]
    exact Ev.neg (by ((try clear ew);(try clear es);(try clear e1);(try clear e2);(try clear ec);omega)) h
  | succ d ih =>
    intro n hd hn
    have hnx:=ih (n+1) (by ((try clear ew);(try clear es);(try clear e1);(try clear e2);(try clear ec);omega)) (by ((try clear ew);(try clear es);(try clear e1);(try clear e2);(try clear ec);omega))
    have hfl:=Nr b y n
    have ew:wrap64 ((n:Int)+1)=(n:Int)+1:=Ap (by ((try clear ew);(try clear es);(try clear e1);(try clear e2);(try clear ec);omega)) (by ((try clear ew);(try clear es);(try clear e1);(try clear e2);(try clear ec);omega))
    have ec:((n+1:Nat):Int)=(n:Int)+1:=by ((try clear ew);(try clear es);(try clear e1);(try clear e2);(try clear ec);omega)
    refine Ev.succ ?_
    simp only [Ae.l3,Qa,rowB_rd w b n (by ((try clear ew);(try clear es);(try clear e1);(try clear e2);(try clear ec);omega)),ew]
    refine Ev.pos (by ((try clear ew);(try clear es);(try clear e1);(try clear e2);(try clear ec);omega)) (Ev.pos (by ((try clear ew);(try clear es);(try clear e1);(try clear e2);(try clear ec);omega)) (Ev.pos (by ((try clear ew);(try clear es);(try clear e1);(try clear e2);(try clear ec);omega)) ?_))
    by_cases hb:b n=true
    · refine Ev.pos hb ?_
      have new:(st b y n).2<0→Ev (fun k=>if (O++fin b y n).length<5864062014805 then Ae.l3 k (O++fin b y n++[[y,(n:Int),(n:Int)+1]]) y (Dy w b) n1 i1 (Dy w b) (w:Int) ((n:Int)+1) W H l else none) R:=by
        intro h2
        refine Ev.pos (by rw [List.length_append];((try clear ew);(try clear es);(try clear e1);(try clear e2);(try clear ec);omega)) ?_
        rw [List.append_assoc,← Nq hb h2,← ec]
        exact hnx
      by_cases h0:0<n
      · refine Ev.pos (by ((try clear ew);(try clear es);(try clear e1);(try clear e2);(try clear ec);omega)) ?_
        have e1:wrap64 ((n:Int)-1)=((n-1:Nat):Int):=by rw [Ap (by ((try clear ew);(try clear es);(try clear e1);(try clear e2);(try clear ec);omega)) (by ((try clear ew);(try clear es);(try clear e1);(try clear e2);(try clear ec);omega))];((try clear ew);(try clear es);(try clear e1);(try clear e2);(try clear ec);omega)
        rw [e1,rowB_rd w b (n-1) (by ((try clear ew);(try clear es);(try clear e1);(try clear e2);(try clear ec);omega))]
        refine Ev.pos (by ((try clear ew);(try clear es);(try clear e1);(try clear e2);(try clear ec);omega)) (Ev.pos (by ((try clear ew);(try clear es);(try clear e1);(try clear e2);(try clear ec);omega)) ?_)
        by_cases hb1:b (n-1)=true
        · refine Ev.pos hb1 ?_
          have h2:=(Q4 b y n).2 ⟨h0,hb1⟩
          rw [J3 h2] at hfl
          rw [J3 h2,← List.append_assoc]
          have e2:wrap64 (((O++(st b y n).1++[[y,(st b y n).2,(n:Int)]]).length:Int)-1)=(((O++(st b y n).1++[[y,(st b y n).2,(n:Int)]]).length-1:Nat):Int):=by
            rw [List.length_append] at hfl
            rw [Ap (by simp only [List.length_append,List.length_singleton] at hfl ⊢;((try clear ew);(try clear es);(try clear e1);(try clear e2);(try clear ec);omega)) (by simp only [List.length_append,List.length_singleton] at hfl ⊢;((try clear ew);(try clear es);(try clear e1);(try clear e2);(try clear ec);omega))];simp only [List.length_append,List.length_singleton];((try clear ew);(try clear es);(try clear e1);(try clear e2);(try clear ec);omega)
          have e3:Af (O++(st b y n).1++[[y,(st b y n).2,(n:Int)]]) (((O++(st b y n).1++[[y,(st b y n).2,(n:Int)]]).length-1:Nat):Int)=[y,(st b y n).2,(n:Int)]:=by
            unfold Af;rw [Int.toNat_natCast,last_get]
          rw [e2,e3,Int.toNat_natCast,last_set]
          refine Ev.pos (by ((try clear ew);(try clear es);(try clear e1);(try clear e2);(try clear ec);omega)) (Ev.pos (by simp;((try clear ew);(try clear es);(try clear e1);(try clear e2);(try clear ec);omega)) (Ev.pos (by simp) ?_))
          show Ev (fun k=>Ae.l3 k (O++(st b y n).1++[[y,(st b y n).2,(n:Int)+1]]) y (Dy w b) n1 i1 (Dy w b) (w:Int) ((n:Int)+1) W H l) R
          rw [List.append_assoc,← Me hb h2,← ec]
          exact hnx
        · refine Ev.neg hb1 (new ?_)
          have:=(not_congr (Q4 b y n)).2 (fun h=>hb1 h.2)
          ((try clear ew);(try clear es);(try clear e1);(try clear e2);(try clear ec);omega)
      · refine Ev.neg (by ((try clear ew);(try clear es);(try clear e1);(try clear e2);(try clear ec);omega)) (new ?_)
        have:=(not_congr (Q4 b y n)).2 (fun h=>h0 h.1)
        ((try clear ew);(try clear es);(try clear e1);(try clear e2);(try clear ec);omega)
    · refine Ev.neg hb ?_
      rw [← Ke hb,← ec]
      exact hnx
theorem acr_l0 {W H : Int} {l : List Sq} (hg : Good W H l) (w h : Nat) (hw : (w : Int) = W) (hh : (h : Int) = H) :
    ∀ (d y:Nat),h+1-y=d→y≤h+1→Ev (fun k=>Ae.l0 k (allL l w y) (H+1) (y:Int) W H l) (allL l w (h+1)):=by
  intro d
  have hW:=hg.1
  have hH:=hg.2.1
  induction d with
  | zero =>
    intro y hd hy
    obtain rfl:y=h+1:=by ((try clear ew);(try clear es);(try clear e1);(try clear e2);(try clear ec);omega)
    refine Ev.succ ?_
    simp only [Ae.l0]
    exact Ev.neg (by ((try clear ew);(try clear es);(try clear e1);(try clear e2);(try clear ec);omega)) (Ev.now _)
  | succ d ih =>
    intro y hd hy
    have hnx:=ih (y+1) (by ((try clear ew);(try clear es);(try clear e1);(try clear e2);(try clear ec);omega)) (by ((try clear ew);(try clear es);(try clear e1);(try clear e2);(try clear ec);omega))
    refine Ev.succ ?_
    simp only [Ae.l0]
    refine Ev.pos (by ((try clear ew);(try clear es);(try clear e1);(try clear e2);(try clear ec);omega)) (Ev.pos (by ((try clear ew);(try clear es);(try clear e1);(try clear e2);(try clear ec);omega)) (Ev.pos (by ((try clear ew);(try clear es);(try clear e1);(try clear e2);(try clear ec);omega)) ?_))
    rw [show W.toNat=w by ((try clear ew);(try clear es);(try clear e1);(try clear e2);(try clear ec);omega),Vh]
    have hl:=Mf l w y
    have hyw:y*w≤501*500:=Nat.mul_le_mul (by ((try clear ew);(try clear es);(try clear e1);(try clear e2);(try clear ec);omega)) (by ((try clear ew);(try clear es);(try clear e1);(try clear e2);(try clear ec);omega))
    have e0:fin (bAt l (y:Int)) (y:Int) 0=[]:=rfl
    have:=acr_l1 hg w hw (allL l w y) (y:Int) (H+1) (y:Int) (allL l w (h+1)) (by
      have:=acr_l3 (W:=W) (H:=H) (l:=l) w (by ((try clear ew);(try clear es);(try clear e1);(try clear e2);(try clear ec);omega)) (bAt l (y:Int)) (allL l w y) (by ((try clear ew);(try clear es);(try clear e1);(try clear e2);(try clear ec);omega)) (y:Int) (H+1) (y:Int) (allL l w (h+1)) (by
        rw [Ap (by ((try clear ew);(try clear es);(try clear e1);(try clear e2);(try clear ec);omega)) (by ((try clear ew);(try clear es);(try clear e1);(try clear e2);(try clear ec);omega))]
        have e:((y+1:Nat):Int)=(y:Int)+1:=by ((try clear ew);(try clear es);(try clear e1);(try clear e2);(try clear ec);omega)
        rw [e] at hnx
        exact hnx) w 0 (by ((try clear ew);(try clear es);(try clear e1);(try clear e2);(try clear ec);omega)) (by ((try clear ew);(try clear es);(try clear e1);(try clear e2);(try clear ec);omega))
      rw [e0,List.append_nil] at this
      exact this) l.length 0 (by ((try clear ew);(try clear es);(try clear e1);(try clear e2);(try clear ec);omega)) (by ((try clear ew);(try clear es);(try clear e1);(try clear e2);(try clear ec);omega))
    exact this
theorem impl_across_ev {W H:Int} {l:List Sq} (hg:Good W H l):Ev (fun k=>Ae.f k W H l) (allL l W.toNat (H.toNat+1)):=by
  have hW:=hg.1
  have hH:=hg.2.1
  unfold Ae.f
  rw [Ap (by ((try clear ew);(try clear es);(try clear e1);(try clear e2);(try clear ec);omega)) (by ((try clear ew);(try clear es);(try clear e1);(try clear e2);(try clear ec);omega))]
  exact acr_l0 hg W.toNat H.toNat (by ((try clear ew);(try clear es);(try clear e1);(try clear e2);(try clear ec);omega)) (by ((try clear ew);(try clear es);(try clear e1);(try clear e2);(try clear ec);omega)) (H.toNat+1) 0 (by ((try clear ew);(try clear es);(try clear e1);(try clear e2);(try clear ec);omega)) (by ((try clear ew);(try clear es);(try clear e1);(try clear e2);(try clear ec);omega))

theorem ne_l2 {W H : Int} {l : List Sq} (hg : Good W H l) (O : List (List Int)) (y fr : Int) (n : Nat) (hn : n ≤ 1000) (R : List (List Int))
    (h:Ev (fun k=>Ax.j3 k O y fr (n:Int) (bAt l y n) (if bAt l y n=true then decide (fr<0) else false) W H l) R) :
    ∀ (d i:Nat),l.length-i=d→i≤l.length→Ev (fun k=>Ax.l2 k O y fr (n:Int) (Eo l y (n:Int) i) l (l.length:Int) (i:Int) W H l) R:=by
  intro d
  have h30:=hg.2.2.1
  have hW:=hg.1
  have hH:=hg.2.1
  induction d with
  | zero =>
    intro i hd hi
    obtain rfl:i=l.length:=by ((try clear ew);(try clear es);(try clear e1);(try clear e2);(try clear ec);omega)
    refine Ev.succ ?_
    simp only [Ax.l2]
    refine Ev.neg (by ((try clear ew);(try clear es);(try clear e1);(try clear e2);(try clear ec);omega)) ?_
    unfold bAt at h
    by_cases hb:Eo l y (n:Int) l.length=true
    · rw [if_pos hb] at h
      exact Ev.pos hb h
    · rw [if_neg hb] at h
      exact Ev.neg hb h
  | succ d ih =>
    intro i hd hi
    have hok:=(hg.2.2.2.1 i (by ((try clear ew);(try clear es);(try clear e1);(try clear e2);(try clear ec);omega))).1
    unfold Ins at hok
    have hn2:=ih (i+1) (by ((try clear ew);(try clear es);(try clear e1);(try clear e2);(try clear ec);omega)) (by ((try clear ew);(try clear es);(try clear e1);(try clear e2);(try clear ec);omega))
    have ew:wrap64 ((i:Int)+1)=((i+1:Nat):Int):=by rw [Ap (by ((try clear ew);(try clear es);(try clear e1);(try clear e2);(try clear ec);omega)) (by ((try clear ew);(try clear es);(try clear e1);(try clear e2);(try clear ec);omega))];((try clear ew);(try clear es);(try clear e1);(try clear e2);(try clear ec);omega)
    have es:wrap64 (wrap64 ((Al l i).f0+(Al l i).f2)-1)=(Al l i).f0+(Al l i).f2-1:=by
      rw [Ap (n:=(Al l i).f0+(Al l i).f2) (by ((try clear ew);(try clear es);(try clear e1);(try clear e2);(try clear ec);omega)) (by ((try clear ew);(try clear es);(try clear e1);(try clear e2);(try clear ec);omega)),Ap (by ((try clear ew);(try clear es);(try clear e1);(try clear e2);(try clear ec);omega)) (by ((try clear ew);(try clear es);(try clear e1);(try clear e2);(try clear ec);omega))]
    refine Ev.succ ?_
    simp only [Ax.l2,Jm,ew]
    refine Ev.pos (by ((try clear ew);(try clear es);(try clear e1);(try clear e2);(try clear ec);omega)) (Ev.pos (by ((try clear ew);(try clear es);(try clear e1);(try clear e2);(try clear ec);omega)) (Ev.pos (by ((try clear ew);(try clear es);(try clear e1);(try clear e2);(try clear ec);omega)) ?_))
    by_cases hs:Eo l y (n:Int) i=true
    · refine Ev.pos hs ?_
      rw [show Eo l y (n:Int) (i+1)=true from by rw [Eo,hs,Bool.true_or]] at hn2
      exact hn2
    · refine Ev.neg hs ?_
      have hs':=Bool.eq_false_iff.2 hs
      have hin:Eo l y (n:Int) (i+1)=decide (((Al l i).f1=y∨(Al l i).f1+(Al l i).f2=y)∧(Al l i).f0≤(n:Int)∧(n:Int)<(Al l i).f0+(Al l i).f2):=by rw [Eo,hs',Bool.false_or]
      have yes:((Al l i).f1=y∨(Al l i).f1+(Al l i).f2=y)→Ev (fun k=>(Br.f (n:Int) (Al l i).f0 (wrap64 (wrap64 ((Al l i).f0+(Al l i).f2)-1))).bind fun t=>Ax.l2 k O y fr (n:Int) t l (l.length:Int) ((i+1:Nat):Int) W H l) R:=by
        intro hy
        refine Ev.bindc (It _ _ _) ?_
        rw [es]
        rw [hin] at hn2
        rw [show decide ((Al l i).f0≤(n:Int)∧(n:Int)≤(Al l i).f0+(Al l i).f2-1)=decide (((Al l i).f1=y∨(Al l i).f1+(Al l i).f2=y)∧(Al l i).f0≤(n:Int)∧(n:Int)<(Al l i).f0+(Al l i).f2) from decide_eq_decide.2 ⟨fun h=>⟨hy,h.1,by ((try clear ew);(try clear es);(try clear e1);(try clear e2);(try clear ec);omega)⟩,fun h=>⟨h.2.1,by ((try clear ew);(try clear es);(try clear e1);(try clear e2);(try clear ec);omega)⟩⟩]
        exact hn2
      by_cases c1:(Al l i).f1=y
      · exact Ev.pos c1 (yes (.inl c1))
      · refine Ev.neg c1 ?_
        rw [Ap (n:=(Al l i).f1+(Al l i).f2) (by ((try clear ew);(try clear es);(try clear e1);(try clear e2);(try clear ec);omega)) (by ((try clear ew);(try clear es);(try clear e1);(try clear e2);(try clear ec);omega))]
        by_cases c2:(Al l i).f1+(Al l i).f2=y
        · exact Ev.pos c2 (yes (.inr c2))
        · refine Ev.neg c2 ?_
          rw [hin,decide_eq_false (fun h=>h.1.elim c1 c2)] at hn2
          exact hn2
theorem ne_l1 {W H : Int} {l : List Sq} (hg : Good W H l) (w : Nat) (hw : (w : Int) = W) (O : List (List Int)) (hO : O.length ≤ 1000000) (y : Int) (R : List (List Int))
    (h:Ev (fun k=>Ax.l0 k (O++fin (bAt l y) y w) (wrap64 (y+1)) W H l) R) :
    ∀ (d n:Nat),w+1-n=d→n≤w+1→Ev (fun k=>Ax.l1 k (O++(st (bAt l y) y n).1) y (st (bAt l y) y n).2 (n:Int) W H l) R:=by
  intro d
  have h30:=hg.2.2.1
  have hW:=hg.1
  have hH:=hg.2.1
  induction d with
  | zero =>
    intro n hd hn
    obtain rfl:n=w+1:=by ((try clear ew);(try clear es);(try clear e1);(try clear e2);(try clear ec);omega)
    refine Ev.succ ?_
    simp only [Ax.l1]
    refine Ev.neg (by ((try clear ew);(try clear es);(try clear e1);(try clear e2);(try clear ec);omega)) ?_
    have hb:¬ bAt l y w=true:=by
      unfold bAt
      rw [If]
      rintro ⟨m,hm,_,h1,h2⟩
      have hok:=(hg.2.2.2.1 m hm).1
      unfold Ins at hok
      ((try clear ew);(try clear es);(try clear e1);(try clear e2);(try clear ec);omega)
    rw [st_close hb]
    exact h
  | succ d ih =>
    intro n hd hn
    have hnx:=ih (n+1) (by ((try clear ew);(try clear es);(try clear e1);(try clear e2);(try clear ec);omega)) (by ((try clear ew);(try clear es);(try clear e1);(try clear e2);(try clear ec);omega))
    have hsl:=st_len (bAt l y) y n
    have ew:wrap64 ((n:Int)+1)=((n+1:Nat):Int):=by rw [Ap (by ((try clear ew);(try clear es);(try clear e1);(try clear e2);(try clear ec);omega)) (by ((try clear ew);(try clear es);(try clear e1);(try clear e2);(try clear ec);omega))];((try clear ew);(try clear es);(try clear e1);(try clear e2);(try clear ec);omega)
    refine Ev.succ ?_
    simp only [Ax.l1]
    refine Ev.pos (by ((try clear ew);(try clear es);(try clear e1);(try clear e2);(try clear ec);omega)) ?_
    refine ne_l2 hg (O++(st (bAt l y) y n).1) y (st (bAt l y) y n).2 n (by ((try clear ew);(try clear es);(try clear e1);(try clear e2);(try clear ec);omega)) R ?_ l.length 0 (by ((try clear ew);(try clear es);(try clear e1);(try clear e2);(try clear ec);omega)) (by ((try clear ew);(try clear es);(try clear e1);(try clear e2);(try clear ec);omega))
    refine Ev.succ ?_
    simp only [Ax.j3,ew]
    by_cases hb:bAt l y n=true
    · rw [if_pos hb]
      simp only [st,if_pos hb] at hnx
      by_cases h2:(st (bAt l y) y n).2<0
      · rw [if_pos h2] at hnx
        rw [decide_eq_true h2]
        exact Ev.pos rfl (Ev.pos hb hnx)
      · rw [if_neg h2] at hnx
        rw [decide_eq_false h2]
        exact Ev.neg (by decide) (Ev.pos hb hnx)
    · have hb':=Bool.eq_false_iff.2 hb
      rw [if_neg hb]
      simp only [st,if_neg hb] at hnx
      refine Ev.neg (by decide) (Ev.neg hb ?_)
      by_cases h2:(st (bAt l y) y n).2<0
      · rw [if_pos h2] at hnx
        exact Ev.neg (by ((try clear ew);(try clear es);(try clear e1);(try clear e2);(try clear ec);omega)) hnx
      · rw [if_neg h2,← List.append_assoc] at hnx
        exact Ev.pos (by ((try clear ew);(try clear es);(try clear e1);(try clear e2);(try clear ec);omega)) (Ev.pos (by rw [List.length_append];((try clear ew);(try clear es);(try clear e1);(try clear e2);(try clear ec);omega)) hnx)
theorem ne_l0 {W H : Int} {l : List Sq} (hg : Good W H l) (w h : Nat) (hw : (w : Int) = W) (hh : (h : Int) = H) :
    ∀ (d y:Nat),h+1-y=d→y≤h+1→Ev (fun k=>Ax.l0 k (allL l w y) (y:Int) W H l) (allL l w (h+1)):=by
  intro d
  have hW:=hg.1
  have hH:=hg.2.1
  induction d with
  | zero =>
    intro y hd hy
    obtain rfl:y=h+1:=by ((try clear ew);(try clear es);(try clear e1);(try clear e2);(try clear ec);omega)
    refine Ev.succ ?_
    simp only [Ax.l0]
    exact Ev.neg (by ((try clear ew);(try clear es);(try clear e1);(try clear e2);(try clear ec);omega)) (Ev.now _)
  | succ d ih =>
    intro y hd hy
    have hnx:=ih (y+1) (by ((try clear ew);(try clear es);(try clear e1);(try clear e2);(try clear ec);omega)) (by ((try clear ew);(try clear es);(try clear e1);(try clear e2);(try clear ec);omega))
    refine Ev.succ ?_
    simp only [Ax.l0]
    refine Ev.pos (by ((try clear ew);(try clear es);(try clear e1);(try clear e2);(try clear ec);omega)) ?_
    have hl:=Mf l w y
    have hyw:y*w≤501*500:=Nat.mul_le_mul (by ((try clear ew);(try clear es);(try clear e1);(try clear e2);(try clear ec);omega)) (by ((try clear ew);(try clear es);(try clear e1);(try clear e2);(try clear ec);omega))
    have:=ne_l1 hg w hw (allL l w y) (by ((try clear ew);(try clear es);(try clear e1);(try clear e2);(try clear ec);omega)) (y:Int) (allL l w (h+1)) (by
      rw [Ap (by ((try clear ew);(try clear es);(try clear e1);(try clear e2);(try clear ec);omega)) (by ((try clear ew);(try clear es);(try clear e1);(try clear e2);(try clear ec);omega))]
      have e:((y+1:Nat):Int)=(y:Int)+1:=by ((try clear ew);(try clear es);(try clear e1);(try clear e2);(try clear ec);omega)
      rw [e] at hnx
      exact hnx) (w+1) 0 (by ((try clear ew);(try clear es);(try clear e1);(try clear e2);(try clear ec);omega)) (by ((try clear ew);(try clear es);(try clear e1);(try clear e2);(try clear ec);omega))
    simpa [st] using this
theorem spec_lines_ev {W H:Int} {l:List Sq} (hg:Good W H l):Ev (fun k=>Ax.f k W H l) (allL l W.toNat (H.toNat+1)):=by
  have hW:=hg.1
  have hH:=hg.2.1
  unfold Ax.f
  exact ne_l0 hg W.toNat H.toNat (by ((try clear ew);(try clear es);(try clear e1);(try clear e2);(try clear ec);omega)) (by ((try clear ew);(try clear es);(try clear e1);(try clear e2);(try clear ec);omega)) (H.toNat+1) 0 (by ((try clear ew);(try clear es);(try clear e1);(try clear e2);(try clear ec);omega)) (by ((try clear ew);(try clear es);(try clear e1);(try clear e2);(try clear ec);omega))

/-! ### the net of a cut: the line that a square's edge lies in -/
theorem st_le (b:Nat→Bool) (y:Int):∀ n,(st b y n).2≤n
  | 0=>by simp [st]
  | n+1=>by
    have:=st_le b y n
    simp only [st]
    split
    · split <;> omega
    · split
      · omega
      · simp only;omega
theorem Kf (b:Nat→Bool) (y:Int):∀ n x,x<n→b x=true→∃ a z,[y,a,z] ∈ fin b y n∧a≤(x:Int)∧(x:Int)<z∧z≤n
  | 0,x,h,_=>by omega
  | n+1,x,h,hb=>by
    by_cases e:b n=true
    · by_cases h2:(st b y n).2<0
      · rw [Nq e h2]
        by_cases q:x=n
        · subst q;exact ⟨_,_,List.mem_append_right _ (List.mem_singleton_self _),by omega,by omega,by omega⟩
        · obtain ⟨a,z,h3,h4,h5,h6⟩:=Kf b y n x (by omega) hb
          exact ⟨a,z,List.mem_append_left _ h3,h4,h5,by omega⟩
      · rw [Me e h2]
        have hle:=st_le b y n
        by_cases q:x=n
        · subst q;exact ⟨_,_,List.mem_append_right _ (List.mem_singleton_self _),hle,by omega,by omega⟩
        · obtain ⟨a,z,h3,h4,h5,h6⟩:=Kf b y n x (by omega) hb
          rw [J3 h2] at h3
          rcases List.mem_append.1 h3 with h3|h3
          · exact ⟨a,z,List.mem_append_left _ h3,h4,h5,by omega⟩
          · have:=List.mem_singleton.1 h3
            injection this with _ this
            injection this with ha this
            injection this with hz _
            exact ⟨a,(n:Int)+1,List.mem_append_right _ (by rw [ha];exact List.mem_singleton_self _),h4,by omega,by omega⟩
    · rw [Ke e]
      by_cases q:x=n
      · subst q;exact absurd hb e
      · obtain ⟨a,z,h3,h4,h5,h6⟩:=Kf b y n x (by omega) hb
        exact ⟨a,z,h3,h4,h5,by omega⟩
theorem Uo (l:List Sq) (w:Nat):∀ (n y:Nat),y<n→∀ r ∈ fin (bAt l (y:Int)) (y:Int) w,r ∈ allL l w n
  | 0,y,h,_,_=>by omega
  | n+1,y,h,r,hr=>by
    rw [allL]
    by_cases e:y=n
    · subst e;exact List.mem_append_right _ hr
    · exact List.mem_append_left _ (Uo l w n y (by omega) r hr)
def E8 (L:List (List Int)) (y x:Int) (k:Nat):Bool:=decide (rd (L.getD k []) 0=y∧rd (L.getD k []) 1≤x∧x≤wrap64 (rd (L.getD k []) 2-1))
def ixF (P:Nat→Bool):Nat→Nat→Nat
  | 0,i=>i
  | d+1,i=>if P i=true then i else ixF P d (i+1)
theorem Kx {W H:Int} {l:List Sq} (hg:Good W H l) {s:Sq} (hs:s ∈ l) (y:Int) (hy:y=s.f1∨y=s.f1+s.f2):∃ k,k<(allL l W.toNat (H.toNat+1)).length∧E8 (allL l W.toNat (H.toNat+1)) y s.f0 k=true:=by
  have hW:=hg.1
  have hH:=hg.2.1
  obtain ⟨m,hm,rfl⟩:=List.mem_iff_getElem.1 hs
  have hi:=(hg.2.2.2.1 m hm).1
  rw [sqAt_get l m hm] at hi
  unfold Ins at hi
  have cov:bAt l ((y.toNat:Nat):Int) ((l[m]).f0.toNat)=true:=by
    unfold bAt
    rw [If]
    refine ⟨m,hm,?_⟩
    rw [sqAt_get l m hm]
    omega
  obtain ⟨a,z,h1,h2,h3,h4⟩:=Kf (bAt l ((y.toNat:Nat):Int)) ((y.toNat:Nat):Int) W.toNat (l[m]).f0.toNat (by omega) cov
  have hmem:=Uo l W.toNat (H.toNat+1) y.toNat (by omega) _ h1
  obtain ⟨k,hk,e⟩:=List.mem_iff_getElem.1 hmem
  refine ⟨k,hk,?_⟩
  unfold E8
  rw [List.getD_eq_getElem?_getD,List.getElem?_eq_getElem hk,Option.getD_some,e]
  have e0:rd [((y.toNat:Nat):Int),a,z] 0=((y.toNat:Nat):Int):=rfl
  have e1:rd [((y.toNat:Nat):Int),a,z] 1=a:=rfl
  have e2:rd [((y.toNat:Nat):Int),a,z] 2=z:=rfl
  rw [e0,e1,e2,Ap (by omega) (by omega),decide_eq_true_eq]
  omega
theorem rd_rows (L:List (List Int)) (k:Nat):Af L (k:Int)=L.getD k []:=by unfold Af;rw [Int.toNat_natCast]
theorem Ky (L:List (List Int)) (hl:L.length≤1000000) (h3:∀ r ∈ L,r.length=3) (y x:Int):∀ (d i:Nat),L.length-i=d→(∃ k,i≤k∧k<L.length∧E8 L y x k=true)→Ev (fun k=>C1.l0 k y x L (L.length:Int) (i:Int)) (ixF (E8 L y x) d i:Int):=by
  intro d
  induction d with
  | zero=>intro i hd hk;obtain ⟨k,h1,h2,_⟩:=hk;omega
  | succ d ih =>
    intro i hd hk
    have hi:i<L.length:=by omega
    have hr:(L.getD i []).length=3:=by
      rw [List.getD_eq_getElem?_getD,List.getElem?_eq_getElem hi,Option.getD_some];exact h3 _ (List.getElem_mem hi)
    have nx:E8 L y x i=false→Ev (fun k=>C1.l0 k y x L (L.length:Int) (wrap64 ((i:Int)+1))) (ixF (E8 L y x) (d+1) i:Int):=by
      intro hf
      rw [Ap (by omega) (by omega),ixF,if_neg (by rw [hf];decide)]
      refine ih (i+1) (by omega) ?_
      obtain ⟨k,h1,h2,h4⟩:=hk
      have hne:k≠i:=fun e=>by rw [e,hf] at h4;cases h4
      exact ⟨k,by omega,h2,h4⟩
    have hdef:E8 L y x i=decide (rd (L.getD i []) 0=y∧rd (L.getD i []) 1≤x∧x≤wrap64 (rd (L.getD i []) 2-1)):=rfl
    refine Ev.succ ?_
    simp only [C1.l0,rd_rows,hr]
    refine Ev.pos (by omega) (Ev.pos (by omega) (Ev.pos (by omega) (Ev.pos (by omega) ?_)))
    by_cases c:rd (L.getD i []) 0=y
    · refine Ev.pos c (Ev.pos (by omega) (Ev.pos (by omega) (Ev.bindc (It _ _ _) ?_)))
      by_cases c2:rd (L.getD i []) 1≤x∧x≤wrap64 (rd (L.getD i []) 2-1)
      · refine Ev.pos (decide_eq_true c2) (Ev.eqr (Ev.now _) ?_)
        rw [ixF,if_pos (by rw [hdef];exact decide_eq_true ⟨c,c2⟩)]
      · exact Ev.neg (by simpa using c2) (nx (by rw [hdef];exact decide_eq_false (fun h=>c2 h.2)))
    · exact Ev.neg c (nx (by rw [hdef];exact decide_eq_false (fun h=>c h.1)))
theorem Kz (L:List (List Int)) (hl:L.length≤1000000) (h3:∀ r ∈ L,r.length=3) (y x:Int):∀ (d i:Nat),L.length-i=d→(∃ k,i≤k∧k<L.length∧E8 L y x k=true)→Ev (fun k=>At.l0 k L (L.length:Int) (i:Int) y x) (ixF (E8 L y x) d i:Int):=by
  intro d
  induction d with
  | zero=>intro i hd hk;obtain ⟨k,h1,h2,_⟩:=hk;omega
  | succ d ih =>
    intro i hd hk
    have hi:i<L.length:=by omega
    have hr:(L.getD i []).length=3:=by
      rw [List.getD_eq_getElem?_getD,List.getElem?_eq_getElem hi,Option.getD_some];exact h3 _ (List.getElem_mem hi)
    have nx:E8 L y x i=false→Ev (fun k=>At.l0 k L (L.length:Int) (wrap64 ((i:Int)+1)) y x) (ixF (E8 L y x) (d+1) i:Int):=by
      intro hf
      rw [Ap (by omega) (by omega),ixF,if_neg (by rw [hf];decide)]
      refine ih (i+1) (by omega) ?_
      obtain ⟨k,h1,h2,h4⟩:=hk
      have hne:k≠i:=fun e=>by rw [e,hf] at h4;cases h4
      exact ⟨k,by omega,h2,h4⟩
    have cl:Dh.f (L.getD i []) y x=some (E8 L y x i):=by
      unfold Dh.f E8
      rw [hr,if_pos (by omega)]
      by_cases c:rd (L.getD i []) 0=y
      · rw [if_pos c,if_pos (by omega),if_pos (by omega),Jc,Option.bind_some]
        congr 1
        exact decide_eq_decide.2 ⟨fun h=>⟨c,h⟩,fun h=>h.2⟩
      · rw [if_neg c,decide_eq_false (fun h=>c h.1)]
    refine Ev.succ ?_
    simp only [At.l0,rd_rows]
    refine Ev.pos (by omega) (Ev.pos (by omega) (Ev.pos (by omega) (Ev.bindc cl ?_)))
    by_cases c:E8 L y x i=true
    · refine Ev.pos c (Ev.eqr (Ev.now _) ?_)
      rw [ixF,if_pos c]
    · exact Ev.neg c (nx (by simpa using c))
def wireOf (L:List (List Int)) (s:Sq):Wr:=⟨(ixF (E8 L s.f1 s.f0) L.length 0:Nat),(ixF (E8 L (s.f1+s.f2) s.f0) L.length 0:Nat)⟩
theorem Nb {β:Type} (l:List Sq) (f:Sq→β) (i:Nat) (s:Sq) (t:List Sq) (h:l.drop i=s::t):(l.take i).map f++[f s]=(l.take (i+1)).map f:=by
  obtain ⟨h1,h2,_⟩:=N8 l i s t h
  have e:l.take (i+1)=l.take i++[s]:=by
    rw [List.take_add_one,List.getElem?_eq_getElem h1,← h2,sqAt_get l i h1];rfl
  rw [e,List.map_append];rfl
theorem neOf_loop {W H : Int} {l : List Sq} (hg : Good W H l) (L : List (List Int)) (hL : L = allL l W.toNat (H.toNat + 1)) (hl : L.length ≤ 1000000) : ∀ (t : List Sq) (i : Nat), l.drop i = t → i + t.length = l.length →
    Ev (fun k=>Cj.l0 k L ((l.take i).map (fun s=>s.f2)) l (l.length:Int) (i:Int) (L.length:Int) ((l.take i).map (wireOf L))) ((L.length:Int),l.map (wireOf L),l.map (fun s=>s.f2)):=by
  have h30:=hg.2.2.1
  intro t
  induction t with
  | nil =>
    intro i hd hi
    simp only [List.length_nil] at hi
    refine Ev.succ ?_
    simp only [Cj.l0]
    rw [List.take_of_length_le (by omega)]
    exact Ev.neg (by omega) (Ev.now _)
  | cons s t ih =>
    intro i hd hi
    obtain ⟨h1,h2,h3⟩:=N8 l i s t hd
    have hs:s ∈ l:=by rw [← h2];exact Md l i h1
    simp only [List.length_cons] at hi
    have hW:=hg.1;have hH:=hg.2.1
    have hin:=(hg.2.2.2.1 i h1).1
    rw [h2] at hin
    unfold Ins at hin
    have r3:∀ r ∈ L,r.length=3:=by rw [hL];exact allL_row l _ _
    obtain ⟨k1,a1,b1⟩:=Kx hg hs s.f1 (Or.inl rfl)
    obtain ⟨k2,a2,b2⟩:=Kx hg hs (s.f1+s.f2) (Or.inr rfl)
    rw [← hL] at a1 b1 a2 b2
    have v1:=Ky L hl r3 s.f1 s.f0 L.length 0 (by omega) ⟨k1,Nat.zero_le _,a1,b1⟩
    have v2:=Ky L hl r3 (s.f1+s.f2) s.f0 L.length 0 (by omega) ⟨k2,Nat.zero_le _,a2,b2⟩
    have hn:=ih (i+1) h3 (by omega)
    rw [← Nb l (wireOf L) i s t hd,← Nb l (fun s=>s.f2) i s t hd] at hn
    refine Ev.succ ?_
    simp only [Cj.l0,Jm,h2]
    refine Ev.pos (by omega) (Ev.pos (by omega) (Ev.pos (by omega) (Ev.bind v1 ?_)))
    rw [Ap (n:=s.f1+s.f2) (by omega) (by omega)]
    refine Ev.bind v2 (Ev.pos (by rw [List.length_map,List.length_take];omega) (Ev.pos (by rw [List.length_map,List.length_take];omega) ?_))
    rw [Ap (n:=(i:Int)+1) (by omega) (by omega)]
    exact hn
theorem R0 {W H : Int} {l : List Sq} (hg : Good W H l) (L : List (List Int)) (hL : L = allL l W.toNat (H.toNat + 1)) (hl : L.length ≤ 1000000) : ∀ (t : List Sq) (i : Nat), l.drop i = t → i + t.length = l.length →
    Ev (fun k=>Bk.l0 k l (l.length:Int) (i:Int) W H l L (L.length:Int) ((l.take i).map (wireOf L))) ((L.length:Int),l.map (wireOf L),l.map (fun s=>s.f2),true):=by
  have h30:=hg.2.2.1
  intro t
  induction t with
  | nil =>
    intro i hd hi
    simp only [List.length_nil] at hi
    refine Ev.succ ?_
    simp only [Bk.l0]
    rw [List.take_of_length_le (by omega)]
    exact Ev.neg (by omega) (Ev.bind (Rz l (by omega)) (Ev.now _))
  | cons s t ih =>
    intro i hd hi
    obtain ⟨h1,h2,h3⟩:=N8 l i s t hd
    have hs:s ∈ l:=by rw [← h2];exact Md l i h1
    simp only [List.length_cons] at hi
    have hW:=hg.1;have hH:=hg.2.1
    have hin:=(hg.2.2.2.1 i h1).1
    rw [h2] at hin
    unfold Ins at hin
    have r3:∀ r ∈ L,r.length=3:=by rw [hL];exact allL_row l _ _
    obtain ⟨k1,a1,b1⟩:=Kx hg hs s.f1 (Or.inl rfl)
    obtain ⟨k2,a2,b2⟩:=Kx hg hs (s.f1+s.f2) (Or.inr rfl)
    rw [← hL] at a1 b1 a2 b2
    have v1:Ev (fun k=>Cz.f k s.f0 s.f1 L) (ixF (E8 L s.f1 s.f0) L.length 0:Int):=by
      unfold Cz.f At.f
      exact Ev.bind (Kz L hl r3 s.f1 s.f0 L.length 0 (by omega) ⟨k1,Nat.zero_le _,a1,b1⟩) (Ev.now _)
    have v2:Ev (fun k=>Cz.f k s.f0 (s.f1+s.f2) L) (ixF (E8 L (s.f1+s.f2) s.f0) L.length 0:Int):=by
      unfold Cz.f At.f
      exact Ev.bind (Kz L hl r3 (s.f1+s.f2) s.f0 L.length 0 (by omega) ⟨k2,Nat.zero_le _,a2,b2⟩) (Ev.now _)
    have hn:=ih (i+1) h3 (by omega)
    rw [← Nb l (wireOf L) i s t hd] at hn
    refine Ev.succ ?_
    simp only [Bk.l0,Jm,h2]
    refine Ev.pos (by omega) (Ev.pos (by omega) (Ev.pos (by omega) (Ev.bind v1 ?_)))
    rw [Ap (n:=s.f1+s.f2) (by omega) (by omega)]
    refine Ev.bind v2 (Ev.pos (by rw [List.length_map,List.length_take];omega) ?_)
    rw [Ap (n:=(i:Int)+1) (by omega) (by omega)]
    exact hn
open Classical in
noncomputable def netOfCut (W H:Int) (l:List Sq):Int×List Wr×List Int×Bool:=if Good W H l∧(allL l W.toNat (H.toNat+1)).length≤12 then (((allL l W.toNat (H.toNat+1)).length:Int),l.map (wireOf (allL l W.toNat (H.toNat+1))),l.map (fun s=>s.f2),true) else (0,[],[],false)
theorem netOfCut_len (W H:Int) (l:List Sq):(netOfCut W H l).2.1.length≤30∧(netOfCut W H l).2.2.1.length≤30:=by
  unfold netOfCut;split
  · rename_i h
    have:=h.1.2.2.1
    simp only [List.length_map];omega
  · simp
theorem lines_len {W H:Int} {l:List Sq} (hg:Good W H l):(allL l W.toNat (H.toNat+1)).length≤1000000:=by
  have hW:=hg.1
  have hH:=hg.2.1
  have h1:=Mf l W.toNat (H.toNat+1)
  have h2:(H.toNat+1)*W.toNat≤501*500:=Nat.mul_le_mul (by omega) (by omega)
  omega
theorem spec_NetOfCut_ev (W H:Int) (l:List Sq):Ev (fun k=>Em.f k W H l) (netOfCut W H l):=by
  unfold Em.f netOfCut
  refine Ev.bind (spec_cuGood_ev W H l) ?_
  by_cases hg:Good W H l
  · refine Ev.pos (decide_eq_true hg) (Ev.bind (a:=(((allL l W.toNat (H.toNat+1)).length:Int),l.map (wireOf (allL l W.toNat (H.toNat+1))),l.map (fun s=>s.f2))) ?_ ?_)
    · unfold Cj.f
      exact Ev.bind (spec_lines_ev hg) (neOf_loop hg _ rfl (lines_len hg) l 0 rfl (by omega))
    · by_cases c:(allL l W.toNat (H.toNat+1)).length≤12
      · rw [if_pos (show Good W H l∧(allL l W.toNat (H.toNat+1)).length≤12 from ⟨hg,c⟩)]
        exact Ev.neg (by omega) (Ev.now _)
      · rw [if_neg (show ¬ (Good W H l∧(allL l W.toNat (H.toNat+1)).length≤12) from fun h=>c h.2)]
        exact Ev.pos (by omega) (Ev.now _)
  · rw [if_neg (show ¬ (Good W H l∧(allL l W.toNat (H.toNat+1)).length≤12) from fun h=>hg h.1)]
    exact Ev.neg (by simpa using hg) (Ev.now _)
theorem impl_NetOfCut_ev (W H:Int) (l:List Sq):Ev (fun k=>Bk.f k W H l) (netOfCut W H l):=by
  unfold Bk.f D0.f netOfCut
  by_cases hg:Good W H l
  · refine Ev.bind (a:=(allL l W.toNat (H.toNat+1),true)) (Ev.bind (impl_IsCut_ev W H l) (Ev.pos (decide_eq_true hg) (Ev.bind (impl_across_ev hg) (Ev.now _)))) (Ev.pos rfl ?_)
    refine Ev.succ ?_
    simp only [Bk.j0]
    by_cases c:(allL l W.toNat (H.toNat+1)).length≤12
    · rw [if_pos (show Good W H l∧(allL l W.toNat (H.toNat+1)).length≤12 from ⟨hg,c⟩)]
      exact Ev.neg (by rw [decide_eq_true_eq];omega) (R0 hg _ rfl (lines_len hg) l 0 rfl (by omega))
    · rw [if_neg (show ¬ (Good W H l∧(allL l W.toNat (H.toNat+1)).length≤12) from fun h=>c h.2)]
      exact Ev.pos (by rw [decide_eq_true_eq];omega) (Ev.now _)
  · rw [if_neg (show ¬ (Good W H l∧(allL l W.toNat (H.toNat+1)).length≤12) from fun h=>hg h.1)]
    refine Ev.bind (a:=([],false)) (Ev.bind (impl_IsCut_ev W H l) (Ev.neg (by simpa using hg) (Ev.now _))) (Ev.neg (by decide) ?_)
    refine Ev.succ ?_
    simp only [Bk.j0]
    exact Ev.pos trivial (Ev.now _)

end CUT

end Go.Proofs.Yteaomckihokakaa.Pure
