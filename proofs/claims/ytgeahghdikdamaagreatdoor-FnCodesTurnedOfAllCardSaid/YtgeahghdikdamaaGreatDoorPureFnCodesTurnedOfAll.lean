/- Codes are turned, mirrored and grown as their cuts are, compared by their sides, and texts are read back, whatever is given. -/
import Derived.Test.YtgeahghdikdamaaGreatDoorPureAFnCodesTurnedOfAll
import Derived.Test.YtgeahghdikdamaaGreatDoorPFnCodesTurnedOfAllx24
namespace Go.Proofs.YtgeahghdikdamaaGreatDoor.Pure
open Go.RowKit Go.Proofs.YtgeahghdikdamaaGreatDoor.PFnCodesTurnedOfAll Go.Proofs.YtgeahghdikdamaaGreatDoorW.PrintWords Go.Proofs.YtgeahghdikdamaaGreatDoorW.PrintLast Go.Proofs.YtgeahghdikdamaaGreatDoorW.PrintMore Go.Proofs.YtgeahghdikdamaaGreatDoorW.Evs
set_option linter.unusedVariables false
set_option linter.unusedSimpArgs false
/-! ### numerals, and texts cut and split, as the program reads them -/
theorem mk_list (l:List UInt8):(mk l).toList=l:=by rw [ByteArray.toList_eq];exact Gs l
theorem number_ok (a most:Int) (h0:0≤a) (h1:a≤most) (hm:most≤500):Ez.f (mk (dd a)) most=some (a,true):=by
  unfold Ez.f
  have hl:=K9 a.toNat oz
  rw [if_pos (by rw [Dk];show (Lib.decDigits a.toNat).length≤_;omega),Gs,mk_list]
  have e:=Rz a.toNat oz
  have e2:((a.toNat:Nat):Int)=a:=by omega
  rw [e2] at e
  show some (match Lib.atoiAll (Lib.decDigits a.toNat) with | .ok v=>_|_=>_)=_
  rw [e]
  have e3:Lib.itoa a=dd a:=by unfold Lib.itoa;rw [if_neg oz]
  simp only
  rw [if_pos e3,if_pos ⟨h0,h1⟩]
theorem Xj (t:List UInt8) (ht:t.length≤2000000) (most:Int) (hb:∀ a:Int,0≤a→a≤most→t≠dd a):Ez.f (mk t) most=some (0,false):=by
  unfold Ez.f
  rw [if_pos (by rw [Dk];exact ht),Gs,mk_list]
  congr 1
  split
  · rename_i v hv
    split
    · rename_i h1
      rw [if_neg]
      intro h2
      refine hb v h2.1 h2.2 ?_
      rw [← h1]
      unfold Lib.itoa
      rw [if_neg oz]
    · rfl
  · rfl
theorem Vg (t:List UInt8) (ht:t.length≤2000000) (most:Int) (hm:most≤500):(∃ a:Int,0≤a∧a≤most∧t=dd a∧Ez.f (mk t) most=some (a,true))∨((∀ a:Int,0≤a→a≤most→t≠dd a)∧Ez.f (mk t) most=some (0,false)):=by
  by_cases h:∃ a:Int,0≤a∧a≤most∧t=dd a
  · obtain ⟨a,h0,h1,e⟩:=h
    exact .inl ⟨a,h0,h1,e,by rw [e];exact number_ok a most h0 h1 hm⟩
  · have hb:∀ a:Int,0≤a→a≤most→t≠dd a:=fun a h0 h1 e=>h ⟨a,h0,h1,e⟩
    exact .inr ⟨hb,Xj t ht most hb⟩
theorem split_eq (b:UInt8) (s:List UInt8) (hs:s.length≤2000000):strings_Split.f (mk s) (mk [b])=some ((spl b s).map mk):=by
  unfold strings_Split.f
  rw [if_pos ⟨by rw [Dk];exact hs,by rw [Dk];simp⟩]
  congr 1
  have h:=Lib.splitB_data (mk [b]) 0 (Lib.countB (mk s) (mk [b])) (mk s)
  rw [Gs,Gs] at h
  have hc:Lib.countB (mk s) (mk [b])=Lib.count s [b]:=by unfold Lib.countB;rw [Gs,Gs]
  rw [hc,Xi b s.length s (Nat.le_refl _)] at h
  rw [hc,← h,List.map_map]
  refine ((List.map_congr_left (fun x _=>?_)).trans (List.map_id _)).symm
  show mk x.data.toList=x
  rfl
theorem Mw (l:List (List UInt8)) (i:Nat) (h:i<l.length):E3 ByteArray.empty (l.map mk) (i:Int)=mk l[i]:=by
  unfold E3
  rw [Int.toNat_natCast]
  simp [List.getD,h]

/-! ### texts split and numerals read, as the reference does it -/
theorem Mh (s:List UInt8) (i:Nat) (h:i<s.length):bt (mk s) (i:Int)=((s[i]).toNat:Int):=by
  unfold bt
  rw [Int.toNat_natCast,dif_pos (by rw [Dk];exact h)]
  rfl
theorem Ri (s:List UInt8) (a b:Nat):(mk s).extract a b=mk ((s.drop a).take (b-a)):=by
  apply ByteArray.ext
  rw [ByteArray.data_extract]
  unfold mk
  simp [List.extract_eq_take_drop]
theorem Vh (s : List UInt8) (hs : s.length ≤ 2000000) (b : UInt8) : ∀ (t : List UInt8) (i fr : Nat) (acc : List (List UInt8)), s.drop i = t → i + t.length = s.length → fr ≤ i → acc.length ≤ i → b ∉ (s.drop fr).take (i - fr) →
    Ev (fun k=>C1.l0 k (mk s) (b.toNat:Int) (acc.map mk) (fr:Int) (i:Int)) ((acc++spl b (s.drop fr)).map mk):=by
  intro t
  induction t with
  | nil =>
    intro i fr acc hd hi hf ha hb
    simp only [List.length_nil] at hi
    refine Ev.succ ?_
    simp only [C1.l0]
    have hz:(mk s).size=s.length:=Dk s
    refine Ev.neg oz (Ev.pos oz (Ev.pos oz (Ev.pos (by simp only [List.length_map];omega) (Ev.eqr (Ev.now _) ?_))))
    rw [Int.toNat_natCast,hz,Ri]
    have e:(s.drop fr).take (s.length-fr)=s.drop fr:=List.take_of_length_le (by simp)
    rw [show i-fr=s.length-fr by omega,e] at hb
    rw [e,Qw b _ hb]
    simp
  | cons c t ih =>
    intro i fr acc hd hi hf ha hb
    simp only [List.length_cons] at hi
    have a0:i<s.length:=by omega
    have e1:=List.drop_eq_getElem_cons a0
    rw [hd] at e1
    injection e1 with e2 e3
    have hz:(mk s).size=s.length:=Dk s
    have hcut:s.drop fr=(s.drop fr).take (i-fr)++c::t:=by
      have h:=(List.take_append_drop (i-fr) (s.drop fr)).symm
      rw [List.drop_drop,show fr+(i-fr)=i by omega,hd] at h
      exact h
    refine Ev.succ ?_
    simp only [C1.l0]
    rw [Mh s i a0,← e2]
    have ei:wrap64 ((i:Int)+1)=((i+1:Nat):Int):=(Af oz oz).trans oz
    refine Ev.pos oz (Ev.pos oz ?_)
    by_cases h:c=b
    · refine Ev.pos (by rw [h]) (Ev.pos oz (Ev.pos oz (Ev.pos oz (Ev.pos (by simp only [List.length_map];omega) ?_))))
      rw [ei,Int.toNat_natCast,Int.toNat_natCast,Ri]
      have hr:=ih (i+1) (i+1) (acc++[(s.drop fr).take (i-fr)]) e3.symm oz (Nat.le_refl _) (by simp only [List.length_append,List.length_cons,List.length_nil];omega) (by simp)
      rw [List.map_append,List.map_cons,List.map_nil] at hr
      refine Ev.eqr hr ?_
      congr 1
      rw [List.append_assoc]
      congr 1
      have h9:=Qx b t _ hb
      rw [h] at hcut
      have h8:spl b (s.drop fr)=(s.drop fr).take (i-fr)::spl b t:=by rw [← h9];exact congrArg (spl b) hcut
      rw [h8,← e3]
      rfl
    · refine Ev.neg (fun e=>h (UInt8.toNat_inj.1 oz)) ?_
      rw [ei]
      refine ih (i+1) fr acc e3.symm oz oz oz ?_
      rw [show i+1-fr=(i-fr)+1 by omega,List.take_add_one]
      intro hm
      rcases List.mem_append.1 hm with hm|hm
      · exact hb hm
      · rw [List.getElem?_drop,show fr+(i-fr)=i by omega,List.getElem?_eq_getElem a0,← e2] at hm
        simp at hm
        exact h hm.symm
theorem Rj (s:List UInt8) (hs:s.length≤2000000) (b:UInt8):Ev (fun k=>C1.f k (mk s) (b.toNat:Int)) ((spl b s).map mk):=by
  unfold C1.f
  exact Vh s hs b s 0 0 [] rfl oz (Nat.le_refl _) (Nat.zero_le _) (by simp)
/-- reading a text's number ends, whatever the text -/
theorem Xk (t:List UInt8) (ht:t.length≤100):∀ (d i:Nat) (x:Int),t.length-i=d→i≤t.length→∃ v:Int,Ev (fun k=>Bh.l0 k (mk t) x (i:Int)) v:=by
  have hz:(mk t).size=t.length:=Dk t
  intro d
  induction d with
  | zero =>
    intro i x hd hi
    refine ⟨x,Ev.succ ?_⟩
    simp only [Bh.l0]
    exact Ev.neg oz (Ev.now _)
  | succ d ih =>
    intro i x hd hi
    have ei:wrap64 ((i:Int)+1)=((i+1:Nat):Int):=(Af oz oz).trans oz
    obtain ⟨v,hv⟩:=ih (i+1) (wrap64 ((wrap64 (10*x))+(((bt (mk t) (i:Int))-48)%256))) oz oz
    by_cases h1:bt (mk t) (i:Int)<48
    · refine ⟨-1,Ev.succ ?_⟩
      simp only [Bh.l0]
      exact Ev.pos oz (Ev.pos oz (Ev.pos h1 (Ev.now _)))
    · by_cases h2:bt (mk t) (i:Int)>57
      · refine ⟨-1,Ev.succ ?_⟩
        simp only [Bh.l0]
        exact Ev.pos oz (Ev.pos oz (Ev.neg h1 (Ev.pos h2 (Ev.now _))))
      · refine ⟨v,Ev.succ ?_⟩
        simp only [Bh.l0]
        rw [ei]
        exact Ev.pos oz (Ev.pos oz (Ev.neg h1 (Ev.neg h2 hv)))
theorem dig_of {c:UInt8} {d:Nat} (h:Lib.digitVal c=some d):48≤c.toNat∧c.toNat≤57∧d=c.toNat-48:=by
  unfold Lib.digitVal at h
  split at h
  · rename_i h1
    have h2:=Option.some.inj h
    exact ⟨h1.1,h1.2,h2.symm⟩
  · cases h
theorem dec_le:∀ (r:List UInt8) (x m:Nat),Lib.decFrom x r=some m→x≤m:=by
  intro r
  induction r with
  | nil=>intro x m h;simp only [Lib.decFrom] at h;exact Nat.le_of_eq (Option.some.inj h)
  | cons c r ih =>
    intro x m h
    simp only [Lib.decFrom] at h
    split at h
    · have:=ih _ _ h;omega
    · cases h
theorem Rk (t:List UInt8) (ht:t.length≤100):∀ (r:List UInt8) (i x m:Nat),t.drop i=r→i+r.length=t.length→Lib.decFrom x r=some m→m<1000000→x≤m→Ev (fun k=>Bh.l0 k (mk t) (x:Int) (i:Int)) (m:Int):=by
  have hz:(mk t).size=t.length:=Dk t
  intro r
  induction r with
  | nil =>
    intro i x m hd hi hm hb hx
    simp only [List.length_nil] at hi
    simp only [Lib.decFrom] at hm
    have e:=Option.some.inj hm
    subst e
    refine Ev.succ ?_
    simp only [Bh.l0]
    exact Ev.neg oz (Ev.now _)
  | cons c r ih =>
    intro i x m hd hi hm hb hx
    simp only [List.length_cons] at hi
    have a0:i<t.length:=by omega
    have e1:=List.drop_eq_getElem_cons a0
    rw [hd] at e1
    injection e1 with e2 e3
    simp only [Lib.decFrom] at hm
    cases hv:Lib.digitVal c with
    | none=>rw [hv] at hm;cases hm
    | some d =>
      rw [hv] at hm
      obtain ⟨d1,d2,d3⟩:=dig_of hv
      have hle:x*10+d≤m:=dec_le r _ _ hm
      have ei:wrap64 ((i:Int)+1)=((i+1:Nat):Int):=(Af oz oz).trans oz
      refine Ev.succ ?_
      simp only [Bh.l0]
      rw [Mh t i a0,← e2]
      refine Ev.pos oz (Ev.pos oz (Ev.neg oz (Ev.neg oz ?_)))
      rw [ei,Af (n:=10*(x:Int)) oz oz,show (((c.toNat:Nat):Int)-48)%256=(d:Int) by omega,Af (n:=10*(x:Int)+(d:Int)) oz oz,show 10*(x:Int)+(d:Int)=((x*10+d:Nat):Int) by omega]
      exact ih (i+1) (x*10+d) m e3.symm oz hm hb hle
theorem read_any (t:List UInt8):∃ v:Int,Ev (fun k=>Bh.f k (mk t)) v:=by
  unfold Bh.f
  have hz:(mk t).size=t.length:=Dk t
  by_cases h:1≤((mk t).size:Int)∧((mk t).size:Int)≤6
  · obtain ⟨v,hv⟩:=Xk t oz t.length 0 0 oz (Nat.zero_le _)
    by_cases h2:bt (mk t) 0=48
    · by_cases h3:((mk t).size:Int)>1
      · refine ⟨-1,Ev.bindc (Jb _ _ _) (Ev.pos (decide_eq_true h) (Ev.pos oz (Ev.pos h2 (Ev.succ ?_))))⟩
        simp only [Bh.j0]
        exact Ev.pos (decide_eq_true h3) (Ev.now _)
      · refine ⟨v,Ev.bindc (Jb _ _ _) (Ev.pos (decide_eq_true h) (Ev.pos oz (Ev.pos h2 (Ev.succ ?_))))⟩
        simp only [Bh.j0]
        exact Ev.neg (by simpa using h3) hv
    · refine ⟨v,Ev.bindc (Jb _ _ _) (Ev.pos (decide_eq_true h) (Ev.pos oz (Ev.neg h2 (Ev.succ ?_))))⟩
      simp only [Bh.j0]
      exact Ev.neg zd hv
  · refine ⟨-1,Ev.bindc (Jb _ _ _) (Ev.neg (by simpa using h) (Ev.succ ?_))⟩
    simp only [Bh.j0]
    exact Ev.pos (by simp) (Ev.now _)
theorem read_dd (a:Int) (h0:0≤a) (h1:a<1000):Ev (fun k=>Bh.f k (mk (dd a))) a:=by
  obtain ⟨x,hx,r,e,hr,hd,a1⟩:=Ry a.toNat oz
  have ea:((a.toNat:Nat):Int)=a:=by omega
  have et:dd a=UInt8.ofNat (48+x)::r:=e
  rw [et]
  have hz:(mk (UInt8.ofNat (48+x)::r)).size=r.length+1:=by rw [Dk];rfl
  have hn:=Rk (UInt8.ofNat (48+x)::r) (by simp only [List.length_cons];omega) (UInt8.ofNat (48+x)::r) 0 0 a.toNat rfl oz hd oz (Nat.zero_le _)
  rw [ea] at hn
  have hb:bt (mk (UInt8.ofNat (48+x)::r)) 0=48+(x:Int):=by
    have h:=Mh (UInt8.ofNat (48+x)::r) 0 (by simp)
    rw [show ((0:Nat):Int)=0 from rfl] at h
    rw [h,List.getElem_cons_zero,R0 x hx]
    omega
  unfold Bh.f
  refine Ev.bindc (Jb _ _ _) (Ev.pos (decide_eq_true oz) (Ev.pos oz ?_))
  rw [hb]
  by_cases h2:48+(x:Int)=48
  · refine Ev.pos h2 (Ev.succ ?_)
    simp only [Bh.j0]
    have a0:r=[]:=a1.resolve_right oz
    refine Ev.neg ?_ hn
    rw [hz,a0]
    simp
  · refine Ev.neg h2 (Ev.succ ?_)
    simp only [Bh.j0]
    exact Ev.neg zd hn

/-! ### texts of numbers with signs between them -/
theorem R5 (b:UInt8):∀ l:List UInt8,(spl b l).length≤l.length+1∧∀ g ∈ spl b l,g.length≤l.length:=by
  intro l
  induction l with
  | nil=>exact ⟨by simp [spl],fun g hg=>by simp only [spl,List.mem_singleton] at hg;subst hg;simp⟩
  | cons c t ih =>
    simp only [spl]
    split
    · refine ⟨by simp only [List.length_cons];omega,fun g hg=>?_⟩
      rcases List.mem_cons.1 hg with e|e
      · subst e;simp
      · have:=ih.2 g e;simp only [List.length_cons];omega
    · cases hs:spl b t with
      | nil=>exact absurd hs (Rf b t)
      | cons g0 r =>
        rw [hs] at ih
        refine ⟨by simp only [List.length_cons] at ih ⊢;omega,fun g hg=>?_⟩
        rcases List.mem_cons.1 hg with e|e
        · subst e
          have:=ih.2 g0 List.mem_cons_self
          simp only [List.length_cons];omega
        · have:=ih.2 g (List.mem_cons_of_mem _ e)
          simp only [List.length_cons];omega
theorem dd_sign (a:Int) (h0:0≤a) (h1:a<1000) (b:UInt8) (hb:b.toNat<48∨57<b.toNat):b ∉ dd a:=dd_no a.toNat oz b hb
theorem dd_inj (a b:Int) (a0:0≤a) (a1:a<1000) (a2:0≤b) (a3:b<1000) (e:dd a=dd b):a=b:=by
  have h1:=Rz a.toNat oz
  have h2:=Rz b.toNat oz
  have e':Lib.decDigits a.toNat=Lib.decDigits b.toNat:=e
  rw [e',h2] at h1
  injection h1 with h3
  omega
theorem dds_inj:∀ V W:List Int,(∀ w ∈ V,0≤w∧w≤500)→(∀ w ∈ W,0≤w∧w≤500)→V.map dd=W.map dd→V=W:=by
  intro V
  induction V with
  | nil=>intro W _ _ h;cases W with
    | nil=>rfl
    | cons w W=>simp at h
  | cons v V ih =>
    intro W hV hW h
    cases W with
    | nil=>simp at h
    | cons w W =>
      rw [List.map_cons,List.map_cons] at h
      injection h with h1 h2
      have a:=hV v List.mem_cons_self
      have b:=hW w List.mem_cons_self
      rw [dd_inj v w a.1 oz b.1 oz h1,ih W (fun x hx=>hV x (List.mem_cons_of_mem _ hx)) (fun x hx=>hW x (List.mem_cons_of_mem _ hx)) h2]
theorem Jc (s y:List UInt8) (r:List (List UInt8)):Lib.joinTail s (y::r)=s++(y++Lib.joinTail s r):=by simp [Lib.joinTail]
theorem join_no (x b:UInt8) (hx:x≠b) (ps:List (List UInt8)) (h:∀ p ∈ ps,x ∉ p):x ∉ Lib.join ps [b]:=by
  have tl:∀ ps:List (List UInt8),(∀ p ∈ ps,x ∉ p)→x ∉ Lib.joinTail [b] ps:=by
    intro ps
    induction ps with
    | nil=>intro _;simp [Lib.joinTail]
    | cons p r ih =>
      intro h hm
      rw [Jc] at hm
      rcases List.mem_append.1 hm with z|z
      · exact hx (List.mem_singleton.1 z)
      · rcases List.mem_append.1 z with z|z
        · exact h p List.mem_cons_self z
        · exact ih (fun q hq=>h q (List.mem_cons_of_mem _ hq)) z
  cases ps with
  | nil=>simp [Lib.join]
  | cons p r =>
    rw [Lib.join_cons]
    intro hm
    rcases List.mem_append.1 hm with z|z
    · exact h p List.mem_cons_self z
    · exact tl r (fun q hq=>h q (List.mem_cons_of_mem _ hq)) z
theorem join_len (s:List UInt8) (b:Nat):∀ l:List (List UInt8),(∀ x ∈ l,x.length≤b)→(Lib.join l s).length≤l.length*(b+s.length):=by
  have tl:∀ ps:List (List UInt8),(∀ p ∈ ps,p.length≤b)→(Lib.joinTail s ps).length≤ps.length*(b+s.length):=by
    intro ps
    induction ps with
    | nil=>intro _;simp [Lib.joinTail]
    | cons p r ih =>
      intro h
      have h1:=h p List.mem_cons_self
      have h2:=ih (fun q hq=>h q (List.mem_cons_of_mem _ hq))
      rw [Jc]
      simp only [List.length_append,List.length_cons,Nat.add_mul,Nat.one_mul]
      simp only [Nat.mul_add] at h2 ⊢
      omega
  intro l h
  cases l with
  | nil=>simp [Lib.join]
  | cons p r =>
    have h1:=h p List.mem_cons_self
    have h2:=tl r (fun q hq=>h q (List.mem_cons_of_mem _ hq))
    rw [Lib.join_cons]
    simp only [List.length_append,List.length_cons,Nat.add_mul,Nat.one_mul]
    simp only [Nat.mul_add] at h2 ⊢
    omega
abbrev numL (b:UInt8) (ns:List Int):List UInt8:=Lib.join (ns.map dd) [b]
def Sg (b:UInt8):Prop:=b.toNat<48∨57<b.toNat
theorem Qf (b:UInt8) (hb:Sg b) (ns:List Int) (hne:ns≠[]) (hr:∀ a ∈ ns,0≤a∧a≤500):spl b (numL b ns)=ns.map dd:=by
  refine Qn b _ (by simpa using hne) (fun p hp=>?_)
  obtain ⟨a,ha,e⟩:=List.mem_map.1 hp
  have:=hr a ha
  rw [← e]
  exact dd_sign a this.1 oz b hb
theorem num_no (b x:UInt8) (hx:Sg x) (hxb:x≠b) (ns:List Int) (hr:∀ a ∈ ns,0≤a∧a≤500):x ∉ numL b ns:=by
  refine join_no x b hxb _ (fun p hp=>?_)
  obtain ⟨a,ha,e⟩:=List.mem_map.1 hp
  have:=hr a ha
  rw [← e]
  exact dd_sign a this.1 oz x hx
theorem num_inj (b:UInt8) (hb:Sg b) (V W:List Int) (hV:V≠[]) (hW:W≠[]) (h1:∀ w ∈ V,0≤w∧w≤500) (h2:∀ w ∈ W,0≤w∧w≤500) (e:numL b V=numL b W):V=W:=by
  refine dds_inj V W h1 h2 ?_
  rw [← Qf b hb V hV h1,← Qf b hb W hW h2,e]

/-! ### texts split at two signs -/
theorem Vi:∀ s:List UInt8,Lib.index s [41,40] = -1∨∃ p q,s=p++41::40::q∧Lib.index s [41,40]=(p.length:Int):=by
  intro s
  induction s with
  | nil=>exact .inl rfl
  | cons c t ih =>
    by_cases h:List.isPrefixOf [41,40] (c::t)=true
    · refine .inr ?_
      cases t with
      | nil=>simp [List.isPrefixOf] at h
      | cons d r =>
        simp only [List.isPrefixOf,Bool.and_true,Bool.and_eq_true,beq_iff_eq] at h
        obtain ⟨h1,h2⟩:=h
        subst h1;subst h2
        exact ⟨[],r,rfl,by simp [Lib.index,List.isPrefixOf]⟩
    · rcases ih with e|⟨p,q,e,hi⟩
      · refine .inl ?_
        simp only [Lib.index]
        rw [if_neg h,e];rfl
      · refine .inr ⟨c::p,q,by rw [e];rfl,?_⟩
        simp only [Lib.index]
        rw [if_neg h,hi,if_neg (by simp),List.length_cons]
        omega
theorem Qo (q:List UInt8):∀ p:List UInt8,(41:UInt8) ∉ p→Lib.index (p++41::40::q) [41,40]=(p.length:Int):=by
  intro p
  induction p with
  | nil=>intro _;simp [Lib.index,List.isPrefixOf]
  | cons c t ih =>
    intro h
    have h1:¬ (41:UInt8)=c:=fun e=>h (by rw [e];exact List.mem_cons_self)
    have h2:=ih (fun hm=>h (List.mem_cons_of_mem _ hm))
    rw [List.cons_append]
    simp only [Lib.index,List.isPrefixOf,beq_iff_eq,h1,Bool.and_eq_true,false_and,if_false,h2]
    rw [if_neg oz,List.length_cons]
    omega
theorem Vz:∀ p:List UInt8,(41:UInt8) ∉ p→Lib.index p [41,40] = -1:=by
  intro p
  induction p with
  | nil=>intro _;rfl
  | cons c t ih =>
    intro h
    have h1:¬ (41:UInt8)=c:=fun e=>h (by rw [e];exact List.mem_cons_self)
    have h2:=ih (fun hm=>h (List.mem_cons_of_mem _ hm))
    simp [Lib.index,List.isPrefixOf,h1,h2]
theorem J1 (D p:List UInt8) (y:List UInt8) (r:List (List UInt8)):Lib.join (p::y::r) D=p++(D++Lib.join (y::r) D):=by
  rw [Lib.join_cons,Lib.join_cons,Jc]
theorem N4 (D:List UInt8) (k:Nat) (s:List UInt8):∃ y r,Lib.splitK D 0 k s=y::r:=by
  cases k with
  | zero=>exact ⟨s,[],rfl⟩
  | succ k =>
    simp only [Lib.splitK]
    split
    · exact ⟨_,_,rfl⟩
    · exact ⟨_,_,rfl⟩
theorem V0:∀ (k:Nat) (s:List UInt8),Lib.join (Lib.splitK [41,40] 0 k s) [41,40]=s:=by
  intro k
  induction k with
  | zero=>intro s;exact Lib.join_one _ _
  | succ k ih =>
    intro s
    rcases Vi s with e|⟨p,q,e,hi⟩
    · simp only [Lib.splitK]
      rw [if_pos (by rw [e];rfl)]
      exact Lib.join_one _ _
    · simp only [Lib.splitK]
      rw [if_neg (by rw [hi];simp)]
      have hd:s.drop ((Lib.index s [41,40]).toNat+[(41:UInt8),40].length)=q:=by
        rw [hi,e,Int.toNat_natCast];simp
      have ht:s.take ((Lib.index s [41,40]).toNat+0)=p:=by
        rw [hi,e,Int.toNat_natCast];simp
      rw [hd,ht]
      obtain ⟨y,r,e2⟩:=N4 [41,40] k q
      have:=ih q
      rw [e2] at this ⊢
      rw [J1,this,e];rfl
theorem join_ge (D:List UInt8) (hD:1≤D.length):∀ (r:List (List UInt8)) (p:List UInt8),r.length≤(Lib.join (p::r) D).length:=by
  intro r
  induction r with
  | nil=>intro p;simp
  | cons y r ih =>
    intro p
    have:=ih y
    rw [J1]
    simp only [List.length_append,List.length_cons]
    omega
theorem V1:∀ (r:List (List UInt8)) (p:List UInt8) (f:Nat),(∀ x ∈ p::r,(41:UInt8) ∉ x)→r.length+1≤f→Lib.countFrom [41,40] f (Lib.join (p::r) [41,40])=r.length:=by
  intro r
  induction r with
  | nil =>
    intro p f h hf
    obtain ⟨f,rfl⟩:∃ g,f=g+1:=⟨f-1,by omega⟩
    rw [Lib.join_one]
    simp only [Lib.countFrom]
    rw [if_pos (by rw [Vz p (h p List.mem_cons_self)];rfl)];rfl
  | cons y r ih =>
    intro p f h hf
    simp only [List.length_cons] at hf
    obtain ⟨f,rfl⟩:∃ g,f=g+1:=⟨f-1,by omega⟩
    have e:Lib.join (p::y::r) [41,40]=p++41::40::Lib.join (y::r) [41,40]:=by rw [J1];rfl
    have hi:Lib.index (Lib.join (p::y::r) [41,40]) [41,40]=(p.length:Int):=by rw [e];exact Qo _ p (h p List.mem_cons_self)
    have hd:(Lib.join (p::y::r) [41,40]).drop ((Lib.index (Lib.join (p::y::r) [41,40]) [41,40]).toNat+[(41:UInt8),40].length)=Lib.join (y::r) [41,40]:=by
      rw [hi,e,Int.toNat_natCast];simp
    simp only [Lib.countFrom]
    rw [if_neg (by rw [hi];simp),hd,ih y f (fun x hx=>h x (List.mem_cons_of_mem _ hx)) oz,List.length_cons]
    omega
theorem V2:∀ (r:List (List UInt8)) (p:List UInt8),(∀ x ∈ p::r,(41:UInt8) ∉ x)→Lib.splitK [41,40] 0 r.length (Lib.join (p::r) [41,40])=p::r:=by
  intro r
  induction r with
  | nil=>intro p _;rw [Lib.join_one];rfl
  | cons y r ih =>
    intro p h
    have e:Lib.join (p::y::r) [41,40]=p++41::40::Lib.join (y::r) [41,40]:=by rw [J1];rfl
    have hi:Lib.index (Lib.join (p::y::r) [41,40]) [41,40]=(p.length:Int):=by rw [e];exact Qo _ p (h p List.mem_cons_self)
    have hd:(Lib.join (p::y::r) [41,40]).drop ((Lib.index (Lib.join (p::y::r) [41,40]) [41,40]).toNat+[(41:UInt8),40].length)=Lib.join (y::r) [41,40]:=by
      rw [hi,e,Int.toNat_natCast];simp
    have ht:(Lib.join (p::y::r) [41,40]).take ((Lib.index (Lib.join (p::y::r) [41,40]) [41,40]).toNat+0)=p:=by
      rw [hi,e,Int.toNat_natCast];simp
    rw [List.length_cons]
    simp only [Lib.splitK]
    rw [if_neg (by rw [hi];simp),hd,ht,ih y (fun x hx=>h x (List.mem_cons_of_mem _ hx))]
/-- the pieces between ')(' -/
def Jn (s:List UInt8):List (List UInt8):=Lib.splitK [41,40] 0 (Lib.count s [41,40]) s
theorem Um (s:List UInt8):Lib.join (Jn s) [41,40]=s:=V0 _ s
theorem spl2_of (p:List UInt8) (r:List (List UInt8)) (h:∀ x ∈ p::r,(41:UInt8) ∉ x):Jn (Lib.join (p::r) [41,40])=p::r:=by
  unfold Jn Lib.count
  rw [V1 r p _ h (by have:=join_ge [41,40] zd r p;omega)]
  exact V2 r p h
theorem spl2_len (s:List UInt8):(Jn s).length≤s.length+1∧∀ g ∈ Jn s,g.length≤s.length:=by
  have mem:∀ (ps:List (List UInt8)) (p:List UInt8),∀ g ∈ p::ps,g.length≤(Lib.join (p::ps) [41,40]).length:=by
    intro ps
    induction ps with
    | nil=>intro p g hg;rw [List.mem_singleton.1 hg,Lib.join_one];exact Nat.le_refl _
    | cons y r ih =>
      intro p g hg
      rw [J1]
      simp only [List.length_append]
      rcases List.mem_cons.1 hg with e|e
      · rw [e];omega
      · have:=ih y g e;omega
  obtain ⟨y,r,e⟩:=N4 [41,40] (Lib.count s [41,40]) s
  have j:=Um s
  have e':Jn s=y::r:=e
  rw [e'] at j ⊢
  have a:=join_ge [41,40] zd r y
  have b:=mem r y
  rw [j] at a b
  exact ⟨by simp only [List.length_cons];omega,b⟩
theorem spl2_ne (s:List UInt8):∃ y r,Jn s=y::r:=N4 _ _ _
theorem split2_eq (s:List UInt8) (hs:s.length≤2000000):strings_Split.f (mk s) (mk [41,40])=some ((Jn s).map mk):=by
  unfold strings_Split.f
  rw [if_pos ⟨by rw [Dk];exact hs,by rw [Dk];simp⟩]
  congr 1
  have h:=Lib.splitB_data (mk [41,40]) 0 (Lib.countB (mk s) (mk [41,40])) (mk s)
  rw [Gs,Gs] at h
  have hc:Lib.countB (mk s) (mk [41,40])=Lib.count s [41,40]:=by unfold Lib.countB;rw [Gs,Gs]
  have h':(Lib.splitB (mk [41,40]) 0 (Lib.countB (mk s) (mk [41,40])) (mk s)).map (·.data.toList)=Jn s:=by rw [h,hc];rfl
  rw [← h',List.map_map]
  refine ((List.map_congr_left (fun x _=>?_)).trans (List.map_id _)).symm
  show mk x.data.toList=x
  rfl
/-! ### the text of a code -/
abbrev grL (g:List Int):List UInt8:=numL 44 g
def Gn (c:List (List Int)):List UInt8:=40::(Lib.join (c.map grL) [41,40]++[41])
def InC (c:List (List Int)):Prop:=c≠[]∧∀ g ∈ c,g≠[]∧∀ a ∈ g,0≤a∧a≤500
def Ge (c:List (List Int)):Prop:=(Ai c).2.2.2=true
theorem Ka {c:List (List Int)} (h:Ge c):Ih 1 c∧c.flatten.length≤30:=by
  unfold Ge Ai at h
  split at h
  · rename_i h1
    refine ⟨h1,?_⟩
    unfold I8 at h
    split at h
    · rename_i h2
      have:=h2.1
      unfold Eu at this
      split at this
      · rename_i h3;exact h3.2.1.2
      · cases this
    · cases h
  · cases h
theorem Gx {c:List (List Int)} (h:Ge c):InC c:=by
  obtain ⟨⟨h1,h2⟩,_⟩:=Ka h
  refine ⟨by intro e;rw [e] at h1;simp at h1,fun g hg=>⟨by intro e;have:=(h2 g hg).1;rw [e] at this;simp at this,fun a ha=>by have:=(h2 g hg).2 a ha;omega⟩⟩
theorem gr_no {g:List Int} (x:UInt8) (hx:Sg x) (hxb:x≠44) (hr:∀ a ∈ g,0≤a∧a≤500):x ∉ grL g:=num_no 44 x hx hxb g hr
theorem grs_inj:∀ V W:List (List Int),(∀ g ∈ V,g≠[]∧∀ a ∈ g,0≤a∧a≤500)→(∀ g ∈ W,g≠[]∧∀ a ∈ g,0≤a∧a≤500)→V.map grL=W.map grL→V=W:=by
  intro V
  induction V with
  | nil=>intro W _ _ h;cases W with
    | nil=>rfl
    | cons w W=>simp at h
  | cons v V ih =>
    intro W hV hW h
    cases W with
    | nil=>simp at h
    | cons w W =>
      rw [List.map_cons,List.map_cons] at h
      injection h with h1 h2
      have a:=hV v List.mem_cons_self
      have b:=hW w List.mem_cons_self
      rw [num_inj 44 (.inl zd) v w a.1 b.1 a.2 b.2 h1,ih W (fun x hx=>hV x (List.mem_cons_of_mem _ hx)) (fun x hx=>hW x (List.mem_cons_of_mem _ hx)) h2]
theorem N5 {c:List (List Int)} (h:InC c):Jn (Lib.join (c.map grL) [41,40])=c.map grL:=by
  cases c with
  | nil=>exact absurd rfl h.1
  | cons g r =>
    rw [List.map_cons]
    refine spl2_of (grL g) (r.map grL) (fun x hx=>?_)
    rw [← List.map_cons] at hx
    obtain ⟨q,hq,e⟩:=List.mem_map.1 hx
    rw [← e]
    exact gr_no 41 (.inl zd) zd (h.2 q hq).2
theorem Qz (c d:List (List Int)) (hc:InC c) (hd:InC d) (e:Gn c=Gn d):c=d:=by
  unfold Gn at e
  injection e with _ e
  have e2:=List.append_cancel_right e
  have e3:=congrArg Jn e2
  rw [N5 hc,N5 hd] at e3
  exact grs_inj c d hc.2 hd.2 e3
theorem num_len (b:UInt8) (ns:List Int) (h:∀ a ∈ ns,0≤a∧a≤500):(numL b ns).length≤ns.length*4:=by
  have:=join_len [b] 3 (ns.map dd) (fun x hx=>by
    obtain ⟨a,ha,e⟩:=List.mem_map.1 hx
    have:=h a ha
    rw [← e];exact K9 a.toNat oz)
  rw [List.length_map] at this
  simpa using this
theorem grs_len:∀ c:List (List Int),(∀ g ∈ c,g≠[]∧∀ a ∈ g,0≤a∧a≤500)→(Lib.joinTail [41,40] (c.map grL)).length≤4*c.flatten.length+2*c.length∧c.length≤c.flatten.length:=by
  intro c
  induction c with
  | nil=>intro _;simp [Lib.joinTail]
  | cons g r ih =>
    intro h
    have a:=ih (fun x hx=>h x (List.mem_cons_of_mem _ hx))
    have b:=h g List.mem_cons_self
    have l:(grL g).length≤g.length*4:=num_len 44 g b.2
    have g0:0<g.length:=List.length_pos_iff.2 b.1
    rw [List.map_cons,Jc]
    simp only [List.length_append,List.length_cons,List.length_nil,List.flatten_cons] at l ⊢
    omega
theorem Q0 {c:List (List Int)} (h:Ge c):(Gn c).length≤200∧3≤(Gn c).length:=by
  have hin:=Gx h
  have hf:=(Ka h).2
  cases c with
  | nil=>exact absurd rfl hin.1
  | cons g r =>
    have a:=grs_len r (fun x hx=>hin.2 x (List.mem_cons_of_mem _ hx))
    have b:=hin.2 g List.mem_cons_self
    have l:(grL g).length≤g.length*4:=num_len 44 g b.2
    have g0:0<g.length:=List.length_pos_iff.2 b.1
    have n0:0<(grL g).length:=by
      cases g with
      | nil=>simp at g0
      | cons x t =>
        have hx:=b.2 x List.mem_cons_self
        unfold grL numL
        rw [List.map_cons,Lib.join_cons]
        obtain ⟨y,_,s,e,_⟩:=Ry x.toNat oz
        have:dd x=UInt8.ofNat (48+y)::s:=e
        rw [this];simp
    unfold Gn
    rw [List.map_cons,Lib.join_cons]
    simp only [List.length_append,List.length_cons,List.length_nil,List.flatten_cons] at hf l ⊢
    omega

/-! ### numbers read back -/
def Rd (u:List UInt8) (v:Int):Prop:=Ev (fun k=>Bh.f k (mk u)) v∧(1≤v→v≤500→u=dd v)∧∀ a,0≤a→a≤500→u=dd a→v=a
theorem ev_uniq {α:Type} {g:Nat→Option α} {a b:α} (h1:Ev g a) (h2:Ev g b):a=b:=by
  obtain ⟨k1,h1⟩:=h1
  obtain ⟨k2,h2⟩:=h2
  have a1:=h1 (max k1 k2) (Nat.le_max_left _ _)
  rw [h2 (max k1 k2) (Nat.le_max_right _ _)] at a1
  exact (Option.some.inj a1).symm
theorem Xl:∀ (r:List UInt8) (x m:Nat),1≤x→Lib.decFrom x r=some m→Lib.decDigits m=Lib.decDigits x++r:=by
  intro r
  induction r with
  | nil=>intro x m _ h;simp only [Lib.decFrom] at h;rw [← Option.some.inj h];simp
  | cons c r ih =>
    intro x m hx h
    simp only [Lib.decFrom] at h
    cases hv:Lib.digitVal c with
    | none=>rw [hv] at h;cases h
    | some d =>
      rw [hv] at h
      obtain ⟨d1,d2,d3⟩:=dig_of hv
      rw [ih _ _ oz h,Rc (x*10+d) oz,show (x*10+d)/10=x by omega,show (x*10+d)%10=d by omega]
      have e:UInt8.ofNat (48+d)=c:=by
        rw [d3,show 48+(c.toNat-48)=c.toNat by omega]
        exact UInt8.ofNat_toNat
      rw [e,List.append_assoc];rfl
theorem dec_some:∀ (r:List UInt8) (x:Nat),(∀ c ∈ r,48≤c.toNat∧c.toNat≤57)→∃ m,Lib.decFrom x r=some m∧m<(x+1)*10 ^ r.length:=by
  intro r
  induction r with
  | nil=>intro x _;exact ⟨x,rfl,by simp⟩
  | cons c r ih =>
    intro x h
    have hc:=h c List.mem_cons_self
    have hv:Lib.digitVal c=some (c.toNat-48):=by unfold Lib.digitVal;rw [if_pos hc]
    obtain ⟨m,h1,h2⟩:=ih (x*10+(c.toNat-48)) (fun y hy=>h y (List.mem_cons_of_mem _ hy))
    refine ⟨m,by simp only [Lib.decFrom,hv];exact h1,?_⟩
    rw [List.length_cons,Nat.pow_succ]
    have:(x*10+(c.toNat-48)+1)*10 ^ r.length≤((x+1)*10)*10 ^ r.length:=Nat.mul_le_mul_right _ oz
    rw [Nat.mul_comm (10 ^ r.length) 10,← Nat.mul_assoc]
    omega
theorem read_bad (t:List UInt8) (ht:t.length≤100):∀ (r:List UInt8) (i:Nat) (x:Int),t.drop i=r→i+r.length=t.length→(∃ c ∈ r,¬ (48≤c.toNat∧c.toNat≤57))→Ev (fun k=>Bh.l0 k (mk t) x (i:Int)) (-1):=by
  have hz:(mk t).size=t.length:=Dk t
  intro r
  induction r with
  | nil=>intro i x _ _ h;obtain ⟨c,hc,_⟩:=h;exact absurd hc List.not_mem_nil
  | cons c r ih =>
    intro i x hd hi h
    simp only [List.length_cons] at hi
    have a0:i<t.length:=by omega
    have e1:=List.drop_eq_getElem_cons a0
    rw [hd] at e1
    injection e1 with e2 e3
    have ei:wrap64 ((i:Int)+1)=((i+1:Nat):Int):=(Af oz oz).trans oz
    refine Ev.succ ?_
    simp only [Bh.l0]
    rw [Mh t i a0,← e2]
    refine Ev.pos oz (Ev.pos oz ?_)
    by_cases h1:((c.toNat:Nat):Int)<48
    · exact Ev.pos h1 (Ev.now _)
    · refine Ev.neg h1 ?_
      by_cases h2:((c.toNat:Nat):Int)>57
      · exact Ev.pos h2 (Ev.now _)
      · refine Ev.neg h2 ?_
        rw [ei]
        refine ih (i+1) _ e3.symm oz ?_
        obtain ⟨y,hy,hn⟩:=h
        rcases List.mem_cons.1 hy with e|e
        · subst e;exact absurd ⟨by omega,by omega⟩ hn
        · exact ⟨y,e,hn⟩
theorem read_back (u:List UInt8):∃ v,Ev (fun k=>Bh.f k (mk u)) v∧(1≤v→v≤500→u=dd v):=by
  have hz:(mk u).size=u.length:=Dk u
  by_cases h:1≤u.length∧u.length≤6
  · cases u with
    | nil=>simp at h
    | cons c r =>
      have hlen:(c::r).length=r.length+1:=rfl
      have hb:bt (mk (c::r)) 0=(c.toNat:Int):=by
        have h:=Mh (c::r) 0 (by simp)
        rw [show ((0:Nat):Int)=0 from rfl] at h
        rw [h,List.getElem_cons_zero]
      have go:∀ v:Int,(¬ (c.toNat=48∧0<r.length))→Ev (fun k=>Bh.l0 k (mk (c::r)) 0 ((0:Nat):Int)) v→Ev (fun k=>Bh.f k (mk (c::r))) v:=by
        intro v hn hv
        unfold Bh.f
        refine Ev.bindc (Jb _ _ _) (Ev.pos (decide_eq_true oz) (Ev.pos oz ?_))
        rw [hb]
        by_cases h2:((c.toNat:Nat):Int)=48
        · refine Ev.pos h2 (Ev.succ ?_)
          simp only [Bh.j0]
          exact Ev.neg (by rw [hz,hlen];simp <;> omega) hv
        · refine Ev.neg h2 (Ev.succ ?_)
          simp only [Bh.j0]
          exact Ev.neg zd hv
      by_cases a0:c.toNat=48∧0<r.length
      · refine ⟨-1,?_,fun h=>by omega⟩
        unfold Bh.f
        refine Ev.bindc (Jb _ _ _) (Ev.pos (decide_eq_true oz) (Ev.pos oz ?_))
        rw [hb]
        refine Ev.pos oz (Ev.succ ?_)
        simp only [Bh.j0]
        exact Ev.pos (by rw [hz,hlen];simp <;> omega) (Ev.now _)
      · by_cases hd:∀ y ∈ c::r,48≤y.toNat∧y.toNat≤57
        · obtain ⟨m,h1,h2⟩:=dec_some (c::r) 0 hd
          have hm:m<1000000:=by
            have:10 ^ (c::r).length≤10 ^ 6:=Nat.pow_le_pow_right oz h.2
            omega
          refine ⟨(m:Int),go _ a0 (Rk (c::r) oz (c::r) 0 0 m rfl oz h1 hm (Nat.zero_le _)),fun p q=>?_⟩
          have hc:=hd c List.mem_cons_self
          have hv:Lib.digitVal c=some (c.toNat-48):=by unfold Lib.digitVal;rw [if_pos hc]
          simp only [Lib.decFrom,hv] at h1
          show c::r=Lib.decDigits ((m:Int)).toNat
          rw [Int.toNat_natCast]
          by_cases h0:c.toNat=48
          · have : r = [] := by
              cases r with
              | nil=>rfl
              | cons y r=>exact absurd ⟨h0,by simp⟩ a0
            subst this
            simp only [Lib.decFrom] at h1
            have:=Option.some.inj h1
            omega
          · have:=Xl r _ m oz h1
            rw [this,Nat.zero_mul,Nat.zero_add,Mv (c.toNat-48) oz,show 48+(c.toNat-48)=c.toNat by omega,UInt8.ofNat_toNat];rfl
        · refine ⟨-1,go _ a0 (read_bad (c::r) oz (c::r) 0 0 rfl oz ?_),fun h=>by omega⟩
          exact Classical.byContradiction fun hn=>hd fun y hy=>Classical.byContradiction fun hq=>hn ⟨y,hy,hq⟩
  · refine ⟨-1,?_,fun h=>by omega⟩
    unfold Bh.f
    refine Ev.bindc (Jb _ _ _) (Ev.neg (by rw [decide_eq_false oz];decide) (Ev.succ ?_))
    simp only [Bh.j0]
    exact Ev.pos (by simp) (Ev.now _)
theorem rd_ex (u:List UInt8):∃ v,Rd u v:=by
  obtain ⟨v,h1,h2⟩:=read_back u
  refine ⟨v,h1,h2,fun a h0 h9 e=>?_⟩
  rw [e] at h1
  exact ev_uniq h1 (read_dd a h0 oz)
def RdAll:List (List UInt8)→List Int→Prop
  | [],[]=>True
  | u::us,v::vs=>Rd u v∧RdAll us vs
  | _,_=>False
theorem Xm:∀ (us:List (List UInt8)) (vs:List Int),RdAll us vs→(∀ v ∈ vs,1≤v∧v≤500)→us=vs.map dd:=by
  intro us
  induction us with
  | nil=>intro vs h _;cases vs with
    | nil=>rfl
    | cons v vs=>exact absurd h id
  | cons u us ih =>
    intro vs h hv
    cases vs with
    | nil=>exact absurd h id
    | cons v vs =>
      obtain ⟨h1,h2⟩:=h
      have a:=hv v List.mem_cons_self
      rw [List.map_cons,h1.2.1 a.1 a.2,ih vs h2 (fun x hx=>hv x (List.mem_cons_of_mem _ hx))]
theorem rdAll_fwd:∀ (g vs:List Int),RdAll (g.map dd) vs→(∀ v ∈ g,0≤v∧v≤500)→vs=g:=by
  intro g
  induction g with
  | nil=>intro vs h _;cases vs with
    | nil=>rfl
    | cons v vs=>exact absurd h id
  | cons a g ih =>
    intro vs h hv
    cases vs with
    | nil=>exact absurd h id
    | cons v vs =>
      obtain ⟨h1,h2⟩:=h
      have b:=hv a List.mem_cons_self
      rw [h1.2.2 a b.1 b.2 rfl,ih vs h2 (fun x hx=>hv x (List.mem_cons_of_mem _ hx))]
def RdPs:List (List UInt8)→List (List Int)→Prop
  | [],[]=>True
  | p::ps,g::c=>(∃ q,p=40::q∧RdAll (spl 44 q) g)∧RdPs ps c
  | _,_=>False
/-- one group's numbers are read -/
theorem Xn (X4 : List (List Int)) (a1 : List ByteArray) (a2 a3 : Int) (us : List (List UInt8)) (hl : us.length ≤ 2000001) : ∀ (t : List (List UInt8)) (i : Nat) (acc : List Int), us.drop i = t → i + t.length = us.length → acc.length ≤ i →
    ∃ vs,RdAll t vs∧∀ R,Ev (fun k=>Ax.l1 k X4 (acc++vs) a1 a2 a3 (us.map mk) ((us.map mk).length:Int) (us.length:Int)) R→Ev (fun k=>Ax.l1 k X4 acc a1 a2 a3 (us.map mk) ((us.map mk).length:Int) (i:Int)) R:=by
  intro t
  have hml:(us.map mk).length=us.length:=List.length_map _
  induction t with
  | nil =>
    intro i acc hd hi ha
    simp only [List.length_nil] at hi
    refine ⟨[],trivial,fun R hR=>?_⟩
    rw [List.append_nil] at hR
    rw [show i=us.length by omega];exact hR
  | cons u t ih =>
    intro i acc hd hi ha
    simp only [List.length_cons] at hi
    have a0:i<us.length:=by omega
    have e1:=List.drop_eq_getElem_cons a0
    rw [hd] at e1
    injection e1 with e2 e3
    obtain ⟨v,hv⟩:=rd_ex u
    obtain ⟨vs,h1,h2⟩:=ih (i+1) (acc++[v]) e3.symm oz (by simp only [List.length_append,List.length_cons,List.length_nil];omega)
    refine ⟨v::vs,⟨hv,h1⟩,fun R hR=>?_⟩
    have h3:=h2 R (by rw [List.append_assoc,List.singleton_append];exact hR)
    refine Ev.succ ?_
    simp only [Ax.l1]
    rw [Mw us i a0,← e2]
    refine Ev.pos oz (Ev.pos oz (Ev.pos oz (Ev.bind hv.1 (Ev.pos oz ?_))))
    rw [Af (n:=(i:Int)+1) oz oz]
    exact h3
open Classical in
noncomputable def endC (c:List (List Int)):List (List Int)×Bool:=if Ge c then (c,true) else ([],false)
theorem endS_ev (c:List (List Int)):Ev (fun k=>(Bi.f k c).bind fun bt=>(if bt.2.2.2=true then (some (c,true)) else (some (([]:List (List Int)),false)))) (endC c):=by
  unfold endC
  by_cases h:Ge c
  · rw [if_pos h];exact Ev.bind (Dp c) (Ev.pos h (Ev.now _))
  · rw [if_neg h];exact Ev.bind (Dp c) (Ev.neg h (Ev.now _))
theorem V3 (ps : List (List UInt8)) (hl : ps.length ≤ 2000001) (hp : ∀ p ∈ ps, p.length ≤ 2000000) : ∀ (t : List (List UInt8)) (i : Nat) (acc : List (List Int)), ps.drop i = t → i + t.length = ps.length → acc.length ≤ i →
    (∃ c,RdPs t c∧Ev (fun k=>Ax.l0 k acc (ps.map mk) ((ps.map mk).length:Int) (i:Int)) (endC (acc++c))) ∨
    ((∃ p ∈ t,∀ q,p≠40::q)∧Ev (fun k=>Ax.l0 k acc (ps.map mk) ((ps.map mk).length:Int) (i:Int)) ([],false)):=by
  intro t
  have hml:(ps.map mk).length=ps.length:=List.length_map _
  induction t with
  | nil =>
    intro i acc hd hi ha
    simp only [List.length_nil] at hi
    refine .inl ⟨[],trivial,?_⟩
    rw [List.append_nil]
    refine Ev.succ ?_
    simp only [Ax.l0]
    exact Ev.neg oz (endS_ev acc)
  | cons p t ih =>
    intro i acc hd hi ha
    simp only [List.length_cons] at hi
    have a0:i<ps.length:=by omega
    have e1:=List.drop_eq_getElem_cons a0
    rw [hd] at e1
    injection e1 with e2 e3
    have hpp:=hp _ (List.getElem_mem a0)
    rw [← e2] at hpp
    have hz:(mk p).size=p.length:=Dk p
    have bad:(∀ q,p≠40::q)→Ev (fun k=>Ax.l0 k acc (ps.map mk) ((ps.map mk).length:Int) (i:Int)) ([],false):=by
      intro hb
      refine Ev.succ ?_
      simp only [Ax.l0]
      rw [Mw ps i a0,← e2]
      refine Ev.pos oz (Ev.pos oz (Ev.pos oz ?_))
      have out:∀ b,b=true→Ev (fun k=>Ax.j2 k acc (mk p) (ps.map mk) ((ps.map mk).length:Int) (i:Int) b) ([],false):=fun b hb=>Ev.succ (by
        simp only [Ax.j2]
        exact Ev.pos hb (Ev.now _))
      cases p with
      | nil=>exact Ev.pos rfl (out _ rfl)
      | cons x q =>
        refine Ev.neg (by rw [hz];simp <;> omega) (Ev.pos (by rw [hz];simp <;> omega) (out _ ?_))
        have h:=Mh (x::q) 0 (by simp)
        rw [show ((0:Nat):Int)=0 from rfl] at h
        rw [h,List.getElem_cons_zero,bne_iff_ne]
        intro h2
        refine hb q ?_
        have : x = 40 := UInt8.toNat_inj.1 (by have : ((40 : UInt8)).toNat = 40 := by decide
                                               omega)
        rw [this]
    by_cases hq:∃ q,p=40::q
    · obtain ⟨q,rfl⟩:=hq
      simp only [List.length_cons] at hpp
      have a1:=R5 44 q
      have hsp:=Rj q oz 44
      rw [show ((44:UInt8).toNat:Int)=44 by decide] at hsp
      obtain ⟨g,g1,g2⟩:=Xn acc (ps.map mk) ((ps.map mk).length:Int) (i:Int) (spl 44 q) oz (spl 44 q) 0 [] rfl (by simp) (by simp)
      rw [List.nil_append] at g2
      have step:∀ R,Ev (fun k=>Ax.l0 k (acc++[g]) (ps.map mk) ((ps.map mk).length:Int) ((i+1:Nat):Int)) R→Ev (fun k=>Ax.l0 k acc (ps.map mk) ((ps.map mk).length:Int) (i:Int)) R:=by
        intro R hR
        refine Ev.succ ?_
        simp only [Ax.l0]
        rw [Mw ps i a0,← e2]
        have hb:=Mh (40::q) 0 (by simp)
        rw [show ((0:Nat):Int)=0 from rfl,List.getElem_cons_zero] at hb
        refine Ev.pos oz (Ev.pos oz (Ev.pos oz (Ev.neg (by rw [hz];simp <;> omega) (Ev.pos (by rw [hz];simp <;> omega) ?_))))
        rw [hb,show (((40:UInt8).toNat:Int) != 40)=false by decide]
        refine Ev.succ ?_
        simp only [Ax.j2]
        refine Ev.neg zd (Ev.pos (by rw [hz];simp <;> omega) ?_)
        rw [Ri,show (((40::q).drop 1).take ((mk (40::q)).size-1))=q by rw [hz];simp]
        refine Ev.bind hsp (g2 R (Ev.succ ?_))
        simp only [Ax.l1]
        refine Ev.neg (by rw [List.length_map];omega) (Ev.pos oz ?_)
        rw [Af (n:=(i:Int)+1) oz oz]
        exact hR
      rcases ih (i+1) (acc++[g]) e3.symm oz (by simp only [List.length_append,List.length_cons,List.length_nil];omega) with ⟨c,q1,q2⟩|⟨⟨y,hy,hn⟩,q2⟩
      · refine .inl ⟨g::c,⟨⟨q,rfl,g1⟩,q1⟩,?_⟩
        have:=step _ q2
        rw [List.append_assoc,List.singleton_append] at this
        exact this
      · exact .inr ⟨⟨y,List.mem_cons_of_mem _ hy,hn⟩,step _ q2⟩
    · have hb:∀ q,p≠40::q:=fun q e=>hq ⟨q,e⟩
      exact .inr ⟨⟨p,List.mem_cons_self,hb⟩,bad hb⟩
/-! ### the reference's answer -/
theorem Ng:∀ c:List (List Int),c≠[]→Gn c=Lib.join (c.map fun g=>40::grL g) [41]++[41]:=by
  have tl:∀ c:List (List Int),Lib.joinTail [41,40] (c.map grL)=Lib.joinTail [41] (c.map fun g=>40::grL g):=by
    intro c
    induction c with
    | nil=>rfl
    | cons g r ih=>rw [List.map_cons,List.map_cons,Jc,Jc,ih];rfl
  intro c h
  cases c with
  | nil=>exact absurd rfl h
  | cons g r =>
    unfold Gn
    rw [List.map_cons,List.map_cons,Lib.join_cons,Lib.join_cons,tl];rfl
theorem code_spl {c:List (List Int)} (h:InC c):spl 41 (Lib.join (c.map fun g=>40::grL g) [41])=c.map fun g=>40::grL g:=by
  refine Qn 41 _ (by simpa using h.1) (fun p hp=>?_)
  obtain ⟨g,hg,e⟩:=List.mem_map.1 hp
  rw [← e]
  intro hm
  rcases List.mem_cons.1 hm with z|z
  · exact absurd z zd
  · exact gr_no 41 (.inl zd) zd (h.2 g hg).2 z
theorem rdPs_back:∀ (ps:List (List UInt8)) (c:List (List Int)),RdPs ps c→(∀ g ∈ c,∀ v ∈ g,1≤v∧v≤500)→ps=c.map fun g=>40::grL g:=by
  intro ps
  induction ps with
  | nil=>intro c h _;cases c with
    | nil=>rfl
    | cons g c=>exact absurd h id
  | cons p ps ih =>
    intro c h hv
    cases c with
    | nil=>exact absurd h id
    | cons g c =>
      obtain ⟨⟨q,e,h1⟩,h2⟩:=h
      have a:=Xm _ _ h1 (hv g List.mem_cons_self)
      have j:=Qy 44 q
      rw [a] at j
      rw [List.map_cons,e,ih c h2 (fun x hx=>hv x (List.mem_cons_of_mem _ hx)),← j]
theorem rdPs_fwd:∀ (d c:List (List Int)),(∀ g ∈ d,g≠[]∧∀ a ∈ g,0≤a∧a≤500)→RdPs (d.map fun g=>40::grL g) c→c=d:=by
  intro d
  induction d with
  | nil=>intro c _ h;cases c with
    | nil=>rfl
    | cons g c=>exact absurd h id
  | cons g d ih =>
    intro c hd h
    cases c with
    | nil=>exact absurd h id
    | cons x c =>
      obtain ⟨⟨q,e,h1⟩,h2⟩:=h
      injection e with _ e
      have b:=hd g List.mem_cons_self
      rw [← e,Qf 44 (.inl zd) g b.1 b.2] at h1
      rw [rdAll_fwd g x h1 b.2,ih c (fun y hy=>hd y (List.mem_cons_of_mem _ hy)) h2]
theorem code_vals {c:List (List Int)} (h:Ge c):∀ g ∈ c,∀ v ∈ g,1≤v∧v≤500:=fun g hg v hv=>((Ka h).1.2 g hg).2 v hv
def IsText (s:List UInt8):Prop:=∃ c,Ge c∧s=Gn c
theorem Ky (s : List UInt8) (hs : s.length ≤ 1048576) :
    (∃ c,Ge c∧s=Gn c∧Ev (fun k=>D6.f k (mk s)) (c,true)) ∨
    (¬ IsText s∧Ev (fun k=>D6.f k (mk s)) ([],false)):=by
  have hz:(mk s).size=s.length:=Dk s
  have up:∀ R:List (List Int)×Bool,Ev (fun k=>Ax.f k (mk s)) R→Ev (fun k=>D6.f k (mk s)) R:=fun R h=>Ev.bind h (Ev.now _)
  have no:∀ b,b=true→Ev (fun k=>Ax.j0 k (mk s) b) ([],false):=fun b hb=>Ev.succ (by
    simp only [Ax.j0]
    exact Ev.pos hb (Ev.now _))
  by_cases h3:s.length<3
  · refine .inr ⟨fun ⟨c,hc,e⟩=>by have:=(Q0 hc).2;rw [← e] at this;omega,up _ ?_⟩
    unfold Ax.f
    exact Ev.pos oz (no _ rfl)
  · by_cases a2:s.length>200
    · refine .inr ⟨fun ⟨c,hc,e⟩=>by have:=(Q0 hc).1;rw [← e] at this;omega,up _ ?_⟩
      unfold Ax.f
      exact Ev.neg oz (Ev.pos oz (no _ rfl))
    · obtain ⟨y,z,rfl⟩:∃ y z,s=y++[z]:=⟨s.dropLast,s.getLast (by intro e;rw [e] at h3;simp at h3),(List.dropLast_concat_getLast _).symm⟩
      have hl:(y++[z]).length=y.length+1:=by simp
      have hw:wrap64 (((mk (y++[z])).size:Int)-1)=(y.length:Int):=by rw [hz,hl,Af oz oz];omega
      have hb:bt (mk (y++[z])) (y.length:Int)=(z.toNat:Int):=by rw [Mh _ _ oz];simp
      have start:∀ R,Ev (fun k=>Ax.j0 k (mk (y++[z])) ((z.toNat:Int) != 41)) R→Ev (fun k=>Ax.f k (mk (y++[z]))) R:=by
        intro R hR
        unfold Ax.f
        rw [hw,hb]
        exact Ev.neg oz (Ev.neg oz (Ev.pos oz (Ev.pos oz hR)))
      by_cases h41:z=41
      · subst h41
        have hsp:=Rj y oz 41
        rw [show ((41:UInt8).toNat:Int)=41 by decide] at hsp
        have a1:=R5 41 y
        have a0:∀ R,Ev (fun k=>Ax.l0 k [] ((spl 41 y).map mk) (((spl 41 y).map mk).length:Int) ((0:Nat):Int)) R→Ev (fun k=>D6.f k (mk (y++[41]))) R:=by
          intro R hR
          refine up _ (start R (Ev.succ ?_))
          simp only [Ax.j0]
          rw [hw]
          refine Ev.neg zd (Ev.pos oz (Ev.pos oz ?_))
          rw [Int.toNat_natCast,Ri,show ((y++[(41:UInt8)]).drop 0).take (y.length-0)=y by simp]
          exact Ev.bind hsp hR
        have pieces:∀ d,Ge d→y++[41]=Gn d→spl 41 y=d.map fun g=>40::grL g:=by
          intro d hd e
          rw [Ng d (Gx hd).1] at e
          rw [List.append_cancel_right e]
          exact code_spl (Gx hd)
        rcases V3 (spl 41 y) oz (fun g hg=>by have:=a1.2 g hg;omega) (spl 41 y) 0 [] rfl (by simp) (by simp) with ⟨c,q1,q2⟩|⟨⟨p,hp,hn⟩,q2⟩
        · have h4:=a0 _ q2
          rw [List.nil_append] at h4
          unfold endC at h4
          by_cases hc:Ge c
          · rw [if_pos hc] at h4
            refine .inl ⟨c,hc,?_,h4⟩
            have j:=Qy 41 y
            rw [rdPs_back _ c q1 (code_vals hc)] at j
            rw [Ng c (Gx hc).1,j]
          · rw [if_neg hc] at h4
            refine .inr ⟨fun ⟨d,hd,e⟩=>hc ?_,h4⟩
            rw [pieces d hd e] at q1
            rw [rdPs_fwd d c (Gx hd).2 q1];exact hd
        · refine .inr ⟨fun ⟨d,hd,e⟩=>?_,a0 _ q2⟩
          rw [pieces d hd e] at hp
          obtain ⟨g,_,e2⟩:=List.mem_map.1 hp
          exact hn _ e2.symm
      · refine .inr ⟨fun ⟨d,hd,e⟩=>h41 ?_,up _ (start _ (no _ ?_))⟩
        · rw [Ng d (Gx hd).1] at e
          have:=congrArg List.getLast? e
          simpa using this
        · rw [bne_iff_ne]
          intro h2
          exact h41 (UInt8.toNat_inj.1 (by have : ((41 : UInt8)).toNat = 41 := by decide
                                           omega))

/-! ### the program's -/
theorem endI_ev (c:List (List Int)):Ev (fun k=>(Cq.f k c).bind fun t=>(if t=true then (some (c,true)) else (some (([]:List (List Int)),false)))) (endC c):=by
  have s2:Ev (fun k=>Cq.f k c) (Ai c).2.2.2:=by
    unfold Cq.f
    exact Ev.bind (C3 c) (Ev.now _)
  unfold endC
  by_cases h:Ge c
  · rw [if_pos h];exact Ev.bind s2 (Ev.pos h (Ev.now _))
  · rw [if_neg h];exact Ev.bind s2 (Ev.neg h (Ev.now _))
theorem Xo (X4 : List (List Int)) (ps : List (List UInt8)) (hX : X4.length ≤ 2000001) (x : Nat) (hx : x ≤ 2000001) (us : List (List UInt8)) (hl : us.length ≤ 2000001) (hp : ∀ p ∈ us, p.length ≤ 2000000) : ∀ (t : List (List UInt8)) (i : Nat) (acc : List Int), us.drop i = t → i + t.length = us.length → acc.length ≤ i →
    (∃ g:List Int,(∀ a ∈ g,0≤a∧a≤500)∧t=g.map dd∧∀ R,Ev (fun k=>Ap.l0 k (X4++[acc++g]) (ps.map mk) ((ps.map mk).length:Int) ((x+1:Nat):Int)) R→Ev (fun k=>Ap.l1 k X4 acc (ps.map mk) ((ps.map mk).length:Int) (x:Int) (us.map mk) ((us.map mk).length:Int) (i:Int)) R) ∨
    ((¬ ∃ g:List Int,(∀ a ∈ g,0≤a∧a≤500)∧t=g.map dd)∧Ev (fun k=>Ap.l1 k X4 acc (ps.map mk) ((ps.map mk).length:Int) (x:Int) (us.map mk) ((us.map mk).length:Int) (i:Int)) ([],false)):=by
  intro t
  have hml:(us.map mk).length=us.length:=List.length_map _
  induction t with
  | nil =>
    intro i acc hd hi ha
    simp only [List.length_nil] at hi
    refine .inl ⟨[],fun a ha=>absurd ha List.not_mem_nil,rfl,fun R hR=>?_⟩
    rw [List.append_nil] at hR
    refine Ev.succ ?_
    simp only [Ap.l1]
    refine Ev.neg oz (Ev.pos oz ?_)
    rw [Af (n:=(x:Int)+1) oz oz]
    exact hR
  | cons u t ih =>
    intro i acc hd hi ha
    simp only [List.length_cons] at hi
    have a0:i<us.length:=by omega
    have e1:=List.drop_eq_getElem_cons a0
    rw [hd] at e1
    injection e1 with e2 e3
    have hpu:=hp u (by rw [e2];exact List.getElem_mem _)
    rcases Vg u hpu 500 oz with ⟨a,h0,h1,e,hn⟩|⟨hb,hn⟩
    · have step : ∀ R, Ev (fun k => Ap.l1 k X4 (acc ++ [a]) (ps.map mk) ((ps.map mk).length : Int) (x : Int) (us.map mk) ((us.map mk).length : Int) ((i + 1 : Nat) : Int)) R → Ev (fun k => Ap.l1 k X4 acc (ps.map mk) ((ps.map mk).length : Int) (x : Int) (us.map mk) ((us.map mk).length : Int) (i : Int)) R := by
        intro R hR
        refine Ev.succ ?_
        simp only [Ap.l1]
        rw [Mw us i a0,← e2]
        refine Ev.pos oz (Ev.pos oz (Ev.pos oz (Ev.bindc hn (Ev.pos rfl (Ev.pos oz ?_)))))
        rw [Af (n:=(i:Int)+1) oz oz]
        exact hR
      rcases ih (i+1) (acc++[a]) e3.symm oz (by simp only [List.length_append,List.length_cons,List.length_nil];omega) with ⟨g,q1,q2,q3⟩|⟨q1,q2⟩
      · refine .inl ⟨a::g,fun y hy=>(List.mem_cons.1 hy).elim (fun z=>by rw [z];exact ⟨h0,h1⟩) (q1 y),by rw [q2,e];rfl,fun R hR=>step R (q3 R ?_)⟩
        rw [List.append_assoc,List.singleton_append];exact hR
      · refine .inr ⟨fun ⟨g,z1,z2⟩=>?_,step _ q2⟩
        cases g with
        | nil=>simp at z2
        | cons y g =>
          rw [List.map_cons] at z2
          injection z2 with _ z3
          exact q1 ⟨g,fun y hy=>z1 y (List.mem_cons_of_mem _ hy),z3⟩
    · refine .inr ⟨fun ⟨g,z1,z2⟩=>?_,?_⟩
      · cases g with
        | nil=>simp at z2
        | cons y g =>
          rw [List.map_cons] at z2
          injection z2 with z3 _
          have:=z1 y List.mem_cons_self
          exact hb y this.1 this.2 z3
      · refine Ev.succ ?_
        simp only [Ap.l1]
        rw [Mw us i a0,← e2]
        exact Ev.pos oz (Ev.pos oz (Ev.pos oz (Ev.bindc hn (Ev.neg (by simp) (Ev.now _)))))
theorem grp_of (p:List UInt8) (g:List Int) (h:spl 44 p=g.map dd):p=grL g∧g≠[]:=by
  have j:=Qy 44 p
  rw [h] at j
  refine ⟨j.symm,fun e=>?_⟩
  rw [e] at h
  exact Rf 44 p h
theorem V4 (ps : List (List UInt8)) (hl : ps.length ≤ 2000001) (hp : ∀ p ∈ ps, p.length ≤ 2000000) : ∀ (t : List (List UInt8)) (i : Nat) (acc : List (List Int)), ps.drop i = t → i + t.length = ps.length → acc.length ≤ i →
    (∃ c:List (List Int),(∀ g ∈ c,g≠[]∧∀ a ∈ g,0≤a∧a≤500)∧t=c.map grL∧Ev (fun k=>Ap.l0 k acc (ps.map mk) ((ps.map mk).length:Int) (i:Int)) (endC (acc++c))) ∨
    ((¬ ∃ c:List (List Int),(∀ g ∈ c,g≠[]∧∀ a ∈ g,0≤a∧a≤500)∧t=c.map grL)∧Ev (fun k=>Ap.l0 k acc (ps.map mk) ((ps.map mk).length:Int) (i:Int)) ([],false)):=by
  intro t
  have hml:(ps.map mk).length=ps.length:=List.length_map _
  induction t with
  | nil =>
    intro i acc hd hi ha
    simp only [List.length_nil] at hi
    refine .inl ⟨[],fun g hg=>absurd hg List.not_mem_nil,rfl,?_⟩
    rw [List.append_nil]
    refine Ev.succ ?_
    simp only [Ap.l0]
    exact Ev.neg oz (endI_ev acc)
  | cons p t ih =>
    intro i acc hd hi ha
    simp only [List.length_cons] at hi
    have a0:i<ps.length:=by omega
    have e1:=List.drop_eq_getElem_cons a0
    rw [hd] at e1
    injection e1 with e2 e3
    have hpp:=hp _ (List.getElem_mem a0)
    rw [← e2] at hpp
    have a2:=R5 44 p
    have start:∀ R,Ev (fun k=>Ap.l1 k acc [] (ps.map mk) ((ps.map mk).length:Int) (i:Int) ((spl 44 p).map mk) (((spl 44 p).map mk).length:Int) ((0:Nat):Int)) R→Ev (fun k=>Ap.l0 k acc (ps.map mk) ((ps.map mk).length:Int) (i:Int)) R:=by
      intro R hR
      refine Ev.succ ?_
      simp only [Ap.l0]
      rw [Mw ps i a0,← e2]
      have a1:(⟨#[44]⟩:ByteArray)=mk [44]:=rfl
      rw [a1]
      exact Ev.pos oz (Ev.pos oz (Ev.pos oz (Ev.bindc (split_eq 44 p hpp) hR)))
    rcases Xo acc ps oz i oz (spl 44 p) oz (fun g hg=>by have:=a2.2 g hg;omega) (spl 44 p) 0 [] rfl (by simp) (by simp) with ⟨g,q1,q2,q3⟩|⟨q1,q2⟩
    · obtain ⟨ep,eg⟩:=grp_of p g q2
      rw [List.nil_append] at q3
      rcases ih (i+1) (acc++[g]) e3.symm oz (by simp only [List.length_append,List.length_cons,List.length_nil];omega) with ⟨c,r1,r2,r3⟩|⟨r1,r2⟩
      · refine .inl ⟨g::c,fun y hy=>(List.mem_cons.1 hy).elim (fun z=>by rw [z];exact ⟨eg,q1⟩) (r1 y),by rw [ep,r2];rfl,start _ (q3 _ ?_)⟩
        rw [List.append_assoc,List.singleton_append] at r3
        exact r3
      · refine .inr ⟨fun ⟨c,z1,z2⟩=>?_,start _ (q3 _ r2)⟩
        cases c with
        | nil=>simp at z2
        | cons y c =>
          rw [List.map_cons] at z2
          injection z2 with _ z3
          exact r1 ⟨c,fun y hy=>z1 y (List.mem_cons_of_mem _ hy),z3⟩
    · refine .inr ⟨fun ⟨c,z1,z2⟩=>?_,start _ q2⟩
      cases c with
      | nil=>simp at z2
      | cons y c =>
        rw [List.map_cons] at z2
        injection z2 with z3 _
        have b:=z1 y List.mem_cons_self
        exact q1 ⟨y,b.2,by rw [z3];exact Qf 44 (.inl zd) y b.1 b.2⟩
theorem pre_eq (s:List UInt8):strings_CutPrefix.f (mk s) (mk [40])=some (if [40].isPrefixOf s=true then mk (s.drop 1) else mk s,[40].isPrefixOf s):=by
  unfold strings_CutPrefix.f
  rw [Gs,Gs]
  unfold Lib.trimPrefix Lib.hasPrefix
  split <;> rfl
theorem Rl (s:List UInt8) (h:s.length≤2000000):strings_CutSuffix.f (mk s) (mk [41])=some (if [41].isSuffixOf s=true then mk (s.take (s.length-1)) else mk s,[41].isSuffixOf s):=by
  unfold strings_CutSuffix.f
  rw [if_pos (by rw [Dk];exact h),Gs,Gs]
  unfold Lib.trimSuffix Lib.hasSuffix
  split <;> rfl
theorem suf_at (y:List UInt8) (z:UInt8):[41].isSuffixOf (y++[z])=decide (z=41):=by
  unfold List.isSuffixOf
  rw [List.reverse_append]
  simp only [List.reverse_cons,List.reverse_nil,List.nil_append,List.singleton_append,List.isPrefixOf,Bool.and_true]
  by_cases h:z=41
  · simp [h]
  · simp [h];exact fun e=>h e.symm
theorem Nh (s : List UInt8) (hs : s.length ≤ 1048576) :
    (∃ c,Ge c∧s=Gn c∧Ev (fun k=>Ap.f k (mk s)) (c,true)) ∨
    (¬ IsText s∧Ev (fun k=>Ap.f k (mk s)) ([],false)):=by
  have a0:(⟨#[40]⟩:ByteArray)=mk [40]:=rfl
  have a1:(⟨#[41]⟩:ByteArray)=mk [41]:=rfl
  have c2:(⟨#[41,40]⟩:ByteArray)=mk [41,40]:=rfl
  have no:∀ x b,b=true→Ev (fun k=>Ap.j0 k [] x b) ([],false):=fun x b hb=>Ev.succ (by
    simp only [Ap.j0]
    exact Ev.pos hb (Ev.now _))
  have notext:∀ h:Prop,(∃ c,Ge c∧s=Gn c)→(∀ x,s=40::x→(∃ y,x=y++[41])→h)→h:=fun h ⟨c,hc,e⟩ k=>k _ e ⟨_,rfl⟩
  cases s with
  | nil =>
    refine .inr ⟨fun h=>notext _ h (fun x e _=>by cases e),?_⟩
    unfold Ap.f
    rw [a0,a1]
    refine Ev.bindc rfl (Ev.bindc (pre_eq []) (Ev.bindc (Rl [] (by simp)) ?_))
    exact Ev.neg zd (no _ _ rfl)
  | cons a x =>
    simp only [List.length_cons] at hs
    by_cases ha:a=40
    · subst ha
      have hpre:strings_CutPrefix.f (mk (40::x)) (mk [40])=some (mk x,true):=by rw [pre_eq];simp [List.isPrefixOf]
      have start:∀ (R:List (List Int)×Bool) (i:ByteArray) (two:Bool),strings_CutSuffix.f (mk x) (mk [41])=some (i,two)→Ev (fun k=>Ap.j0 k [] i (!two)) R→Ev (fun k=>Ap.f k (mk (40::x))) R:=by
        intro R i two h hR
        unfold Ap.f
        rw [a0,a1]
        exact Ev.bindc rfl (Ev.bindc hpre (Ev.bindc h (Ev.pos rfl hR)))
      by_cases hx:∃ y,x=y++[41]
      · obtain ⟨y,rfl⟩:=hx
        simp only [List.length_append,List.length_cons,List.length_nil] at hs
        have hsuf:strings_CutSuffix.f (mk (y++[41])) (mk [41])=some (mk y,true):=by
          rw [Rl _ (by simp;omega),suf_at];simp
        have a2:=spl2_len y
        have go:∀ R,Ev (fun k=>Ap.l0 k [] ((Jn y).map mk) (((Jn y).map mk).length:Int) ((0:Nat):Int)) R→Ev (fun k=>Ap.f k (mk (40::(y++[41])))) R:=by
          intro R hR
          refine start R _ _ hsuf (Ev.succ ?_)
          simp only [Ap.j0]
          rw [c2]
          exact Ev.neg zd (Ev.bindc (split2_eq y oz) hR)
        have pieces:∀ d,Ge d→40::(y++[41])=Gn d→Jn y=d.map grL:=by
          intro d hd e
          unfold Gn at e
          injection e with _ e
          rw [List.append_cancel_right e]
          exact N5 (Gx hd)
        rcases V4 (Jn y) oz (fun g hg=>by have:=a2.2 g hg;omega) (Jn y) 0 [] rfl (by simp) (by simp) with ⟨c,q1,q2,q3⟩|⟨q1,q2⟩
        · have h4:=go _ q3
          rw [List.nil_append] at h4
          unfold endC at h4
          by_cases hc:Ge c
          · rw [if_pos hc] at h4
            refine .inl ⟨c,hc,?_,h4⟩
            have j:=Um y
            rw [q2] at j
            unfold Gn
            rw [j]
          · rw [if_neg hc] at h4
            refine .inr ⟨fun ⟨d,hd,e⟩=>hc ?_,h4⟩
            rw [grs_inj c d q1 (Gx hd).2 (q2.symm.trans (pieces d hd e))];exact hd
        · exact .inr ⟨fun ⟨d,hd,e⟩=>q1 ⟨d,(Gx hd).2,pieces d hd e⟩,go _ q2⟩
      · refine .inr ⟨fun h=>notext _ h (fun x' e hy=>hx (by injection e with _ e;rw [e];exact hy)),?_⟩
        have hsuf:[41].isSuffixOf x=false:=by
          rcases List.eq_nil_or_concat x with e|⟨y,z,e⟩
          · rw [e];rfl
          · rw [e,List.concat_eq_append,suf_at]
            refine decide_eq_false (fun hz=>hx ⟨y,?_⟩)
            rw [e,List.concat_eq_append,hz]
        have h2:=Rl x oz
        rw [hsuf] at h2
        exact start _ _ _ h2 (no _ _ rfl)
    · refine .inr ⟨fun h=>notext _ h (fun x e _=>ha (by injection e)),?_⟩
      have hpre:∃ i,strings_CutPrefix.f (mk (a::x)) (mk [40])=some (mk i,false)∧i.length≤2000000:=by
        refine ⟨a::x,?_,by simp only [List.length_cons];omega⟩
        rw [pre_eq]
        have:[40].isPrefixOf (a::x)=false:=by simp [List.isPrefixOf];exact fun e=>ha e.symm
        rw [this];rfl
      obtain ⟨i,h1,h2⟩:=hpre
      unfold Ap.f
      rw [a0,a1]
      exact Ev.bindc rfl (Ev.bindc h1 (Ev.bindc (Rl i h2) (Ev.neg (by simp) (no _ _ rfl))))
theorem both_parse (s:List UInt8) (hs:s.length≤1048576):∃ B:List (List Int)×Bool,(B.1.length≤30∧∀ g ∈ B.1,g.length≤30)∧Ev (fun k=>D6.f k (mk s)) B∧Ev (fun k=>Ap.f k (mk s)) B:=by
  rcases Nh s hs with ⟨c,hc,e,h⟩|⟨hno,h⟩
  · rcases Ky s hs with ⟨d,hd,e',h'⟩|⟨hno',h'⟩
    · have:=Qz d c (Gx hd) (Gx hc) (e'.symm.trans e)
      subst this
      have ok:=(Ka hc).1
      exact ⟨(d,true),⟨ok.1.2,fun g hg=>(ok.2 g hg).1.2⟩,h',h⟩
    · exact absurd ⟨c,hc,e⟩ hno'
  · rcases Ky s hs with ⟨d,hd,e',h'⟩|⟨hno',h'⟩
    · exact absurd ⟨d,hd,e'⟩ hno
    · exact ⟨([],false),by simp,h',h⟩

/-! ### the text of a code -/
theorem num_all (a:Int) (h0:0≤a) (h1:a≤500):∃ D:List UInt8,D=dd a∧D.length≤3∧Ev (fun k=>C0.f k a) (mk D) :=
  ⟨dd a,rfl,K9 a.toNat oz,l1Num_ev a h0 oz⟩
abbrev gt (g:List Int):List UInt8:=[40]++(Lib.join (g.map dd) [44]++[41])
theorem tx_l1 (rows : List (List Int)) (len i : Int) (g : List Int) (hg : g.length ≤ 30) (hb : ∀ x ∈ g, 1 ≤ x ∧ x ≤ 500) (R : ByteArray) : ∀ (t : List Int) (j : Nat) (out : List UInt8), g.drop j = t → j + t.length = g.length → 0 < j → out.length + 10 * t.length ≤ 1000000 →
    Ev (fun k=>Cl.l0 k (mk (out++Lib.joinTail [44] (t.map dd)++[41])) rows len (wrap64 (i+1))) R→Ev (fun k=>Cl.l1 k (mk out) rows len i g (g.length:Int) (j:Int)) R:=by
  intro t
  have a0:(⟨#[41]⟩:ByteArray)=mk [41]:=rfl
  have a1:(⟨#[44]⟩:ByteArray)=mk [44]:=rfl
  induction t with
  | nil =>
    intro j out hd hj hp ho hR
    simp only [List.length_nil] at hj
    refine Ev.succ ?_
    simp only [Cl.l1]
    rw [a0,a1]
    refine Ev.neg oz (Ev.pos (by rw [Dk];omega) ?_)
    rw [Jt]
    have e:out++Lib.joinTail [44] (([]:List Int).map dd)++[41]=out++[41]:=by simp [Lib.joinTail]
    rw [e] at hR
    exact hR
  | cons a t ih =>
    intro j out hd hj hp ho hR
    simp only [List.length_cons] at hj ho
    have a2:j<g.length:=by omega
    have e1:=List.drop_eq_getElem_cons a2
    rw [hd] at e1
    injection e1 with e2 e3
    have hm:a ∈ g:=by rw [e2];exact List.getElem_mem _
    have ha:=hb a hm
    obtain ⟨D,eD,lD,vD⟩:=num_all a oz oz
    refine Ev.succ ?_
    simp only [Cl.l1]
    rw [a0,a1]
    refine Ev.pos oz (Ev.pos oz (Ev.pos oz (Ev.pos oz (Ev.pos (by rw [Dk];omega) ?_))))
    rw [show rd g (j:Int)=a by unfold rd;rw [Int.toNat_natCast];simp [List.getD,a2,← e2]]
    refine Ev.bind vD (Ev.pos (by simp only [Jt,Dk,List.length_append,List.length_cons,List.length_nil];omega) ?_)
    simp only [Jt]
    rw [Af (n:=(j:Int)+1) oz oz]
    refine ih (j+1) (out++[44]++D) e3.symm oz oz (by simp only [List.length_append,List.length_cons,List.length_nil];omega) (Ev.congr (fun k=>?_) hR)
    rw [List.map_cons,Jc,eD]
    simp only [List.append_assoc]
theorem tx_group (rows : List (List Int)) (len i : Int) (g : List Int) (h1 : 1 ≤ g.length) (hg : g.length ≤ 30) (hb : ∀ x ∈ g, 1 ≤ x ∧ x ≤ 500) (R : ByteArray) (out : List UInt8) (ho : out.length ≤ 900000)
    (hR:Ev (fun k=>Cl.l0 k (mk (out++Lib.join (g.map dd) [44]++[41])) rows len (wrap64 (i+1))) R):Ev (fun k=>Cl.l1 k (mk out) rows len i g (g.length:Int) 0) R:=by
  cases hgc:g with
  | nil=>rw [hgc] at h1;simp at h1
  | cons a t =>
    rw [← hgc]
    have ha:=hb a (by rw [hgc];exact List.mem_cons_self)
    obtain ⟨D,eD,lD,vD⟩:=num_all a oz oz
    have hl:g.length=t.length+1:=by rw [hgc];rfl
    refine Ev.succ ?_
    simp only [Cl.l1]
    refine Ev.pos oz (Ev.pos oz (Ev.pos oz (Ev.neg oz ?_)))
    rw [show rd g 0=a by rw [hgc];rfl]
    refine Ev.bind vD (Ev.pos (by rw [Dk,Dk];omega) ?_)
    rw [Jt,show wrap64 ((0:Int)+1)=((0+1:Nat):Int) by rw [Af oz oz];rfl]
    refine tx_l1 rows len i g hg hb R t 1 (out++D) (by rw [hgc];rfl) oz oz (by simp only [List.length_append];omega) (Ev.congr (fun k=>?_) hR)
    rw [hgc,List.map_cons,Lib.join_cons,eD]
    simp only [List.append_assoc]
theorem join_dd (g:List Int) (hg:g.length≤30) (hb:∀ x ∈ g,1≤x∧x≤500):(Lib.join (g.map dd) [44]).length≤120:=by
  have h:=Ul (g.map dd) [44] 3 (fun x hx=>by
    obtain ⟨a,ha,rfl⟩:=List.mem_map.1 hx
    have:=hb a ha
    exact K9 a.toNat oz)
  have h2:(g.map dd).length*(3+[(44:UInt8)].length)≤30*4:=by
    rw [List.length_map]
    exact Nat.mul_le_mul hg (by simp)
  omega
theorem tx_l0 {l : List (List Int)} (hl : l.length ≤ 30) (hb : ∀ g ∈ l, (1 ≤ g.length ∧ g.length ≤ 30) ∧ ∀ x ∈ g, 1 ≤ x ∧ x ≤ 500) : ∀ (d i : Nat) (out : List UInt8), l.length - i = d → i ≤ l.length → out.length + 1000 * d ≤ 100000 →
    Ev (fun k=>Cl.l0 k (mk out) l (l.length:Int) (i:Int)) (mk (out++((l.drop i).map gt).flatten)):=by
  have a1:(⟨#[40]⟩:ByteArray)=mk [40]:=rfl
  intro d
  induction d with
  | zero =>
    intro i out hd hi ho
    refine Ev.succ ?_
    simp only [Cl.l0]
    refine Ev.neg oz (Ev.eqr (Ev.now _) ?_)
    rw [List.drop_eq_nil_of_le oz]
    simp
  | succ d ih =>
    intro i out hd hi ho
    have a0:i<l.length:=by omega
    have hm:=hb l[i] (List.getElem_mem a0)
    have hj:=join_dd l[i] hm.1.2 hm.2
    refine Ev.succ ?_
    simp only [Cl.l0]
    rw [Iu,show l.getD i []=l[i] by simp [List.getD,a0],a1]
    refine Ev.pos oz (Ev.pos oz (Ev.pos oz (Ev.pos (by rw [Dk];omega) ?_)))
    rw [Jt]
    refine tx_group l (l.length:Int) (i:Int) l[i] hm.1.1 hm.1.2 hm.2 _ (out++[40]) (by simp only [List.length_append,List.length_cons,List.length_nil];omega) ?_
    rw [Af (n:=(i:Int)+1) oz oz]
    have h:=ih (i+1) (out++[40]++Lib.join (l[i].map dd) [44]++[41]) oz oz (by
      simp only [List.length_append,List.length_cons,List.length_nil]
      omega)
    refine Ev.eqr h ?_
    rw [List.drop_eq_getElem_cons a0,List.map_cons,List.flatten_cons]
    congr 1
    simp only [List.append_assoc]
theorem N6 {l : List (List Int)} (hl : l.length ≤ 30) (hb : ∀ g ∈ l, (1 ≤ g.length ∧ g.length ≤ 30) ∧ ∀ x ∈ g, 1 ≤ x ∧ x ≤ 500) : ∀ (d i : Nat) (out : List UInt8), l.length - i = d → i ≤ l.length → out.length + 1000 * d ≤ 100000 →
    Ev (fun k=>Da.l0 k (mk out) l (l.length:Int) (i:Int)) (mk (out++((l.drop i).map gt).flatten)):=by
  have a1:(⟨#[40]⟩:ByteArray)=mk [40]:=rfl
  have a2:(⟨#[41]⟩:ByteArray)=mk [41]:=rfl
  have a3:(⟨#[44]⟩:ByteArray)=mk [44]:=rfl
  intro d
  induction d with
  | zero =>
    intro i out hd hi ho
    refine Ev.succ ?_
    simp only [Da.l0]
    refine Ev.neg oz (Ev.eqr (Ev.now _) ?_)
    rw [List.drop_eq_nil_of_le oz]
    simp
  | succ d ih =>
    intro i out hd hi ho
    have a0:i<l.length:=by omega
    have hm:=hb l[i] (List.getElem_mem a0)
    have hj:=join_dd l[i] hm.1.2 hm.2
    refine Ev.succ ?_
    simp only [Da.l0]
    rw [Iu,show l.getD i []=l[i] by simp [List.getD,a0],a1,a2,a3]
    have hlt:=Vy [44] (by simp) l[i] oz (fun a ha=>by have:=hm.2 a ha;omega)
    refine Ev.pos oz (Ev.pos oz (Ev.pos oz (Ev.bind hlt (Ev.pos (by simp only [Jt,Dk,List.length_append,List.length_cons,List.length_nil];omega) (Ev.pos (by simp only [Jt,Dk,List.length_append,List.length_cons,List.length_nil];omega) (Ev.pos (by simp only [Jt,Dk,List.length_append,List.length_cons,List.length_nil];omega) ?_))))))
    simp only [Jt]
    rw [Af (n:=(i:Int)+1) oz oz]
    have h:=ih (i+1) (out++([40]++Lib.join (l[i].map dd) [44]++[41])) oz oz (by
      simp only [List.length_append,List.length_cons,List.length_nil]
      omega)
    refine Ev.eqr h ?_
    rw [List.drop_eq_getElem_cons a0,List.map_cons,List.flatten_cons]
    congr 1
    simp only [List.append_assoc]
theorem both_CodeText (l:List (List Int)):∃ R:ByteArray×Bool,Ev (fun k=>D5.f k l) R∧Ev (fun k=>C6.f k l) R:=by
  have s1:=Dp l
  have s2:Ev (fun k=>Cq.f k l) (Ai l).2.2.2:=by
    unfold Cq.f
    exact Ev.bind (C3 l) (Ev.now _)
  have c0:(⟨#[]⟩:ByteArray)=mk []:=rfl
  by_cases h:(Ai l).2.2.2=true
  · have hok:=(Ka h).1
    have hl:l.length≤30:=by have:=hok.1;omega
    refine ⟨(mk ([]++((l.drop 0).map gt).flatten),true),?_,?_⟩
    · unfold D5.f
      refine Ev.bind s1 (Ev.pos h (Ev.bind (a:=mk ([]++((l.drop 0).map gt).flatten)) ?_ (Ev.now _)))
      unfold Cl.f
      rw [c0]
      exact tx_l0 hl hok.2 l.length 0 [] oz (Nat.zero_le _) (by simp only [List.length_nil];omega)
    · unfold C6.f
      refine Ev.bind s2 (Ev.pos h (Ev.bind (a:=mk ([]++((l.drop 0).map gt).flatten)) ?_ (Ev.now _)))
      unfold Da.f
      rw [c0]
      exact N6 hl hok.2 l.length 0 [] oz (Nat.zero_le _) (by simp only [List.length_nil];omega)
  · refine ⟨((⟨#[]⟩:ByteArray),false),?_,?_⟩
    · unfold D5.f
      exact Ev.bind s1 (Ev.neg h (Ev.now _))
    · unfold C6.f
      exact Ev.bind s2 (Ev.neg h (Ev.now _))

/-! ### a cut is filled again out of its sides -/
/-- the columns' heights are what the squares cover -/
structure Cov (W:Int) (F:List Int) (p:List Sq):Prop where
  len:(F.length:Int)=W
  pos:∀ c:Nat,(c:Int)<W→0≤F.getD c 0
  cov:∀ c:Nat,(c:Int)<W→∀ y:Int,0≤y→(y<F.getD c 0↔∃ s ∈ p,Gt s (c:Int) y)
theorem in_one {W H:Int} {l:List Sq} (hg:Cv W H l) {a b:Sq} (ha:a ∈ l) (hb:b ∈ l) {x y:Int} (h1:Gt a x y) (h2:Gt b x y):a=b:=K6 hg ha hb (in_ovl h1 h2)
theorem Ju {W H:Int} {l:List Sq} (hg:Cv W H l) {i j:Nat} (hij:i<j) (hj:j<l.length):D2 (Ah l i) (Ah l j):=by
  induction j with
  | zero=>omega
  | succ j ih =>
    have h1:=(hg.2.2.2.1 (j+1) hj).2.1 oz
    rw [Nat.add_sub_cancel] at h1
    by_cases e:i=j
    · subst e;exact h1
    · have h2:=ih oz oz
      unfold D2 at *;omega
theorem Kf (l:List Sq) (i:Nat) (s:Sq):s ∈ l.take i↔∃ j,j<i∧j<l.length∧s=Ah l j:=by
  rw [List.mem_take_iff_getElem]
  constructor
  · rintro ⟨j,hj,e⟩
    exact ⟨j,by omega,by omega,by rw [Cm l j oz];exact e.symm⟩
  · rintro ⟨j,h1,h2,e⟩
    exact ⟨j,by omega,by rw [e,Cm l j h2]⟩
theorem back_step {W H : Int} {l : List Sq} (hg : Cv W H l) (i : Nat) (hi : i < l.length) (F : List Int) (h : Cov W F (l.take i)) :
    ((Ce F:Int)=(Ah l i).f0∧F.getD (Ce F) 0=(Ah l i).f1)∧Js F (Ah l i).f2∧Cov W (Jm F (Ce F) (F.getD (Ce F) 0+(Ah l i).f2) (Ah l i).f2.toNat) (l.take (i+1)):=by
  have hW:=hg.1
  have hH:=hg.2.1
  have hI:=(hg.2.2.2.1 i hi).1
  have hsm:=Iw l i hi
  have hlen:=h.len
  obtain ⟨m1,m2,m3⟩:=I3 F F.length oz
  change Ce F<F.length at m1
  change ∀ c,c<F.length→F.getD (Ce F) 0≤F.getD c 0 at m2
  change ∀ c,c<Ce F→F.getD (Ce F) 0<F.getD c 0 at m3
  -- a cell of a placed square belongs to no later one
  have later:∀ j,i≤j→j<l.length→∀ x y:Int,Gt (Ah l j) x y→¬ ∃ s ∈ l.take i,Gt s x y:=by
    rintro j hij hj x y hin ⟨s,hs,a0⟩
    obtain ⟨q,q1,q2,rfl⟩:=(Kf l i s).1 hs
    exact (hg.2.2.2.1 j hj).2.2 q oz (in_ovl hin a0)
  have colI:∀ x:Int,0≤x→((x.toNat:Nat):Int)=x:=fun x hx=>Int.toNat_of_nonneg hx
  have key:(Ce F:Int)=(Ah l i).f0∧F.getD (Ce F) 0=(Ah l i).f1:=by
    have hI':=hI
    unfold Ins at hI'
    have c0:F.getD (Ah l i).f0.toNat 0≤(Ah l i).f1:=by
      rcases Int.lt_or_le (Ah l i).f1 (F.getD (Ah l i).f0.toNat 0) with q|q
      · exfalso
        have:=(h.cov (Ah l i).f0.toNat oz (Ah l i).f1 oz).1 q
        rw [colI _ oz] at this
        exact later i (Nat.le_refl _) hi _ _ (by unfold Gt;omega) this
      · exact q
    have c1:=m2 (Ah l i).f0.toNat oz
    have p0:=h.pos (Ce F) oz
    obtain ⟨j,hj,hin⟩:=Qe hg (Ce F:Int) (F.getD (Ce F) 0) oz oz
    have hij:i≤j:=by
      rcases Nat.lt_or_ge j i with q|q
      · exfalso
        have:=(h.cov (Ce F) oz (F.getD (Ce F) 0) p0).2 ⟨_,(Kf l i _).2 ⟨j,q,hj,rfl⟩,hin⟩
        omega
      · exact q
    have hJ:=(hg.2.2.2.1 j hj).1
    unfold Ins at hJ
    have hin':=hin
    unfold Gt at hin'
    have y1:(Ah l j).f1=F.getD (Ce F) 0:=by
      rcases Int.lt_or_le (Ah l j).f1 (F.getD (Ce F) 0) with q|q
      · exact absurd ((h.cov (Ce F) oz (Ah l j).f1 oz).1 q) (later j hij hj _ _ (by unfold Gt;omega))
      · omega
    have x1:(Ah l j).f0=(Ce F:Int):=by
      rcases Int.lt_or_le (Ah l j).f0 (Ce F:Int) with q|q
      · exfalso
        have:=m3 (Ah l j).f0.toNat oz
        have:=(h.cov (Ah l j).f0.toNat oz (F.getD (Ce F) 0) p0).1 this
        rw [colI _ oz] at this
        exact later j hij hj _ _ (by unfold Gt;omega) this
      · omega
    by_cases e:i=j
    · subst e;exact ⟨x1.symm,y1.symm⟩
    · have hl:=Ju hg (show i<j by omega) hj
      unfold D2 at hl
      have y2:(Ah l i).f1=F.getD (Ce F) 0:=by omega
      have x2:¬ ((Ah l i).f0<(Ce F:Int)):=fun q=>by
        have:=m3 (Ah l i).f0.toNat oz
        omega
      omega
  obtain ⟨k1,k2⟩:=key
  unfold Ins at hI
  have fok:Js F (Ah l i).f2:=by
    refine ⟨by omega,fun c a1 a2=>?_⟩
    have:=m2 c oz
    rcases Int.lt_or_le (F.getD (Ce F) 0) (F.getD c 0) with q|q
    · exact absurd ((h.cov c oz (F.getD (Ce F) 0) oz).1 q) (later i (Nat.le_refl _) hi _ _ (by unfold Gt;omega))
    · omega
  refine ⟨⟨k1,k2⟩,fok,?_⟩
  have hd:(((Ah l i).f2.toNat:Nat):Int)=(Ah l i).f2:=colI _ oz
  have hset:=Mt F (Ce F) (F.getD (Ce F) 0+(Ah l i).f2) (Ah l i).f2.toNat oz
  refine ⟨by rw [Jx];exact h.len,fun c hc=>?_,fun c hc y hy=>?_⟩
  · rw [hset c]
    split
    · omega
    · exact h.pos c hc
  · have tk : ∀ s : Sq, s ∈ l.take (i + 1) ↔ s ∈ l.take i ∨ s = Ah l i := fun s => by
      rw [Kf,Kf]
      constructor
      · rintro ⟨j,q1,q2,q3⟩
        by_cases e:j=i
        · subst e;exact Or.inr q3
        · exact Or.inl ⟨j,by omega,q2,q3⟩
      · rintro (⟨j,q1,q2,q3⟩|q)
        · exact ⟨j,by omega,q2,q3⟩
        · exact ⟨i,by omega,hi,q⟩
    have old:=h.cov c hc y hy
    rw [hset c]
    by_cases hcc:Ce F≤c∧c<Ce F+(Ah l i).f2.toNat
    · rw [if_pos hcc]
      have hb:=fok.2 c hcc.1 oz
      constructor
      · intro hlt
        by_cases q:y<F.getD c 0
        · obtain ⟨s,hs,a0⟩:=old.1 q
          exact ⟨s,(tk s).2 (Or.inl hs),a0⟩
        · exact ⟨Ah l i,(tk _).2 (Or.inr rfl),by unfold Gt;omega⟩
      · rintro ⟨s,hs,a0⟩
        rcases (tk s).1 hs with q|q
        · have:=old.2 ⟨s,q,a0⟩;omega
        · subst q;unfold Gt at a0;omega
    · rw [if_neg hcc]
      constructor
      · intro hlt
        obtain ⟨s,hs,a0⟩:=old.1 hlt
        exact ⟨s,(tk s).2 (Or.inl hs),a0⟩
      · rintro ⟨s,hs,a0⟩
        rcases (tk s).1 hs with q|q
        · exact old.2 ⟨s,q,a0⟩
        · subst q;unfold Gt at a0;omega
theorem Vj {W H:Int} {l:List Sq} (hg:Cv W H l):∀ (t:List Sq) (i:Nat) (F:List Int),l.drop i=t→i+t.length=l.length→Cov W F (l.take i)→∃ F',Cov W F' l∧G5 (t.map fun s=>s.f2) F (l.take i)=some (F',l)
  | [],i,F,hd,hl,h=>by
    have e:l.take i=l:=List.take_of_length_le (by simp at hl;omega)
    rw [e] at h ⊢
    exact ⟨F,h,rfl⟩
  | s::t,i,F,hd,hl,h=>by
    obtain ⟨hi,es,ht⟩:=I2 l i s t hd
    obtain ⟨⟨k1,k2⟩,hok,hc⟩:=back_step hg i hi F h
    rw [es] at k1 k2 hok hc
    have e:l.take i++[⟨(Ce F:Int),F.getD (Ce F) 0,s.f2⟩]=l.take (i+1):=by
      rw [List.take_succ_eq_append_getElem hi,← Cm l i hi,es,k1,k2]
    obtain ⟨F',h1,h2⟩:=Vj hg t (i+1) _ ht (by simp at hl;omega) hc
    refine ⟨F',h1,?_⟩
    rw [List.map_cons,G5,if_pos hok,e]
    exact h2
theorem cov_start {W:Int} (hW:0≤W):Cov W (List.replicate W.toNat 0) []:=by
  have h0:∀ c:Nat,(c:Int)<W→(List.replicate W.toNat (0:Int)).getD c 0=0:=fun c hc=>by
    rw [List.getD_eq_getElem?_getD,List.getElem?_eq_getElem (by simp;omega)];simp
  refine ⟨by simp;omega,fun c hc=>by rw [h0 c hc];omega,fun c hc y hy=>?_⟩
  rw [h0 c hc]
  exact ⟨fun h=>by omega,fun ⟨s,hs,_⟩=>by cases hs⟩
theorem cov_end {W H:Int} {l:List Sq} (hg:Cv W H l) {F:List Int} (h:Cov W F l) (c:Nat) (hc:(c:Int)<W):F.getD c 0=H:=by
  have hH:=hg.2.1
  have h1:F.getD c 0≤H:=by
    rcases Int.lt_or_le H (F.getD c 0) with q|q
    · obtain ⟨s,hs,a0⟩:=(h.cov c hc H oz).1 q
      have:=Dm hg hs
      unfold Ins at this;unfold Gt at a0;omega
    · exact q
  obtain ⟨j,hj,hin⟩:=Qe hg (c:Int) (H-1) oz oz
  have:=(h.cov c hc (H-1) oz).2 ⟨_,Iw l j hj,hin⟩
  omega
theorem Vk {W H:Int} {l:List Sq} (hg:Cv W H l):J9 W (l.map fun s=>s.f2):=by
  have hW:=hg.1
  have hH:=hg.2.1
  have hl:=hg.2.2.1
  refine ⟨hW,by rw [List.length_map];exact hl,fun s hs=>?_⟩
  obtain ⟨q,hq,rfl⟩:=List.mem_map.1 hs
  have:=Dm hg hq
  unfold Ins at this
  omega
/-- the squares' sides tell the cut again -/
theorem fill_back {W H:Int} {l:List Sq} (hg:Cv W H l):Eu W (l.map fun s=>s.f2)=(W,H,l,true):=by
  have hW:=hg.1
  obtain ⟨F,h1,h2⟩:=Vj hg l 0 (List.replicate W.toNat 0) rfl oz (by rw [List.take_zero];exact cov_start oz)
  rw [List.take_zero] at h2
  have e0:=cov_end hg h1 0 oz
  unfold Eu
  rw [if_pos (Vk hg),h2]
  unfold Im
  dsimp only
  rw [e0,if_pos hg]
theorem Vl (L:List (List Int)) (v:Int) (h:0<L.length):(L.set (L.length-1) (L.getD (L.length-1) []++[v])).flatten=L.flatten++[v]:=by
  obtain ⟨a,b,rfl⟩:∃ a b,L=a++[b]:=⟨L.dropLast,L.getLast (by intro e;subst e;simp at h),(List.dropLast_concat_getLast (by intro e;subst e;simp at h)).symm⟩
  simp [List.getD]
theorem Ko (l:List Sq):∀ n,n≤l.length→(Bw l n).flatten=(l.take n).map fun s=>s.f2
  | 0,_=>rfl
  | n+1,hn=>by
    have ih:=Ko l n oz
    have e:(l.take (n+1)).map (fun s=>s.f2)=((l.take n).map fun s=>s.f2)++[(Ah l n).f2]:=by
      rw [List.take_succ_eq_append_getElem oz,List.map_append,Cm l n oz];rfl
    simp only [Bw]
    split
    · rename_i hj
      rw [Vl _ _ ((Ie l n).2 hj.1),ih,e]
    · rw [List.flatten_append,ih,e];simp

/-! ### a cut's code tells the cut again -/
theorem first_sq {W H:Int} {l:List Sq} (hg:Cv W H l):(Ah l 0).f0=0∧(Ah l 0).f1=0:=by
  obtain ⟨j,hj,hin⟩:=Qe hg 0 0 (by have:=hg.1;omega) (by have:=hg.2.1;omega)
  have hJ:=(hg.2.2.2.1 j hj).1
  have h0:=(hg.2.2.2.1 0 oz).1
  by_cases e:j=0
  · subst e;unfold Gt at hin;unfold Ins at hJ;omega
  · have:=Ju hg (show 0<j by omega) hj
    unfold D2 at this;unfold Gt at hin;unfold Ins at hJ h0;omega
theorem Un {L:List (List Int)} {i j:Nat} {v:List Int} (h:i<L.length):(L.set i v).getD j []=if j=i then v else L.getD j []:=by
  rw [List.getD_eq_getElem?_getD,List.getElem?_set]
  by_cases e:i=j
  · subst e;rw [if_pos rfl,if_pos h,if_pos rfl];rfl
  · rw [if_neg e,if_neg (fun h=>e h.symm),List.getD_eq_getElem?_getD]
theorem V5 (l:List Sq):∀ n,1≤n→n≤l.length→∃ m,1≤m∧m≤n∧(Bw l n).getD 0 []=((l.take m).map fun s=>s.f2)∧(∀ i,1≤i→i<m→In l i)∧(m<n→¬ In l m)∧(m=n↔(Bw l n).length=1):=by
  intro n
  induction n with
  | zero=>intro h;omega
  | succ n ih =>
    intro _ hn
    by_cases h0:n=0
    · subst h0
      have hj:¬ In l 0:=fun h=>by unfold In at h;omega
      refine ⟨1,by omega,by omega,?_,fun i _ _=>by omega,fun _=>by omega,?_⟩
      · simp only [Bw];rw [if_neg hj,List.take_succ_eq_append_getElem oz,Cm l 0 oz];rfl
      · simp only [Bw];rw [if_neg hj];simp
    · obtain ⟨m,m1,m2,m3,m4,m5,m6⟩:=ih oz oz
      obtain ⟨L1,L2⟩:=Ie l n
      have L3:=L2 oz
      simp only [Bw]
      by_cases hj:In l n
      · rw [if_pos hj,List.length_set]
        by_cases e:m=n
        · have e1:=m6.1 e
          subst e
          refine ⟨m+1,by omega,by omega,?_,fun i h1 h2=>?_,fun h=>by omega,by rw [e1];simp⟩
          · rw [e1,Un oz,if_pos rfl,m3,List.take_succ_eq_append_getElem oz,List.map_append,Cm l m oz];rfl
          · by_cases e2:i=m
            · subst e2;exact hj
            · exact m4 i h1 oz
        · have e1:(Bw l n).length≠1:=fun h=>e (m6.2 h)
          refine ⟨m,m1,by omega,?_,m4,fun h=>?_,⟨fun h=>by omega,fun h=>absurd h e1⟩⟩
          · rw [Un oz,if_neg oz];exact m3
          · exact m5 oz
      · rw [if_neg hj]
        refine ⟨m,m1,by omega,?_,m4,fun h=>?_,⟨fun h=>by omega,fun h=>by rw [List.length_append,List.length_singleton] at h;omega⟩⟩
        · rw [List.getD_eq_getElem?_getD,List.getElem?_append_left L3,← List.getD_eq_getElem?_getD];exact m3
        · by_cases e:m=n
          · subst e;exact hj
          · exact m5 oz
theorem row_sum {W H:Int} {l:List Sq} (hg:Cv W H l):∀ m,1≤m→m≤l.length→(∀ i,1≤i→i<m→In l i)→((l.take m).map fun s=>s.f2).sum=(Ah l (m-1)).f0+(Ah l (m-1)).f2∧(Ah l (m-1)).f1=0:=by
  intro m
  induction m with
  | zero=>intro h;omega
  | succ m ih =>
    intro _ hm hj
    have e:(l.take (m+1)).map (fun s=>s.f2)=((l.take m).map fun s=>s.f2)++[(Ah l m).f2]:=by
      rw [List.take_succ_eq_append_getElem oz,List.map_append,Cm l m oz];rfl
    rw [e,List.sum_append,Nat.add_sub_cancel]
    obtain ⟨f0,f1⟩:=first_sq hg
    by_cases h0:m=0
    · subst h0;simp;omega
    · obtain ⟨i1,i2⟩:=ih oz oz (fun i h1 h2=>hj i h1 oz)
      have:=hj m oz oz
      unfold In at this
      rw [i1]
      simp
      omega
theorem row_all {W H:Int} {l:List Sq} (hg:Cv W H l):((Bw l l.length).getD 0 []).sum=W:=by
  have hl:=hg.2.2.1
  obtain ⟨m,m1,m2,m3,m4,m5,_⟩:=V5 l l.length oz (Nat.le_refl _)
  obtain ⟨s1,s2⟩:=row_sum hg m m1 m2 m4
  rw [m3,s1]
  have hI:=(hg.2.2.2.1 (m-1) oz).1
  rcases Int.lt_or_le ((Ah l (m-1)).f0+(Ah l (m-1)).f2) W with q|q
  · exfalso
    have hI':=hI
    unfold Ins at hI'
    obtain ⟨j,hj,hin⟩:=Qe hg ((Ah l (m-1)).f0+(Ah l (m-1)).f2) 0 oz oz
    have hJ:=(hg.2.2.2.1 j hj).1
    have jne:j≠m-1:=fun e=>by subst e;unfold Gt at hin;omega
    have hno:¬ Ovl (Ah l j) (Ah l (m-1)):=fun ho=>by
      rcases Nat.lt_trichotomy j (m-1) with k|k|k
      · exact (hg.2.2.2.1 (m-1) oz).2.2 j k (K5 ho)
      · exact jne k
      · exact (hg.2.2.2.1 j hj).2.2 (m-1) k ho
    have jx:(Ah l j).f0=(Ah l (m-1)).f0+(Ah l (m-1)).f2∧(Ah l j).f1=0:=by
      unfold Gt at hin;unfold Ins at hJ;unfold Ovl at hno;omega
    have jm:m≤j:=by
      rcases Nat.lt_or_ge j m with k|k
      · have:=Ju hg (show j<m-1 by omega) oz
        unfold D2 at this;omega
      · exact k
    have hM:=(hg.2.2.2.1 m oz).1
    have h1:=Ju hg (show m-1<m by omega) oz
    have hmo:=(hg.2.2.2.1 m oz).2.2 (m-1) oz
    have h2:m=j∨D2 (Ah l m) (Ah l j):=by
      by_cases e:m=j
      · exact Or.inl e
      · exact Or.inr (Ju hg oz hj)
    refine m5 oz ⟨by omega,?_,?_⟩
    · rcases h2 with e|e
      · rw [show Ah l m=Ah l j by rw [e]];omega
      · unfold D2 at e;unfold Ins at hM;omega
    · rcases h2 with e|e
      · rw [show Ah l m=Ah l j by rw [e]];omega
      · unfold D2 at e h1;unfold Ins at hM;unfold Ovl at hmo;omega
  · unfold Ins at hI;omega
theorem good_cok {W H:Int} {l:List Sq} (hg:Cv W H l):Ih 1 (Bw l l.length):=by
  have hl:=hg.2.2.1
  obtain ⟨c1,c2⟩:=Ie l l.length
  refine ⟨by have:=c2 oz;omega,fun g h=>?_⟩
  have:=Gv l l.length g h
  refine ⟨by omega,fun x hx=>?_⟩
  have hm:x ∈ (Bw l l.length).flatten:=List.mem_flatten.2 ⟨g,h,hx⟩
  rw [Ko l l.length (Nat.le_refl _),List.take_length] at hm
  exact (Vk hg).2.2 x hm
/-- the code of a cut is a code, of that cut -/
theorem Kp {W H:Int} {l:List Sq} (hg:Cv W H l):Ai (Bw l l.length)=(W,H,l,true):=by
  unfold Ai
  rw [if_pos (good_cok hg),row_all hg,Ko l l.length (Nat.le_refl _),List.take_length,fill_back hg]
  unfold I8
  rw [if_pos ⟨rfl,rfl⟩]

/-! ### a filled cut has the sides that it was filled with -/
theorem Qp:∀ (t F:List Int) (l:List Sq) (F':List Int) (l':List Sq),G5 t F l=some (F',l')→(l'.map fun s=>s.f2)=(l.map fun s=>s.f2)++t
  | [],F,l,F',l',h=>by
    rw [G5] at h
    obtain ⟨rfl,rfl⟩:=Prod.mk.inj (Option.some.inj h)
    simp
  | s::t,F,l,F',l',h=>by
    rw [G5] at h
    split at h
    · have:=Qp t _ _ F' l' h
      rw [this];simp
    · cases h
theorem V6 {W:Int} {T:List Int} (h:(Eu W T).2.2.2=true):(Eu W T).1=W∧((Eu W T).2.2.1.map fun s=>s.f2)=T:=by
  unfold Eu Im at *
  split at h
  · rename_i ho
    rw [if_pos ho]
    have hs:=Qp T (List.replicate W.toNat 0) []
    generalize G5 T (List.replicate W.toNat 0) []=R at h hs ⊢
    cases R with
    | none=>cases h
    | some p =>
      obtain ⟨F,l⟩:=p
      dsimp only at h ⊢
      split at h
      · rename_i hg
        rw [if_pos hg]
        exact ⟨rfl,by have:=hs F l rfl;simpa using this⟩
      · cases h
  · cases h

/-! ### codes that are compared -/
theorem I4 {c:List (List Int)} (h:(Ai c).2.2.2=true):Ih 1 c:=by
  unfold Ai at h
  split at h
  · assumption
  · cases h
def Eg:List Int→List Int→Int
  | [],[]=>0
  | [],_::_ => -1
  | _::_,[]=>1
  | a::x,b::y=>if a<b then -1 else if a>b then 1 else Eg x y
theorem N7:∀ x y,Eg x y = -1∨Eg x y=0∨Eg x y=1
  | [],[]=>by simp [Eg]
  | [],_::_=>by simp [Eg]
  | _::_,[]=>by simp [Eg]
  | a::x,b::y=>by
    have:=N7 x y
    simp only [Eg]
    split
    · simp
    · split
      · simp
      · exact this
theorem N8:∀ x y,Eg y x = - Eg x y
  | [],[]=>rfl
  | [],_::_=>rfl
  | _::_,[]=>rfl
  | a::x,b::y=>by
    have:=N8 x y
    simp only [Eg]
    by_cases h1:a<b
    · rw [if_neg oz,if_pos oz,if_pos h1];rfl
    · by_cases h2:a>b
      · rw [if_pos oz,if_neg h1,if_pos h2]
      · rw [if_neg oz,if_neg oz,if_neg h1,if_neg h2];exact this
theorem cmpI_eq (a b:Int):Eb.f a b=some (if a<b then -1 else if a>b then 1 else 0):=by
  unfold Eb.f C7.f
  simp only [Option.bind_some,bne_self_eq_false]
  rw [if_neg zd,if_neg zd]
  split
  · rfl
  · split <;> rfl
theorem cmpL_loop (x y:List Int) (hx:x.length≤100000) (hy:y.length≤100000):∀ (t:List Int) (i:Nat),x.drop i=t→i+t.length=x.length→i≤y.length→Ev (fun k=>Cc.l0 k x y x (x.length:Int) (i:Int)) (Eg t (y.drop i)):=by
  intro t
  induction t with
  | nil =>
    intro i hd hi hiy
    simp only [List.length_nil] at hi
    refine Ev.succ ?_
    simp only [Cc.l0]
    refine Ev.neg oz ?_
    by_cases c:(x.length:Int)<(y.length:Int)
    · refine Ev.pos c (Ev.eqr (Ev.now _) ?_)
      rw [List.drop_eq_getElem_cons (show i<y.length by omega)];rfl
    · refine Ev.neg c (Ev.eqr (Ev.now _) ?_)
      rw [List.drop_eq_nil_of_le oz];rfl
  | cons a t ih =>
    intro i hd hi hiy
    obtain ⟨h2,h3,h4,h5⟩:=Gw x i a t hd 0
    simp only [List.length_cons] at hi
    refine Ev.succ ?_
    simp only [Cc.l0,Nd,h3]
    refine Ev.pos oz (Ev.pos oz (Ev.pos oz ?_))
    by_cases c:(i:Int)≥(y.length:Int)
    · refine Ev.pos c (Ev.eqr (Ev.now _) ?_)
      rw [List.drop_eq_nil_of_le oz];rfl
    · have hyi:i<y.length:=by omega
      have hyd:y.getD i 0=y[i]:=by rw [List.getD_eq_getElem?_getD,List.getElem?_eq_getElem hyi];rfl
      refine Ev.neg c (Ev.pos oz (Ev.bindc (cmpI_eq _ _) ?_))
      rw [List.drop_eq_getElem_cons hyi,hyd]
      have hn:=ih (i+1) h4 oz oz
      simp only [Eg]
      by_cases h6:a<y[i]
      · rw [if_pos h6,if_pos h6]
        exact Ev.neg zd (Ev.now _)
      · by_cases h7:a>y[i]
        · rw [if_neg h6,if_pos h7,if_neg h6,if_pos h7]
          exact Ev.neg zd (Ev.now _)
        · rw [if_neg h6,if_neg h7,if_neg h6,if_neg h7,Af (n:=(i:Int)+1) oz oz]
          exact Ev.pos rfl hn
theorem cmpL_ev (x y:List Int) (hx:x.length≤100000) (hy:y.length≤100000):Ev (fun k=>Cc.f k x y) (Eg x y):=by
  unfold Cc.f
  exact cmpL_loop x y hx hy x 0 rfl oz oz
theorem bef_loop (x y:List Int) (hx:x.length≤100000) (hy:y.length≤100000):∀ (t:List Int) (i:Nat),x.drop i=t→i+t.length=x.length→i≤y.length→Ev (fun k=>Ca.l0 k x y (i:Int)) (decide (Eg t (y.drop i) = -1)):=by
  intro t
  induction t with
  | nil =>
    intro i hd hi hiy
    simp only [List.length_nil] at hi
    refine Ev.succ ?_
    simp only [Ca.l0]
    refine Ev.neg oz (Ev.succ ?_)
    simp only [Ca.j1]
    refine Ev.neg zd (Ev.eqr (Ev.now _) ?_)
    by_cases c:(x.length:Int)<(y.length:Int)
    · rw [decide_eq_true c,List.drop_eq_getElem_cons (show i<y.length by omega)];rfl
    · rw [decide_eq_false c,List.drop_eq_nil_of_le oz];rfl
  | cons a t ih =>
    intro i hd hi hiy
    obtain ⟨h2,h3,h4,h5⟩:=Gw x i a t hd 0
    simp only [List.length_cons] at hi
    refine Ev.succ ?_
    simp only [Ca.l0]
    refine Ev.pos oz (Ev.succ ?_)
    simp only [Ca.j1,Nd,h3]
    by_cases c:(i:Int)<(y.length:Int)
    · have hyi:i<y.length:=by omega
      have hyd:y.getD i 0=y[i]:=by rw [List.getD_eq_getElem?_getD,List.getElem?_eq_getElem hyi];rfl
      refine Ev.pos (decide_eq_true c) (Ev.pos oz (Ev.pos oz (Ev.pos c ?_)))
      rw [List.drop_eq_getElem_cons hyi,hyd]
      have hn:=ih (i+1) h4 oz oz
      by_cases h6:a=y[i]
      · refine Ev.pos h6 ?_
        have e:Eg (a::t) (y[i]::y.drop (i+1))=Eg t (y.drop (i+1)):=by rw [Eg,if_neg oz,if_neg oz]
        rw [e,Af (n:=(i:Int)+1) oz oz]
        exact hn
      · refine Ev.neg h6 (Ev.eqr (Ev.now _) ?_)
        by_cases h7:a<y[i]
        · have e:Eg (a::t) (y[i]::y.drop (i+1)) = -1:=by rw [Eg,if_pos h7]
          rw [e,decide_eq_true h7];rfl
        · have e:Eg (a::t) (y[i]::y.drop (i+1))=1:=by rw [Eg,if_neg h7,if_pos oz]
          rw [e,decide_eq_false h7];rfl
    · refine Ev.neg (by simpa using c) (Ev.eqr (Ev.now _) ?_)
      rw [List.drop_eq_nil_of_le oz,decide_eq_false oz];rfl
theorem bef_ev (x y:List Int) (hx:x.length≤100000) (hy:y.length≤100000):Ev (fun k=>Ca.f k x y) (decide (Eg x y = -1)):=by
  unfold Ca.f
  exact bef_loop x y hx hy x 0 rfl oz oz
def sgI (a b:Int):Int:=if a<b then -1 else if a>b then 1 else 0
def Jd (c:Int) (d:Int):Int:=if c=0 then d else c
theorem or_ev (c d:Int):Ev (fun k=>Dz.f k [c,d]) (Jd c d):=by
  unfold Dz.f Jd
  refine Ev.succ ?_
  simp only [Dz.l0]
  have e0:rd [c,d] 0=c:=rfl
  have e1:rd [c,d] 1=d:=rfl
  rw [e0]
  refine Ev.pos (by simp) (Ev.pos oz (Ev.pos (by simp) ?_))
  by_cases h:c=0
  · rw [if_pos h]
    refine Ev.pos h (Ev.succ ?_)
    simp only [Dz.l0]
    rw [show wrap64 (0+1)=1 by rw [Af oz oz];rfl,e1]
    refine Ev.pos (by simp) (Ev.pos oz (Ev.pos (by simp) ?_))
    by_cases h2:d=0
    · refine Ev.pos h2 (Ev.succ ?_)
      simp only [Dz.l0]
      rw [show wrap64 (1+1)=2 by rw [Af oz oz];rfl]
      exact Ev.neg (by simp) (Ev.eqr (Ev.now _) h2.symm)
    · exact Ev.neg h2 (Ev.now _)
  · rw [if_neg h]
    exact Ev.neg h (Ev.now _)
open Classical in
noncomputable def Ek (a b:List (List Int)):Int×Bool:=if (Ai a).2.2.2=true∧(Ai b).2.2.2=true then (Jd (Eg a.flatten b.flatten) (sgI (Ai a).1 (Ai b).1),true) else (0,false)
theorem Mx {c:List (List Int)} (h:Ih 1 c):c.flatten.length≤900∧c.length≤1000∧∀ g ∈ c,g.length≤1000:=by
  have:=Nc 30 c (fun g hg=>(h.2 g hg).1.2)
  have h1:=h.1
  exact ⟨by omega,by omega,fun g hg=>by have:=(h.2 g hg).1;omega⟩
theorem J6 (a b:List (List Int)):Ev (fun k=>Bo.f k a b) (Ek a b):=by
  unfold Bo.f
  refine Ev.bind (C3 a) (Ev.bind (C3 b) ?_)
  have bad:¬ ((Ai a).2.2.2=true∧(Ai b).2.2.2=true)→Ev (fun k=>Bo.j0 k a b true (Ai a).1 (Ai a).2.1 (Ai a).2.2.1 (Ai b).1 (Ai b).2.1 (Ai b).2.2.1) (Ek a b):=fun h=>by
    unfold Ek
    rw [if_neg h]
    refine Ev.succ ?_
    simp only [Bo.j0]
    exact Ev.pos trivial (Ev.now _)
  by_cases ha:(Ai a).2.2.2=true
  · refine Ev.pos ha ?_
    by_cases hb:(Ai b).2.2.2=true
    · rw [hb]
      obtain ⟨a1,a2,a3⟩:=Mx (I4 ha)
      obtain ⟨b1,b2,b3⟩:=Mx (I4 hb)
      unfold Ek
      rw [if_pos ⟨ha,hb⟩]
      refine Ev.succ ?_
      simp only [Bo.j0]
      exact Ev.neg zd (Ev.bind (cat_ev a a2 a3) (Ev.bind (cat_ev b b2 b3) (Ev.bind (cmpL_ev _ _ oz oz) (Ev.bindc (cmpI_eq _ _) (Ev.bind (or_ev _ _) (Ev.now _))))))
    · have e:(!(Ai b).2.2.2)=true:=by simpa using hb
      rw [e]
      exact bad (fun h=>hb h.2)
  · exact Ev.neg ha (bad (fun h=>ha h.1))
theorem Nk (a b:List (List Int)):Ev (fun k=>Cw.f k a b) (Ek a b):=by
  unfold Cw.f
  refine Ev.bind (Dp a) (Ev.bind (Dp b) ?_)
  have bad:¬ ((Ai a).2.2.2=true∧(Ai b).2.2.2=true)→Ev (fun k=>Cw.j0 k a b true (Ai a).1 (Ai a).2.1 (Ai a).2.2.1 (Ai b).1 (Ai b).2.1 (Ai b).2.2.1) (Ek a b):=fun h=>by
    unfold Ek
    rw [if_neg h]
    refine Ev.succ ?_
    simp only [Cw.j0]
    exact Ev.pos trivial (Ev.now _)
  by_cases ha:(Ai a).2.2.2=true
  · refine Ev.pos ha ?_
    by_cases hb:(Ai b).2.2.2=true
    · rw [hb]
      obtain ⟨a1,a2,a3⟩:=Mx (I4 ha)
      obtain ⟨b1,b2,b3⟩:=Mx (I4 hb)
      have ga:=(Gq ha).1.1
      have gb:=(Gq hb).1.1
      unfold Ek
      rw [if_pos ⟨ha,hb⟩]
      refine Ev.succ ?_
      simp only [Cw.j0]
      refine Ev.neg zd (Ev.bind (Nf a a2 a3) (Ev.bind (Nf b b2 b3) (Ev.bind (bef_ev _ _ oz oz) ?_)))
      have v:=N7 a.flatten b.flatten
      have n:=N8 a.flatten b.flatten
      generalize Eg a.flatten b.flatten=c at v n ⊢
      by_cases h1:c = -1
      · refine Ev.pos (decide_eq_true h1) (Ev.eqr (Ev.now _) ?_)
        rw [h1];rfl
      · refine Ev.neg (by simpa using h1) (Ev.bind (bef_ev _ _ oz oz) ?_)
        rw [n]
        by_cases h2:c=1
        · refine Ev.pos (decide_eq_true oz) (Ev.eqr (Ev.now _) ?_)
          rw [h2];rfl
        · refine Ev.neg (by simp;omega) ?_
          have h3:c=0:=by omega
          rw [Af (n:=(Ai a).1-(Ai b).1) oz oz]
          refine Ev.bindc (a:=sgI (Ai a).1 (Ai b).1) ?_ (Ev.eqr (Ev.now _) ?_)
          · unfold Iv.f sgI
            by_cases h4:(Ai a).1<(Ai b).1
            · rw [if_pos h4,if_neg oz,if_pos oz]
            · by_cases h5:(Ai a).1>(Ai b).1
              · rw [if_neg h4,if_pos h5,if_pos oz]
              · rw [if_neg h4,if_neg h5,if_neg oz,if_neg oz]
          · rw [h3];rfl
    · have e:(!(Ai b).2.2.2)=true:=by simpa using hb
      rw [e]
      exact bad (fun h=>hb h.2)
  · exact Ev.neg ha (bad (fun h=>ha h.1))

/-! ### the code of the turned cut -/
theorem tur_good {W H:Int} {l r:List Sq} (hg:Cv W H l) (hp:r.Perm (l.map (tur H))) (hs:r.Pairwise LeP):Cv H W r:=by
  have hH:=hg.2.1.2
  refine Nv (tur H) hg hg.2.1 hg.1 (Int.mul_comm H W) (fun s h=>?_) (fun s h=>?_) (fun a b ha hb ho=>?_) hp hs
  · rw [I6 hH h];obtain ⟨h1,h2,h3,h4,h5⟩:=h;unfold Ins;dsimp only;omega
  · rw [I6 hH h]
  · rw [I6 hH ha,I6 hH hb] at ho
    unfold Ovl at *;dsimp only at ho;omega
theorem Nl (c:List (List Int)) (b:(Ai c).2.2.2=true):∃ R:List Sq,Cv (Ai c).2.1 (Ai c).1 R∧R.Perm ((Ai c).2.2.1.map (tur (Ai c).2.1))∧Ev (fun k=>Es.f k c) (Bw R R.length,true)∧Ev (fun k=>Dh.f k c) (Bw R R.length,true):=by
  have hg:=(Gq b).1
  have e1:=C3 c
  have e2:=Dp c
  generalize Ai c=B at b hg e1 e2 ⊢
  obtain ⟨W,H,l,q⟩:=B
  dsimp only at b hg ⊢
  have hl:=hg.2.2.1
  obtain ⟨R,hs,hp,hev⟩:=Mm (l.map (tur H)) (by rw [List.length_map];omega)
  obtain ⟨R',hf,hp',hs'⟩:=M7 (l.map (tur H)) (fun s hq=>by
    obtain ⟨p,hpl,rfl⟩:=List.mem_map.1 hq
    exact tur_bd hg.1.2 hg.2.1.2 (Dm hg hpl)) (by rw [List.length_map];omega)
  obtain rfl:R'=R:=G7 (tur_dist hg) hp' hp hs' hs
  have a0:=tur_good hg hp hs
  refine ⟨R',a0,hp',?_,?_⟩
  · unfold Es.f
    refine Ev.bind e2 (Ev.pos b (Ev.bind (a:=(H,W,R')) ?_ (Ev.bind (Jg a0) (Ev.now _))))
    exact Us W H l oz R' hev l 0 rfl oz
  · unfold Dh.f Gu.f
    refine Ev.bind e1 (Ev.pos b (Ev.bind (a:=(H,W,R')) ?_ (Ev.bind (Jf a0) (Ev.now _))))
    refine Ev.bind (a:=(H,W,R')) ?_ (Ev.now _)
    exact Ut W H l oz R' hf l 0 rfl oz
theorem tuc_none (c:List (List Int)) (b:¬ (Ai c).2.2.2=true):Ev (fun k=>Es.f k c) ([],false)∧Ev (fun k=>Dh.f k c) ([],false):=by
  refine ⟨?_,?_⟩
  · unfold Es.f
    exact Ev.bind (Dp c) (Ev.neg b (Ev.now _))
  · unfold Dh.f
    exact Ev.bind (C3 c) (Ev.neg b (Ev.now _))
/-! ### the code of the mirrored cut -/
theorem mir_good {W H:Int} {l r:List Sq} (hg:Cv W H l) (hp:r.Perm (l.map (mir W))) (hs:r.Pairwise LeP):Cv W H r:=by
  have hW:=hg.1.2
  refine Nv (mir W) hg hg.1 hg.2.1 rfl (fun s h=>?_) (fun s h=>?_) (fun a b ha hb ho=>?_) hp hs
  · rw [Jp hW h];obtain ⟨h1,h2,h3,h4,h5⟩:=h;unfold Ins;dsimp only;omega
  · rw [Jp hW h]
  · rw [Jp hW ha,Jp hW hb] at ho
    unfold Ovl at *;dsimp only at ho;omega
theorem Vm (c:List (List Int)) (b:(Ai c).2.2.2=true):∃ R:List Sq,Cv (Ai c).1 (Ai c).2.1 R∧R.Perm ((Ai c).2.2.1.map (mir (Ai c).1))∧Ev (fun k=>D9.f k c) (Bw R R.length,true)∧Ev (fun k=>Df.f k c) (Bw R R.length,true):=by
  have hg:=(Gq b).1
  have e1:=C3 c
  have e2:=Dp c
  generalize Ai c=B at b hg e1 e2 ⊢
  obtain ⟨W,H,l,q⟩:=B
  dsimp only at b hg ⊢
  have hl:=hg.2.2.1
  obtain ⟨R,hs,hp,hev⟩:=Mm (l.map (mir W)) (by rw [List.length_map];omega)
  obtain ⟨R',hf,hp',hs'⟩:=M7 (l.map (mir W)) (fun s hq=>by
    obtain ⟨p,hpl,rfl⟩:=List.mem_map.1 hq
    exact mir_bd hg.1.2 hg.2.1.2 (Dm hg hpl)) (by rw [List.length_map];omega)
  obtain rfl:R'=R:=G7 (mir_dist hg) hp' hp hs' hs
  have a0:=mir_good hg hp hs
  refine ⟨R',a0,hp',?_,?_⟩
  · unfold D9.f
    refine Ev.bind e2 (Ev.pos b (Ev.bind (a:=(W,H,R')) ?_ (Ev.bind (Jg a0) (Ev.now _))))
    exact Uu W H l oz R' hev l 0 rfl oz
  · unfold Df.f Gg.f
    refine Ev.bind e1 (Ev.pos b (Ev.bind (a:=(W,H,R')) ?_ (Ev.bind (Jf a0) (Ev.now _))))
    refine Ev.bind (a:=(W,H,R')) ?_ (Ev.now _)
    exact Uv W H l oz R' hf l 0 rfl oz
theorem mic_none (c:List (List Int)) (b:¬ (Ai c).2.2.2=true):Ev (fun k=>D9.f k c) ([],false)∧Ev (fun k=>Df.f k c) ([],false):=by
  refine ⟨?_,?_⟩
  · unfold D9.f
    exact Ev.bind (Dp c) (Ev.neg b (Ev.now _))
  · unfold Df.f
    exact Ev.bind (C3 c) (Ev.neg b (Ev.now _))
theorem mir_twice {W H:Int} {l R R':List Sq} (h:Cv W H l) (hp:R.Perm (l.map (mir W))) (h':Cv W H R') (hp':R'.Perm (R.map (mir W))):R'=l:=by
  refine G7 (Q7 h) (hp'.trans ((hp.map _).trans ?_)) (List.Perm.refl _) (J5 h') (J5 h)
  rw [List.map_map]
  have e:l.map (mir W ∘ mir W)=l.map id:=List.map_congr_left (fun s hs=>by
    have hi:=Dm h hs
    have hm:Ins W H (mir W s):=by rw [Jp h.1.2 hi];unfold Ins at hi ⊢;dsimp only;omega
    show mir W (mir W s)=s
    rw [Jp h.1.2 hm,Jp h.1.2 hi]
    dsimp only
    rw [show W-(W-s.f0-s.f2)-s.f2=s.f0 by omega])
  rw [e,List.map_id]

/-! ### what the law itself asks -/
theorem Vn:∀ (k:Nat) (x y:List Int) (n i:Int),Di.l0 k x y n i=Bp.l0 k x y n i
  | 0,_,_,_,_=>rfl
  | k+1,x,y,n,i=>by simp only [Di.l0,Bp.l0,Vn k]
theorem zsame_ev (x y:List Int) (hx:x.length≤100000):Ev (fun k=>Di.f k x y) (decide (x=y)):=by
  have h:=eqL_ev x y hx
  unfold Di.f
  unfold Bp.f at h
  simp only [Vn]
  exact h
theorem Xp (x y:List (List Int)) (hl:x.length=y.length) (hx:x.length≤100000) (hr:∀ g ∈ x,g.length≤100000):∀ (t:List (List Int)) (i:Nat),x.drop i=t→i+t.length=x.length→Ev (fun k=>Co.l0 k x y (x.length:Int) (i:Int)) (decide (t=y.drop i)):=by
  intro t
  induction t with
  | nil =>
    intro i hd hi
    simp only [List.length_nil] at hi
    refine Ev.succ ?_
    simp only [Co.l0]
    refine Ev.neg oz (Ev.eqr (Ev.now _) (decide_eq_true ?_).symm)
    rw [List.drop_eq_nil_of_le oz]
  | cons a t ih =>
    intro i hd hi
    obtain ⟨h2,h3,h4,h5⟩:=Gw x i a t hd []
    simp only [List.length_cons] at hi
    have hy:i<y.length:=by omega
    have hyd:y.getD i []=y[i]:=by rw [List.getD_eq_getElem?_getD,List.getElem?_eq_getElem hy];rfl
    refine Ev.succ ?_
    simp only [Co.l0,Iu,h3,hyd]
    refine Ev.pos oz (Ev.pos oz (Ev.pos oz (Ev.pos oz (Ev.bind (zsame_ev a y[i] (hr a h5)) ?_))))
    rw [List.drop_eq_getElem_cons hy]
    by_cases e:a=y[i]
    · refine Ev.pos (decide_eq_true e) ?_
      rw [Af (n:=(i:Int)+1) oz oz]
      refine Ev.eqr (ih (i+1) h4 oz) (decide_eq_decide.2 ?_)
      rw [e];exact ⟨fun h=>by rw [h],fun h=>by injection h⟩
    · exact Ev.neg (by simpa using e) (Ev.eqr (Ev.now _) (decide_eq_false (fun h=>e (by injection h))).symm)
theorem Nm (x y:List (List Int)) (hx:x.length≤100000) (hr:∀ g ∈ x,g.length≤100000):Ev (fun k=>Co.f k x y) (decide (x=y)):=by
  unfold Co.f
  by_cases h:x.length=y.length
  · exact Ev.pos oz (Ev.eqr (Xp x y h hx hr x 0 rfl oz) (by simp))
  · exact Ev.neg oz (Ev.eqr (Ev.now _) (decide_eq_false (fun e=>h (by rw [e]))).symm)
theorem zall_loop (c:List (List Int)) (hc:c.length≤1000) (hr:∀ g ∈ c,g.length≤1000):∀ (t:List (List Int)) (i:Nat) (a:List Int),c.drop i=t→i+t.length=c.length→a.length+t.length*1000≤100000000→Ev (fun k=>Du.l0 k a c (c.length:Int) (i:Int)) (a++t.flatten):=by
  intro t
  induction t with
  | nil =>
    intro i a hd hi h
    simp only [List.length_nil] at hi
    refine Ev.succ ?_
    simp only [Du.l0]
    exact Ev.neg oz (Ev.eqr (Ev.now _) (by simp))
  | cons g t ih =>
    intro i a hd hi h
    obtain ⟨h2,h3,h4,h5⟩:=Gw c i g t hd []
    have hgl:=hr g h5
    simp only [List.length_cons] at hi h
    refine Ev.succ ?_
    simp only [Du.l0,Iu,h3]
    refine Ev.pos oz (Ev.pos oz (Ev.pos oz (Ev.pos oz ?_)))
    rw [Af (n:=(i:Int)+1) oz oz]
    exact Ev.eqr (ih (i+1) (a++g) h4 oz (by rw [List.length_append];omega)) (by simp)
theorem R6 (c:List (List Int)) (hc:c.length≤1000) (hr:∀ g ∈ c,g.length≤1000):Ev (fun k=>Du.f k c) c.flatten:=by
  unfold Du.f
  exact Ev.eqr (zall_loop c hc hr c 0 [] rfl oz (by simp;omega)) (by simp)

/-! ### the law -/
theorem gt_join:∀ (g:List Int) (c:List (List Int)),((g::c).map gt).flatten=Lib.join ((g::c).map fun g=>40::grL g) [41]++[41]
  | g,[]=>by simp [gt,grL,numL,Lib.join,Lib.joinTail]
  | g,h::c=>by
    have ih:=gt_join h c
    rw [List.map_cons (f:=gt),List.flatten_cons,ih]
    show gt g++(Lib.join ((40::grL h)::c.map fun g=>40::grL g) [41]++[41])=Lib.join ((40::grL g)::(40::grL h)::c.map fun g=>40::grL g) [41]++[41]
    rw [J1]
    simp [gt,grL,numL]
theorem text_ev {c:List (List Int)} (h:Ge c):Ev (fun k=>D5.f k c) (mk (Gn c),true)∧Ev (fun k=>C6.f k c) (mk (Gn c),true):=by
  have s1:=Dp c
  have s2:Ev (fun k=>Cq.f k c) (Ai c).2.2.2:=by
    unfold Cq.f
    exact Ev.bind (C3 c) (Ev.now _)
  have c0:(⟨#[]⟩:ByteArray)=mk []:=rfl
  have hok:=(Ka h).1
  have hl:c.length≤30:=by have:=hok.1;omega
  have hne:=(Gx h).1
  have e:[]++((c.drop 0).map gt).flatten=Gn c:=by
    rw [Ng c hne]
    cases c with
    | nil=>exact absurd rfl hne
    | cons g t=>exact gt_join g t
  unfold Ge at h
  refine ⟨?_,?_⟩
  · unfold D5.f
    refine Ev.bind s1 (Ev.pos h (Ev.bind (a:=mk (Gn c)) ?_ (Ev.now _)))
    rw [← e]
    unfold Cl.f
    rw [c0]
    exact tx_l0 hl hok.2 c.length 0 [] oz (Nat.zero_le _) (by simp only [List.length_nil];omega)
  · unfold C6.f
    refine Ev.bind s2 (Ev.pos h (Ev.bind (a:=mk (Gn c)) ?_ (Ev.now _)))
    rw [← e]
    unfold Da.f
    rw [c0]
    exact N6 hl hok.2 c.length 0 [] oz (Nat.zero_le _) (by simp only [List.length_nil];omega)
theorem text_none {c:List (List Int)} (h:¬ (Ai c).2.2.2=true):Ev (fun k=>D5.f k c) ((⟨#[]⟩:ByteArray),false)∧Ev (fun k=>C6.f k c) ((⟨#[]⟩:ByteArray),false):=by
  have s2:Ev (fun k=>Cq.f k c) (Ai c).2.2.2:=by
    unfold Cq.f
    exact Ev.bind (C3 c) (Ev.now _)
  refine ⟨?_,?_⟩
  · unfold D5.f
    exact Ev.bind (Dp c) (Ev.neg h (Ev.now _))
  · unfold C6.f
    exact Ev.bind s2 (Ev.neg h (Ev.now _))
theorem Xq (s:List UInt8) (hs:s.length≤1048576):∃ B:List (List Int)×Bool,(B.1.length≤30∧∀ g ∈ B.1,g.length≤30)∧Ev (fun k=>D6.f k (mk s)) B∧Ev (fun k=>Ap.f k (mk s)) B∧(B.2=true→Ge B.1∧s=Gn B.1):=by
  rcases Nh s hs with ⟨c,hc,e,h⟩|⟨hno,h⟩
  · rcases Ky s hs with ⟨d,hd,e',h'⟩|⟨hno',h'⟩
    · have:=Qz d c (Gx hd) (Gx hc) (e'.symm.trans e)
      subst this
      have ok:=(Ka hc).1
      exact ⟨(d,true),⟨ok.1.2,fun g hg=>(ok.2 g hg).1.2⟩,h',h,fun _=>⟨hc,e⟩⟩
    · exact absurd ⟨c,hc,e⟩ hno'
  · rcases Ky s hs with ⟨d,hd,e',h'⟩|⟨hno',h'⟩
    · exact absurd ⟨d,hd,e'⟩ hno
    · exact ⟨([],false),by simp,h',h,fun h=>by cases h⟩
theorem Xr {c:List (List Int)} (h:Ge c):Ev (fun k=>Ap.f k (mk (Gn c))) (c,true):=by
  have hl:=(Q0 h).1
  rcases Nh (Gn c) oz with ⟨d,hd,e,hp⟩|⟨hno,_⟩
  · have:=Qz c d (Gx h) (Gx hd) e
    subst this;exact hp
  · exact absurd ⟨c,h,rfl⟩ hno
theorem Rm:∀ x y:List Int,Eg x y=0→x=y
  | [],[],_=>rfl
  | [],_::_,h=>by simp [Eg] at h
  | _::_,[],h=>by simp [Eg] at h
  | a::x,b::y,h=>by
    simp only [Eg] at h
    split at h
    · cases h
    · split at h
      · cases h
      · have:=Rm x y h
        rw [this,show a=b by omega]
theorem Rn:∀ x:List Int,Eg x x=0
  | []=>rfl
  | a::x=>by simp only [Eg];rw [if_neg oz,if_neg oz];exact Rn x
theorem Vo {c:List (List Int)} (h:(Ai c).2.2.2=true):Ai c=Eu (Ai c).1 c.flatten:=by
  have hn:Ih 1 c:=I4 h
  have h0:Ai c=Eu (c.getD 0 []).sum c.flatten:=by
    unfold Ai at h ⊢
    rw [if_pos hn] at h ⊢
    unfold I8 at h ⊢
    split
    · rfl
    · rename_i q;rw [if_neg q] at h;cases h
  have h1:=(V6 (by rw [← h0];exact h)).1
  rw [← h0] at h1
  rw [h1];exact h0
theorem cmp_facts {a b:List (List Int)} (h:(Ek a b).2=true):(Ai a).2.2.2=true∧(Ai b).2.2.2=true∧Ek b a=(-(Ek a b).1,true)∧(-1≤(Ek a b).1∧(Ek a b).1≤1)∧((Ek a b).1=0↔a=b):=by
  classical
  unfold Ek at h ⊢
  by_cases hc:(Ai a).2.2.2=true∧(Ai b).2.2.2=true
  · rw [if_pos hc,if_pos ⟨hc.2,hc.1⟩]
    have v:=N7 a.flatten b.flatten
    have z:=Rm a.flatten b.flatten
    have n:=N8 a.flatten b.flatten
    have sv:sgI (Ai a).1 (Ai b).1 = -1∨sgI (Ai a).1 (Ai b).1=0∨sgI (Ai a).1 (Ai b).1=1:=by
      unfold sgI;split
      · exact .inl rfl
      · split
        · exact .inr (.inr rfl)
        · exact .inr (.inl rfl)
    have sn:sgI (Ai b).1 (Ai a).1 = - sgI (Ai a).1 (Ai b).1:=by
      unfold sgI
      by_cases h1:(Ai a).1<(Ai b).1
      · rw [if_neg oz,if_pos oz,if_pos h1]
        rfl
      · by_cases h2:(Ai a).1>(Ai b).1
        · rw [if_pos oz,if_neg h1,if_pos h2]
        · rw [if_neg oz,if_neg oz,if_neg h1,if_neg h2];rfl
    have sz:sgI (Ai a).1 (Ai b).1=0→(Ai a).1=(Ai b).1:=by
      unfold sgI;split
      · intro h;cases h
      · split
        · intro h;cases h
        · intro _;omega
    refine ⟨hc.1,hc.2,?_,?_,?_,?_⟩
    · rw [n,sn];unfold Jd
      by_cases q:Eg a.flatten b.flatten=0
      · rw [q];simp
      · rw [if_neg oz,if_neg q]
    · show -1≤Jd _ _∧Jd _ _≤1
      unfold Jd;split <;> omega
    · intro h0
      have h0:Jd (Eg a.flatten b.flatten) (sgI (Ai a).1 (Ai b).1)=0:=h0
      unfold Jd at h0
      split at h0
      · rename_i q
        have f:=z q
        have w:=sz h0
        have k1:=Vo hc.1
        have k2:=Vo hc.2
        rw [f,w,← k2] at k1
        rw [← (Gq hc.1).2,k1,(Gq hc.2).2]
      · rename_i q;exact absurd h0 q
    · rintro rfl
      show Jd _ _=0
      unfold Jd sgI
      rw [Rn,if_pos rfl,if_neg oz,if_neg oz]
  · rw [if_neg hc] at h;cases h
theorem My {c:List (List Int)} (h:(Ai c).2.2.2=true):c.length≤1000∧∀ g ∈ c,g.length≤1000:=by
  have ok:=I4 h
  exact ⟨by have:=ok.1;omega,fun g hg=>by have:=(ok.2 g hg).1;omega⟩
theorem Vp (s : List UInt8) (B : List (List Int) × Bool) (hB : B.2 = true → Ge B.1 ∧ s = Gn B.1) :
    Ev (fun k=>if B.2=true then ((C6.f k B.1).bind fun a0=>(if a0.2=true then (some (a0.1.toList==(mk s).toList)) else (none))) else (some true)) true:=by
  by_cases h:B.2=true
  · obtain ⟨hc,e⟩:=hB h
    exact Ev.pos h (Ev.bind (text_ev hc).2 (Ev.pos rfl (Ev.eqr (Ev.now _) (by rw [e];simp))))
  · exact Ev.neg h (Ev.now _)
theorem law_j6 (a b : List (List Int)) (s : List UInt8) (B : List (List Int) × Bool) (hB : B.2 = true → Ge B.1 ∧ s = Gn B.1) :
    Ev (fun k=>laws_FnCodesTurnedOfAll.j6 k a b (mk s) (Ek a b).1 (Ek a b).2 B.1 B.2) true:=by
  refine Ev.succ ?_
  simp only [laws_FnCodesTurnedOfAll.j6]
  by_cases h:(Ek a b).2=true
  · obtain ⟨ha,hb,hn,hv,hz⟩:=cmp_facts h
    have k1:=J6 b a
    rw [hn] at k1
    have k2:=Nm a b (by have:=(My ha).1;omega) (fun g hg=>by have:=(My ha).2 g hg;omega)
    refine Ev.pos h (Ev.bind k1 (Ev.pos rfl (Ev.pos ?_ (Ev.bind k2 (Ev.succ ?_)))))
    · dsimp only;rw [Af (n := -(Ek a b).1) oz oz]
    · simp only [laws_FnCodesTurnedOfAll.j7]
      refine Ev.neg ?_ (Vp s B hB)
      by_cases q:a=b
      · rw [decide_eq_true q,hz.2 q];simp
      · rw [decide_eq_false q,beq_false_of_ne (fun e=>q (hz.1 e))];simp
  · exact Ev.neg h (Vp s B hB)
theorem law_l1 (kk : Int) (hk : 1 ≤ kk ∧ kk ≤ 500) (M N : List Int) (hl : N.length ≤ 1000) (hN : ∀ x ∈ N, 1 ≤ x ∧ x ≤ 500) (hM : M = N.map (kk * ·)) (a b : List (List Int)) (s : List UInt8) (a1 : Int) (a2 : Bool) (B : List (List Int) × Bool)
    (next:Ev (fun k=>laws_FnCodesTurnedOfAll.j6 k a b (mk s) a1 a2 B.1 B.2) true):∀ (d i:Nat),N.length-i=d→i≤N.length →
    Ev (fun k=>laws_FnCodesTurnedOfAll.l1 k kk a b (mk s) a1 a2 B.1 B.2 M N (N.length:Int) (i:Int)) true:=by
  have hml:M.length=N.length:=by rw [hM,List.length_map]
  intro d
  induction d with
  | zero =>
    intro i hd hi
    refine Ev.succ ?_
    simp only [laws_FnCodesTurnedOfAll.l1]
    exact Ev.neg oz next
  | succ d ih =>
    intro i hd hi
    have a0:i<N.length:=by omega
    have r1:rd N (i:Int)=N[i]:=by rw [Nd,List.getD_eq_getElem?_getD,List.getElem?_eq_getElem a0];rfl
    have r2:rd M (i:Int)=kk*N[i]:=by
      rw [Nd,List.getD_eq_getElem?_getD,List.getElem?_eq_getElem (show i<M.length by omega)]
      simp [hM]
    have hx:=hN _ (List.getElem_mem a0)
    have hm:=Km hk (show 0≤N[i] by omega) hx.2
    refine Ev.succ ?_
    simp only [laws_FnCodesTurnedOfAll.l1]
    rw [r1,r2,Af (n:=kk*N[i]) oz oz]
    refine Ev.pos oz (Ev.pos oz (Ev.pos oz (Ev.pos oz (Ev.pos rfl ?_))))
    rw [Af (n:=(i:Int)+1) oz oz]
    exact ih (i+1) oz oz
theorem Ro {c:List (List Int)} (h:(Ai c).2.2.2=true):c.flatten=(Ai c).2.2.1.map fun s=>s.f2:=by
  obtain ⟨hg,e⟩:=Gq h
  have:=Ko (Ai c).2.2.1 (Ai c).2.2.1.length (Nat.le_refl _)
  rwa [e,List.take_length] at this
theorem grow_told (c : List (List Int)) (g : Int) : ∃ R : List (List Int) × Bool, R.1.length ≤ 1000 ∧ (∀ r ∈ R.1, r.length ≤ 1000) ∧ Ev (fun k => Gb.f k c g) R ∧ Ev (fun k => Ga.f k c g) R ∧
    (R.2=true→(Ai c).2.2.2=true∧(1≤g∧g≤500)∧R.1.flatten=c.flatten.map (g*·)):=by
  by_cases b:(Ai c).2.2.2=true
  · have hg:=(Gq b).1
    have hsd:=Ro b
    have e1:=C3 c
    have e2:=Dp c
    generalize Ai c=B at b hg e1 e2 hsd ⊢
    obtain ⟨W,H,l,q⟩:=B
    dsimp only at b hg hsd ⊢
    obtain ⟨B2,g1,g2,g3⟩:=Xd hg g
    by_cases b2:B2.2.2.2=true
    · obtain ⟨a0,a1,hk⟩:=g3 b2
      have a2:=a0.2.2.1
      have h1:=(Ie B2.2.2.1 B2.2.2.1.length).1
      refine ⟨(Bw B2.2.2.1 B2.2.2.1.length,true),by show (Bw B2.2.2.1 B2.2.2.1.length).length≤1000;omega,fun r hr=>by have:=Gv B2.2.2.1 B2.2.2.1.length r hr;omega,?_,?_,fun _=>⟨b,hk,?_⟩⟩
      · unfold Gb.f
        exact Ev.bind e2 (Ev.pos b (Ev.bind g1 (Ev.pos b2 (Ev.bind (Jg a0) (Ev.now _)))))
      · unfold Ga.f
        exact Ev.bind e1 (Ev.pos b (Ev.bind g2 (Ev.pos b2 (Ev.bind (Jf a0) (Ev.now _)))))
      · show (Bw B2.2.2.1 B2.2.2.1.length).flatten=_
        rw [Ko B2.2.2.1 B2.2.2.1.length (Nat.le_refl _),List.take_length,a1,hsd,List.map_map,List.map_map]
        refine List.map_congr_left (fun s hs=>?_)
        show (gro g s).f2=g*s.f2
        rw [Jq hk hg.1.2 hg.2.1.2 (Dm hg hs)]
    · refine ⟨([],false),by simp,fun r hr=>absurd hr (by simp),?_,?_,fun h=>by cases h⟩
      · unfold Gb.f
        exact Ev.bind e2 (Ev.pos b (Ev.bind g1 (Ev.neg b2 (Ev.now _))))
      · unfold Ga.f
        exact Ev.bind e1 (Ev.pos b (Ev.bind g2 (Ev.neg b2 (Ev.now _))))
  · refine ⟨([],false),by simp,fun r hr=>absurd hr (by simp),?_,?_,fun h=>by cases h⟩
    · unfold Gb.f
      exact Ev.bind (Dp c) (Ev.neg b (Ev.now _))
    · unfold Ga.f
      exact Ev.bind (C3 c) (Ev.neg b (Ev.now _))
theorem law_j3 (c:List (List Int)) (kk:Int) (a b:List (List Int)) (s:List UInt8) (hs:s.length≤1048576):Ev (fun k=>laws_FnCodesTurnedOfAll.j3 k c kk a b (mk s)) true:=by
  obtain ⟨R,r1,r2,r3,r4,r5⟩:=grow_told c kk
  obtain ⟨B,b1,b2,b3,b4⟩:=Xq s hs
  have k1:=Nm R.1 R.1 oz (fun g hg=>by have:=r2 g hg;omega)
  have k2:=Nm B.1 B.1 oz (fun g hg=>by have:=b1.2 g hg;omega)
  rw [decide_eq_true rfl] at k1 k2
  have next:=law_j6 a b s B b4
  have c1:=J6 a b
  have c2:=Nk a b
  generalize Ek a b=C at *
  refine Ev.succ ?_
  simp only [laws_FnCodesTurnedOfAll.j3]
  refine Ev.bind r4 (Ev.bind r3 (Ev.bind c1 (Ev.bind c2 (Ev.bind b3 (Ev.bind b2 (Ev.neg (by simp) (Ev.bind k1 (Ev.pos rfl (Ev.neg (by simp) (Ev.pos rfl (Ev.neg (by simp) (Ev.bind k2 (Ev.succ ?_)))))))))))))
  simp only [laws_FnCodesTurnedOfAll.j4]
  refine Ev.neg (by simp) ?_
  by_cases h:R.2=true
  · obtain ⟨hc,hk,he⟩:=r5 h
    obtain ⟨d1,d2⟩:=My hc
    have ok:=I4 hc
    have fl:=(Mx ok).1
    refine Ev.pos h (Ev.bind (R6 c d1 d2) (Ev.bind (R6 R.1 oz r2) (Ev.pos (by rw [he,List.length_map]) ?_)))
    refine law_l1 kk hk R.1.flatten c.flatten oz (fun x hx=>?_) he a b s C.1 C.2 B next c.flatten.length 0 oz (Nat.zero_le _)
    obtain ⟨g,hg,hxg⟩:=List.mem_flatten.1 hx
    exact (ok.2 g hg).2 x hxg
  · exact Ev.neg h next
theorem code_turned {c:List (List Int)} (h:(Ai c).2.2.2=true) {R:List Sq} (hg:Cv (Ai c).2.1 (Ai c).1 R):Ai (Bw R R.length)=((Ai c).2.1,(Ai c).1,R,true):=Kp hg
theorem Xs {c : List (List Int)} (h : (Ai c).2.2.2 = true) : ∃ c1 c2 c3 : List (List Int), (Ev (fun k => Es.f k c) (c1, true) ∧ Ev (fun k => Dh.f k c) (c1, true)) ∧ Ev (fun k => Dh.f k c1) (c2, true) ∧ Ev (fun k => Dh.f k c2) (c3, true) ∧ Ev (fun k => Dh.f k c3) (c, true) ∧
    (c1.length≤1000∧∀ g ∈ c1,g.length≤1000)∧(Ai c1).1=(Ai c).2.1∧(Ai c1).2.1=(Ai c).1∧(Ai c1).2.2.2=true:=by
  obtain ⟨hg,e⟩:=Gq h
  obtain ⟨R1,g1,p1,s1,i1⟩:=Nl c h
  have e1':=Kp g1
  obtain ⟨R2,g2,p2,_,i2⟩:=Nl (Bw R1 R1.length) (by rw [e1'])
  rw [e1'] at g2 p2
  dsimp only at g2 p2
  have e2':=Kp g2
  obtain ⟨R3,g3,p3,_,i3⟩:=Nl (Bw R2 R2.length) (by rw [e2'])
  rw [e2'] at g3 p3
  dsimp only at g3 p3
  have e3':=Kp g3
  obtain ⟨R4,g4,p4,_,i4⟩:=Nl (Bw R3 R3.length) (by rw [e3'])
  rw [e3'] at g4 p4
  dsimp only at g4 p4
  have q:=tur_four hg g4 p1 p2 p3 p4
  rw [q,e] at i4
  refine ⟨_,_,_,⟨s1,i1⟩,i2,i3,i4,My (by rw [e1']),?_⟩
  rw [e1'];exact ⟨rfl,rfl,rfl⟩
theorem mir_chain {c:List (List Int)} (h:(Ai c).2.2.2=true):∃ m:List (List Int),(Ev (fun k=>D9.f k c) (m,true)∧Ev (fun k=>Df.f k c) (m,true))∧Ev (fun k=>Df.f k m) (c,true)∧(m.length≤1000∧∀ g ∈ m,g.length≤1000):=by
  obtain ⟨hg,e⟩:=Gq h
  obtain ⟨R1,g1,p1,s1,i1⟩:=Vm c h
  have e1':=Kp g1
  obtain ⟨R2,g2,p2,_,i2⟩:=Vm (Bw R1 R1.length) (by rw [e1'])
  rw [e1'] at g2 p2
  dsimp only at g2 p2
  have q:=mir_twice hg p1 g2 p2
  rw [q,e] at i2
  exact ⟨_,⟨s1,i1⟩,i2,My (by rw [e1'])⟩
theorem Vq (c:List (List Int)):Ev (fun k=>E5.f k c) ((Ai c).1,(Ai c).2.1,(Ai c).2.2.2)∧Ev (fun k=>Ec.f k c) ((Ai c).1,(Ai c).2.1,(Ai c).2.2.2):=by
  refine ⟨?_,?_⟩
  · unfold E5.f
    refine Ev.bind (Dp c) ?_
    by_cases q:(Ai c).2.2.2=true
    · exact Ev.pos q (Ev.eqr (Ev.now _) (by rw [q]))
    · exact Ev.neg q (Ev.eqr (Ev.now _) (by rw [N2 c q]))
  · unfold Ec.f
    exact Ev.bind (C3 c) (Ev.now _)
theorem order_ev (c:List (List Int)):Ev (fun k=>E7.f k c) (((Ai c).2.2.1.length:Int),(Ai c).2.2.2)∧Ev (fun k=>E6.f k c) (((Ai c).2.2.1.length:Int),(Ai c).2.2.2):=by
  refine ⟨?_,?_⟩
  · unfold E7.f
    refine Ev.bind (Dp c) ?_
    by_cases q:(Ai c).2.2.2=true
    · exact Ev.pos q (Ev.eqr (Ev.now _) (by rw [q]))
    · exact Ev.neg q (Ev.eqr (Ev.now _) (by rw [N2 c q];rfl))
  · unfold E6.f
    exact Ev.bind (C3 c) (Ev.now _)
theorem Jh {c:List (List Int)} (h:c.length≤1000∧∀ g ∈ c,g.length≤1000):Ev (fun k=>Co.f k c c) true:=by
  have:=Nm c c oz (fun g hg=>by have:=h.2 g hg;omega)
  rwa [decide_eq_true rfl] at this
theorem law_j0 (c d:List (List Int)) (kk:Int) (a b:List (List Int)) (s:List UInt8) (hs:s.length≤1048576):Ev (fun k=>laws_FnCodesTurnedOfAll.j0 k c d kk a b (mk s) false) true:=by
  have next:=law_j3 d kk a b s hs
  have w:=Vq c
  have o:=order_ev c
  have i1:Ev (fun k=>Cq.f k c) (Ai c).2.2.2:=by
    unfold Cq.f
    exact Ev.bind (C3 c) (Ev.now _)
  refine Ev.succ ?_
  simp only [laws_FnCodesTurnedOfAll.j0]
  refine Ev.neg (by simp) ?_
  by_cases h:(Ai c).2.2.2=true
  · obtain ⟨c1,c2,c3,⟨t1,t2⟩,t3,t4,t5,t6,t7,t8,t9⟩:=Xs h
    obtain ⟨m,⟨m1,m2⟩,m3,m4⟩:=mir_chain h
    obtain ⟨x1,x2⟩:=text_ev (c:=c) h
    have hb:=My h
    have w1:=(Vq c1).2
    rw [t7,t8,t9] at w1
    have hz:=R6 c hb.1 hb.2
    have hsd:=Ro h
    have hp:=Xr (c:=c) h
    rw [h] at w o i1
    refine Ev.bind t2 (Ev.bind t1 (Ev.bind m2 (Ev.bind m1 (Ev.bind w.2 (Ev.bind w.1 (Ev.bind o.2 (Ev.bind o.1 (Ev.bind x2 (Ev.bind x1 ?_)))))))))
    refine Ev.neg (by simp) (Ev.bind (Jh t6) (Ev.pos rfl (Ev.neg (by simp) (Ev.bind (Jh m4) (Ev.pos rfl (Ev.neg (by simp) (Ev.pos rfl (Ev.pos rfl (Ev.neg (by simp) (Ev.pos rfl (Ev.neg (by simp) (Ev.pos rfl ?_))))))))))))
    refine Ev.bind i1 (Ev.neg (by simp) (Ev.neg (by simp) (Ev.neg (by simp) (Ev.neg (by simp) (Ev.succ ?_)))))
    simp only [laws_FnCodesTurnedOfAll.j1]
    refine Ev.neg (by simp) (Ev.pos (by trivial) (Ev.bind m3 (Ev.succ ?_)))
    simp only [laws_FnCodesTurnedOfAll.l0]
    refine Ev.pos zd (Ev.bind t2 (Ev.pos rfl (Ev.succ ?_)))
    simp only [laws_FnCodesTurnedOfAll.l0]
    rw [show wrap64 (0+1)=1 from Af oz oz]
    refine Ev.pos zd (Ev.bind t3 (Ev.pos rfl (Ev.succ ?_)))
    simp only [laws_FnCodesTurnedOfAll.l0]
    rw [show wrap64 (1+1)=2 from Af oz oz]
    refine Ev.pos zd (Ev.bind t4 (Ev.pos rfl (Ev.succ ?_)))
    simp only [laws_FnCodesTurnedOfAll.l0]
    rw [show wrap64 (2+1)=3 from Af oz oz]
    refine Ev.pos zd (Ev.bind t5 (Ev.pos rfl (Ev.succ ?_)))
    simp only [laws_FnCodesTurnedOfAll.l0]
    rw [show wrap64 (3+1)=4 from Af oz oz]
    refine Ev.neg zd (Ev.bind w1 (Ev.bind hp (Ev.pos (by trivial) (Ev.bind (Jh hb) (Ev.pos rfl (Ev.bind (Jh hb) (Ev.pos rfl (Ev.pos rfl (Ev.pos rfl (Ev.pos rfl (Ev.pos rfl (Ev.bind (Jh hb) (Ev.pos rfl (Ev.bind hz (Ev.pos ?_ next)))))))))))))))
    rw [hsd,List.length_map]
  · have hf:(Ai c).2.2.2=false:=by simpa using h
    obtain ⟨t1,t2⟩:=tuc_none c h
    obtain ⟨m1,m2⟩:=mic_none c h
    obtain ⟨x1,x2⟩:=text_none h
    rw [hf] at w o i1
    have z0:Ev (fun k=>Co.f k [] []) true:=Jh ⟨by simp,fun g hg=>absurd hg (by simp)⟩
    refine Ev.bind t2 (Ev.bind t1 (Ev.bind m2 (Ev.bind m1 (Ev.bind w.2 (Ev.bind w.1 (Ev.bind o.2 (Ev.bind o.1 (Ev.bind x2 (Ev.bind x1 ?_)))))))))
    refine Ev.neg (by simp) (Ev.bind z0 (Ev.pos rfl (Ev.neg (by simp) (Ev.bind z0 (Ev.pos rfl (Ev.neg (by simp) (Ev.pos rfl (Ev.pos rfl (Ev.neg (by simp) (Ev.pos rfl (Ev.neg (by simp) (Ev.pos rfl ?_))))))))))))
    refine Ev.bind i1 (Ev.neg (by simp) (Ev.neg (by simp) (Ev.neg (by simp) (Ev.neg (by simp) (Ev.succ ?_)))))
    simp only [laws_FnCodesTurnedOfAll.j1]
    exact Ev.neg (by simp) (Ev.neg (by simp) next)
theorem FnCodesTurnedOfAll:laws_FnCodesTurnedOfAll.Pure:=by
  intro c d kk a b x _ _ _ _ _ _ _ _ _ _
  refine Ev.rounds (g:=fun k=>laws_FnCodesTurnedOfAll.f k c d kk a b x) ?_
  unfold laws_FnCodesTurnedOfAll.f
  have out:Ev (fun k=>laws_FnCodesTurnedOfAll.j0 k c d kk a b x true) true:=by
    refine Ev.succ ?_
    simp only [laws_FnCodesTurnedOfAll.j0]
    exact Ev.pos (by trivial) (Ev.now _)
  by_cases h1:(c.length:Int)>10000
  · exact Ev.pos h1 out
  · refine Ev.neg h1 ?_
    by_cases h2:(d.length:Int)>10000
    · exact Ev.pos h2 out
    · refine Ev.neg h2 ?_
      by_cases h3:(a.length:Int)>10000
      · exact Ev.pos h3 out
      · refine Ev.neg h3 ?_
        by_cases h4:(b.length:Int)>10000
        · exact Ev.pos h4 out
        · refine Ev.neg h4 ?_
          by_cases h5:(x.size:Int)>1048576
          · rw [decide_eq_true h5];exact out
          · rw [decide_eq_false h5]
            have ea:x=mk x.data.toList:=rfl
            rw [ea]
            exact law_j0 c d kk a b x.data.toList (by rw [← Dk,← ea];omega)

end Go.Proofs.YtgeahghdikdamaaGreatDoor.Pure
