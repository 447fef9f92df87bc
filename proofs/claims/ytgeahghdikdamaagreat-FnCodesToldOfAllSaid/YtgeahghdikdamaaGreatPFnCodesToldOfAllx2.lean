-- made for this claim by a program of this session
import Derived.Test.YtgeahghdikdamaaGreatPFnCodesToldOfAllx0
namespace Go.Proofs.YtgeahghdikdamaaGreat.PFnCodesToldOfAll
open Go.RowKit Go.Proofs.YtgeahghdikdamaaGreatW.PrintWords Go.Proofs.YtgeahghdikdamaaGreatW.PrintLast Go.Proofs.YtgeahghdikdamaaGreatW.PrintMore
attribute [local go_sem] Dn Do D2 D3 Da Db Dp Dq -- for this text's walks alone
set_option linter.unusedVariables false
set_option linter.unusedSimpArgs false

/-! ### Cj: function 35 -/
def Cj.f (a0:Int) (a1:Int) (a2:Int):Option (Bool):=if a1≤a0 then (some (decide (a0≤a2))) else (some false)
set_option maxHeartbeats 8000000 in
set_option maxRecDepth 100000 in
theorem Cj.calls (a0:Int) (a1:Int) (a2:Int) (r:Bool) (w:World) (h:Cj.f a0 a1 a2=some r) :
  Calls Tryz.prog 35 #[.int .i64 a0,.int .i64 a1,.int .i64 a2] w fun e w'=>e=.returned (.bool r)∧Cq w w':=by
 have H:=h;clear h;unfold Cj.f at H;(by_cases c4:a1≤a0)
 ·rw [if_pos c4] at H;have c4b0:=decide_eq_true c4;clear c4;obtain rfl:=Option.some.inj H;go_enter Tryz.func35,Tryz.ntmps35;go_wp2;go_ret;exact ⟨eqw,dz⟩
 ·rw [if_neg c4] at H;have c4b0:=decide_eq_false c4;clear c4;obtain rfl:=Option.some.inj H;go_enter Tryz.func35,Tryz.ntmps35;go_wp2;go_ret;exact ⟨eqw,dz⟩

/-! ### Dt: function 34 -/
def Dt.f (a0:Int):Option (Bool):=(Cj.f a0 1 500).bind fun t101=>(some t101)
set_option maxHeartbeats 8000000 in
set_option maxRecDepth 100000 in
theorem Dt.calls (a0:Int) (r:Bool) (w:World) (h:Dt.f a0=some r) :
  Calls Tryz.prog 34 #[.int .i64 a0] w fun e w'=>e=.returned (.bool r)∧Cq w w':=by
 have H:=h;clear h;unfold Dt.f at H;obtain ⟨t101,A2,H⟩:=bnd H;replace H:(some t101)=some r:=H;obtain rfl:=Option.some.inj H;go_enter Tryz.func34,Tryz.ntmps34;(go_wp2_with (first|((with_reducible refine Ad (f:=35) rfl ?_);refine cgo (some 4) Tryz.func35 (Cj.calls a0 1 500 t101 _ A2.out) ?_;rintro e w' ⟨rfl,⟨nd,rfl⟩⟩;refine ⟨_,rfl,?_⟩)));go_ret;exact ⟨eqw,dz⟩

/-! ### Bf: function 36 -/
def Bf.f (a2:Int) (a0:Int) (a4:Int) (a3:Int) (a1:Int) (a5:Int):Option (Int):=if a0=a1 then (some (wrap64 (a2-a3))) else (some (wrap64 (a0-a1)))
set_option maxHeartbeats 8000000 in
set_option maxRecDepth 100000 in
theorem Bf.calls (a3:Int) (a1:Int) (a4:Int) (a5:Int) (a2:Int) (a6:Int) (r:Int) (w:World) (h:Bf.f a3 a1 a4 a5 a2 a6=some r) :
  Calls Tryz.prog 36 #[.agg #[.int .i64 a3,.int .i64 a1,.int .i64 a4],.agg #[.int .i64 a5,.int .i64 a2,.int .i64 a6]] w fun e w'=>e=.returned (.int .i64 r)∧Below w.heap.size w w':=by
 have g2:=Tryz.underlying50;have HB:=am (Below.refl w.heap.size w);have H:=h;clear h;unfold Bf.f at H;(by_cases c3:a1=a2)
 ·rw [if_pos c3] at H;have c3b0:(a1==a2)=true:=beq_iff_eq.mpr c3;have c3b1:(a1 != a2)=false:=bne_eq_false_iff_eq.mpr c3;clear c3;obtain rfl:=Option.some.inj H;go_enter Tryz.func36,Tryz.ntmps36;(go_wp2_with (first|((with_reducible refine Ag (N:=2) rfl ?_);refine Bd 2 (#[.int .i64 a3,.int .i64 a1,.int .i64 a4]) 50 ?_;intro b0 hg w4 hbox hb;have a0:=am (hbox);have b4:=am (gz hg HB);have b2:=am (gz hg HB);replace HB:=wb HB hb;clear hb hbox hg)|((with_reducible refine Ag (N:=3) rfl ?_);refine Bd 3 (#[.int .i64 a5,.int .i64 a2,.int .i64 a6]) 50 ?_;intro b1 hg w5 hbox hb;have a7:=am (hbox);have b5:=am (gz hg HB);have b3:=am (gz hg HB);replace HB:=wb HB hb;have a8:=am (gn hg a0);have a9:=am ((by rw [hg];exact Nat.ne_of_gt (Ak (upK a0)):b1≠b0));replace a0:=kb a0 hb;clear hb hbox hg;have f9:=a8.out;have g1:=a9.out;obtain ⟨d0,d1,d2,f2,f3,f4⟩:=cy3 a0;obtain ⟨d3,d4,d5,f5,f6,f7⟩:=cy3 a7)));go_ret;exact ⟨eqv,upW HB⟩
 ·rw [if_neg c3] at H;have c3b0:(a1==a2)=false:=beq_eq_false_iff_ne.mpr c3;have c3b1:(a1 != a2)=true:=bne_iff_ne.mpr c3;obtain rfl:=Option.some.inj H;go_enter Tryz.func36,Tryz.ntmps36;(go_wp2_with (first|((with_reducible refine Ag (N:=2) rfl ?_);refine Bd 2 (#[.int .i64 a3,.int .i64 a1,.int .i64 a4]) 50 ?_;intro b0 hg w9 hbox hb;have a0:=am (hbox);have b4:=am (gz hg HB);have b2:=am (gz hg HB);replace HB:=wb HB hb;clear hb hbox hg)|((with_reducible refine Ag (N:=3) rfl ?_);refine Bd 3 (#[.int .i64 a5,.int .i64 a2,.int .i64 a6]) 50 ?_;intro b1 hg g3 hbox hb;have a7:=am (hbox);have b5:=am (gz hg HB);have b3:=am (gz hg HB);replace HB:=wb HB hb;have a8:=am (gn hg a0);have a9:=am ((by rw [hg];exact Nat.ne_of_gt (Ak (upK a0)):b1≠b0));replace a0:=kb a0 hb;clear hb hbox hg;have f8:=a8.out;have g0:=a9.out;obtain ⟨b6,b7,b8,d6,d7,d8⟩:=cy3 a0;obtain ⟨b9,c0,c1,d9,f0,f1⟩:=cy3 a7)));go_ret;exact ⟨eqv,upW HB⟩

/-- the first place at which p holds, or -1 -/
def pidx {α:Type} (p:α→Bool) (l:List α):Int:=if l.any p then ((l.findIdx p:Nat):Int) else -1
theorem Rg {α:Type} (p:α→Bool) (l:List α) (k:Nat) (a:α) (hk:l[k]? = some a) (ha:p a=true) (h:∀ j,j<k→∀ b,l[j]? = some b→p b=false):pidx p l=k:=by
 have hlt:k<l.length:=(List.getElem?_eq_some_iff.1 hk).1;have e:l[k]=a:=(List.getElem?_eq_some_iff.1 hk).2;have h1:l.any p=true:=List.any_eq_true.2 ⟨a,by rw [← e];exact List.getElem_mem hlt,ha⟩;unfold pidx;rw [if_pos h1];(congr 1);rw [List.findIdx_eq hlt];exact ⟨by rw [e];exact ha,fun j hj=>h j hj _ (List.getElem?_eq_getElem (by omega))⟩
theorem Qq {α:Type} (p:α→Bool) (l:List α) (h:∀ j,j<l.length→∀ b,l[j]? = some b→p b=false):pidx p l = -1:=by
 unfold pidx;rw [if_neg];intro hc;obtain ⟨a,ha,hp⟩:=List.any_eq_true.1 hc;obtain ⟨i,hi⟩:=List.getElem?_of_mem ha;have:=h i (List.getElem?_eq_some_iff.1 hi).1 a hi;(rw [this] at hp;cases hp)

theorem Rh {α:Type} (p:α→Bool) (l:List α):decide (0≤pidx p l)=l.any p:=by
 unfold pidx;cases h:l.any p
 ·rfl
 ·simp

/-! ### K7: function 62 -/
set_option maxHeartbeats 8000000 in
theorem K7.with (p:S50→Bool) (fv:Nat) (lb:Array Value) (A:Option Addr) (c:Nat) (l:List S50) (w:World) (hr:Kd.C k50 w A l.length l)
  (eg:∀ args w,(callFunc fv args).run Tryz.prog w=.ok (.enter fv args) w)
  (hp:∀ (W:World) (t:S50),t ∈ l→Below w.heap.size w W→Calls Tryz.prog fv (#[.agg #[.int .i64 t.f0,.int .i64 t.f1,.int .i64 t.f2]]++lb) W fun e w'=>e=.returned (.bool (p t))∧Below w.heap.size w w') :
  Calls Tryz.prog 62 #[.slice A l.length c,.func (.func fv) #[] lb] w fun e w'=>e=.returned (.int .i64 (pidx p l))∧Below w.heap.size w w':=by
 have a3:=Tryz.underlying50;have hbig:l.length≤9223372036854775807:=hr.2.1;have HP:=Lib.hid hp;clear hp;go_enter Tryz.func62,Tryz.ntmps62;go_wp2;(go_loopg [5,8] l.length (fun gg _ s8 wr=>∃ kk:Nat,kk≤l.length∧l.length-kk≤gg∧s8=.int .i64 kk∧Aside (Below w.heap.size w wr)∧Aside (∀ j,j<kk→∀ b,l[j]? = some b→p b=false)));(case atStart=>exact ⟨0,Nat.zero_le _,by omega,rfl,Below.refl _ w,fun j hj=>absurd hj (Nat.not_lt_zero _)⟩)
 case round =>
  obtain ⟨kk,hkk,hg,rfl,BW,HA⟩:=hrel;(by_cases hlt:kk<l.length)
  ·(have hltz:(kk:Int)<(l.length:Int):=by omega);obtain ⟨ad,rfl,a0,a1,a2⟩:=Bp hr (kk:Int) (by omega) hltz;replace a0:=(BW.out.cell (World.block_lt_of_cell? w _ a0)).trans a0;replace a1:=(BW.out.cell (World.block_lt_of_cell? w _ a1)).trans a1;replace a2:=(BW.out.cell (World.block_lt_of_cell? w _ a2)).trans a2;(have hm:Aa l kk ∈ l:=by unfold Aa;simp [List.getD,hlt]);(have he:l[kk]? = some (Aa l kk):=by unfold Aa;simp [List.getD,hlt]);have hcall:=HP.out wr (Aa l kk) hm BW.out;generalize hy:Aa l kk=y at a0 a1 a2 hcall he;have HE:=Lib.hid he;clear hy hm he;simp only [Int.toNat_natCast] at a0 a1 a2
   cases hq:p y with
   | true =>
    rw [hq] at hcall;(have HQ:=Lib.hid hq;clear hq);(go_wp2_with (go_at_fn fv;refine hcall.mono ?_;rintro e w' ⟨rfl,hb'⟩));go_ret;refine ⟨?_,hb'⟩;(rw [Rg p l kk y HE.out HQ.out HA.out];rfl)
   | false =>
    rw [hq] at hcall;(have HQ:=Lib.hid hq;clear hq);(go_wp2_with (go_at_fn fv;refine hcall.mono ?_;rintro e w' ⟨rfl,hb'⟩));go_roundg (l.length-(kk+1));(case measure=>omega)
    case rel =>
     refine ⟨kk+1,by omega,by omega,by go_num,hb',(show Aside _ from fun j hj b hb=>?_)⟩;(by_cases e:j=kk)
     ·subst e;(rw [HE.out] at hb;obtain rfl:=Option.some.inj hb;exact HQ.out)
     ·exact HA.out j (by omega) b hb
  ·(have hltz:¬ (kk:Int)<(l.length:Int):=by omega);(have:kk=l.length:=by omega);subst this;go_wp2;go_ret;refine ⟨?_,BW.out⟩;(rw [Qq p l HA.out];rfl)

/-! ### K8: function 37 -/
set_option maxHeartbeats 8000000 in
theorem K8.with (p:S50→Bool) (fv:Nat) (lb:Array Value) (A:Option Addr) (c:Nat) (l:List S50) (w:World) (hr:Kd.C k50 w A l.length l)
  (eg:∀ args w,(callFunc fv args).run Tryz.prog w=.ok (.enter fv args) w)
  (hp:∀ (W:World) (t:S50),t ∈ l→Below w.heap.size w W→Calls Tryz.prog fv (#[.agg #[.int .i64 t.f0,.int .i64 t.f1,.int .i64 t.f2]]++lb) W fun e w'=>e=.returned (.bool (p t))∧Below w.heap.size w w') :
  Calls Tryz.prog 37 #[.slice A l.length c,.func (.func fv) #[] lb] w fun e w'=>e=.returned (.bool (l.any p))∧Below w.heap.size w w':=by
 have HP:=Lib.hid hp;clear hp;have e0:decide (0≤pidx p l)=l.any p:=Rh p l;generalize l.any p=b at e0 ⊢;have HE:=Lib.hid e0;clear e0;go_enter Tryz.func37,Tryz.ntmps37;(go_wp2_with (go_at_call 62;refine (K7.with p fv lb A c l _ hr eg HP.out).mono ?_;rintro e w' ⟨rfl,hb'⟩));go_ret;exact ⟨by rw [← HE.out];rfl,hb'⟩

/-! ### Eh: function 39 -/
def Eh.f (a0:Int) (a1:Int) (a2:Int) (a3:Int) (a4:Int) (a5:Int):Option (Bool):=if a0<(wrap64 (a3+a5)) then (if a3<(wrap64 (a0+a2)) then (if a1<(wrap64 (a4+a5)) then (some (decide (a4<(wrap64 (a1+a2))))) else (some false)) else (some false)) else (some false)
set_option maxHeartbeats 8000000 in
set_option maxRecDepth 100000 in
theorem Eh.calls (a1:Int) (a7:Int) (a8:Int) (a2:Int) (a9:Int) (a3:Int) (r:Bool) (w:World) (h:Eh.f a1 a7 a8 a2 a9 a3=some r) :
  Calls Tryz.prog 39 #[.agg #[.int .i64 a1,.int .i64 a7,.int .i64 a8],.agg #[.int .i64 a2,.int .i64 a9,.int .i64 a3]] w fun e w'=>e=.returned (.bool r)∧Below w.heap.size w w':=by
 have j9:=Tryz.underlying50;have HB:=am (Below.refl w.heap.size w);have H:=h;clear h;unfold Eh.f at H;(by_cases c3:a1<(wrap64 (a2+a3)))
 ·rw [if_pos c3] at H;have c3b0:=decide_eq_true c3;clear c3;(by_cases c4:a2<(wrap64 (a1+a8)))
  ·rw [if_pos c4] at H;have c4b0:=decide_eq_true c4;clear c4;(by_cases c5:a7<(wrap64 (a9+a3)))
   ·rw [if_pos c5] at H;have c5b0:=decide_eq_true c5;clear c5;obtain rfl:=Option.some.inj H;go_enter Tryz.func39,Tryz.ntmps39;(go_wp2_with (first|((with_reducible refine Ag (N:=2) rfl ?_);refine Bd 2 (#[.int .i64 a1,.int .i64 a7,.int .i64 a8]) 50 ?_;intro b0 hg w6 hbox hb;have a0:=am (hbox);have b4:=am (gz hg HB);have b2:=am (gz hg HB);replace HB:=wb HB hb;clear hb hbox hg)|((with_reducible refine Ag (N:=3) rfl ?_);refine Bd 3 (#[.int .i64 a2,.int .i64 a9,.int .i64 a3]) 50 ?_;intro b1 hg w7 hbox hb;have a4:=am (hbox);have b5:=am (gz hg HB);have b3:=am (gz hg HB);replace HB:=wb HB hb;have a5:=am (gn hg a0);have a6:=am ((by rw [hg];exact Nat.ne_of_gt (Ak (upK a0)):b1≠b0));replace a0:=kb a0 hb;clear hb hbox hg;have i6:=a5.out;have j3:=a6.out;obtain ⟨f5,f6,f7,i0,i1,i2⟩:=cy3 a0;obtain ⟨b6,b7,b8,f8,f9,g0⟩:=cy3 a4)));go_ret;exact ⟨eqv,upW HB⟩
   ·rw [if_neg c5] at H;have c5b0:=decide_eq_false c5;clear c5;obtain rfl:=Option.some.inj H;go_enter Tryz.func39,Tryz.ntmps39;(go_wp2_with (first|((with_reducible refine Ag (N:=2) rfl ?_);refine Bd 2 (#[.int .i64 a1,.int .i64 a7,.int .i64 a8]) 50 ?_;intro b0 hg k0 hbox hb;have a0:=am (hbox);have b4:=am (gz hg HB);have b2:=am (gz hg HB);replace HB:=wb HB hb;clear hb hbox hg)|((with_reducible refine Ag (N:=3) rfl ?_);refine Bd 3 (#[.int .i64 a2,.int .i64 a9,.int .i64 a3]) 50 ?_;intro b1 hg k1 hbox hb;have a4:=am (hbox);have b5:=am (gz hg HB);have b3:=am (gz hg HB);replace HB:=wb HB hb;have a5:=am (gn hg a0);have a6:=am ((by rw [hg];exact Nat.ne_of_gt (Ak (upK a0)):b1≠b0));replace a0:=kb a0 hb;clear hb hbox hg;have i3:=a5.out;have i7:=a6.out;obtain ⟨b9,c0,c1,g1,g2,g3⟩:=cy3 a0;obtain ⟨d0,d1,d2,g4,g5,g6⟩:=cy3 a4)));go_ret;exact ⟨eqv,upW HB⟩
  ·rw [if_neg c4] at H;have c4b0:=decide_eq_false c4;clear c4;obtain rfl:=Option.some.inj H;go_enter Tryz.func39,Tryz.ntmps39;(go_wp2_with (first|((with_reducible refine Ag (N:=2) rfl ?_);refine Bd 2 (#[.int .i64 a1,.int .i64 a7,.int .i64 a8]) 50 ?_;intro b0 hg k2 hbox hb;have a0:=am (hbox);have b4:=am (gz hg HB);have b2:=am (gz hg HB);replace HB:=wb HB hb;clear hb hbox hg)|((with_reducible refine Ag (N:=3) rfl ?_);refine Bd 3 (#[.int .i64 a2,.int .i64 a9,.int .i64 a3]) 50 ?_;intro b1 hg k3 hbox hb;have a4:=am (hbox);have b5:=am (gz hg HB);have b3:=am (gz hg HB);replace HB:=wb HB hb;have a5:=am (gn hg a0);have a6:=am ((by rw [hg];exact Nat.ne_of_gt (Ak (upK a0)):b1≠b0));replace a0:=kb a0 hb;clear hb hbox hg;have i4:=a5.out;have i8:=a6.out;obtain ⟨d3,d4,d5,g7,g8,g9⟩:=cy3 a0;obtain ⟨d6,d7,d8,h0,h2,h3⟩:=cy3 a4)));go_ret;exact ⟨eqv,upW HB⟩
 ·rw [if_neg c3] at H;have c3b0:=decide_eq_false c3;clear c3;obtain rfl:=Option.some.inj H;go_enter Tryz.func39,Tryz.ntmps39;(go_wp2_with (first|((with_reducible refine Ag (N:=2) rfl ?_);refine Bd 2 (#[.int .i64 a1,.int .i64 a7,.int .i64 a8]) 50 ?_;intro b0 hg k4 hbox hb;have a0:=am (hbox);have b4:=am (gz hg HB);have b2:=am (gz hg HB);replace HB:=wb HB hb;clear hb hbox hg)|((with_reducible refine Ag (N:=3) rfl ?_);refine Bd 3 (#[.int .i64 a2,.int .i64 a9,.int .i64 a3]) 50 ?_;intro b1 hg k5 hbox hb;have a4:=am (hbox);have b5:=am (gz hg HB);have b3:=am (gz hg HB);replace HB:=wb HB hb;have a5:=am (gn hg a0);have a6:=am ((by rw [hg];exact Nat.ne_of_gt (Ak (upK a0)):b1≠b0));replace a0:=kb a0 hb;clear hb hbox hg;have i5:=a5.out;have i9:=a6.out;obtain ⟨d9,f0,f1,h4,h5,h6⟩:=cy3 a0;obtain ⟨f2,f3,f4,h7,h8,h9⟩:=cy3 a4)));go_ret;exact ⟨eqv,upW HB⟩

/-! ### Mw: function 38 -/
set_option maxHeartbeats 8000000 in
theorem Mw.calls (x y s a0 a1 a2:Int) (g:Nat) (r:Bool) (w:World) (hg:w.heap[g]? = some (.cells #[.int .i64 x,.int .i64 y,.int .i64 s] 50 (0,0))) (h:Eh.f x y s a0 a1 a2=some r) :
  Calls Tryz.prog 38 #[.agg #[.int .i64 a0,.int .i64 a1,.int .i64 a2],.pointer (some ⟨g,0,none⟩)] w fun e w'=>e=.returned (.bool r)∧Below w.heap.size w w':=by
 have a3:=Tryz.underlying50;have h0:w.cell? ⟨g,0,none⟩=some (.int .i64 x):=(Ac hg 0).trans rfl;have h1:w.cell? ⟨g,1,none⟩=some (.int .i64 y):=(Ac hg 1).trans rfl;have h2:w.cell? ⟨g,2,none⟩=some (.int .i64 s):=(Ac hg 2).trans rfl;have hlt:g<w.heap.size:=Ak hg;have HG:=am hg;have HH:=am h;clear hg h;go_enter Tryz.func38,Tryz.ntmps38;(go_wp2_with (go_at_call 39;(with_reducible refine (Eh.calls x y s a0 a1 a2 r _ HH.out).mono ?_);rintro e w' ⟨rfl,hb⟩));go_ret;exact ⟨rfl,I5 (C6 (Below.refl _ _) _) hb⟩


/-! ### Al: the pair slices.ContainsFunc[[]loop.example/g01296/impl.Square,loop.example/g01296/impl.Square] -/
def Al.f (l:List S50) (x y s:Int):Option Bool:=some (l.any fun t=>(Eh.f x y s t.f0 t.f1 t.f2).getD false)
theorem Al.some_ (x y s a b c:Int):Eh.f x y s a b c=some ((Eh.f x y s a b c).getD false):=by
 unfold Eh.f;(split)
 ·(split)
  ·(split)
   ·rfl
   ·rfl
  ·rfl
 ·rfl
theorem Al.calls (A0:Option Addr) (c0:Nat) (l0:List S50) (g1:Nat) (x y s:Int) (r:Bool) (w:World) (a1:Kd.C k50 w A0 l0.length l0) (a2:l0.length≤c0)
  (a0:w.heap[g1]? = some (.cells #[.int .i64 x,.int .i64 y,.int .i64 s] 50 (0,0))) (h:Al.f l0 x y s=some r) :
  Calls Tryz.prog 37 #[.slice A0 l0.length c0,.func (.func 38) #[] #[.pointer (some ⟨g1,0,none⟩)]] w fun e w'=>e=.returned (.bool r)∧Below w.heap.size w w':=by
 obtain rfl:=Option.some.inj h;(refine K8.with _ 38 _ A0 c0 l0 w a1 (fun args w=>Mh Tryz.func38 (by kernel_rfl) rfl args w) fun W t _ hb=>?_);(exact (Mw.calls x y s t.f0 t.f1 t.f2 g1 _ W (Am a0 hb) (Al.some_ ..)).mono fun e w' ⟨he,hb'⟩=>⟨he,I5 hb hb'⟩)

end Go.Proofs.YtgeahghdikdamaaGreat.PFnCodesToldOfAll
