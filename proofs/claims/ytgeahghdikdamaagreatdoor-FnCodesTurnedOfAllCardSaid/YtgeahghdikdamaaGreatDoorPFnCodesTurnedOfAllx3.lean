-- made for this claim by a program of this session
import Derived.Test.YtgeahghdikdamaaGreatDoorPFnCodesTurnedOfAllx0
import Derived.Test.YtgeahghdikdamaaGreatDoorPFnCodesTurnedOfAllx2
namespace Go.Proofs.YtgeahghdikdamaaGreatDoor.PFnCodesTurnedOfAll
open Go.RowKit Go.Proofs.YtgeahghdikdamaaGreatDoorW.PrintWords Go.Proofs.YtgeahghdikdamaaGreatDoorW.PrintLast Go.Proofs.YtgeahghdikdamaaGreatDoorW.PrintMore
attribute [local go_sem] Dq Dr D7 D8 Db Dc Ds Dt -- for this text's walks alone
set_option linter.unusedVariables false
set_option linter.unusedSimpArgs false
set_option maxHeartbeats 8000000
set_option maxRecDepth 100000

/-! ### Md: function 149 -/
theorem Md.with (p:S67→Bool) (fv:Nat) (lb:Array Value) (A:Option Addr) (c:Nat) (l:List S67) (w:World) (hr:Kd.C k67 w A l.length l)
  (eg:∀ args w,(callFunc fv args).run Tryz.prog w=.ok (.enter fv args) w)
  (hp:∀ (W:World) (t:S67),t ∈ l→Below w.heap.size w W→Calls Tryz.prog fv (#[.agg #[.int .i64 t.f0,.int .i64 t.f1,.int .i64 t.f2]]++lb) W fun e w'=>e=.returned (.bool (p t))∧Below w.heap.size w w') :
  Calls Tryz.prog 149 #[.slice A l.length c,.func (.func fv) #[] lb] w fun e w'=>e=.returned (.int .i64 (pidx p l))∧Below w.heap.size w w':=by
 have a3:=Tryz.underlying67;have hbig:l.length≤9223372036854775807:=hr.2.1;have HP:=Lib.hid hp;clear hp;go_enter Tryz.func149,Tryz.ntmps149;go_wp2;(go_loopg [5,8] l.length (fun gg _ s8 wr=>∃ kk:Nat,kk≤l.length∧l.length-kk≤gg∧s8=.int .i64 kk∧Aside (Below w.heap.size w wr)∧Aside (∀ j,j<kk→∀ b,l[j]? = some b→p b=false)));(case atStart=>exact ⟨0,Nat.zero_le _,by omega,rfl,Below.refl _ w,fun j hj=>absurd hj (Nat.not_lt_zero _)⟩)
 case round =>
  obtain ⟨kk,hkk,hg,rfl,BW,HA⟩:=hrel;(by_cases hlt:kk<l.length)
  ·(have hltz:(kk:Int)<(l.length:Int):=by omega);obtain ⟨ad,rfl,a0,a1,a2⟩:=Ck hr (kk:Int) oz hltz;replace a0:=(BW.out.cell (World.block_lt_of_cell? w _ a0)).trans a0;replace a1:=(BW.out.cell (World.block_lt_of_cell? w _ a1)).trans a1;replace a2:=(BW.out.cell (World.block_lt_of_cell? w _ a2)).trans a2;(have hm:Aa l kk ∈ l:=by unfold Aa;simp [List.getD,hlt]);(have he:l[kk]? = some (Aa l kk):=by unfold Aa;simp [List.getD,hlt]);have hcall:=HP.out wr (Aa l kk) hm BW.out;generalize hy:Aa l kk=y at a0 a1 a2 hcall he;have HE:=Lib.hid he;clear hy hm he;simp only [Int.toNat_natCast] at a0 a1 a2
   cases hq:p y with
   | true =>
    rw [hq] at hcall;(have HQ:=Lib.hid hq;clear hq);(go_wp2_with (go_at_fn fv;refine hcall.mono ?_;rintro e w' ⟨rfl,hb'⟩));go_ret;refine ⟨?_,hb'⟩;(rw [U1 p l kk y HE.out HQ.out HA.out];rfl)
   | false =>
    rw [hq] at hcall;(have HQ:=Lib.hid hq;clear hq);(go_wp2_with (go_at_fn fv;refine hcall.mono ?_;rintro e w' ⟨rfl,hb'⟩));go_roundg (l.length-(kk+1));(case measure=>omega)
    case rel =>
     refine ⟨kk+1,by omega,by omega,by go_num,hb',(show Aside _ from fun j hj b hb=>?_)⟩;(by_cases e:j=kk)
     ·subst e;(rw [HE.out] at hb;obtain rfl:=Option.some.inj hb;exact HQ.out)
     ·exact HA.out j oz b hb
  ·(have hltz:¬ (kk:Int)<(l.length:Int):=by omega);(have:kk=l.length:=by omega);subst this;go_wp2;go_ret;refine ⟨?_,BW.out⟩;(rw [Ue p l HA.out];rfl)

/-! ### Me: function 121 -/
theorem Me.with (p:S67→Bool) (fv:Nat) (lb:Array Value) (A:Option Addr) (c:Nat) (l:List S67) (w:World) (hr:Kd.C k67 w A l.length l)
  (eg:∀ args w,(callFunc fv args).run Tryz.prog w=.ok (.enter fv args) w)
  (hp:∀ (W:World) (t:S67),t ∈ l→Below w.heap.size w W→Calls Tryz.prog fv (#[.agg #[.int .i64 t.f0,.int .i64 t.f1,.int .i64 t.f2]]++lb) W fun e w'=>e=.returned (.bool (p t))∧Below w.heap.size w w') :
  Calls Tryz.prog 121 #[.slice A l.length c,.func (.func fv) #[] lb] w fun e w'=>e=.returned (.bool (l.any p))∧Below w.heap.size w w':=by
 have HP:=Lib.hid hp;clear hp;have e0:decide (0≤pidx p l)=l.any p:=U2 p l;generalize l.any p=b at e0 ⊢;have HE:=Lib.hid e0;clear e0;go_enter Tryz.func121,Tryz.ntmps121;(go_wp2_with (go_at_call 149;refine (Md.with p fv lb A c l _ hr eg HP.out).mono ?_;rintro e w' ⟨rfl,hb'⟩));go_ret;exact ⟨by rw [← HE.out];rfl,hb'⟩

/-! ### Et: function 123 -/
def Et.f (a0:Int) (a1:Int) (a2:Int) (a3:Int) (a4:Int) (a5:Int):Option (Bool):=if a0<(wrap64 (a3+a5)) then (if a3<(wrap64 (a0+a2)) then (if a1<(wrap64 (a4+a5)) then (some (decide (a4<(wrap64 (a1+a2))))) else (some false)) else (some false)) else (some false)
theorem Et.calls (a1:Int) (a7:Int) (a8:Int) (a2:Int) (a9:Int) (a3:Int) (r:Bool) (w:World) (h:Et.f a1 a7 a8 a2 a9 a3=some r) :
  Calls Tryz.prog 123 #[.agg #[.int .i64 a1,.int .i64 a7,.int .i64 a8],.agg #[.int .i64 a2,.int .i64 a9,.int .i64 a3]] w fun e w'=>e=.returned (.bool r)∧Below w.heap.size w w':=by
 have i9:=Tryz.underlying67;have HB:=am (Below.refl w.heap.size w);have H:=h;clear h;unfold Et.f at H;(by_cases c3:a1<(wrap64 (a2+a3)))
 ·rw [if_pos c3] at H;have c3b0:=decide_eq_true c3;clear c3;(by_cases c4:a2<(wrap64 (a1+a8)))
  ·rw [if_pos c4] at H;have c4b0:=decide_eq_true c4;clear c4;(by_cases c5:a7<(wrap64 (a9+a3)))
   ·rw [if_pos c5] at H;have c5b0:=decide_eq_true c5;clear c5;obtain rfl:=Option.some.inj H;go_enter Tryz.func123,Tryz.ntmps123;(go_wp2_with (first|((with_reducible refine Ag (N:=2) rfl ?_);refine Bg 2 (#[.int .i64 a1,.int .i64 a7,.int .i64 a8]) 67 ?_;intro b0 hg w6 hbox hb;have a0:=am (hbox);have b2:=am (gz hg HB);replace HB:=wb HB hb;clear hb hbox hg)|((with_reducible refine Ag (N:=3) rfl ?_);refine Bg 3 (#[.int .i64 a2,.int .i64 a9,.int .i64 a3]) 67 ?_;intro b1 hg w7 hbox hb;have a4:=am (hbox);have b3:=am (gz hg HB);replace HB:=wb HB hb;have a5:=am (gn hg a0);have a6:=am ((by rw [hg];exact Nat.ne_of_gt (Ar (upK a0)):b1≠b0));replace a0:=kb a0 hb;clear hb hbox hg;have i4:=a5.out;have i8:=a6.out;obtain ⟨f3,f4,f5,h8,h9,i0⟩:=cy3 a0;obtain ⟨b4,b5,b6,f6,f7,f8⟩:=cy3 a4)));go_ret;exact ⟨eqv,upW HB⟩
   ·rw [if_neg c5] at H;have c5b0:=decide_eq_false c5;clear c5;obtain rfl:=Option.some.inj H;go_enter Tryz.func123,Tryz.ntmps123;(go_wp2_with (first|((with_reducible refine Ag (N:=2) rfl ?_);refine Bg 2 (#[.int .i64 a1,.int .i64 a7,.int .i64 a8]) 67 ?_;intro b0 hg j5 hbox hb;have a0:=am (hbox);have b2:=am (gz hg HB);replace HB:=wb HB hb;clear hb hbox hg)|((with_reducible refine Ag (N:=3) rfl ?_);refine Bg 3 (#[.int .i64 a2,.int .i64 a9,.int .i64 a3]) 67 ?_;intro b1 hg j9 hbox hb;have a4:=am (hbox);have b3:=am (gz hg HB);replace HB:=wb HB hb;have a5:=am (gn hg a0);have a6:=am ((by rw [hg];exact Nat.ne_of_gt (Ar (upK a0)):b1≠b0));replace a0:=kb a0 hb;clear hb hbox hg;have i1:=a5.out;have i5:=a6.out;obtain ⟨b7,b8,b9,f9,g0,g1⟩:=cy3 a0;obtain ⟨c0,c1,d0,g2,g3,g4⟩:=cy3 a4)));go_ret;exact ⟨eqv,upW HB⟩
  ·rw [if_neg c4] at H;have c4b0:=decide_eq_false c4;clear c4;obtain rfl:=Option.some.inj H;go_enter Tryz.func123,Tryz.ntmps123;(go_wp2_with (first|((with_reducible refine Ag (N:=2) rfl ?_);refine Bg 2 (#[.int .i64 a1,.int .i64 a7,.int .i64 a8]) 67 ?_;intro b0 hg k0 hbox hb;have a0:=am (hbox);have b2:=am (gz hg HB);replace HB:=wb HB hb;clear hb hbox hg)|((with_reducible refine Ag (N:=3) rfl ?_);refine Bg 3 (#[.int .i64 a2,.int .i64 a9,.int .i64 a3]) 67 ?_;intro b1 hg k1 hbox hb;have a4:=am (hbox);have b3:=am (gz hg HB);replace HB:=wb HB hb;have a5:=am (gn hg a0);have a6:=am ((by rw [hg];exact Nat.ne_of_gt (Ar (upK a0)):b1≠b0));replace a0:=kb a0 hb;clear hb hbox hg;have i2:=a5.out;have i6:=a6.out;obtain ⟨d1,d2,d3,g5,g6,g7⟩:=cy3 a0;obtain ⟨d4,d5,d6,g8,g9,h0⟩:=cy3 a4)));go_ret;exact ⟨eqv,upW HB⟩
 ·rw [if_neg c3] at H;have c3b0:=decide_eq_false c3;clear c3;obtain rfl:=Option.some.inj H;go_enter Tryz.func123,Tryz.ntmps123;(go_wp2_with (first|((with_reducible refine Ag (N:=2) rfl ?_);refine Bg 2 (#[.int .i64 a1,.int .i64 a7,.int .i64 a8]) 67 ?_;intro b0 hg k2 hbox hb;have a0:=am (hbox);have b2:=am (gz hg HB);replace HB:=wb HB hb;clear hb hbox hg)|((with_reducible refine Ag (N:=3) rfl ?_);refine Bg 3 (#[.int .i64 a2,.int .i64 a9,.int .i64 a3]) 67 ?_;intro b1 hg k3 hbox hb;have a4:=am (hbox);have b3:=am (gz hg HB);replace HB:=wb HB hb;have a5:=am (gn hg a0);have a6:=am ((by rw [hg];exact Nat.ne_of_gt (Ar (upK a0)):b1≠b0));replace a0:=kb a0 hb;clear hb hbox hg;have i3:=a5.out;have i7:=a6.out;obtain ⟨d7,d8,d9,h2,h3,h4⟩:=cy3 a0;obtain ⟨f0,f1,f2,h5,h6,h7⟩:=cy3 a4)));go_ret;exact ⟨eqv,upW HB⟩

/-! ### Ns: function 122 -/
theorem Ns.calls (x y s a0 a1 a2:Int) (g:Nat) (r:Bool) (w:World) (hg:w.heap[g]? = some (.cells #[.int .i64 x,.int .i64 y,.int .i64 s] 67 (0,0))) (h:Et.f x y s a0 a1 a2=some r) :
  Calls Tryz.prog 122 #[.agg #[.int .i64 a0,.int .i64 a1,.int .i64 a2],.pointer (some ⟨g,0,none⟩)] w fun e w'=>e=.returned (.bool r)∧Below w.heap.size w w':=by
 have a3:=Tryz.underlying67;have h0:w.cell? ⟨g,0,none⟩=some (.int .i64 x):=(Ac hg 0).trans rfl;have h1:w.cell? ⟨g,1,none⟩=some (.int .i64 y):=(Ac hg 1).trans rfl;have h2:w.cell? ⟨g,2,none⟩=some (.int .i64 s):=(Ac hg 2).trans rfl;have hlt:g<w.heap.size:=Ar hg;have HG:=am hg;have HH:=am h;clear hg h;go_enter Tryz.func122,Tryz.ntmps122;(go_wp2_with (go_at_call 123;(with_reducible refine (Et.calls x y s a0 a1 a2 r _ HH.out).mono ?_);rintro e w' ⟨rfl,hb⟩));go_ret;exact ⟨rfl,Gr (Dd (Below.refl _ _) _) hb⟩


/-! ### Aj: the pair slices.ContainsFunc[[]loop.example/g01296/impl.Square,loop.example/g01296/impl.Square] -/
def Aj.f (l:List S67) (x y s:Int):Option Bool:=some (l.any fun t=>(Et.f x y s t.f0 t.f1 t.f2).getD false)
theorem Aj.some_ (x y s a b c:Int):Et.f x y s a b c=some ((Et.f x y s a b c).getD false):=by
 unfold Et.f;(split)
 ·(split)
  ·(split)
   ·rfl
   ·rfl
  ·rfl
 ·rfl
theorem Aj.calls (A0:Option Addr) (c0:Nat) (l0:List S67) (g1:Nat) (x y s:Int) (r:Bool) (w:World) (a1:Kd.C k67 w A0 l0.length l0) (a2:l0.length≤c0)
  (a0:w.heap[g1]? = some (.cells #[.int .i64 x,.int .i64 y,.int .i64 s] 67 (0,0))) (h:Aj.f l0 x y s=some r) :
  Calls Tryz.prog 121 #[.slice A0 l0.length c0,.func (.func 122) #[] #[.pointer (some ⟨g1,0,none⟩)]] w fun e w'=>e=.returned (.bool r)∧Below w.heap.size w w':=by
 obtain rfl:=Option.some.inj h;(refine Me.with _ 122 _ A0 c0 l0 w a1 (fun args w=>M2 Tryz.func122 kz rfl args w) fun W t _ hb=>?_);(exact (Ns.calls x y s t.f0 t.f1 t.f2 g1 _ W (Bb a0 hb) (Aj.some_ ..)).mono fun e w' ⟨he,hb'⟩=>⟨he,Gr hb hb'⟩)

end Go.Proofs.YtgeahghdikdamaaGreatDoor.PFnCodesTurnedOfAll
