-- made for this claim by a program of this session
import Derived.Test.YtgeahghdikdamaaGreatPFnCodesToldOfAllx0
import Derived.Test.YtgeahghdikdamaaGreatPFnCodesToldOfAllx3
import Derived.Test.YtgeahghdikdamaaGreatPFnCodesToldOfAllx4
namespace Go.Proofs.YtgeahghdikdamaaGreat.PFnCodesToldOfAll
open Go.RowKit Go.Proofs.YtgeahghdikdamaaGreatW.PrintWords Go.Proofs.YtgeahghdikdamaaGreatW.PrintLast Go.Proofs.YtgeahghdikdamaaGreatW.PrintMore
attribute [local go_sem] Dn Do D2 D3 Da Db Dp Dq -- for this text's walks alone
set_option linter.unusedVariables false
set_option linter.unusedSimpArgs false

/-! ### Ek: function 4 -/
def Ek.f (k:Nat) (a0:Int) (a1:Int) (a2:List (S50)):Option ((List (List Int))×Bool):=(As.f k a0 a1 a2).bind fun t159=>(if t159=true then ((Ay.f k a0 a1 a2).bind fun t160=>(some (t160,true))) else (some (([]:List (List Int)),false)))
set_option maxHeartbeats 8000000 in
set_option maxRecDepth 100000 in
theorem Ek.calls (k:Nat) (a2:Int) (a3:Int) (a6:Option Addr) (a7:Nat) (a1:List (S50)) (r1:List (List Int)) (r2:Bool) (w:World) (b2:Kd.C k50 w a6 a1.length a1) (b0:a1.length≤a7) (h:Ek.f k a2 a3 a1=some (r1,r2)) :
  Calls Tryz.prog 4 #[.agg #[.int .i64 a2,.int .i64 a3,.slice a6 a1.length a7]] w fun e w'=>∃ b3:Value,e=.returned (.tuple #[b3,.bool r2])∧Kd.S (Kd.slice 3 (Kd.int .i64)) 26 w' w.heap.size (fun _=>True) b3 r1∧Below w.heap.size w w':=by
 have f4:=Tryz.underlying24;have a9:=am b2;have a8:=am b0;clear b2 b0;have HB:=am (Below.refl w.heap.size w);have H:=h;clear h;unfold Ek.f at H;obtain ⟨t159,A2,H⟩:=bnd H;(try dsimp only at H);(by_cases c3:t159=true)
 ·subst c3;replace H:=yT H;obtain ⟨t160,A4,H⟩:=bnd H;replace H:(some (t160,true))=some (r1,r2):=H;simp only [Option.some.injEq,Prod.mk.injEq] at H;obtain ⟨rfl,rfl⟩:=H;go_enter Tryz.func4,Tryz.ntmps4;(go_wp2_with (first|((with_reducible refine Ag (N:=1) rfl ?_);refine Bd 1 (#[.int .i64 a2,.int .i64 a3,.slice a6 a1.length a7]) 24 ?_;intro b7 hg w5 hbox hb;have a0:=am (hbox);have b5:=am (gz hg HB);have b4:=am (gz hg HB);replace HB:=wb HB hb;clear hb hbox hg;obtain ⟨c1,d0,d1,d8,d9,f0⟩:=cy3 a0)|((with_reducible refine Ad (f:=12) rfl ?_);refine cgo (some 5) Tryz.func12 (As.calls k a2 a3 _ _ a1 true _ ?a4 ?a5 A2.out) ?_;(case a4=>exact upC (Kd.C_below a9.out HB.out));(case a5=>exact a8.out);rintro e w7 ⟨rfl,hb⟩;refine ⟨_,rfl,?_⟩;replace a0:=kb a0 hb;replace HB:=wb HB hb;(try clear hb);obtain ⟨d2,d3,d4,f1,f2,f3⟩:=cy3 a0)|((with_reducible refine Ad (f:=28) rfl ?_);refine cgo (some 8) Tryz.func28 (Ay.calls k a2 a3 _ _ a1 t160 _ ?a4 ?a5 A4.out) ?_;(case a4=>exact upC (Kd.C_below a9.out HB.out));(case a5=>exact a8.out);rintro e w9 ⟨f5,rfl,b1,hb⟩;refine ⟨_,rfl,?_⟩;have b6:=am (Kd.S_lower b1 (Ah (upW HB)));replace a0:=kb a0 hb;replace HB:=wb HB hb;(try clear hb b1))));(go_ret2);exact ⟨_,eqv,by (with_reducible repeat (first|apply Kd.S_alloc|apply Kd.S_drewN|apply Kd.S_drew));exact b6.out,upW HB⟩
 ·replace c3:=Bool.eq_false_iff.mpr c3;subst c3;replace H:=yF H;simp only [Option.some.injEq,Prod.mk.injEq] at H;obtain ⟨rfl,rfl⟩:=H;go_enter Tryz.func4,Tryz.ntmps4;(go_wp2_with (first|((with_reducible refine Ag (N:=1) rfl ?_);refine Bd 1 (#[.int .i64 a2,.int .i64 a3,.slice a6 a1.length a7]) 24 ?_;intro b7 hg f6 hbox hb;have a0:=am (hbox);have b5:=am (gz hg HB);have b4:=am (gz hg HB);replace HB:=wb HB hb;clear hb hbox hg;obtain ⟨b8,b9,c0,d5,d6,d7⟩:=cy3 a0)|((with_reducible refine Ad (f:=12) rfl ?_);refine cgo (some 5) Tryz.func12 (As.calls k a2 a3 _ _ a1 false _ ?a4 ?a5 A2.out) ?_;(case a4=>exact upC (Kd.C_below a9.out HB.out));(case a5=>exact a8.out);rintro e f7 ⟨rfl,hb⟩;refine ⟨_,rfl,?_⟩;replace a0:=kb a0 hb;replace HB:=wb HB hb;(try clear hb))));(go_ret2);exact ⟨_,eqv,by first|exact Kd.S_nil _ _ _ _ _|exact Kd.N_nil _ _ _ _ _|exact Kd.V_nil _ _ _ _ _|exact Kd.Q_nil _ _ _ _ _|exact Kd.R_nil _ _ _ _ _,upW HB⟩

/-! ### Ca: function 56 -/
def Ca.f (a0:Int) (a1:Int) (a2:Int):Option (Bool):=if a0≥a1 then (some (decide (a0≤a2))) else (some false)
set_option maxHeartbeats 8000000 in
set_option maxRecDepth 100000 in
theorem Ca.calls (a0:Int) (a1:Int) (a2:Int) (r:Bool) (w:World) (h:Ca.f a0 a1 a2=some r) :
  Calls Tryz.prog 56 #[.int .i64 a0,.int .i64 a1,.int .i64 a2] w fun e w'=>e=.returned (.bool r)∧Cq w w':=by
 have H:=h;clear h;unfold Ca.f at H;(by_cases c4:a0≥a1)
 ·rw [if_pos c4] at H;have c4b0:=decide_eq_true c4;clear c4;obtain rfl:=Option.some.inj H;go_enter Tryz.func56,Tryz.ntmps56;go_wp2;go_ret;exact ⟨eqw,dz⟩
 ·rw [if_neg c4] at H;have c4b0:=decide_eq_false c4;clear c4;obtain rfl:=Option.some.inj H;go_enter Tryz.func56,Tryz.ntmps56;go_wp2;go_ret;exact ⟨eqw,dz⟩

/-! ### El: function 57 -/
def El.f (a2:Int) (a0:Int) (a4:Int) (a3:Int) (a1:Int) (a5:Int):Option (Bool):=if a0<a1 then (some true) else (if a0=a1 then (some (decide (a2<a3))) else (some false))
set_option maxHeartbeats 8000000 in
set_option maxRecDepth 100000 in
theorem El.calls (a6:Int) (a1:Int) (a7:Int) (a8:Int) (a2:Int) (a9:Int) (r:Bool) (w:World) (h:El.f a6 a1 a7 a8 a2 a9=some r) :
  Calls Tryz.prog 57 #[.agg #[.int .i64 a6,.int .i64 a1,.int .i64 a7],.agg #[.int .i64 a8,.int .i64 a2,.int .i64 a9]] w fun e w'=>e=.returned (.bool r)∧Below w.heap.size w w':=by
 have h7:=Tryz.underlying50;have HB:=am (Below.refl w.heap.size w);have H:=h;clear h;unfold El.f at H;(by_cases c3:a1<a2)
 ·rw [if_pos c3] at H;have c3b0:=decide_eq_true c3;clear c3;obtain rfl:=Option.some.inj H;go_enter Tryz.func57,Tryz.ntmps57;(go_wp2_with (first|((with_reducible refine Ag (N:=2) rfl ?_);refine Bd 2 (#[.int .i64 a6,.int .i64 a1,.int .i64 a7]) 50 ?_;intro b0 hg w4 hbox hb;have a0:=am (hbox);have b4:=am (gz hg HB);have b2:=am (gz hg HB);replace HB:=wb HB hb;clear hb hbox hg)|((with_reducible refine Ag (N:=3) rfl ?_);refine Bd 3 (#[.int .i64 a8,.int .i64 a2,.int .i64 a9]) 50 ?_;intro b1 hg w5 hbox hb;have a3:=am (hbox);have b5:=am (gz hg HB);have b3:=am (gz hg HB);replace HB:=wb HB hb;have a4:=am (gn hg a0);have a5:=am ((by rw [hg];exact Nat.ne_of_gt (Ak (upK a0)):b1≠b0));replace a0:=kb a0 hb;clear hb hbox hg;have h3:=a4.out;have h6:=a5.out;obtain ⟨d6,d7,d8,g4,g5,g6⟩:=cy3 a0;obtain ⟨d9,f0,f1,g7,g8,g9⟩:=cy3 a3)));go_ret;exact ⟨eqv,upW HB⟩
 ·rw [if_neg c3] at H;have c3b0:=decide_eq_false c3;clear c3;(by_cases c9:a1=a2)
  ·rw [if_pos c9] at H;have c9b0:(a1==a2)=true:=beq_iff_eq.mpr c9;have c9b1:(a1 != a2)=false:=bne_eq_false_iff_eq.mpr c9;clear c9;obtain rfl:=Option.some.inj H;go_enter Tryz.func57,Tryz.ntmps57;(go_wp2_with (first|((with_reducible refine Ag (N:=2) rfl ?_);refine Bd 2 (#[.int .i64 a6,.int .i64 a1,.int .i64 a7]) 50 ?_;intro b0 hg h8 hbox hb;have a0:=am (hbox);have b4:=am (gz hg HB);have b2:=am (gz hg HB);replace HB:=wb HB hb;clear hb hbox hg)|((with_reducible refine Ag (N:=3) rfl ?_);refine Bd 3 (#[.int .i64 a8,.int .i64 a2,.int .i64 a9]) 50 ?_;intro b1 hg h9 hbox hb;have a3:=am (hbox);have b5:=am (gz hg HB);have b3:=am (gz hg HB);replace HB:=wb HB hb;have a4:=am (gn hg a0);have a5:=am ((by rw [hg];exact Nat.ne_of_gt (Ak (upK a0)):b1≠b0));replace a0:=kb a0 hb;clear hb hbox hg;have h0:=a4.out;have h4:=a5.out;obtain ⟨b6,b7,b8,f2,f3,f4⟩:=cy3 a0;obtain ⟨b9,c0,c1,f5,f6,f7⟩:=cy3 a3)));go_ret;exact ⟨eqv,upW HB⟩
  ·rw [if_neg c9] at H;have c9b0:(a1==a2)=false:=beq_eq_false_iff_ne.mpr c9;have c9b1:(a1 != a2)=true:=bne_iff_ne.mpr c9;obtain rfl:=Option.some.inj H;go_enter Tryz.func57,Tryz.ntmps57;(go_wp2_with (first|((with_reducible refine Ag (N:=2) rfl ?_);refine Bd 2 (#[.int .i64 a6,.int .i64 a1,.int .i64 a7]) 50 ?_;intro b0 hg i0 hbox hb;have a0:=am (hbox);have b4:=am (gz hg HB);have b2:=am (gz hg HB);replace HB:=wb HB hb;clear hb hbox hg)|((with_reducible refine Ag (N:=3) rfl ?_);refine Bd 3 (#[.int .i64 a8,.int .i64 a2,.int .i64 a9]) 50 ?_;intro b1 hg i1 hbox hb;have a3:=am (hbox);have b5:=am (gz hg HB);have b3:=am (gz hg HB);replace HB:=wb HB hb;have a4:=am (gn hg a0);have a5:=am ((by rw [hg];exact Nat.ne_of_gt (Ak (upK a0)):b1≠b0));replace a0:=kb a0 hb;clear hb hbox hg;have h2:=a4.out;have h5:=a5.out;obtain ⟨d0,d1,d2,f8,f9,g0⟩:=cy3 a0;obtain ⟨d3,d4,d5,g1,g2,g3⟩:=cy3 a3)));go_ret;exact ⟨eqv,upW HB⟩

end Go.Proofs.YtgeahghdikdamaaGreat.PFnCodesToldOfAll
