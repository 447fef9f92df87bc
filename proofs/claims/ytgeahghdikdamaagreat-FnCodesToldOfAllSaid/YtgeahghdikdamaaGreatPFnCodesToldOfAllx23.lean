-- made for this claim by a program of this session
import Derived.Test.YtgeahghdikdamaaGreatPFnCodesToldOfAllx0
import Derived.Test.YtgeahghdikdamaaGreatPFnCodesToldOfAllx5
import Derived.Test.YtgeahghdikdamaaGreatPFnCodesToldOfAllx6
import Derived.Test.YtgeahghdikdamaaGreatPFnCodesToldOfAllx7
import Derived.Test.YtgeahghdikdamaaGreatPFnCodesToldOfAllx22
namespace Go.Proofs.YtgeahghdikdamaaGreat.PFnCodesToldOfAll
open Go.RowKit Go.Proofs.YtgeahghdikdamaaGreatW.PrintWords Go.Proofs.YtgeahghdikdamaaGreatW.PrintLast Go.Proofs.YtgeahghdikdamaaGreatW.PrintMore
attribute [local go_sem] Dn Do D2 D3 Da Db Dp Dq -- for this text's walks alone
set_option linter.unusedVariables false
set_option linter.unusedSimpArgs false

/-! ### Bl: function 26 -/
mutual
def Bl.j0:Nat→Int→Bool→Int→Int→List (S50)→Option (Int×Bool)
 | 0,_,_,_,_,_=>none
 | k+1,x1,a4,a5,a6,a7=>if a4=true then (some (0,false)) else ((Bj.f k a5 a6 a7).bind fun a2=>(Bl.l0 k x1 a2 (a2.length:Int) 0))
def Bl.l0:Nat→Int→List (List Int)→Int→Int→Option (Int×Bool)
 | 0,_,_,_,_=>none
 | k+1,x1,a1,a3,a0=>if a0<a3 then (if 0≤a0 then (if a0<(a1.length:Int) then (if x1<((Az a1 a0).length:Int) then (some (a0,true)) else (Bl.l0 k (wrap64 (x1-((Az a1 a0).length:Int))) a1 a3 (wrap64 (a0+1)))) else (none)) else (none)) else (some (0,false))
end
def Bl.f (k:Nat) (a2:Int) (a3:Int) (a0:List (S50)) (a1:Int):Option (Int×Bool):=(At.f k a2 a3 a0).bind fun a4=>(if a4=true then ((Ca.f a1 0 (wrap64 ((a0.length:Int)-1))).bind fun a5=>(Bl.j0 k a1 (!a5) a2 a3 a0)) else (Bl.j0 k a1 true a2 a3 a0))
set_option maxHeartbeats 8000000 in
set_option maxRecDepth 100000 in
theorem Bl.calls (k:Nat) (a6:Int) (a7:Int) (b4:Option Addr) (b5:Nat) (a3:List (S50)) (a1:Int) (r1:Int) (r2:Bool) (w:World) (f8:Kd.C k50 w b4 a3.length a3) (f6:a3.length≤b5) (h:Bl.f k a6 a7 a3 a1=some (r1,r2)) :
  Calls Tryz.prog 26 #[.agg #[.int .i64 a6,.int .i64 a7,.slice b4 a3.length b5],.int .i64 a1] w fun e w'=>e=.returned (.tuple #[.int .i64 r1,.bool r2])∧Below w.heap.size w w':=by
 have l5:=Tryz.underlying24;have d4:=am f8;have d2:=am f6;clear f8 f6;have HB:=am (Below.refl w.heap.size w);have H:=h;clear h;unfold Bl.f at H;have d3:=am H;clear H;go_enter Tryz.func26,Tryz.ntmps26;(go_upto_region 1 with (first|((with_reducible refine Ag (N:=2) rfl ?_);(try (refine Cn (by rfl) ?_;dsimp only));refine Bd 2 (#[.int .i64 a6,.int .i64 a7,.slice b4 a3.length b5]) 24 ?_;intro f5 hg w4 hbox hb;have a2:=am (hbox);have i2:=am (gz hg HB);have i1:=am (gz hg HB);replace HB:=wb HB hb;clear hb hbox hg)));(try simp only [Act.put,List.setIfInBounds_toArray,List.set_cons_zero,List.set_cons_succ]);(go_cut [19] (fun h9 wc=>∃ (kq:Nat) (d1:Bool),h9=.bool d1∧Ab (Bl.j0 kq a1 d1 a6 a7 a3=some (r1,r2))∧Ab (kq≤k)∧Ab (wc.heap[f5]? = some (.cells #[.int .i64 a6,.int .i64 a7,(.slice b4 a3.length b5)] 24 (0,0)))∧Ab (Below w.heap.size w wc)))
 case first =>
  have H:=d3.out;clear d3;obtain ⟨h8,A5,H⟩:=bnd H;(try dsimp only at H);(by_cases c6:h8=true)
  ·subst c6;replace H:=yT H;obtain ⟨f9,A7,H⟩:=bnd H;(try dsimp only at H);have H':=am H;clear H;obtain ⟨i9,j3,j9,k7,k8,k9⟩:=cy3 a2;(go_wp2_with (first|((with_reducible refine Ad (f:=29) rfl ?_);refine cgo (some 9) Tryz.func29 (At.calls k a6 a7 _ _ a3 true _ ?b9 ?c0 A5.out) ?_;(case b9=>exact upC (Kd.C_below d4.out HB.out));(case c0=>exact d2.out);rintro e w9 ⟨rfl,hb⟩;refine ⟨_,rfl,?_⟩;replace a2:=kb a2 hb;replace HB:=wb HB hb;(try clear hb);obtain ⟨i3,i4,i5,k0,k1,k3⟩:=cy3 a2)|(go_at_call 56;(with_reducible refine (Ca.calls a1 0 (wrap64 ((a3.length:Int)-1)) f9 _ A7.out).mono ?_);rintro e w' ⟨rfl,⟨nd,rfl⟩⟩)));(go_meet);(case rel=>exact ⟨_,(!f9),(eqw),H',⟨by first|omega|exact Nat.le_refl _⟩,⟨upK a2⟩,⟨upW HB⟩⟩)
  ·replace c6:=Bool.eq_false_iff.mpr c6;subst c6;replace H:=yF H;have H':=am H;clear H;obtain ⟨i6,i7,i8,k4,k5,k6⟩:=cy3 a2;(go_wp2_with (first|((with_reducible refine Ad (f:=29) rfl ?_);refine cgo (some 9) Tryz.func29 (At.calls k a6 a7 _ _ a3 false _ ?b9 ?c0 A5.out) ?_;(case b9=>exact upC (Kd.C_below d4.out HB.out));(case c0=>exact d2.out);rintro e l7 ⟨rfl,hb⟩;refine ⟨_,rfl,?_⟩;replace a2:=kb a2 hb;replace HB:=wb HB hb;(try clear hb))));(go_meet);(case rel=>exact ⟨_,(true),(eqw),H',⟨by first|omega|exact Nat.le_refl _⟩,⟨upK a2⟩,⟨upW HB⟩⟩)
 case rest =>
  clear d3;obtain ⟨kq,d1,rfl,HA,f0,a2,HB⟩:=hcut
  cases kq with
  | zero=>exact absurd HA.out (by simp [Bl.j0])
  | succ d9 =>
   have H:=HA.out;clear HA;simp only [Bl.j0] at H;(by_cases d0:d1=true)
   ·subst d0;replace H:=yT H;simp only [Option.some.injEq,Prod.mk.injEq] at H;obtain ⟨rfl,rfl⟩:=H;go_wp2;(go_ret2);exact ⟨eqv,upW HB⟩
   ·replace d0:=Bool.eq_false_iff.mpr d0;subst d0;replace H:=yF H;obtain ⟨a4,g0,H⟩:=bnd H;(try dsimp only at H);have H':=am H;clear H;obtain ⟨h2,h3,h4,h5,h6,h7⟩:=cy3 a2;(go_wp2_with (first|((with_reducible refine Ad (f:=30) rfl ?_);refine cgo (some 21) Tryz.func30 (Bj.calls d9 a6 a7 _ _ a3 a4 _ ?b9 ?c0 g0.out) ?_;(case b9=>exact upC (Kd.C_below d4.out HB.out));(case c0=>exact d2.out);rintro e l8 ⟨l6,rfl,f7,hb⟩;refine ⟨_,rfl,?_⟩;have f2:=am (Kd.S_lower f7 (Ah (upW HB)));replace a2:=kb a2 hb;replace HB:=wb HB hb;(try clear hb f7);obtain ⟨g2,g9,h0⟩:=Kd.S_slice f2.out;subst h0)));(try simp only [Act.put,List.setIfInBounds_toArray,List.set_cons_succ,List.set_cons_zero]);(go_loopg [1,23] d9 (fun kq v1 v23 w'=>∃ (c1:Int) (a0:Int),v1=.int .i64 c1∧v23=.int .i64 a0∧Ab (Bl.l0 kq c1 a4 (a4.length:Int) a0=some (r1,r2))∧Ab (kq≤d9)∧Ab (Kd.S (Kd.slice 3 (Kd.int .i64)) 26 w' w.heap.size (fun _=>True) (.slice g2 a4.length g9) a4)∧Ab (w'.heap[f5]? = some (.cells #[.int .i64 a6,.int .i64 a7,(.slice b4 a3.length b5)] 24 (0,0)))∧Ab (Below w.heap.size w w')));(case atStart=>exact ⟨(a1),(0),(eqw),(eqw),H',⟨Nat.le_refl _⟩,⟨by (with_reducible repeat (first|apply Kd.S_alloc|apply Kd.S_drewN|apply Kd.S_drew));exact f2.out⟩,⟨upK a2⟩,⟨upW HB⟩⟩)
    case round =>
     clear H';(try clear h2 h3 h4 h5 h6 h7);obtain ⟨c1,a0,rfl,rfl,HA,f1,b0,a2,HB⟩:=hrel
     cases gk with
     | zero=>exact absurd HA.out (by simp [Bl.l0])
     | succ k2 =>
      have H:=HA.out;clear HA;simp only [Bl.l0] at H;(by_cases b2:a0<(a4.length:Int))
      ·rw [if_pos b2] at H;have c18b0:=decide_eq_true b2;clear b2;obtain ⟨f3,H⟩:=ip H;have c19b0:=decide_eq_true f3;clear f3;obtain ⟨f4,H⟩:=ip H;have c20b0:=decide_eq_true f4;clear f4;(by_cases b3:c1<((Az a4 a0).length:Int))
       ·rw [if_pos b3] at H;have c21b0:=decide_eq_true b3;clear b3;simp only [Option.some.injEq,Prod.mk.injEq] at H;obtain ⟨rfl,rfl⟩:=H;have a8:0≤(a0:Int):=oda;have a9:a0<(a4.length:Int):=oda;obtain ⟨g6,g1,g7,d5,d8,b8,b7⟩:=D6 (Kd.S_reads' b0.out).2.2 a0 a8 a9;cases d5;obtain ⟨g8,d7,d6,b6⟩:=Kd.S_get b0.out [] a0 a8 (by first|exact a9|exact oda|(have e_:=(Kd.S_reads' b0.out).1;omega));obtain ⟨i0,rfl,b1⟩:=d6;have a5:=b6 0 _ rfl;rw [Nat.add_zero,show ((Kd.slice 3 (Kd.int .i64))).sz=1 from rfl,Nat.mul_one] at a5;replace a5:=Option.some.inj (a5.symm.trans d8);rw [a5] at b1;have g4:=am (show Kd.R (Kd.int .i64) 3 _ _ _ _ (Az a4 a0) from b1);clear a5 b1;clear b6 d7;have g5:=am b7;have g3:=am b8;clear b7 b8;replace a8:=eq_true a8;replace a9:=eq_true a9;go_wp2;(go_ret2);exact ⟨eqv,upW HB⟩
       ·rw [if_neg b3] at H;have c21b0:=decide_eq_false b3;clear b3;have H':=am H;clear H;have a8:0≤(a0:Int):=oda;have a9:a0<(a4.length:Int):=oda;obtain ⟨g6,g1,g7,d5,d8,b8,b7⟩:=D6 (Kd.S_reads' b0.out).2.2 a0 a8 a9;cases d5;obtain ⟨g8,d7,d6,b6⟩:=Kd.S_get b0.out [] a0 a8 (by first|exact a9|exact oda|(have e_:=(Kd.S_reads' b0.out).1;omega));obtain ⟨i0,rfl,b1⟩:=d6;have a5:=b6 0 _ rfl;rw [Nat.add_zero,show ((Kd.slice 3 (Kd.int .i64))).sz=1 from rfl,Nat.mul_one] at a5;replace a5:=Option.some.inj (a5.symm.trans d8);rw [a5] at b1;have g4:=am (show Kd.R (Kd.int .i64) 3 _ _ _ _ (Az a4 a0) from b1);clear a5 b1;clear b6 d7;have g5:=am b7;have g3:=am b8;clear b7 b8;replace a8:=eq_true a8;replace a9:=eq_true a9;go_wp2;go_roundg k2;(case measure=>have:=f0.out;have:=f1.out;omega);(case rel=>exact ⟨(wrap64 (c1-((Az a4 a0).length:Int))),(wrap64 (a0+1)),(eqw),(eqw),H',⟨by have:=f0.out;have:=f1.out;omega⟩,⟨by (with_reducible repeat (first|apply Kd.S_alloc|apply Kd.S_drewN|apply Kd.S_drew));exact b0.out⟩,⟨upK a2⟩,⟨upW HB⟩⟩)
      ·rw [if_neg b2] at H;have c18b0:=decide_eq_false b2;clear b2;simp only [Option.some.injEq,Prod.mk.injEq] at H;obtain ⟨rfl,rfl⟩:=H;go_wp2;(go_ret2);exact ⟨eqv,upW HB⟩

/-! ### Ge: function 27 -/
def Ge.f (k:Nat) (l0:List (List Int)):Option (Bool):=(Cs.f k l0).bind fun a0=>(some a0.2.2.2)
set_option maxHeartbeats 8000000 in
set_option maxRecDepth 100000 in
theorem Ge.calls (k:Nat) (A0:Option Addr) (c0:Nat) (l0:List (List Int)) (r:Bool) (w:World) (a3:Kd.C (Kd.slice 3 (Kd.int .i64)) w A0 l0.length l0) (a1:l0.length≤c0) (h:Ge.f k l0=some r) :
  Calls Tryz.prog 27 #[.slice A0 l0.length c0] w fun e w'=>e=.returned (.bool r)∧Below w.heap.size w w':=by
 have d4:=Tryz.underlying24;have a7:=am a3;have a6:=am a1;clear a3 a1;have HB:=am (Below.refl w.heap.size w);have H:=h;clear h;unfold Ge.f at H;obtain ⟨⟨b1,b2,b3,a4⟩,A2,H⟩:=bnd H;replace H:(some a4)=some r:=H;obtain rfl:=Option.some.inj H;go_enter Tryz.func27,Tryz.ntmps27;(go_wp2_with (first|((with_reducible refine Ad (f:=54) rfl ?_);refine cgo (some 7) Tryz.func54 (Cs.calls k _ _ l0 b1 b2 b3 a4 _ ?a9 ?b0 A2.out) ?_;(case a9=>exact upC a7.out);(case b0=>exact a6.out);rintro e w3 ⟨d5,rfl,a2,hb⟩;refine ⟨_,rfl,?_⟩;have a0:=am (Kd.R_lower a2 (Ah (upW HB)));replace HB:=wb HB hb;(try clear hb a2))|((with_reducible refine Ag (N:=3) rfl ?_);refine Bd 3 (#[.int .i64 0,.int .i64 0,.slice none 0 0]) 24 ?_;intro b8 hg w4 hbox hb;replace a0:=rb a0 hb;have a5:=am (hbox);have b6:=am (gz hg HB);have b5:=am (gz hg HB);replace HB:=wb HB hb;clear hb hbox hg;obtain ⟨b9,c1,d0,d1,d2,d3⟩:=cy3 a5;obtain ⟨b4,b7,a8⟩:=Kd.R_slice a0.out;subst a8)));go_ret;exact ⟨eqv,upW HB⟩

end Go.Proofs.YtgeahghdikdamaaGreat.PFnCodesToldOfAll
