-- made for this claim by a program of this session
import Derived.Test.YteaomckihokakaaPFnCutsFillOfAllx0
namespace Go.Proofs.Yteaomckihokakaa.PFnCutsFillOfAll
open Go.RowKit Go.Proofs.YteaomckihokakaaW.PrintWords Go.Proofs.YteaomckihokakaaW.PrintLast Go.Proofs.YteaomckihokakaaW.PrintMore
attribute [local go_sem] C7 C8 Dp Dq Cx Cy C9 Da -- for this text's walks alone
set_option linter.unusedVariables false
set_option linter.unusedSimpArgs false

/-! ### Ca: function 27 -/
def Ca.l0:Nat→List Int→List Int→Int→Int→Option (Bool)
 | 0,_,_,_,_=>none
 | k+1,x0,x1,x12,x13=>if x13<x12 then (if 0≤x13 then (if x13<(x0.length:Int) then (if x13<(x1.length:Int) then (if (rd x0 x13)=(rd x1 x13) then (Ca.l0 k x0 x1 x12 (wrap64 (x13+1))) else (some false)) else (none)) else (none)) else (none)) else (some true)
def Ca.f (k:Nat) (l0:List Int) (l1:List Int):Option (Bool):=if (l0.length:Int)=(l1.length:Int) then (Ca.l0 k l0 l1 (l0.length:Int) 0) else (some false)
set_option maxHeartbeats 8000000 in
set_option maxRecDepth 100000 in
theorem Ca.calls (k:Nat) (A0:Option Addr) (c0:Nat) (l0:List Int) (A1:Option Addr) (c1:Nat) (l1:List Int) (r:Bool) (w:World) (hr0:Kd.C (Kd.int .i64) w A0 l0.length l0) (hc0:l0.length≤c0) (hr1:Kd.C (Kd.int .i64) w A1 l1.length l1) (hc1:l1.length≤c1) (h:Ca.f k l0 l1=some r) :
  Calls Try.prog 27 #[.slice A0 l0.length c0,.slice A1 l1.length c1] w fun e w'=>e=.returned (.bool r)∧Di w w':=by
 have HR0:=am hr0;have HC0:=am hc0;clear hr0 hc0;have HR1:=am hr1;have HC1:=am hc1;clear hr1 hc1;have H:=h;clear h;unfold Ca.f at H;(by_cases c3:(l0.length:Int)=(l1.length:Int))
 ·rw [if_pos c3] at H;have c3b0:((l0.length:Int)==(l1.length:Int))=true:=beq_iff_eq.mpr c3;have c3b1:((l0.length:Int) != (l1.length:Int))=false:=bne_eq_false_iff_eq.mpr c3;(have c3b2:(l0.length==l1.length)=true:=by first|simpa using c3|(simp at c3 ⊢;omega));clear c3;have H':=am H;clear H;go_enter Try.func27,Try.ntmps27;go_wp2;(repeat (go_quiet (fail);try go_wp2));(go_loopg [13] k (fun kq v13 w'=>∃ (x13_1:Int),v13=.int .i64 x13_1∧Ab (Ca.l0 kq l0 l1 (l0.length:Int) x13_1=some r)∧Ab (kq≤k)∧Di w w'));(case atStart=>exact ⟨(0),(eqw),H',⟨Nat.le_refl _⟩,dz⟩)
  case round =>
   clear H';(try clear c3b0 c3b1 c3b2);obtain ⟨x13_1,rfl,HA,HK1,⟨m1,rfl⟩⟩:=hrel
   cases gk with
   | zero=>exact absurd HA.out (by simp [Ca.l0])
   | succ k1 =>
    have H:=HA.out;clear HA;simp only [Ca.l0] at H;(by_cases c4:x13_1<(l0.length:Int))
    ·rw [if_pos c4] at H;have c4b0:=decide_eq_true c4;clear c4;obtain ⟨c5,H⟩:=ip H;have c5b0:=decide_eq_true c5;clear c5;obtain ⟨c6,H⟩:=ip H;have c6b0:=decide_eq_true c6;clear c6;obtain ⟨c7,H⟩:=ip H;have c7b0:=decide_eq_true c7;clear c7;(by_cases c8:(rd l0 x13_1)=(rd l1 x13_1))
     ·rw [if_pos c8] at H;have c8b0:((rd l0 x13_1)==(rd l1 x13_1))=true:=beq_iff_eq.mpr c8;have c8b1:((rd l0 x13_1) != (rd l1 x13_1))=false:=bne_eq_false_iff_eq.mpr c8;clear c8;have H':=am H;clear H;have p101:0≤(x13_1:Int):=oda;have q101:x13_1<(l0.length:Int):=oda;obtain ⟨ad101,e101,hx101_0⟩:=Kd.at_int HR0.out x13_1 p101 q101;cases e101;replace p101:=eq_true p101;replace q101:=eq_true q101;have p102:0≤(x13_1:Int):=oda;have q102:x13_1<(l1.length:Int):=oda;obtain ⟨ad102,e102,hx102_0⟩:=Kd.at_int HR1.out x13_1 p102 q102;cases e102;replace p102:=eq_true p102;replace q102:=eq_true q102;go_wp2;(repeat (go_quiet (fail);try go_wp2));go_roundg k1;(case measure=>have:=HK1.out;omega);(case rel=>exact ⟨(wrap64 (x13_1+1)),(eqw),H',⟨by have:=HK1.out;omega⟩,dz⟩)
     ·rw [if_neg c8] at H;have c8b0:((rd l0 x13_1)==(rd l1 x13_1))=false:=beq_eq_false_iff_ne.mpr c8;have c8b1:((rd l0 x13_1) != (rd l1 x13_1))=true:=bne_iff_ne.mpr c8;obtain rfl:=Option.some.inj H;have p101:0≤(x13_1:Int):=oda;have q101:x13_1<(l0.length:Int):=oda;obtain ⟨ad101,e101,hx101_0⟩:=Kd.at_int HR0.out x13_1 p101 q101;cases e101;replace p101:=eq_true p101;replace q101:=eq_true q101;have p102:0≤(x13_1:Int):=oda;have q102:x13_1<(l1.length:Int):=oda;obtain ⟨ad102,e102,hx102_0⟩:=Kd.at_int HR1.out x13_1 p102 q102;cases e102;replace p102:=eq_true p102;replace q102:=eq_true q102;go_wp2;(repeat (go_quiet (fail);try go_wp2));go_ret;exact ⟨eqw,dz⟩
    ·rw [if_neg c4] at H;have c4b0:=decide_eq_false c4;clear c4;obtain rfl:=Option.some.inj H;go_wp2;(repeat (go_quiet (fail);try go_wp2));go_ret;exact ⟨eqw,dz⟩
 ·rw [if_neg c3] at H;have c3b0:((l0.length:Int)==(l1.length:Int))=false:=beq_eq_false_iff_ne.mpr c3;have c3b1:((l0.length:Int) != (l1.length:Int))=true:=bne_iff_ne.mpr c3;(have c3b2:(l0.length==l1.length)=false:=by first|simpa using c3|(simp at c3 ⊢;omega));obtain rfl:=Option.some.inj H;go_enter Try.func27,Try.ntmps27;go_wp2;(repeat (go_quiet (fail);try go_wp2));go_ret;exact ⟨eqw,dz⟩

/-! ### Dh: function 37 -/
def Dh.l0:Nat→List (List Int)→List (List Int)→Int→Int→Option (Bool)
 | 0,_,_,_,_=>none
 | k+1,x0,x1,x12,x13=>if x13<x12 then (if 0≤x13 then (if x13<(x0.length:Int) then (if x13<(x1.length:Int) then ((Ca.f k (As x0 x13) (As x1 x13)).bind fun t105=>(if t105=true then (Dh.l0 k x0 x1 x12 (wrap64 (x13+1))) else (some false))) else (none)) else (none)) else (none)) else (some true)
def Dh.f (k:Nat) (l0:List (List Int)) (l1:List (List Int)):Option (Bool):=if (l0.length:Int)=(l1.length:Int) then (Dh.l0 k l0 l1 (l0.length:Int) 0) else (some false)
set_option maxHeartbeats 8000000 in
set_option maxRecDepth 100000 in
theorem Dh.calls (k:Nat) (A0:Option Addr) (c0:Nat) (l0:List (List Int)) (A1:Option Addr) (c1:Nat) (l1:List (List Int)) (r:Bool) (w:World) (hr0:Kd.C (Kd.slice 3 (Kd.int .i64)) w A0 l0.length l0) (hc0:l0.length≤c0) (hr1:Kd.C (Kd.slice 3 (Kd.int .i64)) w A1 l1.length l1) (hc1:l1.length≤c1) (h:Dh.f k l0 l1=some r) :
  Calls Try.prog 37 #[.slice A0 l0.length c0,.slice A1 l1.length c1] w fun e w'=>e=.returned (.bool r)∧Di w w':=by
 have HR0:=am hr0;have HC0:=am hc0;clear hr0 hc0;have HR1:=am hr1;have HC1:=am hc1;clear hr1 hc1;have H:=h;clear h;unfold Dh.f at H;(by_cases c3:(l0.length:Int)=(l1.length:Int))
 ·rw [if_pos c3] at H;have c3b0:((l0.length:Int)==(l1.length:Int))=true:=beq_iff_eq.mpr c3;have c3b1:((l0.length:Int) != (l1.length:Int))=false:=bne_eq_false_iff_eq.mpr c3;(have c3b2:(l0.length==l1.length)=true:=by first|simpa using c3|(simp at c3 ⊢;omega));clear c3;have H':=am H;clear H;go_enter Try.func37,Try.ntmps37;go_wp2;(repeat (go_quiet (fail);try go_wp2));(go_loopg [13] k (fun kq v13 w'=>∃ (x13_1:Int),v13=.int .i64 x13_1∧Ab (Dh.l0 kq l0 l1 (l0.length:Int) x13_1=some r)∧Ab (kq≤k)∧Di w w'));(case atStart=>exact ⟨(0),(eqw),H',⟨Nat.le_refl _⟩,dz⟩)
  case round =>
   clear H';(try clear c3b0 c3b1 c3b2);obtain ⟨x13_1,rfl,HA,HK1,⟨m1,rfl⟩⟩:=hrel
   cases gk with
   | zero=>exact absurd HA.out (by simp [Dh.l0])
   | succ k1 =>
    have H:=HA.out;clear HA;simp only [Dh.l0] at H;(by_cases c4:x13_1<(l0.length:Int))
    ·rw [if_pos c4] at H;have c4b0:=decide_eq_true c4;clear c4;obtain ⟨c5,H⟩:=ip H;have c5b0:=decide_eq_true c5;clear c5;obtain ⟨c6,H⟩:=ip H;have c6b0:=decide_eq_true c6;clear c6;obtain ⟨c7,H⟩:=ip H;have c7b0:=decide_eq_true c7;clear c7;obtain ⟨t105,A8,H⟩:=bnd H;(try dsimp only at H);(by_cases c9:t105=true)
     ·subst c9;replace H:=yT H;have H':=am H;clear H;have p103:0≤(x13_1:Int):=oda;have q103:x13_1<(l0.length:Int):=oda;obtain ⟨ad103,A103_0,c103_0,e103,hx103_0,hl103_0,hi103_0⟩:=I9 HR0.out x13_1 p103 q103;cases e103;have HR103_0:=am hi103_0;have HC103_0:=am hl103_0;clear hi103_0 hl103_0;replace p103:=eq_true p103;replace q103:=eq_true q103;have p104:0≤(x13_1:Int):=oda;have q104:x13_1<(l1.length:Int):=oda;obtain ⟨ad104,A104_0,c104_0,e104,hx104_0,hl104_0,hi104_0⟩:=I9 HR1.out x13_1 p104 q104;cases e104;have HR104_0:=am hi104_0;have HC104_0:=am hl104_0;clear hi104_0 hl104_0;replace p104:=eq_true p104;replace q104:=eq_true q104;(go_wp2_with (first|(go_at_call 27;(with_reducible refine (Ca.calls k1 _ _ (As l0 x13_1) _ _ (As l1 x13_1) true _ ?side1 ?side2 ?side3 ?side4 A8.out).mono ?_);(case side1=>exact upC HR103_0.out);(case side2=>exact HC103_0.out);(case side3=>exact upC HR104_0.out);(case side4=>exact HC104_0.out);rintro e w' ⟨rfl,⟨nd,rfl⟩⟩;(try first|exact ⟨rfl,_,World.drewN_drewN _ _ _⟩|exact ⟨rfl,_,Eq.trans (World.drewN_drewN _ _ _) (congrArg (World.drewN _) (Nat.add_assoc _ _ _))⟩))));(repeat (go_quiet (first|(go_at_call 27;(with_reducible refine (Ca.calls k1 _ _ (As l0 x13_1) _ _ (As l1 x13_1) true _ ?side1 ?side2 ?side3 ?side4 A8.out).mono ?_);(case side1=>exact upC HR103_0.out);(case side2=>exact HC103_0.out);(case side3=>exact upC HR104_0.out);(case side4=>exact HC104_0.out);rintro e w' ⟨rfl,⟨nd,rfl⟩⟩;(try first|exact ⟨rfl,_,World.drewN_drewN _ _ _⟩|exact ⟨rfl,_,Eq.trans (World.drewN_drewN _ _ _) (congrArg (World.drewN _) (Nat.add_assoc _ _ _))⟩)));try go_wp2_with (first|(go_at_call 27;(with_reducible refine (Ca.calls k1 _ _ (As l0 x13_1) _ _ (As l1 x13_1) true _ ?side1 ?side2 ?side3 ?side4 A8.out).mono ?_);(case side1=>exact upC HR103_0.out);(case side2=>exact HC103_0.out);(case side3=>exact upC HR104_0.out);(case side4=>exact HC104_0.out);rintro e w' ⟨rfl,⟨nd,rfl⟩⟩;(try first|exact ⟨rfl,_,World.drewN_drewN _ _ _⟩|exact ⟨rfl,_,Eq.trans (World.drewN_drewN _ _ _) (congrArg (World.drewN _) (Nat.add_assoc _ _ _))⟩)))));go_roundg k1;(case measure=>have:=HK1.out;omega);(case rel=>exact ⟨(wrap64 (x13_1+1)),(eqw),H',⟨by have:=HK1.out;omega⟩,dz⟩)
     ·replace c9:=Bool.eq_false_iff.mpr c9;subst c9;replace H:=yF H;obtain rfl:=Option.some.inj H;have p103:0≤(x13_1:Int):=oda;have q103:x13_1<(l0.length:Int):=oda;obtain ⟨ad103,A103_0,c103_0,e103,hx103_0,hl103_0,hi103_0⟩:=I9 HR0.out x13_1 p103 q103;cases e103;have HR103_0:=am hi103_0;have HC103_0:=am hl103_0;clear hi103_0 hl103_0;replace p103:=eq_true p103;replace q103:=eq_true q103;have p104:0≤(x13_1:Int):=oda;have q104:x13_1<(l1.length:Int):=oda;obtain ⟨ad104,A104_0,c104_0,e104,hx104_0,hl104_0,hi104_0⟩:=I9 HR1.out x13_1 p104 q104;cases e104;have HR104_0:=am hi104_0;have HC104_0:=am hl104_0;clear hi104_0 hl104_0;replace p104:=eq_true p104;replace q104:=eq_true q104;(go_wp2_with (first|(go_at_call 27;(with_reducible refine (Ca.calls k1 _ _ (As l0 x13_1) _ _ (As l1 x13_1) false _ ?side1 ?side2 ?side3 ?side4 A8.out).mono ?_);(case side1=>exact upC HR103_0.out);(case side2=>exact HC103_0.out);(case side3=>exact upC HR104_0.out);(case side4=>exact HC104_0.out);rintro e w' ⟨rfl,⟨nd,rfl⟩⟩;(try first|exact ⟨rfl,_,World.drewN_drewN _ _ _⟩|exact ⟨rfl,_,Eq.trans (World.drewN_drewN _ _ _) (congrArg (World.drewN _) (Nat.add_assoc _ _ _))⟩))));(repeat (go_quiet (first|(go_at_call 27;(with_reducible refine (Ca.calls k1 _ _ (As l0 x13_1) _ _ (As l1 x13_1) false _ ?side1 ?side2 ?side3 ?side4 A8.out).mono ?_);(case side1=>exact upC HR103_0.out);(case side2=>exact HC103_0.out);(case side3=>exact upC HR104_0.out);(case side4=>exact HC104_0.out);rintro e w' ⟨rfl,⟨nd,rfl⟩⟩;(try first|exact ⟨rfl,_,World.drewN_drewN _ _ _⟩|exact ⟨rfl,_,Eq.trans (World.drewN_drewN _ _ _) (congrArg (World.drewN _) (Nat.add_assoc _ _ _))⟩)));try go_wp2_with (first|(go_at_call 27;(with_reducible refine (Ca.calls k1 _ _ (As l0 x13_1) _ _ (As l1 x13_1) false _ ?side1 ?side2 ?side3 ?side4 A8.out).mono ?_);(case side1=>exact upC HR103_0.out);(case side2=>exact HC103_0.out);(case side3=>exact upC HR104_0.out);(case side4=>exact HC104_0.out);rintro e w' ⟨rfl,⟨nd,rfl⟩⟩;(try first|exact ⟨rfl,_,World.drewN_drewN _ _ _⟩|exact ⟨rfl,_,Eq.trans (World.drewN_drewN _ _ _) (congrArg (World.drewN _) (Nat.add_assoc _ _ _))⟩)))));go_ret;exact ⟨eqw,dz⟩
    ·rw [if_neg c4] at H;have c4b0:=decide_eq_false c4;clear c4;obtain rfl:=Option.some.inj H;go_wp2;(repeat (go_quiet (fail);try go_wp2));go_ret;exact ⟨eqw,dz⟩
 ·rw [if_neg c3] at H;have c3b0:((l0.length:Int)==(l1.length:Int))=false:=beq_eq_false_iff_ne.mpr c3;have c3b1:((l0.length:Int) != (l1.length:Int))=true:=bne_iff_ne.mpr c3;(have c3b2:(l0.length==l1.length)=false:=by first|simpa using c3|(simp at c3 ⊢;omega));obtain rfl:=Option.some.inj H;go_enter Try.func37,Try.ntmps37;go_wp2;(repeat (go_quiet (fail);try go_wp2));go_ret;exact ⟨eqw,dz⟩

/-! ### Bw: function 64 -/
def Bw.f (a0:Int) (a1:Int) (a2:Int):Option (Bool):=if a1≤a0 then (some (decide (a0≤a2))) else (some false)
set_option maxHeartbeats 8000000 in
set_option maxRecDepth 100000 in
theorem Bw.calls (a0:Int) (a1:Int) (a2:Int) (r:Bool) (w:World) (h:Bw.f a0 a1 a2=some r) :
  Calls Try.prog 64 #[.int .i64 a0,.int .i64 a1,.int .i64 a2] w fun e w'=>e=.returned (.bool r)∧Di w w':=by
 have H:=h;clear h;unfold Bw.f at H;(by_cases c4:a1≤a0)
 ·rw [if_pos c4] at H;have c4b0:=decide_eq_true c4;clear c4;obtain rfl:=Option.some.inj H;go_enter Try.func64,Try.ntmps64;go_wp2;go_ret;exact ⟨eqw,dz⟩
 ·rw [if_neg c4] at H;have c4b0:=decide_eq_false c4;clear c4;obtain rfl:=Option.some.inj H;go_enter Try.func64,Try.ntmps64;go_wp2;go_ret;exact ⟨eqw,dz⟩

/-! ### Ds: function 99 -/
def Ds.f (a0:Int):Option (Bool):=(Bw.f a0 1 500).bind fun t106=>(some t106)
set_option maxHeartbeats 8000000 in
set_option maxRecDepth 100000 in
theorem Ds.calls (a0:Int) (r:Bool) (w:World) (h:Ds.f a0=some r) :
  Calls Try.prog 99 #[.int .i64 a0] w fun e w'=>e=.returned (.bool r)∧Di w w':=by
 have H:=h;clear h;unfold Ds.f at H;obtain ⟨t106,A2,H⟩:=bnd H;replace H:(some t106)=some r:=H;obtain rfl:=Option.some.inj H;go_enter Try.func99,Try.ntmps99;(go_wp2_with (first|((with_reducible refine Ah (f:=64) rfl ?_);refine cgo (some 4) Try.func64 (Bw.calls a0 1 500 t106 _ A2.out) ?_;rintro e w' ⟨rfl,⟨nd,rfl⟩⟩;refine ⟨_,rfl,?_⟩)));go_ret;exact ⟨eqw,dz⟩

/-! ### Az: function 100 -/
def Az.f (a0_0:Int) (a0_1:Int) (a0_2:Int) (a1_0:Int) (a1_1:Int) (a1_2:Int):Option (Int):=if a0_1=a1_1 then (some (wrap64 (a0_0-a1_0))) else (some (wrap64 (a0_1-a1_1)))
set_option maxHeartbeats 8000000 in
set_option maxRecDepth 100000 in
theorem Az.calls (a0_0:Int) (a0_1:Int) (a0_2:Int) (a1_0:Int) (a1_1:Int) (a1_2:Int) (r:Int) (w:World) (h:Az.f a0_0 a0_1 a0_2 a1_0 a1_1 a1_2=some r) :
  Calls Try.prog 100 #[.agg #[.int .i64 a0_0,.int .i64 a0_1,.int .i64 a0_2],.agg #[.int .i64 a1_0,.int .i64 a1_1,.int .i64 a1_2]] w fun e w'=>e=.returned (.int .i64 r)∧Below w.heap.size w w':=by
 have hu61:=Try.underlying61;have HB:=am (Below.refl w.heap.size w);have H:=h;clear h;unfold Az.f at H;(by_cases c3:a0_1=a1_1)
 ·rw [if_pos c3] at H;have c3b0:(a0_1==a1_1)=true:=beq_iff_eq.mpr c3;have c3b1:(a0_1 != a1_1)=false:=bne_eq_false_iff_eq.mpr c3;clear c3;obtain rfl:=Option.some.inj H;go_enter Try.func100,Try.ntmps100;(go_wp2_with (first|((with_reducible refine Ag (N:=2) rfl ?_);refine Au 2 (#[.int .i64 a0_0,.int .i64 a0_1,.int .i64 a0_2]) 61 ?_;intro gb107 hg w4 hbox hb;have BK107:=am (hbox);have GW107:=am (gz hg HB);have GE107:=am (gz hg HB);replace HB:=wb HB hb;clear hb hbox hg)|((with_reducible refine Ag (N:=3) rfl ?_);refine Au 3 (#[.int .i64 a1_0,.int .i64 a1_1,.int .i64 a1_2]) 61 ?_;intro gb108 hg w5 hbox hb;have BK108:=am (hbox);have GW108:=am (gz hg HB);have GE108:=am (gz hg HB);replace HB:=wb HB hb;have NB107_108:=am (gn hg BK107);have NB108_107:=am ((by rw [hg];exact Nat.ne_of_gt (Ao (upK BK107)):gb108≠gb107));replace BK107:=kb BK107 hb;clear hb hbox hg;have hnb6:=NB107_108.out;have hnc6:=NB108_107.out;obtain ⟨hcz7_0,hcz7_1,hcz7_2,hfz7_0,hfz7_1,hfz7_2⟩:=cy3 BK107;obtain ⟨hcz8_0,hcz8_1,hcz8_2,hfz8_0,hfz8_1,hfz8_2⟩:=cy3 BK108)));go_ret;exact ⟨eqv,upW HB⟩
 ·rw [if_neg c3] at H;have c3b0:(a0_1==a1_1)=false:=beq_eq_false_iff_ne.mpr c3;have c3b1:(a0_1 != a1_1)=true:=bne_iff_ne.mpr c3;obtain rfl:=Option.some.inj H;go_enter Try.func100,Try.ntmps100;(go_wp2_with (first|((with_reducible refine Ag (N:=2) rfl ?_);refine Au 2 (#[.int .i64 a0_0,.int .i64 a0_1,.int .i64 a0_2]) 61 ?_;intro gb107 hg w9 hbox hb;have BK107:=am (hbox);have GW107:=am (gz hg HB);have GE107:=am (gz hg HB);replace HB:=wb HB hb;clear hb hbox hg)|((with_reducible refine Ag (N:=3) rfl ?_);refine Au 3 (#[.int .i64 a1_0,.int .i64 a1_1,.int .i64 a1_2]) 61 ?_;intro gb108 hg w10 hbox hb;have BK108:=am (hbox);have GW108:=am (gz hg HB);have GE108:=am (gz hg HB);replace HB:=wb HB hb;have NB107_108:=am (gn hg BK107);have NB108_107:=am ((by rw [hg];exact Nat.ne_of_gt (Ao (upK BK107)):gb108≠gb107));replace BK107:=kb BK107 hb;clear hb hbox hg;have hnb11:=NB107_108.out;have hnc11:=NB108_107.out;obtain ⟨hcz12_0,hcz12_1,hcz12_2,hfz12_0,hfz12_1,hfz12_2⟩:=cy3 BK107;obtain ⟨hcz13_0,hcz13_1,hcz13_2,hfz13_0,hfz13_1,hfz13_2⟩:=cy3 BK108)));go_ret;exact ⟨eqv,upW HB⟩

/-- the first place at which p holds, or -1 -/
def Ew {α:Type} (p:α→Bool) (l:List α):Int:=if l.any p then ((l.findIdx p:Nat):Int) else -1
theorem Md {α:Type} (p:α→Bool) (l:List α) (k:Nat) (a:α) (hk:l[k]? = some a) (ha:p a=true) (h:∀ j,j<k→∀ b,l[j]? = some b→p b=false):Ew p l=k:=by
 have hlt:k<l.length:=(List.getElem?_eq_some_iff.1 hk).1;have e:l[k]=a:=(List.getElem?_eq_some_iff.1 hk).2;have h1:l.any p=true:=List.any_eq_true.2 ⟨a,by rw [← e];exact List.getElem_mem hlt,ha⟩;unfold Ew;rw [if_pos h1];(congr 1);rw [List.findIdx_eq hlt];exact ⟨by rw [e];exact ha,fun j hj=>h j hj _ (List.getElem?_eq_getElem (by omega))⟩
theorem pidx_miss {α:Type} (p:α→Bool) (l:List α) (h:∀ j,j<l.length→∀ b,l[j]? = some b→p b=false):Ew p l = -1:=by
 unfold Ew;rw [if_neg];intro hc;obtain ⟨a,ha,hp⟩:=List.any_eq_true.1 hc;obtain ⟨i,hi⟩:=List.getElem?_of_mem ha;have:=h i (List.getElem?_eq_some_iff.1 hi).1 a hi;(rw [this] at hp;cases hp)

theorem pidx_any {α:Type} (p:α→Bool) (l:List α):decide (0≤Ew p l)=l.any p:=by
 unfold Ew;cases h:l.any p
 ·rfl
 ·simp

/-! ### Ia: function 144 -/
set_option maxHeartbeats 8000000 in
theorem Ia.with (p:S61→Bool) (fv:Nat) (lb:Array Value) (A:Option Addr) (c:Nat) (l:List S61) (w:World) (hr:Kd.C k61 w A l.length l)
  (eg:∀ args w,(callFunc fv args).run Try.prog w=.ok (.enter fv args) w)
  (hp:∀ (W:World) (t:S61),t ∈ l→Below w.heap.size w W→Calls Try.prog fv (#[.agg #[.int .i64 t.f0,.int .i64 t.f1,.int .i64 t.f2]]++lb) W fun e w'=>e=.returned (.bool (p t))∧Below w.heap.size w w') :
  Calls Try.prog 144 #[.slice A l.length c,.func (.func fv) #[] lb] w fun e w'=>e=.returned (.int .i64 (Ew p l))∧Below w.heap.size w w':=by
 have hu61:=Try.underlying61;have hbig:l.length≤9223372036854775807:=hr.2.1;have HP:=Lib.hid hp;clear hp;go_enter Try.func144,Try.ntmps144;go_wp2;(go_loopg [5,8] l.length (fun gg _ s8 wr=>∃ kk:Nat,kk≤l.length∧l.length-kk≤gg∧s8=.int .i64 kk∧Aside (Below w.heap.size w wr)∧Aside (∀ j,j<kk→∀ b,l[j]? = some b→p b=false)));(case atStart=>exact ⟨0,Nat.zero_le _,by omega,rfl,Below.refl _ w,fun j hj=>absurd hj (Nat.not_lt_zero _)⟩)
 case round =>
  obtain ⟨kk,hkk,hg,rfl,BW,HA⟩:=hrel;(by_cases hlt:kk<l.length)
  ·(have hltz:(kk:Int)<(l.length:Int):=by omega);obtain ⟨ad,rfl,hx0,hx1,hx2⟩:=Bb hr (kk:Int) (by omega) hltz;replace hx0:=(BW.out.cell (World.block_lt_of_cell? w _ hx0)).trans hx0;replace hx1:=(BW.out.cell (World.block_lt_of_cell? w _ hx1)).trans hx1;replace hx2:=(BW.out.cell (World.block_lt_of_cell? w _ hx2)).trans hx2;(have hm:Aa l kk ∈ l:=by unfold Aa;simp [List.getD,hlt]);(have he:l[kk]? = some (Aa l kk):=by unfold Aa;simp [List.getD,hlt]);have hcall:=HP.out wr (Aa l kk) hm BW.out;generalize hy:Aa l kk=y at hx0 hx1 hx2 hcall he;have HE:=Lib.hid he;clear hy hm he;simp only [Int.toNat_natCast] at hx0 hx1 hx2
   cases hq:p y with
   | true =>
    rw [hq] at hcall;(have HQ:=Lib.hid hq;clear hq);(go_wp2_with (go_at_fn fv;refine hcall.mono ?_;rintro e w' ⟨rfl,hb'⟩));go_ret;refine ⟨?_,hb'⟩;(rw [Md p l kk y HE.out HQ.out HA.out];rfl)
   | false =>
    rw [hq] at hcall;(have HQ:=Lib.hid hq;clear hq);(go_wp2_with (go_at_fn fv;refine hcall.mono ?_;rintro e w' ⟨rfl,hb'⟩));go_roundg (l.length-(kk+1));(case measure=>omega)
    case rel =>
     refine ⟨kk+1,by omega,by omega,by go_num,hb',(show Aside _ from fun j hj b hb=>?_)⟩;(by_cases e:j=kk)
     ·subst e;(rw [HE.out] at hb;obtain rfl:=Option.some.inj hb;exact HQ.out)
     ·exact HA.out j (by omega) b hb
  ·(have hltz:¬ (kk:Int)<(l.length:Int):=by omega);(have:kk=l.length:=by omega);subst this;go_wp2;go_ret;refine ⟨?_,BW.out⟩;(rw [pidx_miss p l HA.out];rfl)

/-! ### Ja: function 101 -/
set_option maxHeartbeats 8000000 in
theorem Ja.with (p:S61→Bool) (fv:Nat) (lb:Array Value) (A:Option Addr) (c:Nat) (l:List S61) (w:World) (hr:Kd.C k61 w A l.length l)
  (eg:∀ args w,(callFunc fv args).run Try.prog w=.ok (.enter fv args) w)
  (hp:∀ (W:World) (t:S61),t ∈ l→Below w.heap.size w W→Calls Try.prog fv (#[.agg #[.int .i64 t.f0,.int .i64 t.f1,.int .i64 t.f2]]++lb) W fun e w'=>e=.returned (.bool (p t))∧Below w.heap.size w w') :
  Calls Try.prog 101 #[.slice A l.length c,.func (.func fv) #[] lb] w fun e w'=>e=.returned (.bool (l.any p))∧Below w.heap.size w w':=by
 have HP:=Lib.hid hp;clear hp;have e0:decide (0≤Ew p l)=l.any p:=pidx_any p l;generalize l.any p=b at e0 ⊢;have HE:=Lib.hid e0;clear e0;go_enter Try.func101,Try.ntmps101;(go_wp2_with (go_at_call 144;refine (Ia.with p fv lb A c l _ hr eg HP.out).mono ?_;rintro e w' ⟨rfl,hb'⟩));go_ret;exact ⟨by rw [← HE.out];rfl,hb'⟩

/-! ### Cl: function 103 -/
def Cl.f (a0_0:Int) (a0_1:Int) (a0_2:Int) (a1_0:Int) (a1_1:Int) (a1_2:Int):Option (Bool):=if a0_0<(wrap64 (a1_0+a1_2)) then (if a1_0<(wrap64 (a0_0+a0_2)) then (if a0_1<(wrap64 (a1_1+a1_2)) then (some (decide (a1_1<(wrap64 (a0_1+a0_2))))) else (some false)) else (some false)) else (some false)
set_option maxHeartbeats 8000000 in
set_option maxRecDepth 100000 in
theorem Cl.calls (a0_0:Int) (a0_1:Int) (a0_2:Int) (a1_0:Int) (a1_1:Int) (a1_2:Int) (r:Bool) (w:World) (h:Cl.f a0_0 a0_1 a0_2 a1_0 a1_1 a1_2=some r) :
  Calls Try.prog 103 #[.agg #[.int .i64 a0_0,.int .i64 a0_1,.int .i64 a0_2],.agg #[.int .i64 a1_0,.int .i64 a1_1,.int .i64 a1_2]] w fun e w'=>e=.returned (.bool r)∧Below w.heap.size w w':=by
 have hu61:=Try.underlying61;have HB:=am (Below.refl w.heap.size w);have H:=h;clear h;unfold Cl.f at H;(by_cases c3:a0_0<(wrap64 (a1_0+a1_2)))
 ·rw [if_pos c3] at H;have c3b0:=decide_eq_true c3;clear c3;(by_cases c4:a1_0<(wrap64 (a0_0+a0_2)))
  ·rw [if_pos c4] at H;have c4b0:=decide_eq_true c4;clear c4;(by_cases c5:a0_1<(wrap64 (a1_1+a1_2)))
   ·rw [if_pos c5] at H;have c5b0:=decide_eq_true c5;clear c5;obtain rfl:=Option.some.inj H;go_enter Try.func103,Try.ntmps103;(go_wp2_with (first|((with_reducible refine Ag (N:=2) rfl ?_);refine Au 2 (#[.int .i64 a0_0,.int .i64 a0_1,.int .i64 a0_2]) 61 ?_;intro gb109 hg w6 hbox hb;have BK109:=am (hbox);have GW109:=am (gz hg HB);have GE109:=am (gz hg HB);replace HB:=wb HB hb;clear hb hbox hg)|((with_reducible refine Ag (N:=3) rfl ?_);refine Au 3 (#[.int .i64 a1_0,.int .i64 a1_1,.int .i64 a1_2]) 61 ?_;intro gb110 hg w7 hbox hb;have BK110:=am (hbox);have GW110:=am (gz hg HB);have GE110:=am (gz hg HB);replace HB:=wb HB hb;have NB109_110:=am (gn hg BK109);have NB110_109:=am ((by rw [hg];exact Nat.ne_of_gt (Ao (upK BK109)):gb110≠gb109));replace BK109:=kb BK109 hb;clear hb hbox hg;have hnb8:=NB109_110.out;have hnc8:=NB110_109.out;obtain ⟨hcz9_0,hcz9_1,hcz9_2,hfz9_0,hfz9_1,hfz9_2⟩:=cy3 BK109;obtain ⟨hcz10_0,hcz10_1,hcz10_2,hfz10_0,hfz10_1,hfz10_2⟩:=cy3 BK110)));go_ret;exact ⟨eqv,upW HB⟩
   ·rw [if_neg c5] at H;have c5b0:=decide_eq_false c5;clear c5;obtain rfl:=Option.some.inj H;go_enter Try.func103,Try.ntmps103;(go_wp2_with (first|((with_reducible refine Ag (N:=2) rfl ?_);refine Au 2 (#[.int .i64 a0_0,.int .i64 a0_1,.int .i64 a0_2]) 61 ?_;intro gb109 hg w11 hbox hb;have BK109:=am (hbox);have GW109:=am (gz hg HB);have GE109:=am (gz hg HB);replace HB:=wb HB hb;clear hb hbox hg)|((with_reducible refine Ag (N:=3) rfl ?_);refine Au 3 (#[.int .i64 a1_0,.int .i64 a1_1,.int .i64 a1_2]) 61 ?_;intro gb110 hg w12 hbox hb;have BK110:=am (hbox);have GW110:=am (gz hg HB);have GE110:=am (gz hg HB);replace HB:=wb HB hb;have NB109_110:=am (gn hg BK109);have NB110_109:=am ((by rw [hg];exact Nat.ne_of_gt (Ao (upK BK109)):gb110≠gb109));replace BK109:=kb BK109 hb;clear hb hbox hg;have hnb13:=NB109_110.out;have hnc13:=NB110_109.out;obtain ⟨hcz14_0,hcz14_1,hcz14_2,hfz14_0,hfz14_1,hfz14_2⟩:=cy3 BK109;obtain ⟨hcz15_0,hcz15_1,hcz15_2,hfz15_0,hfz15_1,hfz15_2⟩:=cy3 BK110)));go_ret;exact ⟨eqv,upW HB⟩
  ·rw [if_neg c4] at H;have c4b0:=decide_eq_false c4;clear c4;obtain rfl:=Option.some.inj H;go_enter Try.func103,Try.ntmps103;(go_wp2_with (first|((with_reducible refine Ag (N:=2) rfl ?_);refine Au 2 (#[.int .i64 a0_0,.int .i64 a0_1,.int .i64 a0_2]) 61 ?_;intro gb109 hg w16 hbox hb;have BK109:=am (hbox);have GW109:=am (gz hg HB);have GE109:=am (gz hg HB);replace HB:=wb HB hb;clear hb hbox hg)|((with_reducible refine Ag (N:=3) rfl ?_);refine Au 3 (#[.int .i64 a1_0,.int .i64 a1_1,.int .i64 a1_2]) 61 ?_;intro gb110 hg w17 hbox hb;have BK110:=am (hbox);have GW110:=am (gz hg HB);have GE110:=am (gz hg HB);replace HB:=wb HB hb;have NB109_110:=am (gn hg BK109);have NB110_109:=am ((by rw [hg];exact Nat.ne_of_gt (Ao (upK BK109)):gb110≠gb109));replace BK109:=kb BK109 hb;clear hb hbox hg;have hnb18:=NB109_110.out;have hnc18:=NB110_109.out;obtain ⟨hcz19_0,hcz19_1,hcz19_2,hfz19_0,hfz19_1,hfz19_2⟩:=cy3 BK109;obtain ⟨hcz20_0,hcz20_1,hcz20_2,hfz20_0,hfz20_1,hfz20_2⟩:=cy3 BK110)));go_ret;exact ⟨eqv,upW HB⟩
 ·rw [if_neg c3] at H;have c3b0:=decide_eq_false c3;clear c3;obtain rfl:=Option.some.inj H;go_enter Try.func103,Try.ntmps103;(go_wp2_with (first|((with_reducible refine Ag (N:=2) rfl ?_);refine Au 2 (#[.int .i64 a0_0,.int .i64 a0_1,.int .i64 a0_2]) 61 ?_;intro gb109 hg w21 hbox hb;have BK109:=am (hbox);have GW109:=am (gz hg HB);have GE109:=am (gz hg HB);replace HB:=wb HB hb;clear hb hbox hg)|((with_reducible refine Ag (N:=3) rfl ?_);refine Au 3 (#[.int .i64 a1_0,.int .i64 a1_1,.int .i64 a1_2]) 61 ?_;intro gb110 hg w22 hbox hb;have BK110:=am (hbox);have GW110:=am (gz hg HB);have GE110:=am (gz hg HB);replace HB:=wb HB hb;have NB109_110:=am (gn hg BK109);have NB110_109:=am ((by rw [hg];exact Nat.ne_of_gt (Ao (upK BK109)):gb110≠gb109));replace BK109:=kb BK109 hb;clear hb hbox hg;have hnb23:=NB109_110.out;have hnc23:=NB110_109.out;obtain ⟨hcz24_0,hcz24_1,hcz24_2,hfz24_0,hfz24_1,hfz24_2⟩:=cy3 BK109;obtain ⟨hcz25_0,hcz25_1,hcz25_2,hfz25_0,hfz25_1,hfz25_2⟩:=cy3 BK110)));go_ret;exact ⟨eqv,upW HB⟩

/-! ### Kf: function 102 -/
set_option maxHeartbeats 8000000 in
theorem Kf.calls (x y s a0_0 a0_1 a0_2:Int) (g:Nat) (r:Bool) (w:World) (hg:w.heap[g]? = some (.cells #[.int .i64 x,.int .i64 y,.int .i64 s] 61 (0,0))) (h:Cl.f x y s a0_0 a0_1 a0_2=some r) :
  Calls Try.prog 102 #[.agg #[.int .i64 a0_0,.int .i64 a0_1,.int .i64 a0_2],.pointer (some ⟨g,0,none⟩)] w fun e w'=>e=.returned (.bool r)∧Below w.heap.size w w':=by
 have hu61:=Try.underlying61;have h0:w.cell? ⟨g,0,none⟩=some (.int .i64 x):=(Ac hg 0).trans rfl;have h1:w.cell? ⟨g,1,none⟩=some (.int .i64 y):=(Ac hg 1).trans rfl;have h2:w.cell? ⟨g,2,none⟩=some (.int .i64 s):=(Ac hg 2).trans rfl;have hlt:g<w.heap.size:=Ao hg;have HG:=am hg;have HH:=am h;clear hg h;go_enter Try.func102,Try.ntmps102;(go_wp2_with (go_at_call 103;(with_reducible refine (Cl.calls x y s a0_0 a0_1 a0_2 r _ HH.out).mono ?_);rintro e w' ⟨rfl,hb⟩));go_ret;exact ⟨rfl,Gt (Ct (Below.refl _ _) _) hb⟩


/-! ### Ai: the pair slices.ContainsFunc[[]loop.example/g01296/impl.Square,loop.example/g01296/impl.Square] -/
def Ai.f (l:List S61) (x y s:Int):Option Bool:=some (l.any fun t=>(Cl.f x y s t.f0 t.f1 t.f2).getD false)
theorem Ai.some_ (x y s a b c:Int):Cl.f x y s a b c=some ((Cl.f x y s a b c).getD false):=by
 unfold Cl.f;(split)
 ·(split)
  ·(split)
   ·rfl
   ·rfl
  ·rfl
 ·rfl
theorem Ai.calls (A0:Option Addr) (c0:Nat) (l0:List S61) (g1:Nat) (x y s:Int) (r:Bool) (w:World) (hr0:Kd.C k61 w A0 l0.length l0) (hc0:l0.length≤c0)
  (hg1:w.heap[g1]? = some (.cells #[.int .i64 x,.int .i64 y,.int .i64 s] 61 (0,0))) (h:Ai.f l0 x y s=some r) :
  Calls Try.prog 101 #[.slice A0 l0.length c0,.func (.func 102) #[] #[.pointer (some ⟨g1,0,none⟩)]] w fun e w'=>e=.returned (.bool r)∧Below w.heap.size w w':=by
 obtain rfl:=Option.some.inj h;(refine Ja.with _ 102 _ A0 c0 l0 w hr0 (fun args w=>Jt Try.func102 (by kernel_rfl) rfl args w) fun W t _ hb=>?_);(exact (Kf.calls x y s t.f0 t.f1 t.f2 g1 _ W (Bo hg1 hb) (Ai.some_ ..)).mono fun e w' ⟨he,hb'⟩=>⟨he,Gt hb hb'⟩)

end Go.Proofs.Yteaomckihokakaa.PFnCutsFillOfAll
