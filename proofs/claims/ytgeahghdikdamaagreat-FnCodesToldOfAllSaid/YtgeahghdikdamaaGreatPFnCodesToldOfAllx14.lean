-- made for this claim by a program of this session
import Derived.Test.YtgeahghdikdamaaGreatPFnCodesToldOfAllx0
namespace Go.Proofs.YtgeahghdikdamaaGreat.PFnCodesToldOfAll
open Go.RowKit Go.Proofs.YtgeahghdikdamaaGreatW.PrintWords Go.Proofs.YtgeahghdikdamaaGreatW.PrintLast Go.Proofs.YtgeahghdikdamaaGreatW.PrintMore
attribute [local go_sem] Dn Do D2 D3 Da Db Dp Dq -- for this text's walks alone
set_option linter.unusedVariables false
set_option linter.unusedSimpArgs false

/-! ### Cf: function 47 -/
def Cf.l0:Nat→List Int→Int→Int→Option (Int)
 | 0,_,_,_=>none
 | k+1,x0,x3,x4=>if x4<(x0.length:Int) then (if 0≤x4 then (Cf.l0 k x0 (mn x3 (rd x0 x4)) (wrap64 (x4+1))) else (none)) else (some x3)
def Cf.f (k:Nat) (l0:List Int):Option (Int):=if (l0.length:Int)<1 then (none) else (if 0<(l0.length:Int) then (Cf.l0 k l0 (rd l0 0) 1) else (none))
set_option maxHeartbeats 8000000 in
set_option maxRecDepth 100000 in
theorem Cf.calls (k:Nat) (A0:Option Addr) (c0:Nat) (l0:List Int) (r:Int) (w:World) (b2:Kd.C (Kd.int .i64) w A0 l0.length l0) (b1:l0.length≤c0) (h:Cf.f k l0=some r) :
  Calls Tryz.prog 47 #[.slice A0 l0.length c0] w fun e w'=>e=.returned (.int .i64 r)∧Below w.heap.size w w':=by
 have b0:=am b2;have b8:=am b1;clear b2 b1;have HB:=am (Below.refl w.heap.size w);have H:=h;clear h;unfold Cf.f at H;obtain ⟨c2,H⟩:=iq H;have c2b0:=decide_eq_false c2;have c2b1:decide (l0.length<1)=false:=decide_eq_false (by omega);clear c2;obtain ⟨c3,H⟩:=ip H;have c3b0:=decide_eq_true c3;have c3b1:decide (0<l0.length)=true:=decide_eq_true (by omega);clear c3;have H':=am H;clear H;have a3:0≤(0:Int):=(by omega);have a4:0<(l0.length:Int):=oda;obtain ⟨b4,b6,a5⟩:=Kd.at_int b0.out 0 a3 a4;cases b6;have c1:(0<l0.length)=True:=eq_true (by omega);(try rw [show ((0:Int)).toNat=0 from rfl] at a5);(try rw [Addr.add_zero'] at a5);replace a3:=eq_true a3;replace a4:=eq_true a4;go_enter Tryz.func47,Tryz.ntmps47;go_wp2;(go_loopg [3,4] k (fun kq v3 v4 w'=>∃ (a1:Int) (a0:Int),v3=.int .i64 a1∧v4=.int .i64 a0∧Ab (Cf.l0 kq l0 a1 a0=some r)∧Ab (kq≤k)∧Ab (Below w.heap.size w w')));(case atStart=>exact ⟨(rd l0 0),(1),(eqw),(eqw),H',⟨Nat.le_refl _⟩,⟨upW HB⟩⟩)
 case round =>
  clear H';(try clear c2b0 c2b1 c3b0 c3b1 a5 a3 a4);obtain ⟨a1,a0,rfl,rfl,HA,a9,HB⟩:=hrel
  cases gk with
  | zero=>exact absurd HA.out (by simp [Cf.l0])
  | succ k1 =>
   have H:=HA.out;clear HA;simp only [Cf.l0] at H;(by_cases c4:a0<(l0.length:Int))
   ·rw [if_pos c4] at H;have c4b0:=decide_eq_true c4;clear c4;obtain ⟨c5,H⟩:=ip H;have c5b0:=decide_eq_true c5;clear c5;obtain ⟨a6,a2⟩:∃ j_:Int,(mn a1 (rd l0 a0))=j_:=⟨_,rfl⟩;(replace H:(Cf.l0 k1 l0 a6 (wrap64 (a0+1)))=some r:=by first|(rw [a2] at H;exact H)|(simp only [a2] at H ⊢;exact H));have b9:(if (rd l0 a0)<a1 then (rd l0 a0) else a1)=a6:=a2;have H':=am H;clear H;have a7:0≤(a0:Int):=oda;have a8:a0<(l0.length:Int):=oda;obtain ⟨b5,b7,b3⟩:=Kd.at_int b0.out a0 a7 a8;obtain rfl:b4=b5:=(by injection b7);replace b3:=cb HB b3;replace a7:=eq_true a7;replace a8:=eq_true a8;go_wp2;go_roundg k1;(case measure=>have:=a9.out;omega);(case rel=>exact ⟨(a6),(wrap64 (a0+1)),(by first|rfl|(simp;done)|(simp only [← a2] <;> (first|rfl|simp))|(simp [*];done)),(eqw),H',⟨by have:=a9.out;omega⟩,⟨upW HB⟩⟩)
   ·rw [if_neg c4] at H;have c4b0:=decide_eq_false c4;clear c4;obtain rfl:=Option.some.inj H;go_wp2;go_ret;exact ⟨eqv,upW HB⟩

/-! ### Cg: function 48 -/
def Cg.l0:Nat→List Int→Int→Int→Int→Option (Int)
 | 0,_,_,_,_=>none
 | k+1,x0,x1,x7,x8=>if x8<x7 then (if 0≤x8 then (if x8<(x0.length:Int) then (if x1=(rd x0 x8) then (some x8) else (Cg.l0 k x0 x1 x7 (wrap64 (x8+1)))) else (none)) else (none)) else (some (-1))
def Cg.f (k:Nat) (l0:List Int) (a1:Int):Option (Int):=Cg.l0 k l0 a1 (l0.length:Int) 0
set_option maxHeartbeats 8000000 in
set_option maxRecDepth 100000 in
theorem Cg.calls (k:Nat) (A0:Option Addr) (c0:Nat) (l0:List Int) (a1:Int) (r:Int) (w:World) (a8:Kd.C (Kd.int .i64) w A0 l0.length l0) (a7:l0.length≤c0) (h:Cg.f k l0 a1=some r) :
  Calls Tryz.prog 48 #[.slice A0 l0.length c0,.int .i64 a1] w fun e w'=>e=.returned (.int .i64 r)∧Cq w w':=by
 have a6:=am a8;have b1:=am a7;clear a8 a7;have H:=h;clear h;unfold Cg.f at H;have H':=am H;clear H;go_enter Tryz.func48,Tryz.ntmps48;go_wp2;(go_loopg [8] k (fun kq v8 w'=>∃ (a0:Int),v8=.int .i64 a0∧Ab (Cg.l0 kq l0 a1 (l0.length:Int) a0=some r)∧Ab (kq≤k)∧Cq w w'));(case atStart=>exact ⟨(0),(eqw),H',⟨Nat.le_refl _⟩,dz⟩)
 case round =>
  clear H';obtain ⟨a0,rfl,HA,a5,⟨m1,rfl⟩⟩:=hrel
  cases gk with
  | zero=>exact absurd HA.out (by simp [Cg.l0])
  | succ k1 =>
   have H:=HA.out;clear HA;simp only [Cg.l0] at H;(by_cases c3:a0<(l0.length:Int))
   ·rw [if_pos c3] at H;have c3b0:=decide_eq_true c3;clear c3;obtain ⟨c4,H⟩:=ip H;have c4b0:=decide_eq_true c4;clear c4;obtain ⟨c5,H⟩:=ip H;have c5b0:=decide_eq_true c5;clear c5;(by_cases c6:a1=(rd l0 a0))
    ·rw [if_pos c6] at H;have c6b0:(a1==(rd l0 a0))=true:=beq_iff_eq.mpr c6;have c6b1:(a1 != (rd l0 a0))=false:=bne_eq_false_iff_eq.mpr c6;clear c6;obtain rfl:=Option.some.inj H;have a2:0≤(a0:Int):=oda;have a3:a0<(l0.length:Int):=oda;obtain ⟨a9,a4,b0⟩:=Kd.at_int a6.out a0 a2 a3;cases a4;replace a2:=eq_true a2;replace a3:=eq_true a3;go_wp2;go_ret;exact ⟨eqw,dz⟩
    ·rw [if_neg c6] at H;have c6b0:(a1==(rd l0 a0))=false:=beq_eq_false_iff_ne.mpr c6;have c6b1:(a1 != (rd l0 a0))=true:=bne_iff_ne.mpr c6;have H':=am H;clear H;have a2:0≤(a0:Int):=oda;have a3:a0<(l0.length:Int):=oda;obtain ⟨a9,a4,b0⟩:=Kd.at_int a6.out a0 a2 a3;cases a4;replace a2:=eq_true a2;replace a3:=eq_true a3;go_wp2;go_roundg k1;(case measure=>have:=a5.out;omega);(case rel=>exact ⟨(wrap64 (a0+1)),(eqw),H',⟨by have:=a5.out;omega⟩,dz⟩)
   ·rw [if_neg c3] at H;have c3b0:=decide_eq_false c3;clear c3;obtain rfl:=Option.some.inj H;go_wp2;go_ret;exact ⟨eqw,dz⟩

/-! ### B0: function 49 -/
def B0.l0:Nat→List Int→Int→Int→Option (Int)
 | 0,_,_,_=>none
 | k+1,x0,x3,x4=>if x4<(x0.length:Int) then (if 0≤x4 then (B0.l0 k x0 (mx x3 (rd x0 x4)) (wrap64 (x4+1))) else (none)) else (some x3)
def B0.f (k:Nat) (l0:List Int):Option (Int):=if (l0.length:Int)<1 then (none) else (if 0<(l0.length:Int) then (B0.l0 k l0 (rd l0 0) 1) else (none))
set_option maxHeartbeats 8000000 in
set_option maxRecDepth 100000 in
theorem B0.calls (k:Nat) (A0:Option Addr) (c0:Nat) (l0:List Int) (r:Int) (w:World) (b2:Kd.C (Kd.int .i64) w A0 l0.length l0) (b1:l0.length≤c0) (h:B0.f k l0=some r) :
  Calls Tryz.prog 49 #[.slice A0 l0.length c0] w fun e w'=>e=.returned (.int .i64 r)∧Below w.heap.size w w':=by
 have b0:=am b2;have b8:=am b1;clear b2 b1;have HB:=am (Below.refl w.heap.size w);have H:=h;clear h;unfold B0.f at H;obtain ⟨c2,H⟩:=iq H;have c2b0:=decide_eq_false c2;have c2b1:decide (l0.length<1)=false:=decide_eq_false (by omega);clear c2;obtain ⟨c3,H⟩:=ip H;have c3b0:=decide_eq_true c3;have c3b1:decide (0<l0.length)=true:=decide_eq_true (by omega);clear c3;have H':=am H;clear H;have a3:0≤(0:Int):=(by omega);have a4:0<(l0.length:Int):=oda;obtain ⟨b4,b6,a5⟩:=Kd.at_int b0.out 0 a3 a4;cases b6;have c1:(0<l0.length)=True:=eq_true (by omega);(try rw [show ((0:Int)).toNat=0 from rfl] at a5);(try rw [Addr.add_zero'] at a5);replace a3:=eq_true a3;replace a4:=eq_true a4;go_enter Tryz.func49,Tryz.ntmps49;go_wp2;(go_loopg [3,4] k (fun kq v3 v4 w'=>∃ (a1:Int) (a0:Int),v3=.int .i64 a1∧v4=.int .i64 a0∧Ab (B0.l0 kq l0 a1 a0=some r)∧Ab (kq≤k)∧Ab (Below w.heap.size w w')));(case atStart=>exact ⟨(rd l0 0),(1),(eqw),(eqw),H',⟨Nat.le_refl _⟩,⟨upW HB⟩⟩)
 case round =>
  clear H';(try clear c2b0 c2b1 c3b0 c3b1 a5 a3 a4);obtain ⟨a1,a0,rfl,rfl,HA,a9,HB⟩:=hrel
  cases gk with
  | zero=>exact absurd HA.out (by simp [B0.l0])
  | succ k1 =>
   have H:=HA.out;clear HA;simp only [B0.l0] at H;(by_cases c4:a0<(l0.length:Int))
   ·rw [if_pos c4] at H;have c4b0:=decide_eq_true c4;clear c4;obtain ⟨c5,H⟩:=ip H;have c5b0:=decide_eq_true c5;clear c5;obtain ⟨a6,a2⟩:∃ j_:Int,(mx a1 (rd l0 a0))=j_:=⟨_,rfl⟩;(replace H:(B0.l0 k1 l0 a6 (wrap64 (a0+1)))=some r:=by first|(rw [a2] at H;exact H)|(simp only [a2] at H ⊢;exact H));have b9:(if a1<(rd l0 a0) then (rd l0 a0) else a1)=a6:=a2;have H':=am H;clear H;have a7:0≤(a0:Int):=oda;have a8:a0<(l0.length:Int):=oda;obtain ⟨b5,b7,b3⟩:=Kd.at_int b0.out a0 a7 a8;obtain rfl:b4=b5:=(by injection b7);replace b3:=cb HB b3;replace a7:=eq_true a7;replace a8:=eq_true a8;go_wp2;go_roundg k1;(case measure=>have:=a9.out;omega);(case rel=>exact ⟨(a6),(wrap64 (a0+1)),(by first|rfl|(simp;done)|(simp only [← a2] <;> (first|rfl|simp))|(simp [*];done)),(eqw),H',⟨by have:=a9.out;omega⟩,⟨upW HB⟩⟩)
   ·rw [if_neg c4] at H;have c4b0:=decide_eq_false c4;clear c4;obtain rfl:=Option.some.inj H;go_wp2;go_ret;exact ⟨eqv,upW HB⟩

-- left to its pairs: function 71 (impl_Square_71)

end Go.Proofs.YtgeahghdikdamaaGreat.PFnCodesToldOfAll
