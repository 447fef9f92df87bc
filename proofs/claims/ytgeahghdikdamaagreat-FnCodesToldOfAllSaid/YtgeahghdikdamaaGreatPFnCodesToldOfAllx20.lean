-- made for this claim by a program of this session
import Derived.Test.YtgeahghdikdamaaGreatPFnCodesToldOfAllx0
import Derived.Test.YtgeahghdikdamaaGreatPFnCodesToldOfAllx1
import Derived.Test.YtgeahghdikdamaaGreatPFnCodesToldOfAllx2
import Derived.Test.YtgeahghdikdamaaGreatPFnCodesToldOfAllx3
import Derived.Test.YtgeahghdikdamaaGreatPFnCodesToldOfAllx19
namespace Go.Proofs.YtgeahghdikdamaaGreat.PFnCodesToldOfAll
open Go.RowKit Go.Proofs.YtgeahghdikdamaaGreatW.PrintWords Go.Proofs.YtgeahghdikdamaaGreatW.PrintLast Go.Proofs.YtgeahghdikdamaaGreatW.PrintMore
attribute [local go_sem] Dn Do D2 D3 Da Db Dp Dq -- for this text's walks alone
set_option linter.unusedVariables false
set_option linter.unusedSimpArgs false

attribute [local go_sem high] eqA50
/-! ### Ds: function 46 -/
def Ds.l0:Nat→List Int→List (S50)→Int→Int→Option (List Int)
 | 0,_,_,_,_=>none
 | k+1,x3,x7,x8,x9=>if x9<x8 then (if 0≤x9 then (if x9<(x7.length:Int) then (if x3.length<17592186044416 then (Ds.l0 k (x3++[(Aa x7 x9).f2]) x7 x8 (wrap64 (x9+1))) else (none)) else (none)) else (none)) else (some x3)
def Ds.f (k:Nat) (l0:List (S50)):Option (List Int):=Ds.l0 k (([]:List Int)) l0 (l0.length:Int) 0
set_option maxHeartbeats 8000000 in
set_option maxRecDepth 100000 in
theorem Ds.calls (k:Nat) (A0:Option Addr) (c0:Nat) (l0:List (S50)) (r:List Int) (w:World) (b2:Kd.C k50 w A0 l0.length l0) (b1:l0.length≤c0) (h:Ds.f k l0=some r) :
  Calls Tryz.prog 46 #[.slice A0 l0.length c0] w fun e w'=>∃ b9:Value,e=.returned (b9)∧Kd.R (Kd.int .i64) 3 w' w.heap.size (fun _=>True) b9 r∧Below w.heap.size w w':=by
 have g1:=Tryz.underlying50;have d3:=am b2;have f3:=am b1;clear b2 b1;have HB:=am (Below.refl w.heap.size w);have H:=h;clear h;unfold Ds.f at H;obtain ⟨c1,a5⟩:∃ y_:List Int,y_=(([]:List Int)):=⟨_,rfl⟩;(replace H:(Ds.l0 k c1 l0 (l0.length:Int) 0)=some r:=rwH a5 H);have b0:=am a5;clear a5;have H':=am H;clear H;go_enter Tryz.func46,Tryz.ntmps46;(go_wp2_with (first|((with_reducible refine Ag (N:=6) rfl ?_);refine Kd.R_lit (Kd.int .i64) _ 3 ?hg (N:=6) ?hd (xs:=([]:List Int)) (inner:=[]) (ok:=fun _=>True) (okp:=fun _=>True) ?hr ?hp (fun _ hk=>hk) trivial (Below.refl _ _) (Nat.le_refl _) (by simp) ?_;(case hd=>rfl);(case hg=>rfl);(case hr=>first|(go_simp;done)|(go_simp;rfl));(case hp=>exact (Bk.none _ _));intro g2 w2 a3 hb hg_ hnew_;clear hg_ hnew_;(first|rw [← b0.out] at a3|(simp only [Int.reduceToNat] at a3;rw [← b0.out] at a3));have d1:=am (Kd.R_lower a3 (Ah (upW HB)));replace HB:=wb HB hb;clear hb a3)));(try simp only [Act.put,List.setIfInBounds_toArray,List.set_cons_succ,List.set_cons_zero]);(go_loopg [3,9] k (fun kq v3 v9 w'=>∃ (a4:List Int) (a0:Int),v9=.int .i64 a0∧Ab (Ds.l0 kq a4 l0 (l0.length:Int) a0=some r)∧Ab (kq≤k)∧Ab (Kd.R (Kd.int .i64) 3 w' w.heap.size (fun _=>True) v3 a4)∧Ab (Below w.heap.size w w')));(case atStart=>exact ⟨(c1),(0),(eqw),H',⟨Nat.le_refl _⟩,⟨upR d1⟩,⟨upW HB⟩⟩)
 case round =>
  clear H';obtain ⟨a4,a0,rfl,HA,a9,a2,HB⟩:=hrel
  cases gk with
  | zero=>exact absurd HA.out (by simp [Ds.l0])
  | succ k1 =>
   have H:=HA.out;clear HA;simp only [Ds.l0] at H;(by_cases c4:a0<(l0.length:Int))
   ·rw [if_pos c4] at H;have c4b0:=decide_eq_true c4;clear c4;obtain ⟨c5,H⟩:=ip H;have c5b0:=decide_eq_true c5;clear c5;obtain ⟨c6,H⟩:=ip H;have c6b0:=decide_eq_true c6;clear c6;obtain ⟨c7,H⟩:=ip H;have d4:=am c7;clear c7;obtain ⟨d0,a6⟩:∃ y_:List Int,y_=(a4++[(Aa l0 a0).f2]):=⟨_,rfl⟩;(replace H:(Ds.l0 k1 d0 l0 (l0.length:Int) (wrap64 (a0+1)))=some r:=rwH a6 H);have d5:=am a6;clear a6;have H':=am H;clear H;have a7:0≤(a0:Int):=oda;have a8:a0<(l0.length:Int):=oda;obtain ⟨f4,d6,b3,b4,b5⟩:=Bp d3.out a0 a7 a8;cases d6;replace b3:=cb HB b3;replace b4:=cb HB b4;replace b5:=cb HB b5;replace a7:=eq_true a7;replace a8:=eq_true a8;(go_wp2_with (first|((with_reducible refine Ag (N:=5) rfl ?_);refine Bd 5 (#[.int .i64 0,.int .i64 0,.int .i64 0]) 50 ?_;intro d7 hg w8 hbox hb;replace a2:=rb a2 hb;have a1:=am (hbox);have d9:=am (gz hg HB);have d8:=am (gz hg HB);replace HB:=wb HB hb;clear hb hbox hg;obtain ⟨f5,f6,f7,f8,f9,g0⟩:=cy3 a1)|((with_reducible refine C4 (b:=.append) (xs := #[.tmp 13,.tmp 16]) rfl ?_);at_builtin;refine Kd.R_append (Kd.int .i64) (w0:=w) w.heap.size rfl (.tmp 13) (.tmp 16) 26 3 (.int .i64 0) 8 rfl Tryz.underlying26 Jf rfl (by decide) (by omega) u3 a4 ((Aa l0 a0).f2) [.int .i64 ((Aa l0 a0).f2)] (fun _=>True) (fun _=>False) rfl (by first|(go_simp;done)|(go_simp;rfl)) ?aP (fun _ hk=>hk.elim) ?aF ?aO ?aB ?aS ?aL ?_;(case aP=>exact rfl);(case aB=>exact (upW HB));(case aF=>exact (fun _ _=>trivial));(case aO=>exact (by (with_reducible repeat (first|apply Kd.R_alloc|apply Kd.R_drewN|apply Kd.R_drew));exact Kd.R_far3 a2 a1 (.int .i64 ((Aa l0 a0).f0)) (.int .i64 ((Aa l0 a0).f1)) (.int .i64 ((Aa l0 a0).f2)) (fun _ hk=>trivial)));(case aS=>exact (Ah (upW HB)));(case aL=>have:=d4.out;omega);intro g3 g4 ho hb hg hat;rw [← d5.out] at ho;have b6:=am (Bg (g:=d7) (o:=.cells #[.int .i64 ((Aa l0 a0).f0),.int .i64 ((Aa l0 a0).f1),.int .i64 ((Aa l0 a0).f2)] 50 (0,0)) (Bo a1 #[.int .i64 ((Aa l0 a0).f0),.int .i64 ((Aa l0 a0).f1),.int .i64 0] #[.int .i64 ((Aa l0 a0).f0),.int .i64 0,.int .i64 0]) hg (Kd.R_ne a2.out a1.out (by decide)));have b7:=am (hb);have b8:=am (ho);clear a1;clear HB;clear a2;have a1:=b6;have HB:=b7;have d2:=b8;clear b6 b7 b8;clear ho hb hg hat)));go_roundg k1;(case measure=>have:=a9.out;omega);(case rel=>exact ⟨(d0),(wrap64 (a0+1)),(eqw),H',⟨by have:=a9.out;omega⟩,⟨upR d2⟩,⟨upW HB⟩⟩)
   ·rw [if_neg c4] at H;have c4b0:=decide_eq_false c4;clear c4;obtain rfl:=Option.some.inj H;go_wp2;go_ret;exact ⟨_,eqv,by (with_reducible repeat (first|apply Kd.R_alloc|apply Kd.R_drewN|apply Kd.R_drew));exact a2.out,upW HB⟩

/-! ### Ga: function 14 -/
def Ga.f (k:Nat) (a1:Int) (a2:Int) (a0:List (S50)):Option (List Int×Bool):=(As.f k a1 a2 a0).bind fun a3=>(if a3=true then ((Ds.f k a0).bind fun a4=>(some (a4,true))) else (some (([]:List Int),false)))
set_option maxHeartbeats 8000000 in
set_option maxRecDepth 100000 in
theorem Ga.calls (k:Nat) (a2:Int) (a3:Int) (a6:Option Addr) (a7:Nat) (a1:List (S50)) (r1:List Int) (r2:Bool) (w:World) (b2:Kd.C k50 w a6 a1.length a1) (b0:a1.length≤a7) (h:Ga.f k a2 a3 a1=some (r1,r2)) :
  Calls Tryz.prog 14 #[.agg #[.int .i64 a2,.int .i64 a3,.slice a6 a1.length a7]] w fun e w'=>∃ b4:Value,e=.returned (.tuple #[b4,.bool r2])∧Kd.R (Kd.int .i64) 3 w' w.heap.size (fun _=>True) b4 r1∧Below w.heap.size w w':=by
 have f6:=Tryz.underlying24;have a9:=am b2;have a8:=am b0;clear b2 b0;have HB:=am (Below.refl w.heap.size w);have H:=h;clear h;unfold Ga.f at H;obtain ⟨b9,A2,H⟩:=bnd H;(try dsimp only at H);(by_cases c3:b9=true)
 ·subst c3;replace H:=yT H;obtain ⟨b3,A4,H⟩:=bnd H;replace H:(some (b3,true))=some (r1,r2):=H;simp only [Option.some.injEq,Prod.mk.injEq] at H;obtain ⟨rfl,rfl⟩:=H;go_enter Tryz.func14,Tryz.ntmps14;(go_wp2_with (first|((with_reducible refine Ag (N:=1) rfl ?_);refine Bd 1 (#[.int .i64 a2,.int .i64 a3,.slice a6 a1.length a7]) 24 ?_;intro b8 hg w5 hbox hb;have a0:=am (hbox);have b6:=am (gz hg HB);have b5:=am (gz hg HB);replace HB:=wb HB hb;clear hb hbox hg;obtain ⟨d1,d2,d3,f0,f1,f2⟩:=cy3 a0)|((with_reducible refine Ad (f:=12) rfl ?_);refine cgo (some 5) Tryz.func12 (As.calls k a2 a3 _ _ a1 true _ ?a4 ?a5 A2.out) ?_;(case a4=>exact upC (Kd.C_below a9.out HB.out));(case a5=>exact a8.out);rintro e w7 ⟨rfl,hb⟩;refine ⟨_,rfl,?_⟩;replace a0:=kb a0 hb;replace HB:=wb HB hb;(try clear hb);obtain ⟨d4,d5,d6,f3,f4,f5⟩:=cy3 a0)|((with_reducible refine Ad (f:=46) rfl ?_);refine cgo (some 9) Tryz.func46 (Ds.calls k _ _ a1 b3 _ ?a4 ?a5 A4.out) ?_;(case a4=>exact upC (Kd.C_below a9.out HB.out));(case a5=>exact a8.out);rintro e w9 ⟨f7,rfl,b1,hb⟩;refine ⟨_,rfl,?_⟩;have b7:=am (Kd.R_lower b1 (Ah (upW HB)));replace a0:=kb a0 hb;replace HB:=wb HB hb;(try clear hb b1))));(go_ret2);exact ⟨_,eqv,by (with_reducible repeat (first|apply Kd.R_alloc|apply Kd.R_drewN|apply Kd.R_drew));exact b7.out,upW HB⟩
 ·replace c3:=Bool.eq_false_iff.mpr c3;subst c3;replace H:=yF H;simp only [Option.some.injEq,Prod.mk.injEq] at H;obtain ⟨rfl,rfl⟩:=H;go_enter Tryz.func14,Tryz.ntmps14;(go_wp2_with (first|((with_reducible refine Ag (N:=1) rfl ?_);refine Bd 1 (#[.int .i64 a2,.int .i64 a3,.slice a6 a1.length a7]) 24 ?_;intro b8 hg f8 hbox hb;have a0:=am (hbox);have b6:=am (gz hg HB);have b5:=am (gz hg HB);replace HB:=wb HB hb;clear hb hbox hg;obtain ⟨c0,c1,d0,d7,d8,d9⟩:=cy3 a0)|((with_reducible refine Ad (f:=12) rfl ?_);refine cgo (some 5) Tryz.func12 (As.calls k a2 a3 _ _ a1 false _ ?a4 ?a5 A2.out) ?_;(case a4=>exact upC (Kd.C_below a9.out HB.out));(case a5=>exact a8.out);rintro e f9 ⟨rfl,hb⟩;refine ⟨_,rfl,?_⟩;replace a0:=kb a0 hb;replace HB:=wb HB hb;(try clear hb))));(go_ret2);exact ⟨_,eqv,by first|exact Kd.R_nil _ _ _ _ _|exact Kd.N_nil _ _ _ _ _|exact Kd.V_nil _ _ _ _ _|exact Kd.Q_nil _ _ _ _ _|exact Kd.S_nil _ _ _ _ _,upW HB⟩

/-! ### Dd: function 16 -/
def Dd.l0:Nat→List Int→List (List Int)→Int→Int→Option (List Int)
 | 0,_,_,_,_=>none
 | k+1,x3,x6,x7,x8=>if x8<x7 then (if 0≤x8 then (if x8<(x6.length:Int) then (if x3.length+(Az x6 x8).length<17592186044416 then (Dd.l0 k (x3++(Az x6 x8)) x6 x7 (wrap64 (x8+1))) else (none)) else (none)) else (none)) else (some x3)
def Dd.f (k:Nat) (l0:List (List Int)):Option (List Int):=Dd.l0 k ([]:List Int) l0 (l0.length:Int) 0
set_option maxHeartbeats 8000000 in
set_option maxRecDepth 100000 in
theorem Dd.calls (k:Nat) (A0:Option Addr) (c0:Nat) (l0:List (List Int)) (r:List Int) (w:World) (b0:Kd.C (Kd.slice 3 (Kd.int .i64)) w A0 l0.length l0) (a7:l0.length≤c0) (h:Dd.f k l0=some r) :
  Calls Tryz.prog 16 #[.slice A0 l0.length c0] w fun e w'=>∃ b4:Value,e=.returned (b4)∧Kd.R (Kd.int .i64) 3 w' w.heap.size (fun _=>True) b4 r∧Below w.heap.size w w':=by
 have b7:=am b0;have d2:=am a7;clear b0 a7;have HB:=am (Below.refl w.heap.size w);have H:=h;clear h;unfold Dd.f at H;have H':=am H;clear H;go_enter Tryz.func16,Tryz.ntmps16;go_wp2;(go_loopg [3,8] k (fun kq v3 v8 w'=>∃ (a1:List Int) (a0:Int),v8=.int .i64 a0∧Ab (Dd.l0 kq a1 l0 (l0.length:Int) a0=some r)∧Ab (kq≤k)∧Ab (Kd.R (Kd.int .i64) 3 w' w.heap.size (fun _=>True) v3 a1)∧Ab (Below w.heap.size w w')));(case atStart=>exact ⟨(([]:List Int)),(0),(eqw),H',⟨Nat.le_refl _⟩,⟨by first|exact Kd.R_nil _ _ _ _ _|exact Kd.N_nil _ _ _ _ _|exact Kd.V_nil _ _ _ _ _|exact Kd.Q_nil _ _ _ _ _|exact Kd.S_nil _ _ _ _ _⟩,⟨upW HB⟩⟩)
 case round =>
  clear H';obtain ⟨a1,a0,rfl,HA,a6,a2,HB⟩:=hrel
  cases gk with
  | zero=>exact absurd HA.out (by simp [Dd.l0])
  | succ k1 =>
   have H:=HA.out;clear HA;simp only [Dd.l0] at H;(by_cases c2:a0<(l0.length:Int))
   ·rw [if_pos c2] at H;have c2b0:=decide_eq_true c2;clear c2;obtain ⟨c3,H⟩:=ip H;have c3b0:=decide_eq_true c3;clear c3;obtain ⟨c4,H⟩:=ip H;have c4b0:=decide_eq_true c4;clear c4;obtain ⟨c5,H⟩:=ip H;have b9:=am c5;clear c5;obtain ⟨b5,a3⟩:∃ y_:List Int,y_=(a1++(Az l0 a0)):=⟨_,rfl⟩;(replace H:(Dd.l0 k1 b5 l0 (l0.length:Int) (wrap64 (a0+1)))=some r:=rwH a3 H);have c1:=am a3;clear a3;have H':=am H;clear H;have a4:0≤(a0:Int):=oda;have a5:a0<(l0.length:Int):=oda;obtain ⟨d4,d1,d5,d0,b1,a9,a8⟩:=D6 b7.out a0 a4 a5;cases d0;replace b1:=cb HB b1;have b8:=am a8;have d3:=am a9;clear a8 a9;replace a4:=eq_true a4;replace a5:=eq_true a5;(go_wp2_with (first|((with_reducible refine C4 (b:=.append) (xs := #[.tmp 12,.tmp 13]) rfl ?_);at_builtin;refine Kd.R_append_rows (Kd.int .i64) (w0:=w) w.heap.size rfl (.tmp 12) (.tmp 13) 26 3 (.int .i64 0) 8 rfl Tryz.underlying26 Jf rfl (by decide) (by omega) u3 a1 (Az l0 a0) _ _ _ (fun _=>True) (fun _=>False) rfl rfl ?aO ?aR (fun _ _ h=>h) (fun _ h=>h.elim) ?aF ?aB ?aS ?aL ?_;(case aR=>repeat (first|exact (Kd.C_below b8.out HB.out)|(with_reducible refine Kd.C_alloc ?_ _)|(with_reducible refine Kd.C_drewN ?_ _)|(with_reducible refine Kd.C_drew ?_)));(case aB=>exact (upW HB));(case aF=>exact (fun _ _=>trivial));(case aO=>exact (upR a2));(case aS=>exact (Ah (upW HB)));(case aL=>have:=b9.out;omega);intro d6 w6 ho hb hg hat;rw [← c1.out] at ho;have b2:=am (hb);have b3:=am (ho);clear HB;clear a2;have HB:=b2;have b6:=b3;clear b2 b3;clear ho hb hg hat)));go_roundg k1;(case measure=>have:=a6.out;omega);(case rel=>exact ⟨(b5),(wrap64 (a0+1)),(eqw),H',⟨by have:=a6.out;omega⟩,⟨upR b6⟩,⟨upW HB⟩⟩)
   ·rw [if_neg c2] at H;have c2b0:=decide_eq_false c2;clear c2;obtain rfl:=Option.some.inj H;go_wp2;go_ret;exact ⟨_,eqv,by (with_reducible repeat (first|apply Kd.R_alloc|apply Kd.R_drewN|apply Kd.R_drew));exact a2.out,upW HB⟩

/-! ### Ew: function 17 -/
def Ew.f (k:Nat) (l0:List (List Int)):Option (Int×Bool):=(Cl.f k l0).bind fun a0=>(some ((a0.2.2.1.length:Int),a0.2.2.2))
set_option maxHeartbeats 8000000 in
set_option maxRecDepth 100000 in
theorem Ew.calls (k:Nat) (A0:Option Addr) (c0:Nat) (l0:List (List Int)) (r1:Int) (r2:Bool) (w:World) (a3:Kd.C (Kd.slice 3 (Kd.int .i64)) w A0 l0.length l0) (a1:l0.length≤c0) (h:Ew.f k l0=some (r1,r2)) :
  Calls Tryz.prog 17 #[.slice A0 l0.length c0] w fun e w'=>e=.returned (.tuple #[.int .i64 r1,.bool r2])∧Below w.heap.size w w':=by
 have d4:=Tryz.underlying24;have a6:=am a3;have a5:=am a1;clear a3 a1;have HB:=am (Below.refl w.heap.size w);have H:=h;clear h;unfold Ew.f at H;obtain ⟨⟨b0,b1,b2,b3⟩,A2,H⟩:=bnd H;(try dsimp only at H);simp only [Option.some.injEq,Prod.mk.injEq] at H;obtain ⟨rfl,rfl⟩:=H;go_enter Tryz.func17,Tryz.ntmps17;(go_wp2_with (first|((with_reducible refine Ad (f:=13) rfl ?_);refine cgo (some 8) Tryz.func13 (Cl.calls k _ _ l0 b0 b1 b2 b3 _ ?a8 ?a9 A2.out) ?_;(case a8=>exact upC a6.out);(case a9=>exact a5.out);rintro e w3 ⟨d5,rfl,a2,hb⟩;refine ⟨_,rfl,?_⟩;have a0:=am (Kd.R_lower a2 (Ah (upW HB)));replace HB:=wb HB hb;(try clear hb a2))|((with_reducible refine Ag (N:=4) rfl ?_);refine Bd 4 (#[.int .i64 0,.int .i64 0,.slice none 0 0]) 24 ?_;intro b8 hg w4 hbox hb;replace a0:=rb a0 hb;have a4:=am (hbox);have b6:=am (gz hg HB);have b5:=am (gz hg HB);replace HB:=wb HB hb;clear hb hbox hg;obtain ⟨b9,c1,d0,d1,d2,d3⟩:=cy3 a4;obtain ⟨b4,b7,a7⟩:=Kd.R_slice a0.out;subst a7)));(go_ret2);exact ⟨eqv,upW HB⟩

/-! ### Cu: function 19 -/
mutual
def Cu.j0:Nat→Bool→Int→Int→List (S50)→Int→Int→List (S50)→Option (Bool)
 | 0,_,_,_,_,_,_,_=>none
 | k+1,a8,a3,a4,a1,a5,a6,a2=>if a8=true then (some false) else (Cu.l0 k (a1.length:Int) 0 a3 a4 a1 a5 a6 a2)
def Cu.l0:Nat→Int→Int→Int→Int→List (S50)→Int→Int→List (S50)→Option (Bool)
 | 0,_,_,_,_,_,_,_,_=>none
 | k+1,a7,a0,a3,a4,a1,a5,a6,a2=>if a0<a7 then (if 0≤a0 then (if a0<(a1.length:Int) then (if a0<(a2.length:Int) then (if (!(((Aa a1 a0).f0)==((Aa a2 a0).f0))||(!(((Aa a1 a0).f1)==((Aa a2 a0).f1))||(!(((Aa a1 a0).f2)==((Aa a2 a0).f2)))))=true then (some false) else (Cu.l0 k a7 (wrap64 (a0+1)) a3 a4 a1 a5 a6 a2)) else (none)) else (none)) else (none)) else (some true)
end
def Cu.f (k:Nat) (a0:Int) (a1:Int) (a4:List (S50)) (a2:Int) (a3:Int) (a5:List (S50)):Option (Bool):=if a0=a2 then (if a1=a3 then (Cu.j0 k ((a4.length:Int) != (a5.length:Int)) a0 a1 a4 a2 a3 a5) else (Cu.j0 k true a0 a1 a4 a2 a3 a5)) else (Cu.j0 k true a0 a1 a4 a2 a3 a5)
set_option maxHeartbeats 8000000 in
set_option maxRecDepth 100000 in
theorem Cu.calls (k:Nat) (a5:Int) (a6:Int) (b1:Option Addr) (b3:Nat) (a2:List (S50)) (a7:Int) (a8:Int) (b2:Option Addr) (b4:Nat) (a3:List (S50)) (r:Bool) (w:World) (g8:Kd.C k50 w b1 a2.length a2) (g6:a2.length≤b3) (g9:Kd.C k50 w b2 a3.length a3) (g7:a3.length≤b4) (h:Cu.f k a5 a6 a2 a7 a8 a3=some r) :
  Calls Tryz.prog 19 #[.agg #[.int .i64 a5,.int .i64 a6,.slice b1 a2.length b3],.agg #[.int .i64 a7,.int .i64 a8,.slice b2 a3.length b4]] w fun e w'=>e=.returned (.bool r)∧Below w.heap.size w w':=by
 have q8:=Tryz.underlying24;have q9:=Tryz.underlying50;have g1:=am g8;have i0:=am g6;clear g8 g6;have g2:=am g9;have i1:=am g7;clear g9 g7;have HB:=am (Below.refl w.heap.size w);have H:=h;clear h;unfold Cu.f at H;have d9:=am H;clear H;go_enter Tryz.func19,Tryz.ntmps19;(go_upto_region 1 with (first|((with_reducible refine Ag (N:=2) rfl ?_);(try (refine Cn (by rfl) ?_;dsimp only));refine Bd 2 (#[.int .i64 a5,.int .i64 a6,.slice b1 a2.length b3]) 24 ?_;intro b5 hg w4 hbox hb;have a1:=am (hbox);have f7:=am (gz hg HB);have f5:=am (gz hg HB);replace HB:=wb HB hb;clear hb hbox hg)|((with_reducible refine Ag (N:=3) rfl ?_);(try (refine Cn (by rfl) ?_;dsimp only));refine Bd 3 (#[.int .i64 a7,.int .i64 a8,.slice b2 a3.length b4]) 24 ?_;intro b6 hg w5 hbox hb;have a4:=am (hbox);have f8:=am (gz hg HB);have f6:=am (gz hg HB);replace HB:=wb HB hb;have a9:=am (gn hg a1);have b0:=am ((by rw [hg];exact Nat.ne_of_gt (Ak (upK a1)):b6≠b5));replace a1:=kb a1 hb;clear hb hbox hg)));(repeat (go_quiet (first|((with_reducible refine Ag (N:=2) rfl ?_);(try (refine Cn (by rfl) ?_;dsimp only));refine Bd 2 (#[.int .i64 a5,.int .i64 a6,.slice b1 a2.length b3]) 24 ?_;intro b5 hg w4 hbox hb;have a1:=am (hbox);have f7:=am (gz hg HB);have f5:=am (gz hg HB);replace HB:=wb HB hb;clear hb hbox hg)|((with_reducible refine Ag (N:=3) rfl ?_);(try (refine Cn (by rfl) ?_;dsimp only));refine Bd 3 (#[.int .i64 a7,.int .i64 a8,.slice b2 a3.length b4]) 24 ?_;intro b6 hg w5 hbox hb;have a4:=am (hbox);have f8:=am (gz hg HB);have f6:=am (gz hg HB);replace HB:=wb HB hb;have a9:=am (gn hg a1);have b0:=am ((by rw [hg];exact Nat.ne_of_gt (Ak (upK a1)):b6≠b5));replace a1:=kb a1 hb;clear hb hbox hg));go_upto_region 1 with (first|((with_reducible refine Ag (N:=2) rfl ?_);(try (refine Cn (by rfl) ?_;dsimp only));refine Bd 2 (#[.int .i64 a5,.int .i64 a6,.slice b1 a2.length b3]) 24 ?_;intro b5 hg w4 hbox hb;have a1:=am (hbox);have f7:=am (gz hg HB);have f5:=am (gz hg HB);replace HB:=wb HB hb;clear hb hbox hg)|((with_reducible refine Ag (N:=3) rfl ?_);(try (refine Cn (by rfl) ?_;dsimp only));refine Bd 3 (#[.int .i64 a7,.int .i64 a8,.slice b2 a3.length b4]) 24 ?_;intro b6 hg w5 hbox hb;have a4:=am (hbox);have f8:=am (gz hg HB);have f6:=am (gz hg HB);replace HB:=wb HB hb;have a9:=am (gn hg a1);have b0:=am ((by rw [hg];exact Nat.ne_of_gt (Ak (upK a1)):b6≠b5));replace a1:=kb a1 hb;clear hb hbox hg))));(try simp only [Act.put,List.setIfInBounds_toArray,List.set_cons_zero,List.set_cons_succ]);(go_cut [26] (fun v26 wc=>∃ (kq:Nat) (d8:Bool),v26=.bool d8∧Ab (Cu.j0 kq d8 a5 a6 a2 a7 a8 a3=some r)∧Ab (kq≤k)∧Ab (wc.heap[b5]? = some (.cells #[.int .i64 a5,.int .i64 a6,(.slice b1 a2.length b3)] 24 (0,0)))∧Ab (wc.heap[b6]? = some (.cells #[.int .i64 a7,.int .i64 a8,(.slice b2 a3.length b4)] 24 (0,0)))∧Ab (Below w.heap.size w wc)))
 case first =>
  have H:=d9.out;clear d9;(by_cases c6:a5=a7)
  ·rw [if_pos c6] at H;have c6b0:(a5==a7)=true:=beq_iff_eq.mpr c6;have c6b1:(a5 != a7)=false:=bne_eq_false_iff_eq.mpr c6;clear c6;(first|rw [c6b0]|(simp only [Cy,Eg];rw [c6b0])|skip);(by_cases c7:a6=a8)
   ·rw [if_pos c7] at H;have c7b0:(a6==a8)=true:=beq_iff_eq.mpr c7;have c7b1:(a6 != a8)=false:=bne_eq_false_iff_eq.mpr c7;clear c7;have H':=am H;clear H;have q1:=a9.out;have q7:=b0.out;obtain ⟨m3,m4,m5,p3,p4,p5⟩:=cy3 a1;obtain ⟨i2,i3,i4,m6,m7,m8⟩:=cy3 a4;go_wp2;(repeat (go_quiet (fail);try go_wp2));(go_meet);(case rel=>exact ⟨_,(((a2.length:Int) != (a3.length:Int))),(eqw),H',⟨by first|omega|exact Nat.le_refl _⟩,⟨upK a1⟩,⟨upK a4⟩,⟨upW HB⟩⟩)
   ·rw [if_neg c7] at H;have c7b0:(a6==a8)=false:=beq_eq_false_iff_ne.mpr c7;have c7b1:(a6 != a8)=true:=bne_iff_ne.mpr c7;have H':=am H;clear H;have p6:=a9.out;have q2:=b0.out;obtain ⟨i5,i6,i7,m9,n0,n1⟩:=cy3 a1;obtain ⟨i8,i9,j3,n2,n3,n4⟩:=cy3 a4;go_wp2;(repeat (go_quiet (fail);try go_wp2));(go_meet);(case rel=>exact ⟨_,(true),(eqw),H',⟨by first|omega|exact Nat.le_refl _⟩,⟨upK a1⟩,⟨upK a4⟩,⟨upW HB⟩⟩)
  ·rw [if_neg c6] at H;have c6b0:(a5==a7)=false:=beq_eq_false_iff_ne.mpr c6;have c6b1:(a5 != a7)=true:=bne_iff_ne.mpr c6;(first|rw [c6b0]|(simp only [Cy,Eg];rw [c6b0])|skip);have H':=am H;clear H;have p7:=a9.out;have q3:=b0.out;obtain ⟨j9,k0,k1,n5,n6,n7⟩:=cy3 a1;obtain ⟨k3,k4,k5,n8,n9,o0⟩:=cy3 a4;go_wp2;(repeat (go_quiet (fail);try go_wp2));(go_meet);(case rel=>exact ⟨_,(true),(eqw),H',⟨by first|omega|exact Nat.le_refl _⟩,⟨upK a1⟩,⟨upK a4⟩,⟨upW HB⟩⟩)
 case rest =>
  clear d9;obtain ⟨kq,d8,rfl,HA,f9,a1,a4,HB⟩:=hcut
  cases kq with
  | zero=>exact absurd HA.out (by simp [Cu.j0])
  | succ h0 =>
   have H:=HA.out;clear HA;simp only [Cu.j0] at H;(by_cases d7:d8=true)
   ·subst d7;replace H:=yT H;obtain rfl:=Option.some.inj H;go_wp2;(repeat (go_quiet (fail);try go_wp2));go_ret;exact ⟨eqv,upW HB⟩
   ·replace d7:=Bool.eq_false_iff.mpr d7;subst d7;replace H:=yF H;have H':=am H;clear H;have p8:=a9.out;have q4:=b0.out;obtain ⟨h4,h5,h6,h7,h8,h9⟩:=cy3 a1;go_wp2;(repeat (go_quiet (fail);try go_wp2));(go_loopg [30] h0 (fun kq v30 w'=>∃ (a0:Int),v30=.int .i64 a0∧Ab (Cu.l0 kq (a2.length:Int) a0 a5 a6 a2 a7 a8 a3=some r)∧Ab (kq≤h0)∧Ab (w'.heap[b5]? = some (.cells #[.int .i64 a5,.int .i64 a6,(.slice b1 a2.length b3)] 24 (0,0)))∧Ab (w'.heap[b6]? = some (.cells #[.int .i64 a7,.int .i64 a8,(.slice b2 a3.length b4)] 24 (0,0)))∧Ab (Below w.heap.size w w')));(case atStart=>exact ⟨(0),(eqw),H',⟨Nat.le_refl _⟩,⟨upK a1⟩,⟨upK a4⟩,⟨upW HB⟩⟩)
    case round =>
     clear H';(try clear h4 h5 h6 h7 h8 h9);obtain ⟨a0,rfl,HA,g0,a1,a4,HB⟩:=hrel
     cases gk with
     | zero=>exact absurd HA.out (by simp [Cu.l0])
     | succ k2 =>
      have H:=HA.out;clear HA;simp only [Cu.l0] at H;(by_cases c1:a0<(a2.length:Int))
      ·rw [if_pos c1] at H;have c20b0:=decide_eq_true c1;clear c1;obtain ⟨g3,H⟩:=ip H;have c21b0:=decide_eq_true g3;clear g3;obtain ⟨g4,H⟩:=ip H;have c22b0:=decide_eq_true g4;clear g4;obtain ⟨g5,H⟩:=ip H;have c23b0:=decide_eq_true g5;clear g5;(by_cases d0:(!(((Aa a2 a0).f0)==((Aa a3 a0).f0))||(!(((Aa a2 a0).f1)==((Aa a3 a0).f1))||(!(((Aa a2 a0).f2)==((Aa a3 a0).f2)))))=true)
       ·rw [if_pos d0] at H;have c24b0:(!(((Aa a2 a0).f0)==((Aa a3 a0).f0))||(!(((Aa a2 a0).f1)==((Aa a3 a0).f1))||(!(((Aa a2 a0).f2)==((Aa a3 a0).f2)))))=true:=d0;clear d0;obtain rfl:=Option.some.inj H;have p9:=a9.out;have q5:=b0.out;obtain ⟨k6,k7,k8,o1,o2,o3⟩:=cy3 a1;have b7:0≤(a0:Int):=oda;have b9:a0<(a2.length:Int):=oda;obtain ⟨h2,f3,d1,d2,d3⟩:=Bp g1.out a0 b7 b9;cases f3;replace d1:=cb HB d1;replace d2:=cb HB d2;replace d3:=cb HB d3;replace b7:=eq_true b7;replace b9:=eq_true b9;obtain ⟨k9,l5,l6,o4,o5,o6⟩:=cy3 a4;have b8:0≤(a0:Int):=oda;have c0:a0<(a3.length:Int):=oda;obtain ⟨h3,f4,d4,d5,d6⟩:=Bp g2.out a0 b8 c0;cases f4;replace d4:=cb HB d4;replace d5:=cb HB d5;replace d6:=cb HB d6;replace b8:=eq_true b8;replace c0:=eq_true c0;go_wp2;(repeat (go_quiet (fail);try go_wp2));go_ret;exact ⟨eqv,upW HB⟩
       ·rw [if_neg d0] at H;(have c24b0:(!(((Aa a2 a0).f0)==((Aa a3 a0).f0))||(!(((Aa a2 a0).f1)==((Aa a3 a0).f1))||(!(((Aa a2 a0).f2)==((Aa a3 a0).f2)))))=false:=by simpa using d0);clear d0;have H':=am H;clear H;have q0:=a9.out;have q6:=b0.out;obtain ⟨l7,l8,l9,o7,o8,o9⟩:=cy3 a1;have b7:0≤(a0:Int):=oda;have b9:a0<(a2.length:Int):=oda;obtain ⟨h2,f3,d1,d2,d3⟩:=Bp g1.out a0 b7 b9;cases f3;replace d1:=cb HB d1;replace d2:=cb HB d2;replace d3:=cb HB d3;replace b7:=eq_true b7;replace b9:=eq_true b9;obtain ⟨m0,m1,m2,p0,p1,p2⟩:=cy3 a4;have b8:0≤(a0:Int):=oda;have c0:a0<(a3.length:Int):=oda;obtain ⟨h3,f4,d4,d5,d6⟩:=Bp g2.out a0 b8 c0;cases f4;replace d4:=cb HB d4;replace d5:=cb HB d5;replace d6:=cb HB d6;replace b8:=eq_true b8;replace c0:=eq_true c0;go_wp2;(repeat (go_quiet (fail);try go_wp2));go_roundg k2;(case measure=>have:=f9.out;have:=g0.out;omega);(case rel=>exact ⟨(wrap64 (a0+1)),(eqw),H',⟨by have:=f9.out;have:=g0.out;omega⟩,⟨upK a1⟩,⟨upK a4⟩,⟨upW HB⟩⟩)
      ·rw [if_neg c1] at H;have c20b0:=decide_eq_false c1;clear c1;obtain rfl:=Option.some.inj H;go_wp2;(repeat (go_quiet (fail);try go_wp2));go_ret;exact ⟨eqv,upW HB⟩

/-! ### Dg: function 20 -/
def Dg.f (k:Nat) (l0:List (List Int)):Option (Bool):=(Cl.f k l0).bind fun a0=>(some a0.2.2.2)
set_option maxHeartbeats 8000000 in
set_option maxRecDepth 100000 in
theorem Dg.calls (k:Nat) (A0:Option Addr) (c0:Nat) (l0:List (List Int)) (r:Bool) (w:World) (a3:Kd.C (Kd.slice 3 (Kd.int .i64)) w A0 l0.length l0) (a1:l0.length≤c0) (h:Dg.f k l0=some r) :
  Calls Tryz.prog 20 #[.slice A0 l0.length c0] w fun e w'=>e=.returned (.bool r)∧Below w.heap.size w w':=by
 have d4:=Tryz.underlying24;have a7:=am a3;have a6:=am a1;clear a3 a1;have HB:=am (Below.refl w.heap.size w);have H:=h;clear h;unfold Dg.f at H;obtain ⟨⟨b1,b2,b3,a4⟩,A2,H⟩:=bnd H;replace H:(some a4)=some r:=H;obtain rfl:=Option.some.inj H;go_enter Tryz.func20,Tryz.ntmps20;(go_wp2_with (first|((with_reducible refine Ad (f:=13) rfl ?_);refine cgo (some 7) Tryz.func13 (Cl.calls k _ _ l0 b1 b2 b3 a4 _ ?a9 ?b0 A2.out) ?_;(case a9=>exact upC a7.out);(case b0=>exact a6.out);rintro e w3 ⟨d5,rfl,a2,hb⟩;refine ⟨_,rfl,?_⟩;have a0:=am (Kd.R_lower a2 (Ah (upW HB)));replace HB:=wb HB hb;(try clear hb a2))|((with_reducible refine Ag (N:=3) rfl ?_);refine Bd 3 (#[.int .i64 0,.int .i64 0,.slice none 0 0]) 24 ?_;intro b8 hg w4 hbox hb;replace a0:=rb a0 hb;have a5:=am (hbox);have b6:=am (gz hg HB);have b5:=am (gz hg HB);replace HB:=wb HB hb;clear hb hbox hg;obtain ⟨b9,c1,d0,d1,d2,d3⟩:=cy3 a5;obtain ⟨b4,b7,a8⟩:=Kd.R_slice a0.out;subst a8)));go_ret;exact ⟨eqv,upW HB⟩

/-! ### Ec: function 21 -/
def Ec.l0:Nat→Int→List Int→Int→Int→Option (Int)
 | 0,_,_,_,_=>none
 | k+1,x3,x6,x7,x8=>if x8<x7 then (if 0≤x8 then (if x8<(x6.length:Int) then (Ec.l0 k (wrap64 (x3+(rd x6 x8))) x6 x7 (wrap64 (x8+1))) else (none)) else (none)) else (some x3)
def Ec.f (k:Nat) (l0:List Int):Option (Int):=Ec.l0 k 0 l0 (l0.length:Int) 0
set_option maxHeartbeats 8000000 in
set_option maxRecDepth 100000 in
theorem Ec.calls (k:Nat) (A0:Option Addr) (c0:Nat) (l0:List Int) (r:Int) (w:World) (a6:Kd.C (Kd.int .i64) w A0 l0.length l0) (a5:l0.length≤c0) (h:Ec.f k l0=some r) :
  Calls Tryz.prog 21 #[.slice A0 l0.length c0] w fun e w'=>e=.returned (.int .i64 r)∧Cq w w':=by
 have a7:=am a6;have a9:=am a5;clear a6 a5;have H:=h;clear h;unfold Ec.f at H;have H':=am H;clear H;go_enter Tryz.func21,Tryz.ntmps21;go_wp2;(go_loopg [3,8] k (fun kq v3 v8 w'=>∃ (a1:Int) (a0:Int),v3=.int .i64 a1∧v8=.int .i64 a0∧Ab (Ec.l0 kq a1 l0 (l0.length:Int) a0=some r)∧Ab (kq≤k)∧Cq w w'));(case atStart=>exact ⟨(0),(0),(eqw),(eqw),H',⟨Nat.le_refl _⟩,dz⟩)
 case round =>
  clear H';obtain ⟨a1,a0,rfl,rfl,HA,a4,⟨m1,rfl⟩⟩:=hrel
  cases gk with
  | zero=>exact absurd HA.out (by simp [Ec.l0])
  | succ k1 =>
   have H:=HA.out;clear HA;simp only [Ec.l0] at H;(by_cases c2:a0<(l0.length:Int))
   ·rw [if_pos c2] at H;have c2b0:=decide_eq_true c2;clear c2;obtain ⟨c3,H⟩:=ip H;have c3b0:=decide_eq_true c3;clear c3;obtain ⟨c4,H⟩:=ip H;have c4b0:=decide_eq_true c4;clear c4;have H':=am H;clear H;have a2:0≤(a0:Int):=oda;have a3:a0<(l0.length:Int):=oda;obtain ⟨b0,a8,b1⟩:=Kd.at_int a7.out a0 a2 a3;cases a8;replace a2:=eq_true a2;replace a3:=eq_true a3;go_wp2;go_roundg k1;(case measure=>have:=a4.out;omega);(case rel=>exact ⟨(wrap64 (a1+(rd l0 a0))),(wrap64 (a0+1)),(eqw),(eqw),H',⟨by have:=a4.out;omega⟩,dz⟩)
   ·rw [if_neg c2] at H;have c2b0:=decide_eq_false c2;clear c2;obtain rfl:=Option.some.inj H;go_wp2;go_ret;exact ⟨eqw,dz⟩

/-! ### Dl: function 22 -/
def Dl.l0:Nat→List Int→Int→Option (Bool)
 | 0,_,_=>none
 | k+1,x0,x3=>if x3<(x0.length:Int) then (if 0≤(wrap64 (x3-1)) then (if (wrap64 (x3-1))<(x0.length:Int) then (if 0≤x3 then (if (rd x0 (wrap64 (x3-1)))≥(rd x0 x3) then (some false) else (Dl.l0 k x0 (wrap64 (x3+1)))) else (none)) else (none)) else (none)) else (some true)
def Dl.f (k:Nat) (l0:List Int):Option (Bool):=Dl.l0 k l0 1
set_option maxHeartbeats 8000000 in
set_option maxRecDepth 100000 in
theorem Dl.calls (k:Nat) (A0:Option Addr) (c0:Nat) (l0:List Int) (r:Bool) (w:World) (b4:Kd.C (Kd.int .i64) w A0 l0.length l0) (b3:l0.length≤c0) (h:Dl.f k l0=some r) :
  Calls Tryz.prog 22 #[.slice A0 l0.length c0] w fun e w'=>e=.returned (.bool r)∧Cq w w':=by
 have a6:=am b4;have b7:=am b3;clear b4 b3;have H:(Dl.l0 k l0 1)=some r:=h;clear h;have H':=am H;clear H;go_enter Tryz.func22,Tryz.ntmps22;go_wp2;(repeat (go_quiet (fail);try go_wp2));(go_loopg [3] k (fun kq v3 w'=>∃ (a0:Int),v3=.int .i64 a0∧Ab (Dl.l0 kq l0 a0=some r)∧Ab (kq≤k)∧Cq w w'));(case atStart=>exact ⟨(1),(eqw),H',⟨Nat.le_refl _⟩,dz⟩)
 case round =>
  clear H';obtain ⟨a0,rfl,HA,b2,⟨m1,rfl⟩⟩:=hrel
  cases gk with
  | zero=>exact absurd HA.out (by simp [Dl.l0])
  | succ k1 =>
   have H:=HA.out;clear HA;simp only [Dl.l0] at H;(by_cases c2:a0<(l0.length:Int))
   ·rw [if_pos c2] at H;have c2b0:=decide_eq_true c2;clear c2;obtain ⟨a1,a7⟩:∃ j_:Int,(wrap64 (a0-1))=j_:=⟨_,rfl⟩;(replace H:(if 0≤(a1) then (if (a1)<(l0.length:Int) then (if 0≤a0 then (if (rd l0 (a1))≥(rd l0 a0) then (some false) else (Dl.l0 k1 l0 (wrap64 (a0+1)))) else (none)) else (none)) else (none))=some r:=by first|(rw [a7] at H;exact H)|(simp only [a7] at H ⊢;exact H));have b8:(IntKind.i64.wrap (a0-1))=a1:=(Cy _).trans a7;obtain ⟨c4,H⟩:=ip H;have c4b0:=decide_eq_true c4;clear c4;obtain ⟨c5,H⟩:=ip H;have c5b0:=decide_eq_true c5;clear c5;obtain ⟨c6,H⟩:=ip H;have c6b0:=decide_eq_true c6;clear c6;(by_cases c7:(rd l0 (a1))≥(rd l0 a0))
    ·rw [if_pos c7] at H;have c7b0:=decide_eq_true c7;clear c7;obtain rfl:=Option.some.inj H;have a2:0≤((a1):Int):=oda;have a4:(a1)<(l0.length:Int):=oda;obtain ⟨a8,b0,b5⟩:=Kd.at_int a6.out (a1) a2 a4;cases b0;replace a2:=eq_true a2;replace a4:=eq_true a4;have a3:0≤(a0:Int):=oda;have a5:a0<(l0.length:Int):=oda;obtain ⟨a9,b1,b6⟩:=Kd.at_int a6.out a0 a3 a5;obtain rfl:a8=a9:=(by injection b1);replace a3:=eq_true a3;replace a5:=eq_true a5;go_wp2;(repeat (go_quiet (fail);try go_wp2));go_ret;exact ⟨by first|rfl|(simp;done)|(simp only [← a7] <;> (first|rfl|simp))|(simp [*];done),dz⟩
    ·rw [if_neg c7] at H;have c7b0:=decide_eq_false c7;clear c7;have H':=am H;clear H;have a2:0≤((a1):Int):=oda;have a4:(a1)<(l0.length:Int):=oda;obtain ⟨a8,b0,b5⟩:=Kd.at_int a6.out (a1) a2 a4;cases b0;replace a2:=eq_true a2;replace a4:=eq_true a4;have a3:0≤(a0:Int):=oda;have a5:a0<(l0.length:Int):=oda;obtain ⟨a9,b1,b6⟩:=Kd.at_int a6.out a0 a3 a5;obtain rfl:a8=a9:=(by injection b1);replace a3:=eq_true a3;replace a5:=eq_true a5;go_wp2;(repeat (go_quiet (fail);try go_wp2));go_roundg k1;(case measure=>have:=b2.out;omega);(case rel=>exact ⟨(wrap64 (a0+1)),(eqw),H',⟨by have:=b2.out;omega⟩,dz⟩)
   ·rw [if_neg c2] at H;have c2b0:=decide_eq_false c2;clear c2;obtain rfl:=Option.some.inj H;go_wp2;(repeat (go_quiet (fail);try go_wp2));go_ret;exact ⟨eqw,dz⟩

/-! ### Er: function 53 -/
def Er.f (k:Nat) (a2:Int) (a3:Int) (a0:List (S50)) (a1:Int):Option (Bool):=(As.f k a2 a3 a0).bind fun a4=>(if a4=true then ((Cj.f a1 0 (wrap64 ((a0.length:Int)-1))).bind fun a5=>(some a5)) else (some false))
set_option maxHeartbeats 8000000 in
set_option maxRecDepth 100000 in
theorem Er.calls (k:Nat) (a3:Int) (a4:Int) (a5:Option Addr) (a6:Nat) (a0:List (S50)) (a1:Int) (r:Bool) (w:World) (b2:Kd.C k50 w a5 a0.length a0) (b1:a0.length≤a6) (h:Er.f k a3 a4 a0 a1=some r) :
  Calls Tryz.prog 53 #[.agg #[.int .i64 a3,.int .i64 a4,.slice a5 a0.length a6],.int .i64 a1] w fun e w'=>e=.returned (.bool r)∧Below w.heap.size w w':=by
 have f4:=Tryz.underlying24;have b0:=am b2;have a9:=am b1;clear b2 b1;have HB:=am (Below.refl w.heap.size w);have H:=h;clear h;unfold Er.f at H;obtain ⟨b7,A3,H⟩:=bnd H;(try dsimp only at H);(by_cases c4:b7=true)
 ·subst c4;replace H:=yT H;obtain ⟨b3,A5,H⟩:=bnd H;replace H:(some b3)=some r:=H;obtain rfl:=Option.some.inj H;go_enter Tryz.func53,Tryz.ntmps53;(go_wp2_with (first|((with_reducible refine Ag (N:=2) rfl ?_);(try (refine Cn (by rfl) ?_;dsimp only));refine Bd 2 (#[.int .i64 a3,.int .i64 a4,.slice a5 a0.length a6]) 24 ?_;intro b6 hg w6 hbox hb;have a2:=am (hbox);have b5:=am (gz hg HB);have b4:=am (gz hg HB);replace HB:=wb HB hb;clear hb hbox hg;obtain ⟨c1,d0,d1,d8,d9,f0⟩:=cy3 a2)|((with_reducible refine Ad (f:=12) rfl ?_);refine cgo (some 6) Tryz.func12 (As.calls k a3 a4 _ _ a0 true _ ?a7 ?a8 A3.out) ?_;(case a7=>exact upC (Kd.C_below b0.out HB.out));(case a8=>exact a9.out);rintro e w8 ⟨rfl,hb⟩;refine ⟨_,rfl,?_⟩;replace a2:=kb a2 hb;replace HB:=wb HB hb;(try clear hb);obtain ⟨d2,d3,d4,f1,f2,f3⟩:=cy3 a2)|(go_at_call 35;(with_reducible refine (Cj.calls a1 0 (wrap64 ((a0.length:Int)-1)) b3 _ A5.out).mono ?_);rintro e w' ⟨rfl,⟨nd,rfl⟩⟩)));go_ret;exact ⟨eqv,upW HB⟩
 ·replace c4:=Bool.eq_false_iff.mpr c4;subst c4;replace H:=yF H;obtain rfl:=Option.some.inj H;go_enter Tryz.func53,Tryz.ntmps53;(go_wp2_with (first|((with_reducible refine Ag (N:=2) rfl ?_);(try (refine Cn (by rfl) ?_;dsimp only));refine Bd 2 (#[.int .i64 a3,.int .i64 a4,.slice a5 a0.length a6]) 24 ?_;intro b6 hg f5 hbox hb;have a2:=am (hbox);have b5:=am (gz hg HB);have b4:=am (gz hg HB);replace HB:=wb HB hb;clear hb hbox hg;obtain ⟨b8,b9,c0,d5,d6,d7⟩:=cy3 a2)|((with_reducible refine Ad (f:=12) rfl ?_);refine cgo (some 6) Tryz.func12 (As.calls k a3 a4 _ _ a0 false _ ?a7 ?a8 A3.out) ?_;(case a7=>exact upC (Kd.C_below b0.out HB.out));(case a8=>exact a9.out);rintro e f6 ⟨rfl,hb⟩;refine ⟨_,rfl,?_⟩;replace a2:=kb a2 hb;replace HB:=wb HB hb;(try clear hb))));go_ret;exact ⟨eqv,upW HB⟩

end Go.Proofs.YtgeahghdikdamaaGreat.PFnCodesToldOfAll
