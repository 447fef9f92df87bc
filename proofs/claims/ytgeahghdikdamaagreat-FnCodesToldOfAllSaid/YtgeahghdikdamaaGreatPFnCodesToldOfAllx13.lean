-- made for this claim by a program of this session
import Derived.Test.YtgeahghdikdamaaGreatPFnCodesToldOfAllx0
import Derived.Test.YtgeahghdikdamaaGreatPFnCodesToldOfAllx2
import Derived.Test.YtgeahghdikdamaaGreatPFnCodesToldOfAllx3
import Derived.Test.YtgeahghdikdamaaGreatPFnCodesToldOfAllx6
import Derived.Test.YtgeahghdikdamaaGreatPFnCodesToldOfAllx12
namespace Go.Proofs.YtgeahghdikdamaaGreat.PFnCodesToldOfAll
open Go.RowKit Go.Proofs.YtgeahghdikdamaaGreatW.PrintWords Go.Proofs.YtgeahghdikdamaaGreatW.PrintLast Go.Proofs.YtgeahghdikdamaaGreatW.PrintMore
attribute [local go_sem] Dn Do D2 D3 Da Db Dp Dq -- for this text's walks alone
set_option linter.unusedVariables false
set_option linter.unusedSimpArgs false

/-! ### Ej: function 32 -/
def Jq:Go.Shelf.Ren:=⟨fun|43=>32|n=>n,fun|22=>26|23=>3|3=>3|4=>4|0=>0|n=>n,fun|n=>n⟩
theorem Kb:Go.Proofs.SlLaysE.n43 Tryz.prog Jq where
 mixed:=by kernel_rfl
 f43:=⟨Tryz.f32.name,by decide,Tryz.func32.trans (congrArg some (by kernel_rfl))⟩
 t0:=Tryz.underlying0
 a0:=Tryz.isAgg0
 z0:=Tryz.sizeOf0
 v0:=Tryz.zeroValue0
 t3:=Tryz.underlying3
 a3:=Tryz.isAgg3
 z3:=Tryz.sizeOf3
 v3:=Tryz.zeroValue3
 t4:=Tryz.underlying4
 a4:=Tryz.isAgg4
 z4:=Tryz.sizeOf4
 v4:=Tryz.zeroValue4
 t22:=Tryz.underlying26
 a22:=Tryz.isAgg26
 z22:=Tryz.sizeOf26
 v22:=Tryz.zeroValue26
 a23:=Tryz.isAgg3
 z23:=Tryz.sizeOf3
def Ej.f (l:List Int):Option (List Int):=some (Lib.compactUpTo l.toArray l.length)
set_option maxHeartbeats 8000000 in
theorem Ej.calls (a2:Nat→Prop) (a6:Value) (l0:List Int) (r:List Int) (w0 w:World) (hB:Below w0.heap.size w0 w) (a1:Kd.R (Kd.int .i64) 3 w w0.heap.size a2 a6 l0) (h:Ej.f l0=some r) :
  Calls Tryz.prog 32 #[a6] w fun e w'=>∃ a7:Value,e=.returned a7∧Kd.R (Kd.int .i64) 3 w' w0.heap.size (fun k_=>(a2 k_∨w.heap.size≤k_)) a7 r∧Below w0.heap.size w0 w'∧Bb w w' (fun k_=>a2 k_):=by
 have h':r=Lib.compactUpTo l0.toArray l0.length:=(Option.some.inj h).symm;have a5:Kd.R (Kd.int .i64) 3 w w0.heap.size (fun k_=>(a2 k_∨w.heap.size≤k_)) a6 l0:=Kd.R_mono a1 (fun _ hk=>.inl hk);(by_cases hl:l0=[])
 ·subst hl;(have hr:r=[]:=by rw [h'];rfl);subst hr;obtain ⟨A,c,rfl⟩:=Kd.R_slice a1;clear h h' a1;have HO:=am a5;have HB:=am hB;clear a5 hB;go_enter Tryz.func32,Tryz.ntmps32;go_wp2;go_ret;exact ⟨_,rfl,HO.out,HB.out,Bb.refl _ _⟩
 ·have hp:0<l0.length:=List.length_pos_iff.2 hl;obtain ⟨g,cap,rfl,hbase,hlt,cells,hcells⟩:=Kd.R_form a1 hp;have hcap:l0.length≤cap:=(Kd.R_reads' a1).2.1
  have hsz:l0.length≤9223372036854775807:=by
   obtain ⟨_,inner,ho,_⟩:=a1;(rcases ho.2 with ⟨h2,_⟩|⟨g2,a8,a9,h2,_,_,h3,h4,_,_⟩)
   ·cases h2
   ·(have h5:maxLen≤9223372036854775807:=by decide);omega
  have hcon:=AnyE.slices_Compact Kb (Value.int .i64) (fun _=>rfl) (EqlAt.intD _ _ .i64) (NeqAt.intD _ _ .i64) 0 Tryz.zeroValue3 g 0 cap l0.toArray w (row_holds a1) (by simpa using hsz) (by simpa using hcap);(have hs:l0.toArray.size=l0.length:=by simp);rw [hs] at hcon;refine hcon.mono ?_;rintro e w' ⟨rfl,q,rfl⟩;rw [← h']
  have hrl:r.length≤l0.length:=by
   (rw [h'];unfold Lib.compactUpTo);rw [List.length_map];exact Nat.le_trans (List.length_filter_le _ _) (by simp)
  obtain ⟨a,b,c⟩:=row_put (w0:=w0) (w1:=w) (S:=fun k_=>a2 k_) (r++List.replicate (l0.length-r.length) 0).toArray (w:=Sort.ahead w q) (ok:=fun k_=>(a2 k_∨w.heap.size≤k_)) (Kd.R_drewN a5 q) (by simp;omega) (C8 hB q) hbase (Bb.drewN (Bb.refl w _) q) (.inl (a1.1 g rfl));have t:=Kd.R_take a (m:=r.length) (by simp);rw [List.take_append_of_le_length (by simp),List.take_length] at t;exact ⟨_,rfl,t,b,c⟩

/-! ### Cz: function 8 -/
def Cz.l0:Nat→List Int→List (S50)→Int→Int→Option (List Int×Bool)
 | 0,_,_,_,_=>none
 | k+1,x4,a2,a5,a1=>if a1<a5 then (if 0≤a1 then (if a1<(a2.length:Int) then (if x4.length<17592186044416 then (Cz.l0 k (x4++[(Aa a2 a1).f1]) a2 a5 (wrap64 (a1+1))) else (none)) else (none)) else (none)) else ((Ej.f x4).bind fun a6=>(some (a6,true)))
def Cz.f (k:Nat) (a2:Int) (a5:Int) (a1:List (S50)):Option (List Int×Bool):=(As.f k a2 a5 a1).bind fun a6=>(if a6=true then (Cz.l0 k (([]:List Int)) a1 (a1.length:Int) 0) else (some (([]:List Int),false)))
set_option maxHeartbeats 8000000 in
set_option maxRecDepth 100000 in
theorem Cz.calls (k:Nat) (a8:Int) (a9:Int) (b1:Option Addr) (b2:Nat) (a1:List (S50)) (r1:List Int) (r2:Bool) (w:World) (f8:Kd.C k50 w b1 a1.length a1) (f6:a1.length≤b2) (h:Cz.f k a8 a9 a1=some (r1,r2)) :
  Calls Tryz.prog 8 #[.agg #[.int .i64 a8,.int .i64 a9,.slice b1 a1.length b2]] w fun e w'=>∃ g4:Value,e=.returned (.tuple #[g4,.bool r2])∧Kd.R (Kd.int .i64) 3 w' w.heap.size (fun _=>True) g4 r1∧Below w.heap.size w w':=by
 have m4:=Tryz.underlying24;have m5:=Tryz.underlying50;have b9:=am f8;have d5:=am f6;clear f8 f6;have HB:=am (Below.refl w.heap.size w);have H:=h;clear h;unfold Cz.f at H;obtain ⟨j9,A2,H⟩:=bnd H;(try dsimp only at H);(by_cases c3:j9=true)
 ·subst c3;replace H:=yT H;obtain ⟨g5,c1⟩:∃ y_:List Int,y_=(([]:List Int)):=⟨_,rfl⟩;(replace H:(Cz.l0 k g5 a1 (a1.length:Int) 0)=some (r1,r2):=rwH c1 H);have d7:=am c1;clear c1;have H':=am H;clear H;go_enter Tryz.func8,Tryz.ntmps8;(go_wp2_with (first|((with_reducible refine Ag (N:=1) rfl ?_);refine Bd 1 (#[.int .i64 a8,.int .i64 a9,.slice b1 a1.length b2]) 24 ?_;intro c0 hg w4 hbox hb;have a2:=am (hbox);have g8:=am (gz hg HB);have d4:=am (gz hg HB);replace HB:=wb HB hb;clear hb hbox hg;obtain ⟨h9,i0,i1,i5,i6,i7⟩:=cy3 a2)|((with_reducible refine Ad (f:=12) rfl ?_);refine cgo (some 8) Tryz.func12 (As.calls k a8 a9 _ _ a1 true _ ?b7 ?b8 A2.out) ?_;(case b7=>exact upC (Kd.C_below b9.out HB.out));(case b8=>exact d5.out);rintro e w6 ⟨rfl,hb⟩;refine ⟨_,rfl,?_⟩;replace a2:=kb a2 hb;replace HB:=wb HB hb;(try clear hb))|((with_reducible refine Ag (N:=10) rfl ?_);refine Kd.R_lit (Kd.int .i64) _ 3 ?hg (N:=10) ?hd (xs:=([]:List Int)) (inner:=[]) (ok:=fun _=>True) (okp:=fun _=>True) ?hr ?hp (fun _ hk=>hk) trivial (Below.refl _ _) (Nat.le_refl _) (by simp) ?_;(case hd=>rfl);(case hg=>rfl);(case hr=>first|(go_simp;done)|(go_simp;rfl));(case hp=>exact (Bk.none _ _));intro m6 w7 b3 hb hg_ hnew_;clear hg_ hnew_;(first|rw [← d7.out] at b3|(simp only [Int.reduceToNat] at b3;rw [← d7.out] at b3));have g9:=am (Kd.R_lower b3 (Ah (upW HB)));replace a2:=kb a2 hb;replace HB:=wb HB hb;clear hb b3;obtain ⟨i2,i3,i4,i8,i9,j3⟩:=cy3 a2)));(try simp only [Act.put,List.setIfInBounds_toArray,List.set_cons_succ,List.set_cons_zero]);(go_loopg [4,14] k (fun kq v4 k0 w'=>∃ (a7:List Int) (a5:Int),k0=.int .i64 a5∧Ab (Cz.l0 kq a7 a1 (a1.length:Int) a5=some (r1,r2))∧Ab (kq≤k)∧Ab (Kd.R (Kd.int .i64) 3 w' w.heap.size (fun _=>True) v4 a7)∧Ab (w'.heap[c0]? = some (.cells #[.int .i64 a8,.int .i64 a9,(.slice b1 a1.length b2)] 24 (0,0)))∧Ab (Below w.heap.size w w')));(case atStart=>exact ⟨(g5),(0),(eqw),H',⟨Nat.le_refl _⟩,⟨upR g9⟩,⟨upK a2⟩,⟨upW HB⟩⟩)
  case round =>
   clear H';(try clear h9 i0 i1 i2 i3 i4 i5 i6 i7 i8 i9 j3);obtain ⟨a7,a5,rfl,HA,d6,a6,a2,HB⟩:=hrel
   cases gk with
   | zero=>exact absurd HA.out (by simp [Cz.l0])
   | succ k1 =>
    have H:=HA.out;clear HA;simp only [Cz.l0] at H;(by_cases c10:a5<(a1.length:Int))
    ·rw [if_pos c10] at H;have c10b0:=decide_eq_true c10;clear c10;obtain ⟨d8,H⟩:=ip H;have c11b0:=decide_eq_true d8;clear d8;obtain ⟨d9,H⟩:=ip H;have c12b0:=decide_eq_true d9;clear d9;obtain ⟨f3,H⟩:=ip H;have h3:=am f3;clear f3;obtain ⟨g6,d0⟩:∃ y_:List Int,y_=(a7++[(Aa a1 a5).f1]):=⟨_,rfl⟩;(replace H:(Cz.l0 k1 g6 a1 (a1.length:Int) (wrap64 (a5+1)))=some (r1,r2):=rwH d0 H);have h6:=am d0;clear d0;have H':=am H;clear H;have d1:0≤(a5:Int):=oda;have d2:a5<(a1.length:Int):=oda;obtain ⟨k4,h7,f9,g0,g1⟩:=Bp b9.out a5 d1 d2;cases h7;replace f9:=cb HB f9;replace g0:=cb HB g0;replace g1:=cb HB g1;replace d1:=eq_true d1;replace d2:=eq_true d2;(go_wp2_with (first|((with_reducible refine Ag (N:=6) rfl ?_);refine Bd 6 (#[.int .i64 0,.int .i64 0,.int .i64 0]) 50 ?_;intro f5 hg m9 hbox hb;replace a6:=rb a6 hb;have b0:=am (hbox);have k3:=am (gz hg HB);have k2:=am (gz hg HB);replace HB:=wb HB hb;have h4:=am (gn hg a2);have h5:=am ((by rw [hg];exact Nat.ne_of_gt (Ak (upK a2)):f5≠c0));replace a2:=kb a2 hb;clear hb hbox hg;have m2:=h5.out;have m3:=h4.out;obtain ⟨k5,k6,k7,l6,l7,l8⟩:=cy3 b0)|((with_reducible refine C4 (b:=.append) (xs := #[.tmp 18,.tmp 21]) rfl ?_);at_builtin;refine Kd.R_append (Kd.int .i64) (w0:=w) w.heap.size rfl (.tmp 18) (.tmp 21) 26 3 (.int .i64 0) 8 rfl Tryz.underlying26 Jf rfl (by decide) (by omega) u4 a7 ((Aa a1 a5).f1) [.int .i64 ((Aa a1 a5).f1)] (fun _=>True) (fun _=>False) rfl (by first|(go_simp;done)|(go_simp;rfl)) ?aP (fun _ hk=>hk.elim) ?aF ?aO ?aB ?aS ?aL ?_;(case aP=>exact rfl);(case aB=>exact (upW HB));(case aF=>exact (fun _ _=>trivial));(case aO=>exact (by (with_reducible repeat (first|apply Kd.R_alloc|apply Kd.R_drewN|apply Kd.R_drew));exact Kd.R_far3 a6 b0 (.int .i64 ((Aa a1 a5).f0)) (.int .i64 ((Aa a1 a5).f1)) (.int .i64 ((Aa a1 a5).f2)) (fun _ hk=>trivial)));(case aS=>exact (Ah (upW HB)));(case aL=>have:=h3.out;omega);intro m7 n0 ho hb hg hat;rw [← h6.out] at ho;have b4:=am (Bg (upF a2) hg (Kd.R_ne a6.out a2.out (by decide)));have b5:=am (Bg (g:=f5) (o:=.cells #[.int .i64 ((Aa a1 a5).f0),.int .i64 ((Aa a1 a5).f1),.int .i64 ((Aa a1 a5).f2)] 50 (0,0)) (Bo b0 #[.int .i64 ((Aa a1 a5).f0),.int .i64 ((Aa a1 a5).f1),.int .i64 0] #[.int .i64 ((Aa a1 a5).f0),.int .i64 0,.int .i64 0]) hg (Kd.R_ne a6.out b0.out (by decide)));have b6:=am (hb);have g2:=am (ho);clear a2;clear b0;clear HB;clear a6;have a2:=b4;have b0:=b5;have HB:=b6;have h0:=g2;clear b4 b5 b6 g2;clear ho hb hg hat)));go_roundg k1;(case measure=>have:=d6.out;omega);(case rel=>exact ⟨(g6),(wrap64 (a5+1)),(eqw),H',⟨by have:=d6.out;omega⟩,⟨upR h0⟩,⟨upK a2⟩,⟨upW HB⟩⟩)
    ·rw [if_neg c10] at H;have c10b0:=decide_eq_false c10;clear c10;obtain ⟨g3,g7,H⟩:=bnd H;replace H:(some (g3,true))=some (r1,r2):=H;simp only [Option.some.injEq,Prod.mk.injEq] at H;obtain ⟨rfl,rfl⟩:=H;obtain ⟨d3,f4,h8⟩:=Kd.R_slice a6.out;subst h8;(go_wp2_with (first|((with_reducible refine Ad (f:=32) rfl ?_);refine cgo (some 25) Tryz.func32 (Ej.calls (fun k_=>some k_=(.slice d3 a7.length f4:Value).ownBlock) (.slice d3 a7.length f4) a7 g3 w _ ?b7 ?b8 g7.out) ?_;(case b7=>repeat (first|(with_reducible first|exact HB.out|apply C6|apply C8|apply Bi|refine Co ?_ d4.out)|exact HB.out));(case b8=>exact Kd.R_tight rfl a6.out);rintro e n1 ⟨m8,rfl,f7,hb,hkp⟩;refine ⟨_,rfl,?_⟩;have b4:=am (Gc (upK a2) hkp (fun hs_=>(fun e_=>(Kd.R_ne a6.out a2.out (by decide)) e_) hs_));have b5:=am (Kd.R_mono (ok':=fun k_=>True) f7 (fun k_ hk_=>trivial));have b6:=am (hb);clear a2;clear HB;clear a6;have a2:=b4;have h2:=b5;have HB:=b6;clear b4 b5 b6;(try clear hb hkp f7))));(go_ret2);exact ⟨_,eqv,by (with_reducible repeat (first|apply Kd.R_alloc|apply Kd.R_drewN|apply Kd.R_drew));exact h2.out,upW HB⟩
 ·replace c3:=Bool.eq_false_iff.mpr c3;subst c3;replace H:=yF H;simp only [Option.some.injEq,Prod.mk.injEq] at H;obtain ⟨rfl,rfl⟩:=H;go_enter Tryz.func8,Tryz.ntmps8;(go_wp2_with (first|((with_reducible refine Ag (N:=1) rfl ?_);refine Bd 1 (#[.int .i64 a8,.int .i64 a9,.slice b1 a1.length b2]) 24 ?_;intro c0 hg n2 hbox hb;have a2:=am (hbox);have g8:=am (gz hg HB);have d4:=am (gz hg HB);replace HB:=wb HB hb;clear hb hbox hg;obtain ⟨k8,k9,l5,l9,m0,m1⟩:=cy3 a2)|((with_reducible refine Ad (f:=12) rfl ?_);refine cgo (some 8) Tryz.func12 (As.calls k a8 a9 _ _ a1 false _ ?b7 ?b8 A2.out) ?_;(case b7=>exact upC (Kd.C_below b9.out HB.out));(case b8=>exact d5.out);rintro e n3 ⟨rfl,hb⟩;refine ⟨_,rfl,?_⟩;replace a2:=kb a2 hb;replace HB:=wb HB hb;(try clear hb))));(go_ret2);exact ⟨_,eqv,by first|exact Kd.R_nil _ _ _ _ _|exact Kd.N_nil _ _ _ _ _|exact Kd.V_nil _ _ _ _ _|exact Kd.Q_nil _ _ _ _ _|exact Kd.S_nil _ _ _ _ _,upW HB⟩

/-! ### Dx: function 33 -/
def Dx.l0:Nat→Int→List Int→Int→Int→Option (Bool)
 | 0,_,_,_,_=>none
 | k+1,x1,x7,x8,x9=>if x9<x8 then (if 0≤x9 then (if x9<(x7.length:Int) then (if (rd x7 x9)=x1 then (some true) else (Dx.l0 k x1 x7 x8 (wrap64 (x9+1)))) else (none)) else (none)) else (some false)
def Dx.f (k:Nat) (l0:List Int) (a1:Int):Option (Bool):=Dx.l0 k a1 l0 (l0.length:Int) 0
set_option maxHeartbeats 8000000 in
set_option maxRecDepth 100000 in
theorem Dx.calls (k:Nat) (A0:Option Addr) (c0:Nat) (l0:List Int) (a1:Int) (r:Bool) (w:World) (b1:Kd.C (Kd.int .i64) w A0 l0.length l0) (b0:l0.length≤c0) (h:Dx.f k l0 a1=some r) :
  Calls Tryz.prog 33 #[.slice A0 l0.length c0,.int .i64 a1] w fun e w'=>e=.returned (.bool r)∧Cq w w':=by
 have a9:=am b1;have b4:=am b0;clear b1 b0;have H:=h;clear h;unfold Dx.f at H;have H':=am H;clear H;go_enter Tryz.func33,Tryz.ntmps33;go_wp2;(go_loopg [9] k (fun kq v9 w'=>∃ (a2:Int),v9=.int .i64 a2∧Ab (Dx.l0 kq a1 l0 (l0.length:Int) a2=some r)∧Ab (kq≤k)∧Cq w w'));(case atStart=>exact ⟨(0),(eqw),H',⟨Nat.le_refl _⟩,dz⟩)
 case round =>
  clear H';obtain ⟨a2,rfl,HA,a8,⟨m1,rfl⟩⟩:=hrel
  cases gk with
  | zero=>exact absurd HA.out (by simp [Dx.l0])
  | succ k1 =>
   have H:=HA.out;clear HA;simp only [Dx.l0] at H;(by_cases c3:a2<(l0.length:Int))
   ·rw [if_pos c3] at H;have c3b0:=decide_eq_true c3;clear c3;obtain ⟨c4,H⟩:=ip H;have c4b0:=decide_eq_true c4;clear c4;obtain ⟨c5,H⟩:=ip H;have c5b0:=decide_eq_true c5;clear c5;(by_cases c6:(rd l0 a2)=a1)
    ·rw [if_pos c6] at H;have c6b0:((rd l0 a2)==a1)=true:=beq_iff_eq.mpr c6;have c6b1:((rd l0 a2) != a1)=false:=bne_eq_false_iff_eq.mpr c6;clear c6;obtain rfl:=Option.some.inj H;have a5:0≤(a2:Int):=oda;have a6:a2<(l0.length:Int):=oda;obtain ⟨b2,a7,b3⟩:=Kd.at_int a9.out a2 a5 a6;cases a7;replace a5:=eq_true a5;replace a6:=eq_true a6;go_wp2;go_ret;exact ⟨eqw,dz⟩
    ·rw [if_neg c6] at H;have c6b0:((rd l0 a2)==a1)=false:=beq_eq_false_iff_ne.mpr c6;have c6b1:((rd l0 a2) != a1)=true:=bne_iff_ne.mpr c6;have H':=am H;clear H;have a5:0≤(a2:Int):=oda;have a6:a2<(l0.length:Int):=oda;obtain ⟨b2,a7,b3⟩:=Kd.at_int a9.out a2 a5 a6;cases a7;replace a5:=eq_true a5;replace a6:=eq_true a6;go_wp2;go_roundg k1;(case measure=>have:=a8.out;omega);(case rel=>exact ⟨(wrap64 (a2+1)),(eqw),H',⟨by have:=a8.out;omega⟩,dz⟩)
   ·rw [if_neg c3] at H;have c3b0:=decide_eq_false c3;clear c3;obtain rfl:=Option.some.inj H;go_wp2;go_ret;exact ⟨eqw,dz⟩

/-! ### C0: function 9 -/
def C0.l0:Nat→List Int→List (S50)→Int→Int→Option (List Int×Bool)
 | 0,_,_,_,_=>none
 | k+1,x4,a2,a5,a1=>if a1<a5 then (if 0≤a1 then (if a1<(a2.length:Int) then ((Dx.f k x4 ((Aa a2 a1).f1)).bind fun a6=>(if a6=true then (C0.l0 k x4 a2 a5 (wrap64 (a1+1))) else (if x4.length<17592186044416 then (C0.l0 k (x4++[(Aa a2 a1).f1]) a2 a5 (wrap64 (a1+1))) else (none)))) else (none)) else (none)) else (some (x4,true))
def C0.f (k:Nat) (a2:Int) (a5:Int) (a1:List (S50)):Option (List Int×Bool):=(At.f k a2 a5 a1).bind fun a6=>(if a6=true then (C0.l0 k ([]:List Int) a1 (a1.length:Int) 0) else (some (([]:List Int),false)))
set_option maxHeartbeats 8000000 in
set_option maxRecDepth 100000 in
theorem C0.calls (k:Nat) (a9:Int) (b0:Int) (b5:Option Addr) (b6:Nat) (a1:List (S50)) (r1:List Int) (r2:Bool) (w:World) (f5:Kd.C k50 w b5 a1.length a1) (f4:a1.length≤b6) (h:C0.f k a9 b0 a1=some (r1,r2)) :
  Calls Tryz.prog 9 #[.agg #[.int .i64 a9,.int .i64 b0,.slice b5 a1.length b6]] w fun e w'=>∃ g0:Value,e=.returned (.tuple #[g0,.bool r2])∧Kd.R (Kd.int .i64) 3 w' w.heap.size (fun _=>True) g0 r1∧Below w.heap.size w w':=by
 have m7:=Tryz.underlying24;have m8:=Tryz.underlying50;have c1:=am f5;have d8:=am f4;clear f5 f4;have HB:=am (Below.refl w.heap.size w);have H:=h;clear h;unfold C0.f at H;obtain ⟨i7,A2,H⟩:=bnd H;(try dsimp only at H);(by_cases c3:i7=true)
 ·subst c3;replace H:=yT H;have H':=am H;clear H;go_enter Tryz.func9,Tryz.ntmps9;(go_wp2_with (first|((with_reducible refine Ag (N:=1) rfl ?_);refine Bd 1 (#[.int .i64 a9,.int .i64 b0,.slice b5 a1.length b6]) 24 ?_;intro d1 hg w4 hbox hb;have a5:=am (hbox);have g5:=am (gz hg HB);have g3:=am (gz hg HB);replace HB:=wb HB hb;clear hb hbox hg;obtain ⟨h5,h6,h7,i1,i2,i3⟩:=cy3 a5)|((with_reducible refine Ad (f:=29) rfl ?_);refine cgo (some 8) Tryz.func29 (At.calls k a9 b0 _ _ a1 true _ ?b3 ?b4 A2.out) ?_;(case b3=>exact upC (Kd.C_below c1.out HB.out));(case b4=>exact d8.out);rintro e w6 ⟨rfl,hb⟩;refine ⟨_,rfl,?_⟩;replace a5:=kb a5 hb;replace HB:=wb HB hb;(try clear hb);obtain ⟨h8,h9,i0,i4,i5,i6⟩:=cy3 a5)));(try simp only [Act.put,List.setIfInBounds_toArray,List.set_cons_succ,List.set_cons_zero]);(go_loopg [4,13] k (fun kq v4 i9 w'=>∃ (a8:List Int) (a2:Int),i9=.int .i64 a2∧Ab (C0.l0 kq a8 a1 (a1.length:Int) a2=some (r1,r2))∧Ab (kq≤k)∧Ab (Kd.R (Kd.int .i64) 3 w' w.heap.size (fun _=>True) v4 a8)∧Ab (w'.heap[d1]? = some (.cells #[.int .i64 a9,.int .i64 b0,(.slice b5 a1.length b6)] 24 (0,0)))∧Ab (Below w.heap.size w w')));(case atStart=>exact ⟨(([]:List Int)),(0),(eqw),H',⟨Nat.le_refl _⟩,⟨by first|exact Kd.R_nil _ _ _ _ _|exact Kd.N_nil _ _ _ _ _|exact Kd.V_nil _ _ _ _ _|exact Kd.Q_nil _ _ _ _ _|exact Kd.S_nil _ _ _ _ _⟩,⟨upK a5⟩,⟨upW HB⟩⟩)
  case round =>
   clear H';(try clear h5 h6 h7 h8 h9 i0 i1 i2 i3 i4 i5 i6);obtain ⟨a8,a2,rfl,HA,c0,a6,a5,HB⟩:=hrel
   cases gk with
   | zero=>exact absurd HA.out (by simp [C0.l0])
   | succ k1 =>
    have H:=HA.out;clear HA;simp only [C0.l0] at H;(by_cases c8:a2<(a1.length:Int))
    ·rw [if_pos c8] at H;have c8b0:=decide_eq_true c8;clear c8;obtain ⟨c9,H⟩:=ip H;have c9b0:=decide_eq_true c9;clear c9;obtain ⟨c10,H⟩:=ip H;have c10b0:=decide_eq_true c10;clear c10;obtain ⟨i8,d7,H⟩:=bnd H;(try dsimp only at H);(by_cases d0:i8=true)
     ·subst d0;replace H:=yT H;have H':=am H;clear H;have b1:0≤(a2:Int):=oda;have b2:a2<(a1.length:Int):=oda;obtain ⟨h0,d5,b7,b8,b9⟩:=Bp c1.out a2 b1 b2;cases d5;replace b7:=cb HB b7;replace b8:=cb HB b8;replace b9:=cb HB b9;replace b1:=eq_true b1;replace b2:=eq_true b2;(go_wp2_with (first|((with_reducible refine Ag (N:=6) rfl ?_);refine Bd 6 (#[.int .i64 0,.int .i64 0,.int .i64 0]) 50 ?_;intro d2 hg n0 hbox hb;replace a6:=rb a6 hb;have a7:=am (hbox);have g6:=am (gz hg HB);have g4:=am (gz hg HB);replace HB:=wb HB hb;have d3:=am (gn hg a5);have d4:=am ((by rw [hg];exact Nat.ne_of_gt (Ak (upK a5)):d2≠d1));replace a5:=kb a5 hb;clear hb hbox hg;have m3:=d4.out;have m5:=d3.out;obtain ⟨j9,k0,k2,k9,l5,l6⟩:=cy3 a7;obtain ⟨j3,h2,h3⟩:=Kd.R_slice a6.out;subst h3)|((with_reducible refine Ad (f:=33) rfl ?_);refine cgo (some 20) Tryz.func33 (Dx.calls k1 _ _ a8 ((Aa a1 a2).f1) true _ ?b3 ?b4 d7.out) ?_;(case b3=>refine (Kd.R_reads' (e:=3) (base:=w.heap.size) (ok:=fun k_=>True) (n:=a8.length) (c:=h2) ?_).2.2;exact (by (with_reducible repeat (first|apply Kd.R_alloc|apply Kd.R_drewN|apply Kd.R_drew));exact (Kd.R_far3 a6 a7 (.int .i64 ((Aa a1 a2).f0)) (.int .i64 ((Aa a1 a2).f1)) (.int .i64 ((Aa a1 a2).f2)) (fun _ h_=>h_.1))));(case b4=>exact (Kd.R_reads' a6.out).2.1);rintro e w' ⟨rfl,⟨nd,rfl⟩⟩;refine ⟨_,rfl,?_⟩)));go_roundg k1;(case measure=>have:=c0.out;omega);(case rel=>exact ⟨(a8),(wrap64 (a2+1)),(eqw),H',⟨by have:=c0.out;omega⟩,⟨by (with_reducible repeat (first|apply Kd.R_alloc|apply Kd.R_drewN|apply Kd.R_drew));exact Kd.R_far3 a6 a7 (.int .i64 ((Aa a1 a2).f0)) (.int .i64 ((Aa a1 a2).f1)) (.int .i64 ((Aa a1 a2).f2)) (fun _ hk=>trivial)⟩,⟨upF a5⟩,⟨upW HB⟩⟩)
     ·replace d0:=Bool.eq_false_iff.mpr d0;subst d0;replace H:=yF H;obtain ⟨d9,H⟩:=ip H;have g8:=am d9;clear d9;obtain ⟨g1,d6⟩:∃ y_:List Int,y_=(a8++[(Aa a1 a2).f1]):=⟨_,rfl⟩;(replace H:(C0.l0 k1 g1 a1 (a1.length:Int) (wrap64 (a2+1)))=some (r1,r2):=rwH d6 H);have g9:=am d6;clear d6;have H':=am H;clear H;have b1:0≤(a2:Int):=oda;have b2:a2<(a1.length:Int):=oda;obtain ⟨h0,d5,b7,b8,b9⟩:=Bp c1.out a2 b1 b2;cases d5;replace b7:=cb HB b7;replace b8:=cb HB b8;replace b9:=cb HB b9;replace b1:=eq_true b1;replace b2:=eq_true b2;(go_wp2_with (first|((with_reducible refine Ag (N:=6) rfl ?_);refine Bd 6 (#[.int .i64 0,.int .i64 0,.int .i64 0]) 50 ?_;intro d2 hg n1 hbox hb;replace a6:=rb a6 hb;have a7:=am (hbox);have g6:=am (gz hg HB);have g4:=am (gz hg HB);replace HB:=wb HB hb;have d3:=am (gn hg a5);have d4:=am ((by rw [hg];exact Nat.ne_of_gt (Ak (upK a5)):d2≠d1));replace a5:=kb a5 hb;clear hb hbox hg;have m4:=d4.out;have m6:=d3.out;obtain ⟨k3,k4,k5,l7,l8,l9⟩:=cy3 a7;obtain ⟨g2,f3,h4⟩:=Kd.R_slice a6.out;subst h4)|((with_reducible refine Ad (f:=33) rfl ?_);refine cgo (some 20) Tryz.func33 (Dx.calls k1 _ _ a8 ((Aa a1 a2).f1) false _ ?b3 ?b4 d7.out) ?_;(case b3=>refine (Kd.R_reads' (e:=3) (base:=w.heap.size) (ok:=fun k_=>True) (n:=a8.length) (c:=f3) ?_).2.2;exact (by (with_reducible repeat (first|apply Kd.R_alloc|apply Kd.R_drewN|apply Kd.R_drew));exact (Kd.R_far3 a6 a7 (.int .i64 ((Aa a1 a2).f0)) (.int .i64 ((Aa a1 a2).f1)) (.int .i64 ((Aa a1 a2).f2)) (fun _ h_=>h_.1))));(case b4=>exact (Kd.R_reads' a6.out).2.1);rintro e w' ⟨rfl,⟨nd,rfl⟩⟩;refine ⟨_,rfl,?_⟩)|((with_reducible refine C4 (b:=.append) (xs := #[.tmp 22,.tmp 25]) rfl ?_);at_builtin;refine Kd.R_append (Kd.int .i64) (w0:=w) w.heap.size rfl (.tmp 22) (.tmp 25) 26 3 (.int .i64 0) 8 rfl Tryz.underlying26 Jf rfl (by decide) (by omega) (.slice g2 a8.length f3) a8 ((Aa a1 a2).f1) [.int .i64 ((Aa a1 a2).f1)] (fun _=>True) (fun _=>False) rfl (by first|(go_simp;done)|(go_simp;rfl)) ?aP (fun _ hk=>hk.elim) ?aF ?aO ?aB ?aS ?aL ?_;(case aP=>exact rfl);(case aB=>exact (upW HB));(case aF=>exact (fun _ _=>trivial));(case aO=>exact (by (with_reducible repeat (first|apply Kd.R_alloc|apply Kd.R_drewN|apply Kd.R_drew));exact Kd.R_far3 a6 a7 (.int .i64 ((Aa a1 a2).f0)) (.int .i64 ((Aa a1 a2).f1)) (.int .i64 ((Aa a1 a2).f2)) (fun _ hk=>trivial)));(case aS=>exact (Ah (upW HB)));(case aL=>have:=g8.out;omega);intro m9 n2 ho hb hg hat;rw [← g9.out] at ho;have f6:=am (Bg (upF a5) hg (Kd.R_ne a6.out a5.out (by decide)));have f7:=am (Bg (g:=d2) (o:=.cells #[.int .i64 ((Aa a1 a2).f0),.int .i64 ((Aa a1 a2).f1),.int .i64 ((Aa a1 a2).f2)] 50 (0,0)) (Bo a7 #[.int .i64 ((Aa a1 a2).f0),.int .i64 ((Aa a1 a2).f1),.int .i64 0] #[.int .i64 ((Aa a1 a2).f0),.int .i64 0,.int .i64 0]) hg (Kd.R_ne a6.out a7.out (by decide)));have f8:=am (hb);have f9:=am (ho);clear a5;clear a7;clear HB;clear a6;have a5:=f6;have a7:=f7;have HB:=f8;have g7:=f9;clear f6 f7 f8 f9;clear ho hb hg hat)));go_roundg k1;(case measure=>have:=c0.out;omega);(case rel=>exact ⟨(g1),(wrap64 (a2+1)),(eqw),H',⟨by have:=c0.out;omega⟩,⟨upR g7⟩,⟨upK a5⟩,⟨upW HB⟩⟩)
    ·rw [if_neg c8] at H;have c8b0:=decide_eq_false c8;clear c8;simp only [Option.some.injEq,Prod.mk.injEq] at H;obtain ⟨rfl,rfl⟩:=H;go_wp2;(go_ret2);exact ⟨_,eqv,by (with_reducible repeat (first|apply Kd.R_alloc|apply Kd.R_drewN|apply Kd.R_drew));exact a6.out,upW HB⟩
 ·replace c3:=Bool.eq_false_iff.mpr c3;subst c3;replace H:=yF H;simp only [Option.some.injEq,Prod.mk.injEq] at H;obtain ⟨rfl,rfl⟩:=H;go_enter Tryz.func9,Tryz.ntmps9;(go_wp2_with (first|((with_reducible refine Ag (N:=1) rfl ?_);refine Bd 1 (#[.int .i64 a9,.int .i64 b0,.slice b5 a1.length b6]) 24 ?_;intro d1 hg n3 hbox hb;have a5:=am (hbox);have g5:=am (gz hg HB);have g3:=am (gz hg HB);replace HB:=wb HB hb;clear hb hbox hg;obtain ⟨k6,k7,k8,m0,m1,m2⟩:=cy3 a5)|((with_reducible refine Ad (f:=29) rfl ?_);refine cgo (some 8) Tryz.func29 (At.calls k a9 b0 _ _ a1 false _ ?b3 ?b4 A2.out) ?_;(case b3=>exact upC (Kd.C_below c1.out HB.out));(case b4=>exact d8.out);rintro e n4 ⟨rfl,hb⟩;refine ⟨_,rfl,?_⟩;replace a5:=kb a5 hb;replace HB:=wb HB hb;(try clear hb))));(go_ret2);exact ⟨_,eqv,by first|exact Kd.R_nil _ _ _ _ _|exact Kd.N_nil _ _ _ _ _|exact Kd.V_nil _ _ _ _ _|exact Kd.Q_nil _ _ _ _ _|exact Kd.S_nil _ _ _ _ _,upW HB⟩

/-! ### Cr: function 11 -/
def Cr.l0:Nat→List Int→List Int→Int→Int→Option (Bool)
 | 0,_,_,_,_=>none
 | k+1,x0,x1,a2,a1=>if a1<a2 then (if 0≤a1 then (if a1<(x0.length:Int) then (if a1<(x1.length:Int) then (if (rd x0 a1)=(rd x1 a1) then (Cr.l0 k x0 x1 a2 (wrap64 (a1+1))) else (some false)) else (none)) else (none)) else (none)) else (some true)
def Cr.f (k:Nat) (l0:List Int) (l1:List Int):Option (Bool):=if (l0.length:Int)=(l1.length:Int) then (Cr.l0 k l0 l1 (l0.length:Int) 0) else (some false)
set_option maxHeartbeats 8000000 in
set_option maxRecDepth 100000 in
theorem Cr.calls (k:Nat) (A0:Option Addr) (c0:Nat) (l0:List Int) (A1:Option Addr) (c1:Nat) (l1:List Int) (r:Bool) (w:World) (b5:Kd.C (Kd.int .i64) w A0 l0.length l0) (b3:l0.length≤c0) (b6:Kd.C (Kd.int .i64) w A1 l1.length l1) (b4:l1.length≤c1) (h:Cr.f k l0 l1=some r) :
  Calls Tryz.prog 11 #[.slice A0 l0.length c0,.slice A1 l1.length c1] w fun e w'=>e=.returned (.bool r)∧Cq w w':=by
 have b1:=am b5;have d2:=am b3;clear b5 b3;have b2:=am b6;have d3:=am b4;clear b6 b4;have H:=h;clear h;unfold Cr.f at H;(by_cases c3:(l0.length:Int)=(l1.length:Int))
 ·rw [if_pos c3] at H;have c3b0:((l0.length:Int)==(l1.length:Int))=true:=beq_iff_eq.mpr c3;have c3b1:((l0.length:Int) != (l1.length:Int))=false:=bne_eq_false_iff_eq.mpr c3;(have c3b2:(l0.length==l1.length)=true:=by first|simpa using c3|(simp at c3 ⊢;omega));clear c3;have H':=am H;clear H;go_enter Tryz.func11,Tryz.ntmps11;go_wp2;(repeat (go_quiet (fail);try go_wp2));(go_loopg [13] k (fun kq d1 w'=>∃ (a1:Int),d1=.int .i64 a1∧Ab (Cr.l0 kq l0 l1 (l0.length:Int) a1=some r)∧Ab (kq≤k)∧Cq w w'));(case atStart=>exact ⟨(0),(eqw),H',⟨Nat.le_refl _⟩,dz⟩)
  case round =>
   clear H';(try clear c3b0 c3b1 c3b2);obtain ⟨a1,rfl,HA,b0,⟨m1,rfl⟩⟩:=hrel
   cases gk with
   | zero=>exact absurd HA.out (by simp [Cr.l0])
   | succ k1 =>
    have H:=HA.out;clear HA;simp only [Cr.l0] at H;(by_cases c4:a1<(l0.length:Int))
    ·rw [if_pos c4] at H;have c4b0:=decide_eq_true c4;clear c4;obtain ⟨c5,H⟩:=ip H;have c5b0:=decide_eq_true c5;clear c5;obtain ⟨c6,H⟩:=ip H;have c6b0:=decide_eq_true c6;clear c6;obtain ⟨c7,H⟩:=ip H;have c7b0:=decide_eq_true c7;clear c7;(by_cases c8:(rd l0 a1)=(rd l1 a1))
     ·rw [if_pos c8] at H;have c8b0:((rd l0 a1)==(rd l1 a1))=true:=beq_iff_eq.mpr c8;have c8b1:((rd l0 a1) != (rd l1 a1))=false:=bne_eq_false_iff_eq.mpr c8;clear c8;have H':=am H;clear H;have a2:0≤(a1:Int):=oda;have a6:a1<(l0.length:Int):=oda;obtain ⟨b7,a8,b9⟩:=Kd.at_int b1.out a1 a2 a6;cases a8;replace a2:=eq_true a2;replace a6:=eq_true a6;have a5:0≤(a1:Int):=oda;have a7:a1<(l1.length:Int):=oda;obtain ⟨b8,a9,d0⟩:=Kd.at_int b2.out a1 a5 a7;cases a9;replace a5:=eq_true a5;replace a7:=eq_true a7;go_wp2;(repeat (go_quiet (fail);try go_wp2));go_roundg k1;(case measure=>have:=b0.out;omega);(case rel=>exact ⟨(wrap64 (a1+1)),(eqw),H',⟨by have:=b0.out;omega⟩,dz⟩)
     ·rw [if_neg c8] at H;have c8b0:((rd l0 a1)==(rd l1 a1))=false:=beq_eq_false_iff_ne.mpr c8;have c8b1:((rd l0 a1) != (rd l1 a1))=true:=bne_iff_ne.mpr c8;obtain rfl:=Option.some.inj H;have a2:0≤(a1:Int):=oda;have a6:a1<(l0.length:Int):=oda;obtain ⟨b7,a8,b9⟩:=Kd.at_int b1.out a1 a2 a6;cases a8;replace a2:=eq_true a2;replace a6:=eq_true a6;have a5:0≤(a1:Int):=oda;have a7:a1<(l1.length:Int):=oda;obtain ⟨b8,a9,d0⟩:=Kd.at_int b2.out a1 a5 a7;cases a9;replace a5:=eq_true a5;replace a7:=eq_true a7;go_wp2;(repeat (go_quiet (fail);try go_wp2));go_ret;exact ⟨eqw,dz⟩
    ·rw [if_neg c4] at H;have c4b0:=decide_eq_false c4;clear c4;obtain rfl:=Option.some.inj H;go_wp2;(repeat (go_quiet (fail);try go_wp2));go_ret;exact ⟨eqw,dz⟩
 ·rw [if_neg c3] at H;have c3b0:((l0.length:Int)==(l1.length:Int))=false:=beq_eq_false_iff_ne.mpr c3;have c3b1:((l0.length:Int) != (l1.length:Int))=true:=bne_iff_ne.mpr c3;(have c3b2:(l0.length==l1.length)=false:=by first|simpa using c3|(simp at c3 ⊢;omega));obtain rfl:=Option.some.inj H;go_enter Tryz.func11,Tryz.ntmps11;go_wp2;(repeat (go_quiet (fail);try go_wp2));go_ret;exact ⟨eqw,dz⟩

/-! ### C7: function 10 -/
def C7.l0:Nat→List (List Int)→List (List Int)→Int→Int→Option (Bool)
 | 0,_,_,_,_=>none
 | k+1,x0,x1,a2,a1=>if a1<a2 then (if 0≤a1 then (if a1<(x0.length:Int) then (if a1<(x1.length:Int) then ((Cr.f k (Az x0 a1) (Az x1 a1)).bind fun a5=>(if a5=true then (C7.l0 k x0 x1 a2 (wrap64 (a1+1))) else (some false))) else (none)) else (none)) else (none)) else (some true)
def C7.f (k:Nat) (l0:List (List Int)) (l1:List (List Int)):Option (Bool):=if (l0.length:Int)=(l1.length:Int) then (C7.l0 k l0 l1 (l0.length:Int) 0) else (some false)
set_option maxHeartbeats 8000000 in
set_option maxRecDepth 100000 in
theorem C7.calls (k:Nat) (A0:Option Addr) (c0:Nat) (l0:List (List Int)) (A1:Option Addr) (c1:Nat) (l1:List (List Int)) (r:Bool) (w:World) (d7:Kd.C (Kd.slice 3 (Kd.int .i64)) w A0 l0.length l0) (d5:l0.length≤c0) (d8:Kd.C (Kd.slice 3 (Kd.int .i64)) w A1 l1.length l1) (d6:l1.length≤c1) (h:C7.f k l0 l1=some r) :
  Calls Tryz.prog 10 #[.slice A0 l0.length c0,.slice A1 l1.length c1] w fun e w'=>e=.returned (.bool r)∧Cq w w':=by
 have d3:=am d7;have f9:=am d5;clear d7 d5;have d4:=am d8;have g0:=am d6;clear d8 d6;have H:=h;clear h;unfold C7.f at H;(by_cases c3:(l0.length:Int)=(l1.length:Int))
 ·rw [if_pos c3] at H;have c3b0:((l0.length:Int)==(l1.length:Int))=true:=beq_iff_eq.mpr c3;have c3b1:((l0.length:Int) != (l1.length:Int))=false:=bne_eq_false_iff_eq.mpr c3;(have c3b2:(l0.length==l1.length)=true:=by first|simpa using c3|(simp at c3 ⊢;omega));clear c3;have H':=am H;clear H;go_enter Tryz.func10,Tryz.ntmps10;go_wp2;(repeat (go_quiet (fail);try go_wp2));(go_loopg [13] k (fun kq f8 w'=>∃ (a1:Int),f8=.int .i64 a1∧Ab (C7.l0 kq l0 l1 (l0.length:Int) a1=some r)∧Ab (kq≤k)∧Cq w w'));(case atStart=>exact ⟨(0),(eqw),H',⟨Nat.le_refl _⟩,dz⟩)
  case round =>
   clear H';(try clear c3b0 c3b1 c3b2);obtain ⟨a1,rfl,HA,d2,⟨m1,rfl⟩⟩:=hrel
   cases gk with
   | zero=>exact absurd HA.out (by simp [C7.l0])
   | succ k1 =>
    have H:=HA.out;clear HA;simp only [C7.l0] at H;(by_cases c4:a1<(l0.length:Int))
    ·rw [if_pos c4] at H;have c4b0:=decide_eq_true c4;clear c4;obtain ⟨c5,H⟩:=ip H;have c5b0:=decide_eq_true c5;clear c5;obtain ⟨c6,H⟩:=ip H;have c6b0:=decide_eq_true c6;clear c6;obtain ⟨c7,H⟩:=ip H;have c7b0:=decide_eq_true c7;clear c7;obtain ⟨f7,A8,H⟩:=bnd H;(try dsimp only at H);(by_cases c9:f7=true)
     ·subst c9;replace H:=yT H;have H':=am H;clear H;have b2:0≤(a1:Int):=oda;have b4:a1<(l0.length:Int):=oda;obtain ⟨f1,d9,f3,d0,f5,b8,b6⟩:=D6 d3.out a1 b2 b4;cases d0;have b0:=am b6;have a8:=am b8;clear b6 b8;replace b2:=eq_true b2;replace b4:=eq_true b4;have b3:0≤(a1:Int):=oda;have b5:a1<(l1.length:Int):=oda;obtain ⟨f2,f0,f4,d1,f6,b9,b7⟩:=D6 d4.out a1 b3 b5;cases d1;have b1:=am b7;have a9:=am b9;clear b7 b9;replace b3:=eq_true b3;replace b5:=eq_true b5;(go_wp2_with (first|(go_at_call 11;(with_reducible refine (Cr.calls k1 _ _ (Az l0 a1) _ _ (Az l1 a1) true _ ?a2 ?a5 ?a6 ?a7 A8.out).mono ?_);(case a2=>exact upC b0.out);(case a5=>exact a8.out);(case a6=>exact upC b1.out);(case a7=>exact a9.out);rintro e w' ⟨rfl,⟨nd,rfl⟩⟩;(try first|exact ⟨rfl,_,World.drewN_drewN _ _ _⟩|exact ⟨rfl,_,Eq.trans (World.drewN_drewN _ _ _) (congrArg (World.drewN _) (Nat.add_assoc _ _ _))⟩))));(repeat (go_quiet (first|(go_at_call 11;(with_reducible refine (Cr.calls k1 _ _ (Az l0 a1) _ _ (Az l1 a1) true _ ?a2 ?a5 ?a6 ?a7 A8.out).mono ?_);(case a2=>exact upC b0.out);(case a5=>exact a8.out);(case a6=>exact upC b1.out);(case a7=>exact a9.out);rintro e w' ⟨rfl,⟨nd,rfl⟩⟩;(try first|exact ⟨rfl,_,World.drewN_drewN _ _ _⟩|exact ⟨rfl,_,Eq.trans (World.drewN_drewN _ _ _) (congrArg (World.drewN _) (Nat.add_assoc _ _ _))⟩)));try go_wp2_with (first|(go_at_call 11;(with_reducible refine (Cr.calls k1 _ _ (Az l0 a1) _ _ (Az l1 a1) true _ ?a2 ?a5 ?a6 ?a7 A8.out).mono ?_);(case a2=>exact upC b0.out);(case a5=>exact a8.out);(case a6=>exact upC b1.out);(case a7=>exact a9.out);rintro e w' ⟨rfl,⟨nd,rfl⟩⟩;(try first|exact ⟨rfl,_,World.drewN_drewN _ _ _⟩|exact ⟨rfl,_,Eq.trans (World.drewN_drewN _ _ _) (congrArg (World.drewN _) (Nat.add_assoc _ _ _))⟩)))));go_roundg k1;(case measure=>have:=d2.out;omega);(case rel=>exact ⟨(wrap64 (a1+1)),(eqw),H',⟨by have:=d2.out;omega⟩,dz⟩)
     ·replace c9:=Bool.eq_false_iff.mpr c9;subst c9;replace H:=yF H;obtain rfl:=Option.some.inj H;have b2:0≤(a1:Int):=oda;have b4:a1<(l0.length:Int):=oda;obtain ⟨f1,d9,f3,d0,f5,b8,b6⟩:=D6 d3.out a1 b2 b4;cases d0;have b0:=am b6;have a8:=am b8;clear b6 b8;replace b2:=eq_true b2;replace b4:=eq_true b4;have b3:0≤(a1:Int):=oda;have b5:a1<(l1.length:Int):=oda;obtain ⟨f2,f0,f4,d1,f6,b9,b7⟩:=D6 d4.out a1 b3 b5;cases d1;have b1:=am b7;have a9:=am b9;clear b7 b9;replace b3:=eq_true b3;replace b5:=eq_true b5;(go_wp2_with (first|(go_at_call 11;(with_reducible refine (Cr.calls k1 _ _ (Az l0 a1) _ _ (Az l1 a1) false _ ?a2 ?a5 ?a6 ?a7 A8.out).mono ?_);(case a2=>exact upC b0.out);(case a5=>exact a8.out);(case a6=>exact upC b1.out);(case a7=>exact a9.out);rintro e w' ⟨rfl,⟨nd,rfl⟩⟩;(try first|exact ⟨rfl,_,World.drewN_drewN _ _ _⟩|exact ⟨rfl,_,Eq.trans (World.drewN_drewN _ _ _) (congrArg (World.drewN _) (Nat.add_assoc _ _ _))⟩))));(repeat (go_quiet (first|(go_at_call 11;(with_reducible refine (Cr.calls k1 _ _ (Az l0 a1) _ _ (Az l1 a1) false _ ?a2 ?a5 ?a6 ?a7 A8.out).mono ?_);(case a2=>exact upC b0.out);(case a5=>exact a8.out);(case a6=>exact upC b1.out);(case a7=>exact a9.out);rintro e w' ⟨rfl,⟨nd,rfl⟩⟩;(try first|exact ⟨rfl,_,World.drewN_drewN _ _ _⟩|exact ⟨rfl,_,Eq.trans (World.drewN_drewN _ _ _) (congrArg (World.drewN _) (Nat.add_assoc _ _ _))⟩)));try go_wp2_with (first|(go_at_call 11;(with_reducible refine (Cr.calls k1 _ _ (Az l0 a1) _ _ (Az l1 a1) false _ ?a2 ?a5 ?a6 ?a7 A8.out).mono ?_);(case a2=>exact upC b0.out);(case a5=>exact a8.out);(case a6=>exact upC b1.out);(case a7=>exact a9.out);rintro e w' ⟨rfl,⟨nd,rfl⟩⟩;(try first|exact ⟨rfl,_,World.drewN_drewN _ _ _⟩|exact ⟨rfl,_,Eq.trans (World.drewN_drewN _ _ _) (congrArg (World.drewN _) (Nat.add_assoc _ _ _))⟩)))));go_ret;exact ⟨eqw,dz⟩
    ·rw [if_neg c4] at H;have c4b0:=decide_eq_false c4;clear c4;obtain rfl:=Option.some.inj H;go_wp2;(repeat (go_quiet (fail);try go_wp2));go_ret;exact ⟨eqw,dz⟩
 ·rw [if_neg c3] at H;have c3b0:((l0.length:Int)==(l1.length:Int))=false:=beq_eq_false_iff_ne.mpr c3;have c3b1:((l0.length:Int) != (l1.length:Int))=true:=bne_iff_ne.mpr c3;(have c3b2:(l0.length==l1.length)=false:=by first|simpa using c3|(simp at c3 ⊢;omega));obtain rfl:=Option.some.inj H;go_enter Tryz.func10,Tryz.ntmps10;go_wp2;(repeat (go_quiet (fail);try go_wp2));go_ret;exact ⟨eqw,dz⟩

/-! ### Iq: function 81 -/
set_option maxHeartbeats 8000000 in
theorem Iq.with (p:Int→Bool) (fv:Nat) (lb:Array Value) (A:Option Addr) (c:Nat) (l:List Int) (w:World) (hr:Kd.C (Kd.int .i64) w A l.length l)
  (eg:∀ args w,(callFunc fv args).run Tryz.prog w=.ok (.enter fv args) w)
  (hp:∀ (W:World) (t:Int),t ∈ l→Below w.heap.size w W→Calls Tryz.prog fv (#[.int .i64 t]++lb) W fun e w'=>e=.returned (.bool (p t))∧Below w.heap.size w w') :
  Calls Tryz.prog 81 #[.slice A l.length c,.func (.func fv) #[] lb] w fun e w'=>e=.returned (.int .i64 (pidx p l))∧Below w.heap.size w w':=by
 have hbig:l.length≤9223372036854775807:=hr.2.1;have HP:=Lib.hid hp;clear hp;go_enter Tryz.func81,Tryz.ntmps81;go_wp2;(go_loopg [5,8] l.length (fun gg _ s8 wr=>∃ kk:Nat,kk≤l.length∧l.length-kk≤gg∧s8=.int .i64 kk∧Aside (Below w.heap.size w wr)∧Aside (∀ j,j<kk→∀ b,l[j]? = some b→p b=false)));(case atStart=>exact ⟨0,Nat.zero_le _,by omega,rfl,Below.refl _ w,fun j hj=>absurd hj (Nat.not_lt_zero _)⟩)
 case round =>
  obtain ⟨kk,hkk,hg,rfl,BW,HA⟩:=hrel;(by_cases hlt:kk<l.length)
  ·(have hltz:(kk:Int)<(l.length:Int):=by omega);obtain ⟨ad,rfl,a1⟩:=Kd.at_int hr (kk:Int) (by omega) hltz;replace a1:=(BW.out.cell (World.block_lt_of_cell? w _ a1)).trans a1;(have hm:rd l kk ∈ l:=by unfold rd;simp [List.getD,hlt]);(have he:l[kk]? = some (rd l kk):=by unfold rd;simp [List.getD,hlt]);have hcall:=HP.out wr (rd l kk) hm BW.out;generalize hy:rd l kk=y at a1 hcall he;have HE:=Lib.hid he;clear hy hm he;simp only [Int.toNat_natCast] at a1
   cases hq:p y with
   | true =>
    rw [hq] at hcall;(have HQ:=Lib.hid hq;clear hq);(go_wp2_with (go_at_fn fv;refine hcall.mono ?_;rintro e w' ⟨rfl,hb'⟩));go_ret;refine ⟨?_,hb'⟩;(rw [Rg p l kk y HE.out HQ.out HA.out];rfl)
   | false =>
    rw [hq] at hcall;(have HQ:=Lib.hid hq;clear hq);(go_wp2_with (go_at_fn fv;refine hcall.mono ?_;rintro e w' ⟨rfl,hb'⟩));go_roundg (l.length-(kk+1));(case measure=>omega)
    case rel =>
     refine ⟨kk+1,by omega,by omega,by go_num,hb',(show Aside _ from fun j hj b hb=>?_)⟩;(by_cases e:j=kk)
     ·subst e;(rw [HE.out] at hb;obtain rfl:=Option.some.inj hb;exact HQ.out)
     ·exact HA.out j (by omega) b hb
  ·(have hltz:¬ (kk:Int)<(l.length:Int):=by omega);(have:kk=l.length:=by omega);subst this;go_wp2;go_ret;refine ⟨?_,BW.out⟩;(rw [Qq p l HA.out];rfl)

/-! ### Ic: function 64 -/
set_option maxHeartbeats 8000000 in
theorem Ic.with (p:Int→Bool) (fv:Nat) (lb:Array Value) (A:Option Addr) (c:Nat) (l:List Int) (w:World) (hr:Kd.C (Kd.int .i64) w A l.length l)
  (eg:∀ args w,(callFunc fv args).run Tryz.prog w=.ok (.enter fv args) w)
  (hp:∀ (W:World) (t:Int),t ∈ l→Below w.heap.size w W→Calls Tryz.prog fv (#[.int .i64 t]++lb) W fun e w'=>e=.returned (.bool (p t))∧Below w.heap.size w w') :
  Calls Tryz.prog 64 #[.slice A l.length c,.func (.func fv) #[] lb] w fun e w'=>e=.returned (.bool (l.any p))∧Below w.heap.size w w':=by
 have HP:=Lib.hid hp;clear hp;have e0:decide (0≤pidx p l)=l.any p:=Rh p l;generalize l.any p=b at e0 ⊢;have HE:=Lib.hid e0;clear e0;go_enter Tryz.func64,Tryz.ntmps64;(go_wp2_with (go_at_call 81;refine (Iq.with p fv lb A c l _ hr eg HP.out).mono ?_;rintro e w' ⟨rfl,hb'⟩));go_ret;exact ⟨by rw [← HE.out];rfl,hb'⟩

/-! ### Kp: function 65 -/
set_option maxHeartbeats 8000000 in
theorem Kp.calls (n:Int) (g1:Nat) (lo:Int) (g2:Nat) (hi:Int) (w:World) (h1:w.heap[g1]? = some (.cells #[.int .i64 lo] 3 (0,0))) (h2:w.heap[g2]? = some (.cells #[.int .i64 hi] 3 (0,0))) :
  Calls Tryz.prog 65 #[.int .i64 n,.pointer (some ⟨g1,0,none⟩),.pointer (some ⟨g2,0,none⟩)] w fun e w'=>e=.returned (.bool (!(decide (lo≤n∧n≤hi))))∧Below w.heap.size w w':=by
 have c1:w.cell? ⟨g1,0,none⟩=some (.int .i64 lo):=(Ac h1 0).trans rfl;have c2:w.cell? ⟨g2,0,none⟩=some (.int .i64 hi):=(Ac h2 0).trans rfl;clear h1 h2;obtain ⟨b,hb⟩:∃ b,b=decide (lo≤n∧n≤hi):=⟨_,rfl⟩
 have hf:Cj.f n lo hi=some b:=by
  (rw [hb];unfold Cj.f);(by_cases h:lo≤n)
  ·(rw [if_pos h];simp [h])
  ·(rw [if_neg h];simp [h])
 have HF:=Lib.hid hf;rw [← hb];clear hb hf;go_enter Tryz.func65,Tryz.ntmps65;(go_wp2_with (go_at_call 35;(with_reducible refine (Cj.calls n lo hi b _ HF.out).mono ?_);rintro e w' ⟨rfl,⟨nd,rfl⟩⟩));go_ret;exact ⟨rfl,by repeat (first|exact Below.refl _ _|apply C6|apply C8|apply Bi)⟩

/-! ### Cm: the pair slices.ContainsFunc[[]int,int] -/
def Cm.f (l:List Int) (lo hi:Int):Option Bool:=some (l.any fun n => !(decide (lo≤n∧n≤hi)))
theorem Cm.calls (A0:Option Addr) (c0:Nat) (l0:List Int) (g1:Nat) (lo:Int) (g2:Nat) (hi:Int) (r:Bool) (w:World) (a1:Kd.C (Kd.int .i64) w A0 l0.length l0) (a2:l0.length≤c0)
  (h1:w.heap[g1]? = some (.cells #[.int .i64 lo] 3 (0,0))) (h2:w.heap[g2]? = some (.cells #[.int .i64 hi] 3 (0,0))) (h:Cm.f l0 lo hi=some r) :
  Calls Tryz.prog 64 #[.slice A0 l0.length c0,.func (.func 65) #[] #[.pointer (some ⟨g1,0,none⟩),.pointer (some ⟨g2,0,none⟩)]] w fun e w'=>e=.returned (.bool r)∧Below w.heap.size w w':=by
 obtain rfl:=Option.some.inj h;(refine Ic.with _ 65 _ A0 c0 l0 w a1 (fun args w=>Mh Tryz.func65 (by kernel_rfl) rfl args w) fun W t _ hb=>?_);(exact (Kp.calls t g1 lo g2 hi W (Am h1 hb) (Am h2 hb)).mono fun e w' ⟨he,hb'⟩=>⟨he,I5 hb hb'⟩)

/-! ### D8: function 42 -/
def D8.f (l0:List Int) (a1:Int) (a2:Int):Option (Bool):=(Cm.f l0 a1 a2).bind fun a5=>(some (!a5))
set_option maxHeartbeats 8000000 in
set_option maxRecDepth 100000 in
theorem D8.calls (A0:Option Addr) (c0:Nat) (l0:List Int) (a1:Int) (a2:Int) (r:Bool) (w:World) (b0:Kd.C (Kd.int .i64) w A0 l0.length l0) (a9:l0.length≤c0) (h:D8.f l0 a1 a2=some r) :
  Calls Tryz.prog 42 #[.slice A0 l0.length c0,.int .i64 a1,.int .i64 a2] w fun e w'=>e=.returned (.bool r)∧Below w.heap.size w w':=by
 (have hmf:∀ (fn:Fn) (first cap:Array Value) (w:World),(Instr.makeFunc fn first cap).run Tryz.prog w=.ok (.func fn first cap) w:=fun _ _ _ _=>rfl);have b3:=am b0;have b2:=am a9;clear b0 a9;have HB:=am (Below.refl w.heap.size w);have H:=h;clear h;unfold D8.f at H;obtain ⟨b1,A4,H⟩:=bnd H;replace H:(some (!b1))=some r:=H;obtain rfl:=Option.some.inj H;go_enter Tryz.func42,Tryz.ntmps42;(go_wp2_with (first|((with_reducible refine Ag (N:=4) rfl ?_);refine Bd 4 (#[.int .i64 a1]) 3 ?_;intro a7 hg w5 hbox hb;have a5:=am (hbox);have c1:=am (gz hg HB);have b8:=am (gz hg HB);replace HB:=wb HB hb;clear hb hbox hg)|((with_reducible refine Ag (N:=5) rfl ?_);refine Bd 5 (#[.int .i64 a2]) 3 ?_;intro a8 hg w6 hbox hb;have a6:=am (hbox);have d0:=am (gz hg HB);have b9:=am (gz hg HB);replace HB:=wb HB hb;have d1:=am (gn hg a5);have d2:=am ((by rw [hg];exact Nat.ne_of_gt (Ak (upK a5)):a8≠a7));replace a5:=kb a5 hb;clear hb hbox hg)|((with_reducible refine Ad (f:=64) rfl ?_);refine cgo (some 9) Tryz.func64 (Cm.calls _ _ l0 a7 a1 a8 a2 b1 _ ?b4 ?b5 ?b6 ?b7 A4.out) ?_;(case b4=>exact upC (Kd.C_below b3.out HB.out));(case b5=>exact b2.out);(case b6=>exact (upK a5));(case b7=>exact (upK a6));rintro e w7 ⟨rfl,hb⟩;refine ⟨_,rfl,?_⟩;replace a5:=kb a5 hb;replace a6:=kb a6 hb;replace HB:=wb HB hb;(try clear hb))));go_ret;exact ⟨eqv,upW HB⟩

end Go.Proofs.YtgeahghdikdamaaGreat.PFnCodesToldOfAll
