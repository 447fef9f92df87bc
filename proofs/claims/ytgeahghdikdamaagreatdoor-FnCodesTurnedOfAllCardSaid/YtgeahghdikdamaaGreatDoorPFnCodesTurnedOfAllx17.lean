-- made for this claim by a program of this session
import Derived.Test.YtgeahghdikdamaaGreatDoorPFnCodesTurnedOfAllx0
import Derived.Test.YtgeahghdikdamaaGreatDoorPFnCodesTurnedOfAllx9
import Derived.Test.YtgeahghdikdamaaGreatDoorPFnCodesTurnedOfAllx11
import Derived.Test.YtgeahghdikdamaaGreatDoorPFnCodesTurnedOfAllx14
import Derived.Test.YtgeahghdikdamaaGreatDoorPFnCodesTurnedOfAllx15
namespace Go.Proofs.YtgeahghdikdamaaGreatDoor.PFnCodesTurnedOfAll
open Go.RowKit Go.Proofs.YtgeahghdikdamaaGreatDoorW.PrintWords Go.Proofs.YtgeahghdikdamaaGreatDoorW.PrintLast Go.Proofs.YtgeahghdikdamaaGreatDoorW.PrintMore
attribute [local go_sem] Dq Dr D7 D8 Db Dc Ds Dt -- for this text's walks alone
set_option linter.unusedVariables false
set_option linter.unusedSimpArgs false
set_option maxHeartbeats 8000000
set_option maxRecDepth 100000

/-! ### Cp: function 30 -/
def Cp.l0:Nat→List (S67)→List (S67)→Int→Int→Int→Int→List (S67)→Option (Int×Int×(List (S67)))
 | 0,_,_,_,_,_,_,_=>none
 | k+1,x3,x7,x8,x9,a1,a6,a8=>if x9<x8 then (if 0≤x9 then (if x9<(x7.length:Int) then (if x3.length<5864062014805 then (Cp.l0 k (x3++[(⟨wrap64 ((wrap64 (a1-((Aa x7 x9).f0)))-((Aa x7 x9).f2)),(Aa x7 x9).f1,(Aa x7 x9).f2⟩:S67)]) x7 x8 (wrap64 (x9+1)) a1 a6 a8) else (none)) else (none)) else (none)) else ((Ak.f k x3).bind fun a7=>(some (a1,a6,a7)))
def Cp.f (k:Nat) (a6:Int) (a7:Int) (a1:List (S67)):Option (Int×Int×(List (S67))):=Cp.l0 k ([]:List (S67)) a1 (a1.length:Int) 0 a6 a7 a1
def Cp.T7:Bool×List (List Nat×List Nat):=(true,[([],[]),([0],[0]),([],[]),([2],[2]),([],[]),([4],[4]),([1,3,5],[1,3,5]),([6,5,0,1,2,3,4,5,6],[6])])
def Cp.B7:List Nat:=[0,1,0,4,0,16,63,127]
theorem Cp.tab7:D3 .any (G6 Tryz.f30 7)=Cp.T7:=by kernel_rfl
theorem Cp.bits7:Dy Cp.T7.2 Cp.B7=true:=by kernel_rfl
theorem Cp.calls (k:Nat) (b2:Int) (b4:Int) (b8:Option Addr) (c1:Nat) (a1:List (S67)) (r1:Int) (r2:Int) (r3:List (S67)) (w:World) (g1:Kd.C k67 w b8 a1.length a1) (g0:a1.length≤c1) (h:Cp.f k b2 b4 a1=some (r1,r2,r3)) :
  Calls Tryz.prog 30 #[.agg #[.int .i64 b2,.int .i64 b4,.slice b8 a1.length c1]] w fun e w'=>∃ h0:Value,e=.returned (.agg #[.int .i64 r1,.int .i64 r2,h0])∧Kd.R k67 67 w' w.heap.size (fun _=>True) h0 r3∧Below w.heap.size w w':=by
 have p0:=Tryz.underlying41;have p1:=Tryz.underlying67;have h6:=am g1;have l6:=am g0;clear g1 g0;have HB:=am (Below.refl w.heap.size w);have H:=h;clear h;unfold Cp.f at H;have H':=am H;clear H;go_enter Tryz.func30,Tryz.ntmps30;(go_wp2_with (first|((with_reducible refine Ag (N:=1) rfl ?_);refine Bg 1 (#[.int .i64 b2,.int .i64 b4,.slice b8 a1.length c1]) 41 ?_;intro b7 hg w2 hbox hb;have a7:=am (hbox);have k8:=am (gz hg HB);replace HB:=wb HB hb;clear hb hbox hg)|((with_reducible refine Ag (N:=2) rfl ?_);refine Bg 2 (#[.int .i64 0,.int .i64 0,.slice none 0 0]) 41 ?_;intro b1 hg w3 hbox hb;have a8:=am (hbox);have k9:=am (gz hg HB);replace HB:=wb HB hb;have b3:=am (gn hg a7);have c0:=am ((by rw [hg];exact Nat.ne_of_gt (Ar (upK a7)):b1≠b7));replace a7:=kb a7 hb;clear hb hbox hg;have n9:=b3.out;have o3:=c0.out;obtain ⟨j9,k0,k2,k3,k4,k5⟩:=cy3 a7)));(try simp only [Act.put,List.setIfInBounds_toArray,List.set_cons_succ,List.set_cons_zero]);(go_loopg [3,9] k (fun kq v3 v9 w'=>∃ (b6:List (S67)) (a6:Int),v9=.int .i64 a6∧Ab (Cp.l0 kq b6 a1 (a1.length:Int) a6 b2 b4 a1=some (r1,r2,r3))∧Ab (kq≤k)∧Ab (Kd.R k67 67 w' w.heap.size (fun _=>True) v3 b6)∧Ab (w'.heap[b7]? = some (.cells #[.int .i64 b2,.int .i64 b4,(.slice b8 a1.length c1)] 41 (0,0)))∧Ab (w'.heap[b1]? = some (.cells #[.int .i64 0,.int .i64 0,(.slice none 0 0)] 41 (0,0)))∧Ab (Below w.heap.size w w')));(case atStart=>exact ⟨(([]:List (S67))),(0),(eqw),H',⟨Nat.le_refl _⟩,⟨nz⟩,⟨upK a7⟩,⟨upK a8⟩,⟨upW HB⟩⟩)
 case round =>
  clear H';(try clear j9 k0 k2 k3 k4 k5);obtain ⟨b6,a6,rfl,HA,f5,b0,a7,a8,HB⟩:=hrel
  cases gk with
  | zero=>exact absurd HA.out (by simp [Cp.l0])
  | succ k1 =>
   have H:=HA.out;clear HA;simp only [Cp.l0] at H;(by_cases c6:a6<(a1.length:Int))
   ·rw [if_pos c6] at H;have c6b0:=decide_eq_true c6;clear c6;obtain ⟨c7,H⟩:=ip H;have c7b0:=decide_eq_true c7;clear c7;obtain ⟨c8,H⟩:=ip H;have c8b0:=decide_eq_true c8;clear c8;obtain ⟨c9,H⟩:=ip H;have h7:=am c9;clear c9;obtain ⟨h2,d6⟩:∃ y_:List (S67),y_=(b6++[(⟨wrap64 ((wrap64 (b2-((Aa a1 a6).f0)))-((Aa a1 a6).f2)),(Aa a1 a6).f1,(Aa a1 a6).f2⟩:S67)]):=⟨_,rfl⟩;(replace H:(Cp.l0 k1 h2 a1 (a1.length:Int) (wrap64 (a6+1)) b2 b4 a1)=some (r1,r2,r3):=rwH d6 H);have i7:=am d6;clear d6;have H':=am H;clear H;have d7:0≤(a6:Int):=oda;have d8:a6<(a1.length:Int):=oda;obtain ⟨l7,j5,g2,g3,g4⟩:=Ck h6.out a6 d7 d8;cases j5;replace g2:=cb HB g2;replace g3:=cb HB g3;replace g4:=cb HB g4;replace d7:=eq_true d7;replace d8:=eq_true d8;(go_wp2_with (first|((with_reducible refine Ag (N:=5) rfl ?_);refine Bg 5 (#[.int .i64 0,.int .i64 0,.int .i64 0]) 67 ?_;intro b5 hg p4 hbox hb;replace b0:=am (Kd.R_below (Kd.R_elderB (upR b0) b5 (Nat.le_of_eq hg.symm)) hb);have b9:=am (hbox);have l5:=am (gz hg HB);replace HB:=wb HB hb;have h8:=am (gn hg a7);have i1:=am ((by rw [hg];exact Nat.ne_of_gt (Ar (upK a7)):b5≠b7));replace a7:=kb a7 hb;have h9:=am (gn hg a8);have i6:=am ((by rw [hg];exact Nat.ne_of_gt (Ar (upK a8)):b5≠b1));replace a8:=kb a8 hb;clear hb hbox hg;have n6:=i1.out;have o0:=h8.out;have n7:=i6.out;have o1:=h9.out;obtain ⟨l8,l9,m0,m7,m8,m9⟩:=cy3 b9;have n8:=b3.out;have o2:=c0.out;obtain ⟨m1,m2,m3,n0,n1,n2⟩:=cy3 a7)|((with_reducible refine Cx (b:=.append) (xs := #[.tmp 13,.tmp 27]) rfl ?_);at_builtin;refine Kd.R_append k67 (w0:=w) w.heap.size rfl (.tmp 13) (.tmp 27) 39 67 (.agg #[(.int .i64 0),(.int .i64 0),(.int .i64 0)]) 24 rfl Tryz.underlying39 Ed rfl zd oz u3 b6 (⟨wrap64 ((wrap64 (b2-((Aa a1 a6).f0)))-((Aa a1 a6).f2)),(Aa a1 a6).f1,(Aa a1 a6).f2⟩:S67) [.int .i64 (wrap64 ((wrap64 (b2-((Aa a1 a6).f0)))-((Aa a1 a6).f2))),.int .i64 ((Aa a1 a6).f1),.int .i64 ((Aa a1 a6).f2)] (fun k_=>k_≠b5) (fun _=>False) rfl (by first|(go_simp;done)|(go_simp;rfl)) ?aP (fun _ hk=>hk.elim) ?aF ?aO ?aB ?aS ?aL ?_;(case aP=>exact Eh _ _ _ (⟨wrap64 ((wrap64 (b2-((Aa a1 a6).f0)))-((Aa a1 a6).f2)),(Aa a1 a6).f1,(Aa a1 a6).f2⟩:S67));(case aB=>exact (upW HB));(case aF=>exact (fun k_ hk=>Kd.freshB (g:=b5) (o:=.cells #[.int .i64 ((Aa a1 a6).f0),.int .i64 ((Aa a1 a6).f1),.int .i64 ((Aa a1 a6).f2)] 67 (0,0)) (Bz b9 #[.int .i64 ((Aa a1 a6).f0),.int .i64 ((Aa a1 a6).f1),.int .i64 0] #[.int .i64 ((Aa a1 a6).f0),.int .i64 0,.int .i64 0]) k_ hk));(case aO=>exact (by (with_reducible repeat (first|apply Kd.R_alloc|apply Kd.R_drewN|apply Kd.R_drew));exact Kd.R_mono (Kd.R_far (p:=⟨b5,2,none⟩) (Kd.R_far (p:=⟨b5,1,none⟩) (Kd.R_far (p:=⟨b5,0,none⟩) (Kd.R_mono b0.out (fun k_ hk=>(⟨hk,hk.2⟩:_∧k_≠b5))) (fun _ hk=>hk.2) (.int .i64 ((Aa a1 a6).f0))) (fun _ hk=>hk.2) (.int .i64 ((Aa a1 a6).f1))) (fun _ hk=>hk.2) (.int .i64 ((Aa a1 a6).f2))) (fun _ hk=>hk.1.2)));(case aS=>exact (Ae (upW HB)));(case aL=>have:=h7.out;omega);intro p2 p5 ho hb hg hat;rw [← i7.out] at ho;have g5:=am (Bk (upF a7) hg (Kd.R_ne b0.out a7.out zd));have g6:=am (Bk (upF a8) hg (Kd.R_ne b0.out a8.out zd));have g7:=am (Bk (g:=b5) (o:=.cells #[.int .i64 ((Aa a1 a6).f0),.int .i64 ((Aa a1 a6).f1),.int .i64 ((Aa a1 a6).f2)] 67 (0,0)) (Bz b9 #[.int .i64 ((Aa a1 a6).f0),.int .i64 ((Aa a1 a6).f1),.int .i64 0] #[.int .i64 ((Aa a1 a6).f0),.int .i64 0,.int .i64 0]) hg (Kd.R_away b0.out (fun _ hk=>hk.2)));have g8:=am (hb);have g9:=am (ho);clear a7;clear a8;clear b9;clear HB;clear b0;have a7:=g5;have a8:=g6;have b9:=g7;have HB:=g8;have h5:=g9;clear g5 g6 g7 g8 g9;clear ho hb hg hat)));go_roundg k1;(case measure=>have:=f5.out;omega);(case rel=>exact ⟨(h2),(wrap64 (a6+1)),(eqw),H',⟨by have:=f5.out;omega⟩,⟨by (with_reducible repeat (first|apply Kd.R_alloc|apply Kd.R_drewN|apply Kd.R_drew));exact Kd.R_mono h5.out (fun _ hk=>trivial)⟩,⟨upK a7⟩,⟨upK a8⟩,⟨upW HB⟩⟩)
   ·rw [if_neg c6] at H;have c6b0:=decide_eq_false c6;clear c6;obtain ⟨d9,h3,H⟩:=bnd H;(try dsimp only at H);simp only [Option.some.injEq,Prod.mk.injEq] at H;obtain ⟨rfl,rfl,rfl⟩:=H;(try go_wp2);replace b0:=am (Kd.R_drew b0.out);replace a7:=am (Au a7.out);replace a8:=am (Au a8.out);replace HB:=am (Bn HB.out);obtain ⟨h4,i8,f8⟩:=Kd.R_slice b0.out;(first|subst f8|(injection f8 with d0 d2 d1;have d3:=d0.symm;have d4:=d1.symm;clear d0 d2 d1;subst d3;subst d4));(refine Dg (n:=8) (S:=fun w'=>w'.cell? ⟨b7,0,none⟩=some (.int .i64 b2)∧w'.cell? ⟨b7,1,none⟩=some (.int .i64 b4)∧w'.cell? ⟨b7,2,none⟩=some (.slice b8 a1.length c1)) (ds:=[]) (bs 8 0) kz rfl rfl ⟨(Ac a7.out 0).trans rfl,(Ac a7.out 1).trans rfl,(Ac a7.out 2).trans rfl⟩ (fun hHeld=>?_);refine Cr Cp.tab7 Cp.bits7 (fun HT_ HW_=>?_));generalize wr.drew=p6 at b0 a7 a8 HB hHeld ⊢;refine pG 0 (some 30) (bs 8 1) HT_ ?_;refine pG 2 (some 32) (bs 8 5) HT_ ?_;refine pG 4 (some 34) (bs 8 21) HT_ ?_;refine tH 1 (some 31) (bs 8 23) HT_ HW_ hHeld ?_;refine tH 3 (some 33) (bs 8 31) HT_ HW_ hHeld ?_;refine Dj (i:=5) (N:=some 35) (bs 8 63) rfl rfl (B0 HT_.out kz) zd (fun K hK=>?_);refine Ew Tryz.func61 kz rfl #[.slice h4 b6.length i8] (by rfl) rfl rfl itp ?_;(with_reducible refine (Ak.calls k1 _ _ b6 d9 _ ?k6 ?k7 h3.out).mono ?_);(case k6=>exact upC (Kd.R_reads' b0.out).2.2);(case k7=>exact (Kd.R_reads' b0.out).2.1);rintro e f3 ⟨p3,rfl,d5,hb⟩;refine ⟨_,rfl,?_⟩;have f6:=am (Kd.R_lower (Kd.R_new' d5 (Kd.R_lt (upR b0))) (Ae (upW HB)));replace b0:=am (Kd.R_elder' (upR b0) (Kd.R_base d5) hb);replace a7:=kb a7 hb;replace a8:=kb a8 hb;replace HB:=wb HB hb;(try clear hb d5);obtain ⟨f4,f7,f9⟩:=Kd.R_slice f6.out;(first|subst f9|(injection f9 with d0 d2 d1;have d3:=d0.symm;have d4:=d1.symm;clear d0 d2 d1;subst d3;subst d4));refine hK.out _ _ ⟨(Ac a7.out 0).trans rfl,(Ac a7.out 1).trans rfl,(Ac a7.out 2).trans rfl⟩ (fun hHeld=>?_);clear hK K;refine nG ?_;refine pG 6 (some 36) (bs 8 127) HT_ ?_;refine Dj (i:=7) (N:=none) (bs 8 255) rfl rfl (B0 HT_.out kz) zd (fun K hK=>?_);have o7:f3.cell? ⟨b1,0,none⟩=some (.int .i64 0):=(Ac a8.out 0).trans rfl;have m4:=Cy a8.out 0;have o4:=b3.out;have n3:=c0.out;have o8:f3.cell? ⟨b1,1,none⟩=some (.int .i64 0):=(Ac a8.out 1).trans rfl;have m5:=Cy a8.out 1;have o5:=b3.out;have n4:=c0.out;have o9:f3.cell? ⟨b1,2,none⟩=some (.slice none 0 0):=(Ac a8.out 2).trans rfl;have m6:=Cy a8.out 2;have o6:=b3.out;have n5:=c0.out;refine I5 (w1:=?_) (by rfl) rfl ?_ ?_;rotate_left
    ·(go_simp);rfl
    refine hK.out _ _ ⟨((Cg (p:=⟨b1,_,none⟩) b3.out _).trans (((Cg (p:=⟨b1,_,none⟩) b3.out _).trans (((Cg (p:=⟨b1,_,none⟩) b3.out _).trans (hHeld.1)))))),((Cg (p:=⟨b1,_,none⟩) b3.out _).trans (((Cg (p:=⟨b1,_,none⟩) b3.out _).trans (((Cg (p:=⟨b1,_,none⟩) b3.out _).trans (hHeld.2.1)))))),((Cg (p:=⟨b1,_,none⟩) b3.out _).trans (((Cg (p:=⟨b1,_,none⟩) b3.out _).trans (((Cg (p:=⟨b1,_,none⟩) b3.out _).trans (hHeld.2.2))))))⟩ (fun hHeld=>?_);clear hK K;refine D4 (C5 HT_.out kz) ?_;(try go_wp2);refine bodyPost_ret (results_cell_row rfl _ _ b1 41 #[.int .i64 b2,.int .i64 b4,.slice f4 d9.length f7] (0,0) _ rfl (Bz a8 #[.int .i64 b2,.int .i64 b4,.slice none 0 0] #[.int .i64 b2,.int .i64 0,.slice none 0 0]) Tryz.underlying41 rfl kz) rfl ?_;exact ⟨_,eqv,by (with_reducible repeat (first|apply Kd.R_alloc|apply Kd.R_drewN|apply Kd.R_drew));exact Kd.R_far3 f6 a8 (.int .i64 b2) (.int .i64 b4) (.slice f4 d9.length f7) (fun _ hk=>trivial),upW HB⟩

/-! ### D9: function 7 -/
def D9.f (k:Nat) (l0:List (List Int)):Option ((List (List Int))×Bool):=(Bi.f k l0).bind fun a1=>(if a1.2.2.2=true then ((Cp.f k a1.1 a1.2.1 a1.2.2.1).bind fun a6=>((Bm.f k a6.1 a6.2.1 a6.2.2).bind fun a7=>(some (a7,true)))) else (some (([]:List (List Int)),false)))
theorem D9.calls (k:Nat) (A0:Option Addr) (c0:Nat) (l0:List (List Int)) (r1:List (List Int)) (r2:Bool) (w:World) (d0:Kd.C (Kd.slice 3 (Kd.int .i64)) w A0 l0.length l0) (c1:l0.length≤c0) (h:D9.f k l0=some (r1,r2)) :
  Calls Tryz.prog 7 #[.slice A0 l0.length c0] w fun e w'=>∃ d5:Value,e=.returned (.tuple #[d5,.bool r2])∧Kd.S (Kd.slice 3 (Kd.int .i64)) 34 w' w.heap.size (fun _=>True) d5 r1∧Below w.heap.size w w':=by
 have g9:=Tryz.underlying41;have b8:=am d0;have b7:=am c1;clear d0 c1;have HB:=am (Below.refl w.heap.size w);have H:=h;clear h;unfold D9.f at H;obtain ⟨⟨a8,b0,b1,f1⟩,A2,H⟩:=bnd H;(try dsimp only at H);(by_cases c3:f1=true)
 ·subst c3;replace H:=yT H;obtain ⟨⟨d1,d2,d3⟩,A4,H⟩:=bnd H;(try dsimp only at H);obtain ⟨d4,A5,H⟩:=bnd H;replace H:(some (d4,true))=some (r1,r2):=H;simp only [Option.some.injEq,Prod.mk.injEq] at H;obtain ⟨rfl,rfl⟩:=H;go_enter Tryz.func7,Tryz.ntmps7;(go_wp2_with (first|((with_reducible refine Ad (f:=26) rfl ?_);refine cgo (some 8) Tryz.func26 (Bi.calls k _ _ l0 a8 b0 b1 true _ ?b2 ?b3 A2.out) ?_;(case b2=>exact upC b8.out);(case b3=>exact b7.out);rintro e w6 ⟨f2,rfl,a6,hb⟩;refine ⟨_,rfl,?_⟩;have a1:=am (Kd.R_lower a6 (Ae (upW HB)));replace HB:=wb HB hb;(try clear hb a6))|((with_reducible refine Ag (N:=4) rfl ?_);refine Bg 4 (#[.int .i64 0,.int .i64 0,.slice none 0 0]) 41 ?_;intro b9 hg w7 hbox hb;replace a1:=rb a1 hb;have a7:=am (hbox);have d6:=am (gz hg HB);replace HB:=wb HB hb;clear hb hbox hg;obtain ⟨g0,g1,g2,g6,g7,g8⟩:=cy3 a7;obtain ⟨b6,b5,f0⟩:=Kd.R_slice a1.out;subst f0)|((with_reducible refine Ad (f:=30) rfl ?_);refine cgo (some 14) Tryz.func30 (Cp.calls k a8 b0 _ _ b1 d1 d2 d3 _ ?b2 ?b3 A4.out) ?_;(case b2=>refine (Kd.R_reads' (e:=67) (base:=w.heap.size) (ok:=fun k_=>True) (n:=b1.length) (c:=b5) ?_).2.2;exact (by (with_reducible repeat (first|apply Kd.R_alloc|apply Kd.R_drewN|apply Kd.R_drew));exact (Kd.R_far3 a1 a7 (.int .i64 a8) (.int .i64 b0) (.slice b6 b1.length b5) (fun _ h_=>h_.1))));(case b3=>exact (Kd.R_reads' a1.out).2.1);rintro e h3 ⟨h0,rfl,a6,hb⟩;refine ⟨_,rfl,?_⟩;have b4:=am (Kd.R_lower (Kd.R_new' a6 (Kd.R_lt (by (with_reducible repeat (first|apply Kd.R_alloc|apply Kd.R_drewN|apply Kd.R_drew));exact (Kd.R_far3 a1 a7 (.int .i64 a8) (.int .i64 b0) (.slice b6 b1.length b5) (fun _ h_=>h_.1))))) (Ae (upW HB)));replace a1:=am (Kd.R_elder' (by (with_reducible repeat (first|apply Kd.R_alloc|apply Kd.R_drewN|apply Kd.R_drew));exact (Kd.R_far3 a1 a7 (.int .i64 a8) (.int .i64 b0) (.slice b6 b1.length b5) (fun _ h_=>h_.1))) (Kd.R_base a6) hb);replace a7:=am (Bb (g:=b9) (o:=.cells #[.int .i64 a8,.int .i64 b0,.slice b6 b1.length b5] 41 (0,0)) (Bz a7 #[.int .i64 a8,.int .i64 b0,.slice none 0 0] #[.int .i64 a8,.int .i64 0,.slice none 0 0]) hb);replace HB:=wb HB hb;(try clear hb a6);obtain ⟨f3,f5,d8⟩:=Kd.R_slice b4.out;subst d8)|((with_reducible refine Ad (f:=27) rfl ?_);refine cgo (some 15) Tryz.func27 (Bm.calls k d1 d2 _ _ d3 d4 _ ?b2 ?b3 A5.out) ?_;(case b2=>exact upC (Kd.R_reads' b4.out).2.2);(case b3=>exact (Kd.R_reads' b4.out).2.1);rintro e h4 ⟨h2,rfl,a6,hb⟩;refine ⟨_,rfl,?_⟩;replace a1:=rb a1 hb;replace b4:=rb b4 hb;have d7:=am (Kd.S_lower a6 (Ae (upW HB)));replace a7:=kb a7 hb;replace HB:=wb HB hb;(try clear hb a6))));(go_ret2);exact ⟨_,eqv,mS d7.out,upW HB⟩
 ·replace c3:=Bool.eq_false_iff.mpr c3;subst c3;replace H:=yF H;simp only [Option.some.injEq,Prod.mk.injEq] at H;obtain ⟨rfl,rfl⟩:=H;go_enter Tryz.func7,Tryz.ntmps7;(go_wp2_with (first|((with_reducible refine Ad (f:=26) rfl ?_);refine cgo (some 8) Tryz.func26 (Bi.calls k _ _ l0 a8 b0 b1 false _ ?b2 ?b3 A2.out) ?_;(case b2=>exact upC b8.out);(case b3=>exact b7.out);rintro e h5 ⟨f2,rfl,a6,hb⟩;refine ⟨_,rfl,?_⟩;have a1:=am (Kd.R_lower a6 (Ae (upW HB)));replace HB:=wb HB hb;(try clear hb a6))|((with_reducible refine Ag (N:=4) rfl ?_);refine Bg 4 (#[.int .i64 0,.int .i64 0,.slice none 0 0]) 41 ?_;intro b9 hg h6 hbox hb;replace a1:=rb a1 hb;have a7:=am (hbox);have d6:=am (gz hg HB);replace HB:=wb HB hb;clear hb hbox hg;obtain ⟨f7,f8,f9,g3,g4,g5⟩:=cy3 a7;obtain ⟨f4,f6,d9⟩:=Kd.R_slice a1.out;subst d9)));(go_ret2);exact ⟨_,eqv,by first|exact Kd.S_nil _ _ _ _ _|exact Kd.N_nil _ _ _ _ _|exact Kd.V_nil _ _ _ _ _|exact Kd.Q_nil _ _ _ _ _|exact Kd.R_nil _ _ _ _ _,upW HB⟩

/-! ### Ec: function 8 -/
def Ec.f (k:Nat) (l0:List (List Int)):Option (Int×Int×Bool):=(Bl.f k l0).bind fun a1=>(some (a1.1,a1.2.1,a1.2.2.2))
theorem Ec.calls (k:Nat) (A0:Option Addr) (c0:Nat) (l0:List (List Int)) (r1:Int) (r2:Int) (r3:Bool) (w:World) (d8:Kd.C (Kd.slice 3 (Kd.int .i64)) w A0 l0.length l0) (d1:l0.length≤c0) (h:Ec.f k l0=some (r1,r2,r3)) :
  Calls Tryz.prog 8 #[.slice A0 l0.length c0] w fun e w'=>e=.returned (.tuple #[.int .i64 r1,.int .i64 r2,.bool r3])∧Below w.heap.size w w':=by
 have f0:=Tryz.underlying41;have b3:=am d8;have b2:=am d1;clear d8 d1;have HB:=am (Below.refl w.heap.size w);have H:=h;clear h;unfold Ec.f at H;obtain ⟨⟨b4,b5,b6,b7⟩,A2,H⟩:=bnd H;(try dsimp only at H);simp only [Option.some.injEq,Prod.mk.injEq] at H;obtain ⟨rfl,rfl,rfl⟩:=H;go_enter Tryz.func8,Tryz.ntmps8;(go_wp2_with (first|(go_at_call 23;(with_reducible refine (Bl.calls k _ _ l0 b4 b5 b6 b7 _ ?b0 ?b1 A2.out).mono ?_);(case b0=>exact upC b3.out);(case b1=>exact b2.out);rintro e w3 ⟨d9,rfl,a6,hb⟩;have a1:=am (Kd.R_lower a6 (Ae (upW HB)));replace HB:=wb HB hb;(try clear hb a6))|((with_reducible refine Ag (N:=5) rfl ?_);refine Bg 5 (#[.int .i64 0,.int .i64 0,.slice none 0 0]) 41 ?_;intro d0 hg w4 hbox hb;replace a1:=rb a1 hb;have a7:=am (hbox);have b9:=am (gz hg HB);replace HB:=wb HB hb;clear hb hbox hg;obtain ⟨d2,d3,d4,d5,d6,d7⟩:=cy3 a7;obtain ⟨b8,c1,a8⟩:=Kd.R_slice a1.out;subst a8)));(repeat (go_quiet (first|(go_at_call 23;(with_reducible refine (Bl.calls k _ _ l0 b4 b5 b6 b7 _ ?b0 ?b1 A2.out).mono ?_);(case b0=>exact upC b3.out);(case b1=>exact b2.out);rintro e w3 ⟨d9,rfl,a6,hb⟩;have a1:=am (Kd.R_lower a6 (Ae (upW HB)));replace HB:=wb HB hb;(try clear hb a6))|((with_reducible refine Ag (N:=5) rfl ?_);refine Bg 5 (#[.int .i64 0,.int .i64 0,.slice none 0 0]) 41 ?_;intro d0 hg w4 hbox hb;replace a1:=rb a1 hb;have a7:=am (hbox);have b9:=am (gz hg HB);replace HB:=wb HB hb;clear hb hbox hg;obtain ⟨d2,d3,d4,d5,d6,d7⟩:=cy3 a7;obtain ⟨b8,c1,a8⟩:=Kd.R_slice a1.out;subst a8));try go_wp2_with (first|(go_at_call 23;(with_reducible refine (Bl.calls k _ _ l0 b4 b5 b6 b7 _ ?b0 ?b1 A2.out).mono ?_);(case b0=>exact upC b3.out);(case b1=>exact b2.out);rintro e w3 ⟨d9,rfl,a6,hb⟩;have a1:=am (Kd.R_lower a6 (Ae (upW HB)));replace HB:=wb HB hb;(try clear hb a6))|((with_reducible refine Ag (N:=5) rfl ?_);refine Bg 5 (#[.int .i64 0,.int .i64 0,.slice none 0 0]) 41 ?_;intro d0 hg w4 hbox hb;replace a1:=rb a1 hb;have a7:=am (hbox);have b9:=am (gz hg HB);replace HB:=wb HB hb;clear hb hbox hg;obtain ⟨d2,d3,d4,d5,d6,d7⟩:=cy3 a7;obtain ⟨b8,c1,a8⟩:=Kd.R_slice a1.out;subst a8))));(go_ret3);exact ⟨eqv,upW HB⟩

/-! ### E5: function 9 -/
def E5.f (k:Nat) (l0:List (List Int)):Option (Int×Int×Bool):=(Bi.f k l0).bind fun a1=>(if a1.2.2.2=true then (some (a1.1,a1.2.1,true)) else (some (0,0,false)))
theorem E5.calls (k:Nat) (A0:Option Addr) (c0:Nat) (l0:List (List Int)) (r1:Int) (r2:Int) (r3:Bool) (w:World) (f7:Kd.C (Kd.slice 3 (Kd.int .i64)) w A0 l0.length l0) (d4:l0.length≤c0) (h:E5.f k l0=some (r1,r2,r3)) :
  Calls Tryz.prog 9 #[.slice A0 l0.length c0] w fun e w'=>e=.returned (.tuple #[.int .i64 r1,.int .i64 r2,.bool r3])∧Below w.heap.size w w':=by
 have f9:=Tryz.underlying41;have b2:=am f7;have b1:=am d4;clear f7 d4;have HB:=am (Below.refl w.heap.size w);have H:=h;clear h;unfold E5.f at H;obtain ⟨⟨b3,b4,b5,f8⟩,A2,H⟩:=bnd H;(try dsimp only at H);(by_cases c3:f8=true)
 ·subst c3;replace H:=yT H;simp only [Option.some.injEq,Prod.mk.injEq] at H;obtain ⟨rfl,rfl,rfl⟩:=H;go_enter Tryz.func9,Tryz.ntmps9;(go_wp2_with (first|(go_at_call 26;(with_reducible refine (Bi.calls k _ _ l0 b3 b4 b5 true _ ?a8 ?b0 A2.out).mono ?_);(case a8=>exact upC b2.out);(case b0=>exact b1.out);rintro e w4 ⟨c1,rfl,a6,hb⟩;have a1:=am (Kd.R_lower a6 (Ae (upW HB)));replace HB:=wb HB hb;(try clear hb a6))|((with_reducible refine Ag (N:=5) rfl ?_);refine Bg 5 (#[.int .i64 0,.int .i64 0,.slice none 0 0]) 41 ?_;intro b9 hg w5 hbox hb;replace a1:=rb a1 hb;have a7:=am (hbox);have b6:=am (gz hg HB);replace HB:=wb HB hb;clear hb hbox hg;obtain ⟨d8,d9,f0,f4,f5,f6⟩:=cy3 a7;obtain ⟨d1,d3,b8⟩:=Kd.R_slice a1.out;subst b8)));(repeat (go_quiet (first|(go_at_call 26;(with_reducible refine (Bi.calls k _ _ l0 b3 b4 b5 true _ ?a8 ?b0 A2.out).mono ?_);(case a8=>exact upC b2.out);(case b0=>exact b1.out);rintro e w4 ⟨c1,rfl,a6,hb⟩;have a1:=am (Kd.R_lower a6 (Ae (upW HB)));replace HB:=wb HB hb;(try clear hb a6))|((with_reducible refine Ag (N:=5) rfl ?_);refine Bg 5 (#[.int .i64 0,.int .i64 0,.slice none 0 0]) 41 ?_;intro b9 hg w5 hbox hb;replace a1:=rb a1 hb;have a7:=am (hbox);have b6:=am (gz hg HB);replace HB:=wb HB hb;clear hb hbox hg;obtain ⟨d8,d9,f0,f4,f5,f6⟩:=cy3 a7;obtain ⟨d1,d3,b8⟩:=Kd.R_slice a1.out;subst b8));try go_wp2_with (first|(go_at_call 26;(with_reducible refine (Bi.calls k _ _ l0 b3 b4 b5 true _ ?a8 ?b0 A2.out).mono ?_);(case a8=>exact upC b2.out);(case b0=>exact b1.out);rintro e w4 ⟨c1,rfl,a6,hb⟩;have a1:=am (Kd.R_lower a6 (Ae (upW HB)));replace HB:=wb HB hb;(try clear hb a6))|((with_reducible refine Ag (N:=5) rfl ?_);refine Bg 5 (#[.int .i64 0,.int .i64 0,.slice none 0 0]) 41 ?_;intro b9 hg w5 hbox hb;replace a1:=rb a1 hb;have a7:=am (hbox);have b6:=am (gz hg HB);replace HB:=wb HB hb;clear hb hbox hg;obtain ⟨d8,d9,f0,f4,f5,f6⟩:=cy3 a7;obtain ⟨d1,d3,b8⟩:=Kd.R_slice a1.out;subst b8))));(go_ret3);exact ⟨eqv,upW HB⟩
 ·replace c3:=Bool.eq_false_iff.mpr c3;subst c3;replace H:=yF H;simp only [Option.some.injEq,Prod.mk.injEq] at H;obtain ⟨rfl,rfl,rfl⟩:=H;go_enter Tryz.func9,Tryz.ntmps9;(go_wp2_with (first|(go_at_call 26;(with_reducible refine (Bi.calls k _ _ l0 b3 b4 b5 false _ ?a8 ?b0 A2.out).mono ?_);(case a8=>exact upC b2.out);(case b0=>exact b1.out);rintro e w8 ⟨c1,rfl,a6,hb⟩;have a1:=am (Kd.R_lower a6 (Ae (upW HB)));replace HB:=wb HB hb;(try clear hb a6))|((with_reducible refine Ag (N:=5) rfl ?_);refine Bg 5 (#[.int .i64 0,.int .i64 0,.slice none 0 0]) 41 ?_;intro b9 hg w9 hbox hb;replace a1:=rb a1 hb;have a7:=am (hbox);have b6:=am (gz hg HB);replace HB:=wb HB hb;clear hb hbox hg;obtain ⟨d5,d6,d7,f1,f2,f3⟩:=cy3 a7;obtain ⟨d0,d2,b7⟩:=Kd.R_slice a1.out;subst b7)));(repeat (go_quiet (first|(go_at_call 26;(with_reducible refine (Bi.calls k _ _ l0 b3 b4 b5 false _ ?a8 ?b0 A2.out).mono ?_);(case a8=>exact upC b2.out);(case b0=>exact b1.out);rintro e w8 ⟨c1,rfl,a6,hb⟩;have a1:=am (Kd.R_lower a6 (Ae (upW HB)));replace HB:=wb HB hb;(try clear hb a6))|((with_reducible refine Ag (N:=5) rfl ?_);refine Bg 5 (#[.int .i64 0,.int .i64 0,.slice none 0 0]) 41 ?_;intro b9 hg w9 hbox hb;replace a1:=rb a1 hb;have a7:=am (hbox);have b6:=am (gz hg HB);replace HB:=wb HB hb;clear hb hbox hg;obtain ⟨d5,d6,d7,f1,f2,f3⟩:=cy3 a7;obtain ⟨d0,d2,b7⟩:=Kd.R_slice a1.out;subst b7));try go_wp2_with (first|(go_at_call 26;(with_reducible refine (Bi.calls k _ _ l0 b3 b4 b5 false _ ?a8 ?b0 A2.out).mono ?_);(case a8=>exact upC b2.out);(case b0=>exact b1.out);rintro e w8 ⟨c1,rfl,a6,hb⟩;have a1:=am (Kd.R_lower a6 (Ae (upW HB)));replace HB:=wb HB hb;(try clear hb a6))|((with_reducible refine Ag (N:=5) rfl ?_);refine Bg 5 (#[.int .i64 0,.int .i64 0,.slice none 0 0]) 41 ?_;intro b9 hg w9 hbox hb;replace a1:=rb a1 hb;have a7:=am (hbox);have b6:=am (gz hg HB);replace HB:=wb HB hb;clear hb hbox hg;obtain ⟨d5,d6,d7,f1,f2,f3⟩:=cy3 a7;obtain ⟨d0,d2,b7⟩:=Kd.R_slice a1.out;subst b7))));(go_ret3);exact ⟨eqv,upW HB⟩

/-! ### E6: function 10 -/
def E6.f (k:Nat) (l0:List (List Int)):Option (Int×Bool):=(Bl.f k l0).bind fun a1=>(some ((a1.2.2.1.length:Int),a1.2.2.2))
theorem E6.calls (k:Nat) (A0:Option Addr) (c0:Nat) (l0:List (List Int)) (r1:Int) (r2:Bool) (w:World) (a8:Kd.C (Kd.slice 3 (Kd.int .i64)) w A0 l0.length l0) (a6:l0.length≤c0) (h:E6.f k l0=some (r1,r2)) :
  Calls Tryz.prog 10 #[.slice A0 l0.length c0] w fun e w'=>e=.returned (.tuple #[.int .i64 r1,.bool r2])∧Below w.heap.size w w':=by
 have d9:=Tryz.underlying41;have b2:=am a8;have b1:=am a6;clear a8 a6;have HB:=am (Below.refl w.heap.size w);have H:=h;clear h;unfold E6.f at H;obtain ⟨⟨b6,b7,b8,b9⟩,A2,H⟩:=bnd H;(try dsimp only at H);simp only [Option.some.injEq,Prod.mk.injEq] at H;obtain ⟨rfl,rfl⟩:=H;go_enter Tryz.func10,Tryz.ntmps10;(go_wp2_with (first|((with_reducible refine Ad (f:=23) rfl ?_);refine cgo (some 8) Tryz.func23 (Bl.calls k _ _ l0 b6 b7 b8 b9 _ ?b4 ?b5 A2.out) ?_;(case b4=>exact upC b2.out);(case b5=>exact b1.out);rintro e w3 ⟨f0,rfl,a7,hb⟩;refine ⟨_,rfl,?_⟩;have a1:=am (Kd.R_lower a7 (Ae (upW HB)));replace HB:=wb HB hb;(try clear hb a7))|((with_reducible refine Ag (N:=4) rfl ?_);refine Bg 4 (#[.int .i64 0,.int .i64 0,.slice none 0 0]) 41 ?_;intro d2 hg w4 hbox hb;replace a1:=rb a1 hb;have b0:=am (hbox);have d0:=am (gz hg HB);replace HB:=wb HB hb;clear hb hbox hg;obtain ⟨d3,d4,d5,d6,d7,d8⟩:=cy3 b0;obtain ⟨c1,d1,b3⟩:=Kd.R_slice a1.out;subst b3)));(go_ret2);exact ⟨eqv,upW HB⟩

/-! ### E7: function 11 -/
def E7.f (k:Nat) (l0:List (List Int)):Option (Int×Bool):=(Bi.f k l0).bind fun a1=>(if a1.2.2.2=true then (some ((a1.2.2.1.length:Int),true)) else (some (0,false)))
theorem E7.calls (k:Nat) (A0:Option Addr) (c0:Nat) (l0:List (List Int)) (r1:Int) (r2:Bool) (w:World) (b4:Kd.C (Kd.slice 3 (Kd.int .i64)) w A0 l0.length l0) (b3:l0.length≤c0) (h:E7.f k l0=some (r1,r2)) :
  Calls Tryz.prog 11 #[.slice A0 l0.length c0] w fun e w'=>e=.returned (.tuple #[.int .i64 r1,.bool r2])∧Below w.heap.size w w':=by
 have f9:=Tryz.underlying41;have b2:=am b4;have b1:=am b3;clear b4 b3;have HB:=am (Below.refl w.heap.size w);have H:=h;clear h;unfold E7.f at H;obtain ⟨⟨b5,b6,b7,d1⟩,A2,H⟩:=bnd H;(try dsimp only at H);(by_cases c3:d1=true)
 ·subst c3;replace H:=yT H;simp only [Option.some.injEq,Prod.mk.injEq] at H;obtain ⟨rfl,rfl⟩:=H;go_enter Tryz.func11,Tryz.ntmps11;(go_wp2_with (first|((with_reducible refine Ad (f:=26) rfl ?_);refine cgo (some 8) Tryz.func26 (Bi.calls k _ _ l0 b5 b6 b7 true _ ?a8 ?b0 A2.out) ?_;(case a8=>exact upC b2.out);(case b0=>exact b1.out);rintro e w4 ⟨d2,rfl,a6,hb⟩;refine ⟨_,rfl,?_⟩;have a1:=am (Kd.R_lower a6 (Ae (upW HB)));replace HB:=wb HB hb;(try clear hb a6))|((with_reducible refine Ag (N:=4) rfl ?_);refine Bg 4 (#[.int .i64 0,.int .i64 0,.slice none 0 0]) 41 ?_;intro d0 hg w5 hbox hb;replace a1:=rb a1 hb;have a7:=am (hbox);have b8:=am (gz hg HB);replace HB:=wb HB hb;clear hb hbox hg;obtain ⟨f0,f1,f2,f6,f7,f8⟩:=cy3 a7;obtain ⟨d4,d6,c1⟩:=Kd.R_slice a1.out;subst c1)));(go_ret2);exact ⟨eqv,upW HB⟩
 ·replace c3:=Bool.eq_false_iff.mpr c3;subst c3;replace H:=yF H;simp only [Option.some.injEq,Prod.mk.injEq] at H;obtain ⟨rfl,rfl⟩:=H;go_enter Tryz.func11,Tryz.ntmps11;(go_wp2_with (first|((with_reducible refine Ad (f:=26) rfl ?_);refine cgo (some 8) Tryz.func26 (Bi.calls k _ _ l0 b5 b6 b7 false _ ?a8 ?b0 A2.out) ?_;(case a8=>exact upC b2.out);(case b0=>exact b1.out);rintro e w8 ⟨d2,rfl,a6,hb⟩;refine ⟨_,rfl,?_⟩;have a1:=am (Kd.R_lower a6 (Ae (upW HB)));replace HB:=wb HB hb;(try clear hb a6))|((with_reducible refine Ag (N:=4) rfl ?_);refine Bg 4 (#[.int .i64 0,.int .i64 0,.slice none 0 0]) 41 ?_;intro d0 hg w9 hbox hb;replace a1:=rb a1 hb;have a7:=am (hbox);have b8:=am (gz hg HB);replace HB:=wb HB hb;clear hb hbox hg;obtain ⟨d7,d8,d9,f3,f4,f5⟩:=cy3 a7;obtain ⟨d3,d5,b9⟩:=Kd.R_slice a1.out;subst b9)));(go_ret2);exact ⟨eqv,upW HB⟩

/-! ### Cq: function 15 -/
def Cq.f (k:Nat) (l0:List (List Int)):Option (Bool):=(Bl.f k l0).bind fun a1=>(some a1.2.2.2)
theorem Cq.calls (k:Nat) (A0:Option Addr) (c0:Nat) (l0:List (List Int)) (r:Bool) (w:World) (a8:Kd.C (Kd.slice 3 (Kd.int .i64)) w A0 l0.length l0) (a6:l0.length≤c0) (h:Cq.f k l0=some r) :
  Calls Tryz.prog 15 #[.slice A0 l0.length c0] w fun e w'=>e=.returned (.bool r)∧Below w.heap.size w w':=by
 have d9:=Tryz.underlying41;have b3:=am a8;have b2:=am a6;clear a8 a6;have HB:=am (Below.refl w.heap.size w);have H:=h;clear h;unfold Cq.f at H;obtain ⟨⟨b7,b8,b9,b0⟩,A2,H⟩:=bnd H;replace H:(some b0)=some r:=H;obtain rfl:=Option.some.inj H;go_enter Tryz.func15,Tryz.ntmps15;(go_wp2_with (first|((with_reducible refine Ad (f:=23) rfl ?_);refine cgo (some 7) Tryz.func23 (Bl.calls k _ _ l0 b7 b8 b9 b0 _ ?b5 ?b6 A2.out) ?_;(case b5=>exact upC b3.out);(case b6=>exact b2.out);rintro e w3 ⟨f0,rfl,a7,hb⟩;refine ⟨_,rfl,?_⟩;have a1:=am (Kd.R_lower a7 (Ae (upW HB)));replace HB:=wb HB hb;(try clear hb a7))|((with_reducible refine Ag (N:=3) rfl ?_);refine Bg 3 (#[.int .i64 0,.int .i64 0,.slice none 0 0]) 41 ?_;intro d2 hg w4 hbox hb;replace a1:=rb a1 hb;have b1:=am (hbox);have d0:=am (gz hg HB);replace HB:=wb HB hb;clear hb hbox hg;obtain ⟨d3,d4,d5,d6,d7,d8⟩:=cy3 b1;obtain ⟨c1,d1,b4⟩:=Kd.R_slice a1.out;subst b4)));go_ret;exact ⟨eqv,upW HB⟩

-- NOT PRINTED: function 144 (strconv_small)

-- NOT PRINTED: function 133 (bits_Len64)

-- NOT PRINTED: function 161 (strconv_log10Pow2)

-- NOT PRINTED: function 162 (strconv_bool2_int)

-- NOT PRINTED: function 145 (strconv_numDigits)

-- NOT PRINTED: function 146 (strconv_formatBase10)

-- NOT PRINTED: function 163 (strconv_isPowerOfTwo)

-- NOT PRINTED: function 167 (bits_TrailingZeros32)

-- NOT PRINTED: function 168 (bits_TrailingZeros64)

-- NOT PRINTED: function 164 (bits_TrailingZeros)

-- NOT PRINTED: function 147 (strconv_formatBits)

-- NOT PRINTED: function 119 (strconv_FormatInt)

-- NOT PRINTED: function 100 (strconv_Itoa_100)

/-! the table that Itoa reads: what it holds, wherever the call's world has gone on -/
def VT (w:World):Prop:=Lib.TabIs Tryz.prog w "internal/strconv.uint64pow10" .u64 Lib.pow10Tab∧(∃ t p,w.var? Tryz.prog "strconv.ErrSyntax" = some #[.iface t p])∧(∃ t p,w.var? Tryz.prog "strconv.ErrRange" = some #[.iface t p])∧(∃ m,w.cell? ⟨0,0,none⟩=some (.int .i64 m))
theorem var_up {n:String} {w w':World} {z:Array Value} (h:w.var? Tryz.prog n=some z) (hb:Below w.heap.size w w'):w'.var? Tryz.prog n=some z:=by
 unfold World.var? at h ⊢
 cases hg:Tryz.prog.globalNamed n with
 | none=>rw [hg] at h;simp at h
 | some g =>
  rw [hg] at h;simp only [Option.bind_some] at h ⊢
  have hlt:g<w.heap.size:=by
   (rcases Nat.lt_or_ge g w.heap.size with h'|h')
   ·exact h'
   ·(rw [Array.getElem?_eq_none h'] at h;cases h)
  rw [hb.block _ hlt];exact h
theorem vup {w w':World} (h:VT w) (hb:Below w.heap.size w w'):VT w':=by
 obtain ⟨h1,⟨t2,p2,h2⟩,⟨t3,p3,h3⟩,⟨m,h4⟩⟩:=h;exact ⟨var_up h1 hb,⟨t2,p2,var_up h2 hb⟩,⟨t3,p3,var_up h3 hb⟩,⟨m,(hb.cell (World.block_lt_of_cell? w _ h4)).trans h4⟩⟩
theorem Qd (w:World) (k:Nat) (os:Array Obj):Below w.heap.size w (Sort.grow (w.drewN k) os) :=
 ⟨rfl,rfl,rfl,by simp [Sort.grow,World.drewN],fun j hj=>by simp only [Sort.grow];exact Array.getElem?_append_left hj⟩

/-! ### Gl: function 69 -/
def Mc:Go.Shelf.Ren:=⟨fun|171=>69|243=>100|246=>119|283=>144|284=>145|285=>146|286=>147|129=>133|317=>161|318=>162|319=>163|320=>164|337=>167|338=>168|n=>n,fun|3=>3|9=>9|2=>2|4=>4|171=>137|0=>0|53=>129|37=>92|5=>5|173=>139|212=>163|51=>127|20=>20|213=>164|46=>100|232=>168|233=>169|n=>n,fun|17=>5|18=>6|19=>7|n=>n⟩
theorem Ik:Go.Proofs.LaysM.n171 Tryz.prog Mc where
 mixed:=by kernel_rfl
 f129:=Tryz.func133.trans (congrArg some kz)
 f171:=Tryz.func69.trans (congrArg some kz)
 f243:=Tryz.func100.trans (congrArg some kz)
 f246:=Tryz.func119.trans (congrArg some kz)
 f283:=Tryz.func144.trans (congrArg some kz)
 f284:=Tryz.func145.trans (congrArg some kz)
 f285:=Tryz.func146.trans (congrArg some kz)
 f286:=Tryz.func147.trans (congrArg some kz)
 f317:=Tryz.func161.trans (congrArg some kz)
 f318:=Tryz.func162.trans (congrArg some kz)
 f319:=Tryz.func163.trans (congrArg some kz)
 f320:=Tryz.func164.trans (congrArg some kz)
 f337:=Tryz.func167.trans (congrArg some kz)
 f338:=Tryz.func168.trans (congrArg some kz)
 t0:=Tryz.underlying0
 a0:=Tryz.isAgg0
 z0:=Tryz.sizeOf0
 v0:=Tryz.zeroValue0
 t2:=Tryz.underlying2
 a2:=Tryz.isAgg2
 z2:=Tryz.sizeOf2
 v2:=Tryz.zeroValue2
 t3:=Tryz.underlying3
 a3:=Tryz.isAgg3
 z3:=Tryz.sizeOf3
 v3:=Tryz.zeroValue3
 t4:=Tryz.underlying4
 a4:=Tryz.isAgg4
 z4:=Tryz.sizeOf4
 v4:=Tryz.zeroValue4
 t5:=Tryz.underlying5
 a5:=Tryz.isAgg5
 z5:=Tryz.sizeOf5
 v5:=Tryz.zeroValue5
 t9:=Tryz.underlying9
 a9:=Tryz.isAgg9
 z9:=Tryz.sizeOf9
 v9:=Tryz.zeroValue9
 t20:=Tryz.underlying20
 a20:=Tryz.isAgg20
 z20:=Tryz.sizeOf20
 v20:=Tryz.zeroValue20
 t37:=Tryz.underlying92
 a37:=Tryz.isAgg92
 z37:=Tryz.sizeOf92
 v37:=Tryz.zeroValue92
 t46:=Tryz.underlying100
 a46:=Tryz.isAgg100
 z46:=Tryz.sizeOf100
 v46:=Tryz.zeroValue100
 t51:=Tryz.underlying127
 a51:=Tryz.isAgg127
 z51:=Tryz.sizeOf127
 v51:=Tryz.zeroValue127
 t53:=Tryz.underlying129
 a53:=Tryz.isAgg129
 z53:=Tryz.sizeOf129
 v53:=Tryz.zeroValue129
 t171:=Tryz.underlying137
 a171:=Tryz.isAgg137
 z171:=Tryz.sizeOf137
 v171:=Tryz.zeroValue137
 t173:=Tryz.underlying139
 a173:=Tryz.isAgg139
 z173:=Tryz.sizeOf139
 v173:=Tryz.zeroValue139
 t212:=Tryz.underlying163
 a212:=Tryz.isAgg163
 z212:=Tryz.sizeOf163
 v212:=Tryz.zeroValue163
 t213:=Tryz.underlying164
 a213:=Tryz.isAgg164
 z213:=Tryz.sizeOf164
 t232:=Tryz.underlying168
 a232:=Tryz.isAgg168
 z232:=Tryz.sizeOf168
 v232:=Tryz.zeroValue168
 t233:=Tryz.underlying169
 a233:=Tryz.isAgg169
 z233:=Tryz.sizeOf169
 v233:=Tryz.zeroValue169
 g17:=by kernel_rfl
 g18:=by kernel_rfl
 g19:=by kernel_rfl
 i0:=by kernel_rfl
 i2:=by kernel_rfl
 i3:=by kernel_rfl
 i4:=by kernel_rfl
 i5:=by kernel_rfl
 i9:=by kernel_rfl
 i20:=by kernel_rfl
 i37:=by kernel_rfl
 i46:=by kernel_rfl
 i51:=by kernel_rfl
 i53:=by kernel_rfl
 i171:=by kernel_rfl
 i173:=by kernel_rfl
 i212:=by kernel_rfl
 i232:=by kernel_rfl
 i233:=by kernel_rfl
 m17:=by kernel_rfl
 m18:=by kernel_rfl
 m19:=by kernel_rfl
def Gl.f (a0:Int):Option ByteArray:=if 0≤a0∧a0<1000000 then some ⟨(Lib.decDigits a0.toNat).toArray⟩ else none
theorem Gl.calls (a0:Int) (r:ByteArray) (w:World) (h:Gl.f a0=some r) (hT_:Ab (VT w)) :
  Calls Tryz.prog 69 #[.int .i64 a0] w fun e w'=>e=.returned (.string r)∧Below w.heap.size w w':=by
 unfold Gl.f at h;(by_cases h1:0≤a0∧a0<1000000)
 ·rw [if_pos h1] at h;obtain rfl:=Option.some.inj h;refine (Any.strconv_Itoa Ik a0 oz oz w hT_.out.1).mono ?_;rintro e w' ⟨rfl,k,os,rfl⟩;refine ⟨?_,Qd w k os⟩;unfold Lib.itoa;rw [if_neg oz]
 ·rw [if_neg h1] at h;cases h

-- NOT PRINTED: function 155 (abi_NoEscape)

-- NOT PRINTED: function 134 (strings_Builder_copyCheck)

-- NOT PRINTED: function 156 (bytealg_MakeNoZero)

-- NOT PRINTED: function 135 (strings_Builder_grow)

-- NOT PRINTED: function 107 (strings_Builder_Grow)

-- NOT PRINTED: function 108 (strings_Builder_WriteString)

-- NOT PRINTED: function 109 (strings_Builder_String)

/-! ### strings_Join: function 92 -/
def J4:Go.Shelf.Ren:=⟨fun|156=>92|165=>107|166=>108|169=>109|240=>134|241=>135|276=>155|277=>156|n=>n,fun|31=>50|9=>9|3=>3|4=>4|0=>0|20=>20|72=>103|76=>76|70=>101|37=>92|75=>75|127=>130|164=>148|5=>5|80=>105|n=>n,fun|n=>n⟩
theorem K3:Go.Proofs.Lays.n156 Tryz.prog J4 where
 mixed:=by kernel_rfl
 f156:=Tryz.func92.trans (congrArg some kz)
 f165:=Tryz.func107.trans (congrArg some kz)
 f166:=Tryz.func108.trans (congrArg some kz)
 f169:=Tryz.func109.trans (congrArg some kz)
 f240:=Tryz.func134.trans (congrArg some kz)
 f241:=Tryz.func135.trans (congrArg some kz)
 f276:=Tryz.func155.trans (congrArg some kz)
 f277:=Tryz.func156.trans (congrArg some kz)
 t0:=Tryz.underlying0
 a0:=Tryz.isAgg0
 z0:=Tryz.sizeOf0
 v0:=Tryz.zeroValue0
 t3:=Tryz.underlying3
 a3:=Tryz.isAgg3
 z3:=Tryz.sizeOf3
 v3:=Tryz.zeroValue3
 t4:=Tryz.underlying4
 a4:=Tryz.isAgg4
 z4:=Tryz.sizeOf4
 v4:=Tryz.zeroValue4
 t9:=Tryz.underlying9
 a9:=Tryz.isAgg9
 z9:=Tryz.sizeOf9
 v9:=Tryz.zeroValue9
 t20:=Tryz.underlying20
 a20:=Tryz.isAgg20
 z20:=Tryz.sizeOf20
 v20:=Tryz.zeroValue20
 t31:=Tryz.underlying50
 a31:=Tryz.isAgg50
 z31:=Tryz.sizeOf50
 v31:=Tryz.zeroValue50
 t37:=Tryz.underlying92
 a37:=Tryz.isAgg92
 z37:=Tryz.sizeOf92
 v37:=Tryz.zeroValue92
 t70:=Tryz.underlying101
 a70:=Tryz.isAgg101
 z70:=Tryz.sizeOf101
 v70:=Tryz.zeroValue101
 t72:=Tryz.underlying103
 a72:=Tryz.isAgg103
 z72:=Tryz.sizeOf103
 v72:=Tryz.zeroValue103
 t75:=Tryz.underlying75
 a75:=Tryz.isAgg75
 z75:=Tryz.sizeOf75
 v75:=Tryz.zeroValue75
 t76:=Tryz.underlying76
 a76:=Tryz.isAgg76
 z76:=Tryz.sizeOf76
 v76:=Tryz.zeroValue76
 t127:=Tryz.underlying130
 a127:=Tryz.isAgg130
 z127:=Tryz.sizeOf130
 v127:=Tryz.zeroValue130
 t164:=Tryz.underlying148
 a164:=Tryz.isAgg148
 z164:=Tryz.sizeOf148
 v164:=Tryz.zeroValue148
theorem Kk:Builder.Extra Tryz.prog J4 where
 sizeBuilder:=by kernel_rfl
 liesBuilder:=by kernel_rfl
 t5:=by kernel_rfl
 a5:=fun w=>by kernel_rfl
 z5:=fun w=>by kernel_rfl
 v5:=fun w=>by kernel_rfl
 infoByte:=by kernel_rfl
 cellsByte:=by kernel_rfl
 sizeByte:=by kernel_rfl
 neB5:=by decide
def strings_Join.f (l0:List ByteArray) (s1:ByteArray):Option ByteArray:=if l0.length≤1000000∧(Lib.join (l0.map (·.data.toList)) s1.data.toList).length≤100000000 then some ⟨(Lib.join (l0.map (·.data.toList)) s1.data.toList).toArray⟩ else none
theorem strings_Join.calls (A0:Option Addr) (c0:Nat) (l0:List ByteArray) (s1:ByteArray) (r:ByteArray) (w:World) (a6:Kd.C Kd.string w A0 l0.length l0) (a1:l0.length≤c0) (h:strings_Join.f l0 s1=some r) :
  Calls Tryz.prog 92 #[.slice A0 l0.length c0,.string s1] w fun e w'=>e=.returned (.string r)∧Below w.heap.size w w':=by
 unfold strings_Join.f at h;(by_cases h1:l0.length≤1000000∧(Lib.join (l0.map (·.data.toList)) s1.data.toList).length≤100000000)
 ·rw [if_pos h1] at h;obtain rfl:=Option.some.inj h
  cases l0 with
  | nil=>exact (Any.strings_Join_none K3 Kk A0 c0 s1 w).mono fun e w' ⟨he,hw⟩=>⟨he,hw ▸ Below.refl _ _⟩
  | cons x t =>
   obtain ⟨_,_,hc⟩:=Kd.reads_of_C (enc:=Value.string) (d:=ByteArray.empty) (h1:=fun _=>rfl) a6;obtain ⟨ad,rfl,hcell⟩:=hc (by simp);obtain ⟨b,o,sp⟩:=ad;have h0:=hcell 0 (by simp)
   cases sp with
   | some sp =>
    (exfalso);unfold World.cell? Addr.add at h0;(dsimp only at h0);(split at h0)
    ·simp at h0
    ·cases h0
   | none =>
    have hb:=World.block_lt_of_cell? w _ h0;refine Any.strings_Join K3 Kk b o c0 (x::t) s1 w (fun j z hj=>?_) hb oz a1 oz;have hjl:j<(x::t).length:=(List.getElem?_eq_some_iff.1 hj).1;have h2:=hcell j hjl;rw [List.getD_eq_getElem?_getD,hj] at h2;(have e9:(⟨b,o,none⟩:Addr).add j=⟨b,o+j,none⟩:=by cases j <;> rfl);rw [e9] at h2;exact h2
 ·rw [if_neg h1] at h;cases h

/-! ### C4: function 63 -/
def C4.l0:Nat→ByteArray→List ByteArray→List Int→Int→Int→Option (ByteArray)
 | 0,_,_,_,_,_=>none
 | k+1,x0,x5,x9,a6,a1=>if a1<a6 then (if 0≤a1 then (if a1<(x9.length:Int) then ((Gl.f (rd x9 a1)).bind fun a7=>(if x5.length<8796093022208 then (C4.l0 k x0 (x5++[a7]) x9 a6 (wrap64 (a1+1))) else (none))) else (none)) else (none)) else ((strings_Join.f x5 x0).bind fun a8=>(some a8))
def C4.f (k:Nat) (a0:ByteArray) (l1:List Int):Option (ByteArray):=C4.l0 k a0 (([]:List ByteArray)) l1 (l1.length:Int) 0
theorem C4.calls (k:Nat) (a0:ByteArray) (A1:Option Addr) (c1:Nat) (l1:List Int) (r:ByteArray) (w:World) (b8:Kd.C (Kd.int .i64) w A1 l1.length l1) (b7:l1.length≤c1) (h:C4.f k a0 l1=some r) (hT_:Ab (VT w)) :
  Calls Tryz.prog 63 #[.string a0,.slice A1 l1.length c1] w fun e w'=>e=.returned (.string r)∧Below w.heap.size w w':=by
 have d7:=am b8;have f5:=am b7;clear b8 b7;have HB:=am (Below.refl w.heap.size w);have H:=h;clear h;unfold C4.f at H;obtain ⟨d2,b1⟩:∃ y_:List ByteArray,y_=(([]:List ByteArray)):=⟨_,rfl⟩;(replace H:(C4.l0 k a0 d2 l1 (l1.length:Int) 0)=some r:=rwH b1 H);have b6:=am b1;clear b1;have H':=am H;clear H;go_enter Tryz.func63,Tryz.ntmps63;(go_wp2_with (first|((with_reducible refine Ag (N:=8) rfl ?_);refine Kd.R_lit Kd.string _ 9 ?hg (N:=8) ?hd (xs:=([]:List ByteArray)) (inner:=[]) (ok:=fun _=>True) (okp:=fun _=>True) ?hr ?hp (fun _ hk=>hk) trivial (Below.refl _ _) (Nat.le_refl _) (by simp) ?_;(case hd=>rfl);(case hg=>rfl);(case hr=>first|(go_simp;done)|(go_simp;rfl));(case hp=>exact (Bq.none _ _));intro f8 w3 a8 hb hg_ hnew_;clear hg_ hnew_;(first|rw [← b6.out] at a8|(simp only [Int.reduceToNat] at a8;rw [← b6.out] at a8));have d5:=am (Kd.R_lower a8 (Ae (upW HB)));replace HB:=wb HB hb;clear hb a8)));(try simp only [Act.put,List.setIfInBounds_toArray,List.set_cons_succ,List.set_cons_zero]);(go_loopg [5,11] k (fun kq v5 v11 w'=>∃ (a7:List ByteArray) (a1:Int),v11=.int .i64 a1∧Ab (C4.l0 kq a0 a7 l1 (l1.length:Int) a1=some r)∧Ab (kq≤k)∧Ab (Kd.R Kd.string 9 w' w.heap.size (fun _=>True) v5 a7)∧Ab (Below w.heap.size w w')));(case atStart=>exact ⟨(d2),(0),(eqw),H',⟨Nat.le_refl _⟩,⟨upR d5⟩,⟨upW HB⟩⟩)
 case round =>
  clear H';obtain ⟨a7,a1,rfl,HA,b5,a6,HB⟩:=hrel
  cases gk with
  | zero=>exact absurd HA.out (by simp [C4.l0])
  | succ k1 =>
   have H:=HA.out;clear HA;simp only [C4.l0] at H;(by_cases c5:a1<(l1.length:Int))
   ·rw [if_pos c5] at H;have c5b0:=decide_eq_true c5;clear c5;obtain ⟨c6,H⟩:=ip H;have c6b0:=decide_eq_true c6;clear c6;obtain ⟨c7,H⟩:=ip H;have c7b0:=decide_eq_true c7;clear c7;obtain ⟨b0,A8,H⟩:=bnd H;(try dsimp only at H);obtain ⟨c9,H⟩:=ip H;have d8:=am c9;clear c9;obtain ⟨d3,b2⟩:∃ y_:List ByteArray,y_=(a7++[b0]):=⟨_,rfl⟩;(replace H:(C4.l0 k1 a0 d3 l1 (l1.length:Int) (wrap64 (a1+1)))=some r:=rwH b2 H);have d9:=am b2;clear b2;have H':=am H;clear H;have b3:0≤(a1:Int):=oda;have b4:a1<(l1.length:Int):=oda;obtain ⟨f6,f0,b9⟩:=Kd.at_int d7.out a1 b3 b4;cases f0;replace b9:=cb HB b9;replace b3:=eq_true b3;replace b4:=eq_true b4;(go_wp2_with (first|((with_reducible refine Ad (f:=69) rfl ?_);refine cgo (some 17) Tryz.func69 (Gl.calls (rd l1 a1) b0 _ A8.out ?sideT) ?_;(case sideT=>exact ⟨vup hT_.out (upW HB)⟩);rintro e g0 ⟨rfl,hb⟩;refine ⟨_,rfl,?_⟩;replace a6:=rb a6 hb;replace HB:=wb HB hb;(try clear hb))|((with_reducible refine Cx (b:=.append) (xs := #[.tmp 15,.tmp 18]) rfl ?_);at_builtin;refine Kd.R_append Kd.string (w0:=w) w.heap.size rfl (.tmp 15) (.tmp 18) 50 9 (.string ⟨#[]⟩) 16 rfl Tryz.underlying50 info9 rfl zd oz u5 a7 b0 [.string b0] (fun _=>True) (fun _=>False) rfl rfl ?aP (fun _ hk=>hk.elim) ?aF ?aO ?aB ?aS ?aL ?_;(case aP=>exact rfl);(case aB=>exact (upW HB));(case aF=>exact (fun _ _=>trivial));(case aO=>exact (upR a6));(case aS=>exact (Ae (upW HB)));(case aL=>have:=d8.out;omega);intro f9 g1 ho hb hg hat;rw [← d9.out] at ho;have c0:=am (hb);have d0:=am (ho);clear HB;clear a6;have HB:=c0;have d6:=d0;clear c0 d0;clear ho hb hg hat)));go_roundg k1;(case measure=>have:=b5.out;omega);(case rel=>exact ⟨(d3),(wrap64 (a1+1)),(eqw),H',⟨by have:=b5.out;omega⟩,⟨upR d6⟩,⟨upW HB⟩⟩)
   ·rw [if_neg c5] at H;have c5b0:=decide_eq_false c5;clear c5;obtain ⟨d1,d4,H⟩:=bnd H;replace H:(some d1)=some r:=H;obtain rfl:=Option.some.inj H;obtain ⟨f4,f7,f1⟩:=Kd.R_slice a6.out;subst f1;(go_wp2_with (first|((with_reducible refine Ad (f:=92) rfl ?_);refine cgo (some 23) Tryz.func92 (strings_Join.calls _ _ a7 a0 d1 _ ?f2 ?f3 d4.out) ?_;(case f2=>exact upC (Kd.R_reads' a6.out).2.2);(case f3=>exact (Kd.R_reads' a6.out).2.1);rintro e g2 ⟨rfl,hb⟩;refine ⟨_,rfl,?_⟩;replace a6:=rb a6 hb;replace HB:=wb HB hb;(try clear hb))));go_ret;exact ⟨eqv,upW HB⟩

/-! ### Da: function 31 -/
def Da.l0:Nat→ByteArray→List (List Int)→Int→Int→Option (ByteArray)
 | 0,_,_,_,_=>none
 | k+1,x3,x6,x7,x8=>if x8<x7 then (if 0≤x8 then (if x8<(x6.length:Int) then ((C4.f k (⟨#[44]⟩:ByteArray) (Bc x6 x8)).bind fun a1=>(if 1+a1.size≤9223372036854775807 then (if ((⟨#[40]⟩:ByteArray)++a1).size+1≤9223372036854775807 then (if x3.size+(((⟨#[40]⟩:ByteArray)++a1)++(⟨#[41]⟩:ByteArray)).size≤9223372036854775807 then (Da.l0 k (x3++(((⟨#[40]⟩:ByteArray)++a1)++(⟨#[41]⟩:ByteArray))) x6 x7 (wrap64 (x8+1))) else (none)) else (none)) else (none))) else (none)) else (none)) else (some x3)
def Da.f (k:Nat) (l0:List (List Int)):Option (ByteArray):=Da.l0 k (⟨#[]⟩:ByteArray) l0 (l0.length:Int) 0
theorem Da.calls (k:Nat) (A0:Option Addr) (c0:Nat) (l0:List (List Int)) (r:ByteArray) (w:World) (b7:Kd.C (Kd.slice 3 (Kd.int .i64)) w A0 l0.length l0) (b4:l0.length≤c0) (h:Da.f k l0=some r) (hT_:Ab (VT w)) :
  Calls Tryz.prog 31 #[.slice A0 l0.length c0] w fun e w'=>e=.returned (.string r)∧Below w.heap.size w w':=by
 have c1:=am b7;have d5:=am b4;clear b7 b4;have HB:=am (Below.refl w.heap.size w);have H:=h;clear h;unfold Da.f at H;have H':=am H;clear H;go_enter Tryz.func31,Tryz.ntmps31;go_wp2;(go_loopg [3,8] k (fun kq v3 v8 w'=>∃ (a7:ByteArray) (a1:Int),v3=.string a7∧v8=.int .i64 a1∧Ab (Da.l0 kq a7 l0 (l0.length:Int) a1=some r)∧Ab (kq≤k)∧Ab (Below w.heap.size w w')));(case atStart=>exact ⟨((⟨#[]⟩:ByteArray)),(0),(eqw),(eqw),H',⟨Nat.le_refl _⟩,⟨upW HB⟩⟩)
 case round =>
  clear H';obtain ⟨a7,a1,rfl,rfl,HA,b1,HB⟩:=hrel
  cases gk with
  | zero=>exact absurd HA.out (by simp [Da.l0])
  | succ k1 =>
   have H:=HA.out;clear HA;simp only [Da.l0] at H;(by_cases c2:a1<(l0.length:Int))
   ·rw [if_pos c2] at H;have c2b0:=decide_eq_true c2;clear c2;obtain ⟨c3,H⟩:=ip H;have c3b0:=decide_eq_true c3;clear c3;obtain ⟨c4,H⟩:=ip H;have c4b0:=decide_eq_true c4;clear c4;obtain ⟨a6,A5,H⟩:=bnd H;(try dsimp only at H);obtain ⟨c6,H⟩:=ip H;have c6b0:=eq_true c6;have c6b1:=decide_eq_true c6;(try have c6b2:(9223372036854775807<1+a6.size)=False:=eq_false (Nat.not_lt.2 c6));obtain ⟨c7,H⟩:=ip H;have c7b0:=eq_true c7;have c7b1:=decide_eq_true c7;(try have c7b2:(9223372036854775807<((⟨#[40]⟩:ByteArray)++a6).size+1)=False:=eq_false (Nat.not_lt.2 c7));(try (have b2:=c7;simp only [ByteArray.size_append] at b2;have d8:(9223372036854775807<1+a6.size+1)=False:=eq_false (Nat.not_lt.2 (by exact b2))));obtain ⟨c8,H⟩:=ip H;have c8b0:=eq_true c8;have c8b1:=decide_eq_true c8;(try have c8b2:(9223372036854775807<a7.size+(((⟨#[40]⟩:ByteArray)++a6)++(⟨#[41]⟩:ByteArray)).size)=False:=eq_false (Nat.not_lt.2 c8));(try (have b3:=c8;simp only [ByteArray.size_append] at b3;have d9:(9223372036854775807<a7.size+(1+a6.size+1))=False:=eq_false (Nat.not_lt.2 (by exact b3))));have H':=am H;clear H;have a8:0≤(a1:Int):=oda;have b0:a1<(l0.length:Int):=oda;obtain ⟨d6,d4,d7,d1,b8,b6,b5⟩:=E4 c1.out a1 a8 b0;cases d1;replace b8:=cb HB b8;have d0:=am b5;have b9:=am b6;clear b5 b6;replace a8:=eq_true a8;replace b0:=eq_true b0;(go_wp2_with (first|((with_reducible refine Ad (f:=63) rfl ?_);refine cgo (some 14) Tryz.func63 (C4.calls k1 (⟨#[44]⟩:ByteArray) _ _ (Bc l0 a1) a6 _ ?d2 ?d3 A5.out ?sideT) ?_;(case sideT=>exact ⟨vup hT_.out (upW HB)⟩);(case d2=>exact upC (Kd.C_below d0.out HB.out));(case d3=>exact b9.out);rintro e w9 ⟨rfl,hb⟩;refine ⟨_,rfl,?_⟩;replace HB:=wb HB hb;(try clear hb))));go_roundg k1;(case measure=>have:=b1.out;omega);(case rel=>exact ⟨(a7++(((⟨#[40]⟩:ByteArray)++a6)++(⟨#[41]⟩:ByteArray))),(wrap64 (a1+1)),(eqw),(eqw),H',⟨by have:=b1.out;omega⟩,⟨upW HB⟩⟩)
   ·rw [if_neg c2] at H;have c2b0:=decide_eq_false c2;clear c2;obtain rfl:=Option.some.inj H;go_wp2;go_ret;exact ⟨eqv,upW HB⟩

end Go.Proofs.YtgeahghdikdamaaGreatDoor.PFnCodesTurnedOfAll
