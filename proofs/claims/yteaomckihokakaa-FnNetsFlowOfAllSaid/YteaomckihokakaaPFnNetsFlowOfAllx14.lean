-- made for this claim by a program of this session
import Derived.Test.YteaomckihokakaaPFnNetsFlowOfAllx0
import Derived.Test.YteaomckihokakaaPFnNetsFlowOfAllx2
import Derived.Test.YteaomckihokakaaPFnNetsFlowOfAllx12
import Derived.Test.YteaomckihokakaaPFnNetsFlowOfAllx13
namespace Go.Proofs.Yteaomckihokakaa.PFnNetsFlowOfAll
open Go.RowKit Go.Proofs.YteaomckihokakaaW.PrintWords Go.Proofs.YteaomckihokakaaW.PrintLast Go.Proofs.YteaomckihokakaaW.PrintMore
attribute [local go_sem] C6 C7 Dn Do Cv Cw C8 C9 -- for this text's walks alone
set_option linter.unusedVariables false
set_option linter.unusedSimpArgs false

/-! ### Ar: function 31 -/
mutual
def Ar.l0:Nat→(Int→Option Int)→Nat→Int→Int→List S47→List Int→Option (Bool×Bool)
 | 0,_,_,_,_,_,_=>none
 | k+1,m,q,i,n,ws,cs=>if i<n then Ar.l1 k m q 0 i n ws cs else some (true,true)
def Ar.l1:Nat→(Int→Option Int)→Nat→Int→Int→Int→List S47→List Int→Option (Bool×Bool)
 | 0,_,_,_,_,_,_,_=>none
 | k+1,m,q,j,i,n,ws,cs=>if j<(ws.length:Int) then (if 0≤j∧j<(cs.length:Int)∧q<1000000∧(Lit.int .i64 (An ws j).f0).wf=true∧(Lit.int .i64 (An ws j).f1).wf=true then
  (if (m (An ws j).f0).isSome=true then (if (m (An ws j).f1).isSome=true then (if wrap64 ((m (An ws j).f0).getD 0-(m (An ws j).f1).getD 0)=rd cs j then Ar.l1 k (Ik m (An ws j).f1 (wrap64 ((m (An ws j).f0).getD 0-rd cs j))) (q+1) (wrap64 (j+1)) i n ws cs else some (false,true))
    else Ar.l1 k (Ik m (An ws j).f1 (wrap64 ((m (An ws j).f0).getD 0-rd cs j))) (q+1) (wrap64 (j+1)) i n ws cs)
   else (if (m (An ws j).f1).isSome=true then Ar.l1 k (Ik m (An ws j).f0 (wrap64 ((m (An ws j).f1).getD 0+rd cs j))) (q+1) (wrap64 (j+1)) i n ws cs else Ar.l1 k m q (wrap64 (j+1)) i n ws cs)) else none) else Ar.l0 k m q (wrap64 (i+1)) n ws cs
end
def Ar.f (k:Nat) (a0_0:Int) (l0_1:List S47) (l1:List Int):Option (Bool×Bool):=(C2.f k a0_0 l0_1 l1).bind fun t=>if t=true then Ar.l0 k (Ik (fun _=>none) 0 0) 1 0 a0_0 l0_1 l1 else some (false,false)
theorem Ar.zero (w:World):(zeroValue 3).run Try.prog w=.ok (.int .i64 0) w:=by kernel_rfl
def Ar.T14:Bool×List (List Nat×List Nat):=(true,[([],[]),([],[]),([1],[1]),([],[]),([],[]),([],[]),([4,5],[4,5]),([6],[6]),([3,7],[3,7]),([0,2,8,0,1,2,3,4,5,6,7,8],[0,2,8])])
def Ar.B14:List Nat:=[0,0,2,0,0,0,48,112,248,511]
theorem Ar.tab14:Cy .any (Dx Try.f31 14)=Ar.T14:=by kernel_rfl
theorem Ar.bits14:Cq Ar.T14.2 Ar.B14=true:=by kernel_rfl
def Ar.T16:Bool×List (List Nat×List Nat):=(true,[([],[]),([],[]),([1],[1]),([],[]),([],[]),([],[]),([4,5],[4,5]),([6],[6]),([3,7],[3,7]),([0,2,8,0,1,2,3,4,5,6,7,8],[0,2,8])])
def Ar.B16:List Nat:=[0,0,2,0,0,0,48,112,248,511]
theorem Ar.tab16:Cy .any (Dx Try.f31 16)=Ar.T16:=by kernel_rfl
theorem Ar.bits16:Cq Ar.T16.2 Ar.B16=true:=by kernel_rfl
set_option maxHeartbeats 8000000 in
set_option maxRecDepth 100000 in
theorem Ar.calls (k:Nat) (a0_0:Int) (A0_1:Option Addr) (c0_1:Nat) (l0_1:List (S47)) (A1:Option Addr) (c1:Nat) (l1:List Int) (r1:Bool) (r2:Bool) (w:World) (hr0_1:Kd.C k47 w A0_1 l0_1.length l0_1) (hc0_1:l0_1.length≤c0_1) (hr1:Kd.C (Kd.int .i64) w A1 l1.length l1) (hc1:l1.length≤c1) (h:Ar.f k a0_0 l0_1 l1=some (r1,r2)) :
 Calls Try.prog 31 #[.agg #[.int .i64 a0_0,.slice A0_1 l0_1.length c0_1],.slice A1 l1.length c1] w fun e w'=>e=.returned (.tuple #[.bool r1,.bool r2])∧Below w.heap.size w w':=by
 have hu31:=Try.underlying36;have hu64:=Try.underlying47;have HR0_1:=am hr0_1;have HC0_1:=am hc0_1;clear hr0_1 hc0_1;have HR1:=am hr1;have HC1:=am hc1;clear hr1 hc1;have HB:=am (Below.refl w.heap.size w);unfold Ar.f at h;obtain ⟨t,A30,H⟩:=Option.bind_eq_some_iff.mp h;clear h;have A3:=am A30;clear A30;(by_cases c4:t=true)
 ·subst c4;rw [if_pos rfl] at H;have H':=am H;clear H;go_enter Try.func31,Try.ntmps31
  go_wp2_with (first
   | ((with_reducible refine Ak (N:=2) rfl ?_);refine Bd 2 (#[.int .i64 a0_0,.slice A0_1 l0_1.length c0_1]) 36 ?_;intro gb1 hg w1 hbox hb;have n0_:=wb HB hb;have n1_:=am hbox;have GE1:=am (gz hg HB);clear HB;have HB:=n0_;have BK1:=n1_;clear n0_ n1_;clear hb hbox hg;obtain ⟨hcz8_0,hcz8_1,hfz8_0,hfz8_1⟩:=cy2 BK1)
   | ((with_reducible refine Ai (f:=88) rfl ?_);refine cgo (some 15) Try.func88 (C2.calls k a0_0 _ _ l0_1 _ _ l1 true _ ?side1 ?side2 ?side3 ?side4 A3.out) ?_;(case side1=>exact upC (Kd.C_below HR0_1.out HB.out));(case side2=>exact HC0_1.out);(case side3=>exact upC (Kd.C_below HR1.out HB.out));(case side4=>exact HC1.out);rintro e w2 ⟨rfl,hb⟩;refine ⟨_,rfl,?_⟩;replace BK1:=kb BK1 hb;replace HB:=wb HB hb;(try clear hb);obtain ⟨hcz10_0,hcz10_1,hfz10_0,hfz10_1⟩:=cy2 BK1)
   | ((with_reducible refine R7 (t:=90) rfl ?_);refine imake rfl (N:=17) rfl 3 3 90 rfl ?_;intro gm hg w3 om hom HM0 hb;have n0_:=kb BK1 hb;have n1_:=wb HB hb;have GM:=am ((by rw [hg];exact (Au (upW HB)):w.heap.size≤gm));have NE:=am ((by rw [hg];exact Nat.ne_of_lt (Be (upK BK1)):gb1≠gm));clear BK1;clear HB;have BK1:=n0_;have HB:=n1_;clear n0_ n1_;clear hb hg;have HM:=am HM0;clear HM0;have BM:=am hom;clear hom)
   | ((with_reducible refine Ux (t:=90) rfl ?_);refine iinsert rfl _ _ _ 90 rfl rfl Try.underlying3 Try.underlying90 Try.underlying3 (upK BM) HM.out (by unfold maxLen;omega) rfl 0 rfl rfl 0 rfl rfl ?_;intro w4 ob4 hb4 hm4 hg4;have n0_:=am (Bh (upK BK1) hg4 (by intro e_;injection e_ with e_;exact NE.out e_));have n1_:=am (Below.grown HB.out hg4 HB.out.size (fun j hj=>by cases hj;exact GM.out));clear BK1;clear HB;clear BM;clear HM;have BK1:=n0_;have HB:=n1_;clear n0_ n1_;have HM:=am hm4;have BM:=am hb4;clear hm4 hb4 hg4;have hcz11_0:=bc BK1 0 (.int .i64 a0_0);have hfz11_0:=Ci BK1.out 0))
  (go_loopg [21] k (fun kq v21 w'=>∃ (m:Int→Option Int) (q:Nat) (om:Obj) (i:Int),v21=.int .i64 i∧Aa (Ar.l0 kq m q i a0_0 l0_1 l1=some (r1,r2))∧Aa (kq≤k)∧Aa (w'.heap[gm]? = some om)∧Aa (IMo Try.prog 3 3 gm om q m)∧Aa (w'.heap[gb1]? = some (.cells #[.int .i64 a0_0,(.slice A0_1 l0_1.length c0_1)] 36 (0,0)))∧Aa (Below w.heap.size w w')));(case atStart=>exact ⟨_,_,_,0,(eqw),H',⟨Nat.le_refl _⟩,⟨upK BM⟩,⟨HM.out⟩,⟨upK BK1⟩,⟨upW HB⟩⟩)
  case round =>
   clear H' hcz8_0 hcz8_1 hfz8_0 hfz8_1 hcz10_0 hcz10_1 hfz10_0 hfz10_1 hcz11_0 hfz11_0;obtain ⟨m,q,om1,i,rfl,HA,HK1,BM,HM,BK1,HB⟩:=hrel
   cases gk with
   | zero=>exact absurd HA.out (by simp [Ar.l0])
   | succ k1 =>
    have H:=HA.out;clear HA;simp only [Ar.l0] at H;obtain ⟨hcz22_0,hcz22_1,hfz22_0,hfz22_1⟩:=cy2 BK1;(by_cases c1:i<a0_0)
    ·rw [if_pos c1] at H;have c1b0:=decide_eq_true c1;clear c1;have H':=am H;clear H;go_wp2;(go_loopg [26] k1 (fun kq v26 w'=>∃ (m:Int→Option Int) (q:Nat) (om:Obj) (j:Int),v26=.int .i64 j∧Aa (Ar.l1 kq m q j i a0_0 l0_1 l1=some (r1,r2))∧Aa (kq≤k1)∧Aa (w'.heap[gm]? = some om)∧Aa (IMo Try.prog 3 3 gm om q m)∧Aa (w'.heap[gb1]? = some (.cells #[.int .i64 a0_0,(.slice A0_1 l0_1.length c0_1)] 36 (0,0)))∧Aa (Below w.heap.size w w')));(case atStart=>exact ⟨_,_,_,0,(eqw),H',⟨Nat.le_refl _⟩,⟨upK BM⟩,⟨HM.out⟩,⟨upK BK1⟩,⟨upW HB⟩⟩)
     case round =>
      clear H' hcz22_0 hcz22_1 hfz22_0 hfz22_1 c1b0 BM HM BK1 HB;obtain ⟨m2,q2,om2,j,rfl,HA,HK2,BM,HM,BK1,HB⟩:=hrel
      cases gk with
      | zero=>exact absurd HA.out (by simp [Ar.l1])
      | succ k2 =>
       have H:=HA.out;clear HA;simp only [Ar.l1] at H;(by_cases c2:j<(l0_1.length:Int))
       ·rw [if_pos c2] at H;have c2b0:=decide_eq_true c2;obtain ⟨c3,H⟩:=ip H;obtain ⟨d1,d2,d3,d4,d5⟩:=c3;have HD:=am H;clear H;have p140:0≤(j:Int):=d1;have q140:j<(l0_1.length:Int):=c2;obtain ⟨ad140,e140,hx140_0,hx140_1⟩:=Eh HR0_1.out j p140 q140;cases e140;replace hx140_0:=cb HB hx140_0;replace hx140_1:=cb HB hx140_1;replace p140:=eq_true p140;replace q140:=eq_true q140;generalize hf0:(An l0_1 j).f0=f0 at hx140_0 HD d4;generalize hf1:(An l0_1 j).f1=f1 at hx140_1 HD d5;obtain ⟨va,hva⟩:∃ v,(m2 f0).getD 0=v:=⟨_,rfl⟩;obtain ⟨sa,hsa⟩:∃ s,(m2 f0).isSome=s:=⟨_,rfl⟩;obtain ⟨vb,hvb⟩:∃ v,(m2 f1).getD 0=v:=⟨_,rfl⟩;obtain ⟨sb,hsb⟩:∃ s,(m2 f1).isSome=s:=⟨_,rfl⟩;rw [hva,hsa,hvb,hsb] at HD;have c2':=c2;clear c2
        go_upto_region 11 with (first
         | ((with_reducible refine Ak (N:=8) rfl ?_);refine Bd 8 (#[.int .i64 0,.int .i64 0]) 47 ?_;intro gb8 hg w8 hbox hb;have n0_:=am (Dp (upK BM) hb);have n2_:=kb BK1 hb;have n3_:=wb HB hb;have BK8:=am hbox;have GE8:=am (gz hg HB);have NB1:=am (gn hg BK1);have NBM:=am (gn hg BM);clear BM;clear BK1;clear HB;have BM:=n0_;have BK1:=n2_;have HB:=n3_;clear n0_ n2_ n3_;clear hb hbox hg;obtain ⟨hcz29_0,hcz29_1,hfz29_0,hfz29_1⟩:=cy2 BK8)
         | (at_lookup;refine ilook (b:=gm) (m:=m2) rfl _ _ 90 rfl Try.underlying3 Try.underlying90 Try.underlying3 (Ar.zero _) ?hb HM.out rfl f0 rfl d4 va sa hva hsa ?_;(case hb=>exact Is (Is BM.out NBM.out _) NBM.out _))
         | (at_lookup;refine ilook (b:=gm) (m:=m2) rfl _ _ 90 rfl Try.underlying3 Try.underlying90 Try.underlying3 (Ar.zero _) ?hb HM.out rfl f1 rfl d5 vb sb hvb hsb ?_;(case hb=>exact Is (Is BM.out NBM.out _) NBM.out _)))
        have n0_:Aa (((w8.setCell ⟨gb8,0,none⟩ (.int .i64 f0)).setCell ⟨gb8,1,none⟩ (.int .i64 f1)).heap[gm]? = some om2):=⟨Is (Is BM.out NBM.out _) NBM.out _⟩;have n1_:Aa (((w8.setCell ⟨gb8,0,none⟩ (.int .i64 f0)).setCell ⟨gb8,1,none⟩ (.int .i64 f1)).heap[gb1]? = some (.cells #[.int .i64 a0_0,.slice (some ad140) l0_1.length c0_1] 36 (0,0))):=⟨Is (Is BK1.out NB1.out _) NB1.out _⟩;have n2_:Aa (((w8.setCell ⟨gb8,0,none⟩ (.int .i64 f0)).setCell ⟨gb8,1,none⟩ (.int .i64 f1)).heap[gb8]? = some (.cells #[.int .i64 f0,.int .i64 f1] 47 (0,0))):=⟨Bv (cs := #[.int .i64 f0,.int .i64 0]) (Bv (cs := #[.int .i64 0,.int .i64 0]) BK8.out 0 _ rfl) 1 _ rfl⟩;have n3_:Aa (Below w.heap.size w ((w8.setCell ⟨gb8,0,none⟩ (.int .i64 f0)).setCell ⟨gb8,1,none⟩ (.int .i64 f1))):=⟨upW HB⟩;clear BM BK1 BK8 HB hcz29_0 hcz29_1 hfz29_0 hfz29_1 hx140_0 hx140_1;generalize ((w8.setCell ⟨gb8,0,none⟩ (.int .i64 f0)).setCell ⟨gb8,1,none⟩ (.int .i64 f1))=w9 at n0_ n1_ n2_ n3_ ⊢;have BM:=n0_;have BK1:=n1_;have BK8:=n2_;have HB:=n3_;clear n0_ n1_ n2_ n3_;obtain ⟨hcz29_0,hcz29_1,hfz29_0,hfz29_1⟩:=cy2 BK8;have p146:0≤(j:Int):=d1;have q146:j<(l1.length:Int):=d2;obtain ⟨ad146,e146,hx146_0⟩:=Kd.at_int HR1.out j p146 q146;cases e146;replace hx146_0:=cb HB hx146_0;replace p146:=eq_true p146;replace q146:=eq_true q146
        cases sa with
        | true =>
         cases sb with
         | true =>
          (by_cases ceq:wrap64 (va-vb)=rd l1 j)
          ·replace HD:Aa (Ar.l1 k2 (Ik m2 f1 (wrap64 (va-rd l1 j))) (q2+1) (wrap64 (j+1)) i a0_0 l0_1 l1=some (r1,r2)):=⟨by have h:=HD.out;rw [if_pos rfl,if_pos rfl,if_pos ceq] at h;exact h⟩;(have cb0:(wrap64 (va-vb) != rd l1 j)=false:=by simpa using ceq);have cb1:decide (wrap64 (va-vb)=rd l1 j)=true:=decide_eq_true ceq;clear hcz29_0 hcz29_1 hfz29_0 hfz29_1;go_wp2;have BM2:=am (Ab BM.out);have BK12:=am (Ab BK1.out);have HB2:=am (Bg HB.out);refine Cu (n:=10) (S:=fun w'=>w'.cell? ⟨gb8,0,none⟩=some (.int .i64 f0)∧w'.cell? ⟨gb8,1,none⟩=some (.int .i64 f1)∧w'.cell? (ad146.add j.toNat)=some (.int .i64 (rd l1 j))) (ds:=[9]) (bs 10 0) (by kernel_rfl) rfl rfl ⟨(Ac BK8.out 0).trans rfl,(Ac BK8.out 1).trans rfl,hx146_0⟩ (fun hHeld=>?_);(refine Ca Ar.tab14 Ar.bits14 (fun HT_ HW_=>?_));generalize w9.drew=w10 at BM2 BK12 HB2 hHeld ⊢;obtain ⟨w11,ob11,hrun11,hb11,hm11,hg11⟩:=iput (k:=3) (e:=3) (P:=Try.prog) Try.underlying3 Try.underlying90 Try.underlying3 BM2.out HM.out (by unfold maxLen;omega) (key:=f1) (v:=wrap64 (va-rd l1 j)) d5 (wrap64_wf _);refine pG 0 (some 62) (bs 10 1) HT_ ?_;refine pG 1 (some 63) (bs 10 3) HT_ ?_;refine pG 3 (some 65) (bs 10 11) HT_ ?_;refine pG 4 (some 66) (bs 10 27) HT_ ?_;refine pG 5 (some 67) (bs 10 59) HT_ ?_;refine pG 6 (some 68) (bs 10 123) HT_ ?_;refine tG (v:=?_) 2 (some 64) (bs 10 127) HT_ HW_ hHeld ?_ ?_;rotate_left
           ·rintro w' ⟨s0,s1,s2⟩;(go_simp);with_reducible rfl
           refine tG (v:=?_) 7 (some 69) (bs 10 255) HT_ HW_ hHeld ?_ ?_;rotate_left
           ·rintro w' ⟨s0,s1,s2⟩;(go_simp);with_reducible rfl
           refine pG 8 (some 70) (bs 10 511) HT_ ?_;refine D6 (i:=9) (N:=none) (bs 10 1023) rfl rfl (B4 HT_.out (by kernel_rfl)) (by decide) (fun K hK=>?_);refine Ef (w1:=w11) (by rfl) rfl ?_ ?_
           ·(go_simp)
           refine hK.out _ _ ?_;clear hK K;refine Df (Cm HT_.out (by kernel_rfl)) ?_;(try go_wp2);have n0_:=am (Bh BK12.out hg11 (by intro e_;injection e_ with e_;exact NE.out e_));have n1_:=am (Below.grown HB2.out hg11 HB2.out.size (fun j hj=>by cases hj;exact GM.out));go_roundg k2;(case measure=>exact Nat.lt_succ_self _);(case rel=>exact ⟨_,_,ob11,wrap64 (j+1),(eqw),HD,⟨by have:=HK2.out;omega⟩,⟨upK ⟨hb11⟩⟩,⟨hm11⟩,⟨upK n0_⟩,⟨upW n1_⟩⟩)
          ·have H:=HD.out;rw [if_pos rfl,if_pos rfl,if_neg ceq] at H;(have cb0:(wrap64 (va-vb) != rd l1 j)=true:=by simpa using ceq);have cb1:decide (wrap64 (va-vb)=rd l1 j)=false:=decide_eq_false ceq;simp only [Option.some.injEq,Prod.mk.injEq] at H;obtain ⟨rfl,rfl⟩:=H;go_wp2;(go_ret2);exact ⟨by first|rfl|(simp [*] <;> rfl),upW HB⟩
         | false =>
          replace HD:Aa (Ar.l1 k2 (Ik m2 f1 (wrap64 (va-rd l1 j))) (q2+1) (wrap64 (j+1)) i a0_0 l0_1 l1=some (r1,r2)):=⟨by have h:=HD.out;rw [if_pos rfl,if_neg (by decide)] at h;exact h⟩;clear hcz29_0 hcz29_1 hfz29_0 hfz29_1;go_wp2;have BM2:=am (Ab BM.out);have BK12:=am (Ab BK1.out);have HB2:=am (Bg HB.out);refine Cu (n:=10) (S:=fun w'=>w'.cell? ⟨gb8,0,none⟩=some (.int .i64 f0)∧w'.cell? ⟨gb8,1,none⟩=some (.int .i64 f1)∧w'.cell? (ad146.add j.toNat)=some (.int .i64 (rd l1 j))) (ds:=[9]) (bs 10 0) (by kernel_rfl) rfl rfl ⟨(Ac BK8.out 0).trans rfl,(Ac BK8.out 1).trans rfl,hx146_0⟩ (fun hHeld=>?_);(refine Ca Ar.tab14 Ar.bits14 (fun HT_ HW_=>?_));generalize w9.drew=w10 at BM2 BK12 HB2 hHeld ⊢;obtain ⟨w11,ob11,hrun11,hb11,hm11,hg11⟩:=iput (k:=3) (e:=3) (P:=Try.prog) Try.underlying3 Try.underlying90 Try.underlying3 BM2.out HM.out (by unfold maxLen;omega) (key:=f1) (v:=wrap64 (va-rd l1 j)) d5 (wrap64_wf _);refine pG 0 (some 62) (bs 10 1) HT_ ?_;refine pG 1 (some 63) (bs 10 3) HT_ ?_;refine pG 3 (some 65) (bs 10 11) HT_ ?_;refine pG 4 (some 66) (bs 10 27) HT_ ?_;refine pG 5 (some 67) (bs 10 59) HT_ ?_;refine pG 6 (some 68) (bs 10 123) HT_ ?_;refine tG (v:=?_) 2 (some 64) (bs 10 127) HT_ HW_ hHeld ?_ ?_;rotate_left
          ·rintro w' ⟨s0,s1,s2⟩;(go_simp);with_reducible rfl
          refine tG (v:=?_) 7 (some 69) (bs 10 255) HT_ HW_ hHeld ?_ ?_;rotate_left
          ·rintro w' ⟨s0,s1,s2⟩;(go_simp);with_reducible rfl
          refine pG 8 (some 70) (bs 10 511) HT_ ?_;refine D6 (i:=9) (N:=none) (bs 10 1023) rfl rfl (B4 HT_.out (by kernel_rfl)) (by decide) (fun K hK=>?_);refine Ef (w1:=w11) (by rfl) rfl ?_ ?_
          ·(go_simp)
          refine hK.out _ _ ?_;clear hK K;refine Df (Cm HT_.out (by kernel_rfl)) ?_;(try go_wp2);have n0_:=am (Bh BK12.out hg11 (by intro e_;injection e_ with e_;exact NE.out e_));have n1_:=am (Below.grown HB2.out hg11 HB2.out.size (fun j hj=>by cases hj;exact GM.out));go_roundg k2;(case measure=>exact Nat.lt_succ_self _);(case rel=>exact ⟨_,_,ob11,wrap64 (j+1),(eqw),HD,⟨by have:=HK2.out;omega⟩,⟨upK ⟨hb11⟩⟩,⟨hm11⟩,⟨upK n0_⟩,⟨upW n1_⟩⟩)
        | false =>
         cases sb with
         | true =>
          replace HD:Aa (Ar.l1 k2 (Ik m2 f0 (wrap64 (vb+rd l1 j))) (q2+1) (wrap64 (j+1)) i a0_0 l0_1 l1=some (r1,r2)):=⟨by have h:=HD.out;rw [if_neg (by decide),if_pos rfl] at h;exact h⟩;clear hcz29_0 hcz29_1 hfz29_0 hfz29_1;go_wp2;have BM2:=am (Ab BM.out);have BK12:=am (Ab BK1.out);have HB2:=am (Bg HB.out);refine Cu (n:=10) (S:=fun w'=>w'.cell? ⟨gb8,0,none⟩=some (.int .i64 f0)∧w'.cell? ⟨gb8,1,none⟩=some (.int .i64 f1)∧w'.cell? (ad146.add j.toNat)=some (.int .i64 (rd l1 j))) (ds:=[9]) (bs 10 0) (by kernel_rfl) rfl rfl ⟨(Ac BK8.out 0).trans rfl,(Ac BK8.out 1).trans rfl,hx146_0⟩ (fun hHeld=>?_);(refine Ca Ar.tab16 Ar.bits16 (fun HT_ HW_=>?_));generalize w9.drew=w10 at BM2 BK12 HB2 hHeld ⊢;obtain ⟨w11,ob11,hrun11,hb11,hm11,hg11⟩:=iput (k:=3) (e:=3) (P:=Try.prog) Try.underlying3 Try.underlying90 Try.underlying3 BM2.out HM.out (by unfold maxLen;omega) (key:=f0) (v:=wrap64 (vb+rd l1 j)) d4 (wrap64_wf _);refine pG 0 (some 73) (bs 10 1) HT_ ?_;refine pG 1 (some 74) (bs 10 3) HT_ ?_;refine pG 3 (some 76) (bs 10 11) HT_ ?_;refine pG 4 (some 77) (bs 10 27) HT_ ?_;refine pG 5 (some 78) (bs 10 59) HT_ ?_;refine pG 6 (some 79) (bs 10 123) HT_ ?_;refine tG (v:=?_) 2 (some 75) (bs 10 127) HT_ HW_ hHeld ?_ ?_;rotate_left
          ·rintro w' ⟨s0,s1,s2⟩;(go_simp);with_reducible rfl
          refine tG (v:=?_) 7 (some 80) (bs 10 255) HT_ HW_ hHeld ?_ ?_;rotate_left
          ·rintro w' ⟨s0,s1,s2⟩;(go_simp);with_reducible rfl
          refine pG 8 (some 81) (bs 10 511) HT_ ?_;refine D6 (i:=9) (N:=none) (bs 10 1023) rfl rfl (B4 HT_.out (by kernel_rfl)) (by decide) (fun K hK=>?_);refine Ef (w1:=w11) (by rfl) rfl ?_ ?_
          ·(go_simp)
          refine hK.out _ _ ?_;clear hK K;refine Df (Cm HT_.out (by kernel_rfl)) ?_;(try go_wp2);have n0_:=am (Bh BK12.out hg11 (by intro e_;injection e_ with e_;exact NE.out e_));have n1_:=am (Below.grown HB2.out hg11 HB2.out.size (fun j hj=>by cases hj;exact GM.out));go_roundg k2;(case measure=>exact Nat.lt_succ_self _);(case rel=>exact ⟨_,_,ob11,wrap64 (j+1),(eqw),HD,⟨by have:=HK2.out;omega⟩,⟨upK ⟨hb11⟩⟩,⟨hm11⟩,⟨upK n0_⟩,⟨upW n1_⟩⟩)
         | false =>
          replace HD:Aa (Ar.l1 k2 m2 q2 (wrap64 (j+1)) i a0_0 l0_1 l1=some (r1,r2)):=⟨by have h:=HD.out;rw [if_neg (by decide),if_neg (by decide)] at h;exact h⟩;go_wp2;go_roundg k2;(case measure=>exact Nat.lt_succ_self _);(case rel=>exact ⟨_,_,om2,wrap64 (j+1),(eqw),HD,⟨by have:=HK2.out;omega⟩,⟨upK BM⟩,⟨HM.out⟩,⟨upK BK1⟩,⟨upW HB⟩⟩)
       ·rw [if_neg c2] at H;have c2b0:=decide_eq_false c2;have H':=am H;clear H;go_wp2;go_roundg k2;(case measure=>have:=HK2.out;omega);(case rel=>exact ⟨_,_,om2,wrap64 (i+1),(eqw),H',⟨by have:=HK1.out;have:=HK2.out;omega⟩,⟨upK BM⟩,⟨HM.out⟩,⟨upK BK1⟩,⟨upW HB⟩⟩)
    ·rw [if_neg c1] at H;have c1b0:=decide_eq_false c1;simp only [Option.some.injEq,Prod.mk.injEq] at H;obtain ⟨rfl,rfl⟩:=H;go_wp2;(go_ret2);exact ⟨by first|rfl|(simp [*] <;> rfl),upW HB⟩
 ·replace c4:=Bool.eq_false_iff.mpr c4;subst c4;rw [if_neg (by decide)] at H;simp only [Option.some.injEq,Prod.mk.injEq] at H;obtain ⟨rfl,rfl⟩:=H;go_enter Try.func31,Try.ntmps31
  go_wp2_with (first
   | ((with_reducible refine Ak (N:=2) rfl ?_);refine Bd 2 (#[.int .i64 a0_0,.slice A0_1 l0_1.length c0_1]) 36 ?_;intro gb1 hg w1 hbox hb;have n0_:=wb HB hb;have n1_:=am hbox;have GE1:=am (gz hg HB);clear HB;have HB:=n0_;have BK1:=n1_;clear n0_ n1_;clear hb hbox hg;obtain ⟨hcz8_0,hcz8_1,hfz8_0,hfz8_1⟩:=cy2 BK1)
   | ((with_reducible refine Ai (f:=88) rfl ?_);refine cgo (some 15) Try.func88 (C2.calls k a0_0 _ _ l0_1 _ _ l1 false _ ?side1 ?side2 ?side3 ?side4 A3.out) ?_;(case side1=>exact upC (Kd.C_below HR0_1.out HB.out));(case side2=>exact HC0_1.out);(case side3=>exact upC (Kd.C_below HR1.out HB.out));(case side4=>exact HC1.out);rintro e w2 ⟨rfl,hb⟩;refine ⟨_,rfl,?_⟩;replace BK1:=kb BK1 hb;replace HB:=wb HB hb;(try clear hb);obtain ⟨hcz10_0,hcz10_1,hfz10_0,hfz10_1⟩:=cy2 BK1))
  (go_ret2);exact ⟨by first|rfl|(simp [*] <;> rfl),upW HB⟩

/-! ### Dv: function 99 -/
def Dv.f (a0:Int):Option (Bool):=(Bo.f a0 1 500).bind fun t378=>(some t378)
set_option maxHeartbeats 8000000 in
set_option maxRecDepth 100000 in
theorem Dv.calls (a0:Int) (r:Bool) (w:World) (h:Dv.f a0=some r) :
  Calls Try.prog 99 #[.int .i64 a0] w fun e w'=>e=.returned (.bool r)∧Da w w':=by
 have H:=h;clear h;unfold Dv.f at H;obtain ⟨t378,A2,H⟩:=bnd H;replace H:(some t378)=some r:=H;obtain rfl:=Option.some.inj H;go_enter Try.func99,Try.ntmps99;(go_wp2_with (first|((with_reducible refine Ai (f:=64) rfl ?_);refine cgo (some 4) Try.func64 (Bo.calls a0 1 500 t378 _ A2.out) ?_;rintro e w' ⟨rfl,⟨nd,rfl⟩⟩;refine ⟨_,rfl,?_⟩)));go_ret;exact ⟨eqw,dz⟩

/-! ### Cx: function 100 -/
def Cx.f (a0_0:Int) (a0_1:Int) (a0_2:Int) (a1_0:Int) (a1_1:Int) (a1_2:Int):Option (Int):=if a0_1=a1_1 then (some (wrap64 (a0_0-a1_0))) else (some (wrap64 (a0_1-a1_1)))
set_option maxHeartbeats 8000000 in
set_option maxRecDepth 100000 in
theorem Cx.calls (a0_0:Int) (a0_1:Int) (a0_2:Int) (a1_0:Int) (a1_1:Int) (a1_2:Int) (r:Int) (w:World) (h:Cx.f a0_0 a0_1 a0_2 a1_0 a1_1 a1_2=some r) :
  Calls Try.prog 100 #[.agg #[.int .i64 a0_0,.int .i64 a0_1,.int .i64 a0_2],.agg #[.int .i64 a1_0,.int .i64 a1_1,.int .i64 a1_2]] w fun e w'=>e=.returned (.int .i64 r)∧Below w.heap.size w w':=by
 have hu61:=Try.underlying61;have HB:=am (Below.refl w.heap.size w);have H:=h;clear h;unfold Cx.f at H;(by_cases c3:a0_1=a1_1)
 ·rw [if_pos c3] at H;have c3b0:(a0_1==a1_1)=true:=beq_iff_eq.mpr c3;have c3b1:(a0_1 != a1_1)=false:=bne_eq_false_iff_eq.mpr c3;clear c3;obtain rfl:=Option.some.inj H;go_enter Try.func100,Try.ntmps100;(go_wp2_with (first|((with_reducible refine Ak (N:=2) rfl ?_);refine Bd 2 (#[.int .i64 a0_0,.int .i64 a0_1,.int .i64 a0_2]) 61 ?_;intro gb379 hg w4 hbox hb;have BK379:=am (hbox);have GW379:=am (gz hg HB);have GE379:=am (gz hg HB);replace HB:=wb HB hb;clear hb hbox hg)|((with_reducible refine Ak (N:=3) rfl ?_);refine Bd 3 (#[.int .i64 a1_0,.int .i64 a1_1,.int .i64 a1_2]) 61 ?_;intro gb380 hg w5 hbox hb;have BK380:=am (hbox);have GW380:=am (gz hg HB);have GE380:=am (gz hg HB);replace HB:=wb HB hb;have NB379_380:=am (gn hg BK379);have NB380_379:=am ((by rw [hg];exact Nat.ne_of_gt (Be (upK BK379)):gb380≠gb379));replace BK379:=kb BK379 hb;clear hb hbox hg;have hnb6:=NB379_380.out;have hnc6:=NB380_379.out;obtain ⟨hcz7_0,hcz7_1,hcz7_2,hfz7_0,hfz7_1,hfz7_2⟩:=cy3 BK379;obtain ⟨hcz8_0,hcz8_1,hcz8_2,hfz8_0,hfz8_1,hfz8_2⟩:=cy3 BK380)));go_ret;exact ⟨eqv,upW HB⟩
 ·rw [if_neg c3] at H;have c3b0:(a0_1==a1_1)=false:=beq_eq_false_iff_ne.mpr c3;have c3b1:(a0_1 != a1_1)=true:=bne_iff_ne.mpr c3;obtain rfl:=Option.some.inj H;go_enter Try.func100,Try.ntmps100;(go_wp2_with (first|((with_reducible refine Ak (N:=2) rfl ?_);refine Bd 2 (#[.int .i64 a0_0,.int .i64 a0_1,.int .i64 a0_2]) 61 ?_;intro gb379 hg w9 hbox hb;have BK379:=am (hbox);have GW379:=am (gz hg HB);have GE379:=am (gz hg HB);replace HB:=wb HB hb;clear hb hbox hg)|((with_reducible refine Ak (N:=3) rfl ?_);refine Bd 3 (#[.int .i64 a1_0,.int .i64 a1_1,.int .i64 a1_2]) 61 ?_;intro gb380 hg w10 hbox hb;have BK380:=am (hbox);have GW380:=am (gz hg HB);have GE380:=am (gz hg HB);replace HB:=wb HB hb;have NB379_380:=am (gn hg BK379);have NB380_379:=am ((by rw [hg];exact Nat.ne_of_gt (Be (upK BK379)):gb380≠gb379));replace BK379:=kb BK379 hb;clear hb hbox hg;have hnb11:=NB379_380.out;have hnc11:=NB380_379.out;obtain ⟨hcz12_0,hcz12_1,hcz12_2,hfz12_0,hfz12_1,hfz12_2⟩:=cy3 BK379;obtain ⟨hcz13_0,hcz13_1,hcz13_2,hfz13_0,hfz13_1,hfz13_2⟩:=cy3 BK380)));go_ret;exact ⟨eqv,upW HB⟩

/-! ### J6: function 144 -/
set_option maxHeartbeats 8000000 in
theorem J6.with (p:S61→Bool) (fv:Nat) (lb:Array Value) (A:Option Addr) (c:Nat) (l:List S61) (w:World) (hr:Kd.C k61 w A l.length l)
  (eg:∀ args w,(callFunc fv args).run Try.prog w=.ok (.enter fv args) w)
  (hp:∀ (W:World) (t:S61),t ∈ l→Below w.heap.size w W→Calls Try.prog fv (#[.agg #[.int .i64 t.f0,.int .i64 t.f1,.int .i64 t.f2]]++lb) W fun e w'=>e=.returned (.bool (p t))∧Below w.heap.size w w') :
  Calls Try.prog 144 #[.slice A l.length c,.func (.func fv) #[] lb] w fun e w'=>e=.returned (.int .i64 (pidx p l))∧Below w.heap.size w w':=by
 have hu61:=Try.underlying61;have hbig:l.length≤9223372036854775807:=hr.2.1;have HP:=Lib.hid hp;clear hp;go_enter Try.func144,Try.ntmps144;go_wp2;(go_loopg [5,8] l.length (fun gg _ s8 wr=>∃ kk:Nat,kk≤l.length∧l.length-kk≤gg∧s8=.int .i64 kk∧Aside (Below w.heap.size w wr)∧Aside (∀ j,j<kk→∀ b,l[j]? = some b→p b=false)));(case atStart=>exact ⟨0,Nat.zero_le _,by omega,rfl,Below.refl _ w,fun j hj=>absurd hj (Nat.not_lt_zero _)⟩)
 case round =>
  obtain ⟨kk,hkk,hg,rfl,BW,HA⟩:=hrel;(by_cases hlt:kk<l.length)
  ·(have hltz:(kk:Int)<(l.length:Int):=by omega);obtain ⟨ad,rfl,hx0,hx1,hx2⟩:=Gf hr (kk:Int) (by omega) hltz;replace hx0:=(BW.out.cell (World.block_lt_of_cell? w _ hx0)).trans hx0;replace hx1:=(BW.out.cell (World.block_lt_of_cell? w _ hx1)).trans hx1;replace hx2:=(BW.out.cell (World.block_lt_of_cell? w _ hx2)).trans hx2;(have hm:Aj l kk ∈ l:=by unfold Aj;simp [List.getD,hlt]);(have he:l[kk]? = some (Aj l kk):=by unfold Aj;simp [List.getD,hlt]);have hcall:=HP.out wr (Aj l kk) hm BW.out;generalize hy:Aj l kk=y at hx0 hx1 hx2 hcall he;have HE:=Lib.hid he;clear hy hm he;simp only [Int.toNat_natCast] at hx0 hx1 hx2
   cases hq:p y with
   | true =>
    rw [hq] at hcall;(have HQ:=Lib.hid hq;clear hq);(go_wp2_with (go_at_fn fv;refine hcall.mono ?_;rintro e w' ⟨rfl,hb'⟩));go_ret;refine ⟨?_,hb'⟩;(rw [R5 p l kk y HE.out HQ.out HA.out];rfl)
   | false =>
    rw [hq] at hcall;(have HQ:=Lib.hid hq;clear hq);(go_wp2_with (go_at_fn fv;refine hcall.mono ?_;rintro e w' ⟨rfl,hb'⟩));go_roundg (l.length-(kk+1));(case measure=>omega)
    case rel =>
     refine ⟨kk+1,by omega,by omega,by go_num,hb',(show Aside _ from fun j hj b hb=>?_)⟩;(by_cases e:j=kk)
     ·subst e;(rw [HE.out] at hb;obtain rfl:=Option.some.inj hb;exact HQ.out)
     ·exact HA.out j (by omega) b hb
  ·(have hltz:¬ (kk:Int)<(l.length:Int):=by omega);(have:kk=l.length:=by omega);subst this;go_wp2;go_ret;refine ⟨?_,BW.out⟩;(rw [Rd p l HA.out];rfl)

/-! ### J7: function 101 -/
set_option maxHeartbeats 8000000 in
theorem J7.with (p:S61→Bool) (fv:Nat) (lb:Array Value) (A:Option Addr) (c:Nat) (l:List S61) (w:World) (hr:Kd.C k61 w A l.length l)
  (eg:∀ args w,(callFunc fv args).run Try.prog w=.ok (.enter fv args) w)
  (hp:∀ (W:World) (t:S61),t ∈ l→Below w.heap.size w W→Calls Try.prog fv (#[.agg #[.int .i64 t.f0,.int .i64 t.f1,.int .i64 t.f2]]++lb) W fun e w'=>e=.returned (.bool (p t))∧Below w.heap.size w w') :
  Calls Try.prog 101 #[.slice A l.length c,.func (.func fv) #[] lb] w fun e w'=>e=.returned (.bool (l.any p))∧Below w.heap.size w w':=by
 have HP:=Lib.hid hp;clear hp;have e0:decide (0≤pidx p l)=l.any p:=R6 p l;generalize l.any p=b at e0 ⊢;have HE:=Lib.hid e0;clear e0;go_enter Try.func101,Try.ntmps101;(go_wp2_with (go_at_call 144;refine (J6.with p fv lb A c l _ hr eg HP.out).mono ?_;rintro e w' ⟨rfl,hb'⟩));go_ret;exact ⟨by rw [← HE.out];rfl,hb'⟩

/-! ### Dt: function 103 -/
def Dt.f (a0_0:Int) (a0_1:Int) (a0_2:Int) (a1_0:Int) (a1_1:Int) (a1_2:Int):Option (Bool):=if a0_0<(wrap64 (a1_0+a1_2)) then (if a1_0<(wrap64 (a0_0+a0_2)) then (if a0_1<(wrap64 (a1_1+a1_2)) then (some (decide (a1_1<(wrap64 (a0_1+a0_2))))) else (some false)) else (some false)) else (some false)
set_option maxHeartbeats 8000000 in
set_option maxRecDepth 100000 in
theorem Dt.calls (a0_0:Int) (a0_1:Int) (a0_2:Int) (a1_0:Int) (a1_1:Int) (a1_2:Int) (r:Bool) (w:World) (h:Dt.f a0_0 a0_1 a0_2 a1_0 a1_1 a1_2=some r) :
  Calls Try.prog 103 #[.agg #[.int .i64 a0_0,.int .i64 a0_1,.int .i64 a0_2],.agg #[.int .i64 a1_0,.int .i64 a1_1,.int .i64 a1_2]] w fun e w'=>e=.returned (.bool r)∧Below w.heap.size w w':=by
 have hu61:=Try.underlying61;have HB:=am (Below.refl w.heap.size w);have H:=h;clear h;unfold Dt.f at H;(by_cases c3:a0_0<(wrap64 (a1_0+a1_2)))
 ·rw [if_pos c3] at H;have c3b0:=decide_eq_true c3;clear c3;(by_cases c4:a1_0<(wrap64 (a0_0+a0_2)))
  ·rw [if_pos c4] at H;have c4b0:=decide_eq_true c4;clear c4;(by_cases c5:a0_1<(wrap64 (a1_1+a1_2)))
   ·rw [if_pos c5] at H;have c5b0:=decide_eq_true c5;clear c5;obtain rfl:=Option.some.inj H;go_enter Try.func103,Try.ntmps103;(go_wp2_with (first|((with_reducible refine Ak (N:=2) rfl ?_);refine Bd 2 (#[.int .i64 a0_0,.int .i64 a0_1,.int .i64 a0_2]) 61 ?_;intro gb381 hg w6 hbox hb;have BK381:=am (hbox);have GW381:=am (gz hg HB);have GE381:=am (gz hg HB);replace HB:=wb HB hb;clear hb hbox hg)|((with_reducible refine Ak (N:=3) rfl ?_);refine Bd 3 (#[.int .i64 a1_0,.int .i64 a1_1,.int .i64 a1_2]) 61 ?_;intro gb382 hg w7 hbox hb;have BK382:=am (hbox);have GW382:=am (gz hg HB);have GE382:=am (gz hg HB);replace HB:=wb HB hb;have NB381_382:=am (gn hg BK381);have NB382_381:=am ((by rw [hg];exact Nat.ne_of_gt (Be (upK BK381)):gb382≠gb381));replace BK381:=kb BK381 hb;clear hb hbox hg;have hnb8:=NB381_382.out;have hnc8:=NB382_381.out;obtain ⟨hcz9_0,hcz9_1,hcz9_2,hfz9_0,hfz9_1,hfz9_2⟩:=cy3 BK381;obtain ⟨hcz10_0,hcz10_1,hcz10_2,hfz10_0,hfz10_1,hfz10_2⟩:=cy3 BK382)));go_ret;exact ⟨eqv,upW HB⟩
   ·rw [if_neg c5] at H;have c5b0:=decide_eq_false c5;clear c5;obtain rfl:=Option.some.inj H;go_enter Try.func103,Try.ntmps103;(go_wp2_with (first|((with_reducible refine Ak (N:=2) rfl ?_);refine Bd 2 (#[.int .i64 a0_0,.int .i64 a0_1,.int .i64 a0_2]) 61 ?_;intro gb381 hg w11 hbox hb;have BK381:=am (hbox);have GW381:=am (gz hg HB);have GE381:=am (gz hg HB);replace HB:=wb HB hb;clear hb hbox hg)|((with_reducible refine Ak (N:=3) rfl ?_);refine Bd 3 (#[.int .i64 a1_0,.int .i64 a1_1,.int .i64 a1_2]) 61 ?_;intro gb382 hg w12 hbox hb;have BK382:=am (hbox);have GW382:=am (gz hg HB);have GE382:=am (gz hg HB);replace HB:=wb HB hb;have NB381_382:=am (gn hg BK381);have NB382_381:=am ((by rw [hg];exact Nat.ne_of_gt (Be (upK BK381)):gb382≠gb381));replace BK381:=kb BK381 hb;clear hb hbox hg;have hnb13:=NB381_382.out;have hnc13:=NB382_381.out;obtain ⟨hcz14_0,hcz14_1,hcz14_2,hfz14_0,hfz14_1,hfz14_2⟩:=cy3 BK381;obtain ⟨hcz15_0,hcz15_1,hcz15_2,hfz15_0,hfz15_1,hfz15_2⟩:=cy3 BK382)));go_ret;exact ⟨eqv,upW HB⟩
  ·rw [if_neg c4] at H;have c4b0:=decide_eq_false c4;clear c4;obtain rfl:=Option.some.inj H;go_enter Try.func103,Try.ntmps103;(go_wp2_with (first|((with_reducible refine Ak (N:=2) rfl ?_);refine Bd 2 (#[.int .i64 a0_0,.int .i64 a0_1,.int .i64 a0_2]) 61 ?_;intro gb381 hg w16 hbox hb;have BK381:=am (hbox);have GW381:=am (gz hg HB);have GE381:=am (gz hg HB);replace HB:=wb HB hb;clear hb hbox hg)|((with_reducible refine Ak (N:=3) rfl ?_);refine Bd 3 (#[.int .i64 a1_0,.int .i64 a1_1,.int .i64 a1_2]) 61 ?_;intro gb382 hg w17 hbox hb;have BK382:=am (hbox);have GW382:=am (gz hg HB);have GE382:=am (gz hg HB);replace HB:=wb HB hb;have NB381_382:=am (gn hg BK381);have NB382_381:=am ((by rw [hg];exact Nat.ne_of_gt (Be (upK BK381)):gb382≠gb381));replace BK381:=kb BK381 hb;clear hb hbox hg;have hnb18:=NB381_382.out;have hnc18:=NB382_381.out;obtain ⟨hcz19_0,hcz19_1,hcz19_2,hfz19_0,hfz19_1,hfz19_2⟩:=cy3 BK381;obtain ⟨hcz20_0,hcz20_1,hcz20_2,hfz20_0,hfz20_1,hfz20_2⟩:=cy3 BK382)));go_ret;exact ⟨eqv,upW HB⟩
 ·rw [if_neg c3] at H;have c3b0:=decide_eq_false c3;clear c3;obtain rfl:=Option.some.inj H;go_enter Try.func103,Try.ntmps103;(go_wp2_with (first|((with_reducible refine Ak (N:=2) rfl ?_);refine Bd 2 (#[.int .i64 a0_0,.int .i64 a0_1,.int .i64 a0_2]) 61 ?_;intro gb381 hg w21 hbox hb;have BK381:=am (hbox);have GW381:=am (gz hg HB);have GE381:=am (gz hg HB);replace HB:=wb HB hb;clear hb hbox hg)|((with_reducible refine Ak (N:=3) rfl ?_);refine Bd 3 (#[.int .i64 a1_0,.int .i64 a1_1,.int .i64 a1_2]) 61 ?_;intro gb382 hg w22 hbox hb;have BK382:=am (hbox);have GW382:=am (gz hg HB);have GE382:=am (gz hg HB);replace HB:=wb HB hb;have NB381_382:=am (gn hg BK381);have NB382_381:=am ((by rw [hg];exact Nat.ne_of_gt (Be (upK BK381)):gb382≠gb381));replace BK381:=kb BK381 hb;clear hb hbox hg;have hnb23:=NB381_382.out;have hnc23:=NB382_381.out;obtain ⟨hcz24_0,hcz24_1,hcz24_2,hfz24_0,hfz24_1,hfz24_2⟩:=cy3 BK381;obtain ⟨hcz25_0,hcz25_1,hcz25_2,hfz25_0,hfz25_1,hfz25_2⟩:=cy3 BK382)));go_ret;exact ⟨eqv,upW HB⟩

/-! ### Mw: function 102 -/
set_option maxHeartbeats 8000000 in
theorem Mw.calls (x y s a0_0 a0_1 a0_2:Int) (g:Nat) (r:Bool) (w:World) (hg:w.heap[g]? = some (.cells #[.int .i64 x,.int .i64 y,.int .i64 s] 61 (0,0))) (h:Dt.f x y s a0_0 a0_1 a0_2=some r) :
  Calls Try.prog 102 #[.agg #[.int .i64 a0_0,.int .i64 a0_1,.int .i64 a0_2],.pointer (some ⟨g,0,none⟩)] w fun e w'=>e=.returned (.bool r)∧Below w.heap.size w w':=by
 have hu61:=Try.underlying61;have h0:w.cell? ⟨g,0,none⟩=some (.int .i64 x):=(Ac hg 0).trans rfl;have h1:w.cell? ⟨g,1,none⟩=some (.int .i64 y):=(Ac hg 1).trans rfl;have h2:w.cell? ⟨g,2,none⟩=some (.int .i64 s):=(Ac hg 2).trans rfl;have hlt:g<w.heap.size:=Be hg;have HG:=am hg;have HH:=am h;clear hg h;go_enter Try.func102,Try.ntmps102;(go_wp2_with (go_at_call 103;(with_reducible refine (Dt.calls x y s a0_0 a0_1 a0_2 r _ HH.out).mono ?_);rintro e w' ⟨rfl,hb⟩));go_ret;exact ⟨rfl,I4 (Db (Below.refl _ _) _) hb⟩


/-! ### Aq: the pair slices.ContainsFunc[[]loop.example/g01296/impl.Square,loop.example/g01296/impl.Square] -/
def Aq.f (l:List S61) (x y s:Int):Option Bool:=some (l.any fun t=>(Dt.f x y s t.f0 t.f1 t.f2).getD false)
theorem Aq.some_ (x y s a b c:Int):Dt.f x y s a b c=some ((Dt.f x y s a b c).getD false):=by
 unfold Dt.f;(split)
 ·(split)
  ·(split)
   ·rfl
   ·rfl
  ·rfl
 ·rfl
theorem Aq.calls (A0:Option Addr) (c0:Nat) (l0:List S61) (g1:Nat) (x y s:Int) (r:Bool) (w:World) (hr0:Kd.C k61 w A0 l0.length l0) (hc0:l0.length≤c0)
  (hg1:w.heap[g1]? = some (.cells #[.int .i64 x,.int .i64 y,.int .i64 s] 61 (0,0))) (h:Aq.f l0 x y s=some r) :
  Calls Try.prog 101 #[.slice A0 l0.length c0,.func (.func 102) #[] #[.pointer (some ⟨g1,0,none⟩)]] w fun e w'=>e=.returned (.bool r)∧Below w.heap.size w w':=by
 obtain rfl:=Option.some.inj h;(refine J7.with _ 102 _ A0 c0 l0 w hr0 (fun args w=>Js Try.func102 (by kernel_rfl) rfl args w) fun W t _ hb=>?_);(exact (Mw.calls x y s t.f0 t.f1 t.f2 g1 _ W (Dp hg1 hb) (Aq.some_ ..)).mono fun e w' ⟨he,hb'⟩=>⟨he,I4 hb hb'⟩)

end Go.Proofs.Yteaomckihokakaa.PFnNetsFlowOfAll
