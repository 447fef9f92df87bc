-- made for this claim by a program of this session
import Derived.Test.YteaomckihokakaaPFnNetsFlowOfAllx0
import Derived.Test.YteaomckihokakaaPFnNetsFlowOfAllx3
namespace Go.Proofs.Yteaomckihokakaa.PFnNetsFlowOfAll
open Go.RowKit Go.Proofs.YteaomckihokakaaW.PrintWords Go.Proofs.YteaomckihokakaaW.PrintLast Go.Proofs.YteaomckihokakaaW.PrintMore
attribute [local go_sem] C6 C7 Dn Do Cv Cw C8 C9 -- for this text's walks alone
set_option linter.unusedVariables false
set_option linter.unusedSimpArgs false

/-! ### Bs: function 136 -/
def Bs.f (l:List (List Int)):Option Int:=Jh l
def Bs.T11:Bool×List (List Nat×List Nat):=(true,[([],[]),([],[]),([],[]),([],[]),([],[]),([],[]),([4,5],[4,5]),([6],[6]),([],[]),([],[]),([8,9],[8,9]),([10],[10]),([0,1,0,1,4,5,6,7,11],[0,1]),([12,7,0,1,4,5,6,7,11],[7,12]),([2,3,0,1,2,3,4,5,6,7,8,9,10,11,12,13],[2,3]),([14,11,13,0,1,2,3,4,5,6,7,8,9,10,11,12,13],[11,14])])
def Bs.B11:List Nat:=[0,0,0,0,0,0,48,112,0,0,768,1792,4083,8179,16383,32767]
theorem Bs.tab11:Cy .any (Dx Try.f136 11)=Bs.T11:=by kernel_rfl
theorem Bs.bits11:Cq Bs.T11.2 Bs.B11=true:=by kernel_rfl
def Bs.T19:Bool×List (List Nat×List Nat):=(true,[([],[]),([],[]),([0,1],[0,1]),([2],[2]),([],[]),([],[]),([],[]),([5,6],[5,6]),([7],[7]),([],[]),([8,9],[8,9]),([10],[10]),([],[]),([],[]),([12,13],[12,13]),([14],[14]),([],[]),([15,16],[15,16]),([17],[17]),([11,18],[11,18]),([],[]),([],[]),([20,21],[20,21]),([22],[22]),([],[]),([23,24],[23,24]),([25],[25]),([],[]),([],[]),([27,28],[27,28]),([29],[29]),([],[]),([30,31],[30,31]),([32],[32]),([26,33],[26,33]),([19,34],[19,34]),([],[]),([35,36],[35,36]),([3,4,0,1,2,3,4,5,6,7,8,9,10,11,12,13,14,15,16,17,18,19,20,21,22,23,24,25,26,27,28,29,30,31,32,33,34,35,36,37],[3,4]),([38,37,0,1,2,3,4,5,6,7,8,9,10,11,12,13,14,15,16,17,18,19,20,21,22,23,24,25,26,27,28,29,30,31,32,33,34,35,36,37],[37,38])])
def Bs.B19:List Nat:=[0,0,3,7,0,0,0,96,224,0,992,2016,0,0,12288,28672,0,126976,258048,524256,0,0,3145728,7340032,0,32505856,66060288,0,0,402653184,939524096,0,4160749568,8455716864,17178820608,34359738336,0,137438953440,274877906943,549755813887]
theorem Bs.tab19:Cy .any (Dx Try.f136 19)=Bs.T19:=by kernel_rfl
theorem Bs.bits19:Cq Bs.T19.2 Bs.B19=true:=by kernel_rfl
set_option maxHeartbeats 8000000 in
set_option maxRecDepth 100000 in
theorem Bs.calls (P0_:Nat→Prop) (u9000_:Value) (l0:List (List Int)) (r:Int) (w0 w:World) (hB:Below w0.heap.size w0 w) (ho0:Kd.S (Kd.slice 3 (Kd.int .i64)) 37 w w0.heap.size P0_ u9000_ l0) (h:Bs.f l0=some r) :
  Calls Try.prog 136 #[u9000_] w fun e w'=>e=.returned (.int .i64 r)∧Below w0.heap.size w0 w'∧Cr w w' (fun k_=>P0_ k_):=by
 unfold Bs.f Jh at h;(split at h);(case isFalse=>cases h);(rename_i hg);obtain ⟨hne,hsq⟩:=hg;have hr:Il l0.length l0.length 0 l0 1 1=r:=Option.some.inj h;clear h
 have hmax:l0.length≤9223372036854775807:=by
  obtain ⟨Av,ho⟩:=Kd.R_own (Kd.S_R ho0);(rcases ho.2 with ⟨_,h1⟩|⟨_,_,_,_,_,_,h3,h4,_,_⟩)
  ·omega
  ·(have h5:maxLen≤9223372036854775807:=by decide);omega
 obtain ⟨g,c,rs,cs,rfl,hT⟩:=D2.of_S (Kd.S_mono (ok':=fun k_=>P0_ k_∧w0.heap.size≤k_) (Kd.S_bound ho0) (fun k hk=>⟨hk.1,hk.2.1⟩)) hne hsq;clear hne hsq ho0;generalize l0.length=n at hr hmax hT ⊢;have H:=am hr;have HT:=am hT;have HN:=am hmax;have HK:=am (Cr.refl w (fun k_=>P0_ k_));have HB:=am hB;clear hr hT hmax hB;go_enter Try.func136,Try.ntmps136;go_wp2;(go_loopg [3,4,11] n (fun kq v3 v4 v11 w'=>∃ (M:List (List Int)) (rs cs:Nat→Nat) (k:Nat) (b s x:Int),v3=.int .i64 b∧v4=.int .i64 s∧v11=.int .i64 x∧Aa (Il n kq k M b s=r)∧Aa (x=(k:Int))∧Aa (kq+k=n)∧Aa (b≠0)∧Aa (D2 w' (fun k_=>P0_ k_∧w0.heap.size≤k_) g n rs cs M)∧Aa (Cr w w' (fun k_=>P0_ k_))∧Aa (Below w0.heap.size w0 w')));(case atStart=>exact ⟨l0,rs,cs,0,1,1,0,rfl,rfl,rfl,H,⟨rfl⟩,⟨rfl⟩,⟨by decide⟩,⟨HT.out.step rfl⟩,⟨upH HK⟩,⟨upW HB⟩⟩)
 case round =>
  clear H HT HK HB;obtain ⟨M,rs,cs,k,b,s,x,rfl,rfl,rfl,H,HX,HQ,HZ,HT,HK,HB⟩:=hrel
  cases gk with
  | zero =>
   have c3b0:decide (x<(n:Int))=false:=decide_eq_false (by have:=HX.out;have:=HQ.out;omega);have hr:=H.out;simp only [Il] at hr;go_wp2;go_ret;exact ⟨by rw [← hr];first|rfl|(simp [Aw];done),HB.out,HK.out⟩
  | succ m =>
   have c3b0:decide (x<(n:Int))=true:=decide_eq_true (by have:=HX.out;have:=HQ.out;omega);go_wp2;(go_loopg [6] (n-k) (fun kq v6 w'=>∃ (i:Nat) (y:Int),v6=.int .i64 y∧Aa (Ds M k kq i=Ds M k (n-k) k)∧Aa (y=(i:Int))∧Aa (kq+i=n∧k≤i)∧Aa (D2 w' (fun k_=>P0_ k_∧w0.heap.size≤k_) g n rs cs M)∧Aa (Cr w w' (fun k_=>P0_ k_))∧Aa (Below w0.heap.size w0 w')));(case atStart=>exact ⟨k,x,rfl,⟨rfl⟩,HX,⟨by have:=HQ.out;omega⟩,⟨HT.out.step rfl⟩,⟨upH HK⟩,⟨upW HB⟩⟩)
   case round =>
    clear HT HK HB;obtain ⟨i,y,rfl,HF,HY,HI,HT,HK,HB⟩:=hrel;(have hkn:k<n:=by have:=HQ.out;omega)
    cases gk with
    | zero =>
     have d0:decide (y<(n:Int))=false:=decide_eq_false (by have:=HY.out;have:=HI.out;omega);have d1:(y==(n:Int))=true:=beq_iff_eq.mpr (by have:=HY.out;have:=HI.out;omega);(have hf:Ds M k (n-k) k=n:=by rw [← HF.out];have:=HI.out;simp only [Ds];omega);have hr:=H.out;simp only [Il,hf,if_true] at hr;subst hr;go_wp2;go_ret;exact ⟨rfl,HB.out,HK.out⟩
    | succ q =>
     (have hin:i<n:=by have:=HI.out;omega);have d0:decide (y<(n:Int))=true:=decide_eq_true (by have:=HY.out;omega);have p1:(0≤y)=True:=eq_true (by have:=HY.out;omega);have q1:(y<(n:Int))=True:=eq_true (by have:=HY.out;omega);have p2:(0≤x)=True:=eq_true (by have:=HX.out;omega);have q2:(x<(n:Int))=True:=eq_true (by have:=HX.out;omega);(have yt:y.toNat=i:=by have:=HY.out;omega);(have xt:x.toNat=k:=by have:=HX.out;omega);(have ho1:wr.cell? ⟨g,y.toNat,none⟩=some (.slice (some ⟨rs i,0,none⟩) n (cs i)):=by rw [yt];exact (HT.out.outer hin).1);(have hc1:wr.cell? ⟨rs i,x.toNat,none⟩=some (.int .i64 (dAt M i k)):=by rw [xt];exact (HT.out.cell hin hkn).1);clear yt xt;have hin:=am hin;have hkn:=am hkn;(by_cases hz:dAt M i k=0)
     ·have d2:(dAt M i k==0)=true:=beq_iff_eq.mpr hz
      have hw:=am (show wrap64 (y+1)=((i+1:Nat):Int) by
       (have e1:=HY.out;have e2:=HN.out;have e3:=hin.out)
       rw [J8 (n:=y+1) (by omega) (by omega)];omega)
      replace hz:=am hz;go_wp2;go_roundg q;(case measure=>exact Nat.lt_succ_self q);(case rel=>exact ⟨i+1,wrap64 (y+1),(eqw),⟨by have hF:=HF.out;simp only [Ds,hz.out,if_true] at hF;exact hF⟩,hw,⟨by have:=HI.out;omega⟩,⟨HT.out.step rfl⟩,⟨upH HK⟩,⟨upW HB⟩⟩)
     ·have d2:(dAt M i k==0)=false:=beq_eq_false_iff_ne.mpr hz;have d3:(y==(n:Int))=false:=beq_eq_false_iff_ne.mpr (by have:=HY.out;omega);(have hf:Ds M k (n-k) k=i:=by have hF:=HF.out;simp only [Ds,if_neg hz] at hF;exact hF.symm);have hr:=H.out;simp only [Il,hf,if_neg (show ¬ i=n by omega)] at hr;have HR:=am hr;clear hr H HF;replace hf:=am hf;replace hz:=am hz;have HT0:=HT;(go_upto_if 37 with (fail));(try simp only [Act.put,List.setIfInBounds_toArray,List.set_cons_zero,List.set_cons_succ]);(go_cut [4] (fun v4 wc=>∃ (M1:List (List Int)) (rs cs:Nat→Nat) (s1:Int),v4=.int .i64 s1∧Aa (M1=(if i=k then M else Ga M i k)∧s1=if i=k then s else wrap64 (-s))∧Aa (D2 wc (fun k_=>P0_ k_∧w0.heap.size≤k_) g n rs cs M1)∧Aa (Cr w wc (fun k_=>P0_ k_))∧Aa (Below w0.heap.size w0 wc)))
      case first =>
       clear HT0;(by_cases hik:i=k)
       ·(have d4:(y != x)=false:=by rw [bne_eq_false_iff_eq];have:=HY.out;have:=HX.out;omega);rw [d4];go_wp2;(go_meet);(case rel=>exact ⟨M,rs,cs,s,rfl,⟨by rw [if_pos hik,if_pos hik];exact ⟨rfl,rfl⟩⟩,⟨HT.out.step rfl⟩,⟨upH HK⟩,⟨upW HB⟩⟩)
       ·(have d4:(y != x)=true:=by rw [bne_iff_ne];have:=HY.out;have:=HX.out;omega);(have ho2:wr.cell? ⟨g,x.toNat,none⟩=some (.slice (some ⟨rs k,0,none⟩) n (cs k)):=by rw [show x.toNat=k by have:=HX.out;omega];exact (HT.out.outer hkn.out).1);(have hf1:wr.frozen? ⟨g,y.toNat,none⟩=false:=by rw [show y.toNat=i by have:=HY.out;omega];exact (HT.out.outer hin.out).2);(have hf2:wr.frozen? ⟨g,x.toNat,none⟩=false:=by rw [show x.toNat=k by have:=HX.out;omega];exact (HT.out.outer hkn.out).2)
        have hf2':∀ v,(wr.setCell ⟨g,y.toNat,none⟩ v).frozen? ⟨g,x.toNat,none⟩=false:=fun v=>by
         rw [show x.toNat=k by have:=HX.out;omega];obtain ⟨_,⟨_,cur,hc,_⟩,_⟩:=HT.out;exact Ci (Ij hc _ v) k
        have hc2':∀ v,(wr.setCell ⟨g,y.toNat,none⟩ v).cell? ⟨g,x.toNat,none⟩=some (.slice (some ⟨rs k,0,none⟩) n (cs k)):=fun v=>by
         (have hne:k≠y.toNat:=by have:=HY.out;omega);rw [show x.toNat=k by have:=HX.out;omega];obtain ⟨_,⟨_,cur,hc,hv⟩,_⟩:=HT.out;rw [Ac (Ij hc _ v) k,Array.getElem?_setIfInBounds_ne (by omega)];exact hv k hkn.out
        have hsw:∃ rs' cs',D2 ((wr.setCell ⟨g,y.toNat,none⟩ (.slice (some ⟨rs k,0,none⟩) n (cs k))).setCell ⟨g,x.toNat,none⟩ (.slice (some ⟨rs i,0,none⟩) n (cs i))) (fun k_=>P0_ k_∧w0.heap.size≤k_) g n rs' cs' (Ga M i k):=by
         rw [show y.toNat=i by have:=HY.out;omega,show x.toNat=k by have:=HX.out;omega];exact D2.swap HT.out hin.out hkn.out
        replace hsw:=am hsw;replace hik:=am hik;rw [d4];(go_upto_region 11 with (fail));(refine Cu (n:=16) (S:=fun w'=>w'.cell? ⟨g,y.toNat,none⟩=some (.slice (some ⟨rs i,0,none⟩) n (cs i))∧w'.cell? ⟨g,x.toNat,none⟩=some (.slice (some ⟨rs k,0,none⟩) n (cs k))) (ds:=[13,15]) (bs 16 0) (by kernel_rfl) rfl rfl ⟨ho1,ho2⟩ (fun hHeld=>?_);refine Ca Bs.tab11 Bs.bits11 (fun HT_ HW_=>?_));refine By (i:=0) (N:=(some 38)) (v:=?_) (a':=?_) (bs 16 1) rfl rfl (Bq HT_.out (by kernel_rfl)) (fun _ _ _ h=>h) (Or.inl ⟨by rfl,?_⟩) ?_ ?_;rotate_left
        ·intro w';(go_simp);with_reducible rfl
        rotate_left
        ·simp only [Act.put,List.setIfInBounds_toArray,List.set_cons_zero,List.set_cons_succ,Aw,Bb];rfl
        refine By (i:=1) (N:=(some 39)) (v:=?_) (a':=?_) (bs 16 3) rfl rfl (Bq HT_.out (by kernel_rfl)) (fun _ _ _ h=>h) (Or.inl ⟨by rfl,?_⟩) ?_ ?_;rotate_left
        ·intro w';(go_simp);with_reducible rfl
        rotate_left
        ·simp only [Act.put,List.setIfInBounds_toArray,List.set_cons_zero,List.set_cons_succ,Aw,Bb];rfl
        refine By (i:=2) (N:=(some 40)) (v:=?_) (a':=?_) (bs 16 7) rfl rfl (Bq HT_.out (by kernel_rfl)) (fun _ _ _ h=>h) (Or.inl ⟨by rfl,?_⟩) ?_ ?_;rotate_left
        ·intro w';(go_simp);with_reducible rfl
        rotate_left
        ·simp only [Act.put,List.setIfInBounds_toArray,List.set_cons_zero,List.set_cons_succ,Aw,Bb];rfl
        refine By (i:=3) (N:=(some 41)) (v:=?_) (a':=?_) (bs 16 15) rfl rfl (Bq HT_.out (by kernel_rfl)) (fun _ _ _ h=>h) (Or.inl ⟨by rfl,?_⟩) ?_ ?_;rotate_left
        ·intro w';(go_simp);with_reducible rfl
        rotate_left
        ·simp only [Act.put,List.setIfInBounds_toArray,List.set_cons_zero,List.set_cons_succ,Aw,Bb];rfl
        refine By (i:=4) (N:=(some 42)) (v:=?_) (a':=?_) (bs 16 31) rfl rfl (Bq HT_.out (by kernel_rfl)) (fun _ _ _ h=>h) (Or.inl ⟨by rfl,?_⟩) ?_ ?_;rotate_left
        ·intro w';(go_simp);with_reducible rfl
        rotate_left
        ·simp only [Act.put,List.setIfInBounds_toArray,List.set_cons_zero,List.set_cons_succ,Aw,Bb];rfl
        refine By (i:=5) (N:=(some 43)) (v:=?_) (a':=?_) (bs 16 63) rfl rfl (Bq HT_.out (by kernel_rfl)) (fun _ _ _ h=>h) (Or.inl ⟨by rfl,?_⟩) ?_ ?_;rotate_left
        ·intro w';(go_simp);with_reducible rfl
        rotate_left
        ·simp only [Act.put,List.setIfInBounds_toArray,List.set_cons_zero,List.set_cons_succ,Aw,Bb];rfl
        refine By (i:=6) (N:=(some 44)) (v:=?_) (a':=?_) (bs 16 127) rfl rfl (Bq HT_.out (by kernel_rfl)) (fun _ _ _ h=>h) (Or.inl ⟨by rfl,?_⟩) ?_ ?_;rotate_left
        ·intro w';(go_simp);with_reducible rfl
        rotate_left
        ·simp only [Act.put,List.setIfInBounds_toArray,List.set_cons_zero,List.set_cons_succ,Aw,Bb];rfl
        refine By (i:=8) (N:=(some 46)) (v:=?_) (a':=?_) (bs 16 383) rfl rfl (Bq HT_.out (by kernel_rfl)) (fun _ _ _ h=>h) (Or.inl ⟨by rfl,?_⟩) ?_ ?_;rotate_left
        ·intro w';(go_simp);with_reducible rfl
        rotate_left
        ·simp only [Act.put,List.setIfInBounds_toArray,List.set_cons_zero,List.set_cons_succ,Aw,Bb];rfl
        refine By (i:=9) (N:=(some 47)) (v:=?_) (a':=?_) (bs 16 895) rfl rfl (Bq HT_.out (by kernel_rfl)) (fun _ _ _ h=>h) (Or.inl ⟨by rfl,?_⟩) ?_ ?_;rotate_left
        ·intro w';(go_simp);with_reducible rfl
        rotate_left
        ·simp only [Act.put,List.setIfInBounds_toArray,List.set_cons_zero,List.set_cons_succ,Aw,Bb];rfl
        refine By (i:=10) (N:=(some 48)) (v:=?_) (a':=?_) (bs 16 1919) rfl rfl (Bq HT_.out (by kernel_rfl)) (fun _ _ _ h=>h) (Or.inl ⟨by rfl,?_⟩) ?_ ?_;rotate_left
        ·intro w';(go_simp);with_reducible rfl
        rotate_left
        ·simp only [Act.put,List.setIfInBounds_toArray,List.set_cons_zero,List.set_cons_succ,Aw,Bb];rfl
        refine take_ (i:=7) (N:=(some 45)) (v:=?_) (a':=?_) (bs 16 2047) rfl rfl (Dj HT_.out HW_.out (by kernel_rfl)) (fun _ _ _ h=>h) (Or.inl ⟨by rfl,?_⟩) hHeld ?_ ?_;rotate_left
        ·rintro w' ⟨s0,s1⟩;(go_simp);with_reducible rfl
        rotate_left
        ·simp only [Act.put,List.setIfInBounds_toArray,List.set_cons_zero,List.set_cons_succ,Aw,Bb];rfl
        refine take_ (i:=11) (N:=(some 49)) (v:=?_) (a':=?_) (bs 16 4095) rfl rfl (Dj HT_.out HW_.out (by kernel_rfl)) (fun _ _ _ h=>h) (Or.inl ⟨by rfl,?_⟩) hHeld ?_ ?_;rotate_left
        ·rintro w' ⟨s0,s1⟩;(go_simp);with_reducible rfl
        rotate_left
        ·simp only [Act.put,List.setIfInBounds_toArray,List.set_cons_zero,List.set_cons_succ,Aw,Bb];rfl
        refine By (i:=12) (N:=(some 50)) (v:=?_) (a':=?_) (bs 16 8191) rfl rfl (Bq HT_.out (by kernel_rfl)) (fun _ _ _ h=>h) (Or.inl ⟨by rfl,?_⟩) ?_ ?_;rotate_left
        ·intro w';(go_simp);with_reducible rfl
        rotate_left
        ·simp only [Act.put,List.setIfInBounds_toArray,List.set_cons_zero,List.set_cons_succ,Aw,Bb];rfl
        refine D6 (i:=13) (N:=none) (bs 16 16383) rfl rfl (B4 HT_.out (by kernel_rfl)) (by decide) (fun K hK=>?_);refine Ef (w1:=?_) (by rfl) rfl ?_ ?_;rotate_left
        ·(go_simp);rfl
        refine hK.out _ _ ?_;clear hK K;refine By (i:=14) (N:=(some 51)) (v:=?_) (a':=?_) (bs 16 32767) rfl rfl (Bq HT_.out (by kernel_rfl)) (fun _ _ _ h=>h) (Or.inl ⟨by rfl,?_⟩) ?_ ?_;rotate_left
        ·intro w';(go_simp);with_reducible rfl
        rotate_left
        ·simp only [Act.put,List.setIfInBounds_toArray,List.set_cons_zero,List.set_cons_succ,Aw,Bb];rfl
        refine D6 (i:=15) (N:=none) (bs 16 65535) rfl rfl (B4 HT_.out (by kernel_rfl)) (by decide) (fun K hK=>?_);refine Ef (w1:=?_) (by rfl) rfl ?_ ?_;rotate_left
        ·(go_simp);rfl
        refine hK.out _ _ ?_;clear hK K;refine Df (Cm HT_.out (by kernel_rfl)) ?_;(try go_wp2);obtain ⟨rs',cs',hsw⟩:=hsw.out;have hg:=HT.out.2.1.1;(go_meet);(case rel=>exact ⟨Ga M i k,rs',cs',wrap64 (-s),(by first|rfl|(simp [Aw];done)),⟨by rw [if_neg hik.out,if_neg hik.out];exact ⟨rfl,rfl⟩⟩,⟨hsw.step rfl⟩,⟨Cr.setCell (Cr.setCell HK.out (.inl hg.1) _) (.inl hg.1) _⟩,⟨Bg (Cg (Cg HB.out hg.2) hg.2)⟩⟩)
      case rest =>
       obtain ⟨M1,rs,cs,s1,rfl,HM,HT,HK,HB⟩:=hcut
       have hdk:dAt M1 k k≠0:=by
        rw [HM.out.1];(split)
        ·(rename_i h;rw [← h] at hz ⊢;exact hz.out)
        ·have hl:=HT0.out.1.1;unfold dAt;rw [K6 (by omega) (by omega),if_pos rfl];exact hz.out
       have HD:=am hdk;clear hdk hz HT0;rw [← HM.out.1,← HM.out.2] at HR;clear HM
       have hx1:=am (show wrap64 (x+1)=((k+1:Nat):Int) by
        (have e1:=HX.out;have e2:=HN.out;have e3:=hkn.out)
        rw [J8 (n:=x+1) (by omega) (by omega)];omega)
       go_wp2;(go_loopg [7] (n-(k+1)) (fun kq v7 w'=>∃ (M2:List (List Int)) (i:Nat) (y:Int),v7=.int .i64 y∧Aa (G8 n k b kq i M2=G8 n k b (n-(k+1)) (k+1) M1)∧Aa (dAt M2 k k≠0)∧Aa (y=(i:Int))∧Aa (kq+i=n∧k+1≤i)∧Aa (D2 w' (fun k_=>P0_ k_∧w0.heap.size≤k_) g n rs cs M2)∧Aa (Cr w w' (fun k_=>P0_ k_))∧Aa (Below w0.heap.size w0 w')));(case atStart=>exact ⟨M1,k+1,wrap64 (x+1),(by first|rfl|(simp [Aw];done)),⟨rfl⟩,HD,hx1,⟨by have:=hkn.out;omega⟩,⟨HT.out.step rfl⟩,⟨upH HK⟩,⟨upW HB⟩⟩)
       case round =>
        clear HT HK HB HD;obtain ⟨M2,i,y,rfl,HF,HD,HY,HI,HT,HK,HB⟩:=hrel
        cases gk with
        | zero =>
         have e0:decide (y<(n:Int))=false:=decide_eq_false (by have:=HY.out;have:=HI.out;omega);have hF:=HF.out;simp only [G8] at hF;have p2:(0≤x)=True:=eq_true (by have:=HX.out;omega);have q2:(x<(n:Int))=True:=eq_true (by have:=HX.out;have:=hkn.out;omega);(have ho1:wr.cell? ⟨g,x.toNat,none⟩=some (.slice (some ⟨rs k,0,none⟩) n (cs k)):=by rw [show x.toNat=k by have:=HX.out;omega];exact (HT.out.outer hkn.out).1);(have hc1:wr.cell? ⟨rs k,x.toNat,none⟩=some (.int .i64 (dAt M2 k k)):=by rw [show x.toNat=k by have:=HX.out;omega];exact (HT.out.cell hkn.out hkn.out).1);have HR2:=HR.out;rw [← hF] at HR2;replace hF:=am hF;replace HR2:=am HR2;go_wp2;go_roundg m;(case measure=>exact Nat.lt_succ_self m);(case rel=>exact ⟨M2,rs,cs,k+1,dAt M2 k k,s1,wrap64 (x+1),rfl,rfl,(by first|rfl|(simp [Aw];done)),HR2,hx1,⟨by have:=HQ.out;omega⟩,HD,⟨HT.out.step rfl⟩,⟨upH HK⟩,⟨upW HB⟩⟩)
        | succ q =>
         have hin:=am (show i<n by have:=HI.out;omega);have e0:decide (y<(n:Int))=true:=decide_eq_true (by have:=HY.out;have:=hin.out;omega);go_wp2;(go_loopg [8] (n-(k+1)) (fun kq v8 w'=>∃ (M3:List (List Int)) (j:Nat) (z:Int),v8=.int .i64 z∧Aa (Iz k b i kq j M3=Iz k b i (n-(k+1)) (k+1) M2)∧Aa (dAt M3 k k≠0)∧Aa (z=(j:Int))∧Aa (kq+j=n∧k+1≤j)∧Aa (D2 w' (fun k_=>P0_ k_∧w0.heap.size≤k_) g n rs cs M3)∧Aa (Cr w w' (fun k_=>P0_ k_))∧Aa (Below w0.heap.size w0 w')));(case atStart=>exact ⟨M2,k+1,wrap64 (x+1),(by first|rfl|(simp [Aw];done)),⟨rfl⟩,HD,hx1,⟨by have:=hkn.out;omega⟩,⟨HT.out.step rfl⟩,⟨upH HK⟩,⟨upW HB⟩⟩)
         case round =>
          clear HT HK HB HD;obtain ⟨M3,j,z,rfl,HG,HD,HZ2,HJ,HT,HK,HB⟩:=hrel
          cases gk with
          | zero =>
           have e1:decide (z<(n:Int))=false:=decide_eq_false (by have:=HZ2.out;have:=HJ.out;omega);have hG:=HG.out;simp only [Iz] at hG;have hF:=HF.out;simp only [G8] at hF;rw [← hG] at hF;replace hF:=am hF;clear hG HG HF
           have hy1:=am (show wrap64 (y+1)=((i+1:Nat):Int) by
            (have e1:=HY.out;have e2:=HN.out;have e3:=hin.out)
            rw [J8 (n:=y+1) (by omega) (by omega)];omega)
           go_wp2;go_roundg q;(case measure=>exact Nat.lt_succ_self q);(case rel=>exact ⟨M3,i+1,wrap64 (y+1),(by first|rfl|(simp [Aw];done)),hF,HD,hy1,⟨by have:=HI.out;omega⟩,⟨HT.out.step rfl⟩,⟨upH HK⟩,⟨upW HB⟩⟩)
          | succ p =>
           have hjn:=am (show j<n by have:=HJ.out;omega);have e1:decide (z<(n:Int))=true:=decide_eq_true (by have:=HZ2.out;have:=hjn.out;omega)
           have hz1:=am (show wrap64 (z+1)=((j+1:Nat):Int) by
            (have e1:=HZ2.out;have e2:=HN.out;have e3:=hjn.out)
            rw [J8 (n:=z+1) (by omega) (by omega)];omega)
           have p1:(0≤x)=True:=eq_true (by have:=HX.out;omega);have q1:(x<(n:Int))=True:=eq_true (by have:=HX.out;have:=hkn.out;omega);have p2:(0≤y)=True:=eq_true (by have:=HY.out;omega);have q2:(y<(n:Int))=True:=eq_true (by have:=HY.out;have:=hin.out;omega);have p3:(0≤z)=True:=eq_true (by have:=HZ2.out;omega);have q3:(z<(n:Int))=True:=eq_true (by have:=HZ2.out;have:=hjn.out;omega);have xt:=am (show x.toNat=k by have:=HX.out;omega);have yt:=am (show y.toNat=i by have:=HY.out;omega);have zt:=am (show z.toNat=j by have:=HZ2.out;omega);(have oi:wr.cell? ⟨g,y.toNat,none⟩=some (.slice (some ⟨rs i,0,none⟩) n (cs i)):=by rw [yt.out];exact (HT.out.outer hin.out).1);(have ok:wr.cell? ⟨g,x.toNat,none⟩=some (.slice (some ⟨rs k,0,none⟩) n (cs k)):=by rw [xt.out];exact (HT.out.outer hkn.out).1);(have cij:wr.cell? ⟨rs i,z.toNat,none⟩=some (.int .i64 (dAt M3 i j)):=by rw [zt.out];exact (HT.out.cell hin.out hjn.out).1);(have ckk:wr.cell? ⟨rs k,x.toNat,none⟩=some (.int .i64 (dAt M3 k k)):=by rw [xt.out];exact (HT.out.cell hkn.out hkn.out).1);(have cik:wr.cell? ⟨rs i,x.toNat,none⟩=some (.int .i64 (dAt M3 i k)):=by rw [xt.out];exact (HT.out.cell hin.out hkn.out).1);(have ckj:wr.cell? ⟨rs k,z.toNat,none⟩=some (.int .i64 (dAt M3 k j)):=by rw [zt.out];exact (HT.out.cell hkn.out hjn.out).1);(have fij:wr.frozen? ⟨rs i,z.toNat,none⟩=false:=by rw [zt.out];exact (HT.out.cell hin.out hjn.out).2);have hb0:(b==0)=false:=beq_eq_false_iff_ne.mpr HZ.out;have hb1:decide (b=0)=false:=decide_eq_false HZ.out;have hb2:¬ b=0:=HZ.out;have HP:=am (show D2 (wr.setCell ⟨rs i,z.toNat,none⟩ (.int .i64 (Gk M3 k b i j))) (fun k_=>P0_ k_∧w0.heap.size≤k_) g n rs cs (Gg M3 i j (Gk M3 k b i j)) by rw [zt.out];exact HT.out.put hin.out hjn.out _);have HPr:=am (HT.out.2.2.1 i hin.out).1
           have HE:=am (show dAt (Gg M3 i j (Gk M3 k b i j)) k k≠0 by
            have hl:=HT.out.1;rw [N0 (by have:=hin.out;omega) (by rw [hl.2 i hin.out];exact hjn.out),if_neg (by have:=HI.out;omega)]
            exact HD.out)
           have hG:=HG.out;simp only [Iz] at hG;replace hG:=am hG;clear HG;(go_upto_region 19 with (fail));(refine Cu (n:=40) (S:=fun w'=>w'.cell? ⟨g,y.toNat,none⟩=some (.slice (some ⟨rs i,0,none⟩) n (cs i))∧w'.cell? ⟨g,x.toNat,none⟩=some (.slice (some ⟨rs k,0,none⟩) n (cs k))∧w'.cell? ⟨rs i,z.toNat,none⟩=some (.int .i64 (dAt M3 i j))∧w'.cell? ⟨rs k,x.toNat,none⟩=some (.int .i64 (dAt M3 k k))∧w'.cell? ⟨rs i,x.toNat,none⟩=some (.int .i64 (dAt M3 i k))∧w'.cell? ⟨rs k,z.toNat,none⟩=some (.int .i64 (dAt M3 k j))) (ds:=[39]) (bs 40 0) (by kernel_rfl) rfl rfl ⟨oi,ok,cij,ckk,cik,ckj⟩ (fun hHeld=>?_);refine Ca Bs.tab19 Bs.bits19 (fun HT_ HW_=>?_));refine By (i:=0) (N:=(some 70)) (v:=?_) (a':=?_) (bs 40 1) rfl rfl (Bq HT_.out (by kernel_rfl)) (fun _ _ _ h=>h) (Or.inl ⟨by rfl,?_⟩) ?_ ?_;rotate_left
           ·intro w';(go_simp);with_reducible rfl
           rotate_left
           ·simp only [Act.put,List.setIfInBounds_toArray,List.set_cons_zero,List.set_cons_succ,Aw,Bb];rfl
           refine By (i:=1) (N:=(some 71)) (v:=?_) (a':=?_) (bs 40 3) rfl rfl (Bq HT_.out (by kernel_rfl)) (fun _ _ _ h=>h) (Or.inl ⟨by rfl,?_⟩) ?_ ?_;rotate_left
           ·intro w';(go_simp);with_reducible rfl
           rotate_left
           ·simp only [Act.put,List.setIfInBounds_toArray,List.set_cons_zero,List.set_cons_succ,Aw,Bb];rfl
           refine By (i:=2) (N:=(some 72)) (v:=?_) (a':=?_) (bs 40 7) rfl rfl (Bq HT_.out (by kernel_rfl)) (fun _ _ _ h=>h) (Or.inl ⟨by rfl,?_⟩) ?_ ?_;rotate_left
           ·intro w';(go_simp);with_reducible rfl
           rotate_left
           ·simp only [Act.put,List.setIfInBounds_toArray,List.set_cons_zero,List.set_cons_succ,Aw,Bb];rfl
           refine By (i:=4) (N:=(some 74)) (v:=?_) (a':=?_) (bs 40 23) rfl rfl (Bq HT_.out (by kernel_rfl)) (fun _ _ _ h=>h) (Or.inl ⟨by rfl,?_⟩) ?_ ?_;rotate_left
           ·intro w';(go_simp);with_reducible rfl
           rotate_left
           ·simp only [Act.put,List.setIfInBounds_toArray,List.set_cons_zero,List.set_cons_succ,Aw,Bb];rfl
           refine By (i:=5) (N:=(some 75)) (v:=?_) (a':=?_) (bs 40 55) rfl rfl (Bq HT_.out (by kernel_rfl)) (fun _ _ _ h=>h) (Or.inl ⟨by rfl,?_⟩) ?_ ?_;rotate_left
           ·intro w';(go_simp);with_reducible rfl
           rotate_left
           ·simp only [Act.put,List.setIfInBounds_toArray,List.set_cons_zero,List.set_cons_succ,Aw,Bb];rfl
           refine By (i:=6) (N:=(some 76)) (v:=?_) (a':=?_) (bs 40 119) rfl rfl (Bq HT_.out (by kernel_rfl)) (fun _ _ _ h=>h) (Or.inl ⟨by rfl,?_⟩) ?_ ?_;rotate_left
           ·intro w';(go_simp);with_reducible rfl
           rotate_left
           ·simp only [Act.put,List.setIfInBounds_toArray,List.set_cons_zero,List.set_cons_succ,Aw,Bb];rfl
           refine By (i:=7) (N:=(some 77)) (v:=?_) (a':=?_) (bs 40 247) rfl rfl (Bq HT_.out (by kernel_rfl)) (fun _ _ _ h=>h) (Or.inl ⟨by rfl,?_⟩) ?_ ?_;rotate_left
           ·intro w';(go_simp);with_reducible rfl
           rotate_left
           ·simp only [Act.put,List.setIfInBounds_toArray,List.set_cons_zero,List.set_cons_succ,Aw,Bb];rfl
           refine By (i:=9) (N:=(some 79)) (v:=?_) (a':=?_) (bs 40 759) rfl rfl (Bq HT_.out (by kernel_rfl)) (fun _ _ _ h=>h) (Or.inl ⟨by rfl,?_⟩) ?_ ?_;rotate_left
           ·intro w';(go_simp);with_reducible rfl
           rotate_left
           ·simp only [Act.put,List.setIfInBounds_toArray,List.set_cons_zero,List.set_cons_succ,Aw,Bb];rfl
           refine By (i:=12) (N:=(some 82)) (v:=?_) (a':=?_) (bs 40 4855) rfl rfl (Bq HT_.out (by kernel_rfl)) (fun _ _ _ h=>h) (Or.inl ⟨by rfl,?_⟩) ?_ ?_;rotate_left
           ·intro w';(go_simp);with_reducible rfl
           rotate_left
           ·simp only [Act.put,List.setIfInBounds_toArray,List.set_cons_zero,List.set_cons_succ,Aw,Bb];rfl
           refine By (i:=13) (N:=(some 83)) (v:=?_) (a':=?_) (bs 40 13047) rfl rfl (Bq HT_.out (by kernel_rfl)) (fun _ _ _ h=>h) (Or.inl ⟨by rfl,?_⟩) ?_ ?_;rotate_left
           ·intro w';(go_simp);with_reducible rfl
           rotate_left
           ·simp only [Act.put,List.setIfInBounds_toArray,List.set_cons_zero,List.set_cons_succ,Aw,Bb];rfl
           refine By (i:=14) (N:=(some 84)) (v:=?_) (a':=?_) (bs 40 29431) rfl rfl (Bq HT_.out (by kernel_rfl)) (fun _ _ _ h=>h) (Or.inl ⟨by rfl,?_⟩) ?_ ?_;rotate_left
           ·intro w';(go_simp);with_reducible rfl
           rotate_left
           ·simp only [Act.put,List.setIfInBounds_toArray,List.set_cons_zero,List.set_cons_succ,Aw,Bb];rfl
           refine By (i:=16) (N:=(some 86)) (v:=?_) (a':=?_) (bs 40 94967) rfl rfl (Bq HT_.out (by kernel_rfl)) (fun _ _ _ h=>h) (Or.inl ⟨by rfl,?_⟩) ?_ ?_;rotate_left
           ·intro w';(go_simp);with_reducible rfl
           rotate_left
           ·simp only [Act.put,List.setIfInBounds_toArray,List.set_cons_zero,List.set_cons_succ,Aw,Bb];rfl
           refine By (i:=20) (N:=(some 90)) (v:=?_) (a':=?_) (bs 40 1143543) rfl rfl (Bq HT_.out (by kernel_rfl)) (fun _ _ _ h=>h) (Or.inl ⟨by rfl,?_⟩) ?_ ?_;rotate_left
           ·intro w';(go_simp);with_reducible rfl
           rotate_left
           ·simp only [Act.put,List.setIfInBounds_toArray,List.set_cons_zero,List.set_cons_succ,Aw,Bb];rfl
           refine By (i:=21) (N:=(some 91)) (v:=?_) (a':=?_) (bs 40 3240695) rfl rfl (Bq HT_.out (by kernel_rfl)) (fun _ _ _ h=>h) (Or.inl ⟨by rfl,?_⟩) ?_ ?_;rotate_left
           ·intro w';(go_simp);with_reducible rfl
           rotate_left
           ·simp only [Act.put,List.setIfInBounds_toArray,List.set_cons_zero,List.set_cons_succ,Aw,Bb];rfl
           refine By (i:=22) (N:=(some 92)) (v:=?_) (a':=?_) (bs 40 7434999) rfl rfl (Bq HT_.out (by kernel_rfl)) (fun _ _ _ h=>h) (Or.inl ⟨by rfl,?_⟩) ?_ ?_;rotate_left
           ·intro w';(go_simp);with_reducible rfl
           rotate_left
           ·simp only [Act.put,List.setIfInBounds_toArray,List.set_cons_zero,List.set_cons_succ,Aw,Bb];rfl
           refine By (i:=24) (N:=(some 94)) (v:=?_) (a':=?_) (bs 40 24212215) rfl rfl (Bq HT_.out (by kernel_rfl)) (fun _ _ _ h=>h) (Or.inl ⟨by rfl,?_⟩) ?_ ?_;rotate_left
           ·intro w';(go_simp);with_reducible rfl
           rotate_left
           ·simp only [Act.put,List.setIfInBounds_toArray,List.set_cons_zero,List.set_cons_succ,Aw,Bb];rfl
           refine By (i:=27) (N:=(some 97)) (v:=?_) (a':=?_) (bs 40 158429943) rfl rfl (Bq HT_.out (by kernel_rfl)) (fun _ _ _ h=>h) (Or.inl ⟨by rfl,?_⟩) ?_ ?_;rotate_left
           ·intro w';(go_simp);with_reducible rfl
           rotate_left
           ·simp only [Act.put,List.setIfInBounds_toArray,List.set_cons_zero,List.set_cons_succ,Aw,Bb];rfl
           refine By (i:=28) (N:=(some 98)) (v:=?_) (a':=?_) (bs 40 426865399) rfl rfl (Bq HT_.out (by kernel_rfl)) (fun _ _ _ h=>h) (Or.inl ⟨by rfl,?_⟩) ?_ ?_;rotate_left
           ·intro w';(go_simp);with_reducible rfl
           rotate_left
           ·simp only [Act.put,List.setIfInBounds_toArray,List.set_cons_zero,List.set_cons_succ,Aw,Bb];rfl
           refine By (i:=29) (N:=(some 99)) (v:=?_) (a':=?_) (bs 40 963736311) rfl rfl (Bq HT_.out (by kernel_rfl)) (fun _ _ _ h=>h) (Or.inl ⟨by rfl,?_⟩) ?_ ?_;rotate_left
           ·intro w';(go_simp);with_reducible rfl
           rotate_left
           ·simp only [Act.put,List.setIfInBounds_toArray,List.set_cons_zero,List.set_cons_succ,Aw,Bb];rfl
           refine By (i:=31) (N:=(some 101)) (v:=?_) (a':=?_) (bs 40 3111219959) rfl rfl (Bq HT_.out (by kernel_rfl)) (fun _ _ _ h=>h) (Or.inl ⟨by rfl,?_⟩) ?_ ?_;rotate_left
           ·intro w';(go_simp);with_reducible rfl
           rotate_left
           ·simp only [Act.put,List.setIfInBounds_toArray,List.set_cons_zero,List.set_cons_succ,Aw,Bb];rfl
           refine By (i:=36) (N:=(some 106)) (v:=?_) (a':=?_) (bs 40 71830696695) rfl rfl (Bq HT_.out (by kernel_rfl)) (fun _ _ _ h=>h) (Or.inl ⟨by rfl,?_⟩) ?_ ?_;rotate_left
           ·intro w';(go_simp);with_reducible rfl
           rotate_left
           ·simp only [Act.put,List.setIfInBounds_toArray,List.set_cons_zero,List.set_cons_succ,Aw,Bb];rfl
           refine take_ (i:=3) (N:=(some 73)) (v:=?_) (a':=?_) (bs 40 71830696703) rfl rfl (Dj HT_.out HW_.out (by kernel_rfl)) (fun _ _ _ h=>h) (Or.inl ⟨by rfl,?_⟩) hHeld ?_ ?_;rotate_left
           ·rintro w' ⟨s0,s1,s2,s3,s4,s5⟩;(go_simp);with_reducible rfl
           rotate_left
           ·simp only [Act.put,List.setIfInBounds_toArray,List.set_cons_zero,List.set_cons_succ,Aw,Bb];rfl
           refine take_ (i:=8) (N:=(some 78)) (v:=?_) (a':=?_) (bs 40 71830696959) rfl rfl (Dj HT_.out HW_.out (by kernel_rfl)) (fun _ _ _ h=>h) (Or.inl ⟨by rfl,?_⟩) hHeld ?_ ?_;rotate_left
           ·rintro w' ⟨s0,s1,s2,s3,s4,s5⟩;(go_simp);with_reducible rfl
           rotate_left
           ·simp only [Act.put,List.setIfInBounds_toArray,List.set_cons_zero,List.set_cons_succ,Aw,Bb];rfl
           refine By (i:=10) (N:=(some 80)) (v:=?_) (a':=?_) (bs 40 71830697983) rfl rfl (Bq HT_.out (by kernel_rfl)) (fun _ _ _ h=>h) (Or.inl ⟨by rfl,?_⟩) ?_ ?_;rotate_left
           ·intro w';(go_simp);with_reducible rfl
           rotate_left
           ·simp only [Act.put,List.setIfInBounds_toArray,List.set_cons_zero,List.set_cons_succ,Aw,Bb];rfl
           refine take_ (i:=11) (N:=(some 81)) (v:=?_) (a':=?_) (bs 40 71830700031) rfl rfl (Dj HT_.out HW_.out (by kernel_rfl)) (fun _ _ _ h=>h) (Or.inl ⟨by rfl,?_⟩) hHeld ?_ ?_;rotate_left
           ·rintro w' ⟨s0,s1,s2,s3,s4,s5⟩;(go_simp);with_reducible rfl
           rotate_left
           ·simp only [Act.put,List.setIfInBounds_toArray,List.set_cons_zero,List.set_cons_succ,Aw,Bb];rfl
           refine take_ (i:=15) (N:=(some 85)) (v:=?_) (a':=?_) (bs 40 71830732799) rfl rfl (Dj HT_.out HW_.out (by kernel_rfl)) (fun _ _ _ h=>h) (Or.inl ⟨by rfl,?_⟩) hHeld ?_ ?_;rotate_left
           ·rintro w' ⟨s0,s1,s2,s3,s4,s5⟩;(go_simp);with_reducible rfl
           rotate_left
           ·simp only [Act.put,List.setIfInBounds_toArray,List.set_cons_zero,List.set_cons_succ,Aw,Bb];rfl
           refine By (i:=17) (N:=(some 87)) (v:=?_) (a':=?_) (bs 40 71830863871) rfl rfl (Bq HT_.out (by kernel_rfl)) (fun _ _ _ h=>h) (Or.inl ⟨by rfl,?_⟩) ?_ ?_;rotate_left
           ·intro w';(go_simp);with_reducible rfl
           rotate_left
           ·simp only [Act.put,List.setIfInBounds_toArray,List.set_cons_zero,List.set_cons_succ,Aw,Bb];rfl
           refine take_ (i:=18) (N:=(some 88)) (v:=?_) (a':=?_) (bs 40 71831126015) rfl rfl (Dj HT_.out HW_.out (by kernel_rfl)) (fun _ _ _ h=>h) (Or.inl ⟨by rfl,?_⟩) hHeld ?_ ?_;rotate_left
           ·rintro w' ⟨s0,s1,s2,s3,s4,s5⟩;(go_simp);with_reducible rfl
           rotate_left
           ·simp only [Act.put,List.setIfInBounds_toArray,List.set_cons_zero,List.set_cons_succ,Aw,Bb];rfl
           refine By (i:=19) (N:=(some 89)) (v:=?_) (a':=?_) (bs 40 71831650303) rfl rfl (Bq HT_.out (by kernel_rfl)) (fun _ _ _ h=>h) (Or.inl ⟨by rfl,?_⟩) ?_ ?_;rotate_left
           ·intro w';(go_simp);with_reducible rfl
           rotate_left
           ·simp only [Act.put,List.setIfInBounds_toArray,List.set_cons_zero,List.set_cons_succ,Aw,Bb];rfl
           refine take_ (i:=23) (N:=(some 93)) (v:=?_) (a':=?_) (bs 40 71840038911) rfl rfl (Dj HT_.out HW_.out (by kernel_rfl)) (fun _ _ _ h=>h) (Or.inl ⟨by rfl,?_⟩) hHeld ?_ ?_;rotate_left
           ·rintro w' ⟨s0,s1,s2,s3,s4,s5⟩;(go_simp);with_reducible rfl
           rotate_left
           ·simp only [Act.put,List.setIfInBounds_toArray,List.set_cons_zero,List.set_cons_succ,Aw,Bb];rfl
           refine By (i:=25) (N:=(some 95)) (v:=?_) (a':=?_) (bs 40 71873593343) rfl rfl (Bq HT_.out (by kernel_rfl)) (fun _ _ _ h=>h) (Or.inl ⟨by rfl,?_⟩) ?_ ?_;rotate_left
           ·intro w';(go_simp);with_reducible rfl
           rotate_left
           ·simp only [Act.put,List.setIfInBounds_toArray,List.set_cons_zero,List.set_cons_succ,Aw,Bb];rfl
           refine take_ (i:=26) (N:=(some 96)) (v:=?_) (a':=?_) (bs 40 71940702207) rfl rfl (Dj HT_.out HW_.out (by kernel_rfl)) (fun _ _ _ h=>h) (Or.inl ⟨by rfl,?_⟩) hHeld ?_ ?_;rotate_left
           ·rintro w' ⟨s0,s1,s2,s3,s4,s5⟩;(go_simp);with_reducible rfl
           rotate_left
           ·simp only [Act.put,List.setIfInBounds_toArray,List.set_cons_zero,List.set_cons_succ,Aw,Bb];rfl
           refine take_ (i:=30) (N:=(some 100)) (v:=?_) (a':=?_) (bs 40 73014444031) rfl rfl (Dj HT_.out HW_.out (by kernel_rfl)) (fun _ _ _ h=>h) (Or.inl ⟨by rfl,?_⟩) hHeld ?_ ?_;rotate_left
           ·rintro w' ⟨s0,s1,s2,s3,s4,s5⟩;(go_simp);with_reducible rfl
           rotate_left
           ·simp only [Act.put,List.setIfInBounds_toArray,List.set_cons_zero,List.set_cons_succ,Aw,Bb];rfl
           refine By (i:=32) (N:=(some 102)) (v:=?_) (a':=?_) (bs 40 77309411327) rfl rfl (Bq HT_.out (by kernel_rfl)) (fun _ _ _ h=>h) (Or.inl ⟨by rfl,?_⟩) ?_ ?_;rotate_left
           ·intro w';(go_simp);with_reducible rfl
           rotate_left
           ·simp only [Act.put,List.setIfInBounds_toArray,List.set_cons_zero,List.set_cons_succ,Aw,Bb];rfl
           refine take_ (i:=33) (N:=(some 103)) (v:=?_) (a':=?_) (bs 40 85899345919) rfl rfl (Dj HT_.out HW_.out (by kernel_rfl)) (fun _ _ _ h=>h) (Or.inl ⟨by rfl,?_⟩) hHeld ?_ ?_;rotate_left
           ·rintro w' ⟨s0,s1,s2,s3,s4,s5⟩;(go_simp);with_reducible rfl
           rotate_left
           ·simp only [Act.put,List.setIfInBounds_toArray,List.set_cons_zero,List.set_cons_succ,Aw,Bb];rfl
           refine By (i:=34) (N:=(some 104)) (v:=?_) (a':=?_) (bs 40 103079215103) rfl rfl (Bq HT_.out (by kernel_rfl)) (fun _ _ _ h=>h) (Or.inl ⟨by rfl,?_⟩) ?_ ?_;rotate_left
           ·intro w';(go_simp);with_reducible rfl
           rotate_left
           ·simp only [Act.put,List.setIfInBounds_toArray,List.set_cons_zero,List.set_cons_succ,Aw,Bb];rfl
           refine By (i:=35) (N:=(some 105)) (v:=?_) (a':=?_) (bs 40 137438953471) rfl rfl (Bq HT_.out (by kernel_rfl)) (fun _ _ _ h=>h) (Or.inl ⟨by rfl,?_⟩) ?_ ?_;rotate_left
           ·intro w';(go_simp);with_reducible rfl
           rotate_left
           ·simp only [Act.put,List.setIfInBounds_toArray,List.set_cons_zero,List.set_cons_succ,Aw,Bb];rfl
           refine By (i:=37) (N:=(some 107)) (v:=?_) (a':=?_) (bs 40 274877906943) rfl rfl (Bq HT_.out (by kernel_rfl)) (fun _ _ _ h=>h) (Or.inl ⟨by rfl,?_⟩) ?_ ?_;rotate_left
           ·intro w';(go_simp);with_reducible rfl
           rotate_left
           ·simp only [Act.put,List.setIfInBounds_toArray,List.set_cons_zero,List.set_cons_succ,Aw,Bb];rfl
           refine By (i:=38) (N:=(some 108)) (v:=?_) (a':=?_) (bs 40 549755813887) rfl rfl (Bq HT_.out (by kernel_rfl)) (fun _ _ _ h=>h) (Or.inl ⟨by rfl,?_⟩) ?_ ?_;rotate_left
           ·intro w';(go_simp);with_reducible rfl
           rotate_left
           ·simp only [Act.put,List.setIfInBounds_toArray,List.set_cons_zero,List.set_cons_succ,Aw,Bb];rfl
           refine D6 (i:=39) (N:=none) (bs 40 1099511627775) rfl rfl (B4 HT_.out (by kernel_rfl)) (by decide) (fun K hK=>?_);refine Ef (w1:=?_) (by rfl) rfl ?_ ?_;rotate_left
           ·(go_simp);rfl
           refine hK.out _ _ ?_;clear hK K;refine Df (Cm HT_.out (by kernel_rfl)) ?_;(try go_wp2);go_roundg p;(case measure=>exact Nat.lt_succ_self p);(case rel=>exact ⟨Gg M3 i j (Gk M3 k b i j),j+1,wrap64 (z+1),(by first|rfl|(simp [Aw];done)),hG,HE,hz1,⟨by have:=HJ.out;omega⟩,⟨HP.out.step rfl⟩,⟨Cr.setCell HK.out (.inl HPr.out.1) _⟩,⟨Bg (Cg HB.out HPr.out.2)⟩⟩)

end Go.Proofs.Yteaomckihokakaa.PFnNetsFlowOfAll
