-- made for this claim by a program of this session
import Derived.Test.YteaomckihokakaaPFnNetsFlowOfAllx0
import Derived.Test.YteaomckihokakaaPFnNetsFlowOfAllx2
namespace Go.Proofs.Yteaomckihokakaa.PFnNetsFlowOfAll
open Go.RowKit Go.Proofs.YteaomckihokakaaW.PrintWords Go.Proofs.YteaomckihokakaaW.PrintLast Go.Proofs.YteaomckihokakaaW.PrintMore
attribute [local go_sem] C6 C7 Dn Do Cv Cw C8 C9 -- for this text's walks alone
set_option linter.unusedVariables false
set_option linter.unusedSimpArgs false

/-! ### Bt: function 28 -/
mutual
def Bt.j0:Nat→Bool→Int→List (S47)→Option (Bool)
 | 0,_,_,_=>none
 | k+1,x14,x118000,x118001=>if x14=true then (some false) else (Bt.l0 k x118001 (x118001.length:Int) 0 x118000 x118001)
def Bt.l0:Nat→List (S47)→Int→Int→Int→List (S47)→Option (Bool)
 | 0,_,_,_,_,_=>none
 | k+1,x16,x17,x18,x118000,x118001=>if x18<x17 then (if 0≤x18 then (if x18<(x16.length:Int) then ((Bo.f ((An x16 x18).f0) 0 (wrap64 (x118000-1))).bind fun t122=>(if t122=true then ((Bo.f ((An x16 x18).f1) 0 (wrap64 (x118000-1))).bind fun t123=>(if t123=true then (if ((An x16 x18).f0)=((An x16 x18).f1) then (some false) else (Bt.l0 k x16 x17 (wrap64 (x18+1)) x118000 x118001)) else (some false))) else (some false))) else (none)) else (none)) else ((Ao.f k x118000 x118001).bind fun t119=>(some t119))
end
def Bt.f (k:Nat) (a0_0:Int) (l0_1:List (S47)):Option (Bool):=(Bo.f a0_0 2 12).bind fun t118=>(if t118=true then (Bt.j0 k (decide ((l0_1.length:Int)>30)) a0_0 l0_1) else (Bt.j0 k true a0_0 l0_1))
set_option maxHeartbeats 8000000 in
set_option maxRecDepth 100000 in
theorem Bt.calls (k:Nat) (a0_0:Int) (A0_1:Option Addr) (c0_1:Nat) (l0_1:List (S47)) (r:Bool) (w:World) (hr0_1:Kd.C k47 w A0_1 l0_1.length l0_1) (hc0_1:l0_1.length≤c0_1) (h:Bt.f k a0_0 l0_1=some r) :
  Calls Try.prog 28 #[.agg #[.int .i64 a0_0,.slice A0_1 l0_1.length c0_1]] w fun e w'=>e=.returned (.bool r)∧Below w.heap.size w w':=by
 have hu36:=Try.underlying36;have hu47:=Try.underlying47;have HR0_1:=am hr0_1;have HC0_1:=am hc0_1;clear hr0_1 hc0_1;have HB:=am (Below.refl w.heap.size w);have H:=h;clear h;unfold Bt.f at H;have HC2:=am H;clear H;go_enter Try.func28,Try.ntmps28;(go_upto_region 1 with (first|((with_reducible refine Ak (N:=1) rfl ?_);(try (refine Cb (by rfl) ?_;dsimp only));refine Bd 1 (#[.int .i64 a0_0,.slice A0_1 l0_1.length c0_1]) 36 ?_;intro gb117 hg w3 hbox hb;have BK117:=am (hbox);have GW117:=am (gz hg HB);have GE117:=am (gz hg HB);replace HB:=wb HB hb;clear hb hbox hg)));(try simp only [Act.put,List.setIfInBounds_toArray,List.set_cons_zero,List.set_cons_succ]);(go_cut [14] (fun v14 wc=>∃ (kq:Nat) (x14_1:Bool),v14=.bool x14_1∧Aa (Bt.j0 kq x14_1 a0_0 l0_1=some r)∧Aa (kq≤k)∧Aa (wc.heap[gb117]? = some (.cells #[.int .i64 a0_0,(.slice A0_1 l0_1.length c0_1)] 36 (0,0)))∧Aa (Below w.heap.size w wc)))
 case first =>
  have H:=HC2.out;clear HC2;obtain ⟨t118,A4,H⟩:=bnd H;(try dsimp only at H);(by_cases c5:t118=true)
  ·subst c5;replace H:=yT H;have H':=am H;clear H;obtain ⟨hcz6_0,hcz6_1,hfz6_0,hfz6_1⟩:=cy2 BK117;(go_wp2_with (first|((with_reducible refine Ai (f:=64) rfl ?_);refine cgo (some 7) Try.func64 (Bo.calls a0_0 2 12 true _ A4.out) ?_;rintro e w' ⟨rfl,⟨nd,rfl⟩⟩;refine ⟨_,rfl,?_⟩)));(go_meet);(case rel=>exact ⟨_,(decide ((l0_1.length:Int)>30)),(eqw),H',⟨by first|omega|exact Nat.le_refl _⟩,⟨upK BK117⟩,⟨upW HB⟩⟩)
  ·replace c5:=Bool.eq_false_iff.mpr c5;subst c5;replace H:=yF H;have H':=am H;clear H;obtain ⟨hcz7_0,hcz7_1,hfz7_0,hfz7_1⟩:=cy2 BK117;(go_wp2_with (first|((with_reducible refine Ai (f:=64) rfl ?_);refine cgo (some 7) Try.func64 (Bo.calls a0_0 2 12 false _ A4.out) ?_;rintro e w' ⟨rfl,⟨nd,rfl⟩⟩;refine ⟨_,rfl,?_⟩)));(go_meet);(case rel=>exact ⟨_,(true),(eqw),H',⟨by first|omega|exact Nat.le_refl _⟩,⟨upK BK117⟩,⟨upW HB⟩⟩)
 case rest =>
  clear HC2;obtain ⟨kq,x14_1,rfl,HA,HJ1,BK117,HB⟩:=hcut
  cases kq with
  | zero=>exact absurd HA.out (by simp [Bt.j0])
  | succ kj1 =>
   have H:=HA.out;clear HA;simp only [Bt.j0] at H;(by_cases c8:x14_1=true)
   ·subst c8;replace H:=yT H;obtain rfl:=Option.some.inj H;go_wp2;go_ret;exact ⟨eqv,upW HB⟩
   ·replace c8:=Bool.eq_false_iff.mpr c8;subst c8;replace H:=yF H;have H':=am H;clear H;obtain ⟨hcz9_0,hcz9_1,hfz9_0,hfz9_1⟩:=cy2 BK117;go_wp2;(go_loopg [18] kj1 (fun kq v18 w'=>∃ (x18_2:Int),v18=.int .i64 x18_2∧Aa (Bt.l0 kq l0_1 (l0_1.length:Int) x18_2 a0_0 l0_1=some r)∧Aa (kq≤kj1)∧Aa (w'.heap[gb117]? = some (.cells #[.int .i64 a0_0,(.slice A0_1 l0_1.length c0_1)] 36 (0,0)))∧Aa (Below w.heap.size w w')));(case atStart=>exact ⟨(0),(eqw),H',⟨Nat.le_refl _⟩,⟨upK BK117⟩,⟨upW HB⟩⟩)
    case round =>
     clear H';(try clear hcz9_0 hcz9_1 hfz9_0 hfz9_1);obtain ⟨x18_2,rfl,HA,HK2,BK117,HB⟩:=hrel
     cases gk with
     | zero=>exact absurd HA.out (by simp [Bt.l0])
     | succ k2 =>
      have H:=HA.out;clear HA;simp only [Bt.l0] at H;(by_cases c10:x18_2<(l0_1.length:Int))
      ·rw [if_pos c10] at H;have c10b0:=decide_eq_true c10;clear c10;obtain ⟨c11,H⟩:=ip H;have c11b0:=decide_eq_true c11;clear c11;obtain ⟨c12,H⟩:=ip H;have c12b0:=decide_eq_true c12;clear c12;obtain ⟨t122,A13,H⟩:=bnd H;(try dsimp only at H);(by_cases c14:t122=true)
       ·subst c14;replace H:=yT H;obtain ⟨t123,A15,H⟩:=bnd H;(try dsimp only at H);(by_cases c16:t123=true)
        ·subst c16;replace H:=yT H;(by_cases c17:((An l0_1 x18_2).f0)=((An l0_1 x18_2).f1))
         ·rw [if_pos c17] at H;have c17b0:(((An l0_1 x18_2).f0)==((An l0_1 x18_2).f1))=true:=beq_iff_eq.mpr c17;have c17b1:(((An l0_1 x18_2).f0) != ((An l0_1 x18_2).f1))=false:=bne_eq_false_iff_eq.mpr c17;clear c17;obtain rfl:=Option.some.inj H;have p120:0≤(x18_2:Int):=oda;have q120:x18_2<(l0_1.length:Int):=oda;obtain ⟨ad120,e120,hx120_0,hx120_1⟩:=Eh HR0_1.out x18_2 p120 q120;cases e120;replace hx120_0:=cb HB hx120_0;replace hx120_1:=cb HB hx120_1;replace p120:=eq_true p120;replace q120:=eq_true q120;(go_wp2_with (first|((with_reducible refine Ak (N:=4) rfl ?_);(try (refine Cb (by rfl) ?_;dsimp only));refine Bd 4 (#[.int .i64 0,.int .i64 0]) 47 ?_;intro gb121 hg w18 hbox hb;have BK121:=am (hbox);have GW121:=am (gz hg HB);have GE121:=am (gz hg HB);replace HB:=wb HB hb;have NB117_121:=am (gn hg BK117);have NB121_117:=am ((by rw [hg];exact Nat.ne_of_gt (Be (upK BK117)):gb121≠gb117));replace BK117:=kb BK117 hb;clear hb hbox hg;have hnb19:=NB121_117.out;have hnc19:=NB117_121.out;obtain ⟨hcz20_0,hcz20_1,hfz20_0,hfz20_1⟩:=cy2 BK121;obtain ⟨hcz21_0,hcz21_1,hfz21_0,hfz21_1⟩:=cy2 BK117)|((with_reducible refine Ai (f:=64) rfl ?_);refine cgo (some 27) Try.func64 (Bo.calls ((An l0_1 x18_2).f0) 0 (wrap64 (a0_0-1)) true _ A13.out) ?_;rintro e w' ⟨rfl,⟨nd,rfl⟩⟩;refine ⟨_,rfl,?_⟩)|(go_at_call 64;(with_reducible refine (Bo.calls ((An l0_1 x18_2).f1) 0 (wrap64 (a0_0-1)) true _ A15.out).mono ?_);rintro e w' ⟨rfl,⟨nd,rfl⟩⟩)));go_ret;exact ⟨eqv,upW HB⟩
         ·rw [if_neg c17] at H;have c17b0:(((An l0_1 x18_2).f0)==((An l0_1 x18_2).f1))=false:=beq_eq_false_iff_ne.mpr c17;have c17b1:(((An l0_1 x18_2).f0) != ((An l0_1 x18_2).f1))=true:=bne_iff_ne.mpr c17;have H':=am H;clear H;have p120:0≤(x18_2:Int):=oda;have q120:x18_2<(l0_1.length:Int):=oda;obtain ⟨ad120,e120,hx120_0,hx120_1⟩:=Eh HR0_1.out x18_2 p120 q120;cases e120;replace hx120_0:=cb HB hx120_0;replace hx120_1:=cb HB hx120_1;replace p120:=eq_true p120;replace q120:=eq_true q120;(go_wp2_with (first|((with_reducible refine Ak (N:=4) rfl ?_);(try (refine Cb (by rfl) ?_;dsimp only));refine Bd 4 (#[.int .i64 0,.int .i64 0]) 47 ?_;intro gb121 hg w22 hbox hb;have BK121:=am (hbox);have GW121:=am (gz hg HB);have GE121:=am (gz hg HB);replace HB:=wb HB hb;have NB117_121:=am (gn hg BK117);have NB121_117:=am ((by rw [hg];exact Nat.ne_of_gt (Be (upK BK117)):gb121≠gb117));replace BK117:=kb BK117 hb;clear hb hbox hg;have hnb23:=NB121_117.out;have hnc23:=NB117_121.out;obtain ⟨hcz24_0,hcz24_1,hfz24_0,hfz24_1⟩:=cy2 BK121;obtain ⟨hcz25_0,hcz25_1,hfz25_0,hfz25_1⟩:=cy2 BK117)|((with_reducible refine Ai (f:=64) rfl ?_);refine cgo (some 27) Try.func64 (Bo.calls ((An l0_1 x18_2).f0) 0 (wrap64 (a0_0-1)) true _ A13.out) ?_;rintro e w' ⟨rfl,⟨nd,rfl⟩⟩;refine ⟨_,rfl,?_⟩)|(go_at_call 64;(with_reducible refine (Bo.calls ((An l0_1 x18_2).f1) 0 (wrap64 (a0_0-1)) true _ A15.out).mono ?_);rintro e w' ⟨rfl,⟨nd,rfl⟩⟩)));go_roundg k2;(case measure=>have:=HJ1.out;have:=HK2.out;omega);(case rel=>exact ⟨(wrap64 (x18_2+1)),(eqw),H',⟨by have:=HJ1.out;have:=HK2.out;omega⟩,⟨upF BK117⟩,⟨upW HB⟩⟩)
        ·replace c16:=Bool.eq_false_iff.mpr c16;subst c16;replace H:=yF H;obtain rfl:=Option.some.inj H;have p120:0≤(x18_2:Int):=oda;have q120:x18_2<(l0_1.length:Int):=oda;obtain ⟨ad120,e120,hx120_0,hx120_1⟩:=Eh HR0_1.out x18_2 p120 q120;cases e120;replace hx120_0:=cb HB hx120_0;replace hx120_1:=cb HB hx120_1;replace p120:=eq_true p120;replace q120:=eq_true q120;(go_wp2_with (first|((with_reducible refine Ak (N:=4) rfl ?_);(try (refine Cb (by rfl) ?_;dsimp only));refine Bd 4 (#[.int .i64 0,.int .i64 0]) 47 ?_;intro gb121 hg w26 hbox hb;have BK121:=am (hbox);have GW121:=am (gz hg HB);have GE121:=am (gz hg HB);replace HB:=wb HB hb;have NB117_121:=am (gn hg BK117);have NB121_117:=am ((by rw [hg];exact Nat.ne_of_gt (Be (upK BK117)):gb121≠gb117));replace BK117:=kb BK117 hb;clear hb hbox hg;have hnb27:=NB121_117.out;have hnc27:=NB117_121.out;obtain ⟨hcz28_0,hcz28_1,hfz28_0,hfz28_1⟩:=cy2 BK121;obtain ⟨hcz29_0,hcz29_1,hfz29_0,hfz29_1⟩:=cy2 BK117)|((with_reducible refine Ai (f:=64) rfl ?_);refine cgo (some 27) Try.func64 (Bo.calls ((An l0_1 x18_2).f0) 0 (wrap64 (a0_0-1)) true _ A13.out) ?_;rintro e w' ⟨rfl,⟨nd,rfl⟩⟩;refine ⟨_,rfl,?_⟩)|(go_at_call 64;(with_reducible refine (Bo.calls ((An l0_1 x18_2).f1) 0 (wrap64 (a0_0-1)) false _ A15.out).mono ?_);rintro e w' ⟨rfl,⟨nd,rfl⟩⟩)));go_ret;exact ⟨eqv,upW HB⟩
       ·replace c14:=Bool.eq_false_iff.mpr c14;subst c14;replace H:=yF H;obtain rfl:=Option.some.inj H;have p120:0≤(x18_2:Int):=oda;have q120:x18_2<(l0_1.length:Int):=oda;obtain ⟨ad120,e120,hx120_0,hx120_1⟩:=Eh HR0_1.out x18_2 p120 q120;cases e120;replace hx120_0:=cb HB hx120_0;replace hx120_1:=cb HB hx120_1;replace p120:=eq_true p120;replace q120:=eq_true q120;(go_wp2_with (first|((with_reducible refine Ak (N:=4) rfl ?_);(try (refine Cb (by rfl) ?_;dsimp only));refine Bd 4 (#[.int .i64 0,.int .i64 0]) 47 ?_;intro gb121 hg w30 hbox hb;have BK121:=am (hbox);have GW121:=am (gz hg HB);have GE121:=am (gz hg HB);replace HB:=wb HB hb;have NB117_121:=am (gn hg BK117);have NB121_117:=am ((by rw [hg];exact Nat.ne_of_gt (Be (upK BK117)):gb121≠gb117));replace BK117:=kb BK117 hb;clear hb hbox hg;have hnb31:=NB121_117.out;have hnc31:=NB117_121.out;obtain ⟨hcz32_0,hcz32_1,hfz32_0,hfz32_1⟩:=cy2 BK121;obtain ⟨hcz33_0,hcz33_1,hfz33_0,hfz33_1⟩:=cy2 BK117)|((with_reducible refine Ai (f:=64) rfl ?_);refine cgo (some 27) Try.func64 (Bo.calls ((An l0_1 x18_2).f0) 0 (wrap64 (a0_0-1)) false _ A13.out) ?_;rintro e w' ⟨rfl,⟨nd,rfl⟩⟩;refine ⟨_,rfl,?_⟩)));go_ret;exact ⟨eqv,upW HB⟩
      ·rw [if_neg c10] at H;have c10b0:=decide_eq_false c10;clear c10;obtain ⟨t119,A34,H⟩:=bnd H;replace H:(some t119)=some r:=H;obtain rfl:=Option.some.inj H;obtain ⟨hcz35_0,hcz35_1,hfz35_0,hfz35_1⟩:=cy2 BK117;(go_wp2_with (first|((with_reducible refine Ai (f:=87) rfl ?_);refine cgo (some 47) Try.func87 (Ao.calls k2 a0_0 _ _ l0_1 t119 _ ?side1 ?side2 A34.out) ?_;(case side1=>exact upC (Kd.C_below HR0_1.out HB.out));(case side2=>exact HC0_1.out);rintro e w36 ⟨rfl,hb⟩;refine ⟨_,rfl,?_⟩;replace BK117:=kb BK117 hb;replace HB:=wb HB hb;(try clear hb))));go_ret;exact ⟨eqv,upW HB⟩

/-! ### a square table, laid open by its blocks: what eliminates in it, and its determinant by exact divisions -/
theorem J8 {n:Int} (h0 : -9223372036854775808≤n) (h1:n≤9223372036854775807):wrap64 n=n:=by unfold wrap64;omega
def dAt (M:List (List Int)) (i j:Nat):Int:=(M.getD i []).getD j 0
def Gg (M:List (List Int)) (i j:Nat) (x:Int):List (List Int):=M.set i ((M.getD i []).set j x)
def Ga (M:List (List Int)) (i k:Nat):List (List Int):=(M.set i (M.getD k [])).set k (M.getD i [])
def Ds (M:List (List Int)) (k:Nat):Nat→Nat→Nat
 | 0,i=>i
 | m+1,i=>if dAt M i k=0 then Ds M k m (i+1) else i
def Gk (M:List (List Int)) (k:Nat) (b:Int) (i j:Nat):Int:=wrap64 (Int.tdiv (wrap64 (wrap64 (dAt M i j*dAt M k k)-wrap64 (dAt M i k*dAt M k j))) b)
def Iz (k:Nat) (b:Int) (i:Nat):Nat→Nat→List (List Int)→List (List Int)
 | 0,_,M=>M
 | m+1,j,M=>Iz k b i m (j+1) (Gg M i j (Gk M k b i j))
def G8 (n k:Nat) (b:Int):Nat→Nat→List (List Int)→List (List Int)
 | 0,_,M=>M
 | m+1,i,M=>G8 n k b m (i+1) (Iz k b i (n-(k+1)) (k+1) M)
def Il (n:Nat):Nat→Nat→List (List Int)→Int→Int→Int
 | 0,_,_,b,s=>wrap64 (s*b)
 | m+1,k,M,b,s =>
  if Ds M k (n-k) k=n then 0 else
   Il n m (k+1) (G8 n k b (n-(k+1)) (k+1) (if Ds M k (n-k) k=k then M else Ga M (Ds M k (n-k) k) k))
    (dAt (G8 n k b (n-(k+1)) (k+1) (if Ds M k (n-k) k=k then M else Ga M (Ds M k (n-k) k) k)) k k)
    (if Ds M k (n-k) k=k then s else wrap64 (-s))
def Jh (M:List (List Int)):Option Int:=if M≠[]∧∀ r ∈ M,r.length=M.length then some (Il M.length M.length 0 M 1 1) else none
/-- A table of n rows of n numbers: its rows' slices at block g, each row in a block of its own. -/
def D2 (w:World) (P:Nat→Prop) (g n:Nat) (rs cs:Nat→Nat) (M:List (List Int)):Prop :=
 (M.length=n∧∀ i,i<n→(M.getD i []).length=n) ∧
 (P g∧∃ cur:Array Value,w.heap[g]? = some (.cells cur 37 (0,0))∧∀ i,i<n→cur[i]? = some (.slice (some ⟨rs i,0,none⟩) n (cs i))) ∧
 (∀ i,i<n→P (rs i)∧n≤cs i∧∃ cur:Array Value,w.heap[rs i]? = some (.cells cur 3 (0,0))∧∀ j,j<n→cur[j]? = some (.int .i64 (dAt M i j))) ∧
 (∀ i j,i<n→j<n→rs i=rs j→i=j)
theorem D2.outer {w:World} {P:Nat→Prop} {g n:Nat} {rs cs:Nat→Nat} {M:List (List Int)} (h:D2 w P g n rs cs M) {i:Nat} (hi:i<n):w.cell? ⟨g,i,none⟩=some (.slice (some ⟨rs i,0,none⟩) n (cs i))∧w.frozen? ⟨g,i,none⟩=false:=by
 obtain ⟨_,⟨_,cur,hc,hv⟩,_⟩:=h;exact ⟨(Ac hc i).trans (hv i hi),Ci hc i⟩
theorem D2.cell {w:World} {P:Nat→Prop} {g n:Nat} {rs cs:Nat→Nat} {M:List (List Int)} (h:D2 w P g n rs cs M) {i j:Nat} (hi:i<n) (hj:j<n):w.cell? ⟨rs i,j,none⟩=some (.int .i64 (dAt M i j))∧w.frozen? ⟨rs i,j,none⟩=false:=by
 obtain ⟨_,_,h,_⟩:=h;obtain ⟨_,_,cur,hc,hv⟩:=h i hi;exact ⟨(Ac hc j).trans (hv j hj),Ci hc j⟩
theorem Uy (M:List (List Int)) (i j:Nat) (x:Int):(Gg M i j x).length=M.length:=by simp [Gg]
theorem dPut_row (M:List (List Int)) (i j:Nat) (x:Int) (q:Nat):((Gg M i j x).getD q []).length=(M.getD q []).length:=by
 unfold Gg;simp only [List.getD_eq_getElem?_getD,List.getElem?_set];(by_cases hq:i=q)
 ·subst hq;(by_cases hl:i<M.length)
  ·simp [hl]
  ·simp [hl]
 ·simp [hq]
theorem N0 {M:List (List Int)} {i j:Nat} (hi:i<M.length) (hj:j<(M.getD i []).length) (x:Int) (p q:Nat):dAt (Gg M i j x) p q=if p=i∧q=j then x else dAt M p q:=by
 unfold dAt Gg;simp only [List.getD_eq_getElem?_getD,List.getElem?_set] at hj ⊢;(by_cases hp:i=p)
 ·subst hp;rw [List.getElem?_eq_getElem hi] at hj ⊢;(by_cases hq:j=q)
  ·subst hq;simp only [Option.getD_some] at hj;simp [hi,hj]
  ·(have hq':q≠j:=fun e=>hq e.symm);simp [hi,hq,hq']
 ·(have hp':p≠i:=fun e=>hp e.symm);simp [hp,hp']
theorem D2.put {w:World} {P:Nat→Prop} {g n:Nat} {rs cs:Nat→Nat} {M:List (List Int)} (h:D2 w P g n rs cs M) {i j:Nat} (hi:i<n) (hj:j<n) (x:Int):D2 (w.setCell ⟨rs i,j,none⟩ (.int .i64 x)) P g n rs cs (Gg M i j x):=by
 obtain ⟨⟨hl,hr⟩,⟨hP,cur,hc,hv⟩,hrow,hinj⟩:=h;(have hAt:=fun p q=>N0 (M:=M) (i:=i) (j:=j) (by omega) (by rw [hr i hi];exact hj) x p q);refine ⟨⟨by rw [Uy];exact hl,fun q hq=>by rw [dPut_row];exact hr q hq⟩,⟨hP,cur,?_,hv⟩,fun q hq=>?_,hinj⟩
 ·obtain ⟨_,_,cur2,hc2,_⟩:=hrow i hi;refine Cc hc (fun e=>?_) _;have e2:g=rs i:=e;rw [← e2,hc] at hc2;(injection hc2 with hc2);(injection hc2 with _ hc2);(revert hc2);(decide)
 ·obtain ⟨hP2,hcap,cur2,hc2,hv2⟩:=hrow q hq;refine ⟨hP2,hcap,?_⟩;(by_cases hqi:q=i)
  ·subst hqi;refine ⟨_,Ij hc2 j _,fun p hp=>?_⟩
   have hs:j<cur2.size:=by
    have:=hv2 j hj;exact (Array.getElem?_eq_some_iff.1 this).1
   rw [hAt];(by_cases hpj:p=j)
   ·subst hpj;simp [hs]
   ·rw [Array.getElem?_setIfInBounds_ne (by omega),if_neg (fun e=>hpj e.2)];exact hv2 p hp
  ·refine ⟨cur2,Cc hc2 (fun e=>hqi (hinj q i hq hi e)) _,fun p hp=>?_⟩;rw [hAt,if_neg (fun e=>hqi e.1)];exact hv2 p hp
theorem K6 {M:List (List Int)} {i k:Nat} (hi:i<M.length) (hk:k<M.length) (q:Nat):(Ga M i k).getD q []=M.getD (if q=k then i else if q=i then k else q) []:=by
 unfold Ga;simp only [List.getD_eq_getElem?_getD,List.getElem?_set,List.length_set];(by_cases h1:k=q)
 ·(subst h1;simp [hk])
 ·(have h1':q≠k:=fun e=>h1 e.symm);(by_cases h2:i=q)
  ·(subst h2;simp [h1,h1',hi])
  ·(have h2':q≠i:=fun e=>h2 e.symm);simp [h1,h2,h1',h2']
theorem D2.swap {w:World} {P:Nat→Prop} {g n:Nat} {rs cs:Nat→Nat} {M:List (List Int)} (h:D2 w P g n rs cs M) {i k:Nat} (hi:i<n) (hk:k<n) :
  ∃ rs' cs',D2 ((w.setCell ⟨g,i,none⟩ (.slice (some ⟨rs k,0,none⟩) n (cs k))).setCell ⟨g,k,none⟩ (.slice (some ⟨rs i,0,none⟩) n (cs i))) P g n rs' cs' (Ga M i k):=by
 obtain ⟨⟨hl,hr⟩,⟨hP,cur,hc,hv⟩,hrow,hinj⟩:=h;(have hG:=fun q=>K6 (M:=M) (i:=i) (k:=k) (by omega) (by omega) q)
 have hlt:∀ q,q<n→(if q=k then i else if q=i then k else q)<n:=by
  intro q hq;(split)
  ·exact hi
  ·(split)
   ·exact hk
   ·exact hq
 refine ⟨fun q=>rs (if q=k then i else if q=i then k else q),fun q=>cs (if q=k then i else if q=i then k else q),⟨by simp [Ga,hl],fun q hq=>by rw [hG];exact hr _ (hlt q hq)⟩,⟨hP,_,Ij (Ij hc i _) k _,fun q hq=>?_⟩,fun q hq=>?_,fun p q hp hq he=>?_⟩
 ·(have hs:∀ p,p<n→p<cur.size:=fun p hp=>(Array.getElem?_eq_some_iff.1 (hv p hp)).1);(by_cases h1:q=k)
  ·subst h1;simp [hs q hq]
  ·rw [Array.getElem?_setIfInBounds_ne (by omega)];(by_cases h2:q=i)
   ·subst h2;simp [hs q hq,h1]
   ·rw [Array.getElem?_setIfInBounds_ne (by omega)];simp only [if_neg h1,if_neg h2];exact hv q hq
 ·obtain ⟨hP2,hcap,cur2,hc2,hv2⟩:=hrow _ (hlt q hq);refine ⟨hP2,hcap,cur2,?_,fun p hp=>?_⟩
  ·have hne:rs (if q=k then i else if q=i then k else q)≠g:=by
    intro e;rw [e,hc] at hc2;(injection hc2 with hc2);(injection hc2 with _ hc2);(revert hc2);(decide)
   exact Cc (Cc hc2 hne _) hne _
  ·rw [show dAt (Ga M i k) q p=dAt M (if q=k then i else if q=i then k else q) p by unfold dAt;rw [hG]];exact hv2 p hp
 ·have:=hinj _ _ (hlt p hp) (hlt q hq) he;(revert this);(split <;> split <;> (try split) <;> (try split) <;> omega)
theorem D2.step {w w1:World} {P:Nat→Prop} {g n:Nat} {rs cs:Nat→Nat} {M:List (List Int)} (h:D2 w P g n rs cs M) (hh:w1.heap=w.heap):D2 w1 P g n rs cs M:=by
 unfold D2 at h ⊢;rw [hh];exact h
/-- Of a table that is told as rows of the call's own, apart. -/
theorem D2.of_S {w:World} {base:Nat} {P:Nat→Prop} {v:Value} {M:List (List Int)} (h:Kd.S (Kd.slice 3 (Kd.int .i64)) 37 w base P v M) (hne:M≠[]) (hsq:∀ r ∈ M,r.length=M.length) :
  ∃ g c rs cs,v=.slice (some ⟨g,0,none⟩) M.length c∧D2 w P g M.length rs cs M:=by
 obtain ⟨f,h0,Av,ho,hr⟩:=h;have hpos:0<M.length:=List.length_pos_iff.2 hne;rw [List.length_zipIdx] at ho;have hsz:(Kd.tag f (Kd.slice 3 (Kd.int .i64))).sz=1:=rfl;rw [hsz] at ho hr;(rcases ho.2 with ⟨_,h1⟩|⟨g,cap,cur,rfl,hb,hh,hnc,hcm,hcs,ht⟩)
 ·omega
 have hrow:∀ i,i<M.length→∃ rg rc,Av[i]? = some (.slice (some ⟨rg,0,none⟩) M.length rc)∧f rg=i∧P rg∧M.length≤rc∧∃ cur:Array Value,w.heap[rg]? = some (.cells cur 3 (0,0))∧∀ j,j<M.length→cur[j]? = some (.int .i64 (dAt M i j)):=by
  intro i hi;(have hz:M.zipIdx[i]? = some (M[i],i):=by simp [hi]);have hm:=hr.2 i _ hz;obtain ⟨u,hu,hR⟩:∃ u,(Av.drop (i*1)).take 1=[u]∧(Kd.int .i64).R 3 w base (fun k=>(P k∧some k≠(Value.slice (some ⟨g,0,none⟩) M.length cap).ownBlock)∧f k=i) u M[i]:=hm;have hlen:M[i].length=M.length:=hsq _ (List.getElem_mem hi);obtain ⟨rg,rc,rfl,_,_,_⟩:=Kd.R_form hR (by omega)
  have hin:Av[i]? = some (.slice (some ⟨rg,0,none⟩) M[i].length rc):=by
   have:=congrArg (fun l=>l[0]?) hu;(simpa [List.getElem?_take,List.getElem?_drop] using this)
  have hok:=hR.1 rg rfl;have hown:=Kd.own_of_R hR;refine ⟨rg,rc,by rw [hin,hlen],hok.2,hok.1.1,by have:=(Kd.R_reads' hR).2.1;omega,?_⟩;(rcases hown.2 with ⟨h2,_⟩|⟨g2,cap2,cur2,h2,_,h4,h5,_,_,h7⟩)
  ·cases h2
  (injection h2 with h2 _ _);(injection h2 with h2);(injection h2 with h2);subst h2;refine ⟨cur2,h4,fun j hj=>?_⟩
  have h8:cur2.toList[j]? = (Gt (Value.int .i64) M[i])[j]? := by
   rw [← h7,List.getElem?_take,if_pos (by omega)]
  rw [Array.getElem?_toList] at h8;rw [h8,Ut (d:=(0:Int)) _ _ (by omega)];simp [dAt,List.getD_eq_getElem?_getD,List.getElem?_eq_getElem hi]
 classical
 refine ⟨g,cap,fun i=>if h:i<M.length then (hrow i h).choose else 0,fun i=>if h:i<M.length then (hrow i h).choose_spec.choose else 0,rfl,⟨rfl,fun i hi=>?_⟩,⟨h0 g rfl,cur,hh,fun i hi=>?_⟩,fun i hi=>?_,fun i j hi hj he=>?_⟩
 ·rw [List.getD_eq_getElem?_getD,List.getElem?_eq_getElem hi];exact hsq _ (List.getElem_mem hi)
 ·have hs:=(hrow i hi).choose_spec.choose_spec.1;simp only [dif_pos hi];rw [← hs,← Array.getElem?_toList,← ht,List.getElem?_take,if_pos (by omega)]
 ·have hs:=(hrow i hi).choose_spec.choose_spec.2.2;simp only [dif_pos hi];exact ⟨hs.1,hs.2.1,hs.2.2⟩
 ·have h1:=(hrow i hi).choose_spec.choose_spec.2.1;have h2:=(hrow j hj).choose_spec.choose_spec.2.1;simp only [dif_pos hi,dif_pos hj] at he;rw [← h1,← h2,he]

end Go.Proofs.Yteaomckihokakaa.PFnNetsFlowOfAll
