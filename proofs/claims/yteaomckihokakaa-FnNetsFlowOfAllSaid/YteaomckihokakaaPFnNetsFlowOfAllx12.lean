-- made for this claim by a program of this session
import Derived.Test.YteaomckihokakaaPFnNetsFlowOfAllx0
import Derived.Test.YteaomckihokakaaPFnNetsFlowOfAllx2
import Derived.Test.YteaomckihokakaaPFnNetsFlowOfAllx3
import Derived.Test.YteaomckihokakaaPFnNetsFlowOfAllx7
namespace Go.Proofs.Yteaomckihokakaa.PFnNetsFlowOfAll
open Go.RowKit Go.Proofs.YteaomckihokakaaW.PrintWords Go.Proofs.YteaomckihokakaaW.PrintLast Go.Proofs.YteaomckihokakaaW.PrintMore
attribute [local go_sem] C6 C7 Dn Do Cv Cw C8 C9 -- for this text's walks alone
set_option linter.unusedVariables false
set_option linter.unusedSimpArgs false

/-! ### Bz: function 27 -/
def Bz.l0:Nat→List Int→List Int→Int→Int→Option (Bool)
 | 0,_,_,_,_=>none
 | k+1,x0,x1,x12,x13=>if x13<x12 then (if 0≤x13 then (if x13<(x0.length:Int) then (if x13<(x1.length:Int) then (if (rd x0 x13)=(rd x1 x13) then (Bz.l0 k x0 x1 x12 (wrap64 (x13+1))) else (some false)) else (none)) else (none)) else (none)) else (some true)
def Bz.f (k:Nat) (l0:List Int) (l1:List Int):Option (Bool):=if (l0.length:Int)=(l1.length:Int) then (Bz.l0 k l0 l1 (l0.length:Int) 0) else (some false)
set_option maxHeartbeats 8000000 in
set_option maxRecDepth 100000 in
theorem Bz.calls (k:Nat) (A0:Option Addr) (c0:Nat) (l0:List Int) (A1:Option Addr) (c1:Nat) (l1:List Int) (r:Bool) (w:World) (hr0:Kd.C (Kd.int .i64) w A0 l0.length l0) (hc0:l0.length≤c0) (hr1:Kd.C (Kd.int .i64) w A1 l1.length l1) (hc1:l1.length≤c1) (h:Bz.f k l0 l1=some r) :
  Calls Try.prog 27 #[.slice A0 l0.length c0,.slice A1 l1.length c1] w fun e w'=>e=.returned (.bool r)∧Da w w':=by
 have HR0:=am hr0;have HC0:=am hc0;clear hr0 hc0;have HR1:=am hr1;have HC1:=am hc1;clear hr1 hc1;have H:=h;clear h;unfold Bz.f at H;(by_cases c3:(l0.length:Int)=(l1.length:Int))
 ·rw [if_pos c3] at H;have c3b0:((l0.length:Int)==(l1.length:Int))=true:=beq_iff_eq.mpr c3;have c3b1:((l0.length:Int) != (l1.length:Int))=false:=bne_eq_false_iff_eq.mpr c3;(have c3b2:(l0.length==l1.length)=true:=by first|simpa using c3|(simp at c3 ⊢;omega));clear c3;have H':=am H;clear H;go_enter Try.func27,Try.ntmps27;go_wp2;(repeat (go_quiet (fail);try go_wp2));(go_loopg [13] k (fun kq v13 w'=>∃ (x13_1:Int),v13=.int .i64 x13_1∧Aa (Bz.l0 kq l0 l1 (l0.length:Int) x13_1=some r)∧Aa (kq≤k)∧Da w w'));(case atStart=>exact ⟨(0),(eqw),H',⟨Nat.le_refl _⟩,dz⟩)
  case round =>
   clear H';(try clear c3b0 c3b1 c3b2);obtain ⟨x13_1,rfl,HA,HK1,⟨m1,rfl⟩⟩:=hrel
   cases gk with
   | zero=>exact absurd HA.out (by simp [Bz.l0])
   | succ k1 =>
    have H:=HA.out;clear HA;simp only [Bz.l0] at H;(by_cases c4:x13_1<(l0.length:Int))
    ·rw [if_pos c4] at H;have c4b0:=decide_eq_true c4;clear c4;obtain ⟨c5,H⟩:=ip H;have c5b0:=decide_eq_true c5;clear c5;obtain ⟨c6,H⟩:=ip H;have c6b0:=decide_eq_true c6;clear c6;obtain ⟨c7,H⟩:=ip H;have c7b0:=decide_eq_true c7;clear c7;(by_cases c8:(rd l0 x13_1)=(rd l1 x13_1))
     ·rw [if_pos c8] at H;have c8b0:((rd l0 x13_1)==(rd l1 x13_1))=true:=beq_iff_eq.mpr c8;have c8b1:((rd l0 x13_1) != (rd l1 x13_1))=false:=bne_eq_false_iff_eq.mpr c8;clear c8;have H':=am H;clear H;have p350:0≤(x13_1:Int):=oda;have q350:x13_1<(l0.length:Int):=oda;obtain ⟨ad350,e350,hx350_0⟩:=Kd.at_int HR0.out x13_1 p350 q350;cases e350;replace p350:=eq_true p350;replace q350:=eq_true q350;have p351:0≤(x13_1:Int):=oda;have q351:x13_1<(l1.length:Int):=oda;obtain ⟨ad351,e351,hx351_0⟩:=Kd.at_int HR1.out x13_1 p351 q351;cases e351;replace p351:=eq_true p351;replace q351:=eq_true q351;go_wp2;(repeat (go_quiet (fail);try go_wp2));go_roundg k1;(case measure=>have:=HK1.out;omega);(case rel=>exact ⟨(wrap64 (x13_1+1)),(eqw),H',⟨by have:=HK1.out;omega⟩,dz⟩)
     ·rw [if_neg c8] at H;have c8b0:((rd l0 x13_1)==(rd l1 x13_1))=false:=beq_eq_false_iff_ne.mpr c8;have c8b1:((rd l0 x13_1) != (rd l1 x13_1))=true:=bne_iff_ne.mpr c8;obtain rfl:=Option.some.inj H;have p350:0≤(x13_1:Int):=oda;have q350:x13_1<(l0.length:Int):=oda;obtain ⟨ad350,e350,hx350_0⟩:=Kd.at_int HR0.out x13_1 p350 q350;cases e350;replace p350:=eq_true p350;replace q350:=eq_true q350;have p351:0≤(x13_1:Int):=oda;have q351:x13_1<(l1.length:Int):=oda;obtain ⟨ad351,e351,hx351_0⟩:=Kd.at_int HR1.out x13_1 p351 q351;cases e351;replace p351:=eq_true p351;replace q351:=eq_true q351;go_wp2;(repeat (go_quiet (fail);try go_wp2));go_ret;exact ⟨eqw,dz⟩
    ·rw [if_neg c4] at H;have c4b0:=decide_eq_false c4;clear c4;obtain rfl:=Option.some.inj H;go_wp2;(repeat (go_quiet (fail);try go_wp2));go_ret;exact ⟨eqw,dz⟩
 ·rw [if_neg c3] at H;have c3b0:((l0.length:Int)==(l1.length:Int))=false:=beq_eq_false_iff_ne.mpr c3;have c3b1:((l0.length:Int) != (l1.length:Int))=true:=bne_iff_ne.mpr c3;(have c3b2:(l0.length==l1.length)=false:=by first|simpa using c3|(simp at c3 ⊢;omega));obtain rfl:=Option.some.inj H;go_enter Try.func27,Try.ntmps27;go_wp2;(repeat (go_quiet (fail);try go_wp2));go_ret;exact ⟨eqw,dz⟩

/-! ### Gn: function 29 -/
def Gn.f (k:Nat) (a0_0:Int) (l0_1:List (S47)):Option (Bool):=(Bi.f k a0_0 l0_1).bind fun t353=>(some t353)
set_option maxHeartbeats 8000000 in
set_option maxRecDepth 100000 in
theorem Gn.calls (k:Nat) (a0_0:Int) (A0_1:Option Addr) (c0_1:Nat) (l0_1:List (S47)) (r:Bool) (w:World) (hr0_1:Kd.C k47 w A0_1 l0_1.length l0_1) (hc0_1:l0_1.length≤c0_1) (h:Gn.f k a0_0 l0_1=some r) :
  Calls Try.prog 29 #[.agg #[.int .i64 a0_0,.slice A0_1 l0_1.length c0_1]] w fun e w'=>e=.returned (.bool r)∧Below w.heap.size w w':=by
 have hu36:=Try.underlying36;have HR0_1:=am hr0_1;have HC0_1:=am hc0_1;clear hr0_1 hc0_1;have HB:=am (Below.refl w.heap.size w);have H:=h;clear h;unfold Gn.f at H;obtain ⟨t353,A2,H⟩:=bnd H;replace H:(some t353)=some r:=H;obtain rfl:=Option.some.inj H;go_enter Try.func29,Try.ntmps29;(go_wp2_with (first|((with_reducible refine Ak (N:=1) rfl ?_);refine Bd 1 (#[.int .i64 a0_0,.slice A0_1 l0_1.length c0_1]) 36 ?_;intro gb352 hg w3 hbox hb;have BK352:=am (hbox);have GW352:=am (gz hg HB);have GE352:=am (gz hg HB);replace HB:=wb HB hb;clear hb hbox hg;obtain ⟨hcz4_0,hcz4_1,hfz4_0,hfz4_1⟩:=cy2 BK352)|((with_reducible refine Ai (f:=78) rfl ?_);refine cgo (some 4) Try.func78 (Bi.calls k a0_0 _ _ l0_1 t353 _ ?side1 ?side2 A2.out) ?_;(case side1=>exact upC (Kd.C_below HR0_1.out HB.out));(case side2=>exact HC0_1.out);rintro e w5 ⟨rfl,hb⟩;refine ⟨_,rfl,?_⟩;replace BK352:=kb BK352 hb;replace HB:=wb HB hb;(try clear hb))));go_ret;exact ⟨eqv,upW HB⟩

/-- the first place at which p holds, or -1 -/
def pidx {α:Type} (p:α→Bool) (l:List α):Int:=if l.any p then ((l.findIdx p:Nat):Int) else -1
theorem R5 {α:Type} (p:α→Bool) (l:List α) (k:Nat) (a:α) (hk:l[k]? = some a) (ha:p a=true) (h:∀ j,j<k→∀ b,l[j]? = some b→p b=false):pidx p l=k:=by
 have hlt:k<l.length:=(List.getElem?_eq_some_iff.1 hk).1;have e:l[k]=a:=(List.getElem?_eq_some_iff.1 hk).2;have h1:l.any p=true:=List.any_eq_true.2 ⟨a,by rw [← e];exact List.getElem_mem hlt,ha⟩;unfold pidx;rw [if_pos h1];(congr 1);rw [List.findIdx_eq hlt];exact ⟨by rw [e];exact ha,fun j hj=>h j hj _ (List.getElem?_eq_getElem (by omega))⟩
theorem Rd {α:Type} (p:α→Bool) (l:List α) (h:∀ j,j<l.length→∀ b,l[j]? = some b→p b=false):pidx p l = -1:=by
 unfold pidx;rw [if_neg];intro hc;obtain ⟨a,ha,hp⟩:=List.any_eq_true.1 hc;obtain ⟨i,hi⟩:=List.getElem?_of_mem ha;have:=h i (List.getElem?_eq_some_iff.1 hi).1 a hi;(rw [this] at hp;cases hp)

theorem R6 {α:Type} (p:α→Bool) (l:List α):decide (0≤pidx p l)=l.any p:=by
 unfold pidx;cases h:l.any p
 ·rfl
 ·simp

/-! ### Gu: function 141 -/
set_option maxHeartbeats 8000000 in
theorem Gu.with (p:Int→Bool) (fv:Nat) (lb:Array Value) (A:Option Addr) (c:Nat) (l:List Int) (w:World) (hr:Kd.C (Kd.int .i64) w A l.length l)
  (eg:∀ args w,(callFunc fv args).run Try.prog w=.ok (.enter fv args) w)
  (hp:∀ (W:World) (t:Int),t ∈ l→Below w.heap.size w W→Calls Try.prog fv (#[.int .i64 t]++lb) W fun e w'=>e=.returned (.bool (p t))∧Below w.heap.size w w') :
  Calls Try.prog 141 #[.slice A l.length c,.func (.func fv) #[] lb] w fun e w'=>e=.returned (.int .i64 (pidx p l))∧Below w.heap.size w w':=by
 have hbig:l.length≤9223372036854775807:=hr.2.1;have HP:=Lib.hid hp;clear hp;go_enter Try.func141,Try.ntmps141;go_wp2;(go_loopg [5,8] l.length (fun gg _ s8 wr=>∃ kk:Nat,kk≤l.length∧l.length-kk≤gg∧s8=.int .i64 kk∧Aside (Below w.heap.size w wr)∧Aside (∀ j,j<kk→∀ b,l[j]? = some b→p b=false)));(case atStart=>exact ⟨0,Nat.zero_le _,by omega,rfl,Below.refl _ w,fun j hj=>absurd hj (Nat.not_lt_zero _)⟩)
 case round =>
  obtain ⟨kk,hkk,hg,rfl,BW,HA⟩:=hrel;(by_cases hlt:kk<l.length)
  ·(have hltz:(kk:Int)<(l.length:Int):=by omega);obtain ⟨ad,rfl,hx0⟩:=Kd.at_int hr (kk:Int) (by omega) hltz;replace hx0:=(BW.out.cell (World.block_lt_of_cell? w _ hx0)).trans hx0;(have hm:rd l kk ∈ l:=by unfold rd;simp [List.getD,hlt]);(have he:l[kk]? = some (rd l kk):=by unfold rd;simp [List.getD,hlt]);have hcall:=HP.out wr (rd l kk) hm BW.out;generalize hy:rd l kk=y at hx0 hcall he;have HE:=Lib.hid he;clear hy hm he;simp only [Int.toNat_natCast] at hx0
   cases hq:p y with
   | true =>
    rw [hq] at hcall;(have HQ:=Lib.hid hq;clear hq);(go_wp2_with (go_at_fn fv;refine hcall.mono ?_;rintro e w' ⟨rfl,hb'⟩));go_ret;refine ⟨?_,hb'⟩;(rw [R5 p l kk y HE.out HQ.out HA.out];rfl)
   | false =>
    rw [hq] at hcall;(have HQ:=Lib.hid hq;clear hq);(go_wp2_with (go_at_fn fv;refine hcall.mono ?_;rintro e w' ⟨rfl,hb'⟩));go_roundg (l.length-(kk+1));(case measure=>omega)
    case rel =>
     refine ⟨kk+1,by omega,by omega,by go_num,hb',(show Aside _ from fun j hj b hb=>?_)⟩;(by_cases e:j=kk)
     ·subst e;(rw [HE.out] at hb;obtain rfl:=Option.some.inj hb;exact HQ.out)
     ·exact HA.out j (by omega) b hb
  ·(have hltz:¬ (kk:Int)<(l.length:Int):=by omega);(have:kk=l.length:=by omega);subst this;go_wp2;go_ret;refine ⟨?_,BW.out⟩;(rw [Rd p l HA.out];rfl)

/-! ### E2: function 89 -/
set_option maxHeartbeats 8000000 in
theorem E2.with (p:Int→Bool) (fv:Nat) (lb:Array Value) (A:Option Addr) (c:Nat) (l:List Int) (w:World) (hr:Kd.C (Kd.int .i64) w A l.length l)
  (eg:∀ args w,(callFunc fv args).run Try.prog w=.ok (.enter fv args) w)
  (hp:∀ (W:World) (t:Int),t ∈ l→Below w.heap.size w W→Calls Try.prog fv (#[.int .i64 t]++lb) W fun e w'=>e=.returned (.bool (p t))∧Below w.heap.size w w') :
  Calls Try.prog 89 #[.slice A l.length c,.func (.func fv) #[] lb] w fun e w'=>e=.returned (.bool (l.any p))∧Below w.heap.size w w':=by
 have HP:=Lib.hid hp;clear hp;have e0:decide (0≤pidx p l)=l.any p:=R6 p l;generalize l.any p=b at e0 ⊢;have HE:=Lib.hid e0;clear e0;go_enter Try.func89,Try.ntmps89;(go_wp2_with (go_at_call 141;refine (Gu.with p fv lb A c l _ hr eg HP.out).mono ?_;rintro e w' ⟨rfl,hb'⟩));go_ret;exact ⟨by rw [← HE.out];rfl,hb'⟩

/-! ### Ju: function 125 -/
set_option maxHeartbeats 8000000 in
theorem Ju.calls (n:Int) (g1:Nat) (lo:Int) (g2:Nat) (hi:Int) (w:World) (h1:w.heap[g1]? = some (.cells #[.int .i64 lo] 3 (0,0))) (h2:w.heap[g2]? = some (.cells #[.int .i64 hi] 3 (0,0))) :
  Calls Try.prog 125 #[.int .i64 n,.pointer (some ⟨g1,0,none⟩),.pointer (some ⟨g2,0,none⟩)] w fun e w'=>e=.returned (.bool (!(decide (lo≤n∧n≤hi))))∧Below w.heap.size w w':=by
 have c1:w.cell? ⟨g1,0,none⟩=some (.int .i64 lo):=(Ac h1 0).trans rfl;have c2:w.cell? ⟨g2,0,none⟩=some (.int .i64 hi):=(Ac h2 0).trans rfl;clear h1 h2;obtain ⟨b,hb⟩:∃ b,b=decide (lo≤n∧n≤hi):=⟨_,rfl⟩
 have hf:Bo.f n lo hi=some b:=by
  (rw [hb];unfold Bo.f);(by_cases h:lo≤n)
  ·(rw [if_pos h];simp [h])
  ·(rw [if_neg h];simp [h])
 have HF:=Lib.hid hf;rw [← hb];clear hb hf;go_enter Try.func125,Try.ntmps125;(go_wp2_with (go_at_call 64;(with_reducible refine (Bo.calls n lo hi b _ HF.out).mono ?_);rintro e w' ⟨rfl,⟨nd,rfl⟩⟩));go_ret;exact ⟨rfl,by repeat (first|exact Below.refl _ _|apply Db|apply Dk|apply Bg)⟩

/-! ### Ch: the pair slices.ContainsFunc[[]int,int] -/
def Ch.f (l:List Int) (lo hi:Int):Option Bool:=some (l.any fun n => !(decide (lo≤n∧n≤hi)))
theorem Ch.calls (A0:Option Addr) (c0:Nat) (l0:List Int) (g1:Nat) (lo:Int) (g2:Nat) (hi:Int) (r:Bool) (w:World) (hr0:Kd.C (Kd.int .i64) w A0 l0.length l0) (hc0:l0.length≤c0)
  (h1:w.heap[g1]? = some (.cells #[.int .i64 lo] 3 (0,0))) (h2:w.heap[g2]? = some (.cells #[.int .i64 hi] 3 (0,0))) (h:Ch.f l0 lo hi=some r) :
  Calls Try.prog 89 #[.slice A0 l0.length c0,.func (.func 125) #[] #[.pointer (some ⟨g1,0,none⟩),.pointer (some ⟨g2,0,none⟩)]] w fun e w'=>e=.returned (.bool r)∧Below w.heap.size w w':=by
 obtain rfl:=Option.some.inj h;(refine E2.with _ 125 _ A0 c0 l0 w hr0 (fun args w=>Js Try.func125 (by kernel_rfl) rfl args w) fun W t _ hb=>?_);(exact (Ju.calls t g1 lo g2 hi W (Dp h1 hb) (Dp h2 hb)).mono fun e w' ⟨he,hb'⟩=>⟨he,I4 hb hb'⟩)

/-! ### Ge: function 67 -/
def Ge.f (l0:List Int) (a1:Int) (a2:Int):Option (Bool):=(Ch.f l0 a1 a2).bind fun t356=>(some (!t356))
set_option maxHeartbeats 8000000 in
set_option maxRecDepth 100000 in
theorem Ge.calls (A0:Option Addr) (c0:Nat) (l0:List Int) (a1:Int) (a2:Int) (r:Bool) (w:World) (hr0:Kd.C (Kd.int .i64) w A0 l0.length l0) (hc0:l0.length≤c0) (h:Ge.f l0 a1 a2=some r) :
  Calls Try.prog 67 #[.slice A0 l0.length c0,.int .i64 a1,.int .i64 a2] w fun e w'=>e=.returned (.bool r)∧Below w.heap.size w w':=by
 (have hmf:∀ (fn:Fn) (first cap:Array Value) (w:World),(Instr.makeFunc fn first cap).run Try.prog w=.ok (.func fn first cap) w:=fun _ _ _ _=>rfl);have HR0:=am hr0;have HC0:=am hc0;clear hr0 hc0;have HB:=am (Below.refl w.heap.size w);have H:=h;clear h;unfold Ge.f at H;obtain ⟨t356,A4,H⟩:=bnd H;replace H:(some (!t356))=some r:=H;obtain rfl:=Option.some.inj H;go_enter Try.func67,Try.ntmps67;(go_wp2_with (first|((with_reducible refine Ak (N:=4) rfl ?_);refine Bd 4 (#[.int .i64 a1]) 3 ?_;intro gb354 hg w5 hbox hb;have BK354:=am (hbox);have GW354:=am (gz hg HB);have GE354:=am (gz hg HB);replace HB:=wb HB hb;clear hb hbox hg)|((with_reducible refine Ak (N:=5) rfl ?_);refine Bd 5 (#[.int .i64 a2]) 3 ?_;intro gb355 hg w6 hbox hb;have BK355:=am (hbox);have GW355:=am (gz hg HB);have GE355:=am (gz hg HB);replace HB:=wb HB hb;have NB354_355:=am (gn hg BK354);have NB355_354:=am ((by rw [hg];exact Nat.ne_of_gt (Be (upK BK354)):gb355≠gb354));replace BK354:=kb BK354 hb;clear hb hbox hg)|((with_reducible refine Ai (f:=89) rfl ?_);refine cgo (some 9) Try.func89 (Ch.calls _ _ l0 gb354 a1 gb355 a2 t356 _ ?side1 ?side2 ?side3 ?side4 A4.out) ?_;(case side1=>exact upC (Kd.C_below HR0.out HB.out));(case side2=>exact HC0.out);(case side3=>exact (upK BK354));(case side4=>exact (upK BK355));rintro e w7 ⟨rfl,hb⟩;refine ⟨_,rfl,?_⟩;replace BK354:=kb BK354 hb;replace BK355:=kb BK355 hb;replace HB:=wb HB hb;(try clear hb))));go_ret;exact ⟨eqv,upW HB⟩

/-! ### C2: function 88 -/
def C2.f (k:Nat) (a0_0:Int) (l0_1:List (S47)) (l1:List Int):Option (Bool):=(Bt.f k a0_0 l0_1).bind fun t358=>(if t358=true then (if (l1.length:Int)=(l0_1.length:Int) then ((Ge.f l1 (-1000000) 1000000).bind fun t359=>(some t359)) else (some false)) else (some false))
set_option maxHeartbeats 8000000 in
set_option maxRecDepth 100000 in
theorem C2.calls (k:Nat) (a0_0:Int) (A0_1:Option Addr) (c0_1:Nat) (l0_1:List (S47)) (A1:Option Addr) (c1:Nat) (l1:List Int) (r:Bool) (w:World) (hr0_1:Kd.C k47 w A0_1 l0_1.length l0_1) (hc0_1:l0_1.length≤c0_1) (hr1:Kd.C (Kd.int .i64) w A1 l1.length l1) (hc1:l1.length≤c1) (h:C2.f k a0_0 l0_1 l1=some r) :
  Calls Try.prog 88 #[.agg #[.int .i64 a0_0,.slice A0_1 l0_1.length c0_1],.slice A1 l1.length c1] w fun e w'=>e=.returned (.bool r)∧Below w.heap.size w w':=by
 have hu36:=Try.underlying36;have HR0_1:=am hr0_1;have HC0_1:=am hc0_1;clear hr0_1 hc0_1;have HR1:=am hr1;have HC1:=am hc1;clear hr1 hc1;have HB:=am (Below.refl w.heap.size w);have H:=h;clear h;unfold C2.f at H;obtain ⟨t358,A3,H⟩:=bnd H;(try dsimp only at H);(by_cases c4:t358=true)
 ·subst c4;replace H:=yT H;(by_cases c5:(l1.length:Int)=(l0_1.length:Int))
  ·rw [if_pos c5] at H;have c5b0:((l1.length:Int)==(l0_1.length:Int))=true:=beq_iff_eq.mpr c5;have c5b1:((l1.length:Int) != (l0_1.length:Int))=false:=bne_eq_false_iff_eq.mpr c5;(have c5b2:(l1.length==l0_1.length)=true:=by first|simpa using c5|(simp at c5 ⊢;omega));clear c5;obtain ⟨t359,A6,H⟩:=bnd H;replace H:(some t359)=some r:=H;obtain rfl:=Option.some.inj H;go_enter Try.func88,Try.ntmps88;(go_wp2_with (first|((with_reducible refine Ak (N:=2) rfl ?_);(try (refine Cb (by rfl) ?_;dsimp only));refine Bd 2 (#[.int .i64 a0_0,.slice A0_1 l0_1.length c0_1]) 36 ?_;intro gb357 hg w7 hbox hb;have BK357:=am (hbox);have GW357:=am (gz hg HB);have GE357:=am (gz hg HB);replace HB:=wb HB hb;clear hb hbox hg;obtain ⟨hcz8_0,hcz8_1,hfz8_0,hfz8_1⟩:=cy2 BK357)|((with_reducible refine Ai (f:=28) rfl ?_);refine cgo (some 6) Try.func28 (Bt.calls k a0_0 _ _ l0_1 true _ ?side1 ?side2 A3.out) ?_;(case side1=>exact upC (Kd.C_below HR0_1.out HB.out));(case side2=>exact HC0_1.out);rintro e w9 ⟨rfl,hb⟩;refine ⟨_,rfl,?_⟩;replace BK357:=kb BK357 hb;replace HB:=wb HB hb;(try clear hb);obtain ⟨hcz10_0,hcz10_1,hfz10_0,hfz10_1⟩:=cy2 BK357)|(go_at_call 67;(with_reducible refine (Ge.calls _ _ l1 (-1000000) 1000000 t359 _ ?side1 ?side2 A6.out).mono ?_);(case side1=>exact upC (Kd.C_below HR1.out HB.out));(case side2=>exact HC1.out);rintro e w11 ⟨rfl,hb⟩;replace BK357:=kb BK357 hb;replace HB:=wb HB hb;(try clear hb))));go_ret;exact ⟨eqv,upW HB⟩
  ·rw [if_neg c5] at H;have c5b0:((l1.length:Int)==(l0_1.length:Int))=false:=beq_eq_false_iff_ne.mpr c5;have c5b1:((l1.length:Int) != (l0_1.length:Int))=true:=bne_iff_ne.mpr c5;(have c5b2:(l1.length==l0_1.length)=false:=by first|simpa using c5|(simp at c5 ⊢;omega));obtain rfl:=Option.some.inj H;go_enter Try.func88,Try.ntmps88;(go_wp2_with (first|((with_reducible refine Ak (N:=2) rfl ?_);(try (refine Cb (by rfl) ?_;dsimp only));refine Bd 2 (#[.int .i64 a0_0,.slice A0_1 l0_1.length c0_1]) 36 ?_;intro gb357 hg w12 hbox hb;have BK357:=am (hbox);have GW357:=am (gz hg HB);have GE357:=am (gz hg HB);replace HB:=wb HB hb;clear hb hbox hg;obtain ⟨hcz13_0,hcz13_1,hfz13_0,hfz13_1⟩:=cy2 BK357)|((with_reducible refine Ai (f:=28) rfl ?_);refine cgo (some 6) Try.func28 (Bt.calls k a0_0 _ _ l0_1 true _ ?side1 ?side2 A3.out) ?_;(case side1=>exact upC (Kd.C_below HR0_1.out HB.out));(case side2=>exact HC0_1.out);rintro e w14 ⟨rfl,hb⟩;refine ⟨_,rfl,?_⟩;replace BK357:=kb BK357 hb;replace HB:=wb HB hb;(try clear hb);obtain ⟨hcz15_0,hcz15_1,hfz15_0,hfz15_1⟩:=cy2 BK357)));go_ret;exact ⟨eqv,upW HB⟩
 ·replace c4:=Bool.eq_false_iff.mpr c4;subst c4;replace H:=yF H;obtain rfl:=Option.some.inj H;go_enter Try.func88,Try.ntmps88;(go_wp2_with (first|((with_reducible refine Ak (N:=2) rfl ?_);(try (refine Cb (by rfl) ?_;dsimp only));refine Bd 2 (#[.int .i64 a0_0,.slice A0_1 l0_1.length c0_1]) 36 ?_;intro gb357 hg w16 hbox hb;have BK357:=am (hbox);have GW357:=am (gz hg HB);have GE357:=am (gz hg HB);replace HB:=wb HB hb;clear hb hbox hg;obtain ⟨hcz17_0,hcz17_1,hfz17_0,hfz17_1⟩:=cy2 BK357)|((with_reducible refine Ai (f:=28) rfl ?_);refine cgo (some 6) Try.func28 (Bt.calls k a0_0 _ _ l0_1 false _ ?side1 ?side2 A3.out) ?_;(case side1=>exact upC (Kd.C_below HR0_1.out HB.out));(case side2=>exact HC0_1.out);rintro e w18 ⟨rfl,hb⟩;refine ⟨_,rfl,?_⟩;replace BK357:=kb BK357 hb;replace HB:=wb HB hb;(try clear hb))));go_ret;exact ⟨eqv,upW HB⟩

/-! ### Mn: function 90 -/
set_option maxHeartbeats 8000000 in
theorem Mn.calls (n:Int) (w:World) :
  Calls Try.prog 90 #[.int .i64 n] w fun e w'=>e=.returned (.bool (n != 0))∧Below w.heap.size w w':=by
 go_enter Try.func90,Try.ntmps90;go_wp2;go_ret;exact ⟨rfl,Below.refl _ _⟩

/-! ### Cf: the pair slices.ContainsFunc[[]int,int] -/
def Cf.f (l:List Int):Option Bool:=some (l.any fun n=>n != 0)
theorem Cf.calls (A0:Option Addr) (c0:Nat) (l0:List Int) (r:Bool) (w:World) (hr0:Kd.C (Kd.int .i64) w A0 l0.length l0) (hc0:l0.length≤c0) (h:Cf.f l0=some r) :
  Calls Try.prog 89 #[.slice A0 l0.length c0,.func (.func 90) #[] #[]] w fun e w'=>e=.returned (.bool r)∧Below w.heap.size w w':=by
 obtain rfl:=Option.some.inj h;(refine E2.with _ 90 _ A0 c0 l0 w hr0 (fun args w=>Js Try.func90 (by kernel_rfl) rfl args w) fun W t _ hb=>?_);(exact (Mn.calls t W).mono fun e w' ⟨he,hb'⟩=>⟨he,I4 hb hb'⟩)

end Go.Proofs.Yteaomckihokakaa.PFnNetsFlowOfAll
