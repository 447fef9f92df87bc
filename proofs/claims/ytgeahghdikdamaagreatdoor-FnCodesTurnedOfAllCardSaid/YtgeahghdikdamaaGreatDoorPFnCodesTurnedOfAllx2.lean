-- made for this claim by a program of this session
import Derived.Test.YtgeahghdikdamaaGreatDoorPFnCodesTurnedOfAllx0
namespace Go.Proofs.YtgeahghdikdamaaGreatDoor.PFnCodesTurnedOfAll
open Go.RowKit Go.Proofs.YtgeahghdikdamaaGreatDoorW.PrintWords Go.Proofs.YtgeahghdikdamaaGreatDoorW.PrintLast Go.Proofs.YtgeahghdikdamaaGreatDoorW.PrintMore
attribute [local go_sem] Dq Dr D7 D8 Db Dc Ds Dt -- for this text's walks alone
set_option linter.unusedVariables false
set_option linter.unusedSimpArgs false
set_option maxHeartbeats 8000000
set_option maxRecDepth 100000

/-! ### E2: function 73 -/
def En:Go.Shelf.Ren:=⟨fun|4=>73|n=>n,fun|22=>34|25=>3|3=>3|4=>4|9=>9|20=>20|0=>0|n=>n,fun|n=>n⟩
theorem G0:Go.Proofs.Lays8.n4 Tryz.prog En where
 mixed:=by kernel_rfl
 f4:=⟨Tryz.f73.name,by decide,Tryz.func73.trans (congrArg some kz)⟩
 t0:=Tryz.underlying0
 a0:=Tryz.isAgg0
 z0:=Tryz.sizeOf0
 v0:=Tryz.zeroValue0
 t3:=Tryz.underlying3
 a3:=Tryz.isAgg3
 z3:=Tryz.sizeOf3
 v3:=Tryz.zeroValue3
 t4:=Tryz.underlying4
 a4:=Tryz.isAgg4
 z4:=Tryz.sizeOf4
 v4:=Tryz.zeroValue4
 t9:=Tryz.underlying9
 a9:=Tryz.isAgg9
 z9:=Tryz.sizeOf9
 v9:=Tryz.zeroValue9
 t20:=Tryz.underlying20
 a20:=Tryz.isAgg20
 z20:=Tryz.sizeOf20
 v20:=Tryz.zeroValue20
 t22:=Tryz.underlying34
 a22:=Tryz.isAgg34
 z22:=Tryz.sizeOf34
 v22:=Tryz.zeroValue34
def E2.f (l:List Int) (a1:Int):Option (List Int):=if l=[]∧0≤a1∧a1≤1000000000000 then some [] else none
theorem E2.calls (a2:Nat→Prop) (a5:Value) (l0:List Int) (a1:Int) (r:List Int) (w0 w:World) (hB:Below w0.heap.size w0 w) (a8:Kd.R (Kd.int .i64) 3 w w0.heap.size a2 a5 l0) (h:E2.f l0 a1=some r) :
  Calls Tryz.prog 73 #[a5,.int .i64 a1] w fun e w'=>∃ b2:Value,e=.returned b2∧Kd.R (Kd.int .i64) 3 w' w0.heap.size (fun k_=>(a2 k_∨w.heap.size≤k_)) b2 r∧Below w0.heap.size w0 w'∧Bf w w' (fun k_=>a2 k_):=by
 unfold E2.f at h;(split at h);(case isFalse=>cases h);(rename_i hg);obtain ⟨rfl,g1,g2⟩:=hg;have hr:r=[]:=(Option.some.inj h).symm;subst hr;clear h;obtain ⟨n,rfl⟩:=Int.eq_ofNat_of_zero_le g1;(have hmax:maxLen≤9223372036854775807:=by decide);have b0:Kd.R (Kd.int .i64) 3 w w0.heap.size (fun k_=>(a2 k_∨w.heap.size≤k_)) a5 []:=Kd.R_mono a8 (fun _ hk=>.inl hk)
 have made:∀ (c:Nat) (cs:Array Value),c≤maxLen→cs.size=c→Kd.R (Kd.int .i64) 3 (w.drew.alloc (.cells cs 3)) w0.heap.size (fun k_=>(a2 k_∨w.heap.size≤k_)) (.slice (some ⟨w.heap.size,0,none⟩) 0 c) []:=fun c cs hc hs =>
  Kd.R_of_own (World.ownsRow_made (size:=1) w.drew cs c hB.size hc oz) (fun k hk=>by
   (have e:w.heap.size=k:=by simpa [Value.ownBlock] using hk)
   exact .inr (Nat.le_of_eq e))
 obtain ⟨i0,a7,hx⟩:=Option.map_eq_some_iff.1 J3;have b1:i0.zero=some (.int .i64 0):=congrArg (fun q=>q.1) hx;have b3:i0.size=1:=congrArg (fun q=>q.2.1) hx;have a6:i0.bytes=8:=congrArg (fun q=>q.2.2) hx;clear hx;(have e1:(Value.int .i64 0).cells.size=1:=by decide);obtain ⟨hok,inner,ho,hreps⟩:=a8;(rcases ho.2 with ⟨rfl,_⟩|⟨g,cap,cur,rfl,hb,hh,hnc,hcm,hcs,ht⟩)
 ·(by_cases hn:n=0)
  ·subst hn;refine (Any8.slices_Grow_room G0 none 0 0 0 w oz oz oz oz).mono ?_;rintro e w' ⟨rfl,rfl⟩;exact ⟨_,rfl,b0,hB,Bf.refl _ _⟩
  ·(have hbig:(0+n)*i0.bytes≤140737488355328:=by rw [a6];omega);refine (Any8.slices_Grow_grow G0 i0 (.int .i64 0) a7 b1 oz none 0 0 n [] w oz oz hbig oz (by simp) (fun _=>rfl) (fun a ha=>by cases ha)).mono ?_;rintro e w' ⟨rfl,rfl⟩;have hc:=grownCap_le_maxLen w (0+n) 0 (En.t 25) (by unfold maxLen;omega);have hge:=grownCap_ge w (0+n) 0 (En.t 25);refine ⟨_,rfl,made _ _ hc ?_,(hB.drew).alloc hB.size _,Bf.alloc (Bf.drew (Bf.refl w _)) _⟩;simp only [Builtin.zeroCells,Array.size_append,Array.size_map,Array.size_range,e1,List.size_toArray,List.length_nil];omega
 ·have hP:a2 g:=hok g rfl;have h1:(Kd.int .i64).sz=1:=rfl;rw [h1,Nat.mul_one] at hcs;(by_cases hn:n≤cap)
  ·refine (Any8.slices_Grow_room G0 (some ⟨g,0,none⟩) 0 cap n w oz oz oz oz).mono ?_;rintro e w' ⟨rfl,rfl⟩;exact ⟨_,rfl,b0,hB,Bf.refl _ _⟩
  ·(have hbig:(0+n)*i0.bytes≤140737488355328:=by rw [a6];omega);(have hcl:cur.toList.length=cap*i0.size:=by rw [b3,Array.length_toList];omega)
   refine (Any8.slices_Grow_grow G0 i0 (.int .i64 0) a7 b1 oz (some ⟨g,0,none⟩) 0 cap n cur.toList w oz oz hbig oz hcl (fun h=>by cases h) (fun a ha j v hv=>by
     (injection ha with ha);subst ha;rw [Cd]
     exact (Ac hh j).trans (by simpa using hv))).mono ?_
   rintro e w' ⟨rfl,rfl⟩;have hc:=grownCap_le_maxLen w (0+n) cap (En.t 25) (by unfold maxLen;omega);have hge:=grownCap_ge w (0+n) cap (En.t 25);refine ⟨_,rfl,made _ _ hc ?_,(hB.drew).alloc hB.size _,Bf.alloc (Bf.drew (Bf.refl w _)) _⟩;simp only [Builtin.zeroCells,Array.size_append,Array.size_map,Array.size_range,e1,Array.length_toList,List.size_toArray];omega

/-! ### Ay: function 42 -/
mutual
def Ay.l0:Nat→List (List Int)→Int→List (List Int)→Int→Int→Option (List Int)
 | 0,_,_,_,_,_=>none
 | k+1,x0,x3,x9,a6,a1=>if a1<a6 then (if 0≤a1 then (if a1<(x9.length:Int) then (if (wrap64 (x3+((Bc x9 a1).length:Int)))<0 then (none) else (Ay.l0 k x0 (wrap64 (x3+((Bc x9 a1).length:Int))) x9 a6 (wrap64 (a1+1)))) else (none)) else (none)) else ((E2.f ([]:List Int) x3).bind fun t134=>(Ay.l1 k t134 x0 (x0.length:Int) 0))
def Ay.l1:Nat→List Int→List (List Int)→Int→Int→Option (List Int)
 | 0,_,_,_,_=>none
 | k+1,x6,a5,a7,a2=>if a2<a7 then (if 0≤a2 then (if a2<(a5.length:Int) then (if x6.length+(Bc a5 a2).length<17592186044416 then (Ay.l1 k (x6++(Bc a5 a2)) a5 a7 (wrap64 (a2+1))) else (none)) else (none)) else (none)) else (some x6)
end
def Ay.f (k:Nat) (l0:List (List Int)):Option (List Int):=Ay.l0 k l0 0 l0 (l0.length:Int) 0
theorem Ay.calls (k:Nat) (A0:Option Addr) (c0:Nat) (l0:List (List Int)) (r:List Int) (w:World) (d3:Kd.C (Kd.slice 3 (Kd.int .i64)) w A0 l0.length l0) (b8:l0.length≤c0) (h:Ay.f k l0=some r) :
  Calls Tryz.prog 42 #[.slice A0 l0.length c0] w fun e w'=>∃ d8:Value,e=.returned (d8)∧Kd.R (Kd.int .i64) 3 w' w.heap.size (fun _=>True) d8 r∧Below w.heap.size w w':=by
 have b6:=am d3;have g3:=am b8;clear d3 b8;have HB:=am (Below.refl w.heap.size w);have H:=h;clear h;unfold Ay.f at H;have H':=am H;clear H;go_enter Tryz.func42,Tryz.ntmps42;go_wp2;(go_loopg [3,11] k (fun kq v3 v11 w'=>∃ (a5:Int) (a2:Int),v3=.int .i64 a5∧v11=.int .i64 a2∧Ab (Ay.l0 kq l0 a5 l0 (l0.length:Int) a2=some r)∧Ab (kq≤k)∧Ab (Below w.heap.size w w')));(case atStart=>exact ⟨(0),(0),(eqw),(eqw),H',⟨Nat.le_refl _⟩,⟨upW HB⟩⟩)
 case round =>
  clear H';obtain ⟨a5,a2,rfl,rfl,HA,a7,HB⟩:=hrel
  cases gk with
  | zero=>exact absurd HA.out (by simp [Ay.l0])
  | succ k1 =>
   have H:=HA.out;clear HA;simp only [Ay.l0] at H;(by_cases c2:a2<(l0.length:Int))
   ·rw [if_pos c2] at H;have c2b0:=decide_eq_true c2;clear c2;obtain ⟨c3,H⟩:=ip H;have c3b0:=decide_eq_true c3;clear c3;obtain ⟨c4,H⟩:=ip H;have c4b0:=decide_eq_true c4;clear c4;obtain ⟨c5,H⟩:=iq H;have c5b0:decide ((wrap64 (a5+((Bc l0 a2).length:Int)))<0)=false:=decide_eq_false c5;clear c5;have H':=am H;clear H;have b1:0≤(a2:Int):=oda;have b3:a2<(l0.length:Int):=oda;obtain ⟨g7,g1,g9,f6,d4,d0,b9⟩:=E4 b6.out a2 b1 b3;cases f6;replace d4:=cb HB d4;have g6:=am b9;have g4:=am d0;clear b9 d0;replace b1:=eq_true b1;replace b3:=eq_true b3;go_wp2;go_roundg k1;(case measure=>have:=a7.out;omega);(case rel=>exact ⟨(wrap64 (a5+((Bc l0 a2).length:Int))),(wrap64 (a2+1)),(eqw),(eqw),H',⟨by have:=a7.out;omega⟩,⟨upW HB⟩⟩)
   ·rw [if_neg c2] at H;have c2b0:=decide_eq_false c2;clear c2;obtain ⟨t134,A6,H⟩:=bnd H;(try dsimp only at H);have H':=am H;clear H;(go_wp2_with (first|((with_reducible refine Ad (f:=73) rfl ?_);refine C8 (some 24) rfl rfl Tryz.func73 kz rfl #[.slice none 0 0,.int .i64 a5] rfl itp ?_;(refine (E2.calls (fun k_=>some k_=(.slice none 0 0:Value).ownBlock) (.slice none 0 0) ([]:List Int) a5 t134 w _ ?f8 ?f9 A6.out).mono ?_);(case f8=>exact upW HB);(case f9=>exact Kd.R_nil _ _ _ _ _);rintro e w7 ⟨h2,rfl,d2,hb,hkp⟩;refine ⟨_,rfl,?_⟩;have f0:=am (Kd.R_mono (ok':=fun k_=>True) d2 (fun k_ hk_=>trivial));replace HB:=am (hb);(try clear hb hkp d2))));(try simp only [Act.put,List.setIfInBounds_toArray,List.set_cons_succ,List.set_cons_zero]);(go_loopg [6,27] k1 (fun kq v6 g0 w'=>∃ (a6:List Int) (a1:Int),g0=.int .i64 a1∧Ab (Ay.l1 kq a6 l0 (l0.length:Int) a1=some r)∧Ab (kq≤k1)∧Ab (Kd.R (Kd.int .i64) 3 w' w.heap.size (fun _=>True) v6 a6)∧Ab (Below w.heap.size w w')));(case atStart=>exact ⟨(t134),(0),(eqw),H',⟨Nat.le_refl _⟩,⟨upR f0⟩,⟨upW HB⟩⟩)
    case round =>
     clear H';(try clear c2b0);obtain ⟨a6,a1,rfl,HA,b5,a8,HB⟩:=hrel
     cases gk with
     | zero=>exact absurd HA.out (by simp [Ay.l1])
     | succ k2 =>
      have H:=HA.out;clear HA;simp only [Ay.l1] at H;(by_cases c8:a1<(l0.length:Int))
      ·rw [if_pos c8] at H;have c8b0:=decide_eq_true c8;clear c8;obtain ⟨c9,H⟩:=ip H;have c9b0:=decide_eq_true c9;clear c9;obtain ⟨c10,H⟩:=ip H;have c10b0:=decide_eq_true c10;clear c10;obtain ⟨b7,H⟩:=ip H;have f3:=am b7;clear b7;obtain ⟨d9,b0⟩:∃ y_:List Int,y_=(a6++(Bc l0 a1)):=⟨_,rfl⟩;(replace H:(Ay.l1 k2 d9 l0 (l0.length:Int) (wrap64 (a1+1)))=some r:=rwH b0 H);have f5:=am b0;clear b0;have H':=am H;clear H;have b2:0≤(a1:Int):=oda;have b4:a1<(l0.length:Int):=oda;obtain ⟨g8,g2,h0,f7,d5,d1,c1⟩:=E4 b6.out a1 b2 b4;cases f7;replace d5:=cb HB d5;have f2:=am c1;have g5:=am d1;clear c1 d1;replace b2:=eq_true b2;replace b4:=eq_true b4;(go_wp2_with (first|((with_reducible refine Cx (b:=.append) (xs := #[.tmp 31,.tmp 32]) rfl ?_);at_builtin;refine Kd.R_append_rows (Kd.int .i64) (w0:=w) w.heap.size rfl (.tmp 31) (.tmp 32) 34 3 (.int .i64 0) 8 rfl Tryz.underlying34 J3 rfl zd oz u6 a6 (Bc l0 a1) _ _ _ (fun _=>True) (fun _=>False) rfl rfl ?aO ?aR (fun _ _ h=>h) (fun _ h=>h.elim) ?aF ?aB ?aS ?aL ?_;(case aR=>repeat (first|exact (Kd.C_below f2.out HB.out)|(with_reducible refine Kd.C_alloc ?_ _)|(with_reducible refine Kd.C_drewN ?_ _)|(with_reducible refine Kd.C_drew ?_)));(case aB=>exact (upW HB));(case aF=>exact (fun _ _=>trivial));(case aO=>exact (upR a8));(case aS=>exact (Ae (upW HB)));(case aL=>have:=f3.out;omega);intro v139 h3 ho hb hg hat;rw [← f5.out] at ho;have d6:=am (hb);have d7:=am (ho);clear HB;clear a8;have HB:=d6;have f1:=d7;clear d6 d7;clear ho hb hg hat)));go_roundg k2;(case measure=>have:=a7.out;have:=b5.out;omega);(case rel=>exact ⟨(d9),(wrap64 (a1+1)),(eqw),H',⟨by have:=a7.out;have:=b5.out;omega⟩,⟨upR f1⟩,⟨upW HB⟩⟩)
      ·rw [if_neg c8] at H;have c8b0:=decide_eq_false c8;clear c8;obtain rfl:=Option.some.inj H;go_wp2;go_ret;exact ⟨_,eqv,mR a8.out,upW HB⟩

/-! ### Br: function 48 -/
def Br.f (a0:Int) (a1:Int) (a2:Int):Option (Bool):=if a1≤a0 then (some (decide (a0≤a2))) else (some false)
theorem Br.calls (a0:Int) (a1:Int) (a2:Int) (r:Bool) (w:World) (h:Br.f a0 a1 a2=some r) :
  Calls Tryz.prog 48 #[.int .i64 a0,.int .i64 a1,.int .i64 a2] w fun e w'=>e=.returned (.bool r)∧Cs w w':=by
 have H:=h;clear h;unfold Br.f at H;(by_cases c4:a1≤a0)
 ·rw [if_pos c4] at H;have c4b0:=decide_eq_true c4;clear c4;obtain rfl:=Option.some.inj H;go_enter Tryz.func48,Tryz.ntmps48;go_wp2;go_ret;exact ⟨eqw,dz⟩
 ·rw [if_neg c4] at H;have c4b0:=decide_eq_false c4;clear c4;obtain rfl:=Option.some.inj H;go_enter Tryz.func48,Tryz.ntmps48;go_wp2;go_ret;exact ⟨eqw,dz⟩

-- left to its pairs: function 77 (slices_IndexFunc_int_int_77)

-- left to its pairs: function 49 (slices_ContainsFunc_int_int_49)

/-- the first place at which p holds, or -1 -/
def pidx {α:Type} (p:α→Bool) (l:List α):Int:=if l.any p then ((l.findIdx p:Nat):Int) else -1
theorem U1 {α:Type} (p:α→Bool) (l:List α) (k:Nat) (a:α) (hk:l[k]? = some a) (ha:p a=true) (h:∀ j,j<k→∀ b,l[j]? = some b→p b=false):pidx p l=k:=by
 have hlt:k<l.length:=(List.getElem?_eq_some_iff.1 hk).1;have e:l[k]=a:=(List.getElem?_eq_some_iff.1 hk).2;have h1:l.any p=true:=List.any_eq_true.2 ⟨a,by rw [← e];exact List.getElem_mem hlt,ha⟩;unfold pidx;rw [if_pos h1];(congr 1);rw [List.findIdx_eq hlt];exact ⟨by rw [e];exact ha,fun j hj=>h j hj _ (List.getElem?_eq_getElem oz)⟩
theorem Ue {α:Type} (p:α→Bool) (l:List α) (h:∀ j,j<l.length→∀ b,l[j]? = some b→p b=false):pidx p l = -1:=by
 unfold pidx;rw [if_neg];intro hc;obtain ⟨a,ha,hp⟩:=List.any_eq_true.1 hc;obtain ⟨i,hi⟩:=List.getElem?_of_mem ha;have:=h i (List.getElem?_eq_some_iff.1 hi).1 a hi;(rw [this] at hp;cases hp)

theorem U2 {α:Type} (p:α→Bool) (l:List α):decide (0≤pidx p l)=l.any p:=by
 unfold pidx;cases h:l.any p
 ·rfl
 ·simp

/-! ### Iy: function 101 -/
theorem Iy.with (p:Int→Bool) (fv:Nat) (lb:Array Value) (A:Option Addr) (c:Nat) (l:List Int) (w:World) (hr:Kd.C (Kd.int .i64) w A l.length l)
  (eg:∀ args w,(callFunc fv args).run Tryz.prog w=.ok (.enter fv args) w)
  (hp:∀ (W:World) (t:Int),t ∈ l→Below w.heap.size w W→Calls Tryz.prog fv (#[.int .i64 t]++lb) W fun e w'=>e=.returned (.bool (p t))∧Below w.heap.size w w') :
  Calls Tryz.prog 101 #[.slice A l.length c,.func (.func fv) #[] lb] w fun e w'=>e=.returned (.int .i64 (pidx p l))∧Below w.heap.size w w':=by
 have hbig:l.length≤9223372036854775807:=hr.2.1;have HP:=Lib.hid hp;clear hp;go_enter Tryz.func101,Tryz.ntmps101;go_wp2;(go_loopg [5,8] l.length (fun gg _ s8 wr=>∃ kk:Nat,kk≤l.length∧l.length-kk≤gg∧s8=.int .i64 kk∧Aside (Below w.heap.size w wr)∧Aside (∀ j,j<kk→∀ b,l[j]? = some b→p b=false)));(case atStart=>exact ⟨0,Nat.zero_le _,by omega,rfl,Below.refl _ w,fun j hj=>absurd hj (Nat.not_lt_zero _)⟩)
 case round =>
  obtain ⟨kk,hkk,hg,rfl,BW,HA⟩:=hrel;(by_cases hlt:kk<l.length)
  ·(have hltz:(kk:Int)<(l.length:Int):=by omega);obtain ⟨ad,rfl,a1⟩:=Kd.at_int hr (kk:Int) oz hltz;replace a1:=(BW.out.cell (World.block_lt_of_cell? w _ a1)).trans a1;(have hm:rd l kk ∈ l:=by unfold rd;simp [List.getD,hlt]);(have he:l[kk]? = some (rd l kk):=by unfold rd;simp [List.getD,hlt]);have hcall:=HP.out wr (rd l kk) hm BW.out;generalize hy:rd l kk=y at a1 hcall he;have HE:=Lib.hid he;clear hy hm he;simp only [Int.toNat_natCast] at a1
   cases hq:p y with
   | true =>
    rw [hq] at hcall;(have HQ:=Lib.hid hq;clear hq);(go_wp2_with (go_at_fn fv;refine hcall.mono ?_;rintro e w' ⟨rfl,hb'⟩));go_ret;refine ⟨?_,hb'⟩;(rw [U1 p l kk y HE.out HQ.out HA.out];rfl)
   | false =>
    rw [hq] at hcall;(have HQ:=Lib.hid hq;clear hq);(go_wp2_with (go_at_fn fv;refine hcall.mono ?_;rintro e w' ⟨rfl,hb'⟩));go_roundg (l.length-(kk+1));(case measure=>omega)
    case rel =>
     refine ⟨kk+1,by omega,by omega,by go_num,hb',(show Aside _ from fun j hj b hb=>?_)⟩;(by_cases e:j=kk)
     ·subst e;(rw [HE.out] at hb;obtain rfl:=Option.some.inj hb;exact HQ.out)
     ·exact HA.out j oz b hb
  ·(have hltz:¬ (kk:Int)<(l.length:Int):=by omega);(have:kk=l.length:=by omega);subst this;go_wp2;go_ret;refine ⟨?_,BW.out⟩;(rw [Ue p l HA.out];rfl)

/-! ### Iq: function 78 -/
theorem Iq.with (p:Int→Bool) (fv:Nat) (lb:Array Value) (A:Option Addr) (c:Nat) (l:List Int) (w:World) (hr:Kd.C (Kd.int .i64) w A l.length l)
  (eg:∀ args w,(callFunc fv args).run Tryz.prog w=.ok (.enter fv args) w)
  (hp:∀ (W:World) (t:Int),t ∈ l→Below w.heap.size w W→Calls Tryz.prog fv (#[.int .i64 t]++lb) W fun e w'=>e=.returned (.bool (p t))∧Below w.heap.size w w') :
  Calls Tryz.prog 78 #[.slice A l.length c,.func (.func fv) #[] lb] w fun e w'=>e=.returned (.bool (l.any p))∧Below w.heap.size w w':=by
 have HP:=Lib.hid hp;clear hp;have e0:decide (0≤pidx p l)=l.any p:=U2 p l;generalize l.any p=b at e0 ⊢;have HE:=Lib.hid e0;clear e0;go_enter Tryz.func78,Tryz.ntmps78;(go_wp2_with (go_at_call 101;refine (Iy.with p fv lb A c l _ hr eg HP.out).mono ?_;rintro e w' ⟨rfl,hb'⟩));go_ret;exact ⟨by rw [← HE.out];rfl,hb'⟩

/-! ### K4: function 79 -/
theorem K4.calls (n:Int) (g1:Nat) (lo:Int) (g2:Nat) (hi:Int) (w:World) (h1:w.heap[g1]? = some (.cells #[.int .i64 lo] 3 (0,0))) (h2:w.heap[g2]? = some (.cells #[.int .i64 hi] 3 (0,0))) :
  Calls Tryz.prog 79 #[.int .i64 n,.pointer (some ⟨g1,0,none⟩),.pointer (some ⟨g2,0,none⟩)] w fun e w'=>e=.returned (.bool (!(decide (lo≤n∧n≤hi))))∧Below w.heap.size w w':=by
 have c1:w.cell? ⟨g1,0,none⟩=some (.int .i64 lo):=(Ac h1 0).trans rfl;have c2:w.cell? ⟨g2,0,none⟩=some (.int .i64 hi):=(Ac h2 0).trans rfl;clear h1 h2;obtain ⟨b,hb⟩:∃ b,b=decide (lo≤n∧n≤hi):=⟨_,rfl⟩
 have hf:Br.f n lo hi=some b:=by
  (rw [hb];unfold Br.f);(by_cases h:lo≤n)
  ·(rw [if_pos h];simp [h])
  ·(rw [if_neg h];simp [h])
 have HF:=Lib.hid hf;rw [← hb];clear hb hf;go_enter Tryz.func79,Tryz.ntmps79;(go_wp2_with (go_at_call 48;(with_reducible refine (Br.calls n lo hi b _ HF.out).mono ?_);rintro e w' ⟨rfl,⟨nd,rfl⟩⟩));go_ret;exact ⟨rfl,by repeat (first|exact Below.refl _ _|apply Dd|apply Dn|apply Bn)⟩

/-! ### Ct: the pair slices.ContainsFunc[[]int,int] -/
def Ct.f (l:List Int) (lo hi:Int):Option Bool:=some (l.any fun n => !(decide (lo≤n∧n≤hi)))
theorem Ct.calls (A0:Option Addr) (c0:Nat) (l0:List Int) (g1:Nat) (lo:Int) (g2:Nat) (hi:Int) (r:Bool) (w:World) (a1:Kd.C (Kd.int .i64) w A0 l0.length l0) (a2:l0.length≤c0)
  (h1:w.heap[g1]? = some (.cells #[.int .i64 lo] 3 (0,0))) (h2:w.heap[g2]? = some (.cells #[.int .i64 hi] 3 (0,0))) (h:Ct.f l0 lo hi=some r) :
  Calls Tryz.prog 78 #[.slice A0 l0.length c0,.func (.func 79) #[] #[.pointer (some ⟨g1,0,none⟩),.pointer (some ⟨g2,0,none⟩)]] w fun e w'=>e=.returned (.bool r)∧Below w.heap.size w w':=by
 obtain rfl:=Option.some.inj h;(refine Iq.with _ 79 _ A0 c0 l0 w a1 (fun args w=>M2 Tryz.func79 kz rfl args w) fun W t _ hb=>?_);(exact (K4.calls t g1 lo g2 hi W (Bb h1 hb) (Bb h2 hb)).mono fun e w' ⟨he,hb'⟩=>⟨he,Gr hb hb'⟩)

/-! ### Ei: function 51 -/
def Ei.f (l0:List Int) (a1:Int) (a2:Int):Option (Bool):=(Ct.f l0 a1 a2).bind fun t143=>(some (!t143))
theorem Ei.calls (A0:Option Addr) (c0:Nat) (l0:List Int) (a1:Int) (a2:Int) (r:Bool) (w:World) (b1:Kd.C (Kd.int .i64) w A0 l0.length l0) (b0:l0.length≤c0) (h:Ei.f l0 a1 a2=some r) :
  Calls Tryz.prog 51 #[.slice A0 l0.length c0,.int .i64 a1,.int .i64 a2] w fun e w'=>e=.returned (.bool r)∧Below w.heap.size w w':=by
 (have hmf:∀ (fn:Fn) (first cap:Array Value) (w:World),(Instr.makeFunc fn first cap).run Tryz.prog w=.ok (.func fn first cap) w:=fun _ _ _ _=>rfl);have b3:=am b1;have b2:=am b0;clear b1 b0;have HB:=am (Below.refl w.heap.size w);have H:=h;clear h;unfold Ei.f at H;obtain ⟨t143,A4,H⟩:=bnd H;replace H:(some (!t143))=some r:=H;obtain rfl:=Option.some.inj H;go_enter Tryz.func51,Tryz.ntmps51;(go_wp2_with (first|((with_reducible refine Ag (N:=4) rfl ?_);refine Bg 4 (#[.int .i64 a1]) 3 ?_;intro a7 hg w5 hbox hb;have a5:=am (hbox);have b8:=am (gz hg HB);replace HB:=wb HB hb;clear hb hbox hg)|((with_reducible refine Ag (N:=5) rfl ?_);refine Bg 5 (#[.int .i64 a2]) 3 ?_;intro a8 hg w6 hbox hb;have a6:=am (hbox);have b9:=am (gz hg HB);replace HB:=wb HB hb;have c1:=am (gn hg a5);have d0:=am ((by rw [hg];exact Nat.ne_of_gt (Ar (upK a5)):a8≠a7));replace a5:=kb a5 hb;clear hb hbox hg)|((with_reducible refine Ad (f:=78) rfl ?_);refine cgo (some 9) Tryz.func78 (Ct.calls _ _ l0 a7 a1 a8 a2 t143 _ ?b4 ?b5 ?b6 ?b7 A4.out) ?_;(case b4=>exact upC (Kd.C_below b3.out HB.out));(case b5=>exact b2.out);(case b6=>exact (upK a5));(case b7=>exact (upK a6));rintro e w7 ⟨rfl,hb⟩;refine ⟨_,rfl,?_⟩;replace a5:=kb a5 hb;replace a6:=kb a6 hb;replace HB:=wb HB hb;(try clear hb))));go_ret;exact ⟨eqv,upW HB⟩

/-! ### Ep: function 50 -/
def Ep.f (l0:List Int):Option (Bool):=(Ei.f l0 1 500).bind fun t144=>(if t144=true then (some (decide ((l0.length:Int)>30))) else (some true))
theorem Ep.calls (A0:Option Addr) (c0:Nat) (l0:List Int) (r:Bool) (w:World) (a8:Kd.C (Kd.int .i64) w A0 l0.length l0) (a7:l0.length≤c0) (h:Ep.f l0=some r) :
  Calls Tryz.prog 50 #[.slice A0 l0.length c0] w fun e w'=>e=.returned (.bool r)∧Below w.heap.size w w':=by
 have a6:=am a8;have a5:=am a7;clear a8 a7;have HB:=am (Below.refl w.heap.size w);have H:=h;clear h;unfold Ep.f at H;obtain ⟨t144,A2,H⟩:=bnd H;(try dsimp only at H);(by_cases c3:t144=true)
 ·subst c3;replace H:=yT H;obtain rfl:=Option.some.inj H;go_enter Tryz.func50,Tryz.ntmps50;(go_wp2_with (first|((with_reducible refine Ad (f:=51) rfl ?_);refine cgo (some 4) Tryz.func51 (Ei.calls _ _ l0 1 500 true _ ?a1 ?a2 A2.out) ?_;(case a1=>exact upC a6.out);(case a2=>exact a5.out);rintro e w4 ⟨rfl,hb⟩;refine ⟨_,rfl,?_⟩;replace HB:=wb HB hb;(try clear hb))));go_ret;exact ⟨eqv,upW HB⟩
 ·replace c3:=Bool.eq_false_iff.mpr c3;subst c3;replace H:=yF H;obtain rfl:=Option.some.inj H;go_enter Tryz.func50,Tryz.ntmps50;(go_wp2_with (first|((with_reducible refine Ad (f:=51) rfl ?_);refine cgo (some 4) Tryz.func51 (Ei.calls _ _ l0 1 500 false _ ?a1 ?a2 A2.out) ?_;(case a1=>exact upC a6.out);(case a2=>exact a5.out);rintro e w5 ⟨rfl,hb⟩;refine ⟨_,rfl,?_⟩;replace HB:=wb HB hb;(try clear hb))));go_ret;exact ⟨eqv,upW HB⟩

/-! ### Dw: function 80 -/
def Dw.f (a0:Int):Option (Bool):=(Br.f a0 1 500).bind fun t145=>(some t145)
theorem Dw.calls (a0:Int) (r:Bool) (w:World) (h:Dw.f a0=some r) :
  Calls Tryz.prog 80 #[.int .i64 a0] w fun e w'=>e=.returned (.bool r)∧Cs w w':=by
 have H:=h;clear h;unfold Dw.f at H;obtain ⟨t145,A2,H⟩:=bnd H;replace H:(some t145)=some r:=H;obtain rfl:=Option.some.inj H;go_enter Tryz.func80,Tryz.ntmps80;(go_wp2_with (first|((with_reducible refine Ad (f:=48) rfl ?_);refine cgo (some 4) Tryz.func48 (Br.calls a0 1 500 t145 _ A2.out) ?_;rintro e w' ⟨rfl,⟨nd,rfl⟩⟩;refine ⟨_,rfl,?_⟩)));go_ret;exact ⟨eqw,dz⟩

/-! ### Ch: function 81 -/
def Ch.l0:Nat→List Int→Int→Int→Option (Int)
 | 0,_,_,_=>none
 | k+1,x0,x3,x4=>if x4<(x0.length:Int) then (if 0≤x4 then (Ch.l0 k x0 (mn x3 (rd x0 x4)) (wrap64 (x4+1))) else (none)) else (some x3)
def Ch.f (k:Nat) (l0:List Int):Option (Int):=if (l0.length:Int)<1 then (none) else (if 0<(l0.length:Int) then (Ch.l0 k l0 (rd l0 0) 1) else (none))
theorem Ch.calls (k:Nat) (A0:Option Addr) (c0:Nat) (l0:List Int) (r:Int) (w:World) (b6:Kd.C (Kd.int .i64) w A0 l0.length l0) (b5:l0.length≤c0) (h:Ch.f k l0=some r) :
  Calls Tryz.prog 81 #[.slice A0 l0.length c0] w fun e w'=>e=.returned (.int .i64 r)∧Below w.heap.size w w':=by
 have b4:=am b6;have d1:=am b5;clear b6 b5;have HB:=am (Below.refl w.heap.size w);have H:=h;clear h;unfold Ch.f at H;obtain ⟨c2,H⟩:=iq H;have c2b0:=decide_eq_false c2;have c2b1:decide (l0.length<1)=false:=decide_eq_false oz;clear c2;obtain ⟨c3,H⟩:=ip H;have c3b0:=decide_eq_true c3;have c3b1:decide (0<l0.length)=true:=decide_eq_true oz;clear c3;have H':=am H;clear H;have a6:0≤(0:Int):=oz;have a7:0<(l0.length:Int):=oda;obtain ⟨b8,c1,a8⟩:=Kd.at_int b4.out 0 a6 a7;cases c1;have d3:(0<l0.length)=True:=eq_true oz;(try rw [show ((0:Int)).toNat=0 from rfl] at a8);(try rw [Addr.add_zero'] at a8);replace a6:=eq_true a6;replace a7:=eq_true a7;go_enter Tryz.func81,Tryz.ntmps81;go_wp2;(go_loopg [3,4] k (fun kq v3 v4 w'=>∃ (a2:Int) (a1:Int),v3=.int .i64 a2∧v4=.int .i64 a1∧Ab (Ch.l0 kq l0 a2 a1=some r)∧Ab (kq≤k)∧Ab (Below w.heap.size w w')));(case atStart=>exact ⟨(rd l0 0),(1),(eqw),(eqw),H',⟨Nat.le_refl _⟩,⟨upW HB⟩⟩)
 case round =>
  clear H';(try clear c2b0 c2b1 c3b0 c3b1 a8 a6 a7);obtain ⟨a2,a1,rfl,rfl,HA,b3,HB⟩:=hrel
  cases gk with
  | zero=>exact absurd HA.out (by simp [Ch.l0])
  | succ k1 =>
   have H:=HA.out;clear HA;simp only [Ch.l0] at H;(by_cases c4:a1<(l0.length:Int))
   ·rw [if_pos c4] at H;have c4b0:=decide_eq_true c4;clear c4;obtain ⟨c5,H⟩:=ip H;have c5b0:=decide_eq_true c5;clear c5;obtain ⟨b0,a5⟩:∃ j_:Int,(mn a2 (rd l0 a1))=j_:=⟨_,rfl⟩;(replace H:(Ch.l0 k1 l0 b0 (wrap64 (a1+1)))=some r:=by first|(rw [a5] at H;exact H)|(simp only [a5] at H ⊢;exact H));have d2:(if (rd l0 a1)<a2 then (rd l0 a1) else a2)=b0:=a5;have H':=am H;clear H;have b1:0≤(a1:Int):=oda;have b2:a1<(l0.length:Int):=oda;obtain ⟨b9,d0,b7⟩:=Kd.at_int b4.out a1 b1 b2;obtain rfl:b8=b9:=(by injection d0);replace b7:=cb HB b7;replace b1:=eq_true b1;replace b2:=eq_true b2;go_wp2;go_roundg k1;(case measure=>have:=b3.out;omega);(case rel=>exact ⟨(b0),(wrap64 (a1+1)),(by first|rfl|(simp;done)|(simp only [← a5] <;> (first|rfl|simp))|(simp [*];done)),(eqw),H',⟨by have:=b3.out;omega⟩,⟨upW HB⟩⟩)
   ·rw [if_neg c4] at H;have c4b0:=decide_eq_false c4;clear c4;obtain rfl:=Option.some.inj H;go_wp2;go_ret;exact ⟨eqv,upW HB⟩

/-! ### Ci: function 82 -/
def Ci.l0:Nat→List Int→Int→Int→Int→Option (Int)
 | 0,_,_,_,_=>none
 | k+1,x0,x1,x7,x8=>if x8<x7 then (if 0≤x8 then (if x8<(x0.length:Int) then (if x1=(rd x0 x8) then (some x8) else (Ci.l0 k x0 x1 x7 (wrap64 (x8+1)))) else (none)) else (none)) else (some (-1))
def Ci.f (k:Nat) (l0:List Int) (a1:Int):Option (Int):=Ci.l0 k l0 a1 (l0.length:Int) 0
theorem Ci.calls (k:Nat) (A0:Option Addr) (c0:Nat) (l0:List Int) (a1:Int) (r:Int) (w:World) (b2:Kd.C (Kd.int .i64) w A0 l0.length l0) (b1:l0.length≤c0) (h:Ci.f k l0 a1=some r) :
  Calls Tryz.prog 82 #[.slice A0 l0.length c0,.int .i64 a1] w fun e w'=>e=.returned (.int .i64 r)∧Cs w w':=by
 have b0:=am b2;have b5:=am b1;clear b2 b1;have H:=h;clear h;unfold Ci.f at H;have H':=am H;clear H;go_enter Tryz.func82,Tryz.ntmps82;go_wp2;(go_loopg [8] k (fun kq v8 w'=>∃ (a2:Int),v8=.int .i64 a2∧Ab (Ci.l0 kq l0 a1 (l0.length:Int) a2=some r)∧Ab (kq≤k)∧Cs w w'));(case atStart=>exact ⟨(0),(eqw),H',⟨Nat.le_refl _⟩,dz⟩)
 case round =>
  clear H';obtain ⟨a2,rfl,HA,a8,⟨m1,rfl⟩⟩:=hrel
  cases gk with
  | zero=>exact absurd HA.out (by simp [Ci.l0])
  | succ k1 =>
   have H:=HA.out;clear HA;simp only [Ci.l0] at H;(by_cases c3:a2<(l0.length:Int))
   ·rw [if_pos c3] at H;have c3b0:=decide_eq_true c3;clear c3;obtain ⟨c4,H⟩:=ip H;have c4b0:=decide_eq_true c4;clear c4;obtain ⟨c5,H⟩:=ip H;have c5b0:=decide_eq_true c5;clear c5;(by_cases c6:a1=(rd l0 a2))
    ·rw [if_pos c6] at H;have c6b0:(a1==(rd l0 a2))=true:=beq_iff_eq.mpr c6;have c6b1:(a1 != (rd l0 a2))=false:=bne_eq_false_iff_eq.mpr c6;clear c6;obtain rfl:=Option.some.inj H;have a5:0≤(a2:Int):=oda;have a6:a2<(l0.length:Int):=oda;obtain ⟨b3,a7,b4⟩:=Kd.at_int b0.out a2 a5 a6;cases a7;replace a5:=eq_true a5;replace a6:=eq_true a6;go_wp2;go_ret;exact ⟨eqw,dz⟩
    ·rw [if_neg c6] at H;have c6b0:(a1==(rd l0 a2))=false:=beq_eq_false_iff_ne.mpr c6;have c6b1:(a1 != (rd l0 a2))=true:=bne_iff_ne.mpr c6;have H':=am H;clear H;have a5:0≤(a2:Int):=oda;have a6:a2<(l0.length:Int):=oda;obtain ⟨b3,a7,b4⟩:=Kd.at_int b0.out a2 a5 a6;cases a7;replace a5:=eq_true a5;replace a6:=eq_true a6;go_wp2;go_roundg k1;(case measure=>have:=a8.out;omega);(case rel=>exact ⟨(wrap64 (a2+1)),(eqw),H',⟨by have:=a8.out;omega⟩,dz⟩)
   ·rw [if_neg c3] at H;have c3b0:=decide_eq_false c3;clear c3;obtain rfl:=Option.some.inj H;go_wp2;go_ret;exact ⟨eqw,dz⟩

/-! ### Cb: function 83 -/
def Cb.l0:Nat→List Int→Int→Int→Option (Int)
 | 0,_,_,_=>none
 | k+1,x0,x3,x4=>if x4<(x0.length:Int) then (if 0≤x4 then (Cb.l0 k x0 (mx x3 (rd x0 x4)) (wrap64 (x4+1))) else (none)) else (some x3)
def Cb.f (k:Nat) (l0:List Int):Option (Int):=if (l0.length:Int)<1 then (none) else (if 0<(l0.length:Int) then (Cb.l0 k l0 (rd l0 0) 1) else (none))
theorem Cb.calls (k:Nat) (A0:Option Addr) (c0:Nat) (l0:List Int) (r:Int) (w:World) (b6:Kd.C (Kd.int .i64) w A0 l0.length l0) (b5:l0.length≤c0) (h:Cb.f k l0=some r) :
  Calls Tryz.prog 83 #[.slice A0 l0.length c0] w fun e w'=>e=.returned (.int .i64 r)∧Below w.heap.size w w':=by
 have b4:=am b6;have d1:=am b5;clear b6 b5;have HB:=am (Below.refl w.heap.size w);have H:=h;clear h;unfold Cb.f at H;obtain ⟨c2,H⟩:=iq H;have c2b0:=decide_eq_false c2;have c2b1:decide (l0.length<1)=false:=decide_eq_false oz;clear c2;obtain ⟨c3,H⟩:=ip H;have c3b0:=decide_eq_true c3;have c3b1:decide (0<l0.length)=true:=decide_eq_true oz;clear c3;have H':=am H;clear H;have a6:0≤(0:Int):=oz;have a7:0<(l0.length:Int):=oda;obtain ⟨b8,c1,a8⟩:=Kd.at_int b4.out 0 a6 a7;cases c1;have d3:(0<l0.length)=True:=eq_true oz;(try rw [show ((0:Int)).toNat=0 from rfl] at a8);(try rw [Addr.add_zero'] at a8);replace a6:=eq_true a6;replace a7:=eq_true a7;go_enter Tryz.func83,Tryz.ntmps83;go_wp2;(go_loopg [3,4] k (fun kq v3 v4 w'=>∃ (a2:Int) (a1:Int),v3=.int .i64 a2∧v4=.int .i64 a1∧Ab (Cb.l0 kq l0 a2 a1=some r)∧Ab (kq≤k)∧Ab (Below w.heap.size w w')));(case atStart=>exact ⟨(rd l0 0),(1),(eqw),(eqw),H',⟨Nat.le_refl _⟩,⟨upW HB⟩⟩)
 case round =>
  clear H';(try clear c2b0 c2b1 c3b0 c3b1 a8 a6 a7);obtain ⟨a2,a1,rfl,rfl,HA,b3,HB⟩:=hrel
  cases gk with
  | zero=>exact absurd HA.out (by simp [Cb.l0])
  | succ k1 =>
   have H:=HA.out;clear HA;simp only [Cb.l0] at H;(by_cases c4:a1<(l0.length:Int))
   ·rw [if_pos c4] at H;have c4b0:=decide_eq_true c4;clear c4;obtain ⟨c5,H⟩:=ip H;have c5b0:=decide_eq_true c5;clear c5;obtain ⟨b0,a5⟩:∃ j_:Int,(mx a2 (rd l0 a1))=j_:=⟨_,rfl⟩;(replace H:(Cb.l0 k1 l0 b0 (wrap64 (a1+1)))=some r:=by first|(rw [a5] at H;exact H)|(simp only [a5] at H ⊢;exact H));have d2:(if a2<(rd l0 a1) then (rd l0 a1) else a2)=b0:=a5;have H':=am H;clear H;have b1:0≤(a1:Int):=oda;have b2:a1<(l0.length:Int):=oda;obtain ⟨b9,d0,b7⟩:=Kd.at_int b4.out a1 b1 b2;obtain rfl:b8=b9:=(by injection d0);replace b7:=cb HB b7;replace b1:=eq_true b1;replace b2:=eq_true b2;go_wp2;go_roundg k1;(case measure=>have:=b3.out;omega);(case rel=>exact ⟨(b0),(wrap64 (a1+1)),(by first|rfl|(simp;done)|(simp only [← a5] <;> (first|rfl|simp))|(simp [*];done)),(eqw),H',⟨by have:=b3.out;omega⟩,⟨upW HB⟩⟩)
   ·rw [if_neg c4] at H;have c4b0:=decide_eq_false c4;clear c4;obtain rfl:=Option.some.inj H;go_wp2;go_ret;exact ⟨eqv,upW HB⟩

/-! ### Bj: function 89 -/
def Bj.f (a5:Int) (a1:Int) (a7:Int) (a6:Int) (a2:Int) (a8:Int):Option (Int):=if a1=a2 then (some (wrap64 (a5-a6))) else (some (wrap64 (a1-a2)))
theorem Bj.calls (a6:Int) (a2:Int) (a7:Int) (a8:Int) (a5:Int) (b0:Int) (r:Int) (w:World) (h:Bj.f a6 a2 a7 a8 a5 b0=some r) :
  Calls Tryz.prog 89 #[.agg #[.int .i64 a6,.int .i64 a2,.int .i64 a7],.agg #[.int .i64 a8,.int .i64 a5,.int .i64 b0]] w fun e w'=>e=.returned (.int .i64 r)∧Below w.heap.size w w':=by
 have g5:=Tryz.underlying67;have HB:=am (Below.refl w.heap.size w);have H:=h;clear h;unfold Bj.f at H;(by_cases c3:a2=a5)
 ·rw [if_pos c3] at H;have c3b0:(a2==a5)=true:=beq_iff_eq.mpr c3;have c3b1:(a2 != a5)=false:=bne_eq_false_iff_eq.mpr c3;clear c3;obtain rfl:=Option.some.inj H;go_enter Tryz.func89,Tryz.ntmps89;(go_wp2_with (first|((with_reducible refine Ag (N:=2) rfl ?_);refine Bg 2 (#[.int .i64 a6,.int .i64 a2,.int .i64 a7]) 67 ?_;intro b4 hg w4 hbox hb;have a1:=am (hbox);have b6:=am (gz hg HB);replace HB:=wb HB hb;clear hb hbox hg)|((with_reducible refine Ag (N:=3) rfl ?_);refine Bg 3 (#[.int .i64 a8,.int .i64 a5,.int .i64 b0]) 67 ?_;intro b5 hg w5 hbox hb;have b1:=am (hbox);have b7:=am (gz hg HB);replace HB:=wb HB hb;have b2:=am (gn hg a1);have b3:=am ((by rw [hg];exact Nat.ne_of_gt (Ar (upK a1)):b5≠b4));replace a1:=kb a1 hb;clear hb hbox hg;have g2:=b2.out;have g4:=b3.out;obtain ⟨d2,d3,d4,f5,f6,f7⟩:=cy3 a1;obtain ⟨d5,d6,d7,f8,f9,g0⟩:=cy3 b1)));go_ret;exact ⟨eqv,upW HB⟩
 ·rw [if_neg c3] at H;have c3b0:(a2==a5)=false:=beq_eq_false_iff_ne.mpr c3;have c3b1:(a2 != a5)=true:=bne_iff_ne.mpr c3;obtain rfl:=Option.some.inj H;go_enter Tryz.func89,Tryz.ntmps89;(go_wp2_with (first|((with_reducible refine Ag (N:=2) rfl ?_);refine Bg 2 (#[.int .i64 a6,.int .i64 a2,.int .i64 a7]) 67 ?_;intro b4 hg w9 hbox hb;have a1:=am (hbox);have b6:=am (gz hg HB);replace HB:=wb HB hb;clear hb hbox hg)|((with_reducible refine Ag (N:=3) rfl ?_);refine Bg 3 (#[.int .i64 a8,.int .i64 a5,.int .i64 b0]) 67 ?_;intro b5 hg g6 hbox hb;have b1:=am (hbox);have b7:=am (gz hg HB);replace HB:=wb HB hb;have b2:=am (gn hg a1);have b3:=am ((by rw [hg];exact Nat.ne_of_gt (Ar (upK a1)):b5≠b4));replace a1:=kb a1 hb;clear hb hbox hg;have g1:=b2.out;have g3:=b3.out;obtain ⟨b8,b9,c0,d8,d9,f0⟩:=cy3 a1;obtain ⟨c1,d0,d1,f1,f2,f3⟩:=cy3 b1)));go_ret;exact ⟨eqv,upW HB⟩

/-! ### Ea: function 102 -/
def Ea.f (l0:List (S67)):Option ((List (S67))):=(some (([]:List (S67)):List (S67))).bind fun a1=>(if a1.length+l0.length<5864062014805 then (some (a1++l0)) else (none))
theorem Ea.calls_some (a5:Addr) (c0:Nat) (l0:List (S67)) (r:List (S67)) (w:World) (b2:Kd.C k67 w (some a5) l0.length l0) (b1:l0.length≤c0) (h:Ea.f l0=some r) :
  Calls Tryz.prog 102 #[.slice (some a5) l0.length c0] w fun e w'=>∃ b5:Value,e=.returned (b5)∧Kd.R k67 67 w' w.heap.size (fun _=>True) b5 r∧Below w.heap.size w w':=by
 (have hnil_:∀ (w:World) (n c:Nat),(binOp .eql 39 (.slice (some a5) n c) (.slice none 0 0)).run Tryz.prog w=.ok (.bool false) w:=fun w n c=>Lib.run_eql_slice_nil w 39 67 (some a5) n c 0 0 Tryz.underlying39);have b7:=am b2;have d0:=am b1;clear b2 b1;have HB:=am (Below.refl w.heap.size w);have H:((some (([]:List (S67)):List (S67))).bind fun a1=>(if a1.length+l0.length<5864062014805 then (some (a1++l0)) else (none)))=some r:=h;clear h;obtain ⟨a1,a6⟩:∃ y_:List (S67),y_=(([]:List (S67))):=⟨_,rfl⟩;(replace H:(if a1.length+l0.length<5864062014805 then (some (a1++l0)) else (none))=some r:=rwH a6 H);have b0:=am a6;clear a6;obtain ⟨c2,H⟩:=ip H;have b8:=am c2;clear c2;obtain ⟨c1,a7⟩:∃ y_:List (S67),y_=(a1++l0):=⟨_,rfl⟩;(replace H:(some c1)=some r:=rwH a7 H);have b9:=am a7;clear a7;obtain rfl:=Option.some.inj H;go_enter Tryz.func102,Tryz.ntmps102;(go_wp2_with (first|((with_reducible refine Ag (N:=5) rfl ?_);refine Kd.R_lit k67 _ 67 ?hg (N:=5) ?hd (xs:=([]:List (S67))) (inner:=[]) (ok:=fun _=>True) (okp:=fun _=>True) ?hr ?hp (fun _ hk=>hk) trivial (Below.refl _ _) (Nat.le_refl _) (by simp) ?_;(case hd=>rfl);(case hg=>rfl);(case hr=>first|(go_simp;done)|(go_simp;rfl));(case hp=>exact (Bq.none _ _));intro v154 w3 a2 hb hg_ hnew_;clear hg_ hnew_;(first|rw [← b0.out] at a2|(simp only [Int.reduceToNat] at a2;rw [← b0.out] at a2));have a8:=am (Kd.R_lower a2 (Ae (upW HB)));replace HB:=wb HB hb;clear hb a2)|((with_reducible refine Cx (b:=.append) (xs := #[.tmp 5,.tmp 6]) rfl ?_);at_builtin;refine Kd.R_append_rows k67 (w0:=w) w.heap.size rfl (.tmp 5) (.tmp 6) 39 67 (.agg #[(.int .i64 0),(.int .i64 0),(.int .i64 0)]) 24 rfl Tryz.underlying39 Ed rfl zd oz v154 a1 l0 _ _ _ (fun _=>True) (fun _=>False) rfl rfl ?aO ?aR (fun _ _ h=>h) (fun _ h=>h.elim) ?aF ?aB ?aS ?aL ?_;(case aR=>repeat (first|exact (Kd.C_below b7.out HB.out)|(with_reducible refine Kd.C_alloc ?_ _)|(with_reducible refine Kd.C_drewN ?_ _)|(with_reducible refine Kd.C_drew ?_)));(case aB=>exact (upW HB));(case aF=>exact (fun _ _=>trivial));(case aO=>exact (upR a8));(case aS=>exact (Ae (upW HB)));(case aL=>have:=b8.out;omega);intro v157 w5 ho hb hg hat;rw [← b9.out] at ho;have b3:=am (hb);have b4:=am (ho);clear HB;clear a8;have HB:=b3;have b6:=b4;clear b3 b4;clear ho hb hg hat)));go_ret;exact ⟨_,eqv,mR b6.out,upW HB⟩
theorem Ea.calls (A0:Option Addr) (c0:Nat) (l0:List (S67)) (r:List (S67)) (w:World) (a1:Kd.C k67 w A0 l0.length l0) (a6:l0.length≤c0) (h:Ea.f l0=some r) :
  Calls Tryz.prog 102 #[.slice A0 l0.length c0] w fun e w'=>∃ a2:Value,e=.returned (a2)∧Kd.R k67 67 w' w.heap.size (fun _=>True) a2 r∧Below w.heap.size w w':=by
 cases A0 with
 | some a5=>exact Ea.calls_some a5 c0 l0 r w a1 a6 h
 | none =>
  have hl_:l0=[]:=by
   cases l0 with
   | nil=>rfl
   | cons a t=>obtain ⟨ad,e,_⟩:=a1.2.2 (by simp);cases e
  subst hl_
  have hrr_:r=[]:=by
   unfold Ea.f at h;(simpa using h.symm)
  subst hrr_;(have hnil_:∀ (w:World) (n c:Nat),(binOp .eql 39 (.slice none n c) (.slice none 0 0)).run Tryz.prog w=.ok (.bool true) w:=fun w n c=>Lib.run_eql_slice_nil w 39 67 none n c 0 0 Tryz.underlying39);go_enter Tryz.func102,Tryz.ntmps102;go_wp2;go_ret;exact ⟨.slice none 0 0,rfl,Kd.R_nil _ _ _ _ _,Below.refl _ _⟩

-- left to its pairs: function 103 (impl_Square_103)

end Go.Proofs.YtgeahghdikdamaaGreatDoor.PFnCodesTurnedOfAll
