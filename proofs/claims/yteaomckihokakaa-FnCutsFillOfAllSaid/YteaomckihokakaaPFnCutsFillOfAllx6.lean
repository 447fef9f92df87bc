-- made for this claim by a program of this session
import Derived.Test.YteaomckihokakaaPFnCutsFillOfAllx0
import Derived.Test.YteaomckihokakaaPFnCutsFillOfAllx4
import Derived.Test.YteaomckihokakaaPFnCutsFillOfAllx5
namespace Go.Proofs.Yteaomckihokakaa.PFnCutsFillOfAll
open Go.RowKit Go.Proofs.YteaomckihokakaaW.PrintWords Go.Proofs.YteaomckihokakaaW.PrintLast Go.Proofs.YteaomckihokakaaW.PrintMore
attribute [local go_sem] C7 C8 Dp Dq Cx Cy C9 Da -- for this text's walks alone
set_option linter.unusedVariables false
set_option linter.unusedSimpArgs false

/-! ### Cm: function 40 -/
def Cm.l0:Nat→List Int→List (S61)→Int→Int→Option (List Int×Bool)
 | 0,_,_,_,_=>none
 | k+1,x4,x11,x12,x13=>if x13<x12 then (if 0≤x13 then (if x13<(x11.length:Int) then (if x4.length<17592186044416 then (Cm.l0 k (x4++[(Aa x11 x13).f2]) x11 x12 (wrap64 (x13+1))) else (none)) else (none)) else (none)) else (some (x4,true))
def Cm.f (k:Nat) (a0_0:Int) (a0_1:Int) (l0_2:List (S61)):Option (List Int×Bool):=(Al.f k a0_0 a0_1 l0_2).bind fun t163=>(if t163=true then (Cm.l0 k ([]:List Int) l0_2 (l0_2.length:Int) 0) else (some (([]:List Int),false)))
set_option maxHeartbeats 8000000 in
set_option maxRecDepth 100000 in
theorem Cm.calls (k:Nat) (a0_0:Int) (a0_1:Int) (A0_2:Option Addr) (c0_2:Nat) (l0_2:List (S61)) (r1:List Int) (r2:Bool) (w:World) (hr0_2:Kd.C k61 w A0_2 l0_2.length l0_2) (hc0_2:l0_2.length≤c0_2) (h:Cm.f k a0_0 a0_1 l0_2=some (r1,r2)) :
  Calls Try.prog 40 #[.agg #[.int .i64 a0_0,.int .i64 a0_1,.slice A0_2 l0_2.length c0_2]] w fun e w'=>∃ v0_:Value,e=.returned (.tuple #[v0_,.bool r2])∧Kd.R (Kd.int .i64) 3 w' w.heap.size (fun _=>True) v0_ r1∧Below w.heap.size w w':=by
 have hu26:=Try.underlying26;have hu61:=Try.underlying61;have HR0_2:=am hr0_2;have HC0_2:=am hc0_2;clear hr0_2 hc0_2;have HB:=am (Below.refl w.heap.size w);have H:=h;clear h;unfold Cm.f at H;obtain ⟨t163,A2,H⟩:=bnd H;(try dsimp only at H);(by_cases c3:t163=true)
 ·subst c3;replace H:=yT H;have H':=am H;clear H;go_enter Try.func40,Try.ntmps40;(go_wp2_with (first|((with_reducible refine Ag (N:=1) rfl ?_);refine Au 1 (#[.int .i64 a0_0,.int .i64 a0_1,.slice A0_2 l0_2.length c0_2]) 26 ?_;intro gb162 hg w4 hbox hb;have BK162:=am (hbox);have GW162:=am (gz hg HB);have GE162:=am (gz hg HB);replace HB:=wb HB hb;clear hb hbox hg;obtain ⟨hcz5_0,hcz5_1,hcz5_2,hfz5_0,hfz5_1,hfz5_2⟩:=cy3 BK162)|((with_reducible refine Ah (f:=95) rfl ?_);refine cgo (some 8) Try.func95 (Al.calls k a0_0 a0_1 _ _ l0_2 true _ ?side1 ?side2 A2.out) ?_;(case side1=>exact upC (Kd.C_below HR0_2.out HB.out));(case side2=>exact HC0_2.out);rintro e w6 ⟨rfl,hb⟩;refine ⟨_,rfl,?_⟩;replace BK162:=kb BK162 hb;replace HB:=wb HB hb;(try clear hb);obtain ⟨hcz7_0,hcz7_1,hcz7_2,hfz7_0,hfz7_1,hfz7_2⟩:=cy3 BK162)));(try simp only [Act.put,List.setIfInBounds_toArray,List.set_cons_succ,List.set_cons_zero]);(go_loopg [4,13] k (fun kq v4 v13 w'=>∃ (x4_1:List Int) (x13_1:Int),v13=.int .i64 x13_1∧Ab (Cm.l0 kq x4_1 l0_2 (l0_2.length:Int) x13_1=some (r1,r2))∧Ab (kq≤k)∧Ab (Kd.R (Kd.int .i64) 3 w' w.heap.size (fun _=>True) v4 x4_1)∧Ab (w'.heap[gb162]? = some (.cells #[.int .i64 a0_0,.int .i64 a0_1,(.slice A0_2 l0_2.length c0_2)] 26 (0,0)))∧Ab (Below w.heap.size w w')));(case atStart=>exact ⟨(([]:List Int)),(0),(eqw),H',⟨Nat.le_refl _⟩,⟨by first|exact Kd.R_nil _ _ _ _ _|exact Kd.N_nil _ _ _ _ _|exact Kd.V_nil _ _ _ _ _|exact Kd.Q_nil _ _ _ _ _|exact Kd.S_nil _ _ _ _ _⟩,⟨upK BK162⟩,⟨upW HB⟩⟩)
  case round =>
   clear H';(try clear hcz5_0 hcz5_1 hcz5_2 hcz7_0 hcz7_1 hcz7_2 hfz5_0 hfz5_1 hfz5_2 hfz7_0 hfz7_1 hfz7_2);obtain ⟨x4_1,x13_1,rfl,HA,HK1,HO_4,BK162,HB⟩:=hrel
   cases gk with
   | zero=>exact absurd HA.out (by simp [Cm.l0])
   | succ k1 =>
    have H:=HA.out;clear HA;simp only [Cm.l0] at H;(by_cases c8:x13_1<(l0_2.length:Int))
    ·rw [if_pos c8] at H;have c8b0:=decide_eq_true c8;clear c8;obtain ⟨c9,H⟩:=ip H;have c9b0:=decide_eq_true c9;clear c9;obtain ⟨c10,H⟩:=ip H;have c10b0:=decide_eq_true c10;clear c10;obtain ⟨c11,H⟩:=ip H;have LMc11:=am c11;clear c11;obtain ⟨y166,hy166⟩:∃ y_:List Int,y_=(x4_1++[(Aa l0_2 x13_1).f2]):=⟨_,rfl⟩;(replace H:(Cm.l0 k1 y166 l0_2 (l0_2.length:Int) (wrap64 (x13_1+1)))=some (r1,r2):=rwH hy166 H);have Ny166:=am hy166;clear hy166;have H':=am H;clear H;have p164:0≤(x13_1:Int):=oda;have q164:x13_1<(l0_2.length:Int):=oda;obtain ⟨ad164,e164,hx164_0,hx164_1,hx164_2⟩:=Bb HR0_2.out x13_1 p164 q164;cases e164;replace hx164_0:=cb HB hx164_0;replace hx164_1:=cb HB hx164_1;replace hx164_2:=cb HB hx164_2;replace p164:=eq_true p164;replace q164:=eq_true q164;(go_wp2_with (first|((with_reducible refine Ag (N:=6) rfl ?_);refine Au 6 (#[.int .i64 0,.int .i64 0,.int .i64 0]) 61 ?_;intro gb165 hg w12 hbox hb;replace HO_4:=rb HO_4 hb;have BK165:=am (hbox);have GW165:=am (gz hg HB);have GE165:=am (gz hg HB);replace HB:=wb HB hb;have NB162_165:=am (gn hg BK162);have NB165_162:=am ((by rw [hg];exact Nat.ne_of_gt (Ao (upK BK162)):gb165≠gb162));replace BK162:=kb BK162 hb;clear hb hbox hg;have hnb13:=NB165_162.out;have hnc13:=NB162_165.out;obtain ⟨hcz14_0,hcz14_1,hcz14_2,hfz14_0,hfz14_1,hfz14_2⟩:=cy3 BK165)|((with_reducible refine Dr (b:=.append) (xs := #[.tmp 17,.tmp 20]) rfl ?_);at_builtin;refine Kd.R_append (Kd.int .i64) (w0:=w) w.heap.size rfl (.tmp 17) (.tmp 20) 37 3 (.int .i64 0) 8 rfl Try.underlying37 Kr rfl (by decide) (by omega) u4 x4_1 ((Aa l0_2 x13_1).f2) [.int .i64 ((Aa l0_2 x13_1).f2)] (fun _=>True) (fun _=>False) rfl (by first|(go_simp;done)|(go_simp;rfl)) ?aP (fun _ hk=>hk.elim) ?aF ?aO ?aB ?aS ?aL ?_;(case aP=>exact rfl);(case aB=>exact (upW HB));(case aF=>exact (fun _ _=>trivial));(case aO=>exact (by (with_reducible repeat (first|apply Kd.R_alloc|apply Kd.R_drewN|apply Kd.R_drew));exact Kd.R_far3 HO_4 BK165 (.int .i64 ((Aa l0_2 x13_1).f0)) (.int .i64 ((Aa l0_2 x13_1).f1)) (.int .i64 ((Aa l0_2 x13_1).f2)) (fun _ hk=>trivial)));(case aS=>exact (Ar (upW HB)));(case aL=>have:=LMc11.out;omega);intro v167 w15 ho hb hg hat;rw [← Ny166.out] at ho;have n0_:=am (Bk (upF BK162) hg (Kd.R_ne HO_4.out BK162.out (by decide)));have n1_:=am (Bk (g:=gb165) (o:=.cells #[.int .i64 ((Aa l0_2 x13_1).f0),.int .i64 ((Aa l0_2 x13_1).f1),.int .i64 ((Aa l0_2 x13_1).f2)] 61 (0,0)) (Cr BK165 #[.int .i64 ((Aa l0_2 x13_1).f0),.int .i64 ((Aa l0_2 x13_1).f1),.int .i64 0] #[.int .i64 ((Aa l0_2 x13_1).f0),.int .i64 0,.int .i64 0]) hg (Kd.R_ne HO_4.out BK165.out (by decide)));have n2_:=am (hb);have n3_:=am (ho);clear BK162;clear BK165;clear HB;clear HO_4;have BK162:=n0_;have BK165:=n1_;have HB:=n2_;have HO168:=n3_;clear n0_ n1_ n2_ n3_;clear ho hb hg hat)));go_roundg k1;(case measure=>have:=HK1.out;omega);(case rel=>exact ⟨(y166),(wrap64 (x13_1+1)),(eqw),H',⟨by have:=HK1.out;omega⟩,⟨upR HO168⟩,⟨upK BK162⟩,⟨upW HB⟩⟩)
    ·rw [if_neg c8] at H;have c8b0:=decide_eq_false c8;clear c8;simp only [Option.some.injEq,Prod.mk.injEq] at H;obtain ⟨rfl,rfl⟩:=H;go_wp2;(go_ret2);exact ⟨_,eqv,by (with_reducible repeat (first|apply Kd.R_alloc|apply Kd.R_drewN|apply Kd.R_drew));exact HO_4.out,upW HB⟩
 ·replace c3:=Bool.eq_false_iff.mpr c3;subst c3;replace H:=yF H;simp only [Option.some.injEq,Prod.mk.injEq] at H;obtain ⟨rfl,rfl⟩:=H;go_enter Try.func40,Try.ntmps40;(go_wp2_with (first|((with_reducible refine Ag (N:=1) rfl ?_);refine Au 1 (#[.int .i64 a0_0,.int .i64 a0_1,.slice A0_2 l0_2.length c0_2]) 26 ?_;intro gb162 hg w16 hbox hb;have BK162:=am (hbox);have GW162:=am (gz hg HB);have GE162:=am (gz hg HB);replace HB:=wb HB hb;clear hb hbox hg;obtain ⟨hcz17_0,hcz17_1,hcz17_2,hfz17_0,hfz17_1,hfz17_2⟩:=cy3 BK162)|((with_reducible refine Ah (f:=95) rfl ?_);refine cgo (some 8) Try.func95 (Al.calls k a0_0 a0_1 _ _ l0_2 false _ ?side1 ?side2 A2.out) ?_;(case side1=>exact upC (Kd.C_below HR0_2.out HB.out));(case side2=>exact HC0_2.out);rintro e w18 ⟨rfl,hb⟩;refine ⟨_,rfl,?_⟩;replace BK162:=kb BK162 hb;replace HB:=wb HB hb;(try clear hb))));(go_ret2);exact ⟨_,eqv,by first|exact Kd.R_nil _ _ _ _ _|exact Kd.N_nil _ _ _ _ _|exact Kd.V_nil _ _ _ _ _|exact Kd.Q_nil _ _ _ _ _|exact Kd.S_nil _ _ _ _ _,upW HB⟩

/-! ### a row of the call's own, written anew by a library function -/
section
variable {α:Type} [Inhabited α] {enc:α→Value} {h1:∀ x,(enc x).oneCell'=true}
theorem row_holds {e:TypeId} {w:World} {base:Nat} {ok:Nat→Prop} {g n cap:Nat} {xs:List α}
  (h:(Kd.scalar enc h1).R e w base ok (.slice (some ⟨g,0,none⟩) n cap) xs):Sort.Holds enc w g 0 xs.toArray:=by
 intro j hj;(have hj':j<xs.length:=by simpa using hj);have hn:=(Kd.R_reads' h).1;obtain ⟨a,b⟩:=Kd.R_celln default h (j:Int) (by omega) (by omega);rw [Int.toNat_natCast] at a b;rw [Nat.zero_add];refine ⟨?_,b⟩;rw [a];unfold Go.Proofs.YteaomckihokakaaW.PrintWords.Id;rw [Int.toNat_natCast,getElem!_pos xs.toArray j (by simpa using hj'),List.getD_eq_getElem?_getD,List.getElem?_eq_getElem hj'];simp
theorem row_put {e:TypeId} {w w0 w1:World} {base:Nat} {ok S:Nat→Prop} {g n cap:Nat} {xs:List α} (d':Array α)
  (h:(Kd.scalar enc h1).R e w base ok (.slice (some ⟨g,0,none⟩) n cap) xs) (hd:d'.size=xs.length) (hb:Below w0.heap.size w0 w) (hg:w0.heap.size≤g) (hk:Ay w1 w S) (hs:S g∨w1.heap.size≤g) :
  (Kd.scalar enc h1).R e (Sort.putRow enc w g 0 d') base ok (.slice (some ⟨g,0,none⟩) n cap) d'.toList∧Below w0.heap.size w0 (Sort.putRow enc w g 0 d')∧Ay w1 (Sort.putRow enc w g 0 d') S:=by
 have hH:=row_holds h
 have key:∀ i,i≤xs.length→(Kd.scalar enc h1).R e (Sort.putRow enc w g 0 (d'.toList.take i++xs.drop i).toArray) base ok (.slice (some ⟨g,0,none⟩) n cap) (d'.toList.take i++xs.drop i)∧Below w0.heap.size w0 (Sort.putRow enc w g 0 (d'.toList.take i++xs.drop i).toArray)∧Ay w1 (Sort.putRow enc w g 0 (d'.toList.take i++xs.drop i).toArray) S:=by
  intro i
  induction i with
  | zero =>
   intro _;rw [List.take_zero,List.drop_zero,List.nil_append,Sort.putRow_self enc w g 0 _ hH];exact ⟨h,hb,hk⟩
  | succ i ih =>
   intro hi;obtain ⟨a,b,c⟩:=ih (by omega);(have hi':i<d'.toList.length:=by rw [Array.length_toList];omega)
   have he:(d'.toList.take i++xs.drop i).set i d'.toList[i]=d'.toList.take (i+1)++xs.drop (i+1):=by
    rw [List.set_append_right _ _ (by rw [List.length_take];omega),List.length_take,Nat.min_eq_left (by omega),Nat.sub_self,List.drop_eq_getElem_cons (by omega:i<xs.length),List.set_cons_zero,List.take_add_one,List.getElem?_eq_getElem hi',List.append_assoc];rfl
   have hp:=Sort.putRow_set enc w g 0 (d'.toList.take i++xs.drop i).toArray i d'.toList[i] (by simp;omega);rw [Nat.zero_add,List.setIfInBounds_toArray,he] at hp;rw [← hp,← he];have hr:=Kd.R_putn a (i:Int) d'.toList[i];rw [Int.toNat_natCast] at hr;exact ⟨hr,C1 b hg,Ay.setCell c hs _⟩
 have hl:=key xs.length (Nat.le_refl _);rw [List.drop_length,List.append_nil,List.take_of_length_le (by rw [Array.length_toList];omega)] at hl;(simpa using hl)
end

/-! ### Dc: function 104 -/
def Iq:Go.Shelf.Ren:=⟨fun|5=>104|8=>146|7=>145|19=>163|20=>164|10=>154|11=>155|12=>156|13=>157|14=>158|15=>159|16=>160|17=>161|18=>162|30=>168|31=>169|32=>170|33=>171|34=>172|35=>173|40=>177|n=>n,fun|23=>37|25=>3|3=>3|32=>118|22=>37|0=>0|44=>131|46=>133|4=>4|36=>125|35=>124|41=>40|5=>5|9=>9|53=>137|57=>141|63=>145|64=>146|n=>n,fun|n=>n⟩
theorem Gx:Go.Proofs.SlLaysM.n5 Try.prog Iq where
 mixed:=by kernel_rfl
 f5:=⟨Try.f104.name,by decide,Try.func104.trans (congrArg some (by kernel_rfl))⟩
 f7:=⟨Try.f145.name,by decide,Try.func145.trans (congrArg some (by kernel_rfl))⟩
 f8:=Try.func146.trans (congrArg some (by kernel_rfl))
 f10:=⟨Try.f154.name,by decide,Try.func154.trans (congrArg some (by kernel_rfl))⟩
 f11:=⟨Try.f155.name,by decide,Try.func155.trans (congrArg some (by kernel_rfl))⟩
 f12:=⟨Try.f156.name,by decide,Try.func156.trans (congrArg some (by kernel_rfl))⟩
 f13:=⟨Try.f157.name,by decide,Try.func157.trans (congrArg some (by kernel_rfl))⟩
 f14:=⟨Try.f158.name,by decide,Try.func158.trans (congrArg some (by kernel_rfl))⟩
 f15:=⟨Try.f159.name,by decide,Try.func159.trans (congrArg some (by kernel_rfl))⟩
 f16:=⟨Try.f160.name,by decide,Try.func160.trans (congrArg some (by kernel_rfl))⟩
 f17:=⟨Try.f161.name,by decide,Try.func161.trans (congrArg some (by kernel_rfl))⟩
 f18:=⟨Try.f162.name,by decide,Try.func162.trans (congrArg some (by kernel_rfl))⟩
 f19:=Try.func163.trans (congrArg some (by kernel_rfl))
 f20:=Try.func164.trans (congrArg some (by kernel_rfl))
 f30:=⟨Try.f168.name,by decide,Try.func168.trans (congrArg some (by kernel_rfl))⟩
 f31:=Try.func169.trans (congrArg some (by kernel_rfl))
 f32:=Try.func170.trans (congrArg some (by kernel_rfl))
 f33:=⟨Try.f171.name,by decide,Try.func171.trans (congrArg some (by kernel_rfl))⟩
 f34:=⟨Try.f172.name,by decide,Try.func172.trans (congrArg some (by kernel_rfl))⟩
 f35:=⟨Try.f173.name,by decide,Try.func173.trans (congrArg some (by kernel_rfl))⟩
 f40:=⟨Try.f177.name,by decide,Try.func177.trans (congrArg some (by kernel_rfl))⟩
 t0:=Try.underlying0
 a0:=Try.isAgg0
 z0:=Try.sizeOf0
 v0:=Try.zeroValue0
 t3:=Try.underlying3
 a3:=Try.isAgg3
 z3:=Try.sizeOf3
 v3:=Try.zeroValue3
 t4:=Try.underlying4
 a4:=Try.isAgg4
 z4:=Try.sizeOf4
 v4:=Try.zeroValue4
 t5:=Try.underlying5
 a5:=Try.isAgg5
 z5:=Try.sizeOf5
 v5:=Try.zeroValue5
 t9:=Try.underlying9
 a9:=Try.isAgg9
 z9:=Try.sizeOf9
 v9:=Try.zeroValue9
 t22:=Try.underlying37
 a22:=Try.isAgg37
 z22:=Try.sizeOf37
 v22:=Try.zeroValue37
 t23:=Try.underlying37
 a23:=Try.isAgg37
 z23:=Try.sizeOf37
 v23:=Try.zeroValue37
 t25:=Try.underlying3
 a25:=Try.isAgg3
 z25:=Try.sizeOf3
 v25:=Try.zeroValue3
 t32:=Try.underlying118
 a32:=Try.isAgg118
 z32:=Try.sizeOf118
 v32:=Try.zeroValue118
 t35:=Try.underlying124
 a35:=Try.isAgg124
 z35:=Try.sizeOf124
 v35:=Try.zeroValue124
 t36:=Try.underlying125
 a36:=Try.isAgg125
 z36:=Try.sizeOf125
 v36:=Try.zeroValue125
 t41:=Try.underlying40
 a41:=Try.isAgg40
 z41:=Try.sizeOf40
 v41:=Try.zeroValue40
 t44:=Try.underlying131
 a44:=Try.isAgg131
 z44:=Try.sizeOf131
 v44:=Try.zeroValue131
 t46:=Try.underlying133
 a46:=Try.isAgg133
 z46:=Try.sizeOf133
 v46:=Try.zeroValue133
 t53:=Try.underlying137
 a53:=Try.isAgg137
 z53:=Try.sizeOf137
 v53:=Try.zeroValue137
 t57:=Try.underlying141
 a57:=Try.isAgg141
 z57:=Try.sizeOf141
 v57:=Try.zeroValue141
 t63:=Try.underlying145
 a63:=Try.isAgg145
 z63:=Try.sizeOf145
 v63:=Try.zeroValue145
 t64:=Try.underlying146
 a64:=Try.isAgg146
 z64:=Try.sizeOf146
 v64:=Try.zeroValue146
def Dc.f (l:List Int):Option (List Int):=if l.length<4611686018427387904 then some (l.mergeSort fun x y=>decide (x≤y)) else none
theorem Q4 (w:World) (os:Array Obj):Below w.heap.size w (Sort.grow w os) :=
 ⟨rfl,rfl,rfl,by simp [Sort.grow],fun k hk=>by simp only [Sort.grow];exact Array.getElem?_append_left hk⟩
set_option maxHeartbeats 8000000 in
theorem Dc.calls (P0_:Nat→Prop) (u9000_:Value) (l0:List Int) (r:List Int) (w0 w:World) (hB:Below w0.heap.size w0 w) (ho0:Kd.R (Kd.int .i64) 3 w w0.heap.size P0_ u9000_ l0) (h:Dc.f l0=some r) :
  Calls Try.prog 104 #[u9000_] w fun e w'=>e=.returned (.tuple #[])∧Kd.R (Kd.int .i64) 3 w' w0.heap.size (fun k_=>(P0_ k_∨w.heap.size≤k_)) u9000_ r∧Below w0.heap.size w0 w'∧Ay w w' (fun k_=>P0_ k_):=by
 unfold Dc.f at h;(by_cases hsz:l0.length<4611686018427387904)
 ·rw [if_pos hsz] at h;(have h':r=l0.mergeSort fun x y=>decide (x≤y):=(Option.some.inj h).symm);clear h;have ho1:Kd.R (Kd.int .i64) 3 w w0.heap.size (fun k_=>(P0_ k_∨w.heap.size≤k_)) u9000_ l0:=Kd.R_mono ho0 (fun _ hk=>.inl hk);(by_cases hl:l0=[])
  ·subst hl;(have hr:r=[]:=by rw [h'];simp);subst hr;obtain ⟨A,c,rfl⟩:=Kd.R_slice ho0;refine (AnyM.slices_Sort_int_none Gx A c w).mono ?_;rintro e w' ⟨rfl,rfl⟩;exact ⟨rfl,ho1,hB,Ay.refl _ _⟩
  ·have hp:0<l0.length:=List.length_pos_iff.2 hl;obtain ⟨g,cap,rfl,hbase,hlt,cells,hcells⟩:=Kd.R_form ho0 hp;have hcon:=AnyM.slices_Sort_int Gx g 0 cap l0 w (row_holds ho0) hlt hsz;refine hcon.mono ?_;rintro e w' ⟨rfl,q,os,rfl⟩;rw [← h'];(have hrl:r.length=l0.length:=by rw [h'];exact List.length_mergeSort _);obtain ⟨a,b,c⟩:=row_put (w0:=w0) (w1:=w) (S:=fun k_=>P0_ k_) r.toArray (w:=Sort.ahead w q) (ok:=fun k_=>(P0_ k_∨w.heap.size≤k_)) (Kd.R_drewN ho1 q) (by simp [hrl]) (Cq hB q) hbase (Ay.drewN (Ay.refl w _) q) (.inl (ho0.1 g rfl));have hg:=Q4 (Sort.putRow (Value.int .i64) (Sort.ahead w q) g 0 r.toArray) os;exact ⟨rfl,Kd.R_below a hg,Gt b hg,⟨Nat.le_trans c.1 hg.size,fun k hk hS=>(hg.block k (Nat.lt_of_lt_of_le hk c.1)).trans (c.2 k hk hS)⟩⟩
 ·rw [if_neg hsz] at h;exact absurd h (by simp)

/-! ### Ci: function 105 -/
def Ci.l0:Nat→List Int→Int→Option (Bool)
 | 0,_,_=>none
 | k+1,x0,x3=>if x3<(x0.length:Int) then (if 0≤x3 then (if 0≤(wrap64 (x3-1)) then (if (wrap64 (x3-1))<(x0.length:Int) then (if (rd x0 x3)≤(rd x0 (wrap64 (x3-1))) then (some false) else (Ci.l0 k x0 (wrap64 (x3+1)))) else (none)) else (none)) else (none)) else (some true)
def Ci.f (k:Nat) (l0:List Int):Option (Bool):=Ci.l0 k l0 1
set_option maxHeartbeats 8000000 in
set_option maxRecDepth 100000 in
theorem Ci.calls (k:Nat) (A0:Option Addr) (c0:Nat) (l0:List Int) (r:Bool) (w:World) (hr0:Kd.C (Kd.int .i64) w A0 l0.length l0) (hc0:l0.length≤c0) (h:Ci.f k l0=some r) :
  Calls Try.prog 105 #[.slice A0 l0.length c0] w fun e w'=>e=.returned (.bool r)∧Di w w':=by
 have HR0:=am hr0;have HC0:=am hc0;clear hr0 hc0;have H:(Ci.l0 k l0 1)=some r:=h;clear h;have H':=am H;clear H;go_enter Try.func105,Try.ntmps105;go_wp2;(repeat (go_quiet (fail);try go_wp2));(go_loopg [3] k (fun kq v3 w'=>∃ (x3_1:Int),v3=.int .i64 x3_1∧Ab (Ci.l0 kq l0 x3_1=some r)∧Ab (kq≤k)∧Di w w'));(case atStart=>exact ⟨(1),(eqw),H',⟨Nat.le_refl _⟩,dz⟩)
 case round =>
  clear H';obtain ⟨x3_1,rfl,HA,HK1,⟨m1,rfl⟩⟩:=hrel
  cases gk with
  | zero=>exact absurd HA.out (by simp [Ci.l0])
  | succ k1 =>
   have H:=HA.out;clear HA;simp only [Ci.l0] at H;(by_cases c2:x3_1<(l0.length:Int))
   ·rw [if_pos c2] at H;have c2b0:=decide_eq_true c2;clear c2;obtain ⟨c3,H⟩:=ip H;have c3b0:=decide_eq_true c3;clear c3;obtain ⟨ji4,hji4⟩:∃ j_:Int,(wrap64 (x3_1-1))=j_:=⟨_,rfl⟩;(replace H:(if 0≤(ji4) then (if (ji4)<(l0.length:Int) then (if (rd l0 x3_1)≤(rd l0 (ji4)) then (some false) else (Ci.l0 k1 l0 (wrap64 (x3_1+1)))) else (none)) else (none))=some r:=by first|(rw [hji4] at H;exact H)|(simp only [hji4] at H ⊢;exact H));have hji4w:(IntKind.i64.wrap (x3_1-1))=ji4:=(Bg _).trans hji4;obtain ⟨c5,H⟩:=ip H;have c5b0:=decide_eq_true c5;clear c5;obtain ⟨c6,H⟩:=ip H;have c6b0:=decide_eq_true c6;clear c6;(by_cases c7:(rd l0 x3_1)≤(rd l0 (ji4)))
    ·rw [if_pos c7] at H;have c7b0:=decide_eq_true c7;clear c7;obtain rfl:=Option.some.inj H;have p169:0≤(x3_1:Int):=oda;have q169:x3_1<(l0.length:Int):=oda;obtain ⟨ad169,e169,hx169_0⟩:=Kd.at_int HR0.out x3_1 p169 q169;cases e169;replace p169:=eq_true p169;replace q169:=eq_true q169;have p170:0≤((ji4):Int):=oda;have q170:(ji4)<(l0.length:Int):=oda;obtain ⟨ad170,e170,hx170_0⟩:=Kd.at_int HR0.out (ji4) p170 q170;obtain rfl:ad169=ad170:=(by injection e170);replace p170:=eq_true p170;replace q170:=eq_true q170;go_wp2;(repeat (go_quiet (fail);try go_wp2));go_ret;exact ⟨by first|rfl|(simp;done)|(simp only [← hji4] <;> (first|rfl|simp))|(simp [*];done),dz⟩
    ·rw [if_neg c7] at H;have c7b0:=decide_eq_false c7;clear c7;have H':=am H;clear H;have p169:0≤(x3_1:Int):=oda;have q169:x3_1<(l0.length:Int):=oda;obtain ⟨ad169,e169,hx169_0⟩:=Kd.at_int HR0.out x3_1 p169 q169;cases e169;replace p169:=eq_true p169;replace q169:=eq_true q169;have p170:0≤((ji4):Int):=oda;have q170:(ji4)<(l0.length:Int):=oda;obtain ⟨ad170,e170,hx170_0⟩:=Kd.at_int HR0.out (ji4) p170 q170;obtain rfl:ad169=ad170:=(by injection e170);replace p170:=eq_true p170;replace q170:=eq_true q170;go_wp2;(repeat (go_quiet (fail);try go_wp2));go_roundg k1;(case measure=>have:=HK1.out;omega);(case rel=>exact ⟨(wrap64 (x3_1+1)),(eqw),H',⟨by have:=HK1.out;omega⟩,dz⟩)
   ·rw [if_neg c2] at H;have c2b0:=decide_eq_false c2;clear c2;obtain rfl:=Option.some.inj H;go_wp2;(repeat (go_quiet (fail);try go_wp2));go_ret;exact ⟨eqw,dz⟩

/-! ### D3: function 41 -/
def D3.f (k:Nat) (a0_0:Int) (a0_1:Int) (l0_2:List (S61)):Option (Bool×Bool):=(Dz.f k a0_0 a0_1 l0_2).bind fun bt172=>((Dc.f bt172.1).bind fun t176=>(if bt172.2=true then ((Ci.f k t176).bind fun t177=>(some (t177,bt172.2))) else (some (false,bt172.2))))
set_option maxHeartbeats 8000000 in
set_option maxRecDepth 100000 in
theorem D3.calls (k:Nat) (a0_0:Int) (a0_1:Int) (A0_2:Option Addr) (c0_2:Nat) (l0_2:List (S61)) (r1:Bool) (r2:Bool) (w:World) (hr0_2:Kd.C k61 w A0_2 l0_2.length l0_2) (hc0_2:l0_2.length≤c0_2) (h:D3.f k a0_0 a0_1 l0_2=some (r1,r2)) :
  Calls Try.prog 41 #[.agg #[.int .i64 a0_0,.int .i64 a0_1,.slice A0_2 l0_2.length c0_2]] w fun e w'=>e=.returned (.tuple #[.bool r1,.bool r2])∧Below w.heap.size w w':=by
 have hu26:=Try.underlying26;have HR0_2:=am hr0_2;have HC0_2:=am hc0_2;clear hr0_2 hc0_2;have HB:=am (Below.refl w.heap.size w);have H:=h;clear h;unfold D3.f at H;obtain ⟨⟨t172,t175⟩,A2,H⟩:=bnd H;(try dsimp only at H);obtain ⟨t176,A3,H⟩:=bnd H;(try dsimp only at H);(by_cases c4:t175=true)
 ·subst c4;replace H:=yT H;obtain ⟨t177,A5,H⟩:=bnd H;replace H:(some (t177,true))=some (r1,r2):=H;simp only [Option.some.injEq,Prod.mk.injEq] at H;obtain ⟨rfl,rfl⟩:=H;go_enter Try.func41,Try.ntmps41;(go_wp2_with (first|((with_reducible refine Ag (N:=1) rfl ?_);refine Au 1 (#[.int .i64 a0_0,.int .i64 a0_1,.slice A0_2 l0_2.length c0_2]) 26 ?_;intro gb171 hg w6 hbox hb;have BK171:=am (hbox);have GW171:=am (gz hg HB);have GE171:=am (gz hg HB);replace HB:=wb HB hb;clear hb hbox hg;obtain ⟨hcz7_0,hcz7_1,hcz7_2,hfz7_0,hfz7_1,hfz7_2⟩:=cy3 BK171)|((with_reducible refine Ah (f:=39) rfl ?_);refine cgo (some 8) Try.func39 (Dz.calls k a0_0 a0_1 _ _ l0_2 t172 true _ ?side1 ?side2 A2.out) ?_;(case side1=>exact upC (Kd.C_below HR0_2.out HB.out));(case side2=>exact HC0_2.out);rintro e w8 ⟨v173,rfl,ho0,hb⟩;refine ⟨_,rfl,?_⟩;have HO174:=am (Kd.R_lower ho0 (Ar (upW HB)));replace BK171:=kb BK171 hb;replace HB:=wb HB hb;(try clear hb ho0);obtain ⟨Ao9,co9,eo9⟩:=Kd.R_slice HO174.out;subst eo9)|((with_reducible refine Ah (f:=104) rfl ?_);refine cgo (some 12) Try.func104 (Dc.calls (fun k_=>some k_=(.slice Ao9 t172.length co9:Value).ownBlock) (.slice Ao9 t172.length co9) t172 t176 w _ ?side1 ?side2 A3.out) ?_;(case side1=>repeat (first|(with_reducible first|exact HB.out|apply Ct|apply Cq|apply Aw|refine C1 ?_ GE171.out)|exact HB.out));(case side2=>exact Kd.R_tight rfl HO174.out);rintro e w10 ⟨rfl,hy0,hb,hkp⟩;refine ⟨_,rfl,?_⟩;replace BK171:=am (Gd (upK BK171) hkp (fun hs_=>(fun e_=>(Kd.R_ne HO174.out BK171.out (by decide)) e_) hs_));replace HO174:=am (Kd.R_reok rfl hy0 (fun k_ e_=>HO174.out.1 k_ e_));replace HB:=am (hb);(try clear hb hkp hy0))|(go_at_call 105;refine N5 (args' := #[.slice Ao9 t176.length co9]) (by first|(rw [show t176.length=t172.length from (Kd.R_reads' HO174.out).1.symm] <;> rfl)|rfl) ?_;(with_reducible refine (Ci.calls k _ _ t176 t177 _ ?side1 ?side2 A5.out).mono ?_);(case side1=>exact upC (Kd.R_reads' HO174.out).2.2);(case side2=>rw [show t176.length=t172.length from (Kd.R_reads' HO174.out).1.symm];exact (Kd.R_reads' HO174.out).2.1);rintro e w' ⟨rfl,⟨nd,rfl⟩⟩)));(go_ret2);exact ⟨eqv,upW HB⟩
 ·replace c4:=Bool.eq_false_iff.mpr c4;subst c4;replace H:=yF H;simp only [Option.some.injEq,Prod.mk.injEq] at H;obtain ⟨rfl,rfl⟩:=H;go_enter Try.func41,Try.ntmps41;(go_wp2_with (first|((with_reducible refine Ag (N:=1) rfl ?_);refine Au 1 (#[.int .i64 a0_0,.int .i64 a0_1,.slice A0_2 l0_2.length c0_2]) 26 ?_;intro gb171 hg w11 hbox hb;have BK171:=am (hbox);have GW171:=am (gz hg HB);have GE171:=am (gz hg HB);replace HB:=wb HB hb;clear hb hbox hg;obtain ⟨hcz12_0,hcz12_1,hcz12_2,hfz12_0,hfz12_1,hfz12_2⟩:=cy3 BK171)|((with_reducible refine Ah (f:=39) rfl ?_);refine cgo (some 8) Try.func39 (Dz.calls k a0_0 a0_1 _ _ l0_2 t172 false _ ?side1 ?side2 A2.out) ?_;(case side1=>exact upC (Kd.C_below HR0_2.out HB.out));(case side2=>exact HC0_2.out);rintro e w13 ⟨v173,rfl,ho0,hb⟩;refine ⟨_,rfl,?_⟩;have HO174:=am (Kd.R_lower ho0 (Ar (upW HB)));replace BK171:=kb BK171 hb;replace HB:=wb HB hb;(try clear hb ho0);obtain ⟨Ao14,co14,eo14⟩:=Kd.R_slice HO174.out;subst eo14)|((with_reducible refine Ah (f:=104) rfl ?_);refine cgo (some 12) Try.func104 (Dc.calls (fun k_=>some k_=(.slice Ao14 t172.length co14:Value).ownBlock) (.slice Ao14 t172.length co14) t172 t176 w _ ?side1 ?side2 A3.out) ?_;(case side1=>repeat (first|(with_reducible first|exact HB.out|apply Ct|apply Cq|apply Aw|refine C1 ?_ GE171.out)|exact HB.out));(case side2=>exact Kd.R_tight rfl HO174.out);rintro e w15 ⟨rfl,hy0,hb,hkp⟩;refine ⟨_,rfl,?_⟩;replace BK171:=am (Gd (upK BK171) hkp (fun hs_=>(fun e_=>(Kd.R_ne HO174.out BK171.out (by decide)) e_) hs_));replace HO174:=am (Kd.R_reok rfl hy0 (fun k_ e_=>HO174.out.1 k_ e_));replace HB:=am (hb);(try clear hb hkp hy0))));(go_ret2);exact ⟨eqv,upW HB⟩

/-! ### Bl: function 42 -/
mutual
def Bl.l0:Nat→List (S61)→Int→Int→Int→Int→List (S61)→Option (Bool×Bool)
 | 0,_,_,_,_,_,_=>none
 | k+1,x12,x13,x14,x179000,x179001,x179002=>if x14<x13 then (if 0≤x14 then (if x14<(x12.length:Int) then (if x14≤(x179002.length:Int) then ((some (x179002.take (x14:Int).toNat:List (S61))).bind fun y182=>(Bl.l1 k x12 x13 x14 y182 (y182.length:Int) 0 x179000 x179001 x179002 ((Aa x12 x14).f0) ((Aa x12 x14).f1) ((Aa x12 x14).f2))) else (none)) else (none)) else (none)) else (some (true,true))
def Bl.l1:Nat→List (S61)→Int→Int→List (S61)→Int→Int→Int→Int→List (S61)→Int→Int→Int→Option (Bool×Bool)
 | 0,_,_,_,_,_,_,_,_,_,_,_,_=>none
 | k+1,x12,x13,x14,x22,x23,x24,x179000,x179001,x179002,x182000,x182001,x182002=>if x24<x23 then (if 0≤x24 then (if x24<(x22.length:Int) then (if x182002=((Aa x22 x24).f2) then (some (false,true)) else (Bl.l1 k x12 x13 x14 x22 x23 (wrap64 (x24+1)) x179000 x179001 x179002 x182000 x182001 x182002)) else (none)) else (none)) else (Bl.l0 k x12 x13 (wrap64 (x14+1)) x179000 x179001 x179002)
end
def Bl.f (k:Nat) (a0_0:Int) (a0_1:Int) (l0_2:List (S61)):Option (Bool×Bool):=(Al.f k a0_0 a0_1 l0_2).bind fun t179=>(if t179=true then (Bl.l0 k l0_2 (l0_2.length:Int) 0 a0_0 a0_1 l0_2) else (some (false,false)))
set_option maxHeartbeats 8000000 in
set_option maxRecDepth 100000 in
theorem Bl.calls (k:Nat) (a0_0:Int) (a0_1:Int) (A0_2:Option Addr) (c0_2:Nat) (l0_2:List (S61)) (r1:Bool) (r2:Bool) (w:World) (hr0_2:Kd.C k61 w A0_2 l0_2.length l0_2) (hc0_2:l0_2.length≤c0_2) (h:Bl.f k a0_0 a0_1 l0_2=some (r1,r2)) :
  Calls Try.prog 42 #[.agg #[.int .i64 a0_0,.int .i64 a0_1,.slice A0_2 l0_2.length c0_2]] w fun e w'=>e=.returned (.tuple #[.bool r1,.bool r2])∧Below w.heap.size w w':=by
 have hu26:=Try.underlying26;have hu61:=Try.underlying61;have HR0_2:=am hr0_2;have HC0_2:=am hc0_2;clear hr0_2 hc0_2;have HB:=am (Below.refl w.heap.size w);have H:=h;clear h;unfold Bl.f at H;obtain ⟨t179,A2,H⟩:=bnd H;(try dsimp only at H);(by_cases c3:t179=true)
 ·subst c3;replace H:=yT H;have H':=am H;clear H;go_enter Try.func42,Try.ntmps42;(go_wp2_with (first|((with_reducible refine Ag (N:=1) rfl ?_);refine Au 1 (#[.int .i64 a0_0,.int .i64 a0_1,.slice A0_2 l0_2.length c0_2]) 26 ?_;intro gb178 hg w4 hbox hb;have BK178:=am (hbox);have GW178:=am (gz hg HB);have GE178:=am (gz hg HB);replace HB:=wb HB hb;clear hb hbox hg;obtain ⟨hcz5_0,hcz5_1,hcz5_2,hfz5_0,hfz5_1,hfz5_2⟩:=cy3 BK178)|((with_reducible refine Ah (f:=95) rfl ?_);refine cgo (some 9) Try.func95 (Al.calls k a0_0 a0_1 _ _ l0_2 true _ ?side1 ?side2 A2.out) ?_;(case side1=>exact upC (Kd.C_below HR0_2.out HB.out));(case side2=>exact HC0_2.out);rintro e w6 ⟨rfl,hb⟩;refine ⟨_,rfl,?_⟩;replace BK178:=kb BK178 hb;replace HB:=wb HB hb;(try clear hb);obtain ⟨hcz7_0,hcz7_1,hcz7_2,hfz7_0,hfz7_1,hfz7_2⟩:=cy3 BK178)));(try simp only [Act.put,List.setIfInBounds_toArray,List.set_cons_succ,List.set_cons_zero]);(go_loopg [14] k (fun kq v14 w'=>∃ (x14_1:Int),v14=.int .i64 x14_1∧Ab (Bl.l0 kq l0_2 (l0_2.length:Int) x14_1 a0_0 a0_1 l0_2=some (r1,r2))∧Ab (kq≤k)∧Ab (w'.heap[gb178]? = some (.cells #[.int .i64 a0_0,.int .i64 a0_1,(.slice A0_2 l0_2.length c0_2)] 26 (0,0)))∧Ab (Below w.heap.size w w')));(case atStart=>exact ⟨(0),(eqw),H',⟨Nat.le_refl _⟩,⟨upK BK178⟩,⟨upW HB⟩⟩)
  case round =>
   clear H';(try clear hcz5_0 hcz5_1 hcz5_2 hcz7_0 hcz7_1 hcz7_2 hfz5_0 hfz5_1 hfz5_2 hfz7_0 hfz7_1 hfz7_2);obtain ⟨x14_1,rfl,HA,HK1,BK178,HB⟩:=hrel
   cases gk with
   | zero=>exact absurd HA.out (by simp [Bl.l0])
   | succ k1 =>
    have H:=HA.out;clear HA;simp only [Bl.l0] at H;(by_cases c8:x14_1<(l0_2.length:Int))
    ·rw [if_pos c8] at H;have c8b0:=decide_eq_true c8;clear c8;obtain ⟨c9,H⟩:=ip H;have c9b0:=decide_eq_true c9;clear c9;obtain ⟨c10,H⟩:=ip H;have c10b0:=decide_eq_true c10;clear c10;have c11b0:=eq_true (oda:0≤x14_1);obtain ⟨c12,H⟩:=ip H;have c12b0:=eq_true c12;have c12b1:=decide_eq_true c12;clear c12;obtain ⟨y182,hy182⟩:∃ y_:List (S61),y_=(l0_2.take (x14_1:Int).toNat):=⟨_,rfl⟩;(replace H:(Bl.l1 k1 l0_2 (l0_2.length:Int) x14_1 y182 (y182.length:Int) 0 a0_0 a0_1 l0_2 ((Aa l0_2 x14_1).f0) ((Aa l0_2 x14_1).f1) ((Aa l0_2 x14_1).f2))=some (r1,r2):=rwH hy182 H);have Ny182:=am hy182;clear hy182;have H':=am H;clear H;have p180:0≤(x14_1:Int):=oda;have q180:x14_1<(l0_2.length:Int):=oda;obtain ⟨ad180,e180,hx180_0,hx180_1,hx180_2⟩:=Bb HR0_2.out x14_1 p180 q180;cases e180;replace hx180_0:=cb HB hx180_0;replace hx180_1:=cb HB hx180_1;replace hx180_2:=cb HB hx180_2;generalize (Aa l0_2 x14_1).f0=z180a at *;generalize (Aa l0_2 x14_1).f1=z180b at *;generalize (Aa l0_2 x14_1).f2=z180c at *;replace p180:=eq_true p180;replace q180:=eq_true q180;(go_wp2_with (first|((with_reducible refine Ag (N:=5) rfl ?_);refine Au 5 (#[.int .i64 0,.int .i64 0,.int .i64 0]) 61 ?_;intro gb181 hg w13 hbox hb;have BK181:=am (hbox);have GW181:=am (gz hg HB);have GE181:=am (gz hg HB);replace HB:=wb HB hb;have NB178_181:=am (gn hg BK178);have NB181_178:=am ((by rw [hg];exact Nat.ne_of_gt (Ao (upK BK178)):gb181≠gb178));replace BK178:=kb BK178 hb;clear hb hbox hg;have hnb14:=NB181_178.out;have hnc14:=NB178_181.out;obtain ⟨hcz15_0,hcz15_1,hcz15_2,hfz15_0,hfz15_1,hfz15_2⟩:=cy3 BK181)|((with_reducible refine Ed (t:=61) (p:=5) rfl ?_);refine D0 (t:=61) (p:=5) (v:=?vo_w16) (w1:=(((w13.setCell ⟨gb181,0,none⟩ (.int .i64 z180a)).setCell ⟨gb181,1,none⟩ (.int .i64 z180b)).setCell ⟨gb181,2,none⟩ (.int .i64 z180c))) ?hg ?ho ?hn ?hr ?_;(case ho=>rfl);(case hg=>rfl);(case hn=>rfl);(case hr=>first|(go_simp;done)|(go_simp;rfl));intro w16 hw;have n0_:Ab (w16.heap[gb178]? = some (.cells #[.int .i64 a0_0,.int .i64 a0_1,.slice (some ad180) l0_2.length c0_2] 26 (0,0))):=⟨(by rw [hw];exact (upF BK178))⟩;have n1_:Ab (w16.heap[gb181]? = some (.cells #[.int .i64 z180a,.int .i64 z180b,.int .i64 z180c] 61 (0,0))):=⟨(by rw [hw];exact (Cr BK181 #[.int .i64 z180a,.int .i64 z180b,.int .i64 0] #[.int .i64 z180a,.int .i64 0,.int .i64 0]))⟩;have n2_:Ab (Below w.heap.size w w16):=⟨(by rw [hw];exact (upW HB))⟩;clear hw;clear BK178;clear BK181;clear HB;have BK178:=n0_;have BK181:=n1_;have HB:=n2_;clear n0_ n1_ n2_;obtain ⟨hcz17_0,hcz17_1,hcz17_2,hfz17_0,hfz17_1,hfz17_2⟩:=cy3 BK178;have q18:(x14_1:Int)≤((l0_2.length:Int):Int):=oda;obtain ⟨i018,hi018,_,hsz18,_⟩:=info_parts Dy;have hroom18:l0_2.length≤c0_2:=HC0_2.out;have hC18:Kd.C k61 _ (some ad180) l0_2.length l0_2:=HR0_2.out;have hcut18:=Iz (P:=Try.prog) 24 61 .i64 Try.underlying24 hi018 (some ad180) l0_2.length c0_2 x14_1 (oda) q18 hroom18;have hr18:=Kd.C_take (m:=(x14_1:Int).toNat) hC18 (by omega);have hy18:y182.length=(x14_1:Int).toNat:=(by rw [Ny182.out,List.length_take];omega);rw [← Ny182.out] at hr18;rw [← hy18] at hcut18;have HR185:=am hr18;have HC185:=am (show y182.length≤c0_2 from by omega);clear hr18 hC18 hroom18 hi018 hsz18;have KY18:=am hy18;clear hy18;replace q18:=eq_true q18)));(try simp only [Act.put,List.setIfInBounds_toArray,List.set_cons_succ,List.set_cons_zero]);(go_loopg [24] k1 (fun kq v24 w'=>∃ (x24_2:Int),v24=.int .i64 x24_2∧Ab (Bl.l1 kq l0_2 (l0_2.length:Int) x14_1 y182 (y182.length:Int) x24_2 a0_0 a0_1 l0_2 z180a z180b z180c=some (r1,r2))∧Ab (kq≤k1)∧Ab (w'.heap[gb178]? = some (.cells #[.int .i64 a0_0,.int .i64 a0_1,(.slice (some ad180) l0_2.length c0_2)] 26 (0,0)))∧Ab (w'.heap[gb181]? = some (.cells #[.int .i64 z180a,.int .i64 z180b,.int .i64 z180c] 61 (0,0)))∧Ab (Below w.heap.size w w')));(case atStart=>exact ⟨(0),(eqw),H',⟨Nat.le_refl _⟩,⟨upK BK178⟩,⟨upK BK181⟩,⟨upW HB⟩⟩)
     case round =>
      clear H';(try clear c8b0 c9b0 c10b0 c11b0 c12b0 c12b1 q18 hcz15_0 hcz15_1 hcz15_2 hcz17_0 hcz17_1 hcz17_2 hfz15_0 hfz15_1 hfz15_2 hfz17_0 hfz17_1 hfz17_2 hx180_0 hx180_1 hx180_2 p180 q180);obtain ⟨x24_2,rfl,HA,HK2,BK178,BK181,HB⟩:=hrel
      cases gk with
      | zero=>exact absurd HA.out (by simp [Bl.l1])
      | succ k2 =>
       have H:=HA.out;clear HA;simp only [Bl.l1] at H;(by_cases c19:x24_2<(y182.length:Int))
       ·rw [if_pos c19] at H;have c19b0:=decide_eq_true c19;clear c19;obtain ⟨c20,H⟩:=ip H;have c20b0:=decide_eq_true c20;clear c20;obtain ⟨c21,H⟩:=ip H;have c21b0:=decide_eq_true c21;clear c21;(by_cases c22:z180c=((Aa y182 x24_2).f2))
        ·rw [if_pos c22] at H;have c22b0:(z180c==((Aa y182 x24_2).f2))=true:=beq_iff_eq.mpr c22;have c22b1:(z180c != ((Aa y182 x24_2).f2))=false:=bne_eq_false_iff_eq.mpr c22;clear c22;simp only [Option.some.injEq,Prod.mk.injEq] at H;obtain ⟨rfl,rfl⟩:=H;have p186:0≤(x24_2:Int):=oda;have q186:x24_2<(y182.length:Int):=oda;obtain ⟨ad186,e186,hx186_0,hx186_1,hx186_2⟩:=Bb HR185.out x24_2 p186 q186;obtain rfl:ad180=ad186:=(by injection e186);replace hx186_0:=cb HB hx186_0;replace hx186_1:=cb HB hx186_1;replace hx186_2:=cb HB hx186_2;replace p186:=eq_true p186;replace q186:=eq_true q186;(go_wp2_with (first|((with_reducible refine Ag (N:=7) rfl ?_);refine Au 7 (#[.int .i64 0,.int .i64 0,.int .i64 0]) 61 ?_;intro gb187 hg w23 hbox hb;have BK187:=am (hbox);have GW187:=am (gz hg HB);have GE187:=am (gz hg HB);replace HB:=wb HB hb;have NB178_187:=am (gn hg BK178);have NB187_178:=am ((by rw [hg];exact Nat.ne_of_gt (Ao (upK BK178)):gb187≠gb178));replace BK178:=kb BK178 hb;have NB181_187:=am (gn hg BK181);have NB187_181:=am ((by rw [hg];exact Nat.ne_of_gt (Ao (upK BK181)):gb187≠gb181));replace BK181:=kb BK181 hb;clear hb hbox hg;have hnb24:=NB187_178.out;have hnc24:=NB178_187.out;have hnb25:=NB187_181.out;have hnc25:=NB181_187.out;obtain ⟨hcz26_0,hcz26_1,hcz26_2,hfz26_0,hfz26_1,hfz26_2⟩:=cy3 BK187;have hnb27:=NB181_178.out;have hnc27:=NB178_181.out;obtain ⟨hcz28_0,hcz28_1,hcz28_2,hfz28_0,hfz28_1,hfz28_2⟩:=cy3 BK181)));(go_ret2);exact ⟨eqv,upW HB⟩
        ·rw [if_neg c22] at H;have c22b0:(z180c==((Aa y182 x24_2).f2))=false:=beq_eq_false_iff_ne.mpr c22;have c22b1:(z180c != ((Aa y182 x24_2).f2))=true:=bne_iff_ne.mpr c22;have H':=am H;clear H;have p186:0≤(x24_2:Int):=oda;have q186:x24_2<(y182.length:Int):=oda;obtain ⟨ad186,e186,hx186_0,hx186_1,hx186_2⟩:=Bb HR185.out x24_2 p186 q186;obtain rfl:ad180=ad186:=(by injection e186);replace hx186_0:=cb HB hx186_0;replace hx186_1:=cb HB hx186_1;replace hx186_2:=cb HB hx186_2;replace p186:=eq_true p186;replace q186:=eq_true q186;(go_wp2_with (first|((with_reducible refine Ag (N:=7) rfl ?_);refine Au 7 (#[.int .i64 0,.int .i64 0,.int .i64 0]) 61 ?_;intro gb187 hg w29 hbox hb;have BK187:=am (hbox);have GW187:=am (gz hg HB);have GE187:=am (gz hg HB);replace HB:=wb HB hb;have NB178_187:=am (gn hg BK178);have NB187_178:=am ((by rw [hg];exact Nat.ne_of_gt (Ao (upK BK178)):gb187≠gb178));replace BK178:=kb BK178 hb;have NB181_187:=am (gn hg BK181);have NB187_181:=am ((by rw [hg];exact Nat.ne_of_gt (Ao (upK BK181)):gb187≠gb181));replace BK181:=kb BK181 hb;clear hb hbox hg;have hnb30:=NB187_178.out;have hnc30:=NB178_187.out;have hnb31:=NB187_181.out;have hnc31:=NB181_187.out;obtain ⟨hcz32_0,hcz32_1,hcz32_2,hfz32_0,hfz32_1,hfz32_2⟩:=cy3 BK187;have hnb33:=NB181_178.out;have hnc33:=NB178_181.out;obtain ⟨hcz34_0,hcz34_1,hcz34_2,hfz34_0,hfz34_1,hfz34_2⟩:=cy3 BK181)));go_roundg k2;(case measure=>have:=HK1.out;have:=HK2.out;omega);(case rel=>exact ⟨(wrap64 (x24_2+1)),(eqw),H',⟨by have:=HK1.out;have:=HK2.out;omega⟩,⟨upF BK178⟩,⟨upF BK181⟩,⟨upW HB⟩⟩)
       ·rw [if_neg c19] at H;have c19b0:=decide_eq_false c19;clear c19;have H':=am H;clear H;go_wp2;go_roundg k2;(case measure=>have:=HK1.out;have:=HK2.out;omega);(case rel=>exact ⟨(wrap64 (x14_1+1)),(eqw),H',⟨by have:=HK1.out;have:=HK2.out;omega⟩,⟨upK BK178⟩,⟨upW HB⟩⟩)
    ·rw [if_neg c8] at H;have c8b0:=decide_eq_false c8;clear c8;simp only [Option.some.injEq,Prod.mk.injEq] at H;obtain ⟨rfl,rfl⟩:=H;go_wp2;(go_ret2);exact ⟨eqv,upW HB⟩
 ·replace c3:=Bool.eq_false_iff.mpr c3;subst c3;replace H:=yF H;simp only [Option.some.injEq,Prod.mk.injEq] at H;obtain ⟨rfl,rfl⟩:=H;go_enter Try.func42,Try.ntmps42;(go_wp2_with (first|((with_reducible refine Ag (N:=1) rfl ?_);refine Au 1 (#[.int .i64 a0_0,.int .i64 a0_1,.slice A0_2 l0_2.length c0_2]) 26 ?_;intro gb178 hg w35 hbox hb;have BK178:=am (hbox);have GW178:=am (gz hg HB);have GE178:=am (gz hg HB);replace HB:=wb HB hb;clear hb hbox hg;obtain ⟨hcz36_0,hcz36_1,hcz36_2,hfz36_0,hfz36_1,hfz36_2⟩:=cy3 BK178)|((with_reducible refine Ah (f:=95) rfl ?_);refine cgo (some 9) Try.func95 (Al.calls k a0_0 a0_1 _ _ l0_2 false _ ?side1 ?side2 A2.out) ?_;(case side1=>exact upC (Kd.C_below HR0_2.out HB.out));(case side2=>exact HC0_2.out);rintro e w37 ⟨rfl,hb⟩;refine ⟨_,rfl,?_⟩;replace BK178:=kb BK178 hb;replace HB:=wb HB hb;(try clear hb))));(go_ret2);exact ⟨eqv,upW HB⟩

/-! ### Cg: function 140 -/
def Cg.f (a0:Bool):Option (Int):=if a0=true then (some 1) else (some 0)
set_option maxHeartbeats 8000000 in
set_option maxRecDepth 100000 in
theorem Cg.calls (a0:Bool) (r:Int) (w:World) (h:Cg.f a0=some r) :
  Calls Try.prog 140 #[.bool a0] w fun e w'=>e=.returned (.int .i64 r)∧Di w w':=by
 have H:=h;clear h;unfold Cg.f at H;(by_cases c2:a0=true)
 ·subst c2;replace H:=yT H;obtain rfl:=Option.some.inj H;go_enter Try.func140,Try.ntmps140;go_wp2;go_ret;exact ⟨eqw,dz⟩
 ·replace c2:=Bool.eq_false_iff.mpr c2;subst c2;replace H:=yF H;obtain rfl:=Option.some.inj H;go_enter Try.func140,Try.ntmps140;go_wp2;go_ret;exact ⟨eqw,dz⟩

end Go.Proofs.Yteaomckihokakaa.PFnCutsFillOfAll
