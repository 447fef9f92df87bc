-- made for this claim by a program of this session
import Derived.Test.YtgeahghdikdamaaGreatPFnCodesToldOfAllx0
import Derived.Test.YtgeahghdikdamaaGreatPFnCodesToldOfAllx7
namespace Go.Proofs.YtgeahghdikdamaaGreat.PFnCodesToldOfAll
open Go.RowKit Go.Proofs.YtgeahghdikdamaaGreatW.PrintWords Go.Proofs.YtgeahghdikdamaaGreatW.PrintLast Go.Proofs.YtgeahghdikdamaaGreatW.PrintMore
attribute [local go_sem] Dn Do D2 D3 Da Db Dp Dq -- for this text's walks alone
set_option linter.unusedVariables false
set_option linter.unusedSimpArgs false

/-! ### Aw: the pair slices.SortFunc[[]loop.example/g01296/impl.Square,loop.example/g01296/impl.Square] -/
/-! squares whose places are small enough that comparePlaces does not wrap -/
def Ju (s:S50):Prop:=(-1099511627776≤s.f0∧s.f0≤1099511627776)∧(-1099511627776≤s.f1∧s.f1≤1099511627776)
instance (s:S50):Decidable (Ju s):=by unfold Ju;infer_instance
abbrev BSq:={s:S50 // Ju s}
instance:Inhabited BSq:=⟨⟨⟨0,0,0⟩,by unfold Ju;decide⟩⟩
def Kh (s:S50):List Value:=[.int .i64 s.f0,.int .i64 s.f1,.int .i64 s.f2]
instance:Inhabited S50:=⟨⟨0,0,0⟩⟩
def I7 (a b:BSq):Int:=if a.1.f1≠b.1.f1 then a.1.f1-b.1.f1 else a.1.f0-b.1.f0
def Jk (a b:S50):Prop:=a.f1<b.f1∨a.f1=b.f1∧a.f0<b.f0
instance (a b:S50):Decidable (Jk a b):=by unfold Jk;infer_instance
theorem ltSq (a b:BSq):ltOf I7 a b=decide (Jk a.1 b.1):=by
 unfold ltOf I7 Jk;(by_cases h:a.1.f1=b.1.f1)
 ·(simp [h];omega)
 ·(simp [h];omega)
theorem swoSq:Sort.SWO (ltOf I7) where
 irrefl x:=by rw [ltSq,decide_eq_false_iff_not];unfold Jk;omega
 trans x y z h1 h2:=by rw [ltSq,decide_eq_true_iff] at *;unfold Jk at *;omega
 ntrans x y z h1 h2:=by rw [ltSq,decide_eq_false_iff_not] at *;unfold Jk at *;omega
def E9:Go.Shelf.Ren:=⟨fun|6=>92|15=>96|14=>95|28=>106|29=>107|20=>90|21=>99|22=>100|23=>101|24=>102|25=>103|26=>104|27=>105|46=>108|47=>109|48=>110|49=>111|50=>112|57=>113|n=>n,fun|22=>22|24=>50|25=>55|3=>3|39=>86|0=>0|53=>95|55=>97|4=>4|46=>89|45=>88|50=>38|5=>5|9=>9|66=>98|70=>102|76=>104|77=>105|n=>n,fun|n=>n⟩
theorem Dz:Go.Proofs.SlLaysF0.n6 Tryz.prog E9 where
 mixed:=by kernel_rfl
 f6:=⟨Tryz.f92.name,by decide,Tryz.func92.trans (congrArg some (by kernel_rfl))⟩
 f14:=⟨Tryz.f95.name,by decide,Tryz.func95.trans (congrArg some (by kernel_rfl))⟩
 f15:=Tryz.func96.trans (congrArg some (by kernel_rfl))
 f20:=⟨Tryz.f90.name,by decide,Tryz.func90.trans (congrArg some (by kernel_rfl))⟩
 f21:=⟨Tryz.f99.name,by decide,Tryz.func99.trans (congrArg some (by kernel_rfl))⟩
 f22:=⟨Tryz.f100.name,by decide,Tryz.func100.trans (congrArg some (by kernel_rfl))⟩
 f23:=⟨Tryz.f101.name,by decide,Tryz.func101.trans (congrArg some (by kernel_rfl))⟩
 f24:=⟨Tryz.f102.name,by decide,Tryz.func102.trans (congrArg some (by kernel_rfl))⟩
 f25:=⟨Tryz.f103.name,by decide,Tryz.func103.trans (congrArg some (by kernel_rfl))⟩
 f26:=⟨Tryz.f104.name,by decide,Tryz.func104.trans (congrArg some (by kernel_rfl))⟩
 f27:=⟨Tryz.f105.name,by decide,Tryz.func105.trans (congrArg some (by kernel_rfl))⟩
 f28:=Tryz.func106.trans (congrArg some (by kernel_rfl))
 f29:=Tryz.func107.trans (congrArg some (by kernel_rfl))
 f46:=⟨Tryz.f108.name,by decide,Tryz.func108.trans (congrArg some (by kernel_rfl))⟩
 f47:=Tryz.func109.trans (congrArg some (by kernel_rfl))
 f48:=Tryz.func110.trans (congrArg some (by kernel_rfl))
 f49:=⟨Tryz.f111.name,by decide,Tryz.func111.trans (congrArg some (by kernel_rfl))⟩
 f50:=⟨Tryz.f112.name,by decide,Tryz.func112.trans (congrArg some (by kernel_rfl))⟩
 f57:=⟨Tryz.f113.name,by decide,Tryz.func113.trans (congrArg some (by kernel_rfl))⟩
 t0:=Tryz.underlying0
 a0:=Tryz.isAgg0
 z0:=Tryz.sizeOf0
 v0:=Tryz.zeroValue0
 t3:=Tryz.underlying3
 a3:=Tryz.isAgg3
 z3:=Tryz.sizeOf3
 v3:=Tryz.zeroValue3
 t4:=Tryz.underlying4
 a4:=Tryz.isAgg4
 z4:=Tryz.sizeOf4
 v4:=Tryz.zeroValue4
 t5:=Tryz.underlying5
 a5:=Tryz.isAgg5
 z5:=Tryz.sizeOf5
 v5:=Tryz.zeroValue5
 t9:=Tryz.underlying9
 a9:=Tryz.isAgg9
 z9:=Tryz.sizeOf9
 v9:=Tryz.zeroValue9
 t22:=Tryz.underlying22
 a22:=Tryz.isAgg22
 z22:=Tryz.sizeOf22
 v22:=Tryz.zeroValue22
 t25:=Tryz.underlying55
 a25:=Tryz.isAgg55
 z25:=Tryz.sizeOf55
 v25:=Tryz.zeroValue55
 t39:=Tryz.underlying86
 a39:=Tryz.isAgg86
 z39:=Tryz.sizeOf86
 v39:=Tryz.zeroValue86
 t45:=Tryz.underlying88
 a45:=Tryz.isAgg88
 z45:=Tryz.sizeOf88
 v45:=Tryz.zeroValue88
 t46:=Tryz.underlying89
 a46:=Tryz.isAgg89
 z46:=Tryz.sizeOf89
 v46:=Tryz.zeroValue89
 t50:=Tryz.underlying38
 a50:=Tryz.isAgg38
 z50:=Tryz.sizeOf38
 v50:=Tryz.zeroValue38
 t53:=Tryz.underlying95
 a53:=Tryz.isAgg95
 z53:=Tryz.sizeOf95
 v53:=Tryz.zeroValue95
 t55:=Tryz.underlying97
 a55:=Tryz.isAgg97
 z55:=Tryz.sizeOf97
 v55:=Tryz.zeroValue97
 t66:=Tryz.underlying98
 a66:=Tryz.isAgg98
 z66:=Tryz.sizeOf98
 v66:=Tryz.zeroValue98
 t70:=Tryz.underlying102
 a70:=Tryz.isAgg102
 z70:=Tryz.sizeOf102
 v70:=Tryz.zeroValue102
 t76:=Tryz.underlying104
 a76:=Tryz.isAgg104
 z76:=Tryz.sizeOf104
 v76:=Tryz.zeroValue104
 t77:=Tryz.underlying105
 a77:=Tryz.isAgg105
 z77:=Tryz.sizeOf105
 v77:=Tryz.zeroValue105
def Gx (l:List S50) (h:∀ s ∈ l,Ju s):Array BSq:=(l.attach.map fun s=>(⟨s.1,h s.1 s.2⟩:BSq)).toArray
def Aw.f (l:List S50):Option (List S50) :=
 if h:(∀ s ∈ l,Ju s)∧l.length≤1000000 then some ((Sort.pdq (ltOf I7) (Gx l h.1) 0 l.length (Lib.bitLen l.length) true true).toList.map (·.1)) else none
set_option maxHeartbeats 8000000 in
theorem cmpSq (x y:BSq) (W:World):Calls Tryz.prog 36 #[.agg #[.int .i64 x.1.f0,.int .i64 x.1.f1,.int .i64 x.1.f2],.agg #[.int .i64 y.1.f0,.int .i64 y.1.f1,.int .i64 y.1.f2]] W fun e w'=>e=.returned (.int .i64 (I7 x y))∧∃ q os',w'=Sort.grow (W.drewN q) os':=by
 obtain ⟨⟨x0,x1,x2⟩,bx⟩:=x;obtain ⟨⟨y0,y1,y2⟩,bY⟩:=y;have bx':=bx;have bY':=bY;unfold Ju at bx' bY';(dsimp only at bx' bY' ⊢);(have e1:wrap64 (x1-y1)=x1-y1:=by unfold wrap64;omega);(have e0:wrap64 (x0-y0)=x0-y0:=by unfold wrap64;omega);clear bx' bY';(by_cases hc:x1=y1)
 ·(have hv:I7 ⟨⟨x0,x1,x2⟩,bx⟩ ⟨⟨y0,y1,y2⟩,bY⟩=wrap64 (x0-y0):=by rw [e0];unfold I7;simp [hc]);rw [hv];clear hv e1 e0;(have c1:(x1 != y1)=false:=by simp [hc]);(have c2:(x1==y1)=true:=by simp [hc]);clear hc bx bY;go_enter Tryz.func36,Tryz.ntmps36;go_wp2;go_ret;exact ⟨rfl,0,_,by rw [Sort.alloc_eq_grow,Sort.alloc_eq_grow,Sort.grow_grow];rfl⟩
 ·(have hv:I7 ⟨⟨x0,x1,x2⟩,bx⟩ ⟨⟨y0,y1,y2⟩,bY⟩=wrap64 (x1-y1):=by rw [e1];unfold I7;simp [hc]);rw [hv];clear hv e1 e0;(have c1:(x1 != y1)=true:=by simp [hc]);(have c2:(x1==y1)=false:=by simp [hc]);clear hc bx bY;go_enter Tryz.func36,Tryz.ntmps36;go_wp2;go_ret;exact ⟨rfl,0,_,by rw [Sort.alloc_eq_grow,Sort.alloc_eq_grow,Sort.grow_grow];rfl⟩
theorem Ri (d:Array BSq):Sort.flatK (fun s:BSq=>Kh s.1) 3 d=Sort.flatK Kh 3 (d.map (·.1)):=by
 (refine Sort.ext_get! (by simp) fun t ht=>?_);(have ht':t<d.size*3:=by simpa using ht);(have hq:t/3<d.size:=by omega);rw [Sort.get_flatK _ _ _ _ ht',Sort.get_flatK _ _ _ _ (by simpa using ht'),getElem!_pos d (t/3) hq,getElem!_pos (d.map (·.1)) (t/3) (by simpa using hq)];simp
set_option maxHeartbeats 8000000 in
theorem Aw.calls (a1:Nat→Prop) (a6:Value) (l0:List S50) (r:List S50) (w0 w:World) (hB:Below w0.heap.size w0 w) (a2:Kd.R k50 50 w w0.heap.size a1 a6 l0) (h:Aw.f l0=some r) :
  Calls Tryz.prog 92 #[a6,.func (.func 36) #[] #[]] w fun e w'=>e=.returned (.tuple #[])∧Kd.R k50 50 w' w0.heap.size (fun k_=>(a1 k_∨w.heap.size≤k_)) a6 r∧Below w0.heap.size w0 w'∧Bb w w' (fun k_=>a1 k_):=by
 unfold Aw.f at h;(by_cases a7:(∀ s ∈ l0,Ju s)∧l0.length≤1000000)
 ·rw [dif_pos a7] at h;obtain ⟨hbd,hlen⟩:=a7;have h':=(Option.some.inj h).symm;clear h;have a8:Kd.R k50 50 w w0.heap.size (fun k_=>(a1 k_∨w.heap.size≤k_)) a6 l0:=Kd.R_mono a2 (fun _ hk=>.inl hk);(by_cases hl:l0=[])
  ·subst hl
   have hr:r=[]:=by
    rw [h'];(have hs:(Gx [] hbd).size=0:=by simp [Gx]);have hp:=(Sort.pdq_sorts (ltOf I7) swoSq (Gx [] hbd) 0 0 (Lib.bitLen 0) true true (Nat.le_refl _) (by omega) (Or.inl rfl)).1.1;rw [hs] at hp;have he:=Array.eq_empty_of_size_eq_zero hp;(show List.map _ (Sort.pdq (ltOf I7) (Gx [] hbd) 0 0 (Lib.bitLen 0) true true).toList=[]);(rw [he];rfl)
   subst hr;obtain ⟨A,c,rfl⟩:=Kd.R_slice a2;refine (AnyF.slices_SortFunc_none Dz A c (.func (.func 36) #[] #[]) w).mono ?_;rintro e w' ⟨rfl,rfl⟩;exact ⟨rfl,a8,hB,Bb.refl _ _⟩
  ·have hp:0<l0.length:=List.length_pos_iff.2 hl;obtain ⟨g,cap,rfl,hbase,hlt,cells,hcells⟩:=Kd.R_form a2 hp;(have hbig:l0.length<4611686018427387904:=by omega);have hH:=rowK_holds (enc:=Kh) (fun h=>D5 h) (fun _=>rfl) a2;(have hd:(Gx l0 hbd).map (·.1)=l0.toArray:=by simp [Gx])
   have b0:Sort.HoldsK (fun s:BSq=>Kh s.1) 3 w g 0 (Gx l0 hbd):=by
    unfold Sort.HoldsK;rw [Ri,hd];exact hH
   (have hs:(Gx l0 hbd).size=l0.length:=by simp [Gx]);have eg:∀ args w,(callFunc 36 args).run Tryz.prog w=.ok (.enter 36 args) w:=enters_of Tryz.func36 (by kernel_rfl) rfl;have hcon:=AnyQ.slices_SortFunc_eq Dz 3 Tryz.isAgg50 Tryz.sizeOf50 (fun s:BSq=>Kh s.1) (fun _=>rfl) (fun x v hv=>by simp [Kh] at hv;rcases hv with rfl|rfl|rfl <;> rfl) I7 swoSq 36 #[] g 0 cap (Gx l0 hbd) w eg (fun _ _ _ _ x y=>cmpSq x y _) b0 hlt (by rw [hs];exact hbig);rw [hs] at hcon;refine hcon.mono ?_;rintro e w' ⟨rfl,q,os,rfl⟩;have hps:=(Sort.pdq_sorts (ltOf I7) swoSq (Gx l0 hbd) 0 l0.length (Lib.bitLen l0.length) true true (Nat.zero_le _) (by omega) (Or.inl rfl)).1.1;generalize Sort.pdq (ltOf I7) (Gx l0 hbd) 0 l0.length (Lib.bitLen l0.length) true true=dd at h' hps ⊢
   have hw:sortWorldK (fun s:BSq=>Kh s.1) 3 w g 0 q dd os=sortWorldK Kh 3 w g 0 q (dd.map (·.1)) os:=by
    unfold sortWorldK Sort.putRowK;rw [Ri]
   have hput:=rowK_put (enc:=Kh) (S:=fun k_=>a1 k_) (fun h=>D5 h) (fun _ _ _ x=>Ei _ _ _ x) (fun _=>rfl) a8 (dd.map (·.1)) (by rw [Array.size_map,hps,hs]) q os hB hbase (a2.1 g rfl);(have hr:(dd.map (·.1)).toList=r:=by rw [h',Array.toList_map]);rw [hr] at hput;rw [hw];exact ⟨rfl,hput⟩
 ·rw [dif_neg a7] at h;exact absurd h (by simp)

/-! ### An: function 100001 -/
def An.l0:Nat→List (S50)→Int→Int→Int→Int→List (S50)→Int→Int→List (S50)→Option (Int×Int×(List (S50)))
 | 0,_,_,_,_,_,_,_,_,_=>none
 | k+1,a2,a8,a1,b0,b1,b2,b3,b4,a7=>if a1<a8 then (if 0≤a1 then (if a1<(a2.length:Int) then ((Ep.f ((Aa a2 a1).f0) ((Aa a2 a1).f1) ((Aa a2 a1).f2) b0 b1 b2).bind fun a6=>(if a7.length<5864062014805 then (An.l0 k a2 a8 (wrap64 (a1+1)) b0 b1 b2 b3 b4 (a7++[(⟨a6.1,a6.2.1,a6.2.2⟩:S50)])) else (none))) else (none)) else (none)) else ((Aw.f a7).bind fun t248=>(some (b3,b4,t248)))
def An.f (k:Nat) (b1:Int) (b2:Int) (a6:List (S50)) (a1:Int) (a2:Int) (a7:Int) (a8:Int) (b0:List (S50)):Option (Int×Int×(List (S50))):=An.l0 k a6 (a6.length:Int) 0 a7 a8 b0 a1 a2 ([]:List (S50))
def An.T5:Bool×List (List Nat×List Nat):=(true,[([],[]),([0],[0]),([],[]),([],[]),([2,3],[2,3]),([4],[4]),([1,5,4],[1,5]),([0,1,2,3,4,5,6],[]),([7,6,6,0,1,2,3,4,5,6],[6,7])])
def An.B5:List Nat:=[0,1,0,0,12,28,63,127,255]
theorem An.tab5:Dv .any (Gi Tryz.f83 5)=An.T5:=by kernel_rfl
theorem An.bits5:Dk An.T5.2 An.B5=true:=by kernel_rfl
set_option maxHeartbeats 8000000 in
set_option maxRecDepth 100000 in
theorem An.calls (k:Nat) (g3:Int) (g4:Int) (g6:Option Addr) (g5:Nat) (c0:List (S50)) (a1:Int) (a2:Int) (b2:Nat) (b6:Int) (b7:Int) (b8:Option Addr) (b9:Nat) (b5:List (S50)) (r1:Int) (r2:Int) (r3:List (S50)) (w:World) (k7:Kd.C k50 w g6 c0.length c0) (k5:c0.length≤g5) (k8:Kd.C k50 w b8 b5.length b5) (k6:b5.length≤b9) (k4:w.heap[b2]? = some (.cells #[.int .i64 b6,.int .i64 b7,.slice b8 b5.length b9] 24 (0,0))) (h:An.f k g3 g4 c0 a1 a2 b6 b7 b5=some (r1,r2,r3)) :
  Calls Tryz.prog 83 #[.agg #[.int .i64 g3,.int .i64 g4,.slice g6 c0.length g5],.int .i64 a1,.int .i64 a2,.func (.func 84) #[] #[.pointer (some ⟨b2,0,none⟩)]] w fun e w'=>∃ l8:Value,e=.returned (.agg #[.int .i64 r1,.int .i64 r2,l8])∧Kd.R k50 50 w' w.heap.size (fun _=>True) l8 r3∧Below w.heap.size w w':=by
 have y9:=Tryz.underlying24;have z1:=Tryz.underlying50;have m5:=am k7;have q8:=am k5;clear k7 k5;have m6:=am k8;have m4:=am k6;clear k8 k6;have a8:=am k4;clear k4;have HB:=am (Below.refl w.heap.size w);have H:=h;clear h;unfold An.f at H;have H':=am H;clear H;go_enter Tryz.func83,Tryz.ntmps83;(go_wp2_with (first|((with_reducible refine Ag (N:=4) rfl ?_);refine Bd 4 (#[.int .i64 g3,.int .i64 g4,.slice g6 c0.length g5]) 24 ?_;intro d8 hg w5 hbox hb;have b0:=am (hbox);have q4:=am (gz hg HB);have m1:=am (gz hg HB);replace HB:=wb HB hb;have m8:=am ((by rw [hg];exact Nat.ne_of_lt (Ak (g:=b2) (o:=.cells #[.int .i64 b6,.int .i64 b7,.slice b8 b5.length b9] 24 (0,0)) (upK a8)):b2≠d8));have n1:=am ((by rw [hg];exact Nat.ne_of_gt (Ak (g:=b2) (o:=.cells #[.int .i64 b6,.int .i64 b7,.slice b8 b5.length b9] 24 (0,0)) (upK a8)):d8≠b2));replace a8:=am (Am (g:=b2) (o:=.cells #[.int .i64 b6,.int .i64 b7,.slice b8 b5.length b9] 24 (0,0)) (upK a8) hb);clear hb hbox hg)|((with_reducible refine Ag (N:=8) rfl ?_);refine Bd 8 (#[.int .i64 0,.int .i64 0,.slice none 0 0]) 24 ?_;intro d6 hg w6 hbox hb;have b1:=am (hbox);have q5:=am (gz hg HB);have m2:=am (gz hg HB);replace HB:=wb HB hb;have m9:=am ((by rw [hg];exact Nat.ne_of_lt (Ak (g:=b2) (o:=.cells #[.int .i64 b6,.int .i64 b7,.slice b8 b5.length b9] 24 (0,0)) (upK a8)):b2≠d6));have n3:=am ((by rw [hg];exact Nat.ne_of_gt (Ak (g:=b2) (o:=.cells #[.int .i64 b6,.int .i64 b7,.slice b8 b5.length b9] 24 (0,0)) (upK a8)):d6≠b2));replace a8:=am (Am (g:=b2) (o:=.cells #[.int .i64 b6,.int .i64 b7,.slice b8 b5.length b9] 24 (0,0)) (upK a8) hb);have i4:=am (gn hg b0);have i5:=am ((by rw [hg];exact Nat.ne_of_gt (Ak (upK b0)):d6≠d8));replace b0:=kb b0 hb;clear hb hbox hg)|((with_reducible refine Ag (N:=9) rfl ?_);refine Bd 9 (#[.int .i64 0,.int .i64 0,.slice none 0 0]) 24 ?_;intro d3 hg w7 hbox hb;have a7:=am (hbox);have q6:=am (gz hg HB);have m3:=am (gz hg HB);replace HB:=wb HB hb;have g8:=am ((by rw [hg];exact Nat.ne_of_lt (Ak (g:=b2) (o:=.cells #[.int .i64 b6,.int .i64 b7,.slice b8 b5.length b9] 24 (0,0)) (upK a8)):b2≠d3));have h3:=am ((by rw [hg];exact Nat.ne_of_gt (Ak (g:=b2) (o:=.cells #[.int .i64 b6,.int .i64 b7,.slice b8 b5.length b9] 24 (0,0)) (upK a8)):d3≠b2));replace a8:=am (Am (g:=b2) (o:=.cells #[.int .i64 b6,.int .i64 b7,.slice b8 b5.length b9] 24 (0,0)) (upK a8) hb);have g9:=am (gn hg b0);have h4:=am ((by rw [hg];exact Nat.ne_of_gt (Ak (upK b0)):d3≠d8));replace b0:=kb b0 hb;have h0:=am (gn hg b1);have h5:=am ((by rw [hg];exact Nat.ne_of_gt (Ak (upK b1)):d3≠d6));replace b1:=kb b1 hb;clear hb hbox hg;have w8:=h3.out;have y2:=g8.out;have w9:=h4.out;have y3:=g9.out;have u6:=h5.out;have x0:=h0.out;obtain ⟨o6,o7,o8,p2,p3,p4⟩:=cy3 a7;have u7:=n1.out;have x1:=m8.out;have u8:=i4.out;have x2:=i5.out;obtain ⟨o9,p0,p1,p5,p6,p7⟩:=cy3 b0)));(try simp only [Act.put,List.setIfInBounds_toArray,List.set_cons_succ,List.set_cons_zero]);(go_loopg [18] k (fun kq p9 w'=>∃ (d4:Int) (d2:List (S50)) (d5:Value),p9=.int .i64 d4∧Ab (An.l0 kq c0 (c0.length:Int) d4 b6 b7 b5 a1 a2 d2=some (r1,r2,r3))∧Ab (kq≤k)∧Ab (Kd.R k50 50 w' w.heap.size (fun _=>True) d5 d2)∧Ab (w'.heap[b2]? = some (.cells #[.int .i64 b6,.int .i64 b7,(.slice b8 b5.length b9)] 24 (0,0)))∧Ab (w'.heap[d8]? = some (.cells #[.int .i64 g3,.int .i64 g4,(.slice g6 c0.length g5)] 24 (0,0)))∧Ab (w'.heap[d6]? = some (.cells #[.int .i64 0,.int .i64 0,(.slice none 0 0)] 24 (0,0)))∧Ab (w'.heap[d3]? = some (.cells #[.int .i64 a1,.int .i64 a2,d5] 24 (0,0)))∧Ab (Below w.heap.size w w')));(case atStart=>exact ⟨(0),(([]:List (S50))),(.slice none 0 0),(eqw),H',⟨Nat.le_refl _⟩,⟨by first|exact Kd.R_nil _ _ _ _ _|exact Kd.N_nil _ _ _ _ _|exact Kd.V_nil _ _ _ _ _|exact Kd.Q_nil _ _ _ _ _|exact Kd.S_nil _ _ _ _ _⟩,⟨upF a8⟩,⟨upF b0⟩,⟨upF b1⟩,⟨Bo a7 #[.int .i64 a1,.int .i64 a2,.slice none 0 0] #[.int .i64 a1,.int .i64 0,.slice none 0 0]⟩,⟨upW HB⟩⟩)
 case round =>
  clear H';(try clear o6 o7 o8 o9 p0 p1 p2 p3 p4 p5 p6 p7);obtain ⟨d4,d2,d5,rfl,HA,i2,b3,a8,b0,b1,a7,HB⟩:=hrel
  cases gk with
  | zero=>exact absurd HA.out (by simp [An.l0])
  | succ k1 =>
   have H:=HA.out;clear HA;simp only [An.l0] at H;(by_cases f3:d4<(c0.length:Int))
   ·rw [if_pos f3] at H;have c15b0:=decide_eq_true f3;clear f3;obtain ⟨i8,H⟩:=ip H;have c16b0:=decide_eq_true i8;clear i8;obtain ⟨i9,H⟩:=ip H;have c17b0:=decide_eq_true i9;clear i9;obtain ⟨⟨t242,t243,t244⟩,l9,H⟩:=bnd H;(try dsimp only at H);obtain ⟨j3,H⟩:=ip H;have m7:=am j3;clear j3;obtain ⟨g7,h6⟩:∃ y_:List (S50),y_=(d2++[(⟨t242,t243,t244⟩:S50)]):=⟨_,rfl⟩;(replace H:(An.l0 k1 c0 (c0.length:Int) (wrap64 (d4+1)) b6 b7 b5 a1 a2 g7)=some (r1,r2,r3):=rwH h6 H);have n9:=am h6;clear h6;have H':=am H;clear H;have h7:0≤(d4:Int):=oda;have h8:d4<(c0.length:Int):=oda;obtain ⟨o0,o1,k9,l5,l6⟩:=Bp m5.out d4 h7 h8;cases o1;replace k9:=cb HB k9;replace l5:=cb HB l5;replace l6:=cb HB l6;generalize (Aa c0 d4).f0=c1 at *;generalize (Aa c0 d4).f1=d0 at *;generalize (Aa c0 d4).f2=d1 at *;replace h7:=eq_true h7;replace h8:=eq_true h8;(try go_wp2_with (first|((with_reducible refine Ag (N:=11) rfl ?_);refine Bd 11 (#[.int .i64 0,.int .i64 0,.int .i64 0]) 50 ?_;intro a6 hg d7 hbox hb;replace b3:=am (Kd.R_below (Kd.R_elderB (upR b3) a6 (Nat.le_of_eq hg.symm)) hb);have b4:=am (hbox);have q7:=am (gz hg HB);have q3:=am (gz hg HB);replace HB:=wb HB hb;have n0:=am ((by rw [hg];exact Nat.ne_of_lt (Ak (g:=b2) (o:=.cells #[.int .i64 b6,.int .i64 b7,.slice b8 b5.length b9] 24 (0,0)) (upK a8)):b2≠a6));have n5:=am ((by rw [hg];exact Nat.ne_of_gt (Ak (g:=b2) (o:=.cells #[.int .i64 b6,.int .i64 b7,.slice b8 b5.length b9] 24 (0,0)) (upK a8)):a6≠b2));replace a8:=am (Am (g:=b2) (o:=.cells #[.int .i64 b6,.int .i64 b7,.slice b8 b5.length b9] 24 (0,0)) (upK a8) hb);have n2:=am (gn hg b0);have n7:=am ((by rw [hg];exact Nat.ne_of_gt (Ak (upK b0)):a6≠d8));replace b0:=kb b0 hb;have n4:=am (gn hg b1);have n8:=am ((by rw [hg];exact Nat.ne_of_gt (Ak (upK b1)):a6≠d6));replace b1:=kb b1 hb;have i6:=am (gn hg a7);have i7:=am ((by rw [hg];exact Nat.ne_of_gt (Ak (upK a7)):a6≠d3));replace a7:=kb a7 hb;clear hb hbox hg;have u9:=n5.out;have x3:=n0.out;have v1:=n7.out;have x4:=n2.out;have v2:=n8.out;have x5:=n4.out;have v6:=i7.out;have x6:=i6.out;obtain ⟨q9,r0,r4,s5,s6,s7⟩:=cy3 b4)));have f5:Ab (Kd.R k50 50 (((d7.setCell ⟨a6,0,none⟩ (.int .i64 c1)).setCell ⟨a6,1,none⟩ (.int .i64 d0)).setCell ⟨a6,2,none⟩ (.int .i64 d1)) w.heap.size (fun k_=>k_≠a6) d5 d2):=⟨by (with_reducible repeat (first|apply Kd.R_alloc|apply Kd.R_drewN|apply Kd.R_drew));exact Kd.R_mono (Kd.R_far (p:=⟨a6,2,none⟩) (Kd.R_far (p:=⟨a6,1,none⟩) (Kd.R_far (p:=⟨a6,0,none⟩) (Kd.R_mono b3.out (fun k_ hk=>(⟨hk,hk.2⟩:_∧k_≠a6))) (fun _ hk=>hk.2) (.int .i64 c1)) (fun _ hk=>hk.2) (.int .i64 d0)) (fun _ hk=>hk.2) (.int .i64 d1)) (fun _ hk=>hk.1.2)⟩;have f7:Ab ((((d7.setCell ⟨a6,0,none⟩ (.int .i64 c1)).setCell ⟨a6,1,none⟩ (.int .i64 d0)).setCell ⟨a6,2,none⟩ (.int .i64 d1)).heap[b2]? = some (.cells #[.int .i64 b6,.int .i64 b7,.slice b8 b5.length b9] 24 (0,0))):=⟨upF a8⟩;have f8:Ab ((((d7.setCell ⟨a6,0,none⟩ (.int .i64 c1)).setCell ⟨a6,1,none⟩ (.int .i64 d0)).setCell ⟨a6,2,none⟩ (.int .i64 d1)).heap[d8]? = some (.cells #[.int .i64 g3,.int .i64 g4,.slice (some o0) c0.length g5] 24 (0,0))):=⟨upF b0⟩;have f9:Ab ((((d7.setCell ⟨a6,0,none⟩ (.int .i64 c1)).setCell ⟨a6,1,none⟩ (.int .i64 d0)).setCell ⟨a6,2,none⟩ (.int .i64 d1)).heap[d6]? = some (.cells #[.int .i64 0,.int .i64 0,.slice none 0 0] 24 (0,0))):=⟨upF b1⟩;have g0:Ab ((((d7.setCell ⟨a6,0,none⟩ (.int .i64 c1)).setCell ⟨a6,1,none⟩ (.int .i64 d0)).setCell ⟨a6,2,none⟩ (.int .i64 d1)).heap[d3]? = some (.cells #[.int .i64 a1,.int .i64 a2,d5] 24 (0,0))):=⟨upF a7⟩;have g1:Ab ((((d7.setCell ⟨a6,0,none⟩ (.int .i64 c1)).setCell ⟨a6,1,none⟩ (.int .i64 d0)).setCell ⟨a6,2,none⟩ (.int .i64 d1)).heap[a6]? = some (.cells #[.int .i64 c1,.int .i64 d0,.int .i64 d1] 50 (0,0))):=⟨Bo b4 #[.int .i64 c1,.int .i64 d0,.int .i64 0] #[.int .i64 c1,.int .i64 0,.int .i64 0]⟩;have g2:Ab (Below w.heap.size w (((d7.setCell ⟨a6,0,none⟩ (.int .i64 c1)).setCell ⟨a6,1,none⟩ (.int .i64 d0)).setCell ⟨a6,2,none⟩ (.int .i64 d1))):=⟨upW HB⟩;(try clear b3 a8 b0 b1 a7 b4 HB);(try simp only [Gw]);generalize (((d7.setCell ⟨a6,0,none⟩ (.int .i64 c1)).setCell ⟨a6,1,none⟩ (.int .i64 d0)).setCell ⟨a6,2,none⟩ (.int .i64 d1))=q0 at f5 f7 f8 f9 g0 g1 g2 ⊢;have b3:=f5;have a8:=f7;have b0:=f8;have b1:=f9;have a7:=g0;have b4:=g1;have HB:=g2;clear f5 f7 f8 f9 g0 g1 g2;replace b3:=am (Kd.R_drew b3.out);replace a8:=am (Au a8.out);replace b0:=am (Au b0.out);replace b1:=am (Au b1.out);replace a7:=am (Au a7.out);replace b4:=am (Au b4.out);replace HB:=am (Bi HB.out);(refine C9 (n:=9) (S:=fun w'=>w'.cell? ⟨d3,0,none⟩=some (.int .i64 a1)∧w'.cell? ⟨d3,1,none⟩=some (.int .i64 a2)∧w'.cell? ⟨d3,2,none⟩=some (d5)∧w'.cell? ⟨a6,0,none⟩=some (.int .i64 c1)∧w'.cell? ⟨a6,1,none⟩=some (.int .i64 d0)∧w'.cell? ⟨a6,2,none⟩=some (.int .i64 d1)) (ds:=[8]) (bs 9 0) (by kernel_rfl) rfl rfl ⟨(Ac a7.out 0).trans rfl,(Ac a7.out 1).trans rfl,(Ac a7.out 2).trans rfl,(Ac b4.out 0).trans rfl,(Ac b4.out 1).trans rfl,(Ac b4.out 2).trans rfl⟩ (fun hHeld=>?_);refine Ck An.tab5 An.bits5 (fun HT_ HW_=>?_));generalize q0.drew=z6 at b3 a8 b0 b1 a7 b4 HB hHeld ⊢;refine pG 0 (some 22) (bs 9 1) HT_ ?_;refine pG 2 (some 24) (bs 9 5) HT_ ?_;refine tH 1 (some 23) (bs 9 7) HT_ HW_ hHeld ?_;refine tH 3 (some 25) (bs 9 15) HT_ HW_ hHeld ?_;refine Dc (i:=4) (N:=some 26) (bs 9 31) rfl rfl (Bq HT_.out (by kernel_rfl)) (by decide) (fun K hK=>?_);(first|(refine D1 Tryz.func84 (by kernel_rfl) rfl #[.agg #[.int .i64 c1,.int .i64 d0,.int .i64 d1],.pointer (some ⟨b2,0,none⟩)] (by rfl) rfl rfl itp ?_)|(refine I2 Tryz.func84 (by kernel_rfl) rfl #[.agg #[.int .i64 c1,.int .i64 d0,.int .i64 d1],.pointer (some ⟨b2,0,none⟩)] (by rfl) rfl rfl (by rfl) E5 ?_));(with_reducible refine (Ep.calls c1 d0 d1 b2 b6 b7 b8 b9 b5 t242 t243 t244 _ ?h9 ?i0 ?p8 l9.out).mono ?_);(case h9=>exact upC (Kd.C_below m6.out HB.out));(case i0=>exact m4.out);(case p8=>exact (upK a8));rintro e z7 ⟨rfl,hb⟩;refine ⟨_,rfl,?_⟩;replace b3:=rb b3 hb;replace a8:=am (Am (g:=b2) (o:=.cells #[.int .i64 b6,.int .i64 b7,.slice b8 b5.length b9] 24 (0,0)) (upK a8) hb);replace b0:=kb b0 hb;replace b1:=kb b1 hb;replace a7:=kb a7 hb;replace b4:=kb b4 hb;replace HB:=wb HB hb;(try clear hb);refine hK.out _ _ ⟨(Ac a7.out 0).trans rfl,(Ac a7.out 1).trans rfl,(Ac a7.out 2).trans rfl,(Ac b4.out 0).trans rfl,(Ac b4.out 1).trans rfl,(Ac b4.out 2).trans rfl⟩ (fun hHeld=>?_);clear hK K;refine nG ?_;refine Dc (i:=5) (N:=some 27) (bs 9 63) rfl rfl (Bq HT_.out (by kernel_rfl)) (by decide) (fun K hK=>?_);refine Qd (w1:=?_) (v:=?_) (by rfl) rfl ?_ ?_;rotate_left 2
    ·(go_simp);(constructor)
     ·rfl
     ·rfl
    refine hK.out _ _ ⟨(Ac (Be a7.out _) 0).trans rfl,(Ac (Be a7.out _) 1).trans rfl,(Ac (Be a7.out _) 2).trans rfl,(Ac (Be b4.out _) 0).trans rfl,(Ac (Be b4.out _) 1).trans rfl,(Ac (Be b4.out _) 2).trans rfl⟩ (fun hHeld=>?_);clear hK K;refine nG ?_;refine Dc (i:=6) (N:=some 28) (bs 9 127) rfl rfl (Bq HT_.out (by kernel_rfl)) (by decide) (fun K hK=>?_);refine Kd.R_append_step k50 (w0:=w) w.heap.size (by rfl) (.tmp 23) (.tmp 27) 22 50 (.agg #[(.int .i64 0),(.int .i64 0),(.int .i64 0)]) 24 rfl Tryz.underlying22 D7 rfl (by decide) (by omega) d5 d2 (⟨t242,t243,t244⟩:S50) [.int .i64 t242,.int .i64 t243,.int .i64 t244] (fun k_=>k_≠a6) (fun _=>False) rfl rfl ?aP (fun _ hk=>hk.elim) ?aF ?aO ?aB ?aS ?aL ?_;(case aP=>exact Ei _ _ _ (⟨t242,t243,t244⟩:S50));(case aB=>exact (upW HB));(case aF=>exact (fun k_ hk=>Kd.freshB (g:=a6) (o:=.cells #[.int .i64 c1,.int .i64 d0,.int .i64 d1] 50 (0,0)) (upK b4) k_ hk));(case aO=>exact (upR b3));(case aS=>exact (Ah (upW HB)));(case aL=>have:=m7.out;omega);intro z2 q1 ho hb hg hat;rw [← n9.out] at ho;have f5:=am (Bg (g:=b2) (o:=.cells #[.int .i64 b6,.int .i64 b7,.slice b8 b5.length b9] 24 (0,0)) (upK a8) hg (Kd.R_ne b3.out a8.out (by decide)));have f7:=am (Bg (upK b0) hg (Kd.R_ne b3.out b0.out (by decide)));have f8:=am (Bg (upK b1) hg (Kd.R_ne b3.out b1.out (by decide)));have f9:=am (Bg (upK a7) hg (Kd.R_ne b3.out a7.out (by decide)));have g0:=am (Bg (upK b4) hg (Kd.R_away b3.out (fun _ hk=>hk)));have g1:=am (hb);have g2:=am (ho);clear a8;clear b0;clear b1;clear a7;clear b4;clear HB;clear b3;have a8:=f5;have b0:=f7;have b1:=f8;have a7:=f9;have b4:=g0;have HB:=g1;have i3:=g2;clear f5 f7 f8 f9 g0 g1 g2;clear ho hb hg hat;obtain ⟨i1,j9,k0⟩:=Kd.R_slice i3.out;(first|subst k0|(injection k0 with k2 o3 k3;have o4:=k2.symm;have o5:=k3.symm;clear k2 o3 k3;subst o4;subst o5));refine hK.out _ _ ⟨(Ac a7.out 0).trans rfl,(Ac a7.out 1).trans rfl,(Ac a7.out 2).trans rfl,(Ac b4.out 0).trans rfl,(Ac b4.out 1).trans rfl,(Ac b4.out 2).trans rfl⟩ (fun hHeld=>?_);clear hK K;refine nG ?_;refine pG 7 (some 29) (bs 9 255) HT_ ?_;refine Iu (i:=8) (N:=none) (bs 9 511) rfl rfl (Bq HT_.out (by kernel_rfl)) (by decide) (fun K hK=>?_);have y8:q1.cell? ⟨d3,2,none⟩=some (d5):=(Ac a7.out 2).trans rfl;have s4:=C1 a7.out 2;have y4:=g8.out;have y5:=g9.out;have y6:=h0.out;have y7:=i7.out;have u2:=h3.out;have u3:=h4.out;have u4:=h5.out;have u5:=i6.out;refine Ik (w1:=?_) (by rfl) rfl ?_ ?_;rotate_left
    ·(go_simp);rfl
    refine hK.out _ _ ?_;clear hK K;refine Dw (Cx HT_.out (by kernel_rfl)) ?_;(try go_wp2);go_roundg k1;(case measure=>have:=i2.out;omega);(case rel=>exact ⟨(wrap64 (d4+1)),(g7),(.slice i1 g7.length j9),(eqw),H',⟨by have:=i2.out;omega⟩,⟨by (with_reducible repeat (first|apply Kd.R_alloc|apply Kd.R_drewN|apply Kd.R_drew));exact Kd.R_mono (Kd.R_far (p:=⟨d3,2,none⟩) (Kd.R_types i3.out a7.out (by decide)) (fun _ hk=>hk.2) (.slice i1 g7.length j9)) (fun _ hk=>trivial)⟩,⟨upF a8⟩,⟨upF b0⟩,⟨upF b1⟩,⟨by (with_reducible repeat (first|refine Br ?_ _|refine Au ?_|refine Be ?_ _));refine Gf (cs := #[.int .i64 a1,.int .i64 a2,d5]) ?_ 2 _ rfl;(with_reducible repeat (first|refine Br ?_ _|refine Au ?_|refine Be ?_ _));exact a7.out⟩,⟨upW HB⟩⟩)
   ·rw [if_neg f3] at H;have c15b0:=decide_eq_false f3;clear f3;obtain ⟨t248,m0,H⟩:=bnd H;(try dsimp only at H);simp only [Option.some.injEq,Prod.mk.injEq] at H;obtain ⟨rfl,rfl,rfl⟩:=H;have v7:=h3.out;have x7:=g8.out;have v8:=h4.out;have x8:=g9.out;have w2:=h5.out;have x9:=h0.out;obtain ⟨r5,r6,r7,s8,s9,t1⟩:=cy3 a7;obtain ⟨d9,f4,o2⟩:=Kd.R_slice b3.out;subst o2;(go_wp2_with (first|((first|(with_reducible refine Ad (f:=92) rfl ?_)|refine Cv (f:=92) rfl (by rfl) ?_);(first|(refine D0 (some 33) rfl rfl Tryz.func92 (by kernel_rfl) rfl #[.slice d9 d2.length f4,.func (.func 36) #[] #[]] rfl itp ?_)|(refine D9 (some 33) rfl rfl Tryz.func92 (by kernel_rfl) rfl #[.slice d9 d2.length f4,.func (.func 36) #[] #[]] rfl (by rfl) E5 ?_));(with_reducible refine (Aw.calls (fun k_=>some k_=(.slice d9 d2.length f4:Value).ownBlock) (.slice d9 d2.length f4) d2 t248 w _ ?h9 ?i0 m0.out).mono ?_);(case h9=>repeat (first|(with_reducible first|exact HB.out|apply C6|apply C8|apply Bi|refine Co ?_ q2.out|refine Co ?_ m1.out|refine Co ?_ m2.out|refine Co ?_ m3.out)|exact HB.out));(case i0=>exact Kd.R_tight rfl b3.out);rintro e z8 ⟨rfl,l7,hb,hkp⟩;refine ⟨_,rfl,?_⟩;replace a8:=am (Gc (upK a8) hkp (fun hs_=>(fun e_=>(Kd.R_ne b3.out a8.out (by decide)) e_) hs_));replace b0:=am (Gc (upK b0) hkp (fun hs_=>(fun e_=>(Kd.R_ne b3.out b0.out (by decide)) e_) hs_));replace b1:=am (Gc (upK b1) hkp (fun hs_=>(fun e_=>(Kd.R_ne b3.out b1.out (by decide)) e_) hs_));replace a7:=am (Gc (upK a7) hkp (fun hs_=>(fun e_=>(Kd.R_ne b3.out a7.out (by decide)) e_) hs_));replace b3:=am (Kd.R_reok rfl l7 (fun k_ e_=>b3.out.1 k_ e_));replace HB:=am (hb);(try clear hb hkp l7);obtain ⟨r8,r9,s0,t2,t6,t7⟩:=cy3 a7;have w3:=n3.out;have y0:=m9.out;have w4:=i5.out;have y1:=i4.out;obtain ⟨s1,s2,s3,t8,u0,u1⟩:=cy3 b1)));refine bodyPost_ret (results_cell_row rfl _ _ d6 24 #[.int .i64 a1,.int .i64 a2,.slice d9 d2.length f4] (0,0) _ rfl (Bo b1 #[.int .i64 a1,.int .i64 a2,.slice none 0 0] #[.int .i64 a1,.int .i64 0,.slice none 0 0]) Tryz.underlying24 rfl (by kernel_rfl)) rfl ?_;exact ⟨_,eqv,by (with_reducible repeat (first|apply Kd.R_alloc|apply Kd.R_drewN|apply Kd.R_drew));exact Kd.R_far3 b3 b1 (.int .i64 a1) (.int .i64 a2) (.slice d9 d2.length f4) (fun _ hk=>trivial),upW HB⟩

/-! ### Em: function 72 -/
def Em.f (k:Nat) (a1:Int) (a2:Int) (a7:List (S50)):Option (Int×Int×(List (S50))):=(An.f k a1 a2 a7 a1 a2 a1 a2 a7).bind fun a6=>(some (a6.1,a6.2.1,a6.2.2))
set_option maxHeartbeats 8000000 in
set_option maxRecDepth 100000 in
theorem Em.calls (k:Nat) (a6:Int) (a7:Int) (b1:Option Addr) (b2:Nat) (a2:List (S50)) (r1:Int) (r2:Int) (r3:List (S50)) (w:World) (d2:Kd.C k50 w b1 a2.length a2) (d0:a2.length≤b2) (h:Em.f k a6 a7 a2=some (r1,r2,r3)) :
  Calls Tryz.prog 72 #[.agg #[.int .i64 a6,.int .i64 a7,.slice b1 a2.length b2]] w fun e w'=>∃ d3:Value,e=.returned (.agg #[.int .i64 r1,.int .i64 r2,d3])∧Kd.R k50 50 w' w.heap.size (fun _=>True) d3 r3∧Below w.heap.size w w':=by
 have h3:=Tryz.underlying24;(have hmf:∀ (fn:Fn) (first cap:Array Value) (w:World),(Instr.makeFunc fn first cap).run Tryz.prog w=.ok (.func fn first cap) w:=fun _ _ _ _=>rfl);have b8:=am d2;have b6:=am d0;clear d2 d0;have HB:=am (Below.refl w.heap.size w);have H:=h;clear h;unfold Em.f at H;obtain ⟨⟨b0,b3,b4⟩,A2,H⟩:=bnd H;(try dsimp only at H);simp only [Option.some.injEq,Prod.mk.injEq] at H;obtain ⟨rfl,rfl,rfl⟩:=H;go_enter Tryz.func72,Tryz.ntmps72;(go_wp2_with (first|((with_reducible refine Ag (N:=1) rfl ?_);refine Bd 1 (#[.int .i64 a6,.int .i64 a7,.slice b1 a2.length b2]) 24 ?_;intro c0 hg w3 hbox hb;have a1:=am (hbox);have f4:=am (gz hg HB);have f2:=am (gz hg HB);replace HB:=wb HB hb;clear hb hbox hg)|((with_reducible refine Ag (N:=2) rfl ?_);refine Bd 2 (#[.int .i64 0,.int .i64 0,.slice none 0 0]) 24 ?_;intro c1 hg w4 hbox hb;have a8:=am (hbox);have f5:=am (gz hg HB);have f3:=am (gz hg HB);replace HB:=wb HB hb;have d4:=am (gn hg a1);have d5:=am ((by rw [hg];exact Nat.ne_of_gt (Ak (upK a1)):c1≠c0));replace a1:=kb a1 hb;clear hb hbox hg;have g9:=d4.out;have h0:=d5.out;obtain ⟨f7,f8,f9,g3,g4,g5⟩:=cy3 a1)|((with_reducible refine Ad (f:=83) rfl ?_);refine cgo (some 9) Tryz.func83 (An.calls k a6 a7 _ _ a2 a6 a7 c0 a6 a7 b1 b2 a2 b0 b3 b4 _ ?d7 ?d8 ?d9 ?f0 ?f1 A2.out) ?_;(case d7=>exact upC (Kd.C_below b8.out HB.out));(case d8=>exact b6.out);(case d9=>exact upC (Kd.C_below b8.out HB.out));(case f0=>exact b6.out);(case f1=>exact (upK a1));rintro e w7 ⟨h4,rfl,d1,hb⟩;refine ⟨_,rfl,?_⟩;have b7:=am (Kd.R_lower d1 (Ah (upW HB)));replace a1:=kb a1 hb;replace a8:=kb a8 hb;replace HB:=wb HB hb;(try clear hb d1);obtain ⟨g0,g1,g2,g6,g7,g8⟩:=cy3 a8;obtain ⟨b5,b9,d6⟩:=Kd.R_slice b7.out;subst d6)));refine bodyPost_ret (results_cell_row rfl _ _ c1 24 #[.int .i64 b0,.int .i64 b3,.slice b5 b4.length b9] (0,0) _ rfl (Bo a8 #[.int .i64 b0,.int .i64 b3,.slice none 0 0] #[.int .i64 b0,.int .i64 0,.slice none 0 0]) Tryz.underlying24 rfl (by kernel_rfl)) rfl ?_;exact ⟨_,eqv,by (with_reducible repeat (first|apply Kd.R_alloc|apply Kd.R_drewN|apply Kd.R_drew));exact Kd.R_far3 b7 a8 (.int .i64 b0) (.int .i64 b3) (.slice b5 b4.length b9) (fun _ hk=>trivial),upW HB⟩

-- left to its places: function 85 (E6)

/-! ### E6: function 100005 -/
def E6.f (a2:Int) (a6:Int) (a1:Int) (a8:Int) (a7:Int) (b0:List (S50)):Option (Int×Int×Int):=some (wrap64 ((wrap64 (a7-a6))-a1),a2,a1)
set_option maxHeartbeats 8000000 in
set_option maxRecDepth 100000 in
theorem E6.calls (b5:Int) (b3:Int) (b2:Int) (a1:Nat) (b0:Int) (a6:Int) (a8:Option Addr) (b1:Nat) (a7:List (S50)) (r1:Int) (r2:Int) (r3:Int) (w:World) (c1:Kd.C k50 w a8 a7.length a7) (c0:a7.length≤b1) (b9:w.heap[a1]? = some (.cells #[.int .i64 b0,.int .i64 a6,.slice a8 a7.length b1] 24 (0,0))) (h:E6.f b5 b3 b2 b0 a6 a7=some (r1,r2,r3)) :
  Calls Tryz.prog 85 #[.agg #[.int .i64 b5,.int .i64 b3,.int .i64 b2],.pointer (some ⟨a1,0,none⟩)] w fun e w'=>e=.returned (.agg #[.int .i64 r1,.int .i64 r2,.int .i64 r3])∧Below w.heap.size w w':=by
 have h9:=Tryz.underlying50;have f1:=am c1;have f0:=am c0;clear c1 c0;have a2:=am b9;clear b9;have HB:=am (Below.refl w.heap.size w);have H:=h;clear h;unfold E6.f at H;simp only [Option.some.injEq,Prod.mk.injEq] at H;obtain ⟨rfl,rfl,rfl⟩:=H;go_enter Tryz.func85,Tryz.ntmps85;(go_wp2_with (first|((with_reducible refine Ag (N:=2) rfl ?_);refine Bd 2 (#[.int .i64 b5,.int .i64 b3,.int .i64 b2]) 50 ?_;intro b7 hg w3 hbox hb;have b4:=am (hbox);have d8:=am (gz hg HB);have d6:=am (gz hg HB);replace HB:=wb HB hb;have d0:=am ((by rw [hg];exact Nat.ne_of_lt (Ak (g:=a1) (o:=.cells #[.int .i64 b0,.int .i64 a6,.slice a8 a7.length b1] 24 (0,0)) (upK a2)):a1≠b7));have d2:=am ((by rw [hg];exact Nat.ne_of_gt (Ak (g:=a1) (o:=.cells #[.int .i64 b0,.int .i64 a6,.slice a8 a7.length b1] 24 (0,0)) (upK a2)):b7≠a1));replace a2:=am (Am (g:=a1) (o:=.cells #[.int .i64 b0,.int .i64 a6,.slice a8 a7.length b1] 24 (0,0)) (upK a2) hb);clear hb hbox hg)|((with_reducible refine Ag (N:=3) rfl ?_);refine Bd 3 (#[.int .i64 0,.int .i64 0,.int .i64 0]) 50 ?_;intro b6 hg w4 hbox hb;have b8:=am (hbox);have d9:=am (gz hg HB);have d7:=am (gz hg HB);replace HB:=wb HB hb;have d1:=am ((by rw [hg];exact Nat.ne_of_lt (Ak (g:=a1) (o:=.cells #[.int .i64 b0,.int .i64 a6,.slice a8 a7.length b1] 24 (0,0)) (upK a2)):a1≠b6));have d4:=am ((by rw [hg];exact Nat.ne_of_gt (Ak (g:=a1) (o:=.cells #[.int .i64 b0,.int .i64 a6,.slice a8 a7.length b1] 24 (0,0)) (upK a2)):b6≠a1));replace a2:=am (Am (g:=a1) (o:=.cells #[.int .i64 b0,.int .i64 a6,.slice a8 a7.length b1] 24 (0,0)) (upK a2) hb);have d3:=am (gn hg b4);have d5:=am ((by rw [hg];exact Nat.ne_of_gt (Ak (upK b4)):b6≠b7));replace b4:=kb b4 hb;clear hb hbox hg;have h3:=d0.out;have h6:=d2.out;have h4:=d1.out;have h7:=d4.out;have f5:w4.cell? ⟨a1,0,none⟩=some (.int .i64 b0):=(Ac a2.out 0).trans rfl;have f7:w4.cell? ⟨a1,1,none⟩=some (.int .i64 a6):=(Ac a2.out 1).trans rfl;have f8:w4.cell? ⟨a1,2,none⟩=some (.slice a8 a7.length b1):=(Ac a2.out 2).trans rfl;have g5:=C1 a2.out 0;have g6:=C1 a2.out 1;have g7:=C1 a2.out 2;have h5:=d3.out;have h8:=d5.out;obtain ⟨f9,g0,g1,g8,g9,h0⟩:=cy3 b4;obtain ⟨f2,f3,f4,g2,g3,g4⟩:=cy3 b8)));refine bodyPost_ret (results_cell_row rfl _ _ b6 50 #[.int .i64 (wrap64 ((wrap64 (a6-b3))-b2)),.int .i64 b5,.int .i64 b2] (0,0) _ rfl (Bo b8 #[.int .i64 (wrap64 ((wrap64 (a6-b3))-b2)),.int .i64 b5,.int .i64 0] #[.int .i64 (wrap64 ((wrap64 (a6-b3))-b2)),.int .i64 0,.int .i64 0]) Tryz.underlying50 rfl (by kernel_rfl)) rfl ?_;exact ⟨eqv,upW HB⟩

end Go.Proofs.YtgeahghdikdamaaGreat.PFnCodesToldOfAll
