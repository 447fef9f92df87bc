-- made for this claim by a program of this session
import Derived.Test.YtgeahghdikdamaaGreatDoorPFnCodesTurnedOfAllx0
import Derived.Test.YtgeahghdikdamaaGreatDoorPFnCodesTurnedOfAllx1
import Derived.Test.YtgeahghdikdamaaGreatDoorPFnCodesTurnedOfAllx9
namespace Go.Proofs.YtgeahghdikdamaaGreatDoor.PFnCodesTurnedOfAll
open Go.RowKit Go.Proofs.YtgeahghdikdamaaGreatDoorW.PrintWords Go.Proofs.YtgeahghdikdamaaGreatDoorW.PrintLast Go.Proofs.YtgeahghdikdamaaGreatDoorW.PrintMore
attribute [local go_sem] Dq Dr D7 D8 Db Dc Ds Dt -- for this text's walks alone
set_option linter.unusedVariables false
set_option linter.unusedSimpArgs false
set_option maxHeartbeats 8000000
set_option maxRecDepth 100000

/-! ### Am: the pair slices.SortFunc[[]loop.example/g01296/impl.Square,loop.example/g01296/impl.Square] -/
/-! squares whose places are small enough that comparePlaces does not wrap -/
def Jw (s:S67):Prop:=(-1099511627776≤s.f0∧s.f0≤1099511627776)∧(-1099511627776≤s.f1∧s.f1≤1099511627776)
instance (s:S67):Decidable (Jw s):=by unfold Jw;infer_instance
abbrev BSq:={s:S67 // Jw s}
instance:Inhabited BSq:=⟨⟨⟨0,0,0⟩,by unfold Jw;decide⟩⟩
def Ku (s:S67):List Value:=[.int .i64 s.f0,.int .i64 s.f1,.int .i64 s.f2]
instance:Inhabited S67:=⟨⟨0,0,0⟩⟩
def Jk (a b:BSq):Int:=if a.1.f1≠b.1.f1 then a.1.f1-b.1.f1 else a.1.f0-b.1.f0
def Jy (a b:S67):Prop:=a.f1<b.f1∨a.f1=b.f1∧a.f0<b.f0
instance (a b:S67):Decidable (Jy a b):=by unfold Jy;infer_instance
theorem ltSq (a b:BSq):ltOf Jk a b=decide (Jy a.1 b.1):=by
 unfold ltOf Jk Jy;(by_cases h:a.1.f1=b.1.f1)
 ·(simp [h];omega)
 ·(simp [h];omega)
theorem swoSq:Sort.SWO (ltOf Jk) where
 irrefl x:=by rw [ltSq,decide_eq_false_iff_not];unfold Jy;omega
 trans x y z h1 h2:=by rw [ltSq,decide_eq_true_iff] at *;unfold Jy at *;omega
 ntrans x y z h1 h2:=by rw [ltSq,decide_eq_false_iff_not] at *;unfold Jy at *;omega
def Gp:Go.Shelf.Ren:=⟨fun|6=>88|15=>106|14=>105|28=>132|29=>133|20=>124|21=>125|22=>126|23=>127|24=>128|25=>129|26=>130|27=>131|46=>150|47=>151|48=>152|49=>153|50=>154|57=>166|n=>n,fun|22=>39|24=>67|25=>89|3=>3|39=>100|0=>0|53=>127|55=>129|4=>4|46=>121|45=>120|50=>27|5=>5|9=>9|66=>142|70=>146|76=>165|77=>166|n=>n,fun|n=>n⟩
theorem D1:Go.Proofs.SlLaysF0.n6 Tryz.prog Gp where
 mixed:=by kernel_rfl
 f6:=⟨Tryz.f88.name,by decide,Tryz.func88.trans (congrArg some kz)⟩
 f14:=⟨Tryz.f105.name,by decide,Tryz.func105.trans (congrArg some kz)⟩
 f15:=Tryz.func106.trans (congrArg some kz)
 f20:=⟨Tryz.f124.name,by decide,Tryz.func124.trans (congrArg some kz)⟩
 f21:=⟨Tryz.f125.name,by decide,Tryz.func125.trans (congrArg some kz)⟩
 f22:=⟨Tryz.f126.name,by decide,Tryz.func126.trans (congrArg some kz)⟩
 f23:=⟨Tryz.f127.name,by decide,Tryz.func127.trans (congrArg some kz)⟩
 f24:=⟨Tryz.f128.name,by decide,Tryz.func128.trans (congrArg some kz)⟩
 f25:=⟨Tryz.f129.name,by decide,Tryz.func129.trans (congrArg some kz)⟩
 f26:=⟨Tryz.f130.name,by decide,Tryz.func130.trans (congrArg some kz)⟩
 f27:=⟨Tryz.f131.name,by decide,Tryz.func131.trans (congrArg some kz)⟩
 f28:=Tryz.func132.trans (congrArg some kz)
 f29:=Tryz.func133.trans (congrArg some kz)
 f46:=⟨Tryz.f150.name,by decide,Tryz.func150.trans (congrArg some kz)⟩
 f47:=Tryz.func151.trans (congrArg some kz)
 f48:=Tryz.func152.trans (congrArg some kz)
 f49:=⟨Tryz.f153.name,by decide,Tryz.func153.trans (congrArg some kz)⟩
 f50:=⟨Tryz.f154.name,by decide,Tryz.func154.trans (congrArg some kz)⟩
 f57:=⟨Tryz.f166.name,by decide,Tryz.func166.trans (congrArg some kz)⟩
 t0:=Tryz.underlying0
 a0:=Tryz.isAgg0
 z0:=Tryz.sizeOf0
 v0:=Tryz.zeroValue0
 t3:=Tryz.underlying3
 a3:=Tryz.isAgg3
 z3:=Tryz.sizeOf3
 v3:=Tryz.zeroValue3
 t4:=Tryz.underlying4
 a4:=Tryz.isAgg4
 z4:=Tryz.sizeOf4
 v4:=Tryz.zeroValue4
 t5:=Tryz.underlying5
 a5:=Tryz.isAgg5
 z5:=Tryz.sizeOf5
 v5:=Tryz.zeroValue5
 t9:=Tryz.underlying9
 a9:=Tryz.isAgg9
 z9:=Tryz.sizeOf9
 v9:=Tryz.zeroValue9
 t22:=Tryz.underlying39
 a22:=Tryz.isAgg39
 z22:=Tryz.sizeOf39
 v22:=Tryz.zeroValue39
 t25:=Tryz.underlying89
 a25:=Tryz.isAgg89
 z25:=Tryz.sizeOf89
 v25:=Tryz.zeroValue89
 t39:=Tryz.underlying100
 a39:=Tryz.isAgg100
 z39:=Tryz.sizeOf100
 v39:=Tryz.zeroValue100
 t45:=Tryz.underlying120
 a45:=Tryz.isAgg120
 z45:=Tryz.sizeOf120
 v45:=Tryz.zeroValue120
 t46:=Tryz.underlying121
 a46:=Tryz.isAgg121
 z46:=Tryz.sizeOf121
 v46:=Tryz.zeroValue121
 t50:=Tryz.underlying27
 a50:=Tryz.isAgg27
 z50:=Tryz.sizeOf27
 v50:=Tryz.zeroValue27
 t53:=Tryz.underlying127
 a53:=Tryz.isAgg127
 z53:=Tryz.sizeOf127
 v53:=Tryz.zeroValue127
 t55:=Tryz.underlying129
 a55:=Tryz.isAgg129
 z55:=Tryz.sizeOf129
 v55:=Tryz.zeroValue129
 t66:=Tryz.underlying142
 a66:=Tryz.isAgg142
 z66:=Tryz.sizeOf142
 v66:=Tryz.zeroValue142
 t70:=Tryz.underlying146
 a70:=Tryz.isAgg146
 z70:=Tryz.sizeOf146
 v70:=Tryz.zeroValue146
 t76:=Tryz.underlying165
 a76:=Tryz.isAgg165
 z76:=Tryz.sizeOf165
 v76:=Tryz.zeroValue165
 t77:=Tryz.underlying166
 a77:=Tryz.isAgg166
 z77:=Tryz.sizeOf166
 v77:=Tryz.zeroValue166
def Ic (l:List S67) (h:∀ s ∈ l,Jw s):Array BSq:=(l.attach.map fun s=>(⟨s.1,h s.1 s.2⟩:BSq)).toArray
def Am.f (l:List S67):Option (List S67) :=
 if h:(∀ s ∈ l,Jw s)∧l.length≤1000000 then some ((Sort.pdq (ltOf Jk) (Ic l h.1) 0 l.length (Lib.bitLen l.length) true true).toList.map (·.1)) else none
theorem cmpSq (x y:BSq) (W:World):Calls Tryz.prog 89 #[.agg #[.int .i64 x.1.f0,.int .i64 x.1.f1,.int .i64 x.1.f2],.agg #[.int .i64 y.1.f0,.int .i64 y.1.f1,.int .i64 y.1.f2]] W fun e w'=>e=.returned (.int .i64 (Jk x y))∧∃ q os',w'=Sort.grow (W.drewN q) os':=by
 obtain ⟨⟨x0,x1,x2⟩,bx⟩:=x;obtain ⟨⟨y0,y1,y2⟩,bY⟩:=y;have bx':=bx;have bY':=bY;unfold Jw at bx' bY';(dsimp only at bx' bY' ⊢);(have e1:wrap64 (x1-y1)=x1-y1:=by unfold wrap64;omega);(have e0:wrap64 (x0-y0)=x0-y0:=by unfold wrap64;omega);clear bx' bY';(by_cases hc:x1=y1)
 ·(have hv:Jk ⟨⟨x0,x1,x2⟩,bx⟩ ⟨⟨y0,y1,y2⟩,bY⟩=wrap64 (x0-y0):=by rw [e0];unfold Jk;simp [hc]);rw [hv];clear hv e1 e0;(have c1:(x1 != y1)=false:=by simp [hc]);(have c2:(x1==y1)=true:=by simp [hc]);clear hc bx bY;go_enter Tryz.func89,Tryz.ntmps89;go_wp2;go_ret;exact ⟨rfl,0,_,by rw [Sort.alloc_eq_grow,Sort.alloc_eq_grow,Sort.grow_grow];rfl⟩
 ·(have hv:Jk ⟨⟨x0,x1,x2⟩,bx⟩ ⟨⟨y0,y1,y2⟩,bY⟩=wrap64 (x1-y1):=by rw [e1];unfold Jk;simp [hc]);rw [hv];clear hv e1 e0;(have c1:(x1 != y1)=true:=by simp [hc]);(have c2:(x1==y1)=false:=by simp [hc]);clear hc bx bY;go_enter Tryz.func89,Tryz.ntmps89;go_wp2;go_ret;exact ⟨rfl,0,_,by rw [Sort.alloc_eq_grow,Sort.alloc_eq_grow,Sort.grow_grow];rfl⟩
theorem U0 (d:Array BSq):Sort.flatK (fun s:BSq=>Ku s.1) 3 d=Sort.flatK Ku 3 (d.map (·.1)):=by
 (refine Sort.ext_get! (by simp) fun t ht=>?_);(have ht':t<d.size*3:=by simpa using ht);(have hq:t/3<d.size:=by omega);rw [Sort.get_flatK _ _ _ _ ht',Sort.get_flatK _ _ _ _ (by simpa using ht'),getElem!_pos d (t/3) hq,getElem!_pos (d.map (·.1)) (t/3) (by simpa using hq)];simp
theorem Am.calls (a1:Nat→Prop) (a6:Value) (l0:List S67) (r:List S67) (w0 w:World) (hB:Below w0.heap.size w0 w) (a2:Kd.R k67 67 w w0.heap.size a1 a6 l0) (h:Am.f l0=some r) :
  Calls Tryz.prog 88 #[a6,.func (.func 89) #[] #[]] w fun e w'=>e=.returned (.tuple #[])∧Kd.R k67 67 w' w0.heap.size (fun k_=>(a1 k_∨w.heap.size≤k_)) a6 r∧Below w0.heap.size w0 w'∧Bf w w' (fun k_=>a1 k_):=by
 unfold Am.f at h;(by_cases a7:(∀ s ∈ l0,Jw s)∧l0.length≤1000000)
 ·rw [dif_pos a7] at h;obtain ⟨hbd,hlen⟩:=a7;have h':=(Option.some.inj h).symm;clear h;have a8:Kd.R k67 67 w w0.heap.size (fun k_=>(a1 k_∨w.heap.size≤k_)) a6 l0:=Kd.R_mono a2 (fun _ hk=>.inl hk);(by_cases hl:l0=[])
  ·subst hl
   have hr:r=[]:=by
    rw [h'];(have hs:(Ic [] hbd).size=0:=by simp [Ic]);have hp:=(Sort.pdq_sorts (ltOf Jk) swoSq (Ic [] hbd) 0 0 (Lib.bitLen 0) true true (Nat.le_refl _) oz (Or.inl rfl)).1.1;rw [hs] at hp;have he:=Array.eq_empty_of_size_eq_zero hp;(show List.map _ (Sort.pdq (ltOf Jk) (Ic [] hbd) 0 0 (Lib.bitLen 0) true true).toList=[]);(rw [he];rfl)
   subst hr;obtain ⟨A,c,rfl⟩:=Kd.R_slice a2;refine (AnyF.slices_SortFunc_none D1 A c (.func (.func 89) #[] #[]) w).mono ?_;rintro e w' ⟨rfl,rfl⟩;exact ⟨rfl,a8,hB,Bf.refl _ _⟩
  ·have hp:0<l0.length:=List.length_pos_iff.2 hl;obtain ⟨g,cap,rfl,hbase,hlt,cells,hcells⟩:=Kd.R_form a2 hp;(have hbig:l0.length<4611686018427387904:=by omega);have hH:=rowK_holds (enc:=Ku) (fun h=>Ef h) (fun _=>rfl) a2;(have hd:(Ic l0 hbd).map (·.1)=l0.toArray:=by simp [Ic])
   have b0:Sort.HoldsK (fun s:BSq=>Ku s.1) 3 w g 0 (Ic l0 hbd):=by
    unfold Sort.HoldsK;rw [U0,hd];exact hH
   (have hs:(Ic l0 hbd).size=l0.length:=by simp [Ic]);have eg:∀ args w,(callFunc 89 args).run Tryz.prog w=.ok (.enter 89 args) w:=enters_of Tryz.func89 kz rfl;have hcon:=AnyQ.slices_SortFunc_eq D1 3 Tryz.isAgg67 Tryz.sizeOf67 (fun s:BSq=>Ku s.1) (fun _=>rfl) (fun x v hv=>by simp [Ku] at hv;rcases hv with rfl|rfl|rfl <;> rfl) Jk swoSq 89 #[] g 0 cap (Ic l0 hbd) w eg (fun _ _ _ _ x y=>cmpSq x y _) b0 hlt (by rw [hs];exact hbig);rw [hs] at hcon;refine hcon.mono ?_;rintro e w' ⟨rfl,q,os,rfl⟩;have hps:=(Sort.pdq_sorts (ltOf Jk) swoSq (Ic l0 hbd) 0 l0.length (Lib.bitLen l0.length) true true (Nat.zero_le _) oz (Or.inl rfl)).1.1;generalize Sort.pdq (ltOf Jk) (Ic l0 hbd) 0 l0.length (Lib.bitLen l0.length) true true=dd at h' hps ⊢
   have hw:sortWorldK (fun s:BSq=>Ku s.1) 3 w g 0 q dd os=sortWorldK Ku 3 w g 0 q (dd.map (·.1)) os:=by
    unfold sortWorldK Sort.putRowK;rw [U0]
   have hput:=rowK_put (enc:=Ku) (S:=fun k_=>a1 k_) (fun h=>Ef h) (fun _ _ _ x=>Eh _ _ _ x) (fun _=>rfl) a8 (dd.map (·.1)) (by rw [Array.size_map,hps,hs]) q os hB hbase (a2.1 g rfl);(have hr:(dd.map (·.1)).toList=r:=by rw [h',Array.toList_map]);rw [hr] at hput;rw [hw];exact ⟨rfl,hput⟩
 ·rw [dif_neg a7] at h;exact absurd h (by simp)

/-! ### An: function 100011 -/
def An.l0:Nat→List (S67)→Int→Int→Int→Int→List (S67)→Int→Int→List (S67)→Option (Int×Int×(List (S67)))
 | 0,_,_,_,_,_,_,_,_,_=>none
 | k+1,a2,a8,a1,b0,b1,b2,b3,b4,a7=>if a1<a8 then (if 0≤a1 then (if a1<(a2.length:Int) then ((Gh.f ((Aa a2 a1).f0) ((Aa a2 a1).f1) ((Aa a2 a1).f2) b0 b1 b2).bind fun a6=>(if a7.length<5864062014805 then (An.l0 k a2 a8 (wrap64 (a1+1)) b0 b1 b2 b3 b4 (a7++[(⟨a6.1,a6.2.1,a6.2.2⟩:S67)])) else (none))) else (none)) else (none)) else ((Am.f a7).bind fun b5=>(some (b3,b4,b5)))
def An.f (k:Nat) (b1:Int) (b2:Int) (a6:List (S67)) (a1:Int) (a2:Int) (a7:Int) (a8:Int) (b0:List (S67)):Option (Int×Int×(List (S67))):=An.l0 k a6 (a6.length:Int) 0 a7 a8 b0 a1 a2 ([]:List (S67))
def An.T5:Bool×List (List Nat×List Nat):=(true,[([],[]),([0],[0]),([],[]),([],[]),([2,3],[2,3]),([4],[4]),([1,5,4],[1,5]),([0,1,2,3,4,5,6],[]),([7,6,6,0,1,2,3,4,5,6],[6,7])])
def An.B5:List Nat:=[0,1,0,0,12,28,63,127,255]
theorem An.tab5:D3 .any (G6 Tryz.f55 5)=An.T5:=by kernel_rfl
theorem An.bits5:Dy An.T5.2 An.B5=true:=by kernel_rfl
theorem An.calls (k:Nat) (g3:Int) (g4:Int) (g9:Option Addr) (g5:Nat) (c0:List (S67)) (a1:Int) (a2:Int) (b2:Nat) (b6:Int) (b7:Int) (b8:Option Addr) (b9:Nat) (b5:List (S67)) (r1:Int) (r2:Int) (r3:List (S67)) (w:World) (l5:Kd.C k67 w g9 c0.length c0) (k8:c0.length≤g5) (l6:Kd.C k67 w b8 b5.length b5) (k9:b5.length≤b9) (k7:w.heap[b2]? = some (.cells #[.int .i64 b6,.int .i64 b7,.slice b8 b5.length b9] 41 (0,0))) (h:An.f k g3 g4 c0 a1 a2 b6 b7 b5=some (r1,r2,r3)) :
  Calls Tryz.prog 55 #[.agg #[.int .i64 g3,.int .i64 g4,.slice g9 c0.length g5],.int .i64 a1,.int .i64 a2,.func (.func 56) #[] #[.pointer (some ⟨b2,0,none⟩)]] w fun e w'=>∃ m1:Value,e=.returned (.agg #[.int .i64 r1,.int .i64 r2,m1])∧Kd.R k67 67 w' w.heap.size (fun _=>True) m1 r3∧Below w.heap.size w w':=by
 have y9:=Tryz.underlying41;have z1:=Tryz.underlying67;have m8:=am l5;have q8:=am k8;clear l5 k8;have m9:=am l6;have m7:=am k9;clear l6 k9;have a8:=am k7;clear k7;have HB:=am (Below.refl w.heap.size w);have H:=h;clear h;unfold An.f at H;have H':=am H;clear H;go_enter Tryz.func55,Tryz.ntmps55;(go_wp2_with (first|((with_reducible refine Ag (N:=4) rfl ?_);refine Bg 4 (#[.int .i64 g3,.int .i64 g4,.slice g9 c0.length g5]) 41 ?_;intro d8 hg w5 hbox hb;have b0:=am (hbox);have m4:=am (gz hg HB);replace HB:=wb HB hb;have n1:=am ((by rw [hg];exact Nat.ne_of_lt (Ar (g:=b2) (o:=.cells #[.int .i64 b6,.int .i64 b7,.slice b8 b5.length b9] 41 (0,0)) (upK a8)):b2≠d8));have n4:=am ((by rw [hg];exact Nat.ne_of_gt (Ar (g:=b2) (o:=.cells #[.int .i64 b6,.int .i64 b7,.slice b8 b5.length b9] 41 (0,0)) (upK a8)):d8≠b2));replace a8:=am (Bb (g:=b2) (o:=.cells #[.int .i64 b6,.int .i64 b7,.slice b8 b5.length b9] 41 (0,0)) (upK a8) hb);clear hb hbox hg)|((with_reducible refine Ag (N:=8) rfl ?_);refine Bg 8 (#[.int .i64 0,.int .i64 0,.slice none 0 0]) 41 ?_;intro d6 hg w6 hbox hb;have b1:=am (hbox);have m5:=am (gz hg HB);replace HB:=wb HB hb;have n2:=am ((by rw [hg];exact Nat.ne_of_lt (Ar (g:=b2) (o:=.cells #[.int .i64 b6,.int .i64 b7,.slice b8 b5.length b9] 41 (0,0)) (upK a8)):b2≠d6));have n7:=am ((by rw [hg];exact Nat.ne_of_gt (Ar (g:=b2) (o:=.cells #[.int .i64 b6,.int .i64 b7,.slice b8 b5.length b9] 41 (0,0)) (upK a8)):d6≠b2));replace a8:=am (Bb (g:=b2) (o:=.cells #[.int .i64 b6,.int .i64 b7,.slice b8 b5.length b9] 41 (0,0)) (upK a8) hb);have i7:=am (gn hg b0);have i8:=am ((by rw [hg];exact Nat.ne_of_gt (Ar (upK b0)):d6≠d8));replace b0:=kb b0 hb;clear hb hbox hg)|((with_reducible refine Ag (N:=9) rfl ?_);refine Bg 9 (#[.int .i64 0,.int .i64 0,.slice none 0 0]) 41 ?_;intro d3 hg w7 hbox hb;have a7:=am (hbox);have m6:=am (gz hg HB);replace HB:=wb HB hb;have h3:=am ((by rw [hg];exact Nat.ne_of_lt (Ar (g:=b2) (o:=.cells #[.int .i64 b6,.int .i64 b7,.slice b8 b5.length b9] 41 (0,0)) (upK a8)):b2≠d3));have h6:=am ((by rw [hg];exact Nat.ne_of_gt (Ar (g:=b2) (o:=.cells #[.int .i64 b6,.int .i64 b7,.slice b8 b5.length b9] 41 (0,0)) (upK a8)):d3≠b2));replace a8:=am (Bb (g:=b2) (o:=.cells #[.int .i64 b6,.int .i64 b7,.slice b8 b5.length b9] 41 (0,0)) (upK a8) hb);have h4:=am (gn hg b0);have h7:=am ((by rw [hg];exact Nat.ne_of_gt (Ar (upK b0)):d3≠d8));replace b0:=kb b0 hb;have h5:=am (gn hg b1);have h8:=am ((by rw [hg];exact Nat.ne_of_gt (Ar (upK b1)):d3≠d6));replace b1:=kb b1 hb;clear hb hbox hg;have w8:=h6.out;have y2:=h3.out;have w9:=h7.out;have y3:=h4.out;have u6:=h8.out;have x0:=h5.out;obtain ⟨o9,p0,p1,p5,p6,p7⟩:=cy3 a7;have u7:=n4.out;have x1:=n1.out;have u8:=i7.out;have x2:=i8.out;obtain ⟨p2,p3,p4,p8,p9,q0⟩:=cy3 b0)));(try simp only [Act.put,List.setIfInBounds_toArray,List.set_cons_succ,List.set_cons_zero]);(go_loopg [18] k (fun kq q3 w'=>∃ (d4:Int) (d2:List (S67)) (d5:Value),q3=.int .i64 d4∧Ab (An.l0 kq c0 (c0.length:Int) d4 b6 b7 b5 a1 a2 d2=some (r1,r2,r3))∧Ab (kq≤k)∧Ab (Kd.R k67 67 w' w.heap.size (fun _=>True) d5 d2)∧Ab (w'.heap[b2]? = some (.cells #[.int .i64 b6,.int .i64 b7,(.slice b8 b5.length b9)] 41 (0,0)))∧Ab (w'.heap[d8]? = some (.cells #[.int .i64 g3,.int .i64 g4,(.slice g9 c0.length g5)] 41 (0,0)))∧Ab (w'.heap[d6]? = some (.cells #[.int .i64 0,.int .i64 0,(.slice none 0 0)] 41 (0,0)))∧Ab (w'.heap[d3]? = some (.cells #[.int .i64 a1,.int .i64 a2,d5] 41 (0,0)))∧Ab (Below w.heap.size w w')));(case atStart=>exact ⟨(0),(([]:List (S67))),(.slice none 0 0),(eqw),H',⟨Nat.le_refl _⟩,⟨nz⟩,⟨upF a8⟩,⟨upF b0⟩,⟨upF b1⟩,⟨Bz a7 #[.int .i64 a1,.int .i64 a2,.slice none 0 0] #[.int .i64 a1,.int .i64 0,.slice none 0 0]⟩,⟨upW HB⟩⟩)
 case round =>
  clear H';(try clear o9 p0 p1 p2 p3 p4 p5 p6 p7 p8 p9 q0);obtain ⟨d4,d2,d5,rfl,HA,i5,b3,a8,b0,b1,a7,HB⟩:=hrel
  cases gk with
  | zero=>exact absurd HA.out (by simp [An.l0])
  | succ k1 =>
   have H:=HA.out;clear HA;simp only [An.l0] at H;(by_cases f3:d4<(c0.length:Int))
   ·rw [if_pos f3] at H;have c15b0:=decide_eq_true f3;clear f3;obtain ⟨j9,H⟩:=ip H;have c16b0:=decide_eq_true j9;clear j9;obtain ⟨k0,H⟩:=ip H;have c17b0:=decide_eq_true k0;clear k0;obtain ⟨⟨g6,g7,g8⟩,m2,H⟩:=bnd H;(try dsimp only at H);obtain ⟨k2,H⟩:=ip H;have n0:=am k2;clear k2;obtain ⟨h0,h9⟩:∃ y_:List (S67),y_=(d2++[(⟨g6,g7,g8⟩:S67)]):=⟨_,rfl⟩;(replace H:(An.l0 k1 c0 (c0.length:Int) (wrap64 (d4+1)) b6 b7 b5 a1 a2 h0)=some (r1,r2,r3):=rwH h9 H);have o2:=am h9;clear h9;have H':=am H;clear H;have i0:0≤(d4:Int):=oda;have i1:d4<(c0.length:Int):=oda;obtain ⟨o3,o4,l7,l8,l9⟩:=Ck m8.out d4 i0 i1;cases o4;replace l7:=cb HB l7;replace l8:=cb HB l8;replace l9:=cb HB l9;generalize (Aa c0 d4).f0=c1 at *;generalize (Aa c0 d4).f1=d0 at *;generalize (Aa c0 d4).f2=d1 at *;replace i0:=eq_true i0;replace i1:=eq_true i1;(try go_wp2_with (first|((with_reducible refine Ag (N:=11) rfl ?_);refine Bg 11 (#[.int .i64 0,.int .i64 0,.int .i64 0]) 67 ?_;intro a6 hg d7 hbox hb;replace b3:=am (Kd.R_below (Kd.R_elderB (upR b3) a6 (Nat.le_of_eq hg.symm)) hb);have b4:=am (hbox);have q7:=am (gz hg HB);replace HB:=wb HB hb;have n3:=am ((by rw [hg];exact Nat.ne_of_lt (Ar (g:=b2) (o:=.cells #[.int .i64 b6,.int .i64 b7,.slice b8 b5.length b9] 41 (0,0)) (upK a8)):b2≠a6));have n9:=am ((by rw [hg];exact Nat.ne_of_gt (Ar (g:=b2) (o:=.cells #[.int .i64 b6,.int .i64 b7,.slice b8 b5.length b9] 41 (0,0)) (upK a8)):a6≠b2));replace a8:=am (Bb (g:=b2) (o:=.cells #[.int .i64 b6,.int .i64 b7,.slice b8 b5.length b9] 41 (0,0)) (upK a8) hb);have n5:=am (gn hg b0);have o0:=am ((by rw [hg];exact Nat.ne_of_gt (Ar (upK b0)):a6≠d8));replace b0:=kb b0 hb;have n8:=am (gn hg b1);have o1:=am ((by rw [hg];exact Nat.ne_of_gt (Ar (upK b1)):a6≠d6));replace b1:=kb b1 hb;have i9:=am (gn hg a7);have j5:=am ((by rw [hg];exact Nat.ne_of_gt (Ar (upK a7)):a6≠d3));replace a7:=kb a7 hb;clear hb hbox hg;have u9:=n9.out;have x3:=n3.out;have v1:=o0.out;have x4:=n5.out;have v2:=o1.out;have x5:=n8.out;have v6:=j5.out;have x6:=i9.out;obtain ⟨q9,r0,r4,s5,s6,s7⟩:=cy3 b4)));have f5:Ab (Kd.R k67 67 (((d7.setCell ⟨a6,0,none⟩ (.int .i64 c1)).setCell ⟨a6,1,none⟩ (.int .i64 d0)).setCell ⟨a6,2,none⟩ (.int .i64 d1)) w.heap.size (fun k_=>k_≠a6) d5 d2):=⟨by (with_reducible repeat (first|apply Kd.R_alloc|apply Kd.R_drewN|apply Kd.R_drew));exact Kd.R_mono (Kd.R_far (p:=⟨a6,2,none⟩) (Kd.R_far (p:=⟨a6,1,none⟩) (Kd.R_far (p:=⟨a6,0,none⟩) (Kd.R_mono b3.out (fun k_ hk=>(⟨hk,hk.2⟩:_∧k_≠a6))) (fun _ hk=>hk.2) (.int .i64 c1)) (fun _ hk=>hk.2) (.int .i64 d0)) (fun _ hk=>hk.2) (.int .i64 d1)) (fun _ hk=>hk.1.2)⟩;have f7:Ab ((((d7.setCell ⟨a6,0,none⟩ (.int .i64 c1)).setCell ⟨a6,1,none⟩ (.int .i64 d0)).setCell ⟨a6,2,none⟩ (.int .i64 d1)).heap[b2]? = some (.cells #[.int .i64 b6,.int .i64 b7,.slice b8 b5.length b9] 41 (0,0))):=⟨upF a8⟩;have f8:Ab ((((d7.setCell ⟨a6,0,none⟩ (.int .i64 c1)).setCell ⟨a6,1,none⟩ (.int .i64 d0)).setCell ⟨a6,2,none⟩ (.int .i64 d1)).heap[d8]? = some (.cells #[.int .i64 g3,.int .i64 g4,.slice (some o3) c0.length g5] 41 (0,0))):=⟨upF b0⟩;have f9:Ab ((((d7.setCell ⟨a6,0,none⟩ (.int .i64 c1)).setCell ⟨a6,1,none⟩ (.int .i64 d0)).setCell ⟨a6,2,none⟩ (.int .i64 d1)).heap[d6]? = some (.cells #[.int .i64 0,.int .i64 0,.slice none 0 0] 41 (0,0))):=⟨upF b1⟩;have g0:Ab ((((d7.setCell ⟨a6,0,none⟩ (.int .i64 c1)).setCell ⟨a6,1,none⟩ (.int .i64 d0)).setCell ⟨a6,2,none⟩ (.int .i64 d1)).heap[d3]? = some (.cells #[.int .i64 a1,.int .i64 a2,d5] 41 (0,0))):=⟨upF a7⟩;have g1:Ab ((((d7.setCell ⟨a6,0,none⟩ (.int .i64 c1)).setCell ⟨a6,1,none⟩ (.int .i64 d0)).setCell ⟨a6,2,none⟩ (.int .i64 d1)).heap[a6]? = some (.cells #[.int .i64 c1,.int .i64 d0,.int .i64 d1] 67 (0,0))):=⟨Bz b4 #[.int .i64 c1,.int .i64 d0,.int .i64 0] #[.int .i64 c1,.int .i64 0,.int .i64 0]⟩;have g2:Ab (Below w.heap.size w (((d7.setCell ⟨a6,0,none⟩ (.int .i64 c1)).setCell ⟨a6,1,none⟩ (.int .i64 d0)).setCell ⟨a6,2,none⟩ (.int .i64 d1))):=⟨upW HB⟩;(try clear b3 a8 b0 b1 a7 b4 HB);(try simp only [Gz]);generalize (((d7.setCell ⟨a6,0,none⟩ (.int .i64 c1)).setCell ⟨a6,1,none⟩ (.int .i64 d0)).setCell ⟨a6,2,none⟩ (.int .i64 d1))=q4 at f5 f7 f8 f9 g0 g1 g2 ⊢;have b3:=f5;have a8:=f7;have b0:=f8;have b1:=f9;have a7:=g0;have b4:=g1;have HB:=g2;clear f5 f7 f8 f9 g0 g1 g2;replace b3:=am (Kd.R_drew b3.out);replace a8:=am (Au a8.out);replace b0:=am (Au b0.out);replace b1:=am (Au b1.out);replace a7:=am (Au a7.out);replace b4:=am (Au b4.out);replace HB:=am (Bn HB.out);(refine Dg (n:=9) (S:=fun w'=>w'.cell? ⟨d3,0,none⟩=some (.int .i64 a1)∧w'.cell? ⟨d3,1,none⟩=some (.int .i64 a2)∧w'.cell? ⟨d3,2,none⟩=some (d5)∧w'.cell? ⟨a6,0,none⟩=some (.int .i64 c1)∧w'.cell? ⟨a6,1,none⟩=some (.int .i64 d0)∧w'.cell? ⟨a6,2,none⟩=some (.int .i64 d1)) (ds:=[8]) (bs 9 0) kz rfl rfl ⟨(Ac a7.out 0).trans rfl,(Ac a7.out 1).trans rfl,(Ac a7.out 2).trans rfl,(Ac b4.out 0).trans rfl,(Ac b4.out 1).trans rfl,(Ac b4.out 2).trans rfl⟩ (fun hHeld=>?_);refine Cr An.tab5 An.bits5 (fun HT_ HW_=>?_));generalize q4.drew=z6 at b3 a8 b0 b1 a7 b4 HB hHeld ⊢;refine pG 0 (some 22) (bs 9 1) HT_ ?_;refine pG 2 (some 24) (bs 9 5) HT_ ?_;refine tH 1 (some 23) (bs 9 7) HT_ HW_ hHeld ?_;refine tH 3 (some 25) (bs 9 15) HT_ HW_ hHeld ?_;refine Dj (i:=4) (N:=some 26) (bs 9 31) rfl rfl (B0 HT_.out kz) zd (fun K hK=>?_);(first|(refine Ew Tryz.func56 kz rfl #[.agg #[.int .i64 c1,.int .i64 d0,.int .i64 d1],.pointer (some ⟨b2,0,none⟩)] (by rfl) rfl rfl itp ?_)|(refine Je Tryz.func56 kz rfl #[.agg #[.int .i64 c1,.int .i64 d0,.int .i64 d1],.pointer (some ⟨b2,0,none⟩)] (by rfl) rfl rfl (by rfl) Gk ?_));(with_reducible refine (Gh.calls c1 d0 d1 b2 b6 b7 b8 b9 b5 g6 g7 g8 _ ?i2 ?i3 ?q1 m2.out).mono ?_);(case i2=>exact upC (Kd.C_below m9.out HB.out));(case i3=>exact m7.out);(case q1=>exact (upK a8));rintro e z7 ⟨rfl,hb⟩;refine ⟨_,rfl,?_⟩;replace b3:=rb b3 hb;replace a8:=am (Bb (g:=b2) (o:=.cells #[.int .i64 b6,.int .i64 b7,.slice b8 b5.length b9] 41 (0,0)) (upK a8) hb);replace b0:=kb b0 hb;replace b1:=kb b1 hb;replace a7:=kb a7 hb;replace b4:=kb b4 hb;replace HB:=wb HB hb;(try clear hb);refine hK.out _ _ ⟨(Ac a7.out 0).trans rfl,(Ac a7.out 1).trans rfl,(Ac a7.out 2).trans rfl,(Ac b4.out 0).trans rfl,(Ac b4.out 1).trans rfl,(Ac b4.out 2).trans rfl⟩ (fun hHeld=>?_);clear hK K;refine nG ?_;refine Dj (i:=5) (N:=some 27) (bs 9 63) rfl rfl (B0 HT_.out kz) zd (fun K hK=>?_);refine Kr (w1:=?_) (v:=?_) (by rfl) rfl ?_ ?_;rotate_left 2
    ·(go_simp);(constructor)
     ·rfl
     ·rfl
    refine hK.out _ _ ⟨(Ac (Bd a7.out _) 0).trans rfl,(Ac (Bd a7.out _) 1).trans rfl,(Ac (Bd a7.out _) 2).trans rfl,(Ac (Bd b4.out _) 0).trans rfl,(Ac (Bd b4.out _) 1).trans rfl,(Ac (Bd b4.out _) 2).trans rfl⟩ (fun hHeld=>?_);clear hK K;refine nG ?_;refine Dj (i:=6) (N:=some 28) (bs 9 127) rfl rfl (B0 HT_.out kz) zd (fun K hK=>?_);refine Kd.R_append_step k67 (w0:=w) w.heap.size (by rfl) (.tmp 23) (.tmp 27) 39 67 (.agg #[(.int .i64 0),(.int .i64 0),(.int .i64 0)]) 24 rfl Tryz.underlying39 Ed rfl zd oz d5 d2 (⟨g6,g7,g8⟩:S67) [.int .i64 g6,.int .i64 g7,.int .i64 g8] (fun k_=>k_≠a6) (fun _=>False) rfl rfl ?aP (fun _ hk=>hk.elim) ?aF ?aO ?aB ?aS ?aL ?_;(case aP=>exact Eh _ _ _ (⟨g6,g7,g8⟩:S67));(case aB=>exact (upW HB));(case aF=>exact (fun k_ hk=>Kd.freshB (g:=a6) (o:=.cells #[.int .i64 c1,.int .i64 d0,.int .i64 d1] 67 (0,0)) (upK b4) k_ hk));(case aO=>exact (upR b3));(case aS=>exact (Ae (upW HB)));(case aL=>have:=n0.out;omega);intro z2 q5 ho hb hg hat;rw [← o2.out] at ho;have f5:=am (Bk (g:=b2) (o:=.cells #[.int .i64 b6,.int .i64 b7,.slice b8 b5.length b9] 41 (0,0)) (upK a8) hg (Kd.R_ne b3.out a8.out zd));have f7:=am (Bk (upK b0) hg (Kd.R_ne b3.out b0.out zd));have f8:=am (Bk (upK b1) hg (Kd.R_ne b3.out b1.out zd));have f9:=am (Bk (upK a7) hg (Kd.R_ne b3.out a7.out zd));have g0:=am (Bk (upK b4) hg (Kd.R_away b3.out (fun _ hk=>hk)));have g1:=am (hb);have g2:=am (ho);clear a8;clear b0;clear b1;clear a7;clear b4;clear HB;clear b3;have a8:=f5;have b0:=f7;have b1:=f8;have a7:=f9;have b4:=g0;have HB:=g1;have i6:=g2;clear f5 f7 f8 f9 g0 g1 g2;clear ho hb hg hat;obtain ⟨i4,k3,k4⟩:=Kd.R_slice i6.out;(first|subst k4|(injection k4 with k5 o6 k6;have o7:=k5.symm;have o8:=k6.symm;clear k5 o6 k6;subst o7;subst o8));refine hK.out _ _ ⟨(Ac a7.out 0).trans rfl,(Ac a7.out 1).trans rfl,(Ac a7.out 2).trans rfl,(Ac b4.out 0).trans rfl,(Ac b4.out 1).trans rfl,(Ac b4.out 2).trans rfl⟩ (fun hHeld=>?_);clear hK K;refine nG ?_;refine pG 7 (some 29) (bs 9 255) HT_ ?_;refine Ji (i:=8) (N:=none) (bs 9 511) rfl rfl (B0 HT_.out kz) zd (fun K hK=>?_);have y8:q5.cell? ⟨d3,2,none⟩=some (d5):=(Ac a7.out 2).trans rfl;have s4:=Cy a7.out 2;have y4:=h3.out;have y5:=h4.out;have y6:=h5.out;have y7:=j5.out;have u2:=h6.out;have u3:=h7.out;have u4:=h8.out;have u5:=i9.out;refine I5 (w1:=?_) (by rfl) rfl ?_ ?_;rotate_left
    ·(go_simp);rfl
    refine hK.out _ _ ?_;clear hK K;refine D4 (C5 HT_.out kz) ?_;(try go_wp2);go_roundg k1;(case measure=>have:=i5.out;omega);(case rel=>exact ⟨(wrap64 (d4+1)),(h0),(.slice i4 h0.length k3),(eqw),H',⟨by have:=i5.out;omega⟩,⟨by (with_reducible repeat (first|apply Kd.R_alloc|apply Kd.R_drewN|apply Kd.R_drew));exact Kd.R_mono (Kd.R_far (p:=⟨d3,2,none⟩) (Kd.R_types i6.out a7.out zd) (fun _ hk=>hk.2) (.slice i4 h0.length k3)) (fun _ hk=>trivial)⟩,⟨upF a8⟩,⟨upF b0⟩,⟨upF b1⟩,⟨by (with_reducible repeat (first|refine B1 ?_ _|refine Au ?_|refine Bd ?_ _));refine G3 (cs := #[.int .i64 a1,.int .i64 a2,d5]) ?_ 2 _ rfl;(with_reducible repeat (first|refine B1 ?_ _|refine Au ?_|refine Bd ?_ _));exact a7.out⟩,⟨upW HB⟩⟩)
   ·rw [if_neg f3] at H;have c15b0:=decide_eq_false f3;clear f3;obtain ⟨q2,m3,H⟩:=bnd H;(try dsimp only at H);simp only [Option.some.injEq,Prod.mk.injEq] at H;obtain ⟨rfl,rfl,rfl⟩:=H;have v7:=h6.out;have x7:=h3.out;have v8:=h7.out;have x8:=h4.out;have w2:=h8.out;have x9:=h5.out;obtain ⟨r5,r6,r7,s8,s9,t1⟩:=cy3 a7;obtain ⟨d9,f4,o5⟩:=Kd.R_slice b3.out;subst o5;(go_wp2_with (first|((first|(with_reducible refine Ad (f:=88) rfl ?_)|refine C2 (f:=88) rfl (by rfl) ?_);(first|(refine C8 (some 33) rfl rfl Tryz.func88 kz rfl #[.slice d9 d2.length f4,.func (.func 89) #[] #[]] rfl itp ?_)|(refine Eo (some 33) rfl rfl Tryz.func88 kz rfl #[.slice d9 d2.length f4,.func (.func 89) #[] #[]] rfl (by rfl) Gk ?_));(with_reducible refine (Am.calls (fun k_=>some k_=(.slice d9 d2.length f4:Value).ownBlock) (.slice d9 d2.length f4) d2 q2 w _ ?i2 ?i3 m3.out).mono ?_);(case i2=>repeat (first|(with_reducible first|exact HB.out|apply Dd|apply Dn|apply Bn|refine Dx ?_ q6.out|refine Dx ?_ m4.out|refine Dx ?_ m5.out|refine Dx ?_ m6.out)|exact HB.out));(case i3=>exact Kd.R_tight rfl b3.out);rintro e z8 ⟨rfl,m0,hb,hkp⟩;refine ⟨_,rfl,?_⟩;replace a8:=am (Gj (upK a8) hkp (fun hs_=>(fun e_=>(Kd.R_ne b3.out a8.out zd) e_) hs_));replace b0:=am (Gj (upK b0) hkp (fun hs_=>(fun e_=>(Kd.R_ne b3.out b0.out zd) e_) hs_));replace b1:=am (Gj (upK b1) hkp (fun hs_=>(fun e_=>(Kd.R_ne b3.out b1.out zd) e_) hs_));replace a7:=am (Gj (upK a7) hkp (fun hs_=>(fun e_=>(Kd.R_ne b3.out a7.out zd) e_) hs_));replace b3:=am (Kd.R_reok rfl m0 (fun k_ e_=>b3.out.1 k_ e_));replace HB:=am (hb);(try clear hb hkp m0);obtain ⟨r8,r9,s0,t2,t6,t7⟩:=cy3 a7;have w3:=n7.out;have y0:=n2.out;have w4:=i8.out;have y1:=i7.out;obtain ⟨s1,s2,s3,t8,u0,u1⟩:=cy3 b1)));refine bodyPost_ret (results_cell_row rfl _ _ d6 41 #[.int .i64 a1,.int .i64 a2,.slice d9 d2.length f4] (0,0) _ rfl (Bz b1 #[.int .i64 a1,.int .i64 a2,.slice none 0 0] #[.int .i64 a1,.int .i64 0,.slice none 0 0]) Tryz.underlying41 rfl kz) rfl ?_;exact ⟨_,eqv,by (with_reducible repeat (first|apply Kd.R_alloc|apply Kd.R_drewN|apply Kd.R_drew));exact Kd.R_far3 b3 b1 (.int .i64 a1) (.int .i64 a2) (.slice d9 d2.length f4) (fun _ hk=>trivial),upW HB⟩

/-! ### Gu: function 25 -/
def Gu.f (k:Nat) (a1:Int) (a2:Int) (a7:List (S67)):Option (Int×Int×(List (S67))):=(An.f k a1 a2 a7 a2 a1 a1 a2 a7).bind fun a6=>(some (a6.1,a6.2.1,a6.2.2))
theorem Gu.calls (k:Nat) (a6:Int) (a7:Int) (b1:Option Addr) (b2:Nat) (a2:List (S67)) (r1:Int) (r2:Int) (r3:List (S67)) (w:World) (d2:Kd.C k67 w b1 a2.length a2) (d0:a2.length≤b2) (h:Gu.f k a6 a7 a2=some (r1,r2,r3)) :
  Calls Tryz.prog 25 #[.agg #[.int .i64 a6,.int .i64 a7,.slice b1 a2.length b2]] w fun e w'=>∃ d3:Value,e=.returned (.agg #[.int .i64 r1,.int .i64 r2,d3])∧Kd.R k67 67 w' w.heap.size (fun _=>True) d3 r3∧Below w.heap.size w w':=by
 have g9:=Tryz.underlying41;(have hmf:∀ (fn:Fn) (first cap:Array Value) (w:World),(Instr.makeFunc fn first cap).run Tryz.prog w=.ok (.func fn first cap) w:=fun _ _ _ _=>rfl);have b8:=am d2;have b6:=am d0;clear d2 d0;have HB:=am (Below.refl w.heap.size w);have H:=h;clear h;unfold Gu.f at H;obtain ⟨⟨b0,b3,b4⟩,A2,H⟩:=bnd H;(try dsimp only at H);simp only [Option.some.injEq,Prod.mk.injEq] at H;obtain ⟨rfl,rfl,rfl⟩:=H;go_enter Tryz.func25,Tryz.ntmps25;(go_wp2_with (first|((with_reducible refine Ag (N:=1) rfl ?_);refine Bg 1 (#[.int .i64 a6,.int .i64 a7,.slice b1 a2.length b2]) 41 ?_;intro c0 hg w3 hbox hb;have a1:=am (hbox);have f2:=am (gz hg HB);replace HB:=wb HB hb;clear hb hbox hg)|((with_reducible refine Ag (N:=2) rfl ?_);refine Bg 2 (#[.int .i64 0,.int .i64 0,.slice none 0 0]) 41 ?_;intro c1 hg w4 hbox hb;have a8:=am (hbox);have f3:=am (gz hg HB);replace HB:=wb HB hb;have d4:=am (gn hg a1);have d5:=am ((by rw [hg];exact Nat.ne_of_gt (Ar (upK a1)):c1≠c0));replace a1:=kb a1 hb;clear hb hbox hg;have g7:=d4.out;have g8:=d5.out;obtain ⟨f4,f5,f7,g1,g2,g3⟩:=cy3 a1)|((with_reducible refine Ad (f:=55) rfl ?_);refine cgo (some 9) Tryz.func55 (An.calls k a6 a7 _ _ a2 a7 a6 c0 a6 a7 b1 b2 a2 b0 b3 b4 _ ?d7 ?d8 ?d9 ?f0 ?f1 A2.out) ?_;(case d7=>exact upC (Kd.C_below b8.out HB.out));(case d8=>exact b6.out);(case d9=>exact upC (Kd.C_below b8.out HB.out));(case f0=>exact b6.out);(case f1=>exact (upK a1));rintro e w7 ⟨h0,rfl,d1,hb⟩;refine ⟨_,rfl,?_⟩;have b7:=am (Kd.R_lower d1 (Ae (upW HB)));replace a1:=kb a1 hb;replace a8:=kb a8 hb;replace HB:=wb HB hb;(try clear hb d1);obtain ⟨f8,f9,g0,g4,g5,g6⟩:=cy3 a8;obtain ⟨b5,b9,d6⟩:=Kd.R_slice b7.out;subst d6)));refine bodyPost_ret (results_cell_row rfl _ _ c1 41 #[.int .i64 b0,.int .i64 b3,.slice b5 b4.length b9] (0,0) _ rfl (Bz a8 #[.int .i64 b0,.int .i64 b3,.slice none 0 0] #[.int .i64 b0,.int .i64 0,.slice none 0 0]) Tryz.underlying41 rfl kz) rfl ?_;exact ⟨_,eqv,by (with_reducible repeat (first|apply Kd.R_alloc|apply Kd.R_drewN|apply Kd.R_drew));exact Kd.R_far3 b7 a8 (.int .i64 b0) (.int .i64 b3) (.slice b5 b4.length b9) (fun _ hk=>trivial),upW HB⟩

/-! ### Dh: function 4 -/
def Dh.f (k:Nat) (l0:List (List Int)):Option ((List (List Int))×Bool):=(Bl.f k l0).bind fun a1=>(if a1.2.2.2=true then ((Gu.f k a1.1 a1.2.1 a1.2.2.1).bind fun a2=>((Av.f k a2.1 a2.2.1 a2.2.2).bind fun a6=>(some (a6,true)))) else (some (([]:List (List Int)),false)))
theorem Dh.calls (k:Nat) (A0:Option Addr) (c0:Nat) (l0:List (List Int)) (r1:List (List Int)) (r2:Bool) (w:World) (c1:Kd.C (Kd.slice 3 (Kd.int .i64)) w A0 l0.length l0) (b9:l0.length≤c0) (h:Dh.f k l0=some (r1,r2)) :
  Calls Tryz.prog 4 #[.slice A0 l0.length c0] w fun e w'=>∃ d4:Value,e=.returned (.tuple #[d4,.bool r2])∧Kd.S (Kd.slice 3 (Kd.int .i64)) 34 w' w.heap.size (fun _=>True) d4 r1∧Below w.heap.size w w':=by
 have g9:=Tryz.underlying41;have b7:=am c1;have b6:=am b9;clear c1 b9;have HB:=am (Below.refl w.heap.size w);have H:=h;clear h;unfold Dh.f at H;obtain ⟨⟨a7,a8,b0,f0⟩,A2,H⟩:=bnd H;(try dsimp only at H);(by_cases c3:f0=true)
 ·subst c3;replace H:=yT H;obtain ⟨⟨d0,d1,d2⟩,A4,H⟩:=bnd H;(try dsimp only at H);obtain ⟨d3,A5,H⟩:=bnd H;replace H:(some (d3,true))=some (r1,r2):=H;simp only [Option.some.injEq,Prod.mk.injEq] at H;obtain ⟨rfl,rfl⟩:=H;go_enter Tryz.func4,Tryz.ntmps4;(go_wp2_with (first|((with_reducible refine Ad (f:=23) rfl ?_);refine cgo (some 8) Tryz.func23 (Bl.calls k _ _ l0 a7 a8 b0 true _ ?b1 ?b2 A2.out) ?_;(case b1=>exact upC b7.out);(case b2=>exact b6.out);rintro e w6 ⟨f1,rfl,a2,hb⟩;refine ⟨_,rfl,?_⟩;have a1:=am (Kd.R_lower a2 (Ae (upW HB)));replace HB:=wb HB hb;(try clear hb a2))|((with_reducible refine Ag (N:=4) rfl ?_);refine Bg 4 (#[.int .i64 0,.int .i64 0,.slice none 0 0]) 41 ?_;intro b8 hg w7 hbox hb;replace a1:=rb a1 hb;have a6:=am (hbox);have d5:=am (gz hg HB);replace HB:=wb HB hb;clear hb hbox hg;obtain ⟨g0,g1,g2,g6,g7,g8⟩:=cy3 a6;obtain ⟨b5,b4,d9⟩:=Kd.R_slice a1.out;subst d9)|((with_reducible refine Ad (f:=25) rfl ?_);refine cgo (some 14) Tryz.func25 (Gu.calls k a7 a8 _ _ b0 d0 d1 d2 _ ?b1 ?b2 A4.out) ?_;(case b1=>refine (Kd.R_reads' (e:=67) (base:=w.heap.size) (ok:=fun k_=>True) (n:=b0.length) (c:=b4) ?_).2.2;exact (by (with_reducible repeat (first|apply Kd.R_alloc|apply Kd.R_drewN|apply Kd.R_drew));exact (Kd.R_far3 a1 a6 (.int .i64 a7) (.int .i64 a8) (.slice b5 b0.length b4) (fun _ h_=>h_.1))));(case b2=>exact (Kd.R_reads' a1.out).2.1);rintro e h4 ⟨h0,rfl,a2,hb⟩;refine ⟨_,rfl,?_⟩;have b3:=am (Kd.R_lower (Kd.R_new' a2 (Kd.R_lt (by (with_reducible repeat (first|apply Kd.R_alloc|apply Kd.R_drewN|apply Kd.R_drew));exact (Kd.R_far3 a1 a6 (.int .i64 a7) (.int .i64 a8) (.slice b5 b0.length b4) (fun _ h_=>h_.1))))) (Ae (upW HB)));replace a1:=am (Kd.R_elder' (by (with_reducible repeat (first|apply Kd.R_alloc|apply Kd.R_drewN|apply Kd.R_drew));exact (Kd.R_far3 a1 a6 (.int .i64 a7) (.int .i64 a8) (.slice b5 b0.length b4) (fun _ h_=>h_.1))) (Kd.R_base a2) hb);replace a6:=am (Bb (g:=b8) (o:=.cells #[.int .i64 a7,.int .i64 a8,.slice b5 b0.length b4] 41 (0,0)) (Bz a6 #[.int .i64 a7,.int .i64 a8,.slice none 0 0] #[.int .i64 a7,.int .i64 0,.slice none 0 0]) hb);replace HB:=wb HB hb;(try clear hb a2);obtain ⟨f2,f4,d7⟩:=Kd.R_slice b3.out;subst d7)|((with_reducible refine Ad (f:=24) rfl ?_);refine cgo (some 15) Tryz.func24 (Av.calls k d0 d1 _ _ d2 d3 _ ?b1 ?b2 A5.out) ?_;(case b1=>exact upC (Kd.R_reads' b3.out).2.2);(case b2=>exact (Kd.R_reads' b3.out).2.1);rintro e h5 ⟨h3,rfl,a2,hb⟩;refine ⟨_,rfl,?_⟩;replace a1:=rb a1 hb;replace b3:=rb b3 hb;have d6:=am (Kd.S_lower a2 (Ae (upW HB)));replace a6:=kb a6 hb;replace HB:=wb HB hb;(try clear hb a2))));(go_ret2);exact ⟨_,eqv,mS d6.out,upW HB⟩
 ·replace c3:=Bool.eq_false_iff.mpr c3;subst c3;replace H:=yF H;simp only [Option.some.injEq,Prod.mk.injEq] at H;obtain ⟨rfl,rfl⟩:=H;go_enter Tryz.func4,Tryz.ntmps4;(go_wp2_with (first|((with_reducible refine Ad (f:=23) rfl ?_);refine cgo (some 8) Tryz.func23 (Bl.calls k _ _ l0 a7 a8 b0 false _ ?b1 ?b2 A2.out) ?_;(case b1=>exact upC b7.out);(case b2=>exact b6.out);rintro e h6 ⟨f1,rfl,a2,hb⟩;refine ⟨_,rfl,?_⟩;have a1:=am (Kd.R_lower a2 (Ae (upW HB)));replace HB:=wb HB hb;(try clear hb a2))|((with_reducible refine Ag (N:=4) rfl ?_);refine Bg 4 (#[.int .i64 0,.int .i64 0,.slice none 0 0]) 41 ?_;intro b8 hg h7 hbox hb;replace a1:=rb a1 hb;have a6:=am (hbox);have d5:=am (gz hg HB);replace HB:=wb HB hb;clear hb hbox hg;obtain ⟨f7,f8,f9,g3,g4,g5⟩:=cy3 a6;obtain ⟨f3,f5,d8⟩:=Kd.R_slice a1.out;subst d8)));(go_ret2);exact ⟨_,eqv,by first|exact Kd.S_nil _ _ _ _ _|exact Kd.N_nil _ _ _ _ _|exact Kd.V_nil _ _ _ _ _|exact Kd.Q_nil _ _ _ _ _|exact Kd.R_nil _ _ _ _ _,upW HB⟩

end Go.Proofs.YtgeahghdikdamaaGreatDoor.PFnCodesTurnedOfAll
