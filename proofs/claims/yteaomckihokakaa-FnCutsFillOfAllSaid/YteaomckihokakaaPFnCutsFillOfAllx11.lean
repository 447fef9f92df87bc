-- made for this claim by a program of this session
import Derived.Test.YteaomckihokakaaPFnCutsFillOfAllx0
import Derived.Test.YteaomckihokakaaPFnCutsFillOfAllx10
namespace Go.Proofs.Yteaomckihokakaa.PFnCutsFillOfAll
open Go.RowKit Go.Proofs.YteaomckihokakaaW.PrintWords Go.Proofs.YteaomckihokakaaW.PrintLast Go.Proofs.YteaomckihokakaaW.PrintMore
attribute [local go_sem] C7 C8 Dp Dq Cx Cy C9 Da -- for this text's walks alone
set_option linter.unusedVariables false
set_option linter.unusedSimpArgs false

/-! ### a row of the call's own, elements of several cells, written anew by a library function -/
section
variable {α:Type} {d:Kd α} {enc:α→List Value}
theorem Mn {e:TypeId} {w:World} {base:Nat} {ok:Nat→Prop} {g n cap:Nat} {xs:List α} (hop:∀ {w base ok x cs},d.M w base ok x cs→cs=enc x)
  (h:d.R e w base ok (.slice (some ⟨g,0,none⟩) n cap) xs) :
  n=xs.length∧base≤g∧n≤cap∧cap≤maxLen∧∃ cur:Array Value,w.heap[g]? = some (.cells cur e (0,0))∧cur.size=cap*d.sz∧∀ (j:Nat) (x:α),xs[j]? = some x→(cur.toList.drop (j*d.sz)).take d.sz=enc x:=by
 have hn:=(Kd.R_reads' h).1;obtain ⟨_,inner,ho,hr⟩:=h;(rcases ho.2 with ⟨h2,_⟩|⟨g2,cap2,cur,h2,hb,hh,hc,hm,hs,ht⟩)
 ·cases h2
 ·(injection h2 with ha hn2 hc2);(injection ha with ha2);(injection ha2 with hg2);subst hg2 hc2;refine ⟨hn,hb,by omega,hm,cur,hh,hs,fun j x hj=>?_⟩;have hj':j<xs.length:=(List.getElem?_eq_some_iff.1 hj).1;have hq:=hop (hr.2 j x hj);rw [← hq,← ht]
  have hle:j*d.sz+d.sz≤n*d.sz:=by
   (rw [hn,← Nat.succ_mul];exact Nat.mul_le_mul_right _ hj')
  rw [hn2] at hle;rw [← hn2] at hle ⊢;rw [List.drop_take,List.take_take,Nat.min_eq_left (by omega)]
end
section
variable {α:Type} [Inhabited α] {d:Kd α} {enc:α→List Value}
theorem rowK_holds {e:TypeId} {w:World} {base:Nat} {ok:Nat→Prop} {g n cap:Nat} {xs:List α} (hop:∀ {w base ok x cs},d.M w base ok x cs→cs=enc x) (hk:∀ x,(enc x).length=d.sz)
  (h:d.R e w base ok (.slice (some ⟨g,0,none⟩) n cap) xs):Sort.HoldsK enc d.sz w g 0 xs.toArray:=by
 obtain ⟨hn,_,hc,_,cur,hh,hs,ht⟩:=Mn (enc:=enc) hop h;intro t htl;rw [Sort.size_flatK] at htl;(have htl':t<xs.length*d.sz:=by simpa using htl)
 have k0:0<d.sz:=by
  (rcases Nat.eq_zero_or_pos d.sz with h0|h0)
  ·(rw [h0] at htl';simp at htl')
  ·exact h0
 have hj:t/d.sz<xs.length:=(Nat.div_lt_iff_lt_mul k0).2 htl';have hx:=ht (t/d.sz) xs[t/d.sz] (List.getElem?_eq_getElem hj);rw [Nat.zero_add,Sort.get_flatK _ _ _ _ htl];refine ⟨?_,Ec hh t⟩;rw [Ac hh t,getElem!_pos xs.toArray (t/d.sz) (by simpa using hj)];have hm:t%d.sz<d.sz:=Nat.mod_lt _ k0
 have he:cur[t]? = (enc xs[t/d.sz])[t%d.sz]? := by
  rw [← hx,List.getElem?_take_of_lt hm,List.getElem?_drop,Array.getElem?_toList,Nat.mul_comm,Nat.div_add_mod]
 rw [he,List.getElem?_eq_getElem (by rw [hk];exact hm)];simp only [List.getElem_toArray];rw [getElem!_pos _ _ (by rw [hk];exact hm)];rfl
theorem rowK_heap {w:World} {g m:Nat} {F:Array Value} {os:Array Obj} {e:TypeId} {cur:Array Value} (hh:w.heap[g]? = some (.cells cur e (0,0))) :
  (∀ k,k<w.heap.size→k≠g→(Sort.grow (Sort.putRow id (Sort.ahead w m) g 0 F) os).heap[k]? = w.heap[k]?)∧(Sort.grow (Sort.putRow id (Sort.ahead w m) g 0 F) os).heap[g]? = some (.cells (Sort.putCells id 0 F cur) e (0,0))∧w.heap.size≤(Sort.grow (Sort.putRow id (Sort.ahead w m) g 0 F) os).heap.size:=by
 have hlt:g<w.heap.size:=(Array.getElem?_eq_some_iff.1 hh).1;(have hsz:(Sort.putRow id (Sort.ahead w m) g 0 F).heap.size=w.heap.size:=by simp [Sort.putRow,Sort.mapBlock,Sort.ahead]);refine ⟨fun k hk hne=>?_,?_,?_⟩
 ·rw [Sort.heap_grow_old _ _ (by rw [hsz];exact hk)];(show (w.heap.modify g _)[k]? = _);rw [Array.getElem?_modify,if_neg (fun h=>hne h.symm)]
 ·rw [Sort.heap_grow_old _ _ (by rw [hsz];exact hlt)];(show (w.heap.modify g _)[g]? = _);rw [Array.getElem?_modify,if_pos rfl,hh];rfl
 ·(show w.heap.size≤(_++os).size);rw [Array.size_append,hsz];exact Nat.le_add_right _ _
theorem rowK_put {e:TypeId} {w w0:World} {base:Nat} {ok S:Nat→Prop} {g n cap:Nat} {xs:List α} (hop:∀ {w base ok x cs},d.M w base ok x cs→cs=enc x) (hmk:∀ w base ok x,d.M w base ok x (enc x)) (hk:∀ x,(enc x).length=d.sz)
  (h:d.R e w base ok (.slice (some ⟨g,0,none⟩) n cap) xs) (d':Array α) (hd:d'.size=xs.length) (m:Nat) (os:Array Obj) (hb:Below w0.heap.size w0 w) (hg:w0.heap.size≤g) (hs:S g) :
  d.R e (sortWorldK enc d.sz w g 0 m d' os) base ok (.slice (some ⟨g,0,none⟩) n cap) d'.toList∧Below w0.heap.size w0 (sortWorldK enc d.sz w g 0 m d' os)∧Ay w (sortWorldK enc d.sz w g 0 m d' os) S:=by
 obtain ⟨hn,hbase,hc,hm,cur,hh,hsz,ht⟩:=Mn (enc:=enc) hop h;unfold sortWorldK Sort.putRowK;obtain ⟨a,b,c⟩:=rowK_heap (m:=m) (F:=Sort.flatK enc d.sz d') (os:=os) hh;refine ⟨⟨h.1,(Sort.putCells id 0 (Sort.flatK enc d.sz d') cur).toList.take (d'.toList.length*d.sz),⟨?_,.inr ⟨g,cap,_,?_,hbase,b,?_,hm,?_,rfl⟩⟩,?_,fun j x hj=>?_⟩,⟨hb.os,hb.tape,hb.output,Nat.le_trans hb.size c,fun k hk2=>?_⟩,⟨c,fun k hk2 hS=>a k hk2 (fun e=>hS (e ▸ hs))⟩⟩
 ·rw [List.length_take,Array.length_toList,Array.length_toList,Sort.putCells,Array.size_mapIdx,hsz];exact Nat.min_eq_left (Nat.mul_le_mul_right _ (by omega))
 ·rw [Array.length_toList,hd,hn]
 ·(rw [Array.length_toList];omega)
 ·rw [Sort.putCells,Array.size_mapIdx,hsz]
 ·rw [List.length_take,Array.length_toList,Array.length_toList,Sort.putCells,Array.size_mapIdx,hsz];exact Nat.min_eq_left (Nat.mul_le_mul_right _ (by omega))
 ·(have hj':j<d'.size:=by have:=(List.getElem?_eq_some_iff.1 hj).1;rwa [Array.length_toList] at this)
  have hx:d'[j]! = x:=by
   rw [getElem!_pos d' j hj'];rw [Array.getElem?_toList,Array.getElem?_eq_getElem hj'] at hj;exact Option.some.inj hj
  (have hle:j*d.sz+d.sz≤d'.size*d.sz:=by rw [← Nat.succ_mul];exact Nat.mul_le_mul_right _ hj');have hle2:d'.size*d.sz≤cap*d.sz:=Nat.mul_le_mul_right _ (by omega)
  have he:(((Sort.putCells id 0 (Sort.flatK enc d.sz d') cur).toList.take (d'.toList.length*d.sz)).drop (j*d.sz)).take d.sz=enc x:=by
   (apply List.ext_getElem?);intro i;(by_cases hi:i<d.sz)
   ·rw [List.getElem?_take_of_lt hi,List.getElem?_drop,List.getElem?_take_of_lt (by rw [Array.length_toList];omega),Array.getElem?_toList,Sort.putCells,Array.getElem?_mapIdx,Array.getElem?_eq_getElem (by omega:j*d.sz+i<cur.size),Option.map_some,if_pos (by rw [Sort.size_flatK];omega),Nat.sub_zero,Sort.get_flatK _ _ _ _ (by omega)];have q1:(j*d.sz+i)/d.sz=j:=(Sort.blk_iff d.sz j _ (by omega)).1 ⟨by omega,by omega⟩;(have q2:(j*d.sz+i)%d.sz=i:=by rw [Nat.mod_eq_sub_div_mul,q1];omega);rw [q1,q2,hx,getElem!_pos (enc x) i (by rw [hk];exact hi),List.getElem?_eq_getElem (by rw [hk];exact hi)];rfl
   ·rw [List.getElem?_eq_none (by rw [List.length_take];omega),List.getElem?_eq_none (by rw [hk];omega)]
  rw [he];exact hmk _ _ _ _
 ·have hk3:k<w.heap.size:=Nat.lt_of_lt_of_le hk2 hb.size;rw [a k hk3 (by omega)];exact hb.block k hk2
end

/-! ### Ax: the pair slices.SortFunc[[]loop.example/g01296/impl.Square,loop.example/g01296/impl.Square] -/
/-! squares whose places are small enough that comparePlaces does not wrap -/
def BdSq (s:S61):Prop:=(-1099511627776≤s.f0∧s.f0≤1099511627776)∧(-1099511627776≤s.f1∧s.f1≤1099511627776)
instance (s:S61):Decidable (BdSq s):=by unfold BdSq;infer_instance
abbrev BSq:={s:S61 // BdSq s}
instance:Inhabited BSq:=⟨⟨⟨0,0,0⟩,by unfold BdSq;decide⟩⟩
def I2 (s:S61):List Value:=[.int .i64 s.f0,.int .i64 s.f1,.int .i64 s.f2]
instance:Inhabited S61:=⟨⟨0,0,0⟩⟩
def Gy (a b:BSq):Int:=if a.1.f1≠b.1.f1 then a.1.f1-b.1.f1 else a.1.f0-b.1.f0
def G3 (a b:S61):Prop:=a.f1<b.f1∨a.f1=b.f1∧a.f0<b.f0
instance (a b:S61):Decidable (G3 a b):=by unfold G3;infer_instance
theorem ltSq (a b:BSq):ltOf Gy a b=decide (G3 a.1 b.1):=by
 unfold ltOf Gy G3;(by_cases h:a.1.f1=b.1.f1)
 ·(simp [h];omega)
 ·(simp [h];omega)
theorem swoSq:Sort.SWO (ltOf Gy) where
 irrefl x:=by rw [ltSq,decide_eq_false_iff_not];unfold G3;omega
 trans x y z h1 h2:=by rw [ltSq,decide_eq_true_iff] at *;unfold G3 at *;omega
 ntrans x y z h1 h2:=by rw [ltSq,decide_eq_false_iff_not] at *;unfold G3 at *;omega
def D7:Go.Shelf.Ren:=⟨fun|6=>174|15=>146|14=>178|28=>163|29=>164|20=>175|21=>180|22=>181|23=>182|24=>183|25=>184|26=>185|27=>186|46=>188|47=>169|48=>170|49=>189|50=>190|57=>191|n=>n,fun|22=>24|24=>61|25=>96|3=>3|39=>118|0=>0|53=>131|55=>133|4=>4|46=>125|45=>124|50=>40|5=>5|9=>9|66=>137|70=>141|76=>145|77=>146|n=>n,fun|n=>n⟩
theorem De:Go.Proofs.SlLaysF0.n6 Try.prog D7 where
 mixed:=by kernel_rfl
 f6:=⟨Try.f174.name,by decide,Try.func174.trans (congrArg some (by kernel_rfl))⟩
 f14:=⟨Try.f178.name,by decide,Try.func178.trans (congrArg some (by kernel_rfl))⟩
 f15:=Try.func146.trans (congrArg some (by kernel_rfl))
 f20:=⟨Try.f175.name,by decide,Try.func175.trans (congrArg some (by kernel_rfl))⟩
 f21:=⟨Try.f180.name,by decide,Try.func180.trans (congrArg some (by kernel_rfl))⟩
 f22:=⟨Try.f181.name,by decide,Try.func181.trans (congrArg some (by kernel_rfl))⟩
 f23:=⟨Try.f182.name,by decide,Try.func182.trans (congrArg some (by kernel_rfl))⟩
 f24:=⟨Try.f183.name,by decide,Try.func183.trans (congrArg some (by kernel_rfl))⟩
 f25:=⟨Try.f184.name,by decide,Try.func184.trans (congrArg some (by kernel_rfl))⟩
 f26:=⟨Try.f185.name,by decide,Try.func185.trans (congrArg some (by kernel_rfl))⟩
 f27:=⟨Try.f186.name,by decide,Try.func186.trans (congrArg some (by kernel_rfl))⟩
 f28:=Try.func163.trans (congrArg some (by kernel_rfl))
 f29:=Try.func164.trans (congrArg some (by kernel_rfl))
 f46:=⟨Try.f188.name,by decide,Try.func188.trans (congrArg some (by kernel_rfl))⟩
 f47:=Try.func169.trans (congrArg some (by kernel_rfl))
 f48:=Try.func170.trans (congrArg some (by kernel_rfl))
 f49:=⟨Try.f189.name,by decide,Try.func189.trans (congrArg some (by kernel_rfl))⟩
 f50:=⟨Try.f190.name,by decide,Try.func190.trans (congrArg some (by kernel_rfl))⟩
 f57:=⟨Try.f191.name,by decide,Try.func191.trans (congrArg some (by kernel_rfl))⟩
 t0:=Try.underlying0
 a0:=Try.isAgg0
 z0:=Try.sizeOf0
 v0:=Try.zeroValue0
 t3:=Try.underlying3
 a3:=Try.isAgg3
 z3:=Try.sizeOf3
 v3:=Try.zeroValue3
 t4:=Try.underlying4
 a4:=Try.isAgg4
 z4:=Try.sizeOf4
 v4:=Try.zeroValue4
 t5:=Try.underlying5
 a5:=Try.isAgg5
 z5:=Try.sizeOf5
 v5:=Try.zeroValue5
 t9:=Try.underlying9
 a9:=Try.isAgg9
 z9:=Try.sizeOf9
 v9:=Try.zeroValue9
 t22:=Try.underlying24
 a22:=Try.isAgg24
 z22:=Try.sizeOf24
 v22:=Try.zeroValue24
 t25:=Try.underlying96
 a25:=Try.isAgg96
 z25:=Try.sizeOf96
 v25:=Try.zeroValue96
 t39:=Try.underlying118
 a39:=Try.isAgg118
 z39:=Try.sizeOf118
 v39:=Try.zeroValue118
 t45:=Try.underlying124
 a45:=Try.isAgg124
 z45:=Try.sizeOf124
 v45:=Try.zeroValue124
 t46:=Try.underlying125
 a46:=Try.isAgg125
 z46:=Try.sizeOf125
 v46:=Try.zeroValue125
 t50:=Try.underlying40
 a50:=Try.isAgg40
 z50:=Try.sizeOf40
 v50:=Try.zeroValue40
 t53:=Try.underlying131
 a53:=Try.isAgg131
 z53:=Try.sizeOf131
 v53:=Try.zeroValue131
 t55:=Try.underlying133
 a55:=Try.isAgg133
 z55:=Try.sizeOf133
 v55:=Try.zeroValue133
 t66:=Try.underlying137
 a66:=Try.isAgg137
 z66:=Try.sizeOf137
 v66:=Try.zeroValue137
 t70:=Try.underlying141
 a70:=Try.isAgg141
 z70:=Try.sizeOf141
 v70:=Try.zeroValue141
 t76:=Try.underlying145
 a76:=Try.isAgg145
 z76:=Try.sizeOf145
 v76:=Try.zeroValue145
 t77:=Try.underlying146
 a77:=Try.isAgg146
 z77:=Try.sizeOf146
 v77:=Try.zeroValue146
def Ey (l:List S61) (h:∀ s ∈ l,BdSq s):Array BSq:=(l.attach.map fun s=>(⟨s.1,h s.1 s.2⟩:BSq)).toArray
def Ax.f (l:List S61):Option (List S61) :=
 if h:(∀ s ∈ l,BdSq s)∧l.length≤1000000 then some ((Sort.pdq (ltOf Gy) (Ey l h.1) 0 l.length (Lib.bitLen l.length) true true).toList.map (·.1)) else none
set_option maxHeartbeats 8000000 in
theorem cmpSq (x y:BSq) (W:World):Calls Try.prog 100 #[.agg #[.int .i64 x.1.f0,.int .i64 x.1.f1,.int .i64 x.1.f2],.agg #[.int .i64 y.1.f0,.int .i64 y.1.f1,.int .i64 y.1.f2]] W fun e w'=>e=.returned (.int .i64 (Gy x y))∧∃ q os',w'=Sort.grow (W.drewN q) os':=by
 obtain ⟨⟨x0,x1,x2⟩,bx⟩:=x;obtain ⟨⟨y0,y1,y2⟩,bY⟩:=y;have bx':=bx;have bY':=bY;unfold BdSq at bx' bY';(dsimp only at bx' bY' ⊢);(have e1:wrap64 (x1-y1)=x1-y1:=by unfold wrap64;omega);(have e0:wrap64 (x0-y0)=x0-y0:=by unfold wrap64;omega);clear bx' bY';(by_cases hc:x1=y1)
 ·(have hv:Gy ⟨⟨x0,x1,x2⟩,bx⟩ ⟨⟨y0,y1,y2⟩,bY⟩=wrap64 (x0-y0):=by rw [e0];unfold Gy;simp [hc]);rw [hv];clear hv e1 e0;(have c1:(x1 != y1)=false:=by simp [hc]);(have c2:(x1==y1)=true:=by simp [hc]);clear hc bx bY;go_enter Try.func100,Try.ntmps100;go_wp2;go_ret;exact ⟨rfl,0,_,by rw [Sort.alloc_eq_grow,Sort.alloc_eq_grow,Sort.grow_grow];rfl⟩
 ·(have hv:Gy ⟨⟨x0,x1,x2⟩,bx⟩ ⟨⟨y0,y1,y2⟩,bY⟩=wrap64 (x1-y1):=by rw [e1];unfold Gy;simp [hc]);rw [hv];clear hv e1 e0;(have c1:(x1 != y1)=true:=by simp [hc]);(have c2:(x1==y1)=false:=by simp [hc]);clear hc bx bY;go_enter Try.func100,Try.ntmps100;go_wp2;go_ret;exact ⟨rfl,0,_,by rw [Sort.alloc_eq_grow,Sort.alloc_eq_grow,Sort.grow_grow];rfl⟩
theorem N7 (d:Array BSq):Sort.flatK (fun s:BSq=>I2 s.1) 3 d=Sort.flatK I2 3 (d.map (·.1)):=by
 (refine Sort.ext_get! (by simp) fun t ht=>?_);(have ht':t<d.size*3:=by simpa using ht);(have hq:t/3<d.size:=by omega);rw [Sort.get_flatK _ _ _ _ ht',Sort.get_flatK _ _ _ _ (by simpa using ht'),getElem!_pos d (t/3) hq,getElem!_pos (d.map (·.1)) (t/3) (by simpa using hq)];simp
set_option maxHeartbeats 8000000 in
theorem Ax.calls (P0_:Nat→Prop) (u9000_:Value) (l0:List S61) (r:List S61) (w0 w:World) (hB:Below w0.heap.size w0 w) (ho0:Kd.R k61 61 w w0.heap.size P0_ u9000_ l0) (h:Ax.f l0=some r) :
  Calls Try.prog 174 #[u9000_,.func (.func 100) #[] #[]] w fun e w'=>e=.returned (.tuple #[])∧Kd.R k61 61 w' w0.heap.size (fun k_=>(P0_ k_∨w.heap.size≤k_)) u9000_ r∧Below w0.heap.size w0 w'∧Ay w w' (fun k_=>P0_ k_):=by
 unfold Ax.f at h;(by_cases hbd0:(∀ s ∈ l0,BdSq s)∧l0.length≤1000000)
 ·rw [dif_pos hbd0] at h;obtain ⟨hbd,hlen⟩:=hbd0;have h':=(Option.some.inj h).symm;clear h;have ho1:Kd.R k61 61 w w0.heap.size (fun k_=>(P0_ k_∨w.heap.size≤k_)) u9000_ l0:=Kd.R_mono ho0 (fun _ hk=>.inl hk);(by_cases hl:l0=[])
  ·subst hl
   have hr:r=[]:=by
    rw [h'];(have hs:(Ey [] hbd).size=0:=by simp [Ey]);have hp:=(Sort.pdq_sorts (ltOf Gy) swoSq (Ey [] hbd) 0 0 (Lib.bitLen 0) true true (Nat.le_refl _) (by omega) (Or.inl rfl)).1.1;rw [hs] at hp;have he:=Array.eq_empty_of_size_eq_zero hp;(show List.map _ (Sort.pdq (ltOf Gy) (Ey [] hbd) 0 0 (Lib.bitLen 0) true true).toList=[]);(rw [he];rfl)
   subst hr;obtain ⟨A,c,rfl⟩:=Kd.R_slice ho0;refine (AnyF.slices_SortFunc_none De A c (.func (.func 100) #[] #[]) w).mono ?_;rintro e w' ⟨rfl,rfl⟩;exact ⟨rfl,ho1,hB,Ay.refl _ _⟩
  ·have hp:0<l0.length:=List.length_pos_iff.2 hl;obtain ⟨g,cap,rfl,hbase,hlt,cells,hcells⟩:=Kd.R_form ho0 hp;(have hbig:l0.length<4611686018427387904:=by omega);have hH:=rowK_holds (enc:=I2) (fun h=>Dl h) (fun _=>rfl) ho0;(have hd:(Ey l0 hbd).map (·.1)=l0.toArray:=by simp [Ey])
   have hH2:Sort.HoldsK (fun s:BSq=>I2 s.1) 3 w g 0 (Ey l0 hbd):=by
    unfold Sort.HoldsK;rw [N7,hd];exact hH
   (have hs:(Ey l0 hbd).size=l0.length:=by simp [Ey]);have eg:∀ args w,(callFunc 100 args).run Try.prog w=.ok (.enter 100 args) w:=enters_of Try.func100 (by kernel_rfl) rfl;have hcon:=AnyQ.slices_SortFunc_eq De 3 Try.isAgg61 Try.sizeOf61 (fun s:BSq=>I2 s.1) (fun _=>rfl) (fun x v hv=>by simp [I2] at hv;rcases hv with rfl|rfl|rfl <;> rfl) Gy swoSq 100 #[] g 0 cap (Ey l0 hbd) w eg (fun _ _ _ _ x y=>cmpSq x y _) hH2 hlt (by rw [hs];exact hbig);rw [hs] at hcon;refine hcon.mono ?_;rintro e w' ⟨rfl,q,os,rfl⟩;have hps:=(Sort.pdq_sorts (ltOf Gy) swoSq (Ey l0 hbd) 0 l0.length (Lib.bitLen l0.length) true true (Nat.zero_le _) (by omega) (Or.inl rfl)).1.1;generalize Sort.pdq (ltOf Gy) (Ey l0 hbd) 0 l0.length (Lib.bitLen l0.length) true true=dd at h' hps ⊢
   have hw:sortWorldK (fun s:BSq=>I2 s.1) 3 w g 0 q dd os=sortWorldK I2 3 w g 0 q (dd.map (·.1)) os:=by
    unfold sortWorldK Sort.putRowK;rw [N7]
   have hput:=rowK_put (enc:=I2) (S:=fun k_=>P0_ k_) (fun h=>Dl h) (fun _ _ _ x=>D2 _ _ _ x) (fun _=>rfl) ho1 (dd.map (·.1)) (by rw [Array.size_map,hps,hs]) q os hB hbase (ho0.1 g rfl);(have hr:(dd.map (·.1)).toList=r:=by rw [h',Array.toList_map]);rw [hr] at hput;rw [hw];exact ⟨rfl,hput⟩
 ·rw [dif_neg hbd0] at h;exact absurd h (by simp)

/-! ### Ap: function 100001 -/
def Ap.l0:Nat→List (S61)→Int→Int→Int→Int→List (S61)→Int→Int→List (S61)→Option (Int×Int×(List (S61)))
 | 0,_,_,_,_,_,_,_,_,_=>none
 | k+1,x16,x17,x18,x307000,x307001,x307002,x310000,x310001,x310002=>if x18<x17 then (if 0≤x18 then (if x18<(x16.length:Int) then ((D5.f ((Aa x16 x18).f0) ((Aa x16 x18).f1) ((Aa x16 x18).f2) x307000 x307001 x307002).bind fun bt312=>(if x310002.length<5864062014805 then (Ap.l0 k x16 x17 (wrap64 (x18+1)) x307000 x307001 x307002 x310000 x310001 (x310002++[(⟨bt312.1,bt312.2.1,bt312.2.2⟩:S61)])) else (none))) else (none)) else (none)) else ((Ax.f x310002).bind fun t318=>(some (x310000,x310001,t318)))
def Ap.f (k:Nat) (a0_0:Int) (a0_1:Int) (l0_2:List (S61)) (a1:Int) (a2:Int) (a3_0_0:Int) (a3_0_1:Int) (l3_0_2:List (S61)):Option (Int×Int×(List (S61))):=Ap.l0 k l0_2 (l0_2.length:Int) 0 a3_0_0 a3_0_1 l3_0_2 a1 a2 ([]:List (S61))
def Ap.T5:Bool×List (List Nat×List Nat):=(true,[([],[]),([0],[0]),([],[]),([],[]),([2,3],[2,3]),([4],[4]),([1,5,4],[1,5]),([0,1,2,3,4,5,6],[]),([7,6,6,0,1,2,3,4,5,6],[6,7])])
def Ap.B5:List Nat:=[0,1,0,0,12,28,63,127,255]
theorem Ap.tab5:C3 .any (Ej Try.f165 5)=Ap.T5:=by kernel_rfl
theorem Ap.bits5:Cu Ap.T5.2 Ap.B5=true:=by kernel_rfl
set_option maxHeartbeats 8000000 in
set_option maxRecDepth 100000 in
theorem Ap.calls (k:Nat) (a0_0:Int) (a0_1:Int) (A0_2:Option Addr) (c0_2:Nat) (l0_2:List (S61)) (a1:Int) (a2:Int) (gc3_0:Nat) (a3_0_0:Int) (a3_0_1:Int) (A3_0_2:Option Addr) (c3_0_2:Nat) (l3_0_2:List (S61)) (r1:Int) (r2:Int) (r3:List (S61)) (w:World) (hr0_2:Kd.C k61 w A0_2 l0_2.length l0_2) (hc0_2:l0_2.length≤c0_2) (hr3_0_2:Kd.C k61 w A3_0_2 l3_0_2.length l3_0_2) (hc3_0_2:l3_0_2.length≤c3_0_2) (hb3_0:w.heap[gc3_0]? = some (.cells #[.int .i64 a3_0_0,.int .i64 a3_0_1,.slice A3_0_2 l3_0_2.length c3_0_2] 26 (0,0))) (h:Ap.f k a0_0 a0_1 l0_2 a1 a2 a3_0_0 a3_0_1 l3_0_2=some (r1,r2,r3)) :
  Calls Try.prog 165 #[.agg #[.int .i64 a0_0,.int .i64 a0_1,.slice A0_2 l0_2.length c0_2],.int .i64 a1,.int .i64 a2,.func (.func 166) #[] #[.pointer (some ⟨gc3_0,0,none⟩)]] w fun e w'=>∃ v2_:Value,e=.returned (.agg #[.int .i64 r1,.int .i64 r2,v2_])∧Kd.R k61 61 w' w.heap.size (fun _=>True) v2_ r3∧Below w.heap.size w w':=by
 have hu26:=Try.underlying26;have hu61:=Try.underlying61;have HR0_2:=am hr0_2;have HC0_2:=am hc0_2;clear hr0_2 hc0_2;have HR3_0_2:=am hr3_0_2;have HC3_0_2:=am hc3_0_2;clear hr3_0_2 hc3_0_2;have BK306:=am hb3_0;clear hb3_0;have HB:=am (Below.refl w.heap.size w);have H:=h;clear h;unfold Ap.f at H;have H':=am H;clear H;go_enter Try.func165,Try.ntmps165;(go_wp2_with (first|((with_reducible refine Ag (N:=4) rfl ?_);refine Au 4 (#[.int .i64 a0_0,.int .i64 a0_1,.slice A0_2 l0_2.length c0_2]) 26 ?_;intro gb307 hg w5 hbox hb;have BK307:=am (hbox);have GW307:=am (gz hg HB);have GE307:=am (gz hg HB);replace HB:=wb HB hb;have NB306_307:=am ((by rw [hg];exact Nat.ne_of_lt (Ao (g:=gc3_0) (o:=.cells #[.int .i64 a3_0_0,.int .i64 a3_0_1,.slice A3_0_2 l3_0_2.length c3_0_2] 26 (0,0)) (upK BK306)):gc3_0≠gb307));have NB307_306:=am ((by rw [hg];exact Nat.ne_of_gt (Ao (g:=gc3_0) (o:=.cells #[.int .i64 a3_0_0,.int .i64 a3_0_1,.slice A3_0_2 l3_0_2.length c3_0_2] 26 (0,0)) (upK BK306)):gb307≠gc3_0));replace BK306:=am (Bo (g:=gc3_0) (o:=.cells #[.int .i64 a3_0_0,.int .i64 a3_0_1,.slice A3_0_2 l3_0_2.length c3_0_2] 26 (0,0)) (upK BK306) hb);clear hb hbox hg)|((with_reducible refine Ag (N:=8) rfl ?_);refine Au 8 (#[.int .i64 0,.int .i64 0,.slice none 0 0]) 26 ?_;intro gb308 hg w6 hbox hb;have BK308:=am (hbox);have GW308:=am (gz hg HB);have GE308:=am (gz hg HB);replace HB:=wb HB hb;have NB306_308:=am ((by rw [hg];exact Nat.ne_of_lt (Ao (g:=gc3_0) (o:=.cells #[.int .i64 a3_0_0,.int .i64 a3_0_1,.slice A3_0_2 l3_0_2.length c3_0_2] 26 (0,0)) (upK BK306)):gc3_0≠gb308));have NB308_306:=am ((by rw [hg];exact Nat.ne_of_gt (Ao (g:=gc3_0) (o:=.cells #[.int .i64 a3_0_0,.int .i64 a3_0_1,.slice A3_0_2 l3_0_2.length c3_0_2] 26 (0,0)) (upK BK306)):gb308≠gc3_0));replace BK306:=am (Bo (g:=gc3_0) (o:=.cells #[.int .i64 a3_0_0,.int .i64 a3_0_1,.slice A3_0_2 l3_0_2.length c3_0_2] 26 (0,0)) (upK BK306) hb);have NB307_308:=am (gn hg BK307);have NB308_307:=am ((by rw [hg];exact Nat.ne_of_gt (Ao (upK BK307)):gb308≠gb307));replace BK307:=kb BK307 hb;clear hb hbox hg)|((with_reducible refine Ag (N:=9) rfl ?_);refine Au 9 (#[.int .i64 0,.int .i64 0,.slice none 0 0]) 26 ?_;intro gb309 hg w7 hbox hb;have BK309:=am (hbox);have GW309:=am (gz hg HB);have GE309:=am (gz hg HB);replace HB:=wb HB hb;have NB306_309:=am ((by rw [hg];exact Nat.ne_of_lt (Ao (g:=gc3_0) (o:=.cells #[.int .i64 a3_0_0,.int .i64 a3_0_1,.slice A3_0_2 l3_0_2.length c3_0_2] 26 (0,0)) (upK BK306)):gc3_0≠gb309));have NB309_306:=am ((by rw [hg];exact Nat.ne_of_gt (Ao (g:=gc3_0) (o:=.cells #[.int .i64 a3_0_0,.int .i64 a3_0_1,.slice A3_0_2 l3_0_2.length c3_0_2] 26 (0,0)) (upK BK306)):gb309≠gc3_0));replace BK306:=am (Bo (g:=gc3_0) (o:=.cells #[.int .i64 a3_0_0,.int .i64 a3_0_1,.slice A3_0_2 l3_0_2.length c3_0_2] 26 (0,0)) (upK BK306) hb);have NB307_309:=am (gn hg BK307);have NB309_307:=am ((by rw [hg];exact Nat.ne_of_gt (Ao (upK BK307)):gb309≠gb307));replace BK307:=kb BK307 hb;have NB308_309:=am (gn hg BK308);have NB309_308:=am ((by rw [hg];exact Nat.ne_of_gt (Ao (upK BK308)):gb309≠gb308));replace BK308:=kb BK308 hb;clear hb hbox hg;have hnb8:=NB309_306.out;have hnc8:=NB306_309.out;have hnb9:=NB309_307.out;have hnc9:=NB307_309.out;have hnb10:=NB309_308.out;have hnc10:=NB308_309.out;obtain ⟨hcz11_0,hcz11_1,hcz11_2,hfz11_0,hfz11_1,hfz11_2⟩:=cy3 BK309;have hnb12:=NB307_306.out;have hnc12:=NB306_307.out;have hnb13:=NB307_308.out;have hnc13:=NB308_307.out;obtain ⟨hcz14_0,hcz14_1,hcz14_2,hfz14_0,hfz14_1,hfz14_2⟩:=cy3 BK307)));(try simp only [Act.put,List.setIfInBounds_toArray,List.set_cons_succ,List.set_cons_zero]);(go_loopg [18] k (fun kq v18 w'=>∃ (x18_1:Int) (x310002_1:List (S61)) (u310002:Value),v18=.int .i64 x18_1∧Ab (Ap.l0 kq l0_2 (l0_2.length:Int) x18_1 a3_0_0 a3_0_1 l3_0_2 a1 a2 x310002_1=some (r1,r2,r3))∧Ab (kq≤k)∧Ab (Kd.R k61 61 w' w.heap.size (fun _=>True) u310002 x310002_1)∧Ab (w'.heap[gc3_0]? = some (.cells #[.int .i64 a3_0_0,.int .i64 a3_0_1,(.slice A3_0_2 l3_0_2.length c3_0_2)] 26 (0,0)))∧Ab (w'.heap[gb307]? = some (.cells #[.int .i64 a0_0,.int .i64 a0_1,(.slice A0_2 l0_2.length c0_2)] 26 (0,0)))∧Ab (w'.heap[gb308]? = some (.cells #[.int .i64 0,.int .i64 0,(.slice none 0 0)] 26 (0,0)))∧Ab (w'.heap[gb309]? = some (.cells #[.int .i64 a1,.int .i64 a2,u310002] 26 (0,0)))∧Ab (Below w.heap.size w w')));(case atStart=>exact ⟨(0),(([]:List (S61))),(.slice none 0 0),(eqw),H',⟨Nat.le_refl _⟩,⟨by first|exact Kd.R_nil _ _ _ _ _|exact Kd.N_nil _ _ _ _ _|exact Kd.V_nil _ _ _ _ _|exact Kd.Q_nil _ _ _ _ _|exact Kd.S_nil _ _ _ _ _⟩,⟨upF BK306⟩,⟨upF BK307⟩,⟨upF BK308⟩,⟨Cr BK309 #[.int .i64 a1,.int .i64 a2,.slice none 0 0] #[.int .i64 a1,.int .i64 0,.slice none 0 0]⟩,⟨upW HB⟩⟩)
 case round =>
  clear H';(try clear hcz11_0 hcz11_1 hcz11_2 hcz14_0 hcz14_1 hcz14_2 hfz11_0 hfz11_1 hfz11_2 hfz14_0 hfz14_1 hfz14_2);obtain ⟨x18_1,x310002_1,u310002,rfl,HA,HK1,HO_310002,BK306,BK307,BK308,BK309,HB⟩:=hrel
  cases gk with
  | zero=>exact absurd HA.out (by simp [Ap.l0])
  | succ k1 =>
   have H:=HA.out;clear HA;simp only [Ap.l0] at H;(by_cases c15:x18_1<(l0_2.length:Int))
   ·rw [if_pos c15] at H;have c15b0:=decide_eq_true c15;clear c15;obtain ⟨c16,H⟩:=ip H;have c16b0:=decide_eq_true c16;clear c16;obtain ⟨c17,H⟩:=ip H;have c17b0:=decide_eq_true c17;clear c17;obtain ⟨⟨t312,t313,t314⟩,A18,H⟩:=bnd H;(try dsimp only at H);obtain ⟨c19,H⟩:=ip H;have LMc19:=am c19;clear c19;obtain ⟨y315,hy315⟩:∃ y_:List (S61),y_=(x310002_1++[(⟨t312,t313,t314⟩:S61)]):=⟨_,rfl⟩;(replace H:(Ap.l0 k1 l0_2 (l0_2.length:Int) (wrap64 (x18_1+1)) a3_0_0 a3_0_1 l3_0_2 a1 a2 y315)=some (r1,r2,r3):=rwH hy315 H);have Ny315:=am hy315;clear hy315;have H':=am H;clear H;have p310:0≤(x18_1:Int):=oda;have q310:x18_1<(l0_2.length:Int):=oda;obtain ⟨ad310,e310,hx310_0,hx310_1,hx310_2⟩:=Bb HR0_2.out x18_1 p310 q310;cases e310;replace hx310_0:=cb HB hx310_0;replace hx310_1:=cb HB hx310_1;replace hx310_2:=cb HB hx310_2;generalize (Aa l0_2 x18_1).f0=z310a at *;generalize (Aa l0_2 x18_1).f1=z310b at *;generalize (Aa l0_2 x18_1).f2=z310c at *;replace p310:=eq_true p310;replace q310:=eq_true q310;(try go_wp2_with (first|((with_reducible refine Ag (N:=11) rfl ?_);refine Au 11 (#[.int .i64 0,.int .i64 0,.int .i64 0]) 61 ?_;intro gb311 hg w20 hbox hb;replace HO_310002:=am (Kd.R_below (Kd.R_elderB (upR HO_310002) gb311 (Nat.le_of_eq hg.symm)) hb);have BK311:=am (hbox);have GW311:=am (gz hg HB);have GE311:=am (gz hg HB);replace HB:=wb HB hb;have NB306_311:=am ((by rw [hg];exact Nat.ne_of_lt (Ao (g:=gc3_0) (o:=.cells #[.int .i64 a3_0_0,.int .i64 a3_0_1,.slice A3_0_2 l3_0_2.length c3_0_2] 26 (0,0)) (upK BK306)):gc3_0≠gb311));have NB311_306:=am ((by rw [hg];exact Nat.ne_of_gt (Ao (g:=gc3_0) (o:=.cells #[.int .i64 a3_0_0,.int .i64 a3_0_1,.slice A3_0_2 l3_0_2.length c3_0_2] 26 (0,0)) (upK BK306)):gb311≠gc3_0));replace BK306:=am (Bo (g:=gc3_0) (o:=.cells #[.int .i64 a3_0_0,.int .i64 a3_0_1,.slice A3_0_2 l3_0_2.length c3_0_2] 26 (0,0)) (upK BK306) hb);have NB307_311:=am (gn hg BK307);have NB311_307:=am ((by rw [hg];exact Nat.ne_of_gt (Ao (upK BK307)):gb311≠gb307));replace BK307:=kb BK307 hb;have NB308_311:=am (gn hg BK308);have NB311_308:=am ((by rw [hg];exact Nat.ne_of_gt (Ao (upK BK308)):gb311≠gb308));replace BK308:=kb BK308 hb;have NB309_311:=am (gn hg BK309);have NB311_309:=am ((by rw [hg];exact Nat.ne_of_gt (Ao (upK BK309)):gb311≠gb309));replace BK309:=kb BK309 hb;clear hb hbox hg;have hnb21:=NB311_306.out;have hnc21:=NB306_311.out;have hnb22:=NB311_307.out;have hnc22:=NB307_311.out;have hnb23:=NB311_308.out;have hnc23:=NB308_311.out;have hnb24:=NB311_309.out;have hnc24:=NB309_311.out;obtain ⟨hcz25_0,hcz25_1,hcz25_2,hfz25_0,hfz25_1,hfz25_2⟩:=cy3 BK311)));have n0_:Ab (Kd.R k61 61 (((w20.setCell ⟨gb311,0,none⟩ (.int .i64 z310a)).setCell ⟨gb311,1,none⟩ (.int .i64 z310b)).setCell ⟨gb311,2,none⟩ (.int .i64 z310c)) w.heap.size (fun k_=>k_≠gb311) u310002 x310002_1):=⟨by (with_reducible repeat (first|apply Kd.R_alloc|apply Kd.R_drewN|apply Kd.R_drew));exact Kd.R_mono (Kd.R_far (p:=⟨gb311,2,none⟩) (Kd.R_far (p:=⟨gb311,1,none⟩) (Kd.R_far (p:=⟨gb311,0,none⟩) (Kd.R_mono HO_310002.out (fun k_ hk=>(⟨hk,hk.2⟩:_∧k_≠gb311))) (fun _ hk=>hk.2) (.int .i64 z310a)) (fun _ hk=>hk.2) (.int .i64 z310b)) (fun _ hk=>hk.2) (.int .i64 z310c)) (fun _ hk=>hk.1.2)⟩;have n1_:Ab ((((w20.setCell ⟨gb311,0,none⟩ (.int .i64 z310a)).setCell ⟨gb311,1,none⟩ (.int .i64 z310b)).setCell ⟨gb311,2,none⟩ (.int .i64 z310c)).heap[gc3_0]? = some (.cells #[.int .i64 a3_0_0,.int .i64 a3_0_1,.slice A3_0_2 l3_0_2.length c3_0_2] 26 (0,0))):=⟨upF BK306⟩;have n2_:Ab ((((w20.setCell ⟨gb311,0,none⟩ (.int .i64 z310a)).setCell ⟨gb311,1,none⟩ (.int .i64 z310b)).setCell ⟨gb311,2,none⟩ (.int .i64 z310c)).heap[gb307]? = some (.cells #[.int .i64 a0_0,.int .i64 a0_1,.slice (some ad310) l0_2.length c0_2] 26 (0,0))):=⟨upF BK307⟩;have n3_:Ab ((((w20.setCell ⟨gb311,0,none⟩ (.int .i64 z310a)).setCell ⟨gb311,1,none⟩ (.int .i64 z310b)).setCell ⟨gb311,2,none⟩ (.int .i64 z310c)).heap[gb308]? = some (.cells #[.int .i64 0,.int .i64 0,.slice none 0 0] 26 (0,0))):=⟨upF BK308⟩;have n4_:Ab ((((w20.setCell ⟨gb311,0,none⟩ (.int .i64 z310a)).setCell ⟨gb311,1,none⟩ (.int .i64 z310b)).setCell ⟨gb311,2,none⟩ (.int .i64 z310c)).heap[gb309]? = some (.cells #[.int .i64 a1,.int .i64 a2,u310002] 26 (0,0))):=⟨upF BK309⟩;have n5_:Ab ((((w20.setCell ⟨gb311,0,none⟩ (.int .i64 z310a)).setCell ⟨gb311,1,none⟩ (.int .i64 z310b)).setCell ⟨gb311,2,none⟩ (.int .i64 z310c)).heap[gb311]? = some (.cells #[.int .i64 z310a,.int .i64 z310b,.int .i64 z310c] 61 (0,0))):=⟨Cr BK311 #[.int .i64 z310a,.int .i64 z310b,.int .i64 0] #[.int .i64 z310a,.int .i64 0,.int .i64 0]⟩;have n6_:Ab (Below w.heap.size w (((w20.setCell ⟨gb311,0,none⟩ (.int .i64 z310a)).setCell ⟨gb311,1,none⟩ (.int .i64 z310b)).setCell ⟨gb311,2,none⟩ (.int .i64 z310c))):=⟨upW HB⟩;(try clear HO_310002 BK306 BK307 BK308 BK309 BK311 HB);(try simp only [D1]);generalize (((w20.setCell ⟨gb311,0,none⟩ (.int .i64 z310a)).setCell ⟨gb311,1,none⟩ (.int .i64 z310b)).setCell ⟨gb311,2,none⟩ (.int .i64 z310c))=w26 at n0_ n1_ n2_ n3_ n4_ n5_ n6_ ⊢;have HO_310002:=n0_;have BK306:=n1_;have BK307:=n2_;have BK308:=n3_;have BK309:=n4_;have BK311:=n5_;have HB:=n6_;clear n0_ n1_ n2_ n3_ n4_ n5_ n6_;replace HO_310002:=am (Kd.R_drew HO_310002.out);replace BK306:=am (Av BK306.out);replace BK307:=am (Av BK307.out);replace BK308:=am (Av BK308.out);replace BK309:=am (Av BK309.out);replace BK311:=am (Av BK311.out);replace HB:=am (Aw HB.out);(refine Ch (n:=9) (S:=fun w'=>w'.cell? ⟨gb309,0,none⟩=some (.int .i64 a1)∧w'.cell? ⟨gb309,1,none⟩=some (.int .i64 a2)∧w'.cell? ⟨gb309,2,none⟩=some (u310002)∧w'.cell? ⟨gb311,0,none⟩=some (.int .i64 z310a)∧w'.cell? ⟨gb311,1,none⟩=some (.int .i64 z310b)∧w'.cell? ⟨gb311,2,none⟩=some (.int .i64 z310c)) (ds:=[8]) (bs 9 0) (by kernel_rfl) rfl rfl ⟨(Ac BK309.out 0).trans rfl,(Ac BK309.out 1).trans rfl,(Ac BK309.out 2).trans rfl,(Ac BK311.out 0).trans rfl,(Ac BK311.out 1).trans rfl,(Ac BK311.out 2).trans rfl⟩ (fun hHeld=>?_);refine B2 Ap.tab5 Ap.bits5 (fun HT_ HW_=>?_));generalize w26.drew=w27 at HO_310002 BK306 BK307 BK308 BK309 BK311 HB hHeld ⊢;refine pG 0 (some 22) (bs 9 1) HT_ ?_;refine pG 2 (some 24) (bs 9 5) HT_ ?_;refine tH 1 (some 23) (bs 9 7) HT_ HW_ hHeld ?_;refine tH 3 (some 25) (bs 9 15) HT_ HW_ hHeld ?_;refine Cz (i:=4) (N:=some 26) (bs 9 31) rfl rfl (Bz HT_.out (by kernel_rfl)) (by decide) (fun K hK=>?_);(first|(refine C5 Try.func166 (by kernel_rfl) rfl #[.agg #[.int .i64 z310a,.int .i64 z310b,.int .i64 z310c],.pointer (some ⟨gc3_0,0,none⟩)] (by rfl) rfl rfl itp ?_)|(refine If Try.func166 (by kernel_rfl) rfl #[.agg #[.int .i64 z310a,.int .i64 z310b,.int .i64 z310c],.pointer (some ⟨gc3_0,0,none⟩)] (by rfl) rfl rfl (by rfl) E0 ?_));(with_reducible refine (D5.calls z310a z310b z310c gc3_0 a3_0_0 a3_0_1 A3_0_2 c3_0_2 l3_0_2 t312 t313 t314 _ ?side1 ?side2 ?side3 A18.out).mono ?_);(case side1=>exact upC (Kd.C_below HR3_0_2.out HB.out));(case side2=>exact HC3_0_2.out);(case side3=>exact (upK BK306));rintro e w28 ⟨rfl,hb⟩;refine ⟨_,rfl,?_⟩;replace HO_310002:=rb HO_310002 hb;replace BK306:=am (Bo (g:=gc3_0) (o:=.cells #[.int .i64 a3_0_0,.int .i64 a3_0_1,.slice A3_0_2 l3_0_2.length c3_0_2] 26 (0,0)) (upK BK306) hb);replace BK307:=kb BK307 hb;replace BK308:=kb BK308 hb;replace BK309:=kb BK309 hb;replace BK311:=kb BK311 hb;replace HB:=wb HB hb;(try clear hb);refine hK.out _ _ ⟨(Ac BK309.out 0).trans rfl,(Ac BK309.out 1).trans rfl,(Ac BK309.out 2).trans rfl,(Ac BK311.out 0).trans rfl,(Ac BK311.out 1).trans rfl,(Ac BK311.out 2).trans rfl⟩ (fun hHeld=>?_);clear hK K;refine nG ?_;refine Cz (i:=5) (N:=some 27) (bs 9 63) rfl rfl (Bz HT_.out (by kernel_rfl)) (by decide) (fun K hK=>?_);refine value_ (w1:=?_) (v:=?_) (by rfl) rfl ?_ ?_;rotate_left 2
    ·(go_simp);(constructor)
     ·rfl
     ·rfl
    refine hK.out _ _ ⟨(Ac (Ce BK309.out _) 0).trans rfl,(Ac (Ce BK309.out _) 1).trans rfl,(Ac (Ce BK309.out _) 2).trans rfl,(Ac (Ce BK311.out _) 0).trans rfl,(Ac (Ce BK311.out _) 1).trans rfl,(Ac (Ce BK311.out _) 2).trans rfl⟩ (fun hHeld=>?_);clear hK K;refine nG ?_;refine Cz (i:=6) (N:=some 28) (bs 9 127) rfl rfl (Bz HT_.out (by kernel_rfl)) (by decide) (fun K hK=>?_);refine Kd.R_append_step k61 (w0:=w) w.heap.size (by rfl) (.tmp 23) (.tmp 27) 24 61 (.agg #[(.int .i64 0),(.int .i64 0),(.int .i64 0)]) 24 rfl Try.underlying24 Dy rfl (by decide) (by omega) u310002 x310002_1 (⟨t312,t313,t314⟩:S61) [.int .i64 t312,.int .i64 t313,.int .i64 t314] (fun k_=>k_≠gb311) (fun _=>False) rfl rfl ?aP (fun _ hk=>hk.elim) ?aF ?aO ?aB ?aS ?aL ?_;(case aP=>exact D2 _ _ _ (⟨t312,t313,t314⟩:S61));(case aB=>exact (upW HB));(case aF=>exact (fun k_ hk=>Kd.freshB (g:=gb311) (o:=.cells #[.int .i64 z310a,.int .i64 z310b,.int .i64 z310c] 61 (0,0)) (upK BK311) k_ hk));(case aO=>exact (upR HO_310002));(case aS=>exact (Ar (upW HB)));(case aL=>have:=LMc19.out;omega);intro v316 w29 ho hb hg hat;rw [← Ny315.out] at ho;have n0_:=am (Bk (g:=gc3_0) (o:=.cells #[.int .i64 a3_0_0,.int .i64 a3_0_1,.slice A3_0_2 l3_0_2.length c3_0_2] 26 (0,0)) (upK BK306) hg (Kd.R_ne HO_310002.out BK306.out (by decide)));have n1_:=am (Bk (upK BK307) hg (Kd.R_ne HO_310002.out BK307.out (by decide)));have n2_:=am (Bk (upK BK308) hg (Kd.R_ne HO_310002.out BK308.out (by decide)));have n3_:=am (Bk (upK BK309) hg (Kd.R_ne HO_310002.out BK309.out (by decide)));have n4_:=am (Bk (upK BK311) hg (Kd.R_away HO_310002.out (fun _ hk=>hk)));have n5_:=am (hb);have n6_:=am (ho);clear BK306;clear BK307;clear BK308;clear BK309;clear BK311;clear HB;clear HO_310002;have BK306:=n0_;have BK307:=n1_;have BK308:=n2_;have BK309:=n3_;have BK311:=n4_;have HB:=n5_;have HO317:=n6_;clear n0_ n1_ n2_ n3_ n4_ n5_ n6_;clear ho hb hg hat;obtain ⟨Ao30,co30,eo30⟩:=Kd.R_slice HO317.out;(first|subst eo30|(injection eo30 with f1_ f2_ f3_;have f4_:=f1_.symm;have f5_:=f3_.symm;clear f1_ f2_ f3_;subst f4_;subst f5_));refine hK.out _ _ ⟨(Ac BK309.out 0).trans rfl,(Ac BK309.out 1).trans rfl,(Ac BK309.out 2).trans rfl,(Ac BK311.out 0).trans rfl,(Ac BK311.out 1).trans rfl,(Ac BK311.out 2).trans rfl⟩ (fun hHeld=>?_);clear hK K;refine nG ?_;refine pG 7 (some 29) (bs 9 255) HT_ ?_;refine Gu (i:=8) (N:=none) (bs 9 511) rfl rfl (Bz HT_.out (by kernel_rfl)) (by decide) (fun K hK=>?_);have hs31:w29.cell? ⟨gb309,2,none⟩=some (u310002):=(Ac BK309.out 2).trans rfl;have hfs31:=Ec BK309.out 2;have hns31_0:=NB306_309.out;have hns31_1:=NB307_309.out;have hns31_2:=NB308_309.out;have hns31_4:=NB311_309.out;have hms31_0:=NB309_306.out;have hms31_1:=NB309_307.out;have hms31_2:=NB309_308.out;have hms31_4:=NB309_311.out;refine Gj (w1:=?_) (by rfl) rfl ?_ ?_;rotate_left
    ·(go_simp);rfl
    refine hK.out _ _ ?_;clear hK K;refine Co (Cj HT_.out (by kernel_rfl)) ?_;(try go_wp2);go_roundg k1;(case measure=>have:=HK1.out;omega);(case rel=>exact ⟨(wrap64 (x18_1+1)),(y315),(.slice Ao30 y315.length co30),(eqw),H',⟨by have:=HK1.out;omega⟩,⟨by (with_reducible repeat (first|apply Kd.R_alloc|apply Kd.R_drewN|apply Kd.R_drew));exact Kd.R_mono (Kd.R_far (p:=⟨gb309,2,none⟩) (Kd.R_types HO317.out BK309.out (by decide)) (fun _ hk=>hk.2) (.slice Ao30 y315.length co30)) (fun _ hk=>trivial)⟩,⟨upF BK306⟩,⟨upF BK307⟩,⟨upF BK308⟩,⟨by (with_reducible repeat (first|refine Cn ?_ _|refine Av ?_|refine Ce ?_ _));refine Kw (cs := #[.int .i64 a1,.int .i64 a2,u310002]) ?_ 2 _ rfl;(with_reducible repeat (first|refine Cn ?_ _|refine Av ?_|refine Ce ?_ _));exact BK309.out⟩,⟨upW HB⟩⟩)
   ·rw [if_neg c15] at H;have c15b0:=decide_eq_false c15;clear c15;obtain ⟨t318,A32,H⟩:=bnd H;(try dsimp only at H);simp only [Option.some.injEq,Prod.mk.injEq] at H;obtain ⟨rfl,rfl,rfl⟩:=H;have hnb33:=NB309_306.out;have hnc33:=NB306_309.out;have hnb34:=NB309_307.out;have hnc34:=NB307_309.out;have hnb35:=NB309_308.out;have hnc35:=NB308_309.out;obtain ⟨hcz36_0,hcz36_1,hcz36_2,hfz36_0,hfz36_1,hfz36_2⟩:=cy3 BK309;obtain ⟨Ao37,co37,eo37⟩:=Kd.R_slice HO_310002.out;subst eo37;(go_wp2_with (first|((first|(with_reducible refine Ah (f:=174) rfl ?_)|refine Db (f:=174) rfl (by rfl) ?_);(first|(refine D9 (some 33) rfl rfl Try.func174 (by kernel_rfl) rfl #[.slice Ao37 x310002_1.length co37,.func (.func 100) #[] #[]] rfl itp ?_)|(refine Et (some 33) rfl rfl Try.func174 (by kernel_rfl) rfl #[.slice Ao37 x310002_1.length co37,.func (.func 100) #[] #[]] rfl (by rfl) E0 ?_));(with_reducible refine (Ax.calls (fun k_=>some k_=(.slice Ao37 x310002_1.length co37:Value).ownBlock) (.slice Ao37 x310002_1.length co37) x310002_1 t318 w _ ?side1 ?side2 A32.out).mono ?_);(case side1=>repeat (first|(with_reducible first|exact HB.out|apply Ct|apply Cq|apply Aw|refine C1 ?_ GE306.out|refine C1 ?_ GE307.out|refine C1 ?_ GE308.out|refine C1 ?_ GE309.out)|exact HB.out));(case side2=>exact Kd.R_tight rfl HO_310002.out);rintro e w38 ⟨rfl,hy0,hb,hkp⟩;refine ⟨_,rfl,?_⟩;replace BK306:=am (Gd (upK BK306) hkp (fun hs_=>(fun e_=>(Kd.R_ne HO_310002.out BK306.out (by decide)) e_) hs_));replace BK307:=am (Gd (upK BK307) hkp (fun hs_=>(fun e_=>(Kd.R_ne HO_310002.out BK307.out (by decide)) e_) hs_));replace BK308:=am (Gd (upK BK308) hkp (fun hs_=>(fun e_=>(Kd.R_ne HO_310002.out BK308.out (by decide)) e_) hs_));replace BK309:=am (Gd (upK BK309) hkp (fun hs_=>(fun e_=>(Kd.R_ne HO_310002.out BK309.out (by decide)) e_) hs_));replace HO_310002:=am (Kd.R_reok rfl hy0 (fun k_ e_=>HO_310002.out.1 k_ e_));replace HB:=am (hb);(try clear hb hkp hy0);obtain ⟨hcz39_0,hcz39_1,hcz39_2,hfz39_0,hfz39_1,hfz39_2⟩:=cy3 BK309;have hnb40:=NB308_306.out;have hnc40:=NB306_308.out;have hnb41:=NB308_307.out;have hnc41:=NB307_308.out;obtain ⟨hcz42_0,hcz42_1,hcz42_2,hfz42_0,hfz42_1,hfz42_2⟩:=cy3 BK308)));refine bodyPost_ret (results_cell_row rfl _ _ gb308 26 #[.int .i64 a1,.int .i64 a2,.slice Ao37 x310002_1.length co37] (0,0) _ rfl (Cr BK308 #[.int .i64 a1,.int .i64 a2,.slice none 0 0] #[.int .i64 a1,.int .i64 0,.slice none 0 0]) Try.underlying26 rfl (by kernel_rfl)) rfl ?_;exact ⟨_,eqv,by (with_reducible repeat (first|apply Kd.R_alloc|apply Kd.R_drewN|apply Kd.R_drew));exact Kd.R_far3 HO_310002 BK308 (.int .i64 a1) (.int .i64 a2) (.slice Ao37 x310002_1.length co37) (fun _ hk=>trivial),upW HB⟩

/-! ### El: function 147 -/
def El.f (k:Nat) (a0_0:Int) (a0_1:Int) (l0_2:List (S61)):Option (Int×Int×(List (S61))):=(Ap.f k a0_0 a0_1 l0_2 a0_1 a0_0 a0_0 a0_1 l0_2).bind fun bt321=>(some (bt321.1,bt321.2.1,bt321.2.2))
set_option maxHeartbeats 8000000 in
set_option maxRecDepth 100000 in
theorem El.calls (k:Nat) (a0_0:Int) (a0_1:Int) (A0_2:Option Addr) (c0_2:Nat) (l0_2:List (S61)) (r1:Int) (r2:Int) (r3:List (S61)) (w:World) (hr0_2:Kd.C k61 w A0_2 l0_2.length l0_2) (hc0_2:l0_2.length≤c0_2) (h:El.f k a0_0 a0_1 l0_2=some (r1,r2,r3)) :
  Calls Try.prog 147 #[.agg #[.int .i64 a0_0,.int .i64 a0_1,.slice A0_2 l0_2.length c0_2]] w fun e w'=>∃ v2_:Value,e=.returned (.agg #[.int .i64 r1,.int .i64 r2,v2_])∧Kd.R k61 61 w' w.heap.size (fun _=>True) v2_ r3∧Below w.heap.size w w':=by
 have hu26:=Try.underlying26;(have hmf:∀ (fn:Fn) (first cap:Array Value) (w:World),(Instr.makeFunc fn first cap).run Try.prog w=.ok (.func fn first cap) w:=fun _ _ _ _=>rfl);have HR0_2:=am hr0_2;have HC0_2:=am hc0_2;clear hr0_2 hc0_2;have HB:=am (Below.refl w.heap.size w);have H:=h;clear h;unfold El.f at H;obtain ⟨⟨t321,t322,t323⟩,A2,H⟩:=bnd H;(try dsimp only at H);simp only [Option.some.injEq,Prod.mk.injEq] at H;obtain ⟨rfl,rfl,rfl⟩:=H;go_enter Try.func147,Try.ntmps147;(go_wp2_with (first|((with_reducible refine Ag (N:=1) rfl ?_);refine Au 1 (#[.int .i64 a0_0,.int .i64 a0_1,.slice A0_2 l0_2.length c0_2]) 26 ?_;intro gb319 hg w3 hbox hb;have BK319:=am (hbox);have GW319:=am (gz hg HB);have GE319:=am (gz hg HB);replace HB:=wb HB hb;clear hb hbox hg)|((with_reducible refine Ag (N:=2) rfl ?_);refine Au 2 (#[.int .i64 0,.int .i64 0,.slice none 0 0]) 26 ?_;intro gb320 hg w4 hbox hb;have BK320:=am (hbox);have GW320:=am (gz hg HB);have GE320:=am (gz hg HB);replace HB:=wb HB hb;have NB319_320:=am (gn hg BK319);have NB320_319:=am ((by rw [hg];exact Nat.ne_of_gt (Ao (upK BK319)):gb320≠gb319));replace BK319:=kb BK319 hb;clear hb hbox hg;have hnb5:=NB319_320.out;have hnc5:=NB320_319.out;obtain ⟨hcz6_0,hcz6_1,hcz6_2,hfz6_0,hfz6_1,hfz6_2⟩:=cy3 BK319)|((with_reducible refine Ah (f:=165) rfl ?_);refine cgo (some 9) Try.func165 (Ap.calls k a0_0 a0_1 _ _ l0_2 a0_1 a0_0 gb319 a0_0 a0_1 A0_2 c0_2 l0_2 t321 t322 t323 _ ?side1 ?side2 ?side3 ?side4 ?side5 A2.out) ?_;(case side1=>exact upC (Kd.C_below HR0_2.out HB.out));(case side2=>exact HC0_2.out);(case side3=>exact upC (Kd.C_below HR0_2.out HB.out));(case side4=>exact HC0_2.out);(case side5=>exact (upK BK319));rintro e w7 ⟨v324,rfl,ho0,hb⟩;refine ⟨_,rfl,?_⟩;have HO325:=am (Kd.R_lower ho0 (Ar (upW HB)));replace BK319:=kb BK319 hb;replace BK320:=kb BK320 hb;replace HB:=wb HB hb;(try clear hb ho0);obtain ⟨hcz8_0,hcz8_1,hcz8_2,hfz8_0,hfz8_1,hfz8_2⟩:=cy3 BK320;obtain ⟨Ao9,co9,eo9⟩:=Kd.R_slice HO325.out;subst eo9)));refine bodyPost_ret (results_cell_row rfl _ _ gb320 26 #[.int .i64 t321,.int .i64 t322,.slice Ao9 t323.length co9] (0,0) _ rfl (Cr BK320 #[.int .i64 t321,.int .i64 t322,.slice none 0 0] #[.int .i64 t321,.int .i64 0,.slice none 0 0]) Try.underlying26 rfl (by kernel_rfl)) rfl ?_;exact ⟨_,eqv,by (with_reducible repeat (first|apply Kd.R_alloc|apply Kd.R_drewN|apply Kd.R_drew));exact Kd.R_far3 HO325 BK320 (.int .i64 t321) (.int .i64 t322) (.slice Ao9 t323.length co9) (fun _ hk=>trivial),upW HB⟩

end Go.Proofs.Yteaomckihokakaa.PFnCutsFillOfAll
