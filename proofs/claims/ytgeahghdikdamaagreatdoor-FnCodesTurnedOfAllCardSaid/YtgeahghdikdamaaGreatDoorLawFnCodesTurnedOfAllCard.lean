-- made for this claim by a program of this session
import Derived.Test.YtgeahghdikdamaaGreatDoorCards
import Derived.Test.YtgeahghdikdamaaGreatDoorTie
import Derived.Handy
import Derived.Lay
import Derived.Stop.LaidErr
import Derived.Lib.LaidTab
import Derived.HandedShaped
import Derived.Handed
import Derived.Shelf.Vars
import Derived.SevenTiedAt
import Derived.Test.YtgeahghdikdamaaGreatDoorPFnCodesTurnedOfAllx24
import Derived.Test.YtgeahghdikdamaaGreatDoorPureFnCodesTurnedOfAll
import Derived.Test.YtgeahghdikdamaaGreatDoorWGuardMoreInvWords
import Derived.KernelRfl
import Derived.WalkKit
import Derived.ProofKit
import Derived.OpenShut
import Derived.ShutString
import Derived.ChangeOld
import Derived.Below
import Derived.SizedLaws
import Derived.Carry
namespace Go.Proofs.YtgeahghdikdamaaGreatDoor.fnCodesTurnedOfAll
open Go.ChangeShapes Go.WideShapes Go.ChangeAt Go.RowKit Go.Proofs.YtgeahghdikdamaaGreatDoorW.Opens Go.Proofs.YtgeahghdikdamaaGreatDoorW.PrintWords Go.Proofs.YtgeahghdikdamaaGreatDoor.PFnCodesTurnedOfAll
open Go.ChangeMaps (open_string shut_string)
set_option linter.unusedVariables false
theorem own:ownKnob Tryz.prog.godebug=none:=by kernel_rfl
theorem laidOut:laidOutB Tryz.prog=true:=by kernel_rfl
set_option maxRecDepth 100000 in
theorem M6 {H:Type} {enc:TypeId×Value→H} {W:World} {v:Value} {d:DataW H} {p:List MemPlace} (hval:Value.okWide Tryz.prog W .any 0 22 v) (h:DataW.Trod enc Tryz.prog W 0 (fun _=>true) true 22 v d p) :
  ∃ (A0:Option Addr) (c0:Nat) (l0:List (List Int)),v=.slice A0 l0.length c0∧l0.length≤c0∧Kd.C (Kd.slice 3 (Kd.int .i64)) W A0 l0.length l0∧l0.length≤maxLen∧(∀ q ∈ l0,q.length≤maxLen∧∀ q0 ∈ q,(Lit.int .i64 q0).wf=true):=by
 obtain ⟨a,len,cap,rfl⟩:=okWide_slice Tryz.underlying22 hval
 obtain ⟨fuel,h⟩:=h
 obtain ⟨l0,⟨A0,c0,e,hl,hr⟩,hm,hw⟩:=(Opens.slice (e':=34) Tryz.underlying22 (by kernel_rfl) (Opens.slice (e':=3) Tryz.underlying34 (by kernel_rfl) (Opens.int Tryz.underlying3))) _ _ _ _ _ _ _ h
 injection e with e
 exact ⟨A0,c0,l0,e,hl,hr,hm,hw⟩

theorem tab1 {W:World} (h:laidMetH Tryz.prog Rows.fnCodesTurnedOfAllRow.laid W):Lib.TabIs Tryz.prog W ("internal/strconv.uint64pow10") .u64 Lib.pow10Tab:=by
 rw [MakeChecks.laidMetH_plain _ _ _ (by kernel_rfl)] at h
 have h2:=(laidMet.tail (laidMet.tail h))
 have e:(Rows.laid_internal_strconv_uint64pow10:DataW Unit)=Lib.tabData .u64 Lib.pow10Tab:=by kernel_rfl
 exact Lib.tabIs_of_head (g:=5) (t:=163) (e:=129) (n:=20) (by kernel_rfl) (by kernel_rfl) Tryz.underlying163 Tryz.underlying129 (by kernel_rfl) (by kernel_rfl) (e ▸ h2)
theorem star:("*" ++ "errors.errorString" : String) = "*errors.errorString" := by decide
theorem rowP (u:TypeId) (h:Tryz.prog.typeName? 3 u=some "*errors.errorString"):u=159 :=
 typeName_ptr_named (nm:=(("errors.errorString"))) (by rw [star];kernel_rfl) (by kernel_rfl) (by decide) u (by rw [star];exact h)
theorem tab2 {W:World} (h:laidMetH Tryz.prog Rows.fnCodesTurnedOfAllRow.laid W):(∃ t p,W.var? Tryz.prog "strconv.ErrSyntax" = some #[.iface t p])∧∃ t p,W.var? Tryz.prog "strconv.ErrRange" = some #[.iface t p]:=by
 rw [MakeChecks.laidMetH_plain _ _ _ (by kernel_rfl)] at h
 have h1:=(laidMet.tail (laidMet.tail (laidMet.tail (laidMet.tail (laidMet.tail h)))))
 have h2:=(laidMet.tail (laidMet.tail (laidMet.tail (laidMet.tail h))))
 obtain ⟨a0,s0,hv0,_⟩:=laid_sentinel h1 (g:=1) (ti:=75) (te:=161) (ts:=9) (by kernel_rfl) (by kernel_rfl) Tryz.underlying75 rowP Tryz.underlying159 Tryz.underlying161 rfl rfl Tryz.underlying9 (by kernel_rfl) (by kernel_rfl)
 obtain ⟨a1,s1,hv1,_⟩:=laid_sentinel h2 (g:=2) (ti:=75) (te:=161) (ts:=9) (by kernel_rfl) (by kernel_rfl) Tryz.underlying75 rowP Tryz.underlying159 Tryz.underlying161 rfl rfl Tryz.underlying9 (by kernel_rfl) (by kernel_rfl)
 exact ⟨⟨_,_,hv0⟩,⟨_,_,hv1⟩⟩
theorem tab_of {W:World} (h:laidMetH Tryz.prog Rows.fnCodesTurnedOfAllRow.laid W) (hs:W.ShapedOpen Tryz.prog):PFnCodesTurnedOfAll.VT W :=
 ⟨tab1 h,(tab2 h).1,(tab2 h).2,cell_of_shapedOpen_int (g:=0) (t:=3) (zero := #[.int .i64 0]) hs (of_decide_eq_true (by kernel_rfl)) (by kernel_rfl) rfl (by kernel_rfl) (by kernel_rfl) Tryz.underlying3⟩
/-- the closing of a card that asks something of the world besides the form (X) and reads a library's own variable (ShapedOpen) -/
theorem both {H : Type} {enc : TypeId × Value → H} {a : Assume} {C : Checked} {os : Os} {f : FuncId} {fn : Func} {s : ChangeSpec} {conds : List PathCond} {apart fresh handsOn again : Bool} {X : World → Array Value → Prop}
    (hX:∀ (w w':World) (args:Array Value),w.heap=w'.heap→X w args→X w' args)
    (own:ownKnob C.prog.godebug=none) (started:os.Started) (noInit:C.prog.inits.idxOf? f=none) (hfn:C.prog.funcs[f]? = some fn)
    (witness:∃ (w:World) (tape:Tape) (i:Input),w.os=os∧(w.forCall tape i).Shaped C.prog∧i.vars=[]∧Input.okWide C.prog (w.forCall tape i) .any w.heap.size f i ∧
      ((s.pre enc C.prog fn conds apart (w.forCall tape i).memory i.args∧X (w.forCall tape i).memory i.args)∧sizedMet enc C.prog fn (OpenSpec.ofChange s) apart (w.forCall tape i).memory i.args)∧a.holds C.prog (lone (Frame.enter C.prog f i.args .normal) [] (w.forCall tape i)))
    (law:∀ (W:World) (base:Nat) (args:Array Value) (ds gs:List (DataW H)) (before:List MemPlace),
      (∀ (j:Nat) t v,fn.params[j]? = some t→args[j]? = some v→Value.okWide C.prog W .any base t v) →
      DataW.Whole enc C.prog fn.params.toList s.vars apart W args.toList ds gs before →
      conds.all (PathCond.test C.prog ⟨fn.params.toList,ds,s.plain.varTypes C.prog,gs⟩)=true →
      (DataW.weightsEach C.prog (fn.params.toList++s.plain.varTypes C.prog) (ds++gs)).all (·≤reachBytes)=true→X W args →
      W.ShapedOpen C.prog →
      a.holds C.prog (lone (Frame.enter C.prog f args .normal) [] W) →
      Calls C.prog f args W fun e W'=>∃ v,e=.returned v∧s.post enc C.prog fn apart fresh handsOn again W args v W') :
    ReturnsInHanded a C os f .any (fun w args=>(s.pre enc C.prog fn conds apart w args∧X w args)∧sizedMet enc C.prog fn (OpenSpec.ofChange s) apart w args) (s.post enc C.prog fn apart fresh handsOn again):=by
  apply returnsInHanded_of_calls own started noInit witness
  intro w tape i _ shaped _ ok pre holds
  obtain ⟨_,_,_,fn',e',_,_,_,_,okv⟩:=ok
  have e:fn'=fn:=Option.some.inj (e'.symm.trans hfn)
  subst e
  obtain ⟨⟨⟨ds,gs,before,whole,cs⟩,x⟩,sized⟩:=pre
  have there:=DataW.Whole.of_heap (w':=w.forCall tape i) (by rfl) whole
  have c:=law (w.forCall tape i) w.heap.size i.args ds gs before okv there cs (sized.weights whole) (hX _ _ _ (by rfl) x) shaped holds
  exact c.mono fun e W' ⟨v,he,hp⟩=>by subst he;exact ChangeSpec.post_blind hp
set_option maxRecDepth 100000 in
theorem lifted (os:Os) (started:os.Started) (H:Type) (enc:TypeId×Value→H) :
  ReturnsInHanded {} Tryz.checked os 3 .any (fun w args=>(Rows.fnCodesTurnedOfAllSpec.pre enc Tryz.prog Tryz.f3 [] false w args∧laidMetH Tryz.prog Rows.fnCodesTurnedOfAllRow.laid w)∧sizedMet enc Tryz.prog Tryz.f3 (OpenSpec.ofChange Rows.fnCodesTurnedOfAllSpec) false w args) (Rows.fnCodesTurnedOfAllSpec.post enc Tryz.prog Tryz.f3 false true false false):=by
 refine both (C:=Tryz.checked) (X:=fun w _=>laidMetH Tryz.prog Rows.fnCodesTurnedOfAllRow.laid w) (fun _ _ _ hh h=>h.of_heap hh) own started (by kernel_rfl) Tryz.func3
  (ChangeSpec.witness_shaped (enc:=enc) (C:=Tryz.checked) (os:=os) (X:=fun w _=>laidMetH Tryz.prog Rows.fnCodesTurnedOfAllRow.laid w) false (World.laidAll Tryz.prog os Rows.fnCodesTurnedOfAllRow.laid) #[.slice none 0 0,.slice none 0 0,.int .i64 0,.slice none 0 0,.slice none 0 0,.string ByteArray.empty] 8 (World.laidAll_os _ _ _)
   (World.shaped_of_ZipB (by kernel_rfl) (by kernel_rfl)) (by kernel_rfl) (by kernel_rfl) (by kernel_rfl)
   (by rw [MakeChecks.laidMetH_plain _ _ _ (by kernel_rfl)];exact laidMet_laidAll _ (by kernel_rfl) (by kernel_rfl))) ?_
 intro W base args ds gs before hval0 hW hcnd hsz0 hL hS_ _
 have hsz:(DataW.weightsEach Tryz.prog (Tryz.f3.params.toList++Rows.fnCodesTurnedOfAllSpec.plain.varTypes Tryz.prog) (ds++gs)).all (·≤reachBytes)=true:=hsz0
 have hval:∀ (j:Nat) t v,Tryz.f3.params[j]? = some t→args[j]? = some v→Value.okWide Tryz.prog W .any base t v:=hval0
 have hW':=hW
 obtain ⟨p,q,hA0,hV,rfl,hfz,hnd⟩:=hW
 have hA:DataW.TrodAll enc Tryz.prog W 0 (fun _=>true) true Tryz.f3.params.toList args.toList ds p:=hA0
 rw [Tryz.params3] at hA hval hsz
 obtain ⟨v0,vs0,d0,ds0,p0,q0,hargs,rfl,rfl,h0,r0⟩:=trodAll_cons hA
 obtain ⟨v1,vs1,d1,ds1,p1,q1,rfl,rfl,rfl,h1,r1⟩:=trodAll_cons r0
 obtain ⟨v2,vs2,d2,ds2,p2,q2,rfl,rfl,rfl,h2,r2⟩:=trodAll_cons r1
 obtain ⟨v3,vs3,d3,ds3,p3,q3,rfl,rfl,rfl,h3,r3⟩:=trodAll_cons r2
 obtain ⟨v4,vs4,d4,ds4,p4,q4,rfl,rfl,rfl,h4,r4⟩:=trodAll_cons r3
 obtain ⟨v5,vs5,d5,ds5,p5,q5,rfl,rfl,rfl,h5,r5⟩:=trodAll_cons r4
 obtain ⟨rfl,rfl,rfl⟩:=trodAll_nil r5
 obtain rfl:args = #[v0,v1,v2,v3,v4,v5]:=by cases args;simp_all
 obtain ⟨rfl,rfl⟩:=trodVars_none hV
 have k0:=h0
 have lt0:∀ x ∈ p0,x.block<W.heap.size:=by obtain ⟨m,hm⟩:=k0;exact DataW.trod_lt m _ _ _ hm
 obtain ⟨A0,c0,l0,rfl,hc0,hr0,wm0,wf0⟩:=M6 (hval 0 22 v0 rfl rfl) h0
 have k1:=h1
 have lt1:∀ x ∈ p1,x.block<W.heap.size:=by obtain ⟨m,hm⟩:=k1;exact DataW.trod_lt m _ _ _ hm
 obtain ⟨A1,c1,l1,rfl,hc1,hr1,wm1,wf1⟩:=M6 (hval 1 22 v1 rfl rfl) h1
 obtain ⟨a2,rfl,rfl,rfl,wf2⟩:=open_int Tryz.underlying3 (hval 2 3 v2 rfl rfl) h2
 have k3:=h3
 have lt3:∀ x ∈ p3,x.block<W.heap.size:=by obtain ⟨m,hm⟩:=k3;exact DataW.trod_lt m _ _ _ hm
 obtain ⟨A3,c3,l3,rfl,hc3,hr3,wm3,wf3⟩:=M6 (hval 3 22 v3 rfl rfl) h3
 have k4:=h4
 have lt4:∀ x ∈ p4,x.block<W.heap.size:=by obtain ⟨m,hm⟩:=k4;exact DataW.trod_lt m _ _ _ hm
 obtain ⟨A4,c4,l4,rfl,hc4,hr4,wm4,wf4⟩:=M6 (hval 4 22 v4 rfl rfl) h4
 obtain ⟨a5,rfl,rfl,rfl,y5⟩:=open_string Tryz.underlying9 (hval 5 9 v5 rfl rfl) h5
 have wf5:a5.size≤140737488351232:=by
  have z:=sized_string hsz (j:=5) (t:=9) rfl rfl
  rw [Array.length_toList] at z
  exact z
 clear hA0 hval0 hsz0 hsz
 refine (PFnCodesTurnedOfAll.laws_FnCodesTurnedOfAll.walk Pure.FnCodesTurnedOfAll (fun _=>True) A0 c0 l0 A1 c1 l1 a2 A3 c3 l3 A4 c4 l4 a5 W hr0 hc0 hr1 hc1 hr3 hc3 hr4 hc4 wm0 wf0 wm1 wf1 wf2 wm3 wf3 wm4 wf4 wf5 ⟨tab_of hL hS_⟩).mono fun e W' ⟨he,bel⟩=>?_
 subst he
 exact ⟨_,rfl,_,_,_,[],_,[],hW',trodAll_mk1 (shut_bool Tryz.underlying4 _),(trodAll_cons_mk (Below.trod laidOut (by kernel_rfl) (of_decide_eq_true (by kernel_rfl)) k0 bel lt0) (trodAll_cons_mk (Below.trod laidOut (by kernel_rfl) (of_decide_eq_true (by kernel_rfl)) k1 bel lt1) (trodAll_cons_mk (shut_int Tryz.underlying3 wf2) (trodAll_cons_mk (Below.trod laidOut (by kernel_rfl) (of_decide_eq_true (by kernel_rfl)) k3 bel lt3) (trodAll_cons_mk (Below.trod laidOut (by kernel_rfl) (of_decide_eq_true (by kernel_rfl)) k4 bel lt4) (trodAll_cons_mk (shut_string Tryz.underlying9 y5) trodAll_mk0)))))),rfl,bel.frame _,fun h=>by cases h⟩
theorem over:Rows.fnCodesTurnedOfAllRow.holds Tryz.pinned (OpenSpec.ofChange Rows.fnCodesTurnedOfAllSpec) :=
 OpenClaim.holds_of_wide 3 Tryz.f3 rfl rfl rfl rfl rfl rfl rfl ⟨rfl,rfl,rfl,rfl,rfl⟩ rfl rfl rfl rfl rfl (by kernel_rfl) Tryz.func3 (by kernel_rfl)
  (of_decide_eq_true (by kernel_rfl)) (by unfold Func.isWrapper;first|(rw [if_pos (by decide +kernel)];kernel_rfl)|(rw [if_neg (by decide +kernel)];exact ⟨rfl,rfl⟩))
  (fun os started H enc _=>lifted os started H enc)
theorem proved:Rows.FnCodesTurnedOfAllCardSaid :=
 Claim7.holds_tied_plain_at .later [] [.data,.data,.data,.data,.sentinel,.sentinel,.pinned] true (true, "333bea8e85980bdebc1f391b29ff97029e761c673c97460e2b1a398ba6d931be") true over (fun _ h=>by cases h) (by kernel_rfl) (fun _ h=>by cases h) fnCodesTurnedOfAll_row_tie rfl ⟨rfl,rfl⟩ (by kernel_rfl) rfl
  (fun f fn hf hfn=>by
   obtain rfl:f=3:=Option.some.inj ((show Tryz.prog.funcNamed Rows.fnCodesTurnedOfAllRow.func=some 3 by kernel_rfl).symm.trans hf) |>.symm
   obtain rfl:fn=Tryz.f3:=(Option.some.inj (Tryz.func3.symm.trans hfn)).symm
   exact ⟨by kernel_rfl,fun j t ht=>by
    rw [Tryz.params3] at ht
    have hm:t ∈ [22,3,9]:=by (have h_:=Array.mem_of_getElem? ht);simp at h_ ⊢;rcases h_ with h|h|h|h <;> simp [h]
    have hall:([22,3,9].all fun u => !Tryz.prog.wantsStandIn u)=true:=by kernel_rfl
    exact (show Tryz.prog.wantsStandIn t=false by simpa using List.all_eq_true.1 hall t hm)⟩)
  (by kernel_rfl)
#print axioms proved
end Go.Proofs.YtgeahghdikdamaaGreatDoor.fnCodesTurnedOfAll
namespace Go.Proofs.YtgeahghdikdamaaGreatDoor
/-- The card, under a short name, for the claim. -/
theorem fnCodesTurnedOfAllCard_holds:Rows.FnCodesTurnedOfAllCardSaid:=fnCodesTurnedOfAll.proved
end Go.Proofs.YtgeahghdikdamaaGreatDoor
