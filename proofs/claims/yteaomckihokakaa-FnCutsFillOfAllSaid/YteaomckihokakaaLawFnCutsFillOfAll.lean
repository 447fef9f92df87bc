-- made for this claim by a program of this session
import Derived.Test.YteaomckihokakaaRows
import Derived.Test.YteaomckihokakaaPFnCutsFillOfAllx22
import Derived.Test.YteaomckihokakaaPureFnCutsFillOfAll
import Derived.Test.YteaomckihokakaaWGuardMoreInvWords
import Derived.KernelRfl
import Derived.WalkKit
import Derived.ProofKit
import Derived.OpenShut
import Derived.ShutString
import Derived.ChangeOld
import Derived.Below
import Derived.SizedLaws
import Derived.Carry
namespace Go.Proofs.Yteaomckihokakaa.fnCutsFillOfAll
open Go.ChangeShapes Go.WideShapes Go.ChangeAt Go.RowKit Go.Proofs.YteaomckihokakaaW.Opens Go.Proofs.YteaomckihokakaaW.PrintWords Go.Proofs.Yteaomckihokakaa.PFnCutsFillOfAll
open Go.ChangeMaps (open_string shut_string)
set_option linter.unusedVariables false
theorem own:ownKnob Try.prog.godebug=none:=by kernel_rfl
theorem laidOut:laidOutB Try.prog=true:=by kernel_rfl
theorem Nh (W:World):Opens Try.prog W k61 (fun x:S61=>((Lit.int .i64 x.f0).wf=true)∧((Lit.int .i64 x.f1).wf=true)∧((Lit.int .i64 x.f2).wf=true)) 61:=by
 intro H enc spare held fuel cs x h
 obtain ⟨x0,x1,x2,rfl⟩:=Ma ((open_len Try.underlying61 h).trans (by kernel_rfl))
 obtain ⟨a0,h0,g0⟩:=Gw Try.underlying61 h 0 _ rfl (o:=0) (n:=1) rfl (by kernel_rfl) (Opens.int Try.underlying3)
 obtain rfl:x0=Value.int .i64 a0:=by injection h0
 obtain ⟨a1,h1,g1⟩:=Gw Try.underlying61 h 1 _ rfl (o:=1) (n:=1) rfl (by kernel_rfl) (Opens.int Try.underlying3)
 obtain rfl:x1=Value.int .i64 a1:=by injection h1
 obtain ⟨a2,h2,g2⟩:=Gw Try.underlying61 h 2 _ rfl (o:=2) (n:=1) rfl (by kernel_rfl) (Opens.int Try.underlying3)
 obtain rfl:x2=Value.int .i64 a2:=by injection h2
 exact ⟨⟨a0,a1,a2⟩,k61_mk W ⟨a0,a1,a2⟩,g0,g1,g2⟩

set_option maxRecDepth 100000 in
theorem Mb {H:Type} {enc:TypeId×Value→H} {W:World} {v:Value} {d:DataW H} {p:List MemPlace} (hval:Value.okWide Try.prog W .any 0 26 v) (h:DataW.Trod enc Try.prog W 0 (fun _=>true) true 26 v d p) :
  ∃ (a0_0:Int) (a0_1:Int) (A0_2:Option Addr) (c0_2:Nat) (l0_2:List (S61)),v=.agg #[.int .i64 a0_0,.int .i64 a0_1,.slice A0_2 l0_2.length c0_2]∧((Lit.int .i64 a0_0).wf=true)∧((Lit.int .i64 a0_1).wf=true)∧l0_2.length≤c0_2∧Kd.C k61 W A0_2 l0_2.length l0_2∧l0_2.length≤maxLen∧(∀ q ∈ l0_2,((Lit.int .i64 q.f0).wf=true)∧((Lit.int .i64 q.f1).wf=true)∧((Lit.int .i64 q.f2).wf=true)):=by
 obtain ⟨cs,rfl,hsz⟩:=WideShapes.okWide_struct Try.underlying26 hval
 obtain ⟨fuel,h⟩:=h
 obtain ⟨x0,x1,x2,hcs⟩:=Ma (show cs.toList.length=3 from (Array.length_toList).trans (hsz.trans (by kernel_rfl)))
 obtain rfl:=arr_of hcs
 replace h:DataW.trod enc Try.prog W 0 (fun _=>true) true fuel 26 [x0,x1,x2]=some (d,p):=h
 obtain ⟨a0_0,h0,g0⟩:=Gw Try.underlying26 h 0 _ rfl (o:=0) (n:=1) rfl (by kernel_rfl) (Opens.int Try.underlying3)
 obtain rfl:x0=Value.int .i64 a0_0:=by injection h0
 obtain ⟨a0_1,h1,g1⟩:=Gw Try.underlying26 h 1 _ rfl (o:=1) (n:=1) rfl (by kernel_rfl) (Opens.int Try.underlying3)
 obtain rfl:x1=Value.int .i64 a0_1:=by injection h1
 obtain ⟨l0_2,⟨A0_2,c0_2,h2,hl2,hr2⟩,hm2,hw2⟩:=Gw Try.underlying26 h 2 _ rfl (o:=2) (n:=1) rfl (by kernel_rfl) (Opens.slice (e':=61) Try.underlying24 (by kernel_rfl) (Nh W))
 obtain rfl:x2=Value.slice A0_2 l0_2.length c0_2:=by injection h2
 exact ⟨a0_0,a0_1,A0_2,c0_2,l0_2,rfl,g0,g1,hl2,hr2,hm2,hw2⟩

set_option maxRecDepth 100000 in
theorem open_P24 {H:Type} {enc:TypeId×Value→H} {W:World} {v:Value} {d:DataW H} {p:List MemPlace} (hval:Value.okWide Try.prog W .any 0 24 v) (h:DataW.Trod enc Try.prog W 0 (fun _=>true) true 24 v d p) :
  ∃ (A0:Option Addr) (c0:Nat) (l0:List (S61)),v=.slice A0 l0.length c0∧l0.length≤c0∧Kd.C k61 W A0 l0.length l0∧l0.length≤maxLen∧(∀ q ∈ l0,((Lit.int .i64 q.f0).wf=true)∧((Lit.int .i64 q.f1).wf=true)∧((Lit.int .i64 q.f2).wf=true)):=by
 obtain ⟨a,len,cap,rfl⟩:=okWide_slice Try.underlying24 hval
 obtain ⟨fuel,h⟩:=h
 obtain ⟨l0,⟨A0,c0,e,hl,hr⟩,hm,hw⟩:=(Opens.slice (e':=61) Try.underlying24 (by kernel_rfl) (Nh W)) _ _ _ _ _ _ _ h
 injection e with e
 exact ⟨A0,c0,l0,e,hl,hr,hm,hw⟩

set_option maxRecDepth 100000 in
theorem lifted (os:Os) (started:os.Started) (H:Type) (enc:TypeId×Value→H) :
  ReturnsInHanded {} Try.checked os 5 .any (Rows.fnCutsFillOfAllSpec.pre6 enc Try.prog Try.f5 Rows.fnCutsFillOfAllRow.domain false) (Rows.fnCutsFillOfAllSpec.post enc Try.prog Try.f5 false true false false):=by
 refine returnsInHanded_of_change_sized (C:=Try.checked) own started (by kernel_rfl) Try.func5
  (ChangeSpec.witness6 (enc:=enc) (C:=Try.checked) false ⟨#[],#[.agg #[.int .i64 0,.int .i64 0,.slice none 0 0],.int .i64 0,.int .i64 0,.slice none 0 0,.int .i64 0,.agg #[.int .i64 0,.int .i64 0,.slice none 0 0],.int .i64 0,.int .i64 0,.agg #[.int .i64 0,.int .i64 0,.slice none 0 0],.int .i64 0],[]⟩ 8 (by kernel_rfl) (by kernel_rfl) (by kernel_rfl) (by kernel_rfl)) ?_
 intro W base args ds gs before hval0 hW hcnd hsz0 _
 have hsz:(DataW.weightsEach Try.prog (Try.f5.params.toList++Rows.fnCutsFillOfAllSpec.plain.varTypes Try.prog) (ds++gs)).all (·≤reachBytes)=true:=hsz0
 have hval:∀ (j:Nat) t v,Try.f5.params[j]? = some t→args[j]? = some v→Value.okWide Try.prog W .any base t v:=hval0
 have hW':=hW
 obtain ⟨p,q,hA0,hV,rfl,hfz,hnd⟩:=hW
 have hA:DataW.TrodAll enc Try.prog W 0 (fun _=>true) true Try.f5.params.toList args.toList ds p:=hA0
 rw [Try.params5] at hA hval hsz
 obtain ⟨v0,vs0,d0,ds0,p0,q0,hargs,rfl,rfl,h0,r0⟩:=trodAll_cons hA
 obtain ⟨v1,vs1,d1,ds1,p1,q1,rfl,rfl,rfl,h1,r1⟩:=trodAll_cons r0
 obtain ⟨v2,vs2,d2,ds2,p2,q2,rfl,rfl,rfl,h2,r2⟩:=trodAll_cons r1
 obtain ⟨v3,vs3,d3,ds3,p3,q3,rfl,rfl,rfl,h3,r3⟩:=trodAll_cons r2
 obtain ⟨v4,vs4,d4,ds4,p4,q4,rfl,rfl,rfl,h4,r4⟩:=trodAll_cons r3
 obtain ⟨v5,vs5,d5,ds5,p5,q5,rfl,rfl,rfl,h5,r5⟩:=trodAll_cons r4
 obtain ⟨v6,vs6,d6,ds6,p6,q6,rfl,rfl,rfl,h6,r6⟩:=trodAll_cons r5
 obtain ⟨v7,vs7,d7,ds7,p7,q7,rfl,rfl,rfl,h7,r7⟩:=trodAll_cons r6
 obtain ⟨v8,vs8,d8,ds8,p8,q8,rfl,rfl,rfl,h8,r8⟩:=trodAll_cons r7
 obtain ⟨v9,vs9,d9,ds9,p9,q9,rfl,rfl,rfl,h9,r9⟩:=trodAll_cons r8
 obtain ⟨rfl,rfl,rfl⟩:=trodAll_nil r9
 obtain rfl:args = #[v0,v1,v2,v3,v4,v5,v6,v7,v8,v9]:=by cases args;simp_all
 obtain ⟨rfl,rfl⟩:=trodVars_none hV
 have k0:=h0
 have lt0:∀ x ∈ p0,x.block<W.heap.size:=by obtain ⟨m,hm⟩:=k0;exact DataW.trod_lt m _ _ _ hm
 obtain ⟨a0_0,a0_1,A0_2,c0_2,l0_2,rfl,wf0_0,wf0_1,hc0_2,hr0_2,wm0_2,wf0_2⟩:=Mb (hval 0 26 v0 rfl rfl) h0
 obtain ⟨a1,rfl,rfl,rfl,wf1⟩:=open_int Try.underlying3 (hval 1 3 v1 rfl rfl) h1
 obtain ⟨a2,rfl,rfl,rfl,wf2⟩:=open_int Try.underlying3 (hval 2 3 v2 rfl rfl) h2
 have k3:=h3
 have lt3:∀ x ∈ p3,x.block<W.heap.size:=by obtain ⟨m,hm⟩:=k3;exact DataW.trod_lt m _ _ _ hm
 obtain ⟨A3,c3,l3,rfl,hc3,hr3,wm3,wf3⟩:=open_P24 (hval 3 24 v3 rfl rfl) h3
 obtain ⟨a4,rfl,rfl,rfl,wf4⟩:=open_int Try.underlying3 (hval 4 3 v4 rfl rfl) h4
 have k5:=h5
 have lt5:∀ x ∈ p5,x.block<W.heap.size:=by obtain ⟨m,hm⟩:=k5;exact DataW.trod_lt m _ _ _ hm
 obtain ⟨a5_0,a5_1,A5_2,c5_2,l5_2,rfl,wf5_0,wf5_1,hc5_2,hr5_2,wm5_2,wf5_2⟩:=Mb (hval 5 26 v5 rfl rfl) h5
 obtain ⟨a6,rfl,rfl,rfl,wf6⟩:=open_int Try.underlying3 (hval 6 3 v6 rfl rfl) h6
 obtain ⟨a7,rfl,rfl,rfl,wf7⟩:=open_int Try.underlying3 (hval 7 3 v7 rfl rfl) h7
 have k8:=h8
 have lt8:∀ x ∈ p8,x.block<W.heap.size:=by obtain ⟨m,hm⟩:=k8;exact DataW.trod_lt m _ _ _ hm
 obtain ⟨a8_0,a8_1,A8_2,c8_2,l8_2,rfl,wf8_0,wf8_1,hc8_2,hr8_2,wm8_2,wf8_2⟩:=Mb (hval 8 26 v8 rfl rfl) h8
 obtain ⟨a9,rfl,rfl,rfl,wf9⟩:=open_int Try.underlying3 (hval 9 3 v9 rfl rfl) h9
 clear hA0 hval0 hsz0 hsz
 refine (PFnCutsFillOfAll.laws_FnCutsFillOfAll.walk Pure.FnCutsFillOfAll a0_0 a0_1 A0_2 c0_2 l0_2 a1 a2 A3 c3 l3 a4 a5_0 a5_1 A5_2 c5_2 l5_2 a6 a7 a8_0 a8_1 A8_2 c8_2 l8_2 a9 W hr0_2 hc0_2 hr3 hc3 hr5_2 hc5_2 hr8_2 hc8_2 wf0_0 wf0_1 wm0_2 wf0_2 wf1 wf2 wm3 wf3 wf4 wf5_0 wf5_1 wm5_2 wf5_2 wf6 wf7 wf8_0 wf8_1 wm8_2 wf8_2 wf9).mono fun e W' ⟨he,bel⟩=>?_
 subst he
 exact ⟨_,rfl,_,_,_,[],_,[],hW',trodAll_mk1 (shut_bool Try.underlying4 _),(trodAll_cons_mk (Below.trod laidOut (by kernel_rfl) (of_decide_eq_true (by kernel_rfl)) k0 bel lt0) (trodAll_cons_mk (shut_int Try.underlying3 wf1) (trodAll_cons_mk (shut_int Try.underlying3 wf2) (trodAll_cons_mk (Below.trod laidOut (by kernel_rfl) (of_decide_eq_true (by kernel_rfl)) k3 bel lt3) (trodAll_cons_mk (shut_int Try.underlying3 wf4) (trodAll_cons_mk (Below.trod laidOut (by kernel_rfl) (of_decide_eq_true (by kernel_rfl)) k5 bel lt5) (trodAll_cons_mk (shut_int Try.underlying3 wf6) (trodAll_cons_mk (shut_int Try.underlying3 wf7) (trodAll_cons_mk (Below.trod laidOut (by kernel_rfl) (of_decide_eq_true (by kernel_rfl)) k8 bel lt8) (trodAll_cons_mk (shut_int Try.underlying3 wf9) trodAll_mk0)))))))))),rfl,bel.frame _,fun h=>by cases h⟩
theorem over:Rows.fnCutsFillOfAllRow.holds Try.pinned (OpenSpec.ofChange Rows.fnCutsFillOfAllSpec) :=
 OpenClaim.holds_of_wide 5 Try.f5 rfl rfl rfl rfl rfl rfl rfl ⟨rfl,rfl,rfl,rfl,rfl⟩ rfl rfl rfl rfl rfl (by kernel_rfl) Try.func5 (by kernel_rfl)
  (of_decide_eq_true (by kernel_rfl)) (by unfold Func.isWrapper;first|(rw [if_pos (by decide +kernel)];kernel_rfl)|(rw [if_neg (by decide +kernel)];exact ⟨rfl,rfl⟩))
  (fun os started H enc _=>lifted os started H enc)
theorem proved:Rows.FnCutsFillOfAllSaid:=over
#print axioms proved
end Go.Proofs.Yteaomckihokakaa.fnCutsFillOfAll
namespace Go.Proofs.Yteaomckihokakaa
/-- The row, under a short name, for the claim. -/
theorem fnCutsFillOfAll_holds:Rows.FnCutsFillOfAllSaid:=fnCutsFillOfAll.proved
end Go.Proofs.Yteaomckihokakaa
