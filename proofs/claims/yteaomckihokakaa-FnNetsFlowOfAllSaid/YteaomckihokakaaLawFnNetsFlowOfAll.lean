-- made for this claim by a program of this session
import Derived.Test.YteaomckihokakaaRows
import Derived.Test.YteaomckihokakaaPFnNetsFlowOfAllx23
import Derived.Test.YteaomckihokakaaPureFnNetsFlowOfAll
import Derived.Test.YteaomckihokakaaWGuardMoreInvWords
import Derived.KernelRfl
import Derived.WalkKit
import Derived.ProofKit
import Derived.OpenShut
import Derived.ShutString
import Derived.ChangeOld
import Derived.Below
import Derived.SizedLaws
import Derived.Carry
namespace Go.Proofs.Yteaomckihokakaa.fnNetsFlowOfAll
open Go.ChangeShapes Go.WideShapes Go.ChangeAt Go.RowKit Go.Proofs.YteaomckihokakaaW.Opens Go.Proofs.YteaomckihokakaaW.PrintWords Go.Proofs.Yteaomckihokakaa.PFnNetsFlowOfAll
open Go.ChangeMaps (open_string shut_string)
set_option linter.unusedVariables false
theorem own:ownKnob Try.prog.godebug=none:=by kernel_rfl
theorem laidOut:laidOutB Try.prog=true:=by kernel_rfl
theorem opens_T47 (W:World):Opens Try.prog W k47 (fun x:S47=>((Lit.int .i64 x.f0).wf=true)∧((Lit.int .i64 x.f1).wf=true)) 47:=by
 intro H enc spare held fuel cs x h
 obtain ⟨x0,x1,rfl⟩:=Rx ((Uw Try.underlying47 h).trans (by kernel_rfl))
 obtain ⟨a0,h0,g0⟩:=Ey Try.underlying47 h 0 _ rfl (o:=0) (n:=1) rfl (by kernel_rfl) (Opens.int Try.underlying3)
 obtain rfl:x0=Value.int .i64 a0:=by injection h0
 obtain ⟨a1,h1,g1⟩:=Ey Try.underlying47 h 1 _ rfl (o:=1) (n:=1) rfl (by kernel_rfl) (Opens.int Try.underlying3)
 obtain rfl:x1=Value.int .i64 a1:=by injection h1
 exact ⟨⟨a0,a1⟩,k47_mk W ⟨a0,a1⟩,g0,g1⟩

theorem opens_T61 (W:World):Opens Try.prog W k61 (fun x:S61=>((Lit.int .i64 x.f0).wf=true)∧((Lit.int .i64 x.f1).wf=true)∧((Lit.int .i64 x.f2).wf=true)) 61:=by
 intro H enc spare held fuel cs x h
 obtain ⟨x0,x1,x2,rfl⟩:=Nz ((Uw Try.underlying61 h).trans (by kernel_rfl))
 obtain ⟨a0,h0,g0⟩:=Ey Try.underlying61 h 0 _ rfl (o:=0) (n:=1) rfl (by kernel_rfl) (Opens.int Try.underlying3)
 obtain rfl:x0=Value.int .i64 a0:=by injection h0
 obtain ⟨a1,h1,g1⟩:=Ey Try.underlying61 h 1 _ rfl (o:=1) (n:=1) rfl (by kernel_rfl) (Opens.int Try.underlying3)
 obtain rfl:x1=Value.int .i64 a1:=by injection h1
 obtain ⟨a2,h2,g2⟩:=Ey Try.underlying61 h 2 _ rfl (o:=2) (n:=1) rfl (by kernel_rfl) (Opens.int Try.underlying3)
 obtain rfl:x2=Value.int .i64 a2:=by injection h2
 exact ⟨⟨a0,a1,a2⟩,k61_mk W ⟨a0,a1,a2⟩,g0,g1,g2⟩

set_option maxRecDepth 100000 in
theorem open_P36 {H:Type} {enc:TypeId×Value→H} {W:World} {v:Value} {d:DataW H} {p:List MemPlace} (hval:Value.okWide Try.prog W .any 0 36 v) (h:DataW.Trod enc Try.prog W 0 (fun _=>true) true 36 v d p) :
  ∃ (a0_0:Int) (A0_1:Option Addr) (c0_1:Nat) (l0_1:List (S47)),v=.agg #[.int .i64 a0_0,.slice A0_1 l0_1.length c0_1]∧((Lit.int .i64 a0_0).wf=true)∧l0_1.length≤c0_1∧Kd.C k47 W A0_1 l0_1.length l0_1∧l0_1.length≤maxLen∧(∀ q ∈ l0_1,((Lit.int .i64 q.f0).wf=true)∧((Lit.int .i64 q.f1).wf=true)):=by
 obtain ⟨cs,rfl,hsz⟩:=WideShapes.okWide_struct Try.underlying36 hval
 obtain ⟨fuel,h⟩:=h
 obtain ⟨x0,x1,hcs⟩:=Rx (show cs.toList.length=2 from (Array.length_toList).trans (hsz.trans (by kernel_rfl)))
 obtain rfl:=arr_of hcs
 replace h:DataW.trod enc Try.prog W 0 (fun _=>true) true fuel 36 [x0,x1]=some (d,p):=h
 obtain ⟨a0_0,h0,g0⟩:=Ey Try.underlying36 h 0 _ rfl (o:=0) (n:=1) rfl (by kernel_rfl) (Opens.int Try.underlying3)
 obtain rfl:x0=Value.int .i64 a0_0:=by injection h0
 obtain ⟨l0_1,⟨A0_1,c0_1,h1,hl1,hr1⟩,hm1,hw1⟩:=Ey Try.underlying36 h 1 _ rfl (o:=1) (n:=1) rfl (by kernel_rfl) (Opens.slice (e':=47) Try.underlying34 (by kernel_rfl) (opens_T47 W))
 obtain rfl:x1=Value.slice A0_1 l0_1.length c0_1:=by injection h1
 exact ⟨a0_0,A0_1,c0_1,l0_1,rfl,g0,hl1,hr1,hm1,hw1⟩

set_option maxRecDepth 100000 in
theorem open_P26 {H:Type} {enc:TypeId×Value→H} {W:World} {v:Value} {d:DataW H} {p:List MemPlace} (hval:Value.okWide Try.prog W .any 0 26 v) (h:DataW.Trod enc Try.prog W 0 (fun _=>true) true 26 v d p) :
  ∃ (a0_0:Int) (a0_1:Int) (A0_2:Option Addr) (c0_2:Nat) (l0_2:List (S61)),v=.agg #[.int .i64 a0_0,.int .i64 a0_1,.slice A0_2 l0_2.length c0_2]∧((Lit.int .i64 a0_0).wf=true)∧((Lit.int .i64 a0_1).wf=true)∧l0_2.length≤c0_2∧Kd.C k61 W A0_2 l0_2.length l0_2∧l0_2.length≤maxLen∧(∀ q ∈ l0_2,((Lit.int .i64 q.f0).wf=true)∧((Lit.int .i64 q.f1).wf=true)∧((Lit.int .i64 q.f2).wf=true)):=by
 obtain ⟨cs,rfl,hsz⟩:=WideShapes.okWide_struct Try.underlying26 hval
 obtain ⟨fuel,h⟩:=h
 obtain ⟨x0,x1,x2,hcs⟩:=Nz (show cs.toList.length=3 from (Array.length_toList).trans (hsz.trans (by kernel_rfl)))
 obtain rfl:=arr_of hcs
 replace h:DataW.trod enc Try.prog W 0 (fun _=>true) true fuel 26 [x0,x1,x2]=some (d,p):=h
 obtain ⟨a0_0,h0,g0⟩:=Ey Try.underlying26 h 0 _ rfl (o:=0) (n:=1) rfl (by kernel_rfl) (Opens.int Try.underlying3)
 obtain rfl:x0=Value.int .i64 a0_0:=by injection h0
 obtain ⟨a0_1,h1,g1⟩:=Ey Try.underlying26 h 1 _ rfl (o:=1) (n:=1) rfl (by kernel_rfl) (Opens.int Try.underlying3)
 obtain rfl:x1=Value.int .i64 a0_1:=by injection h1
 obtain ⟨l0_2,⟨A0_2,c0_2,h2,hl2,hr2⟩,hm2,hw2⟩:=Ey Try.underlying26 h 2 _ rfl (o:=2) (n:=1) rfl (by kernel_rfl) (Opens.slice (e':=61) Try.underlying24 (by kernel_rfl) (opens_T61 W))
 obtain rfl:x2=Value.slice A0_2 l0_2.length c0_2:=by injection h2
 exact ⟨a0_0,a0_1,A0_2,c0_2,l0_2,rfl,g0,g1,hl2,hr2,hm2,hw2⟩

set_option maxRecDepth 100000 in
theorem lifted (os:Os) (started:os.Started) (H:Type) (enc:TypeId×Value→H) :
  ReturnsInHanded {} Try.checked os 4 .any (Rows.fnNetsFlowOfAllSpec.pre6 enc Try.prog Try.f4 Rows.fnNetsFlowOfAllRow.domain false) (Rows.fnNetsFlowOfAllSpec.post enc Try.prog Try.f4 false true false false):=by
 refine returnsInHanded_of_change_sized (C:=Try.checked) own started (by kernel_rfl) Try.func4
  (ChangeSpec.witness6 (enc:=enc) (C:=Try.checked) false ⟨#[],#[.agg #[.int .i64 0,.slice none 0 0],.agg #[.int .i64 0,.int .i64 0,.slice none 0 0]],[]⟩ 8 (by kernel_rfl) (by kernel_rfl) (by kernel_rfl) (by kernel_rfl)) ?_
 intro W base args ds gs before hval0 hW hcnd hsz0 _
 have hsz:(DataW.weightsEach Try.prog (Try.f4.params.toList++Rows.fnNetsFlowOfAllSpec.plain.varTypes Try.prog) (ds++gs)).all (·≤reachBytes)=true:=hsz0
 have hval:∀ (j:Nat) t v,Try.f4.params[j]? = some t→args[j]? = some v→Value.okWide Try.prog W .any base t v:=hval0
 have hW':=hW
 obtain ⟨p,q,hA0,hV,rfl,hfz,hnd⟩:=hW
 have hA:DataW.TrodAll enc Try.prog W 0 (fun _=>true) true Try.f4.params.toList args.toList ds p:=hA0
 rw [Try.params4] at hA hval hsz
 obtain ⟨v0,vs0,d0,ds0,p0,q0,hargs,rfl,rfl,h0,r0⟩:=trodAll_cons hA
 obtain ⟨v1,vs1,d1,ds1,p1,q1,rfl,rfl,rfl,h1,r1⟩:=trodAll_cons r0
 obtain ⟨rfl,rfl,rfl⟩:=trodAll_nil r1
 obtain rfl:args = #[v0,v1]:=by cases args;simp_all
 obtain ⟨rfl,rfl⟩:=trodVars_none hV
 have k0:=h0
 have lt0:∀ x ∈ p0,x.block<W.heap.size:=by obtain ⟨m,hm⟩:=k0;exact DataW.trod_lt m _ _ _ hm
 obtain ⟨a0_0,A0_1,c0_1,l0_1,rfl,wf0_0,hc0_1,hr0_1,wm0_1,wf0_1⟩:=open_P36 (hval 0 36 v0 rfl rfl) h0
 have k1:=h1
 have lt1:∀ x ∈ p1,x.block<W.heap.size:=by obtain ⟨m,hm⟩:=k1;exact DataW.trod_lt m _ _ _ hm
 obtain ⟨a1_0,a1_1,A1_2,c1_2,l1_2,rfl,wf1_0,wf1_1,hc1_2,hr1_2,wm1_2,wf1_2⟩:=open_P26 (hval 1 26 v1 rfl rfl) h1
 clear hA0 hval0 hsz0 hsz
 refine (PFnNetsFlowOfAll.laws_FnNetsFlowOfAll.walk Pure.FnNetsFlowOfAll a0_0 A0_1 c0_1 l0_1 a1_0 a1_1 A1_2 c1_2 l1_2 W hr0_1 hc0_1 hr1_2 hc1_2 wf0_0 wm0_1 wf0_1 wf1_0 wf1_1 wm1_2 wf1_2).mono fun e W' ⟨he,bel⟩=>?_
 subst he
 exact ⟨_,rfl,_,_,_,[],_,[],hW',trodAll_mk1 (shut_bool Try.underlying4 _),(trodAll_cons_mk (Below.trod laidOut (by kernel_rfl) (of_decide_eq_true (by kernel_rfl)) k0 bel lt0) (trodAll_cons_mk (Below.trod laidOut (by kernel_rfl) (of_decide_eq_true (by kernel_rfl)) k1 bel lt1) trodAll_mk0)),rfl,bel.frame _,fun h=>by cases h⟩
theorem over:Rows.fnNetsFlowOfAllRow.holds Try.pinned (OpenSpec.ofChange Rows.fnNetsFlowOfAllSpec) :=
 OpenClaim.holds_of_wide 4 Try.f4 rfl rfl rfl rfl rfl rfl rfl ⟨rfl,rfl,rfl,rfl,rfl⟩ rfl rfl rfl rfl rfl (by kernel_rfl) Try.func4 (by kernel_rfl)
  (of_decide_eq_true (by kernel_rfl)) (by unfold Func.isWrapper;first|(rw [if_pos (by decide +kernel)];kernel_rfl)|(rw [if_neg (by decide +kernel)];exact ⟨rfl,rfl⟩))
  (fun os started H enc _=>lifted os started H enc)
theorem proved:Rows.FnNetsFlowOfAllSaid:=over
#print axioms proved
end Go.Proofs.Yteaomckihokakaa.fnNetsFlowOfAll
namespace Go.Proofs.Yteaomckihokakaa
/-- The row, under a short name, for the claim. -/
theorem fnNetsFlowOfAll_holds:Rows.FnNetsFlowOfAllSaid:=fnNetsFlowOfAll.proved
end Go.Proofs.Yteaomckihokakaa
