-- made for this claim by a program of this session
import Derived.Test.YtgeahghdikdamaaGreatRows
import Derived.Test.YtgeahghdikdamaaGreatPFnCodesToldOfAllx24
import Derived.Test.YtgeahghdikdamaaGreatPureFnCodesToldOfAll
import Derived.Test.YtgeahghdikdamaaGreatWGuardMoreInvWords
import Derived.KernelRfl
import Derived.WalkKit
import Derived.ProofKit
import Derived.OpenShut
import Derived.ShutString
import Derived.ChangeOld
import Derived.Below
import Derived.SizedLaws
import Derived.Carry
namespace Go.Proofs.YtgeahghdikdamaaGreat.fnCodesToldOfAll
open Go.ChangeShapes Go.WideShapes Go.ChangeAt Go.RowKit Go.Proofs.YtgeahghdikdamaaGreatW.Opens Go.Proofs.YtgeahghdikdamaaGreatW.PrintWords Go.Proofs.YtgeahghdikdamaaGreat.PFnCodesToldOfAll
open Go.ChangeMaps (open_string shut_string)
set_option linter.unusedVariables false
theorem own:ownKnob Tryz.prog.godebug=none:=by kernel_rfl
theorem laidOut:laidOutB Tryz.prog=true:=by kernel_rfl
theorem opens_T50 (W:World):Opens Tryz.prog W k50 (fun x:S50=>((Lit.int .i64 x.f0).wf=true)∧((Lit.int .i64 x.f1).wf=true)∧((Lit.int .i64 x.f2).wf=true)) 50:=by
 intro H enc spare held fuel cs x h
 obtain ⟨x0,x1,x2,rfl⟩:=Np ((open_len Tryz.underlying50 h).trans (by kernel_rfl))
 obtain ⟨a0,h0,g0⟩:=I6 Tryz.underlying50 h 0 _ rfl (o:=0) (n:=1) rfl (by kernel_rfl) (Opens.int Tryz.underlying3)
 obtain rfl:x0=Value.int .i64 a0:=by injection h0
 obtain ⟨a1,h1,g1⟩:=I6 Tryz.underlying50 h 1 _ rfl (o:=1) (n:=1) rfl (by kernel_rfl) (Opens.int Tryz.underlying3)
 obtain rfl:x1=Value.int .i64 a1:=by injection h1
 obtain ⟨a2,h2,g2⟩:=I6 Tryz.underlying50 h 2 _ rfl (o:=2) (n:=1) rfl (by kernel_rfl) (Opens.int Tryz.underlying3)
 obtain rfl:x2=Value.int .i64 a2:=by injection h2
 exact ⟨⟨a0,a1,a2⟩,k50_mk W ⟨a0,a1,a2⟩,g0,g1,g2⟩

set_option maxRecDepth 100000 in
theorem Re {H:Type} {enc:TypeId×Value→H} {W:World} {v:Value} {d:DataW H} {p:List MemPlace} (hval:Value.okWide Tryz.prog W .any 0 24 v) (h:DataW.Trod enc Tryz.prog W 0 (fun _=>true) true 24 v d p) :
  ∃ (a2:Int) (a3:Int) (a1:Option Addr) (a4:Nat) (a0:List (S50)),v=.agg #[.int .i64 a2,.int .i64 a3,.slice a1 a0.length a4]∧((Lit.int .i64 a2).wf=true)∧((Lit.int .i64 a3).wf=true)∧a0.length≤a4∧Kd.C k50 W a1 a0.length a0∧a0.length≤maxLen∧(∀ q ∈ a0,((Lit.int .i64 q.f0).wf=true)∧((Lit.int .i64 q.f1).wf=true)∧((Lit.int .i64 q.f2).wf=true)):=by
 obtain ⟨cs,rfl,hsz⟩:=WideShapes.okWide_struct Tryz.underlying24 hval
 obtain ⟨fuel,h⟩:=h
 obtain ⟨x0,x1,x2,hcs⟩:=Np (show cs.toList.length=3 from (Array.length_toList).trans (hsz.trans (by kernel_rfl)))
 obtain rfl:=arr_of hcs
 replace h:DataW.trod enc Tryz.prog W 0 (fun _=>true) true fuel 24 [x0,x1,x2]=some (d,p):=h
 obtain ⟨a2,h0,g0⟩:=I6 Tryz.underlying24 h 0 _ rfl (o:=0) (n:=1) rfl (by kernel_rfl) (Opens.int Tryz.underlying3)
 obtain rfl:x0=Value.int .i64 a2:=by injection h0
 obtain ⟨a3,h1,g1⟩:=I6 Tryz.underlying24 h 1 _ rfl (o:=1) (n:=1) rfl (by kernel_rfl) (Opens.int Tryz.underlying3)
 obtain rfl:x1=Value.int .i64 a3:=by injection h1
 obtain ⟨a0,⟨a1,a4,h2,a5,a7⟩,a6,a8⟩:=I6 Tryz.underlying24 h 2 _ rfl (o:=2) (n:=1) rfl (by kernel_rfl) (Opens.slice (e':=50) Tryz.underlying22 (by kernel_rfl) (opens_T50 W))
 obtain rfl:x2=Value.slice a1 a0.length a4:=by injection h2
 exact ⟨a2,a3,a1,a4,a0,rfl,g0,g1,a5,a7,a6,a8⟩

set_option maxRecDepth 100000 in
theorem open_P25 {H:Type} {enc:TypeId×Value→H} {W:World} {v:Value} {d:DataW H} {p:List MemPlace} (hval:Value.okWide Tryz.prog W .any 0 25 v) (h:DataW.Trod enc Tryz.prog W 0 (fun _=>true) true 25 v d p) :
  ∃ (A0:Option Addr) (c0:Nat) (l0:List (List Int)),v=.slice A0 l0.length c0∧l0.length≤c0∧Kd.C (Kd.slice 3 (Kd.int .i64)) W A0 l0.length l0∧l0.length≤maxLen∧(∀ q ∈ l0,q.length≤maxLen∧∀ q0 ∈ q,(Lit.int .i64 q0).wf=true):=by
 obtain ⟨a,len,cap,rfl⟩:=okWide_slice Tryz.underlying25 hval
 obtain ⟨fuel,h⟩:=h
 obtain ⟨l0,⟨A0,c0,e,hl,hr⟩,hm,hw⟩:=(Opens.slice (e':=26) Tryz.underlying25 (by kernel_rfl) (Opens.slice (e':=3) Tryz.underlying26 (by kernel_rfl) (Opens.int Tryz.underlying3))) _ _ _ _ _ _ _ h
 injection e with e
 exact ⟨A0,c0,l0,e,hl,hr,hm,hw⟩

set_option maxRecDepth 100000 in
theorem open_P26 {H:Type} {enc:TypeId×Value→H} {W:World} {v:Value} {d:DataW H} {p:List MemPlace} (hval:Value.okWide Tryz.prog W .any 0 26 v) (h:DataW.Trod enc Tryz.prog W 0 (fun _=>true) true 26 v d p) :
  ∃ (A0:Option Addr) (c0:Nat) (l0:List Int),v=.slice A0 l0.length c0∧l0.length≤c0∧Kd.C (Kd.int .i64) W A0 l0.length l0∧l0.length≤maxLen∧(∀ q ∈ l0,(Lit.int .i64 q).wf=true):=by
 obtain ⟨a,len,cap,rfl⟩:=okWide_slice Tryz.underlying26 hval
 obtain ⟨fuel,h⟩:=h
 obtain ⟨l0,⟨A0,c0,e,hl,hr⟩,hm,hw⟩:=(Opens.slice (e':=3) Tryz.underlying26 (by kernel_rfl) (Opens.int Tryz.underlying3)) _ _ _ _ _ _ _ h
 injection e with e
 exact ⟨A0,c0,l0,e,hl,hr,hm,hw⟩

set_option maxRecDepth 100000 in
theorem lifted (os:Os) (started:os.Started) (H:Type) (enc:TypeId×Value→H) :
  ReturnsInHanded {} Tryz.checked os 3 .any (Rows.fnCodesToldOfAllSpec.pre6 enc Tryz.prog Tryz.f3 Rows.fnCodesToldOfAllRow.domain false) (Rows.fnCodesToldOfAllSpec.post enc Tryz.prog Tryz.f3 false true false false):=by
 refine returnsInHanded_of_change_sized (C:=Tryz.checked) own started (by kernel_rfl) Tryz.func3
  (ChangeSpec.witness6 (enc:=enc) (C:=Tryz.checked) false ⟨#[],#[.agg #[.int .i64 0,.int .i64 0,.slice none 0 0],.slice none 0 0,.int .i64 0,.slice none 0 0,.agg #[.int .i64 0,.int .i64 0,.slice none 0 0],.int .i64 0],[]⟩ 8 (by kernel_rfl) (by kernel_rfl) (by kernel_rfl) (by kernel_rfl)) ?_
 intro W base args ds gs before a3 hW hcnd a1 _
 have hsz:(DataW.weightsEach Tryz.prog (Tryz.f3.params.toList++Rows.fnCodesToldOfAllSpec.plain.varTypes Tryz.prog) (ds++gs)).all (·≤reachBytes)=true:=a1
 have hval:∀ (j:Nat) t v,Tryz.f3.params[j]? = some t→args[j]? = some v→Value.okWide Tryz.prog W .any base t v:=a3
 have hW':=hW
 obtain ⟨p,q,a0,hV,rfl,hfz,hnd⟩:=hW
 have hA:DataW.TrodAll enc Tryz.prog W 0 (fun _=>true) true Tryz.f3.params.toList args.toList ds p:=a0
 rw [Tryz.params3] at hA hval hsz
 obtain ⟨v0,h9,d0,g7,p0,q0,hargs,rfl,rfl,h0,r0⟩:=trodAll_cons hA
 obtain ⟨v1,i0,d1,g8,p1,q1,rfl,rfl,rfl,h1,r1⟩:=trodAll_cons r0
 obtain ⟨v2,i1,d2,g9,p2,q2,rfl,rfl,rfl,h2,r2⟩:=trodAll_cons r1
 obtain ⟨v3,i2,d3,h6,p3,q3,rfl,rfl,rfl,h3,r3⟩:=trodAll_cons r2
 obtain ⟨v4,i3,d4,h7,p4,q4,rfl,rfl,rfl,h4,r4⟩:=trodAll_cons r3
 obtain ⟨v5,i4,d5,h8,p5,q5,rfl,rfl,rfl,h5,r5⟩:=trodAll_cons r4
 obtain ⟨rfl,rfl,rfl⟩:=trodAll_nil r5
 obtain rfl:args = #[v0,v1,v2,v3,v4,v5]:=by cases args;simp_all
 obtain ⟨rfl,rfl⟩:=trodVars_none hV
 have k0:=h0
 have f0:∀ x ∈ p0,x.block<W.heap.size:=by obtain ⟨m,hm⟩:=k0;exact DataW.trod_lt m _ _ _ hm
 obtain ⟨a9,b0,a7,b3,d8,rfl,f5,f6,b5,b9,g3,f7⟩:=Re (hval 0 24 v0 rfl rfl) h0
 have k1:=h1
 have f1:∀ x ∈ p1,x.block<W.heap.size:=by obtain ⟨m,hm⟩:=k1;exact DataW.trod_lt m _ _ _ hm
 obtain ⟨A1,c1,l1,rfl,b6,c0,g4,f8⟩:=open_P25 (hval 1 25 v1 rfl rfl) h1
 obtain ⟨a2,rfl,rfl,rfl,a4⟩:=open_int Tryz.underlying3 (hval 2 3 v2 rfl rfl) h2
 have k3:=h3
 have f2:∀ x ∈ p3,x.block<W.heap.size:=by obtain ⟨m,hm⟩:=k3;exact DataW.trod_lt m _ _ _ hm
 obtain ⟨A3,c3,l3,rfl,b7,d6,g5,f9⟩:=open_P26 (hval 3 26 v3 rfl rfl) h3
 have k4:=h4
 have f4:∀ x ∈ p4,x.block<W.heap.size:=by obtain ⟨m,hm⟩:=k4;exact DataW.trod_lt m _ _ _ hm
 obtain ⟨b1,b2,a8,b4,d9,rfl,g0,g1,b8,d7,g6,g2⟩:=Re (hval 4 24 v4 rfl rfl) h4
 obtain ⟨a5,rfl,rfl,rfl,a6⟩:=open_int Tryz.underlying3 (hval 5 3 v5 rfl rfl) h5
 clear a0 a3 a1 hsz
 refine (PFnCodesToldOfAll.laws_FnCodesToldOfAll.walk Pure.FnCodesToldOfAll a9 b0 a7 b3 d8 A1 c1 l1 a2 A3 c3 l3 b1 b2 a8 b4 d9 a5 W b9 b5 c0 b6 d6 b7 d7 b8 f5 f6 g3 f7 g4 f8 a4 g5 f9 g0 g1 g6 g2 a6).mono fun e W' ⟨he,bel⟩=>?_
 subst he
 exact ⟨_,rfl,_,_,_,[],_,[],hW',trodAll_mk1 (shut_bool Tryz.underlying4 _),(trodAll_cons_mk (Below.trod laidOut (by kernel_rfl) (of_decide_eq_true (by kernel_rfl)) k0 bel f0) (trodAll_cons_mk (Below.trod laidOut (by kernel_rfl) (of_decide_eq_true (by kernel_rfl)) k1 bel f1) (trodAll_cons_mk (shut_int Tryz.underlying3 a4) (trodAll_cons_mk (Below.trod laidOut (by kernel_rfl) (of_decide_eq_true (by kernel_rfl)) k3 bel f2) (trodAll_cons_mk (Below.trod laidOut (by kernel_rfl) (of_decide_eq_true (by kernel_rfl)) k4 bel f4) (trodAll_cons_mk (shut_int Tryz.underlying3 a6) trodAll_mk0)))))),rfl,bel.frame _,fun h=>by cases h⟩
theorem over:Rows.fnCodesToldOfAllRow.holds Tryz.pinned (OpenSpec.ofChange Rows.fnCodesToldOfAllSpec) :=
 OpenClaim.holds_of_wide 3 Tryz.f3 rfl rfl rfl rfl rfl rfl rfl ⟨rfl,rfl,rfl,rfl,rfl⟩ rfl rfl rfl rfl rfl (by kernel_rfl) Tryz.func3 (by kernel_rfl)
  (of_decide_eq_true (by kernel_rfl)) (by unfold Func.isWrapper;first|(rw [if_pos (by decide +kernel)];kernel_rfl)|(rw [if_neg (by decide +kernel)];exact ⟨rfl,rfl⟩))
  (fun os started H enc _=>lifted os started H enc)
theorem proved:Rows.FnCodesToldOfAllSaid:=over
#print axioms proved
end Go.Proofs.YtgeahghdikdamaaGreat.fnCodesToldOfAll
namespace Go.Proofs.YtgeahghdikdamaaGreat
/-- The row, under a short name, for the claim. -/
theorem fnCodesToldOfAll_holds:Rows.FnCodesToldOfAllSaid:=fnCodesToldOfAll.proved
end Go.Proofs.YtgeahghdikdamaaGreat
