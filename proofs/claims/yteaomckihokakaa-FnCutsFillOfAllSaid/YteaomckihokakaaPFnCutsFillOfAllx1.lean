-- made for this claim by a program of this session
import Derived.Test.YteaomckihokakaaPFnCutsFillOfAllx0
namespace Go.Proofs.Yteaomckihokakaa.PFnCutsFillOfAll
open Go.RowKit Go.Proofs.YteaomckihokakaaW.PrintWords Go.Proofs.YteaomckihokakaaW.PrintLast Go.Proofs.YteaomckihokakaaW.PrintMore
attribute [local go_sem] C7 C8 Dp Dq Cx Cy C9 Da -- for this text's walks alone
set_option linter.unusedVariables false
set_option linter.unusedSimpArgs false

theorem eqA61 (d:Nat) (w:World) (x0 y0:Int) (x1 y1:Int) (x2 y2:Int) :
  (Op.equalIn (d+2) 61 (.agg #[.int .i64 x0,.int .i64 x1,.int .i64 x2]) (.agg #[.int .i64 y0,.int .i64 y1,.int .i64 y2])).run Try.prog w=.ok (x0==y0&&(x1==y1&&(x2==y2))) w:=by
 refine eqA_of Try.underlying61 (by kernel_rfl) ?_;refine Qw (by rfl) (by go_simp;rfl) (by go_simp;rfl) (by go_simp) ?_;refine Qw (by rfl) (by go_simp;rfl) (by go_simp;rfl) (by go_simp) ?_;exact eqf_last (by rfl) (by go_simp;rfl) (by go_simp;rfl) (by go_simp)
end Go.Proofs.Yteaomckihokakaa.PFnCutsFillOfAll
