-- made for this claim by a program of this session
import Derived.Test.YtgeahghdikdamaaGreatPFnCodesToldOfAllx0
namespace Go.Proofs.YtgeahghdikdamaaGreat.PFnCodesToldOfAll
open Go.RowKit Go.Proofs.YtgeahghdikdamaaGreatW.PrintWords Go.Proofs.YtgeahghdikdamaaGreatW.PrintLast Go.Proofs.YtgeahghdikdamaaGreatW.PrintMore
attribute [local go_sem] Dn Do D2 D3 Da Db Dp Dq -- for this text's walks alone
set_option linter.unusedVariables false
set_option linter.unusedSimpArgs false

theorem eqA50 (d:Nat) (w:World) (x0 y0:Int) (x1 y1:Int) (x2 y2:Int) :
  (Op.equalIn (d+2) 50 (.agg #[.int .i64 x0,.int .i64 x1,.int .i64 x2]) (.agg #[.int .i64 y0,.int .i64 y1,.int .i64 y2])).run Tryz.prog w=.ok (x0==y0&&(x1==y1&&(x2==y2))) w:=by
 refine eqA_of Tryz.underlying50 (by kernel_rfl) ?_;refine Ub (by rfl) (by go_simp;rfl) (by go_simp;rfl) (by go_simp) ?_;refine Ub (by rfl) (by go_simp;rfl) (by go_simp;rfl) (by go_simp) ?_;exact eqf_last (by rfl) (by go_simp;rfl) (by go_simp;rfl) (by go_simp)
end Go.Proofs.YtgeahghdikdamaaGreat.PFnCodesToldOfAll
