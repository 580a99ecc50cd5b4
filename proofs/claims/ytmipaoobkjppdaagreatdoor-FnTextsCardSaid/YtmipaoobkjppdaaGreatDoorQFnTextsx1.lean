import Derived.Test.YtmipaoobkjppdaaGreatDoorQFnTextsx0
namespace Go.Proofs.YtmipaoobkjppdaaGreatDoor.QFnTexts
open Go.RowKit Go.Proofs.YtmipaoobkjppdaaGreatDoorW 
open PrintWords PrintLast PrintMore
attribute [local go_sem] dq dr dT dU cT cU dt du
set_option linter.unusedVariables false
set_option linter.unusedSimpArgs false
theorem eqA35 (d:Nat) (w:World) (x0 y0:Int) (x1 y1:Int) (x2 y2:Int) (x3 y3:Int) (x4 y4:Int) (x5 y5:ByteArray) :
  (Op.equalIn (d+2) 35 (.agg #[.int .i64 x0,.int .i64 x1,.int .i64 x2,.int .i64 x3,.int .i64 x4,.string x5]) (.agg #[.int .i64 y0,.int .i64 y1,.int .i64 y2,.int .i64 y3,.int .i64 y4,.string y5])).run Tryz.prog w=.ok (x0==y0&&(x1==y1&&(x2==y2&&(x3==y3&&(x4==y4&&(x5.toList==y5.toList)))))) w:=by
 refine eqA_of Tryz.underlying35 (by kernel_rfl) ?_;refine jg (by rfl) (by go_simp;rfl) (by go_simp;rfl) (by go_simp) ?_;refine jg (by rfl) (by go_simp;rfl) (by go_simp;rfl) (by go_simp) ?_;refine jg (by rfl) (by go_simp;rfl) (by go_simp;rfl) (by go_simp) ?_;refine jg (by rfl) (by go_simp;rfl) (by go_simp;rfl) (by go_simp) ?_;refine jg (by rfl) (by go_simp;rfl) (by go_simp;rfl) (by go_simp) ?_;exact rz (by rfl) (by go_simp;rfl) (by go_simp;rfl) (by go_simp)
end Go.Proofs.YtmipaoobkjppdaaGreatDoor.QFnTexts
