-- Laid for this claim by wip/tools/print2.sh, a changed copy of the kit's print (wip/tools/patch_print.py): not by print.sh.
import Derived.Test.YthphbkkkbolcnaaGreatDoorPFnModelsx0
import Derived.Test.YthphbkkkbolcnaaGreatDoorVFnModels
namespace Go.Proofs.YthphbkkkbolcnaaGreatDoor.PFnModels
open Go.RowKit Go.Proofs.YthphbkkkbolcnaaGreatDoorW.PrintWords Go.Proofs.YthphbkkkbolcnaaGreatDoorW.PrintLast Go.Proofs.YthphbkkkbolcnaaGreatDoorW.PrintMore
set_option linter.unusedVariables false
set_option linter.unusedSimpArgs false

theorem eqA25 (d : Nat) (w : World) (x0 y0 : Int) (x1 y1 : Int) (x2 y2 : Int) :
  (Op.equalIn (d + 2) 25 (.agg #[.int .i64 x0, .int .i64 x1, .int .i64 x2]) (.agg #[.int .i64 y0, .int .i64 y1, .int .i64 y2])).run Tryz.prog w = .ok (x0 == y0 && (x1 == y1 && (x2 == y2))) w := by
 refine eqA_of Tryz.underlying25 (by kernel_rfl) ?_
 refine eqf_cons (by rfl) (by go_simp; rfl) (by go_simp; rfl) (by go_simp) ?_
 refine eqf_cons (by rfl) (by go_simp; rfl) (by go_simp; rfl) (by go_simp) ?_
 exact eqf_last (by rfl) (by go_simp; rfl) (by go_simp; rfl) (by go_simp)
end Go.Proofs.YthphbkkkbolcnaaGreatDoor.PFnModels
