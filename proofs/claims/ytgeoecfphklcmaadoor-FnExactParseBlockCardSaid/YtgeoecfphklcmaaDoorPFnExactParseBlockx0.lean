-- Laid for this claim by wip/tools/print2.sh, a changed copy of the kit's print (wip/tools/patch_print.py): not by print.sh.
import Derived.Test.YtgeoecfphklcmaaDoorProg
import Derived.Test.YtgeoecfphklcmaaDoorShelf
import Derived.Below
import Derived.Deep.Draws
import Derived.Deep.AppendLies
import Derived.Maps.AppendAt
import Derived.OwnWalk
import Derived.Laws.BytesArg
import Derived.Laws.MakeOwn
import Derived.Laws.OwnMore
import Derived.Deep.OwnRows
import Derived.Tactics
import Derived.Lib.ConvBytes
import Derived.Laws.Slices
import Derived.WalkKit
import Derived.KernelRfl
import Derived.RowKit3
import Derived.Deep.LoopGhost
import Derived.Deep.QuietTactic
import Derived.BigQuiet
import Derived.WideLaws
import Derived.Deep.DeepCutAuto
import Derived.Deep.CutBlock
import Derived.Deep.RegionHeld3
import Derived.Laws.Rows
import Derived.Lib.AppendStr
import Derived.ArgAppend
import Derived.Laws.IdiomCopy
import Derived.OrdersHeld
import Derived.Laws.BitsLemmas
import Derived.RowKit
import Derived.Test.YtgeoecfphklcmaaDoorWWords
import Derived.Test.YtgeoecfphklcmaaDoorWLast
import Derived.Test.YtgeoecfphklcmaaDoorWTab
import Derived.Test.YtgeoecfphklcmaaDoorWFour
import Derived.Test.YtgeoecfphklcmaaDoorWQPut
import Derived.Test.YtgeoecfphklcmaaDoorWApart
import Derived.Test.YtgeoecfphklcmaaDoorWArr
import Derived.Test.YtgeoecfphklcmaaDoorWZeros
import Derived.Test.YtgeoecfphklcmaaDoorWFoot
import Derived.Test.YtgeoecfphklcmaaDoorWKept
import Derived.Test.YtgeoecfphklcmaaDoorWShare
import Derived.Test.YtgeoecfphklcmaaDoorWN
import Derived.Test.YtgeoecfphklcmaaDoorWFootNe
import Derived.Test.YtgeoecfphklcmaaDoorWAt
import Derived.Test.YtgeoecfphklcmaaDoorWEqStruct
import Derived.Test.YtgeoecfphklcmaaDoorWRepsOne
import Derived.Test.YtgeoecfphklcmaaDoorWInv
import Derived.Test.YtgeoecfphklcmaaDoorWInvWords
import Derived.Test.YtgeoecfphklcmaaDoorWGuard
import Derived.Test.YtgeoecfphklcmaaDoorWNEv
import Derived.Test.YtgeoecfphklcmaaDoorWMore
import Derived.Test.YtgeoecfphklcmaaDoorWShort
namespace Go.Proofs.YtgeoecfphklcmaaDoor.PFnExactParseBlock
open Go.RowKit Go.Proofs.YtgeoecfphklcmaaDoorW.PrintWords Go.Proofs.YtgeoecfphklcmaaDoorW.PrintLast Go.Proofs.YtgeoecfphklcmaaDoorW.PrintMore
attribute [local go_sem] max2_int min2_int max_two min_two max_three min_three max_four min_four   -- for this text's walks alone
set_option linter.unusedVariables false
set_option linter.unusedSimpArgs false



def errW : Option Int → Value
 | none => .nilIface
 | some c => .iface 0 (.int .i64 c)
theorem errW_none : errW none = .nilIface := rfl
theorem errW_some (c : Int) : errW (some c) = .iface 0 (.int .i64 c) := rfl

theorem info9 : (Tryd.prog.info? 9).map (fun i => (i.zero, i.size, i.bytes)) = some (some (.string ⟨#[]⟩), 1, 16) := by kernel_rfl
-- the values' own types

end Go.Proofs.YtgeoecfphklcmaaDoor.PFnExactParseBlock
