-- PRINTED BY print.sh 35421559b90ae4d0a3588c463048766b98c2df88dd9212a6774a882060cdf62d: not written by this session
import Derived.Test.YtbblppmbpdocdaaProg
import Derived.Below
import Derived.Deep.Draws
import Derived.Deep.AppendLies
import Derived.Maps.AppendAt
import Derived.OwnWalk
import Derived.Laws.BytesArg
import Derived.Laws.MakeOwn
import Derived.Laws.OwnMore
import Derived.Deep.OwnRows
import Derived.Tactics
import Derived.Lib.ConvBytes
import Derived.Laws.Slices
import Derived.WalkKit
import Derived.KernelRfl
import Derived.RowKit3
import Derived.Deep.LoopGhost
import Derived.Deep.QuietTactic
import Derived.BigQuiet
import Derived.WideLaws
import Derived.Deep.DeepCutAuto
import Derived.Deep.CutBlock
import Derived.Deep.RegionHeld3
import Derived.Laws.Rows
import Derived.Lib.AppendStr
import Derived.ArgAppend
import Derived.Laws.IdiomCopy
import Derived.OrdersHeld
import Derived.Laws.BitsLemmas
import Derived.RowKit
import Derived.Test.YtbblppmbpdocdaaWWords
import Derived.Test.YtbblppmbpdocdaaWLast
import Derived.Test.YtbblppmbpdocdaaWTab
import Derived.Test.YtbblppmbpdocdaaWFour
import Derived.Test.YtbblppmbpdocdaaWQPut
import Derived.Test.YtbblppmbpdocdaaWApart
import Derived.Test.YtbblppmbpdocdaaWArr
import Derived.Test.YtbblppmbpdocdaaWZeros
import Derived.Test.YtbblppmbpdocdaaWFoot
import Derived.Test.YtbblppmbpdocdaaWKept
import Derived.Test.YtbblppmbpdocdaaWShare
import Derived.Test.YtbblppmbpdocdaaWN
import Derived.Test.YtbblppmbpdocdaaWFootNe
import Derived.Test.YtbblppmbpdocdaaWAt
import Derived.Test.YtbblppmbpdocdaaWEqStruct
import Derived.Test.YtbblppmbpdocdaaWRepsOne
import Derived.Test.YtbblppmbpdocdaaWInv
import Derived.Test.YtbblppmbpdocdaaWInvWords
import Derived.Test.YtbblppmbpdocdaaWGuard
import Derived.Test.YtbblppmbpdocdaaWNEv
import Derived.Test.YtbblppmbpdocdaaWMore
namespace Go.Proofs.Ytbblppmbpdocdaa.PFnExactBoxOf
open Go.RowKit Go.Proofs.YtbblppmbpdocdaaW.PrintWords Go.Proofs.YtbblppmbpdocdaaW.PrintLast Go.Proofs.YtbblppmbpdocdaaW.PrintMore
attribute [local go_sem] max2_int min2_int max_two min_two max_three min_three max_four min_four   -- for this text's walks alone
set_option linter.unusedVariables false
set_option linter.unusedSimpArgs false



def errW : Option Int → Value
  | none => .nilIface
  | some c => .iface 0 (.int .i64 c)
theorem errW_none : errW none = .nilIface := rfl
theorem errW_some (c : Int) : errW (some c) = .iface 0 (.int .i64 c) := rfl

theorem info3 : (Try.prog.info? 3).map (fun i => (i.zero, i.size, i.bytes)) = some (some (.int .i64 0), 1, 8) := by kernel_rfl
-- the values' own types

end Go.Proofs.Ytbblppmbpdocdaa.PFnExactBoxOf
