-- Written by this session's own program (xprint.py) over the kit's print.py: functions, contracts and rows of the laws of one seat.
import Derived.Test.YtppfobgmbjjdhaaProg
import Derived.Below
import Derived.Deep.Draws
import Derived.Deep.AppendLies
import Derived.Maps.AppendAt
import Derived.OwnWalk
import Derived.Laws.BytesArg
import Derived.Laws.MakeOwn
import Derived.Laws.OwnMore
import Derived.Deep.OwnRows
import Derived.Tactics
import Derived.Lib.ConvBytes
import Derived.Laws.Slices
import Derived.WalkKit
import Derived.KernelRfl
import Derived.RowKit3
import Derived.Deep.LoopGhost
import Derived.Deep.QuietTactic
import Derived.BigQuiet
import Derived.WideLaws
import Derived.Deep.DeepCutAuto
import Derived.Deep.CutBlock
import Derived.Deep.RegionHeld3
import Derived.Laws.Rows
import Derived.Lib.AppendStr
import Derived.ArgAppend
import Derived.Laws.IdiomCopy
import Derived.OrdersHeld
import Derived.Laws.BitsLemmas
import Derived.RowKit
import Derived.Test.YtppfobgmbjjdhaaWWords
import Derived.Test.YtppfobgmbjjdhaaWLast
import Derived.Test.YtppfobgmbjjdhaaWTab
import Derived.Test.YtppfobgmbjjdhaaWFour
import Derived.Test.YtppfobgmbjjdhaaWQPut
import Derived.Test.YtppfobgmbjjdhaaWApart
import Derived.Test.YtppfobgmbjjdhaaWArr
import Derived.Test.YtppfobgmbjjdhaaWZeros
import Derived.Test.YtppfobgmbjjdhaaWFoot
import Derived.Test.YtppfobgmbjjdhaaWKept
import Derived.Test.YtppfobgmbjjdhaaWShare
import Derived.Test.YtppfobgmbjjdhaaWN
import Derived.Test.YtppfobgmbjjdhaaWFootNe
import Derived.Test.YtppfobgmbjjdhaaWAt
import Derived.Test.YtppfobgmbjjdhaaWEqStruct
import Derived.Test.YtppfobgmbjjdhaaWRepsOne
import Derived.Test.YtppfobgmbjjdhaaWInv
import Derived.Test.YtppfobgmbjjdhaaWInvWords
import Derived.Test.YtppfobgmbjjdhaaWGuard
import Derived.Test.YtppfobgmbjjdhaaWNEv
import Derived.Test.YtppfobgmbjjdhaaWMore
namespace Go.Proofs.Ytppfobgmbjjdhaa.Xy
open Go.RowKit Go.Proofs.YtppfobgmbjjdhaaW.PrintWords Go.Proofs.YtppfobgmbjjdhaaW.PrintLast Go.Proofs.YtppfobgmbjjdhaaW.PrintMore
attribute [local go_sem] max2_int min2_int max_two min_two max_three min_three max_four min_four   -- for this text's walks alone
set_option linter.unusedVariables false
set_option linter.unusedSimpArgs false



def errW : Option Int → Value
  | none => .nilIface
  | some c => .iface 0 (.int .i64 c)
theorem errW_none : errW none = .nilIface := rfl
theorem errW_some (c : Int) : errW (some c) = .iface 0 (.int .i64 c) := rfl

theorem info3 : (Try.prog.info? 3).map (fun i => (i.zero, i.size, i.bytes)) = some (some (.int .i64 0), 1, 8) := by kernel_rfl
theorem info5 : (Try.prog.info? 5).map (fun i => (i.zero, i.size, i.bytes)) = some (some (.int .u8 0), 1, 1) := by kernel_rfl
-- the values' own types

end Go.Proofs.Ytppfobgmbjjdhaa.Xy
