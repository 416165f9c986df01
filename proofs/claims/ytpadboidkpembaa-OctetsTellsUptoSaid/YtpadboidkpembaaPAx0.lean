-- Written by a program of this session (wip/tools/mkprint.py, mp.sh) for this claim.
import Derived.Test.YtpadboidkpembaaProg
import Derived.Test.YtpadboidkpembaaOpen
import Derived.Test.YtpadboidkpembaaSkip
import Derived.Below
import Derived.Deep.Draws
import Derived.Deep.AppendLies
import Derived.Maps.AppendAt
import Derived.OwnWalk
import Derived.Laws.BytesArg
import Derived.Laws.MakeOwn
import Derived.Laws.OwnMore
import Derived.Deep.OwnRows
import Derived.Tactics
import Derived.Lib.ConvBytes
import Derived.Laws.Slices
import Derived.WalkKit
import Derived.KernelRfl
import Derived.RowKit3
import Derived.Deep.LoopGhost
import Derived.Deep.QuietTactic
import Derived.BigQuiet
import Derived.WideLaws
import Derived.Deep.DeepCutAuto
import Derived.Deep.CutBlock
import Derived.Deep.RegionHeld3
import Derived.Laws.Rows
import Derived.Lib.AppendStr
import Derived.ArgAppend
import Derived.Laws.IdiomCopy
import Derived.OrdersHeld
import Derived.Laws.BitsLemmas
import Derived.RowKit
import Derived.Test.YtpadboidkpembaaHandD
import Derived.Test.YtpadboidkpembaaHandP
import Derived.Test.YtpadboidkpembaaWWords
import Derived.Test.YtpadboidkpembaaWLast
import Derived.Test.YtpadboidkpembaaWTab
import Derived.Test.YtpadboidkpembaaWQPut
import Derived.Test.YtpadboidkpembaaWApart
import Derived.Test.YtpadboidkpembaaWArr
import Derived.Test.YtpadboidkpembaaWZeros
import Derived.Test.YtpadboidkpembaaWFoot
import Derived.Test.YtpadboidkpembaaWKept
import Derived.Test.YtpadboidkpembaaWShare
import Derived.Test.YtpadboidkpembaaWN
import Derived.Test.YtpadboidkpembaaWRepsOne
import Derived.Test.YtpadboidkpembaaWGuard
import Derived.Test.YtpadboidkpembaaWNEv
import Derived.Test.YtpadboidkpembaaWMore
namespace Go.Proofs.Ytpadboidkpembaa.PA
open Go.RowKit Go.Proofs.YtpadboidkpembaaW.PrintWords Go.Proofs.YtpadboidkpembaaW.PrintLast Go.Proofs.YtpadboidkpembaaW.PrintMore
attribute [local go_sem] max2_int min2_int max_two min_two max_three min_three max_four min_four   -- for this text's walks alone
set_option linter.unusedVariables false
set_option linter.unusedSimpArgs false



def errW : Option Int → Value
  | none => .nilIface
  | some c => .iface 0 (.int .i64 c)
theorem errW_none : errW none = .nilIface := rfl
theorem errW_some (c : Int) : errW (some c) = .iface 0 (.int .i64 c) := rfl

theorem info5 : (Try.prog.info? 5).map (fun i => (i.zero, i.size, i.bytes)) = some (some (.int .u8 0), 1, 1) := by kernel_rfl
-- the values' own types


end Go.Proofs.Ytpadboidkpembaa.PA
