-- Written by a program of this session (wip/tools/mkprint.py, mp.sh) for this claim.
import Derived.Test.YtjhggbanonfbgaaProg
import Derived.Test.YtjhggbanonfbgaaOpen
import Derived.Below
import Derived.Deep.Draws
import Derived.Deep.AppendLies
import Derived.Maps.AppendAt
import Derived.OwnWalk
import Derived.Laws.BytesArg
import Derived.Laws.MakeOwn
import Derived.Laws.OwnMore
import Derived.Deep.OwnRows
import Derived.Tactics
import Derived.Lib.ConvBytes
import Derived.Laws.Slices
import Derived.WalkKit
import Derived.KernelRfl
import Derived.RowKit3
import Derived.Deep.LoopGhost
import Derived.Deep.QuietTactic
import Derived.BigQuiet
import Derived.WideLaws
import Derived.Deep.DeepCutAuto
import Derived.Deep.CutBlock
import Derived.Deep.RegionHeld3
import Derived.Laws.Rows
import Derived.Lib.AppendStr
import Derived.ArgAppend
import Derived.Laws.IdiomCopy
import Derived.OrdersHeld
import Derived.Laws.BitsLemmas
import Derived.RowKit
import Derived.Test.YtjhggbanonfbgaaWWords
import Derived.Test.YtjhggbanonfbgaaWLast
import Derived.Test.YtjhggbanonfbgaaWTab
import Derived.Test.YtjhggbanonfbgaaWFour
import Derived.Test.YtjhggbanonfbgaaWQPut
import Derived.Test.YtjhggbanonfbgaaWApart
import Derived.Test.YtjhggbanonfbgaaWArr
import Derived.Test.YtjhggbanonfbgaaWZeros
import Derived.Test.YtjhggbanonfbgaaWFoot
import Derived.Test.YtjhggbanonfbgaaWKept
import Derived.Test.YtjhggbanonfbgaaWShare
import Derived.Test.YtjhggbanonfbgaaWN
import Derived.Test.YtjhggbanonfbgaaWFootNe
import Derived.Test.YtjhggbanonfbgaaWAt
import Derived.Test.YtjhggbanonfbgaaWEqStruct
import Derived.Test.YtjhggbanonfbgaaWRepsOne
import Derived.Test.YtjhggbanonfbgaaWInv
import Derived.Test.YtjhggbanonfbgaaWInvWords
import Derived.Test.YtjhggbanonfbgaaWGuard
import Derived.Test.YtjhggbanonfbgaaWNEv
import Derived.Test.YtjhggbanonfbgaaWMore
namespace Go.Proofs.Ytjhggbanonfbgaa.PK
open Go.RowKit Go.Proofs.YtjhggbanonfbgaaW.PrintWords Go.Proofs.YtjhggbanonfbgaaW.PrintLast Go.Proofs.YtjhggbanonfbgaaW.PrintMore
attribute [local go_sem] max2_int min2_int max_two min_two max_three min_three max_four min_four   -- for this text's walks alone
set_option linter.unusedVariables false
set_option linter.unusedSimpArgs false



def errW : Option Int → Value
  | none => .nilIface
  | some c => .iface 0 (.int .i64 c)
theorem errW_none : errW none = .nilIface := rfl
theorem errW_some (c : Int) : errW (some c) = .iface 0 (.int .i64 c) := rfl

-- the values' own types


end Go.Proofs.Ytjhggbanonfbgaa.PK
