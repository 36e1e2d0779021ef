/- Contracts of the program's functions, and a law's row over its pure statement: written by this session's own program (wip/pr-patch.py over a copy of the kit's print). -/
import Derived.Test.YthoeidcpemfmlaaProg
import Derived.Test.YthoeidcpemfmlaaMine
import Derived.Below
import Derived.Deep.Draws
import Derived.Deep.AppendLies
import Derived.Maps.AppendAt
import Derived.OwnWalk
import Derived.Laws.BytesArg
import Derived.Laws.MakeOwn
import Derived.Laws.OwnMore
import Derived.Deep.OwnRows
import Derived.Tactics
import Derived.Lib.ConvBytes
import Derived.Laws.Slices
import Derived.WalkKit
import Derived.KernelRfl
import Derived.RowKit3
import Derived.Deep.LoopGhost
import Derived.Deep.QuietTactic
import Derived.BigQuiet
import Derived.WideLaws
import Derived.Deep.DeepCutAuto
import Derived.Deep.CutBlock
import Derived.Deep.RegionHeld3
import Derived.Laws.Rows
import Derived.Lib.AppendStr
import Derived.ArgAppend
import Derived.Laws.IdiomCopy
import Derived.OrdersHeld
import Derived.Laws.BitsLemmas
import Derived.RowKit
import Derived.Test.YthoeidcpemfmlaaInjB
import Derived.Test.YthoeidcpemfmlaaWWords
import Derived.Test.YthoeidcpemfmlaaWLast
import Derived.Test.YthoeidcpemfmlaaWTab
import Derived.Test.YthoeidcpemfmlaaWFour
import Derived.Test.YthoeidcpemfmlaaWQPut
import Derived.Test.YthoeidcpemfmlaaWApart
import Derived.Test.YthoeidcpemfmlaaWArr
import Derived.Test.YthoeidcpemfmlaaWZeros
import Derived.Test.YthoeidcpemfmlaaWFoot
import Derived.Test.YthoeidcpemfmlaaWKept
import Derived.Test.YthoeidcpemfmlaaWShare
import Derived.Test.YthoeidcpemfmlaaWN
import Derived.Test.YthoeidcpemfmlaaWFootNe
import Derived.Test.YthoeidcpemfmlaaWAt
import Derived.Test.YthoeidcpemfmlaaWEqStruct
import Derived.Test.YthoeidcpemfmlaaWRepsOne
import Derived.Test.YthoeidcpemfmlaaWInv
import Derived.Test.YthoeidcpemfmlaaWInvWords
import Derived.Test.YthoeidcpemfmlaaWGuard
import Derived.Test.YthoeidcpemfmlaaWNEv
import Derived.Test.YthoeidcpemfmlaaWMore
namespace Go.Proofs.Ythoeidcpemfmlaa.PRenoSteps
open Go.RowKit Go.Proofs.YthoeidcpemfmlaaW.PrintWords Go.Proofs.YthoeidcpemfmlaaW.PrintLast Go.Proofs.YthoeidcpemfmlaaW.PrintMore
attribute [local go_sem] max2_int min2_int max_two min_two max_three min_three max_four min_four   -- for this text's walks alone
open Go.Proofs.Ythoeidcpemfmlaa.Inj
set_option linter.unusedVariables false
set_option linter.unusedSimpArgs false



def errW : Option Int → Value
  | none => .nilIface
  | some c => .iface 0 (.int .i64 c)
theorem errW_none : errW none = .nilIface := rfl
theorem errW_some (c : Int) : errW (some c) = .iface 0 (.int .i64 c) := rfl

-- the values' own types

end Go.Proofs.Ythoeidcpemfmlaa.PRenoSteps
