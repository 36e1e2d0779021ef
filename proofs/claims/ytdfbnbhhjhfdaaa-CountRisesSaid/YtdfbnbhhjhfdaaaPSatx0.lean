/- Contracts of the program's functions: written by this session's own program (wip/pr-patch.py over a copy of the kit's print). -/
import Derived.Test.YtdfbnbhhjhfdaaaProg
import Derived.Test.YtdfbnbhhjhfdaaaMine
import Derived.Below
import Derived.Deep.Draws
import Derived.Deep.AppendLies
import Derived.Maps.AppendAt
import Derived.OwnWalk
import Derived.Laws.BytesArg
import Derived.Laws.MakeOwn
import Derived.Laws.OwnMore
import Derived.Deep.OwnRows
import Derived.Tactics
import Derived.Lib.ConvBytes
import Derived.Laws.Slices
import Derived.WalkKit
import Derived.KernelRfl
import Derived.RowKit3
import Derived.Deep.LoopGhost
import Derived.Deep.QuietTactic
import Derived.BigQuiet
import Derived.WideLaws
import Derived.Deep.DeepCutAuto
import Derived.Deep.CutBlock
import Derived.Deep.RegionHeld3
import Derived.Laws.Rows
import Derived.Lib.AppendStr
import Derived.ArgAppend
import Derived.Laws.IdiomCopy
import Derived.OrdersHeld
import Derived.Laws.BitsLemmas
import Derived.RowKit
import Derived.Test.YtdfbnbhhjhfdaaaWWords
import Derived.Test.YtdfbnbhhjhfdaaaWLast
import Derived.Test.YtdfbnbhhjhfdaaaWTab
import Derived.Test.YtdfbnbhhjhfdaaaWFour
import Derived.Test.YtdfbnbhhjhfdaaaWQPut
import Derived.Test.YtdfbnbhhjhfdaaaWApart
import Derived.Test.YtdfbnbhhjhfdaaaWArr
import Derived.Test.YtdfbnbhhjhfdaaaWZeros
import Derived.Test.YtdfbnbhhjhfdaaaWFoot
import Derived.Test.YtdfbnbhhjhfdaaaWKept
import Derived.Test.YtdfbnbhhjhfdaaaWShare
import Derived.Test.YtdfbnbhhjhfdaaaWN
import Derived.Test.YtdfbnbhhjhfdaaaWFootNe
import Derived.Test.YtdfbnbhhjhfdaaaWAt
import Derived.Test.YtdfbnbhhjhfdaaaWEqStruct
import Derived.Test.YtdfbnbhhjhfdaaaWRepsOne
import Derived.Test.YtdfbnbhhjhfdaaaWInv
import Derived.Test.YtdfbnbhhjhfdaaaWInvWords
import Derived.Test.YtdfbnbhhjhfdaaaWGuard
import Derived.Test.YtdfbnbhhjhfdaaaWNEv
import Derived.Test.YtdfbnbhhjhfdaaaWMore
namespace Go.Proofs.Ytdfbnbhhjhfdaaa.PSat
open Go.RowKit Go.Proofs.YtdfbnbhhjhfdaaaW.PrintWords Go.Proofs.YtdfbnbhhjhfdaaaW.PrintLast Go.Proofs.YtdfbnbhhjhfdaaaW.PrintMore
attribute [local go_sem] max2_int min2_int max_two min_two max_three min_three max_four min_four   -- for this text's walks alone
set_option linter.unusedVariables false
set_option linter.unusedSimpArgs false



def errW : Option Int → Value
  | none => .nilIface
  | some c => .iface 0 (.int .i64 c)
theorem errW_none : errW none = .nilIface := rfl
theorem errW_some (c : Int) : errW (some c) = .iface 0 (.int .i64 c) := rfl

-- the values' own types

end Go.Proofs.Ytdfbnbhhjhfdaaa.PSat
