-- WRITTEN BY A PROGRAM OF THIS SESSION (wip/tools): its own text, not the kit's printed one.
import Derived.Test.YtndondallbkkgaaProg
import Derived.Below
import Derived.Deep.Draws
import Derived.Deep.AppendLies
import Derived.Maps.AppendAt
import Derived.OwnWalk
import Derived.Laws.BytesArg
import Derived.Laws.MakeOwn
import Derived.Laws.OwnMore
import Derived.Deep.OwnRows
import Derived.Tactics
import Derived.Lib.ConvBytes
import Derived.Laws.Slices
import Derived.WalkKit
import Derived.KernelRfl
import Derived.RowKit3
import Derived.Deep.LoopGhost
import Derived.Deep.QuietTactic
import Derived.BigQuiet
import Derived.WideLaws
import Derived.Deep.DeepCutAuto
import Derived.Deep.CutBlock
import Derived.Deep.RegionHeld3
import Derived.Laws.Rows
import Derived.Lib.AppendStr
import Derived.ArgAppend
import Derived.Laws.IdiomCopy
import Derived.OrdersHeld
import Derived.Laws.BitsLemmas
import Derived.RowKit
import Derived.Test.YtndondallbkkgaaWWords
import Derived.Test.YtndondallbkkgaaWLast
import Derived.Test.YtndondallbkkgaaWTab
import Derived.Test.YtndondallbkkgaaWFour
import Derived.Test.YtndondallbkkgaaWQPut
import Derived.Test.YtndondallbkkgaaWApart
import Derived.Test.YtndondallbkkgaaWArr
import Derived.Test.YtndondallbkkgaaWZeros
import Derived.Test.YtndondallbkkgaaWFoot
import Derived.Test.YtndondallbkkgaaWKept
import Derived.Test.YtndondallbkkgaaWShare
import Derived.Test.YtndondallbkkgaaWN
import Derived.Test.YtndondallbkkgaaWFootNe
import Derived.Test.YtndondallbkkgaaWAt
import Derived.Test.YtndondallbkkgaaWEqStruct
import Derived.Test.YtndondallbkkgaaWRepsOne
import Derived.Test.YtndondallbkkgaaWInv
import Derived.Test.YtndondallbkkgaaWInvWords
import Derived.Test.YtndondallbkkgaaWGuard
import Derived.Test.YtndondallbkkgaaWNEv
import Derived.Test.YtndondallbkkgaaWMore
namespace Go.Proofs.Ytndondallbkkgaa.PFnExactIsClock
open Go.RowKit Go.Proofs.YtndondallbkkgaaW.PrintWords Go.Proofs.YtndondallbkkgaaW.PrintLast Go.Proofs.YtndondallbkkgaaW.PrintMore
attribute [local go_sem] max2_int min2_int max_two min_two max_three min_three max_four min_four   -- for this text's walks alone
set_option linter.unusedVariables false
set_option linter.unusedSimpArgs false



def errW : Option Int → Value
  | none => .nilIface
  | some c => .iface 0 (.int .i64 c)
theorem errW_none : errW none = .nilIface := rfl
theorem errW_some (c : Int) : errW (some c) = .iface 0 (.int .i64 c) := rfl

-- the values' own types

end Go.Proofs.Ytndondallbkkgaa.PFnExactIsClock
