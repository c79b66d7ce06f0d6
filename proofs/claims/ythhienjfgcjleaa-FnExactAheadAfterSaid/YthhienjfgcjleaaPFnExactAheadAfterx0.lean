-- WRITTEN BY A PROGRAM OF THIS SESSION (wip/tools): its own text, not the kit's printed one.
import Derived.Test.YthhienjfgcjleaaProg
import Derived.Below
import Derived.Deep.Draws
import Derived.Deep.AppendLies
import Derived.Maps.AppendAt
import Derived.OwnWalk
import Derived.Laws.BytesArg
import Derived.Laws.MakeOwn
import Derived.Laws.OwnMore
import Derived.Deep.OwnRows
import Derived.Tactics
import Derived.Lib.ConvBytes
import Derived.Laws.Slices
import Derived.WalkKit
import Derived.KernelRfl
import Derived.RowKit3
import Derived.Deep.LoopGhost
import Derived.Deep.QuietTactic
import Derived.BigQuiet
import Derived.WideLaws
import Derived.Deep.DeepCutAuto
import Derived.Deep.CutBlock
import Derived.Deep.RegionHeld3
import Derived.Laws.Rows
import Derived.Lib.AppendStr
import Derived.ArgAppend
import Derived.Laws.IdiomCopy
import Derived.OrdersHeld
import Derived.Laws.BitsLemmas
import Derived.RowKit
import Derived.Test.YthhienjfgcjleaaWWords
import Derived.Test.YthhienjfgcjleaaWLast
import Derived.Test.YthhienjfgcjleaaWTab
import Derived.Test.YthhienjfgcjleaaWFour
import Derived.Test.YthhienjfgcjleaaWQPut
import Derived.Test.YthhienjfgcjleaaWApart
import Derived.Test.YthhienjfgcjleaaWArr
import Derived.Test.YthhienjfgcjleaaWZeros
import Derived.Test.YthhienjfgcjleaaWFoot
import Derived.Test.YthhienjfgcjleaaWKept
import Derived.Test.YthhienjfgcjleaaWShare
import Derived.Test.YthhienjfgcjleaaWN
import Derived.Test.YthhienjfgcjleaaWFootNe
import Derived.Test.YthhienjfgcjleaaWAt
import Derived.Test.YthhienjfgcjleaaWEqStruct
import Derived.Test.YthhienjfgcjleaaWRepsOne
import Derived.Test.YthhienjfgcjleaaWInv
import Derived.Test.YthhienjfgcjleaaWInvWords
import Derived.Test.YthhienjfgcjleaaWGuard
import Derived.Test.YthhienjfgcjleaaWNEv
import Derived.Test.YthhienjfgcjleaaWMore
namespace Go.Proofs.Ythhienjfgcjleaa.PFnExactAheadAfter
open Go.RowKit Go.Proofs.YthhienjfgcjleaaW.PrintWords Go.Proofs.YthhienjfgcjleaaW.PrintLast Go.Proofs.YthhienjfgcjleaaW.PrintMore
attribute [local go_sem] max2_int min2_int max_two min_two max_three min_three max_four min_four   -- for this text's walks alone
set_option linter.unusedVariables false
set_option linter.unusedSimpArgs false



def errW : Option Int → Value
  | none => .nilIface
  | some c => .iface 0 (.int .i64 c)
theorem errW_none : errW none = .nilIface := rfl
theorem errW_some (c : Int) : errW (some c) = .iface 0 (.int .i64 c) := rfl

-- the values' own types

end Go.Proofs.Ythhienjfgcjleaa.PFnExactAheadAfter
