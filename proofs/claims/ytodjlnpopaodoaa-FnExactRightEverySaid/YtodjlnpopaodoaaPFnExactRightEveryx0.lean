-- WRITTEN BY A PROGRAM OF THIS SESSION (wip/tools): its own text, not the kit's printed one.
import Derived.Test.YtodjlnpopaodoaaProg
import Derived.Below
import Derived.Deep.Draws
import Derived.Deep.AppendLies
import Derived.Maps.AppendAt
import Derived.OwnWalk
import Derived.Laws.BytesArg
import Derived.Laws.MakeOwn
import Derived.Laws.OwnMore
import Derived.Deep.OwnRows
import Derived.Tactics
import Derived.Lib.ConvBytes
import Derived.Laws.Slices
import Derived.WalkKit
import Derived.KernelRfl
import Derived.RowKit3
import Derived.Deep.LoopGhost
import Derived.Deep.QuietTactic
import Derived.BigQuiet
import Derived.WideLaws
import Derived.Deep.DeepCutAuto
import Derived.Deep.CutBlock
import Derived.Deep.RegionHeld3
import Derived.Laws.Rows
import Derived.Lib.AppendStr
import Derived.ArgAppend
import Derived.Laws.IdiomCopy
import Derived.OrdersHeld
import Derived.Laws.BitsLemmas
import Derived.RowKit
import Derived.Test.YtodjlnpopaodoaaWWords
import Derived.Test.YtodjlnpopaodoaaWLast
import Derived.Test.YtodjlnpopaodoaaWTab
import Derived.Test.YtodjlnpopaodoaaWFour
import Derived.Test.YtodjlnpopaodoaaWQPut
import Derived.Test.YtodjlnpopaodoaaWApart
import Derived.Test.YtodjlnpopaodoaaWArr
import Derived.Test.YtodjlnpopaodoaaWZeros
import Derived.Test.YtodjlnpopaodoaaWFoot
import Derived.Test.YtodjlnpopaodoaaWKept
import Derived.Test.YtodjlnpopaodoaaWShare
import Derived.Test.YtodjlnpopaodoaaWN
import Derived.Test.YtodjlnpopaodoaaWFootNe
import Derived.Test.YtodjlnpopaodoaaWAt
import Derived.Test.YtodjlnpopaodoaaWEqStruct
import Derived.Test.YtodjlnpopaodoaaWRepsOne
import Derived.Test.YtodjlnpopaodoaaWInv
import Derived.Test.YtodjlnpopaodoaaWInvWords
import Derived.Test.YtodjlnpopaodoaaWGuard
import Derived.Test.YtodjlnpopaodoaaWNEv
import Derived.Test.YtodjlnpopaodoaaWMore
namespace Go.Proofs.Ytodjlnpopaodoaa.PFnExactRightEvery
open Go.RowKit Go.Proofs.YtodjlnpopaodoaaW.PrintWords Go.Proofs.YtodjlnpopaodoaaW.PrintLast Go.Proofs.YtodjlnpopaodoaaW.PrintMore
attribute [local go_sem] max2_int min2_int max_two min_two max_three min_three max_four min_four   -- for this text's walks alone
set_option linter.unusedVariables false
set_option linter.unusedSimpArgs false



def errW : Option Int → Value
  | none => .nilIface
  | some c => .iface 0 (.int .i64 c)
theorem errW_none : errW none = .nilIface := rfl
theorem errW_some (c : Int) : errW (some c) = .iface 0 (.int .i64 c) := rfl

-- the values' own types

end Go.Proofs.Ytodjlnpopaodoaa.PFnExactRightEvery
