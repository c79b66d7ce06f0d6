-- WRITTEN BY A PROGRAM OF THIS SESSION (wip/tools): its own text, not the kit's printed one.
import Derived.Test.YtkhlbicmlpbadaaProg
import Derived.Below
import Derived.Deep.Draws
import Derived.Deep.AppendLies
import Derived.Maps.AppendAt
import Derived.OwnWalk
import Derived.Laws.BytesArg
import Derived.Laws.MakeOwn
import Derived.Laws.OwnMore
import Derived.Deep.OwnRows
import Derived.Tactics
import Derived.Lib.ConvBytes
import Derived.Laws.Slices
import Derived.WalkKit
import Derived.KernelRfl
import Derived.RowKit3
import Derived.Deep.LoopGhost
import Derived.Deep.QuietTactic
import Derived.BigQuiet
import Derived.WideLaws
import Derived.Deep.DeepCutAuto
import Derived.Deep.CutBlock
import Derived.Deep.RegionHeld3
import Derived.Laws.Rows
import Derived.Lib.AppendStr
import Derived.ArgAppend
import Derived.Laws.IdiomCopy
import Derived.OrdersHeld
import Derived.Laws.BitsLemmas
import Derived.RowKit
import Derived.Test.YtkhlbicmlpbadaaWWords
import Derived.Test.YtkhlbicmlpbadaaWLast
import Derived.Test.YtkhlbicmlpbadaaWTab
import Derived.Test.YtkhlbicmlpbadaaWFour
import Derived.Test.YtkhlbicmlpbadaaWQPut
import Derived.Test.YtkhlbicmlpbadaaWApart
import Derived.Test.YtkhlbicmlpbadaaWArr
import Derived.Test.YtkhlbicmlpbadaaWZeros
import Derived.Test.YtkhlbicmlpbadaaWFoot
import Derived.Test.YtkhlbicmlpbadaaWKept
import Derived.Test.YtkhlbicmlpbadaaWShare
import Derived.Test.YtkhlbicmlpbadaaWN
import Derived.Test.YtkhlbicmlpbadaaWFootNe
import Derived.Test.YtkhlbicmlpbadaaWAt
import Derived.Test.YtkhlbicmlpbadaaWEqStruct
import Derived.Test.YtkhlbicmlpbadaaWRepsOne
import Derived.Test.YtkhlbicmlpbadaaWInv
import Derived.Test.YtkhlbicmlpbadaaWInvWords
import Derived.Test.YtkhlbicmlpbadaaWGuard
import Derived.Test.YtkhlbicmlpbadaaWNEv
import Derived.Test.YtkhlbicmlpbadaaWMore
namespace Go.Proofs.Ytkhlbicmlpbadaa.PFnExactAddSpans
open Go.RowKit Go.Proofs.YtkhlbicmlpbadaaW.PrintWords Go.Proofs.YtkhlbicmlpbadaaW.PrintLast Go.Proofs.YtkhlbicmlpbadaaW.PrintMore
attribute [local go_sem] max2_int min2_int max_two min_two max_three min_three max_four min_four   -- for this text's walks alone
set_option linter.unusedVariables false
set_option linter.unusedSimpArgs false



def errW : Option Int → Value
  | none => .nilIface
  | some c => .iface 0 (.int .i64 c)
theorem errW_none : errW none = .nilIface := rfl
theorem errW_some (c : Int) : errW (some c) = .iface 0 (.int .i64 c) := rfl

-- the values' own types

end Go.Proofs.Ytkhlbicmlpbadaa.PFnExactAddSpans
