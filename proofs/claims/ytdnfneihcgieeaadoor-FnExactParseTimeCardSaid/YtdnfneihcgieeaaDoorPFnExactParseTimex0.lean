-- WRITTEN BY A PROGRAM OF THIS SESSION (wip/tools): its own text, not the kit's printed one.
import Derived.Test.YtdnfneihcgieeaaDoorProg
import Derived.Below
import Derived.Deep.Draws
import Derived.Deep.AppendLies
import Derived.Maps.AppendAt
import Derived.OwnWalk
import Derived.Laws.BytesArg
import Derived.Laws.MakeOwn
import Derived.Laws.OwnMore
import Derived.Deep.OwnRows
import Derived.Tactics
import Derived.Lib.ConvBytes
import Derived.Laws.Slices
import Derived.WalkKit
import Derived.KernelRfl
import Derived.RowKit3
import Derived.Deep.LoopGhost
import Derived.Deep.QuietTactic
import Derived.BigQuiet
import Derived.WideLaws
import Derived.Deep.DeepCutAuto
import Derived.Deep.CutBlock
import Derived.Deep.RegionHeld3
import Derived.Laws.Rows
import Derived.Lib.AppendStr
import Derived.ArgAppend
import Derived.Laws.IdiomCopy
import Derived.OrdersHeld
import Derived.Laws.BitsLemmas
import Derived.RowKit
import Derived.Test.YtdnfneihcgieeaaDoorWWords
import Derived.Test.YtdnfneihcgieeaaDoorWLast
import Derived.Test.YtdnfneihcgieeaaDoorWTab
import Derived.Test.YtdnfneihcgieeaaDoorWFour
import Derived.Test.YtdnfneihcgieeaaDoorWQPut
import Derived.Test.YtdnfneihcgieeaaDoorWApart
import Derived.Test.YtdnfneihcgieeaaDoorWArr
import Derived.Test.YtdnfneihcgieeaaDoorWZeros
import Derived.Test.YtdnfneihcgieeaaDoorWFoot
import Derived.Test.YtdnfneihcgieeaaDoorWKept
import Derived.Test.YtdnfneihcgieeaaDoorWShare
import Derived.Test.YtdnfneihcgieeaaDoorWN
import Derived.Test.YtdnfneihcgieeaaDoorWFootNe
import Derived.Test.YtdnfneihcgieeaaDoorWAt
import Derived.Test.YtdnfneihcgieeaaDoorWEqStruct
import Derived.Test.YtdnfneihcgieeaaDoorWRepsOne
import Derived.Test.YtdnfneihcgieeaaDoorWInv
import Derived.Test.YtdnfneihcgieeaaDoorWInvWords
import Derived.Test.YtdnfneihcgieeaaDoorWGuard
import Derived.Test.YtdnfneihcgieeaaDoorWNEv
import Derived.Test.YtdnfneihcgieeaaDoorWMore
namespace Go.Proofs.YtdnfneihcgieeaaDoor.PFnExactParseTime
open Go.RowKit Go.Proofs.YtdnfneihcgieeaaDoorW.PrintWords Go.Proofs.YtdnfneihcgieeaaDoorW.PrintLast Go.Proofs.YtdnfneihcgieeaaDoorW.PrintMore
attribute [local go_sem] max2_int min2_int max_two min_two max_three min_three max_four min_four   -- for this text's walks alone
set_option linter.unusedVariables false
set_option linter.unusedSimpArgs false



def errW : Option Int → Value
  | none => .nilIface
  | some c => .iface 0 (.int .i64 c)
theorem errW_none : errW none = .nilIface := rfl
theorem errW_some (c : Int) : errW (some c) = .iface 0 (.int .i64 c) := rfl

theorem info3 : (Tryd.prog.info? 3).map (fun i => (i.zero, i.size, i.bytes)) = some (some (.int .i64 0), 1, 8) := by kernel_rfl
theorem info9 : (Tryd.prog.info? 9).map (fun i => (i.zero, i.size, i.bytes)) = some (some (.string ⟨#[]⟩), 1, 16) := by kernel_rfl
-- the values' own types

end Go.Proofs.YtdnfneihcgieeaaDoor.PFnExactParseTime
