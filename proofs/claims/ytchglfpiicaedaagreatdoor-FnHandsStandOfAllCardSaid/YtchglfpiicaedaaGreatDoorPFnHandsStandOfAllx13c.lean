-- WRITTEN BY A PROGRAM OF THIS SESSION (wip/tools): its own text, not the kit's printed one.
import Derived.Test.YtchglfpiicaedaaGreatDoorItoa
import Derived.Shelf.Strconv.Itoa3
import Derived.Lib.SmallJoins
import Derived.Lib.LaidTab
import Derived.Shelf.Strconv.ErrVarAll
import Derived.Shelf.Strings.Search3
import Derived.Lib.IndexLaws
import Derived.Lib.AtoiErrMem
import Derived.Test.YtchglfpiicaedaaGreatDoorPFnHandsStandOfAllx0
import Derived.Test.YtchglfpiicaedaaGreatDoorPFnHandsStandOfAllx1
import Derived.Test.YtchglfpiicaedaaGreatDoorPFnHandsStandOfAllx2
import Derived.Test.YtchglfpiicaedaaGreatDoorPFnHandsStandOfAllx3
import Derived.Test.YtchglfpiicaedaaGreatDoorPFnHandsStandOfAllx4
import Derived.Test.YtchglfpiicaedaaGreatDoorPFnHandsStandOfAllx5
import Derived.Test.YtchglfpiicaedaaGreatDoorPFnHandsStandOfAllx6
import Derived.Test.YtchglfpiicaedaaGreatDoorPFnHandsStandOfAllx7
import Derived.Test.YtchglfpiicaedaaGreatDoorPFnHandsStandOfAllx8
import Derived.Test.YtchglfpiicaedaaGreatDoorPFnHandsStandOfAllx9
import Derived.Test.YtchglfpiicaedaaGreatDoorPFnHandsStandOfAllx10
import Derived.Test.YtchglfpiicaedaaGreatDoorPFnHandsStandOfAllx12
namespace Go.Proofs.YtchglfpiicaedaaGreatDoor.PFnHandsStandOfAll
open Go.RowKit Go.Proofs.YtchglfpiicaedaaGreatDoorW.PrintWords Go.Proofs.YtchglfpiicaedaaGreatDoorW.PrintLast Go.Proofs.YtchglfpiicaedaaGreatDoorW.PrintMore
attribute [local go_sem] max2_int min2_int max_two min_two max_three min_three max_four min_four   -- for this text's walks alone
set_option linter.unusedVariables false
set_option linter.unusedSimpArgs false

attribute [local go_sem high] eqA23
/-! ### laws_FnHandsStandOfAll: function 3 -/
mutual
def laws_FnHandsStandOfAll.j0 : Nat → Int → Int → Int → Int → Int → Int → ByteArray → Bool → Int → Int → List (S23) → Bool → ByteArray → Bool → Int → Int → Int → Int → Int → Int → Int → Int → Int → Int → Option (Bool)
 | 0, _, _, _, _, _, _, _, _, _, _, _, _, _, _, _, _, _, _, _, _, _, _, _, _ => none
 | k + 1, x0, x2, x3, x4, x5, x6, x7, x18, x29, x33, x41, x42, x45, x288, x422000, x422001, x426000, x426001, x434000, x434001, x442000, x442001, x458000, x458001 => if x288 = true then (some false) else (if x18 = true then ((impl_AddTurns.f k x422000 x422001 x434000 x434001).bind fun bt475 => ((impl_ParseTime.f k x0 x45).bind fun bt479 => (if bt475.2.2 = true then (if (!(bt475.1 == x426000) || (!(bt475.2.1 == x426001))) = true then (laws_FnHandsStandOfAll.j1 k x0 x2 x3 x4 x5 x6 x7 x29 x33 x41 x42 true x422000 x422001 x458000 x458001) else (if (wrap64 (2 * x442000)) > x442001 then (laws_FnHandsStandOfAll.j1 k x0 x2 x3 x4 x5 x6 x7 x29 x33 x41 x42 true x422000 x422001 x458000 x458001) else (if x29 < 0 then (laws_FnHandsStandOfAll.j1 k x0 x2 x3 x4 x5 x6 x7 x29 x33 x41 x42 true x422000 x422001 x458000 x458001) else (if x29 ≥ x0 then (laws_FnHandsStandOfAll.j1 k x0 x2 x3 x4 x5 x6 x7 x29 x33 x41 x42 true x422000 x422001 x458000 x458001) else (if x33 < 0 then (laws_FnHandsStandOfAll.j1 k x0 x2 x3 x4 x5 x6 x7 x29 x33 x41 x42 true x422000 x422001 x458000 x458001) else (if x33 > 59 then (laws_FnHandsStandOfAll.j1 k x0 x2 x3 x4 x5 x6 x7 x29 x33 x41 x42 true x422000 x422001 x458000 x458001) else (if bt479.2.2 = true then (laws_FnHandsStandOfAll.j1 k x0 x2 x3 x4 x5 x6 x7 x29 x33 x41 x42 (!(bt479.1 == x422000) || (!(bt479.2.1 == x422001))) x422000 x422001 x458000 x458001) else (laws_FnHandsStandOfAll.j1 k x0 x2 x3 x4 x5 x6 x7 x29 x33 x41 x42 true x422000 x422001 x458000 x458001)))))))) else (if (wrap64 (2 * x442000)) > x442001 then (laws_FnHandsStandOfAll.j1 k x0 x2 x3 x4 x5 x6 x7 x29 x33 x41 x42 true x422000 x422001 x458000 x458001) else (if x29 < 0 then (laws_FnHandsStandOfAll.j1 k x0 x2 x3 x4 x5 x6 x7 x29 x33 x41 x42 true x422000 x422001 x458000 x458001) else (if x29 ≥ x0 then (laws_FnHandsStandOfAll.j1 k x0 x2 x3 x4 x5 x6 x7 x29 x33 x41 x42 true x422000 x422001 x458000 x458001) else (if x33 < 0 then (laws_FnHandsStandOfAll.j1 k x0 x2 x3 x4 x5 x6 x7 x29 x33 x41 x42 true x422000 x422001 x458000 x458001) else (if x33 > 59 then (laws_FnHandsStandOfAll.j1 k x0 x2 x3 x4 x5 x6 x7 x29 x33 x41 x42 true x422000 x422001 x458000 x458001) else (if bt479.2.2 = true then (laws_FnHandsStandOfAll.j1 k x0 x2 x3 x4 x5 x6 x7 x29 x33 x41 x42 (!(bt479.1 == x422000) || (!(bt479.2.1 == x422001))) x422000 x422001 x458000 x458001) else (laws_FnHandsStandOfAll.j1 k x0 x2 x3 x4 x5 x6 x7 x29 x33 x41 x42 true x422000 x422001 x458000 x458001)))))))))) else (laws_FnHandsStandOfAll.j2 k x0 x2 x3 x4 x5 x6 x7 x41 x42 x422000 x422001))
def laws_FnHandsStandOfAll.j2 : Nat → Int → Int → Int → Int → Int → Int → ByteArray → List (S23) → Bool → Int → Int → Option (Bool)
 | 0, _, _, _, _, _, _, _, _, _, _, _ => none
 | k + 1, x0, x2, x3, x4, x5, x6, x7, x41, x42, x422000, x422001 => if x42 = true then (if (x41.length : Int) = x0 then ((laws_wRises.f k x41).bind fun t483 => (laws_FnHandsStandOfAll.j3 k x0 x2 x3 x4 x5 x6 x7 x41 (!t483) x422000 x422001)) else (laws_FnHandsStandOfAll.j3 k x0 x2 x3 x4 x5 x6 x7 x41 true x422000 x422001)) else (laws_FnHandsStandOfAll.j5 k x2 x3 x4 x5 x6 x7)
def laws_FnHandsStandOfAll.j5 : Nat → Int → Int → Int → Int → Int → ByteArray → Option (Bool)
 | 0, _, _, _, _, _, _ => none
 | k + 1, x2, x3, x4, x5, x6, x7 => (impl_TimeOf.f k x2 x3 x4 x5).bind fun bt490 => ((spec_TimeOf.f k x2 x3 x4 x5).bind fun bt494 => ((impl_ParseTime.f k x6 x7).bind fun bt498 => ((spec_ParseTime.f k x6 x7).bind fun bt502 => (if (bt490.2.2 != bt494.2.2) = true then (laws_FnHandsStandOfAll.j6 k x2 x3 x4 x5 x6 x7 bt490.2.2 bt498.2.2 true bt490.1 bt490.2.1 bt498.1 bt498.2.1) else (if (!(bt490.1 == bt494.1) || (!(bt490.2.1 == bt494.2.1))) = true then (laws_FnHandsStandOfAll.j6 k x2 x3 x4 x5 x6 x7 bt490.2.2 bt498.2.2 true bt490.1 bt490.2.1 bt498.1 bt498.2.1) else (if (bt498.2.2 != bt502.2.2) = true then (laws_FnHandsStandOfAll.j6 k x2 x3 x4 x5 x6 x7 bt490.2.2 bt498.2.2 true bt490.1 bt490.2.1 bt498.1 bt498.2.1) else (laws_FnHandsStandOfAll.j6 k x2 x3 x4 x5 x6 x7 bt490.2.2 bt498.2.2 (!(bt498.1 == bt502.1) || (!(bt498.2.1 == bt502.2.1))) bt490.1 bt490.2.1 bt498.1 bt498.2.1)))))))
def laws_FnHandsStandOfAll.j6 : Nat → Int → Int → Int → Int → Int → ByteArray → Bool → Bool → Bool → Int → Int → Int → Int → Option (Bool)
 | 0, _, _, _, _, _, _, _, _, _, _, _, _, _ => none
 | k + 1, x2, x3, x4, x5, x6, x7, x59, x63, x444, x494000, x494001, x502000, x502001 => if x444 = true then (some false) else (if x59 = true then ((impl_HourOf.f k x2 x494000 x494001).bind fun bt506 => ((impl_MinuteOf.f k x2 x494000 x494001).bind fun bt508 => ((impl_SecondOf.f k x2 x494000 x494001).bind fun bt510 => (if bt506.2 = true then (if bt506.1 = x3 then (if bt508.2 = true then (if bt508.1 = x4 then (if bt510.2.2 = true then (laws_FnHandsStandOfAll.j7 k x6 x7 x63 ((wrap64 (bt510.1 * 60)) != (wrap64 (x5 * bt510.2.1))) x502000 x502001) else (laws_FnHandsStandOfAll.j7 k x6 x7 x63 true x502000 x502001)) else (laws_FnHandsStandOfAll.j7 k x6 x7 x63 true x502000 x502001)) else (laws_FnHandsStandOfAll.j7 k x6 x7 x63 true x502000 x502001)) else (laws_FnHandsStandOfAll.j7 k x6 x7 x63 true x502000 x502001)) else (laws_FnHandsStandOfAll.j7 k x6 x7 x63 true x502000 x502001))))) else (if x63 = true then ((impl_TimeText.f k x6 x502000 x502001).bind fun bt516 => (if bt516.2 = true then (some (bt516.1.toList == x7.toList)) else (some false))) else (some true)))
def laws_FnHandsStandOfAll.j7 : Nat → Int → ByteArray → Bool → Bool → Int → Int → Option (Bool)
 | 0, _, _, _, _, _, _ => none
 | k + 1, x6, x7, x63, x493, x502000, x502001 => if x493 = true then (some false) else (if x63 = true then ((impl_TimeText.f k x6 x502000 x502001).bind fun bt514 => (if bt514.2 = true then (some (bt514.1.toList == x7.toList)) else (some false))) else (some true))
def laws_FnHandsStandOfAll.j3 : Nat → Int → Int → Int → Int → Int → Int → ByteArray → List (S23) → Bool → Int → Int → Option (Bool)
 | 0, _, _, _, _, _, _, _, _, _, _, _ => none
 | k + 1, x0, x2, x3, x4, x5, x6, x7, x41, x378, x422000, x422001 => if x378 = true then (some false) else (laws_FnHandsStandOfAll.l0 k x0 x2 x3 x4 x5 x6 x7 x41 (x41.length : Int) 0 x422000 x422001)
def laws_FnHandsStandOfAll.l0 : Nat → Int → Int → Int → Int → Int → Int → ByteArray → List (S23) → Int → Int → Int → Int → Option (Bool)
 | 0, _, _, _, _, _, _, _, _, _, _, _, _ => none
 | k + 1, x0, x2, x3, x4, x5, x6, x7, x379, x380, x381, x422000, x422001 => if x381 < x380 then (if 0 ≤ x381 then (if x381 < (x379.length : Int) then ((impl_LongHand.f k x0 ((rd_T23 x379 x381).f0) ((rd_T23 x379 x381).f1)).bind fun bt486 => (if bt486.2.2 = true then (if (!(bt486.1 == x422000) || (!(bt486.2.1 == x422001))) = true then (some false) else (laws_FnHandsStandOfAll.l0 k x0 x2 x3 x4 x5 x6 x7 x379 x380 (wrap64 (x381 + 1)) x422000 x422001)) else (some false))) else (none)) else (none)) else (laws_FnHandsStandOfAll.j5 k x2 x3 x4 x5 x6 x7)
def laws_FnHandsStandOfAll.j1 : Nat → Int → Int → Int → Int → Int → Int → ByteArray → Int → Int → List (S23) → Bool → Bool → Int → Int → Int → Int → Option (Bool)
 | 0, _, _, _, _, _, _, _, _, _, _, _, _, _, _, _, _ => none
 | k + 1, x0, x2, x3, x4, x5, x6, x7, x29, x33, x41, x42, x341, x422000, x422001, x458000, x458001 => if x341 = true then (some false) else (if (wrap64 ((wrap64 ((wrap64 ((wrap64 ((wrap64 ((wrap64 (x29 * 60)) + x33)) * x458001)) * x422001)) + (wrap64 (x458000 * x422001)))) * 1)) = (wrap64 ((wrap64 ((wrap64 (x422000 * x0)) * 60)) * x458001)) then (laws_FnHandsStandOfAll.j2 k x0 x2 x3 x4 x5 x6 x7 x41 x42 x422000 x422001) else (some false))
end
def laws_FnHandsStandOfAll.f (k : Nat) (a0 : Int) (a1_0 : Int) (a1_1 : Int) (a2 : Int) (a3 : Int) (a4 : Int) (a5 : Int) (a6 : Int) (a7 : ByteArray) : Option (Bool) := if (a7.size : Int) > 1048576 then (some true) else ((impl_LongHand.f k a0 a1_0 a1_1).bind fun bt422 => ((spec_LongHand.f k a0 a1_0 a1_1).bind fun bt426 => ((impl_AngleOf.f k a0 a1_0 a1_1).bind fun bt430 => ((spec_AngleOf.f k a0 a1_0 a1_1).bind fun bt434 => ((impl_SmallAngle.f k a0 a1_0 a1_1).bind fun bt438 => ((spec_SmallAngle.f k a0 a1_0 a1_1).bind fun bt442 => ((impl_HourOf.f k a0 a1_0 a1_1).bind fun bt446 => ((spec_HourOf.f k a0 a1_0 a1_1).bind fun bt448 => ((impl_MinuteOf.f k a0 a1_0 a1_1).bind fun bt450 => ((spec_MinuteOf.f k a0 a1_0 a1_1).bind fun bt452 => ((impl_SecondOf.f k a0 a1_0 a1_1).bind fun bt454 => ((spec_SecondOf.f k a0 a1_0 a1_1).bind fun bt458 => ((impl_TimesWithLong.f k a0 a1_0 a1_1).bind fun bt462 => ((spec_TimesWithLong.f k a0 a1_0 a1_1).bind fun bt466 => ((impl_TimeText.f k a0 a1_0 a1_1).bind fun bt470 => ((spec_TimeText.f k a0 a1_0 a1_1).bind fun bt472 => (if (bt422.2.2 != bt426.2.2) = true then (laws_FnHandsStandOfAll.j0 k a0 a2 a3 a4 a5 a6 a7 bt422.2.2 bt446.1 bt450.1 bt462.1 bt462.2 bt470.1 true a1_0 a1_1 bt422.1 bt422.2.1 bt430.1 bt430.2.1 bt438.1 bt438.2.1 bt454.1 bt454.2.1) else (if (!(bt422.1 == bt426.1) || (!(bt422.2.1 == bt426.2.1))) = true then (laws_FnHandsStandOfAll.j0 k a0 a2 a3 a4 a5 a6 a7 bt422.2.2 bt446.1 bt450.1 bt462.1 bt462.2 bt470.1 true a1_0 a1_1 bt422.1 bt422.2.1 bt430.1 bt430.2.1 bt438.1 bt438.2.1 bt454.1 bt454.2.1) else (if (bt430.2.2 != bt434.2.2) = true then (laws_FnHandsStandOfAll.j0 k a0 a2 a3 a4 a5 a6 a7 bt422.2.2 bt446.1 bt450.1 bt462.1 bt462.2 bt470.1 true a1_0 a1_1 bt422.1 bt422.2.1 bt430.1 bt430.2.1 bt438.1 bt438.2.1 bt454.1 bt454.2.1) else (if (!(bt430.1 == bt434.1) || (!(bt430.2.1 == bt434.2.1))) = true then (laws_FnHandsStandOfAll.j0 k a0 a2 a3 a4 a5 a6 a7 bt422.2.2 bt446.1 bt450.1 bt462.1 bt462.2 bt470.1 true a1_0 a1_1 bt422.1 bt422.2.1 bt430.1 bt430.2.1 bt438.1 bt438.2.1 bt454.1 bt454.2.1) else (if (bt438.2.2 != bt442.2.2) = true then (laws_FnHandsStandOfAll.j0 k a0 a2 a3 a4 a5 a6 a7 bt422.2.2 bt446.1 bt450.1 bt462.1 bt462.2 bt470.1 true a1_0 a1_1 bt422.1 bt422.2.1 bt430.1 bt430.2.1 bt438.1 bt438.2.1 bt454.1 bt454.2.1) else (if (!(bt438.1 == bt442.1) || (!(bt438.2.1 == bt442.2.1))) = true then (laws_FnHandsStandOfAll.j0 k a0 a2 a3 a4 a5 a6 a7 bt422.2.2 bt446.1 bt450.1 bt462.1 bt462.2 bt470.1 true a1_0 a1_1 bt422.1 bt422.2.1 bt430.1 bt430.2.1 bt438.1 bt438.2.1 bt454.1 bt454.2.1) else (if (bt446.2 != bt448.2) = true then (laws_FnHandsStandOfAll.j0 k a0 a2 a3 a4 a5 a6 a7 bt422.2.2 bt446.1 bt450.1 bt462.1 bt462.2 bt470.1 true a1_0 a1_1 bt422.1 bt422.2.1 bt430.1 bt430.2.1 bt438.1 bt438.2.1 bt454.1 bt454.2.1) else (if bt446.1 = bt448.1 then (if (bt450.2 != bt452.2) = true then (laws_FnHandsStandOfAll.j0 k a0 a2 a3 a4 a5 a6 a7 bt422.2.2 bt446.1 bt450.1 bt462.1 bt462.2 bt470.1 true a1_0 a1_1 bt422.1 bt422.2.1 bt430.1 bt430.2.1 bt438.1 bt438.2.1 bt454.1 bt454.2.1) else (if bt450.1 = bt452.1 then (if (bt454.2.2 != bt458.2.2) = true then (laws_FnHandsStandOfAll.j0 k a0 a2 a3 a4 a5 a6 a7 bt422.2.2 bt446.1 bt450.1 bt462.1 bt462.2 bt470.1 true a1_0 a1_1 bt422.1 bt422.2.1 bt430.1 bt430.2.1 bt438.1 bt438.2.1 bt454.1 bt454.2.1) else (if (!(bt454.1 == bt458.1) || (!(bt454.2.1 == bt458.2.1))) = true then (laws_FnHandsStandOfAll.j0 k a0 a2 a3 a4 a5 a6 a7 bt422.2.2 bt446.1 bt450.1 bt462.1 bt462.2 bt470.1 true a1_0 a1_1 bt422.1 bt422.2.1 bt430.1 bt430.2.1 bt438.1 bt438.2.1 bt454.1 bt454.2.1) else (if (bt462.2 != bt466.2) = true then (laws_FnHandsStandOfAll.j0 k a0 a2 a3 a4 a5 a6 a7 bt422.2.2 bt446.1 bt450.1 bt462.1 bt462.2 bt470.1 true a1_0 a1_1 bt422.1 bt422.2.1 bt430.1 bt430.2.1 bt438.1 bt438.2.1 bt454.1 bt454.2.1) else ((laws_wTurns.f k bt462.1 bt466.1).bind fun t474 => (if t474 = true then (if (bt470.2 != bt472.2) = true then (laws_FnHandsStandOfAll.j0 k a0 a2 a3 a4 a5 a6 a7 bt422.2.2 bt446.1 bt450.1 bt462.1 bt462.2 bt470.1 true a1_0 a1_1 bt422.1 bt422.2.1 bt430.1 bt430.2.1 bt438.1 bt438.2.1 bt454.1 bt454.2.1) else (if bt470.1.toList = bt472.1.toList then (if (bt430.2.2 != bt422.2.2) = true then (laws_FnHandsStandOfAll.j0 k a0 a2 a3 a4 a5 a6 a7 bt422.2.2 bt446.1 bt450.1 bt462.1 bt462.2 bt470.1 true a1_0 a1_1 bt422.1 bt422.2.1 bt430.1 bt430.2.1 bt438.1 bt438.2.1 bt454.1 bt454.2.1) else (if (bt438.2.2 != bt422.2.2) = true then (laws_FnHandsStandOfAll.j0 k a0 a2 a3 a4 a5 a6 a7 bt422.2.2 bt446.1 bt450.1 bt462.1 bt462.2 bt470.1 true a1_0 a1_1 bt422.1 bt422.2.1 bt430.1 bt430.2.1 bt438.1 bt438.2.1 bt454.1 bt454.2.1) else (if (bt446.2 != bt422.2.2) = true then (laws_FnHandsStandOfAll.j0 k a0 a2 a3 a4 a5 a6 a7 bt422.2.2 bt446.1 bt450.1 bt462.1 bt462.2 bt470.1 true a1_0 a1_1 bt422.1 bt422.2.1 bt430.1 bt430.2.1 bt438.1 bt438.2.1 bt454.1 bt454.2.1) else (if (bt450.2 != bt422.2.2) = true then (laws_FnHandsStandOfAll.j0 k a0 a2 a3 a4 a5 a6 a7 bt422.2.2 bt446.1 bt450.1 bt462.1 bt462.2 bt470.1 true a1_0 a1_1 bt422.1 bt422.2.1 bt430.1 bt430.2.1 bt438.1 bt438.2.1 bt454.1 bt454.2.1) else (if (bt454.2.2 != bt422.2.2) = true then (laws_FnHandsStandOfAll.j0 k a0 a2 a3 a4 a5 a6 a7 bt422.2.2 bt446.1 bt450.1 bt462.1 bt462.2 bt470.1 true a1_0 a1_1 bt422.1 bt422.2.1 bt430.1 bt430.2.1 bt438.1 bt438.2.1 bt454.1 bt454.2.1) else (if (bt470.2 != bt422.2.2) = true then (laws_FnHandsStandOfAll.j0 k a0 a2 a3 a4 a5 a6 a7 bt422.2.2 bt446.1 bt450.1 bt462.1 bt462.2 bt470.1 true a1_0 a1_1 bt422.1 bt422.2.1 bt430.1 bt430.2.1 bt438.1 bt438.2.1 bt454.1 bt454.2.1) else (if bt462.2 = true then (laws_FnHandsStandOfAll.j0 k a0 a2 a3 a4 a5 a6 a7 bt422.2.2 bt446.1 bt450.1 bt462.1 bt462.2 bt470.1 (!bt422.2.2) a1_0 a1_1 bt422.1 bt422.2.1 bt430.1 bt430.2.1 bt438.1 bt438.2.1 bt454.1 bt454.2.1) else (laws_FnHandsStandOfAll.j0 k a0 a2 a3 a4 a5 a6 a7 bt422.2.2 bt446.1 bt450.1 bt462.1 bt462.2 bt470.1 false a1_0 a1_1 bt422.1 bt422.2.1 bt430.1 bt430.2.1 bt438.1 bt438.2.1 bt454.1 bt454.2.1)))))))) else (laws_FnHandsStandOfAll.j0 k a0 a2 a3 a4 a5 a6 a7 bt422.2.2 bt446.1 bt450.1 bt462.1 bt462.2 bt470.1 true a1_0 a1_1 bt422.1 bt422.2.1 bt430.1 bt430.2.1 bt438.1 bt438.2.1 bt454.1 bt454.2.1))) else (laws_FnHandsStandOfAll.j0 k a0 a2 a3 a4 a5 a6 a7 bt422.2.2 bt446.1 bt450.1 bt462.1 bt462.2 bt470.1 true a1_0 a1_1 bt422.1 bt422.2.1 bt430.1 bt430.2.1 bt438.1 bt438.2.1 bt454.1 bt454.2.1)))))) else (laws_FnHandsStandOfAll.j0 k a0 a2 a3 a4 a5 a6 a7 bt422.2.2 bt446.1 bt450.1 bt462.1 bt462.2 bt470.1 true a1_0 a1_1 bt422.1 bt422.2.1 bt430.1 bt430.2.1 bt438.1 bt438.2.1 bt454.1 bt454.2.1))) else (laws_FnHandsStandOfAll.j0 k a0 a2 a3 a4 a5 a6 a7 bt422.2.2 bt446.1 bt450.1 bt462.1 bt462.2 bt470.1 true a1_0 a1_1 bt422.1 bt422.2.1 bt430.1 bt430.2.1 bt438.1 bt438.2.1 bt454.1 bt454.2.1)))))))))))))))))))))))))
theorem laws_FnHandsStandOfAll.mono_l : ∀ k, (∀ y0 y1 y2 y3 y4 y5 y6 y7 y8 y9 y10 y11 y12 y13 y14 y15 y16 y17 y18 y19 y20 y21 y22 y23, LeO (laws_FnHandsStandOfAll.j0 k y0 y1 y2 y3 y4 y5 y6 y7 y8 y9 y10 y11 y12 y13 y14 y15 y16 y17 y18 y19 y20 y21 y22 y23) (laws_FnHandsStandOfAll.j0 (k + 1) y0 y1 y2 y3 y4 y5 y6 y7 y8 y9 y10 y11 y12 y13 y14 y15 y16 y17 y18 y19 y20 y21 y22 y23)) ∧ (∀ y0 y1 y2 y3 y4 y5 y6 y7 y8 y9 y10, LeO (laws_FnHandsStandOfAll.j2 k y0 y1 y2 y3 y4 y5 y6 y7 y8 y9 y10) (laws_FnHandsStandOfAll.j2 (k + 1) y0 y1 y2 y3 y4 y5 y6 y7 y8 y9 y10)) ∧ (∀ y0 y1 y2 y3 y4 y5, LeO (laws_FnHandsStandOfAll.j5 k y0 y1 y2 y3 y4 y5) (laws_FnHandsStandOfAll.j5 (k + 1) y0 y1 y2 y3 y4 y5)) ∧ (∀ y0 y1 y2 y3 y4 y5 y6 y7 y8 y9 y10 y11 y12, LeO (laws_FnHandsStandOfAll.j6 k y0 y1 y2 y3 y4 y5 y6 y7 y8 y9 y10 y11 y12) (laws_FnHandsStandOfAll.j6 (k + 1) y0 y1 y2 y3 y4 y5 y6 y7 y8 y9 y10 y11 y12)) ∧ (∀ y0 y1 y2 y3 y4 y5, LeO (laws_FnHandsStandOfAll.j7 k y0 y1 y2 y3 y4 y5) (laws_FnHandsStandOfAll.j7 (k + 1) y0 y1 y2 y3 y4 y5)) ∧ (∀ y0 y1 y2 y3 y4 y5 y6 y7 y8 y9 y10, LeO (laws_FnHandsStandOfAll.j3 k y0 y1 y2 y3 y4 y5 y6 y7 y8 y9 y10) (laws_FnHandsStandOfAll.j3 (k + 1) y0 y1 y2 y3 y4 y5 y6 y7 y8 y9 y10)) ∧ (∀ y0 y1 y2 y3 y4 y5 y6 y7 y8 y9 y10 y11, LeO (laws_FnHandsStandOfAll.l0 k y0 y1 y2 y3 y4 y5 y6 y7 y8 y9 y10 y11) (laws_FnHandsStandOfAll.l0 (k + 1) y0 y1 y2 y3 y4 y5 y6 y7 y8 y9 y10 y11)) ∧ (∀ y0 y1 y2 y3 y4 y5 y6 y7 y8 y9 y10 y11 y12 y13 y14 y15, LeO (laws_FnHandsStandOfAll.j1 k y0 y1 y2 y3 y4 y5 y6 y7 y8 y9 y10 y11 y12 y13 y14 y15) (laws_FnHandsStandOfAll.j1 (k + 1) y0 y1 y2 y3 y4 y5 y6 y7 y8 y9 y10 y11 y12 y13 y14 y15))
 | 0 => ⟨fun _ _ _ _ _ _ _ _ _ _ _ _ _ _ _ _ _ _ _ _ _ _ _ _ r h => by simp [laws_FnHandsStandOfAll.j0] at h, fun _ _ _ _ _ _ _ _ _ _ _ r h => by simp [laws_FnHandsStandOfAll.j2] at h, fun _ _ _ _ _ _ r h => by simp [laws_FnHandsStandOfAll.j5] at h, fun _ _ _ _ _ _ _ _ _ _ _ _ _ r h => by simp [laws_FnHandsStandOfAll.j6] at h, fun _ _ _ _ _ _ r h => by simp [laws_FnHandsStandOfAll.j7] at h, fun _ _ _ _ _ _ _ _ _ _ _ r h => by simp [laws_FnHandsStandOfAll.j3] at h, fun _ _ _ _ _ _ _ _ _ _ _ _ r h => by simp [laws_FnHandsStandOfAll.l0] at h, fun _ _ _ _ _ _ _ _ _ _ _ _ _ _ _ _ r h => by simp [laws_FnHandsStandOfAll.j1] at h⟩
 | k + 1 => by
  obtain ⟨ih0, ih1, ih2, ih3, ih4, ih5, ih6, ih7⟩ := laws_FnHandsStandOfAll.mono_l k
  refine ⟨?_, ?_, ?_, ?_, ?_, ?_, ?_, ?_⟩
  ·intro y0 y1 y2 y3 y4 y5 y6 y7 y8 y9 y10 y11 y12 y13 y14 y15 y16 y17 y18 y19 y20 y21 y22 y23
   unfold laws_FnHandsStandOfAll.j0
   repeat' first
   | (with_reducible apply ih0)
   | (with_reducible apply ih1)
   | (with_reducible apply ih2)
   | (with_reducible apply ih3)
   | (with_reducible apply ih4)
   | (with_reducible apply ih5)
   | (with_reducible apply ih6)
   | (with_reducible apply ih7)
   | (with_reducible exact impl_AddTurns.mono _ _ _ _ _)
   | (with_reducible exact impl_AngleOf.mono _ _ _ _)
   | (with_reducible exact impl_HourOf.mono _ _ _ _)
   | (with_reducible exact impl_LongHand.mono _ _ _ _)
   | (with_reducible exact impl_MinuteOf.mono _ _ _ _)
   | (with_reducible exact impl_ParseTime.mono _ _ _)
   | (with_reducible exact impl_SecondOf.mono _ _ _ _)
   | (with_reducible exact impl_SmallAngle.mono _ _ _ _)
   | (with_reducible exact impl_TimeOf.mono _ _ _ _ _)
   | (with_reducible exact impl_TimeText.mono _ _ _ _)
   | (with_reducible exact impl_TimesWithLong.mono _ _ _ _)
   | (with_reducible exact laws_wRises.mono _ _)
   | (with_reducible exact laws_wTurns.mono _ _ _)
   | (with_reducible exact spec_AngleOf.mono _ _ _ _)
   | (with_reducible exact spec_HourOf.mono _ _ _ _)
   | (with_reducible exact spec_LongHand.mono _ _ _ _)
   | (with_reducible exact spec_MinuteOf.mono _ _ _ _)
   | (with_reducible exact spec_ParseTime.mono _ _ _)
   | (with_reducible exact spec_SecondOf.mono _ _ _ _)
   | (with_reducible exact spec_SmallAngle.mono _ _ _ _)
   | (with_reducible exact spec_TimeOf.mono _ _ _ _ _)
   | (with_reducible exact spec_TimeText.mono _ _ _ _)
   | (with_reducible exact spec_TimesWithLong.mono _ _ _ _)
   | (with_reducible exact LeO.refl _)
   | (with_reducible exact LeO.none _)
   | (with_reducible refine LeO.ite ?_ ?_)
   | (with_reducible refine LeO.bind ?_ (fun _ => ?_))
   | apply ih0
   | apply ih1
   | apply ih2
   | apply ih3
   | apply ih4
   | apply ih5
   | apply ih6
   | apply ih7
   | exact impl_AddTurns.mono _ _ _ _ _
   | exact impl_AngleOf.mono _ _ _ _
   | exact impl_HourOf.mono _ _ _ _
   | exact impl_LongHand.mono _ _ _ _
   | exact impl_MinuteOf.mono _ _ _ _
   | exact impl_ParseTime.mono _ _ _
   | exact impl_SecondOf.mono _ _ _ _
   | exact impl_SmallAngle.mono _ _ _ _
   | exact impl_TimeOf.mono _ _ _ _ _
   | exact impl_TimeText.mono _ _ _ _
   | exact impl_TimesWithLong.mono _ _ _ _
   | exact laws_wRises.mono _ _
   | exact laws_wTurns.mono _ _ _
   | exact spec_AngleOf.mono _ _ _ _
   | exact spec_HourOf.mono _ _ _ _
   | exact spec_LongHand.mono _ _ _ _
   | exact spec_MinuteOf.mono _ _ _ _
   | exact spec_ParseTime.mono _ _ _
   | exact spec_SecondOf.mono _ _ _ _
   | exact spec_SmallAngle.mono _ _ _ _
   | exact spec_TimeOf.mono _ _ _ _ _
   | exact spec_TimeText.mono _ _ _ _
   | exact spec_TimesWithLong.mono _ _ _ _
   | exact LeO.none _
   | refine LeO.ite ?_ ?_
   | refine LeO.bind ?_ (fun _ => ?_)
  ·intro y0 y1 y2 y3 y4 y5 y6 y7 y8 y9 y10
   unfold laws_FnHandsStandOfAll.j2
   repeat' first
   | (with_reducible apply ih0)
   | (with_reducible apply ih1)
   | (with_reducible apply ih2)
   | (with_reducible apply ih3)
   | (with_reducible apply ih4)
   | (with_reducible apply ih5)
   | (with_reducible apply ih6)
   | (with_reducible apply ih7)
   | (with_reducible exact impl_AddTurns.mono _ _ _ _ _)
   | (with_reducible exact impl_AngleOf.mono _ _ _ _)
   | (with_reducible exact impl_HourOf.mono _ _ _ _)
   | (with_reducible exact impl_LongHand.mono _ _ _ _)
   | (with_reducible exact impl_MinuteOf.mono _ _ _ _)
   | (with_reducible exact impl_ParseTime.mono _ _ _)
   | (with_reducible exact impl_SecondOf.mono _ _ _ _)
   | (with_reducible exact impl_SmallAngle.mono _ _ _ _)
   | (with_reducible exact impl_TimeOf.mono _ _ _ _ _)
   | (with_reducible exact impl_TimeText.mono _ _ _ _)
   | (with_reducible exact impl_TimesWithLong.mono _ _ _ _)
   | (with_reducible exact laws_wRises.mono _ _)
   | (with_reducible exact laws_wTurns.mono _ _ _)
   | (with_reducible exact spec_AngleOf.mono _ _ _ _)
   | (with_reducible exact spec_HourOf.mono _ _ _ _)
   | (with_reducible exact spec_LongHand.mono _ _ _ _)
   | (with_reducible exact spec_MinuteOf.mono _ _ _ _)
   | (with_reducible exact spec_ParseTime.mono _ _ _)
   | (with_reducible exact spec_SecondOf.mono _ _ _ _)
   | (with_reducible exact spec_SmallAngle.mono _ _ _ _)
   | (with_reducible exact spec_TimeOf.mono _ _ _ _ _)
   | (with_reducible exact spec_TimeText.mono _ _ _ _)
   | (with_reducible exact spec_TimesWithLong.mono _ _ _ _)
   | (with_reducible exact LeO.refl _)
   | (with_reducible exact LeO.none _)
   | (with_reducible refine LeO.ite ?_ ?_)
   | (with_reducible refine LeO.bind ?_ (fun _ => ?_))
   | apply ih0
   | apply ih1
   | apply ih2
   | apply ih3
   | apply ih4
   | apply ih5
   | apply ih6
   | apply ih7
   | exact impl_AddTurns.mono _ _ _ _ _
   | exact impl_AngleOf.mono _ _ _ _
   | exact impl_HourOf.mono _ _ _ _
   | exact impl_LongHand.mono _ _ _ _
   | exact impl_MinuteOf.mono _ _ _ _
   | exact impl_ParseTime.mono _ _ _
   | exact impl_SecondOf.mono _ _ _ _
   | exact impl_SmallAngle.mono _ _ _ _
   | exact impl_TimeOf.mono _ _ _ _ _
   | exact impl_TimeText.mono _ _ _ _
   | exact impl_TimesWithLong.mono _ _ _ _
   | exact laws_wRises.mono _ _
   | exact laws_wTurns.mono _ _ _
   | exact spec_AngleOf.mono _ _ _ _
   | exact spec_HourOf.mono _ _ _ _
   | exact spec_LongHand.mono _ _ _ _
   | exact spec_MinuteOf.mono _ _ _ _
   | exact spec_ParseTime.mono _ _ _
   | exact spec_SecondOf.mono _ _ _ _
   | exact spec_SmallAngle.mono _ _ _ _
   | exact spec_TimeOf.mono _ _ _ _ _
   | exact spec_TimeText.mono _ _ _ _
   | exact spec_TimesWithLong.mono _ _ _ _
   | exact LeO.none _
   | refine LeO.ite ?_ ?_
   | refine LeO.bind ?_ (fun _ => ?_)
  ·intro y0 y1 y2 y3 y4 y5
   unfold laws_FnHandsStandOfAll.j5
   repeat' first
   | (with_reducible apply ih0)
   | (with_reducible apply ih1)
   | (with_reducible apply ih2)
   | (with_reducible apply ih3)
   | (with_reducible apply ih4)
   | (with_reducible apply ih5)
   | (with_reducible apply ih6)
   | (with_reducible apply ih7)
   | (with_reducible exact impl_AddTurns.mono _ _ _ _ _)
   | (with_reducible exact impl_AngleOf.mono _ _ _ _)
   | (with_reducible exact impl_HourOf.mono _ _ _ _)
   | (with_reducible exact impl_LongHand.mono _ _ _ _)
   | (with_reducible exact impl_MinuteOf.mono _ _ _ _)
   | (with_reducible exact impl_ParseTime.mono _ _ _)
   | (with_reducible exact impl_SecondOf.mono _ _ _ _)
   | (with_reducible exact impl_SmallAngle.mono _ _ _ _)
   | (with_reducible exact impl_TimeOf.mono _ _ _ _ _)
   | (with_reducible exact impl_TimeText.mono _ _ _ _)
   | (with_reducible exact impl_TimesWithLong.mono _ _ _ _)
   | (with_reducible exact laws_wRises.mono _ _)
   | (with_reducible exact laws_wTurns.mono _ _ _)
   | (with_reducible exact spec_AngleOf.mono _ _ _ _)
   | (with_reducible exact spec_HourOf.mono _ _ _ _)
   | (with_reducible exact spec_LongHand.mono _ _ _ _)
   | (with_reducible exact spec_MinuteOf.mono _ _ _ _)
   | (with_reducible exact spec_ParseTime.mono _ _ _)
   | (with_reducible exact spec_SecondOf.mono _ _ _ _)
   | (with_reducible exact spec_SmallAngle.mono _ _ _ _)
   | (with_reducible exact spec_TimeOf.mono _ _ _ _ _)
   | (with_reducible exact spec_TimeText.mono _ _ _ _)
   | (with_reducible exact spec_TimesWithLong.mono _ _ _ _)
   | (with_reducible exact LeO.refl _)
   | (with_reducible exact LeO.none _)
   | (with_reducible refine LeO.ite ?_ ?_)
   | (with_reducible refine LeO.bind ?_ (fun _ => ?_))
   | apply ih0
   | apply ih1
   | apply ih2
   | apply ih3
   | apply ih4
   | apply ih5
   | apply ih6
   | apply ih7
   | exact impl_AddTurns.mono _ _ _ _ _
   | exact impl_AngleOf.mono _ _ _ _
   | exact impl_HourOf.mono _ _ _ _
   | exact impl_LongHand.mono _ _ _ _
   | exact impl_MinuteOf.mono _ _ _ _
   | exact impl_ParseTime.mono _ _ _
   | exact impl_SecondOf.mono _ _ _ _
   | exact impl_SmallAngle.mono _ _ _ _
   | exact impl_TimeOf.mono _ _ _ _ _
   | exact impl_TimeText.mono _ _ _ _
   | exact impl_TimesWithLong.mono _ _ _ _
   | exact laws_wRises.mono _ _
   | exact laws_wTurns.mono _ _ _
   | exact spec_AngleOf.mono _ _ _ _
   | exact spec_HourOf.mono _ _ _ _
   | exact spec_LongHand.mono _ _ _ _
   | exact spec_MinuteOf.mono _ _ _ _
   | exact spec_ParseTime.mono _ _ _
   | exact spec_SecondOf.mono _ _ _ _
   | exact spec_SmallAngle.mono _ _ _ _
   | exact spec_TimeOf.mono _ _ _ _ _
   | exact spec_TimeText.mono _ _ _ _
   | exact spec_TimesWithLong.mono _ _ _ _
   | exact LeO.none _
   | refine LeO.ite ?_ ?_
   | refine LeO.bind ?_ (fun _ => ?_)
  ·intro y0 y1 y2 y3 y4 y5 y6 y7 y8 y9 y10 y11 y12
   unfold laws_FnHandsStandOfAll.j6
   repeat' first
   | (with_reducible apply ih0)
   | (with_reducible apply ih1)
   | (with_reducible apply ih2)
   | (with_reducible apply ih3)
   | (with_reducible apply ih4)
   | (with_reducible apply ih5)
   | (with_reducible apply ih6)
   | (with_reducible apply ih7)
   | (with_reducible exact impl_AddTurns.mono _ _ _ _ _)
   | (with_reducible exact impl_AngleOf.mono _ _ _ _)
   | (with_reducible exact impl_HourOf.mono _ _ _ _)
   | (with_reducible exact impl_LongHand.mono _ _ _ _)
   | (with_reducible exact impl_MinuteOf.mono _ _ _ _)
   | (with_reducible exact impl_ParseTime.mono _ _ _)
   | (with_reducible exact impl_SecondOf.mono _ _ _ _)
   | (with_reducible exact impl_SmallAngle.mono _ _ _ _)
   | (with_reducible exact impl_TimeOf.mono _ _ _ _ _)
   | (with_reducible exact impl_TimeText.mono _ _ _ _)
   | (with_reducible exact impl_TimesWithLong.mono _ _ _ _)
   | (with_reducible exact laws_wRises.mono _ _)
   | (with_reducible exact laws_wTurns.mono _ _ _)
   | (with_reducible exact spec_AngleOf.mono _ _ _ _)
   | (with_reducible exact spec_HourOf.mono _ _ _ _)
   | (with_reducible exact spec_LongHand.mono _ _ _ _)
   | (with_reducible exact spec_MinuteOf.mono _ _ _ _)
   | (with_reducible exact spec_ParseTime.mono _ _ _)
   | (with_reducible exact spec_SecondOf.mono _ _ _ _)
   | (with_reducible exact spec_SmallAngle.mono _ _ _ _)
   | (with_reducible exact spec_TimeOf.mono _ _ _ _ _)
   | (with_reducible exact spec_TimeText.mono _ _ _ _)
   | (with_reducible exact spec_TimesWithLong.mono _ _ _ _)
   | (with_reducible exact LeO.refl _)
   | (with_reducible exact LeO.none _)
   | (with_reducible refine LeO.ite ?_ ?_)
   | (with_reducible refine LeO.bind ?_ (fun _ => ?_))
   | apply ih0
   | apply ih1
   | apply ih2
   | apply ih3
   | apply ih4
   | apply ih5
   | apply ih6
   | apply ih7
   | exact impl_AddTurns.mono _ _ _ _ _
   | exact impl_AngleOf.mono _ _ _ _
   | exact impl_HourOf.mono _ _ _ _
   | exact impl_LongHand.mono _ _ _ _
   | exact impl_MinuteOf.mono _ _ _ _
   | exact impl_ParseTime.mono _ _ _
   | exact impl_SecondOf.mono _ _ _ _
   | exact impl_SmallAngle.mono _ _ _ _
   | exact impl_TimeOf.mono _ _ _ _ _
   | exact impl_TimeText.mono _ _ _ _
   | exact impl_TimesWithLong.mono _ _ _ _
   | exact laws_wRises.mono _ _
   | exact laws_wTurns.mono _ _ _
   | exact spec_AngleOf.mono _ _ _ _
   | exact spec_HourOf.mono _ _ _ _
   | exact spec_LongHand.mono _ _ _ _
   | exact spec_MinuteOf.mono _ _ _ _
   | exact spec_ParseTime.mono _ _ _
   | exact spec_SecondOf.mono _ _ _ _
   | exact spec_SmallAngle.mono _ _ _ _
   | exact spec_TimeOf.mono _ _ _ _ _
   | exact spec_TimeText.mono _ _ _ _
   | exact spec_TimesWithLong.mono _ _ _ _
   | exact LeO.none _
   | refine LeO.ite ?_ ?_
   | refine LeO.bind ?_ (fun _ => ?_)
  ·intro y0 y1 y2 y3 y4 y5
   unfold laws_FnHandsStandOfAll.j7
   repeat' first
   | (with_reducible apply ih0)
   | (with_reducible apply ih1)
   | (with_reducible apply ih2)
   | (with_reducible apply ih3)
   | (with_reducible apply ih4)
   | (with_reducible apply ih5)
   | (with_reducible apply ih6)
   | (with_reducible apply ih7)
   | (with_reducible exact impl_AddTurns.mono _ _ _ _ _)
   | (with_reducible exact impl_AngleOf.mono _ _ _ _)
   | (with_reducible exact impl_HourOf.mono _ _ _ _)
   | (with_reducible exact impl_LongHand.mono _ _ _ _)
   | (with_reducible exact impl_MinuteOf.mono _ _ _ _)
   | (with_reducible exact impl_ParseTime.mono _ _ _)
   | (with_reducible exact impl_SecondOf.mono _ _ _ _)
   | (with_reducible exact impl_SmallAngle.mono _ _ _ _)
   | (with_reducible exact impl_TimeOf.mono _ _ _ _ _)
   | (with_reducible exact impl_TimeText.mono _ _ _ _)
   | (with_reducible exact impl_TimesWithLong.mono _ _ _ _)
   | (with_reducible exact laws_wRises.mono _ _)
   | (with_reducible exact laws_wTurns.mono _ _ _)
   | (with_reducible exact spec_AngleOf.mono _ _ _ _)
   | (with_reducible exact spec_HourOf.mono _ _ _ _)
   | (with_reducible exact spec_LongHand.mono _ _ _ _)
   | (with_reducible exact spec_MinuteOf.mono _ _ _ _)
   | (with_reducible exact spec_ParseTime.mono _ _ _)
   | (with_reducible exact spec_SecondOf.mono _ _ _ _)
   | (with_reducible exact spec_SmallAngle.mono _ _ _ _)
   | (with_reducible exact spec_TimeOf.mono _ _ _ _ _)
   | (with_reducible exact spec_TimeText.mono _ _ _ _)
   | (with_reducible exact spec_TimesWithLong.mono _ _ _ _)
   | (with_reducible exact LeO.refl _)
   | (with_reducible exact LeO.none _)
   | (with_reducible refine LeO.ite ?_ ?_)
   | (with_reducible refine LeO.bind ?_ (fun _ => ?_))
   | apply ih0
   | apply ih1
   | apply ih2
   | apply ih3
   | apply ih4
   | apply ih5
   | apply ih6
   | apply ih7
   | exact impl_AddTurns.mono _ _ _ _ _
   | exact impl_AngleOf.mono _ _ _ _
   | exact impl_HourOf.mono _ _ _ _
   | exact impl_LongHand.mono _ _ _ _
   | exact impl_MinuteOf.mono _ _ _ _
   | exact impl_ParseTime.mono _ _ _
   | exact impl_SecondOf.mono _ _ _ _
   | exact impl_SmallAngle.mono _ _ _ _
   | exact impl_TimeOf.mono _ _ _ _ _
   | exact impl_TimeText.mono _ _ _ _
   | exact impl_TimesWithLong.mono _ _ _ _
   | exact laws_wRises.mono _ _
   | exact laws_wTurns.mono _ _ _
   | exact spec_AngleOf.mono _ _ _ _
   | exact spec_HourOf.mono _ _ _ _
   | exact spec_LongHand.mono _ _ _ _
   | exact spec_MinuteOf.mono _ _ _ _
   | exact spec_ParseTime.mono _ _ _
   | exact spec_SecondOf.mono _ _ _ _
   | exact spec_SmallAngle.mono _ _ _ _
   | exact spec_TimeOf.mono _ _ _ _ _
   | exact spec_TimeText.mono _ _ _ _
   | exact spec_TimesWithLong.mono _ _ _ _
   | exact LeO.none _
   | refine LeO.ite ?_ ?_
   | refine LeO.bind ?_ (fun _ => ?_)
  ·intro y0 y1 y2 y3 y4 y5 y6 y7 y8 y9 y10
   unfold laws_FnHandsStandOfAll.j3
   repeat' first
   | (with_reducible apply ih0)
   | (with_reducible apply ih1)
   | (with_reducible apply ih2)
   | (with_reducible apply ih3)
   | (with_reducible apply ih4)
   | (with_reducible apply ih5)
   | (with_reducible apply ih6)
   | (with_reducible apply ih7)
   | (with_reducible exact impl_AddTurns.mono _ _ _ _ _)
   | (with_reducible exact impl_AngleOf.mono _ _ _ _)
   | (with_reducible exact impl_HourOf.mono _ _ _ _)
   | (with_reducible exact impl_LongHand.mono _ _ _ _)
   | (with_reducible exact impl_MinuteOf.mono _ _ _ _)
   | (with_reducible exact impl_ParseTime.mono _ _ _)
   | (with_reducible exact impl_SecondOf.mono _ _ _ _)
   | (with_reducible exact impl_SmallAngle.mono _ _ _ _)
   | (with_reducible exact impl_TimeOf.mono _ _ _ _ _)
   | (with_reducible exact impl_TimeText.mono _ _ _ _)
   | (with_reducible exact impl_TimesWithLong.mono _ _ _ _)
   | (with_reducible exact laws_wRises.mono _ _)
   | (with_reducible exact laws_wTurns.mono _ _ _)
   | (with_reducible exact spec_AngleOf.mono _ _ _ _)
   | (with_reducible exact spec_HourOf.mono _ _ _ _)
   | (with_reducible exact spec_LongHand.mono _ _ _ _)
   | (with_reducible exact spec_MinuteOf.mono _ _ _ _)
   | (with_reducible exact spec_ParseTime.mono _ _ _)
   | (with_reducible exact spec_SecondOf.mono _ _ _ _)
   | (with_reducible exact spec_SmallAngle.mono _ _ _ _)
   | (with_reducible exact spec_TimeOf.mono _ _ _ _ _)
   | (with_reducible exact spec_TimeText.mono _ _ _ _)
   | (with_reducible exact spec_TimesWithLong.mono _ _ _ _)
   | (with_reducible exact LeO.refl _)
   | (with_reducible exact LeO.none _)
   | (with_reducible refine LeO.ite ?_ ?_)
   | (with_reducible refine LeO.bind ?_ (fun _ => ?_))
   | apply ih0
   | apply ih1
   | apply ih2
   | apply ih3
   | apply ih4
   | apply ih5
   | apply ih6
   | apply ih7
   | exact impl_AddTurns.mono _ _ _ _ _
   | exact impl_AngleOf.mono _ _ _ _
   | exact impl_HourOf.mono _ _ _ _
   | exact impl_LongHand.mono _ _ _ _
   | exact impl_MinuteOf.mono _ _ _ _
   | exact impl_ParseTime.mono _ _ _
   | exact impl_SecondOf.mono _ _ _ _
   | exact impl_SmallAngle.mono _ _ _ _
   | exact impl_TimeOf.mono _ _ _ _ _
   | exact impl_TimeText.mono _ _ _ _
   | exact impl_TimesWithLong.mono _ _ _ _
   | exact laws_wRises.mono _ _
   | exact laws_wTurns.mono _ _ _
   | exact spec_AngleOf.mono _ _ _ _
   | exact spec_HourOf.mono _ _ _ _
   | exact spec_LongHand.mono _ _ _ _
   | exact spec_MinuteOf.mono _ _ _ _
   | exact spec_ParseTime.mono _ _ _
   | exact spec_SecondOf.mono _ _ _ _
   | exact spec_SmallAngle.mono _ _ _ _
   | exact spec_TimeOf.mono _ _ _ _ _
   | exact spec_TimeText.mono _ _ _ _
   | exact spec_TimesWithLong.mono _ _ _ _
   | exact LeO.none _
   | refine LeO.ite ?_ ?_
   | refine LeO.bind ?_ (fun _ => ?_)
  ·intro y0 y1 y2 y3 y4 y5 y6 y7 y8 y9 y10 y11
   unfold laws_FnHandsStandOfAll.l0
   repeat' first
   | (with_reducible apply ih0)
   | (with_reducible apply ih1)
   | (with_reducible apply ih2)
   | (with_reducible apply ih3)
   | (with_reducible apply ih4)
   | (with_reducible apply ih5)
   | (with_reducible apply ih6)
   | (with_reducible apply ih7)
   | (with_reducible exact impl_AddTurns.mono _ _ _ _ _)
   | (with_reducible exact impl_AngleOf.mono _ _ _ _)
   | (with_reducible exact impl_HourOf.mono _ _ _ _)
   | (with_reducible exact impl_LongHand.mono _ _ _ _)
   | (with_reducible exact impl_MinuteOf.mono _ _ _ _)
   | (with_reducible exact impl_ParseTime.mono _ _ _)
   | (with_reducible exact impl_SecondOf.mono _ _ _ _)
   | (with_reducible exact impl_SmallAngle.mono _ _ _ _)
   | (with_reducible exact impl_TimeOf.mono _ _ _ _ _)
   | (with_reducible exact impl_TimeText.mono _ _ _ _)
   | (with_reducible exact impl_TimesWithLong.mono _ _ _ _)
   | (with_reducible exact laws_wRises.mono _ _)
   | (with_reducible exact laws_wTurns.mono _ _ _)
   | (with_reducible exact spec_AngleOf.mono _ _ _ _)
   | (with_reducible exact spec_HourOf.mono _ _ _ _)
   | (with_reducible exact spec_LongHand.mono _ _ _ _)
   | (with_reducible exact spec_MinuteOf.mono _ _ _ _)
   | (with_reducible exact spec_ParseTime.mono _ _ _)
   | (with_reducible exact spec_SecondOf.mono _ _ _ _)
   | (with_reducible exact spec_SmallAngle.mono _ _ _ _)
   | (with_reducible exact spec_TimeOf.mono _ _ _ _ _)
   | (with_reducible exact spec_TimeText.mono _ _ _ _)
   | (with_reducible exact spec_TimesWithLong.mono _ _ _ _)
   | (with_reducible exact LeO.refl _)
   | (with_reducible exact LeO.none _)
   | (with_reducible refine LeO.ite ?_ ?_)
   | (with_reducible refine LeO.bind ?_ (fun _ => ?_))
   | apply ih0
   | apply ih1
   | apply ih2
   | apply ih3
   | apply ih4
   | apply ih5
   | apply ih6
   | apply ih7
   | exact impl_AddTurns.mono _ _ _ _ _
   | exact impl_AngleOf.mono _ _ _ _
   | exact impl_HourOf.mono _ _ _ _
   | exact impl_LongHand.mono _ _ _ _
   | exact impl_MinuteOf.mono _ _ _ _
   | exact impl_ParseTime.mono _ _ _
   | exact impl_SecondOf.mono _ _ _ _
   | exact impl_SmallAngle.mono _ _ _ _
   | exact impl_TimeOf.mono _ _ _ _ _
   | exact impl_TimeText.mono _ _ _ _
   | exact impl_TimesWithLong.mono _ _ _ _
   | exact laws_wRises.mono _ _
   | exact laws_wTurns.mono _ _ _
   | exact spec_AngleOf.mono _ _ _ _
   | exact spec_HourOf.mono _ _ _ _
   | exact spec_LongHand.mono _ _ _ _
   | exact spec_MinuteOf.mono _ _ _ _
   | exact spec_ParseTime.mono _ _ _
   | exact spec_SecondOf.mono _ _ _ _
   | exact spec_SmallAngle.mono _ _ _ _
   | exact spec_TimeOf.mono _ _ _ _ _
   | exact spec_TimeText.mono _ _ _ _
   | exact spec_TimesWithLong.mono _ _ _ _
   | exact LeO.none _
   | refine LeO.ite ?_ ?_
   | refine LeO.bind ?_ (fun _ => ?_)
  ·intro y0 y1 y2 y3 y4 y5 y6 y7 y8 y9 y10 y11 y12 y13 y14 y15
   unfold laws_FnHandsStandOfAll.j1
   repeat' first
   | (with_reducible apply ih0)
   | (with_reducible apply ih1)
   | (with_reducible apply ih2)
   | (with_reducible apply ih3)
   | (with_reducible apply ih4)
   | (with_reducible apply ih5)
   | (with_reducible apply ih6)
   | (with_reducible apply ih7)
   | (with_reducible exact impl_AddTurns.mono _ _ _ _ _)
   | (with_reducible exact impl_AngleOf.mono _ _ _ _)
   | (with_reducible exact impl_HourOf.mono _ _ _ _)
   | (with_reducible exact impl_LongHand.mono _ _ _ _)
   | (with_reducible exact impl_MinuteOf.mono _ _ _ _)
   | (with_reducible exact impl_ParseTime.mono _ _ _)
   | (with_reducible exact impl_SecondOf.mono _ _ _ _)
   | (with_reducible exact impl_SmallAngle.mono _ _ _ _)
   | (with_reducible exact impl_TimeOf.mono _ _ _ _ _)
   | (with_reducible exact impl_TimeText.mono _ _ _ _)
   | (with_reducible exact impl_TimesWithLong.mono _ _ _ _)
   | (with_reducible exact laws_wRises.mono _ _)
   | (with_reducible exact laws_wTurns.mono _ _ _)
   | (with_reducible exact spec_AngleOf.mono _ _ _ _)
   | (with_reducible exact spec_HourOf.mono _ _ _ _)
   | (with_reducible exact spec_LongHand.mono _ _ _ _)
   | (with_reducible exact spec_MinuteOf.mono _ _ _ _)
   | (with_reducible exact spec_ParseTime.mono _ _ _)
   | (with_reducible exact spec_SecondOf.mono _ _ _ _)
   | (with_reducible exact spec_SmallAngle.mono _ _ _ _)
   | (with_reducible exact spec_TimeOf.mono _ _ _ _ _)
   | (with_reducible exact spec_TimeText.mono _ _ _ _)
   | (with_reducible exact spec_TimesWithLong.mono _ _ _ _)
   | (with_reducible exact LeO.refl _)
   | (with_reducible exact LeO.none _)
   | (with_reducible refine LeO.ite ?_ ?_)
   | (with_reducible refine LeO.bind ?_ (fun _ => ?_))
   | apply ih0
   | apply ih1
   | apply ih2
   | apply ih3
   | apply ih4
   | apply ih5
   | apply ih6
   | apply ih7
   | exact impl_AddTurns.mono _ _ _ _ _
   | exact impl_AngleOf.mono _ _ _ _
   | exact impl_HourOf.mono _ _ _ _
   | exact impl_LongHand.mono _ _ _ _
   | exact impl_MinuteOf.mono _ _ _ _
   | exact impl_ParseTime.mono _ _ _
   | exact impl_SecondOf.mono _ _ _ _
   | exact impl_SmallAngle.mono _ _ _ _
   | exact impl_TimeOf.mono _ _ _ _ _
   | exact impl_TimeText.mono _ _ _ _
   | exact impl_TimesWithLong.mono _ _ _ _
   | exact laws_wRises.mono _ _
   | exact laws_wTurns.mono _ _ _
   | exact spec_AngleOf.mono _ _ _ _
   | exact spec_HourOf.mono _ _ _ _
   | exact spec_LongHand.mono _ _ _ _
   | exact spec_MinuteOf.mono _ _ _ _
   | exact spec_ParseTime.mono _ _ _
   | exact spec_SecondOf.mono _ _ _ _
   | exact spec_SmallAngle.mono _ _ _ _
   | exact spec_TimeOf.mono _ _ _ _ _
   | exact spec_TimeText.mono _ _ _ _
   | exact spec_TimesWithLong.mono _ _ _ _
   | exact LeO.none _
   | refine LeO.ite ?_ ?_
   | refine LeO.bind ?_ (fun _ => ?_)
theorem laws_FnHandsStandOfAll.mono : ∀ a0 a1 a2 a3 a4 a5 a6 a7 a8 k, LeO (laws_FnHandsStandOfAll.f k a0 a1 a2 a3 a4 a5 a6 a7 a8) (laws_FnHandsStandOfAll.f (k + 1) a0 a1 a2 a3 a4 a5 a6 a7 a8) := by
 intro a0 a1 a2 a3 a4 a5 a6 a7 a8 k
 obtain ⟨ih0, ih1, ih2, ih3, ih4, ih5, ih6, ih7⟩ := laws_FnHandsStandOfAll.mono_l k
 unfold laws_FnHandsStandOfAll.f
 repeat' first
   | (with_reducible apply ih0)
   | (with_reducible apply ih1)
   | (with_reducible apply ih2)
   | (with_reducible apply ih3)
   | (with_reducible apply ih4)
   | (with_reducible apply ih5)
   | (with_reducible apply ih6)
   | (with_reducible apply ih7)
   | (with_reducible exact impl_AddTurns.mono _ _ _ _ _)
   | (with_reducible exact impl_AngleOf.mono _ _ _ _)
   | (with_reducible exact impl_HourOf.mono _ _ _ _)
   | (with_reducible exact impl_LongHand.mono _ _ _ _)
   | (with_reducible exact impl_MinuteOf.mono _ _ _ _)
   | (with_reducible exact impl_ParseTime.mono _ _ _)
   | (with_reducible exact impl_SecondOf.mono _ _ _ _)
   | (with_reducible exact impl_SmallAngle.mono _ _ _ _)
   | (with_reducible exact impl_TimeOf.mono _ _ _ _ _)
   | (with_reducible exact impl_TimeText.mono _ _ _ _)
   | (with_reducible exact impl_TimesWithLong.mono _ _ _ _)
   | (with_reducible exact laws_wRises.mono _ _)
   | (with_reducible exact laws_wTurns.mono _ _ _)
   | (with_reducible exact spec_AngleOf.mono _ _ _ _)
   | (with_reducible exact spec_HourOf.mono _ _ _ _)
   | (with_reducible exact spec_LongHand.mono _ _ _ _)
   | (with_reducible exact spec_MinuteOf.mono _ _ _ _)
   | (with_reducible exact spec_ParseTime.mono _ _ _)
   | (with_reducible exact spec_SecondOf.mono _ _ _ _)
   | (with_reducible exact spec_SmallAngle.mono _ _ _ _)
   | (with_reducible exact spec_TimeOf.mono _ _ _ _ _)
   | (with_reducible exact spec_TimeText.mono _ _ _ _)
   | (with_reducible exact spec_TimesWithLong.mono _ _ _ _)
   | (with_reducible exact LeO.refl _)
   | (with_reducible exact LeO.none _)
   | (with_reducible refine LeO.ite ?_ ?_)
   | (with_reducible refine LeO.bind ?_ (fun _ => ?_))
   | apply ih0
   | apply ih1
   | apply ih2
   | apply ih3
   | apply ih4
   | apply ih5
   | apply ih6
   | apply ih7
   | exact impl_AddTurns.mono _ _ _ _ _
   | exact impl_AngleOf.mono _ _ _ _
   | exact impl_HourOf.mono _ _ _ _
   | exact impl_LongHand.mono _ _ _ _
   | exact impl_MinuteOf.mono _ _ _ _
   | exact impl_ParseTime.mono _ _ _
   | exact impl_SecondOf.mono _ _ _ _
   | exact impl_SmallAngle.mono _ _ _ _
   | exact impl_TimeOf.mono _ _ _ _ _
   | exact impl_TimeText.mono _ _ _ _
   | exact impl_TimesWithLong.mono _ _ _ _
   | exact laws_wRises.mono _ _
   | exact laws_wTurns.mono _ _ _
   | exact spec_AngleOf.mono _ _ _ _
   | exact spec_HourOf.mono _ _ _ _
   | exact spec_LongHand.mono _ _ _ _
   | exact spec_MinuteOf.mono _ _ _ _
   | exact spec_ParseTime.mono _ _ _
   | exact spec_SecondOf.mono _ _ _ _
   | exact spec_SmallAngle.mono _ _ _ _
   | exact spec_TimeOf.mono _ _ _ _ _
   | exact spec_TimeText.mono _ _ _ _
   | exact spec_TimesWithLong.mono _ _ _ _
   | exact LeO.none _
   | refine LeO.ite ?_ ?_
   | refine LeO.bind ?_ (fun _ => ?_)
theorem laws_FnHandsStandOfAll.j0_no {k_} {y0} {y1} {y2} {y3} {y4} {y5} {y6} {y7} {y8} {y9} {y10} {y11} {y12} {y14} {y15} {y16} {y17} {y18} {y19} {y20} {y21} {y22} {y23} {r : Bool} (h : laws_FnHandsStandOfAll.j0 k_ y0 y1 y2 y3 y4 y5 y6 y7 y8 y9 y10 y11 y12 true y14 y15 y16 y17 y18 y19 y20 y21 y22 y23 = some r) : r = false := by
 cases k_ with
 | zero => simp [laws_FnHandsStandOfAll.j0] at h
 | succ k_ =>
  have e : laws_FnHandsStandOfAll.j0 (k_ + 1) y0 y1 y2 y3 y4 y5 y6 y7 y8 y9 y10 y11 y12 true y14 y15 y16 y17 y18 y19 y20 y21 y22 y23 = some false := by simp only [laws_FnHandsStandOfAll.j0]; first | rfl | (rw [if_pos rfl]) | simp
  rw [e] at h
  exact (Option.some.inj h).symm
theorem laws_FnHandsStandOfAll.j1_no {k_} {y0} {y1} {y2} {y3} {y4} {y5} {y6} {y7} {y8} {y9} {y10} {y12} {y13} {y14} {y15} {r : Bool} (h : laws_FnHandsStandOfAll.j1 k_ y0 y1 y2 y3 y4 y5 y6 y7 y8 y9 y10 true y12 y13 y14 y15 = some r) : r = false := by
 cases k_ with
 | zero => simp [laws_FnHandsStandOfAll.j1] at h
 | succ k_ =>
  have e : laws_FnHandsStandOfAll.j1 (k_ + 1) y0 y1 y2 y3 y4 y5 y6 y7 y8 y9 y10 true y12 y13 y14 y15 = some false := by simp only [laws_FnHandsStandOfAll.j1]; first | rfl | (rw [if_pos rfl]) | simp
  rw [e] at h
  exact (Option.some.inj h).symm
theorem laws_FnHandsStandOfAll.j3_no {k_} {y0} {y1} {y2} {y3} {y4} {y5} {y6} {y7} {y9} {y10} {r : Bool} (h : laws_FnHandsStandOfAll.j3 k_ y0 y1 y2 y3 y4 y5 y6 y7 true y9 y10 = some r) : r = false := by
 cases k_ with
 | zero => simp [laws_FnHandsStandOfAll.j3] at h
 | succ k_ =>
  have e : laws_FnHandsStandOfAll.j3 (k_ + 1) y0 y1 y2 y3 y4 y5 y6 y7 true y9 y10 = some false := by simp only [laws_FnHandsStandOfAll.j3]; first | rfl | (rw [if_pos rfl]) | simp
  rw [e] at h
  exact (Option.some.inj h).symm
theorem laws_FnHandsStandOfAll.j6_no {k_} {y0} {y1} {y2} {y3} {y4} {y5} {y6} {y7} {y9} {y10} {y11} {y12} {r : Bool} (h : laws_FnHandsStandOfAll.j6 k_ y0 y1 y2 y3 y4 y5 y6 y7 true y9 y10 y11 y12 = some r) : r = false := by
 cases k_ with
 | zero => simp [laws_FnHandsStandOfAll.j6] at h
 | succ k_ =>
  have e : laws_FnHandsStandOfAll.j6 (k_ + 1) y0 y1 y2 y3 y4 y5 y6 y7 true y9 y10 y11 y12 = some false := by simp only [laws_FnHandsStandOfAll.j6]; first | rfl | (rw [if_pos rfl]) | simp
  rw [e] at h
  exact (Option.some.inj h).symm
theorem laws_FnHandsStandOfAll.j7_no {k_} {y0} {y1} {y2} {y4} {y5} {r : Bool} (h : laws_FnHandsStandOfAll.j7 k_ y0 y1 y2 true y4 y5 = some r) : r = false := by
 cases k_ with
 | zero => simp [laws_FnHandsStandOfAll.j7] at h
 | succ k_ =>
  have e : laws_FnHandsStandOfAll.j7 (k_ + 1) y0 y1 y2 true y4 y5 = some false := by simp only [laws_FnHandsStandOfAll.j7]; first | rfl | (rw [if_pos rfl]) | simp
  rw [e] at h
  exact (Option.some.inj h).symm
end Go.Proofs.YtchglfpiicaedaaGreatDoor.PFnHandsStandOfAll
