-- WRITTEN BY A PROGRAM OF THIS SESSION (wip/tools): its own text, not the kit's printed one.
import Derived.Test.YtcoembcafgelkaaPFnHandsAheadOfAllx0
import Derived.Test.YtcoembcafgelkaaPFnHandsAheadOfAllx1
import Derived.Test.YtcoembcafgelkaaPFnHandsAheadOfAllx2
import Derived.Test.YtcoembcafgelkaaPFnHandsAheadOfAllx6
import Derived.Test.YtcoembcafgelkaaPFnHandsAheadOfAllx8
import Derived.Test.YtcoembcafgelkaaPFnHandsAheadOfAllx9
import Derived.Test.YtcoembcafgelkaaPFnHandsAheadOfAllx10
import Derived.Test.YtcoembcafgelkaaPFnHandsAheadOfAllx11
import Derived.Test.YtcoembcafgelkaaPFnHandsAheadOfAllx12
import Derived.Test.YtcoembcafgelkaaPFnHandsAheadOfAllx13
namespace Go.Proofs.Ytcoembcafgelkaa.PFnHandsAheadOfAll
open Go.RowKit Go.Proofs.YtcoembcafgelkaaW.PrintWords Go.Proofs.YtcoembcafgelkaaW.PrintLast Go.Proofs.YtcoembcafgelkaaW.PrintMore
attribute [local go_sem] max2_int min2_int max_two min_two max_three min_three max_four min_four   -- for this text's walks alone
set_option linter.unusedVariables false
set_option linter.unusedSimpArgs false

attribute [local go_sem high] eqA23 eqA25
/-! ### laws_FnHandsAheadOfAll: function 3 -/
mutual
def laws_FnHandsAheadOfAll.j0 : Nat → List (S23) → Bool → Bool → Bool → List (S23) → Bool → Bool → Int → Int → Int → Int → Int → Int → Int → Int → Int → Int → Int → Int → Int → Int → Int → Int → Int → Int → Int → Int → Int → Int → Int → Int → Int → Int → Int → Option (Bool)
 | 0, _, _, _, _, _, _, _, _, _, _, _, _, _, _, _, _, _, _, _, _, _, _, _, _, _, _, _, _, _, _, _, _, _, _ => none
 | k + 1, x17, x18, x22, x26, x29, x30, x158, x444000, x444001, x444002, x445000, x445001, x445002, x446000, x446001, x447000, x447001, x447002, x448000, x448001, x448002, x449000, x449001, x449002, x450000, x450001, x450002, x451000, x451001, x463000, x463001, x472000, x472001, x472002 => if x158 = true then (some false) else (if x18 = true then ((laws_kAbs.f (wrap64 (x444002 - x445002))).bind fun t487 => (if (x17.length : Int) = t487 then ((laws_kRises.f k x17).bind fun t488 => (laws_FnHandsAheadOfAll.j1 k x17 x22 x26 x29 x30 (!t488) x444000 x444001 x444002 x445000 x445001 x445002 x446000 x446001 x447000 x447001 x447002 x448000 x448001 x448002 x449000 x449001 x449002 x450000 x450001 x450002 x451000 x451001 x463000 x463001 x472000 x472001 x472002)) else (laws_FnHandsAheadOfAll.j1 k x17 x22 x26 x29 x30 true x444000 x444001 x444002 x445000 x445001 x445002 x446000 x446001 x447000 x447001 x447002 x448000 x448001 x448002 x449000 x449001 x449002 x450000 x450001 x450002 x451000 x451001 x463000 x463001 x472000 x472001 x472002))) else (laws_FnHandsAheadOfAll.j3 k x22 x26 x29 x30 x444000 x444001 x444002 x445000 x445001 x445002 x446000 x446001 x447000 x447001 x447002 x448000 x448001 x448002 x449000 x449001 x449002 x450000 x450001 x450002 x451000 x451001 x463000 x463001 x472000 x472001 x472002))
def laws_FnHandsAheadOfAll.j3 : Nat → Bool → Bool → List (S23) → Bool → Int → Int → Int → Int → Int → Int → Int → Int → Int → Int → Int → Int → Int → Int → Int → Int → Int → Int → Int → Int → Int → Int → Int → Int → Int → Int → Int → Option (Bool)
 | 0, _, _, _, _, _, _, _, _, _, _, _, _, _, _, _, _, _, _, _, _, _, _, _, _, _, _, _, _, _, _, _ => none
 | k + 1, x22, x26, x29, x30, x444000, x444001, x444002, x445000, x445001, x445002, x446000, x446001, x447000, x447001, x447002, x448000, x448001, x448002, x449000, x449001, x449002, x450000, x450001, x450002, x451000, x451001, x463000, x463001, x472000, x472001, x472002 => if x30 = true then (laws_FnHandsAheadOfAll.l1 k x22 x26 x29 (x29.length : Int) 0 x444000 x444001 x444002 x445000 x445001 x445002 x446000 x446001 x447000 x447001 x447002 x448000 x448001 x448002 x449000 x449001 x449002 x450000 x450001 x450002 x451000 x451001 x463000 x463001 x472000 x472001 x472002) else (laws_FnHandsAheadOfAll.j5 k x22 x26 x444000 x444001 x444002 x445000 x445001 x445002 x446000 x446001 x447000 x447001 x447002 x448000 x448001 x448002 x449000 x449001 x449002 x450000 x450001 x450002 x451000 x451001 x463000 x463001 x472000 x472001 x472002)
def laws_FnHandsAheadOfAll.j5 : Nat → Bool → Bool → Int → Int → Int → Int → Int → Int → Int → Int → Int → Int → Int → Int → Int → Int → Int → Int → Int → Int → Int → Int → Int → Int → Int → Int → Int → Int → Int → Option (Bool)
 | 0, _, _, _, _, _, _, _, _, _, _, _, _, _, _, _, _, _, _, _, _, _, _, _, _, _, _, _, _, _ => none
 | k + 1, x22, x26, x444000, x444001, x444002, x445000, x445001, x445002, x446000, x446001, x447000, x447001, x447002, x448000, x448001, x448002, x449000, x449001, x449002, x450000, x450001, x450002, x451000, x451001, x463000, x463001, x472000, x472001, x472002 => if x26 = true then ((impl_HandAt.f k x472000 x472001 x472002 x446000 x446001).bind fun bt505 => (if (bt505.2.2 != x22) = true then (some false) else (if bt505.2.2 = true then (if (!(bt505.1 == x463000) || (!(bt505.2.1 == x463001))) = true then (some false) else (if x472002 = (wrap64 (x444002 - x445002)) then (laws_FnHandsAheadOfAll.j6 k x447000 x447001 x447002 x448000 x448001 x448002 x449000 x449001 x449002 x450000 x450001 x450002 x451000 x451001) else (some false))) else (if x472002 = (wrap64 (x444002 - x445002)) then (laws_FnHandsAheadOfAll.j6 k x447000 x447001 x447002 x448000 x448001 x448002 x449000 x449001 x449002 x450000 x450001 x450002 x451000 x451001) else (some false))))) else (laws_FnHandsAheadOfAll.j6 k x447000 x447001 x447002 x448000 x448001 x448002 x449000 x449001 x449002 x450000 x450001 x450002 x451000 x451001)
def laws_FnHandsAheadOfAll.j6 : Nat → Int → Int → Int → Int → Int → Int → Int → Int → Int → Int → Int → Int → Int → Int → Option (Bool)
 | 0, _, _, _, _, _, _, _, _, _, _, _, _, _, _ => none
 | k + 1, x447000, x447001, x447002, x448000, x448001, x448002, x449000, x449001, x449002, x450000, x450001, x450002, x451000, x451001 => (impl_ThreeMeet.f k x447000 x447001 x447002 x448000 x448001 x448002 x449000 x449001 x449002).bind fun bt509 => ((spec_ThreeMeet.f k x447000 x447001 x447002 x448000 x448001 x448002 x449000 x449001 x449002).bind fun bt513 => (if (bt509.2 != bt513.2) = true then (laws_FnHandsAheadOfAll.j7 k bt509.1 bt509.2 true x447000 x447001 x447002 x448000 x448001 x448002 x449000 x449001 x449002 x450000 x450001 x450002 x451000 x451001) else ((laws_kTurns.f k bt509.1 bt513.1).bind fun t517 => (laws_FnHandsAheadOfAll.j7 k bt509.1 bt509.2 (!t517) x447000 x447001 x447002 x448000 x448001 x448002 x449000 x449001 x449002 x450000 x450001 x450002 x451000 x451001))))
def laws_FnHandsAheadOfAll.j7 : Nat → List (S23) → Bool → Bool → Int → Int → Int → Int → Int → Int → Int → Int → Int → Int → Int → Int → Int → Int → Option (Bool)
 | 0, _, _, _, _, _, _, _, _, _, _, _, _, _, _, _, _, _ => none
 | k + 1, x45, x46, x283, x447000, x447001, x447002, x448000, x448001, x448002, x449000, x449001, x449002, x450000, x450001, x450002, x451000, x451001 => if x283 = true then (some false) else (if x46 = true then ((impl_MeetTimes.f k x447000 x447001 x447002 x448000 x448001 x448002).bind fun bt518 => (if bt518.2 = true then (laws_FnHandsAheadOfAll.l2 k x45 bt518.1 bt518.1 (bt518.1.length : Int) 0 x447000 x447001 x447002 x449000 x449001 x449002 x450000 x450001 x450002 x451000 x451001) else (some false))) else (laws_FnHandsAheadOfAll.j9 k x450000 x450001 x450002 x451000 x451001))
def laws_FnHandsAheadOfAll.j9 : Nat → Int → Int → Int → Int → Int → Option (Bool)
 | 0, _, _, _, _, _ => none
 | k + 1, x450000, x450001, x450002, x451000, x451001 => (impl_TimesAtPlace.f k x450000 x450001 x450002 x451000 x451001).bind fun bt530 => ((spec_TimesAtPlace.f k x450000 x450001 x450002 x451000 x451001).bind fun bt534 => ((impl_HandAt.f k x450000 x450001 x450002 x451000 x451001).bind fun bt538 => ((spec_HandAt.f k x450000 x450001 x450002 x451000 x451001).bind fun bt542 => (if (bt530.2 != bt534.2) = true then (laws_FnHandsAheadOfAll.j10 k bt530.1 bt530.2 true x450000 x450001 x450002 x451000 x451001) else ((laws_kTurns.f k bt530.1 bt534.1).bind fun t546 => (if t546 = true then (if (bt538.2.2 != bt542.2.2) = true then (laws_FnHandsAheadOfAll.j10 k bt530.1 bt530.2 true x450000 x450001 x450002 x451000 x451001) else (laws_FnHandsAheadOfAll.j10 k bt530.1 bt530.2 (!(bt538.1 == bt542.1) || (!(bt538.2.1 == bt542.2.1))) x450000 x450001 x450002 x451000 x451001)) else (laws_FnHandsAheadOfAll.j10 k bt530.1 bt530.2 true x450000 x450001 x450002 x451000 x451001)))))))
def laws_FnHandsAheadOfAll.j10 : Nat → List (S23) → Bool → Bool → Int → Int → Int → Int → Int → Option (Bool)
 | 0, _, _, _, _, _, _, _, _ => none
 | k + 1, x55, x56, x369, x450000, x450001, x450002, x451000, x451001 => if x369 = true then (some false) else (if x56 = true then ((laws_kAbs.f x450002).bind fun t547 => (if (x55.length : Int) = t547 then ((laws_kRises.f k x55).bind fun t548 => (laws_FnHandsAheadOfAll.j11 k x55 (!t548) x450000 x450001 x450002 x451000 x451001)) else (laws_FnHandsAheadOfAll.j11 k x55 true x450000 x450001 x450002 x451000 x451001))) else (some true))
def laws_FnHandsAheadOfAll.j11 : Nat → List (S23) → Bool → Int → Int → Int → Int → Int → Option (Bool)
 | 0, _, _, _, _, _, _, _ => none
 | k + 1, x55, x381, x450000, x450001, x450002, x451000, x451001 => if x381 = true then (some false) else (laws_FnHandsAheadOfAll.l3 k x55 (x55.length : Int) 0 x450000 x450001 x450002 x451000 x451001)
def laws_FnHandsAheadOfAll.l3 : Nat → List (S23) → Int → Int → Int → Int → Int → Int → Int → Option (Bool)
 | 0, _, _, _, _, _, _, _, _ => none
 | k + 1, x382, x383, x384, x450000, x450001, x450002, x451000, x451001 => if x384 < x383 then (if 0 ≤ x384 then (if x384 < (x382.length : Int) then ((impl_HandAt.f k x450000 x450001 x450002 ((rd_T23 x382 x384).f0) ((rd_T23 x382 x384).f1)).bind fun bt551 => (if bt551.2.2 = true then (if (!(bt551.1 == x451000) || (!(bt551.2.1 == x451001))) = true then (some false) else (laws_FnHandsAheadOfAll.l3 k x382 x383 (wrap64 (x384 + 1)) x450000 x450001 x450002 x451000 x451001)) else (some false))) else (none)) else (none)) else (some true)
def laws_FnHandsAheadOfAll.l2 : Nat → List (S23) → List (S23) → List (S23) → Int → Int → Int → Int → Int → Int → Int → Int → Int → Int → Int → Int → Int → Option (Bool)
 | 0, _, _, _, _, _, _, _, _, _, _, _, _, _, _, _, _ => none
 | k + 1, x45, x49, x293, x294, x295, x447000, x447001, x447002, x449000, x449001, x449002, x450000, x450001, x450002, x451000, x451001 => if x295 < x294 then (if 0 ≤ x295 then (if x295 < (x293.length : Int) then ((impl_AheadAt.f k x447000 x447001 x447002 x449000 x449001 x449002 ((rd_T23 x293 x295).f0) ((rd_T23 x293 x295).f1)).bind fun bt525 => ((laws_kIn.f k x45 ((rd_T23 x293 x295).f0) ((rd_T23 x293 x295).f1)).bind fun t529 => (if bt525.2.2 = true then (if (t529 != (bt525.1 == 0)) = true then (some false) else (laws_FnHandsAheadOfAll.l2 k x45 x49 x293 x294 (wrap64 (x295 + 1)) x447000 x447001 x447002 x449000 x449001 x449002 x450000 x450001 x450002 x451000 x451001)) else (if (t529 != false) = true then (some false) else (laws_FnHandsAheadOfAll.l2 k x45 x49 x293 x294 (wrap64 (x295 + 1)) x447000 x447001 x447002 x449000 x449001 x449002 x450000 x450001 x450002 x451000 x451001))))) else (none)) else (none)) else ((laws_kRises.f k x45).bind fun t522 => (if t522 = true then (if (x45.length : Int) > (x49.length : Int) then (some false) else (laws_FnHandsAheadOfAll.j9 k x450000 x450001 x450002 x451000 x451001)) else (some false)))
def laws_FnHandsAheadOfAll.l1 : Nat → Bool → Bool → List (S23) → Int → Int → Int → Int → Int → Int → Int → Int → Int → Int → Int → Int → Int → Int → Int → Int → Int → Int → Int → Int → Int → Int → Int → Int → Int → Int → Int → Int → Int → Option (Bool)
 | 0, _, _, _, _, _, _, _, _, _, _, _, _, _, _, _, _, _, _, _, _, _, _, _, _, _, _, _, _, _, _, _, _ => none
 | k + 1, x22, x26, x196, x197, x198, x444000, x444001, x444002, x445000, x445001, x445002, x446000, x446001, x447000, x447001, x447002, x448000, x448001, x448002, x449000, x449001, x449002, x450000, x450001, x450002, x451000, x451001, x463000, x463001, x472000, x472001, x472002 => if x198 < x197 then (if 0 ≤ x198 then (if x198 < (x196.length : Int) then ((impl_AheadAt.f k x444000 x444001 x444002 x445000 x445001 x445002 ((rd_T23 x196 x198).f0) ((rd_T23 x196 x198).f1)).bind fun bt497 => ((impl_AheadAt.f k x445000 x445001 x445002 x444000 x444001 x444002 ((rd_T23 x196 x198).f0) ((rd_T23 x196 x198).f1)).bind fun bt501 => (if bt497.2.2 = true then (if (!(bt497.1 == 1) || (!(bt497.2.1 == 2))) = true then (some false) else (if bt501.2.2 = true then (if (!(bt501.1 == bt497.1) || (!(bt501.2.1 == bt497.2.1))) = true then (some false) else (laws_FnHandsAheadOfAll.l1 k x22 x26 x196 x197 (wrap64 (x198 + 1)) x444000 x444001 x444002 x445000 x445001 x445002 x446000 x446001 x447000 x447001 x447002 x448000 x448001 x448002 x449000 x449001 x449002 x450000 x450001 x450002 x451000 x451001 x463000 x463001 x472000 x472001 x472002)) else (some false))) else (some false)))) else (none)) else (none)) else (laws_FnHandsAheadOfAll.j5 k x22 x26 x444000 x444001 x444002 x445000 x445001 x445002 x446000 x446001 x447000 x447001 x447002 x448000 x448001 x448002 x449000 x449001 x449002 x450000 x450001 x450002 x451000 x451001 x463000 x463001 x472000 x472001 x472002)
def laws_FnHandsAheadOfAll.j1 : Nat → List (S23) → Bool → Bool → List (S23) → Bool → Bool → Int → Int → Int → Int → Int → Int → Int → Int → Int → Int → Int → Int → Int → Int → Int → Int → Int → Int → Int → Int → Int → Int → Int → Int → Int → Int → Int → Option (Bool)
 | 0, _, _, _, _, _, _, _, _, _, _, _, _, _, _, _, _, _, _, _, _, _, _, _, _, _, _, _, _, _, _, _, _, _ => none
 | k + 1, x17, x22, x26, x29, x30, x173, x444000, x444001, x444002, x445000, x445001, x445002, x446000, x446001, x447000, x447001, x447002, x448000, x448001, x448002, x449000, x449001, x449002, x450000, x450001, x450002, x451000, x451001, x463000, x463001, x472000, x472001, x472002 => if x173 = true then (some false) else (laws_FnHandsAheadOfAll.l0 k x22 x26 x29 x30 x17 (x17.length : Int) 0 x444000 x444001 x444002 x445000 x445001 x445002 x446000 x446001 x447000 x447001 x447002 x448000 x448001 x448002 x449000 x449001 x449002 x450000 x450001 x450002 x451000 x451001 x463000 x463001 x472000 x472001 x472002)
def laws_FnHandsAheadOfAll.l0 : Nat → Bool → Bool → List (S23) → Bool → List (S23) → Int → Int → Int → Int → Int → Int → Int → Int → Int → Int → Int → Int → Int → Int → Int → Int → Int → Int → Int → Int → Int → Int → Int → Int → Int → Int → Int → Int → Int → Option (Bool)
 | 0, _, _, _, _, _, _, _, _, _, _, _, _, _, _, _, _, _, _, _, _, _, _, _, _, _, _, _, _, _, _, _, _, _, _ => none
 | k + 1, x22, x26, x29, x30, x174, x175, x176, x444000, x444001, x444002, x445000, x445001, x445002, x446000, x446001, x447000, x447001, x447002, x448000, x448001, x448002, x449000, x449001, x449002, x450000, x450001, x450002, x451000, x451001, x463000, x463001, x472000, x472001, x472002 => if x176 < x175 then (if 0 ≤ x176 then (if x176 < (x174.length : Int) then ((impl_AheadAt.f k x444000 x444001 x444002 x445000 x445001 x445002 ((rd_T23 x174 x176).f0) ((rd_T23 x174 x176).f1)).bind fun bt491 => (if bt491.2.2 = true then (if (!(bt491.1 == x446000) || (!(bt491.2.1 == x446001))) = true then (some false) else (laws_FnHandsAheadOfAll.l0 k x22 x26 x29 x30 x174 x175 (wrap64 (x176 + 1)) x444000 x444001 x444002 x445000 x445001 x445002 x446000 x446001 x447000 x447001 x447002 x448000 x448001 x448002 x449000 x449001 x449002 x450000 x450001 x450002 x451000 x451001 x463000 x463001 x472000 x472001 x472002)) else (some false))) else (none)) else (none)) else (laws_FnHandsAheadOfAll.j3 k x22 x26 x29 x30 x444000 x444001 x444002 x445000 x445001 x445002 x446000 x446001 x447000 x447001 x447002 x448000 x448001 x448002 x449000 x449001 x449002 x450000 x450001 x450002 x451000 x451001 x463000 x463001 x472000 x472001 x472002)
end
def laws_FnHandsAheadOfAll.f (k : Nat) (a0_0 : Int) (a0_1 : Int) (a0_2 : Int) (a1_0 : Int) (a1_1 : Int) (a1_2 : Int) (a2_0 : Int) (a2_1 : Int) (a3_0 : Int) (a3_1 : Int) (a3_2 : Int) (a4_0 : Int) (a4_1 : Int) (a4_2 : Int) (a5_0 : Int) (a5_1 : Int) (a5_2 : Int) (a6_0 : Int) (a6_1 : Int) (a6_2 : Int) (a7_0 : Int) (a7_1 : Int) : Option (Bool) := (impl_AheadTimes.f k a0_0 a0_1 a0_2 a1_0 a1_1 a1_2 a2_0 a2_1).bind fun bt451 => ((spec_AheadTimes.f k a0_0 a0_1 a0_2 a1_0 a1_1 a1_2 a2_0 a2_1).bind fun bt455 => ((impl_AheadAt.f k a0_0 a0_1 a0_2 a1_0 a1_1 a1_2 a2_0 a2_1).bind fun bt459 => ((spec_AheadAt.f k a0_0 a0_1 a0_2 a1_0 a1_1 a1_2 a2_0 a2_1).bind fun bt463 => ((impl_RelativeHand.f k a0_0 a0_1 a0_2 a1_0 a1_1 a1_2).bind fun bt467 => ((spec_RelativeHand.f k a0_0 a0_1 a0_2 a1_0 a1_1 a1_2).bind fun bt472 => ((impl_OppositeTimes.f k a0_0 a0_1 a0_2 a1_0 a1_1 a1_2).bind fun bt477 => ((spec_OppositeTimes.f k a0_0 a0_1 a0_2 a1_0 a1_1 a1_2).bind fun bt481 => (if (bt451.2 != bt455.2) = true then (laws_FnHandsAheadOfAll.j0 k bt451.1 bt451.2 bt459.2.2 bt467.2.2.2 bt477.1 bt477.2 true a0_0 a0_1 a0_2 a1_0 a1_1 a1_2 a2_0 a2_1 a3_0 a3_1 a3_2 a4_0 a4_1 a4_2 a5_0 a5_1 a5_2 a6_0 a6_1 a6_2 a7_0 a7_1 bt459.1 bt459.2.1 bt467.1 bt467.2.1 bt467.2.2.1) else ((laws_kTurns.f k bt451.1 bt455.1).bind fun t485 => (if t485 = true then (if (bt459.2.2 != bt463.2.2) = true then (laws_FnHandsAheadOfAll.j0 k bt451.1 bt451.2 bt459.2.2 bt467.2.2.2 bt477.1 bt477.2 true a0_0 a0_1 a0_2 a1_0 a1_1 a1_2 a2_0 a2_1 a3_0 a3_1 a3_2 a4_0 a4_1 a4_2 a5_0 a5_1 a5_2 a6_0 a6_1 a6_2 a7_0 a7_1 bt459.1 bt459.2.1 bt467.1 bt467.2.1 bt467.2.2.1) else (if (!(bt459.1 == bt463.1) || (!(bt459.2.1 == bt463.2.1))) = true then (laws_FnHandsAheadOfAll.j0 k bt451.1 bt451.2 bt459.2.2 bt467.2.2.2 bt477.1 bt477.2 true a0_0 a0_1 a0_2 a1_0 a1_1 a1_2 a2_0 a2_1 a3_0 a3_1 a3_2 a4_0 a4_1 a4_2 a5_0 a5_1 a5_2 a6_0 a6_1 a6_2 a7_0 a7_1 bt459.1 bt459.2.1 bt467.1 bt467.2.1 bt467.2.2.1) else (if (bt467.2.2.2 != bt472.2.2.2) = true then (laws_FnHandsAheadOfAll.j0 k bt451.1 bt451.2 bt459.2.2 bt467.2.2.2 bt477.1 bt477.2 true a0_0 a0_1 a0_2 a1_0 a1_1 a1_2 a2_0 a2_1 a3_0 a3_1 a3_2 a4_0 a4_1 a4_2 a5_0 a5_1 a5_2 a6_0 a6_1 a6_2 a7_0 a7_1 bt459.1 bt459.2.1 bt467.1 bt467.2.1 bt467.2.2.1) else (if ((!(bt467.1 == bt472.1) || (!(bt467.2.1 == bt472.2.1))) || (!(bt467.2.2.1 == bt472.2.2.1))) = true then (laws_FnHandsAheadOfAll.j0 k bt451.1 bt451.2 bt459.2.2 bt467.2.2.2 bt477.1 bt477.2 true a0_0 a0_1 a0_2 a1_0 a1_1 a1_2 a2_0 a2_1 a3_0 a3_1 a3_2 a4_0 a4_1 a4_2 a5_0 a5_1 a5_2 a6_0 a6_1 a6_2 a7_0 a7_1 bt459.1 bt459.2.1 bt467.1 bt467.2.1 bt467.2.2.1) else (if (bt477.2 != bt481.2) = true then (laws_FnHandsAheadOfAll.j0 k bt451.1 bt451.2 bt459.2.2 bt467.2.2.2 bt477.1 bt477.2 true a0_0 a0_1 a0_2 a1_0 a1_1 a1_2 a2_0 a2_1 a3_0 a3_1 a3_2 a4_0 a4_1 a4_2 a5_0 a5_1 a5_2 a6_0 a6_1 a6_2 a7_0 a7_1 bt459.1 bt459.2.1 bt467.1 bt467.2.1 bt467.2.2.1) else ((laws_kTurns.f k bt477.1 bt481.1).bind fun t486 => (laws_FnHandsAheadOfAll.j0 k bt451.1 bt451.2 bt459.2.2 bt467.2.2.2 bt477.1 bt477.2 (!t486) a0_0 a0_1 a0_2 a1_0 a1_1 a1_2 a2_0 a2_1 a3_0 a3_1 a3_2 a4_0 a4_1 a4_2 a5_0 a5_1 a5_2 a6_0 a6_1 a6_2 a7_0 a7_1 bt459.1 bt459.2.1 bt467.1 bt467.2.1 bt467.2.2.1))))))) else (laws_FnHandsAheadOfAll.j0 k bt451.1 bt451.2 bt459.2.2 bt467.2.2.2 bt477.1 bt477.2 true a0_0 a0_1 a0_2 a1_0 a1_1 a1_2 a2_0 a2_1 a3_0 a3_1 a3_2 a4_0 a4_1 a4_2 a5_0 a5_1 a5_2 a6_0 a6_1 a6_2 a7_0 a7_1 bt459.1 bt459.2.1 bt467.1 bt467.2.1 bt467.2.2.1)))))))))))
theorem laws_FnHandsAheadOfAll.mono_l : ∀ k, (∀ y0 y1 y2 y3 y4 y5 y6 y7 y8 y9 y10 y11 y12 y13 y14 y15 y16 y17 y18 y19 y20 y21 y22 y23 y24 y25 y26 y27 y28 y29 y30 y31 y32 y33, LeO (laws_FnHandsAheadOfAll.j0 k y0 y1 y2 y3 y4 y5 y6 y7 y8 y9 y10 y11 y12 y13 y14 y15 y16 y17 y18 y19 y20 y21 y22 y23 y24 y25 y26 y27 y28 y29 y30 y31 y32 y33) (laws_FnHandsAheadOfAll.j0 (k + 1) y0 y1 y2 y3 y4 y5 y6 y7 y8 y9 y10 y11 y12 y13 y14 y15 y16 y17 y18 y19 y20 y21 y22 y23 y24 y25 y26 y27 y28 y29 y30 y31 y32 y33)) ∧ (∀ y0 y1 y2 y3 y4 y5 y6 y7 y8 y9 y10 y11 y12 y13 y14 y15 y16 y17 y18 y19 y20 y21 y22 y23 y24 y25 y26 y27 y28 y29 y30, LeO (laws_FnHandsAheadOfAll.j3 k y0 y1 y2 y3 y4 y5 y6 y7 y8 y9 y10 y11 y12 y13 y14 y15 y16 y17 y18 y19 y20 y21 y22 y23 y24 y25 y26 y27 y28 y29 y30) (laws_FnHandsAheadOfAll.j3 (k + 1) y0 y1 y2 y3 y4 y5 y6 y7 y8 y9 y10 y11 y12 y13 y14 y15 y16 y17 y18 y19 y20 y21 y22 y23 y24 y25 y26 y27 y28 y29 y30)) ∧ (∀ y0 y1 y2 y3 y4 y5 y6 y7 y8 y9 y10 y11 y12 y13 y14 y15 y16 y17 y18 y19 y20 y21 y22 y23 y24 y25 y26 y27 y28, LeO (laws_FnHandsAheadOfAll.j5 k y0 y1 y2 y3 y4 y5 y6 y7 y8 y9 y10 y11 y12 y13 y14 y15 y16 y17 y18 y19 y20 y21 y22 y23 y24 y25 y26 y27 y28) (laws_FnHandsAheadOfAll.j5 (k + 1) y0 y1 y2 y3 y4 y5 y6 y7 y8 y9 y10 y11 y12 y13 y14 y15 y16 y17 y18 y19 y20 y21 y22 y23 y24 y25 y26 y27 y28)) ∧ (∀ y0 y1 y2 y3 y4 y5 y6 y7 y8 y9 y10 y11 y12 y13, LeO (laws_FnHandsAheadOfAll.j6 k y0 y1 y2 y3 y4 y5 y6 y7 y8 y9 y10 y11 y12 y13) (laws_FnHandsAheadOfAll.j6 (k + 1) y0 y1 y2 y3 y4 y5 y6 y7 y8 y9 y10 y11 y12 y13)) ∧ (∀ y0 y1 y2 y3 y4 y5 y6 y7 y8 y9 y10 y11 y12 y13 y14 y15 y16, LeO (laws_FnHandsAheadOfAll.j7 k y0 y1 y2 y3 y4 y5 y6 y7 y8 y9 y10 y11 y12 y13 y14 y15 y16) (laws_FnHandsAheadOfAll.j7 (k + 1) y0 y1 y2 y3 y4 y5 y6 y7 y8 y9 y10 y11 y12 y13 y14 y15 y16)) ∧ (∀ y0 y1 y2 y3 y4, LeO (laws_FnHandsAheadOfAll.j9 k y0 y1 y2 y3 y4) (laws_FnHandsAheadOfAll.j9 (k + 1) y0 y1 y2 y3 y4)) ∧ (∀ y0 y1 y2 y3 y4 y5 y6 y7, LeO (laws_FnHandsAheadOfAll.j10 k y0 y1 y2 y3 y4 y5 y6 y7) (laws_FnHandsAheadOfAll.j10 (k + 1) y0 y1 y2 y3 y4 y5 y6 y7)) ∧ (∀ y0 y1 y2 y3 y4 y5 y6, LeO (laws_FnHandsAheadOfAll.j11 k y0 y1 y2 y3 y4 y5 y6) (laws_FnHandsAheadOfAll.j11 (k + 1) y0 y1 y2 y3 y4 y5 y6)) ∧ (∀ y0 y1 y2 y3 y4 y5 y6 y7, LeO (laws_FnHandsAheadOfAll.l3 k y0 y1 y2 y3 y4 y5 y6 y7) (laws_FnHandsAheadOfAll.l3 (k + 1) y0 y1 y2 y3 y4 y5 y6 y7)) ∧ (∀ y0 y1 y2 y3 y4 y5 y6 y7 y8 y9 y10 y11 y12 y13 y14 y15, LeO (laws_FnHandsAheadOfAll.l2 k y0 y1 y2 y3 y4 y5 y6 y7 y8 y9 y10 y11 y12 y13 y14 y15) (laws_FnHandsAheadOfAll.l2 (k + 1) y0 y1 y2 y3 y4 y5 y6 y7 y8 y9 y10 y11 y12 y13 y14 y15)) ∧ (∀ y0 y1 y2 y3 y4 y5 y6 y7 y8 y9 y10 y11 y12 y13 y14 y15 y16 y17 y18 y19 y20 y21 y22 y23 y24 y25 y26 y27 y28 y29 y30 y31, LeO (laws_FnHandsAheadOfAll.l1 k y0 y1 y2 y3 y4 y5 y6 y7 y8 y9 y10 y11 y12 y13 y14 y15 y16 y17 y18 y19 y20 y21 y22 y23 y24 y25 y26 y27 y28 y29 y30 y31) (laws_FnHandsAheadOfAll.l1 (k + 1) y0 y1 y2 y3 y4 y5 y6 y7 y8 y9 y10 y11 y12 y13 y14 y15 y16 y17 y18 y19 y20 y21 y22 y23 y24 y25 y26 y27 y28 y29 y30 y31)) ∧ (∀ y0 y1 y2 y3 y4 y5 y6 y7 y8 y9 y10 y11 y12 y13 y14 y15 y16 y17 y18 y19 y20 y21 y22 y23 y24 y25 y26 y27 y28 y29 y30 y31 y32, LeO (laws_FnHandsAheadOfAll.j1 k y0 y1 y2 y3 y4 y5 y6 y7 y8 y9 y10 y11 y12 y13 y14 y15 y16 y17 y18 y19 y20 y21 y22 y23 y24 y25 y26 y27 y28 y29 y30 y31 y32) (laws_FnHandsAheadOfAll.j1 (k + 1) y0 y1 y2 y3 y4 y5 y6 y7 y8 y9 y10 y11 y12 y13 y14 y15 y16 y17 y18 y19 y20 y21 y22 y23 y24 y25 y26 y27 y28 y29 y30 y31 y32)) ∧ (∀ y0 y1 y2 y3 y4 y5 y6 y7 y8 y9 y10 y11 y12 y13 y14 y15 y16 y17 y18 y19 y20 y21 y22 y23 y24 y25 y26 y27 y28 y29 y30 y31 y32 y33, LeO (laws_FnHandsAheadOfAll.l0 k y0 y1 y2 y3 y4 y5 y6 y7 y8 y9 y10 y11 y12 y13 y14 y15 y16 y17 y18 y19 y20 y21 y22 y23 y24 y25 y26 y27 y28 y29 y30 y31 y32 y33) (laws_FnHandsAheadOfAll.l0 (k + 1) y0 y1 y2 y3 y4 y5 y6 y7 y8 y9 y10 y11 y12 y13 y14 y15 y16 y17 y18 y19 y20 y21 y22 y23 y24 y25 y26 y27 y28 y29 y30 y31 y32 y33))
 | 0 => ⟨fun _ _ _ _ _ _ _ _ _ _ _ _ _ _ _ _ _ _ _ _ _ _ _ _ _ _ _ _ _ _ _ _ _ _ r h => by simp [laws_FnHandsAheadOfAll.j0] at h, fun _ _ _ _ _ _ _ _ _ _ _ _ _ _ _ _ _ _ _ _ _ _ _ _ _ _ _ _ _ _ _ r h => by simp [laws_FnHandsAheadOfAll.j3] at h, fun _ _ _ _ _ _ _ _ _ _ _ _ _ _ _ _ _ _ _ _ _ _ _ _ _ _ _ _ _ r h => by simp [laws_FnHandsAheadOfAll.j5] at h, fun _ _ _ _ _ _ _ _ _ _ _ _ _ _ r h => by simp [laws_FnHandsAheadOfAll.j6] at h, fun _ _ _ _ _ _ _ _ _ _ _ _ _ _ _ _ _ r h => by simp [laws_FnHandsAheadOfAll.j7] at h, fun _ _ _ _ _ r h => by simp [laws_FnHandsAheadOfAll.j9] at h, fun _ _ _ _ _ _ _ _ r h => by simp [laws_FnHandsAheadOfAll.j10] at h, fun _ _ _ _ _ _ _ r h => by simp [laws_FnHandsAheadOfAll.j11] at h, fun _ _ _ _ _ _ _ _ r h => by simp [laws_FnHandsAheadOfAll.l3] at h, fun _ _ _ _ _ _ _ _ _ _ _ _ _ _ _ _ r h => by simp [laws_FnHandsAheadOfAll.l2] at h, fun _ _ _ _ _ _ _ _ _ _ _ _ _ _ _ _ _ _ _ _ _ _ _ _ _ _ _ _ _ _ _ _ r h => by simp [laws_FnHandsAheadOfAll.l1] at h, fun _ _ _ _ _ _ _ _ _ _ _ _ _ _ _ _ _ _ _ _ _ _ _ _ _ _ _ _ _ _ _ _ _ r h => by simp [laws_FnHandsAheadOfAll.j1] at h, fun _ _ _ _ _ _ _ _ _ _ _ _ _ _ _ _ _ _ _ _ _ _ _ _ _ _ _ _ _ _ _ _ _ _ r h => by simp [laws_FnHandsAheadOfAll.l0] at h⟩
 | k + 1 => by
  obtain ⟨ih0, ih1, ih2, ih3, ih4, ih5, ih6, ih7, ih8, ih9, ih10, ih11, ih12⟩ := laws_FnHandsAheadOfAll.mono_l k
  refine ⟨?_, ?_, ?_, ?_, ?_, ?_, ?_, ?_, ?_, ?_, ?_, ?_, ?_⟩
  ·intro y0 y1 y2 y3 y4 y5 y6 y7 y8 y9 y10 y11 y12 y13 y14 y15 y16 y17 y18 y19 y20 y21 y22 y23 y24 y25 y26 y27 y28 y29 y30 y31 y32 y33
   unfold laws_FnHandsAheadOfAll.j0
   repeat' first
   | (with_reducible apply ih0)
   | (with_reducible apply ih1)
   | (with_reducible apply ih2)
   | (with_reducible apply ih3)
   | (with_reducible apply ih4)
   | (with_reducible apply ih5)
   | (with_reducible apply ih6)
   | (with_reducible apply ih7)
   | (with_reducible apply ih8)
   | (with_reducible apply ih9)
   | (with_reducible apply ih10)
   | (with_reducible apply ih11)
   | (with_reducible apply ih12)
   | (with_reducible exact impl_AheadAt.mono _ _ _ _ _ _ _ _ _)
   | (with_reducible exact impl_AheadTimes.mono _ _ _ _ _ _ _ _ _)
   | (with_reducible exact impl_HandAt.mono _ _ _ _ _ _)
   | (with_reducible exact impl_MeetTimes.mono _ _ _ _ _ _ _)
   | (with_reducible exact impl_OppositeTimes.mono _ _ _ _ _ _ _)
   | (with_reducible exact impl_RelativeHand.mono _ _ _ _ _ _ _)
   | (with_reducible exact impl_ThreeMeet.mono _ _ _ _ _ _ _ _ _ _)
   | (with_reducible exact impl_TimesAtPlace.mono _ _ _ _ _ _)
   | (with_reducible exact laws_kIn.mono _ _ _ _)
   | (with_reducible exact laws_kRises.mono _ _)
   | (with_reducible exact laws_kTurns.mono _ _ _)
   | (with_reducible exact spec_AheadAt.mono _ _ _ _ _ _ _ _ _)
   | (with_reducible exact spec_AheadTimes.mono _ _ _ _ _ _ _ _ _)
   | (with_reducible exact spec_HandAt.mono _ _ _ _ _ _)
   | (with_reducible exact spec_OppositeTimes.mono _ _ _ _ _ _ _)
   | (with_reducible exact spec_RelativeHand.mono _ _ _ _ _ _ _)
   | (with_reducible exact spec_ThreeMeet.mono _ _ _ _ _ _ _ _ _ _)
   | (with_reducible exact spec_TimesAtPlace.mono _ _ _ _ _ _)
   | (with_reducible exact LeO.refl _)
   | (with_reducible exact LeO.none _)
   | (with_reducible refine LeO.ite ?_ ?_)
   | (with_reducible refine LeO.bind ?_ (fun _ => ?_))
   | apply ih0
   | apply ih1
   | apply ih2
   | apply ih3
   | apply ih4
   | apply ih5
   | apply ih6
   | apply ih7
   | apply ih8
   | apply ih9
   | apply ih10
   | apply ih11
   | apply ih12
   | exact impl_AheadAt.mono _ _ _ _ _ _ _ _ _
   | exact impl_AheadTimes.mono _ _ _ _ _ _ _ _ _
   | exact impl_HandAt.mono _ _ _ _ _ _
   | exact impl_MeetTimes.mono _ _ _ _ _ _ _
   | exact impl_OppositeTimes.mono _ _ _ _ _ _ _
   | exact impl_RelativeHand.mono _ _ _ _ _ _ _
   | exact impl_ThreeMeet.mono _ _ _ _ _ _ _ _ _ _
   | exact impl_TimesAtPlace.mono _ _ _ _ _ _
   | exact laws_kIn.mono _ _ _ _
   | exact laws_kRises.mono _ _
   | exact laws_kTurns.mono _ _ _
   | exact spec_AheadAt.mono _ _ _ _ _ _ _ _ _
   | exact spec_AheadTimes.mono _ _ _ _ _ _ _ _ _
   | exact spec_HandAt.mono _ _ _ _ _ _
   | exact spec_OppositeTimes.mono _ _ _ _ _ _ _
   | exact spec_RelativeHand.mono _ _ _ _ _ _ _
   | exact spec_ThreeMeet.mono _ _ _ _ _ _ _ _ _ _
   | exact spec_TimesAtPlace.mono _ _ _ _ _ _
   | exact LeO.none _
   | refine LeO.ite ?_ ?_
   | refine LeO.bind ?_ (fun _ => ?_)
  ·intro y0 y1 y2 y3 y4 y5 y6 y7 y8 y9 y10 y11 y12 y13 y14 y15 y16 y17 y18 y19 y20 y21 y22 y23 y24 y25 y26 y27 y28 y29 y30
   unfold laws_FnHandsAheadOfAll.j3
   repeat' first
   | (with_reducible apply ih0)
   | (with_reducible apply ih1)
   | (with_reducible apply ih2)
   | (with_reducible apply ih3)
   | (with_reducible apply ih4)
   | (with_reducible apply ih5)
   | (with_reducible apply ih6)
   | (with_reducible apply ih7)
   | (with_reducible apply ih8)
   | (with_reducible apply ih9)
   | (with_reducible apply ih10)
   | (with_reducible apply ih11)
   | (with_reducible apply ih12)
   | (with_reducible exact impl_AheadAt.mono _ _ _ _ _ _ _ _ _)
   | (with_reducible exact impl_AheadTimes.mono _ _ _ _ _ _ _ _ _)
   | (with_reducible exact impl_HandAt.mono _ _ _ _ _ _)
   | (with_reducible exact impl_MeetTimes.mono _ _ _ _ _ _ _)
   | (with_reducible exact impl_OppositeTimes.mono _ _ _ _ _ _ _)
   | (with_reducible exact impl_RelativeHand.mono _ _ _ _ _ _ _)
   | (with_reducible exact impl_ThreeMeet.mono _ _ _ _ _ _ _ _ _ _)
   | (with_reducible exact impl_TimesAtPlace.mono _ _ _ _ _ _)
   | (with_reducible exact laws_kIn.mono _ _ _ _)
   | (with_reducible exact laws_kRises.mono _ _)
   | (with_reducible exact laws_kTurns.mono _ _ _)
   | (with_reducible exact spec_AheadAt.mono _ _ _ _ _ _ _ _ _)
   | (with_reducible exact spec_AheadTimes.mono _ _ _ _ _ _ _ _ _)
   | (with_reducible exact spec_HandAt.mono _ _ _ _ _ _)
   | (with_reducible exact spec_OppositeTimes.mono _ _ _ _ _ _ _)
   | (with_reducible exact spec_RelativeHand.mono _ _ _ _ _ _ _)
   | (with_reducible exact spec_ThreeMeet.mono _ _ _ _ _ _ _ _ _ _)
   | (with_reducible exact spec_TimesAtPlace.mono _ _ _ _ _ _)
   | (with_reducible exact LeO.refl _)
   | (with_reducible exact LeO.none _)
   | (with_reducible refine LeO.ite ?_ ?_)
   | (with_reducible refine LeO.bind ?_ (fun _ => ?_))
   | apply ih0
   | apply ih1
   | apply ih2
   | apply ih3
   | apply ih4
   | apply ih5
   | apply ih6
   | apply ih7
   | apply ih8
   | apply ih9
   | apply ih10
   | apply ih11
   | apply ih12
   | exact impl_AheadAt.mono _ _ _ _ _ _ _ _ _
   | exact impl_AheadTimes.mono _ _ _ _ _ _ _ _ _
   | exact impl_HandAt.mono _ _ _ _ _ _
   | exact impl_MeetTimes.mono _ _ _ _ _ _ _
   | exact impl_OppositeTimes.mono _ _ _ _ _ _ _
   | exact impl_RelativeHand.mono _ _ _ _ _ _ _
   | exact impl_ThreeMeet.mono _ _ _ _ _ _ _ _ _ _
   | exact impl_TimesAtPlace.mono _ _ _ _ _ _
   | exact laws_kIn.mono _ _ _ _
   | exact laws_kRises.mono _ _
   | exact laws_kTurns.mono _ _ _
   | exact spec_AheadAt.mono _ _ _ _ _ _ _ _ _
   | exact spec_AheadTimes.mono _ _ _ _ _ _ _ _ _
   | exact spec_HandAt.mono _ _ _ _ _ _
   | exact spec_OppositeTimes.mono _ _ _ _ _ _ _
   | exact spec_RelativeHand.mono _ _ _ _ _ _ _
   | exact spec_ThreeMeet.mono _ _ _ _ _ _ _ _ _ _
   | exact spec_TimesAtPlace.mono _ _ _ _ _ _
   | exact LeO.none _
   | refine LeO.ite ?_ ?_
   | refine LeO.bind ?_ (fun _ => ?_)
  ·intro y0 y1 y2 y3 y4 y5 y6 y7 y8 y9 y10 y11 y12 y13 y14 y15 y16 y17 y18 y19 y20 y21 y22 y23 y24 y25 y26 y27 y28
   unfold laws_FnHandsAheadOfAll.j5
   repeat' first
   | (with_reducible apply ih0)
   | (with_reducible apply ih1)
   | (with_reducible apply ih2)
   | (with_reducible apply ih3)
   | (with_reducible apply ih4)
   | (with_reducible apply ih5)
   | (with_reducible apply ih6)
   | (with_reducible apply ih7)
   | (with_reducible apply ih8)
   | (with_reducible apply ih9)
   | (with_reducible apply ih10)
   | (with_reducible apply ih11)
   | (with_reducible apply ih12)
   | (with_reducible exact impl_AheadAt.mono _ _ _ _ _ _ _ _ _)
   | (with_reducible exact impl_AheadTimes.mono _ _ _ _ _ _ _ _ _)
   | (with_reducible exact impl_HandAt.mono _ _ _ _ _ _)
   | (with_reducible exact impl_MeetTimes.mono _ _ _ _ _ _ _)
   | (with_reducible exact impl_OppositeTimes.mono _ _ _ _ _ _ _)
   | (with_reducible exact impl_RelativeHand.mono _ _ _ _ _ _ _)
   | (with_reducible exact impl_ThreeMeet.mono _ _ _ _ _ _ _ _ _ _)
   | (with_reducible exact impl_TimesAtPlace.mono _ _ _ _ _ _)
   | (with_reducible exact laws_kIn.mono _ _ _ _)
   | (with_reducible exact laws_kRises.mono _ _)
   | (with_reducible exact laws_kTurns.mono _ _ _)
   | (with_reducible exact spec_AheadAt.mono _ _ _ _ _ _ _ _ _)
   | (with_reducible exact spec_AheadTimes.mono _ _ _ _ _ _ _ _ _)
   | (with_reducible exact spec_HandAt.mono _ _ _ _ _ _)
   | (with_reducible exact spec_OppositeTimes.mono _ _ _ _ _ _ _)
   | (with_reducible exact spec_RelativeHand.mono _ _ _ _ _ _ _)
   | (with_reducible exact spec_ThreeMeet.mono _ _ _ _ _ _ _ _ _ _)
   | (with_reducible exact spec_TimesAtPlace.mono _ _ _ _ _ _)
   | (with_reducible exact LeO.refl _)
   | (with_reducible exact LeO.none _)
   | (with_reducible refine LeO.ite ?_ ?_)
   | (with_reducible refine LeO.bind ?_ (fun _ => ?_))
   | apply ih0
   | apply ih1
   | apply ih2
   | apply ih3
   | apply ih4
   | apply ih5
   | apply ih6
   | apply ih7
   | apply ih8
   | apply ih9
   | apply ih10
   | apply ih11
   | apply ih12
   | exact impl_AheadAt.mono _ _ _ _ _ _ _ _ _
   | exact impl_AheadTimes.mono _ _ _ _ _ _ _ _ _
   | exact impl_HandAt.mono _ _ _ _ _ _
   | exact impl_MeetTimes.mono _ _ _ _ _ _ _
   | exact impl_OppositeTimes.mono _ _ _ _ _ _ _
   | exact impl_RelativeHand.mono _ _ _ _ _ _ _
   | exact impl_ThreeMeet.mono _ _ _ _ _ _ _ _ _ _
   | exact impl_TimesAtPlace.mono _ _ _ _ _ _
   | exact laws_kIn.mono _ _ _ _
   | exact laws_kRises.mono _ _
   | exact laws_kTurns.mono _ _ _
   | exact spec_AheadAt.mono _ _ _ _ _ _ _ _ _
   | exact spec_AheadTimes.mono _ _ _ _ _ _ _ _ _
   | exact spec_HandAt.mono _ _ _ _ _ _
   | exact spec_OppositeTimes.mono _ _ _ _ _ _ _
   | exact spec_RelativeHand.mono _ _ _ _ _ _ _
   | exact spec_ThreeMeet.mono _ _ _ _ _ _ _ _ _ _
   | exact spec_TimesAtPlace.mono _ _ _ _ _ _
   | exact LeO.none _
   | refine LeO.ite ?_ ?_
   | refine LeO.bind ?_ (fun _ => ?_)
  ·intro y0 y1 y2 y3 y4 y5 y6 y7 y8 y9 y10 y11 y12 y13
   unfold laws_FnHandsAheadOfAll.j6
   repeat' first
   | (with_reducible apply ih0)
   | (with_reducible apply ih1)
   | (with_reducible apply ih2)
   | (with_reducible apply ih3)
   | (with_reducible apply ih4)
   | (with_reducible apply ih5)
   | (with_reducible apply ih6)
   | (with_reducible apply ih7)
   | (with_reducible apply ih8)
   | (with_reducible apply ih9)
   | (with_reducible apply ih10)
   | (with_reducible apply ih11)
   | (with_reducible apply ih12)
   | (with_reducible exact impl_AheadAt.mono _ _ _ _ _ _ _ _ _)
   | (with_reducible exact impl_AheadTimes.mono _ _ _ _ _ _ _ _ _)
   | (with_reducible exact impl_HandAt.mono _ _ _ _ _ _)
   | (with_reducible exact impl_MeetTimes.mono _ _ _ _ _ _ _)
   | (with_reducible exact impl_OppositeTimes.mono _ _ _ _ _ _ _)
   | (with_reducible exact impl_RelativeHand.mono _ _ _ _ _ _ _)
   | (with_reducible exact impl_ThreeMeet.mono _ _ _ _ _ _ _ _ _ _)
   | (with_reducible exact impl_TimesAtPlace.mono _ _ _ _ _ _)
   | (with_reducible exact laws_kIn.mono _ _ _ _)
   | (with_reducible exact laws_kRises.mono _ _)
   | (with_reducible exact laws_kTurns.mono _ _ _)
   | (with_reducible exact spec_AheadAt.mono _ _ _ _ _ _ _ _ _)
   | (with_reducible exact spec_AheadTimes.mono _ _ _ _ _ _ _ _ _)
   | (with_reducible exact spec_HandAt.mono _ _ _ _ _ _)
   | (with_reducible exact spec_OppositeTimes.mono _ _ _ _ _ _ _)
   | (with_reducible exact spec_RelativeHand.mono _ _ _ _ _ _ _)
   | (with_reducible exact spec_ThreeMeet.mono _ _ _ _ _ _ _ _ _ _)
   | (with_reducible exact spec_TimesAtPlace.mono _ _ _ _ _ _)
   | (with_reducible exact LeO.refl _)
   | (with_reducible exact LeO.none _)
   | (with_reducible refine LeO.ite ?_ ?_)
   | (with_reducible refine LeO.bind ?_ (fun _ => ?_))
   | apply ih0
   | apply ih1
   | apply ih2
   | apply ih3
   | apply ih4
   | apply ih5
   | apply ih6
   | apply ih7
   | apply ih8
   | apply ih9
   | apply ih10
   | apply ih11
   | apply ih12
   | exact impl_AheadAt.mono _ _ _ _ _ _ _ _ _
   | exact impl_AheadTimes.mono _ _ _ _ _ _ _ _ _
   | exact impl_HandAt.mono _ _ _ _ _ _
   | exact impl_MeetTimes.mono _ _ _ _ _ _ _
   | exact impl_OppositeTimes.mono _ _ _ _ _ _ _
   | exact impl_RelativeHand.mono _ _ _ _ _ _ _
   | exact impl_ThreeMeet.mono _ _ _ _ _ _ _ _ _ _
   | exact impl_TimesAtPlace.mono _ _ _ _ _ _
   | exact laws_kIn.mono _ _ _ _
   | exact laws_kRises.mono _ _
   | exact laws_kTurns.mono _ _ _
   | exact spec_AheadAt.mono _ _ _ _ _ _ _ _ _
   | exact spec_AheadTimes.mono _ _ _ _ _ _ _ _ _
   | exact spec_HandAt.mono _ _ _ _ _ _
   | exact spec_OppositeTimes.mono _ _ _ _ _ _ _
   | exact spec_RelativeHand.mono _ _ _ _ _ _ _
   | exact spec_ThreeMeet.mono _ _ _ _ _ _ _ _ _ _
   | exact spec_TimesAtPlace.mono _ _ _ _ _ _
   | exact LeO.none _
   | refine LeO.ite ?_ ?_
   | refine LeO.bind ?_ (fun _ => ?_)
  ·intro y0 y1 y2 y3 y4 y5 y6 y7 y8 y9 y10 y11 y12 y13 y14 y15 y16
   unfold laws_FnHandsAheadOfAll.j7
   repeat' first
   | (with_reducible apply ih0)
   | (with_reducible apply ih1)
   | (with_reducible apply ih2)
   | (with_reducible apply ih3)
   | (with_reducible apply ih4)
   | (with_reducible apply ih5)
   | (with_reducible apply ih6)
   | (with_reducible apply ih7)
   | (with_reducible apply ih8)
   | (with_reducible apply ih9)
   | (with_reducible apply ih10)
   | (with_reducible apply ih11)
   | (with_reducible apply ih12)
   | (with_reducible exact impl_AheadAt.mono _ _ _ _ _ _ _ _ _)
   | (with_reducible exact impl_AheadTimes.mono _ _ _ _ _ _ _ _ _)
   | (with_reducible exact impl_HandAt.mono _ _ _ _ _ _)
   | (with_reducible exact impl_MeetTimes.mono _ _ _ _ _ _ _)
   | (with_reducible exact impl_OppositeTimes.mono _ _ _ _ _ _ _)
   | (with_reducible exact impl_RelativeHand.mono _ _ _ _ _ _ _)
   | (with_reducible exact impl_ThreeMeet.mono _ _ _ _ _ _ _ _ _ _)
   | (with_reducible exact impl_TimesAtPlace.mono _ _ _ _ _ _)
   | (with_reducible exact laws_kIn.mono _ _ _ _)
   | (with_reducible exact laws_kRises.mono _ _)
   | (with_reducible exact laws_kTurns.mono _ _ _)
   | (with_reducible exact spec_AheadAt.mono _ _ _ _ _ _ _ _ _)
   | (with_reducible exact spec_AheadTimes.mono _ _ _ _ _ _ _ _ _)
   | (with_reducible exact spec_HandAt.mono _ _ _ _ _ _)
   | (with_reducible exact spec_OppositeTimes.mono _ _ _ _ _ _ _)
   | (with_reducible exact spec_RelativeHand.mono _ _ _ _ _ _ _)
   | (with_reducible exact spec_ThreeMeet.mono _ _ _ _ _ _ _ _ _ _)
   | (with_reducible exact spec_TimesAtPlace.mono _ _ _ _ _ _)
   | (with_reducible exact LeO.refl _)
   | (with_reducible exact LeO.none _)
   | (with_reducible refine LeO.ite ?_ ?_)
   | (with_reducible refine LeO.bind ?_ (fun _ => ?_))
   | apply ih0
   | apply ih1
   | apply ih2
   | apply ih3
   | apply ih4
   | apply ih5
   | apply ih6
   | apply ih7
   | apply ih8
   | apply ih9
   | apply ih10
   | apply ih11
   | apply ih12
   | exact impl_AheadAt.mono _ _ _ _ _ _ _ _ _
   | exact impl_AheadTimes.mono _ _ _ _ _ _ _ _ _
   | exact impl_HandAt.mono _ _ _ _ _ _
   | exact impl_MeetTimes.mono _ _ _ _ _ _ _
   | exact impl_OppositeTimes.mono _ _ _ _ _ _ _
   | exact impl_RelativeHand.mono _ _ _ _ _ _ _
   | exact impl_ThreeMeet.mono _ _ _ _ _ _ _ _ _ _
   | exact impl_TimesAtPlace.mono _ _ _ _ _ _
   | exact laws_kIn.mono _ _ _ _
   | exact laws_kRises.mono _ _
   | exact laws_kTurns.mono _ _ _
   | exact spec_AheadAt.mono _ _ _ _ _ _ _ _ _
   | exact spec_AheadTimes.mono _ _ _ _ _ _ _ _ _
   | exact spec_HandAt.mono _ _ _ _ _ _
   | exact spec_OppositeTimes.mono _ _ _ _ _ _ _
   | exact spec_RelativeHand.mono _ _ _ _ _ _ _
   | exact spec_ThreeMeet.mono _ _ _ _ _ _ _ _ _ _
   | exact spec_TimesAtPlace.mono _ _ _ _ _ _
   | exact LeO.none _
   | refine LeO.ite ?_ ?_
   | refine LeO.bind ?_ (fun _ => ?_)
  ·intro y0 y1 y2 y3 y4
   unfold laws_FnHandsAheadOfAll.j9
   repeat' first
   | (with_reducible apply ih0)
   | (with_reducible apply ih1)
   | (with_reducible apply ih2)
   | (with_reducible apply ih3)
   | (with_reducible apply ih4)
   | (with_reducible apply ih5)
   | (with_reducible apply ih6)
   | (with_reducible apply ih7)
   | (with_reducible apply ih8)
   | (with_reducible apply ih9)
   | (with_reducible apply ih10)
   | (with_reducible apply ih11)
   | (with_reducible apply ih12)
   | (with_reducible exact impl_AheadAt.mono _ _ _ _ _ _ _ _ _)
   | (with_reducible exact impl_AheadTimes.mono _ _ _ _ _ _ _ _ _)
   | (with_reducible exact impl_HandAt.mono _ _ _ _ _ _)
   | (with_reducible exact impl_MeetTimes.mono _ _ _ _ _ _ _)
   | (with_reducible exact impl_OppositeTimes.mono _ _ _ _ _ _ _)
   | (with_reducible exact impl_RelativeHand.mono _ _ _ _ _ _ _)
   | (with_reducible exact impl_ThreeMeet.mono _ _ _ _ _ _ _ _ _ _)
   | (with_reducible exact impl_TimesAtPlace.mono _ _ _ _ _ _)
   | (with_reducible exact laws_kIn.mono _ _ _ _)
   | (with_reducible exact laws_kRises.mono _ _)
   | (with_reducible exact laws_kTurns.mono _ _ _)
   | (with_reducible exact spec_AheadAt.mono _ _ _ _ _ _ _ _ _)
   | (with_reducible exact spec_AheadTimes.mono _ _ _ _ _ _ _ _ _)
   | (with_reducible exact spec_HandAt.mono _ _ _ _ _ _)
   | (with_reducible exact spec_OppositeTimes.mono _ _ _ _ _ _ _)
   | (with_reducible exact spec_RelativeHand.mono _ _ _ _ _ _ _)
   | (with_reducible exact spec_ThreeMeet.mono _ _ _ _ _ _ _ _ _ _)
   | (with_reducible exact spec_TimesAtPlace.mono _ _ _ _ _ _)
   | (with_reducible exact LeO.refl _)
   | (with_reducible exact LeO.none _)
   | (with_reducible refine LeO.ite ?_ ?_)
   | (with_reducible refine LeO.bind ?_ (fun _ => ?_))
   | apply ih0
   | apply ih1
   | apply ih2
   | apply ih3
   | apply ih4
   | apply ih5
   | apply ih6
   | apply ih7
   | apply ih8
   | apply ih9
   | apply ih10
   | apply ih11
   | apply ih12
   | exact impl_AheadAt.mono _ _ _ _ _ _ _ _ _
   | exact impl_AheadTimes.mono _ _ _ _ _ _ _ _ _
   | exact impl_HandAt.mono _ _ _ _ _ _
   | exact impl_MeetTimes.mono _ _ _ _ _ _ _
   | exact impl_OppositeTimes.mono _ _ _ _ _ _ _
   | exact impl_RelativeHand.mono _ _ _ _ _ _ _
   | exact impl_ThreeMeet.mono _ _ _ _ _ _ _ _ _ _
   | exact impl_TimesAtPlace.mono _ _ _ _ _ _
   | exact laws_kIn.mono _ _ _ _
   | exact laws_kRises.mono _ _
   | exact laws_kTurns.mono _ _ _
   | exact spec_AheadAt.mono _ _ _ _ _ _ _ _ _
   | exact spec_AheadTimes.mono _ _ _ _ _ _ _ _ _
   | exact spec_HandAt.mono _ _ _ _ _ _
   | exact spec_OppositeTimes.mono _ _ _ _ _ _ _
   | exact spec_RelativeHand.mono _ _ _ _ _ _ _
   | exact spec_ThreeMeet.mono _ _ _ _ _ _ _ _ _ _
   | exact spec_TimesAtPlace.mono _ _ _ _ _ _
   | exact LeO.none _
   | refine LeO.ite ?_ ?_
   | refine LeO.bind ?_ (fun _ => ?_)
  ·intro y0 y1 y2 y3 y4 y5 y6 y7
   unfold laws_FnHandsAheadOfAll.j10
   repeat' first
   | (with_reducible apply ih0)
   | (with_reducible apply ih1)
   | (with_reducible apply ih2)
   | (with_reducible apply ih3)
   | (with_reducible apply ih4)
   | (with_reducible apply ih5)
   | (with_reducible apply ih6)
   | (with_reducible apply ih7)
   | (with_reducible apply ih8)
   | (with_reducible apply ih9)
   | (with_reducible apply ih10)
   | (with_reducible apply ih11)
   | (with_reducible apply ih12)
   | (with_reducible exact impl_AheadAt.mono _ _ _ _ _ _ _ _ _)
   | (with_reducible exact impl_AheadTimes.mono _ _ _ _ _ _ _ _ _)
   | (with_reducible exact impl_HandAt.mono _ _ _ _ _ _)
   | (with_reducible exact impl_MeetTimes.mono _ _ _ _ _ _ _)
   | (with_reducible exact impl_OppositeTimes.mono _ _ _ _ _ _ _)
   | (with_reducible exact impl_RelativeHand.mono _ _ _ _ _ _ _)
   | (with_reducible exact impl_ThreeMeet.mono _ _ _ _ _ _ _ _ _ _)
   | (with_reducible exact impl_TimesAtPlace.mono _ _ _ _ _ _)
   | (with_reducible exact laws_kIn.mono _ _ _ _)
   | (with_reducible exact laws_kRises.mono _ _)
   | (with_reducible exact laws_kTurns.mono _ _ _)
   | (with_reducible exact spec_AheadAt.mono _ _ _ _ _ _ _ _ _)
   | (with_reducible exact spec_AheadTimes.mono _ _ _ _ _ _ _ _ _)
   | (with_reducible exact spec_HandAt.mono _ _ _ _ _ _)
   | (with_reducible exact spec_OppositeTimes.mono _ _ _ _ _ _ _)
   | (with_reducible exact spec_RelativeHand.mono _ _ _ _ _ _ _)
   | (with_reducible exact spec_ThreeMeet.mono _ _ _ _ _ _ _ _ _ _)
   | (with_reducible exact spec_TimesAtPlace.mono _ _ _ _ _ _)
   | (with_reducible exact LeO.refl _)
   | (with_reducible exact LeO.none _)
   | (with_reducible refine LeO.ite ?_ ?_)
   | (with_reducible refine LeO.bind ?_ (fun _ => ?_))
   | apply ih0
   | apply ih1
   | apply ih2
   | apply ih3
   | apply ih4
   | apply ih5
   | apply ih6
   | apply ih7
   | apply ih8
   | apply ih9
   | apply ih10
   | apply ih11
   | apply ih12
   | exact impl_AheadAt.mono _ _ _ _ _ _ _ _ _
   | exact impl_AheadTimes.mono _ _ _ _ _ _ _ _ _
   | exact impl_HandAt.mono _ _ _ _ _ _
   | exact impl_MeetTimes.mono _ _ _ _ _ _ _
   | exact impl_OppositeTimes.mono _ _ _ _ _ _ _
   | exact impl_RelativeHand.mono _ _ _ _ _ _ _
   | exact impl_ThreeMeet.mono _ _ _ _ _ _ _ _ _ _
   | exact impl_TimesAtPlace.mono _ _ _ _ _ _
   | exact laws_kIn.mono _ _ _ _
   | exact laws_kRises.mono _ _
   | exact laws_kTurns.mono _ _ _
   | exact spec_AheadAt.mono _ _ _ _ _ _ _ _ _
   | exact spec_AheadTimes.mono _ _ _ _ _ _ _ _ _
   | exact spec_HandAt.mono _ _ _ _ _ _
   | exact spec_OppositeTimes.mono _ _ _ _ _ _ _
   | exact spec_RelativeHand.mono _ _ _ _ _ _ _
   | exact spec_ThreeMeet.mono _ _ _ _ _ _ _ _ _ _
   | exact spec_TimesAtPlace.mono _ _ _ _ _ _
   | exact LeO.none _
   | refine LeO.ite ?_ ?_
   | refine LeO.bind ?_ (fun _ => ?_)
  ·intro y0 y1 y2 y3 y4 y5 y6
   unfold laws_FnHandsAheadOfAll.j11
   repeat' first
   | (with_reducible apply ih0)
   | (with_reducible apply ih1)
   | (with_reducible apply ih2)
   | (with_reducible apply ih3)
   | (with_reducible apply ih4)
   | (with_reducible apply ih5)
   | (with_reducible apply ih6)
   | (with_reducible apply ih7)
   | (with_reducible apply ih8)
   | (with_reducible apply ih9)
   | (with_reducible apply ih10)
   | (with_reducible apply ih11)
   | (with_reducible apply ih12)
   | (with_reducible exact impl_AheadAt.mono _ _ _ _ _ _ _ _ _)
   | (with_reducible exact impl_AheadTimes.mono _ _ _ _ _ _ _ _ _)
   | (with_reducible exact impl_HandAt.mono _ _ _ _ _ _)
   | (with_reducible exact impl_MeetTimes.mono _ _ _ _ _ _ _)
   | (with_reducible exact impl_OppositeTimes.mono _ _ _ _ _ _ _)
   | (with_reducible exact impl_RelativeHand.mono _ _ _ _ _ _ _)
   | (with_reducible exact impl_ThreeMeet.mono _ _ _ _ _ _ _ _ _ _)
   | (with_reducible exact impl_TimesAtPlace.mono _ _ _ _ _ _)
   | (with_reducible exact laws_kIn.mono _ _ _ _)
   | (with_reducible exact laws_kRises.mono _ _)
   | (with_reducible exact laws_kTurns.mono _ _ _)
   | (with_reducible exact spec_AheadAt.mono _ _ _ _ _ _ _ _ _)
   | (with_reducible exact spec_AheadTimes.mono _ _ _ _ _ _ _ _ _)
   | (with_reducible exact spec_HandAt.mono _ _ _ _ _ _)
   | (with_reducible exact spec_OppositeTimes.mono _ _ _ _ _ _ _)
   | (with_reducible exact spec_RelativeHand.mono _ _ _ _ _ _ _)
   | (with_reducible exact spec_ThreeMeet.mono _ _ _ _ _ _ _ _ _ _)
   | (with_reducible exact spec_TimesAtPlace.mono _ _ _ _ _ _)
   | (with_reducible exact LeO.refl _)
   | (with_reducible exact LeO.none _)
   | (with_reducible refine LeO.ite ?_ ?_)
   | (with_reducible refine LeO.bind ?_ (fun _ => ?_))
   | apply ih0
   | apply ih1
   | apply ih2
   | apply ih3
   | apply ih4
   | apply ih5
   | apply ih6
   | apply ih7
   | apply ih8
   | apply ih9
   | apply ih10
   | apply ih11
   | apply ih12
   | exact impl_AheadAt.mono _ _ _ _ _ _ _ _ _
   | exact impl_AheadTimes.mono _ _ _ _ _ _ _ _ _
   | exact impl_HandAt.mono _ _ _ _ _ _
   | exact impl_MeetTimes.mono _ _ _ _ _ _ _
   | exact impl_OppositeTimes.mono _ _ _ _ _ _ _
   | exact impl_RelativeHand.mono _ _ _ _ _ _ _
   | exact impl_ThreeMeet.mono _ _ _ _ _ _ _ _ _ _
   | exact impl_TimesAtPlace.mono _ _ _ _ _ _
   | exact laws_kIn.mono _ _ _ _
   | exact laws_kRises.mono _ _
   | exact laws_kTurns.mono _ _ _
   | exact spec_AheadAt.mono _ _ _ _ _ _ _ _ _
   | exact spec_AheadTimes.mono _ _ _ _ _ _ _ _ _
   | exact spec_HandAt.mono _ _ _ _ _ _
   | exact spec_OppositeTimes.mono _ _ _ _ _ _ _
   | exact spec_RelativeHand.mono _ _ _ _ _ _ _
   | exact spec_ThreeMeet.mono _ _ _ _ _ _ _ _ _ _
   | exact spec_TimesAtPlace.mono _ _ _ _ _ _
   | exact LeO.none _
   | refine LeO.ite ?_ ?_
   | refine LeO.bind ?_ (fun _ => ?_)
  ·intro y0 y1 y2 y3 y4 y5 y6 y7
   unfold laws_FnHandsAheadOfAll.l3
   repeat' first
   | (with_reducible apply ih0)
   | (with_reducible apply ih1)
   | (with_reducible apply ih2)
   | (with_reducible apply ih3)
   | (with_reducible apply ih4)
   | (with_reducible apply ih5)
   | (with_reducible apply ih6)
   | (with_reducible apply ih7)
   | (with_reducible apply ih8)
   | (with_reducible apply ih9)
   | (with_reducible apply ih10)
   | (with_reducible apply ih11)
   | (with_reducible apply ih12)
   | (with_reducible exact impl_AheadAt.mono _ _ _ _ _ _ _ _ _)
   | (with_reducible exact impl_AheadTimes.mono _ _ _ _ _ _ _ _ _)
   | (with_reducible exact impl_HandAt.mono _ _ _ _ _ _)
   | (with_reducible exact impl_MeetTimes.mono _ _ _ _ _ _ _)
   | (with_reducible exact impl_OppositeTimes.mono _ _ _ _ _ _ _)
   | (with_reducible exact impl_RelativeHand.mono _ _ _ _ _ _ _)
   | (with_reducible exact impl_ThreeMeet.mono _ _ _ _ _ _ _ _ _ _)
   | (with_reducible exact impl_TimesAtPlace.mono _ _ _ _ _ _)
   | (with_reducible exact laws_kIn.mono _ _ _ _)
   | (with_reducible exact laws_kRises.mono _ _)
   | (with_reducible exact laws_kTurns.mono _ _ _)
   | (with_reducible exact spec_AheadAt.mono _ _ _ _ _ _ _ _ _)
   | (with_reducible exact spec_AheadTimes.mono _ _ _ _ _ _ _ _ _)
   | (with_reducible exact spec_HandAt.mono _ _ _ _ _ _)
   | (with_reducible exact spec_OppositeTimes.mono _ _ _ _ _ _ _)
   | (with_reducible exact spec_RelativeHand.mono _ _ _ _ _ _ _)
   | (with_reducible exact spec_ThreeMeet.mono _ _ _ _ _ _ _ _ _ _)
   | (with_reducible exact spec_TimesAtPlace.mono _ _ _ _ _ _)
   | (with_reducible exact LeO.refl _)
   | (with_reducible exact LeO.none _)
   | (with_reducible refine LeO.ite ?_ ?_)
   | (with_reducible refine LeO.bind ?_ (fun _ => ?_))
   | apply ih0
   | apply ih1
   | apply ih2
   | apply ih3
   | apply ih4
   | apply ih5
   | apply ih6
   | apply ih7
   | apply ih8
   | apply ih9
   | apply ih10
   | apply ih11
   | apply ih12
   | exact impl_AheadAt.mono _ _ _ _ _ _ _ _ _
   | exact impl_AheadTimes.mono _ _ _ _ _ _ _ _ _
   | exact impl_HandAt.mono _ _ _ _ _ _
   | exact impl_MeetTimes.mono _ _ _ _ _ _ _
   | exact impl_OppositeTimes.mono _ _ _ _ _ _ _
   | exact impl_RelativeHand.mono _ _ _ _ _ _ _
   | exact impl_ThreeMeet.mono _ _ _ _ _ _ _ _ _ _
   | exact impl_TimesAtPlace.mono _ _ _ _ _ _
   | exact laws_kIn.mono _ _ _ _
   | exact laws_kRises.mono _ _
   | exact laws_kTurns.mono _ _ _
   | exact spec_AheadAt.mono _ _ _ _ _ _ _ _ _
   | exact spec_AheadTimes.mono _ _ _ _ _ _ _ _ _
   | exact spec_HandAt.mono _ _ _ _ _ _
   | exact spec_OppositeTimes.mono _ _ _ _ _ _ _
   | exact spec_RelativeHand.mono _ _ _ _ _ _ _
   | exact spec_ThreeMeet.mono _ _ _ _ _ _ _ _ _ _
   | exact spec_TimesAtPlace.mono _ _ _ _ _ _
   | exact LeO.none _
   | refine LeO.ite ?_ ?_
   | refine LeO.bind ?_ (fun _ => ?_)
  ·intro y0 y1 y2 y3 y4 y5 y6 y7 y8 y9 y10 y11 y12 y13 y14 y15
   unfold laws_FnHandsAheadOfAll.l2
   repeat' first
   | (with_reducible apply ih0)
   | (with_reducible apply ih1)
   | (with_reducible apply ih2)
   | (with_reducible apply ih3)
   | (with_reducible apply ih4)
   | (with_reducible apply ih5)
   | (with_reducible apply ih6)
   | (with_reducible apply ih7)
   | (with_reducible apply ih8)
   | (with_reducible apply ih9)
   | (with_reducible apply ih10)
   | (with_reducible apply ih11)
   | (with_reducible apply ih12)
   | (with_reducible exact impl_AheadAt.mono _ _ _ _ _ _ _ _ _)
   | (with_reducible exact impl_AheadTimes.mono _ _ _ _ _ _ _ _ _)
   | (with_reducible exact impl_HandAt.mono _ _ _ _ _ _)
   | (with_reducible exact impl_MeetTimes.mono _ _ _ _ _ _ _)
   | (with_reducible exact impl_OppositeTimes.mono _ _ _ _ _ _ _)
   | (with_reducible exact impl_RelativeHand.mono _ _ _ _ _ _ _)
   | (with_reducible exact impl_ThreeMeet.mono _ _ _ _ _ _ _ _ _ _)
   | (with_reducible exact impl_TimesAtPlace.mono _ _ _ _ _ _)
   | (with_reducible exact laws_kIn.mono _ _ _ _)
   | (with_reducible exact laws_kRises.mono _ _)
   | (with_reducible exact laws_kTurns.mono _ _ _)
   | (with_reducible exact spec_AheadAt.mono _ _ _ _ _ _ _ _ _)
   | (with_reducible exact spec_AheadTimes.mono _ _ _ _ _ _ _ _ _)
   | (with_reducible exact spec_HandAt.mono _ _ _ _ _ _)
   | (with_reducible exact spec_OppositeTimes.mono _ _ _ _ _ _ _)
   | (with_reducible exact spec_RelativeHand.mono _ _ _ _ _ _ _)
   | (with_reducible exact spec_ThreeMeet.mono _ _ _ _ _ _ _ _ _ _)
   | (with_reducible exact spec_TimesAtPlace.mono _ _ _ _ _ _)
   | (with_reducible exact LeO.refl _)
   | (with_reducible exact LeO.none _)
   | (with_reducible refine LeO.ite ?_ ?_)
   | (with_reducible refine LeO.bind ?_ (fun _ => ?_))
   | apply ih0
   | apply ih1
   | apply ih2
   | apply ih3
   | apply ih4
   | apply ih5
   | apply ih6
   | apply ih7
   | apply ih8
   | apply ih9
   | apply ih10
   | apply ih11
   | apply ih12
   | exact impl_AheadAt.mono _ _ _ _ _ _ _ _ _
   | exact impl_AheadTimes.mono _ _ _ _ _ _ _ _ _
   | exact impl_HandAt.mono _ _ _ _ _ _
   | exact impl_MeetTimes.mono _ _ _ _ _ _ _
   | exact impl_OppositeTimes.mono _ _ _ _ _ _ _
   | exact impl_RelativeHand.mono _ _ _ _ _ _ _
   | exact impl_ThreeMeet.mono _ _ _ _ _ _ _ _ _ _
   | exact impl_TimesAtPlace.mono _ _ _ _ _ _
   | exact laws_kIn.mono _ _ _ _
   | exact laws_kRises.mono _ _
   | exact laws_kTurns.mono _ _ _
   | exact spec_AheadAt.mono _ _ _ _ _ _ _ _ _
   | exact spec_AheadTimes.mono _ _ _ _ _ _ _ _ _
   | exact spec_HandAt.mono _ _ _ _ _ _
   | exact spec_OppositeTimes.mono _ _ _ _ _ _ _
   | exact spec_RelativeHand.mono _ _ _ _ _ _ _
   | exact spec_ThreeMeet.mono _ _ _ _ _ _ _ _ _ _
   | exact spec_TimesAtPlace.mono _ _ _ _ _ _
   | exact LeO.none _
   | refine LeO.ite ?_ ?_
   | refine LeO.bind ?_ (fun _ => ?_)
  ·intro y0 y1 y2 y3 y4 y5 y6 y7 y8 y9 y10 y11 y12 y13 y14 y15 y16 y17 y18 y19 y20 y21 y22 y23 y24 y25 y26 y27 y28 y29 y30 y31
   unfold laws_FnHandsAheadOfAll.l1
   repeat' first
   | (with_reducible apply ih0)
   | (with_reducible apply ih1)
   | (with_reducible apply ih2)
   | (with_reducible apply ih3)
   | (with_reducible apply ih4)
   | (with_reducible apply ih5)
   | (with_reducible apply ih6)
   | (with_reducible apply ih7)
   | (with_reducible apply ih8)
   | (with_reducible apply ih9)
   | (with_reducible apply ih10)
   | (with_reducible apply ih11)
   | (with_reducible apply ih12)
   | (with_reducible exact impl_AheadAt.mono _ _ _ _ _ _ _ _ _)
   | (with_reducible exact impl_AheadTimes.mono _ _ _ _ _ _ _ _ _)
   | (with_reducible exact impl_HandAt.mono _ _ _ _ _ _)
   | (with_reducible exact impl_MeetTimes.mono _ _ _ _ _ _ _)
   | (with_reducible exact impl_OppositeTimes.mono _ _ _ _ _ _ _)
   | (with_reducible exact impl_RelativeHand.mono _ _ _ _ _ _ _)
   | (with_reducible exact impl_ThreeMeet.mono _ _ _ _ _ _ _ _ _ _)
   | (with_reducible exact impl_TimesAtPlace.mono _ _ _ _ _ _)
   | (with_reducible exact laws_kIn.mono _ _ _ _)
   | (with_reducible exact laws_kRises.mono _ _)
   | (with_reducible exact laws_kTurns.mono _ _ _)
   | (with_reducible exact spec_AheadAt.mono _ _ _ _ _ _ _ _ _)
   | (with_reducible exact spec_AheadTimes.mono _ _ _ _ _ _ _ _ _)
   | (with_reducible exact spec_HandAt.mono _ _ _ _ _ _)
   | (with_reducible exact spec_OppositeTimes.mono _ _ _ _ _ _ _)
   | (with_reducible exact spec_RelativeHand.mono _ _ _ _ _ _ _)
   | (with_reducible exact spec_ThreeMeet.mono _ _ _ _ _ _ _ _ _ _)
   | (with_reducible exact spec_TimesAtPlace.mono _ _ _ _ _ _)
   | (with_reducible exact LeO.refl _)
   | (with_reducible exact LeO.none _)
   | (with_reducible refine LeO.ite ?_ ?_)
   | (with_reducible refine LeO.bind ?_ (fun _ => ?_))
   | apply ih0
   | apply ih1
   | apply ih2
   | apply ih3
   | apply ih4
   | apply ih5
   | apply ih6
   | apply ih7
   | apply ih8
   | apply ih9
   | apply ih10
   | apply ih11
   | apply ih12
   | exact impl_AheadAt.mono _ _ _ _ _ _ _ _ _
   | exact impl_AheadTimes.mono _ _ _ _ _ _ _ _ _
   | exact impl_HandAt.mono _ _ _ _ _ _
   | exact impl_MeetTimes.mono _ _ _ _ _ _ _
   | exact impl_OppositeTimes.mono _ _ _ _ _ _ _
   | exact impl_RelativeHand.mono _ _ _ _ _ _ _
   | exact impl_ThreeMeet.mono _ _ _ _ _ _ _ _ _ _
   | exact impl_TimesAtPlace.mono _ _ _ _ _ _
   | exact laws_kIn.mono _ _ _ _
   | exact laws_kRises.mono _ _
   | exact laws_kTurns.mono _ _ _
   | exact spec_AheadAt.mono _ _ _ _ _ _ _ _ _
   | exact spec_AheadTimes.mono _ _ _ _ _ _ _ _ _
   | exact spec_HandAt.mono _ _ _ _ _ _
   | exact spec_OppositeTimes.mono _ _ _ _ _ _ _
   | exact spec_RelativeHand.mono _ _ _ _ _ _ _
   | exact spec_ThreeMeet.mono _ _ _ _ _ _ _ _ _ _
   | exact spec_TimesAtPlace.mono _ _ _ _ _ _
   | exact LeO.none _
   | refine LeO.ite ?_ ?_
   | refine LeO.bind ?_ (fun _ => ?_)
  ·intro y0 y1 y2 y3 y4 y5 y6 y7 y8 y9 y10 y11 y12 y13 y14 y15 y16 y17 y18 y19 y20 y21 y22 y23 y24 y25 y26 y27 y28 y29 y30 y31 y32
   unfold laws_FnHandsAheadOfAll.j1
   repeat' first
   | (with_reducible apply ih0)
   | (with_reducible apply ih1)
   | (with_reducible apply ih2)
   | (with_reducible apply ih3)
   | (with_reducible apply ih4)
   | (with_reducible apply ih5)
   | (with_reducible apply ih6)
   | (with_reducible apply ih7)
   | (with_reducible apply ih8)
   | (with_reducible apply ih9)
   | (with_reducible apply ih10)
   | (with_reducible apply ih11)
   | (with_reducible apply ih12)
   | (with_reducible exact impl_AheadAt.mono _ _ _ _ _ _ _ _ _)
   | (with_reducible exact impl_AheadTimes.mono _ _ _ _ _ _ _ _ _)
   | (with_reducible exact impl_HandAt.mono _ _ _ _ _ _)
   | (with_reducible exact impl_MeetTimes.mono _ _ _ _ _ _ _)
   | (with_reducible exact impl_OppositeTimes.mono _ _ _ _ _ _ _)
   | (with_reducible exact impl_RelativeHand.mono _ _ _ _ _ _ _)
   | (with_reducible exact impl_ThreeMeet.mono _ _ _ _ _ _ _ _ _ _)
   | (with_reducible exact impl_TimesAtPlace.mono _ _ _ _ _ _)
   | (with_reducible exact laws_kIn.mono _ _ _ _)
   | (with_reducible exact laws_kRises.mono _ _)
   | (with_reducible exact laws_kTurns.mono _ _ _)
   | (with_reducible exact spec_AheadAt.mono _ _ _ _ _ _ _ _ _)
   | (with_reducible exact spec_AheadTimes.mono _ _ _ _ _ _ _ _ _)
   | (with_reducible exact spec_HandAt.mono _ _ _ _ _ _)
   | (with_reducible exact spec_OppositeTimes.mono _ _ _ _ _ _ _)
   | (with_reducible exact spec_RelativeHand.mono _ _ _ _ _ _ _)
   | (with_reducible exact spec_ThreeMeet.mono _ _ _ _ _ _ _ _ _ _)
   | (with_reducible exact spec_TimesAtPlace.mono _ _ _ _ _ _)
   | (with_reducible exact LeO.refl _)
   | (with_reducible exact LeO.none _)
   | (with_reducible refine LeO.ite ?_ ?_)
   | (with_reducible refine LeO.bind ?_ (fun _ => ?_))
   | apply ih0
   | apply ih1
   | apply ih2
   | apply ih3
   | apply ih4
   | apply ih5
   | apply ih6
   | apply ih7
   | apply ih8
   | apply ih9
   | apply ih10
   | apply ih11
   | apply ih12
   | exact impl_AheadAt.mono _ _ _ _ _ _ _ _ _
   | exact impl_AheadTimes.mono _ _ _ _ _ _ _ _ _
   | exact impl_HandAt.mono _ _ _ _ _ _
   | exact impl_MeetTimes.mono _ _ _ _ _ _ _
   | exact impl_OppositeTimes.mono _ _ _ _ _ _ _
   | exact impl_RelativeHand.mono _ _ _ _ _ _ _
   | exact impl_ThreeMeet.mono _ _ _ _ _ _ _ _ _ _
   | exact impl_TimesAtPlace.mono _ _ _ _ _ _
   | exact laws_kIn.mono _ _ _ _
   | exact laws_kRises.mono _ _
   | exact laws_kTurns.mono _ _ _
   | exact spec_AheadAt.mono _ _ _ _ _ _ _ _ _
   | exact spec_AheadTimes.mono _ _ _ _ _ _ _ _ _
   | exact spec_HandAt.mono _ _ _ _ _ _
   | exact spec_OppositeTimes.mono _ _ _ _ _ _ _
   | exact spec_RelativeHand.mono _ _ _ _ _ _ _
   | exact spec_ThreeMeet.mono _ _ _ _ _ _ _ _ _ _
   | exact spec_TimesAtPlace.mono _ _ _ _ _ _
   | exact LeO.none _
   | refine LeO.ite ?_ ?_
   | refine LeO.bind ?_ (fun _ => ?_)
  ·intro y0 y1 y2 y3 y4 y5 y6 y7 y8 y9 y10 y11 y12 y13 y14 y15 y16 y17 y18 y19 y20 y21 y22 y23 y24 y25 y26 y27 y28 y29 y30 y31 y32 y33
   unfold laws_FnHandsAheadOfAll.l0
   repeat' first
   | (with_reducible apply ih0)
   | (with_reducible apply ih1)
   | (with_reducible apply ih2)
   | (with_reducible apply ih3)
   | (with_reducible apply ih4)
   | (with_reducible apply ih5)
   | (with_reducible apply ih6)
   | (with_reducible apply ih7)
   | (with_reducible apply ih8)
   | (with_reducible apply ih9)
   | (with_reducible apply ih10)
   | (with_reducible apply ih11)
   | (with_reducible apply ih12)
   | (with_reducible exact impl_AheadAt.mono _ _ _ _ _ _ _ _ _)
   | (with_reducible exact impl_AheadTimes.mono _ _ _ _ _ _ _ _ _)
   | (with_reducible exact impl_HandAt.mono _ _ _ _ _ _)
   | (with_reducible exact impl_MeetTimes.mono _ _ _ _ _ _ _)
   | (with_reducible exact impl_OppositeTimes.mono _ _ _ _ _ _ _)
   | (with_reducible exact impl_RelativeHand.mono _ _ _ _ _ _ _)
   | (with_reducible exact impl_ThreeMeet.mono _ _ _ _ _ _ _ _ _ _)
   | (with_reducible exact impl_TimesAtPlace.mono _ _ _ _ _ _)
   | (with_reducible exact laws_kIn.mono _ _ _ _)
   | (with_reducible exact laws_kRises.mono _ _)
   | (with_reducible exact laws_kTurns.mono _ _ _)
   | (with_reducible exact spec_AheadAt.mono _ _ _ _ _ _ _ _ _)
   | (with_reducible exact spec_AheadTimes.mono _ _ _ _ _ _ _ _ _)
   | (with_reducible exact spec_HandAt.mono _ _ _ _ _ _)
   | (with_reducible exact spec_OppositeTimes.mono _ _ _ _ _ _ _)
   | (with_reducible exact spec_RelativeHand.mono _ _ _ _ _ _ _)
   | (with_reducible exact spec_ThreeMeet.mono _ _ _ _ _ _ _ _ _ _)
   | (with_reducible exact spec_TimesAtPlace.mono _ _ _ _ _ _)
   | (with_reducible exact LeO.refl _)
   | (with_reducible exact LeO.none _)
   | (with_reducible refine LeO.ite ?_ ?_)
   | (with_reducible refine LeO.bind ?_ (fun _ => ?_))
   | apply ih0
   | apply ih1
   | apply ih2
   | apply ih3
   | apply ih4
   | apply ih5
   | apply ih6
   | apply ih7
   | apply ih8
   | apply ih9
   | apply ih10
   | apply ih11
   | apply ih12
   | exact impl_AheadAt.mono _ _ _ _ _ _ _ _ _
   | exact impl_AheadTimes.mono _ _ _ _ _ _ _ _ _
   | exact impl_HandAt.mono _ _ _ _ _ _
   | exact impl_MeetTimes.mono _ _ _ _ _ _ _
   | exact impl_OppositeTimes.mono _ _ _ _ _ _ _
   | exact impl_RelativeHand.mono _ _ _ _ _ _ _
   | exact impl_ThreeMeet.mono _ _ _ _ _ _ _ _ _ _
   | exact impl_TimesAtPlace.mono _ _ _ _ _ _
   | exact laws_kIn.mono _ _ _ _
   | exact laws_kRises.mono _ _
   | exact laws_kTurns.mono _ _ _
   | exact spec_AheadAt.mono _ _ _ _ _ _ _ _ _
   | exact spec_AheadTimes.mono _ _ _ _ _ _ _ _ _
   | exact spec_HandAt.mono _ _ _ _ _ _
   | exact spec_OppositeTimes.mono _ _ _ _ _ _ _
   | exact spec_RelativeHand.mono _ _ _ _ _ _ _
   | exact spec_ThreeMeet.mono _ _ _ _ _ _ _ _ _ _
   | exact spec_TimesAtPlace.mono _ _ _ _ _ _
   | exact LeO.none _
   | refine LeO.ite ?_ ?_
   | refine LeO.bind ?_ (fun _ => ?_)
theorem laws_FnHandsAheadOfAll.mono : ∀ a0 a1 a2 a3 a4 a5 a6 a7 a8 a9 a10 a11 a12 a13 a14 a15 a16 a17 a18 a19 a20 a21 k, LeO (laws_FnHandsAheadOfAll.f k a0 a1 a2 a3 a4 a5 a6 a7 a8 a9 a10 a11 a12 a13 a14 a15 a16 a17 a18 a19 a20 a21) (laws_FnHandsAheadOfAll.f (k + 1) a0 a1 a2 a3 a4 a5 a6 a7 a8 a9 a10 a11 a12 a13 a14 a15 a16 a17 a18 a19 a20 a21) := by
 intro a0 a1 a2 a3 a4 a5 a6 a7 a8 a9 a10 a11 a12 a13 a14 a15 a16 a17 a18 a19 a20 a21 k
 obtain ⟨ih0, ih1, ih2, ih3, ih4, ih5, ih6, ih7, ih8, ih9, ih10, ih11, ih12⟩ := laws_FnHandsAheadOfAll.mono_l k
 unfold laws_FnHandsAheadOfAll.f
 repeat' first
   | (with_reducible apply ih0)
   | (with_reducible apply ih1)
   | (with_reducible apply ih2)
   | (with_reducible apply ih3)
   | (with_reducible apply ih4)
   | (with_reducible apply ih5)
   | (with_reducible apply ih6)
   | (with_reducible apply ih7)
   | (with_reducible apply ih8)
   | (with_reducible apply ih9)
   | (with_reducible apply ih10)
   | (with_reducible apply ih11)
   | (with_reducible apply ih12)
   | (with_reducible exact impl_AheadAt.mono _ _ _ _ _ _ _ _ _)
   | (with_reducible exact impl_AheadTimes.mono _ _ _ _ _ _ _ _ _)
   | (with_reducible exact impl_HandAt.mono _ _ _ _ _ _)
   | (with_reducible exact impl_MeetTimes.mono _ _ _ _ _ _ _)
   | (with_reducible exact impl_OppositeTimes.mono _ _ _ _ _ _ _)
   | (with_reducible exact impl_RelativeHand.mono _ _ _ _ _ _ _)
   | (with_reducible exact impl_ThreeMeet.mono _ _ _ _ _ _ _ _ _ _)
   | (with_reducible exact impl_TimesAtPlace.mono _ _ _ _ _ _)
   | (with_reducible exact laws_kIn.mono _ _ _ _)
   | (with_reducible exact laws_kRises.mono _ _)
   | (with_reducible exact laws_kTurns.mono _ _ _)
   | (with_reducible exact spec_AheadAt.mono _ _ _ _ _ _ _ _ _)
   | (with_reducible exact spec_AheadTimes.mono _ _ _ _ _ _ _ _ _)
   | (with_reducible exact spec_HandAt.mono _ _ _ _ _ _)
   | (with_reducible exact spec_OppositeTimes.mono _ _ _ _ _ _ _)
   | (with_reducible exact spec_RelativeHand.mono _ _ _ _ _ _ _)
   | (with_reducible exact spec_ThreeMeet.mono _ _ _ _ _ _ _ _ _ _)
   | (with_reducible exact spec_TimesAtPlace.mono _ _ _ _ _ _)
   | (with_reducible exact LeO.refl _)
   | (with_reducible exact LeO.none _)
   | (with_reducible refine LeO.ite ?_ ?_)
   | (with_reducible refine LeO.bind ?_ (fun _ => ?_))
   | apply ih0
   | apply ih1
   | apply ih2
   | apply ih3
   | apply ih4
   | apply ih5
   | apply ih6
   | apply ih7
   | apply ih8
   | apply ih9
   | apply ih10
   | apply ih11
   | apply ih12
   | exact impl_AheadAt.mono _ _ _ _ _ _ _ _ _
   | exact impl_AheadTimes.mono _ _ _ _ _ _ _ _ _
   | exact impl_HandAt.mono _ _ _ _ _ _
   | exact impl_MeetTimes.mono _ _ _ _ _ _ _
   | exact impl_OppositeTimes.mono _ _ _ _ _ _ _
   | exact impl_RelativeHand.mono _ _ _ _ _ _ _
   | exact impl_ThreeMeet.mono _ _ _ _ _ _ _ _ _ _
   | exact impl_TimesAtPlace.mono _ _ _ _ _ _
   | exact laws_kIn.mono _ _ _ _
   | exact laws_kRises.mono _ _
   | exact laws_kTurns.mono _ _ _
   | exact spec_AheadAt.mono _ _ _ _ _ _ _ _ _
   | exact spec_AheadTimes.mono _ _ _ _ _ _ _ _ _
   | exact spec_HandAt.mono _ _ _ _ _ _
   | exact spec_OppositeTimes.mono _ _ _ _ _ _ _
   | exact spec_RelativeHand.mono _ _ _ _ _ _ _
   | exact spec_ThreeMeet.mono _ _ _ _ _ _ _ _ _ _
   | exact spec_TimesAtPlace.mono _ _ _ _ _ _
   | exact LeO.none _
   | refine LeO.ite ?_ ?_
   | refine LeO.bind ?_ (fun _ => ?_)
theorem laws_FnHandsAheadOfAll.j0_no {k_} {y0} {y1} {y2} {y3} {y4} {y5} {y7} {y8} {y9} {y10} {y11} {y12} {y13} {y14} {y15} {y16} {y17} {y18} {y19} {y20} {y21} {y22} {y23} {y24} {y25} {y26} {y27} {y28} {y29} {y30} {y31} {y32} {y33} {r : Bool} (h : laws_FnHandsAheadOfAll.j0 k_ y0 y1 y2 y3 y4 y5 true y7 y8 y9 y10 y11 y12 y13 y14 y15 y16 y17 y18 y19 y20 y21 y22 y23 y24 y25 y26 y27 y28 y29 y30 y31 y32 y33 = some r) : r = false := by
 cases k_ with
 | zero => simp [laws_FnHandsAheadOfAll.j0] at h
 | succ k_ =>
  have e : laws_FnHandsAheadOfAll.j0 (k_ + 1) y0 y1 y2 y3 y4 y5 true y7 y8 y9 y10 y11 y12 y13 y14 y15 y16 y17 y18 y19 y20 y21 y22 y23 y24 y25 y26 y27 y28 y29 y30 y31 y32 y33 = some false := by simp only [laws_FnHandsAheadOfAll.j0]; first | rfl | (rw [if_pos rfl]) | simp
  rw [e] at h
  exact (Option.some.inj h).symm
theorem laws_FnHandsAheadOfAll.j1_no {k_} {y0} {y1} {y2} {y3} {y4} {y6} {y7} {y8} {y9} {y10} {y11} {y12} {y13} {y14} {y15} {y16} {y17} {y18} {y19} {y20} {y21} {y22} {y23} {y24} {y25} {y26} {y27} {y28} {y29} {y30} {y31} {y32} {r : Bool} (h : laws_FnHandsAheadOfAll.j1 k_ y0 y1 y2 y3 y4 true y6 y7 y8 y9 y10 y11 y12 y13 y14 y15 y16 y17 y18 y19 y20 y21 y22 y23 y24 y25 y26 y27 y28 y29 y30 y31 y32 = some r) : r = false := by
 cases k_ with
 | zero => simp [laws_FnHandsAheadOfAll.j1] at h
 | succ k_ =>
  have e : laws_FnHandsAheadOfAll.j1 (k_ + 1) y0 y1 y2 y3 y4 true y6 y7 y8 y9 y10 y11 y12 y13 y14 y15 y16 y17 y18 y19 y20 y21 y22 y23 y24 y25 y26 y27 y28 y29 y30 y31 y32 = some false := by simp only [laws_FnHandsAheadOfAll.j1]; first | rfl | (rw [if_pos rfl]) | simp
  rw [e] at h
  exact (Option.some.inj h).symm
theorem laws_FnHandsAheadOfAll.j7_no {k_} {y0} {y1} {y3} {y4} {y5} {y6} {y7} {y8} {y9} {y10} {y11} {y12} {y13} {y14} {y15} {y16} {r : Bool} (h : laws_FnHandsAheadOfAll.j7 k_ y0 y1 true y3 y4 y5 y6 y7 y8 y9 y10 y11 y12 y13 y14 y15 y16 = some r) : r = false := by
 cases k_ with
 | zero => simp [laws_FnHandsAheadOfAll.j7] at h
 | succ k_ =>
  have e : laws_FnHandsAheadOfAll.j7 (k_ + 1) y0 y1 true y3 y4 y5 y6 y7 y8 y9 y10 y11 y12 y13 y14 y15 y16 = some false := by simp only [laws_FnHandsAheadOfAll.j7]; first | rfl | (rw [if_pos rfl]) | simp
  rw [e] at h
  exact (Option.some.inj h).symm
theorem laws_FnHandsAheadOfAll.j10_no {k_} {y0} {y1} {y3} {y4} {y5} {y6} {y7} {r : Bool} (h : laws_FnHandsAheadOfAll.j10 k_ y0 y1 true y3 y4 y5 y6 y7 = some r) : r = false := by
 cases k_ with
 | zero => simp [laws_FnHandsAheadOfAll.j10] at h
 | succ k_ =>
  have e : laws_FnHandsAheadOfAll.j10 (k_ + 1) y0 y1 true y3 y4 y5 y6 y7 = some false := by simp only [laws_FnHandsAheadOfAll.j10]; first | rfl | (rw [if_pos rfl]) | simp
  rw [e] at h
  exact (Option.some.inj h).symm
theorem laws_FnHandsAheadOfAll.j11_no {k_} {y0} {y2} {y3} {y4} {y5} {y6} {r : Bool} (h : laws_FnHandsAheadOfAll.j11 k_ y0 true y2 y3 y4 y5 y6 = some r) : r = false := by
 cases k_ with
 | zero => simp [laws_FnHandsAheadOfAll.j11] at h
 | succ k_ =>
  have e : laws_FnHandsAheadOfAll.j11 (k_ + 1) y0 true y2 y3 y4 y5 y6 = some false := by simp only [laws_FnHandsAheadOfAll.j11]; first | rfl | (rw [if_pos rfl]) | simp
  rw [e] at h
  exact (Option.some.inj h).symm
end Go.Proofs.Ytcoembcafgelkaa.PFnHandsAheadOfAll
