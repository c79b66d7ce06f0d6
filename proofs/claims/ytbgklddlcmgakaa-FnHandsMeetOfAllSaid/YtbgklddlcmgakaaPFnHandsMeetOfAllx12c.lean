-- WRITTEN BY A PROGRAM OF THIS SESSION (wip/tools): its own text, not the kit's printed one.
import Derived.Test.YtbgklddlcmgakaaPFnHandsMeetOfAllx0
import Derived.Test.YtbgklddlcmgakaaPFnHandsMeetOfAllx1
import Derived.Test.YtbgklddlcmgakaaPFnHandsMeetOfAllx2
import Derived.Test.YtbgklddlcmgakaaPFnHandsMeetOfAllx5
import Derived.Test.YtbgklddlcmgakaaPFnHandsMeetOfAllx6
import Derived.Test.YtbgklddlcmgakaaPFnHandsMeetOfAllx7
import Derived.Test.YtbgklddlcmgakaaPFnHandsMeetOfAllx8
import Derived.Test.YtbgklddlcmgakaaPFnHandsMeetOfAllx10
import Derived.Test.YtbgklddlcmgakaaPFnHandsMeetOfAllx11
namespace Go.Proofs.Ytbgklddlcmgakaa.PFnHandsMeetOfAll
open Go.RowKit Go.Proofs.YtbgklddlcmgakaaW.PrintWords Go.Proofs.YtbgklddlcmgakaaW.PrintLast Go.Proofs.YtbgklddlcmgakaaW.PrintMore
attribute [local go_sem] max2_int min2_int max_two min_two max_three min_three max_four min_four   -- for this text's walks alone
set_option linter.unusedVariables false
set_option linter.unusedSimpArgs false

attribute [local go_sem high] eqA23
/-! ### laws_FnHandsMeetOfAll: function 3 -/
mutual
def laws_FnHandsMeetOfAll.j0 : Nat → List (S23) → Bool → Int → List (S23) → Bool → Bool → Int → Int → Int → Int → Int → Int → Int → Int → Int → Int → Int → Int → Int → Int → Int → Int → Option (Bool)
 | 0, _, _, _, _, _, _, _, _, _, _, _, _, _, _, _, _, _, _, _, _, _, _ => none
 | k + 1, x11, x12, x15, x23, x24, x159, x472000, x472001, x472002, x473000, x473001, x473002, x474000, x474001, x474002, x475000, x475001, x475002, x476000, x476001, x492000, x492001 => if x159 = true then (some false) else (if x12 = true then (if (x11.length : Int) = x15 then ((laws_kAbs.f (wrap64 (x472002 - x473002))).bind fun t512 => (if x15 = t512 then (if 0 < (x11.length : Int) then (if (!(((rd_T23 x11 0).f0) == x492000) || (!(((rd_T23 x11 0).f1) == x492001))) = true then (laws_FnHandsMeetOfAll.j1 k x11 x15 x23 x24 true x472000 x472001 x472002 x473000 x473001 x473002 x474000 x474001 x474002 x475000 x475001 x475002 x476000 x476001) else ((laws_kRises.f k x11).bind fun t514 => (laws_FnHandsMeetOfAll.j1 k x11 x15 x23 x24 (!t514) x472000 x472001 x472002 x473000 x473001 x473002 x474000 x474001 x474002 x475000 x475001 x475002 x476000 x476001))) else (none)) else (laws_FnHandsMeetOfAll.j1 k x11 x15 x23 x24 true x472000 x472001 x472002 x473000 x473001 x473002 x474000 x474001 x474002 x475000 x475001 x475002 x476000 x476001))) else (laws_FnHandsMeetOfAll.j1 k x11 x15 x23 x24 true x472000 x472001 x472002 x473000 x473001 x473002 x474000 x474001 x474002 x475000 x475001 x475002 x476000 x476001)) else (laws_FnHandsMeetOfAll.j4 k x15 x23 x24 x474000 x474001 x474002 x475000 x475001 x475002 x476000 x476001))
def laws_FnHandsMeetOfAll.j4 : Nat → Int → List (S23) → Bool → Int → Int → Int → Int → Int → Int → Int → Int → Option (Bool)
 | 0, _, _, _, _, _, _, _, _, _, _, _ => none
 | k + 1, x15, x23, x24, x474000, x474001, x474002, x475000, x475001, x475002, x476000, x476001 => if x24 = true then ((laws_kRises.f k x23).bind fun t536 => (if t536 = true then (if (x23.length : Int) < 1 then (laws_FnHandsMeetOfAll.j5 k true x474000 x474001 x474002 x475000 x475001 x475002 x476000 x476001) else (laws_FnHandsMeetOfAll.j5 k (decide ((x23.length : Int) > x15)) x474000 x474001 x474002 x475000 x475001 x475002 x476000 x476001)) else (laws_FnHandsMeetOfAll.j5 k true x474000 x474001 x474002 x475000 x475001 x475002 x476000 x476001))) else (laws_FnHandsMeetOfAll.j5 k false x474000 x474001 x474002 x475000 x475001 x475002 x476000 x476001)
def laws_FnHandsMeetOfAll.j5 : Nat → Bool → Int → Int → Int → Int → Int → Int → Int → Int → Option (Bool)
 | 0, _, _, _, _, _, _, _, _, _ => none
 | k + 1, x277, x474000, x474001, x474002, x475000, x475001, x475002, x476000, x476001 => if x277 = true then (some false) else ((impl_NextMeet.f k x474000 x474001 x474002 x475000 x475001 x475002 x476000 x476001).bind fun bt537 => ((spec_NextMeet.f k x474000 x474001 x474002 x475000 x475001 x475002 x476000 x476001).bind fun bt541 => (if (bt537.2.2 != bt541.2.2) = true then (laws_FnHandsMeetOfAll.j6 k bt537.2.2 true x474000 x474001 x474002 x475000 x475001 x475002 x476000 x476001 bt537.1 bt537.2.1) else (laws_FnHandsMeetOfAll.j6 k bt537.2.2 (!(bt537.1 == bt541.1) || (!(bt537.2.1 == bt541.2.1))) x474000 x474001 x474002 x475000 x475001 x475002 x476000 x476001 bt537.1 bt537.2.1))))
def laws_FnHandsMeetOfAll.j6 : Nat → Bool → Bool → Int → Int → Int → Int → Int → Int → Int → Int → Int → Int → Option (Bool)
 | 0, _, _, _, _, _, _, _, _, _, _, _, _ => none
 | k + 1, x38, x299, x474000, x474001, x474002, x475000, x475001, x475002, x476000, x476001, x541000, x541001 => if x299 = true then (some false) else (if x38 = true then ((impl_MeetTimes.f k x474000 x474001 x474002 x475000 x475001 x475002).bind fun bt545 => (if bt545.2 = true then ((laws_kIn.f k bt545.1 x541000 x541001).bind fun t549 => (laws_FnHandsMeetOfAll.j7 k bt545.1 (!t549) x476000 x476001 x541000 x541001)) else (laws_FnHandsMeetOfAll.j7 k bt545.1 true x476000 x476001 x541000 x541001))) else (some true))
def laws_FnHandsMeetOfAll.j7 : Nat → List (S23) → Bool → Int → Int → Int → Int → Option (Bool)
 | 0, _, _, _, _, _, _ => none
 | k + 1, x41, x314, x476000, x476001, x541000, x541001 => if x314 = true then (some false) else (laws_FnHandsMeetOfAll.l1 k (decide ((wrap64 (x541000 * x476001)) > (wrap64 (x476000 * x541001)))) x41 (x41.length : Int) 0 x476000 x476001 x541000 x541001)
def laws_FnHandsMeetOfAll.l1 : Nat → Bool → List (S23) → Int → Int → Int → Int → Int → Int → Option (Bool)
 | 0, _, _, _, _, _, _, _, _ => none
 | k + 1, x43, x326, x327, x328, x476000, x476001, x541000, x541001 => if x328 < x327 then (if 0 ≤ x328 then (if x328 < (x326.length : Int) then (if (wrap64 (((rd_T23 x326 x328).f0) * x476001)) > (wrap64 (x476000 * ((rd_T23 x326 x328).f1))) then (if x43 = true then (if (wrap64 (((rd_T23 x326 x328).f0) * x541001)) < (wrap64 (x541000 * ((rd_T23 x326 x328).f1))) then (some false) else (laws_FnHandsMeetOfAll.l1 k x43 x326 x327 (wrap64 (x328 + 1)) x476000 x476001 x541000 x541001)) else (some false)) else (laws_FnHandsMeetOfAll.l1 k x43 x326 x327 (wrap64 (x328 + 1)) x476000 x476001 x541000 x541001)) else (none)) else (none)) else (some true)
def laws_FnHandsMeetOfAll.j1 : Nat → List (S23) → Int → List (S23) → Bool → Bool → Int → Int → Int → Int → Int → Int → Int → Int → Int → Int → Int → Int → Int → Int → Option (Bool)
 | 0, _, _, _, _, _, _, _, _, _, _, _, _, _, _, _, _, _, _, _ => none
 | k + 1, x11, x15, x23, x24, x186, x472000, x472001, x472002, x473000, x473001, x473002, x474000, x474001, x474002, x475000, x475001, x475002, x476000, x476001 => if x186 = true then (some false) else (laws_FnHandsMeetOfAll.l0 k x11 x15 x23 x24 x11 (x11.length : Int) 0 x472000 x472001 x472002 x473000 x473001 x473002 x474000 x474001 x474002 x475000 x475001 x475002 x476000 x476001)
def laws_FnHandsMeetOfAll.l0 : Nat → List (S23) → Int → List (S23) → Bool → List (S23) → Int → Int → Int → Int → Int → Int → Int → Int → Int → Int → Int → Int → Int → Int → Int → Int → Option (Bool)
 | 0, _, _, _, _, _, _, _, _, _, _, _, _, _, _, _, _, _, _, _, _, _ => none
 | k + 1, x11, x15, x23, x24, x187, x188, x189, x472000, x472001, x472002, x473000, x473001, x473002, x474000, x474001, x474002, x475000, x475001, x475002, x476000, x476001 => if x189 < x188 then (if 0 ≤ x189 then (if x189 < (x187.length : Int) then ((impl_HandAt.f k x472000 x472001 x472002 ((rd_T23 x187 x189).f0) ((rd_T23 x187 x189).f1)).bind fun bt517 => ((impl_HandAt.f k x473000 x473001 x473002 ((rd_T23 x187 x189).f0) ((rd_T23 x187 x189).f1)).bind fun bt521 => (if (bt517.2.2 != bt521.2.2) = true then (laws_FnHandsMeetOfAll.j3 k x11 x15 x23 x24 x189 x187 x188 x189 true x472000 x472001 x472002 x473000 x473001 x473002 x474000 x474001 x474002 x475000 x475001 x475002 x476000 x476001 ((rd_T23 x187 x189).f0) ((rd_T23 x187 x189).f1)) else (if bt517.2.2 = true then (if (!(bt517.1 == bt521.1) || (!(bt517.2.1 == bt521.2.1))) = true then (laws_FnHandsMeetOfAll.j3 k x11 x15 x23 x24 x189 x187 x188 x189 true x472000 x472001 x472002 x473000 x473001 x473002 x474000 x474001 x474002 x475000 x475001 x475002 x476000 x476001 ((rd_T23 x187 x189).f0) ((rd_T23 x187 x189).f1)) else (if x24 = true then ((laws_kIn.f k x23 bt517.1 bt517.2.1).bind fun t525 => (laws_FnHandsMeetOfAll.j3 k x11 x15 x23 x24 x189 x187 x188 x189 (!t525) x472000 x472001 x472002 x473000 x473001 x473002 x474000 x474001 x474002 x475000 x475001 x475002 x476000 x476001 ((rd_T23 x187 x189).f0) ((rd_T23 x187 x189).f1))) else (laws_FnHandsMeetOfAll.j3 k x11 x15 x23 x24 x189 x187 x188 x189 false x472000 x472001 x472002 x473000 x473001 x473002 x474000 x474001 x474002 x475000 x475001 x475002 x476000 x476001 ((rd_T23 x187 x189).f0) ((rd_T23 x187 x189).f1)))) else (laws_FnHandsMeetOfAll.j3 k x11 x15 x23 x24 x189 x187 x188 x189 false x472000 x472001 x472002 x473000 x473001 x473002 x474000 x474001 x474002 x475000 x475001 x475002 x476000 x476001 ((rd_T23 x187 x189).f0) ((rd_T23 x187 x189).f1)))))) else (none)) else (none)) else ((impl_MeetTimes.f k x473000 x473001 x473002 x472000 x472001 x472002).bind fun bt531 => (if bt531.2 = true then ((laws_kTurns.f k bt531.1 x11).bind fun t535 => (if t535 = true then (laws_FnHandsMeetOfAll.j4 k x15 x23 x24 x474000 x474001 x474002 x475000 x475001 x475002 x476000 x476001) else (some false))) else (some false)))
def laws_FnHandsMeetOfAll.j3 : Nat → List (S23) → Int → List (S23) → Bool → Int → List (S23) → Int → Int → Bool → Int → Int → Int → Int → Int → Int → Int → Int → Int → Int → Int → Int → Int → Int → Int → Int → Option (Bool)
 | 0, _, _, _, _, _, _, _, _, _, _, _, _, _, _, _, _, _, _, _, _, _, _, _, _, _ => none
 | k + 1, x11, x15, x23, x24, x27, x187, x188, x189, x225, x472000, x472001, x472002, x473000, x473001, x473002, x474000, x474001, x474002, x475000, x475001, x475002, x476000, x476001, x517000, x517001 => if x225 = true then (some false) else ((impl_NextMeet.f k x472000 x472001 x472002 x473000 x473001 x473002 x517000 x517001).bind fun bt526 => (if bt526.2.2 = true then (if x15 = 0 then (none) else (if 0 ≤ (Int.tmod (wrap64 (x27 + 1)) x15) then (if (Int.tmod (wrap64 (x27 + 1)) x15) < (x11.length : Int) then (if (!(bt526.1 == ((rd_T23 x11 (Int.tmod (wrap64 (x27 + 1)) x15)).f0)) || (!(bt526.2.1 == ((rd_T23 x11 (Int.tmod (wrap64 (x27 + 1)) x15)).f1)))) = true then (some false) else (laws_FnHandsMeetOfAll.l0 k x11 x15 x23 x24 x187 x188 (wrap64 (x189 + 1)) x472000 x472001 x472002 x473000 x473001 x473002 x474000 x474001 x474002 x475000 x475001 x475002 x476000 x476001)) else (none)) else (none))) else (some false)))
end
def laws_FnHandsMeetOfAll.f (k : Nat) (a0_0 : Int) (a0_1 : Int) (a0_2 : Int) (a1_0 : Int) (a1_1 : Int) (a1_2 : Int) (a2_0 : Int) (a2_1 : Int) (a2_2 : Int) (a3_0 : Int) (a3_1 : Int) (a3_2 : Int) (a4_0 : Int) (a4_1 : Int) : Option (Bool) := (impl_MeetTimes.f k a0_0 a0_1 a0_2 a1_0 a1_1 a1_2).bind fun bt476 => ((spec_MeetTimes.f k a0_0 a0_1 a0_2 a1_0 a1_1 a1_2).bind fun bt480 => ((impl_CountMeets.f k a0_0 a0_1 a0_2 a1_0 a1_1 a1_2).bind fun bt484 => ((spec_CountMeets.f k a0_0 a0_1 a0_2 a1_0 a1_1 a1_2).bind fun bt486 => ((impl_FirstMeet.f k a0_0 a0_1 a0_2 a1_0 a1_1 a1_2).bind fun bt488 => ((spec_FirstMeet.f k a0_0 a0_1 a0_2 a1_0 a1_1 a1_2).bind fun bt492 => ((impl_MeetPlaces.f k a0_0 a0_1 a0_2 a1_0 a1_1 a1_2).bind fun bt496 => ((spec_MeetPlaces.f k a0_0 a0_1 a0_2 a1_0 a1_1 a1_2).bind fun bt500 => (if (bt476.2 != bt480.2) = true then (laws_FnHandsMeetOfAll.j0 k bt476.1 bt476.2 bt484.1 bt496.1 bt496.2 true a0_0 a0_1 a0_2 a1_0 a1_1 a1_2 a2_0 a2_1 a2_2 a3_0 a3_1 a3_2 a4_0 a4_1 bt488.1 bt488.2.1) else ((laws_kTurns.f k bt476.1 bt480.1).bind fun t504 => (if t504 = true then (if (bt484.2 != bt486.2) = true then (laws_FnHandsMeetOfAll.j0 k bt476.1 bt476.2 bt484.1 bt496.1 bt496.2 true a0_0 a0_1 a0_2 a1_0 a1_1 a1_2 a2_0 a2_1 a2_2 a3_0 a3_1 a3_2 a4_0 a4_1 bt488.1 bt488.2.1) else (if bt484.1 = bt486.1 then (if (bt488.2.2 != bt492.2.2) = true then (laws_FnHandsMeetOfAll.j0 k bt476.1 bt476.2 bt484.1 bt496.1 bt496.2 true a0_0 a0_1 a0_2 a1_0 a1_1 a1_2 a2_0 a2_1 a2_2 a3_0 a3_1 a3_2 a4_0 a4_1 bt488.1 bt488.2.1) else (if (!(bt488.1 == bt492.1) || (!(bt488.2.1 == bt492.2.1))) = true then (laws_FnHandsMeetOfAll.j0 k bt476.1 bt476.2 bt484.1 bt496.1 bt496.2 true a0_0 a0_1 a0_2 a1_0 a1_1 a1_2 a2_0 a2_1 a2_2 a3_0 a3_1 a3_2 a4_0 a4_1 bt488.1 bt488.2.1) else (if (bt496.2 != bt500.2) = true then (laws_FnHandsMeetOfAll.j0 k bt476.1 bt476.2 bt484.1 bt496.1 bt496.2 true a0_0 a0_1 a0_2 a1_0 a1_1 a1_2 a2_0 a2_1 a2_2 a3_0 a3_1 a3_2 a4_0 a4_1 bt488.1 bt488.2.1) else ((laws_kTurns.f k bt496.1 bt500.1).bind fun t505 => (if t505 = true then (if (bt488.2.2 != bt476.2) = true then (laws_FnHandsMeetOfAll.j0 k bt476.1 bt476.2 bt484.1 bt496.1 bt496.2 true a0_0 a0_1 a0_2 a1_0 a1_1 a1_2 a2_0 a2_1 a2_2 a3_0 a3_1 a3_2 a4_0 a4_1 bt488.1 bt488.2.1) else (if bt496.2 = true then (if bt476.2 = true then (if bt484.2 = true then ((impl_IsHand.f k a0_0 a0_1 a0_2).bind fun t506 => ((spec_IsHand.f k a0_0 a0_1 a0_2).bind fun t507 => (laws_FnHandsMeetOfAll.j0 k bt476.1 bt476.2 bt484.1 bt496.1 bt496.2 (t506 != t507) a0_0 a0_1 a0_2 a1_0 a1_1 a1_2 a2_0 a2_1 a2_2 a3_0 a3_1 a3_2 a4_0 a4_1 bt488.1 bt488.2.1))) else (laws_FnHandsMeetOfAll.j0 k bt476.1 bt476.2 bt484.1 bt496.1 bt496.2 true a0_0 a0_1 a0_2 a1_0 a1_1 a1_2 a2_0 a2_1 a2_2 a3_0 a3_1 a3_2 a4_0 a4_1 bt488.1 bt488.2.1)) else (laws_FnHandsMeetOfAll.j0 k bt476.1 bt476.2 bt484.1 bt496.1 bt496.2 true a0_0 a0_1 a0_2 a1_0 a1_1 a1_2 a2_0 a2_1 a2_2 a3_0 a3_1 a3_2 a4_0 a4_1 bt488.1 bt488.2.1)) else (if bt476.2 = true then (if bt484.2 = true then ((impl_IsHand.f k a0_0 a0_1 a0_2).bind fun t508 => ((spec_IsHand.f k a0_0 a0_1 a0_2).bind fun t509 => (laws_FnHandsMeetOfAll.j0 k bt476.1 bt476.2 bt484.1 bt496.1 bt496.2 (t508 != t509) a0_0 a0_1 a0_2 a1_0 a1_1 a1_2 a2_0 a2_1 a2_2 a3_0 a3_1 a3_2 a4_0 a4_1 bt488.1 bt488.2.1))) else (laws_FnHandsMeetOfAll.j0 k bt476.1 bt476.2 bt484.1 bt496.1 bt496.2 true a0_0 a0_1 a0_2 a1_0 a1_1 a1_2 a2_0 a2_1 a2_2 a3_0 a3_1 a3_2 a4_0 a4_1 bt488.1 bt488.2.1)) else ((impl_IsHand.f k a0_0 a0_1 a0_2).bind fun t510 => ((spec_IsHand.f k a0_0 a0_1 a0_2).bind fun t511 => (laws_FnHandsMeetOfAll.j0 k bt476.1 bt476.2 bt484.1 bt496.1 bt496.2 (t510 != t511) a0_0 a0_1 a0_2 a1_0 a1_1 a1_2 a2_0 a2_1 a2_2 a3_0 a3_1 a3_2 a4_0 a4_1 bt488.1 bt488.2.1)))))) else (laws_FnHandsMeetOfAll.j0 k bt476.1 bt476.2 bt484.1 bt496.1 bt496.2 true a0_0 a0_1 a0_2 a1_0 a1_1 a1_2 a2_0 a2_1 a2_2 a3_0 a3_1 a3_2 a4_0 a4_1 bt488.1 bt488.2.1)))))) else (laws_FnHandsMeetOfAll.j0 k bt476.1 bt476.2 bt484.1 bt496.1 bt496.2 true a0_0 a0_1 a0_2 a1_0 a1_1 a1_2 a2_0 a2_1 a2_2 a3_0 a3_1 a3_2 a4_0 a4_1 bt488.1 bt488.2.1))) else (laws_FnHandsMeetOfAll.j0 k bt476.1 bt476.2 bt484.1 bt496.1 bt496.2 true a0_0 a0_1 a0_2 a1_0 a1_1 a1_2 a2_0 a2_1 a2_2 a3_0 a3_1 a3_2 a4_0 a4_1 bt488.1 bt488.2.1)))))))))))
theorem laws_FnHandsMeetOfAll.mono_l : ∀ k, (∀ y0 y1 y2 y3 y4 y5 y6 y7 y8 y9 y10 y11 y12 y13 y14 y15 y16 y17 y18 y19 y20 y21, LeO (laws_FnHandsMeetOfAll.j0 k y0 y1 y2 y3 y4 y5 y6 y7 y8 y9 y10 y11 y12 y13 y14 y15 y16 y17 y18 y19 y20 y21) (laws_FnHandsMeetOfAll.j0 (k + 1) y0 y1 y2 y3 y4 y5 y6 y7 y8 y9 y10 y11 y12 y13 y14 y15 y16 y17 y18 y19 y20 y21)) ∧ (∀ y0 y1 y2 y3 y4 y5 y6 y7 y8 y9 y10, LeO (laws_FnHandsMeetOfAll.j4 k y0 y1 y2 y3 y4 y5 y6 y7 y8 y9 y10) (laws_FnHandsMeetOfAll.j4 (k + 1) y0 y1 y2 y3 y4 y5 y6 y7 y8 y9 y10)) ∧ (∀ y0 y1 y2 y3 y4 y5 y6 y7 y8, LeO (laws_FnHandsMeetOfAll.j5 k y0 y1 y2 y3 y4 y5 y6 y7 y8) (laws_FnHandsMeetOfAll.j5 (k + 1) y0 y1 y2 y3 y4 y5 y6 y7 y8)) ∧ (∀ y0 y1 y2 y3 y4 y5 y6 y7 y8 y9 y10 y11, LeO (laws_FnHandsMeetOfAll.j6 k y0 y1 y2 y3 y4 y5 y6 y7 y8 y9 y10 y11) (laws_FnHandsMeetOfAll.j6 (k + 1) y0 y1 y2 y3 y4 y5 y6 y7 y8 y9 y10 y11)) ∧ (∀ y0 y1 y2 y3 y4 y5, LeO (laws_FnHandsMeetOfAll.j7 k y0 y1 y2 y3 y4 y5) (laws_FnHandsMeetOfAll.j7 (k + 1) y0 y1 y2 y3 y4 y5)) ∧ (∀ y0 y1 y2 y3 y4 y5 y6 y7, LeO (laws_FnHandsMeetOfAll.l1 k y0 y1 y2 y3 y4 y5 y6 y7) (laws_FnHandsMeetOfAll.l1 (k + 1) y0 y1 y2 y3 y4 y5 y6 y7)) ∧ (∀ y0 y1 y2 y3 y4 y5 y6 y7 y8 y9 y10 y11 y12 y13 y14 y15 y16 y17 y18, LeO (laws_FnHandsMeetOfAll.j1 k y0 y1 y2 y3 y4 y5 y6 y7 y8 y9 y10 y11 y12 y13 y14 y15 y16 y17 y18) (laws_FnHandsMeetOfAll.j1 (k + 1) y0 y1 y2 y3 y4 y5 y6 y7 y8 y9 y10 y11 y12 y13 y14 y15 y16 y17 y18)) ∧ (∀ y0 y1 y2 y3 y4 y5 y6 y7 y8 y9 y10 y11 y12 y13 y14 y15 y16 y17 y18 y19 y20, LeO (laws_FnHandsMeetOfAll.l0 k y0 y1 y2 y3 y4 y5 y6 y7 y8 y9 y10 y11 y12 y13 y14 y15 y16 y17 y18 y19 y20) (laws_FnHandsMeetOfAll.l0 (k + 1) y0 y1 y2 y3 y4 y5 y6 y7 y8 y9 y10 y11 y12 y13 y14 y15 y16 y17 y18 y19 y20)) ∧ (∀ y0 y1 y2 y3 y4 y5 y6 y7 y8 y9 y10 y11 y12 y13 y14 y15 y16 y17 y18 y19 y20 y21 y22 y23 y24, LeO (laws_FnHandsMeetOfAll.j3 k y0 y1 y2 y3 y4 y5 y6 y7 y8 y9 y10 y11 y12 y13 y14 y15 y16 y17 y18 y19 y20 y21 y22 y23 y24) (laws_FnHandsMeetOfAll.j3 (k + 1) y0 y1 y2 y3 y4 y5 y6 y7 y8 y9 y10 y11 y12 y13 y14 y15 y16 y17 y18 y19 y20 y21 y22 y23 y24))
 | 0 => ⟨fun _ _ _ _ _ _ _ _ _ _ _ _ _ _ _ _ _ _ _ _ _ _ r h => by simp [laws_FnHandsMeetOfAll.j0] at h, fun _ _ _ _ _ _ _ _ _ _ _ r h => by simp [laws_FnHandsMeetOfAll.j4] at h, fun _ _ _ _ _ _ _ _ _ r h => by simp [laws_FnHandsMeetOfAll.j5] at h, fun _ _ _ _ _ _ _ _ _ _ _ _ r h => by simp [laws_FnHandsMeetOfAll.j6] at h, fun _ _ _ _ _ _ r h => by simp [laws_FnHandsMeetOfAll.j7] at h, fun _ _ _ _ _ _ _ _ r h => by simp [laws_FnHandsMeetOfAll.l1] at h, fun _ _ _ _ _ _ _ _ _ _ _ _ _ _ _ _ _ _ _ r h => by simp [laws_FnHandsMeetOfAll.j1] at h, fun _ _ _ _ _ _ _ _ _ _ _ _ _ _ _ _ _ _ _ _ _ r h => by simp [laws_FnHandsMeetOfAll.l0] at h, fun _ _ _ _ _ _ _ _ _ _ _ _ _ _ _ _ _ _ _ _ _ _ _ _ _ r h => by simp [laws_FnHandsMeetOfAll.j3] at h⟩
 | k + 1 => by
  obtain ⟨ih0, ih1, ih2, ih3, ih4, ih5, ih6, ih7, ih8⟩ := laws_FnHandsMeetOfAll.mono_l k
  refine ⟨?_, ?_, ?_, ?_, ?_, ?_, ?_, ?_, ?_⟩
  ·intro y0 y1 y2 y3 y4 y5 y6 y7 y8 y9 y10 y11 y12 y13 y14 y15 y16 y17 y18 y19 y20 y21
   unfold laws_FnHandsMeetOfAll.j0
   repeat' first
   | (with_reducible apply ih0)
   | (with_reducible apply ih1)
   | (with_reducible apply ih2)
   | (with_reducible apply ih3)
   | (with_reducible apply ih4)
   | (with_reducible apply ih5)
   | (with_reducible apply ih6)
   | (with_reducible apply ih7)
   | (with_reducible apply ih8)
   | (with_reducible exact impl_CountMeets.mono _ _ _ _ _ _ _)
   | (with_reducible exact impl_FirstMeet.mono _ _ _ _ _ _ _)
   | (with_reducible exact impl_HandAt.mono _ _ _ _ _ _)
   | (with_reducible exact impl_IsHand.mono _ _ _ _)
   | (with_reducible exact impl_MeetPlaces.mono _ _ _ _ _ _ _)
   | (with_reducible exact impl_MeetTimes.mono _ _ _ _ _ _ _)
   | (with_reducible exact impl_NextMeet.mono _ _ _ _ _ _ _ _ _)
   | (with_reducible exact laws_kIn.mono _ _ _ _)
   | (with_reducible exact laws_kRises.mono _ _)
   | (with_reducible exact laws_kTurns.mono _ _ _)
   | (with_reducible exact spec_CountMeets.mono _ _ _ _ _ _ _)
   | (with_reducible exact spec_FirstMeet.mono _ _ _ _ _ _ _)
   | (with_reducible exact spec_IsHand.mono _ _ _ _)
   | (with_reducible exact spec_MeetPlaces.mono _ _ _ _ _ _ _)
   | (with_reducible exact spec_MeetTimes.mono _ _ _ _ _ _ _)
   | (with_reducible exact spec_NextMeet.mono _ _ _ _ _ _ _ _ _)
   | (with_reducible exact LeO.refl _)
   | (with_reducible exact LeO.none _)
   | (with_reducible refine LeO.ite ?_ ?_)
   | (with_reducible refine LeO.bind ?_ (fun _ => ?_))
   | apply ih0
   | apply ih1
   | apply ih2
   | apply ih3
   | apply ih4
   | apply ih5
   | apply ih6
   | apply ih7
   | apply ih8
   | exact impl_CountMeets.mono _ _ _ _ _ _ _
   | exact impl_FirstMeet.mono _ _ _ _ _ _ _
   | exact impl_HandAt.mono _ _ _ _ _ _
   | exact impl_IsHand.mono _ _ _ _
   | exact impl_MeetPlaces.mono _ _ _ _ _ _ _
   | exact impl_MeetTimes.mono _ _ _ _ _ _ _
   | exact impl_NextMeet.mono _ _ _ _ _ _ _ _ _
   | exact laws_kIn.mono _ _ _ _
   | exact laws_kRises.mono _ _
   | exact laws_kTurns.mono _ _ _
   | exact spec_CountMeets.mono _ _ _ _ _ _ _
   | exact spec_FirstMeet.mono _ _ _ _ _ _ _
   | exact spec_IsHand.mono _ _ _ _
   | exact spec_MeetPlaces.mono _ _ _ _ _ _ _
   | exact spec_MeetTimes.mono _ _ _ _ _ _ _
   | exact spec_NextMeet.mono _ _ _ _ _ _ _ _ _
   | exact LeO.none _
   | refine LeO.ite ?_ ?_
   | refine LeO.bind ?_ (fun _ => ?_)
  ·intro y0 y1 y2 y3 y4 y5 y6 y7 y8 y9 y10
   unfold laws_FnHandsMeetOfAll.j4
   repeat' first
   | (with_reducible apply ih0)
   | (with_reducible apply ih1)
   | (with_reducible apply ih2)
   | (with_reducible apply ih3)
   | (with_reducible apply ih4)
   | (with_reducible apply ih5)
   | (with_reducible apply ih6)
   | (with_reducible apply ih7)
   | (with_reducible apply ih8)
   | (with_reducible exact impl_CountMeets.mono _ _ _ _ _ _ _)
   | (with_reducible exact impl_FirstMeet.mono _ _ _ _ _ _ _)
   | (with_reducible exact impl_HandAt.mono _ _ _ _ _ _)
   | (with_reducible exact impl_IsHand.mono _ _ _ _)
   | (with_reducible exact impl_MeetPlaces.mono _ _ _ _ _ _ _)
   | (with_reducible exact impl_MeetTimes.mono _ _ _ _ _ _ _)
   | (with_reducible exact impl_NextMeet.mono _ _ _ _ _ _ _ _ _)
   | (with_reducible exact laws_kIn.mono _ _ _ _)
   | (with_reducible exact laws_kRises.mono _ _)
   | (with_reducible exact laws_kTurns.mono _ _ _)
   | (with_reducible exact spec_CountMeets.mono _ _ _ _ _ _ _)
   | (with_reducible exact spec_FirstMeet.mono _ _ _ _ _ _ _)
   | (with_reducible exact spec_IsHand.mono _ _ _ _)
   | (with_reducible exact spec_MeetPlaces.mono _ _ _ _ _ _ _)
   | (with_reducible exact spec_MeetTimes.mono _ _ _ _ _ _ _)
   | (with_reducible exact spec_NextMeet.mono _ _ _ _ _ _ _ _ _)
   | (with_reducible exact LeO.refl _)
   | (with_reducible exact LeO.none _)
   | (with_reducible refine LeO.ite ?_ ?_)
   | (with_reducible refine LeO.bind ?_ (fun _ => ?_))
   | apply ih0
   | apply ih1
   | apply ih2
   | apply ih3
   | apply ih4
   | apply ih5
   | apply ih6
   | apply ih7
   | apply ih8
   | exact impl_CountMeets.mono _ _ _ _ _ _ _
   | exact impl_FirstMeet.mono _ _ _ _ _ _ _
   | exact impl_HandAt.mono _ _ _ _ _ _
   | exact impl_IsHand.mono _ _ _ _
   | exact impl_MeetPlaces.mono _ _ _ _ _ _ _
   | exact impl_MeetTimes.mono _ _ _ _ _ _ _
   | exact impl_NextMeet.mono _ _ _ _ _ _ _ _ _
   | exact laws_kIn.mono _ _ _ _
   | exact laws_kRises.mono _ _
   | exact laws_kTurns.mono _ _ _
   | exact spec_CountMeets.mono _ _ _ _ _ _ _
   | exact spec_FirstMeet.mono _ _ _ _ _ _ _
   | exact spec_IsHand.mono _ _ _ _
   | exact spec_MeetPlaces.mono _ _ _ _ _ _ _
   | exact spec_MeetTimes.mono _ _ _ _ _ _ _
   | exact spec_NextMeet.mono _ _ _ _ _ _ _ _ _
   | exact LeO.none _
   | refine LeO.ite ?_ ?_
   | refine LeO.bind ?_ (fun _ => ?_)
  ·intro y0 y1 y2 y3 y4 y5 y6 y7 y8
   unfold laws_FnHandsMeetOfAll.j5
   repeat' first
   | (with_reducible apply ih0)
   | (with_reducible apply ih1)
   | (with_reducible apply ih2)
   | (with_reducible apply ih3)
   | (with_reducible apply ih4)
   | (with_reducible apply ih5)
   | (with_reducible apply ih6)
   | (with_reducible apply ih7)
   | (with_reducible apply ih8)
   | (with_reducible exact impl_CountMeets.mono _ _ _ _ _ _ _)
   | (with_reducible exact impl_FirstMeet.mono _ _ _ _ _ _ _)
   | (with_reducible exact impl_HandAt.mono _ _ _ _ _ _)
   | (with_reducible exact impl_IsHand.mono _ _ _ _)
   | (with_reducible exact impl_MeetPlaces.mono _ _ _ _ _ _ _)
   | (with_reducible exact impl_MeetTimes.mono _ _ _ _ _ _ _)
   | (with_reducible exact impl_NextMeet.mono _ _ _ _ _ _ _ _ _)
   | (with_reducible exact laws_kIn.mono _ _ _ _)
   | (with_reducible exact laws_kRises.mono _ _)
   | (with_reducible exact laws_kTurns.mono _ _ _)
   | (with_reducible exact spec_CountMeets.mono _ _ _ _ _ _ _)
   | (with_reducible exact spec_FirstMeet.mono _ _ _ _ _ _ _)
   | (with_reducible exact spec_IsHand.mono _ _ _ _)
   | (with_reducible exact spec_MeetPlaces.mono _ _ _ _ _ _ _)
   | (with_reducible exact spec_MeetTimes.mono _ _ _ _ _ _ _)
   | (with_reducible exact spec_NextMeet.mono _ _ _ _ _ _ _ _ _)
   | (with_reducible exact LeO.refl _)
   | (with_reducible exact LeO.none _)
   | (with_reducible refine LeO.ite ?_ ?_)
   | (with_reducible refine LeO.bind ?_ (fun _ => ?_))
   | apply ih0
   | apply ih1
   | apply ih2
   | apply ih3
   | apply ih4
   | apply ih5
   | apply ih6
   | apply ih7
   | apply ih8
   | exact impl_CountMeets.mono _ _ _ _ _ _ _
   | exact impl_FirstMeet.mono _ _ _ _ _ _ _
   | exact impl_HandAt.mono _ _ _ _ _ _
   | exact impl_IsHand.mono _ _ _ _
   | exact impl_MeetPlaces.mono _ _ _ _ _ _ _
   | exact impl_MeetTimes.mono _ _ _ _ _ _ _
   | exact impl_NextMeet.mono _ _ _ _ _ _ _ _ _
   | exact laws_kIn.mono _ _ _ _
   | exact laws_kRises.mono _ _
   | exact laws_kTurns.mono _ _ _
   | exact spec_CountMeets.mono _ _ _ _ _ _ _
   | exact spec_FirstMeet.mono _ _ _ _ _ _ _
   | exact spec_IsHand.mono _ _ _ _
   | exact spec_MeetPlaces.mono _ _ _ _ _ _ _
   | exact spec_MeetTimes.mono _ _ _ _ _ _ _
   | exact spec_NextMeet.mono _ _ _ _ _ _ _ _ _
   | exact LeO.none _
   | refine LeO.ite ?_ ?_
   | refine LeO.bind ?_ (fun _ => ?_)
  ·intro y0 y1 y2 y3 y4 y5 y6 y7 y8 y9 y10 y11
   unfold laws_FnHandsMeetOfAll.j6
   repeat' first
   | (with_reducible apply ih0)
   | (with_reducible apply ih1)
   | (with_reducible apply ih2)
   | (with_reducible apply ih3)
   | (with_reducible apply ih4)
   | (with_reducible apply ih5)
   | (with_reducible apply ih6)
   | (with_reducible apply ih7)
   | (with_reducible apply ih8)
   | (with_reducible exact impl_CountMeets.mono _ _ _ _ _ _ _)
   | (with_reducible exact impl_FirstMeet.mono _ _ _ _ _ _ _)
   | (with_reducible exact impl_HandAt.mono _ _ _ _ _ _)
   | (with_reducible exact impl_IsHand.mono _ _ _ _)
   | (with_reducible exact impl_MeetPlaces.mono _ _ _ _ _ _ _)
   | (with_reducible exact impl_MeetTimes.mono _ _ _ _ _ _ _)
   | (with_reducible exact impl_NextMeet.mono _ _ _ _ _ _ _ _ _)
   | (with_reducible exact laws_kIn.mono _ _ _ _)
   | (with_reducible exact laws_kRises.mono _ _)
   | (with_reducible exact laws_kTurns.mono _ _ _)
   | (with_reducible exact spec_CountMeets.mono _ _ _ _ _ _ _)
   | (with_reducible exact spec_FirstMeet.mono _ _ _ _ _ _ _)
   | (with_reducible exact spec_IsHand.mono _ _ _ _)
   | (with_reducible exact spec_MeetPlaces.mono _ _ _ _ _ _ _)
   | (with_reducible exact spec_MeetTimes.mono _ _ _ _ _ _ _)
   | (with_reducible exact spec_NextMeet.mono _ _ _ _ _ _ _ _ _)
   | (with_reducible exact LeO.refl _)
   | (with_reducible exact LeO.none _)
   | (with_reducible refine LeO.ite ?_ ?_)
   | (with_reducible refine LeO.bind ?_ (fun _ => ?_))
   | apply ih0
   | apply ih1
   | apply ih2
   | apply ih3
   | apply ih4
   | apply ih5
   | apply ih6
   | apply ih7
   | apply ih8
   | exact impl_CountMeets.mono _ _ _ _ _ _ _
   | exact impl_FirstMeet.mono _ _ _ _ _ _ _
   | exact impl_HandAt.mono _ _ _ _ _ _
   | exact impl_IsHand.mono _ _ _ _
   | exact impl_MeetPlaces.mono _ _ _ _ _ _ _
   | exact impl_MeetTimes.mono _ _ _ _ _ _ _
   | exact impl_NextMeet.mono _ _ _ _ _ _ _ _ _
   | exact laws_kIn.mono _ _ _ _
   | exact laws_kRises.mono _ _
   | exact laws_kTurns.mono _ _ _
   | exact spec_CountMeets.mono _ _ _ _ _ _ _
   | exact spec_FirstMeet.mono _ _ _ _ _ _ _
   | exact spec_IsHand.mono _ _ _ _
   | exact spec_MeetPlaces.mono _ _ _ _ _ _ _
   | exact spec_MeetTimes.mono _ _ _ _ _ _ _
   | exact spec_NextMeet.mono _ _ _ _ _ _ _ _ _
   | exact LeO.none _
   | refine LeO.ite ?_ ?_
   | refine LeO.bind ?_ (fun _ => ?_)
  ·intro y0 y1 y2 y3 y4 y5
   unfold laws_FnHandsMeetOfAll.j7
   repeat' first
   | (with_reducible apply ih0)
   | (with_reducible apply ih1)
   | (with_reducible apply ih2)
   | (with_reducible apply ih3)
   | (with_reducible apply ih4)
   | (with_reducible apply ih5)
   | (with_reducible apply ih6)
   | (with_reducible apply ih7)
   | (with_reducible apply ih8)
   | (with_reducible exact impl_CountMeets.mono _ _ _ _ _ _ _)
   | (with_reducible exact impl_FirstMeet.mono _ _ _ _ _ _ _)
   | (with_reducible exact impl_HandAt.mono _ _ _ _ _ _)
   | (with_reducible exact impl_IsHand.mono _ _ _ _)
   | (with_reducible exact impl_MeetPlaces.mono _ _ _ _ _ _ _)
   | (with_reducible exact impl_MeetTimes.mono _ _ _ _ _ _ _)
   | (with_reducible exact impl_NextMeet.mono _ _ _ _ _ _ _ _ _)
   | (with_reducible exact laws_kIn.mono _ _ _ _)
   | (with_reducible exact laws_kRises.mono _ _)
   | (with_reducible exact laws_kTurns.mono _ _ _)
   | (with_reducible exact spec_CountMeets.mono _ _ _ _ _ _ _)
   | (with_reducible exact spec_FirstMeet.mono _ _ _ _ _ _ _)
   | (with_reducible exact spec_IsHand.mono _ _ _ _)
   | (with_reducible exact spec_MeetPlaces.mono _ _ _ _ _ _ _)
   | (with_reducible exact spec_MeetTimes.mono _ _ _ _ _ _ _)
   | (with_reducible exact spec_NextMeet.mono _ _ _ _ _ _ _ _ _)
   | (with_reducible exact LeO.refl _)
   | (with_reducible exact LeO.none _)
   | (with_reducible refine LeO.ite ?_ ?_)
   | (with_reducible refine LeO.bind ?_ (fun _ => ?_))
   | apply ih0
   | apply ih1
   | apply ih2
   | apply ih3
   | apply ih4
   | apply ih5
   | apply ih6
   | apply ih7
   | apply ih8
   | exact impl_CountMeets.mono _ _ _ _ _ _ _
   | exact impl_FirstMeet.mono _ _ _ _ _ _ _
   | exact impl_HandAt.mono _ _ _ _ _ _
   | exact impl_IsHand.mono _ _ _ _
   | exact impl_MeetPlaces.mono _ _ _ _ _ _ _
   | exact impl_MeetTimes.mono _ _ _ _ _ _ _
   | exact impl_NextMeet.mono _ _ _ _ _ _ _ _ _
   | exact laws_kIn.mono _ _ _ _
   | exact laws_kRises.mono _ _
   | exact laws_kTurns.mono _ _ _
   | exact spec_CountMeets.mono _ _ _ _ _ _ _
   | exact spec_FirstMeet.mono _ _ _ _ _ _ _
   | exact spec_IsHand.mono _ _ _ _
   | exact spec_MeetPlaces.mono _ _ _ _ _ _ _
   | exact spec_MeetTimes.mono _ _ _ _ _ _ _
   | exact spec_NextMeet.mono _ _ _ _ _ _ _ _ _
   | exact LeO.none _
   | refine LeO.ite ?_ ?_
   | refine LeO.bind ?_ (fun _ => ?_)
  ·intro y0 y1 y2 y3 y4 y5 y6 y7
   unfold laws_FnHandsMeetOfAll.l1
   repeat' first
   | (with_reducible apply ih0)
   | (with_reducible apply ih1)
   | (with_reducible apply ih2)
   | (with_reducible apply ih3)
   | (with_reducible apply ih4)
   | (with_reducible apply ih5)
   | (with_reducible apply ih6)
   | (with_reducible apply ih7)
   | (with_reducible apply ih8)
   | (with_reducible exact impl_CountMeets.mono _ _ _ _ _ _ _)
   | (with_reducible exact impl_FirstMeet.mono _ _ _ _ _ _ _)
   | (with_reducible exact impl_HandAt.mono _ _ _ _ _ _)
   | (with_reducible exact impl_IsHand.mono _ _ _ _)
   | (with_reducible exact impl_MeetPlaces.mono _ _ _ _ _ _ _)
   | (with_reducible exact impl_MeetTimes.mono _ _ _ _ _ _ _)
   | (with_reducible exact impl_NextMeet.mono _ _ _ _ _ _ _ _ _)
   | (with_reducible exact laws_kIn.mono _ _ _ _)
   | (with_reducible exact laws_kRises.mono _ _)
   | (with_reducible exact laws_kTurns.mono _ _ _)
   | (with_reducible exact spec_CountMeets.mono _ _ _ _ _ _ _)
   | (with_reducible exact spec_FirstMeet.mono _ _ _ _ _ _ _)
   | (with_reducible exact spec_IsHand.mono _ _ _ _)
   | (with_reducible exact spec_MeetPlaces.mono _ _ _ _ _ _ _)
   | (with_reducible exact spec_MeetTimes.mono _ _ _ _ _ _ _)
   | (with_reducible exact spec_NextMeet.mono _ _ _ _ _ _ _ _ _)
   | (with_reducible exact LeO.refl _)
   | (with_reducible exact LeO.none _)
   | (with_reducible refine LeO.ite ?_ ?_)
   | (with_reducible refine LeO.bind ?_ (fun _ => ?_))
   | apply ih0
   | apply ih1
   | apply ih2
   | apply ih3
   | apply ih4
   | apply ih5
   | apply ih6
   | apply ih7
   | apply ih8
   | exact impl_CountMeets.mono _ _ _ _ _ _ _
   | exact impl_FirstMeet.mono _ _ _ _ _ _ _
   | exact impl_HandAt.mono _ _ _ _ _ _
   | exact impl_IsHand.mono _ _ _ _
   | exact impl_MeetPlaces.mono _ _ _ _ _ _ _
   | exact impl_MeetTimes.mono _ _ _ _ _ _ _
   | exact impl_NextMeet.mono _ _ _ _ _ _ _ _ _
   | exact laws_kIn.mono _ _ _ _
   | exact laws_kRises.mono _ _
   | exact laws_kTurns.mono _ _ _
   | exact spec_CountMeets.mono _ _ _ _ _ _ _
   | exact spec_FirstMeet.mono _ _ _ _ _ _ _
   | exact spec_IsHand.mono _ _ _ _
   | exact spec_MeetPlaces.mono _ _ _ _ _ _ _
   | exact spec_MeetTimes.mono _ _ _ _ _ _ _
   | exact spec_NextMeet.mono _ _ _ _ _ _ _ _ _
   | exact LeO.none _
   | refine LeO.ite ?_ ?_
   | refine LeO.bind ?_ (fun _ => ?_)
  ·intro y0 y1 y2 y3 y4 y5 y6 y7 y8 y9 y10 y11 y12 y13 y14 y15 y16 y17 y18
   unfold laws_FnHandsMeetOfAll.j1
   repeat' first
   | (with_reducible apply ih0)
   | (with_reducible apply ih1)
   | (with_reducible apply ih2)
   | (with_reducible apply ih3)
   | (with_reducible apply ih4)
   | (with_reducible apply ih5)
   | (with_reducible apply ih6)
   | (with_reducible apply ih7)
   | (with_reducible apply ih8)
   | (with_reducible exact impl_CountMeets.mono _ _ _ _ _ _ _)
   | (with_reducible exact impl_FirstMeet.mono _ _ _ _ _ _ _)
   | (with_reducible exact impl_HandAt.mono _ _ _ _ _ _)
   | (with_reducible exact impl_IsHand.mono _ _ _ _)
   | (with_reducible exact impl_MeetPlaces.mono _ _ _ _ _ _ _)
   | (with_reducible exact impl_MeetTimes.mono _ _ _ _ _ _ _)
   | (with_reducible exact impl_NextMeet.mono _ _ _ _ _ _ _ _ _)
   | (with_reducible exact laws_kIn.mono _ _ _ _)
   | (with_reducible exact laws_kRises.mono _ _)
   | (with_reducible exact laws_kTurns.mono _ _ _)
   | (with_reducible exact spec_CountMeets.mono _ _ _ _ _ _ _)
   | (with_reducible exact spec_FirstMeet.mono _ _ _ _ _ _ _)
   | (with_reducible exact spec_IsHand.mono _ _ _ _)
   | (with_reducible exact spec_MeetPlaces.mono _ _ _ _ _ _ _)
   | (with_reducible exact spec_MeetTimes.mono _ _ _ _ _ _ _)
   | (with_reducible exact spec_NextMeet.mono _ _ _ _ _ _ _ _ _)
   | (with_reducible exact LeO.refl _)
   | (with_reducible exact LeO.none _)
   | (with_reducible refine LeO.ite ?_ ?_)
   | (with_reducible refine LeO.bind ?_ (fun _ => ?_))
   | apply ih0
   | apply ih1
   | apply ih2
   | apply ih3
   | apply ih4
   | apply ih5
   | apply ih6
   | apply ih7
   | apply ih8
   | exact impl_CountMeets.mono _ _ _ _ _ _ _
   | exact impl_FirstMeet.mono _ _ _ _ _ _ _
   | exact impl_HandAt.mono _ _ _ _ _ _
   | exact impl_IsHand.mono _ _ _ _
   | exact impl_MeetPlaces.mono _ _ _ _ _ _ _
   | exact impl_MeetTimes.mono _ _ _ _ _ _ _
   | exact impl_NextMeet.mono _ _ _ _ _ _ _ _ _
   | exact laws_kIn.mono _ _ _ _
   | exact laws_kRises.mono _ _
   | exact laws_kTurns.mono _ _ _
   | exact spec_CountMeets.mono _ _ _ _ _ _ _
   | exact spec_FirstMeet.mono _ _ _ _ _ _ _
   | exact spec_IsHand.mono _ _ _ _
   | exact spec_MeetPlaces.mono _ _ _ _ _ _ _
   | exact spec_MeetTimes.mono _ _ _ _ _ _ _
   | exact spec_NextMeet.mono _ _ _ _ _ _ _ _ _
   | exact LeO.none _
   | refine LeO.ite ?_ ?_
   | refine LeO.bind ?_ (fun _ => ?_)
  ·intro y0 y1 y2 y3 y4 y5 y6 y7 y8 y9 y10 y11 y12 y13 y14 y15 y16 y17 y18 y19 y20
   unfold laws_FnHandsMeetOfAll.l0
   repeat' first
   | (with_reducible apply ih0)
   | (with_reducible apply ih1)
   | (with_reducible apply ih2)
   | (with_reducible apply ih3)
   | (with_reducible apply ih4)
   | (with_reducible apply ih5)
   | (with_reducible apply ih6)
   | (with_reducible apply ih7)
   | (with_reducible apply ih8)
   | (with_reducible exact impl_CountMeets.mono _ _ _ _ _ _ _)
   | (with_reducible exact impl_FirstMeet.mono _ _ _ _ _ _ _)
   | (with_reducible exact impl_HandAt.mono _ _ _ _ _ _)
   | (with_reducible exact impl_IsHand.mono _ _ _ _)
   | (with_reducible exact impl_MeetPlaces.mono _ _ _ _ _ _ _)
   | (with_reducible exact impl_MeetTimes.mono _ _ _ _ _ _ _)
   | (with_reducible exact impl_NextMeet.mono _ _ _ _ _ _ _ _ _)
   | (with_reducible exact laws_kIn.mono _ _ _ _)
   | (with_reducible exact laws_kRises.mono _ _)
   | (with_reducible exact laws_kTurns.mono _ _ _)
   | (with_reducible exact spec_CountMeets.mono _ _ _ _ _ _ _)
   | (with_reducible exact spec_FirstMeet.mono _ _ _ _ _ _ _)
   | (with_reducible exact spec_IsHand.mono _ _ _ _)
   | (with_reducible exact spec_MeetPlaces.mono _ _ _ _ _ _ _)
   | (with_reducible exact spec_MeetTimes.mono _ _ _ _ _ _ _)
   | (with_reducible exact spec_NextMeet.mono _ _ _ _ _ _ _ _ _)
   | (with_reducible exact LeO.refl _)
   | (with_reducible exact LeO.none _)
   | (with_reducible refine LeO.ite ?_ ?_)
   | (with_reducible refine LeO.bind ?_ (fun _ => ?_))
   | apply ih0
   | apply ih1
   | apply ih2
   | apply ih3
   | apply ih4
   | apply ih5
   | apply ih6
   | apply ih7
   | apply ih8
   | exact impl_CountMeets.mono _ _ _ _ _ _ _
   | exact impl_FirstMeet.mono _ _ _ _ _ _ _
   | exact impl_HandAt.mono _ _ _ _ _ _
   | exact impl_IsHand.mono _ _ _ _
   | exact impl_MeetPlaces.mono _ _ _ _ _ _ _
   | exact impl_MeetTimes.mono _ _ _ _ _ _ _
   | exact impl_NextMeet.mono _ _ _ _ _ _ _ _ _
   | exact laws_kIn.mono _ _ _ _
   | exact laws_kRises.mono _ _
   | exact laws_kTurns.mono _ _ _
   | exact spec_CountMeets.mono _ _ _ _ _ _ _
   | exact spec_FirstMeet.mono _ _ _ _ _ _ _
   | exact spec_IsHand.mono _ _ _ _
   | exact spec_MeetPlaces.mono _ _ _ _ _ _ _
   | exact spec_MeetTimes.mono _ _ _ _ _ _ _
   | exact spec_NextMeet.mono _ _ _ _ _ _ _ _ _
   | exact LeO.none _
   | refine LeO.ite ?_ ?_
   | refine LeO.bind ?_ (fun _ => ?_)
  ·intro y0 y1 y2 y3 y4 y5 y6 y7 y8 y9 y10 y11 y12 y13 y14 y15 y16 y17 y18 y19 y20 y21 y22 y23 y24
   unfold laws_FnHandsMeetOfAll.j3
   repeat' first
   | (with_reducible apply ih0)
   | (with_reducible apply ih1)
   | (with_reducible apply ih2)
   | (with_reducible apply ih3)
   | (with_reducible apply ih4)
   | (with_reducible apply ih5)
   | (with_reducible apply ih6)
   | (with_reducible apply ih7)
   | (with_reducible apply ih8)
   | (with_reducible exact impl_CountMeets.mono _ _ _ _ _ _ _)
   | (with_reducible exact impl_FirstMeet.mono _ _ _ _ _ _ _)
   | (with_reducible exact impl_HandAt.mono _ _ _ _ _ _)
   | (with_reducible exact impl_IsHand.mono _ _ _ _)
   | (with_reducible exact impl_MeetPlaces.mono _ _ _ _ _ _ _)
   | (with_reducible exact impl_MeetTimes.mono _ _ _ _ _ _ _)
   | (with_reducible exact impl_NextMeet.mono _ _ _ _ _ _ _ _ _)
   | (with_reducible exact laws_kIn.mono _ _ _ _)
   | (with_reducible exact laws_kRises.mono _ _)
   | (with_reducible exact laws_kTurns.mono _ _ _)
   | (with_reducible exact spec_CountMeets.mono _ _ _ _ _ _ _)
   | (with_reducible exact spec_FirstMeet.mono _ _ _ _ _ _ _)
   | (with_reducible exact spec_IsHand.mono _ _ _ _)
   | (with_reducible exact spec_MeetPlaces.mono _ _ _ _ _ _ _)
   | (with_reducible exact spec_MeetTimes.mono _ _ _ _ _ _ _)
   | (with_reducible exact spec_NextMeet.mono _ _ _ _ _ _ _ _ _)
   | (with_reducible exact LeO.refl _)
   | (with_reducible exact LeO.none _)
   | (with_reducible refine LeO.ite ?_ ?_)
   | (with_reducible refine LeO.bind ?_ (fun _ => ?_))
   | apply ih0
   | apply ih1
   | apply ih2
   | apply ih3
   | apply ih4
   | apply ih5
   | apply ih6
   | apply ih7
   | apply ih8
   | exact impl_CountMeets.mono _ _ _ _ _ _ _
   | exact impl_FirstMeet.mono _ _ _ _ _ _ _
   | exact impl_HandAt.mono _ _ _ _ _ _
   | exact impl_IsHand.mono _ _ _ _
   | exact impl_MeetPlaces.mono _ _ _ _ _ _ _
   | exact impl_MeetTimes.mono _ _ _ _ _ _ _
   | exact impl_NextMeet.mono _ _ _ _ _ _ _ _ _
   | exact laws_kIn.mono _ _ _ _
   | exact laws_kRises.mono _ _
   | exact laws_kTurns.mono _ _ _
   | exact spec_CountMeets.mono _ _ _ _ _ _ _
   | exact spec_FirstMeet.mono _ _ _ _ _ _ _
   | exact spec_IsHand.mono _ _ _ _
   | exact spec_MeetPlaces.mono _ _ _ _ _ _ _
   | exact spec_MeetTimes.mono _ _ _ _ _ _ _
   | exact spec_NextMeet.mono _ _ _ _ _ _ _ _ _
   | exact LeO.none _
   | refine LeO.ite ?_ ?_
   | refine LeO.bind ?_ (fun _ => ?_)
theorem laws_FnHandsMeetOfAll.mono : ∀ a0 a1 a2 a3 a4 a5 a6 a7 a8 a9 a10 a11 a12 a13 k, LeO (laws_FnHandsMeetOfAll.f k a0 a1 a2 a3 a4 a5 a6 a7 a8 a9 a10 a11 a12 a13) (laws_FnHandsMeetOfAll.f (k + 1) a0 a1 a2 a3 a4 a5 a6 a7 a8 a9 a10 a11 a12 a13) := by
 intro a0 a1 a2 a3 a4 a5 a6 a7 a8 a9 a10 a11 a12 a13 k
 obtain ⟨ih0, ih1, ih2, ih3, ih4, ih5, ih6, ih7, ih8⟩ := laws_FnHandsMeetOfAll.mono_l k
 unfold laws_FnHandsMeetOfAll.f
 repeat' first
   | (with_reducible apply ih0)
   | (with_reducible apply ih1)
   | (with_reducible apply ih2)
   | (with_reducible apply ih3)
   | (with_reducible apply ih4)
   | (with_reducible apply ih5)
   | (with_reducible apply ih6)
   | (with_reducible apply ih7)
   | (with_reducible apply ih8)
   | (with_reducible exact impl_CountMeets.mono _ _ _ _ _ _ _)
   | (with_reducible exact impl_FirstMeet.mono _ _ _ _ _ _ _)
   | (with_reducible exact impl_HandAt.mono _ _ _ _ _ _)
   | (with_reducible exact impl_IsHand.mono _ _ _ _)
   | (with_reducible exact impl_MeetPlaces.mono _ _ _ _ _ _ _)
   | (with_reducible exact impl_MeetTimes.mono _ _ _ _ _ _ _)
   | (with_reducible exact impl_NextMeet.mono _ _ _ _ _ _ _ _ _)
   | (with_reducible exact laws_kIn.mono _ _ _ _)
   | (with_reducible exact laws_kRises.mono _ _)
   | (with_reducible exact laws_kTurns.mono _ _ _)
   | (with_reducible exact spec_CountMeets.mono _ _ _ _ _ _ _)
   | (with_reducible exact spec_FirstMeet.mono _ _ _ _ _ _ _)
   | (with_reducible exact spec_IsHand.mono _ _ _ _)
   | (with_reducible exact spec_MeetPlaces.mono _ _ _ _ _ _ _)
   | (with_reducible exact spec_MeetTimes.mono _ _ _ _ _ _ _)
   | (with_reducible exact spec_NextMeet.mono _ _ _ _ _ _ _ _ _)
   | (with_reducible exact LeO.refl _)
   | (with_reducible exact LeO.none _)
   | (with_reducible refine LeO.ite ?_ ?_)
   | (with_reducible refine LeO.bind ?_ (fun _ => ?_))
   | apply ih0
   | apply ih1
   | apply ih2
   | apply ih3
   | apply ih4
   | apply ih5
   | apply ih6
   | apply ih7
   | apply ih8
   | exact impl_CountMeets.mono _ _ _ _ _ _ _
   | exact impl_FirstMeet.mono _ _ _ _ _ _ _
   | exact impl_HandAt.mono _ _ _ _ _ _
   | exact impl_IsHand.mono _ _ _ _
   | exact impl_MeetPlaces.mono _ _ _ _ _ _ _
   | exact impl_MeetTimes.mono _ _ _ _ _ _ _
   | exact impl_NextMeet.mono _ _ _ _ _ _ _ _ _
   | exact laws_kIn.mono _ _ _ _
   | exact laws_kRises.mono _ _
   | exact laws_kTurns.mono _ _ _
   | exact spec_CountMeets.mono _ _ _ _ _ _ _
   | exact spec_FirstMeet.mono _ _ _ _ _ _ _
   | exact spec_IsHand.mono _ _ _ _
   | exact spec_MeetPlaces.mono _ _ _ _ _ _ _
   | exact spec_MeetTimes.mono _ _ _ _ _ _ _
   | exact spec_NextMeet.mono _ _ _ _ _ _ _ _ _
   | exact LeO.none _
   | refine LeO.ite ?_ ?_
   | refine LeO.bind ?_ (fun _ => ?_)
def laws_FnHandsMeetOfAll.T9 : Bool × List (List Nat × List Nat) := (true, [([], []), ([], []), ([0, 1], [0, 1]), ([2], [2]), ([3], [3]), ([3], [3]), ([4, 5, 3, 3], [3, 4, 5]), ([6, 3], [3, 6]), ([3, 7], [3, 7]), ([8, 6], [8]), ([9], [9]), ([9], [9]), ([10, 11, 9], [9, 10, 11]), ([9, 12], [9, 12]), ([13, 9], [13]), ([14], [14]), ([14], [14]), ([15, 16, 14], [14, 15, 16]), ([14, 17], [14, 17]), ([18, 14], [18]), ([19], [19]), ([19], [19]), ([20, 21, 19], [19, 20, 21]), ([19, 22], [19, 22]), ([23, 19], [23]), ([24], [24]), ([24], [24]), ([25, 26, 24], [24, 25, 26]), ([24, 27], [24, 27]), ([28, 24], [28]), ([29], [29]), ([29], [29]), ([30, 31, 29], [29, 30, 31]), ([29, 32], [29, 32]), ([33, 29], [33]), ([34], [34]), ([34], [34]), ([35, 36, 34, 34], [34, 35, 36]), ([37, 34], [34, 37]), ([34, 38], [34, 38]), ([39, 37], [39]), ([40], [40]), ([40], [40]), ([41, 42, 40], [40, 41, 42]), ([40, 43], [40, 43]), ([44, 40], [44]), ([45], [45]), ([46, 45, 45], [45, 46]), ([47], [47]), ([48, 47], [47, 48]), ([47, 49, 45], [45, 47, 49]), ([45, 50], [45, 50]), ([51, 47], [51]), ([52], [52]), ([53, 52, 52], [52, 53]), ([54], [54]), ([55, 54], [54, 55]), ([54, 56, 52], [52, 54, 56]), ([52, 57], [52, 57]), ([58, 54], [58]), ([59], [59]), ([60, 59, 59], [59, 60]), ([59], [59]), ([62, 61, 59], [59, 62]), ([61, 63, 59], [59, 61, 63]), ([59, 64], [59, 64])])
def laws_FnHandsMeetOfAll.B9 : List Nat := [0, 0, 3, 7, 15, 15, 63, 127, 255, 511, 1023, 1023, 4095, 8191, 16383, 32767, 32767, 131071, 262143, 524287, 1048575, 1048575, 4194303, 8388607, 16777215, 33554431, 33554431, 134217727, 268435455, 536870911, 1073741823, 1073741823, 4294967295, 8589934591, 17179869183, 34359738367, 34359738367, 137438953471, 274877906943, 549755813887, 1099511627775, 2199023255551, 2199023255551, 8796093022207, 17592186044415, 35184372088831, 70368744177663, 140737488355327, 281474976710655, 562949953421311, 1125899906842623, 2251799813685247, 4503599627370495, 9007199254740991, 18014398509481983, 36028797018963967, 72057594037927935, 144115188075855871, 288230376151711743, 576460752303423487, 1152921504606846975, 2305843009213693951, 1152921504606846975, 9223372036854775807, 18446744073709551615, 36893488147419103231]
theorem laws_FnHandsMeetOfAll.tab9 : rtab .any (opsOf Try.f3 9) = laws_FnHandsMeetOfAll.T9 := by kernel_rfl
theorem laws_FnHandsMeetOfAll.bits9 : waitsOk laws_FnHandsMeetOfAll.T9.2 laws_FnHandsMeetOfAll.B9 = true := by kernel_rfl
def laws_FnHandsMeetOfAll.T12 : Bool × List (List Nat × List Nat) := (true, [([], []), ([0], [0]), ([], []), ([1, 2], [1, 2]), ([3], [3]), ([4], [4]), ([4], [4]), ([6, 4], [4, 6]), ([4], [4]), ([8, 4], [4, 8]), ([7, 9, 4], [4, 7, 9]), ([10, 4, 4], [4, 10]), ([5, 11, 4], [4, 5, 11]), ([4, 12], [4, 12]), ([13, 11], [13]), ([14], [14]), ([15, 14], [14, 15]), ([16, 14], [14, 16]), ([14], [14]), ([17, 18, 14], [14, 17, 18]), ([14, 19], [14, 19]), ([20, 14], [20]), ([21], [21]), ([22, 21, 21], [21, 22]), ([23, 21], [21, 23]), ([21, 24], [21, 24])])
def laws_FnHandsMeetOfAll.B12 : List Nat := [0, 1, 0, 7, 15, 31, 31, 95, 31, 287, 991, 2015, 4095, 8191, 16383, 32767, 65535, 131071, 32767, 524287, 1048575, 2097151, 4194303, 8388607, 16777215, 33554431]
theorem laws_FnHandsMeetOfAll.tab12 : rtab .any (opsOf Try.f3 12) = laws_FnHandsMeetOfAll.T12 := by kernel_rfl
theorem laws_FnHandsMeetOfAll.bits12 : waitsOk laws_FnHandsMeetOfAll.T12.2 laws_FnHandsMeetOfAll.B12 = true := by kernel_rfl
def laws_FnHandsMeetOfAll.T22 : Bool × List (List Nat × List Nat) := (true, [([], []), ([0], [0]), ([1], [1]), ([2], [2]), ([2], [2]), ([2], [2]), ([5, 2], [2, 5]), ([2], [2]), ([6, 7, 2], [2, 6, 7]), ([4, 8, 2], [2, 4, 8]), ([9, 2], [2, 9]), ([3, 10, 2], [2, 3, 10]), ([2, 11], [2, 11])])
def laws_FnHandsMeetOfAll.B22 : List Nat := [0, 1, 3, 7, 7, 7, 39, 7, 231, 503, 1015, 2047, 4095]
theorem laws_FnHandsMeetOfAll.tab22 : rtab .any (opsOf Try.f3 22) = laws_FnHandsMeetOfAll.T22 := by kernel_rfl
theorem laws_FnHandsMeetOfAll.bits22 : waitsOk laws_FnHandsMeetOfAll.T22.2 laws_FnHandsMeetOfAll.B22 = true := by kernel_rfl
theorem laws_FnHandsMeetOfAll.j0_no {k_} {y0} {y1} {y2} {y3} {y4} {y6} {y7} {y8} {y9} {y10} {y11} {y12} {y13} {y14} {y15} {y16} {y17} {y18} {y19} {y20} {y21} {r : Bool} (h : laws_FnHandsMeetOfAll.j0 k_ y0 y1 y2 y3 y4 true y6 y7 y8 y9 y10 y11 y12 y13 y14 y15 y16 y17 y18 y19 y20 y21 = some r) : r = false := by
 cases k_ with
 | zero => simp [laws_FnHandsMeetOfAll.j0] at h
 | succ k_ =>
  have e : laws_FnHandsMeetOfAll.j0 (k_ + 1) y0 y1 y2 y3 y4 true y6 y7 y8 y9 y10 y11 y12 y13 y14 y15 y16 y17 y18 y19 y20 y21 = some false := by simp only [laws_FnHandsMeetOfAll.j0]; first | rfl | (rw [if_pos rfl]) | simp
  rw [e] at h
  exact (Option.some.inj h).symm
theorem laws_FnHandsMeetOfAll.j1_no {k_} {y0} {y1} {y2} {y3} {y5} {y6} {y7} {y8} {y9} {y10} {y11} {y12} {y13} {y14} {y15} {y16} {y17} {y18} {r : Bool} (h : laws_FnHandsMeetOfAll.j1 k_ y0 y1 y2 y3 true y5 y6 y7 y8 y9 y10 y11 y12 y13 y14 y15 y16 y17 y18 = some r) : r = false := by
 cases k_ with
 | zero => simp [laws_FnHandsMeetOfAll.j1] at h
 | succ k_ =>
  have e : laws_FnHandsMeetOfAll.j1 (k_ + 1) y0 y1 y2 y3 true y5 y6 y7 y8 y9 y10 y11 y12 y13 y14 y15 y16 y17 y18 = some false := by simp only [laws_FnHandsMeetOfAll.j1]; first | rfl | (rw [if_pos rfl]) | simp
  rw [e] at h
  exact (Option.some.inj h).symm
theorem laws_FnHandsMeetOfAll.j3_no {k_} {y0} {y1} {y2} {y3} {y4} {y5} {y6} {y7} {y9} {y10} {y11} {y12} {y13} {y14} {y15} {y16} {y17} {y18} {y19} {y20} {y21} {y22} {y23} {y24} {r : Bool} (h : laws_FnHandsMeetOfAll.j3 k_ y0 y1 y2 y3 y4 y5 y6 y7 true y9 y10 y11 y12 y13 y14 y15 y16 y17 y18 y19 y20 y21 y22 y23 y24 = some r) : r = false := by
 cases k_ with
 | zero => simp [laws_FnHandsMeetOfAll.j3] at h
 | succ k_ =>
  have e : laws_FnHandsMeetOfAll.j3 (k_ + 1) y0 y1 y2 y3 y4 y5 y6 y7 true y9 y10 y11 y12 y13 y14 y15 y16 y17 y18 y19 y20 y21 y22 y23 y24 = some false := by simp only [laws_FnHandsMeetOfAll.j3]; first | rfl | (rw [if_pos rfl]) | simp
  rw [e] at h
  exact (Option.some.inj h).symm
theorem laws_FnHandsMeetOfAll.j5_no {k_} {y1} {y2} {y3} {y4} {y5} {y6} {y7} {y8} {r : Bool} (h : laws_FnHandsMeetOfAll.j5 k_ true y1 y2 y3 y4 y5 y6 y7 y8 = some r) : r = false := by
 cases k_ with
 | zero => simp [laws_FnHandsMeetOfAll.j5] at h
 | succ k_ =>
  have e : laws_FnHandsMeetOfAll.j5 (k_ + 1) true y1 y2 y3 y4 y5 y6 y7 y8 = some false := by simp only [laws_FnHandsMeetOfAll.j5]; first | rfl | (rw [if_pos rfl]) | simp
  rw [e] at h
  exact (Option.some.inj h).symm
theorem laws_FnHandsMeetOfAll.j6_no {k_} {y0} {y2} {y3} {y4} {y5} {y6} {y7} {y8} {y9} {y10} {y11} {r : Bool} (h : laws_FnHandsMeetOfAll.j6 k_ y0 true y2 y3 y4 y5 y6 y7 y8 y9 y10 y11 = some r) : r = false := by
 cases k_ with
 | zero => simp [laws_FnHandsMeetOfAll.j6] at h
 | succ k_ =>
  have e : laws_FnHandsMeetOfAll.j6 (k_ + 1) y0 true y2 y3 y4 y5 y6 y7 y8 y9 y10 y11 = some false := by simp only [laws_FnHandsMeetOfAll.j6]; first | rfl | (rw [if_pos rfl]) | simp
  rw [e] at h
  exact (Option.some.inj h).symm
theorem laws_FnHandsMeetOfAll.j7_no {k_} {y0} {y2} {y3} {y4} {y5} {r : Bool} (h : laws_FnHandsMeetOfAll.j7 k_ y0 true y2 y3 y4 y5 = some r) : r = false := by
 cases k_ with
 | zero => simp [laws_FnHandsMeetOfAll.j7] at h
 | succ k_ =>
  have e : laws_FnHandsMeetOfAll.j7 (k_ + 1) y0 true y2 y3 y4 y5 = some false := by simp only [laws_FnHandsMeetOfAll.j7]; first | rfl | (rw [if_pos rfl]) | simp
  rw [e] at h
  exact (Option.some.inj h).symm
end Go.Proofs.Ytbgklddlcmgakaa.PFnHandsMeetOfAll
