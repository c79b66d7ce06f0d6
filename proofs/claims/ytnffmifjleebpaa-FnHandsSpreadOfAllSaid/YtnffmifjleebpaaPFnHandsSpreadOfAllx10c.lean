-- WRITTEN BY A PROGRAM OF THIS SESSION (wip/tools): its own text, not the kit's printed one.
import Derived.Test.YtnffmifjleebpaaPFnHandsSpreadOfAllx0
import Derived.Test.YtnffmifjleebpaaPFnHandsSpreadOfAllx1
import Derived.Test.YtnffmifjleebpaaPFnHandsSpreadOfAllx3
import Derived.Test.YtnffmifjleebpaaPFnHandsSpreadOfAllx5
import Derived.Test.YtnffmifjleebpaaPFnHandsSpreadOfAllx8
import Derived.Test.YtnffmifjleebpaaPFnHandsSpreadOfAllx9
namespace Go.Proofs.Ytnffmifjleebpaa.PFnHandsSpreadOfAll
open Go.RowKit Go.Proofs.YtnffmifjleebpaaW.PrintWords Go.Proofs.YtnffmifjleebpaaW.PrintLast Go.Proofs.YtnffmifjleebpaaW.PrintMore
attribute [local go_sem] max2_int min2_int max_two min_two max_three min_three max_four min_four   -- for this text's walks alone
set_option linter.unusedVariables false
set_option linter.unusedSimpArgs false

attribute [local go_sem high] eqA24
/-! ### laws_FnHandsSpreadOfAll: function 3 -/
mutual
def laws_FnHandsSpreadOfAll.j0 : Nat → List (S26) → Int → List (S24) → Bool → Bool → Bool → Int → Int → Int → Option (Bool)
 | 0, _, _, _, _, _, _, _, _, _ => none
 | k + 1, x0, x2, x9, x10, x13, x90, x352000, x352001, x352002 => if x90 = true then (some false) else (if x10 = true then (if (x9.length : Int) = (x0.length : Int) then (laws_FnHandsSpreadOfAll.l0 k x2 x9 x13 (x0.length : Int) true true x9 (x9.length : Int) 0 x352000 x352001 x352002 0 1) else (some false)) else (laws_FnHandsSpreadOfAll.j2 k x2 x352000 x352001 x352002))
def laws_FnHandsSpreadOfAll.j2 : Nat → Int → Int → Int → Int → Option (Bool)
 | 0, _, _, _, _ => none
 | k + 1, x2, x352000, x352001, x352002 => (impl_HandsOfDial.f x2).bind fun bt383 => ((spec_HandsOfDial.f x2).bind fun bt387 => (if (bt383.2 != bt387.2) = true then (laws_FnHandsSpreadOfAll.j3 k x2 bt383.1 bt383.2 true x352000 x352001 x352002) else ((laws_kHands.f k bt383.1 bt387.1).bind fun t391 => (laws_FnHandsSpreadOfAll.j3 k x2 bt383.1 bt383.2 (!t391) x352000 x352001 x352002))))
def laws_FnHandsSpreadOfAll.j3 : Nat → Int → List (S26) → Bool → Bool → Int → Int → Int → Option (Bool)
 | 0, _, _, _, _, _, _, _ => none
 | k + 1, x2, x25, x26, x193, x352000, x352001, x352002 => if x193 = true then (some false) else (if x26 = true then (if (x25.length : Int) = 2 then (if 0 < (x25.length : Int) then (if 1 < (x25.length : Int) then ((impl_CountMeets.f k ((rd_T26 x25 0).f0.f0) ((rd_T26 x25 0).f0.f1) ((rd_T26 x25 0).f1) ((rd_T26 x25 1).f0.f0) ((rd_T26 x25 1).f0.f1) ((rd_T26 x25 1).f1)).bind fun bt394 => (if bt394.2 = true then (laws_FnHandsSpreadOfAll.j4 k x2 x25 (bt394.1 != (wrap64 (x2 - 1))) x352000 x352001 x352002) else (laws_FnHandsSpreadOfAll.j4 k x2 x25 true x352000 x352001 x352002))) else (none)) else (none)) else (some false)) else ((impl_IsHand.f k x352000 x352001 x352002).bind fun t416 => ((spec_IsHand.f k x352000 x352001 x352002).bind fun t417 => (some (t416 == t417)))))
def laws_FnHandsSpreadOfAll.j4 : Nat → Int → List (S26) → Bool → Int → Int → Int → Option (Bool)
 | 0, _, _, _, _, _, _ => none
 | k + 1, x2, x25, x215, x352000, x352001, x352002 => if x215 = true then (some false) else (laws_FnHandsSpreadOfAll.l1 k x2 x25 0 x352000 x352001 x352002)
def laws_FnHandsSpreadOfAll.l1 : Nat → Int → List (S26) → Int → Int → Int → Int → Option (Bool)
 | 0, _, _, _, _, _, _ => none
 | k + 1, x2, x25, x31, x352000, x352001, x352002 => if x31 < x2 then ((impl_TimeOf.f k x2 x31 20 0).bind fun bt398 => (if 0 < (x25.length : Int) then ((impl_HandAt.f k ((rd_T26 x25 0).f0.f0) ((rd_T26 x25 0).f0.f1) ((rd_T26 x25 0).f1) bt398.1 bt398.2.1).bind fun bt403 => (if 1 < (x25.length : Int) then ((impl_HandAt.f k ((rd_T26 x25 1).f0.f0) ((rd_T26 x25 1).f0.f1) ((rd_T26 x25 1).f1) bt398.1 bt398.2.1).bind fun bt408 => ((impl_LongHand.f k x2 bt398.1 bt398.2.1).bind fun bt412 => (if bt398.2.2 = true then (if bt403.2.2 = true then (if (!(bt403.1 == bt398.1) || (!(bt403.2.1 == bt398.2.1))) = true then (some false) else (if bt408.2.2 = true then (if bt412.2.2 = true then (if (!(bt408.1 == bt412.1) || (!(bt408.2.1 == bt412.2.1))) = true then (some false) else (laws_FnHandsSpreadOfAll.l1 k x2 x25 (wrap64 (x31 + 1)) x352000 x352001 x352002)) else (some false)) else (some false))) else (some false)) else (some false)))) else (none))) else (none))) else ((impl_IsHand.f k x352000 x352001 x352002).bind fun t396 => ((spec_IsHand.f k x352000 x352001 x352002).bind fun t397 => (some (t396 == t397))))
def laws_FnHandsSpreadOfAll.l0 : Nat → Int → List (S24) → Bool → Int → Bool → Bool → List (S24) → Int → Int → Int → Int → Int → Int → Int → Option (Bool)
 | 0, _, _, _, _, _, _, _, _, _, _, _, _, _, _ => none
 | k + 1, x2, x9, x13, x17, x19, x20, x99, x100, x101, x352000, x352001, x352002, x366000, x366001 => if x101 < x100 then (if 0 ≤ x101 then (if x101 < (x99.length : Int) then ((impl_AddTurns.f k x366000 x366001 ((rd_T24 x99 x101).f0) ((rd_T24 x99 x101).f1)).bind fun bt368 => (if x19 = true then (if x20 = true then (if 0 < (x9.length : Int) then (if bt368.2.2 = true then (laws_FnHandsSpreadOfAll.l0 k x2 x9 x13 x17 bt368.2.2 (((rd_T24 x99 x101).f0) == ((rd_T24 x9 0).f0) && (((rd_T24 x99 x101).f1) == ((rd_T24 x9 0).f1))) x99 x100 (wrap64 (x101 + 1)) x352000 x352001 x352002 bt368.1 bt368.2.1) else (if x13 = true then (if x17 > 1 then (if (!(((rd_T24 x9 0).f0) == 1) || (!(((rd_T24 x9 0).f1) == x17))) = true then (some false) else (if x17 = 1 then (laws_FnHandsSpreadOfAll.j2 k x2 x352000 x352001 x352002) else (laws_FnHandsSpreadOfAll.j2 k x2 x352000 x352001 x352002))) else (if x17 = 1 then (laws_FnHandsSpreadOfAll.j2 k x2 x352000 x352001 x352002) else (laws_FnHandsSpreadOfAll.j2 k x2 x352000 x352001 x352002))) else (if x17 = 1 then (some false) else (laws_FnHandsSpreadOfAll.j2 k x2 x352000 x352001 x352002)))) else (none)) else (if bt368.2.2 = true then (laws_FnHandsSpreadOfAll.l0 k x2 x9 x13 x17 bt368.2.2 false x99 x100 (wrap64 (x101 + 1)) x352000 x352001 x352002 bt368.1 bt368.2.1) else (if x13 = true then (if x17 > 1 then (if 0 < (x9.length : Int) then (if (!(((rd_T24 x9 0).f0) == 1) || (!(((rd_T24 x9 0).f1) == x17))) = true then (some false) else (if x17 = 1 then (laws_FnHandsSpreadOfAll.j2 k x2 x352000 x352001 x352002) else (laws_FnHandsSpreadOfAll.j2 k x2 x352000 x352001 x352002))) else (none)) else (if x17 = 1 then (laws_FnHandsSpreadOfAll.j2 k x2 x352000 x352001 x352002) else (laws_FnHandsSpreadOfAll.j2 k x2 x352000 x352001 x352002))) else (if x17 = 1 then (some false) else (laws_FnHandsSpreadOfAll.j2 k x2 x352000 x352001 x352002))))) else (if x20 = true then (if 0 < (x9.length : Int) then (if x13 = true then (if x17 > 1 then (if (!(((rd_T24 x9 0).f0) == 1) || (!(((rd_T24 x9 0).f1) == x17))) = true then (some false) else (if x17 = 1 then (laws_FnHandsSpreadOfAll.j2 k x2 x352000 x352001 x352002) else (laws_FnHandsSpreadOfAll.j2 k x2 x352000 x352001 x352002))) else (if x17 = 1 then (laws_FnHandsSpreadOfAll.j2 k x2 x352000 x352001 x352002) else (laws_FnHandsSpreadOfAll.j2 k x2 x352000 x352001 x352002))) else (if x17 = 1 then (some false) else (laws_FnHandsSpreadOfAll.j2 k x2 x352000 x352001 x352002))) else (none)) else (if x13 = true then (if x17 > 1 then (if 0 < (x9.length : Int) then (if (!(((rd_T24 x9 0).f0) == 1) || (!(((rd_T24 x9 0).f1) == x17))) = true then (some false) else (if x17 = 1 then (laws_FnHandsSpreadOfAll.j2 k x2 x352000 x352001 x352002) else (laws_FnHandsSpreadOfAll.j2 k x2 x352000 x352001 x352002))) else (none)) else (if x17 = 1 then (laws_FnHandsSpreadOfAll.j2 k x2 x352000 x352001 x352002) else (laws_FnHandsSpreadOfAll.j2 k x2 x352000 x352001 x352002))) else (if x17 = 1 then (some false) else (laws_FnHandsSpreadOfAll.j2 k x2 x352000 x352001 x352002)))))) else (none)) else (none)) else (if x19 = true then (if x366000 = 0 then (if x13 = true then (if x17 > 1 then (if 0 < (x9.length : Int) then (if (!(((rd_T24 x9 0).f0) == 1) || (!(((rd_T24 x9 0).f1) == x17))) = true then (some false) else (if x17 = 1 then (if x20 = true then (if (x13 != true) = true then (some false) else (laws_FnHandsSpreadOfAll.j2 k x2 x352000 x352001 x352002)) else (if (x13 != false) = true then (some false) else (laws_FnHandsSpreadOfAll.j2 k x2 x352000 x352001 x352002))) else (if x20 = true then (if (x13 != (decide (((rd_T24 x9 0).f0) > 0))) = true then (some false) else (laws_FnHandsSpreadOfAll.j2 k x2 x352000 x352001 x352002)) else (if (x13 != false) = true then (some false) else (laws_FnHandsSpreadOfAll.j2 k x2 x352000 x352001 x352002))))) else (none)) else (if x17 = 1 then (if x20 = true then (if (x13 != true) = true then (some false) else (laws_FnHandsSpreadOfAll.j2 k x2 x352000 x352001 x352002)) else (if (x13 != false) = true then (some false) else (laws_FnHandsSpreadOfAll.j2 k x2 x352000 x352001 x352002))) else (if x20 = true then (if 0 < (x9.length : Int) then (if (x13 != (decide (((rd_T24 x9 0).f0) > 0))) = true then (some false) else (laws_FnHandsSpreadOfAll.j2 k x2 x352000 x352001 x352002)) else (none)) else (if (x13 != false) = true then (some false) else (laws_FnHandsSpreadOfAll.j2 k x2 x352000 x352001 x352002))))) else (if x17 = 1 then (some false) else (if x20 = true then (if 0 < (x9.length : Int) then (if (x13 != (decide (((rd_T24 x9 0).f0) > 0))) = true then (some false) else (laws_FnHandsSpreadOfAll.j2 k x2 x352000 x352001 x352002)) else (none)) else (if (x13 != false) = true then (some false) else (laws_FnHandsSpreadOfAll.j2 k x2 x352000 x352001 x352002))))) else (some false)) else (if x13 = true then (if x17 > 1 then (if 0 < (x9.length : Int) then (if (!(((rd_T24 x9 0).f0) == 1) || (!(((rd_T24 x9 0).f1) == x17))) = true then (some false) else (if x17 = 1 then (laws_FnHandsSpreadOfAll.j2 k x2 x352000 x352001 x352002) else (laws_FnHandsSpreadOfAll.j2 k x2 x352000 x352001 x352002))) else (none)) else (if x17 = 1 then (laws_FnHandsSpreadOfAll.j2 k x2 x352000 x352001 x352002) else (laws_FnHandsSpreadOfAll.j2 k x2 x352000 x352001 x352002))) else (if x17 = 1 then (some false) else (laws_FnHandsSpreadOfAll.j2 k x2 x352000 x352001 x352002))))
end
def laws_FnHandsSpreadOfAll.f (k : Nat) (l0 : List (S26)) (a1_0 : Int) (a1_1 : Int) (a2 : Int) (a3_0 : Int) (a3_1 : Int) (a3_2 : Int) : Option (Bool) := if (l0.length : Int) > 10000 then (some true) else ((impl_GapsAt.f k l0 a1_0 a1_1).bind fun bt352 => ((spec_GapsAt.f k l0 a1_0 a1_1).bind fun bt356 => ((impl_AreSpread.f k l0 a1_0 a1_1).bind fun bt360 => ((spec_AreSpread.f k l0 a1_0 a1_1).bind fun bt362 => (if (bt352.2 != bt356.2) = true then (laws_FnHandsSpreadOfAll.j0 k l0 a2 bt352.1 bt352.2 bt360.1 true a3_0 a3_1 a3_2) else ((laws_kTurns.f k bt352.1 bt356.1).bind fun t364 => (if t364 = true then (if (bt360.2 != bt362.2) = true then (laws_FnHandsSpreadOfAll.j0 k l0 a2 bt352.1 bt352.2 bt360.1 true a3_0 a3_1 a3_2) else (if (bt360.1 != bt362.1) = true then (laws_FnHandsSpreadOfAll.j0 k l0 a2 bt352.1 bt352.2 bt360.1 true a3_0 a3_1 a3_2) else (laws_FnHandsSpreadOfAll.j0 k l0 a2 bt352.1 bt352.2 bt360.1 (bt360.2 != bt352.2) a3_0 a3_1 a3_2))) else (laws_FnHandsSpreadOfAll.j0 k l0 a2 bt352.1 bt352.2 bt360.1 true a3_0 a3_1 a3_2))))))))
theorem laws_FnHandsSpreadOfAll.mono_l : ∀ k, (∀ y0 y1 y2 y3 y4 y5 y6 y7 y8, LeO (laws_FnHandsSpreadOfAll.j0 k y0 y1 y2 y3 y4 y5 y6 y7 y8) (laws_FnHandsSpreadOfAll.j0 (k + 1) y0 y1 y2 y3 y4 y5 y6 y7 y8)) ∧ (∀ y0 y1 y2 y3, LeO (laws_FnHandsSpreadOfAll.j2 k y0 y1 y2 y3) (laws_FnHandsSpreadOfAll.j2 (k + 1) y0 y1 y2 y3)) ∧ (∀ y0 y1 y2 y3 y4 y5 y6, LeO (laws_FnHandsSpreadOfAll.j3 k y0 y1 y2 y3 y4 y5 y6) (laws_FnHandsSpreadOfAll.j3 (k + 1) y0 y1 y2 y3 y4 y5 y6)) ∧ (∀ y0 y1 y2 y3 y4 y5, LeO (laws_FnHandsSpreadOfAll.j4 k y0 y1 y2 y3 y4 y5) (laws_FnHandsSpreadOfAll.j4 (k + 1) y0 y1 y2 y3 y4 y5)) ∧ (∀ y0 y1 y2 y3 y4 y5, LeO (laws_FnHandsSpreadOfAll.l1 k y0 y1 y2 y3 y4 y5) (laws_FnHandsSpreadOfAll.l1 (k + 1) y0 y1 y2 y3 y4 y5)) ∧ (∀ y0 y1 y2 y3 y4 y5 y6 y7 y8 y9 y10 y11 y12 y13, LeO (laws_FnHandsSpreadOfAll.l0 k y0 y1 y2 y3 y4 y5 y6 y7 y8 y9 y10 y11 y12 y13) (laws_FnHandsSpreadOfAll.l0 (k + 1) y0 y1 y2 y3 y4 y5 y6 y7 y8 y9 y10 y11 y12 y13))
 | 0 => ⟨fun _ _ _ _ _ _ _ _ _ r h => by simp [laws_FnHandsSpreadOfAll.j0] at h, fun _ _ _ _ r h => by simp [laws_FnHandsSpreadOfAll.j2] at h, fun _ _ _ _ _ _ _ r h => by simp [laws_FnHandsSpreadOfAll.j3] at h, fun _ _ _ _ _ _ r h => by simp [laws_FnHandsSpreadOfAll.j4] at h, fun _ _ _ _ _ _ r h => by simp [laws_FnHandsSpreadOfAll.l1] at h, fun _ _ _ _ _ _ _ _ _ _ _ _ _ _ r h => by simp [laws_FnHandsSpreadOfAll.l0] at h⟩
 | k + 1 => by
  obtain ⟨ih0, ih1, ih2, ih3, ih4, ih5⟩ := laws_FnHandsSpreadOfAll.mono_l k
  refine ⟨?_, ?_, ?_, ?_, ?_, ?_⟩
  ·intro y0 y1 y2 y3 y4 y5 y6 y7 y8
   unfold laws_FnHandsSpreadOfAll.j0
   repeat' first
   | (with_reducible apply ih0)
   | (with_reducible apply ih1)
   | (with_reducible apply ih2)
   | (with_reducible apply ih3)
   | (with_reducible apply ih4)
   | (with_reducible apply ih5)
   | (with_reducible exact impl_AddTurns.mono _ _ _ _ _)
   | (with_reducible exact impl_AreSpread.mono _ _ _ _)
   | (with_reducible exact impl_CountMeets.mono _ _ _ _ _ _ _)
   | (with_reducible exact impl_GapsAt.mono _ _ _ _)
   | (with_reducible exact impl_HandAt.mono _ _ _ _ _ _)
   | (with_reducible exact impl_IsHand.mono _ _ _ _)
   | (with_reducible exact impl_LongHand.mono _ _ _ _)
   | (with_reducible exact impl_TimeOf.mono _ _ _ _ _)
   | (with_reducible exact laws_kHands.mono _ _ _)
   | (with_reducible exact laws_kTurns.mono _ _ _)
   | (with_reducible exact spec_AreSpread.mono _ _ _ _)
   | (with_reducible exact spec_GapsAt.mono _ _ _ _)
   | (with_reducible exact spec_IsHand.mono _ _ _ _)
   | (with_reducible exact LeO.refl _)
   | (with_reducible exact LeO.none _)
   | (with_reducible refine LeO.ite ?_ ?_)
   | (with_reducible refine LeO.bind ?_ (fun _ => ?_))
   | apply ih0
   | apply ih1
   | apply ih2
   | apply ih3
   | apply ih4
   | apply ih5
   | exact impl_AddTurns.mono _ _ _ _ _
   | exact impl_AreSpread.mono _ _ _ _
   | exact impl_CountMeets.mono _ _ _ _ _ _ _
   | exact impl_GapsAt.mono _ _ _ _
   | exact impl_HandAt.mono _ _ _ _ _ _
   | exact impl_IsHand.mono _ _ _ _
   | exact impl_LongHand.mono _ _ _ _
   | exact impl_TimeOf.mono _ _ _ _ _
   | exact laws_kHands.mono _ _ _
   | exact laws_kTurns.mono _ _ _
   | exact spec_AreSpread.mono _ _ _ _
   | exact spec_GapsAt.mono _ _ _ _
   | exact spec_IsHand.mono _ _ _ _
   | exact LeO.none _
   | refine LeO.ite ?_ ?_
   | refine LeO.bind ?_ (fun _ => ?_)
  ·intro y0 y1 y2 y3
   unfold laws_FnHandsSpreadOfAll.j2
   repeat' first
   | (with_reducible apply ih0)
   | (with_reducible apply ih1)
   | (with_reducible apply ih2)
   | (with_reducible apply ih3)
   | (with_reducible apply ih4)
   | (with_reducible apply ih5)
   | (with_reducible exact impl_AddTurns.mono _ _ _ _ _)
   | (with_reducible exact impl_AreSpread.mono _ _ _ _)
   | (with_reducible exact impl_CountMeets.mono _ _ _ _ _ _ _)
   | (with_reducible exact impl_GapsAt.mono _ _ _ _)
   | (with_reducible exact impl_HandAt.mono _ _ _ _ _ _)
   | (with_reducible exact impl_IsHand.mono _ _ _ _)
   | (with_reducible exact impl_LongHand.mono _ _ _ _)
   | (with_reducible exact impl_TimeOf.mono _ _ _ _ _)
   | (with_reducible exact laws_kHands.mono _ _ _)
   | (with_reducible exact laws_kTurns.mono _ _ _)
   | (with_reducible exact spec_AreSpread.mono _ _ _ _)
   | (with_reducible exact spec_GapsAt.mono _ _ _ _)
   | (with_reducible exact spec_IsHand.mono _ _ _ _)
   | (with_reducible exact LeO.refl _)
   | (with_reducible exact LeO.none _)
   | (with_reducible refine LeO.ite ?_ ?_)
   | (with_reducible refine LeO.bind ?_ (fun _ => ?_))
   | apply ih0
   | apply ih1
   | apply ih2
   | apply ih3
   | apply ih4
   | apply ih5
   | exact impl_AddTurns.mono _ _ _ _ _
   | exact impl_AreSpread.mono _ _ _ _
   | exact impl_CountMeets.mono _ _ _ _ _ _ _
   | exact impl_GapsAt.mono _ _ _ _
   | exact impl_HandAt.mono _ _ _ _ _ _
   | exact impl_IsHand.mono _ _ _ _
   | exact impl_LongHand.mono _ _ _ _
   | exact impl_TimeOf.mono _ _ _ _ _
   | exact laws_kHands.mono _ _ _
   | exact laws_kTurns.mono _ _ _
   | exact spec_AreSpread.mono _ _ _ _
   | exact spec_GapsAt.mono _ _ _ _
   | exact spec_IsHand.mono _ _ _ _
   | exact LeO.none _
   | refine LeO.ite ?_ ?_
   | refine LeO.bind ?_ (fun _ => ?_)
  ·intro y0 y1 y2 y3 y4 y5 y6
   unfold laws_FnHandsSpreadOfAll.j3
   repeat' first
   | (with_reducible apply ih0)
   | (with_reducible apply ih1)
   | (with_reducible apply ih2)
   | (with_reducible apply ih3)
   | (with_reducible apply ih4)
   | (with_reducible apply ih5)
   | (with_reducible exact impl_AddTurns.mono _ _ _ _ _)
   | (with_reducible exact impl_AreSpread.mono _ _ _ _)
   | (with_reducible exact impl_CountMeets.mono _ _ _ _ _ _ _)
   | (with_reducible exact impl_GapsAt.mono _ _ _ _)
   | (with_reducible exact impl_HandAt.mono _ _ _ _ _ _)
   | (with_reducible exact impl_IsHand.mono _ _ _ _)
   | (with_reducible exact impl_LongHand.mono _ _ _ _)
   | (with_reducible exact impl_TimeOf.mono _ _ _ _ _)
   | (with_reducible exact laws_kHands.mono _ _ _)
   | (with_reducible exact laws_kTurns.mono _ _ _)
   | (with_reducible exact spec_AreSpread.mono _ _ _ _)
   | (with_reducible exact spec_GapsAt.mono _ _ _ _)
   | (with_reducible exact spec_IsHand.mono _ _ _ _)
   | (with_reducible exact LeO.refl _)
   | (with_reducible exact LeO.none _)
   | (with_reducible refine LeO.ite ?_ ?_)
   | (with_reducible refine LeO.bind ?_ (fun _ => ?_))
   | apply ih0
   | apply ih1
   | apply ih2
   | apply ih3
   | apply ih4
   | apply ih5
   | exact impl_AddTurns.mono _ _ _ _ _
   | exact impl_AreSpread.mono _ _ _ _
   | exact impl_CountMeets.mono _ _ _ _ _ _ _
   | exact impl_GapsAt.mono _ _ _ _
   | exact impl_HandAt.mono _ _ _ _ _ _
   | exact impl_IsHand.mono _ _ _ _
   | exact impl_LongHand.mono _ _ _ _
   | exact impl_TimeOf.mono _ _ _ _ _
   | exact laws_kHands.mono _ _ _
   | exact laws_kTurns.mono _ _ _
   | exact spec_AreSpread.mono _ _ _ _
   | exact spec_GapsAt.mono _ _ _ _
   | exact spec_IsHand.mono _ _ _ _
   | exact LeO.none _
   | refine LeO.ite ?_ ?_
   | refine LeO.bind ?_ (fun _ => ?_)
  ·intro y0 y1 y2 y3 y4 y5
   unfold laws_FnHandsSpreadOfAll.j4
   repeat' first
   | (with_reducible apply ih0)
   | (with_reducible apply ih1)
   | (with_reducible apply ih2)
   | (with_reducible apply ih3)
   | (with_reducible apply ih4)
   | (with_reducible apply ih5)
   | (with_reducible exact impl_AddTurns.mono _ _ _ _ _)
   | (with_reducible exact impl_AreSpread.mono _ _ _ _)
   | (with_reducible exact impl_CountMeets.mono _ _ _ _ _ _ _)
   | (with_reducible exact impl_GapsAt.mono _ _ _ _)
   | (with_reducible exact impl_HandAt.mono _ _ _ _ _ _)
   | (with_reducible exact impl_IsHand.mono _ _ _ _)
   | (with_reducible exact impl_LongHand.mono _ _ _ _)
   | (with_reducible exact impl_TimeOf.mono _ _ _ _ _)
   | (with_reducible exact laws_kHands.mono _ _ _)
   | (with_reducible exact laws_kTurns.mono _ _ _)
   | (with_reducible exact spec_AreSpread.mono _ _ _ _)
   | (with_reducible exact spec_GapsAt.mono _ _ _ _)
   | (with_reducible exact spec_IsHand.mono _ _ _ _)
   | (with_reducible exact LeO.refl _)
   | (with_reducible exact LeO.none _)
   | (with_reducible refine LeO.ite ?_ ?_)
   | (with_reducible refine LeO.bind ?_ (fun _ => ?_))
   | apply ih0
   | apply ih1
   | apply ih2
   | apply ih3
   | apply ih4
   | apply ih5
   | exact impl_AddTurns.mono _ _ _ _ _
   | exact impl_AreSpread.mono _ _ _ _
   | exact impl_CountMeets.mono _ _ _ _ _ _ _
   | exact impl_GapsAt.mono _ _ _ _
   | exact impl_HandAt.mono _ _ _ _ _ _
   | exact impl_IsHand.mono _ _ _ _
   | exact impl_LongHand.mono _ _ _ _
   | exact impl_TimeOf.mono _ _ _ _ _
   | exact laws_kHands.mono _ _ _
   | exact laws_kTurns.mono _ _ _
   | exact spec_AreSpread.mono _ _ _ _
   | exact spec_GapsAt.mono _ _ _ _
   | exact spec_IsHand.mono _ _ _ _
   | exact LeO.none _
   | refine LeO.ite ?_ ?_
   | refine LeO.bind ?_ (fun _ => ?_)
  ·intro y0 y1 y2 y3 y4 y5
   unfold laws_FnHandsSpreadOfAll.l1
   repeat' first
   | (with_reducible apply ih0)
   | (with_reducible apply ih1)
   | (with_reducible apply ih2)
   | (with_reducible apply ih3)
   | (with_reducible apply ih4)
   | (with_reducible apply ih5)
   | (with_reducible exact impl_AddTurns.mono _ _ _ _ _)
   | (with_reducible exact impl_AreSpread.mono _ _ _ _)
   | (with_reducible exact impl_CountMeets.mono _ _ _ _ _ _ _)
   | (with_reducible exact impl_GapsAt.mono _ _ _ _)
   | (with_reducible exact impl_HandAt.mono _ _ _ _ _ _)
   | (with_reducible exact impl_IsHand.mono _ _ _ _)
   | (with_reducible exact impl_LongHand.mono _ _ _ _)
   | (with_reducible exact impl_TimeOf.mono _ _ _ _ _)
   | (with_reducible exact laws_kHands.mono _ _ _)
   | (with_reducible exact laws_kTurns.mono _ _ _)
   | (with_reducible exact spec_AreSpread.mono _ _ _ _)
   | (with_reducible exact spec_GapsAt.mono _ _ _ _)
   | (with_reducible exact spec_IsHand.mono _ _ _ _)
   | (with_reducible exact LeO.refl _)
   | (with_reducible exact LeO.none _)
   | (with_reducible refine LeO.ite ?_ ?_)
   | (with_reducible refine LeO.bind ?_ (fun _ => ?_))
   | apply ih0
   | apply ih1
   | apply ih2
   | apply ih3
   | apply ih4
   | apply ih5
   | exact impl_AddTurns.mono _ _ _ _ _
   | exact impl_AreSpread.mono _ _ _ _
   | exact impl_CountMeets.mono _ _ _ _ _ _ _
   | exact impl_GapsAt.mono _ _ _ _
   | exact impl_HandAt.mono _ _ _ _ _ _
   | exact impl_IsHand.mono _ _ _ _
   | exact impl_LongHand.mono _ _ _ _
   | exact impl_TimeOf.mono _ _ _ _ _
   | exact laws_kHands.mono _ _ _
   | exact laws_kTurns.mono _ _ _
   | exact spec_AreSpread.mono _ _ _ _
   | exact spec_GapsAt.mono _ _ _ _
   | exact spec_IsHand.mono _ _ _ _
   | exact LeO.none _
   | refine LeO.ite ?_ ?_
   | refine LeO.bind ?_ (fun _ => ?_)
  ·intro y0 y1 y2 y3 y4 y5 y6 y7 y8 y9 y10 y11 y12 y13
   unfold laws_FnHandsSpreadOfAll.l0
   repeat' first
   | (with_reducible apply ih0)
   | (with_reducible apply ih1)
   | (with_reducible apply ih2)
   | (with_reducible apply ih3)
   | (with_reducible apply ih4)
   | (with_reducible apply ih5)
   | (with_reducible exact impl_AddTurns.mono _ _ _ _ _)
   | (with_reducible exact impl_AreSpread.mono _ _ _ _)
   | (with_reducible exact impl_CountMeets.mono _ _ _ _ _ _ _)
   | (with_reducible exact impl_GapsAt.mono _ _ _ _)
   | (with_reducible exact impl_HandAt.mono _ _ _ _ _ _)
   | (with_reducible exact impl_IsHand.mono _ _ _ _)
   | (with_reducible exact impl_LongHand.mono _ _ _ _)
   | (with_reducible exact impl_TimeOf.mono _ _ _ _ _)
   | (with_reducible exact laws_kHands.mono _ _ _)
   | (with_reducible exact laws_kTurns.mono _ _ _)
   | (with_reducible exact spec_AreSpread.mono _ _ _ _)
   | (with_reducible exact spec_GapsAt.mono _ _ _ _)
   | (with_reducible exact spec_IsHand.mono _ _ _ _)
   | (with_reducible exact LeO.refl _)
   | (with_reducible exact LeO.none _)
   | (with_reducible refine LeO.ite ?_ ?_)
   | (with_reducible refine LeO.bind ?_ (fun _ => ?_))
   | apply ih0
   | apply ih1
   | apply ih2
   | apply ih3
   | apply ih4
   | apply ih5
   | exact impl_AddTurns.mono _ _ _ _ _
   | exact impl_AreSpread.mono _ _ _ _
   | exact impl_CountMeets.mono _ _ _ _ _ _ _
   | exact impl_GapsAt.mono _ _ _ _
   | exact impl_HandAt.mono _ _ _ _ _ _
   | exact impl_IsHand.mono _ _ _ _
   | exact impl_LongHand.mono _ _ _ _
   | exact impl_TimeOf.mono _ _ _ _ _
   | exact laws_kHands.mono _ _ _
   | exact laws_kTurns.mono _ _ _
   | exact spec_AreSpread.mono _ _ _ _
   | exact spec_GapsAt.mono _ _ _ _
   | exact spec_IsHand.mono _ _ _ _
   | exact LeO.none _
   | refine LeO.ite ?_ ?_
   | refine LeO.bind ?_ (fun _ => ?_)
theorem laws_FnHandsSpreadOfAll.mono : ∀ a0 a1 a2 a3 a4 a5 a6 k, LeO (laws_FnHandsSpreadOfAll.f k a0 a1 a2 a3 a4 a5 a6) (laws_FnHandsSpreadOfAll.f (k + 1) a0 a1 a2 a3 a4 a5 a6) := by
 intro a0 a1 a2 a3 a4 a5 a6 k
 obtain ⟨ih0, ih1, ih2, ih3, ih4, ih5⟩ := laws_FnHandsSpreadOfAll.mono_l k
 unfold laws_FnHandsSpreadOfAll.f
 repeat' first
   | (with_reducible apply ih0)
   | (with_reducible apply ih1)
   | (with_reducible apply ih2)
   | (with_reducible apply ih3)
   | (with_reducible apply ih4)
   | (with_reducible apply ih5)
   | (with_reducible exact impl_AddTurns.mono _ _ _ _ _)
   | (with_reducible exact impl_AreSpread.mono _ _ _ _)
   | (with_reducible exact impl_CountMeets.mono _ _ _ _ _ _ _)
   | (with_reducible exact impl_GapsAt.mono _ _ _ _)
   | (with_reducible exact impl_HandAt.mono _ _ _ _ _ _)
   | (with_reducible exact impl_IsHand.mono _ _ _ _)
   | (with_reducible exact impl_LongHand.mono _ _ _ _)
   | (with_reducible exact impl_TimeOf.mono _ _ _ _ _)
   | (with_reducible exact laws_kHands.mono _ _ _)
   | (with_reducible exact laws_kTurns.mono _ _ _)
   | (with_reducible exact spec_AreSpread.mono _ _ _ _)
   | (with_reducible exact spec_GapsAt.mono _ _ _ _)
   | (with_reducible exact spec_IsHand.mono _ _ _ _)
   | (with_reducible exact LeO.refl _)
   | (with_reducible exact LeO.none _)
   | (with_reducible refine LeO.ite ?_ ?_)
   | (with_reducible refine LeO.bind ?_ (fun _ => ?_))
   | apply ih0
   | apply ih1
   | apply ih2
   | apply ih3
   | apply ih4
   | apply ih5
   | exact impl_AddTurns.mono _ _ _ _ _
   | exact impl_AreSpread.mono _ _ _ _
   | exact impl_CountMeets.mono _ _ _ _ _ _ _
   | exact impl_GapsAt.mono _ _ _ _
   | exact impl_HandAt.mono _ _ _ _ _ _
   | exact impl_IsHand.mono _ _ _ _
   | exact impl_LongHand.mono _ _ _ _
   | exact impl_TimeOf.mono _ _ _ _ _
   | exact laws_kHands.mono _ _ _
   | exact laws_kTurns.mono _ _ _
   | exact spec_AreSpread.mono _ _ _ _
   | exact spec_GapsAt.mono _ _ _ _
   | exact spec_IsHand.mono _ _ _ _
   | exact LeO.none _
   | refine LeO.ite ?_ ?_
   | refine LeO.bind ?_ (fun _ => ?_)
def laws_FnHandsSpreadOfAll.T22 : Bool × List (List Nat × List Nat) := (true, [([], []), ([0], [0]), ([1], [1]), ([1], [1]), ([3, 1], [1, 3]), ([4, 1], [1, 4]), ([2, 5, 1], [1, 2, 5]), ([1, 6], [1, 6]), ([7, 1, 0, 1, 2, 3, 4, 5, 6, 7], [0, 7])])
def laws_FnHandsSpreadOfAll.B22 : List Nat := [0, 1, 3, 3, 11, 27, 63, 127, 255]
theorem laws_FnHandsSpreadOfAll.tab22 : rtab .any (opsOf Try.f3 22) = laws_FnHandsSpreadOfAll.T22 := by kernel_rfl
theorem laws_FnHandsSpreadOfAll.bits22 : waitsOk laws_FnHandsSpreadOfAll.T22.2 laws_FnHandsSpreadOfAll.B22 = true := by kernel_rfl
def laws_FnHandsSpreadOfAll.T34 : Bool × List (List Nat × List Nat) := (true, [([], []), ([0], [0]), ([1], [1]), ([], []), ([3], [3]), ([4], [4]), ([2, 5], [2, 5]), ([6], [6]), ([7], [7]), ([7], [7]), ([8, 6, 0, 1, 2, 3, 4, 5, 6, 7, 8], [8]), ([9, 10, 0, 1, 2, 3, 4, 5, 6, 7, 8, 9, 10], [9])])
def laws_FnHandsSpreadOfAll.B34 : List Nat := [0, 1, 3, 0, 8, 24, 63, 127, 255, 255, 511, 2047]
theorem laws_FnHandsSpreadOfAll.tab34 : rtab .any (opsOf Try.f3 34) = laws_FnHandsSpreadOfAll.T34 := by kernel_rfl
theorem laws_FnHandsSpreadOfAll.bits34 : waitsOk laws_FnHandsSpreadOfAll.T34.2 laws_FnHandsSpreadOfAll.B34 = true := by kernel_rfl
def laws_FnHandsSpreadOfAll.T41 : Bool × List (List Nat × List Nat) := (true, [([], []), ([0], [0]), ([1], [1]), ([], []), ([2, 3], [2, 3]), ([4], [4]), ([5], [5]), ([5], [5]), ([], []), ([8, 6, 4, 0, 1, 2, 3, 4, 5, 6, 8], [6, 8]), ([7, 9, 0, 1, 2, 3, 4, 5, 6, 7, 8, 9], [7])])
def laws_FnHandsSpreadOfAll.B41 : List Nat := [0, 1, 3, 0, 15, 31, 63, 63, 0, 383, 1023]
theorem laws_FnHandsSpreadOfAll.tab41 : rtab .any (opsOf Try.f3 41) = laws_FnHandsSpreadOfAll.T41 := by kernel_rfl
theorem laws_FnHandsSpreadOfAll.bits41 : waitsOk laws_FnHandsSpreadOfAll.T41.2 laws_FnHandsSpreadOfAll.B41 = true := by kernel_rfl
def laws_FnHandsSpreadOfAll.T42 : Bool × List (List Nat × List Nat) := (true, [([], []), ([0], [0]), ([1], [1]), ([], []), ([2, 3], [2, 3]), ([4], [4]), ([5], [5]), ([5], [5]), ([], []), ([8, 6, 4, 0, 1, 2, 3, 4, 5, 6, 8], [6, 8]), ([7, 9, 0, 1, 2, 3, 4, 5, 6, 7, 8, 9], [7])])
def laws_FnHandsSpreadOfAll.B42 : List Nat := [0, 1, 3, 0, 15, 31, 63, 63, 0, 383, 1023]
theorem laws_FnHandsSpreadOfAll.tab42 : rtab .any (opsOf Try.f3 42) = laws_FnHandsSpreadOfAll.T42 := by kernel_rfl
theorem laws_FnHandsSpreadOfAll.bits42 : waitsOk laws_FnHandsSpreadOfAll.T42.2 laws_FnHandsSpreadOfAll.B42 = true := by kernel_rfl
theorem laws_FnHandsSpreadOfAll.j0_no {k_} {y0} {y1} {y2} {y3} {y4} {y6} {y7} {y8} {r : Bool} (h : laws_FnHandsSpreadOfAll.j0 k_ y0 y1 y2 y3 y4 true y6 y7 y8 = some r) : r = false := by
 cases k_ with
 | zero => simp [laws_FnHandsSpreadOfAll.j0] at h
 | succ k_ =>
  have e : laws_FnHandsSpreadOfAll.j0 (k_ + 1) y0 y1 y2 y3 y4 true y6 y7 y8 = some false := by simp only [laws_FnHandsSpreadOfAll.j0]; first | rfl | (rw [if_pos rfl]) | simp
  rw [e] at h
  exact (Option.some.inj h).symm
theorem laws_FnHandsSpreadOfAll.j3_no {k_} {y0} {y1} {y2} {y4} {y5} {y6} {r : Bool} (h : laws_FnHandsSpreadOfAll.j3 k_ y0 y1 y2 true y4 y5 y6 = some r) : r = false := by
 cases k_ with
 | zero => simp [laws_FnHandsSpreadOfAll.j3] at h
 | succ k_ =>
  have e : laws_FnHandsSpreadOfAll.j3 (k_ + 1) y0 y1 y2 true y4 y5 y6 = some false := by simp only [laws_FnHandsSpreadOfAll.j3]; first | rfl | (rw [if_pos rfl]) | simp
  rw [e] at h
  exact (Option.some.inj h).symm
theorem laws_FnHandsSpreadOfAll.j4_no {k_} {y0} {y1} {y3} {y4} {y5} {r : Bool} (h : laws_FnHandsSpreadOfAll.j4 k_ y0 y1 true y3 y4 y5 = some r) : r = false := by
 cases k_ with
 | zero => simp [laws_FnHandsSpreadOfAll.j4] at h
 | succ k_ =>
  have e : laws_FnHandsSpreadOfAll.j4 (k_ + 1) y0 y1 true y3 y4 y5 = some false := by simp only [laws_FnHandsSpreadOfAll.j4]; first | rfl | (rw [if_pos rfl]) | simp
  rw [e] at h
  exact (Option.some.inj h).symm
end Go.Proofs.Ytnffmifjleebpaa.PFnHandsSpreadOfAll
