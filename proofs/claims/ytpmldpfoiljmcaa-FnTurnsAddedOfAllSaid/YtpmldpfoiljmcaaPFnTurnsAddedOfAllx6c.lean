-- WRITTEN BY A PROGRAM OF THIS SESSION (wip/tools): its own text, not the kit's printed one.
import Derived.Test.YtpmldpfoiljmcaaPFnTurnsAddedOfAllx0
import Derived.Test.YtpmldpfoiljmcaaPFnTurnsAddedOfAllx1
import Derived.Test.YtpmldpfoiljmcaaPFnTurnsAddedOfAllx2
import Derived.Test.YtpmldpfoiljmcaaPFnTurnsAddedOfAllx3
import Derived.Test.YtpmldpfoiljmcaaPFnTurnsAddedOfAllx4
import Derived.Test.YtpmldpfoiljmcaaPFnTurnsAddedOfAllx5
namespace Go.Proofs.Ytpmldpfoiljmcaa.PFnTurnsAddedOfAll
open Go.RowKit Go.Proofs.YtpmldpfoiljmcaaW.PrintWords Go.Proofs.YtpmldpfoiljmcaaW.PrintLast Go.Proofs.YtpmldpfoiljmcaaW.PrintMore
attribute [local go_sem] max2_int min2_int max_two min_two max_three min_three max_four min_four   -- for this text's walks alone
set_option linter.unusedVariables false
set_option linter.unusedSimpArgs false

attribute [local go_sem high] eqA23
/-! ### laws_FnTurnsAddedOfAll: function 3 -/
mutual
def laws_FnTurnsAddedOfAll.j0 : Nat → Int → Int → Int → Bool → Int → Bool → Bool → Bool → Int → Int → Int → Int → Int → Int → Int → Int → Int → Int → Option (Bool)
 | 0, _, _, _, _, _, _, _, _, _, _, _, _, _, _, _, _, _, _ => none
 | k + 1, x3, x4, x5, x14, x21, x22, x26, x173, x273000, x273001, x274000, x274001, x275000, x275001, x279000, x279001, x299000, x299001 => if x173 = true then (some false) else (if x22 = true then ((impl_CompareTurns.f k x274000 x274001 x273000 x273001).bind fun bt308 => ((impl_AddTurns.f k x274000 x274001 x273000 x273001).bind fun bt310 => (if bt308.2 = true then (if bt308.1 = (wrap64 (-x21)) then (if ((x21 == 0) != (x273000 == x274000 && (x273001 == x274001))) = true then (some false) else (if (bt310.2.2 != x14) = true then (some false) else (if (!(bt310.1 == x279000) || (!(bt310.2.1 == x279001))) = true then (some false) else (laws_FnTurnsAddedOfAll.j1 k x3 x4 x5 x14 x26 x273000 x273001 x274000 x274001 x275000 x275001 x279000 x279001 x299000 x299001)))) else (some false)) else (some false)))) else (laws_FnTurnsAddedOfAll.j1 k x3 x4 x5 x14 x26 x273000 x273001 x274000 x274001 x275000 x275001 x279000 x279001 x299000 x299001))
def laws_FnTurnsAddedOfAll.j1 : Nat → Int → Int → Int → Bool → Bool → Int → Int → Int → Int → Int → Int → Int → Int → Int → Int → Option (Bool)
 | 0, _, _, _, _, _, _, _, _, _, _, _, _, _, _, _ => none
 | k + 1, x3, x4, x5, x14, x26, x273000, x273001, x274000, x274001, x275000, x275001, x279000, x279001, x299000, x299001 => if x14 = true then ((impl_LessTurn.f k x279000 x279001 x274000 x274001).bind fun bt314 => ((impl_IsTurn.f k x279000 x279001).bind fun t318 => (if t318 = true then (if bt314.2.2 = true then (if (!(bt314.1 == x273000) || (!(bt314.2.1 == x273001))) = true then (some false) else (laws_FnTurnsAddedOfAll.j2 k x3 x4 x5 x26 x273000 x273001 x275000 x275001 x299000 x299001)) else (laws_FnTurnsAddedOfAll.j2 k x3 x4 x5 x26 x273000 x273001 x275000 x275001 x299000 x299001)) else (some false)))) else (laws_FnTurnsAddedOfAll.j2 k x3 x4 x5 x26 x273000 x273001 x275000 x275001 x299000 x299001)
def laws_FnTurnsAddedOfAll.j2 : Nat → Int → Int → Int → Bool → Int → Int → Int → Int → Int → Int → Option (Bool)
 | 0, _, _, _, _, _, _, _, _, _, _ => none
 | k + 1, x3, x4, x5, x26, x273000, x273001, x275000, x275001, x299000, x299001 => if x26 = true then ((impl_AddTurns.f k x273000 x273001 x299000 x299001).bind fun bt319 => ((impl_MirrorTurn.f k x299000 x299001).bind fun bt323 => (if bt319.2.2 = true then (if (!(bt319.1 == 0) || (!(bt319.2.1 == 1))) = true then (some false) else (if bt323.2.2 = true then (if (!(bt323.1 == x273000) || (!(bt323.2.1 == x273001))) = true then (some false) else (laws_FnTurnsAddedOfAll.j3 k x3 x4 x5 x275000 x275001)) else (some false))) else (some false)))) else (laws_FnTurnsAddedOfAll.j3 k x3 x4 x5 x275000 x275001)
def laws_FnTurnsAddedOfAll.j3 : Nat → Int → Int → Int → Int → Int → Option (Bool)
 | 0, _, _, _, _, _ => none
 | k + 1, x3, x4, x5, x275000, x275001 => (impl_TimesTurn.f k x275000 x275001 x3).bind fun bt327 => ((spec_TimesTurn.f k x275000 x275001 x3).bind fun bt331 => ((impl_PartOfTurn.f k x275000 x275001 x3).bind fun bt335 => ((spec_PartOfTurn.f k x275000 x275001 x3).bind fun bt339 => ((impl_MakeTurn.f k x4 x5).bind fun bt343 => ((spec_MakeTurn.f k x4 x5).bind fun bt347 => (if (bt327.2.2 != bt331.2.2) = true then (laws_FnTurnsAddedOfAll.j4 k x3 x4 x5 bt335.2.2 bt343.2.2 true x275000 x275001 bt335.1 bt335.2.1 bt343.1 bt343.2.1) else (if (!(bt327.1 == bt331.1) || (!(bt327.2.1 == bt331.2.1))) = true then (laws_FnTurnsAddedOfAll.j4 k x3 x4 x5 bt335.2.2 bt343.2.2 true x275000 x275001 bt335.1 bt335.2.1 bt343.1 bt343.2.1) else (if (bt335.2.2 != bt339.2.2) = true then (laws_FnTurnsAddedOfAll.j4 k x3 x4 x5 bt335.2.2 bt343.2.2 true x275000 x275001 bt335.1 bt335.2.1 bt343.1 bt343.2.1) else (if (!(bt335.1 == bt339.1) || (!(bt335.2.1 == bt339.2.1))) = true then (laws_FnTurnsAddedOfAll.j4 k x3 x4 x5 bt335.2.2 bt343.2.2 true x275000 x275001 bt335.1 bt335.2.1 bt343.1 bt343.2.1) else (if (bt343.2.2 != bt347.2.2) = true then (laws_FnTurnsAddedOfAll.j4 k x3 x4 x5 bt335.2.2 bt343.2.2 true x275000 x275001 bt335.1 bt335.2.1 bt343.1 bt343.2.1) else (laws_FnTurnsAddedOfAll.j4 k x3 x4 x5 bt335.2.2 bt343.2.2 (!(bt343.1 == bt347.1) || (!(bt343.2.1 == bt347.2.1))) x275000 x275001 bt335.1 bt335.2.1 bt343.1 bt343.2.1)))))))))))
def laws_FnTurnsAddedOfAll.j4 : Nat → Int → Int → Int → Bool → Bool → Bool → Int → Int → Int → Int → Int → Int → Option (Bool)
 | 0, _, _, _, _, _, _, _, _, _, _, _, _ => none
 | k + 1, x3, x4, x5, x44, x48, x322, x275000, x275001, x339000, x339001, x347000, x347001 => if x322 = true then (some false) else (if x44 = true then ((impl_TimesTurn.f k x339000 x339001 x3).bind fun bt351 => (if bt351.2.2 = true then (if (!(bt351.1 == x275000) || (!(bt351.2.1 == x275001))) = true then (some false) else (if (wrap64 (x339000 * x3)) ≥ (wrap64 (x339001 * x3)) then (some false) else (if x339001 = 0 then (none) else (if (wrap64 (Int.tdiv (wrap64 (x339000 * x3)) x339001)) = 0 then (laws_FnTurnsAddedOfAll.j5 k x4 x5 x48 x347000 x347001) else (some false))))) else (some false))) else (laws_FnTurnsAddedOfAll.j5 k x4 x5 x48 x347000 x347001))
def laws_FnTurnsAddedOfAll.j5 : Nat → Int → Int → Bool → Int → Int → Option (Bool)
 | 0, _, _, _, _, _ => none
 | k + 1, x4, x5, x48, x347000, x347001 => if x48 = true then ((impl_IsTurn.f k x347000 x347001).bind fun t355 => (if t355 = true then (if x347001 = 0 then (none) else (if (Int.tmod x5 x347001) = 0 then (if x5 = 0 then (none) else (if (Int.tmod (wrap64 (x4 - (wrap64 (x347000 * (wrap64 (Int.tdiv x5 x347001)))))) x5) = 0 then (some true) else (some false))) else (some false))) else (some false))) else (some true)
end
def laws_FnTurnsAddedOfAll.f (k : Nat) (a0_0 : Int) (a0_1 : Int) (a1_0 : Int) (a1_1 : Int) (a2_0 : Int) (a2_1 : Int) (a3 : Int) (a4 : Int) (a5 : Int) : Option (Bool) := (impl_AddTurns.f k a0_0 a0_1 a1_0 a1_1).bind fun bt275 => ((spec_AddTurns.f k a0_0 a0_1 a1_0 a1_1).bind fun bt279 => ((impl_LessTurn.f k a0_0 a0_1 a1_0 a1_1).bind fun bt283 => ((spec_LessTurn.f k a0_0 a0_1 a1_0 a1_1).bind fun bt287 => ((impl_CompareTurns.f k a0_0 a0_1 a1_0 a1_1).bind fun bt291 => ((spec_CompareTurns.f k a0_0 a0_1 a1_0 a1_1).bind fun bt293 => ((impl_MirrorTurn.f k a0_0 a0_1).bind fun bt295 => ((spec_MirrorTurn.f k a0_0 a0_1).bind fun bt299 => (if (bt275.2.2 != bt279.2.2) = true then (laws_FnTurnsAddedOfAll.j0 k a3 a4 a5 bt275.2.2 bt291.1 bt291.2 bt295.2.2 true a0_0 a0_1 a1_0 a1_1 a2_0 a2_1 bt275.1 bt275.2.1 bt295.1 bt295.2.1) else (if (!(bt275.1 == bt279.1) || (!(bt275.2.1 == bt279.2.1))) = true then (laws_FnTurnsAddedOfAll.j0 k a3 a4 a5 bt275.2.2 bt291.1 bt291.2 bt295.2.2 true a0_0 a0_1 a1_0 a1_1 a2_0 a2_1 bt275.1 bt275.2.1 bt295.1 bt295.2.1) else (if (bt283.2.2 != bt287.2.2) = true then (laws_FnTurnsAddedOfAll.j0 k a3 a4 a5 bt275.2.2 bt291.1 bt291.2 bt295.2.2 true a0_0 a0_1 a1_0 a1_1 a2_0 a2_1 bt275.1 bt275.2.1 bt295.1 bt295.2.1) else (if (!(bt283.1 == bt287.1) || (!(bt283.2.1 == bt287.2.1))) = true then (laws_FnTurnsAddedOfAll.j0 k a3 a4 a5 bt275.2.2 bt291.1 bt291.2 bt295.2.2 true a0_0 a0_1 a1_0 a1_1 a2_0 a2_1 bt275.1 bt275.2.1 bt295.1 bt295.2.1) else (if (bt291.2 != bt293.2) = true then (laws_FnTurnsAddedOfAll.j0 k a3 a4 a5 bt275.2.2 bt291.1 bt291.2 bt295.2.2 true a0_0 a0_1 a1_0 a1_1 a2_0 a2_1 bt275.1 bt275.2.1 bt295.1 bt295.2.1) else (if bt291.1 = bt293.1 then (if (bt295.2.2 != bt299.2.2) = true then (laws_FnTurnsAddedOfAll.j0 k a3 a4 a5 bt275.2.2 bt291.1 bt291.2 bt295.2.2 true a0_0 a0_1 a1_0 a1_1 a2_0 a2_1 bt275.1 bt275.2.1 bt295.1 bt295.2.1) else (if (!(bt295.1 == bt299.1) || (!(bt295.2.1 == bt299.2.1))) = true then (laws_FnTurnsAddedOfAll.j0 k a3 a4 a5 bt275.2.2 bt291.1 bt291.2 bt295.2.2 true a0_0 a0_1 a1_0 a1_1 a2_0 a2_1 bt275.1 bt275.2.1 bt295.1 bt295.2.1) else ((impl_IsTurn.f k a0_0 a0_1).bind fun t303 => (if (bt295.2.2 != t303) = true then (laws_FnTurnsAddedOfAll.j0 k a3 a4 a5 bt275.2.2 bt291.1 bt291.2 bt295.2.2 true a0_0 a0_1 a1_0 a1_1 a2_0 a2_1 bt275.1 bt275.2.1 bt295.1 bt295.2.1) else ((impl_IsTurn.f k a0_0 a0_1).bind fun t304 => ((spec_IsTurn.f k a0_0 a0_1).bind fun t305 => (if (t304 != t305) = true then (laws_FnTurnsAddedOfAll.j0 k a3 a4 a5 bt275.2.2 bt291.1 bt291.2 bt295.2.2 true a0_0 a0_1 a1_0 a1_1 a2_0 a2_1 bt275.1 bt275.2.1 bt295.1 bt295.2.1) else ((impl_IsTurn.f k a0_0 a0_1).bind fun t306 => (if t306 = true then ((impl_IsTurn.f k a1_0 a1_1).bind fun t307 => (if (bt291.2 != t307) = true then (laws_FnTurnsAddedOfAll.j0 k a3 a4 a5 bt275.2.2 bt291.1 bt291.2 bt295.2.2 true a0_0 a0_1 a1_0 a1_1 a2_0 a2_1 bt275.1 bt275.2.1 bt295.1 bt295.2.1) else (if bt275.2.2 = true then (if bt291.2 = true then (if bt283.2.2 = true then (laws_FnTurnsAddedOfAll.j0 k a3 a4 a5 bt275.2.2 bt291.1 bt291.2 bt295.2.2 (!bt291.2) a0_0 a0_1 a1_0 a1_1 a2_0 a2_1 bt275.1 bt275.2.1 bt295.1 bt295.2.1) else (laws_FnTurnsAddedOfAll.j0 k a3 a4 a5 bt275.2.2 bt291.1 bt291.2 bt295.2.2 false a0_0 a0_1 a1_0 a1_1 a2_0 a2_1 bt275.1 bt275.2.1 bt295.1 bt295.2.1)) else (laws_FnTurnsAddedOfAll.j0 k a3 a4 a5 bt275.2.2 bt291.1 bt291.2 bt295.2.2 true a0_0 a0_1 a1_0 a1_1 a2_0 a2_1 bt275.1 bt275.2.1 bt295.1 bt295.2.1)) else (if bt283.2.2 = true then (laws_FnTurnsAddedOfAll.j0 k a3 a4 a5 bt275.2.2 bt291.1 bt291.2 bt295.2.2 (!bt291.2) a0_0 a0_1 a1_0 a1_1 a2_0 a2_1 bt275.1 bt275.2.1 bt295.1 bt295.2.1) else (laws_FnTurnsAddedOfAll.j0 k a3 a4 a5 bt275.2.2 bt291.1 bt291.2 bt295.2.2 false a0_0 a0_1 a1_0 a1_1 a2_0 a2_1 bt275.1 bt275.2.1 bt295.1 bt295.2.1))))) else (if (bt291.2 != false) = true then (laws_FnTurnsAddedOfAll.j0 k a3 a4 a5 bt275.2.2 bt291.1 bt291.2 bt295.2.2 true a0_0 a0_1 a1_0 a1_1 a2_0 a2_1 bt275.1 bt275.2.1 bt295.1 bt295.2.1) else (if bt275.2.2 = true then (if bt291.2 = true then (if bt283.2.2 = true then (laws_FnTurnsAddedOfAll.j0 k a3 a4 a5 bt275.2.2 bt291.1 bt291.2 bt295.2.2 (!bt291.2) a0_0 a0_1 a1_0 a1_1 a2_0 a2_1 bt275.1 bt275.2.1 bt295.1 bt295.2.1) else (laws_FnTurnsAddedOfAll.j0 k a3 a4 a5 bt275.2.2 bt291.1 bt291.2 bt295.2.2 false a0_0 a0_1 a1_0 a1_1 a2_0 a2_1 bt275.1 bt275.2.1 bt295.1 bt295.2.1)) else (laws_FnTurnsAddedOfAll.j0 k a3 a4 a5 bt275.2.2 bt291.1 bt291.2 bt295.2.2 true a0_0 a0_1 a1_0 a1_1 a2_0 a2_1 bt275.1 bt275.2.1 bt295.1 bt295.2.1)) else (if bt283.2.2 = true then (laws_FnTurnsAddedOfAll.j0 k a3 a4 a5 bt275.2.2 bt291.1 bt291.2 bt295.2.2 (!bt291.2) a0_0 a0_1 a1_0 a1_1 a2_0 a2_1 bt275.1 bt275.2.1 bt295.1 bt295.2.1) else (laws_FnTurnsAddedOfAll.j0 k a3 a4 a5 bt275.2.2 bt291.1 bt291.2 bt295.2.2 false a0_0 a0_1 a1_0 a1_1 a2_0 a2_1 bt275.1 bt275.2.1 bt295.1 bt295.2.1))))))))))))) else (laws_FnTurnsAddedOfAll.j0 k a3 a4 a5 bt275.2.2 bt291.1 bt291.2 bt295.2.2 true a0_0 a0_1 a1_0 a1_1 a2_0 a2_1 bt275.1 bt275.2.1 bt295.1 bt295.2.1))))))))))))))
theorem laws_FnTurnsAddedOfAll.mono_l : ∀ k, (∀ y0 y1 y2 y3 y4 y5 y6 y7 y8 y9 y10 y11 y12 y13 y14 y15 y16 y17, LeO (laws_FnTurnsAddedOfAll.j0 k y0 y1 y2 y3 y4 y5 y6 y7 y8 y9 y10 y11 y12 y13 y14 y15 y16 y17) (laws_FnTurnsAddedOfAll.j0 (k + 1) y0 y1 y2 y3 y4 y5 y6 y7 y8 y9 y10 y11 y12 y13 y14 y15 y16 y17)) ∧ (∀ y0 y1 y2 y3 y4 y5 y6 y7 y8 y9 y10 y11 y12 y13 y14, LeO (laws_FnTurnsAddedOfAll.j1 k y0 y1 y2 y3 y4 y5 y6 y7 y8 y9 y10 y11 y12 y13 y14) (laws_FnTurnsAddedOfAll.j1 (k + 1) y0 y1 y2 y3 y4 y5 y6 y7 y8 y9 y10 y11 y12 y13 y14)) ∧ (∀ y0 y1 y2 y3 y4 y5 y6 y7 y8 y9, LeO (laws_FnTurnsAddedOfAll.j2 k y0 y1 y2 y3 y4 y5 y6 y7 y8 y9) (laws_FnTurnsAddedOfAll.j2 (k + 1) y0 y1 y2 y3 y4 y5 y6 y7 y8 y9)) ∧ (∀ y0 y1 y2 y3 y4, LeO (laws_FnTurnsAddedOfAll.j3 k y0 y1 y2 y3 y4) (laws_FnTurnsAddedOfAll.j3 (k + 1) y0 y1 y2 y3 y4)) ∧ (∀ y0 y1 y2 y3 y4 y5 y6 y7 y8 y9 y10 y11, LeO (laws_FnTurnsAddedOfAll.j4 k y0 y1 y2 y3 y4 y5 y6 y7 y8 y9 y10 y11) (laws_FnTurnsAddedOfAll.j4 (k + 1) y0 y1 y2 y3 y4 y5 y6 y7 y8 y9 y10 y11)) ∧ (∀ y0 y1 y2 y3 y4, LeO (laws_FnTurnsAddedOfAll.j5 k y0 y1 y2 y3 y4) (laws_FnTurnsAddedOfAll.j5 (k + 1) y0 y1 y2 y3 y4))
 | 0 => ⟨fun _ _ _ _ _ _ _ _ _ _ _ _ _ _ _ _ _ _ r h => by simp [laws_FnTurnsAddedOfAll.j0] at h, fun _ _ _ _ _ _ _ _ _ _ _ _ _ _ _ r h => by simp [laws_FnTurnsAddedOfAll.j1] at h, fun _ _ _ _ _ _ _ _ _ _ r h => by simp [laws_FnTurnsAddedOfAll.j2] at h, fun _ _ _ _ _ r h => by simp [laws_FnTurnsAddedOfAll.j3] at h, fun _ _ _ _ _ _ _ _ _ _ _ _ r h => by simp [laws_FnTurnsAddedOfAll.j4] at h, fun _ _ _ _ _ r h => by simp [laws_FnTurnsAddedOfAll.j5] at h⟩
 | k + 1 => by
  obtain ⟨ih0, ih1, ih2, ih3, ih4, ih5⟩ := laws_FnTurnsAddedOfAll.mono_l k
  refine ⟨?_, ?_, ?_, ?_, ?_, ?_⟩
  ·intro y0 y1 y2 y3 y4 y5 y6 y7 y8 y9 y10 y11 y12 y13 y14 y15 y16 y17
   unfold laws_FnTurnsAddedOfAll.j0
   repeat' first
   | (with_reducible exact ih0 _ _ _ _ _ _ _ _ _ _ _ _ _ _ _ _ _ _)
   | (with_reducible exact ih1 _ _ _ _ _ _ _ _ _ _ _ _ _ _ _)
   | (with_reducible exact ih2 _ _ _ _ _ _ _ _ _ _)
   | (with_reducible exact ih3 _ _ _ _ _)
   | (with_reducible exact ih4 _ _ _ _ _ _ _ _ _ _ _ _)
   | (with_reducible exact ih5 _ _ _ _ _)
   | (with_reducible exact impl_AddTurns.mono _ _ _ _ _)
   | (with_reducible exact impl_CompareTurns.mono _ _ _ _ _)
   | (with_reducible exact impl_IsTurn.mono _ _ _)
   | (with_reducible exact impl_LessTurn.mono _ _ _ _ _)
   | (with_reducible exact impl_MakeTurn.mono _ _ _)
   | (with_reducible exact impl_MirrorTurn.mono _ _ _)
   | (with_reducible exact impl_PartOfTurn.mono _ _ _ _)
   | (with_reducible exact impl_TimesTurn.mono _ _ _ _)
   | (with_reducible exact spec_AddTurns.mono _ _ _ _ _)
   | (with_reducible exact spec_CompareTurns.mono _ _ _ _ _)
   | (with_reducible exact spec_IsTurn.mono _ _ _)
   | (with_reducible exact spec_LessTurn.mono _ _ _ _ _)
   | (with_reducible exact spec_MakeTurn.mono _ _ _)
   | (with_reducible exact spec_MirrorTurn.mono _ _ _)
   | (with_reducible exact spec_PartOfTurn.mono _ _ _ _)
   | (with_reducible exact spec_TimesTurn.mono _ _ _ _)
   | (with_reducible exact LeO.refl _)
   | (with_reducible exact LeO.none _)
   | (with_reducible refine LeO.ite ?_ ?_)
   | (with_reducible refine LeO.bind ?_ (fun _ => ?_))
   | exact ih0 _ _ _ _ _ _ _ _ _ _ _ _ _ _ _ _ _ _
   | exact ih1 _ _ _ _ _ _ _ _ _ _ _ _ _ _ _
   | exact ih2 _ _ _ _ _ _ _ _ _ _
   | exact ih3 _ _ _ _ _
   | exact ih4 _ _ _ _ _ _ _ _ _ _ _ _
   | exact ih5 _ _ _ _ _
   | exact impl_AddTurns.mono _ _ _ _ _
   | exact impl_CompareTurns.mono _ _ _ _ _
   | exact impl_IsTurn.mono _ _ _
   | exact impl_LessTurn.mono _ _ _ _ _
   | exact impl_MakeTurn.mono _ _ _
   | exact impl_MirrorTurn.mono _ _ _
   | exact impl_PartOfTurn.mono _ _ _ _
   | exact impl_TimesTurn.mono _ _ _ _
   | exact spec_AddTurns.mono _ _ _ _ _
   | exact spec_CompareTurns.mono _ _ _ _ _
   | exact spec_IsTurn.mono _ _ _
   | exact spec_LessTurn.mono _ _ _ _ _
   | exact spec_MakeTurn.mono _ _ _
   | exact spec_MirrorTurn.mono _ _ _
   | exact spec_PartOfTurn.mono _ _ _ _
   | exact spec_TimesTurn.mono _ _ _ _
   | exact LeO.none _
   | refine LeO.ite ?_ ?_
   | refine LeO.bind ?_ (fun _ => ?_)
  ·intro y0 y1 y2 y3 y4 y5 y6 y7 y8 y9 y10 y11 y12 y13 y14
   unfold laws_FnTurnsAddedOfAll.j1
   repeat' first
   | (with_reducible exact ih0 _ _ _ _ _ _ _ _ _ _ _ _ _ _ _ _ _ _)
   | (with_reducible exact ih1 _ _ _ _ _ _ _ _ _ _ _ _ _ _ _)
   | (with_reducible exact ih2 _ _ _ _ _ _ _ _ _ _)
   | (with_reducible exact ih3 _ _ _ _ _)
   | (with_reducible exact ih4 _ _ _ _ _ _ _ _ _ _ _ _)
   | (with_reducible exact ih5 _ _ _ _ _)
   | (with_reducible exact impl_AddTurns.mono _ _ _ _ _)
   | (with_reducible exact impl_CompareTurns.mono _ _ _ _ _)
   | (with_reducible exact impl_IsTurn.mono _ _ _)
   | (with_reducible exact impl_LessTurn.mono _ _ _ _ _)
   | (with_reducible exact impl_MakeTurn.mono _ _ _)
   | (with_reducible exact impl_MirrorTurn.mono _ _ _)
   | (with_reducible exact impl_PartOfTurn.mono _ _ _ _)
   | (with_reducible exact impl_TimesTurn.mono _ _ _ _)
   | (with_reducible exact spec_AddTurns.mono _ _ _ _ _)
   | (with_reducible exact spec_CompareTurns.mono _ _ _ _ _)
   | (with_reducible exact spec_IsTurn.mono _ _ _)
   | (with_reducible exact spec_LessTurn.mono _ _ _ _ _)
   | (with_reducible exact spec_MakeTurn.mono _ _ _)
   | (with_reducible exact spec_MirrorTurn.mono _ _ _)
   | (with_reducible exact spec_PartOfTurn.mono _ _ _ _)
   | (with_reducible exact spec_TimesTurn.mono _ _ _ _)
   | (with_reducible exact LeO.refl _)
   | (with_reducible exact LeO.none _)
   | (with_reducible refine LeO.ite ?_ ?_)
   | (with_reducible refine LeO.bind ?_ (fun _ => ?_))
   | exact ih0 _ _ _ _ _ _ _ _ _ _ _ _ _ _ _ _ _ _
   | exact ih1 _ _ _ _ _ _ _ _ _ _ _ _ _ _ _
   | exact ih2 _ _ _ _ _ _ _ _ _ _
   | exact ih3 _ _ _ _ _
   | exact ih4 _ _ _ _ _ _ _ _ _ _ _ _
   | exact ih5 _ _ _ _ _
   | exact impl_AddTurns.mono _ _ _ _ _
   | exact impl_CompareTurns.mono _ _ _ _ _
   | exact impl_IsTurn.mono _ _ _
   | exact impl_LessTurn.mono _ _ _ _ _
   | exact impl_MakeTurn.mono _ _ _
   | exact impl_MirrorTurn.mono _ _ _
   | exact impl_PartOfTurn.mono _ _ _ _
   | exact impl_TimesTurn.mono _ _ _ _
   | exact spec_AddTurns.mono _ _ _ _ _
   | exact spec_CompareTurns.mono _ _ _ _ _
   | exact spec_IsTurn.mono _ _ _
   | exact spec_LessTurn.mono _ _ _ _ _
   | exact spec_MakeTurn.mono _ _ _
   | exact spec_MirrorTurn.mono _ _ _
   | exact spec_PartOfTurn.mono _ _ _ _
   | exact spec_TimesTurn.mono _ _ _ _
   | exact LeO.none _
   | refine LeO.ite ?_ ?_
   | refine LeO.bind ?_ (fun _ => ?_)
  ·intro y0 y1 y2 y3 y4 y5 y6 y7 y8 y9
   unfold laws_FnTurnsAddedOfAll.j2
   repeat' first
   | (with_reducible exact ih0 _ _ _ _ _ _ _ _ _ _ _ _ _ _ _ _ _ _)
   | (with_reducible exact ih1 _ _ _ _ _ _ _ _ _ _ _ _ _ _ _)
   | (with_reducible exact ih2 _ _ _ _ _ _ _ _ _ _)
   | (with_reducible exact ih3 _ _ _ _ _)
   | (with_reducible exact ih4 _ _ _ _ _ _ _ _ _ _ _ _)
   | (with_reducible exact ih5 _ _ _ _ _)
   | (with_reducible exact impl_AddTurns.mono _ _ _ _ _)
   | (with_reducible exact impl_CompareTurns.mono _ _ _ _ _)
   | (with_reducible exact impl_IsTurn.mono _ _ _)
   | (with_reducible exact impl_LessTurn.mono _ _ _ _ _)
   | (with_reducible exact impl_MakeTurn.mono _ _ _)
   | (with_reducible exact impl_MirrorTurn.mono _ _ _)
   | (with_reducible exact impl_PartOfTurn.mono _ _ _ _)
   | (with_reducible exact impl_TimesTurn.mono _ _ _ _)
   | (with_reducible exact spec_AddTurns.mono _ _ _ _ _)
   | (with_reducible exact spec_CompareTurns.mono _ _ _ _ _)
   | (with_reducible exact spec_IsTurn.mono _ _ _)
   | (with_reducible exact spec_LessTurn.mono _ _ _ _ _)
   | (with_reducible exact spec_MakeTurn.mono _ _ _)
   | (with_reducible exact spec_MirrorTurn.mono _ _ _)
   | (with_reducible exact spec_PartOfTurn.mono _ _ _ _)
   | (with_reducible exact spec_TimesTurn.mono _ _ _ _)
   | (with_reducible exact LeO.refl _)
   | (with_reducible exact LeO.none _)
   | (with_reducible refine LeO.ite ?_ ?_)
   | (with_reducible refine LeO.bind ?_ (fun _ => ?_))
   | exact ih0 _ _ _ _ _ _ _ _ _ _ _ _ _ _ _ _ _ _
   | exact ih1 _ _ _ _ _ _ _ _ _ _ _ _ _ _ _
   | exact ih2 _ _ _ _ _ _ _ _ _ _
   | exact ih3 _ _ _ _ _
   | exact ih4 _ _ _ _ _ _ _ _ _ _ _ _
   | exact ih5 _ _ _ _ _
   | exact impl_AddTurns.mono _ _ _ _ _
   | exact impl_CompareTurns.mono _ _ _ _ _
   | exact impl_IsTurn.mono _ _ _
   | exact impl_LessTurn.mono _ _ _ _ _
   | exact impl_MakeTurn.mono _ _ _
   | exact impl_MirrorTurn.mono _ _ _
   | exact impl_PartOfTurn.mono _ _ _ _
   | exact impl_TimesTurn.mono _ _ _ _
   | exact spec_AddTurns.mono _ _ _ _ _
   | exact spec_CompareTurns.mono _ _ _ _ _
   | exact spec_IsTurn.mono _ _ _
   | exact spec_LessTurn.mono _ _ _ _ _
   | exact spec_MakeTurn.mono _ _ _
   | exact spec_MirrorTurn.mono _ _ _
   | exact spec_PartOfTurn.mono _ _ _ _
   | exact spec_TimesTurn.mono _ _ _ _
   | exact LeO.none _
   | refine LeO.ite ?_ ?_
   | refine LeO.bind ?_ (fun _ => ?_)
  ·intro y0 y1 y2 y3 y4
   unfold laws_FnTurnsAddedOfAll.j3
   repeat' first
   | (with_reducible exact ih0 _ _ _ _ _ _ _ _ _ _ _ _ _ _ _ _ _ _)
   | (with_reducible exact ih1 _ _ _ _ _ _ _ _ _ _ _ _ _ _ _)
   | (with_reducible exact ih2 _ _ _ _ _ _ _ _ _ _)
   | (with_reducible exact ih3 _ _ _ _ _)
   | (with_reducible exact ih4 _ _ _ _ _ _ _ _ _ _ _ _)
   | (with_reducible exact ih5 _ _ _ _ _)
   | (with_reducible exact impl_AddTurns.mono _ _ _ _ _)
   | (with_reducible exact impl_CompareTurns.mono _ _ _ _ _)
   | (with_reducible exact impl_IsTurn.mono _ _ _)
   | (with_reducible exact impl_LessTurn.mono _ _ _ _ _)
   | (with_reducible exact impl_MakeTurn.mono _ _ _)
   | (with_reducible exact impl_MirrorTurn.mono _ _ _)
   | (with_reducible exact impl_PartOfTurn.mono _ _ _ _)
   | (with_reducible exact impl_TimesTurn.mono _ _ _ _)
   | (with_reducible exact spec_AddTurns.mono _ _ _ _ _)
   | (with_reducible exact spec_CompareTurns.mono _ _ _ _ _)
   | (with_reducible exact spec_IsTurn.mono _ _ _)
   | (with_reducible exact spec_LessTurn.mono _ _ _ _ _)
   | (with_reducible exact spec_MakeTurn.mono _ _ _)
   | (with_reducible exact spec_MirrorTurn.mono _ _ _)
   | (with_reducible exact spec_PartOfTurn.mono _ _ _ _)
   | (with_reducible exact spec_TimesTurn.mono _ _ _ _)
   | (with_reducible exact LeO.refl _)
   | (with_reducible exact LeO.none _)
   | (with_reducible refine LeO.ite ?_ ?_)
   | (with_reducible refine LeO.bind ?_ (fun _ => ?_))
   | exact ih0 _ _ _ _ _ _ _ _ _ _ _ _ _ _ _ _ _ _
   | exact ih1 _ _ _ _ _ _ _ _ _ _ _ _ _ _ _
   | exact ih2 _ _ _ _ _ _ _ _ _ _
   | exact ih3 _ _ _ _ _
   | exact ih4 _ _ _ _ _ _ _ _ _ _ _ _
   | exact ih5 _ _ _ _ _
   | exact impl_AddTurns.mono _ _ _ _ _
   | exact impl_CompareTurns.mono _ _ _ _ _
   | exact impl_IsTurn.mono _ _ _
   | exact impl_LessTurn.mono _ _ _ _ _
   | exact impl_MakeTurn.mono _ _ _
   | exact impl_MirrorTurn.mono _ _ _
   | exact impl_PartOfTurn.mono _ _ _ _
   | exact impl_TimesTurn.mono _ _ _ _
   | exact spec_AddTurns.mono _ _ _ _ _
   | exact spec_CompareTurns.mono _ _ _ _ _
   | exact spec_IsTurn.mono _ _ _
   | exact spec_LessTurn.mono _ _ _ _ _
   | exact spec_MakeTurn.mono _ _ _
   | exact spec_MirrorTurn.mono _ _ _
   | exact spec_PartOfTurn.mono _ _ _ _
   | exact spec_TimesTurn.mono _ _ _ _
   | exact LeO.none _
   | refine LeO.ite ?_ ?_
   | refine LeO.bind ?_ (fun _ => ?_)
  ·intro y0 y1 y2 y3 y4 y5 y6 y7 y8 y9 y10 y11
   unfold laws_FnTurnsAddedOfAll.j4
   repeat' first
   | (with_reducible exact ih0 _ _ _ _ _ _ _ _ _ _ _ _ _ _ _ _ _ _)
   | (with_reducible exact ih1 _ _ _ _ _ _ _ _ _ _ _ _ _ _ _)
   | (with_reducible exact ih2 _ _ _ _ _ _ _ _ _ _)
   | (with_reducible exact ih3 _ _ _ _ _)
   | (with_reducible exact ih4 _ _ _ _ _ _ _ _ _ _ _ _)
   | (with_reducible exact ih5 _ _ _ _ _)
   | (with_reducible exact impl_AddTurns.mono _ _ _ _ _)
   | (with_reducible exact impl_CompareTurns.mono _ _ _ _ _)
   | (with_reducible exact impl_IsTurn.mono _ _ _)
   | (with_reducible exact impl_LessTurn.mono _ _ _ _ _)
   | (with_reducible exact impl_MakeTurn.mono _ _ _)
   | (with_reducible exact impl_MirrorTurn.mono _ _ _)
   | (with_reducible exact impl_PartOfTurn.mono _ _ _ _)
   | (with_reducible exact impl_TimesTurn.mono _ _ _ _)
   | (with_reducible exact spec_AddTurns.mono _ _ _ _ _)
   | (with_reducible exact spec_CompareTurns.mono _ _ _ _ _)
   | (with_reducible exact spec_IsTurn.mono _ _ _)
   | (with_reducible exact spec_LessTurn.mono _ _ _ _ _)
   | (with_reducible exact spec_MakeTurn.mono _ _ _)
   | (with_reducible exact spec_MirrorTurn.mono _ _ _)
   | (with_reducible exact spec_PartOfTurn.mono _ _ _ _)
   | (with_reducible exact spec_TimesTurn.mono _ _ _ _)
   | (with_reducible exact LeO.refl _)
   | (with_reducible exact LeO.none _)
   | (with_reducible refine LeO.ite ?_ ?_)
   | (with_reducible refine LeO.bind ?_ (fun _ => ?_))
   | exact ih0 _ _ _ _ _ _ _ _ _ _ _ _ _ _ _ _ _ _
   | exact ih1 _ _ _ _ _ _ _ _ _ _ _ _ _ _ _
   | exact ih2 _ _ _ _ _ _ _ _ _ _
   | exact ih3 _ _ _ _ _
   | exact ih4 _ _ _ _ _ _ _ _ _ _ _ _
   | exact ih5 _ _ _ _ _
   | exact impl_AddTurns.mono _ _ _ _ _
   | exact impl_CompareTurns.mono _ _ _ _ _
   | exact impl_IsTurn.mono _ _ _
   | exact impl_LessTurn.mono _ _ _ _ _
   | exact impl_MakeTurn.mono _ _ _
   | exact impl_MirrorTurn.mono _ _ _
   | exact impl_PartOfTurn.mono _ _ _ _
   | exact impl_TimesTurn.mono _ _ _ _
   | exact spec_AddTurns.mono _ _ _ _ _
   | exact spec_CompareTurns.mono _ _ _ _ _
   | exact spec_IsTurn.mono _ _ _
   | exact spec_LessTurn.mono _ _ _ _ _
   | exact spec_MakeTurn.mono _ _ _
   | exact spec_MirrorTurn.mono _ _ _
   | exact spec_PartOfTurn.mono _ _ _ _
   | exact spec_TimesTurn.mono _ _ _ _
   | exact LeO.none _
   | refine LeO.ite ?_ ?_
   | refine LeO.bind ?_ (fun _ => ?_)
  ·intro y0 y1 y2 y3 y4
   unfold laws_FnTurnsAddedOfAll.j5
   repeat' first
   | (with_reducible exact ih0 _ _ _ _ _ _ _ _ _ _ _ _ _ _ _ _ _ _)
   | (with_reducible exact ih1 _ _ _ _ _ _ _ _ _ _ _ _ _ _ _)
   | (with_reducible exact ih2 _ _ _ _ _ _ _ _ _ _)
   | (with_reducible exact ih3 _ _ _ _ _)
   | (with_reducible exact ih4 _ _ _ _ _ _ _ _ _ _ _ _)
   | (with_reducible exact ih5 _ _ _ _ _)
   | (with_reducible exact impl_AddTurns.mono _ _ _ _ _)
   | (with_reducible exact impl_CompareTurns.mono _ _ _ _ _)
   | (with_reducible exact impl_IsTurn.mono _ _ _)
   | (with_reducible exact impl_LessTurn.mono _ _ _ _ _)
   | (with_reducible exact impl_MakeTurn.mono _ _ _)
   | (with_reducible exact impl_MirrorTurn.mono _ _ _)
   | (with_reducible exact impl_PartOfTurn.mono _ _ _ _)
   | (with_reducible exact impl_TimesTurn.mono _ _ _ _)
   | (with_reducible exact spec_AddTurns.mono _ _ _ _ _)
   | (with_reducible exact spec_CompareTurns.mono _ _ _ _ _)
   | (with_reducible exact spec_IsTurn.mono _ _ _)
   | (with_reducible exact spec_LessTurn.mono _ _ _ _ _)
   | (with_reducible exact spec_MakeTurn.mono _ _ _)
   | (with_reducible exact spec_MirrorTurn.mono _ _ _)
   | (with_reducible exact spec_PartOfTurn.mono _ _ _ _)
   | (with_reducible exact spec_TimesTurn.mono _ _ _ _)
   | (with_reducible exact LeO.refl _)
   | (with_reducible exact LeO.none _)
   | (with_reducible refine LeO.ite ?_ ?_)
   | (with_reducible refine LeO.bind ?_ (fun _ => ?_))
   | exact ih0 _ _ _ _ _ _ _ _ _ _ _ _ _ _ _ _ _ _
   | exact ih1 _ _ _ _ _ _ _ _ _ _ _ _ _ _ _
   | exact ih2 _ _ _ _ _ _ _ _ _ _
   | exact ih3 _ _ _ _ _
   | exact ih4 _ _ _ _ _ _ _ _ _ _ _ _
   | exact ih5 _ _ _ _ _
   | exact impl_AddTurns.mono _ _ _ _ _
   | exact impl_CompareTurns.mono _ _ _ _ _
   | exact impl_IsTurn.mono _ _ _
   | exact impl_LessTurn.mono _ _ _ _ _
   | exact impl_MakeTurn.mono _ _ _
   | exact impl_MirrorTurn.mono _ _ _
   | exact impl_PartOfTurn.mono _ _ _ _
   | exact impl_TimesTurn.mono _ _ _ _
   | exact spec_AddTurns.mono _ _ _ _ _
   | exact spec_CompareTurns.mono _ _ _ _ _
   | exact spec_IsTurn.mono _ _ _
   | exact spec_LessTurn.mono _ _ _ _ _
   | exact spec_MakeTurn.mono _ _ _
   | exact spec_MirrorTurn.mono _ _ _
   | exact spec_PartOfTurn.mono _ _ _ _
   | exact spec_TimesTurn.mono _ _ _ _
   | exact LeO.none _
   | refine LeO.ite ?_ ?_
   | refine LeO.bind ?_ (fun _ => ?_)
theorem laws_FnTurnsAddedOfAll.mono : ∀ a0 a1 a2 a3 a4 a5 a6 a7 a8 k, LeO (laws_FnTurnsAddedOfAll.f k a0 a1 a2 a3 a4 a5 a6 a7 a8) (laws_FnTurnsAddedOfAll.f (k + 1) a0 a1 a2 a3 a4 a5 a6 a7 a8) := by
 intro a0 a1 a2 a3 a4 a5 a6 a7 a8 k
 obtain ⟨ih0, ih1, ih2, ih3, ih4, ih5⟩ := laws_FnTurnsAddedOfAll.mono_l k
 unfold laws_FnTurnsAddedOfAll.f
 repeat' first
   | (with_reducible exact ih0 _ _ _ _ _ _ _ _ _ _ _ _ _ _ _ _ _ _)
   | (with_reducible exact ih1 _ _ _ _ _ _ _ _ _ _ _ _ _ _ _)
   | (with_reducible exact ih2 _ _ _ _ _ _ _ _ _ _)
   | (with_reducible exact ih3 _ _ _ _ _)
   | (with_reducible exact ih4 _ _ _ _ _ _ _ _ _ _ _ _)
   | (with_reducible exact ih5 _ _ _ _ _)
   | (with_reducible exact impl_AddTurns.mono _ _ _ _ _)
   | (with_reducible exact impl_CompareTurns.mono _ _ _ _ _)
   | (with_reducible exact impl_IsTurn.mono _ _ _)
   | (with_reducible exact impl_LessTurn.mono _ _ _ _ _)
   | (with_reducible exact impl_MakeTurn.mono _ _ _)
   | (with_reducible exact impl_MirrorTurn.mono _ _ _)
   | (with_reducible exact impl_PartOfTurn.mono _ _ _ _)
   | (with_reducible exact impl_TimesTurn.mono _ _ _ _)
   | (with_reducible exact spec_AddTurns.mono _ _ _ _ _)
   | (with_reducible exact spec_CompareTurns.mono _ _ _ _ _)
   | (with_reducible exact spec_IsTurn.mono _ _ _)
   | (with_reducible exact spec_LessTurn.mono _ _ _ _ _)
   | (with_reducible exact spec_MakeTurn.mono _ _ _)
   | (with_reducible exact spec_MirrorTurn.mono _ _ _)
   | (with_reducible exact spec_PartOfTurn.mono _ _ _ _)
   | (with_reducible exact spec_TimesTurn.mono _ _ _ _)
   | (with_reducible exact LeO.refl _)
   | (with_reducible exact LeO.none _)
   | (with_reducible refine LeO.ite ?_ ?_)
   | (with_reducible refine LeO.bind ?_ (fun _ => ?_))
   | exact ih0 _ _ _ _ _ _ _ _ _ _ _ _ _ _ _ _ _ _
   | exact ih1 _ _ _ _ _ _ _ _ _ _ _ _ _ _ _
   | exact ih2 _ _ _ _ _ _ _ _ _ _
   | exact ih3 _ _ _ _ _
   | exact ih4 _ _ _ _ _ _ _ _ _ _ _ _
   | exact ih5 _ _ _ _ _
   | exact impl_AddTurns.mono _ _ _ _ _
   | exact impl_CompareTurns.mono _ _ _ _ _
   | exact impl_IsTurn.mono _ _ _
   | exact impl_LessTurn.mono _ _ _ _ _
   | exact impl_MakeTurn.mono _ _ _
   | exact impl_MirrorTurn.mono _ _ _
   | exact impl_PartOfTurn.mono _ _ _ _
   | exact impl_TimesTurn.mono _ _ _ _
   | exact spec_AddTurns.mono _ _ _ _ _
   | exact spec_CompareTurns.mono _ _ _ _ _
   | exact spec_IsTurn.mono _ _ _
   | exact spec_LessTurn.mono _ _ _ _ _
   | exact spec_MakeTurn.mono _ _ _
   | exact spec_MirrorTurn.mono _ _ _
   | exact spec_PartOfTurn.mono _ _ _ _
   | exact spec_TimesTurn.mono _ _ _ _
   | exact LeO.none _
   | refine LeO.ite ?_ ?_
   | refine LeO.bind ?_ (fun _ => ?_)
def laws_FnTurnsAddedOfAll.T9 : Bool × List (List Nat × List Nat) := (true, [([], []), ([], []), ([0, 1], [0, 1]), ([2], [2]), ([3], [3]), ([3], [3]), ([4, 5, 3], [3, 4, 5]), ([3, 6], [3, 6]), ([7, 3], [7]), ([8], [8]), ([8], [8]), ([9, 10, 8], [8, 9, 10]), ([8, 11], [8, 11]), ([12, 8], [12]), ([13], [13]), ([13], [13]), ([14, 15, 13], [13, 14, 15]), ([13, 16], [13, 16]), ([17, 13], [17]), ([18], [18]), ([18], [18]), ([19, 20, 18], [18, 19, 20]), ([18, 21], [18, 21]), ([22, 18], [22]), ([23], [23]), ([23], [23]), ([24, 25, 23], [23, 24, 25]), ([23, 26], [23, 26]), ([27, 23], [27]), ([28], [28]), ([28], [28]), ([29, 30, 28], [28, 29, 30]), ([28, 31], [28, 31]), ([32, 28], [32]), ([33], [33]), ([33], [33]), ([34, 35, 33], [33, 34, 35]), ([33, 36], [33, 36]), ([37, 33], [37]), ([38], [38]), ([38], [38]), ([40, 38, 38], [38, 40]), ([39, 41, 38], [38, 39, 41]), ([38, 42], [38, 42]), ([43, 41], [43]), ([44], [44]), ([45, 44, 44], [44, 45]), ([44], [44]), ([47, 46, 44], [44, 47]), ([46, 48, 44], [44, 46, 48]), ([44, 49], [44, 49]), ([50, 48], [50]), ([51], [51]), ([51], [51]), ([53, 51, 51], [51, 53]), ([54, 54, 51], [51, 54]), ([55], [55]), ([56, 55, 55], [55, 56]), ([55, 57, 51], [51, 55, 57]), ([52, 58, 51], [51, 52, 58]), ([51, 59], [51, 59]), ([60, 57], [60]), ([61], [61]), ([62, 61, 61], [61, 62]), ([63], [63]), ([64, 63], [63, 64]), ([63, 65, 61], [61, 63, 65]), ([61, 66], [61, 66]), ([67, 63], [67]), ([68], [68]), ([69, 68, 68], [68, 69]), ([70], [70]), ([71, 70], [70, 71]), ([70, 72, 68], [68, 70, 72]), ([68, 73], [68, 73])])
def laws_FnTurnsAddedOfAll.B9 : List Nat := [0, 0, 3, 7, 15, 15, 63, 127, 255, 511, 511, 2047, 4095, 8191, 16383, 16383, 65535, 131071, 262143, 524287, 524287, 2097151, 4194303, 8388607, 16777215, 16777215, 67108863, 134217727, 268435455, 536870911, 536870911, 2147483647, 4294967295, 8589934591, 17179869183, 17179869183, 68719476735, 137438953471, 274877906943, 549755813887, 549755813887, 1649267441663, 4398046511103, 8796093022207, 17592186044415, 35184372088831, 70368744177663, 35184372088831, 281474976710655, 562949953421311, 1125899906842623, 2251799813685247, 4503599627370495, 4503599627370495, 13510798882111487, 31525197391593471, 67553994410557439, 139611588448485375, 283726776524341247, 576460752303423487, 1152921504606846975, 2305843009213693951, 4611686018427387903, 9223372036854775807, 18446744073709551615, 36893488147419103231, 73786976294838206463, 147573952589676412927, 295147905179352825855, 590295810358705651711, 1180591620717411303423, 2361183241434822606847, 4722366482869645213695, 9444732965739290427391, 18889465931478580854783]
theorem laws_FnTurnsAddedOfAll.tab9 : rtab .any (opsOf Try.f3 9) = laws_FnTurnsAddedOfAll.T9 := by kernel_rfl
theorem laws_FnTurnsAddedOfAll.bits9 : waitsOk laws_FnTurnsAddedOfAll.T9.2 laws_FnTurnsAddedOfAll.B9 = true := by kernel_rfl
def laws_FnTurnsAddedOfAll.T38 : Bool × List (List Nat × List Nat) := (true, [([], []), ([0], [0]), ([1], [1]), ([2, 1], [2]), ([3], [3]), ([3], [3]), ([5, 3], [3, 5]), ([4, 6, 3], [3, 4, 6]), ([7, 3], [3, 7]), ([3, 8], [3, 8]), ([9, 3], [9]), ([10], [10]), ([10], [10]), ([12, 10], [10, 12]), ([10], [10]), ([10], [10]), ([15, 10], [10, 15]), ([14, 16, 10], [10, 14, 16]), ([13, 17, 10], [10, 13, 17]), ([11, 18, 10], [10, 11, 18]), ([10], [10]), ([19, 20, 10], [10, 19, 20]), ([21, 10], [10, 21]), ([10, 22], [10, 22])])
def laws_FnTurnsAddedOfAll.B38 : List Nat := [0, 1, 3, 7, 15, 15, 47, 127, 255, 511, 1023, 2047, 2047, 6143, 2047, 2047, 34815, 116735, 260095, 524287, 2047, 2097151, 4194303, 8388607]
theorem laws_FnTurnsAddedOfAll.tab38 : rtab .any (opsOf Try.f3 38) = laws_FnTurnsAddedOfAll.T38 := by kernel_rfl
theorem laws_FnTurnsAddedOfAll.bits38 : waitsOk laws_FnTurnsAddedOfAll.T38.2 laws_FnTurnsAddedOfAll.B38 = true := by kernel_rfl
theorem laws_FnTurnsAddedOfAll.j0_no {k_} {y0} {y1} {y2} {y3} {y4} {y5} {y6} {y8} {y9} {y10} {y11} {y12} {y13} {y14} {y15} {y16} {y17} {r : Bool} (h : laws_FnTurnsAddedOfAll.j0 k_ y0 y1 y2 y3 y4 y5 y6 true y8 y9 y10 y11 y12 y13 y14 y15 y16 y17 = some r) : r = false := by
 cases k_ with
 | zero => simp [laws_FnTurnsAddedOfAll.j0] at h
 | succ k_ =>
  have e : laws_FnTurnsAddedOfAll.j0 (k_ + 1) y0 y1 y2 y3 y4 y5 y6 true y8 y9 y10 y11 y12 y13 y14 y15 y16 y17 = some false := by simp only [laws_FnTurnsAddedOfAll.j0]; first | rfl | (rw [if_pos rfl]) | simp
  rw [e] at h
  exact (Option.some.inj h).symm
theorem laws_FnTurnsAddedOfAll.j4_no {k_} {y0} {y1} {y2} {y3} {y4} {y6} {y7} {y8} {y9} {y10} {y11} {r : Bool} (h : laws_FnTurnsAddedOfAll.j4 k_ y0 y1 y2 y3 y4 true y6 y7 y8 y9 y10 y11 = some r) : r = false := by
 cases k_ with
 | zero => simp [laws_FnTurnsAddedOfAll.j4] at h
 | succ k_ =>
  have e : laws_FnTurnsAddedOfAll.j4 (k_ + 1) y0 y1 y2 y3 y4 true y6 y7 y8 y9 y10 y11 = some false := by simp only [laws_FnTurnsAddedOfAll.j4]; first | rfl | (rw [if_pos rfl]) | simp
  rw [e] at h
  exact (Option.some.inj h).symm
end Go.Proofs.Ytpmldpfoiljmcaa.PFnTurnsAddedOfAll
