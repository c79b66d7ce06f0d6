-- WRITTEN BY A PROGRAM OF THIS SESSION (wip/tools): its own text, not the kit's printed one.
import Derived.Test.YtchglfpiicaedaaGreatDoorItoa
import Derived.Shelf.Strconv.Itoa3
import Derived.Lib.SmallJoins
import Derived.Lib.LaidTab
import Derived.Shelf.Strconv.ErrVarAll
import Derived.Shelf.Strings.Search3
import Derived.Lib.IndexLaws
import Derived.Lib.AtoiErrMem
import Derived.Test.YtchglfpiicaedaaGreatDoorPFnHandsStandOfAllx0
import Derived.Test.YtchglfpiicaedaaGreatDoorPFnHandsStandOfAllx2
import Derived.Test.YtchglfpiicaedaaGreatDoorPFnHandsStandOfAllx4
import Derived.Test.YtchglfpiicaedaaGreatDoorPFnHandsStandOfAllx5
namespace Go.Proofs.YtchglfpiicaedaaGreatDoor.PFnHandsStandOfAll
open Go.RowKit Go.Proofs.YtchglfpiicaedaaGreatDoorW.PrintWords Go.Proofs.YtchglfpiicaedaaGreatDoorW.PrintLast Go.Proofs.YtchglfpiicaedaaGreatDoorW.PrintMore
attribute [local go_sem] max2_int min2_int max_two min_two max_three min_three max_four min_four   -- for this text's walks alone
set_option linter.unusedVariables false
set_option linter.unusedSimpArgs false

/-! ### impl_TimeText: function 18 -/
def impl_TimeText.f (k : Nat) (a0 : Int) (a1_0 : Int) (a1_1 : Int) : Option (ByteArray × Bool) := (impl_isTime.f k a0 a1_0 a1_1).bind fun t260 => (if t260 = true then ((impl_split.f k a0 a1_0 a1_1).bind fun bt261 => ((impl_twoDigits.f bt261.1).bind fun t266 => (if t266.size + 1 ≤ 9223372036854775807 then ((impl_twoDigits.f bt261.2.1).bind fun t267 => (if (t266 ++ (⟨#[58]⟩ : ByteArray)).size + t267.size ≤ 9223372036854775807 then (if ((t266 ++ (⟨#[58]⟩ : ByteArray)) ++ t267).size + 1 ≤ 9223372036854775807 then (if bt261.2.2.2 = 0 then (none) else ((impl_twoDigits.f (wrap64 (Int.tdiv (wrap64 (bt261.2.2.1 * 60)) bt261.2.2.2))).bind fun t268 => (if (((t266 ++ (⟨#[58]⟩ : ByteArray)) ++ t267) ++ (⟨#[58]⟩ : ByteArray)).size + t268.size ≤ 9223372036854775807 then ((impl_part.f k (wrap64 (bt261.2.2.1 * 60)) bt261.2.2.2).bind fun bt269 => (if bt269.1 > 0 then ((strconv_Itoa_41.f bt269.1).bind fun t272 => (if 1 + t272.size ≤ 9223372036854775807 then (if ((⟨#[43]⟩ : ByteArray) ++ t272).size + 1 ≤ 9223372036854775807 then ((strconv_Itoa_41.f bt269.2).bind fun t273 => (if (((⟨#[43]⟩ : ByteArray) ++ t272) ++ (⟨#[47]⟩ : ByteArray)).size + t273.size ≤ 9223372036854775807 then (if ((((t266 ++ (⟨#[58]⟩ : ByteArray)) ++ t267) ++ (⟨#[58]⟩ : ByteArray)) ++ t268).size + ((((⟨#[43]⟩ : ByteArray) ++ t272) ++ (⟨#[47]⟩ : ByteArray)) ++ t273).size ≤ 9223372036854775807 then (some (((((t266 ++ (⟨#[58]⟩ : ByteArray)) ++ t267) ++ (⟨#[58]⟩ : ByteArray)) ++ t268) ++ ((((⟨#[43]⟩ : ByteArray) ++ t272) ++ (⟨#[47]⟩ : ByteArray)) ++ t273), true)) else (none)) else (none))) else (none)) else (none))) else (some ((((t266 ++ (⟨#[58]⟩ : ByteArray)) ++ t267) ++ (⟨#[58]⟩ : ByteArray)) ++ t268, true)))) else (none)))) else (none)) else (none))) else (none)))) else (some ((⟨#[]⟩ : ByteArray), false)))
theorem impl_TimeText.mono : ∀ a0 a1 a2 k, LeO (impl_TimeText.f k a0 a1 a2) (impl_TimeText.f (k + 1) a0 a1 a2) := by
 intro a0 a1 a2 k
 unfold impl_TimeText.f
 repeat' first
   | (with_reducible exact impl_isTime.mono _ _ _ _)
   | (with_reducible exact impl_part.mono _ _ _)
   | (with_reducible exact impl_split.mono _ _ _ _)
   | (with_reducible exact LeO.refl _)
   | (with_reducible exact LeO.none _)
   | (with_reducible refine LeO.ite ?_ ?_)
   | (with_reducible refine LeO.bind ?_ (fun _ => ?_))
   | exact impl_isTime.mono _ _ _ _
   | exact impl_part.mono _ _ _
   | exact impl_split.mono _ _ _ _
   | exact LeO.none _
   | refine LeO.ite ?_ ?_
   | refine LeO.bind ?_ (fun _ => ?_)
def impl_TimeText.T5 : Bool × List (List Nat × List Nat) := (true, [([], []), ([0], [0]), ([1], [1]), ([], []), ([3, 1], [3]), ([2, 4], [2, 4]), ([5], [5]), ([], []), ([], []), ([8], [8]), ([7, 9], [7, 9]), ([10, 4], [10]), ([6, 11], [6, 11]), ([12, 11, 0, 1, 2, 3, 4, 5, 6, 7, 8, 9, 10, 11, 12], [12])])
def impl_TimeText.B5 : List Nat := [0, 1, 3, 0, 11, 31, 63, 0, 0, 256, 896, 1947, 4095, 8191]
theorem impl_TimeText.tab5 : rtab .any (opsOf Tryz.f18 5) = impl_TimeText.T5 := by kernel_rfl
theorem impl_TimeText.bits5 : waitsOk impl_TimeText.T5.2 impl_TimeText.B5 = true := by kernel_rfl
def impl_TimeText.T8 : Bool × List (List Nat × List Nat) := (true, [([], []), ([], []), ([1], [1]), ([2], [2]), ([3], [3]), ([4], [4]), ([], []), ([6], [6]), ([7, 3], [7]), ([5, 8], [5, 8]), ([0, 9], [0, 9]), ([10, 8, 0, 1, 2, 3, 4, 5, 6, 7, 8, 9, 10], [0, 10])])
def impl_TimeText.B8 : List Nat := [0, 0, 2, 6, 14, 30, 0, 64, 206, 510, 1023, 2047]
theorem impl_TimeText.tab8 : rtab .any (opsOf Tryz.f18 8) = impl_TimeText.T8 := by kernel_rfl
theorem impl_TimeText.bits8 : waitsOk impl_TimeText.T8.2 impl_TimeText.B8 = true := by kernel_rfl
set_option maxHeartbeats 8000000 in
set_option maxRecDepth 100000 in
theorem impl_TimeText.calls (k : Nat) (a0 : Int) (a1_0 : Int) (a1_1 : Int) (r1 : ByteArray) (r2 : Bool) (w : World) (htab_ : TabsAll w) (h : impl_TimeText.f k a0 a1_0 a1_1 = some (r1, r2)) :
  Calls Tryz.prog 18 #[.int .i64 a0, .agg #[.int .i64 a1_0, .int .i64 a1_1]] w fun e w' => e = .returned (.tuple #[.string r1, .bool r2]) ∧ Below w.heap.size w w' := by
 have TABH_ := Am htab_
 clear htab_
 have hu23 := Tryz.underlying23
 have HB := Am (Below.refl w.heap.size w)
 have H : ((impl_isTime.f k a0 a1_0 a1_1).bind fun t260 => (if t260 = true then ((impl_split.f k a0 a1_0 a1_1).bind fun bt261 => ((impl_twoDigits.f bt261.1).bind fun t266 => (if t266.size + 1 ≤ 9223372036854775807 then ((impl_twoDigits.f bt261.2.1).bind fun t267 => (if (t266 ++ (⟨#[58]⟩ : ByteArray)).size + t267.size ≤ 9223372036854775807 then (if ((t266 ++ (⟨#[58]⟩ : ByteArray)) ++ t267).size + 1 ≤ 9223372036854775807 then (if bt261.2.2.2 = 0 then (none) else ((impl_twoDigits.f (wrap64 (Int.tdiv (wrap64 (bt261.2.2.1 * 60)) bt261.2.2.2))).bind fun t268 => (if (((t266 ++ (⟨#[58]⟩ : ByteArray)) ++ t267) ++ (⟨#[58]⟩ : ByteArray)).size + t268.size ≤ 9223372036854775807 then ((impl_part.f k (wrap64 (bt261.2.2.1 * 60)) bt261.2.2.2).bind fun bt269 => (if bt269.1 > 0 then ((strconv_Itoa_41.f bt269.1).bind fun t272 => (if 1 + t272.size ≤ 9223372036854775807 then (if ((⟨#[43]⟩ : ByteArray) ++ t272).size + 1 ≤ 9223372036854775807 then ((strconv_Itoa_41.f bt269.2).bind fun t273 => (if (((⟨#[43]⟩ : ByteArray) ++ t272) ++ (⟨#[47]⟩ : ByteArray)).size + t273.size ≤ 9223372036854775807 then (if ((((t266 ++ (⟨#[58]⟩ : ByteArray)) ++ t267) ++ (⟨#[58]⟩ : ByteArray)) ++ t268).size + ((((⟨#[43]⟩ : ByteArray) ++ t272) ++ (⟨#[47]⟩ : ByteArray)) ++ t273).size ≤ 9223372036854775807 then (some (((((t266 ++ (⟨#[58]⟩ : ByteArray)) ++ t267) ++ (⟨#[58]⟩ : ByteArray)) ++ t268) ++ ((((⟨#[43]⟩ : ByteArray) ++ t272) ++ (⟨#[47]⟩ : ByteArray)) ++ t273), true)) else (none)) else (none))) else (none)) else (none))) else (some ((((t266 ++ (⟨#[58]⟩ : ByteArray)) ++ t267) ++ (⟨#[58]⟩ : ByteArray)) ++ t268, true)))) else (none)))) else (none)) else (none))) else (none)))) else (some ((⟨#[]⟩ : ByteArray), false)))) = some (r1, r2) := h
 clear h
 replace H := Option.bind_eq_some_iff.mp H
 obtain ⟨t260, A30, H⟩ := H
 try dsimp only at H
 have A3 := Am A30
 clear A30
 by_cases c4 : t260 = true
 ·subst c4
  have H1 : ((impl_split.f k a0 a1_0 a1_1).bind fun bt261 => ((impl_twoDigits.f bt261.1).bind fun t266 => (if t266.size + 1 ≤ 9223372036854775807 then ((impl_twoDigits.f bt261.2.1).bind fun t267 => (if (t266 ++ (⟨#[58]⟩ : ByteArray)).size + t267.size ≤ 9223372036854775807 then (if ((t266 ++ (⟨#[58]⟩ : ByteArray)) ++ t267).size + 1 ≤ 9223372036854775807 then (if bt261.2.2.2 = 0 then (none) else ((impl_twoDigits.f (wrap64 (Int.tdiv (wrap64 (bt261.2.2.1 * 60)) bt261.2.2.2))).bind fun t268 => (if (((t266 ++ (⟨#[58]⟩ : ByteArray)) ++ t267) ++ (⟨#[58]⟩ : ByteArray)).size + t268.size ≤ 9223372036854775807 then ((impl_part.f k (wrap64 (bt261.2.2.1 * 60)) bt261.2.2.2).bind fun bt269 => (if bt269.1 > 0 then ((strconv_Itoa_41.f bt269.1).bind fun t272 => (if 1 + t272.size ≤ 9223372036854775807 then (if ((⟨#[43]⟩ : ByteArray) ++ t272).size + 1 ≤ 9223372036854775807 then ((strconv_Itoa_41.f bt269.2).bind fun t273 => (if (((⟨#[43]⟩ : ByteArray) ++ t272) ++ (⟨#[47]⟩ : ByteArray)).size + t273.size ≤ 9223372036854775807 then (if ((((t266 ++ (⟨#[58]⟩ : ByteArray)) ++ t267) ++ (⟨#[58]⟩ : ByteArray)) ++ t268).size + ((((⟨#[43]⟩ : ByteArray) ++ t272) ++ (⟨#[47]⟩ : ByteArray)) ++ t273).size ≤ 9223372036854775807 then (some (((((t266 ++ (⟨#[58]⟩ : ByteArray)) ++ t267) ++ (⟨#[58]⟩ : ByteArray)) ++ t268) ++ ((((⟨#[43]⟩ : ByteArray) ++ t272) ++ (⟨#[47]⟩ : ByteArray)) ++ t273), true)) else (none)) else (none))) else (none)) else (none))) else (some ((((t266 ++ (⟨#[58]⟩ : ByteArray)) ++ t267) ++ (⟨#[58]⟩ : ByteArray)) ++ t268, true)))) else (none)))) else (none)) else (none))) else (none)))) = some (r1, r2) := by rw [if_pos rfl] at H; exact H
  clear H
  have H := H1
  clear H1
  replace H := Option.bind_eq_some_iff.mp H
  obtain ⟨⟨t261, t262, t263, t264⟩, A50, H⟩ := H
  try dsimp only at H
  have A5 := Am A50
  clear A50
  replace H := Option.bind_eq_some_iff.mp H
  obtain ⟨t266, A60, H⟩ := H
  try dsimp only at H
  have A6 := Am A60
  clear A60
  by_cases c7 : t266.size + 1 ≤ 9223372036854775807
  ·rw [if_pos c7] at H
   have c7b0 := eq_true c7
   have c7b1 : decide (t266.size + 1 ≤ 9223372036854775807) = true := decide_eq_true c7
   try have c7b2 : (9223372036854775807 < t266.size + 1) = False := eq_false (Nat.not_lt.2 c7)
   replace H := Option.bind_eq_some_iff.mp H
   obtain ⟨t267, A80, H⟩ := H
   try dsimp only at H
   have A8 := Am A80
   clear A80
   by_cases c9 : (t266 ++ (⟨#[58]⟩ : ByteArray)).size + t267.size ≤ 9223372036854775807
   ·rw [if_pos c9] at H
    have c9b0 := eq_true c9
    have c9b1 : decide ((t266 ++ (⟨#[58]⟩ : ByteArray)).size + t267.size ≤ 9223372036854775807) = true := decide_eq_true c9
    try have c9b2 : (9223372036854775807 < (t266 ++ (⟨#[58]⟩ : ByteArray)).size + t267.size) = False := eq_false (Nat.not_lt.2 c9)
    have c9b3 : (9223372036854775807 < t266.size + 1 + t267.size) = False := by have h_ := c9b2; simp only [ByteArray.size_append] at h_; exact h_
    by_cases c10 : ((t266 ++ (⟨#[58]⟩ : ByteArray)) ++ t267).size + 1 ≤ 9223372036854775807
    ·rw [if_pos c10] at H
     have c10b0 := eq_true c10
     have c10b1 : decide (((t266 ++ (⟨#[58]⟩ : ByteArray)) ++ t267).size + 1 ≤ 9223372036854775807) = true := decide_eq_true c10
     try have c10b2 : (9223372036854775807 < ((t266 ++ (⟨#[58]⟩ : ByteArray)) ++ t267).size + 1) = False := eq_false (Nat.not_lt.2 c10)
     have c10b3 : (9223372036854775807 < t266.size + 1 + t267.size + 1) = False := by have h_ := c10b2; simp only [ByteArray.size_append] at h_; exact h_
     by_cases c11 : t264 = 0
     ·rw [if_pos c11] at H
      exact absurd H (by simp)
     rw [if_neg c11] at H
     have c11b0 : (t264 == 0) = false := beq_eq_false_iff_ne.mpr c11
     have c11b1 : (t264 != 0) = true := bne_iff_ne.mpr c11
     replace H := Option.bind_eq_some_iff.mp H
     obtain ⟨t268, A120, H⟩ := H
     try dsimp only at H
     have A12 := Am A120
     clear A120
     by_cases c13 : (((t266 ++ (⟨#[58]⟩ : ByteArray)) ++ t267) ++ (⟨#[58]⟩ : ByteArray)).size + t268.size ≤ 9223372036854775807
     ·rw [if_pos c13] at H
      have c13b0 := eq_true c13
      have c13b1 : decide ((((t266 ++ (⟨#[58]⟩ : ByteArray)) ++ t267) ++ (⟨#[58]⟩ : ByteArray)).size + t268.size ≤ 9223372036854775807) = true := decide_eq_true c13
      try have c13b2 : (9223372036854775807 < (((t266 ++ (⟨#[58]⟩ : ByteArray)) ++ t267) ++ (⟨#[58]⟩ : ByteArray)).size + t268.size) = False := eq_false (Nat.not_lt.2 c13)
      have c13b3 : (9223372036854775807 < t266.size + 1 + t267.size + 1 + t268.size) = False := by have h_ := c13b2; simp only [ByteArray.size_append] at h_; exact h_
      replace H := Option.bind_eq_some_iff.mp H
      obtain ⟨⟨t269, t270⟩, A140, H⟩ := H
      try dsimp only at H
      have A14 := Am A140
      clear A140
      by_cases c15 : t269 > 0
      ·rw [if_pos c15] at H
       have c15b0 : decide (0 < t269) = true := decide_eq_true c15
       clear c15
       replace H := Option.bind_eq_some_iff.mp H
       obtain ⟨t272, A160, H⟩ := H
       try dsimp only at H
       have A16 := Am A160
       clear A160
       by_cases c17 : 1 + t272.size ≤ 9223372036854775807
       ·rw [if_pos c17] at H
        have c17b0 := eq_true c17
        have c17b1 : decide (1 + t272.size ≤ 9223372036854775807) = true := decide_eq_true c17
        try have c17b2 : (9223372036854775807 < 1 + t272.size) = False := eq_false (Nat.not_lt.2 c17)
        by_cases c18 : ((⟨#[43]⟩ : ByteArray) ++ t272).size + 1 ≤ 9223372036854775807
        ·rw [if_pos c18] at H
         have c18b0 := eq_true c18
         have c18b1 : decide (((⟨#[43]⟩ : ByteArray) ++ t272).size + 1 ≤ 9223372036854775807) = true := decide_eq_true c18
         try have c18b2 : (9223372036854775807 < ((⟨#[43]⟩ : ByteArray) ++ t272).size + 1) = False := eq_false (Nat.not_lt.2 c18)
         have c18b3 : (9223372036854775807 < 1 + t272.size + 1) = False := by have h_ := c18b2; simp only [ByteArray.size_append] at h_; exact h_
         replace H := Option.bind_eq_some_iff.mp H
         obtain ⟨t273, A190, H⟩ := H
         try dsimp only at H
         have A19 := Am A190
         clear A190
         by_cases c20 : (((⟨#[43]⟩ : ByteArray) ++ t272) ++ (⟨#[47]⟩ : ByteArray)).size + t273.size ≤ 9223372036854775807
         ·rw [if_pos c20] at H
          have c20b0 := eq_true c20
          have c20b1 : decide ((((⟨#[43]⟩ : ByteArray) ++ t272) ++ (⟨#[47]⟩ : ByteArray)).size + t273.size ≤ 9223372036854775807) = true := decide_eq_true c20
          try have c20b2 : (9223372036854775807 < (((⟨#[43]⟩ : ByteArray) ++ t272) ++ (⟨#[47]⟩ : ByteArray)).size + t273.size) = False := eq_false (Nat.not_lt.2 c20)
          have c20b3 : (9223372036854775807 < 1 + t272.size + 1 + t273.size) = False := by have h_ := c20b2; simp only [ByteArray.size_append] at h_; exact h_
          by_cases c21 : ((((t266 ++ (⟨#[58]⟩ : ByteArray)) ++ t267) ++ (⟨#[58]⟩ : ByteArray)) ++ t268).size + ((((⟨#[43]⟩ : ByteArray) ++ t272) ++ (⟨#[47]⟩ : ByteArray)) ++ t273).size ≤ 9223372036854775807
          ·rw [if_pos c21] at H
           have c21b0 := eq_true c21
           have c21b1 : decide (((((t266 ++ (⟨#[58]⟩ : ByteArray)) ++ t267) ++ (⟨#[58]⟩ : ByteArray)) ++ t268).size + ((((⟨#[43]⟩ : ByteArray) ++ t272) ++ (⟨#[47]⟩ : ByteArray)) ++ t273).size ≤ 9223372036854775807) = true := decide_eq_true c21
           try have c21b2 : (9223372036854775807 < ((((t266 ++ (⟨#[58]⟩ : ByteArray)) ++ t267) ++ (⟨#[58]⟩ : ByteArray)) ++ t268).size + ((((⟨#[43]⟩ : ByteArray) ++ t272) ++ (⟨#[47]⟩ : ByteArray)) ++ t273).size) = False := eq_false (Nat.not_lt.2 c21)
           have c21b3 : (9223372036854775807 < t266.size + 1 + t267.size + 1 + t268.size + (1 + t272.size + 1 + t273.size)) = False := by have h_ := c21b2; simp only [ByteArray.size_append] at h_; exact h_
           focus
            simp only [Option.some.injEq, Prod.mk.injEq] at H
            obtain ⟨rfl, rfl⟩ := H
            go_enter Tryz.func18, Tryz.ntmps18
            try go_wp2_with (first | ((with_reducible refine gate_dst (N := 3) rfl ?_); refine bE 3 #[.int .i64 a1_0, .int .i64 a1_1] 23 ?_; intro gb259 hg w22 hbox hb; have hv := vK HB hb; have n0_ := Am (bT hv hb); have n1_ := Am (hbox); have GE259 := kG hg hv; clear HB; have HB := n0_; have BK259 := n1_; clear n0_ n1_ hv; clear hb hbox hg; have zq23 := zc2 BK259) | ((with_reducible refine gate_callee (f := 27) rfl ?_); refine gL (some 14) Tryz.func27 #[.int .i64 a0, .agg #[.int .i64 a1_0, .int .i64 a1_1]] rfl ?_; (with_reducible refine (impl_isTime.calls k a0 a1_0 a1_1 true _ A3.out).mono ?_); rintro e w24 ⟨rfl, hb⟩; refine ⟨_, rfl, ?_⟩; have hp0 := pA BK259 hb; have hv := vK HB hb; have n1_ := Am (bT hv hb); clear HB; replace BK259 := hp0 BK259; have HB := n1_; clear n1_ hp0 hv; (try clear hb); have zq25 := zc2 BK259) | ((with_reducible refine gate_callee (f := 35) rfl ?_); refine gL (some 19) Tryz.func35 #[.int .i64 a0, .agg #[.int .i64 a1_0, .int .i64 a1_1]] rfl ?_; (with_reducible refine (impl_split.calls k a0 a1_0 a1_1 t261 t262 t263 t264 _ A5.out).mono ?_); rintro e w26 ⟨rfl, hb⟩; refine ⟨_, rfl, ?_⟩; have hp0 := pA BK259 hb; have hv := vK HB hb; have n1_ := Am (bT hv hb); clear HB; replace BK259 := hp0 BK259; have HB := n1_; clear n1_ hp0 hv; (try clear hb)) | ((with_reducible refine gate_dst (N := 8) rfl ?_); refine bE 8 #[.int .i64 0, .int .i64 0] 23 ?_; intro gb265 hg w27 hbox hb; have hp0 := pA BK259 hb; have hv := vK HB hb; have n1_ := Am (bT hv hb); have n2_ := Am (hbox); have GE265 := kG hg hv; have hp1 := pK BK259 hb; obtain ⟨NB259_265, NB265_259⟩ := kXY hg hp1 BK259; clear HB; replace BK259 := hp0 BK259; have HB := n1_; have BK265 := n2_; clear n1_ n2_ hp0 hp1 hv; clear hb hbox hg; have nq28 := kO NB265_259; have zq29 := zc2 BK265))
            have hq := hqR (W := ((w27.setCell ⟨gb265, 0, none⟩ (.int .i64 t263)).setCell ⟨gb265, 1, none⟩ (.int .i64 t264))) gb265 BK259.out (fun _ _ q_ h_ => by (with_reducible repeat (first | refine kN ?_ _ | refine kD ?_ | refine kA ?_ _ | refine kZ ?_ q_ _)); exact h_)
            have n0_ := Am (hq NB259_265.out BK259.out)
            have n1_ : Aside0 (((w27.setCell ⟨gb265, 0, none⟩ (.int .i64 t263)).setCell ⟨gb265, 1, none⟩ (.int .i64 t264)).heap[gb265]? = some (.cells #[.int .i64 t263, .int .i64 t264] 23 (0, 0))) := ⟨by (with_reducible repeat (first | refine kN ?_ _ | refine kD ?_ | refine kA ?_ _)); refine kP (cs := #[.int .i64 t263, .int .i64 0]) ?_ 1 _ rfl; (with_reducible repeat (first | refine kN ?_ _ | refine kD ?_ | refine kA ?_ _)); refine kP (cs := #[.int .i64 0, .int .i64 0]) ?_ 0 _ rfl; (with_reducible repeat (first | refine kN ?_ _ | refine kD ?_ | refine kA ?_ _)); exact BK265.out⟩
            have n2_ : Aside0 (Below w.heap.size w ((w27.setCell ⟨gb265, 0, none⟩ (.int .i64 t263)).setCell ⟨gb265, 1, none⟩ (.int .i64 t264))) := ⟨by repeat (first | (with_reducible first | exact HB.out | apply bA | apply bN | apply bD | refine bX ?_ (by assumption)) | exact HB.out)⟩
            clear hq
            (try clear BK259)
            (try clear BK265)
            (try clear HB)
            generalize ((w27.setCell ⟨gb265, 0, none⟩ (.int .i64 t263)).setCell ⟨gb265, 1, none⟩ (.int .i64 t264)) = w30 at n0_ n1_ n2_ ⊢
            have BK259 := n0_; have BK265 := n1_; have HB := n2_
            clear n0_ n1_ n2_
            have n0_ := Am (kD BK259.out)
            have n1_ := Am (kD BK265.out)
            have n2_ := Am (bD HB.out)
            clear BK259 BK265 HB
            have BK259 := n0_; have BK265 := n1_; have HB := n2_
            clear n0_ n1_ n2_
            refine start_ (n := 14) (S := fun w' => w'.cell? ⟨gb265, 0, none⟩ = some (.int .i64 t263) ∧ w'.cell? ⟨gb265, 1, none⟩ = some (.int .i64 t264)) (ds := []) (pT 14 0) (by kernel_rfl) rfl rfl ⟨zc20 BK265.out, zc21 BK265.out⟩ (fun hHeld => ?_); refine with_tabW impl_TimeText.tab5 impl_TimeText.bits5 (fun HT_ HW_ => ?_)
            generalize w30.drew = w31 at BK259 BK265 HB hHeld ⊢
            refine pI (v := ?_) (a' := ?_) rfl (any_of HT_.out (by kernel_rfl)) (fun _ _ _ h => h) (Or.inl ⟨by rfl, ?_⟩) ?_ ?_
            rotate_left
            ·intro w'
             go_simp
             with_reducible rfl
            rotate_left
            ·show Act.put _ (some _) _ = _
             simp only [Act.put, List.setIfInBounds_toArray, List.set_cons_zero, List.set_cons_succ, i64_w, i32_w]
             rfl
            refine pure_ (i := 3) (N := some 29) (v := ?_) (a' := ?_) #[true, false, false, true, false, false, false, false, false, false, false, false, false, false] rfl rfl (any_of HT_.out (by kernel_rfl)) (fun _ _ _ h => h) (Or.inl ⟨by rfl, ?_⟩) ?_ ?_
            rotate_left
            ·intro w'
             go_simp
             with_reducible rfl
            rotate_left
            ·simp only [Act.put, List.setIfInBounds_toArray, List.set_cons_zero, List.set_cons_succ, i64_w, i32_w]
             rfl
            refine pure_ (i := 7) (N := some 33) (v := ?_) (a' := ?_) #[true, false, false, true, false, false, false, true, false, false, false, false, false, false] rfl rfl (any_of HT_.out (by kernel_rfl)) (fun _ _ _ h => h) (Or.inl ⟨by rfl, ?_⟩) ?_ ?_
            rotate_left
            ·intro w'
             go_simp
             with_reducible rfl
            rotate_left
            ·simp only [Act.put, List.setIfInBounds_toArray, List.set_cons_zero, List.set_cons_succ, i64_w, i32_w]
             rfl
            refine pure_ (i := 8) (N := some 34) (v := ?_) (a' := ?_) #[true, false, false, true, false, false, false, true, true, false, false, false, false, false] rfl rfl (any_of HT_.out (by kernel_rfl)) (fun _ _ _ h => h) (Or.inl ⟨by rfl, ?_⟩) ?_ ?_
            rotate_left
            ·intro w'
             go_simp
             with_reducible rfl
            rotate_left
            ·simp only [Act.put, List.setIfInBounds_toArray, List.set_cons_zero, List.set_cons_succ, i64_w, i32_w]
             rfl
            refine take_ (i := 9) (N := some 35) (v := ?_) (a' := ?_) #[true, false, false, true, false, false, false, true, true, true, false, false, false, false] rfl rfl (take_ofW HT_.out HW_.out (by kernel_rfl)) (fun _ _ _ h => h) (Or.inl ⟨by rfl, ?_⟩) hHeld ?_ ?_
            rotate_left
            ·rintro w' ⟨s0, s1⟩
             go_simp
             with_reducible rfl
            rotate_left
            ·simp only [Act.put, List.setIfInBounds_toArray, List.set_cons_zero, List.set_cons_succ, i64_w, i32_w]
             rfl
            refine pure_ (i := 10) (N := some 36) (v := ?_) (a' := ?_) #[true, false, false, true, false, false, false, true, true, true, true, false, false, false] rfl rfl (any_of HT_.out (by kernel_rfl)) (fun _ _ _ h => h) (Or.inl ⟨by rfl, ?_⟩) ?_ ?_
            rotate_left
            ·intro w'
             go_simp
             with_reducible rfl
            rotate_left
            ·simp only [Act.put, List.setIfInBounds_toArray, List.set_cons_zero, List.set_cons_succ, i64_w, i32_w]
             rfl
            refine one_ (i := 1) (N := some 27) #[true, true, false, true, false, false, false, true, true, true, true, false, false, false] rfl rfl (one_of HT_.out (by kernel_rfl)) (by decide) (fun K hK => ?_)
            refine goes_ Tryz.func39 (by kernel_rfl) rfl #[.int .i64 t261] (by rfl) rfl rfl (by (try simp only [List.map_toArray, List.map_cons, List.map_nil]); first | done | rfl | (simp only [List.length_drop, List.length_take]; rfl)) ?_
            with_reducible refine (impl_twoDigits.calls t261 t266 _ (tabs_stay TABH_.out (show Below w.heap.size w _ from by repeat (first | (with_reducible first | exact HB.out | apply bA | apply bN | apply bD | refine bX ?_ (by assumption)) | exact HB.out))) A6.out).mono ?_
            rintro e w32 ⟨rfl, hb⟩
            refine ⟨_, rfl, ?_⟩
            have hp0 := pA BK259 hb
            have hv := vK HB hb
            have n2_ := Am (bT hv hb)
            clear HB
            replace BK259 := hp0 BK259; replace BK265 := hp0 BK265
            have HB := n2_
            clear n2_ hp0 hv
            (try clear hb)
            refine hK.out _ _ ⟨zc20 BK265.out, zc21 BK265.out⟩ (fun hHeld => ?_)
            clear hK K
            refine norm_ (a' := ?_) ?_ ?_
            rotate_left
            ·show Act.put _ (some 27) _ = _
             simp only [Act.put, List.setIfInBounds_toArray, List.set_cons_zero, List.set_cons_succ, i64_w, i32_w]
             rfl
            refine pure_ (i := 2) (N := some 28) (v := ?_) (a' := ?_) #[true, true, true, true, false, false, false, true, true, true, true, false, false, false] rfl rfl (any_of HT_.out (by kernel_rfl)) (fun _ _ _ h => h) (Or.inl ⟨by rfl, ?_⟩) ?_ ?_
            rotate_left
            ·intro w'
             go_simp
             with_reducible rfl
            rotate_left
            ·simp only [Act.put, List.setIfInBounds_toArray, List.set_cons_zero, List.set_cons_succ, i64_w, i32_w]
             rfl
            refine one_ (i := 4) (N := some 30) #[true, true, true, true, true, false, false, true, true, true, true, false, false, false] rfl rfl (one_of HT_.out (by kernel_rfl)) (by decide) (fun K hK => ?_)
            refine goes_ Tryz.func39 (by kernel_rfl) rfl #[.int .i64 t262] (by rfl) rfl rfl (by (try simp only [List.map_toArray, List.map_cons, List.map_nil]); first | done | rfl | (simp only [List.length_drop, List.length_take]; rfl)) ?_
            with_reducible refine (impl_twoDigits.calls t262 t267 _ (tabs_stay TABH_.out (show Below w.heap.size w _ from by repeat (first | (with_reducible first | exact HB.out | apply bA | apply bN | apply bD | refine bX ?_ (by assumption)) | exact HB.out))) A8.out).mono ?_
            rintro e w33 ⟨rfl, hb⟩
            refine ⟨_, rfl, ?_⟩
            have hp0 := pA BK259 hb
            have hv := vK HB hb
            have n2_ := Am (bT hv hb)
            clear HB
            replace BK259 := hp0 BK259; replace BK265 := hp0 BK265
            have HB := n2_
            clear n2_ hp0 hv
            (try clear hb)
            refine hK.out _ _ ⟨zc20 BK265.out, zc21 BK265.out⟩ (fun hHeld => ?_)
            clear hK K
            refine norm_ (a' := ?_) ?_ ?_
            rotate_left
            ·show Act.put _ (some 30) _ = _
             simp only [Act.put, List.setIfInBounds_toArray, List.set_cons_zero, List.set_cons_succ, i64_w, i32_w]
             rfl
            refine pure_ (i := 5) (N := some 31) (v := ?_) (a' := ?_) #[true, true, true, true, true, true, false, true, true, true, true, false, false, false] rfl rfl (any_of HT_.out (by kernel_rfl)) (fun _ _ _ h => h) (Or.inl ⟨by rfl, ?_⟩) ?_ ?_
            rotate_left
            ·intro w'
             go_simp
             with_reducible rfl
            rotate_left
            ·simp only [Act.put, List.setIfInBounds_toArray, List.set_cons_zero, List.set_cons_succ, i64_w, i32_w]
             rfl
            refine pure_ (i := 6) (N := some 32) (v := ?_) (a' := ?_) (pT 14 11) rfl rfl (any_of HT_.out (by kernel_rfl)) (fun _ _ _ h => h) (Or.inl ⟨by rfl, ?_⟩) ?_ ?_
            rotate_left
            ·intro w'
             go_simp
             with_reducible rfl
            rotate_left
            ·simp only [Act.put, List.setIfInBounds_toArray, List.set_cons_zero, List.set_cons_succ, i64_w, i32_w]
             rfl
            refine one_ (i := 11) (N := some 37) (pT 14 12) rfl rfl (one_of HT_.out (by kernel_rfl)) (by decide) (fun K hK => ?_)
            refine goes_ Tryz.func39 (by kernel_rfl) rfl #[.int .i64 (wrap64 (Int.tdiv (wrap64 (t263 * 60)) t264))] (by rfl) rfl rfl (by (try simp only [List.map_toArray, List.map_cons, List.map_nil]); first | done | rfl | (simp only [List.length_drop, List.length_take]; rfl)) ?_
            with_reducible refine (impl_twoDigits.calls (wrap64 (Int.tdiv (wrap64 (t263 * 60)) t264)) t268 _ (tabs_stay TABH_.out (show Below w.heap.size w _ from by repeat (first | (with_reducible first | exact HB.out | apply bA | apply bN | apply bD | refine bX ?_ (by assumption)) | exact HB.out))) A12.out).mono ?_
            rintro e w34 ⟨rfl, hb⟩
            refine ⟨_, rfl, ?_⟩
            have hp0 := pA BK259 hb
            have hv := vK HB hb
            have n2_ := Am (bT hv hb)
            clear HB
            replace BK259 := hp0 BK259; replace BK265 := hp0 BK265
            have HB := n2_
            clear n2_ hp0 hv
            (try clear hb)
            refine hK.out _ _ ⟨zc20 BK265.out, zc21 BK265.out⟩ (fun hHeld => ?_)
            clear hK K
            refine norm_ (a' := ?_) ?_ ?_
            rotate_left
            ·show Act.put _ (some 37) _ = _
             simp only [Act.put, List.setIfInBounds_toArray, List.set_cons_zero, List.set_cons_succ, i64_w, i32_w]
             rfl
            iterate 2
             refine pI (v := ?_) (a' := ?_) rfl (any_of HT_.out (by kernel_rfl)) (fun _ _ _ h => h) (Or.inl ⟨by rfl, ?_⟩) ?_ ?_
             rotate_left
             ·intro w'
              go_simp
              with_reducible rfl
             rotate_left
             ·show Act.put _ (some _) _ = _
              simp only [Act.put, List.setIfInBounds_toArray, List.set_cons_zero, List.set_cons_succ, i64_w, i32_w]
              rfl
            refine done_ (done_of HT_.out (by kernel_rfl)) ?_
            have zq35 := zc2 BK265
            try go_wp2_with (first | ((with_reducible refine gate_callee (f := 40) rfl ?_); refine gL (some 42) Tryz.func40 #[.int .i64 (wrap64 (t263 * 60)), .int .i64 t264] rfl ?_; (with_reducible refine (impl_part.calls k (wrap64 (t263 * 60)) t264 t269 t270 _ A14.out).mono ?_); rintro e w36 ⟨rfl, hb⟩; refine ⟨_, rfl, ?_⟩; have hp0 := pA BK259 hb; have hv := vK HB hb; have n2_ := Am (bT hv hb); clear HB; replace BK259 := hp0 BK259; replace BK265 := hp0 BK265; have HB := n2_; clear n2_ hp0 hv; (try clear hb)) | ((with_reducible refine gate_dst (N := 11) rfl ?_); refine bE 11 #[.int .i64 0, .int .i64 0] 23 ?_; intro gb271 hg w37 hbox hb; have hp0 := pA BK259 hb; have hv := vK HB hb; have n2_ := Am (bT hv hb); have n3_ := Am (hbox); have GE271 := kG hg hv; have hp1 := pK BK259 hb; obtain ⟨NB259_271, NB271_259⟩ := kXY hg hp1 BK259; obtain ⟨NB265_271, NB271_265⟩ := kXY hg hp1 BK265; clear HB; replace BK259 := hp0 BK259; replace BK265 := hp0 BK265; have HB := n2_; have BK271 := n3_; clear n2_ n3_ hp0 hp1 hv; clear hb hbox hg; have nq38 := kO NB271_259; have nq39 := kO NB271_265; have zq40 := zc2 BK271))
            have hq := hqR (W := ((w37.setCell ⟨gb271, 0, none⟩ (.int .i64 t269)).setCell ⟨gb271, 1, none⟩ (.int .i64 t270))) gb271 BK259.out (fun _ _ q_ h_ => by (with_reducible repeat (first | refine kN ?_ _ | refine kD ?_ | refine kA ?_ _ | refine kZ ?_ q_ _)); exact h_)
            have n0_ := Am (hq NB259_271.out BK259.out)
            have n1_ := Am (hq NB265_271.out BK265.out)
            have n2_ : Aside0 (((w37.setCell ⟨gb271, 0, none⟩ (.int .i64 t269)).setCell ⟨gb271, 1, none⟩ (.int .i64 t270)).heap[gb271]? = some (.cells #[.int .i64 t269, .int .i64 t270] 23 (0, 0))) := ⟨by (with_reducible repeat (first | refine kN ?_ _ | refine kD ?_ | refine kA ?_ _)); refine kP (cs := #[.int .i64 t269, .int .i64 0]) ?_ 1 _ rfl; (with_reducible repeat (first | refine kN ?_ _ | refine kD ?_ | refine kA ?_ _)); refine kP (cs := #[.int .i64 0, .int .i64 0]) ?_ 0 _ rfl; (with_reducible repeat (first | refine kN ?_ _ | refine kD ?_ | refine kA ?_ _)); exact BK271.out⟩
            have n3_ : Aside0 (Below w.heap.size w ((w37.setCell ⟨gb271, 0, none⟩ (.int .i64 t269)).setCell ⟨gb271, 1, none⟩ (.int .i64 t270))) := ⟨by repeat (first | (with_reducible first | exact HB.out | apply bA | apply bN | apply bD | refine bX ?_ (by assumption)) | exact HB.out)⟩
            clear hq
            (try clear BK259)
            (try clear BK265)
            (try clear BK271)
            (try clear HB)
            generalize ((w37.setCell ⟨gb271, 0, none⟩ (.int .i64 t269)).setCell ⟨gb271, 1, none⟩ (.int .i64 t270)) = w41 at n0_ n1_ n2_ n3_ ⊢
            have BK259 := n0_; have BK265 := n1_; have BK271 := n2_; have HB := n3_
            clear n0_ n1_ n2_ n3_
            have n0_ := Am (kD BK259.out)
            have n1_ := Am (kD BK265.out)
            have n2_ := Am (kD BK271.out)
            have n3_ := Am (bD HB.out)
            clear BK259 BK265 BK271 HB
            have BK259 := n0_; have BK265 := n1_; have BK271 := n2_; have HB := n3_
            clear n0_ n1_ n2_ n3_
            refine start_ (n := 12) (S := fun w' => w'.cell? ⟨gb271, 0, none⟩ = some (.int .i64 t269) ∧ w'.cell? ⟨gb271, 1, none⟩ = some (.int .i64 t270)) (ds := []) (pT 12 0) (by kernel_rfl) rfl rfl ⟨zc20 BK271.out, zc21 BK271.out⟩ (fun hHeld => ?_); refine with_tabW impl_TimeText.tab8 impl_TimeText.bits8 (fun HT_ HW_ => ?_)
            generalize w41.drew = w42 at BK259 BK265 BK271 HB hHeld ⊢
            iterate 2
             refine pI (v := ?_) (a' := ?_) rfl (any_of HT_.out (by kernel_rfl)) (fun _ _ _ h => h) (Or.inl ⟨by rfl, ?_⟩) ?_ ?_
             rotate_left
             ·intro w'
              go_simp
              with_reducible rfl
             rotate_left
             ·show Act.put _ (some _) _ = _
              simp only [Act.put, List.setIfInBounds_toArray, List.set_cons_zero, List.set_cons_succ, i64_w, i32_w]
              rfl
            refine pure_ (i := 6) (N := some 52) (v := ?_) (a' := ?_) #[true, true, false, false, false, false, true, false, false, false, false, false] rfl rfl (any_of HT_.out (by kernel_rfl)) (fun _ _ _ h => h) (Or.inl ⟨by rfl, ?_⟩) ?_ ?_
            rotate_left
            ·intro w'
             go_simp
             with_reducible rfl
            rotate_left
            ·simp only [Act.put, List.setIfInBounds_toArray, List.set_cons_zero, List.set_cons_succ, i64_w, i32_w]
             rfl
            refine take_ (i := 2) (N := some 48) (v := ?_) (a' := ?_) #[true, true, true, false, false, false, true, false, false, false, false, false] rfl rfl (take_ofW HT_.out HW_.out (by kernel_rfl)) (fun _ _ _ h => h) (Or.inl ⟨by rfl, ?_⟩) hHeld ?_ ?_
            rotate_left
            ·rintro w' ⟨s0, s1⟩
             go_simp
             with_reducible rfl
            rotate_left
            ·simp only [Act.put, List.setIfInBounds_toArray, List.set_cons_zero, List.set_cons_succ, i64_w, i32_w]
             rfl
            refine take_ (i := 7) (N := some 53) (v := ?_) (a' := ?_) #[true, true, true, false, false, false, true, true, false, false, false, false] rfl rfl (take_ofW HT_.out HW_.out (by kernel_rfl)) (fun _ _ _ h => h) (Or.inl ⟨by rfl, ?_⟩) hHeld ?_ ?_
            rotate_left
            ·rintro w' ⟨s0, s1⟩
             go_simp
             with_reducible rfl
            rotate_left
            ·simp only [Act.put, List.setIfInBounds_toArray, List.set_cons_zero, List.set_cons_succ, i64_w, i32_w]
             rfl
            refine one_ (i := 3) (N := some 49) #[true, true, true, true, false, false, true, true, false, false, false, false] rfl rfl (one_of HT_.out (by kernel_rfl)) (by decide) (fun K hK => ?_)
            refine goes_ Tryz.func41 (by kernel_rfl) rfl #[.int .i64 t269] (by rfl) rfl rfl (by (try simp only [List.map_toArray, List.map_cons, List.map_nil]); first | done | rfl | (simp only [List.length_drop, List.length_take]; rfl)) ?_
            with_reducible refine (strconv_Itoa_41.calls t269 t272 _ (tabs_stay TABH_.out (show Below w.heap.size w _ from by repeat (first | (with_reducible first | exact HB.out | apply bA | apply bN | apply bD | refine bX ?_ (by assumption)) | exact HB.out))) A16.out).mono ?_
            rintro e w43 ⟨rfl, hb⟩
            refine ⟨_, rfl, ?_⟩
            have hp0 := pA BK259 hb
            have hv := vK HB hb
            have n3_ := Am (bT hv hb)
            clear HB
            replace BK259 := hp0 BK259; replace BK265 := hp0 BK265; replace BK271 := hp0 BK271
            have HB := n3_
            clear n3_ hp0 hv
            (try clear hb)
            refine hK.out _ _ ⟨zc20 BK271.out, zc21 BK271.out⟩ (fun hHeld => ?_)
            clear hK K
            refine norm_ (a' := ?_) ?_ ?_
            rotate_left
            ·show Act.put _ (some 49) _ = _
             simp only [Act.put, List.setIfInBounds_toArray, List.set_cons_zero, List.set_cons_succ, i64_w, i32_w]
             rfl
            refine pure_ (i := 4) (N := some 50) (v := ?_) (a' := ?_) #[true, true, true, true, true, false, true, true, false, false, false, false] rfl rfl (any_of HT_.out (by kernel_rfl)) (fun _ _ _ h => h) (Or.inl ⟨by rfl, ?_⟩) ?_ ?_
            rotate_left
            ·intro w'
             go_simp
             with_reducible rfl
            rotate_left
            ·simp only [Act.put, List.setIfInBounds_toArray, List.set_cons_zero, List.set_cons_succ, i64_w, i32_w]
             rfl
            refine pure_ (i := 5) (N := some 51) (v := ?_) (a' := ?_) (pT 12 8) rfl rfl (any_of HT_.out (by kernel_rfl)) (fun _ _ _ h => h) (Or.inl ⟨by rfl, ?_⟩) ?_ ?_
            rotate_left
            ·intro w'
             go_simp
             with_reducible rfl
            rotate_left
            ·simp only [Act.put, List.setIfInBounds_toArray, List.set_cons_zero, List.set_cons_succ, i64_w, i32_w]
             rfl
            refine one_ (i := 8) (N := some 54) (pT 12 9) rfl rfl (one_of HT_.out (by kernel_rfl)) (by decide) (fun K hK => ?_)
            refine goes_ Tryz.func41 (by kernel_rfl) rfl #[.int .i64 t270] (by rfl) rfl rfl (by (try simp only [List.map_toArray, List.map_cons, List.map_nil]); first | done | rfl | (simp only [List.length_drop, List.length_take]; rfl)) ?_
            with_reducible refine (strconv_Itoa_41.calls t270 t273 _ (tabs_stay TABH_.out (show Below w.heap.size w _ from by repeat (first | (with_reducible first | exact HB.out | apply bA | apply bN | apply bD | refine bX ?_ (by assumption)) | exact HB.out))) A19.out).mono ?_
            rintro e w44 ⟨rfl, hb⟩
            refine ⟨_, rfl, ?_⟩
            have hp0 := pA BK259 hb
            have hv := vK HB hb
            have n3_ := Am (bT hv hb)
            clear HB
            replace BK259 := hp0 BK259; replace BK265 := hp0 BK265; replace BK271 := hp0 BK271
            have HB := n3_
            clear n3_ hp0 hv
            (try clear hb)
            refine hK.out _ _ ⟨zc20 BK271.out, zc21 BK271.out⟩ (fun hHeld => ?_)
            clear hK K
            refine norm_ (a' := ?_) ?_ ?_
            rotate_left
            ·show Act.put _ (some 54) _ = _
             simp only [Act.put, List.setIfInBounds_toArray, List.set_cons_zero, List.set_cons_succ, i64_w, i32_w]
             rfl
            iterate 3
             refine pI (v := ?_) (a' := ?_) rfl (any_of HT_.out (by kernel_rfl)) (fun _ _ _ h => h) (Or.inl ⟨by rfl, ?_⟩) ?_ ?_
             rotate_left
             ·intro w'
              go_simp
              with_reducible rfl
             rotate_left
             ·show Act.put _ (some _) _ = _
              simp only [Act.put, List.setIfInBounds_toArray, List.set_cons_zero, List.set_cons_succ, i64_w, i32_w]
              rfl
            refine done_ (done_of HT_.out (by kernel_rfl)) ?_
            try go_wp2
            go_ret2
            exact ⟨by first | rfl | (simp [errW_none, errW_some] <;> rfl) | (simp [*, errW_none, errW_some] <;> rfl), by repeat (first | (with_reducible first | exact HB.out | apply bA | apply bN | apply bD | refine bX ?_ (by assumption)) | exact HB.out)⟩
          rw [if_neg c21] at H
          exact absurd H (by simp)
         rw [if_neg c20] at H
         exact absurd H (by simp)
        rw [if_neg c18] at H
        exact absurd H (by simp)
       rw [if_neg c17] at H
       exact absurd H (by simp)
      rw [if_neg c15] at H
      have c15b0 : decide (0 < t269) = false := decide_eq_false c15
      clear c15
      focus
       simp only [Option.some.injEq, Prod.mk.injEq] at H
       obtain ⟨rfl, rfl⟩ := H
       go_enter Tryz.func18, Tryz.ntmps18
       try go_wp2_with (first | ((with_reducible refine gate_dst (N := 3) rfl ?_); refine bE 3 #[.int .i64 a1_0, .int .i64 a1_1] 23 ?_; intro gb259 hg w45 hbox hb; have hv := vK HB hb; have n0_ := Am (bT hv hb); have n1_ := Am (hbox); have GE259 := kG hg hv; clear HB; have HB := n0_; have BK259 := n1_; clear n0_ n1_ hv; clear hb hbox hg; have zq46 := zc2 BK259) | ((with_reducible refine gate_callee (f := 27) rfl ?_); refine gL (some 14) Tryz.func27 #[.int .i64 a0, .agg #[.int .i64 a1_0, .int .i64 a1_1]] rfl ?_; (with_reducible refine (impl_isTime.calls k a0 a1_0 a1_1 true _ A3.out).mono ?_); rintro e w47 ⟨rfl, hb⟩; refine ⟨_, rfl, ?_⟩; have hp0 := pA BK259 hb; have hv := vK HB hb; have n1_ := Am (bT hv hb); clear HB; replace BK259 := hp0 BK259; have HB := n1_; clear n1_ hp0 hv; (try clear hb); have zq48 := zc2 BK259) | ((with_reducible refine gate_callee (f := 35) rfl ?_); refine gL (some 19) Tryz.func35 #[.int .i64 a0, .agg #[.int .i64 a1_0, .int .i64 a1_1]] rfl ?_; (with_reducible refine (impl_split.calls k a0 a1_0 a1_1 t261 t262 t263 t264 _ A5.out).mono ?_); rintro e w49 ⟨rfl, hb⟩; refine ⟨_, rfl, ?_⟩; have hp0 := pA BK259 hb; have hv := vK HB hb; have n1_ := Am (bT hv hb); clear HB; replace BK259 := hp0 BK259; have HB := n1_; clear n1_ hp0 hv; (try clear hb)) | ((with_reducible refine gate_dst (N := 8) rfl ?_); refine bE 8 #[.int .i64 0, .int .i64 0] 23 ?_; intro gb265 hg w50 hbox hb; have hp0 := pA BK259 hb; have hv := vK HB hb; have n1_ := Am (bT hv hb); have n2_ := Am (hbox); have GE265 := kG hg hv; have hp1 := pK BK259 hb; obtain ⟨NB259_265, NB265_259⟩ := kXY hg hp1 BK259; clear HB; replace BK259 := hp0 BK259; have HB := n1_; have BK265 := n2_; clear n1_ n2_ hp0 hp1 hv; clear hb hbox hg; have nq51 := kO NB265_259; have zq52 := zc2 BK265))
       have hq := hqR (W := ((w50.setCell ⟨gb265, 0, none⟩ (.int .i64 t263)).setCell ⟨gb265, 1, none⟩ (.int .i64 t264))) gb265 BK259.out (fun _ _ q_ h_ => by (with_reducible repeat (first | refine kN ?_ _ | refine kD ?_ | refine kA ?_ _ | refine kZ ?_ q_ _)); exact h_)
       have n0_ := Am (hq NB259_265.out BK259.out)
       have n1_ : Aside0 (((w50.setCell ⟨gb265, 0, none⟩ (.int .i64 t263)).setCell ⟨gb265, 1, none⟩ (.int .i64 t264)).heap[gb265]? = some (.cells #[.int .i64 t263, .int .i64 t264] 23 (0, 0))) := ⟨by (with_reducible repeat (first | refine kN ?_ _ | refine kD ?_ | refine kA ?_ _)); refine kP (cs := #[.int .i64 t263, .int .i64 0]) ?_ 1 _ rfl; (with_reducible repeat (first | refine kN ?_ _ | refine kD ?_ | refine kA ?_ _)); refine kP (cs := #[.int .i64 0, .int .i64 0]) ?_ 0 _ rfl; (with_reducible repeat (first | refine kN ?_ _ | refine kD ?_ | refine kA ?_ _)); exact BK265.out⟩
       have n2_ : Aside0 (Below w.heap.size w ((w50.setCell ⟨gb265, 0, none⟩ (.int .i64 t263)).setCell ⟨gb265, 1, none⟩ (.int .i64 t264))) := ⟨by repeat (first | (with_reducible first | exact HB.out | apply bA | apply bN | apply bD | refine bX ?_ (by assumption)) | exact HB.out)⟩
       clear hq
       (try clear BK259)
       (try clear BK265)
       (try clear HB)
       generalize ((w50.setCell ⟨gb265, 0, none⟩ (.int .i64 t263)).setCell ⟨gb265, 1, none⟩ (.int .i64 t264)) = w53 at n0_ n1_ n2_ ⊢
       have BK259 := n0_; have BK265 := n1_; have HB := n2_
       clear n0_ n1_ n2_
       have n0_ := Am (kD BK259.out)
       have n1_ := Am (kD BK265.out)
       have n2_ := Am (bD HB.out)
       clear BK259 BK265 HB
       have BK259 := n0_; have BK265 := n1_; have HB := n2_
       clear n0_ n1_ n2_
       refine start_ (n := 14) (S := fun w' => w'.cell? ⟨gb265, 0, none⟩ = some (.int .i64 t263) ∧ w'.cell? ⟨gb265, 1, none⟩ = some (.int .i64 t264)) (ds := []) (pT 14 0) (by kernel_rfl) rfl rfl ⟨zc20 BK265.out, zc21 BK265.out⟩ (fun hHeld => ?_); refine with_tabW impl_TimeText.tab5 impl_TimeText.bits5 (fun HT_ HW_ => ?_)
       generalize w53.drew = w54 at BK259 BK265 HB hHeld ⊢
       refine pI (v := ?_) (a' := ?_) rfl (any_of HT_.out (by kernel_rfl)) (fun _ _ _ h => h) (Or.inl ⟨by rfl, ?_⟩) ?_ ?_
       rotate_left
       ·intro w'
        go_simp
        with_reducible rfl
       rotate_left
       ·show Act.put _ (some _) _ = _
        simp only [Act.put, List.setIfInBounds_toArray, List.set_cons_zero, List.set_cons_succ, i64_w, i32_w]
        rfl
       refine pure_ (i := 3) (N := some 29) (v := ?_) (a' := ?_) #[true, false, false, true, false, false, false, false, false, false, false, false, false, false] rfl rfl (any_of HT_.out (by kernel_rfl)) (fun _ _ _ h => h) (Or.inl ⟨by rfl, ?_⟩) ?_ ?_
       rotate_left
       ·intro w'
        go_simp
        with_reducible rfl
       rotate_left
       ·simp only [Act.put, List.setIfInBounds_toArray, List.set_cons_zero, List.set_cons_succ, i64_w, i32_w]
        rfl
       refine pure_ (i := 7) (N := some 33) (v := ?_) (a' := ?_) #[true, false, false, true, false, false, false, true, false, false, false, false, false, false] rfl rfl (any_of HT_.out (by kernel_rfl)) (fun _ _ _ h => h) (Or.inl ⟨by rfl, ?_⟩) ?_ ?_
       rotate_left
       ·intro w'
        go_simp
        with_reducible rfl
       rotate_left
       ·simp only [Act.put, List.setIfInBounds_toArray, List.set_cons_zero, List.set_cons_succ, i64_w, i32_w]
        rfl
       refine pure_ (i := 8) (N := some 34) (v := ?_) (a' := ?_) #[true, false, false, true, false, false, false, true, true, false, false, false, false, false] rfl rfl (any_of HT_.out (by kernel_rfl)) (fun _ _ _ h => h) (Or.inl ⟨by rfl, ?_⟩) ?_ ?_
       rotate_left
       ·intro w'
        go_simp
        with_reducible rfl
       rotate_left
       ·simp only [Act.put, List.setIfInBounds_toArray, List.set_cons_zero, List.set_cons_succ, i64_w, i32_w]
        rfl
       refine take_ (i := 9) (N := some 35) (v := ?_) (a' := ?_) #[true, false, false, true, false, false, false, true, true, true, false, false, false, false] rfl rfl (take_ofW HT_.out HW_.out (by kernel_rfl)) (fun _ _ _ h => h) (Or.inl ⟨by rfl, ?_⟩) hHeld ?_ ?_
       rotate_left
       ·rintro w' ⟨s0, s1⟩
        go_simp
        with_reducible rfl
       rotate_left
       ·simp only [Act.put, List.setIfInBounds_toArray, List.set_cons_zero, List.set_cons_succ, i64_w, i32_w]
        rfl
       refine pure_ (i := 10) (N := some 36) (v := ?_) (a' := ?_) #[true, false, false, true, false, false, false, true, true, true, true, false, false, false] rfl rfl (any_of HT_.out (by kernel_rfl)) (fun _ _ _ h => h) (Or.inl ⟨by rfl, ?_⟩) ?_ ?_
       rotate_left
       ·intro w'
        go_simp
        with_reducible rfl
       rotate_left
       ·simp only [Act.put, List.setIfInBounds_toArray, List.set_cons_zero, List.set_cons_succ, i64_w, i32_w]
        rfl
       refine one_ (i := 1) (N := some 27) #[true, true, false, true, false, false, false, true, true, true, true, false, false, false] rfl rfl (one_of HT_.out (by kernel_rfl)) (by decide) (fun K hK => ?_)
       refine goes_ Tryz.func39 (by kernel_rfl) rfl #[.int .i64 t261] (by rfl) rfl rfl (by (try simp only [List.map_toArray, List.map_cons, List.map_nil]); first | done | rfl | (simp only [List.length_drop, List.length_take]; rfl)) ?_
       with_reducible refine (impl_twoDigits.calls t261 t266 _ (tabs_stay TABH_.out (show Below w.heap.size w _ from by repeat (first | (with_reducible first | exact HB.out | apply bA | apply bN | apply bD | refine bX ?_ (by assumption)) | exact HB.out))) A6.out).mono ?_
       rintro e w55 ⟨rfl, hb⟩
       refine ⟨_, rfl, ?_⟩
       have hp0 := pA BK259 hb
       have hv := vK HB hb
       have n2_ := Am (bT hv hb)
       clear HB
       replace BK259 := hp0 BK259; replace BK265 := hp0 BK265
       have HB := n2_
       clear n2_ hp0 hv
       (try clear hb)
       refine hK.out _ _ ⟨zc20 BK265.out, zc21 BK265.out⟩ (fun hHeld => ?_)
       clear hK K
       refine norm_ (a' := ?_) ?_ ?_
       rotate_left
       ·show Act.put _ (some 27) _ = _
        simp only [Act.put, List.setIfInBounds_toArray, List.set_cons_zero, List.set_cons_succ, i64_w, i32_w]
        rfl
       refine pure_ (i := 2) (N := some 28) (v := ?_) (a' := ?_) #[true, true, true, true, false, false, false, true, true, true, true, false, false, false] rfl rfl (any_of HT_.out (by kernel_rfl)) (fun _ _ _ h => h) (Or.inl ⟨by rfl, ?_⟩) ?_ ?_
       rotate_left
       ·intro w'
        go_simp
        with_reducible rfl
       rotate_left
       ·simp only [Act.put, List.setIfInBounds_toArray, List.set_cons_zero, List.set_cons_succ, i64_w, i32_w]
        rfl
       refine one_ (i := 4) (N := some 30) #[true, true, true, true, true, false, false, true, true, true, true, false, false, false] rfl rfl (one_of HT_.out (by kernel_rfl)) (by decide) (fun K hK => ?_)
       refine goes_ Tryz.func39 (by kernel_rfl) rfl #[.int .i64 t262] (by rfl) rfl rfl (by (try simp only [List.map_toArray, List.map_cons, List.map_nil]); first | done | rfl | (simp only [List.length_drop, List.length_take]; rfl)) ?_
       with_reducible refine (impl_twoDigits.calls t262 t267 _ (tabs_stay TABH_.out (show Below w.heap.size w _ from by repeat (first | (with_reducible first | exact HB.out | apply bA | apply bN | apply bD | refine bX ?_ (by assumption)) | exact HB.out))) A8.out).mono ?_
       rintro e w56 ⟨rfl, hb⟩
       refine ⟨_, rfl, ?_⟩
       have hp0 := pA BK259 hb
       have hv := vK HB hb
       have n2_ := Am (bT hv hb)
       clear HB
       replace BK259 := hp0 BK259; replace BK265 := hp0 BK265
       have HB := n2_
       clear n2_ hp0 hv
       (try clear hb)
       refine hK.out _ _ ⟨zc20 BK265.out, zc21 BK265.out⟩ (fun hHeld => ?_)
       clear hK K
       refine norm_ (a' := ?_) ?_ ?_
       rotate_left
       ·show Act.put _ (some 30) _ = _
        simp only [Act.put, List.setIfInBounds_toArray, List.set_cons_zero, List.set_cons_succ, i64_w, i32_w]
        rfl
       refine pure_ (i := 5) (N := some 31) (v := ?_) (a' := ?_) #[true, true, true, true, true, true, false, true, true, true, true, false, false, false] rfl rfl (any_of HT_.out (by kernel_rfl)) (fun _ _ _ h => h) (Or.inl ⟨by rfl, ?_⟩) ?_ ?_
       rotate_left
       ·intro w'
        go_simp
        with_reducible rfl
       rotate_left
       ·simp only [Act.put, List.setIfInBounds_toArray, List.set_cons_zero, List.set_cons_succ, i64_w, i32_w]
        rfl
       refine pure_ (i := 6) (N := some 32) (v := ?_) (a' := ?_) (pT 14 11) rfl rfl (any_of HT_.out (by kernel_rfl)) (fun _ _ _ h => h) (Or.inl ⟨by rfl, ?_⟩) ?_ ?_
       rotate_left
       ·intro w'
        go_simp
        with_reducible rfl
       rotate_left
       ·simp only [Act.put, List.setIfInBounds_toArray, List.set_cons_zero, List.set_cons_succ, i64_w, i32_w]
        rfl
       refine one_ (i := 11) (N := some 37) (pT 14 12) rfl rfl (one_of HT_.out (by kernel_rfl)) (by decide) (fun K hK => ?_)
       refine goes_ Tryz.func39 (by kernel_rfl) rfl #[.int .i64 (wrap64 (Int.tdiv (wrap64 (t263 * 60)) t264))] (by rfl) rfl rfl (by (try simp only [List.map_toArray, List.map_cons, List.map_nil]); first | done | rfl | (simp only [List.length_drop, List.length_take]; rfl)) ?_
       with_reducible refine (impl_twoDigits.calls (wrap64 (Int.tdiv (wrap64 (t263 * 60)) t264)) t268 _ (tabs_stay TABH_.out (show Below w.heap.size w _ from by repeat (first | (with_reducible first | exact HB.out | apply bA | apply bN | apply bD | refine bX ?_ (by assumption)) | exact HB.out))) A12.out).mono ?_
       rintro e w57 ⟨rfl, hb⟩
       refine ⟨_, rfl, ?_⟩
       have hp0 := pA BK259 hb
       have hv := vK HB hb
       have n2_ := Am (bT hv hb)
       clear HB
       replace BK259 := hp0 BK259; replace BK265 := hp0 BK265
       have HB := n2_
       clear n2_ hp0 hv
       (try clear hb)
       refine hK.out _ _ ⟨zc20 BK265.out, zc21 BK265.out⟩ (fun hHeld => ?_)
       clear hK K
       refine norm_ (a' := ?_) ?_ ?_
       rotate_left
       ·show Act.put _ (some 37) _ = _
        simp only [Act.put, List.setIfInBounds_toArray, List.set_cons_zero, List.set_cons_succ, i64_w, i32_w]
        rfl
       iterate 2
        refine pI (v := ?_) (a' := ?_) rfl (any_of HT_.out (by kernel_rfl)) (fun _ _ _ h => h) (Or.inl ⟨by rfl, ?_⟩) ?_ ?_
        rotate_left
        ·intro w'
         go_simp
         with_reducible rfl
        rotate_left
        ·show Act.put _ (some _) _ = _
         simp only [Act.put, List.setIfInBounds_toArray, List.set_cons_zero, List.set_cons_succ, i64_w, i32_w]
         rfl
       refine done_ (done_of HT_.out (by kernel_rfl)) ?_
       have zq58 := zc2 BK265
       try go_wp2_with (first | ((with_reducible refine gate_callee (f := 40) rfl ?_); refine gL (some 42) Tryz.func40 #[.int .i64 (wrap64 (t263 * 60)), .int .i64 t264] rfl ?_; (with_reducible refine (impl_part.calls k (wrap64 (t263 * 60)) t264 t269 t270 _ A14.out).mono ?_); rintro e w59 ⟨rfl, hb⟩; refine ⟨_, rfl, ?_⟩; have hp0 := pA BK259 hb; have hv := vK HB hb; have n2_ := Am (bT hv hb); clear HB; replace BK259 := hp0 BK259; replace BK265 := hp0 BK265; have HB := n2_; clear n2_ hp0 hv; (try clear hb)) | ((with_reducible refine gate_dst (N := 11) rfl ?_); refine bE 11 #[.int .i64 0, .int .i64 0] 23 ?_; intro gb271 hg w60 hbox hb; have hp0 := pA BK259 hb; have hv := vK HB hb; have n2_ := Am (bT hv hb); have n3_ := Am (hbox); have GE271 := kG hg hv; have hp1 := pK BK259 hb; obtain ⟨NB259_271, NB271_259⟩ := kXY hg hp1 BK259; obtain ⟨NB265_271, NB271_265⟩ := kXY hg hp1 BK265; clear HB; replace BK259 := hp0 BK259; replace BK265 := hp0 BK265; have HB := n2_; have BK271 := n3_; clear n2_ n3_ hp0 hp1 hv; clear hb hbox hg; have nq61 := kO NB271_259; have nq62 := kO NB271_265; have zq63 := zc2 BK271))
       go_ret2
       exact ⟨by first | rfl | (simp [errW_none, errW_some] <;> rfl) | (simp [*, errW_none, errW_some] <;> rfl), by repeat (first | (with_reducible first | exact HB.out | apply bA | apply bN | apply bD | refine bX ?_ (by assumption)) | exact HB.out)⟩
     rw [if_neg c13] at H
     exact absurd H (by simp)
    rw [if_neg c10] at H
    exact absurd H (by simp)
   rw [if_neg c9] at H
   exact absurd H (by simp)
  rw [if_neg c7] at H
  exact absurd H (by simp)
 replace c4 := Bool.eq_false_iff.mpr c4
 subst c4
 have H1 : (some ((⟨#[]⟩ : ByteArray), false)) = some (r1, r2) := by rw [if_neg (show ¬ (false = true) by decide)] at H; exact H
 clear H
 have H := H1
 clear H1
 focus
  simp only [Option.some.injEq, Prod.mk.injEq] at H
  obtain ⟨rfl, rfl⟩ := H
  go_enter Tryz.func18, Tryz.ntmps18
  go_wp2_with (first | ((with_reducible refine gate_dst (N := 3) rfl ?_); refine bE 3 #[.int .i64 a1_0, .int .i64 a1_1] 23 ?_; intro gb259 hg w64 hbox hb; have hv := vK HB hb; have n0_ := Am (bT hv hb); have n1_ := Am (hbox); have GE259 := kG hg hv; clear HB; have HB := n0_; have BK259 := n1_; clear n0_ n1_ hv; clear hb hbox hg; have zq65 := zc2 BK259) | ((with_reducible refine gate_callee (f := 27) rfl ?_); refine gL (some 14) Tryz.func27 #[.int .i64 a0, .agg #[.int .i64 a1_0, .int .i64 a1_1]] rfl ?_; (with_reducible refine (impl_isTime.calls k a0 a1_0 a1_1 false _ A3.out).mono ?_); rintro e w66 ⟨rfl, hb⟩; refine ⟨_, rfl, ?_⟩; have hp0 := pA BK259 hb; have hv := vK HB hb; have n1_ := Am (bT hv hb); clear HB; replace BK259 := hp0 BK259; have HB := n1_; clear n1_ hp0 hv; (try clear hb)))
  go_ret2
  exact ⟨by first | rfl | (simp [errW_none, errW_some] <;> rfl) | (simp [*, errW_none, errW_some] <;> rfl), by repeat (first | (with_reducible first | exact HB.out | apply bA | apply bN | apply bD | refine bX ?_ (by assumption)) | exact HB.out)⟩
end Go.Proofs.YtchglfpiicaedaaGreatDoor.PFnHandsStandOfAll
