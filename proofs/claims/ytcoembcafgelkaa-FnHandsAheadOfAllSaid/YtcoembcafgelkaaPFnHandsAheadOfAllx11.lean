-- WRITTEN BY A PROGRAM OF THIS SESSION (wip/tools): its own text, not the kit's printed one.
import Derived.Lib.SliceRun
import Derived.Test.YtcoembcafgelkaaPFnHandsAheadOfAllx0
import Derived.Test.YtcoembcafgelkaaPFnHandsAheadOfAllx1
import Derived.Test.YtcoembcafgelkaaPFnHandsAheadOfAllx3
import Derived.Test.YtcoembcafgelkaaPFnHandsAheadOfAllx6
import Derived.Test.YtcoembcafgelkaaPFnHandsAheadOfAllx7
import Derived.Test.YtcoembcafgelkaaPFnHandsAheadOfAllx8
import Derived.Test.YtcoembcafgelkaaPFnHandsAheadOfAllx10
namespace Go.Proofs.Ytcoembcafgelkaa.PFnHandsAheadOfAll
open Go.RowKit Go.Proofs.YtcoembcafgelkaaW.PrintWords Go.Proofs.YtcoembcafgelkaaW.PrintLast Go.Proofs.YtcoembcafgelkaaW.PrintMore
attribute [local go_sem] max2_int min2_int max_two min_two max_three min_three max_four min_four   -- for this text's walks alone
set_option linter.unusedVariables false
set_option linter.unusedSimpArgs false

attribute [local go_sem high] eqA23
/-! ### impl_ThreeMeet_1: function 40 -/
def impl_ThreeMeet_1.f (k : Nat) (a0_0 : Int) (a0_1 : Int) (a1_0 : Int) (a1_1 : Int) (a1_2 : Int) (a2_0 : Int) (a2_1 : Int) (a2_2 : Int) : Option (Bool) := (impl_Hand_at.f k a1_0 a1_1 a1_2 a0_0 a0_1).bind fun bt371 => ((impl_Hand_at.f k a2_0 a2_1 a2_2 a0_0 a0_1).bind fun bt373 => (some (!(bt371.1 == bt373.1) || (!(bt371.2 == bt373.2)))))
theorem impl_ThreeMeet_1.mono : ∀ a0 a1 a2 a3 a4 a5 a6 a7 k, LeO (impl_ThreeMeet_1.f k a0 a1 a2 a3 a4 a5 a6 a7) (impl_ThreeMeet_1.f (k + 1) a0 a1 a2 a3 a4 a5 a6 a7) := by
 intro a0 a1 a2 a3 a4 a5 a6 a7 k
 unfold impl_ThreeMeet_1.f
 repeat' first
   | (with_reducible exact impl_Hand_at.mono _ _ _ _ _ _)
   | (with_reducible exact LeO.refl _)
   | (with_reducible exact LeO.none _)
   | (with_reducible refine LeO.ite ?_ ?_)
   | (with_reducible refine LeO.bind ?_ (fun _ => ?_))
   | exact impl_Hand_at.mono _ _ _ _ _ _
   | exact LeO.none _
   | refine LeO.ite ?_ ?_
   | refine LeO.bind ?_ (fun _ => ?_)
def impl_ThreeMeet_1.T1 : Bool × List (List Nat × List Nat) := (true, [([], []), ([], []), ([0, 1], [0, 1]), ([], []), ([], []), ([3, 4, 2], [3, 4]), ([2, 5], [2, 5]), ([6, 5, 0, 1, 2, 3, 4, 5, 6], [6])])
def impl_ThreeMeet_1.B1 : List Nat := [0, 0, 3, 0, 0, 31, 63, 127]
theorem impl_ThreeMeet_1.tab1 : rtab .any (opsOf Try.f40 1) = impl_ThreeMeet_1.T1 := by kernel_rfl
theorem impl_ThreeMeet_1.bits1 : waitsOk impl_ThreeMeet_1.T1.2 impl_ThreeMeet_1.B1 = true := by kernel_rfl
set_option maxHeartbeats 8000000 in
set_option maxRecDepth 100000 in
theorem impl_ThreeMeet_1.calls (k : Nat) (a0_0 : Int) (a0_1 : Int) (a1_0 : Int) (a1_1 : Int) (a1_2 : Int) (a2_0 : Int) (a2_1 : Int) (a2_2 : Int) (r : Bool) (w : World) (gb368 : Nat) (hb368 : w.heap[gb368]? = some (.cells #[.int .i64 a1_0, .int .i64 a1_1, .int .i64 a1_2] 25 (0, 0))) (gb369 : Nat) (hb369 : w.heap[gb369]? = some (.cells #[.int .i64 a2_0, .int .i64 a2_1, .int .i64 a2_2] 25 (0, 0))) (hn368_369 : gb368 ≠ gb369) (h : impl_ThreeMeet_1.f k a0_0 a0_1 a1_0 a1_1 a1_2 a2_0 a2_1 a2_2 = some r) :
  Calls Try.prog 40 #[.agg #[.int .i64 a0_0, .int .i64 a0_1], .pointer (some ⟨gb368, 0, none⟩), .pointer (some ⟨gb369, 0, none⟩)] w fun e w' => e = .returned (.bool r) ∧ Below w.heap.size w w' := by
 have hu23 := Try.underlying23; have hu25 := Try.underlying25
 have BK368 := Am hb368
 clear hb368
 have BK369 := Am hb369
 clear hb369
 have NB368_369 := Am hn368_369
 have NB369_368 := Am hn368_369.symm
 clear hn368_369
 have HB := Am (Below.refl w.heap.size w)
 have H : ((impl_Hand_at.f k a1_0 a1_1 a1_2 a0_0 a0_1).bind fun bt371 => ((impl_Hand_at.f k a2_0 a2_1 a2_2 a0_0 a0_1).bind fun bt373 => (some (!(bt371.1 == bt373.1) || (!(bt371.2 == bt373.2)))))) = some r := h
 clear h
 replace H := Option.bind_eq_some_iff.mp H
 obtain ⟨⟨t371, t372⟩, A40, H⟩ := H
 try dsimp only at H
 have A4 := Am A40
 clear A40
 replace H := Option.bind_eq_some_iff.mp H
 obtain ⟨⟨t373, t374⟩, A50, H⟩ := H
 try dsimp only at H
 have A5 := Am A50
 clear A50
 focus
  obtain rfl := Option.some.inj H
  go_enter Try.func40, Try.ntmps40
  try go_wp2_with (first | ((with_reducible refine gate_dst (N := 3) rfl ?_); refine bE 3 #[.int .i64 a0_0, .int .i64 a0_1] 23 ?_; intro gb370 hg w6 hbox hb; have hp0 := pA BK368 hb; have hv := vK HB hb; have n2_ := Am (bT hv hb); have n3_ := Am (hbox); have GE370 := kG hg hv; have hp1 := pK BK368 hb; obtain ⟨NB368_370, NB370_368⟩ := kXY hg hp1 BK368; obtain ⟨NB369_370, NB370_369⟩ := kXY hg hp1 BK369; clear HB; replace BK368 := hp0 BK368; replace BK369 := hp0 BK369; have HB := n2_; have BK370 := n3_; clear n2_ n3_ hp0 hp1 hv; clear hb hbox hg))
  have n0_ := Am (kD BK368.out)
  have n1_ := Am (kD BK369.out)
  have n2_ := Am (kD BK370.out)
  have n3_ := Am (bD HB.out)
  clear BK368 BK369 BK370 HB
  have BK368 := n0_; have BK369 := n1_; have BK370 := n2_; have HB := n3_
  clear n0_ n1_ n2_ n3_
  refine start_ (n := 8) (S := fun w' => w'.cell? ⟨gb368, 0, none⟩ = some (.int .i64 a1_0) ∧ w'.cell? ⟨gb368, 1, none⟩ = some (.int .i64 a1_1) ∧ w'.cell? ⟨gb368, 2, none⟩ = some (.int .i64 a1_2) ∧ w'.cell? ⟨gb370, 0, none⟩ = some (.int .i64 a0_0) ∧ w'.cell? ⟨gb370, 1, none⟩ = some (.int .i64 a0_1) ∧ w'.cell? ⟨gb369, 0, none⟩ = some (.int .i64 a2_0) ∧ w'.cell? ⟨gb369, 1, none⟩ = some (.int .i64 a2_1) ∧ w'.cell? ⟨gb369, 2, none⟩ = some (.int .i64 a2_2)) (ds := []) (pT 8 0) (by kernel_rfl) rfl rfl ⟨c30 BK368.out, c31 BK368.out, c32 BK368.out, c20 BK370.out, c21 BK370.out, c30 BK369.out, c31 BK369.out, c32 BK369.out⟩ (fun hHeld => ?_); refine with_tabW impl_ThreeMeet_1.tab1 impl_ThreeMeet_1.bits1 (fun HT_ HW_ => ?_)
  generalize w6.drew = w7 at BK368 BK369 BK370 HB hHeld ⊢
  iterate 2
   refine tI (v := ?_) (a' := ?_) rfl (take_ofW HT_.out HW_.out (by kernel_rfl)) (fun _ _ _ h => h) (Or.inl ⟨by rfl, ?_⟩) hHeld ?_ ?_
   rotate_left
   ·rintro w' ⟨s0, s1, s2, s3, s4, s5, s6, s7⟩
    go_simp
    with_reducible rfl
   rotate_left
   ·show Act.put _ (some _) _ = _
    simp only [Act.put, List.setIfInBounds_toArray, List.set_cons_zero, List.set_cons_succ, i64_w, i32_w]
    rfl
  refine take_ (i := 3) (N := some 8) (v := ?_) (a' := ?_) #[true, true, false, true, false, false, false, false] rfl rfl (take_ofW HT_.out HW_.out (by kernel_rfl)) (fun _ _ _ h => h) (Or.inl ⟨by rfl, ?_⟩) hHeld ?_ ?_
  rotate_left
  ·rintro w' ⟨s0, s1, s2, s3, s4, s5, s6, s7⟩
   go_simp
   with_reducible rfl
  rotate_left
  ·simp only [Act.put, List.setIfInBounds_toArray, List.set_cons_zero, List.set_cons_succ, i64_w, i32_w]
   rfl
  refine take_ (i := 4) (N := some 9) (v := ?_) (a' := ?_) #[true, true, false, true, true, false, false, false] rfl rfl (take_ofW HT_.out HW_.out (by kernel_rfl)) (fun _ _ _ h => h) (Or.inl ⟨by rfl, ?_⟩) hHeld ?_ ?_
  rotate_left
  ·rintro w' ⟨s0, s1, s2, s3, s4, s5, s6, s7⟩
   go_simp
   with_reducible rfl
  rotate_left
  ·simp only [Act.put, List.setIfInBounds_toArray, List.set_cons_zero, List.set_cons_succ, i64_w, i32_w]
   rfl
  refine one_ (i := 2) (N := some 7) (pT 8 5) rfl rfl (one_of HT_.out (by kernel_rfl)) (by decide) (fun K hK => ?_)
  refine goes_ Try.func33 (by kernel_rfl) rfl #[.agg #[.int .i64 a1_0, .int .i64 a1_1, .int .i64 a1_2], .agg #[.int .i64 a0_0, .int .i64 a0_1]] (by rfl) rfl rfl (by (try simp only [List.map_toArray, List.map_cons, List.map_nil]); first | done | rfl | (simp only [List.length_drop, List.length_take]; rfl)) ?_
  with_reducible refine (impl_Hand_at.calls k a1_0 a1_1 a1_2 a0_0 a0_1 t371 t372 _ A4.out).mono ?_
  rintro e w8 ⟨rfl, hb⟩
  refine ⟨_, rfl, ?_⟩
  have hp0 := pA BK368 hb
  have hv := vK HB hb
  have n3_ := Am (bT hv hb)
  clear HB
  replace BK368 := hp0 BK368; replace BK369 := hp0 BK369; replace BK370 := hp0 BK370
  have HB := n3_
  clear n3_ hp0 hv
  (try clear hb)
  refine hK.out _ _ ⟨c30 BK368.out, c31 BK368.out, c32 BK368.out, c20 BK370.out, c21 BK370.out, c30 BK369.out, c31 BK369.out, c32 BK369.out⟩ (fun hHeld => ?_)
  clear hK K
  refine norm_ (a' := ?_) ?_ ?_
  rotate_left
  ·show Act.put _ (some 7) _ = _
   simp only [Act.put, List.setIfInBounds_toArray, List.set_cons_zero, List.set_cons_succ, i64_w, i32_w]
   rfl
  refine one_ (i := 5) (N := some 10) (pT 8 6) rfl rfl (one_of HT_.out (by kernel_rfl)) (by decide) (fun K hK => ?_)
  refine goes_ Try.func33 (by kernel_rfl) rfl #[.agg #[.int .i64 a2_0, .int .i64 a2_1, .int .i64 a2_2], .agg #[.int .i64 a0_0, .int .i64 a0_1]] (by rfl) rfl rfl (by (try simp only [List.map_toArray, List.map_cons, List.map_nil]); first | done | rfl | (simp only [List.length_drop, List.length_take]; rfl)) ?_
  with_reducible refine (impl_Hand_at.calls k a2_0 a2_1 a2_2 a0_0 a0_1 t373 t374 _ A5.out).mono ?_
  rintro e w9 ⟨rfl, hb⟩
  refine ⟨_, rfl, ?_⟩
  have hp0 := pA BK368 hb
  have hv := vK HB hb
  have n3_ := Am (bT hv hb)
  clear HB
  replace BK368 := hp0 BK368; replace BK369 := hp0 BK369; replace BK370 := hp0 BK370
  have HB := n3_
  clear n3_ hp0 hv
  (try clear hb)
  refine hK.out _ _ ⟨c30 BK368.out, c31 BK368.out, c32 BK368.out, c20 BK370.out, c21 BK370.out, c30 BK369.out, c31 BK369.out, c32 BK369.out⟩ (fun hHeld => ?_)
  clear hK K
  refine norm_ (a' := ?_) ?_ ?_
  rotate_left
  ·show Act.put _ (some 10) _ = _
   simp only [Act.put, List.setIfInBounds_toArray, List.set_cons_zero, List.set_cons_succ, i64_w, i32_w]
   rfl
  iterate 2
   refine pI (v := ?_) (a' := ?_) rfl (any_of HT_.out (by kernel_rfl)) (fun _ _ _ h => h) (Or.inl ⟨by rfl, ?_⟩) ?_ ?_
   rotate_left
   ·intro w'
    go_simp
    with_reducible rfl
   rotate_left
   ·show Act.put _ (some _) _ = _
    simp only [Act.put, List.setIfInBounds_toArray, List.set_cons_zero, List.set_cons_succ, i64_w, i32_w]
    rfl
  refine done_ (done_of HT_.out (by kernel_rfl)) ?_
  try go_wp2
  go_ret
  exact ⟨by first | rfl | (simp [errW_none, errW_some] <;> rfl) | (simp [*, errW_none, errW_some] <;> rfl), by repeat (first | (with_reducible first | exact HB.out | apply bA | apply bN | apply bD | refine bX ?_ (by assumption)) | exact HB.out)⟩
open Kd in
theorem R_beyond {α : Type} {d : Kd α} {e g m cap base : Nat} {W : World} {ok : Nat → Prop} {xs : List α} (h : d.R e W base ok (.slice (some ⟨g, 0, none⟩) m cap) xs) (o : Nat) (seg : List Value) (h0 : m * d.sz ≤ o) (h1 : o + seg.length ≤ cap * d.sz) :
  d.R e (W.setCells g o seg) base ok (.slice (some ⟨g, 0, none⟩) m cap) xs ∧ W.grownBy (W.setCells g o seg) (some g) := by
 obtain ⟨hn, hnc, _⟩ := R_reads' h
 obtain ⟨hok, inner, ho, hr⟩ := h
 obtain ⟨ho1, ho2⟩ := ho
 rcases ho2 with ⟨hv, _⟩ | ⟨g', cap', cur, hv, hb, hh, hnc', hcm, hcs, ht⟩
 ·cases hv
 injection hv with ha _ hc
 injection ha with ha
 injection ha with hg
 subst hg; subst hc
 have hfit : o + seg.length ≤ cur.size := by omega
 obtain ⟨cur', h3, h4, h5⟩ := setCells_row seg o W cur hh hfit
 obtain ⟨s1, s2, s3, s4⟩ := setCells_same g seg o W
 have hfar : ∀ k, k ≠ g → (W.setCells g o seg).heap[k]? = W.heap[k]? := fun k hk => setCells_far seg _ k hk
 refine ⟨⟨hok, inner, ⟨ho1, .inr ⟨g, cap, cur', by rw [hn], hb, h3, hnc', hcm, by rw [h4, hcs], ?_⟩⟩, ?_⟩, ⟨s1, s2, s3, by rw [s4]; exact Nat.le_refl _, fun k _ hk => hfar k (fun he => hk (by rw [he]))⟩⟩
 ·rw [← ht, h5]
  apply List.ext_getElem?
  intro q
  rw [List.getElem?_take, List.getElem?_take, seg_get cur.toList seg o (by rw [Array.length_toList]; omega) q]
  by_cases hq : q < xs.length * d.sz
  ·rw [if_pos hq, if_pos hq]; rw [hn] at h0; rw [if_pos (by omega)]
  ·rw [if_neg hq, if_neg hq]
 ·exact hr.imp_ (fun p c hp => d.M_move (fun k hk => hfar k (fun he => hk.2 (by rw [he]; rfl))) hp)
theorem run_clear2 {P : Program} (w : World) (t e ty : TypeId) (z0 : Value) (ht : P.underlying t = some (.slice e)) (hv : ∀ w, (zeroValue e).run P w = .ok (.agg #[z0, z0]) w) (hz : (Value.agg #[z0, z0]).cells = #[z0, z0]) (h1 : z0.oneCell' = true) (b o n c : Nat) (hn : 0 < n)
  (hc : ∀ j, j < n * 2 → (w.cell? ⟨b, o + j, none⟩).isSome = true) (hf : ∀ j, j < n * 2 → w.frozen? ⟨b, o + j, none⟩ = false) :
  (Builtin.clear_ #[t] ty #[.slice (some ⟨b, o, none⟩) n c]).run P w = .ok (.tuple #[]) (w.setCells b o (List.replicate (n * 2) z0)) := by
 have hzc : (Builtin.zeroCells (Value.agg #[z0, z0]).cells n).toList = List.replicate (n * 2) z0 := by
  rw [hz]
  simp [Builtin.zeroCells]
  apply List.ext_getElem
  ·simp
  ·intro i h1 h2
   have : i % 2 = 0 ∨ i % 2 = 1 := by omega
   rcases this with h | h <;> simp [h]
 have hst := run_storeCells_cells (P := P) b o (List.replicate (n * 2) z0) 0 w (by simpa using hc) (by simpa using hf) (by intro v hv'; rw [List.eq_of_mem_replicate hv']; exact h1)
 simp only [Nat.add_zero] at hst
 obtain ⟨m, rfl⟩ : ∃ m, n = m + 1 := ⟨n - 1, by omega⟩
 simp [Builtin.clear_, run_underlying ht, hv, hzc, hst]
/-! ### slices.IndexFunc and slices.DeleteFunc with the literal of ThreeMeet -/
def dl_ix (p : S23 → Bool) : List S23 → Int → Int
 | [], _ => -1
 | x :: xs, i => if p x = true then i else dl_ix p xs (i + 1)
theorem dl_ix_at (p : S23 → Bool) (l0 : List S23) (x8 : Int) (h0 : 0 ≤ x8) (h1 : x8 < (l0.length : Int)) : dl_ix p (l0.drop x8.toNat) x8 = if p (rd_T23 l0 x8) = true then x8 else dl_ix p (l0.drop (x8 + 1).toNat) (x8 + 1) := by
 have hl : x8.toNat < l0.length := by omega
 have e1 : rd_T23 l0 x8 = l0[x8.toNat] := by unfold rd_T23; rw [List.getD_eq_getElem?_getD, List.getElem?_eq_getElem hl]; rfl
 rw [List.drop_eq_getElem_cons hl, e1, show (x8 + 1).toNat = x8.toNat + 1 by omega]
 rfl
theorem dl_mem (l0 : List S23) (x8 : Int) (h0 : 0 ≤ x8) (h1 : x8 < (l0.length : Int)) : rd_T23 l0 x8 ∈ l0 := by
 have hl : x8.toNat < l0.length := by omega
 have e1 : rd_T23 l0 x8 = l0[x8.toNat] := by unfold rd_T23; rw [List.getD_eq_getElem?_getD, List.getElem?_eq_getElem hl]; rfl
 rw [e1]; exact List.getElem_mem hl
set_option maxHeartbeats 8000000 in
set_option maxRecDepth 100000 in
theorem dl_index (k : Nat) (A0 : Option Addr) (c0 : Nat) (l0 : List S23) (p : S23 → Bool) (m0 m1 m2 n0 n1 n2 : Int) (ga gc : Nat) (w : World) (hba : w.heap[ga]? = some (.cells #[.int .i64 m0, .int .i64 m1, .int .i64 m2] 25 (0, 0))) (hbc : w.heap[gc]? = some (.cells #[.int .i64 n0, .int .i64 n1, .int .i64 n2] 25 (0, 0))) (hne : ga ≠ gc)
  (hr0 : Kd.C k23 w A0 l0.length l0) (hc0 : l0.length ≤ c0) (hlen : l0.length < 4611686018427387904) (hp : ∀ x, x ∈ l0 → impl_ThreeMeet_1.f k x.f0 x.f1 m0 m1 m2 n0 n1 n2 = some (p x)) :
  Calls Try.prog 55 #[.slice A0 l0.length c0, .func (.func 40) #[] #[.pointer (some ⟨ga, 0, none⟩), .pointer (some ⟨gc, 0, none⟩)]] w fun e w' => e = .returned (.int .i64 (dl_ix p l0 0)) ∧ Below w.heap.size w w' := by
 have HR0 := Am hr0
 have BA := Am hba
 have BC := Am hbc
 have NE := Am hne
 have HP := Am hp
 obtain ⟨r, hr⟩ : ∃ r, dl_ix p l0 0 = r := ⟨_, rfl⟩
 have H' : Aside0 (dl_ix p (l0.drop (0 : Int).toNat) 0 = r) := ⟨hr⟩
 rw [hr]
 clear hr0 hba hbc hne hp hr
 have hu23 := Try.underlying23
 go_enter Try.func55, Try.ntmps55
 go_wp2
 go_loopg [5, 8] l0.length (fun gg v5 v8 w' => ∃ x8 : Int, 0 ≤ x8 ∧ x8 ≤ (l0.length : Int) ∧ (l0.length : Int) - x8 ≤ gg ∧ v8 = .int .i64 x8 ∧ Aside0 (dl_ix p (l0.drop x8.toNat) x8 = r) ∧ Aside0 (Below w.heap.size w w'))
 case atStart => exact ⟨0, by omega, by omega, by omega, rfl, H', ⟨Below.refl _ w⟩⟩
 case round =>
  clear H'
  obtain ⟨x8, hx0, hx1, hg, rfl, HA, HB⟩ := hrel
  have hbd : x8 < 4611686018427387904 := by omega
  by_cases hlt : x8 < (l0.length : Int)
  ·have hltb : decide (x8 < (l0.length : Int)) = true := decide_eq_true hlt
   have hx0b : decide (0 ≤ x8) = true := decide_eq_true hx0
   have HL := Am (HP.out _ (dl_mem l0 x8 hx0 hlt))
   have HA2 := Am ((dl_ix_at p l0 x8 hx0 hlt).symm.trans HA.out)
   clear HA
   obtain ⟨ad, ea, hc0, hc1⟩ := at_T23 HR0.out x8 hx0 hlt
   cases ea
   replace hc0 := (HB.out.cell (World.block_lt_of_cell? w _ hc0)).trans hc0
   replace hc1 := (HB.out.cell (World.block_lt_of_cell? w _ hc1)).trans hc1
   have BWA := Am (kB BA.out HB.out)
   have BWC := Am (kB BC.out HB.out)
   cases hq : p (rd_T23 l0 x8) with
   | true =>
    rw [hq] at HL
    have HT := Am (by have h_ := HA2.out; rw [hq, if_pos rfl] at h_; exact h_ : x8 = r)
    clear HA2 hq
    go_wp2_with (go_at_call 40; refine (impl_ThreeMeet_1.calls k _ _ m0 m1 m2 n0 n1 n2 true _ ga BWA.out gc BWC.out NE.out HL.out).mono ?_; rintro e w2 ⟨rfl, hb'⟩)
    go_ret
    exact ⟨by rw [HT.out]; rfl, bT HB.out hb'⟩
   | false =>
    rw [hq] at HL
    have HF := Am (by have h_ := HA2.out; rw [hq, if_neg (by decide)] at h_; exact h_ : dl_ix p (l0.drop (x8 + 1).toNat) (x8 + 1) = r)
    clear HA2 hq
    go_wp2_with (go_at_call 40; refine (impl_ThreeMeet_1.calls k _ _ m0 m1 m2 n0 n1 n2 false _ ga BWA.out gc BWC.out NE.out HL.out).mono ?_; rintro e w2 ⟨rfl, hb'⟩)
    go_roundg (l0.length - (x8 + 1).toNat)
    case measure => omega
    case rel => exact ⟨x8 + 1, by omega, by omega, by omega, by go_num, ⟨HF.out⟩, ⟨bT HB.out hb'⟩⟩
  have hltb : decide (x8 < (l0.length : Int)) = false := decide_eq_false hlt
  have E8 := Am (by have h_ := HA.out; rw [List.drop_of_length_le (by omega)] at h_; exact h_.symm : r = -1)
  clear HA
  go_wp2
  go_ret
  exact ⟨by rw [E8.out]; rfl, HB.out⟩
theorem dl_spec (p : S23 → Bool) : ∀ (l : List S23) (i : Int), (dl_ix p l i = -1 ∧ ∀ x, x ∈ l → p x = false) ∨ ∃ q : Nat, ∃ h : q < l.length, dl_ix p l i = i + q ∧ p l[q] = true ∧ ∀ x, x ∈ l.take q → p x = false
 | [], i => .inl ⟨rfl, fun x hx => by simp at hx⟩
 | x :: xs, i => by
  cases h : p x with
  | true => exact .inr ⟨0, by simp, by simp [dl_ix, h], by simpa using h, fun x hx => by simp at hx⟩
  | false =>
   rcases dl_spec p xs (i + 1) with ⟨e, ha⟩ | ⟨q, hq, e, ht, ha⟩
   ·refine .inl ⟨by simp only [dl_ix, h]; exact e, fun y hy => ?_⟩
    rcases List.mem_cons.1 hy with rfl | hy
    ·exact h
    ·exact ha y hy
   ·refine .inr ⟨q + 1, by simp; omega, by simp only [dl_ix, h]; rw [if_neg (by decide), e]; omega, by simpa using ht, fun y hy => ?_⟩
    rw [List.take_succ_cons] at hy
    rcases List.mem_cons.1 hy with rfl | hy
    ·exact h
    ·exact ha y hy
theorem dl_take (l : List S23) (j : Nat) (hj : j < l.length) : l.take (j + 1) = l.take j ++ [l[j]] := by rw [List.take_add_one, List.getElem?_eq_getElem hj]; rfl
theorem dl_keep (p : S23 → Bool) (l x : List S23) (i j : Nat) (hj : j < l.length) (hx : x.length = l.length) (hij : i < j) (h1 : x.take i = (l.take j).filter fun y => !p y) (h2 : x.drop j = l.drop j) (hk : p l[j] = false) :
  (x.set i l[j]).take (i + 1) = (l.take (j + 1)).filter (fun y => !p y) ∧ (x.set i l[j]).drop (j + 1) = l.drop (j + 1) := by
 have e2 : (x.set i l[j]).take (i + 1) = x.take i ++ [l[j]] := by
  rw [List.take_add_one, List.getElem?_set_self (by omega), List.take_set_of_le (Nat.le_refl i)]; rfl
 constructor
 ·rw [e2, h1, dl_take l j hj, List.filter_append, List.filter_cons]
  simp only [hk, Bool.not_false, if_true, List.filter_nil]
 ·rw [List.drop_set_of_lt (by omega), ← List.drop_drop, ← List.drop_drop, h2]
theorem dl_skip (p : S23 → Bool) (l x : List S23) (i j : Nat) (hj : j < l.length) (h1 : x.take i = (l.take j).filter fun y => !p y) (h2 : x.drop j = l.drop j) (hk : p l[j] = true) :
  x.take i = (l.take (j + 1)).filter (fun y => !p y) ∧ x.drop (j + 1) = l.drop (j + 1) := by
 constructor
 ·rw [h1, dl_take l j hj, List.filter_append, List.filter_cons]
  simp only [hk, Bool.not_true, Bool.false_eq_true, if_false, List.filter_nil, List.append_nil]
 ·rw [← List.drop_drop, ← List.drop_drop, h2]
theorem dl_add (g n : Nat) : (⟨g, 0, none⟩ : Addr).add n = ⟨g, n, none⟩ := by unfold Addr.add; split <;> simp_all
theorem dl_frozen {W : World} {base n c g : Nat} {ok : Nat → Prop} {x : List S23} {ad : Addr} (h : Kd.R k23 23 W base ok (.slice (some ⟨g, 0, none⟩) n c) x) (e : (⟨g, 0, none⟩ : Addr) = ad) (o : Nat) : W.frozen? (ad.add o) = false := by
 obtain ⟨inner, ho⟩ := Kd.R_own h
 obtain ⟨cs, hcs⟩ := own_typed ho g rfl
 rw [← e, dl_add]; exact kF hcs o
theorem dl_frozen1 {W : World} {base n c g : Nat} {ok : Nat → Prop} {x : List S23} {ad : Addr} (h : Kd.R k23 23 W base ok (.slice (some ⟨g, 0, none⟩) n c) x) (e : (⟨g, 0, none⟩ : Addr) = ad) (o : Nat) : W.frozen? ⟨(ad.add o).block, (ad.add o).off + 1, none⟩ = false := by
 obtain ⟨inner, ho⟩ := Kd.R_own h
 obtain ⟨cs, hcs⟩ := own_typed ho g rfl
 rw [← e, dl_add]; exact kF hcs (o + 1)
set_option maxHeartbeats 8000000 in
set_option maxRecDepth 100000 in
theorem dl_delete (k : Nat) (p : S23 → Bool) (P0_ : Nat → Prop) (u_ : Value) (l0 : List S23) (m0 m1 m2 n0 n1 n2 : Int) (ga gc : Nat) (w0 w : World) (hB : Below w0.heap.size w0 w) (ho0 : Kd.R k23 23 w w0.heap.size P0_ u_ l0)
  (hba : w.heap[ga]? = some (.cells #[.int .i64 m0, .int .i64 m1, .int .i64 m2] 25 (0, 0))) (hbc : w.heap[gc]? = some (.cells #[.int .i64 n0, .int .i64 n1, .int .i64 n2] 25 (0, 0))) (hne : ga ≠ gc) (hlen : l0.length < 4611686018427387904) (hp : ∀ x, x ∈ l0 → impl_ThreeMeet_1.f k x.f0 x.f1 m0 m1 m2 n0 n1 n2 = some (p x)) :
  Calls Try.prog 39 #[u_, .func (.func 40) #[] #[.pointer (some ⟨ga, 0, none⟩), .pointer (some ⟨gc, 0, none⟩)]] w fun e w' => ∃ v0_ : Value, e = .returned v0_ ∧ Kd.R k23 23 w' w0.heap.size (fun k_ => (P0_ k_ ∨ w.heap.size ≤ k_)) v0_ (l0.filter fun x => !p x) ∧ Below w0.heap.size w0 w' ∧ Kept w w' (fun k_ => P0_ k_) := by
 obtain ⟨A, c, eu⟩ := Kd.R_slice ho0
 subst eu
 have hrd := Kd.R_reads' ho0
 have hix := dl_index k A c l0 p m0 m1 m2 n0 n1 n2 ga gc w hba hbc hne hrd.2.2 hrd.2.1 hlen hp
 have hu23 := Try.underlying23
 rcases dl_spec p l0 0 with ⟨e1, hall⟩ | ⟨q, hq, e1, ht, hall⟩
 ·rw [e1] at hix
  have HO := Am ho0
  have HB0 := Am hB
  have HI := Am hix
  have HE := Am (List.filter_eq_self.2 (fun x hx => by rw [hall x hx]; rfl) : l0.filter (fun x => !p x) = l0)
  clear hba hbc hne hp hrd hall e1 ho0 hB hix
  go_enter Try.func39, Try.ntmps39
  go_wp2_with (go_at_call 55; refine HI.out.mono ?_; rintro e w2 ⟨rfl, hb⟩)
  go_ret
  rw [HE.out]
  exact ⟨_, rfl, Kd.R_mono (Kd.R_below HO.out hb) (fun k_ hk => .inl hk), bT HB0.out hb, Kept.of_below hb _⟩
 have hn0 : 0 < l0.length := by omega
 obtain ⟨ad, cc, eA⟩ := Kd.R_slice1 ho0 hn0
 injection eA with eA _ ec
 subst eA ec
 obtain ⟨g, rfl⟩ := Kd.R_head ho0
 have hP := ho0.1 g rfl
 have hga : ga ≠ g := fun e_ => (Kd.R_ne ho0 hba (by decide)) (by rw [e_]; rfl)
 have hgc : gc ≠ g := fun e_ => (Kd.R_ne ho0 hbc (by decide)) (by rw [e_]; rfl)
 have HO := Am (Kd.R_tight rfl ho0)
 have HB := Am hB
 have HK := Am (Kept.refl w (fun k_ => P0_ k_))
 have HI := Am hix
 have BA := Am hba
 have BC := Am hbc
 have NE := Am hne
 have NA := Am hga
 have NC := Am hgc
 have HP := Am hp
 have HG := Am hP
 have HL := Am (⟨hq, ht, hall⟩ : ∃ h : q < l0.length, p l0[q] = true ∧ ∀ x, x ∈ l0.take q → p x = false)
 have H0 : Aside0 (l0.take q = (l0.take (q + 1)).filter fun y => !p y) := ⟨by rw [dl_take l0 q hq, List.filter_append, List.filter_eq_self.2 (fun x hx => by rw [hall x hx]; rfl), List.filter_cons]; simp only [ht, Bool.not_true, Bool.false_eq_true, if_false, List.filter_nil, List.append_nil]⟩
 have hz : (Value.int .i64 (0 + (q : Int))) = .int .i64 q := by rw [Int.zero_add]
 rw [e1, hz] at hix
 have HI := Am hix
 have hqb : ((q : Int) == -1) = false := beq_eq_false_iff_ne.2 (by omega)
 have hqB : (q : Int) < 4611686018427387904 := by omega
 clear hB ho0 hba hbc hne hp hix hall ht hga hgc hP hrd e1 hz
 go_enter Try.func39, Try.ntmps39
 go_wp2_with (go_at_call 55; refine HI.out.mono ?_; rintro e w2 ⟨rfl, hb⟩; have n1 := Am (Kd.R_below HO.out hb); have n2 := Am (bT HB.out hb); have n3 := Am (Kept.below HK.out hb); have n4 := Am (kB BA.out hb); have n5 := Am (kB BC.out hb); clear HO HB HK BA BC; have HO := n1; have HB := n2; have HK := n3; have BA := n4; have BC := n5; clear n1 n2 n3 n4 n5; clear hb)
 go_loopg [5, 6, 7] l0.length (fun gg v5 v6 _ wr => ∃ (i j : Nat) (x : List S23), v5 = .int .i64 (i : Int) ∧ v6 = .int .i64 (j : Int) ∧ j ≤ l0.length ∧ l0.length - j ≤ gg ∧ i < j ∧ Aside0 (x.length = l0.length ∧ x.take i = ((l0.take j).filter fun y => !p y) ∧ x.drop j = l0.drop j) ∧ Aside0 (Kd.R k23 23 wr w0.heap.size (fun k_ => some k_ = (Value.slice (some ⟨g, 0, none⟩) l0.length c).ownBlock) (.slice (some ⟨g, 0, none⟩) l0.length c) x) ∧ Aside0 (Below w0.heap.size w0 wr) ∧ Aside0 (Kept w wr (fun k_ => P0_ k_)) ∧ Aside0 (wr.heap[ga]? = some (.cells #[.int .i64 m0, .int .i64 m1, .int .i64 m2] 25 (0, 0))) ∧ Aside0 (wr.heap[gc]? = some (.cells #[.int .i64 n0, .int .i64 n1, .int .i64 n2] 25 (0, 0))))
 case atStart => exact ⟨q, q + 1, l0, by first | rfl | go_num, by first | rfl | go_num, by omega, by omega, by omega, ⟨rfl, H0.out, rfl⟩, HO, HB, HK, BA, BC⟩
 case round =>
  clear HO HB HK BA BC HI H0 hqb hqB
  obtain ⟨i, j, x, rfl, rfl, hj, hgg, hij, HX, HO, HB, HK, BA, BC⟩ := hrel
  have hxl := HX.out.1
  have HXL := Am hxl
  by_cases hlt : j < l0.length
  ·have hltb : decide ((j : Int) < (l0.length : Int)) = true := decide_eq_true (by omega)
   have hj0 : decide (0 ≤ (j : Int)) = true := decide_eq_true (by omega)
   have hi0 : decide (0 ≤ (i : Int)) = true := decide_eq_true (by omega)
   have hib : decide ((i : Int) < (l0.length : Int)) = true := decide_eq_true (by omega)
   have hjB : (j : Int) < 4611686018427387904 := by omega
   have hiB : (i : Int) < 4611686018427387904 := by omega
   have hel : rd_T23 x (j : Int) = l0[j] := by
    have h2 := HX.out.2.2
    have e1 : x[j]? = l0[j]? := by
     have := congrArg (fun l => l[0]?) h2
     simpa using this
    unfold rd_T23
    rw [List.getD_eq_getElem?_getD, show ((j : Int)).toNat = j from Int.toNat_natCast j, e1, List.getElem?_eq_getElem hlt]; rfl
   obtain ⟨ad, ea, hc0, hc1⟩ := at_T23 (Kd.R_reads' HO.out).2.2 (j : Int) (by omega) (by omega)
   have EA := Am (Option.some.inj ea)
   rw [ea]
   clear ea
   rw [hel, show ((j : Int)).toNat = j from Int.toNat_natCast j] at hc0 hc1
   have HLi := Am (HP.out _ (List.getElem_mem hlt))
   have HGW : Aside0 (g < wr.heap.size) := ⟨by obtain ⟨cs, hcs⟩ := own_typed (Kd.R_own HO.out).choose_spec g rfl; exact kL hcs⟩
   have HX2 := Am hel
   have OKg : Aside0 (∀ k_, some k_ = (Value.slice (some ⟨g, 0, none⟩) l0.length c).ownBlock → k_ = g) := ⟨fun k_ hk_ => by injection hk_⟩
   clear hel hxl
   generalize hlj : l0[j] = y at *
   have HY := Am hlj
   clear hlj
   cases hq2 : p y with
   | true =>
    rw [hq2] at HLi
    have HS := Am (dl_skip p l0 x i j hlt HX.out.2.1 HX.out.2.2 (by rw [HY.out]; exact hq2))
    clear hq2
    go_wp2_with (first | ((with_reducible refine gate_dst (N := 7) rfl ?_); refine bE 7 #[.int .i64 0, .int .i64 0] 23 ?_; intro gv hg wv hbox hb; have v1 := Am (show ga ≠ gv by rw [hg]; exact Nat.ne_of_lt (kL BA.out)); have v2 := Am (show gc ≠ gv by rw [hg]; exact Nat.ne_of_lt (kL BC.out)); have v3 := Am (show g ≠ gv by rw [hg]; exact Nat.ne_of_lt HGW.out); have v4 := Am (show w0.heap.size ≤ gv by rw [hg]; exact HB.out.size); have v5 := Am (show w.heap.size ≤ gv by rw [hg]; exact HK.out.1); have z0 := Am (Kd.R_below HO.out hb); have z1 := Am (bT HB.out hb); have z2 := Am (Kept.below HK.out hb); have z3 := Am (kB BA.out hb); have z4 := Am (kB BC.out hb); clear HO HB HK BA BC; have HO := z0; have HB := z1; have HK := z2; have BA := z3; have BC := z4; clear z0 z1 z2 z3 z4; have BV := Am hbox; have hczv_0 : wv.cell? ⟨gv, 0, none⟩ = some (.int .i64 0) := (kC BV.out 0).trans rfl; have hczv_1 : wv.cell? ⟨gv, 1, none⟩ = some (.int .i64 0) := (kC BV.out 1).trans rfl; have hfzv_0 := kF BV.out 0; have hfzv_1 := kF BV.out 1; clear hb hbox hg) | (go_at_call 40; refine (impl_ThreeMeet_1.calls k _ _ m0 m1 m2 n0 n1 n2 true _ ga (by (with_reducible repeat (first | refine kN ?_ _ | refine kD ?_ | refine kA ?_ _)); refine kR ?_ v1.out _; (with_reducible repeat (first | refine kN ?_ _ | refine kD ?_ | refine kA ?_ _)); refine kR ?_ v1.out _; (with_reducible repeat (first | refine kN ?_ _ | refine kD ?_ | refine kA ?_ _)); exact BA.out) gc (by (with_reducible repeat (first | refine kN ?_ _ | refine kD ?_ | refine kA ?_ _)); refine kR ?_ v2.out _; (with_reducible repeat (first | refine kN ?_ _ | refine kD ?_ | refine kA ?_ _)); refine kR ?_ v2.out _; (with_reducible repeat (first | refine kN ?_ _ | refine kD ?_ | refine kA ?_ _)); exact BC.out) NE.out HLi.out).mono ?_; rintro e w3 ⟨rfl, hb⟩; have z0 := Am (Kd.R_below (show Kd.R k23 23 _ w0.heap.size (fun k_ => some k_ = (Value.slice (some ⟨g, 0, none⟩) l0.length c).ownBlock) (.slice (some ⟨g, 0, none⟩) l0.length c) x from by (with_reducible repeat (first | apply Kd.R_alloc | apply Kd.R_drewN | apply Kd.R_drew)); refine Kd.R_far ?_ (fun k_ hk_ e_ => v3.out ((OKg.out k_ hk_).symm.trans e_)) _; (with_reducible repeat (first | apply Kd.R_alloc | apply Kd.R_drewN | apply Kd.R_drew)); refine Kd.R_far ?_ (fun k_ hk_ e_ => v3.out ((OKg.out k_ hk_).symm.trans e_)) _; (with_reducible repeat (first | apply Kd.R_alloc | apply Kd.R_drewN | apply Kd.R_drew)); exact HO.out) hb); have z1 := Am (bT (show Below w0.heap.size w0 _ from by repeat (first | (with_reducible first | exact HB.out | apply bA | apply bN | apply bD | refine bS ?_ v4.out) | exact HB.out)) hb); have z2 := Am (Kept.below (show Kept w _ (fun k_ => P0_ k_) from by repeat (first | (with_reducible first | exact HK.out | apply Kept.alloc | apply Kept.drewN | apply Kept.drew | refine Kept.setCell ?_ (.inr v5.out) _) | exact HK.out)) hb); have z3 := Am (kB (g := ga) (o := .cells #[.int .i64 m0, .int .i64 m1, .int .i64 m2] 25 (0, 0)) (by (with_reducible repeat (first | refine kN ?_ _ | refine kD ?_ | refine kA ?_ _)); refine kR ?_ v1.out _; (with_reducible repeat (first | refine kN ?_ _ | refine kD ?_ | refine kA ?_ _)); refine kR ?_ v1.out _; (with_reducible repeat (first | refine kN ?_ _ | refine kD ?_ | refine kA ?_ _)); exact BA.out) hb); have z4 := Am (kB (g := gc) (o := .cells #[.int .i64 n0, .int .i64 n1, .int .i64 n2] 25 (0, 0)) (by (with_reducible repeat (first | refine kN ?_ _ | refine kD ?_ | refine kA ?_ _)); refine kR ?_ v2.out _; (with_reducible repeat (first | refine kN ?_ _ | refine kD ?_ | refine kA ?_ _)); refine kR ?_ v2.out _; (with_reducible repeat (first | refine kN ?_ _ | refine kD ?_ | refine kA ?_ _)); exact BC.out) hb); clear HO HB HK BA BC; have HO := z0; have HB := z1; have HK := z2; have BA := z3; have BC := z4; clear z0 z1 z2 z3 z4; clear hb))
    have ea2 := EA.out
    subst ea2
    go_roundg (l0.length - (j + 1))
    case measure => omega
    case rel => exact ⟨i, j + 1, x, by go_num, by go_num, by omega, by omega, by omega, ⟨HXL.out, HS.out.1, HS.out.2⟩, HO, HB, HK, BA, BC⟩
   | false =>
    rw [hq2] at HLi
    have HS := Am (dl_keep p l0 x i j hlt HX.out.1 hij HX.out.2.1 HX.out.2.2 (by rw [HY.out]; exact hq2))
    clear hq2
    go_upto_region 9 with (first | ((with_reducible refine gate_dst (N := 7) rfl ?_); refine bE 7 #[.int .i64 0, .int .i64 0] 23 ?_; intro gv hg wv hbox hb; have v1 := Am (show ga ≠ gv by rw [hg]; exact Nat.ne_of_lt (kL BA.out)); have v2 := Am (show gc ≠ gv by rw [hg]; exact Nat.ne_of_lt (kL BC.out)); have v3 := Am (show g ≠ gv by rw [hg]; exact Nat.ne_of_lt HGW.out); have v4 := Am (show w0.heap.size ≤ gv by rw [hg]; exact HB.out.size); have v5 := Am (show w.heap.size ≤ gv by rw [hg]; exact HK.out.1); have z0 := Am (Kd.R_below HO.out hb); have z1 := Am (bT HB.out hb); have z2 := Am (Kept.below HK.out hb); have z3 := Am (kB BA.out hb); have z4 := Am (kB BC.out hb); clear HO HB HK BA BC; have HO := z0; have HB := z1; have HK := z2; have BA := z3; have BC := z4; clear z0 z1 z2 z3 z4; have BV := Am hbox; have hczv_0 : wv.cell? ⟨gv, 0, none⟩ = some (.int .i64 0) := (kC BV.out 0).trans rfl; have hczv_1 : wv.cell? ⟨gv, 1, none⟩ = some (.int .i64 0) := (kC BV.out 1).trans rfl; have hfzv_0 := kF BV.out 0; have hfzv_1 := kF BV.out 1; clear hb hbox hg) | (go_at_call 40; refine (impl_ThreeMeet_1.calls k _ _ m0 m1 m2 n0 n1 n2 false _ ga (by (with_reducible repeat (first | refine kN ?_ _ | refine kD ?_ | refine kA ?_ _)); refine kR ?_ v1.out _; (with_reducible repeat (first | refine kN ?_ _ | refine kD ?_ | refine kA ?_ _)); refine kR ?_ v1.out _; (with_reducible repeat (first | refine kN ?_ _ | refine kD ?_ | refine kA ?_ _)); exact BA.out) gc (by (with_reducible repeat (first | refine kN ?_ _ | refine kD ?_ | refine kA ?_ _)); refine kR ?_ v2.out _; (with_reducible repeat (first | refine kN ?_ _ | refine kD ?_ | refine kA ?_ _)); refine kR ?_ v2.out _; (with_reducible repeat (first | refine kN ?_ _ | refine kD ?_ | refine kA ?_ _)); exact BC.out) NE.out HLi.out).mono ?_; rintro e w3 ⟨rfl, hb⟩; have z0 := Am (Kd.R_below (show Kd.R k23 23 _ w0.heap.size (fun k_ => some k_ = (Value.slice (some ⟨g, 0, none⟩) l0.length c).ownBlock) (.slice (some ⟨g, 0, none⟩) l0.length c) x from by (with_reducible repeat (first | apply Kd.R_alloc | apply Kd.R_drewN | apply Kd.R_drew)); refine Kd.R_far ?_ (fun k_ hk_ e_ => v3.out ((OKg.out k_ hk_).symm.trans e_)) _; (with_reducible repeat (first | apply Kd.R_alloc | apply Kd.R_drewN | apply Kd.R_drew)); refine Kd.R_far ?_ (fun k_ hk_ e_ => v3.out ((OKg.out k_ hk_).symm.trans e_)) _; (with_reducible repeat (first | apply Kd.R_alloc | apply Kd.R_drewN | apply Kd.R_drew)); exact HO.out) hb); have z1 := Am (bT (show Below w0.heap.size w0 _ from by repeat (first | (with_reducible first | exact HB.out | apply bA | apply bN | apply bD | refine bS ?_ v4.out) | exact HB.out)) hb); have z2 := Am (Kept.below (show Kept w _ (fun k_ => P0_ k_) from by repeat (first | (with_reducible first | exact HK.out | apply Kept.alloc | apply Kept.drewN | apply Kept.drew | refine Kept.setCell ?_ (.inr v5.out) _) | exact HK.out)) hb); have z3 := Am (kB (g := ga) (o := .cells #[.int .i64 m0, .int .i64 m1, .int .i64 m2] 25 (0, 0)) (by (with_reducible repeat (first | refine kN ?_ _ | refine kD ?_ | refine kA ?_ _)); refine kR ?_ v1.out _; (with_reducible repeat (first | refine kN ?_ _ | refine kD ?_ | refine kA ?_ _)); refine kR ?_ v1.out _; (with_reducible repeat (first | refine kN ?_ _ | refine kD ?_ | refine kA ?_ _)); exact BA.out) hb); have z4 := Am (kB (g := gc) (o := .cells #[.int .i64 n0, .int .i64 n1, .int .i64 n2] 25 (0, 0)) (by (with_reducible repeat (first | refine kN ?_ _ | refine kD ?_ | refine kA ?_ _)); refine kR ?_ v2.out _; (with_reducible repeat (first | refine kN ?_ _ | refine kD ?_ | refine kA ?_ _)); refine kR ?_ v2.out _; (with_reducible repeat (first | refine kN ?_ _ | refine kD ?_ | refine kA ?_ _)); exact BC.out) hb); clear HO HB HK BA BC; have HO := z0; have HB := z1; have HK := z2; have BA := z3; have BC := z4; clear z0 z1 z2 z3 z4; have BV3 := Am (kB (g := gv) (o := .cells #[.int .i64 y.f0, .int .i64 y.f1] 23 (0, 0)) (by (with_reducible repeat (first | refine kN ?_ _ | refine kD ?_ | refine kA ?_ _)); refine kP (cs := #[.int .i64 y.f0, .int .i64 0]) ?_ 1 _ rfl; (with_reducible repeat (first | refine kN ?_ _ | refine kD ?_ | refine kA ?_ _)); refine kP (cs := #[.int .i64 0, .int .i64 0]) ?_ 0 _ rfl; (with_reducible repeat (first | refine kN ?_ _ | refine kD ?_ | refine kA ?_ _)); exact BV.out) hb); have hcw_0 : w3.cell? ⟨gv, 0, none⟩ = some (.int .i64 y.f0) := (kC BV3.out 0).trans rfl; have hcw_1 : w3.cell? ⟨gv, 1, none⟩ = some (.int .i64 y.f1) := (kC BV3.out 1).trans rfl; obtain ⟨ad2, ea2, hd0, hd1⟩ := at_T23 (Kd.R_reads' HO.out).2.2 (i : Int) (by omega) (by have h_ := HXL.out; omega); obtain rfl : ad = ad2 := EA.out.symm.trans (Option.some.inj ea2); clear ea2; rw [show ((i : Int)).toNat = i from Int.toNat_natCast i] at hd0 hd1; have hfr0 : w3.frozen? (ad.add (i * 2)) = false := dl_frozen HO.out EA.out (i * 2); have hfr1 : w3.frozen? ⟨(ad.add (i * 2)).block, (ad.add (i * 2)).off + 1, none⟩ = false := dl_frozen1 HO.out EA.out (i * 2); clear hb))
    have ea2 := EA.out
    subst ea2
    rw [dl_add] at hd0 hd1
    have HD0 := Am hd0
    have HD1 := Am hd1
    clear hd0 hd1 hfr0 hfr1 hc0 hc1
    go_wp2_with ((with_reducible refine gate_store (t := 23) (p := 33) (v := .tmp 32) rfl ?_); refine Kd.R_store k23 (w0 := w0) w0.heap.size rfl rfl 23 (.tmp 33) (.tmp 32) rfl 23 (i : Int) 0 x y (.agg #[.int .i64 y.f0, .int .i64 y.f1]) [.int .i64 y.f0, .int .i64 y.f1] [.int .i64 (rd_T23 x (i : Int)).f0, .int .i64 (rd_T23 x (i : Int)).f1] (fun k_ => some k_ = (Value.slice (some ⟨g, 0, none⟩) l0.length c).ownBlock) (fun _ => False) (o' := i * 2) (g := g) (n := l0.length) (cap := c) (by first | rfl | (show Value.pointer (some ((⟨g, 0, none⟩ : Addr).add (i * 2))) = _; rw [dl_add])) (by rw [Int.toNat_natCast]; rfl) (by rfl) rfl (by first | rfl | kernel_rfl) (by intro q_ hq_; simp at hq_; rcases hq_ with rfl | rfl <;> rfl) HO.out (by omega) (by omega) rfl (by intro j_ u_ hu_; rw [Int.toNat_natCast]; rcases j_ with _ | _ | j_; (· injection hu_ with hu_; subst hu_; exact HD0.out); (· injection hu_ with hu_; subst hu_; exact HD1.out); (· simp at hu_)) (Nat.le_refl 2) (k23_mkM _ _ _ y) (fun _ h_ => h_.elim) HB.out ?_; intro w4 hr4 hb4 hg4; have z0 := Am hr4; have z1 := Am hb4; have z2 := Am (Kept.of_grown hg4 HK.out (fun k_ hk_ => .inl (by injection hk_ with hk_; rw [← hk_]; exact HG.out))); have z3 := Am (blk_grown BA.out hg4 (fun e_ => NA.out (by injection e_))); have z4 := Am (blk_grown BC.out hg4 (fun e_ => NC.out (by injection e_))); clear HO HB HK BA BC; have HO := z0; have HB := z1; have HK := z2; have BA := z3; have BC := z4; clear z0 z1 z2 z3 z4; clear hr4 hb4 hg4)
    go_roundg (l0.length - (j + 1))
    case measure => omega
    case rel => exact ⟨i + 1, j + 1, x.set i y, by go_num, by go_num, by omega, by omega, by omega, ⟨by rw [List.length_set]; exact HXL.out, by have h_ := HS.out.1; rw [HY.out] at h_; exact h_, by have h_ := HS.out.2; rw [HY.out] at h_; exact h_⟩, by have h_ := HO.out; rw [Int.toNat_natCast] at h_; exact ⟨h_⟩, HB, HK, BA, BC⟩
  have hje : j = l0.length := by omega
  have hltb : decide ((j : Int) < (l0.length : Int)) = false := decide_eq_false (by omega)
  have hi0 : decide (0 ≤ (i : Int)) = true := decide_eq_true (by omega)
  have hib : decide ((i : Int) ≤ (l0.length : Int)) = true := decide_eq_true (by omega)
  have hin : i < l0.length := by omega
  have hcc := (Kd.R_reads' HO.out).2.1
  have hic : i ≤ c := by omega
  have HT := Am (Kd.R_take HO.out (m := i) (by omega))
  have hcs : ∃ cs, wr.heap[g]? = some (.cells cs 23 (0, 0)) := by obtain ⟨inner, ho⟩ := Kd.R_own HO.out; exact own_typed ho g rfl
  have hcl : ∀ ty, (Builtin.clear_ #[26] ty #[.slice (some ⟨g, i * 2, none⟩) (l0.length - i) (c - i)]).run Try.prog wr = .ok (.tuple #[]) (wr.setCells g (i * 2) (List.replicate ((l0.length - i) * 2) (.int .i64 0))) := fun ty => by
   refine run_clear2 wr 26 23 ty (.int .i64 0) Try.underlying26 (fun w => by rfl) rfl rfl g (i * 2) _ _ (by omega) ?_ ?_
   ·intro t ht
    obtain ⟨inner, ho⟩ := Kd.R_own HO.out
    rcases ho.2 with ⟨hv, _⟩ | ⟨g', cap', cur, hv, hb, hh, hnc, hcm, hcz, htt⟩
    ·cases hv
    injection hv with ha _ hc
    injection ha with ha
    injection ha with hg
    subst hg; subst hc
    have hsz : cur.size = c * 2 := hcz
    rw [kC hh (i * 2 + t), Array.getElem?_eq_getElem (by omega)]; rfl
   intro t ht
   obtain ⟨cs, hcs⟩ := hcs
   exact kF hcs _
  clear hgg hxl hcs
  have hbz := Kd.R_base HO.out g rfl
  have HBY := Am (R_beyond HT.out (i * 2) (List.replicate ((l0.length - i) * 2) (.int .i64 0)) (Nat.le_refl _) (by rw [List.length_replicate]; show i * 2 + (l0.length - i) * 2 ≤ c * 2; omega))
  have HBZ := Am hbz
  have HF := Am (by have e_ := HX.out.2.1; rw [hje, List.take_of_length_le (Nat.le_refl _)] at e_; exact e_ : x.take i = l0.filter fun y => !p y)
  clear hbz
  go_wp2
  go_ret
  rw [← HF.out]
  exact ⟨_, rfl, Kd.R_mono HBY.out.1 (fun k_ hk_ => .inl (by injection hk_ with hk_; rw [hk_]; exact HG.out)), HB.out.trans ⟨HBY.out.2.os, HBY.out.2.tape, HBY.out.2.output, HBY.out.2.size, fun k_ hk_ => HBY.out.2.block k_ (Nat.lt_of_lt_of_le hk_ HB.out.size) (fun e_ => by injection e_ with e_; have h_ := HBZ.out; omega)⟩, Kept.of_grown HBY.out.2 HK.out (fun k_ hk_ => .inl (by injection hk_ with hk_; rw [← hk_]; exact HG.out))⟩
/-! ### impl_ThreeMeet_del: function 39 -/
def impl_ThreeMeet_del.g (k : Nat) (m0 m1 m2 n0 n1 n2 : Int) : List S23 → Option (List S23)
 | [] => some []
 | x :: xs => (impl_ThreeMeet_1.f k x.f0 x.f1 m0 m1 m2 n0 n1 n2).bind fun b => (impl_ThreeMeet_del.g k m0 m1 m2 n0 n1 n2 xs).bind fun r => some (if b = true then r else x :: r)
def impl_ThreeMeet_del.f (k : Nat) (l0 : List S23) (m0 m1 m2 n0 n1 n2 : Int) : Option (List S23) := if l0.length < 4611686018427387904 then impl_ThreeMeet_del.g k m0 m1 m2 n0 n1 n2 l0 else none
theorem impl_ThreeMeet_del.mono_g (m0 m1 m2 n0 n1 n2 : Int) : ∀ (l : List S23) k, LeO (impl_ThreeMeet_del.g k m0 m1 m2 n0 n1 n2 l) (impl_ThreeMeet_del.g (k + 1) m0 m1 m2 n0 n1 n2 l)
 | [], k => LeO.refl _
 | x :: xs, k => by
  unfold impl_ThreeMeet_del.g
  exact LeO.bind (impl_ThreeMeet_1.mono _ _ _ _ _ _ _ _ _) (fun _ => LeO.bind (impl_ThreeMeet_del.mono_g m0 m1 m2 n0 n1 n2 xs k) (fun _ => LeO.refl _))
theorem impl_ThreeMeet_del.mono : ∀ a0 a1 a2 a3 a4 a5 a6 k, LeO (impl_ThreeMeet_del.f k a0 a1 a2 a3 a4 a5 a6) (impl_ThreeMeet_del.f (k + 1) a0 a1 a2 a3 a4 a5 a6) := fun a0 a1 a2 a3 a4 a5 a6 k => by
 unfold impl_ThreeMeet_del.f
 exact LeO.ite (impl_ThreeMeet_del.mono_g a1 a2 a3 a4 a5 a6 a0 k) (LeO.refl _)
theorem impl_ThreeMeet_del.all (k : Nat) (m0 m1 m2 n0 n1 n2 : Int) : ∀ (l r : List S23), impl_ThreeMeet_del.g k m0 m1 m2 n0 n1 n2 l = some r → (∀ x, x ∈ l → impl_ThreeMeet_1.f k x.f0 x.f1 m0 m1 m2 n0 n1 n2 = some ((impl_ThreeMeet_1.f k x.f0 x.f1 m0 m1 m2 n0 n1 n2).getD true)) ∧ r = l.filter fun x => !(impl_ThreeMeet_1.f k x.f0 x.f1 m0 m1 m2 n0 n1 n2).getD true
 | [], r, h => ⟨fun x hx => by simp at hx, by simpa [impl_ThreeMeet_del.g] using h.symm⟩
 | y :: ys, r, h => by
  unfold impl_ThreeMeet_del.g at h
  obtain ⟨b, hb, h⟩ := Option.bind_eq_some_iff.mp h
  obtain ⟨r', hr', h⟩ := Option.bind_eq_some_iff.mp h
  obtain ⟨i1, i2⟩ := impl_ThreeMeet_del.all k m0 m1 m2 n0 n1 n2 ys r' hr'
  refine ⟨fun x hx => ?_, ?_⟩
  ·rcases List.mem_cons.1 hx with rfl | hx
   ·rw [hb]; rfl
   ·exact i1 x hx
  ·rw [List.filter_cons, hb]
   cases b
   ·simpa [i2] using (Option.some.inj h).symm
   ·simpa [i2] using (Option.some.inj h).symm
theorem impl_ThreeMeet_del.calls (k : Nat) (P0_ : Nat → Prop) (u9000_ : Value) (l0 : List S23) (m0 m1 m2 n0 n1 n2 : Int) (r : List S23) (ga gc : Nat) (w0 w : World) (hB : Below w0.heap.size w0 w) (ho0 : Kd.R k23 23 w w0.heap.size P0_ u9000_ l0)
  (hba : w.heap[ga]? = some (.cells #[.int .i64 m0, .int .i64 m1, .int .i64 m2] 25 (0, 0))) (hbc : w.heap[gc]? = some (.cells #[.int .i64 n0, .int .i64 n1, .int .i64 n2] 25 (0, 0))) (hne : ga ≠ gc) (h : impl_ThreeMeet_del.f k l0 m0 m1 m2 n0 n1 n2 = some r) :
  Calls Try.prog 39 #[u9000_, .func (.func 40) #[] #[.pointer (some ⟨ga, 0, none⟩), .pointer (some ⟨gc, 0, none⟩)]] w fun e w' => ∃ v0_ : Value, e = .returned v0_ ∧ Kd.R k23 23 w' w0.heap.size (fun k_ => (P0_ k_ ∨ w.heap.size ≤ k_)) v0_ r ∧ Below w0.heap.size w0 w' ∧ Kept w w' (fun k_ => P0_ k_) := by
 unfold impl_ThreeMeet_del.f at h
 by_cases hl : l0.length < 4611686018427387904
 ·rw [if_pos hl] at h
  obtain ⟨h1, h2⟩ := impl_ThreeMeet_del.all k m0 m1 m2 n0 n1 n2 l0 r h
  rw [h2]
  exact dl_delete k _ P0_ u9000_ l0 m0 m1 m2 n0 n1 n2 ga gc w0 w hB ho0 hba hbc hne hl h1
 ·rw [if_neg hl] at h; cases h

/-! ### impl_ThreeMeet: function 16 -/
def impl_ThreeMeet.f (k : Nat) (a0_0 : Int) (a0_1 : Int) (a0_2 : Int) (a1_0 : Int) (a1_1 : Int) (a1_2 : Int) (a2_0 : Int) (a2_1 : Int) (a2_2 : Int) : Option ((List (S23)) × Bool) := (impl_MeetTimes.f k a0_0 a0_1 a0_2 a1_0 a1_1 a1_2).bind fun bt378 => (if bt378.2 = true then ((impl_IsHand.f k a2_0 a2_1 a2_2).bind fun t382 => (if t382 = true then ((impl_ThreeMeet_del.f k bt378.1 a0_0 a0_1 a0_2 a2_0 a2_1 a2_2).bind fun t383 => (some (t383, true))) else (some (([] : List (S23)), false)))) else (some (([] : List (S23)), false)))
theorem impl_ThreeMeet.mono : ∀ a0 a1 a2 a3 a4 a5 a6 a7 a8 k, LeO (impl_ThreeMeet.f k a0 a1 a2 a3 a4 a5 a6 a7 a8) (impl_ThreeMeet.f (k + 1) a0 a1 a2 a3 a4 a5 a6 a7 a8) := by
 intro a0 a1 a2 a3 a4 a5 a6 a7 a8 k
 unfold impl_ThreeMeet.f
 repeat' first
   | (with_reducible exact impl_IsHand.mono _ _ _ _)
   | (with_reducible exact impl_MeetTimes.mono _ _ _ _ _ _ _)
   | (with_reducible exact impl_ThreeMeet_del.mono _ _ _ _ _ _ _ _)
   | (with_reducible exact LeO.refl _)
   | (with_reducible exact LeO.none _)
   | (with_reducible refine LeO.ite ?_ ?_)
   | (with_reducible refine LeO.bind ?_ (fun _ => ?_))
   | exact impl_IsHand.mono _ _ _ _
   | exact impl_MeetTimes.mono _ _ _ _ _ _ _
   | exact impl_ThreeMeet_del.mono _ _ _ _ _ _ _ _
   | exact LeO.none _
   | refine LeO.ite ?_ ?_
   | refine LeO.bind ?_ (fun _ => ?_)
set_option maxHeartbeats 8000000 in
set_option maxRecDepth 100000 in
theorem impl_ThreeMeet.calls (k : Nat) (a0_0 : Int) (a0_1 : Int) (a0_2 : Int) (a1_0 : Int) (a1_1 : Int) (a1_2 : Int) (a2_0 : Int) (a2_1 : Int) (a2_2 : Int) (r1 : List (S23)) (r2 : Bool) (w : World) (h : impl_ThreeMeet.f k a0_0 a0_1 a0_2 a1_0 a1_1 a1_2 a2_0 a2_1 a2_2 = some (r1, r2)) :
  Calls Try.prog 16 #[.agg #[.int .i64 a0_0, .int .i64 a0_1, .int .i64 a0_2], .agg #[.int .i64 a1_0, .int .i64 a1_1, .int .i64 a1_2], .agg #[.int .i64 a2_0, .int .i64 a2_1, .int .i64 a2_2]] w fun e w' => ∃ v0_ : Value, e = .returned (.tuple #[v0_, .bool r2]) ∧ Kd.R k23 23 w' w.heap.size (fun _ => True) v0_ r1 ∧ Below w.heap.size w w' := by
 have hu25 := Try.underlying25
 have HB := Am (Below.refl w.heap.size w)
 have H : ((impl_MeetTimes.f k a0_0 a0_1 a0_2 a1_0 a1_1 a1_2).bind fun bt378 => (if bt378.2 = true then ((impl_IsHand.f k a2_0 a2_1 a2_2).bind fun t382 => (if t382 = true then ((impl_ThreeMeet_del.f k bt378.1 a0_0 a0_1 a0_2 a2_0 a2_1 a2_2).bind fun t383 => (some (t383, true))) else (some (([] : List (S23)), false)))) else (some (([] : List (S23)), false)))) = some (r1, r2) := h
 clear h
 replace H := Option.bind_eq_some_iff.mp H
 obtain ⟨⟨t378, t381⟩, A40, H⟩ := H
 try dsimp only at H
 have A4 := Am A40
 clear A40
 by_cases c5 : t381 = true
 ·subst c5
  have H1 : ((impl_IsHand.f k a2_0 a2_1 a2_2).bind fun t382 => (if t382 = true then ((impl_ThreeMeet_del.f k t378 a0_0 a0_1 a0_2 a2_0 a2_1 a2_2).bind fun t383 => (some (t383, true))) else (some (([] : List (S23)), false)))) = some (r1, r2) := by rw [if_pos rfl] at H; exact H
  clear H
  have H := H1
  clear H1
  replace H := Option.bind_eq_some_iff.mp H
  obtain ⟨t382, A60, H⟩ := H
  try dsimp only at H
  have A6 := Am A60
  clear A60
  by_cases c7 : t382 = true
  ·subst c7
   have H1 : ((impl_ThreeMeet_del.f k t378 a0_0 a0_1 a0_2 a2_0 a2_1 a2_2).bind fun t383 => (some (t383, true))) = some (r1, r2) := by rw [if_pos rfl] at H; exact H
   clear H
   have H := H1
   clear H1
   replace H := Option.bind_eq_some_iff.mp H
   obtain ⟨t383, A80, H⟩ := H
   try dsimp only at H
   have A8 := Am A80
   clear A80
   focus
    simp only [Option.some.injEq, Prod.mk.injEq] at H
    obtain ⟨rfl, rfl⟩ := H
    go_enter Try.func16, Try.ntmps16
    go_wp2_with (first | ((with_reducible refine gate_dst (N := 3) rfl ?_); refine bE 3 #[.int .i64 a0_0, .int .i64 a0_1, .int .i64 a0_2] 25 ?_; intro gb375 hg w9 hbox hb; have hv := vK HB hb; have n0_ := Am (bT hv hb); have n1_ := Am (hbox); have GE375 := kG hg hv; clear HB; have HB := n0_; have BK375 := n1_; clear n0_ n1_ hv; clear hb hbox hg) | ((with_reducible refine gate_dst (N := 4) rfl ?_); refine bE 4 #[.int .i64 a1_0, .int .i64 a1_1, .int .i64 a1_2] 25 ?_; intro gb376 hg w10 hbox hb; have hp0 := pA BK375 hb; have hv := vK HB hb; have n1_ := Am (bT hv hb); have n2_ := Am (hbox); have GE376 := kG hg hv; have hp1 := pK BK375 hb; obtain ⟨NB375_376, NB376_375⟩ := kXY hg hp1 BK375; clear HB; replace BK375 := hp0 BK375; have HB := n1_; have BK376 := n2_; clear n1_ n2_ hp0 hp1 hv; clear hb hbox hg) | ((with_reducible refine gate_dst (N := 5) rfl ?_); refine bE 5 #[.int .i64 a2_0, .int .i64 a2_1, .int .i64 a2_2] 25 ?_; intro gb377 hg w11 hbox hb; have hp0 := pA BK375 hb; have hv := vK HB hb; have n2_ := Am (bT hv hb); have n3_ := Am (hbox); have GE377 := kG hg hv; have hp1 := pK BK375 hb; obtain ⟨NB375_377, NB377_375⟩ := kXY hg hp1 BK375; obtain ⟨NB376_377, NB377_376⟩ := kXY hg hp1 BK376; clear HB; replace BK375 := hp0 BK375; replace BK376 := hp0 BK376; have HB := n2_; have BK377 := n3_; clear n2_ n3_ hp0 hp1 hv; clear hb hbox hg; have u12 := kO NB375_376; have u13 := kO NB375_377; have z14 := c3 BK375; have u15 := kO NB376_377; have z16 := c3 BK376) | ((with_reducible refine gate_callee (f := 18) rfl ?_); refine gL (some 13) Try.func18 #[.agg #[.int .i64 a0_0, .int .i64 a0_1, .int .i64 a0_2], .agg #[.int .i64 a1_0, .int .i64 a1_1, .int .i64 a1_2]] rfl ?_; (with_reducible refine (impl_MeetTimes.calls k a0_0 a0_1 a0_2 a1_0 a1_1 a1_2 t378 true _ A4.out).mono ?_); rintro e w17 ⟨v379, rfl, ho0, hb⟩; refine ⟨_, rfl, ?_⟩; have n0_ := Am (Kd.R_lower ho0 (bZ (by repeat (first | (with_reducible first | exact HB.out | apply bA | apply bN | apply bD | refine bX ?_ (by assumption)) | exact HB.out)))); have hp0 := pA BK375 hb; have hv := vK HB hb; have n4_ := Am (bT hv hb); clear HB; have HO380 := n0_; replace BK375 := hp0 BK375; replace BK376 := hp0 BK376; replace BK377 := hp0 BK377; have HB := n4_; clear n0_ n4_ hp0 hv; (try clear hb); (try clear ho0); have z18 := c3 BK377) | (go_at_call 37; (with_reducible refine (impl_IsHand.calls k a2_0 a2_1 a2_2 true _ A6.out).mono ?_); rintro e w19 ⟨rfl, hb⟩; have n0_ := Am (Kd.R_below (kW HO380) hb); have hp0 := pA BK375 hb; have hv := vK HB hb; have n4_ := Am (bT hv hb); clear HO380; clear HB; have HO380 := n0_; replace BK375 := hp0 BK375; replace BK376 := hp0 BK376; replace BK377 := hp0 BK377; have HB := n4_; clear n0_ n4_ hp0 hv; (try clear hb); have z20 := c3 BK375; obtain ⟨Ao21, co21, eo21⟩ := Kd.R_slice HO380.out; subst eo21) | ((with_reducible refine gate_callee (f := 39) rfl ?_); refine gL (some 25) Try.func39 #[.slice Ao21 t378.length co21, .func (.func 40) #[] #[.pointer (some ⟨gb375, 0, none⟩), .pointer (some ⟨gb377, 0, none⟩)]] rfl ?_; (with_reducible refine (impl_ThreeMeet_del.calls k (fun k_ => some k_ = (.slice Ao21 t378.length co21 : Value).ownBlock) (.slice Ao21 t378.length co21) t378 a0_0 a0_1 a0_2 a2_0 a2_1 a2_2 t383 gb375 gb377 w _ ?side1 ?side2 (kU BK375) (kU BK377) NB375_377.out A8.out).mono ?_); (case side1 => repeat (first | (with_reducible first | exact HB.out | apply bA | apply bN | apply bD | refine bX ?_ (by assumption)) | exact HB.out)); (case side2 => exact Kd.R_tight rfl HO380.out); rintro e w22 ⟨v384, rfl, ho0, hb, hkp⟩; refine ⟨_, rfl, ?_⟩; have n0_ := Am (blk_kept (kU BK375) hkp (fun hs_ => (fun e_ => (Kd.R_ne HO380.out BK375.out (by decide)) e_) hs_)); have n1_ := Am (blk_kept (kU BK376) hkp (fun hs_ => (fun e_ => (Kd.R_ne HO380.out BK376.out (by decide)) e_) hs_)); have n2_ := Am (blk_kept (kU BK377) hkp (fun hs_ => (fun e_ => (Kd.R_ne HO380.out BK377.out (by decide)) e_) hs_)); have n3_ := Am (Kd.R_mono (ok' := fun k_ => True) ho0 (fun k_ hk_ => trivial)); have n4_ := Am (hb); clear BK375; clear BK376; clear BK377; clear HB; clear HO380; have BK375 := n0_; have BK376 := n1_; have BK377 := n2_; have HO385 := n3_; have HB := n4_; clear n0_ n1_ n2_ n3_ n4_; (try clear hb); (try clear hkp); (try clear ho0)))
    go_ret2
    exact ⟨_, by first | rfl | (simp [errW_none, errW_some] <;> rfl) | (simp [*, errW_none, errW_some] <;> rfl), by (with_reducible repeat (first | apply Kd.R_alloc | apply Kd.R_drewN | apply Kd.R_drew)); exact HO385.out, by repeat (first | (with_reducible first | exact HB.out | apply bA | apply bN | apply bD | refine bX ?_ (by assumption)) | exact HB.out)⟩
  replace c7 := Bool.eq_false_iff.mpr c7
  subst c7
  have H1 : (some (([] : List (S23)), false)) = some (r1, r2) := by rw [if_neg (show ¬ (false = true) by decide)] at H; exact H
  clear H
  have H := H1
  clear H1
  focus
   simp only [Option.some.injEq, Prod.mk.injEq] at H
   obtain ⟨rfl, rfl⟩ := H
   go_enter Try.func16, Try.ntmps16
   go_wp2_with (first | ((with_reducible refine gate_dst (N := 3) rfl ?_); refine bE 3 #[.int .i64 a0_0, .int .i64 a0_1, .int .i64 a0_2] 25 ?_; intro gb375 hg w23 hbox hb; have hv := vK HB hb; have n0_ := Am (bT hv hb); have n1_ := Am (hbox); have GE375 := kG hg hv; clear HB; have HB := n0_; have BK375 := n1_; clear n0_ n1_ hv; clear hb hbox hg) | ((with_reducible refine gate_dst (N := 4) rfl ?_); refine bE 4 #[.int .i64 a1_0, .int .i64 a1_1, .int .i64 a1_2] 25 ?_; intro gb376 hg w24 hbox hb; have hp0 := pA BK375 hb; have hv := vK HB hb; have n1_ := Am (bT hv hb); have n2_ := Am (hbox); have GE376 := kG hg hv; have hp1 := pK BK375 hb; obtain ⟨NB375_376, NB376_375⟩ := kXY hg hp1 BK375; clear HB; replace BK375 := hp0 BK375; have HB := n1_; have BK376 := n2_; clear n1_ n2_ hp0 hp1 hv; clear hb hbox hg) | ((with_reducible refine gate_dst (N := 5) rfl ?_); refine bE 5 #[.int .i64 a2_0, .int .i64 a2_1, .int .i64 a2_2] 25 ?_; intro gb377 hg w25 hbox hb; have hp0 := pA BK375 hb; have hv := vK HB hb; have n2_ := Am (bT hv hb); have n3_ := Am (hbox); have GE377 := kG hg hv; have hp1 := pK BK375 hb; obtain ⟨NB375_377, NB377_375⟩ := kXY hg hp1 BK375; obtain ⟨NB376_377, NB377_376⟩ := kXY hg hp1 BK376; clear HB; replace BK375 := hp0 BK375; replace BK376 := hp0 BK376; have HB := n2_; have BK377 := n3_; clear n2_ n3_ hp0 hp1 hv; clear hb hbox hg; have u26 := kO NB375_376; have u27 := kO NB375_377; have z28 := c3 BK375; have u29 := kO NB376_377; have z30 := c3 BK376) | ((with_reducible refine gate_callee (f := 18) rfl ?_); refine gL (some 13) Try.func18 #[.agg #[.int .i64 a0_0, .int .i64 a0_1, .int .i64 a0_2], .agg #[.int .i64 a1_0, .int .i64 a1_1, .int .i64 a1_2]] rfl ?_; (with_reducible refine (impl_MeetTimes.calls k a0_0 a0_1 a0_2 a1_0 a1_1 a1_2 t378 true _ A4.out).mono ?_); rintro e w31 ⟨v379, rfl, ho0, hb⟩; refine ⟨_, rfl, ?_⟩; have n0_ := Am (Kd.R_lower ho0 (bZ (by repeat (first | (with_reducible first | exact HB.out | apply bA | apply bN | apply bD | refine bX ?_ (by assumption)) | exact HB.out)))); have hp0 := pA BK375 hb; have hv := vK HB hb; have n4_ := Am (bT hv hb); clear HB; have HO380 := n0_; replace BK375 := hp0 BK375; replace BK376 := hp0 BK376; replace BK377 := hp0 BK377; have HB := n4_; clear n0_ n4_ hp0 hv; (try clear hb); (try clear ho0); have z32 := c3 BK377) | (go_at_call 37; (with_reducible refine (impl_IsHand.calls k a2_0 a2_1 a2_2 false _ A6.out).mono ?_); rintro e w33 ⟨rfl, hb⟩; have n0_ := Am (Kd.R_below (kW HO380) hb); have hp0 := pA BK375 hb; have hv := vK HB hb; have n4_ := Am (bT hv hb); clear HO380; clear HB; have HO380 := n0_; replace BK375 := hp0 BK375; replace BK376 := hp0 BK376; replace BK377 := hp0 BK377; have HB := n4_; clear n0_ n4_ hp0 hv; (try clear hb)))
   go_ret2
   exact ⟨_, by first | rfl | (simp [errW_none, errW_some] <;> rfl) | (simp [*, errW_none, errW_some] <;> rfl), by first | exact Kd.R_nil _ _ _ _ _ | exact Kd.N_nil _ _ _ _ _ | exact Kd.V_nil _ _ _ _ _ | exact Kd.Q_nil _ _ _ _ _ | exact Kd.S_nil _ _ _ _ _, by repeat (first | (with_reducible first | exact HB.out | apply bA | apply bN | apply bD | refine bX ?_ (by assumption)) | exact HB.out)⟩
 replace c5 := Bool.eq_false_iff.mpr c5
 subst c5
 have H1 : (some (([] : List (S23)), false)) = some (r1, r2) := by rw [if_neg (show ¬ (false = true) by decide)] at H; exact H
 clear H
 have H := H1
 clear H1
 focus
  simp only [Option.some.injEq, Prod.mk.injEq] at H
  obtain ⟨rfl, rfl⟩ := H
  go_enter Try.func16, Try.ntmps16
  go_wp2_with (first | ((with_reducible refine gate_dst (N := 3) rfl ?_); refine bE 3 #[.int .i64 a0_0, .int .i64 a0_1, .int .i64 a0_2] 25 ?_; intro gb375 hg w34 hbox hb; have hv := vK HB hb; have n0_ := Am (bT hv hb); have n1_ := Am (hbox); have GE375 := kG hg hv; clear HB; have HB := n0_; have BK375 := n1_; clear n0_ n1_ hv; clear hb hbox hg) | ((with_reducible refine gate_dst (N := 4) rfl ?_); refine bE 4 #[.int .i64 a1_0, .int .i64 a1_1, .int .i64 a1_2] 25 ?_; intro gb376 hg w35 hbox hb; have hp0 := pA BK375 hb; have hv := vK HB hb; have n1_ := Am (bT hv hb); have n2_ := Am (hbox); have GE376 := kG hg hv; have hp1 := pK BK375 hb; obtain ⟨NB375_376, NB376_375⟩ := kXY hg hp1 BK375; clear HB; replace BK375 := hp0 BK375; have HB := n1_; have BK376 := n2_; clear n1_ n2_ hp0 hp1 hv; clear hb hbox hg) | ((with_reducible refine gate_dst (N := 5) rfl ?_); refine bE 5 #[.int .i64 a2_0, .int .i64 a2_1, .int .i64 a2_2] 25 ?_; intro gb377 hg w36 hbox hb; have hp0 := pA BK375 hb; have hv := vK HB hb; have n2_ := Am (bT hv hb); have n3_ := Am (hbox); have GE377 := kG hg hv; have hp1 := pK BK375 hb; obtain ⟨NB375_377, NB377_375⟩ := kXY hg hp1 BK375; obtain ⟨NB376_377, NB377_376⟩ := kXY hg hp1 BK376; clear HB; replace BK375 := hp0 BK375; replace BK376 := hp0 BK376; have HB := n2_; have BK377 := n3_; clear n2_ n3_ hp0 hp1 hv; clear hb hbox hg; have u37 := kO NB375_376; have u38 := kO NB375_377; have z39 := c3 BK375; have u40 := kO NB376_377; have z41 := c3 BK376) | ((with_reducible refine gate_callee (f := 18) rfl ?_); refine gL (some 13) Try.func18 #[.agg #[.int .i64 a0_0, .int .i64 a0_1, .int .i64 a0_2], .agg #[.int .i64 a1_0, .int .i64 a1_1, .int .i64 a1_2]] rfl ?_; (with_reducible refine (impl_MeetTimes.calls k a0_0 a0_1 a0_2 a1_0 a1_1 a1_2 t378 false _ A4.out).mono ?_); rintro e w42 ⟨v379, rfl, ho0, hb⟩; refine ⟨_, rfl, ?_⟩; have n0_ := Am (Kd.R_lower ho0 (bZ (by repeat (first | (with_reducible first | exact HB.out | apply bA | apply bN | apply bD | refine bX ?_ (by assumption)) | exact HB.out)))); have hp0 := pA BK375 hb; have hv := vK HB hb; have n4_ := Am (bT hv hb); clear HB; have HO380 := n0_; replace BK375 := hp0 BK375; replace BK376 := hp0 BK376; replace BK377 := hp0 BK377; have HB := n4_; clear n0_ n4_ hp0 hv; (try clear hb); (try clear ho0)))
  go_ret2
  exact ⟨_, by first | rfl | (simp [errW_none, errW_some] <;> rfl) | (simp [*, errW_none, errW_some] <;> rfl), by first | exact Kd.R_nil _ _ _ _ _ | exact Kd.N_nil _ _ _ _ _ | exact Kd.V_nil _ _ _ _ _ | exact Kd.Q_nil _ _ _ _ _ | exact Kd.S_nil _ _ _ _ _, by repeat (first | (with_reducible first | exact HB.out | apply bA | apply bN | apply bD | refine bX ?_ (by assumption)) | exact HB.out)⟩
/-! ### spec_MeetTimes: function 41 -/
def spec_MeetTimes.f (k : Nat) (a0_0 : Int) (a0_1 : Int) (a0_2 : Int) (a1_0 : Int) (a1_1 : Int) (a1_2 : Int) : Option ((List (S23)) × Bool) := (spec_meAsked.f k a0_0 a0_1 a0_2 a1_0 a1_1 a1_2).bind fun t388 => (if t388 = true then ((spec_meRelative.f k a0_0 a0_1 a0_2 a1_0 a1_1 a1_2).bind fun bt389 => ((spec_meTimes.f k bt389.1 bt389.2.1 bt389.2.2 0 1).bind fun bt392 => (some (bt392.1, bt392.2)))) else (some (([] : List (S23)), false)))
theorem spec_MeetTimes.mono : ∀ a0 a1 a2 a3 a4 a5 k, LeO (spec_MeetTimes.f k a0 a1 a2 a3 a4 a5) (spec_MeetTimes.f (k + 1) a0 a1 a2 a3 a4 a5) := by
 intro a0 a1 a2 a3 a4 a5 k
 unfold spec_MeetTimes.f
 repeat' first
   | (with_reducible exact spec_meAsked.mono _ _ _ _ _ _ _)
   | (with_reducible exact spec_meRelative.mono _ _ _ _ _ _ _)
   | (with_reducible exact spec_meTimes.mono _ _ _ _ _ _)
   | (with_reducible exact LeO.refl _)
   | (with_reducible exact LeO.none _)
   | (with_reducible refine LeO.ite ?_ ?_)
   | (with_reducible refine LeO.bind ?_ (fun _ => ?_))
   | exact spec_meAsked.mono _ _ _ _ _ _ _
   | exact spec_meRelative.mono _ _ _ _ _ _ _
   | exact spec_meTimes.mono _ _ _ _ _ _
   | exact LeO.none _
   | refine LeO.ite ?_ ?_
   | refine LeO.bind ?_ (fun _ => ?_)
set_option maxHeartbeats 8000000 in
set_option maxRecDepth 100000 in
theorem spec_MeetTimes.calls (k : Nat) (a0_0 : Int) (a0_1 : Int) (a0_2 : Int) (a1_0 : Int) (a1_1 : Int) (a1_2 : Int) (r1 : List (S23)) (r2 : Bool) (w : World) (h : spec_MeetTimes.f k a0_0 a0_1 a0_2 a1_0 a1_1 a1_2 = some (r1, r2)) :
  Calls Try.prog 41 #[.agg #[.int .i64 a0_0, .int .i64 a0_1, .int .i64 a0_2], .agg #[.int .i64 a1_0, .int .i64 a1_1, .int .i64 a1_2]] w fun e w' => ∃ v0_ : Value, e = .returned (.tuple #[v0_, .bool r2]) ∧ Kd.R k23 23 w' w.heap.size (fun _ => True) v0_ r1 ∧ Below w.heap.size w w' := by
 have hu25 := Try.underlying25; have hu23 := Try.underlying23
 have HB := Am (Below.refl w.heap.size w)
 have H : ((spec_meAsked.f k a0_0 a0_1 a0_2 a1_0 a1_1 a1_2).bind fun t388 => (if t388 = true then ((spec_meRelative.f k a0_0 a0_1 a0_2 a1_0 a1_1 a1_2).bind fun bt389 => ((spec_meTimes.f k bt389.1 bt389.2.1 bt389.2.2 0 1).bind fun bt392 => (some (bt392.1, bt392.2)))) else (some (([] : List (S23)), false)))) = some (r1, r2) := h
 clear h
 replace H := Option.bind_eq_some_iff.mp H
 obtain ⟨t388, A30, H⟩ := H
 try dsimp only at H
 have A3 := Am A30
 clear A30
 by_cases c4 : t388 = true
 ·subst c4
  have H1 : ((spec_meRelative.f k a0_0 a0_1 a0_2 a1_0 a1_1 a1_2).bind fun bt389 => ((spec_meTimes.f k bt389.1 bt389.2.1 bt389.2.2 0 1).bind fun bt392 => (some (bt392.1, bt392.2)))) = some (r1, r2) := by rw [if_pos rfl] at H; exact H
  clear H
  have H := H1
  clear H1
  replace H := Option.bind_eq_some_iff.mp H
  obtain ⟨⟨t389, t390, t391⟩, A50, H⟩ := H
  try dsimp only at H
  have A5 := Am A50
  clear A50
  replace H := Option.bind_eq_some_iff.mp H
  obtain ⟨⟨t392, t395⟩, A60, H⟩ := H
  try dsimp only at H
  have A6 := Am A60
  clear A60
  focus
   simp only [Option.some.injEq, Prod.mk.injEq] at H
   obtain ⟨rfl, rfl⟩ := H
   go_enter Try.func41, Try.ntmps41
   go_wp2_with (first | ((with_reducible refine gate_dst (N := 2) rfl ?_); refine bE 2 #[.int .i64 a0_0, .int .i64 a0_1, .int .i64 a0_2] 25 ?_; intro gb386 hg w7 hbox hb; have hv := vK HB hb; have n0_ := Am (bT hv hb); have n1_ := Am (hbox); have GE386 := kG hg hv; clear HB; have HB := n0_; have BK386 := n1_; clear n0_ n1_ hv; clear hb hbox hg) | ((with_reducible refine gate_dst (N := 3) rfl ?_); refine bE 3 #[.int .i64 a1_0, .int .i64 a1_1, .int .i64 a1_2] 25 ?_; intro gb387 hg w8 hbox hb; have hp0 := pA BK386 hb; have hv := vK HB hb; have n1_ := Am (bT hv hb); have n2_ := Am (hbox); have GE387 := kG hg hv; have hp1 := pK BK386 hb; obtain ⟨NB386_387, NB387_386⟩ := kXY hg hp1 BK386; clear HB; replace BK386 := hp0 BK386; have HB := n1_; have BK387 := n2_; clear n1_ n2_ hp0 hp1 hv; clear hb hbox hg; have u9 := kO NB386_387; have z10 := c3 BK386; have z11 := c3 BK387) | ((with_reducible refine gate_callee (f := 25) rfl ?_); refine gL (some 8) Try.func25 #[.agg #[.int .i64 a0_0, .int .i64 a0_1, .int .i64 a0_2], .agg #[.int .i64 a1_0, .int .i64 a1_1, .int .i64 a1_2]] rfl ?_; (with_reducible refine (spec_meAsked.calls k a0_0 a0_1 a0_2 a1_0 a1_1 a1_2 true _ A3.out).mono ?_); rintro e w12 ⟨rfl, hb⟩; refine ⟨_, rfl, ?_⟩; have hp0 := pA BK386 hb; have hv := vK HB hb; have n2_ := Am (bT hv hb); clear HB; replace BK386 := hp0 BK386; replace BK387 := hp0 BK387; have HB := n2_; clear n2_ hp0 hv; (try clear hb); have z13 := c3 BK386; have z14 := c3 BK387) | ((with_reducible refine gate_callee (f := 28) rfl ?_); refine gL (some 12) Try.func28 #[.agg #[.int .i64 a0_0, .int .i64 a0_1, .int .i64 a0_2], .agg #[.int .i64 a1_0, .int .i64 a1_1, .int .i64 a1_2]] rfl ?_; (with_reducible refine (spec_meRelative.calls k a0_0 a0_1 a0_2 a1_0 a1_1 a1_2 t389 t390 t391 _ A5.out).mono ?_); rintro e w15 ⟨rfl, hb⟩; refine ⟨_, rfl, ?_⟩; have hp0 := pA BK386 hb; have hv := vK HB hb; have n2_ := Am (bT hv hb); clear HB; replace BK386 := hp0 BK386; replace BK387 := hp0 BK387; have HB := n2_; clear n2_ hp0 hv; (try clear hb)) | ((with_reducible refine gate_callee (f := 27) rfl ?_); refine gL (some 14) Try.func27 #[.agg #[.int .i64 t389, .int .i64 t390, .int .i64 t391], .agg #[.int .i64 0, .int .i64 1]] rfl ?_; (with_reducible refine (spec_meTimes.calls k t389 t390 t391 0 1 t392 t395 _ A6.out).mono ?_); rintro e w16 ⟨v393, rfl, ho0, hb⟩; refine ⟨_, rfl, ?_⟩; have n0_ := Am (Kd.R_lower ho0 (bZ (by repeat (first | (with_reducible first | exact HB.out | apply bA | apply bN | apply bD | refine bX ?_ (by assumption)) | exact HB.out)))); have hp0 := pA BK386 hb; have hv := vK HB hb; have n3_ := Am (bT hv hb); clear HB; have HO394 := n0_; replace BK386 := hp0 BK386; replace BK387 := hp0 BK387; have HB := n3_; clear n0_ n3_ hp0 hv; (try clear hb); (try clear ho0)))
   go_ret2
   exact ⟨_, by first | rfl | (simp [errW_none, errW_some] <;> rfl) | (simp [*, errW_none, errW_some] <;> rfl), by (with_reducible repeat (first | apply Kd.R_alloc | apply Kd.R_drewN | apply Kd.R_drew)); exact HO394.out, by repeat (first | (with_reducible first | exact HB.out | apply bA | apply bN | apply bD | refine bX ?_ (by assumption)) | exact HB.out)⟩
 replace c4 := Bool.eq_false_iff.mpr c4
 subst c4
 have H1 : (some (([] : List (S23)), false)) = some (r1, r2) := by rw [if_neg (show ¬ (false = true) by decide)] at H; exact H
 clear H
 have H := H1
 clear H1
 focus
  simp only [Option.some.injEq, Prod.mk.injEq] at H
  obtain ⟨rfl, rfl⟩ := H
  go_enter Try.func41, Try.ntmps41
  go_wp2_with (first | ((with_reducible refine gate_dst (N := 2) rfl ?_); refine bE 2 #[.int .i64 a0_0, .int .i64 a0_1, .int .i64 a0_2] 25 ?_; intro gb386 hg w17 hbox hb; have hv := vK HB hb; have n0_ := Am (bT hv hb); have n1_ := Am (hbox); have GE386 := kG hg hv; clear HB; have HB := n0_; have BK386 := n1_; clear n0_ n1_ hv; clear hb hbox hg) | ((with_reducible refine gate_dst (N := 3) rfl ?_); refine bE 3 #[.int .i64 a1_0, .int .i64 a1_1, .int .i64 a1_2] 25 ?_; intro gb387 hg w18 hbox hb; have hp0 := pA BK386 hb; have hv := vK HB hb; have n1_ := Am (bT hv hb); have n2_ := Am (hbox); have GE387 := kG hg hv; have hp1 := pK BK386 hb; obtain ⟨NB386_387, NB387_386⟩ := kXY hg hp1 BK386; clear HB; replace BK386 := hp0 BK386; have HB := n1_; have BK387 := n2_; clear n1_ n2_ hp0 hp1 hv; clear hb hbox hg; have u19 := kO NB386_387; have z20 := c3 BK386; have z21 := c3 BK387) | ((with_reducible refine gate_callee (f := 25) rfl ?_); refine gL (some 8) Try.func25 #[.agg #[.int .i64 a0_0, .int .i64 a0_1, .int .i64 a0_2], .agg #[.int .i64 a1_0, .int .i64 a1_1, .int .i64 a1_2]] rfl ?_; (with_reducible refine (spec_meAsked.calls k a0_0 a0_1 a0_2 a1_0 a1_1 a1_2 false _ A3.out).mono ?_); rintro e w22 ⟨rfl, hb⟩; refine ⟨_, rfl, ?_⟩; have hp0 := pA BK386 hb; have hv := vK HB hb; have n2_ := Am (bT hv hb); clear HB; replace BK386 := hp0 BK386; replace BK387 := hp0 BK387; have HB := n2_; clear n2_ hp0 hv; (try clear hb)))
  go_ret2
  exact ⟨_, by first | rfl | (simp [errW_none, errW_some] <;> rfl) | (simp [*, errW_none, errW_some] <;> rfl), by first | exact Kd.R_nil _ _ _ _ _ | exact Kd.N_nil _ _ _ _ _ | exact Kd.V_nil _ _ _ _ _ | exact Kd.Q_nil _ _ _ _ _ | exact Kd.S_nil _ _ _ _ _, by repeat (first | (with_reducible first | exact HB.out | apply bA | apply bN | apply bD | refine bX ?_ (by assumption)) | exact HB.out)⟩
end Go.Proofs.Ytcoembcafgelkaa.PFnHandsAheadOfAll
