/- FnExactAreSpread of the program answers as the reference does, whatever is given: the pure part of the proof. No condition. -/
import Derived.Test.YtioggbokjfdoaaaPFnExactAreSpreadx0
import Derived.Test.YtioggbokjfdoaaaPFnExactAreSpreadx1
import Derived.Test.YtioggbokjfdoaaaPFnExactAreSpreadx2
import Derived.Test.YtioggbokjfdoaaaPFnExactAreSpreadx3
import Derived.Test.YtioggbokjfdoaaaPFnExactAreSpreadx4
import Derived.Test.YtioggbokjfdoaaaPFnExactAreSpreadx5
import Derived.Test.YtioggbokjfdoaaaPFnExactAreSpreadx6
import Derived.Test.YtioggbokjfdoaaaPFnExactAreSpreadx7
import Derived.Test.YtioggbokjfdoaaaPFnExactAreSpreadx8
import Derived.Test.YtioggbokjfdoaaaMath
set_option linter.unusedVariables false
set_option linter.unusedSimpArgs false
namespace Go.Proofs.Ytioggbokjfdoaaa.Pure
open Go.RowKit Go.Proofs.Ytioggbokjfdoaaa.PFnExactAreSpread Go.Proofs.YtioggbokjfdoaaaW.PrintWords Go.Proofs.YtioggbokjfdoaaaW.PrintLast Go.Proofs.YtioggbokjfdoaaaW.PrintMore Go.Proofs.Ytioggbokjfdoaaa.Math

/-! laws_szHandS -/
theorem laws_szHandS_eq (l : List S25) (h : (l.length : Int) ≤ 9223372036854775807) : laws_szHandS.f l 1048576 = some (if 1048576 - (l.length : Int) < 0 then -1 else 1048576 - (l.length : Int)) := by
  unfold laws_szHandS.f
  rw [wrap_id (x := 1048576 - (l.length : Int)) (by omega) (by omega)]
  split <;> rfl

/-! spec_l1In -/
theorem spec_l1In_eq (a b c : Int) : spec_l1In.f a b c = some (decide (b ≤ a ∧ a ≤ c)) := by
  unfold spec_l1In.f
  by_cases h : a ≥ b
  · rw [if_pos h]; simp [show b ≤ a from h]
  · rw [if_neg h]; simp [show ¬ b ≤ a from h]

/-! spec_diCommon -/
theorem spec_diCommon_l0 : ∀ (n : Nat) (a b : Int), 0 ≤ a → 0 ≤ b → b < n → Ev (fun k => spec_diCommon.l0 k a b) (Int.gcd a b : Int) := by
  intro n
  induction n with
  | zero => intro a b _ h1 h2; omega
  | succ n ih =>
    intro a b ha hb hn
    by_cases h : b = 0
    · subst h
      refine Ev.step (f := fun _ => some a) (fun k => ?_) ?_
      · simp only [spec_diCommon.l0]
        rw [if_neg (by omega)]
      · rw [gcd_zero ha]; exact Ev.now a
    · have h1 := tmod_range ha (show 0 < b by omega)
      refine Ev.step (f := fun k => spec_diCommon.l0 k b (Int.tmod a b)) (fun k => ?_) ?_
      · simp only [spec_diCommon.l0]
        rw [if_pos (by omega), if_neg h]
      · rw [← gcd_step ha (show 0 < b by omega)]
        exact ih b _ (by omega) (by omega) (by omega)
theorem spec_diCommon_ev (a b : Int) (ha : 0 ≤ a) (hb : 0 ≤ b) : Ev (fun k => spec_diCommon.f k a b) (Int.gcd a b : Int) := by
  unfold spec_diCommon.f
  exact spec_diCommon_l0 (b.toNat + 1) a b ha hb (by omega)

/-! spec_diGood -/
theorem spec_diGood_ev (n d : Int) : Ev (fun k => spec_diGood.f k n d) (isT n d) := by
  unfold spec_diGood.f
  simp only [spec_l1In_eq, Option.bind_some]
  by_cases h : 1 ≤ d ∧ d ≤ 1000000
  · refine Ev.pos (by simpa using h) ?_
    rw [wrap_id (by omega) (by omega)]
    by_cases h2 : 0 ≤ n ∧ n ≤ d - 1
    · refine Ev.pos (by simpa using h2) ?_
      refine Ev.bind (spec_diCommon_ev n d (by omega) (by omega)) ?_
      refine Ev.val (Ev.now _) ?_
      unfold isT
      rw [Bool.eq_iff_iff]; simp; omega
    · refine Ev.neg (by simpa using h2) ?_
      refine Ev.val (Ev.now _) ?_
      unfold isT
      rw [Bool.eq_iff_iff]; simp; omega
  · refine Ev.neg (by simpa using h) ?_
    refine Ev.val (Ev.now _) ?_
    unfold isT
    rw [Bool.eq_iff_iff]; simp; omega

/-! spec_l1Sign -/
theorem spec_l1Sign_eq (a : Int) : spec_l1Sign.f a = some (sg a) := by
  unfold spec_l1Sign.f sg
  split
  · rfl
  · split <;> rfl

/-! spec_diCompare -/
theorem spec_diCompare_eq (a b c d : Int) (ha : isT a b = true) (hc : isT c d = true) : spec_diCompare.f a b c d = some (sg (a * d - c * b)) := by
  obtain ⟨p1, p2, p3, p4, _⟩ := isT_iff.1 ha
  obtain ⟨r1, r2, r3, r4, _⟩ := isT_iff.1 hc
  have m1 := mul_bound (a := a) (b := d) (A := 1000000) (B := 1000000) (by omega) (by omega) (by omega) (by omega)
  have m2 := mul_bound (a := c) (b := b) (A := 1000000) (B := 1000000) (by omega) (by omega) (by omega) (by omega)
  unfold spec_diCompare.f
  rw [wrap_id (x := a * d) (by omega) (by omega), wrap_id (x := c * b) (by omega) (by omega), wrap_id (by omega) (by omega)]
  simp only [spec_l1Sign_eq, Option.bind_some]

/-! spec_meGood -/
theorem spec_meGood_ev (n d s : Int) : Ev (fun k => spec_meGood.f k n d s) (isH n d s) := by
  unfold spec_meGood.f isH isC
  refine Ev.bind (spec_diGood_ev n d) ?_
  simp only [spec_l1In_eq, Option.bind_some]
  cases isT n d
  · exact Ev.val (Ev.now _) (by simp)
  · by_cases h : d ≤ 1000
    · refine Ev.pos rfl (Ev.pos h ?_)
      exact Ev.val (Ev.now _) (by simp [h])
    · refine Ev.pos rfl (Ev.neg h ?_)
      exact Ev.val (Ev.now _) (by simp [h])

/-! spec_diMake -/
theorem spec_diMake_ev (n d : Int) (hd : 0 < d) (hd' : d ≤ 4000000000000000000) (hn : -4000000000000000000 ≤ n) (hn' : n ≤ 4000000000000000000) : Ev (fun k => spec_diMake.f k n d) (mk ((n : Rat) / d)) := by
  unfold spec_diMake.f
  refine Ev.neg (by omega) ?_
  have h0 := Int.emod_nonneg n (show d ≠ 0 by omega)
  have h1 := Int.emod_lt_of_pos n hd
  obtain ⟨t1, t2⟩ := tmod_bound n d hd
  have e0 : Int.tmod (wrap64 (Int.tmod n d + d)) d = n % d := by
    rw [wrap_id (by omega) (by omega)]; exact tmod_tmod n d hd
  rw [e0]
  refine Ev.bind (spec_diCommon_ev (n % d) d h0 (by omega)) ?_
  have hg := gcd_pos' (n % d) hd
  refine Ev.neg (by omega) ?_
  have e1 := Int.tdiv_eq_ediv_of_nonneg (b := (Int.gcd (n % d) d : Int)) h0
  have e2 := Int.tdiv_eq_ediv_of_nonneg (b := (Int.gcd (n % d) d : Int)) (show 0 ≤ d by omega)
  have b1 := ediv_le' h0 hg
  have b2 := ediv_le' (show 0 ≤ d by omega) hg
  rw [e1, e2, wrap_id (by omega) (by omega), wrap_id (by omega) (by omega)]
  unfold mk
  rw [tn_div n d hd, td_div n d hd]
  by_cases h : d / (Int.gcd (n % d) d : Int) > 1000000
  · rw [if_pos h, if_neg (by omega)]; exact Ev.now _
  · rw [if_neg h, if_pos (by omega)]; exact Ev.now _

/-! spec_diAdd -/
theorem spec_diAdd_ev (a b c d t : Int) (hb : 0 < b) (hd : 0 < d) (hm : b * d ≤ 1000000000000000) (ha : -b ≤ a) (ha' : a ≤ b) (hc : -d ≤ c) (hc' : c ≤ d) (ht : -1000 ≤ t) (ht' : t ≤ 1000) : Ev (fun k => spec_diAdd.f k a b c d t) (mk ((a : Rat) / b + t * ((c : Rat) / d))) := by
  have m1 := mul_bound (a := a) (b := d) (A := b) (B := d) (by omega) (by omega) (by omega) (by omega)
  have m2 := mul_bound (a := t) (b := c) (A := 1000) (B := d) (by omega) (by omega) (by omega) (by omega)
  have m4 := mul_bound (a := t * c) (b := b) (A := 1000 * d) (B := b) (by omega) (by omega) (by omega) (by omega)
  have m3 := Int.mul_pos hb hd
  have m5 : d ≤ b * d := by have := Int.mul_le_mul_of_nonneg_right (show 1 ≤ b by omega) (show 0 ≤ d by omega); omega
  rw [Int.mul_assoc, Int.mul_comm d b] at m4
  unfold spec_diAdd.f
  rw [wrap_id (x := a * d) (by omega) (by omega), wrap_id (x := t * c) (by omega) (by omega), wrap_id (x := t * c * b) (by omega) (by omega), wrap_id (x := b * d) (by omega) (by omega), wrap_id (by omega) (by omega)]
  rw [← q_add_mul hb hd]
  exact Ev.bind (spec_diMake_ev _ _ (by omega) (by omega) (by omega) (by omega)) (Ev.now _)
theorem spec_diAdd_T (a b c d t : Int) (h1 : isT a b = true) (h2 : isT c d = true) (ht : -1000 ≤ t) (ht' : t ≤ 1000) : Ev (fun k => spec_diAdd.f k a b c d t) (mk ((a : Rat) / b + t * ((c : Rat) / d))) := by
  obtain ⟨p1, p2, p3, p4, _⟩ := isT_iff.1 h1
  obtain ⟨r1, r2, r3, r4, _⟩ := isT_iff.1 h2
  have m3 := mul_bound (a := b) (b := d) (A := 1000000) (B := 1000000) (by omega) (by omega) (by omega) (by omega)
  exact spec_diAdd_ev a b c d t (by omega) (by omega) (by omega) (by omega) (by omega) (by omega) (by omega) ht ht'

/-! spec_meAt -/
theorem spec_meAt_ev (a b s c d : Int) (h1 : isT a b = true) (h2 : isT c d = true) (h0 : -1000 ≤ s) (h3 : s ≤ 1000) : Ev (fun k => spec_meAt.f k a b s c d) (mk ((a : Rat) / b + s * ((c : Rat) / d))) := by
  unfold spec_meAt.f
  exact Ev.bind (spec_diAdd_T a b c d s h1 h2 h0 h3) (Ev.now _)

/-! h_gaps -/
/-! ### the gaps between hands -/
def gpOK (x : S26) : Bool := isT x.f0 x.f1
theorem gp_srt {x : S26} (h : gpOK x = true) : srt_ok x := by
  obtain ⟨h1, h2, h3, h4, h5⟩ := isT_iff.1 h
  exact ⟨h3, by omega, h1, h2, h5⟩
/-- where the hands stand -/
def gpQ (m n : Int) (x : S30) : Rat := (x.f0.f0 : Rat) / x.f0.f1 + x.f1 * ((m : Rat) / n)
def gpPlace (m n : Int) (x : S30) : S26 := ⟨tn (gpQ m n x), td (gpQ m n x)⟩
/-- what lies between two places -/
def gpD (p q : S26) : Rat := (p.f0 : Rat) / p.f1 - (q.f0 : Rat) / q.f1
def gpDiff (p q : S26) : S26 := ⟨tn (gpD p q), td (gpD p q)⟩
def gpNth (l : List S26) (i : Nat) : S26 := gpDiff (l.getD ((i + 1) % l.length) z26) (l.getD i z26)
def gpAll (l : List S26) : List S26 := (List.range l.length).map (gpNth l)
def gpGood (l : List S30) : Bool := l.all fun x => isH x.f0.f0 x.f0.f1 x.f1
def gpEnd (S : List S26) : List S26 × Bool := if ((gpAll S).all gpOK) = true then (gpAll S, true) else ([], false)
def gpMid (l : List S30) (m n : Int) : List S26 × Bool := if ((l.map (gpPlace m n)).all gpOK) = true then gpEnd ((l.map (gpPlace m n)).mergeSort srt_le) else ([], false)
def vGaps (l : List S30) (m n : Int) : List S26 × Bool :=
  if 1 ≤ l.length ∧ l.length ≤ 12 then if gpGood l = true then if isT m n = true then gpMid l m n else ([], false) else ([], false) else ([], false)
theorem gpAll_len (l : List S26) : (gpAll l).length = l.length := by unfold gpAll; simp
theorem gpEnd_len (S : List S26) : (gpEnd S).1.length ≤ S.length := by
  unfold gpEnd
  split
  · rw [gpAll_len]; exact Nat.le_refl _
  · exact Nat.zero_le _
theorem vGaps_len (l : List S30) (m n : Int) : (vGaps l m n).1.length ≤ 12 := by
  unfold vGaps gpMid
  split
  · rename_i h
    split
    · split
      · split
        · refine Nat.le_trans (gpEnd_len _) ?_
          rw [List.length_mergeSort, List.length_map]; exact h.2
        · simp
      · simp
    · simp
  · simp
theorem gp_rd (l : List S26) (i : Nat) : rd_T26 l (i : Int) = l.getD i z26 := by unfold rd_T26; rw [Int.toNat_natCast]
theorem gp_mod (i n : Nat) (hn : 0 < n) (hi : i < 2000000) : Int.tmod (wrap64 ((i : Int) + 1)) (n : Int) = (((i + 1) % n : Nat) : Int) := by
  rw [wrap_id (x := (i : Int) + 1) (by omega) (by omega), show (i : Int) + 1 = ((i + 1 : Nat) : Int) by omega]
  rfl
theorem gpAll_take (S : List S26) (i : Nat) (h : i < S.length) : (gpAll S).take (i + 1) = (gpAll S).take i ++ [gpNth S i] := by
  rw [List.take_add_one]
  unfold gpAll
  rw [List.getElem?_map, List.getElem?_range h]; rfl
/-! an insertion sort does the same -/
def gpIns (p : S26) : List S26 → List S26
  | [] => [p]
  | x :: xs => if srt_le x p = true then x :: gpIns p xs else p :: x :: xs
theorem gpIns_perm (p : S26) : ∀ l, (gpIns p l).Perm (p :: l)
  | [] => List.Perm.refl _
  | x :: xs => by
    unfold gpIns
    split
    · exact ((gpIns_perm p xs).cons x).trans (List.Perm.swap _ _ _)
    · exact List.Perm.refl _
theorem srt_le_iff (x y : S26) : srt_le x y = true ↔ x.f0 * y.f1 ≤ y.f0 * x.f1 := by
  unfold srt_le
  rw [Bool.not_eq_true', decide_eq_false_iff_not, Int.not_lt]
theorem srt_le_trans {x y z : S26} (hx : gpOK x = true) (hy : gpOK y = true) (hz : gpOK z = true) (h1 : srt_le x y = true) (h2 : srt_le y z = true) : srt_le x z = true := by
  rw [srt_le_iff] at *
  obtain ⟨a1, a2, a3, a4, _⟩ := isT_iff.1 hx
  obtain ⟨b1, b2, b3, b4, _⟩ := isT_iff.1 hy
  obtain ⟨c1, c2, c3, c4, _⟩ := isT_iff.1 hz
  exact srt_tr' (by omega) (by omega) (by omega) h1 h2
theorem srt_le_total (x y : S26) (h : ¬ srt_le x y = true) : srt_le y x = true := by
  rw [srt_le_iff] at *; omega
theorem srt_le_anti {x y : S26} (hx : gpOK x = true) (hy : gpOK y = true) (h1 : srt_le x y = true) (h2 : srt_le y x = true) : x = y := by
  rw [srt_le_iff] at *
  have := srt_one ⟨x, gp_srt hx⟩ ⟨y, gp_srt hy⟩ (by rw [srt_lt]; exact decide_eq_false (by simp only; omega)) (by rw [srt_lt]; exact decide_eq_false (by simp only; omega))
  exact congrArg Subtype.val this
theorem gpIns_mem {p y : S26} {l : List S26} (h : y ∈ gpIns p l) : y = p ∨ y ∈ l := by
  have := (gpIns_perm p l).mem_iff.1 h
  simpa using this
theorem gpIns_pair (p : S26) (hp : gpOK p = true) : ∀ (l : List S26), (∀ x ∈ l, gpOK x = true) → l.Pairwise (fun x y => srt_le x y = true) → (gpIns p l).Pairwise (fun x y => srt_le x y = true)
  | [], _, _ => by simp [gpIns]
  | x :: xs, h, hs => by
    rw [List.pairwise_cons] at hs
    unfold gpIns
    split
    · rename_i hc
      rw [List.pairwise_cons]
      refine ⟨fun y hy => ?_, gpIns_pair p hp xs (fun y hy => h y (List.mem_cons_of_mem _ hy)) hs.2⟩
      rcases gpIns_mem hy with rfl | hy
      · exact hc
      · exact hs.1 y hy
    · rename_i hc
      have hc' := srt_le_total _ _ hc
      rw [List.pairwise_cons, List.pairwise_cons]
      refine ⟨fun y hy => ?_, hs.1, hs.2⟩
      rcases List.mem_cons.1 hy with rfl | hy
      · exact hc'
      · exact srt_le_trans hp (h x List.mem_cons_self) (h y (List.mem_cons_of_mem _ hy)) hc' (hs.1 y hy)
def gpSort (l : List S26) : List S26 := l.foldl (fun acc p => gpIns p acc) []
theorem gpSort_snoc (l : List S26) (p : S26) : gpSort (l ++ [p]) = gpIns p (gpSort l) := by unfold gpSort; rw [List.foldl_append]; rfl
theorem gpFold_perm : ∀ (l acc : List S26), (l.foldl (fun acc p => gpIns p acc) acc).Perm (l ++ acc)
  | [], acc => List.Perm.refl _
  | p :: ps, acc => by
    rw [List.foldl_cons]
    refine (gpFold_perm ps (gpIns p acc)).trans ?_
    refine (List.Perm.append_left ps (gpIns_perm p acc)).trans ?_
    exact List.perm_middle
theorem gpSort_perm (l : List S26) : (gpSort l).Perm l := by have := gpFold_perm l []; rwa [List.append_nil] at this
theorem gpFold_pair : ∀ (l acc : List S26), (∀ x ∈ l, gpOK x = true) → (∀ x ∈ acc, gpOK x = true) → acc.Pairwise (fun x y => srt_le x y = true) → (l.foldl (fun acc p => gpIns p acc) acc).Pairwise (fun x y => srt_le x y = true)
  | [], acc, _, _, h => h
  | p :: ps, acc, h1, h2, h => by
    rw [List.foldl_cons]
    refine gpFold_pair ps _ (fun x hx => h1 x (List.mem_cons_of_mem _ hx)) (fun x hx => ?_) (gpIns_pair p (h1 p List.mem_cons_self) acc h2 h)
    rcases gpIns_mem hx with rfl | hx
    · exact h1 _ List.mem_cons_self
    · exact h2 x hx
theorem gpMerge_pair (l : List S26) (h : ∀ x ∈ l, srt_ok x) : (l.mergeSort srt_le).Pairwise (fun x y => srt_le x y = true) := by
  rw [← srt_merge l h, List.pairwise_map]
  have := List.pairwise_mergeSort (le := fun x y : SrtT => !(ltOf srt_cf) y x) (fun a b c h1 h2 => by
    simp only [Bool.not_eq_true'] at *
    exact srt_swo.ntrans _ _ _ h2 h1) (fun a b => by
    cases h1 : ltOf srt_cf b a
    · rfl
    · cases h2 : ltOf srt_cf a b
      · rfl
      · have := srt_swo.trans _ _ _ h1 h2
        rw [srt_swo.irrefl] at this; cases this) (srt_arr l h).toList
  refine this.imp (fun {a b} hab => ?_)
  rw [srt_lt] at hab
  exact hab
theorem gpSort_eq (l : List S26) (h : (l.all gpOK) = true) : gpSort l = l.mergeSort srt_le := by
  have h' : ∀ x ∈ l, gpOK x = true := List.all_eq_true.1 h
  refine List.Perm.eq_of_pairwise (le := fun x y => srt_le x y = true) (fun a b ha hb h1 h2 => srt_le_anti (h' a ((gpSort_perm l).mem_iff.1 ha)) (h' b ((List.mergeSort_perm l srt_le).mem_iff.1 hb)) h1 h2) (gpFold_pair l [] h' (fun x hx => by simp at hx) List.Pairwise.nil) (gpMerge_pair l (fun x hx => gp_srt (h' x hx))) ((gpSort_perm l).trans (List.mergeSort_perm l srt_le).symm)
theorem gpIns_at (p : S26) : ∀ (S : List S26) (j : Nat), j ≤ S.length → (∀ x ∈ S.take j, srt_le x p = true) → (∀ h : j < S.length, ¬ srt_le S[j] p = true) → gpIns p S = S.take j ++ [p] ++ S.drop j
  | [], j, hj, _, _ => by
    have : j = 0 := by simpa using hj
    subst this; rfl
  | x :: xs, 0, _, _, h => by
    have := h (by simp)
    unfold gpIns
    rw [if_neg (by simpa using this)]; rfl
  | x :: xs, j + 1, hj, h1, h2 => by
    unfold gpIns
    rw [if_pos (h1 x (by rw [List.take_succ_cons]; exact List.mem_cons_self))]
    rw [gpIns_at p xs j (by simpa using hj) (fun y hy => h1 y (by rw [List.take_succ_cons]; exact List.mem_cons_of_mem _ hy)) (fun h => by have := h2 (by simpa using h); simpa using this)]
    rw [List.take_succ_cons, List.drop_succ_cons]; rfl
theorem gpIns_len (p : S26) (l : List S26) : (gpIns p l).length = l.length + 1 := by rw [(gpIns_perm p l).length_eq]; rfl

/-! spec_meGaps -/
theorem mk_ok {q : Rat} : (mk q).2.2 = decide (td q ≤ 1000000) := by unfold mk; split <;> simp [*]
theorem spec_meGaps_l2 (S : List S26) (hS : ∀ x ∈ S, gpOK x = true) (hl : S.length ≤ 12) : ∀ (r i : Nat), S.length - i = r → i ≤ S.length → (∀ x ∈ (gpAll S).take i, gpOK x = true) → Ev (fun k => spec_meGaps.l2 k S ((gpAll S).take i) (S.length : Int) (i : Int)) (gpEnd S) := by
  intro r
  induction r with
  | zero =>
    intro i h0 h1 hok
    have hi : i = S.length := by omega
    have e : (gpAll S).take i = gpAll S := List.take_of_length_le (by rw [gpAll_len]; omega)
    rw [e] at hok ⊢
    refine Ev.step (f := fun k => some (gpAll S, true)) (fun k => ?_) ?_
    · simp only [spec_meGaps.l2]
      rw [if_neg (by omega)]
    · unfold gpEnd
      rw [if_pos (List.all_eq_true.2 hok)]; exact Ev.now _
  | succ r ih =>
    intro i h0 h1 hok
    have hlt : i < S.length := by omega
    have hm : (i + 1) % S.length < S.length := Nat.mod_lt _ (by omega)
    have q1 : gpOK (S.getD ((i + 1) % S.length) z26) = true := by rw [List.getD_eq_getElem?_getD, List.getElem?_eq_getElem hm]; exact hS _ (List.getElem_mem hm)
    have q2 : gpOK (S.getD i z26) = true := by rw [List.getD_eq_getElem?_getD, List.getElem?_eq_getElem hlt]; exact hS _ (List.getElem_mem hlt)
    have ih' := ih (i + 1) (by omega) (by omega)
    have hx : gpNth S i = gpDiff (S.getD ((i + 1) % S.length) z26) (S.getD i z26) := rfl
    have hmem : gpNth S i ∈ gpAll S := by unfold gpAll; exact List.mem_map.2 ⟨i, List.mem_range.2 hlt, rfl⟩
    rw [gpAll_take S i hlt] at ih'
    have hacc : ((gpAll S).take i).length ≤ 12 := by rw [List.length_take, gpAll_len]; omega
    generalize (gpAll S).take i = acc at ih' hacc hok ⊢
    refine Ev.step (f := fun k => (spec_diAdd.f k (S.getD ((i + 1) % S.length) z26).f0 (S.getD ((i + 1) % S.length) z26).f1 (S.getD i z26).f0 (S.getD i z26).f1 (-1)).bind fun bt => (if bt.2.2 = true then (if acc.length + 1 < 8796093022208 then (spec_meGaps.l2 k S (acc ++ [⟨bt.1, bt.2.1⟩]) (S.length : Int) ((i + 1 : Nat) : Int)) else none) else some ([], false))) (fun k => ?_) ?_
    · simp only [spec_meGaps.l2]
      rw [if_pos (by omega), if_neg (by omega), gp_mod i S.length (by omega) (by omega), if_pos (by omega), if_pos (by omega), if_pos (by omega), if_pos (by omega), gp_rd, gp_rd, wrap_id (x := (i : Int) + 1) (by omega) (by omega)]
      rfl
    · refine Ev.bind (spec_diAdd_T _ _ _ _ (-1) q1 q2 (by omega) (by omega)) ?_
      rw [add_neg_one_mul']
      have hd : (gpNth S i) = ⟨tn (gpD (S.getD ((i + 1) % S.length) z26) (S.getD i z26)), td (gpD (S.getD ((i + 1) % S.length) z26) (S.getD i z26))⟩ := rfl
      rw [show ((S.getD ((i + 1) % S.length) z26).f0 : Rat) / (S.getD ((i + 1) % S.length) z26).f1 - ((S.getD i z26).f0 : Rat) / (S.getD i z26).f1 = gpD (S.getD ((i + 1) % S.length) z26) (S.getD i z26) from rfl]
      generalize gpD (S.getD ((i + 1) % S.length) z26) (S.getD i z26) = q at hd ⊢
      have ho : gpOK (gpNth S i) = decide (td q ≤ 1000000) := by rw [hd]; exact isT_tn q
      by_cases hq : td q ≤ 1000000
      · rw [mk_of hq]
        rw [hd] at ih'
        refine Ev.pos rfl (Ev.pos (by omega) (ih' (fun x hx => ?_)))
        rcases List.mem_append.1 hx with hx | hx
        · exact hok x hx
        · rw [List.mem_singleton.1 hx, ← hd, ho]; exact decide_eq_true hq
      · rw [show mk q = (0, 0, false) from if_neg hq]
        refine Ev.neg (by decide) ?_
        unfold gpEnd
        rw [if_neg (fun h => by have := List.all_eq_true.1 h _ hmem; rw [ho, decide_eq_true_iff] at this; exact hq this)]
        exact Ev.now _
theorem spec_meGaps_l1 (l : List S30) (m n p0 p1 : Int) (hp : isT p0 p1 = true) (S : List S26) (hS : ∀ x ∈ S, gpOK x = true) (hl : S.length ≤ 12) (i : Int) (hi : 0 ≤ i) (hi' : i ≤ 100) (v : List S26 × Bool) (hv : Ev (fun k => spec_meGaps.l0 k (gpIns ⟨p0, p1⟩ S) l (l.length : Int) (i + 1) m n) v) : ∀ (r j : Nat), S.length - j = r → j ≤ S.length → (∀ x ∈ S.take j, srt_le x ⟨p0, p1⟩ = true) → Ev (fun k => spec_meGaps.l1 k S (j : Int) l (l.length : Int) i m n p0 p1) v := by
  intro r
  induction r with
  | zero =>
    intro j h0 h1 hle
    have hj : j = S.length := by omega
    have e := gpIns_at ⟨p0, p1⟩ S j h1 hle (fun h => by omega)
    rw [e] at hv
    refine Ev.step (f := fun k => spec_meGaps.l0 k (S.take j ++ [⟨p0, p1⟩] ++ S.drop j) l (l.length : Int) (i + 1) m n) (fun k => ?_) hv
    simp only [spec_meGaps.l1]
    rw [if_neg (by omega)]
    simp only [Option.bind_some, List.nil_append]
    rw [Int.toNat_natCast]
    simp only [List.length_append, List.length_take, List.length_drop, List.length_nil, List.length_cons]
    repeat (first | rw [if_pos (by omega)] | rfl)
    rw [wrap_id (x := i + 1) (by omega) (by omega)]
  | succ r ih =>
    intro j h0 h1 hle
    have hlt : j < S.length := by omega
    have q2 : gpOK S[j] = true := hS _ (List.getElem_mem hlt)
    have hr : rd_T26 S (j : Int) = S[j] := by unfold rd_T26; rw [List.getD_eq_getElem?_getD, show ((j : Int)).toNat = j from Int.toNat_natCast j, List.getElem?_eq_getElem hlt]; rfl
    have hsg : (sg (S[j].f0 * p1 - p0 * S[j].f1) ≤ 0) ↔ srt_le S[j] ⟨p0, p1⟩ = true := by
      rw [srt_le_iff]
      show _ ↔ S[j].f0 * p1 ≤ p0 * S[j].f1
      unfold sg
      split
      · constructor <;> intro h <;> omega
      · split
        · constructor <;> intro h <;> omega
        · constructor <;> intro h <;> omega
    by_cases hc : srt_le S[j] ⟨p0, p1⟩ = true
    · refine Ev.step (f := fun k => spec_meGaps.l1 k S ((j + 1 : Nat) : Int) l (l.length : Int) i m n p0 p1) (fun k => ?_) (ih (j + 1) (by omega) (by omega) (fun x hx => ?_))
      · simp only [spec_meGaps.l1]
        rw [if_pos (by omega), if_pos (by omega), hr, spec_diCompare_eq _ _ _ _ q2 hp]
        simp only [Option.bind_some]
        rw [if_pos (hsg.2 hc), wrap_id (x := (j : Int) + 1) (by omega) (by omega)]
        rfl
      · rw [List.take_add_one, List.getElem?_eq_getElem hlt] at hx
        rcases List.mem_append.1 hx with hx | hx
        · exact hle x hx
        · rw [show x = S[j] by simpa using hx]; exact hc
    · have e := gpIns_at ⟨p0, p1⟩ S j h1 hle (fun h => hc)
      rw [e] at hv
      refine Ev.step (f := fun k => spec_meGaps.l0 k (S.take j ++ [⟨p0, p1⟩] ++ S.drop j) l (l.length : Int) (i + 1) m n) (fun k => ?_) hv
      simp only [spec_meGaps.l1]
      rw [if_pos (by omega), if_pos (by omega), hr, spec_diCompare_eq _ _ _ _ q2 hp]
      simp only [Option.bind_some, List.nil_append]
      rw [if_neg (fun h => hc (hsg.1 h))]
      rw [Int.toNat_natCast]
      simp only [List.length_append, List.length_take, List.length_drop, List.length_nil, List.length_cons]
      repeat (first | rw [if_pos (by omega)] | rfl)
      rw [wrap_id (x := i + 1) (by omega) (by omega)]
theorem gp_sortlen (P : List S26) : (gpSort P).length = P.length := (gpSort_perm P).length_eq
def gpSpec (l : List S30) (m n : Int) : List S26 × Bool := if gpGood l = true then gpMid l m n else ([], false)
theorem spec_meGaps_l0 (l : List S30) (m n : Int) (hl : l.length ≤ 12) (ht : isT m n = true) : ∀ (r i : Nat), l.length - i = r → i ≤ l.length → (∀ x ∈ l.take i, isH x.f0.f0 x.f0.f1 x.f1 = true) → (∀ x ∈ (l.map (gpPlace m n)).take i, gpOK x = true) → Ev (fun k => spec_meGaps.l0 k (gpSort ((l.map (gpPlace m n)).take i)) l (l.length : Int) (i : Int) m n) (gpSpec l m n) := by
  intro r
  induction r with
  | zero =>
    intro i h0 h1 hg hok
    have hi : i = l.length := by omega
    rw [List.take_of_length_le (by omega)] at hg
    rw [List.take_of_length_le (by rw [List.length_map]; omega)] at hok ⊢
    have hP : ((l.map (gpPlace m n)).all gpOK) = true := List.all_eq_true.2 hok
    unfold gpSpec gpMid
    rw [if_pos (show gpGood l = true from List.all_eq_true.2 hg), if_pos hP, ← gpSort_eq _ hP]
    have hS : ∀ x ∈ gpSort (l.map (gpPlace m n)), gpOK x = true := fun x hx => hok x ((gpSort_perm _).mem_iff.1 hx)
    have hL : (gpSort (l.map (gpPlace m n))).length ≤ 12 := by rw [gp_sortlen, List.length_map]; exact hl
    generalize gpSort (l.map (gpPlace m n)) = S at hS hL ⊢
    refine Ev.step (f := fun k => spec_meGaps.l2 k S [] (S.length : Int) 0) (fun k => ?_) ?_
    · simp only [spec_meGaps.l0]
      rw [if_neg (by omega)]
    · exact spec_meGaps_l2 S hS hL _ 0 rfl (by omega) (fun x hx => by simp at hx)
  | succ r ih =>
    intro i h0 h1 hg hok
    have hlt : i < l.length := by omega
    have hr : rd_T30 l (i : Int) = l[i] := by unfold rd_T30; rw [List.getD_eq_getElem?_getD, show ((i : Int)).toNat = i from Int.toNat_natCast i, List.getElem?_eq_getElem hlt]; rfl
    have ih' := ih (i + 1) (by omega) (by omega)
    have e1 : (l.map (gpPlace m n)).take (i + 1) = (l.map (gpPlace m n)).take i ++ [gpPlace m n l[i]] := by
      rw [List.take_add_one, List.getElem?_map, List.getElem?_eq_getElem hlt]; rfl
    have e2 : l.take (i + 1) = l.take i ++ [l[i]] := by rw [List.take_add_one, List.getElem?_eq_getElem hlt]; rfl
    have hmP : gpPlace m n l[i] ∈ l.map (gpPlace m n) := List.mem_map.2 ⟨_, List.getElem_mem hlt, rfl⟩
    rw [e1, e2, gpSort_snoc] at ih'
    have hS : ∀ x ∈ gpSort ((l.map (gpPlace m n)).take i), gpOK x = true := fun x hx => hok x ((gpSort_perm _).mem_iff.1 hx)
    have hL : (gpSort ((l.map (gpPlace m n)).take i)).length ≤ 12 := by rw [gp_sortlen, List.length_take, List.length_map]; omega
    generalize gpSort ((l.map (gpPlace m n)).take i) = S at ih' hS hL ⊢
    refine Ev.step (f := fun k => (spec_meGood.f k l[i].f0.f0 l[i].f0.f1 l[i].f1).bind fun t => (if t = true then ((spec_meAt.f k l[i].f0.f0 l[i].f0.f1 l[i].f1 m n).bind fun bt => (if bt.2.2 = true then (spec_meGaps.l1 k S 0 l (l.length : Int) (i : Int) m n bt.1 bt.2.1) else (some ([], false)))) else (some ([], false)))) (fun k => ?_) ?_
    · simp only [spec_meGaps.l0]
      rw [if_pos (by omega), if_pos (by omega), if_pos (by omega), hr]
    · refine Ev.bind (spec_meGood_ev _ _ _) ?_
      by_cases hh : isH l[i].f0.f0 l[i].f0.f1 l[i].f1 = true
      · refine Ev.pos hh ?_
        obtain ⟨u1, u2⟩ := isH_speed hh
        have p0 := (isC_iff.1 (isH_iff.1 hh).1).1
        refine Ev.bind (spec_meAt_ev _ _ _ m n p0 ht (by omega) (by omega)) ?_
        have hd : gpPlace m n l[i] = ⟨tn (gpQ m n l[i]), td (gpQ m n l[i])⟩ := rfl
        rw [show ((l[i].f0.f0 : Rat) / l[i].f0.f1 + l[i].f1 * ((m : Rat) / n)) = gpQ m n l[i] from rfl]
        generalize gpQ m n l[i] = q at hd ⊢
        have ho : gpOK (gpPlace m n l[i]) = decide (td q ≤ 1000000) := by rw [hd]; exact isT_tn q
        by_cases hq : td q ≤ 1000000
        · rw [mk_of hq]
          refine Ev.pos rfl ?_
          have ho' : gpOK (gpPlace m n l[i]) = true := by rw [ho]; exact decide_eq_true hq
          have ih2 := ih' (fun x hx => by
            rcases List.mem_append.1 hx with hx | hx
            · exact hg x hx
            · rw [List.mem_singleton.1 hx]; exact hh) (fun x hx => by
            rcases List.mem_append.1 hx with hx | hx
            · exact hok x hx
            · rw [List.mem_singleton.1 hx]; exact ho')
          rw [hd] at ih2
          rw [hd] at ho'
          exact spec_meGaps_l1 l m n (tn q) (td q) ho' S hS hL (i : Int) (by omega) (by omega) _ ih2 _ 0 rfl (by omega) (fun x hx => by simp at hx)
        · rw [show mk q = (0, 0, false) from if_neg hq]
          refine Ev.neg (by decide) ?_
          unfold gpSpec gpMid
          rw [if_neg (show ¬ ((l.map (gpPlace m n)).all gpOK) = true from fun h => by have := List.all_eq_true.1 h _ hmP; rw [ho, decide_eq_true_iff] at this; exact hq this)]
          rw [ite_self]; exact Ev.now _
      · refine Ev.neg hh ?_
        unfold gpSpec
        rw [if_neg (show ¬ gpGood l = true from fun h => hh (List.all_eq_true.1 h _ (List.getElem_mem hlt)))]
        exact Ev.now _
theorem spec_meGaps_ev (l : List S30) (m n : Int) (hlen : l.length ≤ 2000000) : Ev (fun k => spec_meGaps.f k l m n) (vGaps l m n) := by
  unfold spec_meGaps.f vGaps
  have no : Ev (fun k => spec_meGaps.j0 k l true m n) ([], false) := by
    refine Ev.step (f := fun _ => some ([], false)) (fun k => ?_) (Ev.now _)
    simp only [spec_meGaps.j0]; rfl
  rw [spec_l1In_eq]
  simp only [Option.bind_some]
  by_cases h1 : 1 ≤ l.length ∧ l.length ≤ 12
  · rw [if_pos h1]
    refine Ev.pos (by rw [decide_eq_true_iff]; omega) ?_
    refine Ev.bind (spec_diGood_ev m n) ?_
    cases h3 : isT m n
    · simp only [Bool.false_eq_true, if_false, ite_self]; exact no
    · rw [if_pos rfl]
      refine Ev.step (f := fun k => spec_meGaps.l0 k [] l (l.length : Int) 0 m n) (fun k => ?_) ?_
      · simp only [spec_meGaps.j0]; rfl
      · exact spec_meGaps_l0 l m n h1.2 h3 _ 0 rfl (by omega) (fun x hx => by simp at hx) (fun x hx => by simp at hx)
  · rw [if_neg h1]
    exact Ev.neg (by rw [decide_eq_true_iff]; omega) no

/-! h_spread -/
def spBad (g : List S26) (x : S26) : Bool := (!(x.f0 == (rd_T26 g 0).f0) || (!(x.f1 == (rd_T26 g 0).f1))) || (decide (x.f0 = 0) && decide ((g.length : Int) > 1))
def spV (g : List S26) : Bool × Bool := (!(g.any (spBad g)), true)
def vSpread (l : List S30) (m n : Int) : Bool × Bool := if (vGaps l m n).2 = true then spV (vGaps l m n).1 else (false, false)
theorem sp_bad {g : List S26} {x : S26} (hx : x ∈ g) (h : spBad g x = true) : spV g = (false, true) := by
  unfold spV
  rw [List.any_eq_true.2 ⟨x, hx, h⟩]; rfl
theorem sp_good {g : List S26} (h : ∀ x ∈ g, spBad g x = false) : spV g = (true, true) := by
  unfold spV
  rw [show g.any (spBad g) = false from by rw [List.any_eq_false]; intro x hx; rw [h x hx]; decide]; rfl

/-! spec_AreSpread -/
theorem spec_AreSpread_l0 (g : List S26) (hl : g.length ≤ 12) : ∀ (r i : Nat), g.length - i = r → i ≤ g.length → (∀ x ∈ g.take i, spBad g x = false) → Ev (fun k => spec_AreSpread.l0 k g g (g.length : Int) (i : Int)) (spV g) := by
  intro r
  induction r with
  | zero =>
    intro i h0 h1 hok
    rw [List.take_of_length_le (by omega)] at hok
    refine Ev.step (f := fun k => some (true, true)) (fun k => ?_) ?_
    · simp only [spec_AreSpread.l0]
      rw [if_neg (by omega)]
    · rw [sp_good hok]; exact Ev.now _
  | succ r ih =>
    intro i h0 h1 hok
    have hlt : i < g.length := by omega
    have hr : rd_T26 g (i : Int) = g[i] := by unfold rd_T26; rw [List.getD_eq_getElem?_getD, show ((i : Int)).toNat = i from Int.toNat_natCast i, List.getElem?_eq_getElem hlt]; rfl
    have hm := List.getElem_mem hlt
    have next : spBad g g[i] = false → Ev (fun k => spec_AreSpread.l0 k g g (g.length : Int) ((i + 1 : Nat) : Int)) (spV g) := fun hb => ih (i + 1) (by omega) (by omega) (fun x hx => by
      rw [List.take_add_one, List.getElem?_eq_getElem hlt] at hx
      rcases List.mem_append.1 hx with hx | hx
      · exact hok x hx
      · rw [show x = g[i] by simpa using hx]; exact hb)
    have e0 : (i : Int) + 1 = ((i + 1 : Nat) : Int) := by omega
    by_cases h2 : (!(g[i].f0 == (rd_T26 g 0).f0) || (!(g[i].f1 == (rd_T26 g 0).f1))) = true
    · refine Ev.step (f := fun k => some (false, true)) (fun k => ?_) ?_
      · simp only [spec_AreSpread.l0]
        rw [if_pos (by omega), if_pos (by omega), if_pos (by omega), if_pos (by omega), hr, if_pos h2]
      · rw [sp_bad hm (by unfold spBad; rw [h2]; rfl)]; exact Ev.now _
    · have h2' := Bool.eq_false_iff.mpr h2
      by_cases h3 : g[i].f0 = 0
      · by_cases h4 : (g.length : Int) > 1
        · refine Ev.step (f := fun k => some (false, true)) (fun k => ?_) ?_
          · simp only [spec_AreSpread.l0]
            rw [if_pos (by omega), if_pos (by omega), if_pos (by omega), if_pos (by omega), hr, if_neg h2, if_pos h4, if_pos h3]
          · rw [sp_bad hm (by unfold spBad; rw [h2', decide_eq_true h3, decide_eq_true h4]; rfl)]; exact Ev.now _
        · refine Ev.step (f := fun k => spec_AreSpread.l0 k g g (g.length : Int) ((i + 1 : Nat) : Int)) (fun k => ?_) (next (by unfold spBad; rw [h2', decide_eq_true h3, decide_eq_false h4]; rfl))
          simp only [spec_AreSpread.l0]
          rw [if_pos (by omega), if_pos (by omega), if_pos (by omega), if_pos (by omega), hr, if_neg h2, if_neg h4, wrap_id (x := (i : Int) + 1) (by omega) (by omega), e0]
      · refine Ev.step (f := fun k => spec_AreSpread.l0 k g g (g.length : Int) ((i + 1 : Nat) : Int)) (fun k => ?_) (next (by unfold spBad; rw [h2', decide_eq_false h3]; rfl))
        simp only [spec_AreSpread.l0]
        rw [if_pos (by omega), if_pos (by omega), if_pos (by omega), if_pos (by omega), hr, if_neg h2, wrap_id (x := (i : Int) + 1) (by omega) (by omega), e0]
        rw [if_neg h3, ite_self]
theorem spec_AreSpread_ev (l : List S30) (m n : Int) (hlen : l.length ≤ 2000000) : Ev (fun k => spec_AreSpread.f k l m n) (vSpread l m n) := by
  unfold spec_AreSpread.f vSpread
  have hl := vGaps_len l m n
  refine Ev.bind (spec_meGaps_ev l m n hlen) ?_
  by_cases h : (vGaps l m n).2 = true
  · refine Ev.pos h ?_
    rw [if_pos h]
    exact spec_AreSpread_l0 _ hl _ 0 rfl (by omega) (fun x hx => by simp at hx)
  · refine Ev.neg h ?_
    rw [if_neg h]; exact Ev.now _

/-! laws_toHandS -/
def toH (x : S25) : S30 := ⟨⟨x.f0.f0, x.f0.f1⟩, x.f1⟩
theorem laws_toHandS_l0 (l : List S25) (hl : l.length ≤ 2000000) : ∀ (n i : Nat), l.length - i = n → i ≤ l.length → Ev (fun k => laws_toHandS.l0 k l ((l.map toH).take i ++ List.replicate (l.length - i) z30) (i : Int)) (l.map toH) := by
  intro n
  induction n with
  | zero =>
    intro i h0 h1
    have hi : i = l.length := by omega
    refine Ev.step (f := fun k => some ((l.map toH).take i ++ List.replicate (l.length - i) z30)) (fun k => ?_) ?_
    · simp only [laws_toHandS.l0]; rw [if_neg (by omega)]
    · rw [hi, Nat.sub_self, List.replicate_zero, List.append_nil, List.take_of_length_le (by rw [List.length_map]; exact Nat.le_refl _)]; exact Ev.now _
  | succ n ih =>
    intro i h0 h1
    have hlt : i < l.length := by omega
    have hr : rd_T25 l (i : Int) = l[i] := by unfold rd_T25; rw [List.getD_eq_getElem?_getD, show ((i : Int)).toNat = i from Int.toNat_natCast i, List.getElem?_eq_getElem hlt]; rfl
    have hl2 : ((l.map toH).take i).length = i := by rw [List.length_take, List.length_map]; omega
    refine Ev.step (f := fun k => laws_toHandS.l0 k l ((l.map toH).take (i + 1) ++ List.replicate (l.length - (i + 1)) z30) ((i + 1 : Nat) : Int)) (fun k => ?_) (ih (i + 1) (by omega) (by omega))
    simp only [laws_toHandS.l0]
    rw [if_pos (by omega), if_pos (by omega), hr]
    unfold laws_toHand.f laws_toTurn.f
    simp only [Option.bind_some]
    rw [if_pos (by rw [List.length_append, hl2, List.length_replicate]; omega), wrap_id (x := (i : Int) + 1) (by omega) (by omega), show ((i : Int)).toNat = i from Int.toNat_natCast i]
    have e : ((l.map toH).take i ++ List.replicate (l.length - i) z30).set i (⟨(⟨l[i].f0.f0, l[i].f0.f1⟩ : S26), l[i].f1⟩ : S30) = (l.map toH).take (i + 1) ++ List.replicate (l.length - (i + 1)) z30 := by
      rw [List.set_append_right _ _ (by omega), hl2, Nat.sub_self, show l.length - i = (l.length - (i + 1)) + 1 by omega, List.replicate_succ, List.set_cons_zero, List.take_add_one, List.getElem?_map, List.getElem?_eq_getElem hlt, List.append_assoc]
      rfl
    rw [e]
    rfl
theorem laws_toHandS_ev (l : List S25) (hl : l.length ≤ 2000000) : Ev (fun k => laws_toHandS.f k l) (l.map toH) := by
  unfold laws_toHandS.f
  have h := laws_toHandS_l0 l hl l.length 0 (by omega) (by omega)
  rw [List.take_zero, List.nil_append, Nat.sub_zero] at h
  refine Ev.pos (by omega) (Ev.pos (by rw [Int.toNat_natCast]; omega) ?_)
  rw [Int.toNat_natCast]
  exact h

/-! impl_within -/
theorem impl_within_eq (a b c : Int) : impl_within.f a b c = some (decide (b ≤ a ∧ a ≤ c)) := by
  unfold impl_within.f
  by_cases h : a ≥ b
  · rw [if_pos h]; simp [show b ≤ a from h]
  · rw [if_neg h]; simp [show ¬ b ≤ a from h]

/-! impl_gcd -/
theorem impl_gcd_l0 : ∀ (n : Nat) (a b : Int), 0 ≤ a → a ≤ 9223372036854775807 → 0 ≤ b → b ≤ 9223372036854775807 → b < n → Ev (fun k => impl_gcd.l0 k a b) (Int.gcd a b : Int) := by
  intro n
  induction n with
  | zero => intro a b _ _ h1 _ h2; omega
  | succ n ih =>
    intro a b ha ha' hb hb' hn
    by_cases h : b = 0
    · subst h
      refine Ev.step (f := fun _ => some a) (fun k => ?_) ?_
      · simp only [impl_gcd.l0]
        rw [wrap_id (by omega) (by omega)]
        unfold mx; simp; omega
      · rw [gcd_zero ha]; exact Ev.now a
    · have h1 := tmod_range ha (show 0 < b by omega)
      refine Ev.step (f := fun k => impl_gcd.l0 k b (Int.tmod a b)) (fun k => ?_) ?_
      · simp only [impl_gcd.l0]
        rw [if_neg h]
      · rw [← gcd_step ha (show 0 < b by omega)]
        exact ih b _ (by omega) (by omega) (by omega) (by omega) (by omega)
theorem impl_gcd_ev (a b : Int) (ha : 0 ≤ a) (ha' : a ≤ 9223372036854775807) (hb : 0 ≤ b) (hb' : b ≤ 9223372036854775807) : Ev (fun k => impl_gcd.f k a b) (Int.gcd a b : Int) := by
  unfold impl_gcd.f
  exact impl_gcd_l0 (b.toNat + 1) a b ha ha' hb hb' (by omega)

/-! impl_IsTurn -/
theorem impl_IsTurn_ev (n d : Int) : Ev (fun k => impl_IsTurn.f k n d) (isT n d) := by
  unfold impl_IsTurn.f
  simp only [impl_within_eq, Option.bind_some]
  by_cases h : 1 ≤ d ∧ d ≤ 1000000
  · refine Ev.pos (by simpa using h) ?_
    rw [wrap_id (by omega) (by omega)]
    by_cases h2 : 0 ≤ n ∧ n ≤ d - 1
    · refine Ev.pos (by simpa using h2) ?_
      refine Ev.bind (impl_gcd_ev n d (by omega) (by omega) (by omega) (by omega)) ?_
      refine Ev.val (Ev.now _) ?_
      unfold isT
      rw [Bool.eq_iff_iff]; simp; omega
    · refine Ev.neg (by simpa using h2) ?_
      refine Ev.val (Ev.now _) ?_
      unfold isT
      rw [Bool.eq_iff_iff]; simp; omega
  · refine Ev.neg (by simpa using h) ?_
    refine Ev.val (Ev.now _) ?_
    unfold isT
    rw [Bool.eq_iff_iff]; simp; omega

/-! impl_floorDiv -/
theorem impl_floorDiv_eq (a b : Int) (hb : 0 < b) (hb' : b ≤ 4000000000000000000) (ha : -4000000000000000000 ≤ a) (ha' : a ≤ 4000000000000000000) : impl_floorDiv.f a b = some (a / b, a % b) := by
  obtain ⟨h1, h2, h3⟩ := floor_of_trunc a b hb
  obtain ⟨h4, h5⟩ := tdiv_bound a b hb
  have h8 := tmod_bound a b hb
  obtain ⟨h6, h7⟩ := ediv_bound a b hb
  unfold impl_floorDiv.f
  rw [if_neg (by omega)]
  by_cases h : Int.tmod a b < 0
  · rw [if_pos h]
    obtain ⟨e1, e2⟩ := h2 h
    rw [wrap_id (x := Int.tdiv a b) (by omega) (by omega), wrap_id (by omega) (by omega), wrap_id (by omega) (by omega), e1, e2]
  · rw [if_neg h]
    obtain ⟨e1, e2⟩ := h3 (by omega)
    rw [wrap_id (by omega) (by omega), e1, e2]

/-! impl_part -/
theorem impl_part_ev (n d : Int) (hd : 0 < d) (hd' : d ≤ 4000000000000000000) (hn : -4000000000000000000 ≤ n) (hn' : n ≤ 4000000000000000000) : Ev (fun k => impl_part.f k n d) (tn ((n : Rat) / d), td ((n : Rat) / d)) := by
  unfold impl_part.f
  rw [impl_floorDiv_eq n d hd hd' hn hn']
  simp only [Option.bind_some]
  have h0 := Int.emod_nonneg n (show d ≠ 0 by omega)
  have h1 := Int.emod_lt_of_pos n hd
  refine Ev.bind (impl_gcd_ev (n % d) d h0 (by omega) (by omega) (by omega)) ?_
  have hg := gcd_pos' (n % d) hd
  refine Ev.neg (by omega) ?_
  have e1 := Int.tdiv_eq_ediv_of_nonneg (b := (Int.gcd (n % d) d : Int)) h0
  have e2 := Int.tdiv_eq_ediv_of_nonneg (b := (Int.gcd (n % d) d : Int)) (show 0 ≤ d by omega)
  have b1 := ediv_le' h0 hg
  have b2 := ediv_le' (show 0 ≤ d by omega) hg
  rw [e1, e2, wrap_id (by omega) (by omega), wrap_id (by omega) (by omega), tn_div n d hd, td_div n d hd]
  exact Ev.now _

/-! impl_Turn_plus -/
theorem impl_Turn_plus_ev (a b c d : Int) (hb : 0 < b) (hd : 0 < d) (hm : b * d ≤ 1000000000000000000) (ha : -b ≤ a) (ha' : a ≤ b) (hc : -d ≤ c) (hc' : c ≤ d) : Ev (fun k => impl_Turn_plus.f k a b c d) (tn ((a : Rat) / b + (c : Rat) / d), td ((a : Rat) / b + (c : Rat) / d)) := by
  have m1 := mul_bound (a := a) (b := d) (A := b) (B := d) (by omega) (by omega) (by omega) (by omega)
  have m2 := mul_bound (a := c) (b := b) (A := d) (B := b) (by omega) (by omega) (by omega) (by omega)
  have m3 := Int.mul_pos hb hd
  rw [Int.mul_comm d b] at m2
  unfold impl_Turn_plus.f
  rw [wrap_id (x := a * d) (by omega) (by omega), wrap_id (x := c * b) (by omega) (by omega), wrap_id (x := b * d) (by omega) (by omega), wrap_id (by omega) (by omega)]
  rw [← q_add hb hd]
  exact Ev.bind (impl_part_ev _ _ (by omega) (by omega) (by omega) (by omega)) (Ev.now _)
theorem impl_Turn_plus_fr (p q : Rat) (hm : td p * td q ≤ 1000000000000000000) : Ev (fun k => impl_Turn_plus.f k (tn p) (td p) (tn q) (td q)) (tn (p + q), td (p + q)) := by
  have h1 := tn_nonneg p
  have h2 := tn_lt p
  have h3 := tn_nonneg q
  have h4 := tn_lt q
  refine Ev.val (impl_Turn_plus_ev _ _ _ _ (td_pos p) (td_pos q) hm (by omega) (by omega) (by omega) (by omega)) ?_
  rw [tn_td, tn_td]
  exact tt_of_fr (fr_plus p q)

/-! impl_Turn_times -/
theorem impl_Turn_times_ev (a b k : Int) (hb : 0 < b) (hb' : b ≤ 4000000000000000000) (h0 : -4000000000000000000 ≤ a * k) (h1 : a * k ≤ 4000000000000000000) : Ev (fun n => impl_Turn_times.f n a b k) (tn (k * ((a : Rat) / b)), td (k * ((a : Rat) / b))) := by
  unfold impl_Turn_times.f
  rw [wrap_id (by omega) (by omega), ← q_mul hb]
  exact Ev.bind (impl_part_ev _ _ hb hb' h0 h1) (Ev.now _)
theorem impl_Turn_times_fr (p : Rat) (k : Int) (hp : td p ≤ 10000000000) (h0 : -100000 ≤ k) (h1 : k ≤ 100000) : Ev (fun n => impl_Turn_times.f n (tn p) (td p) k) (tn (k * p), td (k * p)) := by
  have h2 := tn_nonneg p
  have h3 := tn_lt p
  have m1 := mul_bound (a := tn p) (b := k) (A := 10000000000) (B := 100000) (by omega) (by omega) h0 h1
  refine Ev.val (impl_Turn_times_ev _ _ k (td_pos p) (by omega) (by omega) (by omega)) ?_
  rw [tn_td]
  exact tt_of_fr (fr_mul_fr k p)
theorem impl_Turn_times_T (a b k : Int) (h : isT a b = true) (h0 : -100000 ≤ k) (h1 : k ≤ 100000) : Ev (fun n => impl_Turn_times.f n a b k) (tn (k * ((a : Rat) / b)), td (k * ((a : Rat) / b))) := by
  obtain ⟨p1, p2, p3, p4, _⟩ := isT_iff.1 h
  have m1 := mul_bound (a := a) (b := k) (A := 1000000) (B := 100000) (by omega) (by omega) h0 h1
  exact impl_Turn_times_ev a b k (by omega) (by omega) (by omega) (by omega)

/-! impl_Hand_at -/
theorem impl_Hand_at_ev (p q : Rat) (s : Int) (hp : td p * td (s * q) ≤ 1000000000000000000) (hq : td q ≤ 10000000000) (h0 : -100000 ≤ s) (h1 : s ≤ 100000) : Ev (fun k => impl_Hand_at.f k (tn p) (td p) s (tn q) (td q)) (tn (p + s * q), td (p + s * q)) := by
  unfold impl_Hand_at.f
  refine Ev.bind (impl_Turn_times_fr q s hq h0 h1) ?_
  exact Ev.bind (impl_Turn_plus_fr p (s * q) hp) (Ev.now _)
theorem impl_Hand_at_T (a b s c d : Int) (h1 : isT a b = true) (h2 : isT c d = true) (h0 : -1000 ≤ s) (h3 : s ≤ 1000) : Ev (fun k => impl_Hand_at.f k a b s c d) (tn ((a : Rat) / b + s * ((c : Rat) / d)), td ((a : Rat) / b + s * ((c : Rat) / d))) := by
  obtain ⟨e1, e2⟩ := isT_canon h1
  obtain ⟨e3, e4⟩ := isT_canon h2
  obtain ⟨p1, p2, p3, p4, _⟩ := isT_iff.1 h1
  obtain ⟨r1, r2, r3, r4, _⟩ := isT_iff.1 h2
  have hq : td ((s : Rat) * ((c : Rat) / d)) ≤ 1000000 := Int.le_trans (td_mul_le (show 0 < d by omega)) r2
  have hq' := td_pos ((s : Rat) * ((c : Rat) / d))
  have := impl_Hand_at_ev ((a : Rat) / b) ((c : Rat) / d) s (by
    have m3 := mul_bound (a := td ((a : Rat) / b)) (b := td ((s : Rat) * ((c : Rat) / d))) (A := 1000000) (B := 1000000) (by omega) (by omega) (by omega) (by omega)
    omega) (by omega) (by omega) (by omega)
  rwa [e1, e2, e3, e4] at this

/-! impl_isCoarse -/
theorem impl_isCoarse_ev (n d : Int) : Ev (fun k => impl_isCoarse.f k n d) (isC n d) := by
  unfold impl_isCoarse.f isC
  refine Ev.bind (impl_IsTurn_ev n d) ?_
  cases isT n d
  · exact Ev.val (Ev.now _) (by simp)
  · exact Ev.val (Ev.now _) (by simp)

/-! impl_IsHand -/
theorem impl_IsHand_ev (n d s : Int) : Ev (fun k => impl_IsHand.f k n d s) (isH n d s) := by
  unfold impl_IsHand.f isH
  refine Ev.bind (impl_isCoarse_ev n d) ?_
  simp only [impl_within_eq, Option.bind_some]
  cases isC n d
  · exact Ev.val (Ev.now _) (by simp)
  · exact Ev.val (Ev.now _) (by simp)

/-! impl_areHands_1 -/
theorem impl_areHands_1_ev (n d s : Int) : Ev (fun k => impl_areHands_1.f k n d s) (!isH n d s) := by
  unfold impl_areHands_1.f
  exact Ev.bind (impl_IsHand_ev n d s) (Ev.now _)

/-! impl_areHands -/
theorem impl_areHands_g : ∀ l : List S30, Ev (fun k => impl_areHands.g k l) (l.all fun x => isH x.f0.f0 x.f0.f1 x.f1)
  | [] => Ev.now _
  | x :: xs => by
    have e : (fun k => impl_areHands.g k (x :: xs)) = fun k => (impl_areHands_1.f k x.f0.f0 x.f0.f1 x.f1).bind fun b => if b = true then some false else impl_areHands.g k xs := by funext k; rfl
    rw [e]
    refine Ev.bind (impl_areHands_1_ev _ _ _) ?_
    rw [List.all_cons]
    cases isH x.f0.f0 x.f0.f1 x.f1
    · exact Ev.pos rfl (Ev.now _)
    · exact Ev.neg (by decide) (impl_areHands_g xs)
theorem impl_areHands_ev (l : List S30) (hl : l.length < 4611686018427387904) : Ev (fun k => impl_areHands.f k l) (l.all fun x => isH x.f0.f0 x.f0.f1 x.f1) := by
  unfold impl_areHands.f
  exact Ev.pos hl (impl_areHands_g l)
theorem impl_areHands_two (a b s c d t : Int) : Ev (fun k => impl_areHands.f k [(⟨(⟨a, b⟩ : S26), s⟩ : S30), (⟨(⟨c, d⟩ : S26), t⟩ : S30)]) (isH a b s && isH c d t) :=
  Ev.val (impl_areHands_ev _ (by simp)) (by simp)

/-! impl_areTurns_1 -/
theorem impl_areTurns_1_ev (n d : Int) : Ev (fun k => impl_areTurns_1.f k n d) (!isT n d) := by
  unfold impl_areTurns_1.f
  exact Ev.bind (impl_IsTurn_ev n d) (Ev.now _)

/-! impl_areTurns -/
theorem impl_areTurns_g : ∀ l : List S26, Ev (fun k => impl_areTurns.g k l) (l.all fun x => isT x.f0 x.f1)
  | [] => Ev.now _
  | x :: xs => by
    have e : (fun k => impl_areTurns.g k (x :: xs)) = fun k => (impl_areTurns_1.f k x.f0 x.f1).bind fun b => if b = true then some false else impl_areTurns.g k xs := by funext k; rfl
    rw [e]
    refine Ev.bind (impl_areTurns_1_ev _ _) ?_
    rw [List.all_cons]
    cases isT x.f0 x.f1
    · exact Ev.pos rfl (Ev.now _)
    · exact Ev.neg (by decide) (impl_areTurns_g xs)
theorem impl_areTurns_ev (l : List S26) (hl : l.length < 4611686018427387904) : Ev (fun k => impl_areTurns.f k l) (l.all fun x => isT x.f0 x.f1) := by
  unfold impl_areTurns.f
  exact Ev.pos hl (impl_areTurns_g l)
theorem impl_areTurns_two (a b c d : Int) : Ev (fun k => impl_areTurns.f k [(⟨a, b⟩ : S26), (⟨c, d⟩ : S26)]) (isT a b && isT c d) :=
  Ev.val (impl_areTurns_ev _ (by simp)) (by simp)

/-! impl_Turn_minus -/
theorem impl_Turn_minus_ev (a b c d : Int) (hb : 0 < b) (hd : 0 < d) (hm : b * d ≤ 1000000000000000000) (ha : -b ≤ a) (ha' : a ≤ b) (hc : -d ≤ c) (hc' : c ≤ d) : Ev (fun k => impl_Turn_minus.f k a b c d) (tn ((a : Rat) / b - (c : Rat) / d), td ((a : Rat) / b - (c : Rat) / d)) := by
  have m1 := mul_bound (a := a) (b := d) (A := b) (B := d) (by omega) (by omega) (by omega) (by omega)
  have m2 := mul_bound (a := c) (b := b) (A := d) (B := b) (by omega) (by omega) (by omega) (by omega)
  have m3 := Int.mul_pos hb hd
  rw [Int.mul_comm d b] at m2
  unfold impl_Turn_minus.f
  rw [wrap_id (x := a * d) (by omega) (by omega), wrap_id (x := c * b) (by omega) (by omega), wrap_id (x := b * d) (by omega) (by omega), wrap_id (by omega) (by omega)]
  rw [← q_sub hb hd]
  exact Ev.bind (impl_part_ev _ _ (by omega) (by omega) (by omega) (by omega)) (Ev.now _)
theorem impl_Turn_minus_fr (p q : Rat) (hm : td p * td q ≤ 1000000000000000000) : Ev (fun k => impl_Turn_minus.f k (tn p) (td p) (tn q) (td q)) (tn (p - q), td (p - q)) := by
  have h1 := tn_nonneg p
  have h2 := tn_lt p
  have h3 := tn_nonneg q
  have h4 := tn_lt q
  refine Ev.val (impl_Turn_minus_ev _ _ _ _ (td_pos p) (td_pos q) hm (by omega) (by omega) (by omega) (by omega)) ?_
  rw [tn_td, tn_td]
  exact tt_of_fr (fr_minus p q)

/-! h_lists -/
def pk (q : Rat) : S26 := ⟨tn q, td q⟩
/-- The first n of the parts whose s-fold is w, but for whole turns. -/
def rl (w : Rat) (s : Int) (n : Nat) : List S26 := (List.range n).map fun i => pk ((w + (((i : Nat) : Int) : Rat)) / (s : Rat))
theorem rl_succ (w : Rat) (s : Int) (n : Nat) : rl w s (n + 1) = rl w s n ++ [pk ((w + (((n : Nat) : Int) : Rat)) / (s : Rat))] := by
  unfold rl; rw [List.range_succ, List.map_append]; rfl
theorem rl_length (w : Rat) (s : Int) (n : Nat) : (rl w s n).length = n := by unfold rl; simp
def okR (w : Rat) (s : Int) (n : Nat) : Bool := (rl w s n).all fun x => isT x.f0 x.f1
theorem okR_iff {w : Rat} {s : Int} {n : Nat} : okR w s n = true ↔ ∀ i, i < n → td ((w + ((i : Int) : Rat)) / (s : Rat)) ≤ 1000000 := by
  unfold okR rl
  simp only [List.all_map, List.all_eq_true, List.mem_range, Function.comp, pk, isT_tn, decide_eq_true_eq]
theorem rl_get (w : Rat) (s : Int) (n : Nat) (i : Int) (h0 : 0 ≤ i) (h1 : i < n) : rd_T26 (rl w s n) i = pk ((w + (i : Rat)) / (s : Rat)) := by
  unfold rd_T26 rl
  rw [List.getD_eq_getElem?_getD, List.getElem?_map, List.getElem?_range (by omega)]
  simp only [Option.map_some, Option.getD_some]
  rw [show ((i.toNat : Nat) : Int) = i by omega]
def vRoots (w : Rat) (s : Int) : List S26 × Bool := if okR w s s.toNat = true then (rl w s s.toNat, true) else ([], false)
/-- The times at which a hand with the speed s has gone on by q. -/
def vTimesAt (q : Rat) (s : Int) : List S26 × Bool := if s < 0 then vRoots (fr (-q)) (-s) else vRoots (fr q) s
theorem vTimesAt_no {q : Rat} {s : Int} (hs : s ≠ 0) (hq : 1000000 < td q) : vTimesAt q s = ([], false) := by
  unfold vTimesAt vRoots
  by_cases h : s < 0
  · rw [if_pos h, if_neg]
    intro ho
    have h1 := okR_iff.1 ho 0 (by omega)
    have h2 := td_root (-q) (-s) 0 (by omega)
    rw [td_neg] at h2
    simp only [Int.cast_ofNat_Int] at h1 h2
    omega
  · rw [if_neg h, if_neg]
    intro ho
    have h1 := okR_iff.1 ho 0 (by omega)
    have h2 := td_root q s 0 (by omega)
    simp only [Int.cast_ofNat_Int] at h1 h2
    omega
theorem vRoots_len {w : Rat} {s : Int} (hs : 0 ≤ s) : (vRoots w s).1.length ≤ s := by
  unfold vRoots
  split
  · rw [rl_length]; omega
  · exact hs
theorem vTimesAt_len {q : Rat} {s : Int} (h0 : -1000 ≤ s) (h1 : s ≤ 1000) : (vTimesAt q s).1.length ≤ 1000 := by
  unfold vTimesAt
  split
  · have := vRoots_len (w := fr (-q)) (show 0 ≤ -s by omega); omega
  · have := vRoots_len (w := fr q) (show 0 ≤ s by omega); omega

/-! impl_ifTurns -/
theorem impl_ifTurns_ev (l : List S26) (b : Bool) (hl : l.length < 4611686018427387904) : Ev (fun k => impl_ifTurns.f k l b) (if (b && l.all fun x => isT x.f0 x.f1) = true then (l, true) else ([], false)) := by
  unfold impl_ifTurns.f
  cases b
  · exact Ev.neg (by decide) (Ev.now _)
  refine Ev.pos rfl ?_
  refine Ev.bind (impl_areTurns_ev l hl) ?_
  rw [Bool.true_and]
  split <;> exact Ev.now _
theorem impl_ifTurns_roots (w : Rat) (s : Int) (hs : s ≤ 100000) : Ev (fun k => impl_ifTurns.f k (rl w s s.toNat) (okR w s s.toNat)) (vRoots w s) := by
  refine Ev.val (impl_ifTurns_ev _ _ (by rw [rl_length]; omega)) ?_
  show (if (okR w s s.toNat && okR w s s.toNat) = true then _ else _) = _
  rw [Bool.and_self]; rfl

/-! impl_GapsAt -/
theorem impl_GapsAt_l1 (S : List S26) (hS : ∀ x ∈ S, gpOK x = true) (hl : S.length ≤ 12) : ∀ (r i : Nat), S.length - i = r → i ≤ S.length → Ev (fun k => impl_GapsAt.l1 k S ((gpAll S).take i) S (S.length : Int) (i : Int)) (gpEnd S) := by
  intro r
  induction r with
  | zero =>
    intro i h0 h1
    have hi : i = S.length := by omega
    refine Ev.step (f := fun k => (impl_ifTurns.f k (gpAll S) true).bind fun bt => (some (bt.1, bt.2))) (fun k => ?_) ?_
    · simp only [impl_GapsAt.l1]
      rw [if_neg (by omega), hi, List.take_of_length_le (by rw [gpAll_len]; exact Nat.le_refl _)]
    · refine Ev.bind (impl_ifTurns_ev (gpAll S) true (by rw [gpAll_len]; omega)) ?_
      rw [Bool.true_and]
      exact Ev.now _
  | succ r ih =>
    intro i h0 h1
    have hlt : i < S.length := by omega
    have hm : (i + 1) % S.length < S.length := Nat.mod_lt _ (by omega)
    have q1 : gpOK (S.getD ((i + 1) % S.length) z26) = true := by rw [List.getD_eq_getElem?_getD, List.getElem?_eq_getElem hm]; exact hS _ (List.getElem_mem hm)
    have q2 : gpOK (S.getD i z26) = true := by rw [List.getD_eq_getElem?_getD, List.getElem?_eq_getElem hlt]; exact hS _ (List.getElem_mem hlt)
    obtain ⟨a1, a2, a3, a4, _⟩ := isT_iff.1 q1
    obtain ⟨b1, b2, b3, b4, _⟩ := isT_iff.1 q2
    have hb := mul_bound (a := (S.getD ((i + 1) % S.length) z26).f1) (b := (S.getD i z26).f1) (A := 1000000) (B := 1000000) (by omega) (by omega) (by omega) (by omega)
    have ih' := ih (i + 1) (by omega) (by omega)
    rw [gpAll_take S i hlt] at ih'
    have hacc : ((gpAll S).take i).length ≤ 12 := by rw [List.length_take, gpAll_len]; omega
    generalize (gpAll S).take i = acc at ih' hacc ⊢
    refine Ev.step (f := fun k => (impl_Turn_minus.f k (S.getD ((i + 1) % S.length) z26).f0 (S.getD ((i + 1) % S.length) z26).f1 (S.getD i z26).f0 (S.getD i z26).f1).bind fun bt => (if acc.length < 8796093022208 then (impl_GapsAt.l1 k S (acc ++ [⟨bt.1, bt.2⟩]) S (S.length : Int) ((i + 1 : Nat) : Int)) else none)) (fun k => ?_) ?_
    · simp only [impl_GapsAt.l1]
      rw [if_pos (by omega), if_pos (by omega), if_pos (by omega), if_neg (by omega), gp_mod i S.length (by omega) (by omega), if_pos (by omega), if_pos (by omega), gp_rd, gp_rd, wrap_id (x := (i : Int) + 1) (by omega) (by omega)]
      rfl
    · refine Ev.bind (impl_Turn_minus_ev _ _ _ _ (by omega) (by omega) (by omega) (by omega) (by omega) (by omega) (by omega)) ?_
      exact Ev.pos (by omega) ih'
theorem impl_GapsAt_l0 (l : List S30) (m n : Int) (hl : l.length ≤ 12) (hg : gpGood l = true) (ht : isT m n = true) : ∀ (r i : Nat), l.length - i = r → i ≤ l.length → Ev (fun k => impl_GapsAt.l0 k ((l.map (gpPlace m n)).take i) l (l.length : Int) (i : Int) m n) (gpMid l m n) := by
  intro r
  induction r with
  | zero =>
    intro i h0 h1
    have hi : i = l.length := by omega
    have hL : (l.map (gpPlace m n)).length = l.length := List.length_map _
    have e0 : (l.map (gpPlace m n)).take i = l.map (gpPlace m n) := List.take_of_length_le (by omega)
    rw [e0]
    unfold gpMid
    generalize l.map (gpPlace m n) = P at hL ⊢
    refine Ev.step (f := fun k => (impl_areTurns.f k P).bind fun t => (if t = true then ((impl_GapsAt_sort.f P).bind fun S => (impl_GapsAt.l1 k S [] S (P.length : Int) 0)) else (some ([], false)))) (fun k => ?_) ?_
    · simp only [impl_GapsAt.l0]
      rw [if_neg (by omega)]
    · refine Ev.bind (impl_areTurns_ev P (by omega)) ?_
      show Ev _ (if (P.all gpOK) = true then _ else _)
      by_cases hP : (P.all gpOK) = true
      · refine Ev.pos hP ?_
        rw [if_pos hP]
        have hP' : ∀ x ∈ P, gpOK x = true := List.all_eq_true.1 hP
        have hs : impl_GapsAt_sort.f P = some (P.mergeSort srt_le) := by
          unfold impl_GapsAt_sort.f
          rw [if_pos ⟨List.all_eq_true.2 (fun x hx => decide_eq_true (gp_srt (hP' x hx))), by omega⟩]
        rw [hs]
        simp only [Option.bind_some]
        have hL2 : (P.mergeSort srt_le).length = P.length := List.length_mergeSort _
        rw [← hL2]
        exact impl_GapsAt_l1 (P.mergeSort srt_le) (fun x hx => hP' x ((List.mergeSort_perm P srt_le).mem_iff.1 hx)) (by omega) _ 0 rfl (by omega)
      · refine Ev.neg hP ?_
        rw [if_neg hP]; exact Ev.now _
  | succ r ih =>
    intro i h0 h1
    have hlt : i < l.length := by omega
    have hr : rd_T30 l (i : Int) = l[i] := by unfold rd_T30; rw [List.getD_eq_getElem?_getD, show ((i : Int)).toNat = i from Int.toNat_natCast i, List.getElem?_eq_getElem hlt]; rfl
    have hh : isH l[i].f0.f0 l[i].f0.f1 l[i].f1 = true := List.all_eq_true.1 hg _ (List.getElem_mem hlt)
    obtain ⟨u1, u2⟩ := isH_speed hh
    have p0 := (isC_iff.1 (isH_iff.1 hh).1).1
    have ih' := ih (i + 1) (by omega) (by omega)
    have e1 : (l.map (gpPlace m n)).take (i + 1) = (l.map (gpPlace m n)).take i ++ [gpPlace m n l[i]] := by
      rw [List.take_add_one, List.getElem?_map, List.getElem?_eq_getElem hlt]; rfl
    rw [e1] at ih'
    have hacc : ((l.map (gpPlace m n)).take i).length ≤ 12 := by rw [List.length_take, List.length_map]; omega
    generalize (l.map (gpPlace m n)).take i = acc at ih' hacc ⊢
    refine Ev.step (f := fun k => (impl_Hand_at.f k l[i].f0.f0 l[i].f0.f1 l[i].f1 m n).bind fun bt => (if acc.length < 8796093022208 then (impl_GapsAt.l0 k (acc ++ [⟨bt.1, bt.2⟩]) l (l.length : Int) ((i + 1 : Nat) : Int) m n) else none)) (fun k => ?_) ?_
    · simp only [impl_GapsAt.l0]
      rw [if_pos (by omega), if_pos (by omega), if_pos (by omega), hr, wrap_id (x := (i : Int) + 1) (by omega) (by omega)]
      rfl
    · refine Ev.bind (impl_Hand_at_T _ _ _ m n p0 ht (by omega) (by omega)) ?_
      exact Ev.pos (by omega) ih'
theorem impl_GapsAt_ev (l : List S30) (m n : Int) (hlen : l.length ≤ 2000000) : Ev (fun k => impl_GapsAt.f k l m n) (vGaps l m n) := by
  unfold impl_GapsAt.f vGaps
  have no : Ev (fun k => impl_GapsAt.j0 k l true m n) ([], false) := by
    refine Ev.step (f := fun _ => some ([], false)) (fun k => ?_) (Ev.now _)
    simp only [impl_GapsAt.j0]; rfl
  rw [impl_within_eq]
  simp only [Option.bind_some]
  by_cases h1 : 1 ≤ l.length ∧ l.length ≤ 12
  · rw [if_pos h1]
    refine Ev.pos (by rw [decide_eq_true_iff]; omega) ?_
    refine Ev.bind (impl_areHands_ev l (by omega)) ?_
    by_cases h2 : gpGood l = true
    · rw [if_pos h2]
      refine Ev.pos h2 ?_
      refine Ev.bind (impl_IsTurn_ev m n) ?_
      cases h3 : isT m n
      · exact no
      · rw [if_pos rfl]
        refine Ev.step (f := fun k => impl_GapsAt.l0 k [] l (l.length : Int) 0 m n) (fun k => ?_) ?_
        · simp only [impl_GapsAt.j0]; rfl
        · exact impl_GapsAt_l0 l m n h1.2 h2 h3 _ 0 rfl (by omega)
    · rw [if_neg h2]
      exact Ev.neg h2 no
  · rw [if_neg h1]
    exact Ev.neg (by rw [decide_eq_true_iff]; omega) no

/-! impl_AreSpread -/
theorem impl_AreSpread_l0 (g : List S26) (hl : g.length ≤ 12) : ∀ (r i : Nat), g.length - i = r → i ≤ g.length → (∀ x ∈ g.take i, spBad g x = false) → Ev (fun k => impl_AreSpread.l0 k g g (g.length : Int) (i : Int)) (spV g) := by
  intro r
  induction r with
  | zero =>
    intro i h0 h1 hok
    rw [List.take_of_length_le (by omega)] at hok
    refine Ev.step (f := fun k => some (true, true)) (fun k => ?_) ?_
    · simp only [impl_AreSpread.l0]
      rw [if_neg (by omega)]
    · rw [sp_good hok]; exact Ev.now _
  | succ r ih =>
    intro i h0 h1 hok
    have hlt : i < g.length := by omega
    have hr : rd_T26 g (i : Int) = g[i] := by unfold rd_T26; rw [List.getD_eq_getElem?_getD, show ((i : Int)).toNat = i from Int.toNat_natCast i, List.getElem?_eq_getElem hlt]; rfl
    have hm := List.getElem_mem hlt
    have next : spBad g g[i] = false → Ev (fun k => impl_AreSpread.l0 k g g (g.length : Int) ((i + 1 : Nat) : Int)) (spV g) := fun hb => ih (i + 1) (by omega) (by omega) (fun x hx => by
      rw [List.take_add_one, List.getElem?_eq_getElem hlt] at hx
      rcases List.mem_append.1 hx with hx | hx
      · exact hok x hx
      · rw [show x = g[i] by simpa using hx]; exact hb)
    have e0 : (i : Int) + 1 = ((i + 1 : Nat) : Int) := by omega
    by_cases h2 : (!(g[i].f0 == (rd_T26 g 0).f0) || (!(g[i].f1 == (rd_T26 g 0).f1))) = true
    · refine Ev.step (f := fun k => some (false, true)) (fun k => ?_) ?_
      · simp only [impl_AreSpread.l0]
        rw [if_pos (by omega), if_pos (by omega), if_pos (by omega), if_pos (by omega), hr, if_pos h2]
      · rw [sp_bad hm (by unfold spBad; rw [h2]; rfl)]; exact Ev.now _
    · have h2' := Bool.eq_false_iff.mpr h2
      by_cases h3 : g[i].f0 = 0
      · by_cases h4 : (g.length : Int) > 1
        · refine Ev.step (f := fun k => some (false, true)) (fun k => ?_) ?_
          · simp only [impl_AreSpread.l0]
            rw [if_pos (by omega), if_pos (by omega), if_pos (by omega), if_pos (by omega), hr, if_neg h2, if_pos h3, if_pos h4]
          · rw [sp_bad hm (by unfold spBad; rw [h2', decide_eq_true h3, decide_eq_true h4]; rfl)]; exact Ev.now _
        · refine Ev.step (f := fun k => impl_AreSpread.l0 k g g (g.length : Int) ((i + 1 : Nat) : Int)) (fun k => ?_) (next (by unfold spBad; rw [h2', decide_eq_true h3, decide_eq_false h4]; rfl))
          simp only [impl_AreSpread.l0]
          rw [if_pos (by omega), if_pos (by omega), if_pos (by omega), if_pos (by omega), hr, if_neg h2, if_pos h3, if_neg h4, wrap_id (x := (i : Int) + 1) (by omega) (by omega), e0]
      · refine Ev.step (f := fun k => impl_AreSpread.l0 k g g (g.length : Int) ((i + 1 : Nat) : Int)) (fun k => ?_) (next (by unfold spBad; rw [h2', decide_eq_false h3]; rfl))
        simp only [impl_AreSpread.l0]
        rw [if_pos (by omega), if_pos (by omega), if_pos (by omega), if_pos (by omega), hr, if_neg h2, wrap_id (x := (i : Int) + 1) (by omega) (by omega), e0]
        rw [if_neg h3]
theorem impl_AreSpread_ev (l : List S30) (m n : Int) (hlen : l.length ≤ 2000000) : Ev (fun k => impl_AreSpread.f k l m n) (vSpread l m n) := by
  unfold impl_AreSpread.f vSpread
  have hl := vGaps_len l m n
  refine Ev.bind (impl_GapsAt_ev l m n hlen) ?_
  by_cases h : (vGaps l m n).2 = true
  · refine Ev.pos h ?_
    rw [if_pos h]
    exact impl_AreSpread_l0 _ hl _ 0 rfl (by omega) (fun x hx => by simp at hx)
  · refine Ev.neg h ?_
    rw [if_neg h]; exact Ev.now _

/-! laws_eqTurn -/
theorem laws_eqTurn_self (a b : Int) : laws_eqTurn.f a b a b = some true := by
  unfold laws_eqTurn.f; rw [if_pos rfl, if_pos rfl]

/-! laws_eqHand -/
theorem laws_eqHand_self (a b c : Int) : laws_eqHand.f a b c a b c = some true := by
  unfold laws_eqHand.f; simp only [laws_eqTurn_self, Option.bind_some]; simp

/-! laws_eqHandS -/
theorem laws_eqHandS_l0 (l : List S30) (hl : l.length ≤ 2000000) : ∀ (n i : Nat), l.length - i = n → i ≤ l.length → Ev (fun k => laws_eqHandS.l0 k l l i) true := by
  intro n
  induction n with
  | zero =>
    intro i h0 h1
    refine Ev.step (f := fun k => some true) (fun k => ?_) (Ev.now _)
    simp only [laws_eqHandS.l0]; rw [if_neg (by omega)]
  | succ n ih =>
    intro i h0 h1
    refine Ev.step (f := fun k => laws_eqHandS.l0 k l l ((i + 1 : Nat) : Int)) (fun k => ?_) (ih (i + 1) (by omega) (by omega))
    simp only [laws_eqHandS.l0]
    rw [if_pos (by omega), if_pos (by omega), if_pos (by omega)]
    simp only [laws_eqHand_self, Option.bind_some, if_true]
    rw [wrap_id (by omega) (by omega)]
    rfl
theorem laws_eqHandS_self (l : List S30) (hl : l.length ≤ 2000000) : Ev (fun k => laws_eqHandS.f k l l) true := by
  unfold laws_eqHandS.f
  exact Ev.pos rfl (laws_eqHandS_l0 l hl l.length 0 (by omega) (by omega))

/-! laws_FnExactAreSpread -/
theorem FnExactAreSpread : laws_FnExactAreSpread.Pure := by
  intro l m n h0 _ _ _ _
  apply Ev.rounds (g := fun k => laws_FnExactAreSpread.f k l m n)
  unfold laws_FnExactAreSpread.f
  have hm : l.length ≤ 9223372036854775807 := by unfold maxLen at h0; omega
  rw [laws_szHandS_eq l (by omega)]
  simp only [Option.bind_some]
  by_cases hL : 1048576 - (l.length : Int) < 0
  · rw [if_pos hL]
    exact Ev.pos (by omega) (Ev.now _)
  rw [if_neg hL]
  refine Ev.neg hL ?_
  have hH := laws_toHandS_ev l (by omega)
  have hHl : (l.map toH).length = l.length := List.length_map _
  have hs := spec_AreSpread_ev (l.map toH) m n (by omega)
  have hi := impl_AreSpread_ev (l.map toH) m n (by omega)
  generalize l.map toH = L at hH hHl hs hi
  generalize vSpread L m n = v at hs hi
  obtain ⟨g, o⟩ := v
  refine Ev.bind hH ?_
  unfold laws_toTurn.f
  simp only [Option.bind_some]
  refine Ev.bind hs (Ev.bind hH (Ev.bind hi ?_))
  simp only [bne_self_eq_false, Bool.false_eq_true, if_false]
  refine Ev.step (f := fun k => (laws_toHandS.f k l).bind fun t => ((laws_eqHandS.f k L t).bind fun t => (if t = true then (some true) else (some false)))) (fun k => ?_) ?_
  · simp only [laws_FnExactAreSpread.j0]; rfl
  refine Ev.bind hH (Ev.bind (laws_eqHandS_self L (by omega)) ?_)
  exact Ev.pos rfl (Ev.now _)

end Go.Proofs.Ytioggbokjfdoaaa.Pure
