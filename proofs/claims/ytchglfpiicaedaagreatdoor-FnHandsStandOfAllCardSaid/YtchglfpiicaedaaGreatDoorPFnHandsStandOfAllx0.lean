-- WRITTEN BY A PROGRAM OF THIS SESSION (wip/tools): its own text, not the kit's printed one.
import Derived.Test.YtchglfpiicaedaaGreatDoorProg
import Derived.Below
import Derived.Deep.Draws
import Derived.Deep.AppendLies
import Derived.Maps.AppendAt
import Derived.OwnWalk
import Derived.Laws.BytesArg
import Derived.Laws.MakeOwn
import Derived.Laws.OwnMore
import Derived.Deep.OwnRows
import Derived.Tactics
import Derived.Lib.ConvBytes
import Derived.Laws.Slices
import Derived.WalkKit
import Derived.KernelRfl
import Derived.RowKit3
import Derived.Deep.LoopGhost
import Derived.Deep.QuietTactic
import Derived.BigQuiet
import Derived.WideLaws
import Derived.Deep.DeepCutAuto
import Derived.Deep.CutBlock
import Derived.Deep.RegionHeld3
import Derived.Laws.Rows
import Derived.Lib.AppendStr
import Derived.ArgAppend
import Derived.Laws.IdiomCopy
import Derived.OrdersHeld
import Derived.Laws.BitsLemmas
import Derived.RowKit
import Derived.Test.YtchglfpiicaedaaGreatDoorWWords
import Derived.Test.YtchglfpiicaedaaGreatDoorWLast
import Derived.Test.YtchglfpiicaedaaGreatDoorWTab
import Derived.Test.YtchglfpiicaedaaGreatDoorWQPut
import Derived.Test.YtchglfpiicaedaaGreatDoorWApart
import Derived.Test.YtchglfpiicaedaaGreatDoorWArr
import Derived.Test.YtchglfpiicaedaaGreatDoorWZeros
import Derived.Test.YtchglfpiicaedaaGreatDoorWFoot
import Derived.Test.YtchglfpiicaedaaGreatDoorWKept
import Derived.Test.YtchglfpiicaedaaGreatDoorWShare
import Derived.Test.YtchglfpiicaedaaGreatDoorWN
import Derived.Test.YtchglfpiicaedaaGreatDoorWFootNe
import Derived.Test.YtchglfpiicaedaaGreatDoorWEqStruct
import Derived.Test.YtchglfpiicaedaaGreatDoorWRepsOne
import Derived.Test.YtchglfpiicaedaaGreatDoorWGuard
import Derived.Test.YtchglfpiicaedaaGreatDoorWNEv
import Derived.Test.YtchglfpiicaedaaGreatDoorWMore
namespace Go.Proofs.YtchglfpiicaedaaGreatDoor.PFnHandsStandOfAll
open Go.RowKit Go.Proofs.YtchglfpiicaedaaGreatDoorW.PrintWords Go.Proofs.YtchglfpiicaedaaGreatDoorW.PrintLast Go.Proofs.YtchglfpiicaedaaGreatDoorW.PrintMore
attribute [local go_sem] max2_int min2_int max_two min_two max_three min_three max_four min_four   -- for this text's walks alone
set_option linter.unusedVariables false
set_option linter.unusedSimpArgs false



def errW : Option Int → Value
  | none => .nilIface
  | some c => .iface 0 (.int .i64 c)
theorem errW_none : errW none = .nilIface := rfl
theorem errW_some (c : Int) : errW (some c) = .iface 0 (.int .i64 c) := rfl

theorem info3 : (Tryz.prog.info? 3).map (fun i => (i.zero, i.size, i.bytes)) = some (some (.int .i64 0), 1, 8) := by kernel_rfl
theorem info5 : (Tryz.prog.info? 5).map (fun i => (i.zero, i.size, i.bytes)) = some (some (.int .u8 0), 1, 1) := by kernel_rfl
theorem info9 : (Tryz.prog.info? 9).map (fun i => (i.zero, i.size, i.bytes)) = some (some (.string ⟨#[]⟩), 1, 16) := by kernel_rfl
theorem info23 : (Tryz.prog.info? 23).map (fun i => (i.zero, i.size, i.bytes)) = some (some (.agg #[(.int .i64 0), (.int .i64 0)]), 2, 16) := by kernel_rfl
-- the values' own types
/-! #### struct type 23 -/
structure S23 where
  f0 : Int
  f1 : Int
def z23 : S23 := ⟨(0 : Int), (0 : Int)⟩
def k23 : Kd S23 := Kd.iso (Kd.pair (Kd.int .i64) (Kd.int .i64)) (fun x : S23 => (x.f0, x.f1))
theorem k23_open {w : World} {x : S23} {cs : List Value} (h : k23.K w x cs) : cs = [.int .i64 x.f0, .int .i64 x.f1] := by
  obtain ⟨_, _, rfl, rfl, rfl⟩ := h
  exact rfl
theorem k23_openM {w : World} {base : Nat} {ok : Nat → Prop} {x : S23} {cs : List Value} (h : k23.M w base ok x cs) : cs = [.int .i64 x.f0, .int .i64 x.f1] := by
  obtain ⟨_, _, rfl, rfl, rfl⟩ := h
  exact rfl
theorem k23_mk (w : World) (x : S23)  : k23.K w x [.int .i64 x.f0, .int .i64 x.f1] := ⟨[.int .i64 x.f0], [.int .i64 x.f1], rfl, rfl, rfl⟩
theorem k23_mkM (w : World) (base : Nat) (ok : Nat → Prop) (x : S23)  : k23.M w base ok x [.int .i64 x.f0, .int .i64 x.f1] := ⟨[.int .i64 x.f0], [.int .i64 x.f1], rfl, rfl, rfl⟩
def rd_T23 (xs : List S23) (i : Int) : S23 := xs.getD i.toNat z23
theorem at_T23 {w : World} {A : Option Addr} {n : Nat} {xs : List S23} (h : Kd.C k23 w A n xs) (i : Int) (h0 : 0 ≤ i) (h1 : i < n) : ∃ ad , A = some ad ∧ w.cell? (ad.add (i.toNat * 2)) = some (.int .i64 (rd_T23 xs i).f0) ∧ w.cell? ⟨(ad.add (i.toNat * 2)).block, (ad.add (i.toNat * 2)).off + 1, none⟩ = some (.int .i64 (rd_T23 xs i).f1) := by
  obtain ⟨ad, c, e, _, hK, hc0⟩ := Kd.C_get h z23 i h0 h1
  have hc : ∀ j u, c[j]? = some u → w.cell? (ad.add (i.toNat * 2 + j)) = some u := hc0
  obtain rfl := k23_open hK
  exact ⟨ad, e, hc 0 _ rfl, by rw [← add_field _ _ 1 (by omega)]; exact hc 1 _ rfl⟩

def rd_L2 (xs : List (List S23)) (i : Int) : (List S23) := xs.getD i.toNat ([] : List S23)
theorem at_L2 {w : World} {A : Option Addr} {n : Nat} {xs : List (List S23)} (h : Kd.C (Kd.slice 23 k23) w A n xs) (i : Int) (h0 : 0 ≤ i) (h1 : i < n) : ∃ ad A0 c0, A = some ad ∧ w.cell? (ad.add i.toNat) = some (.slice A0 (rd_L2 xs i).length c0) ∧ (rd_L2 xs i).length ≤ c0 ∧ k23.C w A0 (rd_L2 xs i).length (rd_L2 xs i) := by
  obtain ⟨ad, c, e, _, hK, hc0⟩ := Kd.C_get h ([] : List S23) i h0 h1
  have hc : ∀ j u, c[j]? = some u → w.cell? (ad.add (i.toNat * 1 + j)) = some u := hc0
  obtain ⟨A0, c0, rfl, l0, g0⟩ := hK
  exact ⟨ad, A0, c0, e, by have hq := hc 0 _ rfl; rwa [Nat.mul_one, Nat.add_zero] at hq, l0, g0⟩

/-! short names for words that are used often -/
theorem kN {w : World} {g : Nat} {o : Obj} (h : w.heap[g]? = some o) (n : Nat) : (w.drewN n).heap[g]? = some o := blk_drewN h n
theorem kD {w : World} {g : Nat} {o : Obj} (h : w.heap[g]? = some o) : w.drew.heap[g]? = some o := blk_drew h
theorem kA {w : World} {g : Nat} {o : Obj} (h : w.heap[g]? = some o) (o' : Obj) : (w.alloc o').heap[g]? = some o := blk_alloc h o'
theorem bS {w W : World} {g j : Nat} {v : Value} (h : Below w.heap.size w W) (hg : w.heap.size ≤ g) : Below w.heap.size w (W.setCell ⟨g, j, none⟩ v) := below_set h hg
theorem bN {B : Nat} {w W : World} (h : Below B w W) (n : Nat) : Below B w (W.drewN n) := pw_below_drewN h n
theorem bD {base : Nat} {w W : World} (h : Below base w W) : Below base w W.drew := below_drew1 h
theorem bA {w W : World} (h : Below w.heap.size w W) (o : Obj) : Below w.heap.size w (W.alloc o) := below_alloc h o
theorem kC {w : World} {g : Nat} {t : TypeId} {cs : Array Value} (h : w.heap[g]? = some (.cells cs t (0, 0))) (i : Nat) : w.cell? ⟨g, i, none⟩ = cs[i]? := blk_cell h i
theorem kF {w : World} {g : Nat} {t : TypeId} {cs : Array Value} (h : w.heap[g]? = some (.cells cs t (0, 0))) (i : Nat) : w.frozen? ⟨g, i, none⟩ = false := blk_frozen h i
theorem kB {w w1 : World} {g : Nat} {o : Obj} (h : w.heap[g]? = some o) (hb : Below w.heap.size w w1) : w1.heap[g]? = some o := blk_below h hb
theorem bZ {w W : World} (h : Below w.heap.size w W) : w.heap.size ≤ W.heap.size := below_size h
theorem bT {w W w2 : World} (h : Below w.heap.size w W) (k : Below W.heap.size W w2) : Below w.heap.size w w2 := below_step h k
theorem kP {w : World} {g : Nat} {t : TypeId} {cs cs' : Array Value} (h : w.heap[g]? = some (.cells cs t (0, 0))) (i : Nat) (u : Value) (e : cs.setIfInBounds i u = cs') : (w.setCell ⟨g, i, none⟩ u).heap[g]? = some (.cells cs' t (0, 0)) := blk_put h i u e
theorem kR {w : World} {g : Nat} {t : TypeId} {cs : Array Value} (h : w.heap[g]? = some (.cells cs t (0, 0))) {p : Addr} (hp : g ≠ p.block) (u : Value) : (w.setCell p u).heap[g]? = some (.cells cs t (0, 0)) := blk_far h hp u
theorem kL {w : World} {g : Nat} {o : Obj} (h : w.heap[g]? = some o) : g < w.heap.size := blk_lt h
theorem Am {p : Prop} (h : p) : Aside0 p := Aside0.mk h

/-- what stood in the step's world stands in the one that the step begins in; hb only tells the two -/
theorem hpK {w W w1 : World} {g : Nat} {o : Obj} (_ : w.heap[g]? = some o) (_ : Below W.heap.size W w1) (h : ∀ (g : Nat) (o : Obj), w.heap[g]? = some o → W.heap[g]? = some o) : ∀ ⦃g : Nat⦄ ⦃o : Obj⦄, w.heap[g]? = some o → W.heap[g]? = some o := fun _ _ e => h _ _ e
theorem hpR {w W w1 : World} {g : Nat} {o : Obj} (j : Nat) (_ : w.heap[g]? = some o) (_ : Below W.heap.size W w1) (h : ∀ (g : Nat) (o : Obj), g ≠ j → w.heap[g]? = some o → W.heap[g]? = some o) : ∀ ⦃g : Nat⦄ ⦃o : Obj⦄, g ≠ j → w.heap[g]? = some o → W.heap[g]? = some o := fun _ _ n e => h _ _ n e
theorem kZ {w : World} {g : Nat} {o : Obj} (h : w.heap[g]? = some o) {p : Addr} (hp : g ≠ p.block) (u : Value) : (w.setCell p u).heap[g]? = some o := (Below.heap_setCell w p u g hp).trans h
theorem hpA {w W w1 : World} {g : Nat} {o : Obj} (_ : w.heap[g]? = some o) (hb : Below W.heap.size W w1) (h : ∀ (g : Nat) (o : Obj), w.heap[g]? = some o → W.heap[g]? = some o) : ∀ ⦃g : Nat⦄ ⦃o : Obj⦄, Aside0 (w.heap[g]? = some o) → Aside0 (w1.heap[g]? = some o) := fun _ _ e => ⟨kB (h _ _ e.out) hb⟩
theorem hpB {w W w1 : World} {g : Nat} {o : Obj} (j : Nat) (_ : w.heap[g]? = some o) (hb : Below W.heap.size W w1) (h : ∀ (g : Nat) (o : Obj), g ≠ j → w.heap[g]? = some o → W.heap[g]? = some o) : ∀ ⦃g : Nat⦄ ⦃o : Obj⦄, Aside0 (g ≠ j) → Aside0 (w.heap[g]? = some o) → Aside0 (w1.heap[g]? = some o) := fun _ _ n e => ⟨kB (h _ _ n.out e.out) hb⟩
theorem hqR {w W : World} {g : Nat} {o : Obj} (j : Nat) (_ : w.heap[g]? = some o) (h : ∀ (g : Nat) (o : Obj), g ≠ j → w.heap[g]? = some o → W.heap[g]? = some o) : ∀ ⦃g : Nat⦄ ⦃o : Obj⦄, g ≠ j → w.heap[g]? = some o → W.heap[g]? = some o := fun _ _ n e => h _ _ n e
theorem hvK {w W w1 : World} (_ : Below W.heap.size W w1) (h : Below w.heap.size w W) : Below w.heap.size w W := h
theorem bX {w W : World} {g j : Nat} {v : Value} (h : Below w.heap.size w W) (hg : Aside0 (w.heap.size ≤ g)) : Below w.heap.size w (W.setCell ⟨g, j, none⟩ v) := bS h hg.out
theorem kG {w W : World} {g : Nat} (e : g = W.heap.size) (h : Below w.heap.size w W) : Aside0 (w.heap.size ≤ g) := ⟨by rw [e]; exact bZ h⟩
theorem kX {w : World} {g g1 : Nat} {o : Obj} (e : g1 = w.heap.size) (h : w.heap[g]? = some o) : Aside0 (g ≠ g1) := ⟨by rw [e]; exact Nat.ne_of_lt (kL h)⟩
theorem kY {w : World} {g g1 : Nat} {o : Obj} (e : g1 = w.heap.size) (h : w.heap[g]? = some o) : Aside0 (g1 ≠ g) := ⟨by rw [e]; exact Nat.ne_of_gt (kL h)⟩
theorem zc20 {w : World} {g : Nat} {t : TypeId} {a b : Value} (h : w.heap[g]? = some (.cells #[a, b] t (0, 0))) : w.cell? ⟨g, 0, none⟩ = some a := (kC h 0).trans rfl
theorem zc21 {w : World} {g : Nat} {t : TypeId} {a b : Value} (h : w.heap[g]? = some (.cells #[a, b] t (0, 0))) : w.cell? ⟨g, 1, none⟩ = some b := (kC h 1).trans rfl
theorem zc30 {w : World} {g : Nat} {t : TypeId} {a b c : Value} (h : w.heap[g]? = some (.cells #[a, b, c] t (0, 0))) : w.cell? ⟨g, 0, none⟩ = some a := (kC h 0).trans rfl
theorem zc31 {w : World} {g : Nat} {t : TypeId} {a b c : Value} (h : w.heap[g]? = some (.cells #[a, b, c] t (0, 0))) : w.cell? ⟨g, 1, none⟩ = some b := (kC h 1).trans rfl
theorem zc32 {w : World} {g : Nat} {t : TypeId} {a b c : Value} (h : w.heap[g]? = some (.cells #[a, b, c] t (0, 0))) : w.cell? ⟨g, 2, none⟩ = some c := (kC h 2).trans rfl
/-- of a region's n operations the first m have been -/
def pT (n m : Nat) : Array Bool := ⟨List.replicate m true ++ List.replicate (n - m) false⟩
theorem pI {P : Program} {md : Region.Mode} {ops : Array Oper} {Q : Exit → Act → World → Prop} {S : World → Prop} {ds : List Nat} {n m : Nat} {oi : Oper} {v : Value} {fuel : Nat} {a : Act} {w : World} (hi : ops[m]? = some oi) (hc : anyB md ops (pT n m) (pT n (m + 1)) m = true) (hQ : ∀ c a w, Q (.panic c) (a.put oi.dst v) w → Q (.panic c) a w) (hy : Yields P ops oi v a) {a' : Act} (ha : a.put oi.dst v = a') (h : wpAnyLast P md ops Q S ds fuel (pT n (m + 1)) a' w) : wpAnyLast P md ops Q S ds (fuel + 1) (pT n m) a w := pure_ (pT n (m + 1)) hi rfl hc hQ hy ha h
theorem tI {P : Program} {md : Region.Mode} {ops : Array Oper} {Q : Exit → Act → World → Prop} {S : World → Prop} {ds : List Nat} {n m : Nat} {oi : Oper} {v : Value} {fuel : Nat} {a : Act} {w : World} (hi : ops[m]? = some oi) (hc : takeB md ops ds (pT n m) (pT n (m + 1)) m = true) (hQ : ∀ c a w, Q (.panic c) (a.put oi.dst v) w → Q (.panic c) a w) (hy : YieldsIf P ops S oi v a) (hS : S w) {a' : Act} (ha : a.put oi.dst v = a') (h : wpAnyLast P md ops Q S ds fuel (pT n (m + 1)) a' w) : wpAnyLast P md ops Q S ds (fuel + 1) (pT n m) a w := take_ (pT n (m + 1)) hi rfl hc hQ hy hS ha h

theorem pA {w W w1 : World} {g : Nat} {o : Obj} (h0 : Aside0 (w.heap[g]? = some o)) (hb : Below W.heap.size W w1) (h : ∀ (g : Nat) (o : Obj), w.heap[g]? = some o → W.heap[g]? = some o := by intro _ _ h_; (with_reducible repeat (first | refine kN ?_ _ | refine kD ?_ | refine kA ?_ _)); exact h_) : ∀ ⦃g : Nat⦄ ⦃o : Obj⦄, Aside0 (w.heap[g]? = some o) → Aside0 (w1.heap[g]? = some o) := hpA h0.out hb h
theorem pK {w W w1 : World} {g : Nat} {o : Obj} (h0 : Aside0 (w.heap[g]? = some o)) (hb : Below W.heap.size W w1) (h : ∀ (g : Nat) (o : Obj), w.heap[g]? = some o → W.heap[g]? = some o := by intro _ _ h_; (with_reducible repeat (first | refine kN ?_ _ | refine kD ?_ | refine kA ?_ _)); exact h_) : ∀ ⦃g : Nat⦄ ⦃o : Obj⦄, w.heap[g]? = some o → W.heap[g]? = some o := hpK h0.out hb h
theorem pB {w W w1 : World} {g : Nat} {o : Obj} (j : Nat) (h0 : Aside0 (w.heap[g]? = some o)) (hb : Below W.heap.size W w1) (h : ∀ (g : Nat) (o : Obj), g ≠ j → w.heap[g]? = some o → W.heap[g]? = some o := by intro _ _ q_ h_; (with_reducible repeat (first | refine kN ?_ _ | refine kD ?_ | refine kA ?_ _ | refine kZ ?_ q_ _)); exact h_) : ∀ ⦃g : Nat⦄ ⦃o : Obj⦄, Aside0 (g ≠ j) → Aside0 (w.heap[g]? = some o) → Aside0 (w1.heap[g]? = some o) := hpB j h0.out hb h
theorem pR {w W w1 : World} {g : Nat} {o : Obj} (j : Nat) (h0 : Aside0 (w.heap[g]? = some o)) (hb : Below W.heap.size W w1) (h : ∀ (g : Nat) (o : Obj), g ≠ j → w.heap[g]? = some o → W.heap[g]? = some o := by intro _ _ q_ h_; (with_reducible repeat (first | refine kN ?_ _ | refine kD ?_ | refine kA ?_ _ | refine kZ ?_ q_ _)); exact h_) : ∀ ⦃g : Nat⦄ ⦃o : Obj⦄, g ≠ j → w.heap[g]? = some o → W.heap[g]? = some o := hpR j h0.out hb h
theorem vK {w W0 W w1 : World} (h0 : Aside0 (Below w.heap.size w W0)) (hb : Below W.heap.size W w1) (f : Below w.heap.size w W0 → Below w.heap.size w W := by intro h_; repeat (first | (with_reducible first | exact h_ | apply bA | apply bN | apply bD | refine bX ?_ (by assumption)) | exact h_)) : Below w.heap.size w W := f h0.out
theorem kV {P Q : Prop} (h : Aside0 P) (f : P → Q := by intro h_; (with_reducible repeat (first | refine kN ?_ _ | refine kD ?_ | refine kA ?_ _)); exact h_) : Aside0 Q := ⟨f h.out⟩
theorem kU {P Q : Prop} (h : Aside0 P) (f : P → Q := by intro h_; (with_reducible repeat (first | refine kN ?_ _ | refine kD ?_ | refine kA ?_ _)); exact h_) : Q := f h.out
theorem kW {P Q : Prop} (h : Aside0 P) (f : P → Q := by intro h_; (with_reducible repeat (first | apply Kd.R_alloc | apply Kd.R_drewN | apply Kd.R_drew)); exact h_) : Q := f h.out
theorem kXY {w W : World} {g g1 : Nat} {o : Obj} (e : g1 = W.heap.size) (h1 : ∀ ⦃g : Nat⦄ ⦃o : Obj⦄, w.heap[g]? = some o → W.heap[g]? = some o) (h : Aside0 (w.heap[g]? = some o)) : Aside0 (g ≠ g1) ∧ Aside0 (g1 ≠ g) := ⟨kX e (h1 h.out), kY e (h1 h.out)⟩
theorem kO {a b : Nat} (h : Aside0 (a ≠ b)) : ((a = b) = False) ∧ ((b = a) = False) := ⟨eq_false h.out, eq_false h.out.symm⟩
theorem zc2 {w : World} {g : Nat} {t : TypeId} {a b : Value} (h0 : Aside0 (w.heap[g]? = some (.cells #[a, b] t (0, 0)))) : w.cell? ⟨g, 0, none⟩ = some a ∧ w.cell? ⟨g, 1, none⟩ = some b ∧ w.frozen? ⟨g, 0, none⟩ = false ∧ w.frozen? ⟨g, 1, none⟩ = false := ⟨zc20 h0.out, zc21 h0.out, kF h0.out 0, kF h0.out 1⟩
theorem zc3 {w : World} {g : Nat} {t : TypeId} {a b c : Value} (h0 : Aside0 (w.heap[g]? = some (.cells #[a, b, c] t (0, 0)))) : w.cell? ⟨g, 0, none⟩ = some a ∧ w.cell? ⟨g, 1, none⟩ = some b ∧ w.cell? ⟨g, 2, none⟩ = some c ∧ w.frozen? ⟨g, 0, none⟩ = false ∧ w.frozen? ⟨g, 1, none⟩ = false ∧ w.frozen? ⟨g, 2, none⟩ = false := ⟨zc30 h0.out, zc31 h0.out, zc32 h0.out, kF h0.out 0, kF h0.out 1, kF h0.out 2⟩
section
variable {P : Program} {ops : Array Oper} {Q : Exit → Act → World → Prop}
theorem bE {o : Oper} {rest : List Oper} {a : Act} {W : World} (N : Tmp) (cs : Array Value) (t : TypeId) (h : ∀ g, g = W.heap.size → ∀ w1, w1.heap[g]? = some (.cells cs t (0, 0)) → Below W.heap.size W w1 → wpList P ops Q rest (a.put o.dst (.pointer (some ⟨g, 0, none⟩))) w1) (hd : o.dst = some N := by rfl) (hg : o.guard = none := by rfl) (hr : (execOp a.eval o).run P W = .ok (.value (.pointer (some ⟨W.heap.size, 0, none⟩))) (W.alloc (.cells cs t (0, 0))) := by first | (go_simp; done) | (go_simp; rfl)) : wpList P ops Q (o :: rest) a W := box_event hg hd hr h
theorem gL {rest : List Oper} {oi : Oper} {a : Act} {w : World} (N : Option Tmp) {f : FuncId} {fn : Func} {aS : Array Operand} {ts : Array TypeId} (hf : P.funcs[f]? = some fn) (args : Array Value) (hop : oi.op = .call { callee := .value (.func f), args := aS, argTypes := ts }) (h : Calls P f args w fun e w' => ∃ v, e = .returned v ∧ wpList P ops Q rest (a.put N v) w') (hargs : aS.map a.eval = args := by (try simp only [List.map_toArray, List.map_cons, List.map_nil]); first | done | rfl | (simp only [List.length_drop, List.length_take]; rfl)) (hd : oi.dst = N := by rfl) (hg : oi.guard = none := by rfl) (hname : (fn.name == "runtime.NumGoroutine") = false := by kernel_rfl) (hb : fn.body.isSome = true := by rfl) : wpList P ops Q (oi :: rest) a w := goesL_ N hd hg hf hname hb args hop hargs h
end

end Go.Proofs.YtchglfpiicaedaaGreatDoor.PFnHandsStandOfAll
