import Derived.Test.YtoogchgoiciggaaProg
import Derived.Below
import Derived.Deep.Draws
import Derived.Deep.AppendLies
import Derived.Maps.AppendAt
import Derived.OwnWalk
import Derived.Laws.BytesArg
import Derived.Laws.MakeOwn
import Derived.Laws.OwnMore
import Derived.Deep.OwnRows
import Derived.Tactics
import Derived.Lib.ConvBytes
import Derived.Laws.Slices
import Derived.WalkKit
import Derived.KernelRfl
import Derived.RowKit3
import Derived.Deep.LoopGhost
import Derived.Deep.QuietTactic
import Derived.BigQuiet
import Derived.WideLaws
import Derived.Deep.DeepCutAuto
import Derived.Deep.CutBlock
import Derived.Deep.RegionHeld3
import Derived.Laws.Rows
import Derived.Lib.AppendStr
import Derived.ArgAppend
import Derived.Laws.IdiomCopy
import Derived.OrdersHeld
import Derived.Laws.BitsLemmas
import Derived.RowKit
import Derived.LoopN
import Derived.StillTailTactics
import Derived.Test.YtoogchgoiciggaaGItemWhole1
import Derived.Maps.OwnSet
import Derived.DeepKeys4
namespace Go.Proofs.Ytoogchgoiciggaa.Q
open Go.RowKit Go.Proofs.YtoogchgoiciggaaW.PrintWords Go.Proofs.YtoogchgoiciggaaW.PrintLast Go.Proofs.YtoogchgoiciggaaW.PrintMore
def mB_ (n k : Nat) : Array Bool := ((List.range n).map k.testBit).toArray
attribute [local go_sem] max2_int min2_int max_two min_two max_three min_three max_four min_four   -- for this text's walks alone
set_option linter.unusedVariables false
set_option linter.unusedSimpArgs false
def errW : Option Int → Value
 | none => .nilIface
 | some c => .iface 0 (.int .i64 c)
theorem errW_none : errW none = .nilIface := rfl
theorem errW_some (c : Int) : errW (some c) = .iface 0 (.int .i64 c) := rfl
theorem info5 : (Try.prog.info? 5).map (fun i => (i.zero, i.size, i.bytes)) = some (some (.int .u8 0), 1, 1) := by kernel_rfl
theorem info23 : (Try.prog.info? 23).map (fun i => (i.zero, i.size, i.bytes)) = some (some (.agg #[(.string ⟨#[]⟩), (.string ⟨#[]⟩), (.string ⟨#[]⟩), (.bool false)]), 4, 56) := by kernel_rfl
structure S28 where
 f0 : Int
 f1 : Int
 f2 : Int
 f3 : Int
def k28 : Kd S28 := Kd.iso (Kd.pair (Kd.int .u64) (Kd.pair (Kd.int .u64) (Kd.pair (Kd.int .u64) (Kd.int .u64)))) (fun x : S28 => (x.f0, x.f1, x.f2, x.f3))
theorem k28_open {w : World} {x : S28} {cs : List Value} (h : k28.K w x cs) : cs = [.int .u64 x.f0, .int .u64 x.f1, .int .u64 x.f2, .int .u64 x.f3] := by
 obtain ⟨_, _, rfl, rfl, ⟨_, _, rfl, rfl, ⟨_, _, rfl, rfl, rfl⟩⟩⟩ := h
 exact rfl
structure S23 where
 f0 : ByteArray
 f1 : ByteArray
 f2 : ByteArray
 f3 : Bool
def z23 : S23 := ⟨(⟨#[]⟩ : ByteArray), (⟨#[]⟩ : ByteArray), (⟨#[]⟩ : ByteArray), false⟩
def k23 : Kd S23 := Kd.iso (Kd.pair Kd.string (Kd.pair Kd.string (Kd.pair Kd.string Kd.bool))) (fun x : S23 => (x.f0, x.f1, x.f2, x.f3))
theorem k23_open {w : World} {x : S23} {cs : List Value} (h : k23.K w x cs) : cs = [.string x.f0, .string x.f1, .string x.f2, .bool x.f3] := by
 obtain ⟨_, _, rfl, rfl, ⟨_, _, rfl, rfl, ⟨_, _, rfl, rfl, rfl⟩⟩⟩ := h
 exact rfl
theorem k23_openM {w : World} {base : Nat} {ok : Nat → Prop} {x : S23} {cs : List Value} (h : k23.M w base ok x cs) : cs = [.string x.f0, .string x.f1, .string x.f2, .bool x.f3] := by
 obtain ⟨_, _, rfl, rfl, ⟨_, _, rfl, rfl, ⟨_, _, rfl, rfl, rfl⟩⟩⟩ := h
 exact rfl
theorem k23_mkM (w : World) (base : Nat) (ok : Nat → Prop) (x : S23)  : k23.M w base ok x [.string x.f0, .string x.f1, .string x.f2, .bool x.f3] := ⟨[.string x.f0], [.string x.f1, .string x.f2, .bool x.f3], rfl, rfl, ⟨[.string x.f1], [.string x.f2, .bool x.f3], rfl, rfl, ⟨[.string x.f2], [.bool x.f3], rfl, rfl, rfl⟩⟩⟩
def rd_T23 (xs : List S23) (i : Int) : S23 := xs.getD i.toNat z23
theorem at_T23 {w : World} {A : Option Addr} {n : Nat} {xs : List S23} (h : Kd.C k23 w A n xs) (i : Int) (h0 : 0 ≤ i) (h1 : i < n) : ∃ ad , A = some ad ∧ w.cell? (ad.add (i.toNat * 4)) = some (.string (rd_T23 xs i).f0) ∧ w.cell? ⟨(ad.add (i.toNat * 4)).block, (ad.add (i.toNat * 4)).off + 1, none⟩ = some (.string (rd_T23 xs i).f1) ∧ w.cell? ⟨(ad.add (i.toNat * 4)).block, (ad.add (i.toNat * 4)).off + 2, none⟩ = some (.string (rd_T23 xs i).f2) ∧ w.cell? ⟨(ad.add (i.toNat * 4)).block, (ad.add (i.toNat * 4)).off + 3, none⟩ = some (.bool (rd_T23 xs i).f3) := by
 obtain ⟨ad, c, e, _, hK, hc0⟩ := Kd.C_get h z23 i h0 h1
 have hc : ∀ j u, c[j]? = some u → w.cell? (ad.add (i.toNat * 4 + j)) = some u := hc0
 obtain rfl := k23_open hK
 exact ⟨ad, e, hc 0 _ rfl, by rw [← add_field _ _ 1 (by omega)]; exact hc 1 _ rfl, by rw [← add_field _ _ 2 (by omega)]; exact hc 2 _ rfl, by rw [← add_field _ _ 3 (by omega)]; exact hc 3 _ rfl⟩
structure S30 where
 f0 : S28
 f1 : Int
def k30 : Kd S30 := Kd.iso (Kd.pair k28 (Kd.int .i64)) (fun x : S30 => (x.f0, x.f1))
theorem k30_open {w : World} {x : S30} {cs : List Value} (h : k30.K w x cs) : cs = [.int .u64 x.f0.f0, .int .u64 x.f0.f1, .int .u64 x.f0.f2, .int .u64 x.f0.f3, .int .i64 x.f1] := by
 obtain ⟨_, _, rfl, s0, rfl⟩ := h
 obtain rfl := k28_open s0
 exact rfl
structure S25 where
 f0 : S23
 f1 : Bool
 f2 : Int
def z25 : S25 := ⟨z23, false, (0 : Int)⟩
def k25 : Kd S25 := Kd.iso (Kd.pair k23 (Kd.pair Kd.bool (Kd.int .u8))) (fun x : S25 => (x.f0, x.f1, x.f2))
theorem k25_open {w : World} {x : S25} {cs : List Value} (h : k25.K w x cs) : cs = [.string x.f0.f0, .string x.f0.f1, .string x.f0.f2, .bool x.f0.f3, .bool x.f1, .int .u8 x.f2] := by
 obtain ⟨_, _, rfl, s0, ⟨_, _, rfl, rfl, rfl⟩⟩ := h
 obtain rfl := k23_open s0
 exact rfl
def rd_T25 (xs : List S25) (i : Int) : S25 := xs.getD i.toNat z25
theorem at_T25 {w : World} {A : Option Addr} {n : Nat} {xs : List S25} (h : Kd.C k25 w A n xs) (i : Int) (h0 : 0 ≤ i) (h1 : i < n) : ∃ ad , A = some ad ∧ w.cell? (ad.add (i.toNat * 6)) = some (.string (rd_T25 xs i).f0.f0) ∧ w.cell? ⟨(ad.add (i.toNat * 6)).block, (ad.add (i.toNat * 6)).off + 1, none⟩ = some (.string (rd_T25 xs i).f0.f1) ∧ w.cell? ⟨(ad.add (i.toNat * 6)).block, (ad.add (i.toNat * 6)).off + 2, none⟩ = some (.string (rd_T25 xs i).f0.f2) ∧ w.cell? ⟨(ad.add (i.toNat * 6)).block, (ad.add (i.toNat * 6)).off + 3, none⟩ = some (.bool (rd_T25 xs i).f0.f3) ∧ w.cell? ⟨(ad.add (i.toNat * 6)).block, (ad.add (i.toNat * 6)).off + 4, none⟩ = some (.bool (rd_T25 xs i).f1) ∧ w.cell? ⟨(ad.add (i.toNat * 6)).block, (ad.add (i.toNat * 6)).off + 5, none⟩ = some (.int .u8 (rd_T25 xs i).f2) := by
 obtain ⟨ad, c, e, _, hK, hc0⟩ := Kd.C_get h z25 i h0 h1
 have hc : ∀ j u, c[j]? = some u → w.cell? (ad.add (i.toNat * 6 + j)) = some u := hc0
 obtain rfl := k25_open hK
 exact ⟨ad, e, hc 0 _ rfl, by rw [← add_field _ _ 1 (by omega)]; exact hc 1 _ rfl, by rw [← add_field _ _ 2 (by omega)]; exact hc 2 _ rfl, by rw [← add_field _ _ 3 (by omega)]; exact hc 3 _ rfl, by rw [← add_field _ _ 4 (by omega)]; exact hc 4 _ rfl, by rw [← add_field _ _ 5 (by omega)]; exact hc 5 _ rfl⟩
structure S32 where
 f0 : S30
 f1 : Bool
def k32 : Kd S32 := Kd.iso (Kd.pair k30 Kd.bool) (fun x : S32 => (x.f0, x.f1))
theorem k32_open {w : World} {x : S32} {cs : List Value} (h : k32.K w x cs) : cs = [.int .u64 x.f0.f0.f0, .int .u64 x.f0.f0.f1, .int .u64 x.f0.f0.f2, .int .u64 x.f0.f0.f3, .int .i64 x.f0.f1, .bool x.f1] := by
 obtain ⟨_, _, rfl, s0, rfl⟩ := h
 obtain rfl := k30_open s0
 exact rfl
structure S35 where
 f0 : S32
 f1 : (List S25)
 f2 : Bool
def k35 : Kd S35 := Kd.iso (Kd.pair k32 (Kd.pair (Kd.slice 25 k25) Kd.bool)) (fun x : S35 => (x.f0, x.f1, x.f2))
theorem k35_open {w : World} {x : S35} {cs : List Value} (h : k35.K w x cs) : ∃ A6 c6, cs = [.int .u64 x.f0.f0.f0.f0, .int .u64 x.f0.f0.f0.f1, .int .u64 x.f0.f0.f0.f2, .int .u64 x.f0.f0.f0.f3, .int .i64 x.f0.f0.f1, .bool x.f0.f1, .slice A6 x.f1.length c6, .bool x.f2] ∧ x.f1.length ≤ c6 ∧ k25.C w A6 x.f1.length x.f1 := by
 obtain ⟨_, _, rfl, s0, ⟨_, _, rfl, ⟨A6, c6, rfl, l6, g6⟩, rfl⟩⟩ := h
 obtain rfl := k32_open s0
 exact ⟨A6, c6, rfl, l6, g6⟩
theorem Kb_ {W w1 w2 : World} {g : Nat} {o : Obj} (h : Aside0 (W.heap[g]? = some o)) (hb : Below w1.heap.size w1 w2) (e : W.heap[g]? = some o → w1.heap[g]? = some o := by intro h; (with_reducible repeat (first | refine blk_drewN ?_ _ | refine blk_drew ?_ | refine blk_alloc ?_ _)); exact h) : Aside0 (w2.heap[g]? = some o) := ⟨blk_below (e h.out) hb⟩
theorem Kl_ {W w1 : World} {g g2 : Nat} {o : Obj} (h : Aside0 (W.heap[g]? = some o)) (hg : g2 = w1.heap.size) (e : W.heap[g]? = some o → w1.heap[g]? = some o := by intro h; (with_reducible repeat (first | refine blk_drewN ?_ _ | refine blk_drew ?_ | refine blk_alloc ?_ _)); exact h) : Aside0 (g ≠ g2) := ⟨by rw [hg]; exact Nat.ne_of_lt (blk_lt (e h.out))⟩
theorem Kr_ {W w1 : World} {g g2 : Nat} {o : Obj} (h : Aside0 (W.heap[g]? = some o)) (hg : g2 = w1.heap.size) (e : W.heap[g]? = some o → w1.heap[g]? = some o := by intro h; (with_reducible repeat (first | refine blk_drewN ?_ _ | refine blk_drew ?_ | refine blk_alloc ?_ _)); exact h) : Aside0 (g2 ≠ g) := ⟨by rw [hg]; exact Nat.ne_of_gt (blk_lt (e h.out))⟩
theorem Kd_ {W : World} {g : Nat} {o : Obj} (h : Aside0 (W.heap[g]? = some o)) : Aside0 (W.drew.heap[g]? = some o) := ⟨blk_drew h.out⟩
theorem Kf_ {W w1 w2 : World} {g g2 t : Nat} {cs : Array Value} (h : Aside0 (W.heap[g]? = some (.cells cs t (0, 0)))) (n : Aside0 (g ≠ g2)) (hb : Below w1.heap.size w1 w2) (e : W.heap[g]? = some (.cells cs t (0, 0)) → g ≠ g2 → w1.heap[g]? = some (.cells cs t (0, 0)) := by intro h n; (repeat (first | (with_reducible first | refine blk_drewN ?_ _ | refine blk_drew ?_ | refine blk_alloc ?_ _) | refine blk_far ?_ n _)); exact h) : Aside0 (w2.heap[g]? = some (.cells cs t (0, 0))) := ⟨blk_below (e h.out n.out) hb⟩
theorem Ks_ {w W w1 w2 : World} (h : Aside0 (Below w.heap.size w W)) (hb : Below w1.heap.size w1 w2) (e : Below w.heap.size w W → Below w.heap.size w w1 := by intro h; repeat (first | (with_reducible first | exact h | apply below_alloc | apply pw_below_drewN | apply below_drew1) | exact h)) : Aside0 (Below w.heap.size w w2) := ⟨below_step (e h.out) hb⟩
theorem Kt_ {w W w1 w2 : World} {g : Nat} (h : Aside0 (Below w.heap.size w W)) (n : Aside0 (w.heap.size ≤ g)) (hb : Below w1.heap.size w1 w2) (e : Below w.heap.size w W → w.heap.size ≤ g → Below w.heap.size w w1 := by intro h n; repeat (first | (with_reducible first | exact h | apply below_alloc | apply pw_below_drewN | apply below_drew1 | refine below_set ?_ n) | exact h)) : Aside0 (Below w.heap.size w w2) := ⟨below_step (e h.out n.out) hb⟩
theorem Kw_ {w W w1 : World} {g2 : Nat} (h : Aside0 (Below w.heap.size w W)) (hg : g2 = w1.heap.size) (e : Below w.heap.size w W → Below w.heap.size w w1 := by intro h; repeat (first | (with_reducible first | exact h | apply below_alloc | apply pw_below_drewN | apply below_drew1) | exact h)) : Aside0 (w.heap.size ≤ g2) := ⟨by rw [hg]; exact below_size (e h.out)⟩
theorem Kc2_ {W : World} {g : Nat} {t : TypeId} {r : List Value} {v0 v1 : Value} (h : W.heap[g]? = some (.cells (v0 :: v1 :: r).toArray t (0, 0))) : W.cell? ⟨g, 0, none⟩ = some v0 ∧ W.cell? ⟨g, 1, none⟩ = some v1 := ⟨(blk_cell h 0).trans (by simp), (blk_cell h 1).trans (by simp)⟩
theorem Ke2_ {W : World} {g : Nat} {t : TypeId} {r : List Value} {v0 v1 : Value} (h : W.heap[g]? = some (.cells (v0 :: v1 :: r).toArray t (0, 0))) : W.cell? ⟨g, 0, none⟩ = some v0 ∧ W.cell? ⟨g, 1, none⟩ = some v1 ∧ W.frozen? ⟨g, 0, none⟩ = false ∧ W.frozen? ⟨g, 1, none⟩ = false := ⟨(blk_cell h 0).trans (by simp), (blk_cell h 1).trans (by simp), blk_frozen h 0, blk_frozen h 1⟩
theorem Kc4_ {W : World} {g : Nat} {t : TypeId} {r : List Value} {v0 v1 v2 v3 : Value} (h : W.heap[g]? = some (.cells (v0 :: v1 :: v2 :: v3 :: r).toArray t (0, 0))) : W.cell? ⟨g, 0, none⟩ = some v0 ∧ W.cell? ⟨g, 1, none⟩ = some v1 ∧ W.cell? ⟨g, 2, none⟩ = some v2 ∧ W.cell? ⟨g, 3, none⟩ = some v3 := ⟨(blk_cell h 0).trans (by simp), (blk_cell h 1).trans (by simp), (blk_cell h 2).trans (by simp), (blk_cell h 3).trans (by simp)⟩
theorem Ke4_ {W : World} {g : Nat} {t : TypeId} {r : List Value} {v0 v1 v2 v3 : Value} (h : W.heap[g]? = some (.cells (v0 :: v1 :: v2 :: v3 :: r).toArray t (0, 0))) : W.cell? ⟨g, 0, none⟩ = some v0 ∧ W.cell? ⟨g, 1, none⟩ = some v1 ∧ W.cell? ⟨g, 2, none⟩ = some v2 ∧ W.cell? ⟨g, 3, none⟩ = some v3 ∧ W.frozen? ⟨g, 0, none⟩ = false ∧ W.frozen? ⟨g, 1, none⟩ = false ∧ W.frozen? ⟨g, 2, none⟩ = false ∧ W.frozen? ⟨g, 3, none⟩ = false := ⟨(blk_cell h 0).trans (by simp), (blk_cell h 1).trans (by simp), (blk_cell h 2).trans (by simp), (blk_cell h 3).trans (by simp), blk_frozen h 0, blk_frozen h 1, blk_frozen h 2, blk_frozen h 3⟩
theorem Kc5_ {W : World} {g : Nat} {t : TypeId} {r : List Value} {v0 v1 v2 v3 v4 : Value} (h : W.heap[g]? = some (.cells (v0 :: v1 :: v2 :: v3 :: v4 :: r).toArray t (0, 0))) : W.cell? ⟨g, 0, none⟩ = some v0 ∧ W.cell? ⟨g, 1, none⟩ = some v1 ∧ W.cell? ⟨g, 2, none⟩ = some v2 ∧ W.cell? ⟨g, 3, none⟩ = some v3 ∧ W.cell? ⟨g, 4, none⟩ = some v4 := ⟨(blk_cell h 0).trans (by simp), (blk_cell h 1).trans (by simp), (blk_cell h 2).trans (by simp), (blk_cell h 3).trans (by simp), (blk_cell h 4).trans (by simp)⟩
theorem Ke5_ {W : World} {g : Nat} {t : TypeId} {r : List Value} {v0 v1 v2 v3 v4 : Value} (h : W.heap[g]? = some (.cells (v0 :: v1 :: v2 :: v3 :: v4 :: r).toArray t (0, 0))) : W.cell? ⟨g, 0, none⟩ = some v0 ∧ W.cell? ⟨g, 1, none⟩ = some v1 ∧ W.cell? ⟨g, 2, none⟩ = some v2 ∧ W.cell? ⟨g, 3, none⟩ = some v3 ∧ W.cell? ⟨g, 4, none⟩ = some v4 ∧ W.frozen? ⟨g, 0, none⟩ = false ∧ W.frozen? ⟨g, 1, none⟩ = false ∧ W.frozen? ⟨g, 2, none⟩ = false ∧ W.frozen? ⟨g, 3, none⟩ = false ∧ W.frozen? ⟨g, 4, none⟩ = false := ⟨(blk_cell h 0).trans (by simp), (blk_cell h 1).trans (by simp), (blk_cell h 2).trans (by simp), (blk_cell h 3).trans (by simp), (blk_cell h 4).trans (by simp), blk_frozen h 0, blk_frozen h 1, blk_frozen h 2, blk_frozen h 3, blk_frozen h 4⟩
theorem Ke6_ {W : World} {g : Nat} {t : TypeId} {r : List Value} {v0 v1 v2 v3 v4 v5 : Value} (h : W.heap[g]? = some (.cells (v0 :: v1 :: v2 :: v3 :: v4 :: v5 :: r).toArray t (0, 0))) : W.cell? ⟨g, 0, none⟩ = some v0 ∧ W.cell? ⟨g, 1, none⟩ = some v1 ∧ W.cell? ⟨g, 2, none⟩ = some v2 ∧ W.cell? ⟨g, 3, none⟩ = some v3 ∧ W.cell? ⟨g, 4, none⟩ = some v4 ∧ W.cell? ⟨g, 5, none⟩ = some v5 ∧ W.frozen? ⟨g, 0, none⟩ = false ∧ W.frozen? ⟨g, 1, none⟩ = false ∧ W.frozen? ⟨g, 2, none⟩ = false ∧ W.frozen? ⟨g, 3, none⟩ = false ∧ W.frozen? ⟨g, 4, none⟩ = false ∧ W.frozen? ⟨g, 5, none⟩ = false := ⟨(blk_cell h 0).trans (by simp), (blk_cell h 1).trans (by simp), (blk_cell h 2).trans (by simp), (blk_cell h 3).trans (by simp), (blk_cell h 4).trans (by simp), (blk_cell h 5).trans (by simp), blk_frozen h 0, blk_frozen h 1, blk_frozen h 2, blk_frozen h 3, blk_frozen h 4, blk_frozen h 5⟩
theorem Kc8_ {W : World} {g : Nat} {t : TypeId} {r : List Value} {v0 v1 v2 v3 v4 v5 v6 v7 : Value} (h : W.heap[g]? = some (.cells (v0 :: v1 :: v2 :: v3 :: v4 :: v5 :: v6 :: v7 :: r).toArray t (0, 0))) : W.cell? ⟨g, 0, none⟩ = some v0 ∧ W.cell? ⟨g, 1, none⟩ = some v1 ∧ W.cell? ⟨g, 2, none⟩ = some v2 ∧ W.cell? ⟨g, 3, none⟩ = some v3 ∧ W.cell? ⟨g, 4, none⟩ = some v4 ∧ W.cell? ⟨g, 5, none⟩ = some v5 ∧ W.cell? ⟨g, 6, none⟩ = some v6 ∧ W.cell? ⟨g, 7, none⟩ = some v7 := ⟨(blk_cell h 0).trans (by simp), (blk_cell h 1).trans (by simp), (blk_cell h 2).trans (by simp), (blk_cell h 3).trans (by simp), (blk_cell h 4).trans (by simp), (blk_cell h 5).trans (by simp), (blk_cell h 6).trans (by simp), (blk_cell h 7).trans (by simp)⟩
theorem Ke8_ {W : World} {g : Nat} {t : TypeId} {r : List Value} {v0 v1 v2 v3 v4 v5 v6 v7 : Value} (h : W.heap[g]? = some (.cells (v0 :: v1 :: v2 :: v3 :: v4 :: v5 :: v6 :: v7 :: r).toArray t (0, 0))) : W.cell? ⟨g, 0, none⟩ = some v0 ∧ W.cell? ⟨g, 1, none⟩ = some v1 ∧ W.cell? ⟨g, 2, none⟩ = some v2 ∧ W.cell? ⟨g, 3, none⟩ = some v3 ∧ W.cell? ⟨g, 4, none⟩ = some v4 ∧ W.cell? ⟨g, 5, none⟩ = some v5 ∧ W.cell? ⟨g, 6, none⟩ = some v6 ∧ W.cell? ⟨g, 7, none⟩ = some v7 ∧ W.frozen? ⟨g, 0, none⟩ = false ∧ W.frozen? ⟨g, 1, none⟩ = false ∧ W.frozen? ⟨g, 2, none⟩ = false ∧ W.frozen? ⟨g, 3, none⟩ = false ∧ W.frozen? ⟨g, 4, none⟩ = false ∧ W.frozen? ⟨g, 5, none⟩ = false ∧ W.frozen? ⟨g, 6, none⟩ = false ∧ W.frozen? ⟨g, 7, none⟩ = false := ⟨(blk_cell h 0).trans (by simp), (blk_cell h 1).trans (by simp), (blk_cell h 2).trans (by simp), (blk_cell h 3).trans (by simp), (blk_cell h 4).trans (by simp), (blk_cell h 5).trans (by simp), (blk_cell h 6).trans (by simp), (blk_cell h 7).trans (by simp), blk_frozen h 0, blk_frozen h 1, blk_frozen h 2, blk_frozen h 3, blk_frozen h 4, blk_frozen h 5, blk_frozen h 6, blk_frozen h 7⟩
theorem Ky_ {w W w1 : World} (h : Aside0 (Below w.heap.size w W)) (e : Below w.heap.size w W → Below w.heap.size w w1 := by intro h; repeat (first | (with_reducible first | exact h | apply below_alloc | apply pw_below_drewN | apply below_drew1) | exact h)) : Below w.heap.size w w1 := e h.out
theorem Kz_ {w W w1 : World} {g : Nat} (h : Aside0 (Below w.heap.size w W)) (n : Aside0 (w.heap.size ≤ g)) (e : Below w.heap.size w W → w.heap.size ≤ g → Below w.heap.size w w1 := by intro h n; repeat (first | (with_reducible first | exact h | apply below_alloc | apply pw_below_drewN | apply below_drew1 | refine below_set ?_ n) | exact h)) : Below w.heap.size w w1 := e h.out n.out
theorem Kq_ {W w1 : World} {g : Nat} {o : Obj} (h : Aside0 (W.heap[g]? = some o)) (e : W.heap[g]? = some o → w1.heap[g]? = some o := by intro h; (with_reducible repeat (first | refine blk_drewN ?_ _ | refine blk_drew ?_ | refine blk_alloc ?_ _)); exact h) : w1.heap[g]? = some o := e h.out
theorem Kv_ {W w1 : World} {g : Nat} {o : Obj} (h : W.heap[g]? = some o) (e : W.heap[g]? = some o → w1.heap[g]? = some o := by intro h; (with_reducible repeat (first | refine blk_drewN ?_ _ | refine blk_drew ?_ | refine blk_alloc ?_ _)); exact h) : w1.heap[g]? = some o := e h
theorem Ku_ {α : Type} {d : Kd α} {e base : Nat} {ok : Nat → Prop} {W w1 : World} {v : Value} {xs : List α} (h : Aside0 (d.R e W base ok v xs)) (q : d.R e W base ok v xs → d.R e w1 base ok v xs := by intro h; (with_reducible repeat (first | apply Kd.R_alloc | apply Kd.R_drewN | apply Kd.R_drew)); exact h) : d.R e w1 base ok v xs := q h.out
theorem Kh_ {p : Prop} (h : p := by first | rfl | (simp [errW_none, errW_some] <;> rfl) | (simp [*, errW_none, errW_some] <;> rfl)) : p := h
theorem Kg_ {P : Program} {ops : Array Oper} {Q : Exit → Act → World → Prop} {rest : List Oper} {oi : Oper} {a : Act} {w : World} (N : Option Tmp) (hd : oi.dst = N) (hg : oi.guard = none) {f : FuncId} {fn : Func} {as0 : Array Operand} {ts : Array TypeId} (hf : P.funcs[f]? = some fn) (hname : (fn.name == "runtime.NumGoroutine") = false) (hb : fn.body.isSome = true) (args : Array Value)
  (hop : oi.op = .call { callee := .value (.func f), args := as0, argTypes := ts }) (h : Calls P f args w fun e w' => ∃ v, e = .returned v ∧ wpList P ops Q rest (a.put N v) w') (hargs : as0.map a.eval = args := by (try simp only [List.map_toArray, List.map_cons, List.map_nil]); first | done | rfl | (simp only [List.length_drop, List.length_take]; rfl)) : wpList P ops Q (oi :: rest) a w :=
 goesL_ N hd hg hf hname hb args hop hargs h
theorem Kp_ {P : Program} {md : Region.Mode} {ops : Array Oper} {Q : Exit → Act → World → Prop} {S : World → Prop} {ds : List Nat} (i N : Nat) {oi : Oper} {v : Value} {fuel : Nat} {l : Array Bool} {a a' : Act} {w : World} (l' : Array Bool) (hc : anyB md ops l l' i = true) (h : wpAnyLast P md ops Q S ds fuel l' a' w) (hi : ops[i]? = some oi := by rfl) (hN : oi.dst = some N := by rfl)
  (hw : Region.wanted oi (yielded ops a.tmps) = true := by rfl) (hQ : ∀ c a w, Q (.panic c) (a.put oi.dst v) w → Q (.panic c) a w := by exact fun _ _ _ h => h) (hy : ∀ w, (execOp a.eval oi).run P w = .ok (.value v) w := by intro w'; go_simp; with_reducible rfl)
  (ha : a.put (some N) v = a' := by simp only [Act.put, List.setIfInBounds_toArray, List.set_cons_zero, List.set_cons_succ, i64_w, i32_w]; rfl) : wpAnyLast P md ops Q S ds (fuel + 1) l a w := pure_ l' hi hN hc hQ (Or.inl ⟨hw, hy⟩) ha h
theorem Ko_ {P : Program} {md : Region.Mode} {ops : Array Oper} {Q : Exit → Act → World → Prop} {S : World → Prop} {ds : List Nat} (i N : Nat) {oi : Oper} {v : Value} {fuel : Nat} {l : Array Bool} {a a' : Act} {w : World} (l' : Array Bool) (hc : takeB md ops ds l l' i = true) (hS : S w) (h : wpAnyLast P md ops Q S ds fuel l' a' w) (hi : ops[i]? = some oi := by rfl) (hN : oi.dst = some N := by rfl)
  (hw : Region.wanted oi (yielded ops a.tmps) = true := by rfl) (hQ : ∀ c a w, Q (.panic c) (a.put oi.dst v) w → Q (.panic c) a w := by exact fun _ _ _ h => h) (hy : ∀ w, S w → (execOp a.eval oi).run P w = .ok (.value v) w := by intro w' hs; go_simp; with_reducible rfl)
  (ha : a.put (some N) v = a' := by simp only [Act.put, List.setIfInBounds_toArray, List.set_cons_zero, List.set_cons_succ, i64_w, i32_w]; rfl) : wpAnyLast P md ops Q S ds (fuel + 1) l a w := take_ l' hi hN hc hQ (Or.inl ⟨hw, hy⟩) hS ha h
theorem Kn_ {P : Program} {md : Region.Mode} {ops : Array Oper} {Q : Exit → Act → World → Prop} {S : World → Prop} {ds : List Nat} (N : Nat) {fuel : Nat} {l : Array Bool} {a a' : Act} {v : Value} {w : World} (h : wpAnyLast P md ops Q S ds fuel l a' w) (ha : a.put (some N) v = a' := by simp only [Act.put, List.setIfInBounds_toArray, List.set_cons_zero, List.set_cons_succ, i64_w, i32_w]; rfl) : wpAnyLast P md ops Q S ds fuel l (a.put (some N) v) w := norm_ ha h
theorem Ka_ {P : Program} {ops : Array Oper} {Q : Exit → Act → World → Prop} {rest : List Oper} {o : Oper} {a : Act} {W : World} (N : Tmp) (cs : Array Value) (t : TypeId) (h : ∀ g, g = W.heap.size → ∀ w1, w1.heap[g]? = some (.cells cs t (0, 0)) → Below W.heap.size W w1 → wpList P ops Q rest (a.put o.dst (.pointer (some ⟨g, 0, none⟩))) w1)
  (hd : o.dst = some N := by rfl) (hg : o.guard = none := by rfl) (hr : (execOp a.eval o).run P W = .ok (.value (.pointer (some ⟨W.heap.size, 0, none⟩))) (W.alloc (.cells cs t (0, 0))) := by first | (go_simp; done) | (go_simp; rfl)) : wpList P ops Q (o :: rest) a W := box_event hg hd hr h
theorem Kj_ {W : World} {g g2 i j : Nat} {u x : Value} (n : Aside0 (g ≠ g2)) (h : W.cell? ⟨g, j, none⟩ = some x) : (W.setCell ⟨g2, i, none⟩ u).cell? ⟨g, j, none⟩ = some x := (cell_far n.out _).trans h
theorem Km_ {w : World} {g : Nat} {t : TypeId} {cs : Array Value} {v : Value} (h : Aside0 (w.heap[g]? = some (.cells cs t (0, 0)))) (i : Nat) (e : cs[i]? = some v := by rfl) : w.cell? ⟨g, i, none⟩ = some v := (blk_cell h.out i).trans e
theorem K2a_ {w W w1 : World} {g0 g1 : Nat} (h : Aside0 (Below w.heap.size w W)) (n0 : Aside0 (w.heap.size ≤ g0)) (n1 : Aside0 (w.heap.size ≤ g1)) (e : Below w.heap.size w W → w.heap.size ≤ g0 → w.heap.size ≤ g1 → Below w.heap.size w w1 := by intro h n0 n1; repeat (first | (with_reducible first | exact h | apply below_alloc | apply pw_below_drewN | apply below_drew1 | refine below_set ?_ n0 | refine below_set ?_ n1) | exact h)) : Below w.heap.size w w1 := e h.out n0.out n1.out
theorem K3a_ {w W w1 : World} {g0 g1 g2 : Nat} (h : Aside0 (Below w.heap.size w W)) (n0 : Aside0 (w.heap.size ≤ g0)) (n1 : Aside0 (w.heap.size ≤ g1)) (n2 : Aside0 (w.heap.size ≤ g2)) (e : Below w.heap.size w W → w.heap.size ≤ g0 → w.heap.size ≤ g1 → w.heap.size ≤ g2 → Below w.heap.size w w1 := by intro h n0 n1 n2; repeat (first | (with_reducible first | exact h | apply below_alloc | apply pw_below_drewN | apply below_drew1 | refine below_set ?_ n0 | refine below_set ?_ n1 | refine below_set ?_ n2) | exact h)) : Below w.heap.size w w1 := e h.out n0.out n1.out n2.out
theorem K4a_ {w W w1 : World} {g0 g1 g2 g3 : Nat} (h : Aside0 (Below w.heap.size w W)) (n0 : Aside0 (w.heap.size ≤ g0)) (n1 : Aside0 (w.heap.size ≤ g1)) (n2 : Aside0 (w.heap.size ≤ g2)) (n3 : Aside0 (w.heap.size ≤ g3)) (e : Below w.heap.size w W → w.heap.size ≤ g0 → w.heap.size ≤ g1 → w.heap.size ≤ g2 → w.heap.size ≤ g3 → Below w.heap.size w w1 := by intro h n0 n1 n2 n3; repeat (first | (with_reducible first | exact h | apply below_alloc | apply pw_below_drewN | apply below_drew1 | refine below_set ?_ n0 | refine below_set ?_ n1 | refine below_set ?_ n2 | refine below_set ?_ n3) | exact h)) : Below w.heap.size w w1 := e h.out n0.out n1.out n2.out n3.out
theorem K1b_ {W w1 : World} {g t g0 : Nat} {cs : Array Value} (h : Aside0 (W.heap[g]? = some (.cells cs t (0, 0)))) (n0 : Aside0 (g ≠ g0)) (e : W.heap[g]? = some (.cells cs t (0, 0)) → g ≠ g0 → w1.heap[g]? = some (.cells cs t (0, 0)) := by intro h n0; (repeat (first | (with_reducible first | refine blk_drewN ?_ _ | refine blk_drew ?_ | refine blk_alloc ?_ _) | refine blk_far ?_ n0 _)); exact h) : w1.heap[g]? = some (.cells cs t (0, 0)) := e h.out n0.out
theorem K2b_ {W w1 : World} {g t g0 g1 : Nat} {cs : Array Value} (h : Aside0 (W.heap[g]? = some (.cells cs t (0, 0)))) (n0 : Aside0 (g ≠ g0)) (n1 : Aside0 (g ≠ g1)) (e : W.heap[g]? = some (.cells cs t (0, 0)) → g ≠ g0 → g ≠ g1 → w1.heap[g]? = some (.cells cs t (0, 0)) := by intro h n0 n1; (repeat (first | (with_reducible first | refine blk_drewN ?_ _ | refine blk_drew ?_ | refine blk_alloc ?_ _) | refine blk_far ?_ n0 _ | refine blk_far ?_ n1 _)); exact h) : w1.heap[g]? = some (.cells cs t (0, 0)) := e h.out n0.out n1.out
end Go.Proofs.Ytoogchgoiciggaa.Q

namespace Go.Proofs.Ytoogchgoiciggaa.Q
open Go.RowKit Go.Proofs.YtoogchgoiciggaaW.PrintWords Go.Proofs.YtoogchgoiciggaaW.PrintLast Go.Proofs.YtoogchgoiciggaaW.PrintMore
attribute [local go_sem] max2_int min2_int max_two min_two max_three min_three max_four min_four   -- for this text's walks alone
set_option linter.unusedVariables false
set_option linter.unusedSimpArgs false
def item_named.f (a0 : ByteArray) : Option (Bool) := if a0.toList = ([] : List UInt8) then (some false) else (some (decide ((a0.size : Int) ≤ 16)))
set_option maxHeartbeats 8000000 in
set_option maxRecDepth 100000 in
theorem item_named.calls (a0 : ByteArray) (r : Bool) (w : World) (h : item_named.f a0 = some r) :
  Calls Try.prog 42 #[.string a0] w fun e w' => e = .returned (.bool r) ∧ Drawn0 w w' := by
 have H : (if a0.toList = ([] : List UInt8) then (some false) else (some (decide ((a0.size : Int) ≤ 16)))) = some r := h
 clear h
 by_cases c2 : a0.toList = ([] : List UInt8)
 rotate_left
 ·rw [if_neg c2] at H
  have c2b0 : (a0.toList == ([] : List UInt8)) = false := beq_eq_false_iff_ne.mpr c2
  have c2b1 : (a0.toList != ([] : List UInt8)) = true := bne_iff_ne.mpr c2
  obtain rfl := Option.some.inj H
  go_enter Try.func42, Try.ntmps42
  go_wp2
  go_ret
  exact ⟨by first | rfl | (simp; done) | (simp [*]; done), by repeat (first | exact Drawn0.refl _ | apply Drawn0.step)⟩
 rw [if_pos c2] at H
 have c2b0 : (a0.toList == ([] : List UInt8)) = true := beq_iff_eq.mpr c2
 have c2b1 : (a0.toList != ([] : List UInt8)) = false := bne_eq_false_iff_eq.mpr c2
 clear c2
 obtain rfl := Option.some.inj H
 go_enter Try.func42, Try.ntmps42
 go_wp2
 go_ret
 exact ⟨by first | rfl | (simp; done) | (simp [*]; done), by repeat (first | exact Drawn0.refl _ | apply Drawn0.step)⟩
def item_Right.f (a0_0 : ByteArray) (a0_1 : ByteArray) (a0_2 : ByteArray) (a0_3 : Bool) : Option (Bool) := (item_named.f a0_0).bind fun t102 => (if t102 = true then ((item_named.f a0_1).bind fun t103 => (if t103 = true then (if (a0_2.size : Int) ≤ 32 then (if a0_2.toList = ([] : List UInt8) then (some true) else (some (!a0_3))) else (some false)) else (some false))) else (some false))
set_option maxHeartbeats 8000000 in
set_option maxRecDepth 100000 in
theorem item_Right.calls (a0_0 : ByteArray) (a0_1 : ByteArray) (a0_2 : ByteArray) (a0_3 : Bool) (r : Bool) (w : World) (h : item_Right.f a0_0 a0_1 a0_2 a0_3 = some r) :
  Calls Try.prog 18 #[.agg #[.string a0_0, .string a0_1, .string a0_2, .bool a0_3]] w fun e w' => e = .returned (.bool r) ∧ Below w.heap.size w w' := by
 have hu23 := Try.underlying23
 have HB := Aside0.mk (Below.refl w.heap.size w)
 have H : ((item_named.f a0_0).bind fun t102 => (if t102 = true then ((item_named.f a0_1).bind fun t103 => (if t103 = true then (if (a0_2.size : Int) ≤ 32 then (if a0_2.toList = ([] : List UInt8) then (some true) else (some (!a0_3))) else (some false)) else (some false))) else (some false))) = some r := h
 clear h
 replace H := Option.bind_eq_some_iff.mp H
 obtain ⟨t102, A20, H⟩ := H
 replace H : (if t102 = true then ((item_named.f a0_1).bind fun t103 => (if t103 = true then (if (a0_2.size : Int) ≤ 32 then (if a0_2.toList = ([] : List UInt8) then (some true) else (some (!a0_3))) else (some false)) else (some false))) else (some false)) = some r := H
 have A2 := Aside0.mk A20
 clear A20
 by_cases c3 : t102 = true
 rotate_left
 ·replace c3 := Bool.eq_false_iff.mpr c3
  subst c3
  have H1 : (some false) = some r := by rw [if_neg (show ¬ (false = true) by decide)] at H; exact H
  clear H
  have H := H1
  clear H1
  obtain rfl := Option.some.inj H
  go_enter Try.func18, Try.ntmps18
  go_wp2_with (first | ((with_reducible refine gate_dst (N := 1) rfl ?_); refine Ka_ 1 #[.string a0_0, .string a0_1, .string a0_2, .bool a0_3] 23 ?_; intro gb101 hg w16 hbox hb; have BK101 := Aside0.mk (hbox); have GW101 := Kw_ HB hg; have GE101 := GW101; replace HB := Ks_ HB hb; clear hb hbox hg; obtain ⟨hcz17_0, hcz17_1, hcz17_2, hcz17_3, hfz17_0, hfz17_1, hfz17_2, hfz17_3⟩ := Ke4_ BK101.out) | ((with_reducible refine gate_callee (f := 42) rfl ?_); refine Kg_ (some 5) rfl rfl Try.func42 (by kernel_rfl) rfl #[.string a0_0] rfl ?_; (with_reducible refine (item_named.calls a0_0 false _ A2.out).mono ?_); rintro e w' ⟨rfl, ⟨nd, rfl⟩⟩; refine ⟨_, rfl, ?_⟩))
  go_ret
  exact ⟨Kh_, Kz_ HB GE101⟩
 subst c3
 have H1 : ((item_named.f a0_1).bind fun t103 => (if t103 = true then (if (a0_2.size : Int) ≤ 32 then (if a0_2.toList = ([] : List UInt8) then (some true) else (some (!a0_3))) else (some false)) else (some false))) = some r := by rw [if_pos rfl] at H; exact H
 clear H
 have H := H1
 clear H1
 replace H := Option.bind_eq_some_iff.mp H
 obtain ⟨t103, A40, H⟩ := H
 replace H : (if t103 = true then (if (a0_2.size : Int) ≤ 32 then (if a0_2.toList = ([] : List UInt8) then (some true) else (some (!a0_3))) else (some false)) else (some false)) = some r := H
 have A4 := Aside0.mk A40
 clear A40
 by_cases c5 : t103 = true
 rotate_left
 ·replace c5 := Bool.eq_false_iff.mpr c5
  subst c5
  have H1 : (some false) = some r := by rw [if_neg (show ¬ (false = true) by decide)] at H; exact H
  clear H
  have H := H1
  clear H1
  obtain rfl := Option.some.inj H
  go_enter Try.func18, Try.ntmps18
  go_wp2_with (first | ((with_reducible refine gate_dst (N := 1) rfl ?_); refine Ka_ 1 #[.string a0_0, .string a0_1, .string a0_2, .bool a0_3] 23 ?_; intro gb101 hg w14 hbox hb; have BK101 := Aside0.mk (hbox); have GW101 := Kw_ HB hg; have GE101 := GW101; replace HB := Ks_ HB hb; clear hb hbox hg; obtain ⟨hcz15_0, hcz15_1, hcz15_2, hcz15_3, hfz15_0, hfz15_1, hfz15_2, hfz15_3⟩ := Ke4_ BK101.out) | ((with_reducible refine gate_callee (f := 42) rfl ?_); refine Kg_ (some 5) rfl rfl Try.func42 (by kernel_rfl) rfl #[.string a0_0] rfl ?_; (with_reducible refine (item_named.calls a0_0 true _ A2.out).mono ?_); rintro e w' ⟨rfl, ⟨nd, rfl⟩⟩; refine ⟨_, rfl, ?_⟩) | (go_at_call 42; (with_reducible refine (item_named.calls a0_1 false _ A4.out).mono ?_); rintro e w' ⟨rfl, ⟨nd, rfl⟩⟩))
  go_ret
  exact ⟨Kh_, Kz_ HB GE101⟩
 subst c5
 have H1 : (if (a0_2.size : Int) ≤ 32 then (if a0_2.toList = ([] : List UInt8) then (some true) else (some (!a0_3))) else (some false)) = some r := by rw [if_pos rfl] at H; exact H
 clear H
 have H := H1
 clear H1
 by_cases c6 : (a0_2.size : Int) ≤ 32
 rotate_left
 ·rw [if_neg c6] at H
  have c6b0 : decide ((a0_2.size : Int) ≤ 32) = false := decide_eq_false c6
  have c6b1 : decide (a0_2.size ≤ 32) = false := decide_eq_false (by omega)
  clear c6
  obtain rfl := Option.some.inj H
  go_enter Try.func18, Try.ntmps18
  go_wp2_with (first | ((with_reducible refine gate_dst (N := 1) rfl ?_); refine Ka_ 1 #[.string a0_0, .string a0_1, .string a0_2, .bool a0_3] 23 ?_; intro gb101 hg w12 hbox hb; have BK101 := Aside0.mk (hbox); have GW101 := Kw_ HB hg; have GE101 := GW101; replace HB := Ks_ HB hb; clear hb hbox hg; obtain ⟨hcz13_0, hcz13_1, hcz13_2, hcz13_3, hfz13_0, hfz13_1, hfz13_2, hfz13_3⟩ := Ke4_ BK101.out) | ((with_reducible refine gate_callee (f := 42) rfl ?_); refine Kg_ (some 5) rfl rfl Try.func42 (by kernel_rfl) rfl #[.string a0_0] rfl ?_; (with_reducible refine (item_named.calls a0_0 true _ A2.out).mono ?_); rintro e w' ⟨rfl, ⟨nd, rfl⟩⟩; refine ⟨_, rfl, ?_⟩) | (go_at_call 42; (with_reducible refine (item_named.calls a0_1 true _ A4.out).mono ?_); rintro e w' ⟨rfl, ⟨nd, rfl⟩⟩))
  go_ret
  exact ⟨Kh_, Kz_ HB GE101⟩
 rw [if_pos c6] at H
 have c6b0 : decide ((a0_2.size : Int) ≤ 32) = true := decide_eq_true c6
 have c6b1 : decide (a0_2.size ≤ 32) = true := decide_eq_true (by omega)
 clear c6
 by_cases c7 : a0_2.toList = ([] : List UInt8)
 rotate_left
 ·rw [if_neg c7] at H
  have c7b0 : (a0_2.toList == ([] : List UInt8)) = false := beq_eq_false_iff_ne.mpr c7
  have c7b1 : (a0_2.toList != ([] : List UInt8)) = true := bne_iff_ne.mpr c7
  obtain rfl := Option.some.inj H
  go_enter Try.func18, Try.ntmps18
  go_wp2_with (first | ((with_reducible refine gate_dst (N := 1) rfl ?_); refine Ka_ 1 #[.string a0_0, .string a0_1, .string a0_2, .bool a0_3] 23 ?_; intro gb101 hg w10 hbox hb; have BK101 := Aside0.mk (hbox); have GW101 := Kw_ HB hg; have GE101 := GW101; replace HB := Ks_ HB hb; clear hb hbox hg; obtain ⟨hcz11_0, hcz11_1, hcz11_2, hcz11_3, hfz11_0, hfz11_1, hfz11_2, hfz11_3⟩ := Ke4_ BK101.out) | ((with_reducible refine gate_callee (f := 42) rfl ?_); refine Kg_ (some 5) rfl rfl Try.func42 (by kernel_rfl) rfl #[.string a0_0] rfl ?_; (with_reducible refine (item_named.calls a0_0 true _ A2.out).mono ?_); rintro e w' ⟨rfl, ⟨nd, rfl⟩⟩; refine ⟨_, rfl, ?_⟩) | (go_at_call 42; (with_reducible refine (item_named.calls a0_1 true _ A4.out).mono ?_); rintro e w' ⟨rfl, ⟨nd, rfl⟩⟩))
  go_ret
  exact ⟨Kh_, Kz_ HB GE101⟩
 rw [if_pos c7] at H
 have c7b0 : (a0_2.toList == ([] : List UInt8)) = true := beq_iff_eq.mpr c7
 have c7b1 : (a0_2.toList != ([] : List UInt8)) = false := bne_eq_false_iff_eq.mpr c7
 clear c7
 obtain rfl := Option.some.inj H
 go_enter Try.func18, Try.ntmps18
 go_wp2_with (first | ((with_reducible refine gate_dst (N := 1) rfl ?_); refine Ka_ 1 #[.string a0_0, .string a0_1, .string a0_2, .bool a0_3] 23 ?_; intro gb101 hg w8 hbox hb; have BK101 := Aside0.mk (hbox); have GW101 := Kw_ HB hg; have GE101 := GW101; replace HB := Ks_ HB hb; clear hb hbox hg; obtain ⟨hcz9_0, hcz9_1, hcz9_2, hcz9_3, hfz9_0, hfz9_1, hfz9_2, hfz9_3⟩ := Ke4_ BK101.out) | ((with_reducible refine gate_callee (f := 42) rfl ?_); refine Kg_ (some 5) rfl rfl Try.func42 (by kernel_rfl) rfl #[.string a0_0] rfl ?_; (with_reducible refine (item_named.calls a0_0 true _ A2.out).mono ?_); rintro e w' ⟨rfl, ⟨nd, rfl⟩⟩; refine ⟨_, rfl, ?_⟩) | (go_at_call 42; (with_reducible refine (item_named.calls a0_1 true _ A4.out).mono ?_); rintro e w' ⟨rfl, ⟨nd, rfl⟩⟩))
 go_ret
 exact ⟨Kh_, Kz_ HB GE101⟩
theorem eqA28 (d : Nat) (w : World) (x0 y0 : Int) (x1 y1 : Int) (x2 y2 : Int) (x3 y3 : Int) :
  (Op.equalIn (d + 2) 28 (.agg #[.int .u64 x0, .int .u64 x1, .int .u64 x2, .int .u64 x3]) (.agg #[.int .u64 y0, .int .u64 y1, .int .u64 y2, .int .u64 y3])).run Try.prog w = .ok (x0 == y0 && (x1 == y1 && (x2 == y2 && (x3 == y3)))) w := by
 have hu := Try.underlying28
 have hs : (sizeOf 26).run Try.prog w = .ok 1 w := by go_simp
 have hp : ∀ (xs : Array Value) (i : Nat) (v : Value), xs[i]? = some v → (part 26 xs i).run Try.prog w = .ok v w := by
  intro xs i v h
  unfold part
  go_simp
 have hE : ∀ a b : Int, (Op.equalIn (d + 1) 26 (.int .u64 a) (.int .u64 b)).run Try.prog w = .ok (a == b) w := by intro a b; go_simp
 obtain ⟨X, hX⟩ : ∃ X, X = (#[.int .u64 x0, .int .u64 x1, .int .u64 x2, .int .u64 x3] : Array Value) := ⟨_, rfl⟩
 obtain ⟨Y, hY⟩ : ∃ Y, Y = (#[.int .u64 y0, .int .u64 y1, .int .u64 y2, .int .u64 y3] : Array Value) := ⟨_, rfl⟩
 rw [← hX, ← hY]
 have a0 : (part 26 X 0).run Try.prog w = .ok (.int .u64 x0) w := by rw [hX]; exact hp _ 0 _ rfl
 have b0 : (part 26 Y 0).run Try.prog w = .ok (.int .u64 y0) w := by rw [hY]; exact hp _ 0 _ rfl
 have a1 : (part 26 X 1).run Try.prog w = .ok (.int .u64 x1) w := by rw [hX]; exact hp _ 1 _ rfl
 have b1 : (part 26 Y 1).run Try.prog w = .ok (.int .u64 y1) w := by rw [hY]; exact hp _ 1 _ rfl
 have a2 : (part 26 X 2).run Try.prog w = .ok (.int .u64 x2) w := by rw [hX]; exact hp _ 2 _ rfl
 have b2 : (part 26 Y 2).run Try.prog w = .ok (.int .u64 y2) w := by rw [hY]; exact hp _ 2 _ rfl
 have a3 : (part 26 X 3).run Try.prog w = .ok (.int .u64 x3) w := by rw [hX]; exact hp _ 3 _ rfl
 have b3 : (part 26 Y 3).run Try.prog w = .ok (.int .u64 y3) w := by rw [hY]; exact hp _ 3 _ rfl
 clear hX hY hp
 obtain ⟨m, hm⟩ : ∃ m, d + 1 = m := ⟨_, rfl⟩
 rw [hm] at hE
 rw [show d + 2 = m + 1 by omega]
 clear hm
 unfold Op.equalIn
 simp only [Sem.run_bind, run_underlying hu, Result.andThen_ok, hs, Nat.mul_one]
 have hfor : ∀ (f : Nat → Option Bool × Unit → Sem (ForInStep (Option Bool × Unit))), forIn (m := Sem) [:4] ((none, ()) : Option Bool × Unit) f = forIn (m := Sem) [0, 1, 2, 3] ((none, ()) : Option Bool × Unit) f := by
  intro f
  simp
  rfl
 rw [hfor]
 simp only [List.forIn_cons, List.forIn_nil, Sem.run_bind, a0, b0, a1, b1, a2, b2, a3, b3, Result.andThen_ok, hE]
 by_cases h0 : x0 = y0 <;> by_cases h1 : x1 = y1 <;> by_cases h2 : x2 = y2 <;> by_cases h3 : x3 = y3 <;> simp [Sem.run_bind, a0, b0, a1, b1, a2, b2, a3, b3, hE, h0, h1, h2, h3]
theorem ixA28_0 (x0 : Int) (x1 : Int) (x2 : Int) (x3 : Int) (W : World) :
  (Instr.index 28 (.agg #[.int .u64 x0, .int .u64 x1, .int .u64 x2, .int .u64 x3]) (.int .i64 0)).run Try.prog W = .ok (.int .u64 x0) W := by
 have hu := Try.underlying28
 have hs : (sizeOf 26).run Try.prog W = .ok 1 W := by go_simp
 have hp : (part 26 #[.int .u64 x0, .int .u64 x1, .int .u64 x2, .int .u64 x3] 0).run Try.prog W = .ok (.int .u64 x0) W := by
  unfold part
  go_simp
 simp [Instr.index, asIntOf, Sem.run_bind, run_underlying hu, hs, hp]
theorem ixA28_1 (x0 : Int) (x1 : Int) (x2 : Int) (x3 : Int) (W : World) :
  (Instr.index 28 (.agg #[.int .u64 x0, .int .u64 x1, .int .u64 x2, .int .u64 x3]) (.int .i64 1)).run Try.prog W = .ok (.int .u64 x1) W := by
 have hu := Try.underlying28
 have hs : (sizeOf 26).run Try.prog W = .ok 1 W := by go_simp
 have hp : (part 26 #[.int .u64 x0, .int .u64 x1, .int .u64 x2, .int .u64 x3] 1).run Try.prog W = .ok (.int .u64 x1) W := by
  unfold part
  go_simp
 simp [Instr.index, asIntOf, Sem.run_bind, run_underlying hu, hs, hp]
theorem ixA28_2 (x0 : Int) (x1 : Int) (x2 : Int) (x3 : Int) (W : World) :
  (Instr.index 28 (.agg #[.int .u64 x0, .int .u64 x1, .int .u64 x2, .int .u64 x3]) (.int .i64 2)).run Try.prog W = .ok (.int .u64 x2) W := by
 have hu := Try.underlying28
 have hs : (sizeOf 26).run Try.prog W = .ok 1 W := by go_simp
 have hp : (part 26 #[.int .u64 x0, .int .u64 x1, .int .u64 x2, .int .u64 x3] 2).run Try.prog W = .ok (.int .u64 x2) W := by
  unfold part
  go_simp
 simp [Instr.index, asIntOf, Sem.run_bind, run_underlying hu, hs, hp]
theorem ixA28_3 (x0 : Int) (x1 : Int) (x2 : Int) (x3 : Int) (W : World) :
  (Instr.index 28 (.agg #[.int .u64 x0, .int .u64 x1, .int .u64 x2, .int .u64 x3]) (.int .i64 3)).run Try.prog W = .ok (.int .u64 x3) W := by
 have hu := Try.underlying28
 have hs : (sizeOf 26).run Try.prog W = .ok 1 W := by go_simp
 have hp : (part 26 #[.int .u64 x0, .int .u64 x1, .int .u64 x2, .int .u64 x3] 3).run Try.prog W = .ok (.int .u64 x3) W := by
  unfold part
  go_simp
 simp [Instr.index, asIntOf, Sem.run_bind, run_underlying hu, hs, hp]
def vec_Join.f (a0_0 a0_1 a0_2 a0_3 a1_0 a1_1 a1_2 a1_3 : Int) : Option (Int × Int × Int × Int) := some (mx a0_0 a1_0, mx a0_1 a1_1, mx a0_2 a1_2, mx a0_3 a1_3)
theorem vec_Join.pick (a b : Int) (w : World) :
  Calls Try.prog 81 #[.int .u64 a, .int .u64 b] w fun e w' => e = .returned (.int .u64 (mx a b)) ∧ w' = w := by
 go_enter Try.func81, Try.ntmps81
 go_wp2
 all_goals (go_ret; refine ⟨?_, rfl⟩; unfold mx; by_cases h2 : a < b <;> first | (rw [if_pos h2]; rfl) | (rw [if_neg h2]; rfl) | omega | (rw [if_pos h2, show a = b by omega]; rfl) | (rw [if_neg h2, show a = b by omega]; rfl))
theorem vec_Join.boxes3 (w : World) (xs ys zs : Array Value) (t : TypeId) (W : World) (h : ((w.alloc (.cells xs t)).alloc (.cells ys t)).alloc (.cells zs t) = W) :
  W.heap[w.heap.size]? = some (.cells xs t (0,0)) ∧ W.heap[w.heap.size+1]? = some (.cells ys t (0,0)) ∧ W.heap[w.heap.size+1+1]? = some (.cells zs t (0,0)) ∧ Below w.heap.size w W := by
 subst h
 have s1 : (w.alloc (.cells xs t)).heap.size = w.heap.size + 1 := by simp [World.alloc, -World.alloc_eq]
 have s2 : ((w.alloc (.cells xs t)).alloc (.cells ys t)).heap.size = w.heap.size + 1 + 1 := by simp [World.alloc, -World.alloc_eq]
 refine ⟨blk_alloc (blk_alloc (blk_new _ _) _) _, ?_, ?_, below_alloc (below_alloc (below_alloc (Below.refl _ _) _) _) _⟩
 ·rw [← s1]; exact blk_alloc (blk_new _ _) _
 ·rw [← s2]; exact blk_new _ _
set_option maxHeartbeats 8000000 in
set_option maxRecDepth 100000 in
theorem vec_Join.each (a0_0 a0_1 a0_2 a0_3 a1_0 a1_1 a1_2 a1_3 : Int) (w : World) :
  Calls Try.prog 80 #[.agg #[.int .u64 a0_0, .int .u64 a0_1, .int .u64 a0_2, .int .u64 a0_3], .agg #[.int .u64 a1_0, .int .u64 a1_1, .int .u64 a1_2, .int .u64 a1_3], .func (.func 81) #[] #[]] w fun e w' => e = .returned (.agg #[.int .u64 (mx a0_0 a1_0), .int .u64 (mx a0_1 a1_1), .int .u64 (mx a0_2 a1_2), .int .u64 (mx a0_3 a1_3)]) ∧ Below w.heap.size w w' := by
 have hu := Try.underlying28
 have hu2 := Try.underlying26
 go_enter Try.func80, Try.ntmps80
 go_wp2
 generalize hW : (((w.alloc (Obj.cells #[.int .u64 a0_0, .int .u64 a0_1, .int .u64 a0_2, .int .u64 a0_3] 28)).alloc
   (Obj.cells #[.int .u64 a1_0, .int .u64 a1_1, .int .u64 a1_2, .int .u64 a1_3] 28)).alloc (Obj.cells _ 28)) = W0
 obtain ⟨hA, hB, hC, HB⟩ := vec_Join.boxes3 _ _ _ _ _ _ hW
 replace HB := Aside0.mk HB
 clear hW
 obtain ⟨B0, hB0⟩ : ∃ B0, B0 = w.heap.size := ⟨_, rfl⟩
 obtain ⟨B1, hB1⟩ : ∃ B1, B1 = w.heap.size + 1 := ⟨_, rfl⟩
 obtain ⟨B2, hB2⟩ : ∃ B2, B2 = w.heap.size + 1 + 1 := ⟨_, rfl⟩
 rw [← hB2, ← hB1, ← hB0]
 rw [← hB0] at hA
 rw [← hB1] at hB
 rw [← hB2] at hC
 have g01 : B0 ≠ B1 := by omega
 have g02 : B0 ≠ B2 := by omega
 have GB := Aside0.mk (show w.heap.size ≤ B0 by omega)
 have GC := Aside0.mk (show w.heap.size ≤ B2 by omega)
 clear hB0 hB1 hB2
 replace hA := Aside0.mk hA
 replace hB := Aside0.mk hB
 replace hC := Aside0.mk hC
 refine wp_loop_rounds 5 ?_
 rw [rounds_succ]
 have ca := (blk_cell hA.out 0).trans rfl
 have cb := (blk_cell hB.out 0).trans rfl
 go_wp2
 go_still_tail 9, (by kernel_rfl)
 still_call (vec_Join.pick _ _ _)
 refine wpStill_nil ?_
 change wpList _ _ _ _ _ W0.drew
 clear ca cb
 have fa : W0.drew.frozen? ⟨B0, 0, none⟩ = false := blk_frozen hA.out 0
 have ca : W0.drew.cell? ⟨B0, 0, none⟩ = some (.int .u64 a0_0) := blk_cell hA.out 0
 go_wp2
 have hA1 := Aside0.mk (blk_drew (blk_put hA.out 0 (.int .u64 (mx a0_0 a1_0)) (cs' := #[.int .u64 (mx a0_0 a1_0), .int .u64 a0_1, .int .u64 a0_2, .int .u64 a0_3]) rfl))
 have hB1 := Aside0.mk (blk_drew (blk_far hB.out (p := ⟨B0, 0, none⟩) (Ne.symm g01) (.int .u64 (mx a0_0 a1_0))))
 have hC1 := Aside0.mk (blk_drew (blk_far hC.out (p := ⟨B0, 0, none⟩) (Ne.symm g02) (.int .u64 (mx a0_0 a1_0))))
 have HB1 := Aside0.mk (below_drew1 (below_set (j := 0) (v := .int .u64 (mx a0_0 a1_0)) HB.out GB.out))
 clear hA hB hC HB ca fa
 generalize (W0.setCell ⟨B0, 0, none⟩ (.int .u64 (mx a0_0 a1_0))).drew = W1 at *
 clear W0
 have hA := hA1
 have hB := hB1
 have hC := hC1
 have HB := HB1
 clear hA1 hB1 hC1 HB1
 rw [rounds_succ]
 have ca := (blk_cell hA.out 1).trans rfl
 have cb := (blk_cell hB.out 1).trans rfl
 go_wp2
 go_still_tail 9, (by kernel_rfl)
 still_call (vec_Join.pick _ _ _)
 refine wpStill_nil ?_
 change wpList _ _ _ _ _ W1.drew
 clear ca cb
 have fa : W1.drew.frozen? ⟨B0, 1, none⟩ = false := blk_frozen hA.out 1
 have ca : W1.drew.cell? ⟨B0, 1, none⟩ = some (.int .u64 a0_1) := blk_cell hA.out 1
 go_wp2
 have hA1 := Aside0.mk (blk_drew (blk_put hA.out 1 (.int .u64 (mx a0_1 a1_1)) (cs' := #[.int .u64 (mx a0_0 a1_0), .int .u64 (mx a0_1 a1_1), .int .u64 a0_2, .int .u64 a0_3]) rfl))
 have hB1 := Aside0.mk (blk_drew (blk_far hB.out (p := ⟨B0, 1, none⟩) (Ne.symm g01) (.int .u64 (mx a0_1 a1_1))))
 have hC1 := Aside0.mk (blk_drew (blk_far hC.out (p := ⟨B0, 1, none⟩) (Ne.symm g02) (.int .u64 (mx a0_1 a1_1))))
 have HB1 := Aside0.mk (below_drew1 (below_set (j := 1) (v := .int .u64 (mx a0_1 a1_1)) HB.out GB.out))
 clear hA hB hC HB ca fa
 generalize (W1.setCell ⟨B0, 1, none⟩ (.int .u64 (mx a0_1 a1_1))).drew = W2 at *
 clear W1
 have hA := hA1
 have hB := hB1
 have hC := hC1
 have HB := HB1
 clear hA1 hB1 hC1 HB1
 rw [rounds_succ]
 have ca := (blk_cell hA.out 2).trans rfl
 have cb := (blk_cell hB.out 2).trans rfl
 go_wp2
 go_still_tail 9, (by kernel_rfl)
 still_call (vec_Join.pick _ _ _)
 refine wpStill_nil ?_
 change wpList _ _ _ _ _ W2.drew
 clear ca cb
 have fa : W2.drew.frozen? ⟨B0, 2, none⟩ = false := blk_frozen hA.out 2
 have ca : W2.drew.cell? ⟨B0, 2, none⟩ = some (.int .u64 a0_2) := blk_cell hA.out 2
 go_wp2
 have hA1 := Aside0.mk (blk_drew (blk_put hA.out 2 (.int .u64 (mx a0_2 a1_2)) (cs' := #[.int .u64 (mx a0_0 a1_0), .int .u64 (mx a0_1 a1_1), .int .u64 (mx a0_2 a1_2), .int .u64 a0_3]) rfl))
 have hB1 := Aside0.mk (blk_drew (blk_far hB.out (p := ⟨B0, 2, none⟩) (Ne.symm g01) (.int .u64 (mx a0_2 a1_2))))
 have hC1 := Aside0.mk (blk_drew (blk_far hC.out (p := ⟨B0, 2, none⟩) (Ne.symm g02) (.int .u64 (mx a0_2 a1_2))))
 have HB1 := Aside0.mk (below_drew1 (below_set (j := 2) (v := .int .u64 (mx a0_2 a1_2)) HB.out GB.out))
 clear hA hB hC HB ca fa
 generalize (W2.setCell ⟨B0, 2, none⟩ (.int .u64 (mx a0_2 a1_2))).drew = W3 at *
 clear W2
 have hA := hA1
 have hB := hB1
 have hC := hC1
 have HB := HB1
 clear hA1 hB1 hC1 HB1
 rw [rounds_succ]
 have ca := (blk_cell hA.out 3).trans rfl
 have cb := (blk_cell hB.out 3).trans rfl
 go_wp2
 go_still_tail 9, (by kernel_rfl)
 still_call (vec_Join.pick _ _ _)
 refine wpStill_nil ?_
 change wpList _ _ _ _ _ W3.drew
 clear ca cb
 have fa : W3.drew.frozen? ⟨B0, 3, none⟩ = false := blk_frozen hA.out 3
 have ca : W3.drew.cell? ⟨B0, 3, none⟩ = some (.int .u64 a0_3) := blk_cell hA.out 3
 go_wp2
 have hA1 := Aside0.mk (blk_drew (blk_put hA.out 3 (.int .u64 (mx a0_3 a1_3)) (cs' := #[.int .u64 (mx a0_0 a1_0), .int .u64 (mx a0_1 a1_1), .int .u64 (mx a0_2 a1_2), .int .u64 (mx a0_3 a1_3)]) rfl))
 have hB1 := Aside0.mk (blk_drew (blk_far hB.out (p := ⟨B0, 3, none⟩) (Ne.symm g01) (.int .u64 (mx a0_3 a1_3))))
 have hC1 := Aside0.mk (blk_drew (blk_far hC.out (p := ⟨B0, 3, none⟩) (Ne.symm g02) (.int .u64 (mx a0_3 a1_3))))
 have HB1 := Aside0.mk (below_drew1 (below_set (j := 3) (v := .int .u64 (mx a0_3 a1_3)) HB.out GB.out))
 clear hA hB hC HB ca fa
 generalize (W3.setCell ⟨B0, 3, none⟩ (.int .u64 (mx a0_3 a1_3))).drew = W4 at *
 clear W3
 have hA := hA1
 have hB := hB1
 have hC := hC1
 have HB := HB1
 clear hA1 hB1 hC1 HB1
 rw [rounds_succ]
 have c0 := (blk_cell hA.out 0).trans rfl
 have c1 := (blk_cell hA.out 1).trans rfl
 have c2 := (blk_cell hA.out 2).trans rfl
 have c3 := (blk_cell hA.out 3).trans rfl
 have f0 := blk_frozen hC.out 0
 have f1 := blk_frozen hC.out 1
 have f2 := blk_frozen hC.out 2
 have f3 := blk_frozen hC.out 3
 have d0 := (blk_cell hC.out 0).trans rfl
 have d1 := (blk_cell hC.out 1).trans rfl
 have d2 := (blk_cell hC.out 2).trans rfl
 have d3 := (blk_cell hC.out 3).trans rfl
 go_wp2
 clear c0 c1 c2 c3 d0 d1 d2 d3 f0 f1 f2 f3
 have hC1 := Aside0.mk (blk_put (blk_put (blk_put (blk_put hC.out 0 (.int .u64 (mx a0_0 a1_0)) rfl) 1 (.int .u64 (mx a0_1 a1_1)) rfl) 2 (.int .u64 (mx a0_2 a1_2)) rfl) 3 (.int .u64 (mx a0_3 a1_3)) (cs' := #[.int .u64 (mx a0_0 a1_0), .int .u64 (mx a0_1 a1_1), .int .u64 (mx a0_2 a1_2), .int .u64 (mx a0_3 a1_3)]) rfl)
 have HB1 := Aside0.mk (below_set (j := 3) (v := .int .u64 (mx a0_3 a1_3)) (below_set (j := 2) (v := .int .u64 (mx a0_2 a1_2)) (below_set (j := 1) (v := .int .u64 (mx a0_1 a1_1)) (below_set (j := 0) (v := .int .u64 (mx a0_0 a1_0)) HB.out GC.out) GC.out) GC.out) GC.out)
 clear hA hB hC HB
 generalize (((W4.setCell ⟨B2, 0, none⟩ (.int .u64 (mx a0_0 a1_0))).setCell ⟨B2, 1, none⟩ (.int .u64 (mx a0_1 a1_1))).setCell ⟨B2, 2, none⟩ (.int .u64 (mx a0_2 a1_2))).setCell ⟨B2, 3, none⟩ (.int .u64 (mx a0_3 a1_3)) = W5 at *
 clear W4
 have d0 := (blk_cell hC1.out 0).trans rfl
 have d1 := (blk_cell hC1.out 1).trans rfl
 have d2 := (blk_cell hC1.out 2).trans rfl
 have d3 := (blk_cell hC1.out 3).trans rfl
 refine bodyPost_ret (v := .agg #[.int .u64 (mx a0_0 a1_0), .int .u64 (mx a0_1 a1_1), .int .u64 (mx a0_2 a1_2), .int .u64 (mx a0_3 a1_3)]) (by simp [results, Try.results80, go_sem, hu, hu2, d0, d1, d2, d3]) rfl ⟨rfl, HB1.out⟩
theorem vec_Join.calls (a0_0 a0_1 a0_2 a0_3 a1_0 a1_1 a1_2 a1_3 r1 r2 r3 r4 : Int) (w : World) (h : vec_Join.f a0_0 a0_1 a0_2 a0_3 a1_0 a1_1 a1_2 a1_3 = some (r1, r2, r3, r4)) :
  Calls Try.prog 78 #[.agg #[.int .u64 a0_0, .int .u64 a0_1, .int .u64 a0_2, .int .u64 a0_3], .agg #[.int .u64 a1_0, .int .u64 a1_1, .int .u64 a1_2, .int .u64 a1_3]] w fun e w' => e = .returned (.agg #[.int .u64 r1, .int .u64 r2, .int .u64 r3, .int .u64 r4]) ∧ Below w.heap.size w w' := by
 simp only [vec_Join.f, Option.some.injEq, Prod.mk.injEq] at h
 obtain ⟨rfl, rfl, rfl, rfl⟩ := h
 have hmf : ∀ (fn : Fn) (first cap : Array Value) (w : World), (Instr.makeFunc fn first cap).run Try.prog w = .ok (.func fn first cap) w := fun _ _ _ _ => rfl
 go_enter Try.func78, Try.ntmps78
 go_wp2_with (go_at_call 80; refine (vec_Join.each _ _ _ _ _ _ _ _ _).mono ?_; rintro e w1 ⟨rfl, hb⟩; have hX := vec_Join.boxes3 w #[.int .u64 a0_0, .int .u64 a0_1, .int .u64 a0_2, .int .u64 a0_3] #[.int .u64 a1_0, .int .u64 a1_1, .int .u64 a1_2, .int .u64 a1_3] #[.int .u64 0, .int .u64 0, .int .u64 0, .int .u64 0] 28 _ rfl; have hC := Aside0.mk (blk_below hX.2.2.1 hb); have HB := Aside0.mk (below_step hX.2.2.2 hb); clear hX; clear hb; have f0 := blk_frozen hC.out 0; have f1 := blk_frozen hC.out 1; have f2 := blk_frozen hC.out 2; have f3 := blk_frozen hC.out 3; have d0 := (blk_cell hC.out 0).trans rfl; have d1 := (blk_cell hC.out 1).trans rfl; have d2 := (blk_cell hC.out 2).trans rfl; have d3 := (blk_cell hC.out 3).trans rfl)
 clear d0 d1 d2 d3 f0 f1 f2 f3
 have GC : w.heap.size ≤ w.heap.size + 1 + 1 := by omega
 have hC1 := Aside0.mk (blk_put (blk_put (blk_put (blk_put hC.out 0 (.int .u64 (mx a0_0 a1_0)) rfl) 1 (.int .u64 (mx a0_1 a1_1)) rfl) 2 (.int .u64 (mx a0_2 a1_2)) rfl) 3 (.int .u64 (mx a0_3 a1_3)) (cs' := #[.int .u64 (mx a0_0 a1_0), .int .u64 (mx a0_1 a1_1), .int .u64 (mx a0_2 a1_2), .int .u64 (mx a0_3 a1_3)]) rfl)
 have HB1 := Aside0.mk (below_set (j := 3) (v := .int .u64 (mx a0_3 a1_3)) (below_set (j := 2) (v := .int .u64 (mx a0_2 a1_2)) (below_set (j := 1) (v := .int .u64 (mx a0_1 a1_1)) (below_set (j := 0) (v := .int .u64 (mx a0_0 a1_0)) HB.out GC) GC) GC) GC)
 clear hC HB
 generalize (((w1.setCell ⟨w.heap.size + 1 + 1, 0, none⟩ (.int .u64 (mx a0_0 a1_0))).setCell ⟨w.heap.size + 1 + 1, 1, none⟩ (.int .u64 (mx a0_1 a1_1))).setCell ⟨w.heap.size + 1 + 1, 2, none⟩ (.int .u64 (mx a0_2 a1_2))).setCell ⟨w.heap.size + 1 + 1, 3, none⟩ (.int .u64 (mx a0_3 a1_3)) = W5 at *
 have hu := Try.underlying28
 have hu2 := Try.underlying26
 have d0 := (blk_cell hC1.out 0).trans rfl
 have d1 := (blk_cell hC1.out 1).trans rfl
 have d2 := (blk_cell hC1.out 2).trans rfl
 have d3 := (blk_cell hC1.out 3).trans rfl
 refine bodyPost_ret (v := .agg #[.int .u64 (mx a0_0 a1_0), .int .u64 (mx a0_1 a1_1), .int .u64 (mx a0_2 a1_2), .int .u64 (mx a0_3 a1_3)]) (by simp [results, Try.results78, go_sem, hu, hu2, d0, d1, d2, d3]) rfl ⟨rfl, HB1.out⟩
end Go.Proofs.Ytoogchgoiciggaa.Q

namespace Go.Proofs.Ytoogchgoiciggaa.Q
open Go.RowKit Go.Proofs.YtoogchgoiciggaaW.PrintWords Go.Proofs.YtoogchgoiciggaaW.PrintLast Go.Proofs.YtoogchgoiciggaaW.PrintMore
attribute [local go_sem] max2_int min2_int max_two min_two max_three min_three max_four min_four   -- for this text's walks alone
set_option linter.unusedVariables false
set_option linter.unusedSimpArgs false
attribute [local go_sem] ixA28_0 ixA28_1 ixA28_2 ixA28_3   -- for this text's walks alone
attribute [local go_sem high] eqA28
def vec_Leq.f (a0_0 : Int) (a0_1 : Int) (a0_2 : Int) (a0_3 : Int) (a1_0 : Int) (a1_1 : Int) (a1_2 : Int) (a1_3 : Int) : Option (Bool) := (vec_Join.f a0_0 a0_1 a0_2 a0_3 a1_0 a1_1 a1_2 a1_3).bind fun bt106 => (some (bt106.1 == a1_0 && (bt106.2.1 == a1_1 && (bt106.2.2.1 == a1_2 && (bt106.2.2.2 == a1_3)))))
set_option maxHeartbeats 8000000 in
set_option maxRecDepth 100000 in
theorem vec_Leq.calls (a0_0 : Int) (a0_1 : Int) (a0_2 : Int) (a0_3 : Int) (a1_0 : Int) (a1_1 : Int) (a1_2 : Int) (a1_3 : Int) (r : Bool) (w : World) (h : vec_Leq.f a0_0 a0_1 a0_2 a0_3 a1_0 a1_1 a1_2 a1_3 = some r) :
  Calls Try.prog 75 #[.agg #[.int .u64 a0_0, .int .u64 a0_1, .int .u64 a0_2, .int .u64 a0_3], .agg #[.int .u64 a1_0, .int .u64 a1_1, .int .u64 a1_2, .int .u64 a1_3]] w fun e w' => e = .returned (.bool r) ∧ Below w.heap.size w w' := by
 have hu28 := Try.underlying28
 have HB := Aside0.mk (Below.refl w.heap.size w)
 have H : ((vec_Join.f a0_0 a0_1 a0_2 a0_3 a1_0 a1_1 a1_2 a1_3).bind fun bt106 => (some (bt106.1 == a1_0 && (bt106.2.1 == a1_1 && (bt106.2.2.1 == a1_2 && (bt106.2.2.2 == a1_3)))))) = some r := h
 clear h
 replace H := Option.bind_eq_some_iff.mp H
 obtain ⟨⟨t106, t107, t108, t109⟩, A30, H⟩ := H
 replace H : (some (t106 == a1_0 && (t107 == a1_1 && (t108 == a1_2 && (t109 == a1_3))))) = some r := H
 have A3 := Aside0.mk A30
 clear A30
 obtain rfl := Option.some.inj H
 go_enter Try.func75, Try.ntmps75
 try go_wp2_with (first | ((with_reducible refine gate_dst (N := 2) rfl ?_); refine Ka_ 2 #[.int .u64 a0_0, .int .u64 a0_1, .int .u64 a0_2, .int .u64 a0_3] 28 ?_; intro gb104 hg w4 hbox hb; have BK104 := Aside0.mk (hbox); have GW104 := Kw_ HB hg; have GE104 := GW104; replace HB := Ks_ HB hb; clear hb hbox hg) | ((with_reducible refine gate_dst (N := 3) rfl ?_); refine Ka_ 3 #[.int .u64 a1_0, .int .u64 a1_1, .int .u64 a1_2, .int .u64 a1_3] 28 ?_; intro gb105 hg w5 hbox hb; have BK105 := Aside0.mk (hbox); have GW105 := Kw_ HB hg; have GE105 := GW105; have NB104_105 := Kl_ BK104 hg; have NB105_104 := Kr_ BK104 hg; replace BK104 := Kb_ BK104 hb; replace HB := Ks_ HB hb; clear hb hbox hg))
 replace BK104 := Kd_ BK104
 replace BK105 := Kd_ BK105
 replace HB := Aside0.mk (below_drew1 HB.out)
 refine start_ (n := 6) (S := fun w' => w'.cell? ⟨gb104, 0, none⟩ = some (.int .u64 a0_0) ∧ w'.cell? ⟨gb104, 1, none⟩ = some (.int .u64 a0_1) ∧ w'.cell? ⟨gb104, 2, none⟩ = some (.int .u64 a0_2) ∧ w'.cell? ⟨gb104, 3, none⟩ = some (.int .u64 a0_3) ∧ w'.cell? ⟨gb105, 0, none⟩ = some (.int .u64 a1_0) ∧ w'.cell? ⟨gb105, 1, none⟩ = some (.int .u64 a1_1) ∧ w'.cell? ⟨gb105, 2, none⟩ = some (.int .u64 a1_2) ∧ w'.cell? ⟨gb105, 3, none⟩ = some (.int .u64 a1_3)) (ds := []) (mB_ 6 0) (by kernel_rfl) rfl rfl ⟨Km_ BK104 0, Km_ BK104 1, Km_ BK104 2, Km_ BK104 3, Km_ BK105 0, Km_ BK105 1, Km_ BK105 2, Km_ BK105 3⟩ (fun hHeld => ?_)
 generalize w5.drew = w6 at BK104 BK105 HB hHeld ⊢
 refine Ko_ 0 5 (mB_ 6 1) (by kernel_rfl) hHeld ?_
 refine Ko_ 1 6 (mB_ 6 3) (by kernel_rfl) hHeld ?_
 refine Ko_ 3 8 (mB_ 6 11) (by kernel_rfl) hHeld ?_
 refine one_ (i := 2) (N := some 7) (mB_ 6 15) rfl rfl (by kernel_rfl) (by decide) (fun K hK => ?_)
 refine goes_ Try.func78 (by kernel_rfl) rfl #[.agg #[.int .u64 a0_0, .int .u64 a0_1, .int .u64 a0_2, .int .u64 a0_3], .agg #[.int .u64 a1_0, .int .u64 a1_1, .int .u64 a1_2, .int .u64 a1_3]] (by rfl) rfl rfl (by (try simp only [List.map_toArray, List.map_cons, List.map_nil]); first | done | rfl | (simp only [List.length_drop, List.length_take]; rfl)) ?_
 with_reducible refine (vec_Join.calls a0_0 a0_1 a0_2 a0_3 a1_0 a1_1 a1_2 a1_3 t106 t107 t108 t109 _ A3.out).mono ?_
 rintro e w7 ⟨rfl, hb⟩
 refine ⟨_, rfl, ?_⟩
 replace BK104 := Kb_ BK104 hb
 replace BK105 := Kb_ BK105 hb
 replace HB := Ks_ HB hb
 (try clear hb)
 (try clear hb2)
 (try clear hk)
 (try clear hi)
 refine hK.out _ _ ⟨Km_ BK104 0, Km_ BK104 1, Km_ BK104 2, Km_ BK104 3, Km_ BK105 0, Km_ BK105 1, Km_ BK105 2, Km_ BK105 3⟩ (fun hHeld => ?_)
 clear hK K
 refine Kn_ 7 ?_
 refine Kp_ 4 9 (mB_ 6 31) (by kernel_rfl) ?_
 refine Kp_ 5 4 (mB_ 6 63) (by kernel_rfl) ?_
 refine done_ (by kernel_rfl) ?_
 try go_wp2
 go_ret
 exact ⟨Kh_, K2a_ HB GE104 GE105⟩
end Go.Proofs.Ytoogchgoiciggaa.Q

namespace Go.Proofs.Ytoogchgoiciggaa.Q
open Go.RowKit Go.Proofs.YtoogchgoiciggaaW.PrintWords Go.Proofs.YtoogchgoiciggaaW.PrintLast Go.Proofs.YtoogchgoiciggaaW.PrintMore
attribute [local go_sem] max2_int min2_int max_two min_two max_three min_three max_four min_four   -- for this text's walks alone
set_option linter.unusedVariables false
set_option linter.unusedSimpArgs false
def vec_Right.f (a0_0 : Int) (a0_1 : Int) (a0_2 : Int) (a0_3 : Int) : Option (Bool) := (vec_Leq.f a0_0 a0_1 a0_2 a0_3 1152921504606846976 1152921504606846976 1152921504606846976 1152921504606846976).bind fun t111 => (some t111)
set_option maxHeartbeats 8000000 in
set_option maxRecDepth 100000 in
theorem vec_Right.calls (a0_0 : Int) (a0_1 : Int) (a0_2 : Int) (a0_3 : Int) (r : Bool) (w : World) (h : vec_Right.f a0_0 a0_1 a0_2 a0_3 = some r) :
  Calls Try.prog 63 #[.agg #[.int .u64 a0_0, .int .u64 a0_1, .int .u64 a0_2, .int .u64 a0_3]] w fun e w' => e = .returned (.bool r) ∧ Below w.heap.size w w' := by
 have hu28 := Try.underlying28
 have HB := Aside0.mk (Below.refl w.heap.size w)
 have H : ((vec_Leq.f a0_0 a0_1 a0_2 a0_3 1152921504606846976 1152921504606846976 1152921504606846976 1152921504606846976).bind fun t111 => (some t111)) = some r := h
 clear h
 replace H := Option.bind_eq_some_iff.mp H
 obtain ⟨t111, A20, H⟩ := H
 replace H : (some t111) = some r := H
 have A2 := Aside0.mk A20
 clear A20
 obtain rfl := Option.some.inj H
 go_enter Try.func63, Try.ntmps63
 go_wp2_with (first | ((with_reducible refine gate_dst (N := 1) rfl ?_); refine Ka_ 1 #[.int .u64 a0_0, .int .u64 a0_1, .int .u64 a0_2, .int .u64 a0_3] 28 ?_; intro gb110 hg w3 hbox hb; have BK110 := Aside0.mk (hbox); have GW110 := Kw_ HB hg; have GE110 := GW110; replace HB := Ks_ HB hb; clear hb hbox hg; obtain ⟨hcz4_0, hcz4_1, hcz4_2, hcz4_3, hfz4_0, hfz4_1, hfz4_2, hfz4_3⟩ := Ke4_ BK110.out) | ((with_reducible refine gate_callee (f := 75) rfl ?_); refine Kg_ (some 5) rfl rfl Try.func75 (by kernel_rfl) rfl #[.agg #[.int .u64 a0_0, .int .u64 a0_1, .int .u64 a0_2, .int .u64 a0_3], .agg #[.int .u64 1152921504606846976, .int .u64 1152921504606846976, .int .u64 1152921504606846976, .int .u64 1152921504606846976]] rfl ?_; (with_reducible refine (vec_Leq.calls a0_0 a0_1 a0_2 a0_3 1152921504606846976 1152921504606846976 1152921504606846976 1152921504606846976 t111 _ A2.out).mono ?_); rintro e w5 ⟨rfl, hb⟩; refine ⟨_, rfl, ?_⟩; replace BK110 := Kb_ BK110 hb; replace HB := Ks_ HB hb; (try clear hb); (try clear hb2); (try clear hk); (try clear hi)))
 go_ret
 exact ⟨Kh_, Kz_ HB GE110⟩
def vec_At.f (a0_0 a0_1 a0_2 a0_3 n : Int) : Option Int := some (if n = 1 then a0_0 else if n = 2 then a0_1 else if n = 3 then a0_2 else if n = 4 then a0_3 else 0)
set_option maxHeartbeats 8000000 in
set_option maxRecDepth 100000 in
theorem vec_At.calls (a0_0 a0_1 a0_2 a0_3 n : Int) (r : Int) (w : World) (h : vec_At.f a0_0 a0_1 a0_2 a0_3 n = some r) :
  Calls Try.prog 76 #[.agg #[.int .u64 a0_0, .int .u64 a0_1, .int .u64 a0_2, .int .u64 a0_3], .int .i64 n] w fun e w' => e = .returned (.int .u64 r) ∧ Below w.heap.size w w' := by
 unfold vec_At.f at h
 obtain rfl := Option.some.inj h
 clear h
 have hu := Try.underlying28
 by_cases c0 : n = 1
 ·subst c0
  go_enter Try.func76, Try.ntmps76
  go_wp2
  go_ret
  exact ⟨by first | rfl | simp, by first | exact below_alloc (Below.refl _ _) _ | (repeat (first | exact Below.refl _ _ | apply below_alloc | apply pw_below_drewN | apply below_drew1))⟩
 by_cases c1 : n = 2
 ·subst c1
  go_enter Try.func76, Try.ntmps76
  go_wp2
  go_ret
  exact ⟨by first | rfl | simp, by first | exact below_alloc (Below.refl _ _) _ | (repeat (first | exact Below.refl _ _ | apply below_alloc | apply pw_below_drewN | apply below_drew1))⟩
 by_cases c2 : n = 3
 ·subst c2
  go_enter Try.func76, Try.ntmps76
  go_wp2
  go_ret
  exact ⟨by first | rfl | simp, by first | exact below_alloc (Below.refl _ _) _ | (repeat (first | exact Below.refl _ _ | apply below_alloc | apply pw_below_drewN | apply below_drew1))⟩
 by_cases c3 : n = 4
 ·subst c3
  go_enter Try.func76, Try.ntmps76
  go_wp2
  go_ret
  exact ⟨by first | rfl | simp, by first | exact below_alloc (Below.refl _ _) _ | (repeat (first | exact Below.refl _ _ | apply below_alloc | apply pw_below_drewN | apply below_drew1))⟩
 rw [if_neg c0, if_neg c1, if_neg c2, if_neg c3]
 have b1 : (decide (1 ≤ n) = false ∧ decide (n < 1) = true) ∨ (decide (1 ≤ n) = true ∧ decide (n < 1) = false ∧ decide (n ≤ 4) = false ∧ decide (4 < n) = true) := by
  by_cases h : 1 ≤ n
  ·exact Or.inr ⟨decide_eq_true h, decide_eq_false (by omega), decide_eq_false (by omega), decide_eq_true (by omega)⟩
  ·exact Or.inl ⟨decide_eq_false h, decide_eq_true (by omega)⟩
 clear c0 c1 c2 c3
 rcases b1 with ⟨b1, b2⟩ | ⟨b1, b2, b3, b4⟩
 ·go_enter Try.func76, Try.ntmps76
  go_wp2
  go_ret
  exact ⟨by first | rfl | simp, by first | exact below_alloc (Below.refl _ _) _ | (repeat (first | exact Below.refl _ _ | apply below_alloc | apply pw_below_drewN | apply below_drew1))⟩
 ·go_enter Try.func76, Try.ntmps76
  go_wp2
  go_ret
  exact ⟨by first | rfl | simp, by first | exact below_alloc (Below.refl _ _) _ | (repeat (first | exact Below.refl _ _ | apply below_alloc | apply pw_below_drewN | apply below_drew1))⟩
def stamp_Stamp_N.f (a0_0 : Int) (a0_1 : Int) (a0_2 : Int) (a0_3 : Int) (a0_4 : Int) : Option (Int) := (vec_At.f a0_0 a0_1 a0_2 a0_3 a0_4).bind fun t113 => (some t113)
set_option maxHeartbeats 8000000 in
set_option maxRecDepth 100000 in
theorem stamp_Stamp_N.calls (a0_0 : Int) (a0_1 : Int) (a0_2 : Int) (a0_3 : Int) (a0_4 : Int) (r : Int) (w : World) (h : stamp_Stamp_N.f a0_0 a0_1 a0_2 a0_3 a0_4 = some r) :
  Calls Try.prog 64 #[.agg #[.int .u64 a0_0, .int .u64 a0_1, .int .u64 a0_2, .int .u64 a0_3, .int .i64 a0_4]] w fun e w' => e = .returned (.int .u64 r) ∧ Below w.heap.size w w' := by
 have hu30 := Try.underlying30
 have hu28 := Try.underlying28
 have HB := Aside0.mk (Below.refl w.heap.size w)
 have H : ((vec_At.f a0_0 a0_1 a0_2 a0_3 a0_4).bind fun t113 => (some t113)) = some r := h
 clear h
 replace H := Option.bind_eq_some_iff.mp H
 obtain ⟨t113, A20, H⟩ := H
 replace H : (some t113) = some r := H
 have A2 := Aside0.mk A20
 clear A20
 obtain rfl := Option.some.inj H
 go_enter Try.func64, Try.ntmps64
 go_wp2_with (first | ((with_reducible refine gate_dst (N := 1) rfl ?_); refine Ka_ 1 #[.int .u64 a0_0, .int .u64 a0_1, .int .u64 a0_2, .int .u64 a0_3, .int .i64 a0_4] 30 ?_; intro gb112 hg w3 hbox hb; have BK112 := Aside0.mk (hbox); have GW112 := Kw_ HB hg; have GE112 := GW112; replace HB := Ks_ HB hb; clear hb hbox hg; obtain ⟨hcz4_0, hcz4_1, hcz4_2, hcz4_3, hcz4_4, hfz4_0, hfz4_1, hfz4_2, hfz4_3, hfz4_4⟩ := Ke5_ BK112.out) | ((with_reducible refine gate_callee (f := 76) rfl ?_); refine Kg_ (some 7) rfl rfl Try.func76 (by kernel_rfl) rfl #[.agg #[.int .u64 a0_0, .int .u64 a0_1, .int .u64 a0_2, .int .u64 a0_3], .int .i64 a0_4] rfl ?_; (with_reducible refine (vec_At.calls a0_0 a0_1 a0_2 a0_3 a0_4 t113 _ A2.out).mono ?_); rintro e w5 ⟨rfl, hb⟩; refine ⟨_, rfl, ?_⟩; replace BK112 := Kb_ BK112 hb; replace HB := Ks_ HB hb; (try clear hb); (try clear hb2); (try clear hk); (try clear hi)))
 go_ret
 exact ⟨Kh_, Kz_ HB GE112⟩
def stamp_Right.f (a0_0 : Int) (a0_1 : Int) (a0_2 : Int) (a0_3 : Int) (a0_4 : Int) : Option (Bool) := (vec_Right.f a0_0 a0_1 a0_2 a0_3).bind fun t115 => (if t115 = true then ((stamp_Stamp_N.f a0_0 a0_1 a0_2 a0_3 a0_4).bind fun t116 => (some (decide (t116 > 0)))) else (some false))
set_option maxHeartbeats 8000000 in
set_option maxRecDepth 100000 in
theorem stamp_Right.calls (a0_0 : Int) (a0_1 : Int) (a0_2 : Int) (a0_3 : Int) (a0_4 : Int) (r : Bool) (w : World) (h : stamp_Right.f a0_0 a0_1 a0_2 a0_3 a0_4 = some r) :
  Calls Try.prog 44 #[.agg #[.int .u64 a0_0, .int .u64 a0_1, .int .u64 a0_2, .int .u64 a0_3, .int .i64 a0_4]] w fun e w' => e = .returned (.bool r) ∧ Below w.heap.size w w' := by
 have hu30 := Try.underlying30
 have hu28 := Try.underlying28
 have HB := Aside0.mk (Below.refl w.heap.size w)
 have H : ((vec_Right.f a0_0 a0_1 a0_2 a0_3).bind fun t115 => (if t115 = true then ((stamp_Stamp_N.f a0_0 a0_1 a0_2 a0_3 a0_4).bind fun t116 => (some (decide (t116 > 0)))) else (some false))) = some r := h
 clear h
 replace H := Option.bind_eq_some_iff.mp H
 obtain ⟨t115, A20, H⟩ := H
 replace H : (if t115 = true then ((stamp_Stamp_N.f a0_0 a0_1 a0_2 a0_3 a0_4).bind fun t116 => (some (decide (t116 > 0)))) else (some false)) = some r := H
 have A2 := Aside0.mk A20
 clear A20
 by_cases c3 : t115 = true
 rotate_left
 ·replace c3 := Bool.eq_false_iff.mpr c3
  subst c3
  have H1 : (some false) = some r := by rw [if_neg (show ¬ (false = true) by decide)] at H; exact H
  clear H
  have H := H1
  clear H1
  obtain rfl := Option.some.inj H
  go_enter Try.func44, Try.ntmps44
  go_wp2_with (first | ((with_reducible refine gate_dst (N := 1) rfl ?_); refine Ka_ 1 #[.int .u64 a0_0, .int .u64 a0_1, .int .u64 a0_2, .int .u64 a0_3, .int .i64 a0_4] 30 ?_; intro gb114 hg w10 hbox hb; have BK114 := Aside0.mk (hbox); have GW114 := Kw_ HB hg; have GE114 := GW114; replace HB := Ks_ HB hb; clear hb hbox hg; obtain ⟨hcz11_0, hcz11_1, hcz11_2, hcz11_3, hcz11_4, hfz11_0, hfz11_1, hfz11_2, hfz11_3, hfz11_4⟩ := Ke5_ BK114.out) | ((with_reducible refine gate_callee (f := 63) rfl ?_); refine Kg_ (some 5) rfl rfl Try.func63 (by kernel_rfl) rfl #[.agg #[.int .u64 a0_0, .int .u64 a0_1, .int .u64 a0_2, .int .u64 a0_3]] rfl ?_; (with_reducible refine (vec_Right.calls a0_0 a0_1 a0_2 a0_3 false _ A2.out).mono ?_); rintro e w12 ⟨rfl, hb⟩; refine ⟨_, rfl, ?_⟩; replace BK114 := Kb_ BK114 hb; replace HB := Ks_ HB hb; (try clear hb); (try clear hb2); (try clear hk); (try clear hi)))
  go_ret
  exact ⟨Kh_, Kz_ HB GE114⟩
 subst c3
 have H1 : ((stamp_Stamp_N.f a0_0 a0_1 a0_2 a0_3 a0_4).bind fun t116 => (some (decide (t116 > 0)))) = some r := by rw [if_pos rfl] at H; exact H
 clear H
 have H := H1
 clear H1
 replace H := Option.bind_eq_some_iff.mp H
 obtain ⟨t116, A40, H⟩ := H
 replace H : (some (decide (t116 > 0))) = some r := H
 have A4 := Aside0.mk A40
 clear A40
 obtain rfl := Option.some.inj H
 go_enter Try.func44, Try.ntmps44
 go_wp2_with (first | ((with_reducible refine gate_dst (N := 1) rfl ?_); refine Ka_ 1 #[.int .u64 a0_0, .int .u64 a0_1, .int .u64 a0_2, .int .u64 a0_3, .int .i64 a0_4] 30 ?_; intro gb114 hg w5 hbox hb; have BK114 := Aside0.mk (hbox); have GW114 := Kw_ HB hg; have GE114 := GW114; replace HB := Ks_ HB hb; clear hb hbox hg; obtain ⟨hcz6_0, hcz6_1, hcz6_2, hcz6_3, hcz6_4, hfz6_0, hfz6_1, hfz6_2, hfz6_3, hfz6_4⟩ := Ke5_ BK114.out) | ((with_reducible refine gate_callee (f := 63) rfl ?_); refine Kg_ (some 5) rfl rfl Try.func63 (by kernel_rfl) rfl #[.agg #[.int .u64 a0_0, .int .u64 a0_1, .int .u64 a0_2, .int .u64 a0_3]] rfl ?_; (with_reducible refine (vec_Right.calls a0_0 a0_1 a0_2 a0_3 true _ A2.out).mono ?_); rintro e w7 ⟨rfl, hb⟩; refine ⟨_, rfl, ?_⟩; replace BK114 := Kb_ BK114 hb; replace HB := Ks_ HB hb; (try clear hb); (try clear hb2); (try clear hk); (try clear hi); obtain ⟨hcz8_0, hcz8_1, hcz8_2, hcz8_3, hcz8_4, hfz8_0, hfz8_1, hfz8_2, hfz8_3, hfz8_4⟩ := Ke5_ BK114.out) | (go_at_call 64; (with_reducible refine (stamp_Stamp_N.calls a0_0 a0_1 a0_2 a0_3 a0_4 t116 _ A4.out).mono ?_); rintro e w9 ⟨rfl, hb⟩; replace BK114 := Kb_ BK114 hb; replace HB := Ks_ HB hb; (try clear hb); (try clear hb2); (try clear hk); (try clear hi)))
 go_ret
 exact ⟨Kh_, Kz_ HB GE114⟩
def item_Whole.apart : List S23 → Bool
 | [] => true
 | x :: xs => xs.all (fun y => !decide (x.f0.data.toList = y.f0.data.toList ∧ x.f1.data.toList = y.f1.data.toList)) && item_Whole.apart xs
def item_Whole.right (x : S23) : Bool := (item_Right.f x.f0 x.f1 x.f2 x.f3).getD false
def item_Whole.f (a0_0 a0_1 a0_2 a0_3 a0_4 : Int) (l0_5 : List S23) : Option Bool :=
 if (∀ x ∈ l0_5, x.f0.size ≤ 9223372036854775807 ∧ x.f1.size ≤ 9223372036854775807) ∧ l0_5.length ≤ 9223372036854775806 then
  (stamp_Right.f a0_0 a0_1 a0_2 a0_3 a0_4).bind fun t => some (t && decide (0 < l0_5.length) && decide (l0_5.length ≤ 8) && item_Whole.apart l0_5 && !l0_5.any (fun x => !item_Whole.right x))
 else none
theorem item_Whole.right_f (x : S23) : item_Right.f x.f0 x.f1 x.f2 x.f3 = some (item_Whole.right x) := by
 unfold item_Whole.right
 have hn : ∀ s : ByteArray, ∃ b, item_named.f s = some b := by
  intro s
  unfold item_named.f
  split <;> exact ⟨_, rfl⟩
 unfold item_Right.f
 obtain ⟨b, hb⟩ := hn x.f0
 obtain ⟨c, hc⟩ := hn x.f1
 rw [hb, hc, Option.bind_some, Option.bind_some]
 repeat' split
 all_goals rfl
abbrev item_Whole.enc (x : S23) : Value := .agg #[.string x.f0, .string x.f1, .string x.f2, .bool x.f3]
theorem item_Whole.enters_ (P : Program) {f : FuncId} {fn : Func} {c : Code} (hf : P.funcs[f]? = some fn) (hname : (fn.name == "runtime.NumGoroutine") = false) (hb : fn.body = some c) (args : Array Value) (w : World) : (callFunc f args).run P w = .ok (.enter f args) w := by
 have h1 : fn.name ≠ "runtime.NumGoroutine" := by simpa using hname
 simp [callFunc, hf, h1, hb, mark]
set_option maxHeartbeats 8000000 in
set_option maxRecDepth 100000 in
theorem item_Whole.clos (x0 x1 x2 : ByteArray) (x3 : Bool) (w : World) :
  Calls Try.prog 43 #[.agg #[.string x0, .string x1, .string x2, .bool x3]] w fun e w' => e = .returned (.bool (!item_Whole.right ⟨x0, x1, x2, x3⟩)) ∧ Below w.heap.size w w' := by
 have HB := Aside0.mk (Below.refl w.heap.size w)
 have HR := Aside0.mk (item_Whole.right_f ⟨x0, x1, x2, x3⟩)
 generalize item_Whole.right ⟨x0, x1, x2, x3⟩ = b at HR ⊢
 go_enter Try.func43, Try.ntmps43
 replace HB := Aside0.mk (below_alloc HB.out (Obj.cells #[.string x0, .string x1, .string x2, .bool x3] 23))
 go_wp2_with (go_at_call 18; refine (item_Right.calls x0 x1 x2 x3 b _ HR.out).mono ?_; rintro e w1 ⟨rfl, hb⟩; replace HB := Aside0.mk (below_step HB.out hb); clear hb)
 go_ret
 exact ⟨rfl, HB.out⟩
set_option maxHeartbeats 8000000 in
set_option maxRecDepth 100000 in
theorem item_Whole.index_ (p : S23 → Bool) (g : Nat) (lb : Array Value) (eg : ∀ args w, (callFunc g args).run Try.prog w = .ok (.enter g args) w) (A : Option Addr) (c : Nat) (l : List S23) (w : World) (hr : Kd.C k23 w A l.length l) (hc : l.length ≤ c) (hl : l.length ≤ 9223372036854775806)
  (hp : ∀ (W : World) (x : S23), Below w.heap.size w W → Calls Try.prog g (#[item_Whole.enc x] ++ lb) W fun e w' => e = .returned (.bool (p x)) ∧ Below W.heap.size W w') :
  Calls Try.prog 65 #[.slice A l.length c, .func (.func g) #[] lb] w fun e w' => ∃ r : Int, e = .returned (.int .i64 r) ∧ decide (r ≥ 0) = l.any p ∧ Below w.heap.size w w' := by
 have HR0 := Aside0.mk hr
 clear hr
 have HB := Aside0.mk (Below.refl w.heap.size w)
 have HP := Aside0.mk hp
 clear hp
 go_enter Try.func65, Try.ntmps65
 go_wp2
 go_loopg [8] l.length (fun kq v8 w' => ∃ (j : Nat), v8 = .int .i64 j ∧ Aside0 (j ≤ l.length) ∧ Aside0 (l.length - j ≤ kq) ∧ Aside0 ((l.take j).any p = false) ∧ Aside0 (Below w.heap.size w w'))
 case atStart => exact ⟨0, rfl, ⟨by omega⟩, ⟨by omega⟩, ⟨rfl⟩, HB⟩
 case round =>
  obtain ⟨j, rfl, HJ, HK, HO, HB⟩ := hrel
  by_cases c1 : j < l.length
  rotate_left
  ·have c1b : decide ((j : Int) < (l.length : Int)) = false := decide_eq_false (by omega)
   have e : l.take j = l := List.take_of_length_le (by omega)
   rw [e] at HO
   go_wp2
   go_ret
   exact ⟨_, rfl, by rw [HO.out]; rfl, HB.out⟩
  ·have c1b : decide ((j : Int) < (l.length : Int)) = true := decide_eq_true (by omega)
   have c0b : decide (0 ≤ (j : Int)) = true := decide_eq_true (by omega)
   have hx : l[j]? = .some (rd_T23 l j) := by
    unfold rd_T23
    rw [Int.toNat_natCast, List.getD_eq_getElem?_getD, List.getElem?_eq_getElem c1]
    rfl
   have hm : rd_T23 l j ∈ l := List.mem_of_getElem? hx
   obtain ⟨ad, e0, h0, h1, h2, h3⟩ := at_T23 HR0.out (j : Int) (by omega) (by omega)
   cases e0
   replace h0 := (HB.out.cell (World.block_lt_of_cell? w _ h0)).trans h0
   replace h1 := (HB.out.cell (World.block_lt_of_cell? w _ h1)).trans h1
   replace h2 := (HB.out.cell (World.block_lt_of_cell? w _ h2)).trans h2
   replace h3 := (HB.out.cell (World.block_lt_of_cell? w _ h3)).trans h3
   have HX := Aside0.mk (show (l.take (j + 1)).any p = p (rd_T23 l j) by
    rw [List.take_add_one, hx, List.any_append, HO.out]
    simp only [Option.toList, List.any_cons, List.any_nil, Bool.or_false, Bool.false_or])
   have HY := Aside0.mk (show p (rd_T23 l j) = true → l.any p = true from fun h => List.any_eq_true.2 ⟨_, hm, h⟩)
   clear hx hm HO
   generalize rd_T23 l j = x at *
   obtain ⟨x0, x1, x2, x3⟩ := x
   simp only [Int.toNat_natCast] at h0 h1 h2 h3
   have HC := Aside0.mk (HP.out wr ⟨x0, x1, x2, x3⟩ HB.out)
   cases hq : p ⟨x0, x1, x2, x3⟩ with
   | true =>
    have hy := HY.out hq
    rw [hq] at HC
    go_wp2_with (fail)
    refine HC.out.mono ?_
    rintro e w1 ⟨rfl, hb⟩
    replace HB := Aside0.mk (below_step HB.out hb)
    clear hb HC
    go_wp2
    go_ret
    exact ⟨j, rfl, by rw [hy]; exact decide_eq_true (by omega), HB.out⟩
   | false =>
    rw [hq] at HC HX
    go_wp2_with (fail)
    refine HC.out.mono ?_
    rintro e w1 ⟨rfl, hb⟩
    replace HB := Aside0.mk (below_step HB.out hb)
    clear hb HC
    go_wp2
    go_roundg (l.length - (j + 1))
    case measure => have := HK.out; omega
    case rel => exact ⟨j + 1, by first | rfl | (rw [show ((j + 1 : Nat) : Int) = (j : Int) + 1 by omega]; rfl) | (rw [show ((j + 1 : Nat) : Int) = (j : Int) + 1 by omega]; congr 1; exact wrap64_id (by omega) (by omega)), ⟨by omega⟩, ⟨by omega⟩, HX, HB⟩
set_option maxHeartbeats 8000000 in
set_option maxRecDepth 100000 in
theorem item_Whole.contains_ (A : Option Addr) (c : Nat) (l : List S23) (w : World) (hr : Kd.C k23 w A l.length l) (hc : l.length ≤ c) (hl : l.length ≤ 9223372036854775806) :
  Calls Try.prog 45 #[.slice A l.length c, .func (.func 43) #[] #[]] w fun e w' => e = .returned (.bool (l.any fun x => !item_Whole.right x)) ∧ Below w.heap.size w w' := by
 have HC := Aside0.mk (item_Whole.index_ (fun x => !item_Whole.right x) 43 #[] (item_Whole.enters_ Try.prog Try.func43 (by kernel_rfl) rfl) A c l w hr hc hl (fun W x _ => by obtain ⟨x0, x1, x2, x3⟩ := x; exact item_Whole.clos x0 x1 x2 x3 W))
 clear hr hc
 generalize (l.any fun x => !item_Whole.right x) = b at HC ⊢
 go_enter Try.func45, Try.ntmps45
 go_wp2_with (go_at_call 65; refine HC.out.mono ?_; rintro e w1 ⟨r, rfl, hd, hb⟩; have HD := Aside0.mk hd; have HB := Aside0.mk hb; clear hd hb HC)
 go_ret
 exact ⟨by rw [← HD.out]; rfl, HB.out⟩
def item_Whole.kl (x : S23) : Lit := .string (keyBytes [.string x.f0.data.toList, .string x.f1.data.toList])
theorem item_Whole.keyed : Go.Maps.Keyed Try.prog 88 :=
 Go.Maps.Keyed.of_law (deep_law_laid (show laidOutB Try.prog = true by kernel_rfl) (m := 2) (by omega) (of_decide_eq_true (by kernel_rfl)) (by kernel_rfl) (by kernel_rfl))
theorem item_Whole.key_of (x : S23) (h0 : x.f0.size ≤ 9223372036854775807) (h1 : x.f1.size ≤ 9223372036854775807) : keyOf Try.prog 88 (.agg #[.string x.f0, .string x.f1]) = some (item_Whole.kl x) := by
 have hu := Try.underlying88
 have hs := Try.underlying9
 have hk : Try.prog.keyType 88 = true := by kernel_rfl
 have hf : (Value.agg #[.string x.f0, .string x.f1]).formed Try.prog 88 = true := by
  have hc : Try.prog.cellsOf 88 = 2 := by kernel_rfl
  simp [Value.formed, hu, hc]
 have hc : Try.prog.cellsOf 88 = 2 := by kernel_rfl
 have hc9 : Try.prog.cellsOf 9 = 1 := by kernel_rfl
 have hn : ∃ n, Try.prog.types.size + 1 = n + 2 := ⟨Try.prog.types.size - 1, by have : 1 ≤ Try.prog.types.size := of_decide_eq_true (by kernel_rfl); omega⟩
 obtain ⟨n, hn⟩ := hn
 have m0 : x.f0.size ≤ maxLen := by unfold maxLen; omega
 have m1 : x.f1.size ≤ maxLen := by unfold maxLen; omega
 unfold keyOf
 rw [hu]
 simp only [hk, hf, Bool.and_self, if_true, hn]
 have k1 : ∀ s : ByteArray, s.size ≤ maxLen → Try.prog.keyLits (n + 1) 9 [.string s] = some [.string s.data.toList] := by
  intro s m
  unfold Program.keyLits
  simp only [hs]
  rw [if_pos m]
 unfold Program.keyLits
 simp only [hu]
 rw [if_pos ⟨by rw [hc]; rfl, by first | rfl | decide +kernel⟩]
 have e0 := k1 _ m0
 have e1 := k1 _ m1
 clear hu hs hk hf hc
 simp [hc9, Value.cells, e0, e1, item_Whole.kl]
theorem item_Whole.kl_inj (x y : S23) (h0 : x.f0.size ≤ 9223372036854775807) (h1 : x.f1.size ≤ 9223372036854775807) (k0 : y.f0.size ≤ 9223372036854775807) (k1 : y.f1.size ≤ 9223372036854775807) (h : item_Whole.kl x = item_Whole.kl y) : x.f0 = y.f0 ∧ x.f1 = y.f1 := by
 have e := item_Whole.keyed.inj (item_Whole.key_of x h0 h1) (h ▸ item_Whole.key_of y k0 k1)
 simpa using e
theorem item_Whole.isKey (x : S23) : WideAt.IsKeyLit (item_Whole.kl x) := trivial
theorem item_Whole.fold_len : ∀ (L acc : List Lit), (L.foldl Go.Maps.addKey acc).length ≤ acc.length + L.length
 | [], acc => by simp
 | x :: xs, acc => by
  rw [List.foldl_cons]
  have h := item_Whole.fold_len xs (Go.Maps.addKey acc x)
  have h2 : (Go.Maps.addKey acc x).length ≤ acc.length + 1 := by
   unfold Go.Maps.addKey
   split <;> simp
  simp only [List.length_cons]
  omega
theorem item_Whole.fold_apart : ∀ (l : List S23) (acc : List Lit), (∀ x ∈ l, x.f0.size ≤ 9223372036854775807 ∧ x.f1.size ≤ 9223372036854775807) →
  (((l.map item_Whole.kl).foldl Go.Maps.addKey acc).length = acc.length + l.length ↔ (∀ x ∈ l, acc.any (fun y => y.sameKey (item_Whole.kl x)) = false) ∧ item_Whole.apart l = true)
 | [], acc, _ => by simp [item_Whole.apart]
 | x :: xs, acc, hs => by
  have hs' : ∀ y ∈ xs, y.f0.size ≤ 9223372036854775807 ∧ y.f1.size ≤ 9223372036854775807 := fun y hy => hs y (by simp [hy])
  rw [List.map_cons, List.foldl_cons]
  by_cases c : acc.any (fun y => y.sameKey (item_Whole.kl x)) = true
  ·have e : Go.Maps.addKey acc (item_Whole.kl x) = acc := by unfold Go.Maps.addKey; rw [if_pos c]
   rw [e]
   have h := item_Whole.fold_len (xs.map item_Whole.kl) acc
   rw [List.length_map] at h
   constructor
   ·intro h2
    simp only [List.length_cons] at h2
    omega
   ·intro h2
    have := h2.1 x (by simp)
    rw [c] at this
    cases this
  ·have c' : acc.any (fun y => y.sameKey (item_Whole.kl x)) = false := by simpa using c
   have e : Go.Maps.addKey acc (item_Whole.kl x) = acc ++ [item_Whole.kl x] := by unfold Go.Maps.addKey; rw [if_neg c]
   rw [e]
   have h := item_Whole.fold_apart xs (acc ++ [item_Whole.kl x]) hs'
   have hx : ∀ y ∈ xs, (item_Whole.kl x).sameKey (item_Whole.kl y) = decide (x.f0.data.toList = y.f0.data.toList ∧ x.f1.data.toList = y.f1.data.toList) := by
    intro y hy
    by_cases d : x.f0.data.toList = y.f0.data.toList ∧ x.f1.data.toList = y.f1.data.toList
    ·have e : item_Whole.kl x = item_Whole.kl y := by unfold item_Whole.kl; rw [d.1, d.2]
     rw [e, WideAt.sameKey_self (item_Whole.isKey y), decide_eq_true d]
    ·have e : item_Whole.kl x ≠ item_Whole.kl y := fun e => d (by
      have q := item_Whole.kl_inj x y (hs x (by simp)).1 (hs x (by simp)).2 (hs' y hy).1 (hs' y hy).2 e
      rw [q.1, q.2]
      exact ⟨rfl, rfl⟩)
     rw [Go.Maps.sameKey_ne e, decide_eq_false d]
   rw [List.length_append, List.length_singleton] at h
   rw [List.length_cons, show acc.length + (xs.length + 1) = acc.length + 1 + xs.length by omega, h]
   have ea : item_Whole.apart (x :: xs) = (xs.all (fun y => !decide (x.f0.data.toList = y.f0.data.toList ∧ x.f1.data.toList = y.f1.data.toList)) && item_Whole.apart xs) := rfl
   rw [ea, Bool.and_eq_true, List.all_eq_true]
   constructor
   ·rintro ⟨h1, h2⟩
    refine ⟨?_, ?_, h2⟩
    ·intro y hy
     rcases List.mem_cons.1 hy with rfl | hy
     ·exact c'
     ·have := h1 y hy
      rw [List.any_append, Bool.or_eq_false_iff] at this
      exact this.1
    ·intro y hy
     have := h1 y hy
     rw [List.any_append, Bool.or_eq_false_iff] at this
     have := this.2
     simp only [List.any_cons, List.any_nil, Bool.or_false] at this
     rw [← hx y hy, this]
     rfl
   ·rintro ⟨h1, h2, h3⟩
    refine ⟨?_, h3⟩
    intro y hy
    rw [List.any_append, h1 y (by simp [hy]), Bool.false_or]
    simp only [List.any_cons, List.any_nil, Bool.or_false]
    rw [hx y hy]
    have q := h2 y hy
    revert q
    cases decide (x.f0.data.toList = y.f0.data.toList ∧ x.f1.data.toList = y.f1.data.toList) <;> simp
theorem item_Whole.size_apart (l : List S23) (hs : ∀ x ∈ l, x.f0.size ≤ 9223372036854775807 ∧ x.f1.size ≤ 9223372036854775807) (u : DataW Unit) : decide (((Go.Maps.size (Go.Maps.setOf u (l.map item_Whole.kl)) : Nat) : Int) = (l.length : Int)) = item_Whole.apart l := by
 have h1 : Go.Maps.size (Go.Maps.setOf u (l.map item_Whole.kl)) = ((l.map item_Whole.kl).foldl Go.Maps.addKey []).length := Go.Maps.size_setOf u _ (fun y hy => by obtain ⟨x, _, rfl⟩ := List.mem_map.1 hy; exact item_Whole.isKey x)
 have h2 := item_Whole.fold_apart l [] hs
 rw [h1]
 simp only [List.length_nil, Nat.zero_add, List.any_nil, implies_true, true_and] at h2
 cases hb : item_Whole.apart l with
 | true => exact decide_eq_true (by rw [h2.2 hb])
 | false => exact decide_eq_false (fun e => by rw [h2.1 (by omega)] at hb; cases hb)
theorem item_Whole.grown_below {w W w1 : World} {B : Nat} (h : Below w.heap.size w W) (hg : W.grownBy w1 (some B)) (hB : w.heap.size ≤ B) : Below w.heap.size w w1 :=
 ⟨hg.os.trans h.os, hg.tape.trans h.tape, hg.output.trans h.output, Nat.le_trans h.size hg.size, fun i hi => (hg.block i (Nat.lt_of_lt_of_le hi h.size) (by simp; omega)).trans (h.block i hi)⟩
set_option maxHeartbeats 8000000 in
set_option maxRecDepth 100000 in
theorem item_Whole.calls (a0_0 a0_1 a0_2 a0_3 a0_4 : Int) (A0_5 : Option Addr) (c0_5 : Nat) (l0_5 : List S23) (r : Bool) (w : World) (hr0_5 : Kd.C k23 w A0_5 l0_5.length l0_5) (hc0_5 : l0_5.length ≤ c0_5) (h : item_Whole.f a0_0 a0_1 a0_2 a0_3 a0_4 l0_5 = some r) :
  Calls Try.prog 22 #[.agg #[.int .u64 a0_0, .int .u64 a0_1, .int .u64 a0_2, .int .u64 a0_3, .int .i64 a0_4, .slice A0_5 l0_5.length c0_5]] w fun e w' => e = .returned (.bool r) ∧ Below w.heap.size w w' := by
 unfold item_Whole.f at h
 by_cases hs : (∀ x ∈ l0_5, x.f0.size ≤ 9223372036854775807 ∧ x.f1.size ≤ 9223372036854775807) ∧ l0_5.length ≤ 9223372036854775806
 rotate_left
 ·rw [if_neg hs] at h; cases h
 rw [if_pos hs] at h
 obtain ⟨t, ht, h⟩ := Option.bind_eq_some_iff.1 h
 obtain ⟨hs, hl⟩ := hs
 have HR := Aside0.mk hr0_5
 have HS := Aside0.mk hs
 have HT := Aside0.mk ht
 have HH := Aside0.mk (Option.some.inj h)
 have HKEY : Aside0 (∀ x ∈ l0_5, keyOf Try.prog 88 (.agg #[.string x.f0, .string x.f1]) = some (item_Whole.kl x)) := ⟨fun x hx => item_Whole.key_of x (hs x hx).1 (hs x hx).2⟩
 clear hr0_5 hs ht h
 have HB := Aside0.mk (Below.refl w.heap.size w)
 have hmm := @run_makeMap Try.prog
 go_enter Try.func22, Try.ntmps22
 go_wp2
 go_loopg [11] l0_5.length (fun kq v11 w' => ∃ (j : Nat), v11 = .int .i64 j ∧ Aside0 (j ≤ l0_5.length) ∧ Aside0 (l0_5.length - j ≤ kq) ∧ Aside0 (w'.heap[w.heap.size]? = some (.cells #[.int .u64 a0_0, .int .u64 a0_1, .int .u64 a0_2, .int .u64 a0_3, .int .i64 a0_4, .slice A0_5 l0_5.length c0_5] 43 (0, 0))) ∧ Aside0 (w'.ownsMap Try.prog 88 (plainElem (H := Unit) Try.prog 4) (w.heap.size + 1) j (Go.Maps.setOf (.lit (.bool true)) ((l0_5.take j).map item_Whole.kl))) ∧ Aside0 (Below w.heap.size w w'))
 case atStart =>
  have s1 : (w.alloc (Obj.cells #[.int .u64 a0_0, .int .u64 a0_1, .int .u64 a0_2, .int .u64 a0_3, .int .i64 a0_4, .slice A0_5 l0_5.length c0_5] 43)).heap.size = w.heap.size + 1 := by simp [World.alloc, -World.alloc_eq]
  have hmade := World.ownsMap_made (w.alloc (Obj.cells #[.int .u64 a0_0, .int .u64 a0_1, .int .u64 a0_2, .int .u64 a0_3, .int .i64 a0_4, .slice A0_5 l0_5.length c0_5] 43)) Try.prog 88 (plainElem (H := Unit) Try.prog 4)
  rw [s1] at hmade
  exact ⟨0, rfl, ⟨by omega⟩, ⟨by omega⟩, ⟨blk_alloc (blk_new _ _) _⟩, ⟨hmade⟩, ⟨below_alloc (below_alloc (Below.refl _ _) _) _⟩⟩
 case round =>
  obtain ⟨j, rfl, HJ, HK, HBK, HM, HB⟩ := hrel
  by_cases c1 : j < l0_5.length
  rotate_left
  ·have c1b : decide ((j : Int) < (l0_5.length : Int)) = false := decide_eq_false (by omega)
   have e : l0_5.take j = l0_5 := List.take_of_length_le (by omega)
   rw [e] at HM
   have HA := Aside0.mk (item_Whole.size_apart l0_5 HS.out (.lit (.bool true)))
   obtain ⟨k0, k1, k2, k3, k4, k5, z0, z1, z2, z3, z4, z5⟩ := Ke6_ HBK.out
   go_wp2_with (fail)
   refine (stamp_Right.calls a0_0 a0_1 a0_2 a0_3 a0_4 t _ HT.out).mono ?_
   rintro e w1 ⟨rfl, hb⟩
   have BK1 := Aside0.mk (blk_below HBK.out hb)
   have HM1 := HM.out.kept (row := none) (World.grownBy.mk hb.os hb.tape hb.output hb.size (fun i hi _ => hb.block i hi)) (by simp)
   have hlen := HM1.len Try.underlying86 3
   have HB2 := Aside0.mk (below_step HB.out hb)
   have HR2 := Aside0.mk (Kd.C_below HR.out HB2.out)
   clear hb HM1 HM HBK k0 k1 k2 k3 k4 k5 z0 z1 z2 z3 z4 z5 HB
   obtain ⟨k0, k1, k2, k3, k4, k5, z0, z1, z2, z3, z4, z5⟩ := Ke6_ BK1.out
   have HA' := HA.out
   clear HA
   generalize Go.Maps.size (Go.Maps.setOf (H := Unit) (.lit (.bool true)) (l0_5.map item_Whole.kl)) = m at hlen HA'
   have HH' := HH.out
   clear HH BK1 HT HS HKEY c1 HJ HK
   cases t with
   | false =>
    go_wp2
    go_ret
    exact ⟨by rw [← HH']; simp, HB2.out⟩
   | true =>
    by_cases d1 : 0 < l0_5.length
    rotate_left
    ·have q1 : decide (0 < (l0_5.length : Int)) = false := decide_eq_false (by omega)
     go_wp2
     go_ret
     exact ⟨by rw [← HH']; simp [d1], HB2.out⟩
    have q1 : decide (0 < (l0_5.length : Int)) = true := decide_eq_true (by omega)
    by_cases d2 : l0_5.length ≤ 8
    rotate_left
    ·have q2 : decide ((l0_5.length : Int) ≤ 8) = false := decide_eq_false (by omega)
     go_wp2
     go_ret
     exact ⟨by rw [← HH']; simp [d2], HB2.out⟩
    have q2 : decide ((l0_5.length : Int) ≤ 8) = true := decide_eq_true (by omega)
    cases ha : item_Whole.apart l0_5 with
    | false =>
     rw [ha] at HA' HH'
     have q3 : ((m : Int) == (l0_5.length : Int)) = false := HA'
     go_wp2
     go_ret
     exact ⟨by rw [← HH']; simp, HB2.out⟩
    | true =>
     rw [ha] at HA' HH'
     have q3 : ((m : Int) == (l0_5.length : Int)) = true := HA'
     go_wp2_with (fail)
     refine (item_Whole.contains_ A0_5 c0_5 l0_5 _ HR2.out hc0_5 hl).mono ?_
     rintro e w2 ⟨rfl, hb⟩
     have HB3 := Aside0.mk (below_step HB2.out hb)
     clear hb
     go_wp2
     go_ret
     exact ⟨by rw [← HH']; simp [d1, d2], HB3.out⟩
  ·have c1b : decide ((j : Int) < (l0_5.length : Int)) = true := decide_eq_true (by omega)
   have c0b : decide (0 ≤ (j : Int)) = true := decide_eq_true (by omega)
   have hx : l0_5[j]? = .some (rd_T23 l0_5 j) := by
    unfold rd_T23
    rw [Int.toNat_natCast, List.getD_eq_getElem?_getD, List.getElem?_eq_getElem c1]
    rfl
   have hm : rd_T23 l0_5 j ∈ l0_5 := List.mem_of_getElem? hx
   obtain ⟨ad, e0, h0, h1, h2, h3⟩ := at_T23 HR.out (j : Int) (by omega) (by omega)
   cases e0
   replace h0 := (HB.out.cell (World.block_lt_of_cell? w _ h0)).trans h0
   replace h1 := (HB.out.cell (World.block_lt_of_cell? w _ h1)).trans h1
   replace h2 := (HB.out.cell (World.block_lt_of_cell? w _ h2)).trans h2
   replace h3 := (HB.out.cell (World.block_lt_of_cell? w _ h3)).trans h3
   have HX := Aside0.mk (show Go.Maps.setOf (H := Unit) (.lit (.bool true)) ((l0_5.take (j + 1)).map item_Whole.kl) = (Go.Maps.setOf (.lit (.bool true)) ((l0_5.take j).map item_Whole.kl)).put (item_Whole.kl (rd_T23 l0_5 j)) (.lit (.bool true)) by
    rw [List.take_add_one, hx, List.map_append]
    exact Go.Maps.setOf_snoc _ _ _)
   have HY := Aside0.mk (HKEY.out _ hm)
   clear hx hm
   generalize rd_T23 l0_5 j = x at *
   obtain ⟨x0, x1, x2, x3⟩ := x
   simp only [Int.toNat_natCast] at h0 h1 h2 h3
   have HM1 := Aside0.mk (HM.out.alloc (Obj.cells #[.string x0, .string x1, .string x2, .bool x3] 23))
   have HB1 := Aside0.mk (below_alloc HB.out (Obj.cells #[.string x0, .string x1, .string x2, .bool x3] 23))
   have HBK1 := Aside0.mk (blk_alloc HBK.out (Obj.cells #[.string x0, .string x1, .string x2, .bool x3] 23))
   go_wp2_with (first | (at_mapUpdate; refine wpList_mapUpdate_own _ rfl _ _ _ 86 rfl 88 4 item_Whole.keyed Try.underlying86 (plainElem (H := Unit) Try.prog 4) (w.heap.size + 1) j _ rfl HM1.out (by unfold maxLen; omega) _ _ (item_Whole.kl ⟨x0, x1, x2, x3⟩) rfl rfl HY.out (.lit (.bool true)) [] (plainElem_bool Try.underlying4 true) ?_; intro w1 hown1 hgrow1; have HM2 := Aside0.mk hown1; have HG := Aside0.mk hgrow1; clear hown1 hgrow1))
   have hb1 := Aside0.mk (item_Whole.grown_below HB1.out HG.out (by omega))
   have hbk := Aside0.mk ((HG.out.block _ (blk_lt HBK1.out) (by simp)).trans HBK1.out)
   clear HB1 HG HBK1 HM1
   go_roundg (l0_5.length - (j + 1))
   case measure => have := HK.out; omega
   case rel => exact ⟨j + 1, by first | rfl | (rw [show ((j + 1 : Nat) : Int) = (j : Int) + 1 by omega]; rfl) | (rw [show ((j + 1 : Nat) : Int) = (j : Int) + 1 by omega]; congr 1; exact wrap64_id (by omega) (by omega)), ⟨by omega⟩, ⟨by omega⟩, hbk, ⟨by rw [HX.out]; exact HM2.out⟩, hb1⟩
def numL (a0 : Int) (n : Nat) : List Int := (List.range n).map fun k => a0 / (2 ^ (8 * (n - 1 - k)) : Nat) % 256
def pack_Number.f (a0 a1 : Int) : Option (ByteArray) := if a1 < 1 then some (⟨#[]⟩ : ByteArray) else if 8 < a1 then some (⟨#[]⟩ : ByteArray) else some (strOfNums (numL a0 a1.toNat))
theorem conv_arr (P : Program) (src dst e T : TypeId) (hs : P.underlying src = some (.slice e)) (he : P.underlying e = some (.int .u8)) (hd : P.underlying dst = some .string) (w : World) (xs : List Int) (n c : Nat) (hn : n ≤ xs.length) :
  (convert src dst (.slice (some ⟨w.heap.size, 0, none⟩) n c)).run P (w.alloc (.cells (xs.map (Value.int .u8)).toArray T)) = .ok (.string (strOfNums (xs.take n))) (w.alloc (.cells (xs.map (Value.int .u8)).toArray T)) := by
 refine run_convert_bytes_arg _ src e hs he w.heap.size 0 n c (xs.take n) (by simp; omega) (fun i hi => ?_) dst hd
 rw [Nat.zero_add]
 have hlt : i < xs.length := by omega
 rw [World.cell?_alloc_at (hn := rfl)]
 simp [hi, hlt]
theorem pack_Number.none_ (a0 a1 : Int) (h : a1 < 1 ∨ 8 < a1) (w : World) :
  Calls Try.prog 36 #[.int .u64 a0, .int .i64 a1] w fun e w' => e = .returned (.string ⟨#[]⟩) ∧ Below w.heap.size w w' := by
 rcases h with h | h
 ·have b1 : decide (a1 < 1) = true := decide_eq_true h
  go_enter Try.func36, Try.ntmps36
  go_wp2
  go_ret
  exact ⟨rfl, Below.refl _ _⟩
 ·have b1 : decide (a1 < 1) = false := decide_eq_false (by omega)
  have b2 : decide (8 < a1) = true := decide_eq_true h
  go_enter Try.func36, Try.ntmps36
  go_wp2
  go_ret
  exact ⟨rfl, Below.refl _ _⟩
set_option maxHeartbeats 4000000 in
theorem pack_Number.some_ (a0 : Int) (n : Nat) (h1 : 1 ≤ n) (h8 : n ≤ 8) (w : World) :
  Calls Try.prog 36 #[.int .u64 a0, .int .i64 (n : Int)] w fun e w' => e = .returned (.string (strOfNums (numL a0 n))) ∧ Below w.heap.size w w' := by
 have hcv := fun x0 x1 x2 x3 x4 x5 x6 x7 m (hm : m ≤ [x0, x1, x2, x3, x4, x5, x6, x7].length) => conv_arr Try.prog 76 9 5 113 Try.underlying76 Try.underlying5 Try.underlying9 w [x0, x1, x2, x3, x4, x5, x6, x7] m 8 hm
 simp only [List.map_cons, List.map_nil] at hcv
 obtain rfl | rfl | rfl | rfl | rfl | rfl | rfl | rfl : n = 1 ∨ n = 2 ∨ n = 3 ∨ n = 4 ∨ n = 5 ∨ n = 6 ∨ n = 7 ∨ n = 8 := by omega
 ·replace hcv := fun x0 x1 x2 x3 x4 x5 x6 x7 => hcv x0 x1 x2 x3 x4 x5 x6 x7 1 (by simp)
  simp only [List.take] at hcv
  go_enter Try.func36, Try.ntmps36
  go_wp2
  refine wp_loop_rounds 2 ?_
  iterate 2 (rw [rounds_succ]; go_wp2)
  go_ret
  exact ⟨by simp [numL, List.range, List.range.loop], (Below.refl _ _).alloc (Nat.le_refl _) _⟩
 ·replace hcv := fun x0 x1 x2 x3 x4 x5 x6 x7 => hcv x0 x1 x2 x3 x4 x5 x6 x7 2 (by simp)
  simp only [List.take] at hcv
  go_enter Try.func36, Try.ntmps36
  go_wp2
  refine wp_loop_rounds 3 ?_
  iterate 3 (rw [rounds_succ]; go_wp2)
  go_ret
  exact ⟨by simp [numL, List.range, List.range.loop], (Below.refl _ _).alloc (Nat.le_refl _) _⟩
 ·replace hcv := fun x0 x1 x2 x3 x4 x5 x6 x7 => hcv x0 x1 x2 x3 x4 x5 x6 x7 3 (by simp)
  simp only [List.take] at hcv
  go_enter Try.func36, Try.ntmps36
  go_wp2
  refine wp_loop_rounds 4 ?_
  iterate 4 (rw [rounds_succ]; go_wp2)
  go_ret
  exact ⟨by simp [numL, List.range, List.range.loop], (Below.refl _ _).alloc (Nat.le_refl _) _⟩
 ·replace hcv := fun x0 x1 x2 x3 x4 x5 x6 x7 => hcv x0 x1 x2 x3 x4 x5 x6 x7 4 (by simp)
  simp only [List.take] at hcv
  go_enter Try.func36, Try.ntmps36
  go_wp2
  refine wp_loop_rounds 5 ?_
  iterate 5 (rw [rounds_succ]; go_wp2)
  go_ret
  exact ⟨by simp [numL, List.range, List.range.loop], (Below.refl _ _).alloc (Nat.le_refl _) _⟩
 ·replace hcv := fun x0 x1 x2 x3 x4 x5 x6 x7 => hcv x0 x1 x2 x3 x4 x5 x6 x7 5 (by simp)
  simp only [List.take] at hcv
  go_enter Try.func36, Try.ntmps36
  go_wp2
  refine wp_loop_rounds 6 ?_
  iterate 6 (rw [rounds_succ]; go_wp2)
  go_ret
  exact ⟨by simp [numL, List.range, List.range.loop], (Below.refl _ _).alloc (Nat.le_refl _) _⟩
 ·replace hcv := fun x0 x1 x2 x3 x4 x5 x6 x7 => hcv x0 x1 x2 x3 x4 x5 x6 x7 6 (by simp)
  simp only [List.take] at hcv
  go_enter Try.func36, Try.ntmps36
  go_wp2
  refine wp_loop_rounds 7 ?_
  iterate 7 (rw [rounds_succ]; go_wp2)
  go_ret
  exact ⟨by simp [numL, List.range, List.range.loop], (Below.refl _ _).alloc (Nat.le_refl _) _⟩
 ·replace hcv := fun x0 x1 x2 x3 x4 x5 x6 x7 => hcv x0 x1 x2 x3 x4 x5 x6 x7 7 (by simp)
  simp only [List.take] at hcv
  go_enter Try.func36, Try.ntmps36
  go_wp2
  refine wp_loop_rounds 8 ?_
  iterate 8 (rw [rounds_succ]; go_wp2)
  go_ret
  exact ⟨by simp [numL, List.range, List.range.loop], (Below.refl _ _).alloc (Nat.le_refl _) _⟩
 ·replace hcv := fun x0 x1 x2 x3 x4 x5 x6 x7 => hcv x0 x1 x2 x3 x4 x5 x6 x7 8 (by simp)
  simp only [List.take] at hcv
  go_enter Try.func36, Try.ntmps36
  go_wp2
  refine wp_loop_rounds 9 ?_
  iterate 9 (rw [rounds_succ]; go_wp2)
  go_ret
  exact ⟨by simp [numL, List.range, List.range.loop], (Below.refl _ _).alloc (Nat.le_refl _) _⟩
theorem pack_Number.calls (a0 : Int) (a1 : Int) (r : ByteArray) (w : World) (h : pack_Number.f a0 a1 = some r) :
  Calls Try.prog 36 #[.int .u64 a0, .int .i64 a1] w fun e w' => e = .returned (.string r) ∧ Below w.heap.size w w' := by
 unfold pack_Number.f at h
 by_cases c1 : a1 < 1
 ·rw [if_pos c1] at h
  obtain rfl := Option.some.inj h
  exact pack_Number.none_ a0 a1 (.inl c1) w
 ·rw [if_neg c1] at h
  by_cases c2 : 8 < a1
  ·rw [if_pos c2] at h
   obtain rfl := Option.some.inj h
   exact pack_Number.none_ a0 a1 (.inr c2) w
  ·rw [if_neg c2] at h
   obtain rfl := Option.some.inj h
   obtain ⟨n, rfl⟩ := Int.eq_ofNat_of_zero_le (show 0 ≤ a1 by omega)
   rw [Int.toNat_natCast]
   exact pack_Number.some_ a0 n (by omega) (by omega) w
def pack_Vary.l0 : Nat → Int → List Int → Option (ByteArray)
 | 0, _, _ => none
 | k + 1, x0, x3 => if x0 ≥ 128 then (if x3.length < 140737488355328 then (pack_Vary.l0 k (x0 / 128) (x3 ++ [Go.bits .or .u8 ((x0) % 256) 128])) else (none)) else (if x3.length < 140737488355328 then (some (strOfNums (x3 ++ [(x0) % 256]))) else (none))
def pack_Vary.f (k : Nat) (a0 : Int) : Option (ByteArray) := pack_Vary.l0 k a0 ([] : List Int)
theorem pack_Vary.mono_l : ∀ k, (∀ y0 y1, LeO (pack_Vary.l0 k y0 y1) (pack_Vary.l0 (k + 1) y0 y1))
 | 0 => fun _ _ r h => by simp [pack_Vary.l0] at h
 | k + 1 => by
  have ih0 := pack_Vary.mono_l k
  ·intro y0 y1
   unfold pack_Vary.l0
   repeat' first
   | (with_reducible exact ih0 _ _)
   | (with_reducible exact LeO.refl _)
   | (with_reducible exact LeO.none _)
   | (with_reducible refine LeO.ite ?_ ?_)
   | (with_reducible refine LeO.bind ?_ (fun _ => ?_))
   | exact ih0 _ _
   | exact LeO.none _
   | refine LeO.ite ?_ ?_
   | refine LeO.bind ?_ (fun _ => ?_)
theorem pack_Vary.mono : ∀ a0 k, LeO (pack_Vary.f k a0) (pack_Vary.f (k + 1) a0) := by
 intro a0 k
 have ih0 := pack_Vary.mono_l k
 unfold pack_Vary.f
 repeat' first
   | (with_reducible exact ih0 _ _)
   | (with_reducible exact LeO.refl _)
   | (with_reducible exact LeO.none _)
   | (with_reducible refine LeO.ite ?_ ?_)
   | (with_reducible refine LeO.bind ?_ (fun _ => ?_))
   | exact ih0 _ _
   | exact LeO.none _
   | refine LeO.ite ?_ ?_
   | refine LeO.bind ?_ (fun _ => ?_)
set_option maxHeartbeats 8000000 in
set_option maxRecDepth 100000 in
theorem pack_Vary.calls (k : Nat) (a0 : Int) (r : ByteArray) (w : World) (h : pack_Vary.f k a0 = some r) :
  Calls Try.prog 60 #[.int .u64 a0] w fun e w' => e = .returned (.string r) ∧ Below w.heap.size w w' := by
 have HB := Aside0.mk (Below.refl w.heap.size w)
 have H : (pack_Vary.l0 k a0 ([] : List Int)) = some r := h
 clear h
 have H' := Aside0.mk H
 clear H
 go_enter Try.func60, Try.ntmps60
 go_wp2
 go_loopg [0, 3] k (fun kq v0 v3 w' => ∃ (x0_1 : Int) (x3_1 : List Int), v0 = .int .u64 x0_1 ∧ Aside0 (pack_Vary.l0 kq x0_1 x3_1 = some r) ∧ Aside0 (kq ≤ k) ∧ Aside0 (Kd.R (Kd.int .u8) 5 w' w.heap.size (fun _ => True) v3 x3_1) ∧ Aside0 (Below w.heap.size w w'))
 case atStart => exact ⟨(a0), (([] : List Int)), (by first | rfl | (simp; done) | (simp [*]; done)), H', ⟨Nat.le_refl _⟩, ⟨by first | exact Kd.R_nil _ _ _ _ _ | exact Kd.N_nil _ _ _ _ _ | exact Kd.V_nil _ _ _ _ _ | exact Kd.Q_nil _ _ _ _ _ | exact Kd.S_nil _ _ _ _ _⟩, ⟨Ky_ HB⟩⟩
 case round =>
  clear H'
  obtain ⟨x0_1, x3_1, rfl, HA, HK1, HO_3, HB⟩ := hrel
  cases gk with
  | zero => exact absurd HA.out (by simp [pack_Vary.l0])
  | succ k1 =>
   have H := HA.out
   clear HA
   simp only [pack_Vary.l0] at H
   by_cases c2 : x0_1 ≥ 128
   rotate_left
   ·rw [if_neg c2] at H
    have c2b0 : decide (128 ≤ x0_1) = false := decide_eq_false c2
    clear c2
    by_cases c5 : x3_1.length < 140737488355328
    rotate_left
    ·rw [if_neg c5] at H
     exact absurd H (by simp)
    rw [if_pos c5] at H
    have LMc5 := Aside0.mk c5
    clear c5
    obtain ⟨y120, hy120⟩ : ∃ y_ : List Int, y_ = (x3_1 ++ [(x0_1) % 256]) := ⟨_, rfl⟩
    replace H : (some (strOfNums y120)) = some r := by first | (rw [hy120]; with_reducible exact H) | (have H2_ := (Option.bind_some _ _).symm.trans H; rw [hy120]; with_reducible exact H2_) | (have H2_ := (Option.bind_some _ _).symm.trans H; with_reducible exact H2_) | with_reducible exact H | (rw [hy120]; exact H) | exact H
    have Ny120 := Aside0.mk hy120
    clear hy120
    obtain rfl := Option.some.inj H
    go_wp2_with (first | ((with_reducible refine gate_builtin (b := .append) (xs := #[.tmp 14, .tmp 17]) rfl ?_); at_builtin; refine Kd.R_append (Kd.int .u8) (w0 := w) w.heap.size rfl (.tmp 14) (.tmp 17) 76 5 (.int .u8 0) 1 rfl Try.underlying76 info5 rfl (by decide) (by omega) u3 x3_1 ((x0_1) % 256) [.int .u8 ((x0_1) % 256)] (fun _ => True) (fun _ => False) rfl rfl ?aP (fun _ hk => hk.elim) ?aF ?aO ?aB ?aS ?aL ?_; (case aP => exact rfl); (case aB => exact (Ky_ HB)); (case aF => exact (fun _ _ => trivial)); (case aO => exact (Ku_ HO_3)); (case aS => exact (below_size (Ky_ HB))); (case aL => have := LMc5.out; omega); intro v121 w6 ho hb hg hat; rw [← Ny120.out] at ho; have HO122 := Aside0.mk (ho); replace HB := Aside0.mk (hb); clear HO_3; clear ho hb hg hat; have hcv7 := own_string (P := Try.prog) Try.underlying76 Try.underlying5 Try.underlying9 (Kd.own_of_R HO122.out)))
    go_ret
    exact ⟨Kh_, Ky_ HB⟩
   rw [if_pos c2] at H
   have c2b0 : decide (128 ≤ x0_1) = true := decide_eq_true c2
   clear c2
   by_cases c3 : x3_1.length < 140737488355328
   rotate_left
   ·rw [if_neg c3] at H
    exact absurd H (by simp)
   rw [if_pos c3] at H
   have LMc3 := Aside0.mk c3
   clear c3
   obtain ⟨y117, hy117⟩ : ∃ y_ : List Int, y_ = (x3_1 ++ [Go.bits .or .u8 ((x0_1) % 256) 128]) := ⟨_, rfl⟩
   replace H : (pack_Vary.l0 k1 (x0_1 / 128) y117) = some r := by first | (rw [hy117]; with_reducible exact H) | (have H2_ := (Option.bind_some _ _).symm.trans H; rw [hy117]; with_reducible exact H2_) | (have H2_ := (Option.bind_some _ _).symm.trans H; with_reducible exact H2_) | with_reducible exact H | (rw [hy117]; exact H) | exact H
   have Ny117 := Aside0.mk hy117
   clear hy117
   have H' := Aside0.mk H
   clear H
   go_wp2_with (first | ((with_reducible refine gate_builtin (b := .append) (xs := #[.tmp 8, .tmp 12]) rfl ?_); at_builtin; refine Kd.R_append (Kd.int .u8) (w0 := w) w.heap.size rfl (.tmp 8) (.tmp 12) 76 5 (.int .u8 0) 1 rfl Try.underlying76 info5 rfl (by decide) (by omega) u3 x3_1 (Go.bits .or .u8 ((x0_1) % 256) 128) [.int .u8 (Go.bits .or .u8 ((x0_1) % 256) 128)] (fun _ => True) (fun _ => False) rfl rfl ?aP (fun _ hk => hk.elim) ?aF ?aO ?aB ?aS ?aL ?_; (case aP => exact rfl); (case aB => exact (Ky_ HB)); (case aF => exact (fun _ _ => trivial)); (case aO => exact (Ku_ HO_3)); (case aS => exact (below_size (Ky_ HB))); (case aL => have := LMc3.out; omega); intro v118 w4 ho hb hg hat; rw [← Ny117.out] at ho; have HO119 := Aside0.mk (ho); replace HB := Aside0.mk (hb); clear HO_3; clear ho hb hg hat))
   go_roundg k1
   case measure => have := HK1.out; omega
   case rel => exact ⟨(x0_1 / 128), (y117), (by first | rfl | (simp; done) | (simp [*]; done)), H', ⟨by have := HK1.out; omega⟩, ⟨by (with_reducible repeat (first | apply Kd.R_alloc | apply Kd.R_drewN | apply Kd.R_drew)); exact HO119.out⟩, ⟨Ky_ HB⟩⟩
def vec_Put.f (k : Nat) (a0_0 a0_1 a0_2 a0_3 : Int) : Option ByteArray :=
 (pack_Vary.f k a0_0).bind fun t0 => (pack_Vary.f k a0_1).bind fun t1 => (pack_Vary.f k a0_2).bind fun t2 => (pack_Vary.f k a0_3).bind fun t3 =>
  if t0.size + t1.size + t2.size + t3.size ≤ 9223372036854775807 then some (t0 ++ t1 ++ t2 ++ t3) else none
theorem vec_Put.mono : ∀ a0 a1 a2 a3 k, LeO (vec_Put.f k a0 a1 a2 a3) (vec_Put.f (k + 1) a0 a1 a2 a3) := by
 intro a0 a1 a2 a3 k
 unfold vec_Put.f
 repeat' first
   | exact pack_Vary.mono _ _
   | exact LeO.refl _
   | exact LeO.none _
   | refine LeO.ite ?_ ?_
   | refine LeO.bind ?_ (fun _ => ?_)
theorem vec_Put.at_ (xs : Array Value) (hn : xs.size = 4) (i : Nat) (v : Value) (W : World) (h : xs[i]? = some v) :
  (Instr.index 28 (.agg xs) (.int .i64 (i : Int))).run Try.prog W = .ok v W := by
 have hu := Try.underlying28
 have hi : i < 4 := by
  have := (Array.getElem?_eq_some_iff.1 h).1
  omega
 have hs : (sizeOf 26).run Try.prog W = .ok 1 W := by go_simp
 have hp : (part 26 xs i).run Try.prog W = .ok v W := by
  unfold part
  go_simp
  exact (Array.getElem?_eq_some_iff.1 h).2
 simp [Instr.index, asIntOf, Sem.run_bind, run_underlying hu, hs, hp, hi]
set_option maxHeartbeats 8000000 in
set_option maxRecDepth 100000 in
theorem vec_Put.calls (k : Nat) (a0_0 a0_1 a0_2 a0_3 : Int) (r : ByteArray) (w : World) (h : vec_Put.f k a0_0 a0_1 a0_2 a0_3 = some r) :
  Calls Try.prog 59 #[.agg #[.int .u64 a0_0, .int .u64 a0_1, .int .u64 a0_2, .int .u64 a0_3]] w fun e w' => e = .returned (.string r) ∧ Below w.heap.size w w' := by
 unfold vec_Put.f at h
 obtain ⟨t0, A0, h⟩ := Option.bind_eq_some_iff.1 h
 obtain ⟨t1, A1, h⟩ := Option.bind_eq_some_iff.1 h
 obtain ⟨t2, A2, h⟩ := Option.bind_eq_some_iff.1 h
 obtain ⟨t3, A3, h⟩ := Option.bind_eq_some_iff.1 h
 by_cases hz : t0.size + t1.size + t2.size + t3.size ≤ 9223372036854775807
 ·rw [if_pos hz] at h
  obtain rfl := Option.some.inj h
  have z0 : t0.size ≤ 9223372036854775807 := by omega
  have z1 : t0.size + t1.size ≤ 9223372036854775807 := by omega
  have z2 : t0.size + t1.size + t2.size ≤ 9223372036854775807 := by omega
  replace A0 := Aside0.mk A0
  replace A1 := Aside0.mk A1
  replace A2 := Aside0.mk A2
  replace A3 := Aside0.mk A3
  clear h
  have hu := Try.underlying28
  have hu2 := Try.underlying26
  have x0 := fun W => vec_Put.at_ #[.int .u64 a0_0, .int .u64 a0_1, .int .u64 a0_2, .int .u64 a0_3] rfl 0 (.int .u64 a0_0) W rfl
  have x1 := fun W => vec_Put.at_ #[.int .u64 a0_0, .int .u64 a0_1, .int .u64 a0_2, .int .u64 a0_3] rfl 1 (.int .u64 a0_1) W rfl
  have x2 := fun W => vec_Put.at_ #[.int .u64 a0_0, .int .u64 a0_1, .int .u64 a0_2, .int .u64 a0_3] rfl 2 (.int .u64 a0_2) W rfl
  have x3 := fun W => vec_Put.at_ #[.int .u64 a0_0, .int .u64 a0_1, .int .u64 a0_2, .int .u64 a0_3] rfl 3 (.int .u64 a0_3) W rfl
  simp only [Int.ofNat_eq_natCast, Int.cast_ofNat_Int] at x0 x1 x2 x3
  go_enter Try.func59, Try.ntmps59
  go_wp2
  generalize hW : (w.alloc (Obj.cells _ _)) = W0
  have HB : Below w.heap.size w W0 := by rw [← hW]; exact below_alloc (Below.refl _ _) _
  replace HB := Aside0.mk HB
  clear hW
  refine wp_loop_rounds 5 ?_
  rw [rounds_succ]
  go_wp2_with (go_at_call 60; refine (pack_Vary.calls k _ t0 _ A0.out).mono ?_; rintro e w1 ⟨rfl, hb⟩; have HB1 := Aside0.mk (below_step HB.out hb); clear hb)
  rw [rounds_succ]
  go_wp2_with (go_at_call 60; refine (pack_Vary.calls k _ t1 _ A1.out).mono ?_; rintro e w2 ⟨rfl, hb⟩; have HB2 := Aside0.mk (below_step HB1.out hb); clear hb)
  rw [rounds_succ]
  go_wp2_with (go_at_call 60; refine (pack_Vary.calls k _ t2 _ A2.out).mono ?_; rintro e w3 ⟨rfl, hb⟩; have HB3 := Aside0.mk (below_step HB2.out hb); clear hb)
  rw [rounds_succ]
  go_wp2_with (go_at_call 60; refine (pack_Vary.calls k _ t3 _ A3.out).mono ?_; rintro e w4 ⟨rfl, hb⟩; have HB4 := Aside0.mk (below_step HB3.out hb); clear hb)
  rw [rounds_succ]
  go_wp2
  go_ret
  exact ⟨by first | rfl | simp, HB4.out⟩
 ·rw [if_neg hz] at h
  exact absurd h (by simp)
end Go.Proofs.Ytoogchgoiciggaa.Q
