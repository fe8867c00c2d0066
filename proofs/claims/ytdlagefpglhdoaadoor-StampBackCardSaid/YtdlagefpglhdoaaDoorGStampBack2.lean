import Derived.Test.YtdlagefpglhdoaaDoorQx0
import Derived.Test.YtdlagefpglhdoaaDoorGStampBack0
import Derived.Test.YtdlagefpglhdoaaDoorGStampBack1
import Derived.Test.YtdlagefpglhdoaaDoorWAMore
import Derived.Deep.Slices
import Derived.OpenShut
import Derived.SizedLaws
import Derived.ChangeArms
import Derived.WideShapes
import Derived.ChangeShapes
import Derived.KernelRfl
import Derived.Laws.BitsAllLaws
-- Written by this session's own driver (wip/hybrid.py) of the kit's printer; contracts marked FOREIGN are by hand.
namespace Go.Proofs.YtdlagefpglhdoaaDoor.Q
open Go.RowKit Go.Proofs.YtdlagefpglhdoaaDoorW.PrintWords Go.Proofs.YtdlagefpglhdoaaDoorW.PrintLast Go.Proofs.YtdlagefpglhdoaaDoorW.PrintMore
attribute [local go_sem] max2_int min2_int max_two min_two max_three min_three max_four min_four   -- for this text's walks alone
set_option linter.unusedVariables false
set_option linter.unusedSimpArgs false

attribute [local go_sem high] eqA26
/-! ### stamp_Order: function 21 -/
-- FOREIGN: a drawn region with six calls, slices of arrays in boxes
def stamp_Order.f (k : Nat) (a0_0 a0_1 a0_2 a0_3 a0_4 a1_0 a1_1 a1_2 a1_3 a1_4 : Int) : Option Int :=
  if ((a0_0 == a1_0 && (a0_1 == a1_1 && (a0_2 == a1_2 && (a0_3 == a1_3)))) && (a0_4 == a1_4)) = true then some 0 else
  (vec_Sum.f a0_0 a0_1 a0_2 a0_3).bind fun s => (vec_Sum.f a1_0 a1_1 a1_2 a1_3).bind fun t => (cmp_Compare_uint64.f s t).bind fun c => (cmp_Compare_int.f a0_4 a1_4).bind fun d =>
  (slices_Compare_uint64_uint64.f k ([a0_0, a0_1, a0_2, a0_3] : List Int) ([a1_0, a1_1, a1_2, a1_3] : List Int)).bind fun e => cmp_Or_int.f k ([c, d, e] : List Int)
theorem stamp_Order.mono : ∀ a0_0 a0_1 a0_2 a0_3 a0_4 a1_0 a1_1 a1_2 a1_3 a1_4 k, LeO (stamp_Order.f k a0_0 a0_1 a0_2 a0_3 a0_4 a1_0 a1_1 a1_2 a1_3 a1_4) (stamp_Order.f (k + 1) a0_0 a0_1 a0_2 a0_3 a0_4 a1_0 a1_1 a1_2 a1_3 a1_4) := by
  intro a0_0 a0_1 a0_2 a0_3 a0_4 a1_0 a1_1 a1_2 a1_3 a1_4 k
  unfold stamp_Order.f
  repeat' first
      | exact slices_Compare_uint64_uint64.mono _ _ _
      | exact cmp_Or_int.mono _ _
      | exact LeO.refl _
      | exact LeO.none _
      | refine LeO.ite ?_ ?_
      | refine LeO.bind ?_ (fun _ => ?_)
theorem stamp_Order.boxes2 (w : World) (xs ys : Array Value) (t : TypeId) (W : World) (h : (w.alloc (.cells xs t)).alloc (.cells ys t) = W) :
    W.heap[w.heap.size]? = some (.cells xs t (0, 0)) ∧ W.heap[w.heap.size + 1]? = some (.cells ys t (0, 0)) ∧ Below w.heap.size w W := by
  subst h
  have s1 : (w.alloc (.cells xs t)).heap.size = w.heap.size + 1 := by simp [World.alloc, -World.alloc_eq]
  refine ⟨?_, ?_, below_alloc (below_alloc (Below.refl _ _) _) _⟩
  · exact blk_alloc (blk_new w _) _
  · have h := blk_new (w.alloc (.cells xs t)) (.cells ys t)
    rw [s1] at h
    exact h
theorem stamp_Order.row {W : World} {g t : Nat} {a b c d e : Int} (h : W.heap[g]? = some (.cells #[.int .u64 a, .int .u64 b, .int .u64 c, .int .u64 d, .int .i64 e] t (0, 0))) :
    Kd.C (Kd.int .u64) W (some ⟨g, 0, none⟩) ([a, b, c, d] : List Int).length ([a, b, c, d] : List Int) := by
  refine ⟨rfl, by simp, fun _ => ⟨⟨g, 0, none⟩, rfl, fun j p hj => ?_⟩⟩
  have hc := blk_cell h
  have one : ∀ (j : Nat) (x : Int), W.cell? ⟨g, j, none⟩ = some (.int .u64 x) → ∃ c, c.length = (Kd.int .u64).sz ∧ (Kd.int .u64).K W x c ∧ ∀ (i : Nat) u, c[i]? = some u → W.cell? ((⟨g, 0, none⟩ : Addr).add (j * (Kd.int .u64).sz + i)) = some u := by
    intro j x hx
    refine ⟨[.int .u64 x], rfl, rfl, fun i u hi => ?_⟩
    cases i with
    | zero =>
      obtain rfl := Option.some.inj hi
      show W.cell? ((⟨g, 0, none⟩ : Addr).add (j * 1 + 0)) = _
      rw [add_plain, Nat.mul_one, Nat.add_zero]
      exact hx
    | succ i => simp at hi
  match j, hj with
  | 0, hj => obtain rfl := Option.some.inj hj; exact one 0 _ ((hc 0).trans rfl)
  | 1, hj => obtain rfl := Option.some.inj hj; exact one 1 _ ((hc 1).trans rfl)
  | 2, hj => obtain rfl := Option.some.inj hj; exact one 2 _ ((hc 2).trans rfl)
  | 3, hj => obtain rfl := Option.some.inj hj; exact one 3 _ ((hc 3).trans rfl)
  | j + 4, hj => simp at hj
set_option maxHeartbeats 8000000 in
set_option maxRecDepth 100000 in
theorem stamp_Order.calls (k : Nat) (a0_0 a0_1 a0_2 a0_3 a0_4 a1_0 a1_1 a1_2 a1_3 a1_4 : Int) (r : Int) (w : World) (h : stamp_Order.f k a0_0 a0_1 a0_2 a0_3 a0_4 a1_0 a1_1 a1_2 a1_3 a1_4 = some r) :
    Calls Tryd.prog 21 #[.agg #[.int .u64 a0_0, .int .u64 a0_1, .int .u64 a0_2, .int .u64 a0_3, .int .i64 a0_4], .agg #[.int .u64 a1_0, .int .u64 a1_1, .int .u64 a1_2, .int .u64 a1_3, .int .i64 a1_4]] w fun e w' => e = .returned (.int .i64 r) ∧ Below w.heap.size w w' := by
  have hus := Tryd.underlying26
  have huv := Tryd.underlying24
  have hal : Tryd.prog.arrayLen 24 = 4 := by simp [Program.arrayLen, huv]
  unfold stamp_Order.f at h
  by_cases c : ((a0_0 == a1_0 && (a0_1 == a1_1 && (a0_2 == a1_2 && (a0_3 == a1_3)))) && (a0_4 == a1_4)) = true
  · rw [if_pos c] at h
    obtain rfl := Option.some.inj h
    go_enter Tryd.func21, Tryd.ntmps21
    go_wp2
    go_ret
    exact ⟨by first | rfl | simp, by repeat (first | exact Below.refl _ _ | apply below_alloc | apply pw_below_drewN | apply below_drew1)⟩
  rw [if_neg c] at h
  have cf : ((a0_0 == a1_0 && (a0_1 == a1_1 && (a0_2 == a1_2 && (a0_3 == a1_3)))) && (a0_4 == a1_4)) = false := by simpa using c
  clear c
  obtain ⟨s_, A1, h⟩ := Option.bind_eq_some_iff.1 h
  obtain ⟨t_, A2, h⟩ := Option.bind_eq_some_iff.1 h
  obtain ⟨c_, A3, h⟩ := Option.bind_eq_some_iff.1 h
  obtain ⟨d_, A4, h⟩ := Option.bind_eq_some_iff.1 h
  obtain ⟨e_, A5, h⟩ := Option.bind_eq_some_iff.1 h
  replace A1 := Aside0.mk A1
  replace A2 := Aside0.mk A2
  replace A3 := Aside0.mk A3
  replace A4 := Aside0.mk A4
  replace A5 := Aside0.mk A5
  have A6 := Aside0.mk h
  clear h
  go_enter Tryd.func21, Tryd.ntmps21
  go_wp2
  generalize hW : ((w.alloc (Obj.cells _ _)).alloc (Obj.cells _ _)) = W0
  obtain ⟨ha, hb, hB⟩ := stamp_Order.boxes2 w #[.int .u64 a0_0, .int .u64 a0_1, .int .u64 a0_2, .int .u64 a0_3, .int .i64 a0_4] #[.int .u64 a1_0, .int .u64 a1_1, .int .u64 a1_2, .int .u64 a1_3, .int .i64 a1_4] 26 W0 hW
  have BA := Aside0.mk (blk_drew ha)
  have BB := Aside0.mk (blk_drew hb)
  have HB := Aside0.mk (below_drew1 hB)
  clear hW ha hb hB cf
  refine start_ (n := 20) (S := fun w' => w'.cell? ⟨w.heap.size, 0, none⟩ = some (.int .u64 a0_0) ∧ w'.cell? ⟨w.heap.size, 1, none⟩ = some (.int .u64 a0_1) ∧ w'.cell? ⟨w.heap.size, 2, none⟩ = some (.int .u64 a0_2) ∧ w'.cell? ⟨w.heap.size, 3, none⟩ = some (.int .u64 a0_3) ∧ w'.cell? ⟨w.heap.size, 4, none⟩ = some (.int .i64 a0_4) ∧ w'.cell? ⟨w.heap.size + 1, 0, none⟩ = some (.int .u64 a1_0) ∧ w'.cell? ⟨w.heap.size + 1, 1, none⟩ = some (.int .u64 a1_1) ∧ w'.cell? ⟨w.heap.size + 1, 2, none⟩ = some (.int .u64 a1_2) ∧ w'.cell? ⟨w.heap.size + 1, 3, none⟩ = some (.int .u64 a1_3) ∧ w'.cell? ⟨w.heap.size + 1, 4, none⟩ = some (.int .i64 a1_4)) (ds := []) #[false, false, false, false, false, false, false, false, false, false, false, false, false, false, false, false, false, false, false, false] (by kernel_rfl) rfl rfl ⟨(blk_cell BA.out 0).trans rfl, (blk_cell BA.out 1).trans rfl, (blk_cell BA.out 2).trans rfl, (blk_cell BA.out 3).trans rfl, (blk_cell BA.out 4).trans rfl, (blk_cell BB.out 0).trans rfl, (blk_cell BB.out 1).trans rfl, (blk_cell BB.out 2).trans rfl, (blk_cell BB.out 3).trans rfl, (blk_cell BB.out 4).trans rfl⟩ (fun hHeld => ?_)
  generalize W0.drew = W1 at BA BB HB hHeld ⊢
  refine pure_ (i := 0) (N := some 8) (v := ?_) (a' := ?_) #[true, false, false, false, false, false, false, false, false, false, false, false, false, false, false, false, false, false, false, false] rfl rfl (by kernel_rfl) (fun _ _ _ h => h) (Or.inl ⟨by rfl, ?_⟩) ?_ ?_
  rotate_left
  · intro w'
    go_simp
    with_reducible rfl
  rotate_left
  · simp only [Act.put, List.setIfInBounds_toArray, List.set_cons_zero, List.set_cons_succ, i64_w, i32_w]
    rfl
  refine take_ (i := 1) (N := some 9) (v := ?_) (a' := ?_) #[true, true, false, false, false, false, false, false, false, false, false, false, false, false, false, false, false, false, false, false] rfl rfl (by kernel_rfl) (fun _ _ _ h => h) (Or.inl ⟨by rfl, ?_⟩) hHeld ?_ ?_
  rotate_left
  · rintro w' ⟨s0, s1, s2, s3, s4, s5, s6, s7, s8, s9⟩
    go_simp
    with_reducible rfl
  rotate_left
  · simp only [Act.put, List.setIfInBounds_toArray, List.set_cons_zero, List.set_cons_succ, i64_w, i32_w]
    rfl
  refine pure_ (i := 3) (N := some 11) (v := ?_) (a' := ?_) #[true, true, false, true, false, false, false, false, false, false, false, false, false, false, false, false, false, false, false, false] rfl rfl (by kernel_rfl) (fun _ _ _ h => h) (Or.inl ⟨by rfl, ?_⟩) ?_ ?_
  rotate_left
  · intro w'
    go_simp
    with_reducible rfl
  rotate_left
  · simp only [Act.put, List.setIfInBounds_toArray, List.set_cons_zero, List.set_cons_succ, i64_w, i32_w]
    rfl
  refine take_ (i := 4) (N := some 12) (v := ?_) (a' := ?_) #[true, true, false, true, true, false, false, false, false, false, false, false, false, false, false, false, false, false, false, false] rfl rfl (by kernel_rfl) (fun _ _ _ h => h) (Or.inl ⟨by rfl, ?_⟩) hHeld ?_ ?_
  rotate_left
  · rintro w' ⟨s0, s1, s2, s3, s4, s5, s6, s7, s8, s9⟩
    go_simp
    with_reducible rfl
  rotate_left
  · simp only [Act.put, List.setIfInBounds_toArray, List.set_cons_zero, List.set_cons_succ, i64_w, i32_w]
    rfl
  refine pure_ (i := 7) (N := some 15) (v := ?_) (a' := ?_) #[true, true, false, true, true, false, false, true, false, false, false, false, false, false, false, false, false, false, false, false] rfl rfl (by kernel_rfl) (fun _ _ _ h => h) (Or.inl ⟨by rfl, ?_⟩) ?_ ?_
  rotate_left
  · intro w'
    go_simp
    with_reducible rfl
  rotate_left
  · simp only [Act.put, List.setIfInBounds_toArray, List.set_cons_zero, List.set_cons_succ, i64_w, i32_w]
    rfl
  refine take_ (i := 8) (N := some 16) (v := ?_) (a' := ?_) #[true, true, false, true, true, false, false, true, true, false, false, false, false, false, false, false, false, false, false, false] rfl rfl (by kernel_rfl) (fun _ _ _ h => h) (Or.inl ⟨by rfl, ?_⟩) hHeld ?_ ?_
  rotate_left
  · rintro w' ⟨s0, s1, s2, s3, s4, s5, s6, s7, s8, s9⟩
    go_simp
    with_reducible rfl
  rotate_left
  · simp only [Act.put, List.setIfInBounds_toArray, List.set_cons_zero, List.set_cons_succ, i64_w, i32_w]
    rfl
  refine pure_ (i := 9) (N := some 17) (v := ?_) (a' := ?_) #[true, true, false, true, true, false, false, true, true, true, false, false, false, false, false, false, false, false, false, false] rfl rfl (by kernel_rfl) (fun _ _ _ h => h) (Or.inl ⟨by rfl, ?_⟩) ?_ ?_
  rotate_left
  · intro w'
    go_simp
    with_reducible rfl
  rotate_left
  · simp only [Act.put, List.setIfInBounds_toArray, List.set_cons_zero, List.set_cons_succ, i64_w, i32_w]
    rfl
  refine take_ (i := 10) (N := some 18) (v := ?_) (a' := ?_) #[true, true, false, true, true, false, false, true, true, true, true, false, false, false, false, false, false, false, false, false] rfl rfl (by kernel_rfl) (fun _ _ _ h => h) (Or.inl ⟨by rfl, ?_⟩) hHeld ?_ ?_
  rotate_left
  · rintro w' ⟨s0, s1, s2, s3, s4, s5, s6, s7, s8, s9⟩
    go_simp
    with_reducible rfl
  rotate_left
  · simp only [Act.put, List.setIfInBounds_toArray, List.set_cons_zero, List.set_cons_succ, i64_w, i32_w]
    rfl
  refine pure_ (i := 12) (N := some 20) (v := ?_) (a' := ?_) #[true, true, false, true, true, false, false, true, true, true, true, false, true, false, false, false, false, false, false, false] rfl rfl (by kernel_rfl) (fun _ _ _ h => h) (Or.inl ⟨by rfl, ?_⟩) ?_ ?_
  rotate_left
  · intro w'
    go_simp
    with_reducible rfl
  rotate_left
  · simp only [Act.put, List.setIfInBounds_toArray, List.set_cons_zero, List.set_cons_succ, i64_w, i32_w]
    rfl
  refine pure_ (i := 13) (N := some 21) (v := ?_) (a' := ?_) #[true, true, false, true, true, false, false, true, true, true, true, false, true, true, false, false, false, false, false, false] rfl rfl (by kernel_rfl) (fun _ _ _ h => h) (Or.inl ⟨by rfl, ?_⟩) ?_ ?_
  rotate_left
  · intro w'
    go_simp; (try simp only [hal])
    with_reducible rfl
  rotate_left
  · simp only [Act.put, List.setIfInBounds_toArray, List.set_cons_zero, List.set_cons_succ, i64_w, i32_w]
    rfl
  refine pure_ (i := 14) (N := some 22) (v := ?_) (a' := ?_) #[true, true, false, true, true, false, false, true, true, true, true, false, true, true, true, false, false, false, false, false] rfl rfl (by kernel_rfl) (fun _ _ _ h => h) (Or.inl ⟨by rfl, ?_⟩) ?_ ?_
  rotate_left
  · intro w'
    go_simp
    with_reducible rfl
  rotate_left
  · simp only [Act.put, List.setIfInBounds_toArray, List.set_cons_zero, List.set_cons_succ, i64_w, i32_w]
    rfl
  refine pure_ (i := 15) (N := some 23) (v := ?_) (a' := ?_) #[true, true, false, true, true, false, false, true, true, true, true, false, true, true, true, true, false, false, false, false] rfl rfl (by kernel_rfl) (fun _ _ _ h => h) (Or.inl ⟨by rfl, ?_⟩) ?_ ?_
  rotate_left
  · intro w'
    go_simp; (try simp only [hal])
    with_reducible rfl
  rotate_left
  · simp only [Act.put, List.setIfInBounds_toArray, List.set_cons_zero, List.set_cons_succ, i64_w, i32_w]
    rfl
  refine one_ (i := 2) (N := some 10) #[true, true, true, true, true, false, false, true, true, true, true, false, true, true, true, true, false, false, false, false] rfl rfl (by kernel_rfl) (by decide) (fun K hK => ?_)
  refine goes_ Tryd.func44 (by kernel_rfl) rfl #[.agg #[.int .u64 a0_0, .int .u64 a0_1, .int .u64 a0_2, .int .u64 a0_3]] (by rfl) rfl rfl (by (try simp only [List.map_toArray, List.map_cons, List.map_nil]); first | done | rfl | (simp only [List.length_drop, List.length_take]; rfl)) ?_
  refine (vec_Sum.calls a0_0 a0_1 a0_2 a0_3 s_ _ A1.out).mono ?_
  rintro e w2 ⟨rfl, hb0⟩
  have hb := (by first | exact hb0 | exact hb0.below : Below _ _ w2)
  clear hb0
  refine ⟨_, rfl, ?_⟩
  have n0_ := Aside0.mk (blk_below (g := w.heap.size) (o := .cells #[.int .u64 a0_0, .int .u64 a0_1, .int .u64 a0_2, .int .u64 a0_3, .int .i64 a0_4] 26 (0, 0)) (by (with_reducible repeat (first | refine blk_drewN ?_ _ | refine blk_drew ?_ | refine blk_alloc ?_ _)); exact BA.out) hb)
  have n1_ := Aside0.mk (blk_below (g := w.heap.size + 1) (o := .cells #[.int .u64 a1_0, .int .u64 a1_1, .int .u64 a1_2, .int .u64 a1_3, .int .i64 a1_4] 26 (0, 0)) (by (with_reducible repeat (first | refine blk_drewN ?_ _ | refine blk_drew ?_ | refine blk_alloc ?_ _)); exact BB.out) hb)
  have n2_ := Aside0.mk (below_step (by repeat (first | (with_reducible first | exact HB.out | apply below_alloc | apply pw_below_drewN | apply below_drew1) | exact HB.out)) hb)
  clear BA BB HB
  have BA := n0_
  have BB := n1_
  have HB := n2_
  clear n0_ n1_ n2_
  clear hb
  refine hK.out _ _ ⟨(blk_cell BA.out 0).trans rfl, (blk_cell BA.out 1).trans rfl, (blk_cell BA.out 2).trans rfl, (blk_cell BA.out 3).trans rfl, (blk_cell BA.out 4).trans rfl, (blk_cell BB.out 0).trans rfl, (blk_cell BB.out 1).trans rfl, (blk_cell BB.out 2).trans rfl, (blk_cell BB.out 3).trans rfl, (blk_cell BB.out 4).trans rfl⟩ (fun hHeld => ?_)
  clear hK K
  refine norm_ (a' := ?_) ?_ ?_
  rotate_left
  · show Act.put _ (some 10) _ = _
    simp only [Act.put, List.setIfInBounds_toArray, List.set_cons_zero, List.set_cons_succ, i64_w, i32_w]
    rfl
  refine one_ (i := 5) (N := some 13) #[true, true, true, true, true, true, false, true, true, true, true, false, true, true, true, true, false, false, false, false] rfl rfl (by kernel_rfl) (by decide) (fun K hK => ?_)
  refine goes_ Tryd.func44 (by kernel_rfl) rfl #[.agg #[.int .u64 a1_0, .int .u64 a1_1, .int .u64 a1_2, .int .u64 a1_3]] (by rfl) rfl rfl (by (try simp only [List.map_toArray, List.map_cons, List.map_nil]); first | done | rfl | (simp only [List.length_drop, List.length_take]; rfl)) ?_
  refine (vec_Sum.calls a1_0 a1_1 a1_2 a1_3 t_ _ A2.out).mono ?_
  rintro e w3 ⟨rfl, hb0⟩
  have hb := (by first | exact hb0 | exact hb0.below : Below _ _ w3)
  clear hb0
  refine ⟨_, rfl, ?_⟩
  have n0_ := Aside0.mk (blk_below (g := w.heap.size) (o := .cells #[.int .u64 a0_0, .int .u64 a0_1, .int .u64 a0_2, .int .u64 a0_3, .int .i64 a0_4] 26 (0, 0)) (by (with_reducible repeat (first | refine blk_drewN ?_ _ | refine blk_drew ?_ | refine blk_alloc ?_ _)); exact BA.out) hb)
  have n1_ := Aside0.mk (blk_below (g := w.heap.size + 1) (o := .cells #[.int .u64 a1_0, .int .u64 a1_1, .int .u64 a1_2, .int .u64 a1_3, .int .i64 a1_4] 26 (0, 0)) (by (with_reducible repeat (first | refine blk_drewN ?_ _ | refine blk_drew ?_ | refine blk_alloc ?_ _)); exact BB.out) hb)
  have n2_ := Aside0.mk (below_step (by repeat (first | (with_reducible first | exact HB.out | apply below_alloc | apply pw_below_drewN | apply below_drew1) | exact HB.out)) hb)
  clear BA BB HB
  have BA := n0_
  have BB := n1_
  have HB := n2_
  clear n0_ n1_ n2_
  clear hb
  refine hK.out _ _ ⟨(blk_cell BA.out 0).trans rfl, (blk_cell BA.out 1).trans rfl, (blk_cell BA.out 2).trans rfl, (blk_cell BA.out 3).trans rfl, (blk_cell BA.out 4).trans rfl, (blk_cell BB.out 0).trans rfl, (blk_cell BB.out 1).trans rfl, (blk_cell BB.out 2).trans rfl, (blk_cell BB.out 3).trans rfl, (blk_cell BB.out 4).trans rfl⟩ (fun hHeld => ?_)
  clear hK K
  refine norm_ (a' := ?_) ?_ ?_
  rotate_left
  · show Act.put _ (some 13) _ = _
    simp only [Act.put, List.setIfInBounds_toArray, List.set_cons_zero, List.set_cons_succ, i64_w, i32_w]
    rfl
  refine one_ (i := 6) (N := some 14) #[true, true, true, true, true, true, true, true, true, true, true, false, true, true, true, true, false, false, false, false] rfl rfl (by kernel_rfl) (by decide) (fun K hK => ?_)
  refine goes_ Tryd.func43 (by kernel_rfl) rfl #[.int .u64 s_, .int .u64 t_] (by rfl) rfl rfl (by (try simp only [List.map_toArray, List.map_cons, List.map_nil]); first | done | rfl | (simp only [List.length_drop, List.length_take]; rfl)) ?_
  refine (cmp_Compare_uint64.calls s_ t_ c_ _ A3.out).mono ?_
  rintro e w4 ⟨rfl, hb0⟩
  have hb := (by first | exact hb0 | exact hb0.below : Below _ _ w4)
  clear hb0
  refine ⟨_, rfl, ?_⟩
  have n0_ := Aside0.mk (blk_below (g := w.heap.size) (o := .cells #[.int .u64 a0_0, .int .u64 a0_1, .int .u64 a0_2, .int .u64 a0_3, .int .i64 a0_4] 26 (0, 0)) (by (with_reducible repeat (first | refine blk_drewN ?_ _ | refine blk_drew ?_ | refine blk_alloc ?_ _)); exact BA.out) hb)
  have n1_ := Aside0.mk (blk_below (g := w.heap.size + 1) (o := .cells #[.int .u64 a1_0, .int .u64 a1_1, .int .u64 a1_2, .int .u64 a1_3, .int .i64 a1_4] 26 (0, 0)) (by (with_reducible repeat (first | refine blk_drewN ?_ _ | refine blk_drew ?_ | refine blk_alloc ?_ _)); exact BB.out) hb)
  have n2_ := Aside0.mk (below_step (by repeat (first | (with_reducible first | exact HB.out | apply below_alloc | apply pw_below_drewN | apply below_drew1) | exact HB.out)) hb)
  clear BA BB HB
  have BA := n0_
  have BB := n1_
  have HB := n2_
  clear n0_ n1_ n2_
  clear hb
  refine hK.out _ _ ⟨(blk_cell BA.out 0).trans rfl, (blk_cell BA.out 1).trans rfl, (blk_cell BA.out 2).trans rfl, (blk_cell BA.out 3).trans rfl, (blk_cell BA.out 4).trans rfl, (blk_cell BB.out 0).trans rfl, (blk_cell BB.out 1).trans rfl, (blk_cell BB.out 2).trans rfl, (blk_cell BB.out 3).trans rfl, (blk_cell BB.out 4).trans rfl⟩ (fun hHeld => ?_)
  clear hK K
  refine norm_ (a' := ?_) ?_ ?_
  rotate_left
  · show Act.put _ (some 14) _ = _
    simp only [Act.put, List.setIfInBounds_toArray, List.set_cons_zero, List.set_cons_succ, i64_w, i32_w]
    rfl
  refine one_ (i := 11) (N := some 19) #[true, true, true, true, true, true, true, true, true, true, true, true, true, true, true, true, false, false, false, false] rfl rfl (by kernel_rfl) (by decide) (fun K hK => ?_)
  refine goes_ Tryd.func45 (by kernel_rfl) rfl #[.int .i64 a0_4, .int .i64 a1_4] (by rfl) rfl rfl (by (try simp only [List.map_toArray, List.map_cons, List.map_nil]); first | done | rfl | (simp only [List.length_drop, List.length_take]; rfl)) ?_
  refine (cmp_Compare_int.calls a0_4 a1_4 d_ _ A4.out).mono ?_
  rintro e w5 ⟨rfl, hb0⟩
  have hb := (by first | exact hb0 | exact hb0.below : Below _ _ w5)
  clear hb0
  refine ⟨_, rfl, ?_⟩
  have n0_ := Aside0.mk (blk_below (g := w.heap.size) (o := .cells #[.int .u64 a0_0, .int .u64 a0_1, .int .u64 a0_2, .int .u64 a0_3, .int .i64 a0_4] 26 (0, 0)) (by (with_reducible repeat (first | refine blk_drewN ?_ _ | refine blk_drew ?_ | refine blk_alloc ?_ _)); exact BA.out) hb)
  have n1_ := Aside0.mk (blk_below (g := w.heap.size + 1) (o := .cells #[.int .u64 a1_0, .int .u64 a1_1, .int .u64 a1_2, .int .u64 a1_3, .int .i64 a1_4] 26 (0, 0)) (by (with_reducible repeat (first | refine blk_drewN ?_ _ | refine blk_drew ?_ | refine blk_alloc ?_ _)); exact BB.out) hb)
  have n2_ := Aside0.mk (below_step (by repeat (first | (with_reducible first | exact HB.out | apply below_alloc | apply pw_below_drewN | apply below_drew1) | exact HB.out)) hb)
  clear BA BB HB
  have BA := n0_
  have BB := n1_
  have HB := n2_
  clear n0_ n1_ n2_
  clear hb
  refine hK.out _ _ ⟨(blk_cell BA.out 0).trans rfl, (blk_cell BA.out 1).trans rfl, (blk_cell BA.out 2).trans rfl, (blk_cell BA.out 3).trans rfl, (blk_cell BA.out 4).trans rfl, (blk_cell BB.out 0).trans rfl, (blk_cell BB.out 1).trans rfl, (blk_cell BB.out 2).trans rfl, (blk_cell BB.out 3).trans rfl, (blk_cell BB.out 4).trans rfl⟩ (fun hHeld => ?_)
  clear hK K
  refine norm_ (a' := ?_) ?_ ?_
  rotate_left
  · show Act.put _ (some 19) _ = _
    simp only [Act.put, List.setIfInBounds_toArray, List.set_cons_zero, List.set_cons_succ, i64_w, i32_w]
    rfl
  refine one_ (i := 16) (N := some 24) #[true, true, true, true, true, true, true, true, true, true, true, true, true, true, true, true, true, false, false, false] rfl rfl (by kernel_rfl) (by decide) (fun K hK => ?_)
  refine goes_ Tryd.func46 (by kernel_rfl) rfl #[.slice (some ⟨w.heap.size, 0, none⟩) 4 4, .slice (some ⟨w.heap.size + 1, 0, none⟩) 4 4] (by rfl) rfl rfl (by (try simp only [List.map_toArray, List.map_cons, List.map_nil]); first | done | rfl | (simp only [List.length_drop, List.length_take]; rfl)) ?_
  refine (slices_Compare_uint64_uint64.calls k (some ⟨w.heap.size, 0, none⟩) 4 ([a0_0, a0_1, a0_2, a0_3] : List Int) (some ⟨w.heap.size + 1, 0, none⟩) 4 ([a1_0, a1_1, a1_2, a1_3] : List Int) e_ _ (by (with_reducible repeat (first | refine Kd.C_drewN ?_ _ | refine Kd.C_drew ?_ | refine Kd.C_alloc ?_ _)); exact stamp_Order.row BA.out) (by simp) (by (with_reducible repeat (first | refine Kd.C_drewN ?_ _ | refine Kd.C_drew ?_ | refine Kd.C_alloc ?_ _)); exact stamp_Order.row BB.out) (by simp) A5.out).mono ?_
  rintro e w6 ⟨rfl, hb0⟩
  have hb := (by first | exact hb0 | exact hb0.below : Below _ _ w6)
  clear hb0
  refine ⟨_, rfl, ?_⟩
  have n0_ := Aside0.mk (blk_below (g := w.heap.size) (o := .cells #[.int .u64 a0_0, .int .u64 a0_1, .int .u64 a0_2, .int .u64 a0_3, .int .i64 a0_4] 26 (0, 0)) (by (with_reducible repeat (first | refine blk_drewN ?_ _ | refine blk_drew ?_ | refine blk_alloc ?_ _)); exact BA.out) hb)
  have n1_ := Aside0.mk (blk_below (g := w.heap.size + 1) (o := .cells #[.int .u64 a1_0, .int .u64 a1_1, .int .u64 a1_2, .int .u64 a1_3, .int .i64 a1_4] 26 (0, 0)) (by (with_reducible repeat (first | refine blk_drewN ?_ _ | refine blk_drew ?_ | refine blk_alloc ?_ _)); exact BB.out) hb)
  have n2_ := Aside0.mk (below_step (by repeat (first | (with_reducible first | exact HB.out | apply below_alloc | apply pw_below_drewN | apply below_drew1) | exact HB.out)) hb)
  clear BA BB HB
  have BA := n0_
  have BB := n1_
  have HB := n2_
  clear n0_ n1_ n2_
  clear hb
  refine hK.out _ _ ⟨(blk_cell BA.out 0).trans rfl, (blk_cell BA.out 1).trans rfl, (blk_cell BA.out 2).trans rfl, (blk_cell BA.out 3).trans rfl, (blk_cell BA.out 4).trans rfl, (blk_cell BB.out 0).trans rfl, (blk_cell BB.out 1).trans rfl, (blk_cell BB.out 2).trans rfl, (blk_cell BB.out 3).trans rfl, (blk_cell BB.out 4).trans rfl⟩ (fun hHeld => ?_)
  clear hK K
  refine norm_ (a' := ?_) ?_ ?_
  rotate_left
  · show Act.put _ (some 24) _ = _
    simp only [Act.put, List.setIfInBounds_toArray, List.set_cons_zero, List.set_cons_succ, i64_w, i32_w]
    rfl
  refine one_ (i := 17) (N := some 25) #[true, true, true, true, true, true, true, true, true, true, true, true, true, true, true, true, true, true, false, false] rfl rfl (by kernel_rfl) (by decide) (fun K hK => ?_)
  refine Kd.R_lit_step (Kd.int .i64) _ 3 ?hg (N := 25) ?hd (xs := ([c_, d_, e_] : List Int)) (inner := [.int .i64 c_, .int .i64 d_, .int .i64 e_]) (ok := fun _ => True) (okp := fun _ => True) ?hr ?hp (fun _ hk => hk) trivial (Below.refl _ _) (Nat.le_refl _) (by simp) ?_
  case hd => rfl
  case hg => rfl
  case hr => first | (go_simp; done) | (go_simp; rfl)
  case hp => exact (Reps.one (show Kd.M (Kd.int .i64) _ _ _ c_ [.int .i64 c_] from rfl) (Reps.one (show Kd.M (Kd.int .i64) _ _ _ d_ [.int .i64 d_] from rfl) (Reps.one (show Kd.M (Kd.int .i64) _ _ _ e_ [.int .i64 e_] from rfl) (Reps.none _ _))))
  intro v7 w7 ho7 hb hg_ hnew_
  clear hg_ hnew_
  have HO := Aside0.mk ho7
  clear ho7
  have n0_ := Aside0.mk (blk_below (g := w.heap.size) (o := .cells #[.int .u64 a0_0, .int .u64 a0_1, .int .u64 a0_2, .int .u64 a0_3, .int .i64 a0_4] 26 (0, 0)) (by (with_reducible repeat (first | refine blk_drewN ?_ _ | refine blk_drew ?_ | refine blk_alloc ?_ _)); exact BA.out) hb)
  have n1_ := Aside0.mk (blk_below (g := w.heap.size + 1) (o := .cells #[.int .u64 a1_0, .int .u64 a1_1, .int .u64 a1_2, .int .u64 a1_3, .int .i64 a1_4] 26 (0, 0)) (by (with_reducible repeat (first | refine blk_drewN ?_ _ | refine blk_drew ?_ | refine blk_alloc ?_ _)); exact BB.out) hb)
  have n2_ := Aside0.mk (below_step (by repeat (first | (with_reducible first | exact HB.out | apply below_alloc | apply pw_below_drewN | apply below_drew1) | exact HB.out)) hb)
  clear BA BB HB
  have BA := n0_
  have BB := n1_
  have HB := n2_
  clear n0_ n1_ n2_
  clear hb
  obtain ⟨Ao, co, eo⟩ := Kd.R_slice HO.out
  subst eo
  refine hK.out _ _ ⟨(blk_cell BA.out 0).trans rfl, (blk_cell BA.out 1).trans rfl, (blk_cell BA.out 2).trans rfl, (blk_cell BA.out 3).trans rfl, (blk_cell BA.out 4).trans rfl, (blk_cell BB.out 0).trans rfl, (blk_cell BB.out 1).trans rfl, (blk_cell BB.out 2).trans rfl, (blk_cell BB.out 3).trans rfl, (blk_cell BB.out 4).trans rfl⟩ (fun hHeld => ?_)
  clear hK K
  refine norm_ (a' := ?_) ?_ ?_
  rotate_left
  · show Act.put _ (some 25) _ = _
    simp only [Act.put, List.setIfInBounds_toArray, List.set_cons_zero, List.set_cons_succ, i64_w, i32_w]
    rfl
  refine one_ (i := 18) (N := some 26) #[true, true, true, true, true, true, true, true, true, true, true, true, true, true, true, true, true, true, true, false] rfl rfl (by kernel_rfl) (by decide) (fun K hK => ?_)
  refine goes_ Tryd.func42 (by kernel_rfl) rfl #[.slice Ao ([c_, d_, e_] : List Int).length co] (by rfl) rfl rfl (by (try simp only [List.map_toArray, List.map_cons, List.map_nil]); first | done | rfl | (simp only [List.length_drop, List.length_take]; rfl)) ?_
  refine (cmp_Or_int.calls k Ao co ([c_, d_, e_] : List Int) r _ (by (with_reducible repeat (first | refine Kd.C_drewN ?_ _ | refine Kd.C_drew ?_ | refine Kd.C_alloc ?_ _)); exact (Kd.R_reads' HO.out).2.2) (Kd.R_reads' HO.out).2.1 A6.out).mono ?_
  rintro e w8 ⟨rfl, hb0⟩
  have hb := (by first | exact hb0 | exact hb0.below : Below _ _ w8)
  clear hb0
  refine ⟨_, rfl, ?_⟩
  have n0_ := Aside0.mk (blk_below (g := w.heap.size) (o := .cells #[.int .u64 a0_0, .int .u64 a0_1, .int .u64 a0_2, .int .u64 a0_3, .int .i64 a0_4] 26 (0, 0)) (by (with_reducible repeat (first | refine blk_drewN ?_ _ | refine blk_drew ?_ | refine blk_alloc ?_ _)); exact BA.out) hb)
  have n1_ := Aside0.mk (blk_below (g := w.heap.size + 1) (o := .cells #[.int .u64 a1_0, .int .u64 a1_1, .int .u64 a1_2, .int .u64 a1_3, .int .i64 a1_4] 26 (0, 0)) (by (with_reducible repeat (first | refine blk_drewN ?_ _ | refine blk_drew ?_ | refine blk_alloc ?_ _)); exact BB.out) hb)
  have n2_ := Aside0.mk (below_step (by repeat (first | (with_reducible first | exact HB.out | apply below_alloc | apply pw_below_drewN | apply below_drew1) | exact HB.out)) hb)
  clear BA BB HB
  have BA := n0_
  have BB := n1_
  have HB := n2_
  clear n0_ n1_ n2_
  clear hb
  refine hK.out _ _ ⟨(blk_cell BA.out 0).trans rfl, (blk_cell BA.out 1).trans rfl, (blk_cell BA.out 2).trans rfl, (blk_cell BA.out 3).trans rfl, (blk_cell BA.out 4).trans rfl, (blk_cell BB.out 0).trans rfl, (blk_cell BB.out 1).trans rfl, (blk_cell BB.out 2).trans rfl, (blk_cell BB.out 3).trans rfl, (blk_cell BB.out 4).trans rfl⟩ (fun hHeld => ?_)
  clear hK K
  refine norm_ (a' := ?_) ?_ ?_
  rotate_left
  · show Act.put _ (some 26) _ = _
    simp only [Act.put, List.setIfInBounds_toArray, List.set_cons_zero, List.set_cons_succ, i64_w, i32_w]
    rfl
  refine pure_ (i := 19) (N := some 4) (v := ?_) (a' := ?_) #[true, true, true, true, true, true, true, true, true, true, true, true, true, true, true, true, true, true, true, true] rfl rfl (by kernel_rfl) (fun _ _ _ h => h) (Or.inl ⟨by rfl, ?_⟩) ?_ ?_
  rotate_left
  · intro w'
    go_simp
    with_reducible rfl
  rotate_left
  · simp only [Act.put, List.setIfInBounds_toArray, List.set_cons_zero, List.set_cons_succ, i64_w, i32_w]
    rfl
  refine done_ (by kernel_rfl) ?_
  try go_wp2
  go_ret
  exact ⟨by first | rfl | simp, by repeat (first | (with_reducible first | exact HB.out | apply below_alloc | apply pw_below_drewN | apply below_drew1) | exact HB.out)⟩


end Go.Proofs.YtdlagefpglhdoaaDoor.Q

-- Written by this session's own driver (wip/hybrid.py) of the kit's printer; contracts marked FOREIGN are by hand.
namespace Go.Proofs.YtdlagefpglhdoaaDoor.Q
open Go.RowKit Go.Proofs.YtdlagefpglhdoaaDoorW.PrintWords Go.Proofs.YtdlagefpglhdoaaDoorW.PrintLast Go.Proofs.YtdlagefpglhdoaaDoorW.PrintMore
attribute [local go_sem] max2_int min2_int max_two min_two max_three min_three max_four min_four   -- for this text's walks alone
set_option linter.unusedVariables false
set_option linter.unusedSimpArgs false

/-! ### stamp_Later: function 15 -/
-- FOREIGN: a function handed in
def stamp_Later.f (k : Nat) (a0_0 a0_1 a0_2 a0_3 a0_4 a1_0 a1_1 a1_2 a1_3 a1_4 : Int) : Option (Int × Int × Int × Int × Int) := (stamp_Order.f k a0_0 a0_1 a0_2 a0_3 a0_4 a1_0 a1_1 a1_2 a1_3 a1_4).bind fun r => if 0 < r then some (a0_0, a0_1, a0_2, a0_3, a0_4) else some (a1_0, a1_1, a1_2, a1_3, a1_4)
theorem stamp_Later.mono : ∀ a0_0 a0_1 a0_2 a0_3 a0_4 a1_0 a1_1 a1_2 a1_3 a1_4 k, LeO (stamp_Later.f k a0_0 a0_1 a0_2 a0_3 a0_4 a1_0 a1_1 a1_2 a1_3 a1_4) (stamp_Later.f (k + 1) a0_0 a0_1 a0_2 a0_3 a0_4 a1_0 a1_1 a1_2 a1_3 a1_4) := fun a0_0 a0_1 a0_2 a0_3 a0_4 a1_0 a1_1 a1_2 a1_3 a1_4 k => LeO.bind (stamp_Order.mono a0_0 a0_1 a0_2 a0_3 a0_4 a1_0 a1_1 a1_2 a1_3 a1_4 k) (fun _ => LeO.refl _)
theorem stamp_Later.boxes3 (w : World) (xs ys zs : Array Value) (t : TypeId) (W : World) (h : ((w.alloc (.cells xs t)).alloc (.cells ys t)).alloc (.cells zs t) = W) :
    W.heap[w.heap.size]? = some (.cells xs t (0,0)) ∧ W.heap[w.heap.size+1]? = some (.cells ys t (0,0)) ∧ W.heap[w.heap.size+1+1]? = some (.cells zs t (0,0)) ∧ Below w.heap.size w W := by
  subst h
  have s1 : (w.alloc (.cells xs t)).heap.size = w.heap.size + 1 := by simp [World.alloc, -World.alloc_eq]
  have s2 : ((w.alloc (.cells xs t)).alloc (.cells ys t)).heap.size = w.heap.size + 1 + 1 := by simp [World.alloc, -World.alloc_eq]
  refine ⟨blk_alloc (blk_alloc (blk_new _ _) _) _, ?_, ?_, below_alloc (below_alloc (below_alloc (Below.refl _ _) _) _) _⟩
  · rw [← s1]; exact blk_alloc (blk_new _ _) _
  · rw [← s2]; exact blk_new _ _
set_option maxHeartbeats 8000000 in
set_option maxRecDepth 100000 in
theorem stamp_Later.overP (k : Nat) (a0_0 a0_1 a0_2 a0_3 a0_4 a1_0 a1_1 a1_2 a1_3 a1_4 : Int) (r : Int) (w : World) (h : stamp_Order.f k a0_0 a0_1 a0_2 a0_3 a0_4 a1_0 a1_1 a1_2 a1_3 a1_4 = some r) (c : 0 < r) :
    Calls Tryd.prog 39 #[.agg #[.int .u64 a0_0, .int .u64 a0_1, .int .u64 a0_2, .int .u64 a0_3, .int .i64 a0_4], .agg #[.int .u64 a1_0, .int .u64 a1_1, .int .u64 a1_2, .int .u64 a1_3, .int .i64 a1_4], .func (.func 21) #[] #[]] w fun e w' => e = .returned (.agg #[.int .u64 a0_0, .int .u64 a0_1, .int .u64 a0_2, .int .u64 a0_3, .int .i64 a0_4]) ∧ Below w.heap.size w w' := by
  have hus := Tryd.underlying26
  have huv := Tryd.underlying24
  have hu2 := Tryd.underlying22
  have hui := Tryd.underlying3
  replace h := Aside0.mk h
  have cd : decide (0 < r) = true := by simpa using c
  clear c
  go_enter Tryd.func39, Tryd.ntmps39
  go_wp2_with (go_at_call 21; refine (stamp_Order.calls k a0_0 a0_1 a0_2 a0_3 a0_4 a1_0 a1_1 a1_2 a1_3 a1_4 r _ h.out).mono ?_; rintro e w1 ⟨rfl, hb⟩; have hX := stamp_Later.boxes3 w #[.int .u64 a0_0, .int .u64 a0_1, .int .u64 a0_2, .int .u64 a0_3, .int .i64 a0_4] #[.int .u64 a1_0, .int .u64 a1_1, .int .u64 a1_2, .int .u64 a1_3, .int .i64 a1_4] #[.int .u64 0, .int .u64 0, .int .u64 0, .int .u64 0, .int .i64 0] 26 _ rfl; have hA := Aside0.mk (blk_below hX.1 hb); have hB := Aside0.mk (blk_below hX.2.1 hb); have hC := Aside0.mk (blk_below hX.2.2.1 hb); have HB := Aside0.mk (below_step hX.2.2.2 hb); clear hX; clear hb; have a_0 := (blk_cell hA.out 0).trans rfl; have a_1 := (blk_cell hA.out 1).trans rfl; have a_2 := (blk_cell hA.out 2).trans rfl; have a_3 := (blk_cell hA.out 3).trans rfl; have a_4 := (blk_cell hA.out 4).trans rfl; have b_0 := (blk_cell hB.out 0).trans rfl; have b_1 := (blk_cell hB.out 1).trans rfl; have b_2 := (blk_cell hB.out 2).trans rfl; have b_3 := (blk_cell hB.out 3).trans rfl; have b_4 := (blk_cell hB.out 4).trans rfl; have d_0 := (blk_cell hC.out 0).trans rfl; have d_1 := (blk_cell hC.out 1).trans rfl; have d_2 := (blk_cell hC.out 2).trans rfl; have d_3 := (blk_cell hC.out 3).trans rfl; have d_4 := (blk_cell hC.out 4).trans rfl; have f_0 := blk_frozen hC.out 0; have f_1 := blk_frozen hC.out 1; have f_2 := blk_frozen hC.out 2; have f_3 := blk_frozen hC.out 3; have f_4 := blk_frozen hC.out 4)
  clear a_0 a_1 a_2 a_3 a_4 b_0 b_1 b_2 b_3 b_4 d_0 d_1 d_2 d_3 d_4 f_0 f_1 f_2 f_3 f_4
  have GC : w.heap.size ≤ w.heap.size + 1 + 1 := by omega
  have hC1 := Aside0.mk (blk_put (blk_put (blk_put (blk_put (blk_put hC.out 0 (.int .u64 a0_0) rfl) 1 (.int .u64 a0_1) rfl) 2 (.int .u64 a0_2) rfl) 3 (.int .u64 a0_3) rfl) 4 (.int .i64 a0_4) (cs' := #[.int .u64 a0_0, .int .u64 a0_1, .int .u64 a0_2, .int .u64 a0_3, .int .i64 a0_4]) rfl)
  have HB1 := Aside0.mk (below_set (j := 4) (v := .int .i64 a0_4) (below_set (j := 3) (v := .int .u64 a0_3) (below_set (j := 2) (v := .int .u64 a0_2) (below_set (j := 1) (v := .int .u64 a0_1) (below_set (j := 0) (v := .int .u64 a0_0) HB.out GC) GC) GC) GC) GC)
  clear hA hB hC HB
  generalize (((((w1.setCell ⟨w.heap.size + 1 + 1, 0, none⟩ (.int .u64 a0_0)).setCell ⟨w.heap.size + 1 + 1, 1, none⟩ (.int .u64 a0_1)).setCell ⟨w.heap.size + 1 + 1, 2, none⟩ (.int .u64 a0_2)).setCell ⟨w.heap.size + 1 + 1, 3, none⟩ (.int .u64 a0_3)).setCell ⟨w.heap.size + 1 + 1, 4, none⟩ (.int .i64 a0_4)) = W5 at *
  have d0 := (blk_cell hC1.out 0).trans rfl
  have d1 := (blk_cell hC1.out 1).trans rfl
  have d2 := (blk_cell hC1.out 2).trans rfl
  have d3 := (blk_cell hC1.out 3).trans rfl
  have d4 := (blk_cell hC1.out 4).trans rfl
  refine bodyPost_ret (v := .agg #[.int .u64 a0_0, .int .u64 a0_1, .int .u64 a0_2, .int .u64 a0_3, .int .i64 a0_4]) (by simp [results, Tryd.results39, go_sem, hus, huv, hu2, hui, d0, d1, d2, d3, d4]) rfl ⟨rfl, HB1.out⟩
set_option maxHeartbeats 8000000 in
set_option maxRecDepth 100000 in
theorem stamp_Later.overN (k : Nat) (a0_0 a0_1 a0_2 a0_3 a0_4 a1_0 a1_1 a1_2 a1_3 a1_4 : Int) (r : Int) (w : World) (h : stamp_Order.f k a0_0 a0_1 a0_2 a0_3 a0_4 a1_0 a1_1 a1_2 a1_3 a1_4 = some r) (c : ¬ 0 < r) :
    Calls Tryd.prog 39 #[.agg #[.int .u64 a0_0, .int .u64 a0_1, .int .u64 a0_2, .int .u64 a0_3, .int .i64 a0_4], .agg #[.int .u64 a1_0, .int .u64 a1_1, .int .u64 a1_2, .int .u64 a1_3, .int .i64 a1_4], .func (.func 21) #[] #[]] w fun e w' => e = .returned (.agg #[.int .u64 a1_0, .int .u64 a1_1, .int .u64 a1_2, .int .u64 a1_3, .int .i64 a1_4]) ∧ Below w.heap.size w w' := by
  have hus := Tryd.underlying26
  have huv := Tryd.underlying24
  have hu2 := Tryd.underlying22
  have hui := Tryd.underlying3
  replace h := Aside0.mk h
  have cd : decide (0 < r) = false := by simpa using c
  clear c
  go_enter Tryd.func39, Tryd.ntmps39
  go_wp2_with (go_at_call 21; refine (stamp_Order.calls k a0_0 a0_1 a0_2 a0_3 a0_4 a1_0 a1_1 a1_2 a1_3 a1_4 r _ h.out).mono ?_; rintro e w1 ⟨rfl, hb⟩; have hX := stamp_Later.boxes3 w #[.int .u64 a0_0, .int .u64 a0_1, .int .u64 a0_2, .int .u64 a0_3, .int .i64 a0_4] #[.int .u64 a1_0, .int .u64 a1_1, .int .u64 a1_2, .int .u64 a1_3, .int .i64 a1_4] #[.int .u64 0, .int .u64 0, .int .u64 0, .int .u64 0, .int .i64 0] 26 _ rfl; have hA := Aside0.mk (blk_below hX.1 hb); have hB := Aside0.mk (blk_below hX.2.1 hb); have hC := Aside0.mk (blk_below hX.2.2.1 hb); have HB := Aside0.mk (below_step hX.2.2.2 hb); clear hX; clear hb; have a_0 := (blk_cell hA.out 0).trans rfl; have a_1 := (blk_cell hA.out 1).trans rfl; have a_2 := (blk_cell hA.out 2).trans rfl; have a_3 := (blk_cell hA.out 3).trans rfl; have a_4 := (blk_cell hA.out 4).trans rfl; have b_0 := (blk_cell hB.out 0).trans rfl; have b_1 := (blk_cell hB.out 1).trans rfl; have b_2 := (blk_cell hB.out 2).trans rfl; have b_3 := (blk_cell hB.out 3).trans rfl; have b_4 := (blk_cell hB.out 4).trans rfl; have d_0 := (blk_cell hC.out 0).trans rfl; have d_1 := (blk_cell hC.out 1).trans rfl; have d_2 := (blk_cell hC.out 2).trans rfl; have d_3 := (blk_cell hC.out 3).trans rfl; have d_4 := (blk_cell hC.out 4).trans rfl; have f_0 := blk_frozen hC.out 0; have f_1 := blk_frozen hC.out 1; have f_2 := blk_frozen hC.out 2; have f_3 := blk_frozen hC.out 3; have f_4 := blk_frozen hC.out 4)
  clear a_0 a_1 a_2 a_3 a_4 b_0 b_1 b_2 b_3 b_4 d_0 d_1 d_2 d_3 d_4 f_0 f_1 f_2 f_3 f_4
  have GC : w.heap.size ≤ w.heap.size + 1 + 1 := by omega
  have hC1 := Aside0.mk (blk_put (blk_put (blk_put (blk_put (blk_put hC.out 0 (.int .u64 a1_0) rfl) 1 (.int .u64 a1_1) rfl) 2 (.int .u64 a1_2) rfl) 3 (.int .u64 a1_3) rfl) 4 (.int .i64 a1_4) (cs' := #[.int .u64 a1_0, .int .u64 a1_1, .int .u64 a1_2, .int .u64 a1_3, .int .i64 a1_4]) rfl)
  have HB1 := Aside0.mk (below_set (j := 4) (v := .int .i64 a1_4) (below_set (j := 3) (v := .int .u64 a1_3) (below_set (j := 2) (v := .int .u64 a1_2) (below_set (j := 1) (v := .int .u64 a1_1) (below_set (j := 0) (v := .int .u64 a1_0) HB.out GC) GC) GC) GC) GC)
  clear hA hB hC HB
  generalize (((((w1.setCell ⟨w.heap.size + 1 + 1, 0, none⟩ (.int .u64 a1_0)).setCell ⟨w.heap.size + 1 + 1, 1, none⟩ (.int .u64 a1_1)).setCell ⟨w.heap.size + 1 + 1, 2, none⟩ (.int .u64 a1_2)).setCell ⟨w.heap.size + 1 + 1, 3, none⟩ (.int .u64 a1_3)).setCell ⟨w.heap.size + 1 + 1, 4, none⟩ (.int .i64 a1_4)) = W5 at *
  have d0 := (blk_cell hC1.out 0).trans rfl
  have d1 := (blk_cell hC1.out 1).trans rfl
  have d2 := (blk_cell hC1.out 2).trans rfl
  have d3 := (blk_cell hC1.out 3).trans rfl
  have d4 := (blk_cell hC1.out 4).trans rfl
  refine bodyPost_ret (v := .agg #[.int .u64 a1_0, .int .u64 a1_1, .int .u64 a1_2, .int .u64 a1_3, .int .i64 a1_4]) (by simp [results, Tryd.results39, go_sem, hus, huv, hu2, hui, d0, d1, d2, d3, d4]) rfl ⟨rfl, HB1.out⟩
set_option maxHeartbeats 8000000 in
set_option maxRecDepth 100000 in
theorem stamp_Later.calls (k : Nat) (a0_0 a0_1 a0_2 a0_3 a0_4 a1_0 a1_1 a1_2 a1_3 a1_4 : Int) (r0 r1 r2 r3 r4 : Int) (w : World) (h : stamp_Later.f k a0_0 a0_1 a0_2 a0_3 a0_4 a1_0 a1_1 a1_2 a1_3 a1_4 = some (r0, r1, r2, r3, r4)) :
    Calls Tryd.prog 15 #[.agg #[.int .u64 a0_0, .int .u64 a0_1, .int .u64 a0_2, .int .u64 a0_3, .int .i64 a0_4], .agg #[.int .u64 a1_0, .int .u64 a1_1, .int .u64 a1_2, .int .u64 a1_3, .int .i64 a1_4]] w fun e w' => e = .returned (.agg #[.int .u64 r0, .int .u64 r1, .int .u64 r2, .int .u64 r3, .int .i64 r4]) ∧ Below w.heap.size w w' := by
  unfold stamp_Later.f at h
  obtain ⟨r, A1, h⟩ := Option.bind_eq_some_iff.1 h
  replace A1 := Aside0.mk A1
  have hus := Tryd.underlying26
  have huv := Tryd.underlying24
  have hu2 := Tryd.underlying22
  have hui := Tryd.underlying3
  by_cases c : 0 < r
  · rw [if_pos c] at h
    simp only [Option.some.injEq, Prod.mk.injEq] at h
    obtain ⟨rfl, rfl, rfl, rfl, rfl⟩ := h
    replace c := Aside0.mk c
    go_enter Tryd.func15, Tryd.ntmps15
    go_wp2_with (go_at_call 39; refine (stamp_Later.overP k a0_0 a0_1 a0_2 a0_3 a0_4 a1_0 a1_1 a1_2 a1_3 a1_4 r _ A1.out c.out).mono ?_; rintro e w1 ⟨rfl, hb⟩; have hX := stamp_Later.boxes3 w #[.int .u64 a0_0, .int .u64 a0_1, .int .u64 a0_2, .int .u64 a0_3, .int .i64 a0_4] #[.int .u64 a1_0, .int .u64 a1_1, .int .u64 a1_2, .int .u64 a1_3, .int .i64 a1_4] #[.int .u64 0, .int .u64 0, .int .u64 0, .int .u64 0, .int .i64 0] 26 _ rfl; have hA := Aside0.mk (blk_below hX.1 hb); have hB := Aside0.mk (blk_below hX.2.1 hb); have hC := Aside0.mk (blk_below hX.2.2.1 hb); have HB := Aside0.mk (below_step hX.2.2.2 hb); clear hX; clear hb; have a_0 := (blk_cell hA.out 0).trans rfl; have a_1 := (blk_cell hA.out 1).trans rfl; have a_2 := (blk_cell hA.out 2).trans rfl; have a_3 := (blk_cell hA.out 3).trans rfl; have a_4 := (blk_cell hA.out 4).trans rfl; have b_0 := (blk_cell hB.out 0).trans rfl; have b_1 := (blk_cell hB.out 1).trans rfl; have b_2 := (blk_cell hB.out 2).trans rfl; have b_3 := (blk_cell hB.out 3).trans rfl; have b_4 := (blk_cell hB.out 4).trans rfl; have d_0 := (blk_cell hC.out 0).trans rfl; have d_1 := (blk_cell hC.out 1).trans rfl; have d_2 := (blk_cell hC.out 2).trans rfl; have d_3 := (blk_cell hC.out 3).trans rfl; have d_4 := (blk_cell hC.out 4).trans rfl; have f_0 := blk_frozen hC.out 0; have f_1 := blk_frozen hC.out 1; have f_2 := blk_frozen hC.out 2; have f_3 := blk_frozen hC.out 3; have f_4 := blk_frozen hC.out 4)
    clear a_0 a_1 a_2 a_3 a_4 b_0 b_1 b_2 b_3 b_4 d_0 d_1 d_2 d_3 d_4 f_0 f_1 f_2 f_3 f_4
    have GC : w.heap.size ≤ w.heap.size + 1 + 1 := by omega
    have hC1 := Aside0.mk (blk_put (blk_put (blk_put (blk_put (blk_put hC.out 0 (.int .u64 a0_0) rfl) 1 (.int .u64 a0_1) rfl) 2 (.int .u64 a0_2) rfl) 3 (.int .u64 a0_3) rfl) 4 (.int .i64 a0_4) (cs' := #[.int .u64 a0_0, .int .u64 a0_1, .int .u64 a0_2, .int .u64 a0_3, .int .i64 a0_4]) rfl)
    have HB1 := Aside0.mk (below_set (j := 4) (v := .int .i64 a0_4) (below_set (j := 3) (v := .int .u64 a0_3) (below_set (j := 2) (v := .int .u64 a0_2) (below_set (j := 1) (v := .int .u64 a0_1) (below_set (j := 0) (v := .int .u64 a0_0) HB.out GC) GC) GC) GC) GC)
    clear hA hB hC HB
    generalize (((((w1.setCell ⟨w.heap.size + 1 + 1, 0, none⟩ (.int .u64 a0_0)).setCell ⟨w.heap.size + 1 + 1, 1, none⟩ (.int .u64 a0_1)).setCell ⟨w.heap.size + 1 + 1, 2, none⟩ (.int .u64 a0_2)).setCell ⟨w.heap.size + 1 + 1, 3, none⟩ (.int .u64 a0_3)).setCell ⟨w.heap.size + 1 + 1, 4, none⟩ (.int .i64 a0_4)) = W5 at *
    have d0 := (blk_cell hC1.out 0).trans rfl
    have d1 := (blk_cell hC1.out 1).trans rfl
    have d2 := (blk_cell hC1.out 2).trans rfl
    have d3 := (blk_cell hC1.out 3).trans rfl
    have d4 := (blk_cell hC1.out 4).trans rfl
    refine bodyPost_ret (v := .agg #[.int .u64 a0_0, .int .u64 a0_1, .int .u64 a0_2, .int .u64 a0_3, .int .i64 a0_4]) (by simp [results, Tryd.results15, go_sem, hus, huv, hu2, hui, d0, d1, d2, d3, d4]) rfl ⟨rfl, HB1.out⟩
  · rw [if_neg c] at h
    simp only [Option.some.injEq, Prod.mk.injEq] at h
    obtain ⟨rfl, rfl, rfl, rfl, rfl⟩ := h
    replace c := Aside0.mk c
    go_enter Tryd.func15, Tryd.ntmps15
    go_wp2_with (go_at_call 39; refine (stamp_Later.overN k a0_0 a0_1 a0_2 a0_3 a0_4 a1_0 a1_1 a1_2 a1_3 a1_4 r _ A1.out c.out).mono ?_; rintro e w1 ⟨rfl, hb⟩; have hX := stamp_Later.boxes3 w #[.int .u64 a0_0, .int .u64 a0_1, .int .u64 a0_2, .int .u64 a0_3, .int .i64 a0_4] #[.int .u64 a1_0, .int .u64 a1_1, .int .u64 a1_2, .int .u64 a1_3, .int .i64 a1_4] #[.int .u64 0, .int .u64 0, .int .u64 0, .int .u64 0, .int .i64 0] 26 _ rfl; have hA := Aside0.mk (blk_below hX.1 hb); have hB := Aside0.mk (blk_below hX.2.1 hb); have hC := Aside0.mk (blk_below hX.2.2.1 hb); have HB := Aside0.mk (below_step hX.2.2.2 hb); clear hX; clear hb; have a_0 := (blk_cell hA.out 0).trans rfl; have a_1 := (blk_cell hA.out 1).trans rfl; have a_2 := (blk_cell hA.out 2).trans rfl; have a_3 := (blk_cell hA.out 3).trans rfl; have a_4 := (blk_cell hA.out 4).trans rfl; have b_0 := (blk_cell hB.out 0).trans rfl; have b_1 := (blk_cell hB.out 1).trans rfl; have b_2 := (blk_cell hB.out 2).trans rfl; have b_3 := (blk_cell hB.out 3).trans rfl; have b_4 := (blk_cell hB.out 4).trans rfl; have d_0 := (blk_cell hC.out 0).trans rfl; have d_1 := (blk_cell hC.out 1).trans rfl; have d_2 := (blk_cell hC.out 2).trans rfl; have d_3 := (blk_cell hC.out 3).trans rfl; have d_4 := (blk_cell hC.out 4).trans rfl; have f_0 := blk_frozen hC.out 0; have f_1 := blk_frozen hC.out 1; have f_2 := blk_frozen hC.out 2; have f_3 := blk_frozen hC.out 3; have f_4 := blk_frozen hC.out 4)
    clear a_0 a_1 a_2 a_3 a_4 b_0 b_1 b_2 b_3 b_4 d_0 d_1 d_2 d_3 d_4 f_0 f_1 f_2 f_3 f_4
    have GC : w.heap.size ≤ w.heap.size + 1 + 1 := by omega
    have hC1 := Aside0.mk (blk_put (blk_put (blk_put (blk_put (blk_put hC.out 0 (.int .u64 a1_0) rfl) 1 (.int .u64 a1_1) rfl) 2 (.int .u64 a1_2) rfl) 3 (.int .u64 a1_3) rfl) 4 (.int .i64 a1_4) (cs' := #[.int .u64 a1_0, .int .u64 a1_1, .int .u64 a1_2, .int .u64 a1_3, .int .i64 a1_4]) rfl)
    have HB1 := Aside0.mk (below_set (j := 4) (v := .int .i64 a1_4) (below_set (j := 3) (v := .int .u64 a1_3) (below_set (j := 2) (v := .int .u64 a1_2) (below_set (j := 1) (v := .int .u64 a1_1) (below_set (j := 0) (v := .int .u64 a1_0) HB.out GC) GC) GC) GC) GC)
    clear hA hB hC HB
    generalize (((((w1.setCell ⟨w.heap.size + 1 + 1, 0, none⟩ (.int .u64 a1_0)).setCell ⟨w.heap.size + 1 + 1, 1, none⟩ (.int .u64 a1_1)).setCell ⟨w.heap.size + 1 + 1, 2, none⟩ (.int .u64 a1_2)).setCell ⟨w.heap.size + 1 + 1, 3, none⟩ (.int .u64 a1_3)).setCell ⟨w.heap.size + 1 + 1, 4, none⟩ (.int .i64 a1_4)) = W5 at *
    have d0 := (blk_cell hC1.out 0).trans rfl
    have d1 := (blk_cell hC1.out 1).trans rfl
    have d2 := (blk_cell hC1.out 2).trans rfl
    have d3 := (blk_cell hC1.out 3).trans rfl
    have d4 := (blk_cell hC1.out 4).trans rfl
    refine bodyPost_ret (v := .agg #[.int .u64 a1_0, .int .u64 a1_1, .int .u64 a1_2, .int .u64 a1_3, .int .i64 a1_4]) (by simp [results, Tryd.results15, go_sem, hus, huv, hu2, hui, d0, d1, d2, d3, d4]) rfl ⟨rfl, HB1.out⟩


end Go.Proofs.YtdlagefpglhdoaaDoor.Q

-- Written by this session's own driver (wip/hybrid.py) of the kit's printer; contracts marked FOREIGN are by hand.
namespace Go.Proofs.YtdlagefpglhdoaaDoor.Q
open Go.RowKit Go.Proofs.YtdlagefpglhdoaaDoorW.PrintWords Go.Proofs.YtdlagefpglhdoaaDoorW.PrintLast Go.Proofs.YtdlagefpglhdoaaDoorW.PrintMore
attribute [local go_sem] max2_int min2_int max_two min_two max_three min_three max_four min_four   -- for this text's walks alone
set_option linter.unusedVariables false
set_option linter.unusedSimpArgs false

/-! ### stamp_Seen: function 23 -/
def stamp_Seen.f (a0_0 : Int) (a0_1 : Int) (a0_2 : Int) (a0_3 : Int) (a0_4 : Int) (a1_0 : Int) (a1_1 : Int) (a1_2 : Int) (a1_3 : Int) : Option (Bool) := (vec_Leq.f a0_0 a0_1 a0_2 a0_3 a1_0 a1_1 a1_2 a1_3).bind fun t134 => (some t134)
set_option maxHeartbeats 8000000 in
set_option maxRecDepth 100000 in
theorem stamp_Seen.calls (a0_0 : Int) (a0_1 : Int) (a0_2 : Int) (a0_3 : Int) (a0_4 : Int) (a1_0 : Int) (a1_1 : Int) (a1_2 : Int) (a1_3 : Int) (r : Bool) (w : World) (h : stamp_Seen.f a0_0 a0_1 a0_2 a0_3 a0_4 a1_0 a1_1 a1_2 a1_3 = some r) :
    Calls Tryd.prog 23 #[.agg #[.int .u64 a0_0, .int .u64 a0_1, .int .u64 a0_2, .int .u64 a0_3, .int .i64 a0_4], .agg #[.int .u64 a1_0, .int .u64 a1_1, .int .u64 a1_2, .int .u64 a1_3]] w fun e w' => e = .returned (.bool r) ∧ Below w.heap.size w w' := by
  have hu26 := Tryd.underlying26
  have hu24 := Tryd.underlying24
  have HB := Aside0.mk (Below.refl w.heap.size w)
  have H : ((vec_Leq.f a0_0 a0_1 a0_2 a0_3 a1_0 a1_1 a1_2 a1_3).bind fun t134 => (some t134)) = some r := h
  clear h
  replace H := Option.bind_eq_some_iff.mp H
  obtain ⟨t134, A30, H⟩ := H
  replace H : (some t134) = some r := H
  have A3 := Aside0.mk A30
  clear A30
  obtain rfl := Option.some.inj H
  go_enter Tryd.func23, Tryd.ntmps23
  go_wp2_with (first | ((with_reducible refine gate_dst (N := 2) rfl ?_); refine box_event ?hg (N := 2) ?hd (cs := #[.int .u64 a0_0, .int .u64 a0_1, .int .u64 a0_2, .int .u64 a0_3, .int .i64 a0_4]) (t := 26) ?hr ?_; (case hd => rfl); (case hg => rfl); (case hr => first | (go_simp; done) | (go_simp; rfl)); intro gb132 hg w4 hbox hb; have BK132 := Aside0.mk (hbox); have GW132 := Kw_ HB hg; have GE132 := GW132; replace HB := Ks_ HB hb; clear hb hbox hg) | ((with_reducible refine gate_dst (N := 3) rfl ?_); refine box_event ?hg (N := 3) ?hd (cs := #[.int .u64 a1_0, .int .u64 a1_1, .int .u64 a1_2, .int .u64 a1_3]) (t := 24) ?hr ?_; (case hd => rfl); (case hg => rfl); (case hr => first | (go_simp; done) | (go_simp; rfl)); intro gb133 hg w5 hbox hb; have BK133 := Aside0.mk (hbox); have GW133 := Kw_ HB hg; have GE133 := GW133; have NB132_133 := Kl_ BK132 hg; have NB133_132 := Kr_ BK132 hg; replace BK132 := Kb_ BK132 hb; replace HB := Ks_ HB hb; clear hb hbox hg; have hnb6 := NB132_133.out; have hnc6 := NB133_132.out; have hcz7_0 : w5.cell? ⟨gb132, 0, none⟩ = some (.int .u64 a0_0) := (blk_cell BK132.out 0).trans rfl; have hcz7_1 : w5.cell? ⟨gb132, 1, none⟩ = some (.int .u64 a0_1) := (blk_cell BK132.out 1).trans rfl; have hcz7_2 : w5.cell? ⟨gb132, 2, none⟩ = some (.int .u64 a0_2) := (blk_cell BK132.out 2).trans rfl; have hcz7_3 : w5.cell? ⟨gb132, 3, none⟩ = some (.int .u64 a0_3) := (blk_cell BK132.out 3).trans rfl; have hcz7_4 : w5.cell? ⟨gb132, 4, none⟩ = some (.int .i64 a0_4) := (blk_cell BK132.out 4).trans rfl; have hfz7_0 := blk_frozen BK132.out 0; have hfz7_1 := blk_frozen BK132.out 1; have hfz7_2 := blk_frozen BK132.out 2; have hfz7_3 := blk_frozen BK132.out 3; have hfz7_4 := blk_frozen BK132.out 4; have hcz8_0 : w5.cell? ⟨gb133, 0, none⟩ = some (.int .u64 a1_0) := (blk_cell BK133.out 0).trans rfl; have hcz8_1 : w5.cell? ⟨gb133, 1, none⟩ = some (.int .u64 a1_1) := (blk_cell BK133.out 1).trans rfl; have hcz8_2 : w5.cell? ⟨gb133, 2, none⟩ = some (.int .u64 a1_2) := (blk_cell BK133.out 2).trans rfl; have hcz8_3 : w5.cell? ⟨gb133, 3, none⟩ = some (.int .u64 a1_3) := (blk_cell BK133.out 3).trans rfl; have hfz8_0 := blk_frozen BK133.out 0; have hfz8_1 := blk_frozen BK133.out 1; have hfz8_2 := blk_frozen BK133.out 2; have hfz8_3 := blk_frozen BK133.out 3) | ((with_reducible refine gate_callee (f := 49) rfl ?_); refine goesL_ (some 8) rfl rfl Tryd.func49 (by kernel_rfl) rfl #[.agg #[.int .u64 a0_0, .int .u64 a0_1, .int .u64 a0_2, .int .u64 a0_3], .agg #[.int .u64 a1_0, .int .u64 a1_1, .int .u64 a1_2, .int .u64 a1_3]] rfl (by (try simp only [List.map_toArray, List.map_cons, List.map_nil]); first | done | rfl | (simp only [List.length_drop, List.length_take]; rfl)) ?_; (with_reducible refine (vec_Leq.calls a0_0 a0_1 a0_2 a0_3 a1_0 a1_1 a1_2 a1_3 t134 _ A3.out).mono ?_); rintro e w9 ⟨rfl, hb⟩; refine ⟨_, rfl, ?_⟩; replace BK132 := Kb_ BK132 hb; replace BK133 := Kb_ BK133 hb; replace HB := Ks_ HB hb; (try clear hb); (try clear hb2); (try clear hk); (try clear hi)))
  go_ret
  exact ⟨by first | rfl | (simp [errW_none, errW_some] <;> rfl) | (simp [*, errW_none, errW_some] <;> rfl), by repeat (first | (with_reducible first | exact HB.out | apply below_alloc | apply pw_below_drewN | apply below_drew1 | refine below_set ?_ GE132.out | refine below_set ?_ GE133.out) | exact HB.out)⟩

end Go.Proofs.YtdlagefpglhdoaaDoor.Q

/- What an argument of a law reads as: the kinds of the printed words, opened out of the form's reading, whatever the type: numbers, bools, texts, slices, structs, arrays. No program here. -/
set_option linter.unusedVariables false
set_option linter.unusedSimpArgs false
namespace Go.Proofs.YtdlagefpglhdoaaDoor.Open
open Go Go.RowKit Go.Deep Go.WideShapes Go.ChangeShapes Go.Proofs.YtdlagefpglhdoaaDoorW.PrintWords Go.Proofs.YtdlagefpglhdoaaDoorW.PrintLast Go.Proofs.YtdlagefpglhdoaaDoorW.PrintMore

structure To (P : Program) (t : TypeId) {α : Type} (K : Kd α) (wf : α → Prop) : Prop where
  sz : P.cellsOf t = K.sz
  go : ∀ {H : Type} (enc : TypeId × Value → H) (w : World) (fuel : Nat) (cs : List Value) (d : DataW H) (ps : List MemPlace),
    DataW.trod enc P w 0 (fun _ => true) true fuel t cs = some (d, ps) → (DataW.weights P t d).all (· ≤ reachBytes) = true → ∃ x : α, K.K w x cs ∧ wf x

theorem int {P : Program} {t : TypeId} {k : IntKind} (ht : P.underlying t = some (.int k)) (hs : P.cellsOf t = 1) : To P t (Kd.int k) (fun n => (Lit.int k n).wf = true) := by
  refine ⟨hs, fun enc w fuel cs d ps h _ => ?_⟩
  obtain ⟨n, rfl, _, hw⟩ := DataW.trod_int ht h
  exact ⟨n, rfl, hw⟩
theorem bool {P : Program} {t : TypeId} (ht : P.underlying t = some .bool) (hs : P.cellsOf t = 1) : To P t Kd.bool (fun _ => True) := by
  refine ⟨hs, fun enc w fuel cs d ps h _ => ?_⟩
  obtain ⟨b, rfl, _⟩ := DataW.trod_bool ht h
  exact ⟨b, rfl, trivial⟩
theorem string {P : Program} {t : TypeId} (ht : P.underlying t = some .string) (hs : P.cellsOf t = 1) : To P t Kd.string (fun s => s.size ≤ 140737488351232) := by
  refine ⟨hs, fun enc w fuel cs d ps h hw => ?_⟩
  obtain ⟨s, rfl, hx, _⟩ := DataW.trod_string ht h
  obtain ⟨rfl, _⟩ := Prod.mk.inj hx
  refine ⟨s, rfl, ?_⟩
  simp only [DataW.weights, List.all_cons, List.all_nil, Bool.and_true, reachBytes, Array.length_toList] at hw
  exact of_decide_eq_true hw
theorem weightsAll_mem {H : Type} {P : Program} {e : TypeId} : ∀ {l : List (DataW H)} {d : DataW H}, d ∈ l → (DataW.weightsAll P e l).all (· ≤ reachBytes) = true → (DataW.weights P e d).all (· ≤ reachBytes) = true
  | [], _, h, _ => by cases h
  | a :: l, d, h, hw => by
    simp only [DataW.weightsAll, List.all_append, Bool.and_eq_true] at hw
    rcases List.mem_cons.1 h with rfl | h
    · exact hw.1
    · exact weightsAll_mem h hw.2
theorem add_add (a : Addr) (i j : Nat) : (a.add i).add j = a.add (i + j) := by
  unfold Addr.add
  by_cases h1 : i = 0 <;> by_cases h2 : j = 0 <;> simp [h1, h2, Nat.add_assoc]
theorem slice {P : Program} {t e : TypeId} {α : Type} {K : Kd α} {wf : α → Prop} {B : Nat} (ht : P.underlying t = some (.slice e)) (hs : P.cellsOf t = 1) (hB : P.bytesOf e = B) (he : To P e K wf) :
    To P t (Kd.slice e K) (fun l => (∀ x ∈ l, wf x) ∧ l.length * B ≤ 140737488351232) := by
  refine ⟨hs, fun {H} enc w fuel cs d ps h hw => ?_⟩
  rcases open_slice ht h with ⟨rfl, _⟩ | ⟨a, len, cap, m, n, D, Pl, rfl, _, hl, hm, hmc, hx, hel⟩
  · exact ⟨[], ⟨none, 0, rfl, Nat.le_refl _, rfl, by simp, fun h => absurd h (by simp)⟩, by simp, by simp⟩
  · obtain ⟨rfl, _⟩ := Prod.mk.inj hx
    simp only [if_true] at hmc
    subst hmc
    have hw1 := hw
    simp only [DataW.weights, ht, List.all_cons, List.all_append, Bool.and_eq_true, decide_eq_true_eq, List.length_map, List.length_range, hB, reachBytes] at hw1
    have hchoose : ∀ i, i < len → ∃ x : α, (∃ cs', w.cells? 0 (a.add (i * P.cellsOf e)) (P.cellsOf e) = some cs' ∧ K.K w x cs') ∧ wf x := by
      intro i hi
      obtain ⟨cs', h1, h2⟩ := hel i (by omega)
      obtain ⟨x, hx1, hx2⟩ := he.go enc w n cs' (D i) (Pl i) h2 (weightsAll_mem (List.mem_map.2 ⟨i, by simpa using hi, rfl⟩) hw1.2.1)
      exact ⟨x, ⟨cs', h1, hx1⟩, hx2⟩
    have hall : ∀ k, k ≤ len → ∃ l : List α, l.length = k ∧ ∀ i x, l[i]? = some x → (∃ cs', w.cells? 0 (a.add (i * P.cellsOf e)) (P.cellsOf e) = some cs' ∧ K.K w x cs') ∧ wf x := by
      intro k
      induction k with
      | zero => intro _; exact ⟨[], rfl, fun i x h => by simp at h⟩
      | succ k ih =>
        intro hk
        obtain ⟨l, h1, h2⟩ := ih (by omega)
        obtain ⟨x, hx⟩ := hchoose k (by omega)
        refine ⟨l ++ [x], by simp [h1], fun i y hy => ?_⟩
        by_cases hi : i < l.length
        · exact h2 i y (by rwa [List.getElem?_append_left hi] at hy)
        · rw [List.getElem?_append_right (by omega)] at hy
          have : i = l.length := by
            have := (List.getElem?_eq_some_iff.1 hy).1
            simp at this; omega
          subst this
          simp at hy
          subst hy
          rw [h1]; exact hx
    obtain ⟨l, h1, h2⟩ := hall len (Nat.le_refl _)
    refine ⟨l, ⟨some a, m, by rw [h1], by omega, rfl, by unfold maxLen at hm; omega, fun _ => ⟨a, rfl, fun j p hj => ?_⟩⟩, ?_, ?_⟩
    · obtain ⟨⟨cs', g1, g2⟩, _⟩ := h2 j p hj
      obtain ⟨_, g3, g4⟩ := World.cells?_some g1
      refine ⟨cs', by rw [g3, he.sz], g2, fun i u hu => ?_⟩
      have hi : i < P.cellsOf e := by
        have := (List.getElem?_eq_some_iff.1 hu).1
        omega
      rw [← hu, ← g4 i hi, add_add, he.sz]
    · intro x hx
      obtain ⟨i, hi, rfl⟩ := List.getElem_of_mem hx
      exact (h2 i _ (List.getElem?_eq_getElem hi)).2
    · rw [h1]
      refine Nat.le_trans (Nat.mul_le_mul_right _ ?_) (of_decide_eq_true hw1.1)
      omega

/-! ### structs, arrays -/
structure Fs (P : Program) (o : Nat) (fs : List (TypeId × Nat)) {α : Type} (K : Kd α) (wf : α → Prop) : Prop where
  go : ∀ {H : Type} (enc : TypeId × Value → H) (w : World) (n : Nat) (cs : List Value) (xs : List (DataW H × List MemPlace)), cs.length = o + K.sz → xs.length = fs.length →
    (∀ (i : Nat) (f : TypeId × Nat), fs[i]? = some f → DataW.trod enc P w 0 (fun _ => true) true n f.1 ((cs.drop f.2).take (P.cellsOf f.1)) = xs[i]?) →
    (DataW.weightsEach P (fs.map (·.1)) (xs.map (·.1))).all (· ≤ reachBytes) = true → ∃ x : α, K.K w x (cs.drop o) ∧ wf x
theorem one {P : Program} {o : Nat} {t : TypeId} {α : Type} {K : Kd α} {wf : α → Prop} (h : To P t K wf) : Fs P o [(t, o)] K wf := by
  refine ⟨fun enc w n cs xs hl hx hr hw => ?_⟩
  match xs, hx with
  | [x], _ =>
    have h0 := hr 0 _ rfl
    simp only [List.getElem?_cons_zero] at h0
    rw [h.sz, List.take_of_length_le (by simp; omega)] at h0
    simp only [List.map_cons, List.map_nil, DataW.weightsEach, List.append_nil] at hw
    exact h.go enc w n _ x.1 x.2 h0 hw
theorem cons {P : Program} {o : Nat} {t : TypeId} {fs : List (TypeId × Nat)} {α β : Type} {K : Kd α} {wf : α → Prop} {L : Kd β} {wg : β → Prop} (h : To P t K wf) (hs : Fs P (o + K.sz) fs L wg) :
    Fs P o ((t, o) :: fs) (Kd.pair K L) (fun x => wf x.1 ∧ wg x.2) := by
  refine ⟨fun {H} enc w n cs xs hl hx hr hw => ?_⟩
  have hsz : (Kd.pair K L).sz = K.sz + L.sz := rfl
  match xs, hx with
  | x :: xs, hx =>
    have h0 := hr 0 _ rfl
    simp only [List.getElem?_cons_zero] at h0
    rw [h.sz] at h0
    simp only [List.map_cons, DataW.weightsEach, List.all_append, Bool.and_eq_true] at hw
    obtain ⟨a, ha, hwa⟩ := h.go enc w n _ x.1 x.2 h0 hw.1
    obtain ⟨b, hb, hwb⟩ := hs.go enc w n cs xs (by omega) (by simpa using hx) (fun i f hf => by have := hr (i + 1) f (by simpa using hf); simpa using this) hw.2
    refine ⟨(a, b), ⟨_, _, ?_, ha, hb⟩, hwa, hwb⟩
    rw [← List.drop_drop, List.take_append_drop]
theorem struct {P : Program} {t : TypeId} {fs : Array Field} {gs : List (TypeId × Nat)} {α : Type} {K : Kd α} {wf : α → Prop} (ht : P.underlying t = some (.struct fs)) (hg : fs.toList.map (fun f => (f.type, f.offset)) = gs) (hs : P.cellsOf t = K.sz) (h : Fs P 0 gs K wf) : To P t K wf := by
  refine ⟨hs, fun {H} enc w fuel cs d ps hr hw => ?_⟩
  obtain ⟨xs, n, _, hx, hl, hxl, hel⟩ := DataW.trod_struct ht hr
  obtain ⟨rfl, _⟩ := Prod.mk.inj hx
  have := h.go enc w n cs xs (by omega) (by rw [← hg]; simpa using hxl) (fun i f hf => ?_) ?_
  · simpa using this
  · rw [← hg] at hf
    simp only [List.getElem?_map, Option.map_eq_some_iff] at hf
    obtain ⟨g, hg1, rfl⟩ := hf
    exact hel i g (by simpa using hg1)
  · rw [← hg]
    simp only [DataW.weights, ht] at hw
    simpa [List.map_map, Function.comp_def] using hw
theorem weightsAll_each {H : Type} (P : Program) (e : TypeId) : ∀ (l : List (DataW H)) (ts : List TypeId), ts.length = l.length → (∀ t ∈ ts, t = e) → DataW.weightsEach P ts l = DataW.weightsAll P e l
  | [], [], _, _ => rfl
  | [], _ :: _, h, _ => by simp at h
  | _ :: _, [], h, _ => by simp at h
  | d :: l, t :: ts, h, ht => by
    simp only [DataW.weightsEach, DataW.weightsAll]
    rw [ht t (by simp), weightsAll_each P e l ts (by simpa using h) (fun x hx => ht x (by simp [hx]))]
theorem array {P : Program} {t e : TypeId} {n s : Nat} {α : Type} {K : Kd α} {wf : α → Prop} (ht : P.underlying t = some (.array n e)) (he : P.cellsOf e = s) (hs : P.cellsOf t = K.sz) (h : Fs P 0 ((List.range n).map fun i => (e, i * s)) K wf) : To P t K wf := by
  refine ⟨hs, fun {H} enc w fuel cs d ps hr hw => ?_⟩
  obtain ⟨xs, m, _, hx, hl, hxl, hel⟩ := DataW.trod_array ht hr
  obtain ⟨rfl, _⟩ := Prod.mk.inj hx
  have := h.go enc w m cs xs (by omega) (by simpa using hxl) (fun i f hf => ?_) ?_
  · simpa using this
  · simp only [List.getElem?_map, Option.map_eq_some_iff] at hf
    obtain ⟨g, hg1, rfl⟩ := hf
    have hi : i < n := by have := (List.getElem?_eq_some_iff.1 hg1).1; simpa using this
    have hgi : g = i := by
      have := (List.getElem?_eq_some_iff.1 hg1).2
      simpa using this.symm
    subst hgi
    have := hel g hi
    rw [he] at this ⊢
    exact this
  · simp only [DataW.weights, ht] at hw
    rw [weightsAll_each P e _ _ (by simp [hxl]) (by simp)]
    exact hw
theorem iso {P : Program} {t : TypeId} {α β : Type} {K : Kd α} {wf : α → Prop} (f : β → α) (g : α → β) (hfg : ∀ a, f (g a) = a) (h : To P t K wf) : To P t (Kd.iso K f) (fun b => wf (f b)) := by
  refine ⟨h.sz, fun {H} enc w fuel cs d ps hr hw => ?_⟩
  obtain ⟨x, h1, h2⟩ := h.go enc w fuel cs d ps hr hw
  refine ⟨g x, ?_, ?_⟩
  · show K.K w (f (g x)) cs
    rw [hfg]; exact h1
  · rw [hfg]; exact h2
theorem imp {P : Program} {t : TypeId} {α : Type} {K : Kd α} {wf wf' : α → Prop} (h : To P t K wf) (hi : ∀ x, wf x → wf' x) : To P t K wf' :=
  ⟨h.sz, fun enc w fuel cs d ps hr hw => by
    obtain ⟨x, h1, h2⟩ := h.go enc w fuel cs d ps hr hw
    exact ⟨x, h1, hi x h2⟩⟩
/-- At a parameter. -/
theorem at_param {P : Program} {t : TypeId} {α : Type} {K : Kd α} {wf : α → Prop} (h : To P t K wf) {H : Type} {enc : TypeId × Value → H} {w : World} {v : Value} {d : DataW H} {ps : List MemPlace} {ts : List TypeId} {ds : List (DataW H)} {j : Nat}
    (hsz : (DataW.weightsEach P ts ds).all (· ≤ reachBytes) = true) (ht : ts[j]? = some t) (hd : ds[j]? = some d) (hr : DataW.Trod enc P w 0 (fun _ => true) true t v d ps) : ∃ x : α, K.K w x v.cells.toList ∧ wf x := by
  obtain ⟨fuel, hf⟩ := hr
  refine h.go enc w fuel _ d ps hf ?_
  rw [List.all_eq_true]
  intro x hx
  exact List.all_eq_true.1 hsz x (DataW.weights_mem_each ht hd x hx)
theorem okWide_array {P : Program} {w : World} {r : Reach} {base : Nat} {t : TypeId} {v : Value} {n : Nat} {e : TypeId} (ht : P.underlying t = some (.array n e)) (h : Value.okWide P w r base t v) : ∃ cs, v = .agg cs := by
  simp only [Value.okWide, ht] at h
  obtain ⟨cs, h1, _⟩ := h
  exact ⟨cs, h1⟩
end Go.Proofs.YtdlagefpglhdoaaDoor.Open

-- Written by this session's own driver (wip/hybrid.py) of the kit's printer; contracts marked FOREIGN are by hand.
set_option linter.unusedVariables false
namespace Go.Proofs.YtdlagefpglhdoaaDoor.Q
open Go.RowKit Go.Proofs.YtdlagefpglhdoaaDoor.Q Go.Proofs.YtdlagefpglhdoaaDoorW.PrintWords Go.Proofs.YtdlagefpglhdoaaDoorW.PrintLast Go.Proofs.YtdlagefpglhdoaaDoorW.PrintMore
open Go.Proofs.YtdlagefpglhdoaaDoor
def wf24 (x : S24) : Prop := ((Lit.int .u64 x.f0).wf = true) ∧ ((Lit.int .u64 x.f1).wf = true) ∧ ((Lit.int .u64 x.f2).wf = true) ∧ ((Lit.int .u64 x.f3).wf = true)
theorem to24 : Open.To Tryd.prog 24 k24 wf24 := Open.imp (Open.iso (fun x : S24 => (x.f0, (x.f1, (x.f2, x.f3)))) (fun y => (⟨y.1, y.2.1, y.2.2.1, y.2.2.2⟩ : S24)) (fun _ => rfl) (Open.array (n := 4) (e := 22) (s := 1) Tryd.underlying24 (by kernel_rfl) (by kernel_rfl) (show Open.Fs Tryd.prog 0 [(22, 0), (22, 1), (22, 2), (22, 3)] _ _ from (Open.cons (Open.int Tryd.underlying22 (by kernel_rfl)) (Open.cons (Open.int Tryd.underlying22 (by kernel_rfl)) (Open.cons (Open.int Tryd.underlying22 (by kernel_rfl)) (Open.one (Open.int Tryd.underlying22 (by kernel_rfl))))))))) (fun _ h => h)
def wf26 (x : S26) : Prop := (wf24 x.f0) ∧ ((Lit.int .i64 x.f1).wf = true)
theorem to26 : Open.To Tryd.prog 26 k26 wf26 := Open.imp (Open.iso (fun x : S26 => (x.f0, x.f1)) (fun y => (⟨y.1, y.2⟩ : S26)) (fun _ => rfl) (Open.struct Tryd.underlying26 (by rfl) (by kernel_rfl) (show Open.Fs Tryd.prog 0 [(24, 0), (3, 4)] _ _ from (Open.cons to24 (Open.one (Open.int Tryd.underlying3 (by kernel_rfl))))))) (fun _ h => h)
def wf28 (x : S28) : Prop := (wf26 x.f0) ∧ (True)
theorem to28 : Open.To Tryd.prog 28 k28 wf28 := Open.imp (Open.iso (fun x : S28 => (x.f0, x.f1)) (fun y => (⟨y.1, y.2⟩ : S28)) (fun _ => rfl) (Open.struct Tryd.underlying28 (by rfl) (by kernel_rfl) (show Open.Fs Tryd.prog 0 [(26, 0), (4, 5)] _ _ from (Open.cons to26 (Open.one (Open.bool Tryd.underlying4 (by kernel_rfl))))))) (fun _ h => h)
def wf30 (x : S30) : Prop := (wf24 x.f0) ∧ (True)
theorem to30 : Open.To Tryd.prog 30 k30 wf30 := Open.imp (Open.iso (fun x : S30 => (x.f0, x.f1)) (fun y => (⟨y.1, y.2⟩ : S30)) (fun _ => rfl) (Open.struct Tryd.underlying30 (by rfl) (by kernel_rfl) (show Open.Fs Tryd.prog 0 [(24, 0), (4, 4)] _ _ from (Open.cons to24 (Open.one (Open.bool Tryd.underlying4 (by kernel_rfl))))))) (fun _ h => h)
end Go.Proofs.YtdlagefpglhdoaaDoor.Q

/- Texts as lists of bytes; wraps that do nothing. -/
set_option linter.unusedVariables false
set_option linter.unusedSimpArgs false
namespace Go.Proofs.YtdlagefpglhdoaaDoor.Pure
open Go.RowKit Go.Proofs.YtdlagefpglhdoaaDoorW.PrintWords Go.Proofs.YtdlagefpglhdoaaDoorW.PrintLast Go.Proofs.YtdlagefpglhdoaaDoorW.PrintMore

/-! ### texts as lists of bytes -/
def bl (s : ByteArray) : List Nat := s.data.toList.map UInt8.toNat
theorem bl_length (s : ByteArray) : (bl s).length = s.size := by unfold bl; rw [List.length_map, Array.length_toList]; rfl
theorem bl_lt (s : ByteArray) : ∀ b ∈ bl s, b < 256 := by
  intro b hb
  obtain ⟨u, _, rfl⟩ := List.mem_map.1 hb
  exact u.toNat_lt
theorem map_toNat_inj : ∀ {l m : List UInt8}, l.map UInt8.toNat = m.map UInt8.toNat → l = m
  | [], [], _ => rfl
  | [], _ :: _, h => by simp at h
  | _ :: _, [], h => by simp at h
  | a :: l, b :: m, h => by
    simp only [List.map_cons, List.cons.injEq] at h
    rw [UInt8.toNat_inj.1 h.1, map_toNat_inj h.2]
theorem ba_ext {s t : ByteArray} (h : s.data.toList = t.data.toList) : s = t := by
  cases s; cases t
  simp only [ByteArray.mk.injEq]
  exact Array.toList_inj.1 h
theorem bl_inj {s t : ByteArray} (h : bl s = bl t) : s = t := ba_ext (map_toNat_inj h)
theorem bl_append (s t : ByteArray) : bl (s ++ t) = bl s ++ bl t := by
  unfold bl; rw [← List.map_append, ByteArray.data_append]; simp
theorem bl_extract (s : ByteArray) (a b : Nat) : bl (s.extract a b) = ((bl s).take b).drop a := by
  unfold bl
  rw [← List.map_take, ← List.map_drop]
  congr 1
  simp [ByteArray.data_extract, Array.toList_extract, List.extract_eq_take_drop, List.drop_take]
theorem bl_take (s : ByteArray) (n : Nat) : bl (s.extract 0 n) = (bl s).take n := by rw [bl_extract, List.drop_zero]
theorem bl_drop (s : ByteArray) (n : Nat) : bl (s.extract n s.size) = (bl s).drop n := by rw [bl_extract, ← bl_length, List.take_length]
theorem toList_data (s : ByteArray) : s.toList = s.data.toList := by
  exact ByteArray.toList_eq s
theorem toList_iff {s t : ByteArray} : s.toList = t.toList ↔ s = t := by
  rw [toList_data, toList_data]; exact ⟨ba_ext, fun h => by rw [h]⟩
def NL (l : List Nat) : List Int := l.map fun n : Nat => (n : Int)
theorem bl_str (l : List Nat) (h : ∀ b ∈ l, b < 256) : bl (strOfNums (NL l)) = l := by
  unfold bl strOfNums NL
  simp only [List.map_map]
  conv => rhs; rw [← List.map_id l]
  apply List.map_congr_left
  intro b hb
  have := h b hb
  simp [UInt8.toNat_ofNat_of_lt', this]
theorem bl_empty : bl (⟨#[]⟩ : ByteArray) = [] := rfl
theorem bl_nil {s : ByteArray} : bl s = [] ↔ s = ⟨#[]⟩ := ⟨fun h => bl_inj (by rw [h]; rfl), fun h => by rw [h]; rfl⟩
theorem bt_bl (s : ByteArray) (i : Nat) (h : i < s.size) : ∃ b, (bl s)[i]? = some b ∧ bt s i = (b : Int) ∧ b < 256 := by
  have hl : i < (bl s).length := by rw [bl_length]; exact h
  refine ⟨(bl s)[i], List.getElem?_eq_getElem hl, ?_, bl_lt s _ (List.getElem_mem hl)⟩
  unfold bt
  rw [dif_pos (by simpa using h)]
  simp [bl, ByteArray.getElem_eq_getElem_data]
theorem wrap_u64 {x : Int} (h0 : 0 ≤ x) (h1 : x < 18446744073709551616) : IntKind.u64.wrap x = x := by
  simp only [IntKind.wrap_u64]; omega
theorem wrap64_id {x : Int} (h0 : -9223372036854775808 ≤ x) (h1 : x ≤ 9223372036854775807) : wrap64 x = x := by
  unfold wrap64; omega
end Go.Proofs.YtdlagefpglhdoaaDoor.Pure

/- Plain lists of bytes: numbers of as few bytes as they need, numbers of a fixed size, texts behind their length. No program here. -/
namespace Go.Proofs.YtdlagefpglhdoaaDoor.Plain

/-! ### numbers of as few bytes as they need -/
def vary (n : Nat) : List Nat := if n < 128 then [n] else (n % 128 + 128) :: vary (n / 128)
termination_by n
decreasing_by omega

theorem vary_small {n : Nat} (h : n < 128) : vary n = [n] := by rw [vary, if_pos h]
theorem vary_big {n : Nat} (h : ¬ n < 128) : vary n = (n % 128 + 128) :: vary (n / 128) := by rw [vary, if_neg h]
theorem vary_ne_nil (n : Nat) : vary n ≠ [] := by
  by_cases h : n < 128
  · rw [vary_small h]; simp
  · rw [vary_big h]; simp
theorem vary_pos (n : Nat) : 0 < (vary n).length := List.length_pos_iff.2 (vary_ne_nil n)
theorem vary_lt (n : Nat) : ∀ b ∈ vary n, b < 256 := by
  induction n using Nat.strongRecOn with
  | _ n ih =>
    intro b hb
    by_cases h : n < 128
    · rw [vary_small h] at hb; simp at hb; omega
    · rw [vary_big h] at hb
      rcases List.mem_cons.1 hb with rfl | hb
      · omega
      · exact ih (n / 128) (by omega) b hb
/-- how many bytes -/
theorem vary_len_le (k : Nat) : ∀ n, n < 128 ^ (k + 1) → (vary n).length ≤ k + 1 := by
  induction k with
  | zero => intro n h; rw [vary_small (by simpa using h)]; simp
  | succ k ih =>
    intro n h
    by_cases h1 : n < 128
    · rw [vary_small h1]; simp
    · rw [vary_big h1]
      have := ih (n / 128) (by rw [Nat.div_lt_iff_lt_mul (by omega)]; rw [Nat.pow_succ] at h; exact h)
      simp; omega
theorem vary_len_gt (k : Nat) : ∀ n, 128 ^ k ≤ n → k < (vary n).length := by
  induction k with
  | zero => intro n _; exact vary_pos n
  | succ k ih =>
    intro n h
    have h1 : ¬ n < 128 := by
      have : 128 ^ 1 ≤ 128 ^ (k + 1) := Nat.pow_le_pow_right (by omega) (by omega)
      omega
    rw [vary_big h1]
    have := ih (n / 128) (by rw [Nat.le_div_iff_mul_le (by omega), ← Nat.pow_succ]; exact h)
    simp; omega
theorem vary_len_ten {n : Nat} (h : n < 18446744073709551616) : (vary n).length ≤ 10 := vary_len_le 9 n (by omega)
/-- it is the length alone that a number's bytes can be told by: where they end -/
theorem vary_prefix (n : Nat) : ∀ m (r s : List Nat), vary n ++ r = vary m ++ s → n = m ∧ r = s := by
  induction n using Nat.strongRecOn with
  | _ n ih =>
    intro m r s h
    by_cases h1 : n < 128
    · rw [vary_small h1] at h
      by_cases h2 : m < 128
      · rw [vary_small h2] at h
        simp at h; exact h
      · rw [vary_big h2] at h
        simp at h; omega
    · rw [vary_big h1] at h
      by_cases h2 : m < 128
      · rw [vary_small h2] at h
        simp at h; omega
      · rw [vary_big h2] at h
        simp only [List.cons_append, List.cons.injEq] at h
        obtain ⟨e, h⟩ := h
        obtain ⟨e2, h⟩ := ih (n / 128) (by omega) (m / 128) r s h
        exact ⟨by omega, h⟩
theorem vary_inj {n m : Nat} (h : vary n = vary m) : n = m := (vary_prefix n m [] [] (by rw [h])).1
/-- the byte at a place -/
theorem vary_get (i : Nat) : ∀ n, i < (vary n).length → (vary n)[i]? = some (n / 128 ^ i % 128 + if i + 1 < (vary n).length then 128 else 0) := by
  induction i with
  | zero =>
    intro n hi
    by_cases h : n < 128
    · rw [vary_small h]; simp; omega
    · rw [vary_big h]
      have := vary_pos (n / 128)
      simp [this]
  | succ i ih =>
    intro n hi
    by_cases h : n < 128
    · rw [vary_small h] at hi; simp at hi
    · have e := vary_big h
      have hl : (vary n).length = (vary (n / 128)).length + 1 := by rw [e]; rfl
      rw [e, List.getElem?_cons_succ, ih (n / 128) (by omega)]
      congr 2
      · rw [Nat.div_div_eq_div_mul, Nat.pow_succ, Nat.mul_comm 128]
      · simp
/-- the end: what is left of the number -/
theorem vary_len_iff (n i : Nat) : i < (vary n).length ↔ i = 0 ∨ 128 ^ i ≤ n := by
  constructor
  · intro h
    by_cases h0 : i = 0
    · exact .inl h0
    · refine .inr ?_
      rcases Nat.lt_or_ge n (128 ^ i) with hl | hl
      · obtain ⟨j, rfl⟩ : ∃ j, i = j + 1 := ⟨i - 1, by omega⟩
        have := vary_len_le j n hl
        omega
      · exact hl
  · rintro (rfl | h)
    · exact vary_pos n
    · exact vary_len_gt i n h

/-! ### numbers of a fixed size, the greatest byte first -/
def be : Nat → Nat → List Nat
  | 0, _ => []
  | k + 1, a => (a / 256 ^ k % 256) :: be k a
def bev : List Nat → Nat
  | [] => 0
  | b :: l => b * 256 ^ l.length + bev l
theorem be_len (k a : Nat) : (be k a).length = k := by induction k with | zero => rfl | succ k ih => simp [be, ih]
theorem be_lt (k a : Nat) : ∀ b ∈ be k a, b < 256 := by
  induction k with
  | zero => intro b h; simp [be] at h
  | succ k ih => intro b h; simp only [be, List.mem_cons] at h; rcases h with rfl | h <;> first | omega | exact ih b h
theorem bev_lt (l : List Nat) (h : ∀ b ∈ l, b < 256) : bev l < 256 ^ l.length := by
  induction l with
  | nil => simp [bev]
  | cons b l ih =>
    have h1 := ih (fun x hx => h x (by simp [hx]))
    have h2 : b < 256 := h b (by simp)
    simp only [bev, List.length_cons, Nat.pow_succ]
    have : b * 256 ^ l.length ≤ 255 * 256 ^ l.length := Nat.mul_le_mul_right _ (by omega)
    omega
theorem bev_be (k a : Nat) : bev (be k a) = a % 256 ^ k := by
  induction k with
  | zero => simp [be, bev, Nat.mod_one]
  | succ k ih =>
    simp only [be, bev, be_len, ih]
    rw [Nat.pow_succ, Nat.mod_mul, Nat.add_comm, Nat.mul_comm]
theorem be_bev (l : List Nat) (h : ∀ b ∈ l, b < 256) : be l.length (bev l) = l := by
  induction l with
  | nil => rfl
  | cons b l ih =>
    have h1 : ∀ b ∈ l, b < 256 := fun x hx => h x (by simp [hx])
    have h2 : b < 256 := h b (by simp)
    have h3 := bev_lt l h1
    have key : ∀ k, k ≤ l.length → be k (b * 256 ^ l.length + bev l) = be k (bev l) := by
      intro k
      induction k with
      | zero => intro _; rfl
      | succ k ihk =>
        intro hk
        simp only [be]
        rw [ihk (by omega)]
        congr 1
        have e : b * 256 ^ l.length = (b * 256 ^ (l.length - (k + 1))) * 256 * 256 ^ k := by
          rw [Nat.mul_assoc, Nat.mul_assoc, ← Nat.pow_succ', ← Nat.pow_add]
          congr 2; omega
        rw [e, Nat.add_comm, Nat.add_mul_div_right _ _ (Nat.pow_pos (by omega))]
        omega
    simp only [List.length_cons, bev, be]
    rw [key _ (Nat.le_refl _), ih h1]
    congr 1
    rw [Nat.add_comm, Nat.add_mul_div_right _ _ (Nat.pow_pos (by omega)), Nat.div_eq_of_lt h3]
    omega
theorem be_inj {k a b : Nat} (ha : a < 256 ^ k) (hb : b < 256 ^ k) (h : be k a = be k b) : a = b := by
  have := congrArg bev h
  rwa [bev_be, bev_be, Nat.mod_eq_of_lt ha, Nat.mod_eq_of_lt hb] at this
theorem bev_snoc (l : List Nat) (b : Nat) : bev (l ++ [b]) = bev l * 256 + b := by
  induction l with
  | nil => simp [bev]
  | cons a l ih =>
    simp only [List.cons_append, bev, ih, List.length_append, List.length_singleton, Nat.pow_succ]
    rw [Nat.add_mul, Nat.mul_assoc]; omega
/-- their order as bytes -/
def less : List Nat → List Nat → Bool
  | _, [] => false
  | [], _ :: _ => true
  | a :: l, b :: m => decide (a < b) || (decide (a = b) && less l m)
theorem less_be (k : Nat) : ∀ a b : Nat, a < 256 ^ k → b < 256 ^ k → (less (be k a) (be k b) = true ↔ a < b) := by
  have main : ∀ l m : List Nat, l.length = m.length → (∀ x ∈ l, x < 256) → (∀ x ∈ m, x < 256) → (less l m = true ↔ bev l < bev m) := by
    intro l
    induction l with
    | nil => intro m hl _ _; cases m with | nil => simp [less] | cons => simp at hl
    | cons a l ih =>
      intro m hl h1 h2
      cases m with
      | nil => simp at hl
      | cons b m =>
        have hl' : l.length = m.length := by simpa using hl
        have g1 := bev_lt l (fun x hx => h1 x (by simp [hx]))
        have g2 := bev_lt m (fun x hx => h2 x (by simp [hx]))
        have hi := ih m hl' (fun x hx => h1 x (by simp [hx])) (fun x hx => h2 x (by simp [hx]))
        simp only [less, bev, Bool.or_eq_true, Bool.and_eq_true, decide_eq_true_eq, hi]
        rw [hl'] at g1 ⊢
        rcases Nat.lt_trichotomy a b with h | h | h
        · have : (a + 1) * 256 ^ m.length ≤ b * 256 ^ m.length := Nat.mul_le_mul_right _ h
          rw [Nat.add_mul] at this
          constructor
          · intro _; omega
          · intro _; exact .inl h
        · subst h
          constructor
          · rintro (h | ⟨_, h⟩) <;> omega
          · intro h; exact .inr ⟨rfl, by omega⟩
        · have : (b + 1) * 256 ^ m.length ≤ a * 256 ^ m.length := Nat.mul_le_mul_right _ h
          rw [Nat.add_mul] at this
          constructor
          · rintro (h | ⟨h, _⟩) <;> omega
          · intro h; omega
  intro a b ha hb
  rw [main _ _ (by rw [be_len, be_len]) (be_lt k a) (be_lt k b), bev_be, bev_be, Nat.mod_eq_of_lt ha, Nat.mod_eq_of_lt hb]
end Go.Proofs.YtdlagefpglhdoaaDoor.Plain

-- Written by this session's own driver (wip/hybrid.py) of the kit's printer; contracts marked FOREIGN are by hand.
namespace Go.Proofs.YtdlagefpglhdoaaDoor.Q
open Go.RowKit Go.Proofs.YtdlagefpglhdoaaDoorW.PrintWords Go.Proofs.YtdlagefpglhdoaaDoorW.PrintLast Go.Proofs.YtdlagefpglhdoaaDoorW.PrintMore
attribute [local go_sem] max2_int min2_int max_two min_two max_three min_three max_four min_four   -- for this text's walks alone
set_option linter.unusedVariables false
set_option linter.unusedSimpArgs false

/-! ### tenementlaw07_Vector_vector: function 11 -/
def tenementlaw07_Vector_vector.l0 : Nat → Int → Int → Int → Int → Int → Bool → Option (Int × Int × Int × Int)
  | 0, _, _, _, _, _, _ => none
  | k + 1, x3, x214000, x214001, x214002, x214003, x214004 => if x3 < 4 then (if x3 = 0 then (tenementlaw07_Vector_vector.l0 k (wrap64 (x3 + 1)) (Int.tmod x214000 4) x214001 x214002 x214003 x214004) else (if x3 = 1 then (tenementlaw07_Vector_vector.l0 k (wrap64 (x3 + 1)) x214000 (Int.tmod x214001 4) x214002 x214003 x214004) else (if x3 = 2 then (tenementlaw07_Vector_vector.l0 k (wrap64 (x3 + 1)) x214000 x214001 (Int.tmod x214002 4) x214003 x214004) else (if x3 = 3 then (tenementlaw07_Vector_vector.l0 k (wrap64 (x3 + 1)) x214000 x214001 x214002 (Int.tmod x214003 4) x214004) else (none))))) else (some (x214000, x214001, x214002, x214003))
def tenementlaw07_Vector_vector.f (k : Nat) (a0_0 : Int) (a0_1 : Int) (a0_2 : Int) (a0_3 : Int) (a0_4 : Bool) : Option (Int × Int × Int × Int) := if a0_4 = true then (tenementlaw07_Vector_vector.l0 k 0 a0_0 a0_1 a0_2 a0_3 a0_4) else (some (a0_0, a0_1, a0_2, a0_3))
theorem tenementlaw07_Vector_vector.mono_l : ∀ k, (∀ y0 y1 y2 y3 y4 y5, LeO (tenementlaw07_Vector_vector.l0 k y0 y1 y2 y3 y4 y5) (tenementlaw07_Vector_vector.l0 (k + 1) y0 y1 y2 y3 y4 y5))
  | 0 => fun _ _ _ _ _ _ r h => by simp [tenementlaw07_Vector_vector.l0] at h
  | k + 1 => by
    have ih0 := tenementlaw07_Vector_vector.mono_l k
    · intro y0 y1 y2 y3 y4 y5
      unfold tenementlaw07_Vector_vector.l0
      repeat' first
      | (with_reducible exact ih0 _ _ _ _ _ _)
      | (with_reducible exact LeO.refl _)
      | (with_reducible exact LeO.none _)
      | (with_reducible refine LeO.ite ?_ ?_)
      | (with_reducible refine LeO.bind ?_ (fun _ => ?_))
      | exact ih0 _ _ _ _ _ _
      | exact LeO.none _
      | refine LeO.ite ?_ ?_
      | refine LeO.bind ?_ (fun _ => ?_)
theorem tenementlaw07_Vector_vector.mono : ∀ a0 a1 a2 a3 a4 k, LeO (tenementlaw07_Vector_vector.f k a0 a1 a2 a3 a4) (tenementlaw07_Vector_vector.f (k + 1) a0 a1 a2 a3 a4) := by
  intro a0 a1 a2 a3 a4 k
  have ih0 := tenementlaw07_Vector_vector.mono_l k
  unfold tenementlaw07_Vector_vector.f
  repeat' first
      | (with_reducible exact ih0 _ _ _ _ _ _)
      | (with_reducible exact LeO.refl _)
      | (with_reducible exact LeO.none _)
      | (with_reducible refine LeO.ite ?_ ?_)
      | (with_reducible refine LeO.bind ?_ (fun _ => ?_))
      | exact ih0 _ _ _ _ _ _
      | exact LeO.none _
      | refine LeO.ite ?_ ?_
      | refine LeO.bind ?_ (fun _ => ?_)
set_option maxHeartbeats 8000000 in
set_option maxRecDepth 100000 in
theorem tenementlaw07_Vector_vector.calls (k : Nat) (a0_0 : Int) (a0_1 : Int) (a0_2 : Int) (a0_3 : Int) (a0_4 : Bool) (r1 : Int) (r2 : Int) (r3 : Int) (r4 : Int) (w : World) (h : tenementlaw07_Vector_vector.f k a0_0 a0_1 a0_2 a0_3 a0_4 = some (r1, r2, r3, r4)) :
    Calls Tryd.prog 11 #[.agg #[.int .u64 a0_0, .int .u64 a0_1, .int .u64 a0_2, .int .u64 a0_3, .bool a0_4]] w fun e w' => e = .returned (.agg #[.int .u64 r1, .int .u64 r2, .int .u64 r3, .int .u64 r4]) ∧ Below w.heap.size w w' := by
  have hu30 := Tryd.underlying30
  have hu24 := Tryd.underlying24
  have HB := Aside0.mk (Below.refl w.heap.size w)
  have H : (if a0_4 = true then (tenementlaw07_Vector_vector.l0 k 0 a0_0 a0_1 a0_2 a0_3 a0_4) else (some (a0_0, a0_1, a0_2, a0_3))) = some (r1, r2, r3, r4) := h
  clear h
  by_cases c2 : a0_4 = true
  rotate_left
  · replace c2 := Bool.eq_false_iff.mpr c2
    subst c2
    have H1 : (some (a0_0, a0_1, a0_2, a0_3)) = some (r1, r2, r3, r4) := by rw [if_neg (show ¬ (false = true) by decide)] at H; exact H
    clear H
    have H := H1
    clear H1
    simp only [Option.some.injEq, Prod.mk.injEq] at H
    obtain ⟨rfl, rfl, rfl, rfl⟩ := H
    go_enter Tryd.func11, Tryd.ntmps11
    go_wp2_with (first | ((with_reducible refine gate_dst (N := 1) rfl ?_); refine box_event ?hg (N := 1) ?hd (cs := #[.int .u64 a0_0, .int .u64 a0_1, .int .u64 a0_2, .int .u64 a0_3, .bool false]) (t := 30) ?hr ?_; (case hd => rfl); (case hg => rfl); (case hr => first | (go_simp; done) | (go_simp; rfl)); intro gb213 hg w23 hbox hb; have BK213 := Aside0.mk (hbox); have GW213 := Kw_ HB hg; have GE213 := GW213; replace HB := Ks_ HB hb; clear hb hbox hg) | ((with_reducible refine gate_dst (N := 2) rfl ?_); refine box_event ?hg (N := 2) ?hd (cs := #[.int .u64 0, .int .u64 0, .int .u64 0, .int .u64 0]) (t := 24) ?hr ?_; (case hd => rfl); (case hg => rfl); (case hr => first | (go_simp; done) | (go_simp; rfl)); intro gb214 hg w24 hbox hb; have BK214 := Aside0.mk (hbox); have GW214 := Kw_ HB hg; have GE214 := GW214; have NB213_214 := Kl_ BK213 hg; have NB214_213 := Kr_ BK213 hg; replace BK213 := Kb_ BK213 hb; replace HB := Ks_ HB hb; clear hb hbox hg; have hnb25 := NB213_214.out; have hnc25 := NB214_213.out; have hcz26_0 : w24.cell? ⟨gb213, 0, none⟩ = some (.int .u64 a0_0) := (blk_cell BK213.out 0).trans rfl; have hcz26_1 : w24.cell? ⟨gb213, 1, none⟩ = some (.int .u64 a0_1) := (blk_cell BK213.out 1).trans rfl; have hcz26_2 : w24.cell? ⟨gb213, 2, none⟩ = some (.int .u64 a0_2) := (blk_cell BK213.out 2).trans rfl; have hcz26_3 : w24.cell? ⟨gb213, 3, none⟩ = some (.int .u64 a0_3) := (blk_cell BK213.out 3).trans rfl; have hcz26_4 : w24.cell? ⟨gb213, 4, none⟩ = some (.bool false) := (blk_cell BK213.out 4).trans rfl; have hfz26_0 := blk_frozen BK213.out 0; have hfz26_1 := blk_frozen BK213.out 1; have hfz26_2 := blk_frozen BK213.out 2; have hfz26_3 := blk_frozen BK213.out 3; have hfz26_4 := blk_frozen BK213.out 4; have hcz27_0 : w24.cell? ⟨gb214, 0, none⟩ = some (.int .u64 0) := (blk_cell BK214.out 0).trans rfl; have hcz27_1 : w24.cell? ⟨gb214, 1, none⟩ = some (.int .u64 0) := (blk_cell BK214.out 1).trans rfl; have hcz27_2 : w24.cell? ⟨gb214, 2, none⟩ = some (.int .u64 0) := (blk_cell BK214.out 2).trans rfl; have hcz27_3 : w24.cell? ⟨gb214, 3, none⟩ = some (.int .u64 0) := (blk_cell BK214.out 3).trans rfl; have hfz27_0 := blk_frozen BK214.out 0; have hfz27_1 := blk_frozen BK214.out 1; have hfz27_2 := blk_frozen BK214.out 2; have hfz27_3 := blk_frozen BK214.out 3))
    refine bodyPost_ret (results_cell_row rfl _ _ gb214 24 #[.int .u64 a0_0, .int .u64 a0_1, .int .u64 a0_2, .int .u64 a0_3] (0, 0) _ rfl (by (with_reducible repeat (first | refine blk_drewN ?_ _ | refine blk_drew ?_ | refine blk_alloc ?_ _)); refine blk_put (cs := #[.int .u64 a0_0, .int .u64 a0_1, .int .u64 a0_2, .int .u64 0]) ?_ 3 _ rfl; (with_reducible repeat (first | refine blk_drewN ?_ _ | refine blk_drew ?_ | refine blk_alloc ?_ _)); refine blk_put (cs := #[.int .u64 a0_0, .int .u64 a0_1, .int .u64 0, .int .u64 0]) ?_ 2 _ rfl; (with_reducible repeat (first | refine blk_drewN ?_ _ | refine blk_drew ?_ | refine blk_alloc ?_ _)); refine blk_put (cs := #[.int .u64 a0_0, .int .u64 0, .int .u64 0, .int .u64 0]) ?_ 1 _ rfl; (with_reducible repeat (first | refine blk_drewN ?_ _ | refine blk_drew ?_ | refine blk_alloc ?_ _)); refine blk_put (cs := #[.int .u64 0, .int .u64 0, .int .u64 0, .int .u64 0]) ?_ 0 _ rfl; (with_reducible repeat (first | refine blk_drewN ?_ _ | refine blk_drew ?_ | refine blk_alloc ?_ _)); exact BK214.out) Tryd.underlying24 rfl (by kernel_rfl)) rfl ?_
    exact ⟨by first | rfl | (simp [errW_none, errW_some] <;> rfl) | (simp [*, errW_none, errW_some] <;> rfl), by repeat (first | (with_reducible first | exact HB.out | apply below_alloc | apply pw_below_drewN | apply below_drew1 | refine below_set ?_ GE213.out | refine below_set ?_ GE214.out) | exact HB.out)⟩
  subst c2
  have H1 : (tenementlaw07_Vector_vector.l0 k 0 a0_0 a0_1 a0_2 a0_3 true) = some (r1, r2, r3, r4) := by rw [if_pos rfl] at H; exact H
  clear H
  have H := H1
  clear H1
  have H' := Aside0.mk H
  clear H
  go_enter Tryd.func11, Tryd.ntmps11
  go_wp2_with (first | ((with_reducible refine gate_dst (N := 1) rfl ?_); refine box_event ?hg (N := 1) ?hd (cs := #[.int .u64 a0_0, .int .u64 a0_1, .int .u64 a0_2, .int .u64 a0_3, .bool true]) (t := 30) ?hr ?_; (case hd => rfl); (case hg => rfl); (case hr => first | (go_simp; done) | (go_simp; rfl)); intro gb213 hg w3 hbox hb; have BK213 := Aside0.mk (hbox); have GW213 := Kw_ HB hg; have GE213 := GW213; replace HB := Ks_ HB hb; clear hb hbox hg) | ((with_reducible refine gate_dst (N := 2) rfl ?_); refine box_event ?hg (N := 2) ?hd (cs := #[.int .u64 0, .int .u64 0, .int .u64 0, .int .u64 0]) (t := 24) ?hr ?_; (case hd => rfl); (case hg => rfl); (case hr => first | (go_simp; done) | (go_simp; rfl)); intro gb214 hg w4 hbox hb; have BK214 := Aside0.mk (hbox); have GW214 := Kw_ HB hg; have GE214 := GW214; have NB213_214 := Kl_ BK213 hg; have NB214_213 := Kr_ BK213 hg; replace BK213 := Kb_ BK213 hb; replace HB := Ks_ HB hb; clear hb hbox hg; have hnb5 := NB213_214.out; have hnc5 := NB214_213.out; have hcz6_0 : w4.cell? ⟨gb213, 0, none⟩ = some (.int .u64 a0_0) := (blk_cell BK213.out 0).trans rfl; have hcz6_1 : w4.cell? ⟨gb213, 1, none⟩ = some (.int .u64 a0_1) := (blk_cell BK213.out 1).trans rfl; have hcz6_2 : w4.cell? ⟨gb213, 2, none⟩ = some (.int .u64 a0_2) := (blk_cell BK213.out 2).trans rfl; have hcz6_3 : w4.cell? ⟨gb213, 3, none⟩ = some (.int .u64 a0_3) := (blk_cell BK213.out 3).trans rfl; have hcz6_4 : w4.cell? ⟨gb213, 4, none⟩ = some (.bool true) := (blk_cell BK213.out 4).trans rfl; have hfz6_0 := blk_frozen BK213.out 0; have hfz6_1 := blk_frozen BK213.out 1; have hfz6_2 := blk_frozen BK213.out 2; have hfz6_3 := blk_frozen BK213.out 3; have hfz6_4 := blk_frozen BK213.out 4))
  go_loopg [3] k (fun kq v3 w' => ∃ (x3_1 : Int) (x214000_1 : Int) (x214001_1 : Int) (x214002_1 : Int) (x214003_1 : Int), v3 = .int .i64 x3_1 ∧ Aside0 (tenementlaw07_Vector_vector.l0 kq x3_1 x214000_1 x214001_1 x214002_1 x214003_1 true = some (r1, r2, r3, r4)) ∧ Aside0 (kq ≤ k) ∧ Aside0 (w'.heap[gb213]? = some (.cells #[.int .u64 x214000_1, .int .u64 x214001_1, .int .u64 x214002_1, .int .u64 x214003_1, .bool true] 30 (0, 0))) ∧ Aside0 (w'.heap[gb214]? = some (.cells #[.int .u64 0, .int .u64 0, .int .u64 0, .int .u64 0] 24 (0, 0))) ∧ Aside0 (Below w.heap.size w w'))
  case atStart => exact ⟨(0), (a0_0), (a0_1), (a0_2), (a0_3), (by first | rfl | (simp; done) | (simp [*]; done)), H', ⟨Nat.le_refl _⟩, ⟨by (with_reducible repeat (first | refine blk_drewN ?_ _ | refine blk_drew ?_ | refine blk_alloc ?_ _)); exact BK213.out⟩, ⟨by (with_reducible repeat (first | refine blk_drewN ?_ _ | refine blk_drew ?_ | refine blk_alloc ?_ _)); exact BK214.out⟩, ⟨by repeat (first | (with_reducible first | exact HB.out | apply below_alloc | apply pw_below_drewN | apply below_drew1 | refine below_set ?_ GE213.out | refine below_set ?_ GE214.out) | exact HB.out)⟩⟩
  case round =>
    clear H'
    try clear c1
    try clear c2
    try clear p2
    try clear c5
    try clear hcz6_0
    try clear hcz6_1
    try clear hcz6_2
    try clear hcz6_3
    try clear hcz6_4
    try clear hfz6_0
    try clear hfz6_1
    try clear hfz6_2
    try clear hfz6_3
    try clear hfz6_4
    obtain ⟨x3_1, x214000_1, x214001_1, x214002_1, x214003_1, rfl, HA, HK1, BK213, BK214, HB⟩ := hrel
    cases gk with
    | zero => exact absurd HA.out (by simp [tenementlaw07_Vector_vector.l0])
    | succ k1 =>
      have H := HA.out
      clear HA
      simp only [tenementlaw07_Vector_vector.l0] at H
      by_cases c7 : x3_1 < 4
      rotate_left
      · rw [if_neg c7] at H
        have c7b0 : decide (x3_1 < 4) = false := decide_eq_false c7
        clear c7
        simp only [Option.some.injEq, Prod.mk.injEq] at H
        obtain ⟨rfl, rfl, rfl, rfl⟩ := H
        have hnb20 := NB213_214.out
        have hnc20 := NB214_213.out
        have hcz21_0 : wr.cell? ⟨gb213, 0, none⟩ = some (.int .u64 x214000_1) := (blk_cell BK213.out 0).trans rfl
        have hcz21_1 : wr.cell? ⟨gb213, 1, none⟩ = some (.int .u64 x214001_1) := (blk_cell BK213.out 1).trans rfl
        have hcz21_2 : wr.cell? ⟨gb213, 2, none⟩ = some (.int .u64 x214002_1) := (blk_cell BK213.out 2).trans rfl
        have hcz21_3 : wr.cell? ⟨gb213, 3, none⟩ = some (.int .u64 x214003_1) := (blk_cell BK213.out 3).trans rfl
        have hcz21_4 : wr.cell? ⟨gb213, 4, none⟩ = some (.bool true) := (blk_cell BK213.out 4).trans rfl
        have hfz21_0 := blk_frozen BK213.out 0
        have hfz21_1 := blk_frozen BK213.out 1
        have hfz21_2 := blk_frozen BK213.out 2
        have hfz21_3 := blk_frozen BK213.out 3
        have hfz21_4 := blk_frozen BK213.out 4
        have hcz22_0 : wr.cell? ⟨gb214, 0, none⟩ = some (.int .u64 0) := (blk_cell BK214.out 0).trans rfl
        have hcz22_1 : wr.cell? ⟨gb214, 1, none⟩ = some (.int .u64 0) := (blk_cell BK214.out 1).trans rfl
        have hcz22_2 : wr.cell? ⟨gb214, 2, none⟩ = some (.int .u64 0) := (blk_cell BK214.out 2).trans rfl
        have hcz22_3 : wr.cell? ⟨gb214, 3, none⟩ = some (.int .u64 0) := (blk_cell BK214.out 3).trans rfl
        have hfz22_0 := blk_frozen BK214.out 0
        have hfz22_1 := blk_frozen BK214.out 1
        have hfz22_2 := blk_frozen BK214.out 2
        have hfz22_3 := blk_frozen BK214.out 3
        go_wp2
        refine bodyPost_ret (results_cell_row rfl _ _ gb214 24 #[.int .u64 x214000_1, .int .u64 x214001_1, .int .u64 x214002_1, .int .u64 x214003_1] (0, 0) _ rfl (by (with_reducible repeat (first | refine blk_drewN ?_ _ | refine blk_drew ?_ | refine blk_alloc ?_ _)); refine blk_put (cs := #[.int .u64 x214000_1, .int .u64 x214001_1, .int .u64 x214002_1, .int .u64 0]) ?_ 3 _ rfl; (with_reducible repeat (first | refine blk_drewN ?_ _ | refine blk_drew ?_ | refine blk_alloc ?_ _)); refine blk_put (cs := #[.int .u64 x214000_1, .int .u64 x214001_1, .int .u64 0, .int .u64 0]) ?_ 2 _ rfl; (with_reducible repeat (first | refine blk_drewN ?_ _ | refine blk_drew ?_ | refine blk_alloc ?_ _)); refine blk_put (cs := #[.int .u64 x214000_1, .int .u64 0, .int .u64 0, .int .u64 0]) ?_ 1 _ rfl; (with_reducible repeat (first | refine blk_drewN ?_ _ | refine blk_drew ?_ | refine blk_alloc ?_ _)); refine blk_put (cs := #[.int .u64 0, .int .u64 0, .int .u64 0, .int .u64 0]) ?_ 0 _ rfl; (with_reducible repeat (first | refine blk_drewN ?_ _ | refine blk_drew ?_ | refine blk_alloc ?_ _)); exact BK214.out) Tryd.underlying24 rfl (by kernel_rfl)) rfl ?_
        exact ⟨by first | rfl | (simp [errW_none, errW_some] <;> rfl) | (simp [*, errW_none, errW_some] <;> rfl), by repeat (first | (with_reducible first | exact HB.out | apply below_alloc | apply pw_below_drewN | apply below_drew1 | refine below_set ?_ GE213.out | refine below_set ?_ GE214.out) | exact HB.out)⟩
      rw [if_pos c7] at H
      have c7b0 : decide (x3_1 < 4) = true := decide_eq_true c7
      clear c7
      by_cases c8 : x3_1 = 0
      · subst c8
        have H1 : (tenementlaw07_Vector_vector.l0 k1 1 (Int.tmod x214000_1 4) x214001_1 x214002_1 x214003_1 true) = some (r1, r2, r3, r4) := by rw [if_pos rfl] at H; (try simp only [show wrap64 ((0 : Int) + 1) = 1 from by first | rfl | decide | (unfold wrap64; omega), show wrap64 ((0 : Int) - 1) = -1 from by first | rfl | decide | (unfold wrap64; omega)] at H); exact H
        clear H
        have H := H1
        clear H1
        have H' := Aside0.mk H
        clear H
        have hnb9 := NB213_214.out
        have hnc9 := NB214_213.out
        have hcz10_0 : wr.cell? ⟨gb213, 0, none⟩ = some (.int .u64 x214000_1) := (blk_cell BK213.out 0).trans rfl
        have hcz10_1 : wr.cell? ⟨gb213, 1, none⟩ = some (.int .u64 x214001_1) := (blk_cell BK213.out 1).trans rfl
        have hcz10_2 : wr.cell? ⟨gb213, 2, none⟩ = some (.int .u64 x214002_1) := (blk_cell BK213.out 2).trans rfl
        have hcz10_3 : wr.cell? ⟨gb213, 3, none⟩ = some (.int .u64 x214003_1) := (blk_cell BK213.out 3).trans rfl
        have hcz10_4 : wr.cell? ⟨gb213, 4, none⟩ = some (.bool true) := (blk_cell BK213.out 4).trans rfl
        have hfz10_0 := blk_frozen BK213.out 0
        have hfz10_1 := blk_frozen BK213.out 1
        have hfz10_2 := blk_frozen BK213.out 2
        have hfz10_3 := blk_frozen BK213.out 3
        have hfz10_4 := blk_frozen BK213.out 4
        go_wp2
        go_roundg k1
        case measure => have := HK1.out; omega
        case rel => exact ⟨(1), (Int.tmod x214000_1 4), (x214001_1), (x214002_1), (x214003_1), (by first | rfl | (simp; done) | (simp [*]; done)), H', ⟨by have := HK1.out; omega⟩, ⟨by (with_reducible repeat (first | refine blk_drewN ?_ _ | refine blk_drew ?_ | refine blk_alloc ?_ _)); refine blk_put (cs := #[.int .u64 x214000_1, .int .u64 x214001_1, .int .u64 x214002_1, .int .u64 x214003_1, .bool true]) ?_ 0 _ rfl; (with_reducible repeat (first | refine blk_drewN ?_ _ | refine blk_drew ?_ | refine blk_alloc ?_ _)); exact BK213.out⟩, ⟨by (repeat (first | (with_reducible first | refine blk_drewN ?_ _ | refine blk_drew ?_ | refine blk_alloc ?_ _) | refine blk_far ?_ NB214_213.out _)); exact BK214.out⟩, ⟨by repeat (first | (with_reducible first | exact HB.out | apply below_alloc | apply pw_below_drewN | apply below_drew1 | refine below_set ?_ GE213.out | refine below_set ?_ GE214.out) | exact HB.out)⟩⟩
      rw [if_neg c8] at H
      by_cases c11 : x3_1 = 1
      · subst c11
        have H1 : (tenementlaw07_Vector_vector.l0 k1 2 x214000_1 (Int.tmod x214001_1 4) x214002_1 x214003_1 true) = some (r1, r2, r3, r4) := by rw [if_pos rfl] at H; (try simp only [show wrap64 ((1 : Int) + 1) = 2 from by first | rfl | decide | (unfold wrap64; omega), show wrap64 ((1 : Int) - 1) = 0 from by first | rfl | decide | (unfold wrap64; omega)] at H); exact H
        clear H
        have H := H1
        clear H1
        have H' := Aside0.mk H
        clear H
        have hnb12 := NB213_214.out
        have hnc12 := NB214_213.out
        have hcz13_0 : wr.cell? ⟨gb213, 0, none⟩ = some (.int .u64 x214000_1) := (blk_cell BK213.out 0).trans rfl
        have hcz13_1 : wr.cell? ⟨gb213, 1, none⟩ = some (.int .u64 x214001_1) := (blk_cell BK213.out 1).trans rfl
        have hcz13_2 : wr.cell? ⟨gb213, 2, none⟩ = some (.int .u64 x214002_1) := (blk_cell BK213.out 2).trans rfl
        have hcz13_3 : wr.cell? ⟨gb213, 3, none⟩ = some (.int .u64 x214003_1) := (blk_cell BK213.out 3).trans rfl
        have hcz13_4 : wr.cell? ⟨gb213, 4, none⟩ = some (.bool true) := (blk_cell BK213.out 4).trans rfl
        have hfz13_0 := blk_frozen BK213.out 0
        have hfz13_1 := blk_frozen BK213.out 1
        have hfz13_2 := blk_frozen BK213.out 2
        have hfz13_3 := blk_frozen BK213.out 3
        have hfz13_4 := blk_frozen BK213.out 4
        go_wp2
        go_roundg k1
        case measure => have := HK1.out; omega
        case rel => exact ⟨(2), (x214000_1), (Int.tmod x214001_1 4), (x214002_1), (x214003_1), (by first | rfl | (simp; done) | (simp [*]; done)), H', ⟨by have := HK1.out; omega⟩, ⟨by (with_reducible repeat (first | refine blk_drewN ?_ _ | refine blk_drew ?_ | refine blk_alloc ?_ _)); refine blk_put (cs := #[.int .u64 x214000_1, .int .u64 x214001_1, .int .u64 x214002_1, .int .u64 x214003_1, .bool true]) ?_ 1 _ rfl; (with_reducible repeat (first | refine blk_drewN ?_ _ | refine blk_drew ?_ | refine blk_alloc ?_ _)); exact BK213.out⟩, ⟨by (repeat (first | (with_reducible first | refine blk_drewN ?_ _ | refine blk_drew ?_ | refine blk_alloc ?_ _) | refine blk_far ?_ NB214_213.out _)); exact BK214.out⟩, ⟨by repeat (first | (with_reducible first | exact HB.out | apply below_alloc | apply pw_below_drewN | apply below_drew1 | refine below_set ?_ GE213.out | refine below_set ?_ GE214.out) | exact HB.out)⟩⟩
      rw [if_neg c11] at H
      by_cases c14 : x3_1 = 2
      · subst c14
        have H1 : (tenementlaw07_Vector_vector.l0 k1 3 x214000_1 x214001_1 (Int.tmod x214002_1 4) x214003_1 true) = some (r1, r2, r3, r4) := by rw [if_pos rfl] at H; (try simp only [show wrap64 ((2 : Int) + 1) = 3 from by first | rfl | decide | (unfold wrap64; omega), show wrap64 ((2 : Int) - 1) = 1 from by first | rfl | decide | (unfold wrap64; omega)] at H); exact H
        clear H
        have H := H1
        clear H1
        have H' := Aside0.mk H
        clear H
        have hnb15 := NB213_214.out
        have hnc15 := NB214_213.out
        have hcz16_0 : wr.cell? ⟨gb213, 0, none⟩ = some (.int .u64 x214000_1) := (blk_cell BK213.out 0).trans rfl
        have hcz16_1 : wr.cell? ⟨gb213, 1, none⟩ = some (.int .u64 x214001_1) := (blk_cell BK213.out 1).trans rfl
        have hcz16_2 : wr.cell? ⟨gb213, 2, none⟩ = some (.int .u64 x214002_1) := (blk_cell BK213.out 2).trans rfl
        have hcz16_3 : wr.cell? ⟨gb213, 3, none⟩ = some (.int .u64 x214003_1) := (blk_cell BK213.out 3).trans rfl
        have hcz16_4 : wr.cell? ⟨gb213, 4, none⟩ = some (.bool true) := (blk_cell BK213.out 4).trans rfl
        have hfz16_0 := blk_frozen BK213.out 0
        have hfz16_1 := blk_frozen BK213.out 1
        have hfz16_2 := blk_frozen BK213.out 2
        have hfz16_3 := blk_frozen BK213.out 3
        have hfz16_4 := blk_frozen BK213.out 4
        go_wp2
        go_roundg k1
        case measure => have := HK1.out; omega
        case rel => exact ⟨(3), (x214000_1), (x214001_1), (Int.tmod x214002_1 4), (x214003_1), (by first | rfl | (simp; done) | (simp [*]; done)), H', ⟨by have := HK1.out; omega⟩, ⟨by (with_reducible repeat (first | refine blk_drewN ?_ _ | refine blk_drew ?_ | refine blk_alloc ?_ _)); refine blk_put (cs := #[.int .u64 x214000_1, .int .u64 x214001_1, .int .u64 x214002_1, .int .u64 x214003_1, .bool true]) ?_ 2 _ rfl; (with_reducible repeat (first | refine blk_drewN ?_ _ | refine blk_drew ?_ | refine blk_alloc ?_ _)); exact BK213.out⟩, ⟨by (repeat (first | (with_reducible first | refine blk_drewN ?_ _ | refine blk_drew ?_ | refine blk_alloc ?_ _) | refine blk_far ?_ NB214_213.out _)); exact BK214.out⟩, ⟨by repeat (first | (with_reducible first | exact HB.out | apply below_alloc | apply pw_below_drewN | apply below_drew1 | refine below_set ?_ GE213.out | refine below_set ?_ GE214.out) | exact HB.out)⟩⟩
      rw [if_neg c14] at H
      by_cases c17 : x3_1 = 3
      rotate_left
      · rw [if_neg c17] at H
        exact absurd H (by simp)
      subst c17
      have H1 : (tenementlaw07_Vector_vector.l0 k1 4 x214000_1 x214001_1 x214002_1 (Int.tmod x214003_1 4) true) = some (r1, r2, r3, r4) := by rw [if_pos rfl] at H; (try simp only [show wrap64 ((3 : Int) + 1) = 4 from by first | rfl | decide | (unfold wrap64; omega), show wrap64 ((3 : Int) - 1) = 2 from by first | rfl | decide | (unfold wrap64; omega)] at H); exact H
      clear H
      have H := H1
      clear H1
      have H' := Aside0.mk H
      clear H
      have hnb18 := NB213_214.out
      have hnc18 := NB214_213.out
      have hcz19_0 : wr.cell? ⟨gb213, 0, none⟩ = some (.int .u64 x214000_1) := (blk_cell BK213.out 0).trans rfl
      have hcz19_1 : wr.cell? ⟨gb213, 1, none⟩ = some (.int .u64 x214001_1) := (blk_cell BK213.out 1).trans rfl
      have hcz19_2 : wr.cell? ⟨gb213, 2, none⟩ = some (.int .u64 x214002_1) := (blk_cell BK213.out 2).trans rfl
      have hcz19_3 : wr.cell? ⟨gb213, 3, none⟩ = some (.int .u64 x214003_1) := (blk_cell BK213.out 3).trans rfl
      have hcz19_4 : wr.cell? ⟨gb213, 4, none⟩ = some (.bool true) := (blk_cell BK213.out 4).trans rfl
      have hfz19_0 := blk_frozen BK213.out 0
      have hfz19_1 := blk_frozen BK213.out 1
      have hfz19_2 := blk_frozen BK213.out 2
      have hfz19_3 := blk_frozen BK213.out 3
      have hfz19_4 := blk_frozen BK213.out 4
      go_wp2
      go_roundg k1
      case measure => have := HK1.out; omega
      case rel => exact ⟨(4), (x214000_1), (x214001_1), (x214002_1), (Int.tmod x214003_1 4), (by first | rfl | (simp; done) | (simp [*]; done)), H', ⟨by have := HK1.out; omega⟩, ⟨by (with_reducible repeat (first | refine blk_drewN ?_ _ | refine blk_drew ?_ | refine blk_alloc ?_ _)); refine blk_put (cs := #[.int .u64 x214000_1, .int .u64 x214001_1, .int .u64 x214002_1, .int .u64 x214003_1, .bool true]) ?_ 3 _ rfl; (with_reducible repeat (first | refine blk_drewN ?_ _ | refine blk_drew ?_ | refine blk_alloc ?_ _)); exact BK213.out⟩, ⟨by (repeat (first | (with_reducible first | refine blk_drewN ?_ _ | refine blk_drew ?_ | refine blk_alloc ?_ _) | refine blk_far ?_ NB214_213.out _)); exact BK214.out⟩, ⟨by repeat (first | (with_reducible first | exact HB.out | apply below_alloc | apply pw_below_drewN | apply below_drew1 | refine below_set ?_ GE213.out | refine below_set ?_ GE214.out) | exact HB.out)⟩⟩

end Go.Proofs.YtdlagefpglhdoaaDoor.Q

/- Bounds of what comes in; the laws' vectors. -/
set_option linter.unusedVariables false
set_option linter.unusedSimpArgs false
namespace Go.Proofs.YtdlagefpglhdoaaDoor.Pure
open Go.RowKit Go.Proofs.YtdlagefpglhdoaaDoor.Q Go.Proofs.YtdlagefpglhdoaaDoorW.PrintWords Go.Proofs.YtdlagefpglhdoaaDoorW.PrintLast Go.Proofs.YtdlagefpglhdoaaDoorW.PrintMore Go.Proofs.YtdlagefpglhdoaaDoor.Plain

theorem i64_of {x : Int} (h : (Lit.int .i64 x).wf = true) : -9223372036854775808 ≤ x ∧ x ≤ 9223372036854775807 := by
  have h : IntKind.i64.min ≤ x ∧ x ≤ IntKind.i64.max := by simpa only [Lit.wf, Bool.and_eq_true, decide_eq_true_eq] using h
  exact h
theorem u8_of {x : Int} (h : (Lit.int .u8 x).wf = true) : 0 ≤ x ∧ x ≤ 255 := by
  have h : IntKind.u8.min ≤ x ∧ x ≤ IntKind.u8.max := by simpa only [Lit.wf, Bool.and_eq_true, decide_eq_true_eq] using h
  exact h
theorem u16_of {x : Int} (h : (Lit.int .u16 x).wf = true) : 0 ≤ x ∧ x ≤ 65535 := by
  have h : IntKind.u16.min ≤ x ∧ x ≤ IntKind.u16.max := by simpa only [Lit.wf, Bool.and_eq_true, decide_eq_true_eq] using h
  exact h
theorem u64_of {x : Int} (h : (Lit.int .u64 x).wf = true) : 0 ≤ x ∧ x ≤ 18446744073709551615 := by
  have h : IntKind.u64.min ≤ x ∧ x ≤ IntKind.u64.max := by simpa only [Lit.wf, Bool.and_eq_true, decide_eq_true_eq] using h
  exact h
theorem vector_f {v0 v1 v2 v3 : Int} (h0 : (Lit.int .u64 v0).wf = true) (h1 : (Lit.int .u64 v1).wf = true) (h2 : (Lit.int .u64 v2).wf = true) (h3 : (Lit.int .u64 v3).wf = true) (own : Bool) {k : Nat} (hk : 5 ≤ k) :
    ∃ n0 n1 n2 n3 : Nat, tenementlaw07_Vector_vector.f k v0 v1 v2 v3 own = some ((n0 : Int), (n1 : Int), (n2 : Int), (n3 : Int)) ∧ n0 < 18446744073709551616 ∧ n1 < 18446744073709551616 ∧ n2 < 18446744073709551616 ∧ n3 < 18446744073709551616 := by
  have h0 := u64_of h0
  have h1 := u64_of h1
  have h2 := u64_of h2
  have h3 := u64_of h3
  unfold tenementlaw07_Vector_vector.f
  cases own with
  | false =>
    rw [if_neg (by simp)]
    exact ⟨v0.toNat, v1.toNat, v2.toNat, v3.toNat, by rw [Int.toNat_of_nonneg h0.1, Int.toNat_of_nonneg h1.1, Int.toNat_of_nonneg h2.1, Int.toNat_of_nonneg h3.1], by omega, by omega, by omega, by omega⟩
  | true =>
    rw [if_pos rfl]
    obtain ⟨k, rfl⟩ : ∃ m, k = m + 5 := ⟨k - 5, by omega⟩
    have e : tenementlaw07_Vector_vector.l0 (k + 5) 0 v0 v1 v2 v3 true = some (Int.tmod v0 4, Int.tmod v1 4, Int.tmod v2 4, Int.tmod v3 4) := by
      rw [tenementlaw07_Vector_vector.l0, if_pos (by omega), if_pos rfl, show wrap64 (0 + 1) = 1 from wrap64_id (by omega) (by omega)]
      rw [tenementlaw07_Vector_vector.l0, if_pos (by omega), if_neg (by omega), if_pos rfl, show wrap64 (1 + 1) = 2 from wrap64_id (by omega) (by omega)]
      rw [tenementlaw07_Vector_vector.l0, if_pos (by omega), if_neg (by omega), if_neg (by omega), if_pos rfl, show wrap64 (2 + 1) = 3 from wrap64_id (by omega) (by omega)]
      rw [tenementlaw07_Vector_vector.l0, if_pos (by omega), if_neg (by omega), if_neg (by omega), if_neg (by omega), if_pos rfl, show wrap64 (3 + 1) = 4 from wrap64_id (by omega) (by omega)]
      rw [tenementlaw07_Vector_vector.l0, if_neg (by omega)]
    rw [e, Int.tmod_eq_emod_of_nonneg h0.1, Int.tmod_eq_emod_of_nonneg h1.1, Int.tmod_eq_emod_of_nonneg h2.1, Int.tmod_eq_emod_of_nonneg h3.1]
    exact ⟨(v0 % 4).toNat, (v1 % 4).toNat, (v2 % 4).toNat, (v3 % 4).toNat, by rw [Int.toNat_of_nonneg (by omega), Int.toNat_of_nonneg (by omega), Int.toNat_of_nonneg (by omega), Int.toNat_of_nonneg (by omega)], by omega, by omega, by omega, by omega⟩
end Go.Proofs.YtdlagefpglhdoaaDoor.Pure

-- Written by this session's own driver (wip/hybrid.py) of the kit's printer; contracts marked FOREIGN are by hand.
namespace Go.Proofs.YtdlagefpglhdoaaDoor.Q
open Go.RowKit Go.Proofs.YtdlagefpglhdoaaDoorW.PrintWords Go.Proofs.YtdlagefpglhdoaaDoorW.PrintLast Go.Proofs.YtdlagefpglhdoaaDoorW.PrintMore
attribute [local go_sem] max2_int min2_int max_two min_two max_three min_three max_four min_four   -- for this text's walks alone
set_option linter.unusedVariables false
set_option linter.unusedSimpArgs false

/-! ### vec_Meet: function 34 -/
-- FOREIGN: an array by place, a closure
def vec_Meet.f (a0_0 a0_1 a0_2 a0_3 a1_0 a1_1 a1_2 a1_3 : Int) : Option (Int × Int × Int × Int) := some (mn a0_0 a1_0, mn a0_1 a1_1, mn a0_2 a1_2, mn a0_3 a1_3)
theorem vec_Meet.pick (a b : Int) (w : World) :
    Calls Tryd.prog 62 #[.int .u64 a, .int .u64 b] w fun e w' => e = .returned (.int .u64 (mn a b)) ∧ w' = w := by
  go_enter Tryd.func62, Tryd.ntmps62
  go_wp2
  all_goals (go_ret; refine ⟨?_, rfl⟩; unfold mn; first | rfl | (by_cases h2 : b < a <;> first | (exfalso; omega) | (rw [if_pos h2]; rfl) | (rw [if_neg h2]; rfl) | (exfalso; omega) | (simp_all; done) | (simp_all; omega)))
theorem vec_Meet.boxes3 (w : World) (xs ys zs : Array Value) (t : TypeId) (W : World) (h : ((w.alloc (.cells xs t)).alloc (.cells ys t)).alloc (.cells zs t) = W) :
    W.heap[w.heap.size]? = some (.cells xs t (0,0)) ∧ W.heap[w.heap.size+1]? = some (.cells ys t (0,0)) ∧ W.heap[w.heap.size+1+1]? = some (.cells zs t (0,0)) ∧ Below w.heap.size w W := by
  subst h
  have s1 : (w.alloc (.cells xs t)).heap.size = w.heap.size + 1 := by simp [World.alloc, -World.alloc_eq]
  have s2 : ((w.alloc (.cells xs t)).alloc (.cells ys t)).heap.size = w.heap.size + 1 + 1 := by simp [World.alloc, -World.alloc_eq]
  refine ⟨blk_alloc (blk_alloc (blk_new _ _) _) _, ?_, ?_, below_alloc (below_alloc (below_alloc (Below.refl _ _) _) _) _⟩
  · rw [← s1]; exact blk_alloc (blk_new _ _) _
  · rw [← s2]; exact blk_new _ _
set_option maxHeartbeats 8000000 in
set_option maxRecDepth 100000 in
theorem vec_Meet.each (a0_0 a0_1 a0_2 a0_3 a1_0 a1_1 a1_2 a1_3 : Int) (w : World) :
    Calls Tryd.prog 60 #[.agg #[.int .u64 a0_0, .int .u64 a0_1, .int .u64 a0_2, .int .u64 a0_3], .agg #[.int .u64 a1_0, .int .u64 a1_1, .int .u64 a1_2, .int .u64 a1_3], .func (.func 62) #[] #[]] w fun e w' => e = .returned (.agg #[.int .u64 (mn a0_0 a1_0), .int .u64 (mn a0_1 a1_1), .int .u64 (mn a0_2 a1_2), .int .u64 (mn a0_3 a1_3)]) ∧ Below w.heap.size w w' := by
  have hu := Tryd.underlying24
  have hu2 := Tryd.underlying22
  go_enter Tryd.func60, Tryd.ntmps60
  go_wp2
  generalize hW : (((w.alloc (Obj.cells #[.int .u64 a0_0, .int .u64 a0_1, .int .u64 a0_2, .int .u64 a0_3] 24)).alloc
   (Obj.cells #[.int .u64 a1_0, .int .u64 a1_1, .int .u64 a1_2, .int .u64 a1_3] 24)).alloc (Obj.cells _ 24)) = W0
  obtain ⟨hA, hB, hC, HB⟩ := vec_Meet.boxes3 _ _ _ _ _ _ hW
  replace HB := Aside0.mk HB
  clear hW
  obtain ⟨B0, hB0⟩ : ∃ B0, B0 = w.heap.size := ⟨_, rfl⟩
  obtain ⟨B1, hB1⟩ : ∃ B1, B1 = w.heap.size + 1 := ⟨_, rfl⟩
  obtain ⟨B2, hB2⟩ : ∃ B2, B2 = w.heap.size + 1 + 1 := ⟨_, rfl⟩
  rw [← hB2, ← hB1, ← hB0]
  rw [← hB0] at hA
  rw [← hB1] at hB
  rw [← hB2] at hC
  have g01 : B0 ≠ B1 := by omega
  have g02 : B0 ≠ B2 := by omega
  have GB := Aside0.mk (show w.heap.size ≤ B0 by omega)
  have GC := Aside0.mk (show w.heap.size ≤ B2 by omega)
  clear hB0 hB1 hB2
  replace hA := Aside0.mk hA
  replace hB := Aside0.mk hB
  replace hC := Aside0.mk hC
  refine wp_loop_rounds 5 ?_
  rw [rounds_succ]
  have ca := (blk_cell hA.out 0).trans rfl
  have cb := (blk_cell hB.out 0).trans rfl
  go_wp2
  go_still_tail 9, (by kernel_rfl)
  still_call (vec_Meet.pick _ _ _)
  refine wpStill_nil ?_
  change wpList _ _ _ _ _ W0.drew
  clear ca cb
  have fa : W0.drew.frozen? ⟨B0, 0, none⟩ = false := blk_frozen hA.out 0
  have ca : W0.drew.cell? ⟨B0, 0, none⟩ = some (.int .u64 a0_0) := blk_cell hA.out 0
  go_wp2
  have hA1 := Aside0.mk (blk_drew (blk_put hA.out 0 (.int .u64 (mn a0_0 a1_0)) (cs' := #[.int .u64 (mn a0_0 a1_0), .int .u64 a0_1, .int .u64 a0_2, .int .u64 a0_3]) rfl))
  have hB1 := Aside0.mk (blk_drew (blk_far hB.out (p := ⟨B0, 0, none⟩) (Ne.symm g01) (.int .u64 (mn a0_0 a1_0))))
  have hC1 := Aside0.mk (blk_drew (blk_far hC.out (p := ⟨B0, 0, none⟩) (Ne.symm g02) (.int .u64 (mn a0_0 a1_0))))
  have HB1 := Aside0.mk (below_drew1 (below_set (j := 0) (v := .int .u64 (mn a0_0 a1_0)) HB.out GB.out))
  clear hA hB hC HB ca fa
  generalize (W0.setCell ⟨B0, 0, none⟩ (.int .u64 (mn a0_0 a1_0))).drew = W1 at *
  clear W0
  have hA := hA1
  have hB := hB1
  have hC := hC1
  have HB := HB1
  clear hA1 hB1 hC1 HB1
  rw [rounds_succ]
  have ca := (blk_cell hA.out 1).trans rfl
  have cb := (blk_cell hB.out 1).trans rfl
  go_wp2
  go_still_tail 9, (by kernel_rfl)
  still_call (vec_Meet.pick _ _ _)
  refine wpStill_nil ?_
  change wpList _ _ _ _ _ W1.drew
  clear ca cb
  have fa : W1.drew.frozen? ⟨B0, 1, none⟩ = false := blk_frozen hA.out 1
  have ca : W1.drew.cell? ⟨B0, 1, none⟩ = some (.int .u64 a0_1) := blk_cell hA.out 1
  go_wp2
  have hA1 := Aside0.mk (blk_drew (blk_put hA.out 1 (.int .u64 (mn a0_1 a1_1)) (cs' := #[.int .u64 (mn a0_0 a1_0), .int .u64 (mn a0_1 a1_1), .int .u64 a0_2, .int .u64 a0_3]) rfl))
  have hB1 := Aside0.mk (blk_drew (blk_far hB.out (p := ⟨B0, 1, none⟩) (Ne.symm g01) (.int .u64 (mn a0_1 a1_1))))
  have hC1 := Aside0.mk (blk_drew (blk_far hC.out (p := ⟨B0, 1, none⟩) (Ne.symm g02) (.int .u64 (mn a0_1 a1_1))))
  have HB1 := Aside0.mk (below_drew1 (below_set (j := 1) (v := .int .u64 (mn a0_1 a1_1)) HB.out GB.out))
  clear hA hB hC HB ca fa
  generalize (W1.setCell ⟨B0, 1, none⟩ (.int .u64 (mn a0_1 a1_1))).drew = W2 at *
  clear W1
  have hA := hA1
  have hB := hB1
  have hC := hC1
  have HB := HB1
  clear hA1 hB1 hC1 HB1
  rw [rounds_succ]
  have ca := (blk_cell hA.out 2).trans rfl
  have cb := (blk_cell hB.out 2).trans rfl
  go_wp2
  go_still_tail 9, (by kernel_rfl)
  still_call (vec_Meet.pick _ _ _)
  refine wpStill_nil ?_
  change wpList _ _ _ _ _ W2.drew
  clear ca cb
  have fa : W2.drew.frozen? ⟨B0, 2, none⟩ = false := blk_frozen hA.out 2
  have ca : W2.drew.cell? ⟨B0, 2, none⟩ = some (.int .u64 a0_2) := blk_cell hA.out 2
  go_wp2
  have hA1 := Aside0.mk (blk_drew (blk_put hA.out 2 (.int .u64 (mn a0_2 a1_2)) (cs' := #[.int .u64 (mn a0_0 a1_0), .int .u64 (mn a0_1 a1_1), .int .u64 (mn a0_2 a1_2), .int .u64 a0_3]) rfl))
  have hB1 := Aside0.mk (blk_drew (blk_far hB.out (p := ⟨B0, 2, none⟩) (Ne.symm g01) (.int .u64 (mn a0_2 a1_2))))
  have hC1 := Aside0.mk (blk_drew (blk_far hC.out (p := ⟨B0, 2, none⟩) (Ne.symm g02) (.int .u64 (mn a0_2 a1_2))))
  have HB1 := Aside0.mk (below_drew1 (below_set (j := 2) (v := .int .u64 (mn a0_2 a1_2)) HB.out GB.out))
  clear hA hB hC HB ca fa
  generalize (W2.setCell ⟨B0, 2, none⟩ (.int .u64 (mn a0_2 a1_2))).drew = W3 at *
  clear W2
  have hA := hA1
  have hB := hB1
  have hC := hC1
  have HB := HB1
  clear hA1 hB1 hC1 HB1
  rw [rounds_succ]
  have ca := (blk_cell hA.out 3).trans rfl
  have cb := (blk_cell hB.out 3).trans rfl
  go_wp2
  go_still_tail 9, (by kernel_rfl)
  still_call (vec_Meet.pick _ _ _)
  refine wpStill_nil ?_
  change wpList _ _ _ _ _ W3.drew
  clear ca cb
  have fa : W3.drew.frozen? ⟨B0, 3, none⟩ = false := blk_frozen hA.out 3
  have ca : W3.drew.cell? ⟨B0, 3, none⟩ = some (.int .u64 a0_3) := blk_cell hA.out 3
  go_wp2
  have hA1 := Aside0.mk (blk_drew (blk_put hA.out 3 (.int .u64 (mn a0_3 a1_3)) (cs' := #[.int .u64 (mn a0_0 a1_0), .int .u64 (mn a0_1 a1_1), .int .u64 (mn a0_2 a1_2), .int .u64 (mn a0_3 a1_3)]) rfl))
  have hB1 := Aside0.mk (blk_drew (blk_far hB.out (p := ⟨B0, 3, none⟩) (Ne.symm g01) (.int .u64 (mn a0_3 a1_3))))
  have hC1 := Aside0.mk (blk_drew (blk_far hC.out (p := ⟨B0, 3, none⟩) (Ne.symm g02) (.int .u64 (mn a0_3 a1_3))))
  have HB1 := Aside0.mk (below_drew1 (below_set (j := 3) (v := .int .u64 (mn a0_3 a1_3)) HB.out GB.out))
  clear hA hB hC HB ca fa
  generalize (W3.setCell ⟨B0, 3, none⟩ (.int .u64 (mn a0_3 a1_3))).drew = W4 at *
  clear W3
  have hA := hA1
  have hB := hB1
  have hC := hC1
  have HB := HB1
  clear hA1 hB1 hC1 HB1
  rw [rounds_succ]
  have c0 := (blk_cell hA.out 0).trans rfl
  have c1 := (blk_cell hA.out 1).trans rfl
  have c2 := (blk_cell hA.out 2).trans rfl
  have c3 := (blk_cell hA.out 3).trans rfl
  have f0 := blk_frozen hC.out 0
  have f1 := blk_frozen hC.out 1
  have f2 := blk_frozen hC.out 2
  have f3 := blk_frozen hC.out 3
  have d0 := (blk_cell hC.out 0).trans rfl
  have d1 := (blk_cell hC.out 1).trans rfl
  have d2 := (blk_cell hC.out 2).trans rfl
  have d3 := (blk_cell hC.out 3).trans rfl
  go_wp2
  clear c0 c1 c2 c3 d0 d1 d2 d3 f0 f1 f2 f3
  have hC1 := Aside0.mk (blk_put (blk_put (blk_put (blk_put hC.out 0 (.int .u64 (mn a0_0 a1_0)) rfl) 1 (.int .u64 (mn a0_1 a1_1)) rfl) 2 (.int .u64 (mn a0_2 a1_2)) rfl) 3 (.int .u64 (mn a0_3 a1_3)) (cs' := #[.int .u64 (mn a0_0 a1_0), .int .u64 (mn a0_1 a1_1), .int .u64 (mn a0_2 a1_2), .int .u64 (mn a0_3 a1_3)]) rfl)
  have HB1 := Aside0.mk (below_set (j := 3) (v := .int .u64 (mn a0_3 a1_3)) (below_set (j := 2) (v := .int .u64 (mn a0_2 a1_2)) (below_set (j := 1) (v := .int .u64 (mn a0_1 a1_1)) (below_set (j := 0) (v := .int .u64 (mn a0_0 a1_0)) HB.out GC.out) GC.out) GC.out) GC.out)
  clear hA hB hC HB
  generalize (((W4.setCell ⟨B2, 0, none⟩ (.int .u64 (mn a0_0 a1_0))).setCell ⟨B2, 1, none⟩ (.int .u64 (mn a0_1 a1_1))).setCell ⟨B2, 2, none⟩ (.int .u64 (mn a0_2 a1_2))).setCell ⟨B2, 3, none⟩ (.int .u64 (mn a0_3 a1_3)) = W5 at *
  clear W4
  have d0 := (blk_cell hC1.out 0).trans rfl
  have d1 := (blk_cell hC1.out 1).trans rfl
  have d2 := (blk_cell hC1.out 2).trans rfl
  have d3 := (blk_cell hC1.out 3).trans rfl
  refine bodyPost_ret (v := .agg #[.int .u64 (mn a0_0 a1_0), .int .u64 (mn a0_1 a1_1), .int .u64 (mn a0_2 a1_2), .int .u64 (mn a0_3 a1_3)]) (by simp [results, Tryd.results60, go_sem, hu, hu2, d0, d1, d2, d3]) rfl ⟨rfl, HB1.out⟩
theorem vec_Meet.calls (a0_0 a0_1 a0_2 a0_3 a1_0 a1_1 a1_2 a1_3 r1 r2 r3 r4 : Int) (w : World) (h : vec_Meet.f a0_0 a0_1 a0_2 a0_3 a1_0 a1_1 a1_2 a1_3 = some (r1, r2, r3, r4)) :
    Calls Tryd.prog 34 #[.agg #[.int .u64 a0_0, .int .u64 a0_1, .int .u64 a0_2, .int .u64 a0_3], .agg #[.int .u64 a1_0, .int .u64 a1_1, .int .u64 a1_2, .int .u64 a1_3]] w fun e w' => e = .returned (.agg #[.int .u64 r1, .int .u64 r2, .int .u64 r3, .int .u64 r4]) ∧ Below w.heap.size w w' := by
  simp only [vec_Meet.f, Option.some.injEq, Prod.mk.injEq] at h
  obtain ⟨rfl, rfl, rfl, rfl⟩ := h
  have hmf : ∀ (fn : Fn) (first cap : Array Value) (w : World), (Instr.makeFunc fn first cap).run Tryd.prog w = .ok (.func fn first cap) w := fun _ _ _ _ => rfl
  go_enter Tryd.func34, Tryd.ntmps34
  go_wp2_with (go_at_call 60; refine (vec_Meet.each _ _ _ _ _ _ _ _ _).mono ?_; rintro e w1 ⟨rfl, hb⟩; have hX := vec_Meet.boxes3 w #[.int .u64 a0_0, .int .u64 a0_1, .int .u64 a0_2, .int .u64 a0_3] #[.int .u64 a1_0, .int .u64 a1_1, .int .u64 a1_2, .int .u64 a1_3] #[.int .u64 0, .int .u64 0, .int .u64 0, .int .u64 0] 24 _ rfl; have hC := Aside0.mk (blk_below hX.2.2.1 hb); have HB := Aside0.mk (below_step hX.2.2.2 hb); clear hX; clear hb; have f0 := blk_frozen hC.out 0; have f1 := blk_frozen hC.out 1; have f2 := blk_frozen hC.out 2; have f3 := blk_frozen hC.out 3; have d0 := (blk_cell hC.out 0).trans rfl; have d1 := (blk_cell hC.out 1).trans rfl; have d2 := (blk_cell hC.out 2).trans rfl; have d3 := (blk_cell hC.out 3).trans rfl)
  clear d0 d1 d2 d3 f0 f1 f2 f3
  have GC : w.heap.size ≤ w.heap.size + 1 + 1 := by omega
  have hC1 := Aside0.mk (blk_put (blk_put (blk_put (blk_put hC.out 0 (.int .u64 (mn a0_0 a1_0)) rfl) 1 (.int .u64 (mn a0_1 a1_1)) rfl) 2 (.int .u64 (mn a0_2 a1_2)) rfl) 3 (.int .u64 (mn a0_3 a1_3)) (cs' := #[.int .u64 (mn a0_0 a1_0), .int .u64 (mn a0_1 a1_1), .int .u64 (mn a0_2 a1_2), .int .u64 (mn a0_3 a1_3)]) rfl)
  have HB1 := Aside0.mk (below_set (j := 3) (v := .int .u64 (mn a0_3 a1_3)) (below_set (j := 2) (v := .int .u64 (mn a0_2 a1_2)) (below_set (j := 1) (v := .int .u64 (mn a0_1 a1_1)) (below_set (j := 0) (v := .int .u64 (mn a0_0 a1_0)) HB.out GC) GC) GC) GC)
  clear hC HB
  generalize (((w1.setCell ⟨w.heap.size + 1 + 1, 0, none⟩ (.int .u64 (mn a0_0 a1_0))).setCell ⟨w.heap.size + 1 + 1, 1, none⟩ (.int .u64 (mn a0_1 a1_1))).setCell ⟨w.heap.size + 1 + 1, 2, none⟩ (.int .u64 (mn a0_2 a1_2))).setCell ⟨w.heap.size + 1 + 1, 3, none⟩ (.int .u64 (mn a0_3 a1_3)) = W5 at *
  have hu := Tryd.underlying24
  have hu2 := Tryd.underlying22
  have d0 := (blk_cell hC1.out 0).trans rfl
  have d1 := (blk_cell hC1.out 1).trans rfl
  have d2 := (blk_cell hC1.out 2).trans rfl
  have d3 := (blk_cell hC1.out 3).trans rfl
  refine bodyPost_ret (v := .agg #[.int .u64 (mn a0_0 a1_0), .int .u64 (mn a0_1 a1_1), .int .u64 (mn a0_2 a1_2), .int .u64 (mn a0_3 a1_3)]) (by simp [results, Tryd.results34, go_sem, hu, hu2, d0, d1, d2, d3]) rfl ⟨rfl, HB1.out⟩


end Go.Proofs.YtdlagefpglhdoaaDoor.Q
