-- Written by this session's own driver (wip/hybrid.py) of the kit's printer; contracts marked FOREIGN are by hand.
import Derived.Test.YtdlagefpglhdoaaDoorQx0
import Derived.Test.YtdlagefpglhdoaaDoorQxf21
namespace Go.Proofs.YtdlagefpglhdoaaDoor.Q
open Go.RowKit Go.Proofs.YtdlagefpglhdoaaDoorW.PrintWords Go.Proofs.YtdlagefpglhdoaaDoorW.PrintLast Go.Proofs.YtdlagefpglhdoaaDoorW.PrintMore
attribute [local go_sem] max2_int min2_int max_two min_two max_three min_three max_four min_four   -- for this text's walks alone
set_option linter.unusedVariables false
set_option linter.unusedSimpArgs false

/-! ### stamp_Later: function 15 -/
-- FOREIGN: a function handed in
def stamp_Later.f (k : Nat) (a0_0 a0_1 a0_2 a0_3 a0_4 a1_0 a1_1 a1_2 a1_3 a1_4 : Int) : Option (Int × Int × Int × Int × Int) := (stamp_Order.f k a0_0 a0_1 a0_2 a0_3 a0_4 a1_0 a1_1 a1_2 a1_3 a1_4).bind fun r => if 0 < r then some (a0_0, a0_1, a0_2, a0_3, a0_4) else some (a1_0, a1_1, a1_2, a1_3, a1_4)
theorem stamp_Later.mono : ∀ a0_0 a0_1 a0_2 a0_3 a0_4 a1_0 a1_1 a1_2 a1_3 a1_4 k, LeO (stamp_Later.f k a0_0 a0_1 a0_2 a0_3 a0_4 a1_0 a1_1 a1_2 a1_3 a1_4) (stamp_Later.f (k + 1) a0_0 a0_1 a0_2 a0_3 a0_4 a1_0 a1_1 a1_2 a1_3 a1_4) := fun a0_0 a0_1 a0_2 a0_3 a0_4 a1_0 a1_1 a1_2 a1_3 a1_4 k => LeO.bind (stamp_Order.mono a0_0 a0_1 a0_2 a0_3 a0_4 a1_0 a1_1 a1_2 a1_3 a1_4 k) (fun _ => LeO.refl _)
theorem stamp_Later.boxes3 (w : World) (xs ys zs : Array Value) (t : TypeId) (W : World) (h : ((w.alloc (.cells xs t)).alloc (.cells ys t)).alloc (.cells zs t) = W) :
    W.heap[w.heap.size]? = some (.cells xs t (0,0)) ∧ W.heap[w.heap.size+1]? = some (.cells ys t (0,0)) ∧ W.heap[w.heap.size+1+1]? = some (.cells zs t (0,0)) ∧ Below w.heap.size w W := by
  subst h
  have s1 : (w.alloc (.cells xs t)).heap.size = w.heap.size + 1 := by simp [World.alloc, -World.alloc_eq]
  have s2 : ((w.alloc (.cells xs t)).alloc (.cells ys t)).heap.size = w.heap.size + 1 + 1 := by simp [World.alloc, -World.alloc_eq]
  refine ⟨blk_alloc (blk_alloc (blk_new _ _) _) _, ?_, ?_, below_alloc (below_alloc (below_alloc (Below.refl _ _) _) _) _⟩
  · rw [← s1]; exact blk_alloc (blk_new _ _) _
  · rw [← s2]; exact blk_new _ _
set_option maxHeartbeats 8000000 in
set_option maxRecDepth 100000 in
theorem stamp_Later.overP (k : Nat) (a0_0 a0_1 a0_2 a0_3 a0_4 a1_0 a1_1 a1_2 a1_3 a1_4 : Int) (r : Int) (w : World) (h : stamp_Order.f k a0_0 a0_1 a0_2 a0_3 a0_4 a1_0 a1_1 a1_2 a1_3 a1_4 = some r) (c : 0 < r) :
    Calls Tryd.prog 39 #[.agg #[.int .u64 a0_0, .int .u64 a0_1, .int .u64 a0_2, .int .u64 a0_3, .int .i64 a0_4], .agg #[.int .u64 a1_0, .int .u64 a1_1, .int .u64 a1_2, .int .u64 a1_3, .int .i64 a1_4], .func (.func 21) #[] #[]] w fun e w' => e = .returned (.agg #[.int .u64 a0_0, .int .u64 a0_1, .int .u64 a0_2, .int .u64 a0_3, .int .i64 a0_4]) ∧ Below w.heap.size w w' := by
  have hus := Tryd.underlying26
  have huv := Tryd.underlying24
  have hu2 := Tryd.underlying22
  have hui := Tryd.underlying3
  replace h := Aside0.mk h
  have cd : decide (0 < r) = true := by simpa using c
  clear c
  go_enter Tryd.func39, Tryd.ntmps39
  go_wp2_with (go_at_call 21; refine (stamp_Order.calls k a0_0 a0_1 a0_2 a0_3 a0_4 a1_0 a1_1 a1_2 a1_3 a1_4 r _ h.out).mono ?_; rintro e w1 ⟨rfl, hb⟩; have hX := stamp_Later.boxes3 w #[.int .u64 a0_0, .int .u64 a0_1, .int .u64 a0_2, .int .u64 a0_3, .int .i64 a0_4] #[.int .u64 a1_0, .int .u64 a1_1, .int .u64 a1_2, .int .u64 a1_3, .int .i64 a1_4] #[.int .u64 0, .int .u64 0, .int .u64 0, .int .u64 0, .int .i64 0] 26 _ rfl; have hA := Aside0.mk (blk_below hX.1 hb); have hB := Aside0.mk (blk_below hX.2.1 hb); have hC := Aside0.mk (blk_below hX.2.2.1 hb); have HB := Aside0.mk (below_step hX.2.2.2 hb); clear hX; clear hb; have a_0 := (blk_cell hA.out 0).trans rfl; have a_1 := (blk_cell hA.out 1).trans rfl; have a_2 := (blk_cell hA.out 2).trans rfl; have a_3 := (blk_cell hA.out 3).trans rfl; have a_4 := (blk_cell hA.out 4).trans rfl; have b_0 := (blk_cell hB.out 0).trans rfl; have b_1 := (blk_cell hB.out 1).trans rfl; have b_2 := (blk_cell hB.out 2).trans rfl; have b_3 := (blk_cell hB.out 3).trans rfl; have b_4 := (blk_cell hB.out 4).trans rfl; have d_0 := (blk_cell hC.out 0).trans rfl; have d_1 := (blk_cell hC.out 1).trans rfl; have d_2 := (blk_cell hC.out 2).trans rfl; have d_3 := (blk_cell hC.out 3).trans rfl; have d_4 := (blk_cell hC.out 4).trans rfl; have f_0 := blk_frozen hC.out 0; have f_1 := blk_frozen hC.out 1; have f_2 := blk_frozen hC.out 2; have f_3 := blk_frozen hC.out 3; have f_4 := blk_frozen hC.out 4)
  clear a_0 a_1 a_2 a_3 a_4 b_0 b_1 b_2 b_3 b_4 d_0 d_1 d_2 d_3 d_4 f_0 f_1 f_2 f_3 f_4
  have GC : w.heap.size ≤ w.heap.size + 1 + 1 := by omega
  have hC1 := Aside0.mk (blk_put (blk_put (blk_put (blk_put (blk_put hC.out 0 (.int .u64 a0_0) rfl) 1 (.int .u64 a0_1) rfl) 2 (.int .u64 a0_2) rfl) 3 (.int .u64 a0_3) rfl) 4 (.int .i64 a0_4) (cs' := #[.int .u64 a0_0, .int .u64 a0_1, .int .u64 a0_2, .int .u64 a0_3, .int .i64 a0_4]) rfl)
  have HB1 := Aside0.mk (below_set (j := 4) (v := .int .i64 a0_4) (below_set (j := 3) (v := .int .u64 a0_3) (below_set (j := 2) (v := .int .u64 a0_2) (below_set (j := 1) (v := .int .u64 a0_1) (below_set (j := 0) (v := .int .u64 a0_0) HB.out GC) GC) GC) GC) GC)
  clear hA hB hC HB
  generalize (((((w1.setCell ⟨w.heap.size + 1 + 1, 0, none⟩ (.int .u64 a0_0)).setCell ⟨w.heap.size + 1 + 1, 1, none⟩ (.int .u64 a0_1)).setCell ⟨w.heap.size + 1 + 1, 2, none⟩ (.int .u64 a0_2)).setCell ⟨w.heap.size + 1 + 1, 3, none⟩ (.int .u64 a0_3)).setCell ⟨w.heap.size + 1 + 1, 4, none⟩ (.int .i64 a0_4)) = W5 at *
  have d0 := (blk_cell hC1.out 0).trans rfl
  have d1 := (blk_cell hC1.out 1).trans rfl
  have d2 := (blk_cell hC1.out 2).trans rfl
  have d3 := (blk_cell hC1.out 3).trans rfl
  have d4 := (blk_cell hC1.out 4).trans rfl
  refine bodyPost_ret (v := .agg #[.int .u64 a0_0, .int .u64 a0_1, .int .u64 a0_2, .int .u64 a0_3, .int .i64 a0_4]) (by simp [results, Tryd.results39, go_sem, hus, huv, hu2, hui, d0, d1, d2, d3, d4]) rfl ⟨rfl, HB1.out⟩
set_option maxHeartbeats 8000000 in
set_option maxRecDepth 100000 in
theorem stamp_Later.overN (k : Nat) (a0_0 a0_1 a0_2 a0_3 a0_4 a1_0 a1_1 a1_2 a1_3 a1_4 : Int) (r : Int) (w : World) (h : stamp_Order.f k a0_0 a0_1 a0_2 a0_3 a0_4 a1_0 a1_1 a1_2 a1_3 a1_4 = some r) (c : ¬ 0 < r) :
    Calls Tryd.prog 39 #[.agg #[.int .u64 a0_0, .int .u64 a0_1, .int .u64 a0_2, .int .u64 a0_3, .int .i64 a0_4], .agg #[.int .u64 a1_0, .int .u64 a1_1, .int .u64 a1_2, .int .u64 a1_3, .int .i64 a1_4], .func (.func 21) #[] #[]] w fun e w' => e = .returned (.agg #[.int .u64 a1_0, .int .u64 a1_1, .int .u64 a1_2, .int .u64 a1_3, .int .i64 a1_4]) ∧ Below w.heap.size w w' := by
  have hus := Tryd.underlying26
  have huv := Tryd.underlying24
  have hu2 := Tryd.underlying22
  have hui := Tryd.underlying3
  replace h := Aside0.mk h
  have cd : decide (0 < r) = false := by simpa using c
  clear c
  go_enter Tryd.func39, Tryd.ntmps39
  go_wp2_with (go_at_call 21; refine (stamp_Order.calls k a0_0 a0_1 a0_2 a0_3 a0_4 a1_0 a1_1 a1_2 a1_3 a1_4 r _ h.out).mono ?_; rintro e w1 ⟨rfl, hb⟩; have hX := stamp_Later.boxes3 w #[.int .u64 a0_0, .int .u64 a0_1, .int .u64 a0_2, .int .u64 a0_3, .int .i64 a0_4] #[.int .u64 a1_0, .int .u64 a1_1, .int .u64 a1_2, .int .u64 a1_3, .int .i64 a1_4] #[.int .u64 0, .int .u64 0, .int .u64 0, .int .u64 0, .int .i64 0] 26 _ rfl; have hA := Aside0.mk (blk_below hX.1 hb); have hB := Aside0.mk (blk_below hX.2.1 hb); have hC := Aside0.mk (blk_below hX.2.2.1 hb); have HB := Aside0.mk (below_step hX.2.2.2 hb); clear hX; clear hb; have a_0 := (blk_cell hA.out 0).trans rfl; have a_1 := (blk_cell hA.out 1).trans rfl; have a_2 := (blk_cell hA.out 2).trans rfl; have a_3 := (blk_cell hA.out 3).trans rfl; have a_4 := (blk_cell hA.out 4).trans rfl; have b_0 := (blk_cell hB.out 0).trans rfl; have b_1 := (blk_cell hB.out 1).trans rfl; have b_2 := (blk_cell hB.out 2).trans rfl; have b_3 := (blk_cell hB.out 3).trans rfl; have b_4 := (blk_cell hB.out 4).trans rfl; have d_0 := (blk_cell hC.out 0).trans rfl; have d_1 := (blk_cell hC.out 1).trans rfl; have d_2 := (blk_cell hC.out 2).trans rfl; have d_3 := (blk_cell hC.out 3).trans rfl; have d_4 := (blk_cell hC.out 4).trans rfl; have f_0 := blk_frozen hC.out 0; have f_1 := blk_frozen hC.out 1; have f_2 := blk_frozen hC.out 2; have f_3 := blk_frozen hC.out 3; have f_4 := blk_frozen hC.out 4)
  clear a_0 a_1 a_2 a_3 a_4 b_0 b_1 b_2 b_3 b_4 d_0 d_1 d_2 d_3 d_4 f_0 f_1 f_2 f_3 f_4
  have GC : w.heap.size ≤ w.heap.size + 1 + 1 := by omega
  have hC1 := Aside0.mk (blk_put (blk_put (blk_put (blk_put (blk_put hC.out 0 (.int .u64 a1_0) rfl) 1 (.int .u64 a1_1) rfl) 2 (.int .u64 a1_2) rfl) 3 (.int .u64 a1_3) rfl) 4 (.int .i64 a1_4) (cs' := #[.int .u64 a1_0, .int .u64 a1_1, .int .u64 a1_2, .int .u64 a1_3, .int .i64 a1_4]) rfl)
  have HB1 := Aside0.mk (below_set (j := 4) (v := .int .i64 a1_4) (below_set (j := 3) (v := .int .u64 a1_3) (below_set (j := 2) (v := .int .u64 a1_2) (below_set (j := 1) (v := .int .u64 a1_1) (below_set (j := 0) (v := .int .u64 a1_0) HB.out GC) GC) GC) GC) GC)
  clear hA hB hC HB
  generalize (((((w1.setCell ⟨w.heap.size + 1 + 1, 0, none⟩ (.int .u64 a1_0)).setCell ⟨w.heap.size + 1 + 1, 1, none⟩ (.int .u64 a1_1)).setCell ⟨w.heap.size + 1 + 1, 2, none⟩ (.int .u64 a1_2)).setCell ⟨w.heap.size + 1 + 1, 3, none⟩ (.int .u64 a1_3)).setCell ⟨w.heap.size + 1 + 1, 4, none⟩ (.int .i64 a1_4)) = W5 at *
  have d0 := (blk_cell hC1.out 0).trans rfl
  have d1 := (blk_cell hC1.out 1).trans rfl
  have d2 := (blk_cell hC1.out 2).trans rfl
  have d3 := (blk_cell hC1.out 3).trans rfl
  have d4 := (blk_cell hC1.out 4).trans rfl
  refine bodyPost_ret (v := .agg #[.int .u64 a1_0, .int .u64 a1_1, .int .u64 a1_2, .int .u64 a1_3, .int .i64 a1_4]) (by simp [results, Tryd.results39, go_sem, hus, huv, hu2, hui, d0, d1, d2, d3, d4]) rfl ⟨rfl, HB1.out⟩
set_option maxHeartbeats 8000000 in
set_option maxRecDepth 100000 in
theorem stamp_Later.calls (k : Nat) (a0_0 a0_1 a0_2 a0_3 a0_4 a1_0 a1_1 a1_2 a1_3 a1_4 : Int) (r0 r1 r2 r3 r4 : Int) (w : World) (h : stamp_Later.f k a0_0 a0_1 a0_2 a0_3 a0_4 a1_0 a1_1 a1_2 a1_3 a1_4 = some (r0, r1, r2, r3, r4)) :
    Calls Tryd.prog 15 #[.agg #[.int .u64 a0_0, .int .u64 a0_1, .int .u64 a0_2, .int .u64 a0_3, .int .i64 a0_4], .agg #[.int .u64 a1_0, .int .u64 a1_1, .int .u64 a1_2, .int .u64 a1_3, .int .i64 a1_4]] w fun e w' => e = .returned (.agg #[.int .u64 r0, .int .u64 r1, .int .u64 r2, .int .u64 r3, .int .i64 r4]) ∧ Below w.heap.size w w' := by
  unfold stamp_Later.f at h
  obtain ⟨r, A1, h⟩ := Option.bind_eq_some_iff.1 h
  replace A1 := Aside0.mk A1
  have hus := Tryd.underlying26
  have huv := Tryd.underlying24
  have hu2 := Tryd.underlying22
  have hui := Tryd.underlying3
  by_cases c : 0 < r
  · rw [if_pos c] at h
    simp only [Option.some.injEq, Prod.mk.injEq] at h
    obtain ⟨rfl, rfl, rfl, rfl, rfl⟩ := h
    replace c := Aside0.mk c
    go_enter Tryd.func15, Tryd.ntmps15
    go_wp2_with (go_at_call 39; refine (stamp_Later.overP k a0_0 a0_1 a0_2 a0_3 a0_4 a1_0 a1_1 a1_2 a1_3 a1_4 r _ A1.out c.out).mono ?_; rintro e w1 ⟨rfl, hb⟩; have hX := stamp_Later.boxes3 w #[.int .u64 a0_0, .int .u64 a0_1, .int .u64 a0_2, .int .u64 a0_3, .int .i64 a0_4] #[.int .u64 a1_0, .int .u64 a1_1, .int .u64 a1_2, .int .u64 a1_3, .int .i64 a1_4] #[.int .u64 0, .int .u64 0, .int .u64 0, .int .u64 0, .int .i64 0] 26 _ rfl; have hA := Aside0.mk (blk_below hX.1 hb); have hB := Aside0.mk (blk_below hX.2.1 hb); have hC := Aside0.mk (blk_below hX.2.2.1 hb); have HB := Aside0.mk (below_step hX.2.2.2 hb); clear hX; clear hb; have a_0 := (blk_cell hA.out 0).trans rfl; have a_1 := (blk_cell hA.out 1).trans rfl; have a_2 := (blk_cell hA.out 2).trans rfl; have a_3 := (blk_cell hA.out 3).trans rfl; have a_4 := (blk_cell hA.out 4).trans rfl; have b_0 := (blk_cell hB.out 0).trans rfl; have b_1 := (blk_cell hB.out 1).trans rfl; have b_2 := (blk_cell hB.out 2).trans rfl; have b_3 := (blk_cell hB.out 3).trans rfl; have b_4 := (blk_cell hB.out 4).trans rfl; have d_0 := (blk_cell hC.out 0).trans rfl; have d_1 := (blk_cell hC.out 1).trans rfl; have d_2 := (blk_cell hC.out 2).trans rfl; have d_3 := (blk_cell hC.out 3).trans rfl; have d_4 := (blk_cell hC.out 4).trans rfl; have f_0 := blk_frozen hC.out 0; have f_1 := blk_frozen hC.out 1; have f_2 := blk_frozen hC.out 2; have f_3 := blk_frozen hC.out 3; have f_4 := blk_frozen hC.out 4)
    clear a_0 a_1 a_2 a_3 a_4 b_0 b_1 b_2 b_3 b_4 d_0 d_1 d_2 d_3 d_4 f_0 f_1 f_2 f_3 f_4
    have GC : w.heap.size ≤ w.heap.size + 1 + 1 := by omega
    have hC1 := Aside0.mk (blk_put (blk_put (blk_put (blk_put (blk_put hC.out 0 (.int .u64 a0_0) rfl) 1 (.int .u64 a0_1) rfl) 2 (.int .u64 a0_2) rfl) 3 (.int .u64 a0_3) rfl) 4 (.int .i64 a0_4) (cs' := #[.int .u64 a0_0, .int .u64 a0_1, .int .u64 a0_2, .int .u64 a0_3, .int .i64 a0_4]) rfl)
    have HB1 := Aside0.mk (below_set (j := 4) (v := .int .i64 a0_4) (below_set (j := 3) (v := .int .u64 a0_3) (below_set (j := 2) (v := .int .u64 a0_2) (below_set (j := 1) (v := .int .u64 a0_1) (below_set (j := 0) (v := .int .u64 a0_0) HB.out GC) GC) GC) GC) GC)
    clear hA hB hC HB
    generalize (((((w1.setCell ⟨w.heap.size + 1 + 1, 0, none⟩ (.int .u64 a0_0)).setCell ⟨w.heap.size + 1 + 1, 1, none⟩ (.int .u64 a0_1)).setCell ⟨w.heap.size + 1 + 1, 2, none⟩ (.int .u64 a0_2)).setCell ⟨w.heap.size + 1 + 1, 3, none⟩ (.int .u64 a0_3)).setCell ⟨w.heap.size + 1 + 1, 4, none⟩ (.int .i64 a0_4)) = W5 at *
    have d0 := (blk_cell hC1.out 0).trans rfl
    have d1 := (blk_cell hC1.out 1).trans rfl
    have d2 := (blk_cell hC1.out 2).trans rfl
    have d3 := (blk_cell hC1.out 3).trans rfl
    have d4 := (blk_cell hC1.out 4).trans rfl
    refine bodyPost_ret (v := .agg #[.int .u64 a0_0, .int .u64 a0_1, .int .u64 a0_2, .int .u64 a0_3, .int .i64 a0_4]) (by simp [results, Tryd.results15, go_sem, hus, huv, hu2, hui, d0, d1, d2, d3, d4]) rfl ⟨rfl, HB1.out⟩
  · rw [if_neg c] at h
    simp only [Option.some.injEq, Prod.mk.injEq] at h
    obtain ⟨rfl, rfl, rfl, rfl, rfl⟩ := h
    replace c := Aside0.mk c
    go_enter Tryd.func15, Tryd.ntmps15
    go_wp2_with (go_at_call 39; refine (stamp_Later.overN k a0_0 a0_1 a0_2 a0_3 a0_4 a1_0 a1_1 a1_2 a1_3 a1_4 r _ A1.out c.out).mono ?_; rintro e w1 ⟨rfl, hb⟩; have hX := stamp_Later.boxes3 w #[.int .u64 a0_0, .int .u64 a0_1, .int .u64 a0_2, .int .u64 a0_3, .int .i64 a0_4] #[.int .u64 a1_0, .int .u64 a1_1, .int .u64 a1_2, .int .u64 a1_3, .int .i64 a1_4] #[.int .u64 0, .int .u64 0, .int .u64 0, .int .u64 0, .int .i64 0] 26 _ rfl; have hA := Aside0.mk (blk_below hX.1 hb); have hB := Aside0.mk (blk_below hX.2.1 hb); have hC := Aside0.mk (blk_below hX.2.2.1 hb); have HB := Aside0.mk (below_step hX.2.2.2 hb); clear hX; clear hb; have a_0 := (blk_cell hA.out 0).trans rfl; have a_1 := (blk_cell hA.out 1).trans rfl; have a_2 := (blk_cell hA.out 2).trans rfl; have a_3 := (blk_cell hA.out 3).trans rfl; have a_4 := (blk_cell hA.out 4).trans rfl; have b_0 := (blk_cell hB.out 0).trans rfl; have b_1 := (blk_cell hB.out 1).trans rfl; have b_2 := (blk_cell hB.out 2).trans rfl; have b_3 := (blk_cell hB.out 3).trans rfl; have b_4 := (blk_cell hB.out 4).trans rfl; have d_0 := (blk_cell hC.out 0).trans rfl; have d_1 := (blk_cell hC.out 1).trans rfl; have d_2 := (blk_cell hC.out 2).trans rfl; have d_3 := (blk_cell hC.out 3).trans rfl; have d_4 := (blk_cell hC.out 4).trans rfl; have f_0 := blk_frozen hC.out 0; have f_1 := blk_frozen hC.out 1; have f_2 := blk_frozen hC.out 2; have f_3 := blk_frozen hC.out 3; have f_4 := blk_frozen hC.out 4)
    clear a_0 a_1 a_2 a_3 a_4 b_0 b_1 b_2 b_3 b_4 d_0 d_1 d_2 d_3 d_4 f_0 f_1 f_2 f_3 f_4
    have GC : w.heap.size ≤ w.heap.size + 1 + 1 := by omega
    have hC1 := Aside0.mk (blk_put (blk_put (blk_put (blk_put (blk_put hC.out 0 (.int .u64 a1_0) rfl) 1 (.int .u64 a1_1) rfl) 2 (.int .u64 a1_2) rfl) 3 (.int .u64 a1_3) rfl) 4 (.int .i64 a1_4) (cs' := #[.int .u64 a1_0, .int .u64 a1_1, .int .u64 a1_2, .int .u64 a1_3, .int .i64 a1_4]) rfl)
    have HB1 := Aside0.mk (below_set (j := 4) (v := .int .i64 a1_4) (below_set (j := 3) (v := .int .u64 a1_3) (below_set (j := 2) (v := .int .u64 a1_2) (below_set (j := 1) (v := .int .u64 a1_1) (below_set (j := 0) (v := .int .u64 a1_0) HB.out GC) GC) GC) GC) GC)
    clear hA hB hC HB
    generalize (((((w1.setCell ⟨w.heap.size + 1 + 1, 0, none⟩ (.int .u64 a1_0)).setCell ⟨w.heap.size + 1 + 1, 1, none⟩ (.int .u64 a1_1)).setCell ⟨w.heap.size + 1 + 1, 2, none⟩ (.int .u64 a1_2)).setCell ⟨w.heap.size + 1 + 1, 3, none⟩ (.int .u64 a1_3)).setCell ⟨w.heap.size + 1 + 1, 4, none⟩ (.int .i64 a1_4)) = W5 at *
    have d0 := (blk_cell hC1.out 0).trans rfl
    have d1 := (blk_cell hC1.out 1).trans rfl
    have d2 := (blk_cell hC1.out 2).trans rfl
    have d3 := (blk_cell hC1.out 3).trans rfl
    have d4 := (blk_cell hC1.out 4).trans rfl
    refine bodyPost_ret (v := .agg #[.int .u64 a1_0, .int .u64 a1_1, .int .u64 a1_2, .int .u64 a1_3, .int .i64 a1_4]) (by simp [results, Tryd.results15, go_sem, hus, huv, hu2, hui, d0, d1, d2, d3, d4]) rfl ⟨rfl, HB1.out⟩


end Go.Proofs.YtdlagefpglhdoaaDoor.Q
