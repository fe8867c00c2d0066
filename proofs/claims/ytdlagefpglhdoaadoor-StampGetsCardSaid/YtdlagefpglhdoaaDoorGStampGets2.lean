import Derived.Test.YtdlagefpglhdoaaDoorQx0
import Derived.Test.YtdlagefpglhdoaaDoorGStampGets1
import Derived.Test.YtdlagefpglhdoaaDoorGStampGets0
import Derived.Test.YtdlagefpglhdoaaDoorShelf
import Derived.Lib.AppendIntMem
-- Written by this session's own driver (wip/hybrid.py) of the kit's printer; contracts marked FOREIGN are by hand.
namespace Go.Proofs.YtdlagefpglhdoaaDoor.Q
open Go.RowKit Go.Proofs.YtdlagefpglhdoaaDoorW.PrintWords Go.Proofs.YtdlagefpglhdoaaDoorW.PrintLast Go.Proofs.YtdlagefpglhdoaaDoorW.PrintMore
attribute [local go_sem] max2_int min2_int max_two min_two max_three min_three max_four min_four   -- for this text's walks alone
set_option linter.unusedVariables false
set_option linter.unusedSimpArgs false

/-! ### stamp_Later: function 15 -/
-- FOREIGN: a function handed in
def stamp_Later.f (k : Nat) (a0_0 a0_1 a0_2 a0_3 a0_4 a1_0 a1_1 a1_2 a1_3 a1_4 : Int) : Option (Int × Int × Int × Int × Int) := (stamp_Order.f k a0_0 a0_1 a0_2 a0_3 a0_4 a1_0 a1_1 a1_2 a1_3 a1_4).bind fun r => if 0 < r then some (a0_0, a0_1, a0_2, a0_3, a0_4) else some (a1_0, a1_1, a1_2, a1_3, a1_4)
theorem stamp_Later.mono : ∀ a0_0 a0_1 a0_2 a0_3 a0_4 a1_0 a1_1 a1_2 a1_3 a1_4 k, LeO (stamp_Later.f k a0_0 a0_1 a0_2 a0_3 a0_4 a1_0 a1_1 a1_2 a1_3 a1_4) (stamp_Later.f (k + 1) a0_0 a0_1 a0_2 a0_3 a0_4 a1_0 a1_1 a1_2 a1_3 a1_4) := fun a0_0 a0_1 a0_2 a0_3 a0_4 a1_0 a1_1 a1_2 a1_3 a1_4 k => LeO.bind (stamp_Order.mono a0_0 a0_1 a0_2 a0_3 a0_4 a1_0 a1_1 a1_2 a1_3 a1_4 k) (fun _ => LeO.refl _)
theorem stamp_Later.boxes3 (w : World) (xs ys zs : Array Value) (t : TypeId) (W : World) (h : ((w.alloc (.cells xs t)).alloc (.cells ys t)).alloc (.cells zs t) = W) :
    W.heap[w.heap.size]? = some (.cells xs t (0,0)) ∧ W.heap[w.heap.size+1]? = some (.cells ys t (0,0)) ∧ W.heap[w.heap.size+1+1]? = some (.cells zs t (0,0)) ∧ Below w.heap.size w W := by
  subst h
  have s1 : (w.alloc (.cells xs t)).heap.size = w.heap.size + 1 := by simp [World.alloc, -World.alloc_eq]
  have s2 : ((w.alloc (.cells xs t)).alloc (.cells ys t)).heap.size = w.heap.size + 1 + 1 := by simp [World.alloc, -World.alloc_eq]
  refine ⟨blk_alloc (blk_alloc (blk_new _ _) _) _, ?_, ?_, below_alloc (below_alloc (below_alloc (Below.refl _ _) _) _) _⟩
  · rw [← s1]; exact blk_alloc (blk_new _ _) _
  · rw [← s2]; exact blk_new _ _
set_option maxHeartbeats 8000000 in
set_option maxRecDepth 100000 in
theorem stamp_Later.overP (k : Nat) (a0_0 a0_1 a0_2 a0_3 a0_4 a1_0 a1_1 a1_2 a1_3 a1_4 : Int) (r : Int) (w : World) (h : stamp_Order.f k a0_0 a0_1 a0_2 a0_3 a0_4 a1_0 a1_1 a1_2 a1_3 a1_4 = some r) (c : 0 < r) :
    Calls Tryd.prog 39 #[.agg #[.int .u64 a0_0, .int .u64 a0_1, .int .u64 a0_2, .int .u64 a0_3, .int .i64 a0_4], .agg #[.int .u64 a1_0, .int .u64 a1_1, .int .u64 a1_2, .int .u64 a1_3, .int .i64 a1_4], .func (.func 21) #[] #[]] w fun e w' => e = .returned (.agg #[.int .u64 a0_0, .int .u64 a0_1, .int .u64 a0_2, .int .u64 a0_3, .int .i64 a0_4]) ∧ Below w.heap.size w w' := by
  have hus := Tryd.underlying26
  have huv := Tryd.underlying24
  have hu2 := Tryd.underlying22
  have hui := Tryd.underlying3
  replace h := Aside0.mk h
  have cd : decide (0 < r) = true := by simpa using c
  clear c
  go_enter Tryd.func39, Tryd.ntmps39
  go_wp2_with (go_at_call 21; refine (stamp_Order.calls k a0_0 a0_1 a0_2 a0_3 a0_4 a1_0 a1_1 a1_2 a1_3 a1_4 r _ h.out).mono ?_; rintro e w1 ⟨rfl, hb⟩; have hX := stamp_Later.boxes3 w #[.int .u64 a0_0, .int .u64 a0_1, .int .u64 a0_2, .int .u64 a0_3, .int .i64 a0_4] #[.int .u64 a1_0, .int .u64 a1_1, .int .u64 a1_2, .int .u64 a1_3, .int .i64 a1_4] #[.int .u64 0, .int .u64 0, .int .u64 0, .int .u64 0, .int .i64 0] 26 _ rfl; have hA := Aside0.mk (blk_below hX.1 hb); have hB := Aside0.mk (blk_below hX.2.1 hb); have hC := Aside0.mk (blk_below hX.2.2.1 hb); have HB := Aside0.mk (below_step hX.2.2.2 hb); clear hX; clear hb; have a_0 := (blk_cell hA.out 0).trans rfl; have a_1 := (blk_cell hA.out 1).trans rfl; have a_2 := (blk_cell hA.out 2).trans rfl; have a_3 := (blk_cell hA.out 3).trans rfl; have a_4 := (blk_cell hA.out 4).trans rfl; have b_0 := (blk_cell hB.out 0).trans rfl; have b_1 := (blk_cell hB.out 1).trans rfl; have b_2 := (blk_cell hB.out 2).trans rfl; have b_3 := (blk_cell hB.out 3).trans rfl; have b_4 := (blk_cell hB.out 4).trans rfl; have d_0 := (blk_cell hC.out 0).trans rfl; have d_1 := (blk_cell hC.out 1).trans rfl; have d_2 := (blk_cell hC.out 2).trans rfl; have d_3 := (blk_cell hC.out 3).trans rfl; have d_4 := (blk_cell hC.out 4).trans rfl; have f_0 := blk_frozen hC.out 0; have f_1 := blk_frozen hC.out 1; have f_2 := blk_frozen hC.out 2; have f_3 := blk_frozen hC.out 3; have f_4 := blk_frozen hC.out 4)
  clear a_0 a_1 a_2 a_3 a_4 b_0 b_1 b_2 b_3 b_4 d_0 d_1 d_2 d_3 d_4 f_0 f_1 f_2 f_3 f_4
  have GC : w.heap.size ≤ w.heap.size + 1 + 1 := by omega
  have hC1 := Aside0.mk (blk_put (blk_put (blk_put (blk_put (blk_put hC.out 0 (.int .u64 a0_0) rfl) 1 (.int .u64 a0_1) rfl) 2 (.int .u64 a0_2) rfl) 3 (.int .u64 a0_3) rfl) 4 (.int .i64 a0_4) (cs' := #[.int .u64 a0_0, .int .u64 a0_1, .int .u64 a0_2, .int .u64 a0_3, .int .i64 a0_4]) rfl)
  have HB1 := Aside0.mk (below_set (j := 4) (v := .int .i64 a0_4) (below_set (j := 3) (v := .int .u64 a0_3) (below_set (j := 2) (v := .int .u64 a0_2) (below_set (j := 1) (v := .int .u64 a0_1) (below_set (j := 0) (v := .int .u64 a0_0) HB.out GC) GC) GC) GC) GC)
  clear hA hB hC HB
  generalize (((((w1.setCell ⟨w.heap.size + 1 + 1, 0, none⟩ (.int .u64 a0_0)).setCell ⟨w.heap.size + 1 + 1, 1, none⟩ (.int .u64 a0_1)).setCell ⟨w.heap.size + 1 + 1, 2, none⟩ (.int .u64 a0_2)).setCell ⟨w.heap.size + 1 + 1, 3, none⟩ (.int .u64 a0_3)).setCell ⟨w.heap.size + 1 + 1, 4, none⟩ (.int .i64 a0_4)) = W5 at *
  have d0 := (blk_cell hC1.out 0).trans rfl
  have d1 := (blk_cell hC1.out 1).trans rfl
  have d2 := (blk_cell hC1.out 2).trans rfl
  have d3 := (blk_cell hC1.out 3).trans rfl
  have d4 := (blk_cell hC1.out 4).trans rfl
  refine bodyPost_ret (v := .agg #[.int .u64 a0_0, .int .u64 a0_1, .int .u64 a0_2, .int .u64 a0_3, .int .i64 a0_4]) (by simp [results, Tryd.results39, go_sem, hus, huv, hu2, hui, d0, d1, d2, d3, d4]) rfl ⟨rfl, HB1.out⟩
set_option maxHeartbeats 8000000 in
set_option maxRecDepth 100000 in
theorem stamp_Later.overN (k : Nat) (a0_0 a0_1 a0_2 a0_3 a0_4 a1_0 a1_1 a1_2 a1_3 a1_4 : Int) (r : Int) (w : World) (h : stamp_Order.f k a0_0 a0_1 a0_2 a0_3 a0_4 a1_0 a1_1 a1_2 a1_3 a1_4 = some r) (c : ¬ 0 < r) :
    Calls Tryd.prog 39 #[.agg #[.int .u64 a0_0, .int .u64 a0_1, .int .u64 a0_2, .int .u64 a0_3, .int .i64 a0_4], .agg #[.int .u64 a1_0, .int .u64 a1_1, .int .u64 a1_2, .int .u64 a1_3, .int .i64 a1_4], .func (.func 21) #[] #[]] w fun e w' => e = .returned (.agg #[.int .u64 a1_0, .int .u64 a1_1, .int .u64 a1_2, .int .u64 a1_3, .int .i64 a1_4]) ∧ Below w.heap.size w w' := by
  have hus := Tryd.underlying26
  have huv := Tryd.underlying24
  have hu2 := Tryd.underlying22
  have hui := Tryd.underlying3
  replace h := Aside0.mk h
  have cd : decide (0 < r) = false := by simpa using c
  clear c
  go_enter Tryd.func39, Tryd.ntmps39
  go_wp2_with (go_at_call 21; refine (stamp_Order.calls k a0_0 a0_1 a0_2 a0_3 a0_4 a1_0 a1_1 a1_2 a1_3 a1_4 r _ h.out).mono ?_; rintro e w1 ⟨rfl, hb⟩; have hX := stamp_Later.boxes3 w #[.int .u64 a0_0, .int .u64 a0_1, .int .u64 a0_2, .int .u64 a0_3, .int .i64 a0_4] #[.int .u64 a1_0, .int .u64 a1_1, .int .u64 a1_2, .int .u64 a1_3, .int .i64 a1_4] #[.int .u64 0, .int .u64 0, .int .u64 0, .int .u64 0, .int .i64 0] 26 _ rfl; have hA := Aside0.mk (blk_below hX.1 hb); have hB := Aside0.mk (blk_below hX.2.1 hb); have hC := Aside0.mk (blk_below hX.2.2.1 hb); have HB := Aside0.mk (below_step hX.2.2.2 hb); clear hX; clear hb; have a_0 := (blk_cell hA.out 0).trans rfl; have a_1 := (blk_cell hA.out 1).trans rfl; have a_2 := (blk_cell hA.out 2).trans rfl; have a_3 := (blk_cell hA.out 3).trans rfl; have a_4 := (blk_cell hA.out 4).trans rfl; have b_0 := (blk_cell hB.out 0).trans rfl; have b_1 := (blk_cell hB.out 1).trans rfl; have b_2 := (blk_cell hB.out 2).trans rfl; have b_3 := (blk_cell hB.out 3).trans rfl; have b_4 := (blk_cell hB.out 4).trans rfl; have d_0 := (blk_cell hC.out 0).trans rfl; have d_1 := (blk_cell hC.out 1).trans rfl; have d_2 := (blk_cell hC.out 2).trans rfl; have d_3 := (blk_cell hC.out 3).trans rfl; have d_4 := (blk_cell hC.out 4).trans rfl; have f_0 := blk_frozen hC.out 0; have f_1 := blk_frozen hC.out 1; have f_2 := blk_frozen hC.out 2; have f_3 := blk_frozen hC.out 3; have f_4 := blk_frozen hC.out 4)
  clear a_0 a_1 a_2 a_3 a_4 b_0 b_1 b_2 b_3 b_4 d_0 d_1 d_2 d_3 d_4 f_0 f_1 f_2 f_3 f_4
  have GC : w.heap.size ≤ w.heap.size + 1 + 1 := by omega
  have hC1 := Aside0.mk (blk_put (blk_put (blk_put (blk_put (blk_put hC.out 0 (.int .u64 a1_0) rfl) 1 (.int .u64 a1_1) rfl) 2 (.int .u64 a1_2) rfl) 3 (.int .u64 a1_3) rfl) 4 (.int .i64 a1_4) (cs' := #[.int .u64 a1_0, .int .u64 a1_1, .int .u64 a1_2, .int .u64 a1_3, .int .i64 a1_4]) rfl)
  have HB1 := Aside0.mk (below_set (j := 4) (v := .int .i64 a1_4) (below_set (j := 3) (v := .int .u64 a1_3) (below_set (j := 2) (v := .int .u64 a1_2) (below_set (j := 1) (v := .int .u64 a1_1) (below_set (j := 0) (v := .int .u64 a1_0) HB.out GC) GC) GC) GC) GC)
  clear hA hB hC HB
  generalize (((((w1.setCell ⟨w.heap.size + 1 + 1, 0, none⟩ (.int .u64 a1_0)).setCell ⟨w.heap.size + 1 + 1, 1, none⟩ (.int .u64 a1_1)).setCell ⟨w.heap.size + 1 + 1, 2, none⟩ (.int .u64 a1_2)).setCell ⟨w.heap.size + 1 + 1, 3, none⟩ (.int .u64 a1_3)).setCell ⟨w.heap.size + 1 + 1, 4, none⟩ (.int .i64 a1_4)) = W5 at *
  have d0 := (blk_cell hC1.out 0).trans rfl
  have d1 := (blk_cell hC1.out 1).trans rfl
  have d2 := (blk_cell hC1.out 2).trans rfl
  have d3 := (blk_cell hC1.out 3).trans rfl
  have d4 := (blk_cell hC1.out 4).trans rfl
  refine bodyPost_ret (v := .agg #[.int .u64 a1_0, .int .u64 a1_1, .int .u64 a1_2, .int .u64 a1_3, .int .i64 a1_4]) (by simp [results, Tryd.results39, go_sem, hus, huv, hu2, hui, d0, d1, d2, d3, d4]) rfl ⟨rfl, HB1.out⟩
set_option maxHeartbeats 8000000 in
set_option maxRecDepth 100000 in
theorem stamp_Later.calls (k : Nat) (a0_0 a0_1 a0_2 a0_3 a0_4 a1_0 a1_1 a1_2 a1_3 a1_4 : Int) (r0 r1 r2 r3 r4 : Int) (w : World) (h : stamp_Later.f k a0_0 a0_1 a0_2 a0_3 a0_4 a1_0 a1_1 a1_2 a1_3 a1_4 = some (r0, r1, r2, r3, r4)) :
    Calls Tryd.prog 15 #[.agg #[.int .u64 a0_0, .int .u64 a0_1, .int .u64 a0_2, .int .u64 a0_3, .int .i64 a0_4], .agg #[.int .u64 a1_0, .int .u64 a1_1, .int .u64 a1_2, .int .u64 a1_3, .int .i64 a1_4]] w fun e w' => e = .returned (.agg #[.int .u64 r0, .int .u64 r1, .int .u64 r2, .int .u64 r3, .int .i64 r4]) ∧ Below w.heap.size w w' := by
  unfold stamp_Later.f at h
  obtain ⟨r, A1, h⟩ := Option.bind_eq_some_iff.1 h
  replace A1 := Aside0.mk A1
  have hus := Tryd.underlying26
  have huv := Tryd.underlying24
  have hu2 := Tryd.underlying22
  have hui := Tryd.underlying3
  by_cases c : 0 < r
  · rw [if_pos c] at h
    simp only [Option.some.injEq, Prod.mk.injEq] at h
    obtain ⟨rfl, rfl, rfl, rfl, rfl⟩ := h
    replace c := Aside0.mk c
    go_enter Tryd.func15, Tryd.ntmps15
    go_wp2_with (go_at_call 39; refine (stamp_Later.overP k a0_0 a0_1 a0_2 a0_3 a0_4 a1_0 a1_1 a1_2 a1_3 a1_4 r _ A1.out c.out).mono ?_; rintro e w1 ⟨rfl, hb⟩; have hX := stamp_Later.boxes3 w #[.int .u64 a0_0, .int .u64 a0_1, .int .u64 a0_2, .int .u64 a0_3, .int .i64 a0_4] #[.int .u64 a1_0, .int .u64 a1_1, .int .u64 a1_2, .int .u64 a1_3, .int .i64 a1_4] #[.int .u64 0, .int .u64 0, .int .u64 0, .int .u64 0, .int .i64 0] 26 _ rfl; have hA := Aside0.mk (blk_below hX.1 hb); have hB := Aside0.mk (blk_below hX.2.1 hb); have hC := Aside0.mk (blk_below hX.2.2.1 hb); have HB := Aside0.mk (below_step hX.2.2.2 hb); clear hX; clear hb; have a_0 := (blk_cell hA.out 0).trans rfl; have a_1 := (blk_cell hA.out 1).trans rfl; have a_2 := (blk_cell hA.out 2).trans rfl; have a_3 := (blk_cell hA.out 3).trans rfl; have a_4 := (blk_cell hA.out 4).trans rfl; have b_0 := (blk_cell hB.out 0).trans rfl; have b_1 := (blk_cell hB.out 1).trans rfl; have b_2 := (blk_cell hB.out 2).trans rfl; have b_3 := (blk_cell hB.out 3).trans rfl; have b_4 := (blk_cell hB.out 4).trans rfl; have d_0 := (blk_cell hC.out 0).trans rfl; have d_1 := (blk_cell hC.out 1).trans rfl; have d_2 := (blk_cell hC.out 2).trans rfl; have d_3 := (blk_cell hC.out 3).trans rfl; have d_4 := (blk_cell hC.out 4).trans rfl; have f_0 := blk_frozen hC.out 0; have f_1 := blk_frozen hC.out 1; have f_2 := blk_frozen hC.out 2; have f_3 := blk_frozen hC.out 3; have f_4 := blk_frozen hC.out 4)
    clear a_0 a_1 a_2 a_3 a_4 b_0 b_1 b_2 b_3 b_4 d_0 d_1 d_2 d_3 d_4 f_0 f_1 f_2 f_3 f_4
    have GC : w.heap.size ≤ w.heap.size + 1 + 1 := by omega
    have hC1 := Aside0.mk (blk_put (blk_put (blk_put (blk_put (blk_put hC.out 0 (.int .u64 a0_0) rfl) 1 (.int .u64 a0_1) rfl) 2 (.int .u64 a0_2) rfl) 3 (.int .u64 a0_3) rfl) 4 (.int .i64 a0_4) (cs' := #[.int .u64 a0_0, .int .u64 a0_1, .int .u64 a0_2, .int .u64 a0_3, .int .i64 a0_4]) rfl)
    have HB1 := Aside0.mk (below_set (j := 4) (v := .int .i64 a0_4) (below_set (j := 3) (v := .int .u64 a0_3) (below_set (j := 2) (v := .int .u64 a0_2) (below_set (j := 1) (v := .int .u64 a0_1) (below_set (j := 0) (v := .int .u64 a0_0) HB.out GC) GC) GC) GC) GC)
    clear hA hB hC HB
    generalize (((((w1.setCell ⟨w.heap.size + 1 + 1, 0, none⟩ (.int .u64 a0_0)).setCell ⟨w.heap.size + 1 + 1, 1, none⟩ (.int .u64 a0_1)).setCell ⟨w.heap.size + 1 + 1, 2, none⟩ (.int .u64 a0_2)).setCell ⟨w.heap.size + 1 + 1, 3, none⟩ (.int .u64 a0_3)).setCell ⟨w.heap.size + 1 + 1, 4, none⟩ (.int .i64 a0_4)) = W5 at *
    have d0 := (blk_cell hC1.out 0).trans rfl
    have d1 := (blk_cell hC1.out 1).trans rfl
    have d2 := (blk_cell hC1.out 2).trans rfl
    have d3 := (blk_cell hC1.out 3).trans rfl
    have d4 := (blk_cell hC1.out 4).trans rfl
    refine bodyPost_ret (v := .agg #[.int .u64 a0_0, .int .u64 a0_1, .int .u64 a0_2, .int .u64 a0_3, .int .i64 a0_4]) (by simp [results, Tryd.results15, go_sem, hus, huv, hu2, hui, d0, d1, d2, d3, d4]) rfl ⟨rfl, HB1.out⟩
  · rw [if_neg c] at h
    simp only [Option.some.injEq, Prod.mk.injEq] at h
    obtain ⟨rfl, rfl, rfl, rfl, rfl⟩ := h
    replace c := Aside0.mk c
    go_enter Tryd.func15, Tryd.ntmps15
    go_wp2_with (go_at_call 39; refine (stamp_Later.overN k a0_0 a0_1 a0_2 a0_3 a0_4 a1_0 a1_1 a1_2 a1_3 a1_4 r _ A1.out c.out).mono ?_; rintro e w1 ⟨rfl, hb⟩; have hX := stamp_Later.boxes3 w #[.int .u64 a0_0, .int .u64 a0_1, .int .u64 a0_2, .int .u64 a0_3, .int .i64 a0_4] #[.int .u64 a1_0, .int .u64 a1_1, .int .u64 a1_2, .int .u64 a1_3, .int .i64 a1_4] #[.int .u64 0, .int .u64 0, .int .u64 0, .int .u64 0, .int .i64 0] 26 _ rfl; have hA := Aside0.mk (blk_below hX.1 hb); have hB := Aside0.mk (blk_below hX.2.1 hb); have hC := Aside0.mk (blk_below hX.2.2.1 hb); have HB := Aside0.mk (below_step hX.2.2.2 hb); clear hX; clear hb; have a_0 := (blk_cell hA.out 0).trans rfl; have a_1 := (blk_cell hA.out 1).trans rfl; have a_2 := (blk_cell hA.out 2).trans rfl; have a_3 := (blk_cell hA.out 3).trans rfl; have a_4 := (blk_cell hA.out 4).trans rfl; have b_0 := (blk_cell hB.out 0).trans rfl; have b_1 := (blk_cell hB.out 1).trans rfl; have b_2 := (blk_cell hB.out 2).trans rfl; have b_3 := (blk_cell hB.out 3).trans rfl; have b_4 := (blk_cell hB.out 4).trans rfl; have d_0 := (blk_cell hC.out 0).trans rfl; have d_1 := (blk_cell hC.out 1).trans rfl; have d_2 := (blk_cell hC.out 2).trans rfl; have d_3 := (blk_cell hC.out 3).trans rfl; have d_4 := (blk_cell hC.out 4).trans rfl; have f_0 := blk_frozen hC.out 0; have f_1 := blk_frozen hC.out 1; have f_2 := blk_frozen hC.out 2; have f_3 := blk_frozen hC.out 3; have f_4 := blk_frozen hC.out 4)
    clear a_0 a_1 a_2 a_3 a_4 b_0 b_1 b_2 b_3 b_4 d_0 d_1 d_2 d_3 d_4 f_0 f_1 f_2 f_3 f_4
    have GC : w.heap.size ≤ w.heap.size + 1 + 1 := by omega
    have hC1 := Aside0.mk (blk_put (blk_put (blk_put (blk_put (blk_put hC.out 0 (.int .u64 a1_0) rfl) 1 (.int .u64 a1_1) rfl) 2 (.int .u64 a1_2) rfl) 3 (.int .u64 a1_3) rfl) 4 (.int .i64 a1_4) (cs' := #[.int .u64 a1_0, .int .u64 a1_1, .int .u64 a1_2, .int .u64 a1_3, .int .i64 a1_4]) rfl)
    have HB1 := Aside0.mk (below_set (j := 4) (v := .int .i64 a1_4) (below_set (j := 3) (v := .int .u64 a1_3) (below_set (j := 2) (v := .int .u64 a1_2) (below_set (j := 1) (v := .int .u64 a1_1) (below_set (j := 0) (v := .int .u64 a1_0) HB.out GC) GC) GC) GC) GC)
    clear hA hB hC HB
    generalize (((((w1.setCell ⟨w.heap.size + 1 + 1, 0, none⟩ (.int .u64 a1_0)).setCell ⟨w.heap.size + 1 + 1, 1, none⟩ (.int .u64 a1_1)).setCell ⟨w.heap.size + 1 + 1, 2, none⟩ (.int .u64 a1_2)).setCell ⟨w.heap.size + 1 + 1, 3, none⟩ (.int .u64 a1_3)).setCell ⟨w.heap.size + 1 + 1, 4, none⟩ (.int .i64 a1_4)) = W5 at *
    have d0 := (blk_cell hC1.out 0).trans rfl
    have d1 := (blk_cell hC1.out 1).trans rfl
    have d2 := (blk_cell hC1.out 2).trans rfl
    have d3 := (blk_cell hC1.out 3).trans rfl
    have d4 := (blk_cell hC1.out 4).trans rfl
    refine bodyPost_ret (v := .agg #[.int .u64 a1_0, .int .u64 a1_1, .int .u64 a1_2, .int .u64 a1_3, .int .i64 a1_4]) (by simp [results, Tryd.results15, go_sem, hus, huv, hu2, hui, d0, d1, d2, d3, d4]) rfl ⟨rfl, HB1.out⟩


end Go.Proofs.YtdlagefpglhdoaaDoor.Q

-- Written by this session's own driver (wip/hybrid.py) of the kit's printer; contracts marked FOREIGN are by hand.
namespace Go.Proofs.YtdlagefpglhdoaaDoor.Q
open Go.RowKit Go.Proofs.YtdlagefpglhdoaaDoorW.PrintWords Go.Proofs.YtdlagefpglhdoaaDoorW.PrintLast Go.Proofs.YtdlagefpglhdoaaDoorW.PrintMore
attribute [local go_sem] max2_int min2_int max_two min_two max_three min_three max_four min_four   -- for this text's walks alone
set_option linter.unusedVariables false
set_option linter.unusedSimpArgs false

/-! ### stamp_Seen: function 23 -/
def stamp_Seen.f (a0_0 : Int) (a0_1 : Int) (a0_2 : Int) (a0_3 : Int) (a0_4 : Int) (a1_0 : Int) (a1_1 : Int) (a1_2 : Int) (a1_3 : Int) : Option (Bool) := (vec_Leq.f a0_0 a0_1 a0_2 a0_3 a1_0 a1_1 a1_2 a1_3).bind fun t134 => (some t134)
set_option maxHeartbeats 8000000 in
set_option maxRecDepth 100000 in
theorem stamp_Seen.calls (a0_0 : Int) (a0_1 : Int) (a0_2 : Int) (a0_3 : Int) (a0_4 : Int) (a1_0 : Int) (a1_1 : Int) (a1_2 : Int) (a1_3 : Int) (r : Bool) (w : World) (h : stamp_Seen.f a0_0 a0_1 a0_2 a0_3 a0_4 a1_0 a1_1 a1_2 a1_3 = some r) :
    Calls Tryd.prog 23 #[.agg #[.int .u64 a0_0, .int .u64 a0_1, .int .u64 a0_2, .int .u64 a0_3, .int .i64 a0_4], .agg #[.int .u64 a1_0, .int .u64 a1_1, .int .u64 a1_2, .int .u64 a1_3]] w fun e w' => e = .returned (.bool r) ∧ Below w.heap.size w w' := by
  have hu26 := Tryd.underlying26
  have hu24 := Tryd.underlying24
  have HB := Aside0.mk (Below.refl w.heap.size w)
  have H : ((vec_Leq.f a0_0 a0_1 a0_2 a0_3 a1_0 a1_1 a1_2 a1_3).bind fun t134 => (some t134)) = some r := h
  clear h
  replace H := Option.bind_eq_some_iff.mp H
  obtain ⟨t134, A30, H⟩ := H
  replace H : (some t134) = some r := H
  have A3 := Aside0.mk A30
  clear A30
  obtain rfl := Option.some.inj H
  go_enter Tryd.func23, Tryd.ntmps23
  go_wp2_with (first | ((with_reducible refine gate_dst (N := 2) rfl ?_); refine box_event ?hg (N := 2) ?hd (cs := #[.int .u64 a0_0, .int .u64 a0_1, .int .u64 a0_2, .int .u64 a0_3, .int .i64 a0_4]) (t := 26) ?hr ?_; (case hd => rfl); (case hg => rfl); (case hr => first | (go_simp; done) | (go_simp; rfl)); intro gb132 hg w4 hbox hb; have BK132 := Aside0.mk (hbox); have GW132 := Kw_ HB hg; have GE132 := GW132; replace HB := Ks_ HB hb; clear hb hbox hg) | ((with_reducible refine gate_dst (N := 3) rfl ?_); refine box_event ?hg (N := 3) ?hd (cs := #[.int .u64 a1_0, .int .u64 a1_1, .int .u64 a1_2, .int .u64 a1_3]) (t := 24) ?hr ?_; (case hd => rfl); (case hg => rfl); (case hr => first | (go_simp; done) | (go_simp; rfl)); intro gb133 hg w5 hbox hb; have BK133 := Aside0.mk (hbox); have GW133 := Kw_ HB hg; have GE133 := GW133; have NB132_133 := Kl_ BK132 hg; have NB133_132 := Kr_ BK132 hg; replace BK132 := Kb_ BK132 hb; replace HB := Ks_ HB hb; clear hb hbox hg; have hnb6 := NB132_133.out; have hnc6 := NB133_132.out; have hcz7_0 : w5.cell? ⟨gb132, 0, none⟩ = some (.int .u64 a0_0) := (blk_cell BK132.out 0).trans rfl; have hcz7_1 : w5.cell? ⟨gb132, 1, none⟩ = some (.int .u64 a0_1) := (blk_cell BK132.out 1).trans rfl; have hcz7_2 : w5.cell? ⟨gb132, 2, none⟩ = some (.int .u64 a0_2) := (blk_cell BK132.out 2).trans rfl; have hcz7_3 : w5.cell? ⟨gb132, 3, none⟩ = some (.int .u64 a0_3) := (blk_cell BK132.out 3).trans rfl; have hcz7_4 : w5.cell? ⟨gb132, 4, none⟩ = some (.int .i64 a0_4) := (blk_cell BK132.out 4).trans rfl; have hfz7_0 := blk_frozen BK132.out 0; have hfz7_1 := blk_frozen BK132.out 1; have hfz7_2 := blk_frozen BK132.out 2; have hfz7_3 := blk_frozen BK132.out 3; have hfz7_4 := blk_frozen BK132.out 4; have hcz8_0 : w5.cell? ⟨gb133, 0, none⟩ = some (.int .u64 a1_0) := (blk_cell BK133.out 0).trans rfl; have hcz8_1 : w5.cell? ⟨gb133, 1, none⟩ = some (.int .u64 a1_1) := (blk_cell BK133.out 1).trans rfl; have hcz8_2 : w5.cell? ⟨gb133, 2, none⟩ = some (.int .u64 a1_2) := (blk_cell BK133.out 2).trans rfl; have hcz8_3 : w5.cell? ⟨gb133, 3, none⟩ = some (.int .u64 a1_3) := (blk_cell BK133.out 3).trans rfl; have hfz8_0 := blk_frozen BK133.out 0; have hfz8_1 := blk_frozen BK133.out 1; have hfz8_2 := blk_frozen BK133.out 2; have hfz8_3 := blk_frozen BK133.out 3) | ((with_reducible refine gate_callee (f := 49) rfl ?_); refine goesL_ (some 8) rfl rfl Tryd.func49 (by kernel_rfl) rfl #[.agg #[.int .u64 a0_0, .int .u64 a0_1, .int .u64 a0_2, .int .u64 a0_3], .agg #[.int .u64 a1_0, .int .u64 a1_1, .int .u64 a1_2, .int .u64 a1_3]] rfl (by (try simp only [List.map_toArray, List.map_cons, List.map_nil]); first | done | rfl | (simp only [List.length_drop, List.length_take]; rfl)) ?_; (with_reducible refine (vec_Leq.calls a0_0 a0_1 a0_2 a0_3 a1_0 a1_1 a1_2 a1_3 t134 _ A3.out).mono ?_); rintro e w9 ⟨rfl, hb⟩; refine ⟨_, rfl, ?_⟩; replace BK132 := Kb_ BK132 hb; replace BK133 := Kb_ BK133 hb; replace HB := Ks_ HB hb; (try clear hb); (try clear hb2); (try clear hk); (try clear hi)))
  go_ret
  exact ⟨by first | rfl | (simp [errW_none, errW_some] <;> rfl) | (simp [*, errW_none, errW_some] <;> rfl), by repeat (first | (with_reducible first | exact HB.out | apply below_alloc | apply pw_below_drewN | apply below_drew1 | refine below_set ?_ GE132.out | refine below_set ?_ GE133.out) | exact HB.out)⟩

end Go.Proofs.YtdlagefpglhdoaaDoor.Q

-- Written by this session's own driver (wip/hybrid.py) of the kit's printer; contracts marked FOREIGN are by hand.
namespace Go.Proofs.YtdlagefpglhdoaaDoor.Q
open Go.RowKit Go.Proofs.YtdlagefpglhdoaaDoorW.PrintWords Go.Proofs.YtdlagefpglhdoaaDoorW.PrintLast Go.Proofs.YtdlagefpglhdoaaDoorW.PrintMore
attribute [local go_sem] max2_int min2_int max_two min_two max_three min_three max_four min_four   -- for this text's walks alone
set_option linter.unusedVariables false
set_option linter.unusedSimpArgs false

/-! ### vec_Text: function 52 -/
-- FOREIGN: decimal numerals by the library, joined
def vec_Text.dd : Nat → Nat → List UInt8
  | 0, _ => []
  | k + 1, n => if n < 10 then [UInt8.ofNat (48 + n)] else vec_Text.dd k (n / 10) ++ [UInt8.ofNat (48 + n % 10)]
def vec_Text.num (n : Nat) : ByteArray := ⟨(vec_Text.dd 20 n).toArray⟩
def vec_Text.com : ByteArray := ⟨#[44]⟩
def vec_Text.txt (a b c d : Nat) : ByteArray := vec_Text.num a ++ vec_Text.com ++ vec_Text.num b ++ vec_Text.com ++ vec_Text.num c ++ vec_Text.com ++ vec_Text.num d
def vec_Text.f (a0_0 a0_1 a0_2 a0_3 : Int) : Option ByteArray :=
  if (0 ≤ a0_0 ∧ a0_0 < 100) ∧ (0 ≤ a0_1 ∧ a0_1 < 100) ∧ (0 ≤ a0_2 ∧ a0_2 < 100) ∧ (0 ≤ a0_3 ∧ a0_3 < 100) then some (vec_Text.txt a0_0.toNat a0_1.toNat a0_2.toNat a0_3.toNat) else none
theorem vec_Text.dd_eq : ∀ k n : Nat, 0 < k → n < 10 ^ k → vec_Text.dd k n = Lib.decDigits n
  | 0, _, h, _ => absurd h (by omega)
  | k + 1, n, _, h => by
    rw [vec_Text.dd, Lib.decDigits]
    by_cases c : n < 10
    · rw [if_pos c, dif_pos c]
    · rw [if_neg c, dif_neg c]
      rw [Nat.pow_succ] at h
      have hk : 0 < k := by
        rcases Nat.eq_zero_or_pos k with rfl | hk
        · simp at h; omega
        · exact hk
      rw [vec_Text.dd_eq k (n / 10) hk (by omega)]
theorem vec_Text.num_eq {n : Nat} (h : n < 18446744073709551616) : vec_Text.num n = ⟨(Lib.decDigits n).toArray⟩ := by
  unfold vec_Text.num
  rw [vec_Text.dd_eq 20 n (by omega) (by omega)]
theorem vec_Text.num_len {n : Nat} (h : n < 18446744073709551616) : (vec_Text.num n).data.toList.length ≤ 20 := by
  rw [vec_Text.num_eq h]
  simp only [List.toList_toArray]
  rw [Lib.decDigits_length]
  have := Lib.lt_pow_nDigits n
  rcases Nat.eq_zero_or_pos n with rfl | h1
  · rw [Lib.nDigits_small (by omega)]; omega
  · have := Lib.numDigits_eq n h1 h
    split at this <;> omega
theorem vec_Text.join_eq (x y z u : ByteArray) : (⟨(Lib.join ([x, y, z, u].map (·.data.toList)) (⟨#[44]⟩ : ByteArray).data.toList).toArray⟩ : ByteArray) = x ++ vec_Text.com ++ y ++ vec_Text.com ++ z ++ vec_Text.com ++ u := by
  apply ByteArray.ext
  apply Array.toList_inj.1
  simp [Lib.join, List.intercalate, vec_Text.com, ByteArray.data_append]
theorem vec_Text.small (i : Nat) (hi : i < 100) (w : World) :
    Calls Tryd.prog 68 #[.int .u64 (i : Int), .int .i64 10] w fun e w' => e = .returned (.string (vec_Text.num i)) ∧ w' = w := by
  have hlt : decide ((i : Int) < 100) = true := decide_eq_true (by omega)
  have hw : IntKind.i64.wrap (i : Int) = (i : Int) := by
    rw [IntKind.wrap_i64]
    omega
  rw [vec_Text.num_eq (by omega)]
  go_enter Tryd.func68, Tryd.ntmps68
  go_wp2_with (first | (go_at_call 79; refine (Tryd.internal_strconv_small i hi _).mono ?_; rintro e w' ⟨rfl, rfl⟩) | go_in)
  go_ret
  exact ⟨rfl, rfl⟩
theorem vec_Text.cells_ {e base : Nat} {ok : Nat → Prop} {w : World} {v : Value} {xs : List ByteArray} (h : Kd.string.R e w base ok v xs) (hp : 0 < xs.length) :
    ∃ g cap, v = .slice (some ⟨g, 0, none⟩) xs.length cap ∧ xs.length ≤ cap ∧ g < w.heap.size ∧ ∀ (j : Nat) x, xs[j]? = some x → w.cell? ⟨g, 0 + j, none⟩ = some (.string x) := by
  obtain ⟨g, cap, rfl, _, hg, _⟩ := Kd.R_form h hp
  obtain ⟨A, c, he, hc, hC⟩ := Kd.R_reads h
  injection he with e1 e2 e3
  subst e1 e3
  obtain ⟨ad, e, hcell⟩ := hC.2.2 hp
  cases e
  refine ⟨g, cap, rfl, hc, hg, fun j x hx => ?_⟩
  obtain ⟨c, hl, hk, hi⟩ := hcell j x hx
  have hk : c = [.string x] := hk
  have := hi 0 (.string x) (by rw [hk]; rfl)
  have e0 : (⟨g, 0, none⟩ : Addr).add (j * Kd.string.sz + 0) = ⟨g, 0 + j, none⟩ := by
    show (⟨g, 0, none⟩ : Addr).add (j * 1 + 0) = _
    rw [add_plain, Nat.mul_one, Nat.add_zero, Nat.zero_add]
  rwa [e0] at this
set_option maxHeartbeats 8000000 in
set_option maxRecDepth 100000 in
theorem vec_Text.text (a b c d : Nat) (ha : a < 18446744073709551616) (hb : b < 18446744073709551616) (hc : c < 18446744073709551616) (hd : d < 18446744073709551616) (w : World)
    (hF : ∀ W : World, Below w.heap.size w W → ∀ n : Nat, n = a ∨ n = b ∨ n = c ∨ n = d → Calls Tryd.prog 68 #[.int .u64 (n : Int), .int .i64 10] W fun e w' => e = .returned (.string (vec_Text.num n)) ∧ Below W.heap.size W w') :
    Calls Tryd.prog 52 #[.agg #[.int .u64 (a : Int), .int .u64 (b : Int), .int .u64 (c : Int), .int .u64 (d : Int)]] w fun e w' => e = .returned (.string (vec_Text.txt a b c d)) ∧ Below w.heap.size w w' := by
  have hu := Tryd.underlying24
  have hu2 := Tryd.underlying22
  have infos : (Tryd.prog.info? 9).map (fun i => (i.zero, i.size, i.bytes)) = some (some (.string ⟨#[]⟩), 1, 16) := by kernel_rfl
  have x0 := fun W => vec_Sum.at_ #[.int .u64 (a : Int), .int .u64 (b : Int), .int .u64 (c : Int), .int .u64 (d : Int)] rfl 0 (.int .u64 a) W rfl
  have x1 := fun W => vec_Sum.at_ #[.int .u64 (a : Int), .int .u64 (b : Int), .int .u64 (c : Int), .int .u64 (d : Int)] rfl 1 (.int .u64 b) W rfl
  have x2 := fun W => vec_Sum.at_ #[.int .u64 (a : Int), .int .u64 (b : Int), .int .u64 (c : Int), .int .u64 (d : Int)] rfl 2 (.int .u64 c) W rfl
  have x3 := fun W => vec_Sum.at_ #[.int .u64 (a : Int), .int .u64 (b : Int), .int .u64 (c : Int), .int .u64 (d : Int)] rfl 3 (.int .u64 d) W rfl
  simp only [Int.ofNat_eq_natCast, Int.cast_ofNat_Int] at x0 x1 x2 x3
  have hFa := fun W h => hF W h a (Or.inl rfl)
  have hFb := fun W h => hF W h b (Or.inr (Or.inl rfl))
  have hFc := fun W h => hF W h c (Or.inr (Or.inr (Or.inl rfl)))
  have hFd := fun W h => hF W h d (Or.inr (Or.inr (Or.inr rfl)))
  have la := vec_Text.num_len ha
  have lb := vec_Text.num_len hb
  have lc := vec_Text.num_len hc
  have ld := vec_Text.num_len hd
  clear hF ha hb hc hd
  unfold vec_Text.txt
  generalize vec_Text.num a = sa at *
  generalize vec_Text.num b = sb at *
  generalize vec_Text.num c = sc at *
  generalize vec_Text.num d = sd at *
  go_enter Tryd.func52, Tryd.ntmps52
  go_wp2
  generalize hW : (w.alloc (Obj.cells _ _)) = W0
  have HB0 : Below w.heap.size w W0 := by rw [← hW]; exact below_alloc (Below.refl _ _) _
  replace HB0 := Aside0.mk HB0
  clear hW
  refine wp_loop_rounds 5 ?_
  rw [rounds_succ]
  go_wp2_with (first
    | (go_at_call 68; refine (hFa _ HB0.out).mono ?_; rintro e w1 ⟨rfl, hb⟩; have HB1 := Aside0.mk (below_step HB0.out hb); clear hb)
    | ((with_reducible refine gate_builtin (b := .append) (xs := #[.tmp 10, .tmp 13]) rfl ?_); at_builtin
       refine Kd.R_append Kd.string (w0 := w) w.heap.size rfl (.tmp 10) (.tmp 13) 104 9 (.string ⟨#[]⟩) 16 rfl Tryd.underlying104 infos rfl (by decide) (by decide) (.slice none 0 0) [] sa [.string sa] (fun _ => True) (fun _ => False) rfl rfl rfl (fun _ hk => hk.elim) (fun _ _ => trivial) (Kd.R_nil _ _ _ _ _) HB1.out (below_size HB1.out) (by simp) ?_
       intro v1 w2 ho1 hb1 _ _; have HO1 := Aside0.mk ho1; have HB2 := Aside0.mk hb1; clear ho1 hb1))
  rw [rounds_succ]
  go_wp2_with (first
    | (go_at_call 68; refine (hFb _ HB2.out).mono ?_; rintro e w3 ⟨rfl, hb⟩; have HB3 := Aside0.mk (below_step HB2.out hb); have HO2 := Aside0.mk (Kd.R_below HO1.out hb); clear hb)
    | ((with_reducible refine gate_builtin (b := .append) (xs := #[.tmp 10, .tmp 13]) rfl ?_); at_builtin
       refine Kd.R_append Kd.string (w0 := w) w.heap.size rfl (.tmp 10) (.tmp 13) 104 9 (.string ⟨#[]⟩) 16 rfl Tryd.underlying104 infos rfl (by decide) (by decide) v1 ([] ++ [sa]) sb [.string sb] (fun _ => True) (fun _ => False) rfl rfl rfl (fun _ hk => hk.elim) (fun _ _ => trivial) HO2.out HB3.out (below_size HB3.out) (by simp) ?_
       intro v2 w4 ho1 hb1 _ _; have HO3 := Aside0.mk ho1; have HB4 := Aside0.mk hb1; clear ho1 hb1))
  rw [rounds_succ]
  go_wp2_with (first
    | (go_at_call 68; refine (hFc _ HB4.out).mono ?_; rintro e w5 ⟨rfl, hb⟩; have HB5 := Aside0.mk (below_step HB4.out hb); have HO4 := Aside0.mk (Kd.R_below HO3.out hb); clear hb)
    | ((with_reducible refine gate_builtin (b := .append) (xs := #[.tmp 10, .tmp 13]) rfl ?_); at_builtin
       refine Kd.R_append Kd.string (w0 := w) w.heap.size rfl (.tmp 10) (.tmp 13) 104 9 (.string ⟨#[]⟩) 16 rfl Tryd.underlying104 infos rfl (by decide) (by decide) v2 ([] ++ [sa] ++ [sb]) sc [.string sc] (fun _ => True) (fun _ => False) rfl rfl rfl (fun _ hk => hk.elim) (fun _ _ => trivial) HO4.out HB5.out (below_size HB5.out) (by simp) ?_
       intro v3 w6 ho1 hb1 _ _; have HO5 := Aside0.mk ho1; have HB6 := Aside0.mk hb1; clear ho1 hb1))
  rw [rounds_succ]
  go_wp2_with (first
    | (go_at_call 68; refine (hFd _ HB6.out).mono ?_; rintro e w7 ⟨rfl, hb⟩; have HB7 := Aside0.mk (below_step HB6.out hb); have HO6 := Aside0.mk (Kd.R_below HO5.out hb); clear hb)
    | ((with_reducible refine gate_builtin (b := .append) (xs := #[.tmp 10, .tmp 13]) rfl ?_); at_builtin
       refine Kd.R_append Kd.string (w0 := w) w.heap.size rfl (.tmp 10) (.tmp 13) 104 9 (.string ⟨#[]⟩) 16 rfl Tryd.underlying104 infos rfl (by decide) (by decide) v3 ([] ++ [sa] ++ [sb] ++ [sc]) sd [.string sd] (fun _ => True) (fun _ => False) rfl rfl rfl (fun _ hk => hk.elim) (fun _ _ => trivial) HO6.out HB7.out (below_size HB7.out) (by simp) ?_
       intro v4 w8 ho1 hb1 _ _; have HO7 := Aside0.mk ho1; have HB8 := Aside0.mk hb1; clear ho1 hb1))
  obtain ⟨g, cap, hv, hcap, hg, hcell⟩ := vec_Text.cells_ HO7.out (by simp)
  have hjoin := Tryd.strings_Join g 0 cap ([] ++ [sa] ++ [sb] ++ [sc] ++ [sd]) (⟨#[44]⟩ : ByteArray) w8 hcell hg (by show 4 ≤ 140737488355328; omega) hcap (by
    show (Lib.join ([sa, sb, sc, sd].map (·.data.toList)) (⟨#[44]⟩ : ByteArray).data.toList).length ≤ _
    simp only [List.map_cons, List.map_nil]
    rw [Lib.join_length]
    have zl : ∀ x : ByteArray, x.data.toList.length = x.size := fun x => Array.length_toList
    simp only [zl] at la lb lc ld
    simp [Lib.lens]
    omega)
  have hjoin := show Calls Tryd.prog 69 _ w8 (fun e w' => e = .returned (.string ⟨(Lib.join ([sa, sb, sc, sd].map (·.data.toList)) (⟨#[44]⟩ : ByteArray).data.toList).toArray⟩) ∧ Below w8.heap.size w8 w') from hjoin
  rw [vec_Text.join_eq sa sb sc sd] at hjoin
  clear hcell hg hcap
  subst hv
  rw [rounds_succ]
  go_wp2_with (go_at_call 69; refine hjoin.mono ?_; rintro e w9 ⟨rfl, hb⟩; have HB9 := Aside0.mk (below_step HB8.out hb); clear hb)
  go_ret
  exact ⟨by first | rfl | simp, HB9.out⟩
theorem vec_Text.calls (a0_0 a0_1 a0_2 a0_3 : Int) (r : ByteArray) (w : World) (h : vec_Text.f a0_0 a0_1 a0_2 a0_3 = some r) :
    Calls Tryd.prog 52 #[.agg #[.int .u64 a0_0, .int .u64 a0_1, .int .u64 a0_2, .int .u64 a0_3]] w fun e w' => e = .returned (.string r) ∧ Below w.heap.size w w' := by
  unfold vec_Text.f at h
  by_cases c : (0 ≤ a0_0 ∧ a0_0 < 100) ∧ (0 ≤ a0_1 ∧ a0_1 < 100) ∧ (0 ≤ a0_2 ∧ a0_2 < 100) ∧ (0 ≤ a0_3 ∧ a0_3 < 100)
  · rw [if_pos c] at h
    obtain rfl := Option.some.inj h
    obtain ⟨a, rfl⟩ := Int.eq_ofNat_of_zero_le c.1.1
    obtain ⟨b, rfl⟩ := Int.eq_ofNat_of_zero_le c.2.1.1
    obtain ⟨d, rfl⟩ := Int.eq_ofNat_of_zero_le c.2.2.1.1
    obtain ⟨e, rfl⟩ := Int.eq_ofNat_of_zero_le c.2.2.2.1
    simp only [Int.toNat_natCast]
    refine vec_Text.text a b d e (by omega) (by omega) (by omega) (by omega) w (fun W _ n hn => ?_)
    refine (vec_Text.small n (by omega) W).mono ?_
    rintro e w' ⟨rfl, rfl⟩
    exact ⟨rfl, Below.refl _ _⟩
  · rw [if_neg c] at h
    exact absurd h (by simp)


end Go.Proofs.YtdlagefpglhdoaaDoor.Q

-- Written by this session's own driver (wip/hybrid.py) of the kit's printer; contracts marked FOREIGN are by hand.
namespace Go.Proofs.YtdlagefpglhdoaaDoor.Q
open Go.RowKit Go.Proofs.YtdlagefpglhdoaaDoorW.PrintWords Go.Proofs.YtdlagefpglhdoaaDoorW.PrintLast Go.Proofs.YtdlagefpglhdoaaDoorW.PrintMore
attribute [local go_sem] max2_int min2_int max_two min_two max_three min_three max_four min_four   -- for this text's walks alone
set_option linter.unusedVariables false
set_option linter.unusedSimpArgs false

/-! ### strconv_FormatUint_68: function 68 -/
-- FOREIGN: decimal numerals by the library's table of powers of ten
def strconv_FormatUint_68.f (a0 a1 : Int) : Option ByteArray := none
theorem strconv_FormatUint_68.calls (a0 a1 : Int) (r : ByteArray) (w : World) (h : strconv_FormatUint_68.f a0 a1 = some r) :
    Calls Tryd.prog 68 #[.int .u64 a0, .int .i64 a1] w fun e w' => e = .returned (.string r) ∧ Below w.heap.size w w' := absurd h (by unfold strconv_FormatUint_68.f; simp)
def BigText.Tab (w : World) : Prop := Lib.TabIs Tryd.prog w "internal/strconv.uint64pow10" .u64 Lib.pow10Tab
theorem BigText.Tab.below {w w' : World} (h : BigText.Tab w) (hb : Below w.heap.size w w') : BigText.Tab w' := Lib.tabBelow_of_tabIs h w' hb
theorem BigText.holds0 (w : World) (T : TypeId) (nd : Nat) (hs : nd ≤ 24) : Go.Sort.Holds (fun (b : UInt8) => Value.int .u8 (b.toNat : Int)) (w.alloc (.cells Lib.zeros24 T)) w.heap.size 0 (Array.replicate nd (0 : UInt8)) := fun j hj => by
  have hj' : j < nd := by simpa using hj
  refine ⟨?_, World.frozen?_alloc_new _ _ _ _⟩
  rw [World.cell?_alloc_new, Lib.zeros24_at _ (by omega), getElem!_pos _ j hj]
  simp
theorem BigText.fin0 (w : World) (o : Obj) (dk : Array UInt8) (k : Nat) : ∃ os, (Go.Sort.putRow (fun (b : UInt8) => Value.int .u8 (b.toNat : Int)) (w.alloc o) w.heap.size 0 dk).drewN k = Go.Sort.grow (w.drewN k) os := by
  rw [Go.Sort.alloc_eq_grow]
  obtain ⟨os', _, e⟩ := Go.Sort.putRow_grow_new (fun (b : UInt8) => Value.int .u8 (b.toNat : Int)) w #[o] w.heap.size 0 dk (Nat.le_refl _)
  exact ⟨os', by rw [e]; rfl⟩
set_option maxHeartbeats 6400000 in
set_option maxRecDepth 100000 in
theorem BigText.big (u : Nat) (h100 : 100 ≤ u) (hu64 : u < 18446744073709551616) (w : World) (htab : BigText.Tab w) :
    Calls Tryd.prog 68 #[.int .u64 (u : Int), .int .i64 10] w fun e w' => e = .returned (.string (vec_Text.num u)) ∧ Below w.heap.size w w' := by
  have hu1 : 1 ≤ u := by omega
  have hnd20 : Lib.nDigits u ≤ 20 := by have := Lib.numDigits_eq u hu1 hu64; split at this <;> omega
  have hlt : decide ((u : Int) < 100) = false := decide_eq_false (by omega)
  have hal : Tryd.prog.arrayLen 119 = 24 := by simp [Program.arrayLen, Tryd.underlying119]
  have hsl : ∀ W, (Instr.sliceAt 119 (.pointer (some ⟨w.heap.size, 0, none⟩)) none (some (.int .i64 (Lib.nDigits u : Int))) none).run Tryd.prog W = .ok (.slice (some ⟨w.heap.size, 0, none⟩) (Lib.nDigits u) 24) W := fun W => by
    rw [run_sliceAt_array_h W 119 ⟨w.heap.size, 0, none⟩ (by simp [Program.arrayLen, Program.elem, Tryd.underlying119]) .i64 (Lib.nDigits u : Int) (by omega) (by rw [hal]; omega)]
    go_simp
  have hH0 := BigText.holds0 w 119 (Lib.nDigits u) (by omega)
  have hfmt := Tryd.internal_strconv_formatBase10 w.heap.size 0 24 u (Array.replicate (Lib.nDigits u) 0) (w.alloc (.cells Lib.zeros24 119)) hH0 (by rw [Array.size_replicate]; exact Lib.lt_pow_nDigits u) hu64 (by rw [Array.size_replicate]; omega)
  rw [Array.size_replicate] at hfmt
  have HH0 := Lib.hid hH0
  clear hH0 hal
  rw [vec_Text.num_eq hu64]
  go_enter Tryd.func68, Tryd.ntmps68
  go_wp2_with (first
    | (go_at_call 80; refine (Tryd.internal_strconv_numDigits u hu1 hu64 _ (Lib.tabIs_alloc htab _)).mono ?_; rintro e w' ⟨rfl, rfl⟩)
    | (go_at_call 81; fail)
    | (go_at_call 75; go_in))
  go_at_call 81
  refine hfmt.mono ?_
  rintro e w' ⟨rfl, k, v', dk, rfl, hF⟩
  have hcv : (convert 88 9 (.slice (some ⟨w.heap.size, 0, none⟩) (Lib.nDigits u) 24)).run Tryd.prog ((Go.Sort.putRow (fun (b : UInt8) => Value.int .u8 (b.toNat : Int)) (w.alloc (.cells Lib.zeros24 119)) w.heap.size 0 dk).drewN k) = .ok (.string ⟨(Lib.decDigits u).toArray⟩) ((Go.Sort.putRow (fun (b : UInt8) => Value.int .u8 (b.toNat : Int)) (w.alloc (.cells Lib.zeros24 119)) w.heap.size 0 dk).drewN k) := by
    have h := run_convert_bytes_back (P := Tryd.prog) ((Go.Sort.putRow (fun (b : UInt8) => Value.int .u8 (b.toNat : Int)) (w.alloc (.cells Lib.zeros24 119)) w.heap.size 0 dk).drewN k) 88 9 5 ⟨w.heap.size, 0, none⟩ 24 (Lib.decDigits u) Tryd.underlying88 Tryd.underlying5 Tryd.underlying9 (fun j hj => by
      rw [Lib.row_is_numeral hF j hj, Lib.add_plain, World.cell?_drewN]
      exact Go.Sort.cell?_putRow (fun (b : UInt8) => Value.int .u8 (b.toNat : Int)) _ w.heap.size 0 _ dk HH0.out (by rw [hF.size, Array.size_replicate]) j (by rw [hF.size]; rw [Lib.decDigits_length] at hj; exact hj))
    rw [Lib.decDigits_length] at h
    exact h
  go_wp2
  go_ret
  obtain ⟨os, eo⟩ := BigText.fin0 w (.cells Lib.zeros24 119) dk k
  refine ⟨rfl, ?_⟩
  rw [eo]
  exact Lib.below_grow w.heap.size w (Nat.le_refl _) k os
theorem BigText.any (u : Nat) (hu64 : u < 18446744073709551616) (w : World) (htab : BigText.Tab w) :
    Calls Tryd.prog 68 #[.int .u64 (u : Int), .int .i64 10] w fun e w' => e = .returned (.string (vec_Text.num u)) ∧ Below w.heap.size w w' := by
  by_cases c : u < 100
  · refine (vec_Text.small u c w).mono ?_
    rintro e w' ⟨rfl, rfl⟩
    exact ⟨rfl, Below.refl _ _⟩
  · exact BigText.big u (by omega) hu64 w htab
def BigText.g (a0_0 a0_1 a0_2 a0_3 : Int) : Option ByteArray :=
  if (0 ≤ a0_0 ∧ a0_0 < 18446744073709551616) ∧ (0 ≤ a0_1 ∧ a0_1 < 18446744073709551616) ∧ (0 ≤ a0_2 ∧ a0_2 < 18446744073709551616) ∧ (0 ≤ a0_3 ∧ a0_3 < 18446744073709551616) then some (vec_Text.txt a0_0.toNat a0_1.toNat a0_2.toNat a0_3.toNat) else none
theorem BigText.callsT (w0 : World) (HT : BigText.Tab w0) (w : World) (hb : Below w0.heap.size w0 w) (a0_0 a0_1 a0_2 a0_3 : Int) (r : ByteArray) (h : BigText.g a0_0 a0_1 a0_2 a0_3 = some r) :
    Calls Tryd.prog 52 #[.agg #[.int .u64 a0_0, .int .u64 a0_1, .int .u64 a0_2, .int .u64 a0_3]] w fun e w' => e = .returned (.string r) ∧ Below w.heap.size w w' := by
  unfold BigText.g at h
  by_cases c : (0 ≤ a0_0 ∧ a0_0 < 18446744073709551616) ∧ (0 ≤ a0_1 ∧ a0_1 < 18446744073709551616) ∧ (0 ≤ a0_2 ∧ a0_2 < 18446744073709551616) ∧ (0 ≤ a0_3 ∧ a0_3 < 18446744073709551616)
  · rw [if_pos c] at h
    obtain rfl := Option.some.inj h
    obtain ⟨a, rfl⟩ := Int.eq_ofNat_of_zero_le c.1.1
    obtain ⟨b, rfl⟩ := Int.eq_ofNat_of_zero_le c.2.1.1
    obtain ⟨d, rfl⟩ := Int.eq_ofNat_of_zero_le c.2.2.1.1
    obtain ⟨e, rfl⟩ := Int.eq_ofNat_of_zero_le c.2.2.2.1
    simp only [Int.toNat_natCast]
    exact vec_Text.text a b d e (by omega) (by omega) (by omega) (by omega) w (fun W hW n hn => BigText.any n (by omega) W ((HT.below hb).below hW))
  · rw [if_neg c] at h
    exact absurd h (by simp)


end Go.Proofs.YtdlagefpglhdoaaDoor.Q

-- Written by this session's own driver (wip/hybrid.py) of the kit's printer; contracts marked FOREIGN are by hand.
namespace Go.Proofs.YtdlagefpglhdoaaDoor.Q
open Go.RowKit Go.Proofs.YtdlagefpglhdoaaDoorW.PrintWords Go.Proofs.YtdlagefpglhdoaaDoorW.PrintLast Go.Proofs.YtdlagefpglhdoaaDoorW.PrintMore
attribute [local go_sem] max2_int min2_int max_two min_two max_three min_three max_four min_four   -- for this text's walks alone
set_option linter.unusedVariables false
set_option linter.unusedSimpArgs false

/-! ### strconv_Itoa_51: function 51 -/
-- FOREIGN: the library's decimal numerals
def strconv_Itoa_51.f (a0 : Int) : Option ByteArray := if 0 ≤ a0 ∧ a0 < 100 then some (vec_Text.num a0.toNat) else none
theorem strconv_Itoa_51.calls (a0 : Int) (r : ByteArray) (w : World) (h : strconv_Itoa_51.f a0 = some r) :
    Calls Tryd.prog 51 #[.int .i64 a0] w fun e w' => e = .returned (.string r) ∧ Below w.heap.size w w' := by
  unfold strconv_Itoa_51.f at h
  by_cases c : 0 ≤ a0 ∧ a0 < 100
  · rw [if_pos c] at h
    obtain rfl := Option.some.inj h
    obtain ⟨i, rfl⟩ := Int.eq_ofNat_of_zero_le c.1
    refine (Tryd.strconv_Itoa_small i (by omega) w).mono ?_
    rintro e w' ⟨rfl, rfl⟩
    refine ⟨?_, Below.refl _ _⟩
    rw [Int.toNat_natCast, vec_Text.num_eq (by omega)]
  · rw [if_neg c] at h
    exact absurd h (by simp)
def BigItoa.int (x : Int) : ByteArray := if x < 0 then ⟨#[45]⟩ ++ vec_Text.num x.natAbs else vec_Text.num x.toNat
def BigItoa.g (a0 : Int) : Option ByteArray := if -9223372036854775808 ≤ a0 ∧ a0 ≤ 9223372036854775807 then some (BigItoa.int a0) else none
theorem BigItoa.int_eq (x : Int) (h0 : -9223372036854775808 ≤ x) (h1 : x ≤ 9223372036854775807) : (⟨(Lib.itoa x).toArray⟩ : ByteArray) = BigItoa.int x := by
  unfold Lib.itoa BigItoa.int
  by_cases c : x < 0
  · rw [if_pos c, if_pos c, vec_Text.num_eq (by omega)]
    apply ByteArray.ext
    apply Array.toList_inj.1
    simp [ByteArray.data_append]
  · rw [if_neg c, if_neg c, vec_Text.num_eq (by omega)]
theorem BigItoa.callsT (w0 : World) (HT : BigText.Tab w0) (w : World) (hb : Below w0.heap.size w0 w) (a0 : Int) (r : ByteArray) (h : BigItoa.g a0 = some r) :
    Calls Tryd.prog 51 #[.int .i64 a0] w fun e w' => e = .returned (.string r) ∧ Below w.heap.size w w' := by
  unfold BigItoa.g at h
  by_cases c : -9223372036854775808 ≤ a0 ∧ a0 ≤ 9223372036854775807
  · rw [if_pos c] at h
    obtain rfl := Option.some.inj h
    refine (Tryd.strconv_Itoa a0 c.1 c.2 w (HT.below hb)).mono ?_
    rintro e w' ⟨rfl, k, os, rfl⟩
    refine ⟨?_, Lib.below_grow w.heap.size w (Nat.le_refl _) k os⟩
    rw [BigItoa.int_eq a0 c.1 c.2]
  · rw [if_neg c] at h
    exact absurd h (by simp)


end Go.Proofs.YtdlagefpglhdoaaDoor.Q

-- Written by this session's own driver (wip/hybrid.py) of the kit's printer; contracts marked FOREIGN are by hand.
namespace Go.Proofs.YtdlagefpglhdoaaDoor.Q
open Go.RowKit Go.Proofs.YtdlagefpglhdoaaDoorW.PrintWords Go.Proofs.YtdlagefpglhdoaaDoorW.PrintLast Go.Proofs.YtdlagefpglhdoaaDoorW.PrintMore
attribute [local go_sem] max2_int min2_int max_two min_two max_three min_three max_four min_four   -- for this text's walks alone
set_option linter.unusedVariables false
set_option linter.unusedSimpArgs false

/-! ### stamp_Text: function 25 -/
def stamp_Text.f (a0_0 : Int) (a0_1 : Int) (a0_2 : Int) (a0_3 : Int) (a0_4 : Int) : Option (ByteArray) := (strconv_Itoa_51.f a0_4).bind fun t157 => (if t157.size + 1 ≤ 9223372036854775807 then ((vec_Text.f a0_0 a0_1 a0_2 a0_3).bind fun t158 => (if (t157 ++ (⟨#[64]⟩ : ByteArray)).size + t158.size ≤ 9223372036854775807 then (some ((t157 ++ (⟨#[64]⟩ : ByteArray)) ++ t158)) else (none))) else (none))
def stamp_Text.T1 : Bool × List (List Nat × List Nat) := (true, [([], []), ([0], [0]), ([1], [1]), ([2], [2]), ([], []), ([4], [4]), ([5, 2], [5]), ([3, 6], [3, 6]), ([7, 6, 0, 1, 2, 3, 4, 5, 6, 7], [7])])
def stamp_Text.B1 : List Nat := [0, 1, 3, 7, 0, 16, 55, 127, 255]
theorem stamp_Text.tab1 : rtab .any (opsOf Tryd.f25 1) = stamp_Text.T1 := by kernel_rfl
theorem stamp_Text.bits1 : waitsOk stamp_Text.T1.2 stamp_Text.B1 = true := by kernel_rfl
set_option maxHeartbeats 8000000 in
set_option maxRecDepth 100000 in
theorem stamp_Text.calls (a0_0 : Int) (a0_1 : Int) (a0_2 : Int) (a0_3 : Int) (a0_4 : Int) (r : ByteArray) (w : World) (h : stamp_Text.f a0_0 a0_1 a0_2 a0_3 a0_4 = some r) :
    Calls Tryd.prog 25 #[.agg #[.int .u64 a0_0, .int .u64 a0_1, .int .u64 a0_2, .int .u64 a0_3, .int .i64 a0_4]] w fun e w' => e = .returned (.string r) ∧ Below w.heap.size w w' := by
  have hu26 := Tryd.underlying26
  have hu24 := Tryd.underlying24
  have HB := Aside0.mk (Below.refl w.heap.size w)
  have H : ((strconv_Itoa_51.f a0_4).bind fun t157 => (if t157.size + 1 ≤ 9223372036854775807 then ((vec_Text.f a0_0 a0_1 a0_2 a0_3).bind fun t158 => (if (t157 ++ (⟨#[64]⟩ : ByteArray)).size + t158.size ≤ 9223372036854775807 then (some ((t157 ++ (⟨#[64]⟩ : ByteArray)) ++ t158)) else (none))) else (none))) = some r := h
  (try (have Hs_ := H; simp only [ByteArray.size_append, Int.natCast_add] at Hs_))
  clear h
  replace H := Option.bind_eq_some_iff.mp H
  obtain ⟨t157, A20, H⟩ := H
  replace H : (if t157.size + 1 ≤ 9223372036854775807 then ((vec_Text.f a0_0 a0_1 a0_2 a0_3).bind fun t158 => (if (t157 ++ (⟨#[64]⟩ : ByteArray)).size + t158.size ≤ 9223372036854775807 then (some ((t157 ++ (⟨#[64]⟩ : ByteArray)) ++ t158)) else (none))) else (none)) = some r := H
  have A2 := Aside0.mk A20
  clear A20
  by_cases c3 : t157.size + 1 ≤ 9223372036854775807
  rotate_left
  · rw [if_neg c3] at H
    exact absurd H (by simp)
  rw [if_pos c3] at H
  have c3b0 := eq_true c3
  have c3b1 : decide (t157.size + 1 ≤ 9223372036854775807) = true := decide_eq_true c3
  try have c3b2 : (9223372036854775807 < t157.size + 1) = False := eq_false (Nat.not_lt.2 c3)
  replace H := Option.bind_eq_some_iff.mp H
  obtain ⟨t158, A40, H⟩ := H
  replace H : (if (t157 ++ (⟨#[64]⟩ : ByteArray)).size + t158.size ≤ 9223372036854775807 then (some ((t157 ++ (⟨#[64]⟩ : ByteArray)) ++ t158)) else (none)) = some r := H
  have A4 := Aside0.mk A40
  clear A40
  by_cases c5 : (t157 ++ (⟨#[64]⟩ : ByteArray)).size + t158.size ≤ 9223372036854775807
  rotate_left
  · rw [if_neg c5] at H
    exact absurd H (by simp)
  rw [if_pos c5] at H
  have c5b0 := eq_true c5
  (try (have c5b0s_ := c5b0; simp only [ByteArray.size_append, Int.natCast_add, show (⟨#[64]⟩ : ByteArray).size = 1 from rfl] at c5b0s_))
  have c5b1 : decide ((t157 ++ (⟨#[64]⟩ : ByteArray)).size + t158.size ≤ 9223372036854775807) = true := decide_eq_true c5
  (try (have c5b1s_ := c5b1; simp only [ByteArray.size_append, Int.natCast_add, show (⟨#[64]⟩ : ByteArray).size = 1 from rfl] at c5b1s_))
  try have c5b2 : (9223372036854775807 < (t157 ++ (⟨#[64]⟩ : ByteArray)).size + t158.size) = False := eq_false (Nat.not_lt.2 c5)
  (try (have c5b2s_ := c5b2; simp only [ByteArray.size_append, Int.natCast_add, show (⟨#[64]⟩ : ByteArray).size = 1 from rfl] at c5b2s_))
  obtain rfl := Option.some.inj H
  go_enter Tryd.func25, Tryd.ntmps25
  try go_wp2_with (first | ((with_reducible refine gate_dst (N := 1) rfl ?_); refine box_event ?hg (N := 1) ?hd (cs := #[.int .u64 a0_0, .int .u64 a0_1, .int .u64 a0_2, .int .u64 a0_3, .int .i64 a0_4]) (t := 26) ?hr ?_; (case hd => rfl); (case hg => rfl); (case hr => first | (go_simp; done) | (go_simp; rfl)); intro gb156 hg w6 hbox hb; have BK156 := Aside0.mk (hbox); have GW156 := Kw_ HB hg; have GE156 := GW156; replace HB := Ks_ HB hb; clear hb hbox hg))
  replace BK156 := Kd_ BK156
  replace HB := Aside0.mk (below_drew1 HB.out)
  refine start_ (n := 9) (S := fun w' => w'.cell? ⟨gb156, 0, none⟩ = some (.int .u64 a0_0) ∧ w'.cell? ⟨gb156, 1, none⟩ = some (.int .u64 a0_1) ∧ w'.cell? ⟨gb156, 2, none⟩ = some (.int .u64 a0_2) ∧ w'.cell? ⟨gb156, 3, none⟩ = some (.int .u64 a0_3) ∧ w'.cell? ⟨gb156, 4, none⟩ = some (.int .i64 a0_4)) (ds := []) #[false, false, false, false, false, false, false, false, false] (by kernel_rfl) rfl rfl ⟨(blk_cell BK156.out 0).trans rfl, (blk_cell BK156.out 1).trans rfl, (blk_cell BK156.out 2).trans rfl, (blk_cell BK156.out 3).trans rfl, (blk_cell BK156.out 4).trans rfl⟩ (fun hHeld => ?_); refine with_tabW stamp_Text.tab1 stamp_Text.bits1 (fun HT_ HW_ => ?_)
  generalize w6.drew = w7 at BK156 HB hHeld ⊢
  refine pure_ (i := 0) (N := some 3) (v := ?_) (a' := ?_) #[true, false, false, false, false, false, false, false, false] rfl rfl (any_of HT_.out (by kernel_rfl)) (fun _ _ _ h => h) (Or.inl ⟨by rfl, ?_⟩) ?_ ?_
  rotate_left
  · intro w'
    go_simp
    with_reducible rfl
  rotate_left
  · simp only [Act.put, List.setIfInBounds_toArray, List.set_cons_zero, List.set_cons_succ, i64_w, i32_w]
    rfl
  refine pure_ (i := 4) (N := some 7) (v := ?_) (a' := ?_) #[true, false, false, false, true, false, false, false, false] rfl rfl (any_of HT_.out (by kernel_rfl)) (fun _ _ _ h => h) (Or.inl ⟨by rfl, ?_⟩) ?_ ?_
  rotate_left
  · intro w'
    go_simp
    with_reducible rfl
  rotate_left
  · simp only [Act.put, List.setIfInBounds_toArray, List.set_cons_zero, List.set_cons_succ, i64_w, i32_w]
    rfl
  refine take_ (i := 1) (N := some 4) (v := ?_) (a' := ?_) #[true, true, false, false, true, false, false, false, false] rfl rfl (take_ofW HT_.out HW_.out (by kernel_rfl)) (fun _ _ _ h => h) (Or.inl ⟨by rfl, ?_⟩) hHeld ?_ ?_
  rotate_left
  · rintro w' ⟨s0, s1, s2, s3, s4⟩
    go_simp
    with_reducible rfl
  rotate_left
  · simp only [Act.put, List.setIfInBounds_toArray, List.set_cons_zero, List.set_cons_succ, i64_w, i32_w]
    rfl
  refine take_ (i := 5) (N := some 8) (v := ?_) (a' := ?_) #[true, true, false, false, true, true, false, false, false] rfl rfl (take_ofW HT_.out HW_.out (by kernel_rfl)) (fun _ _ _ h => h) (Or.inl ⟨by rfl, ?_⟩) hHeld ?_ ?_
  rotate_left
  · rintro w' ⟨s0, s1, s2, s3, s4⟩
    go_simp
    with_reducible rfl
  rotate_left
  · simp only [Act.put, List.setIfInBounds_toArray, List.set_cons_zero, List.set_cons_succ, i64_w, i32_w]
    rfl
  refine one_ (i := 2) (N := some 5) #[true, true, true, false, true, true, false, false, false] rfl rfl (one_of HT_.out (by kernel_rfl)) (by decide) (fun K hK => ?_)
  refine goes_ Tryd.func51 (by kernel_rfl) rfl #[.int .i64 a0_4] (by rfl) rfl rfl (by (try simp only [List.map_toArray, List.map_cons, List.map_nil]); first | done | rfl | (simp only [List.length_drop, List.length_take]; rfl)) ?_
  with_reducible refine (strconv_Itoa_51.calls a0_4 t157 _ A2.out).mono ?_
  rintro e w8 ⟨rfl, hb⟩
  refine ⟨_, rfl, ?_⟩
  replace BK156 := Kb_ BK156 hb
  replace HB := Ks_ HB hb
  (try clear hb)
  (try clear hb2)
  (try clear hk)
  (try clear hi)
  refine hK.out _ _ ⟨(blk_cell BK156.out 0).trans rfl, (blk_cell BK156.out 1).trans rfl, (blk_cell BK156.out 2).trans rfl, (blk_cell BK156.out 3).trans rfl, (blk_cell BK156.out 4).trans rfl⟩ (fun hHeld => ?_)
  clear hK K
  refine norm_ (a' := ?_) ?_ ?_
  rotate_left
  · show Act.put _ (some 5) _ = _
    simp only [Act.put, List.setIfInBounds_toArray, List.set_cons_zero, List.set_cons_succ, i64_w, i32_w]
    rfl
  refine pure_ (i := 3) (N := some 6) (v := ?_) (a' := ?_) #[true, true, true, true, true, true, false, false, false] rfl rfl (any_of HT_.out (by kernel_rfl)) (fun _ _ _ h => h) (Or.inl ⟨by rfl, ?_⟩) ?_ ?_
  rotate_left
  · intro w'
    go_simp
    with_reducible rfl
  rotate_left
  · simp only [Act.put, List.setIfInBounds_toArray, List.set_cons_zero, List.set_cons_succ, i64_w, i32_w]
    rfl
  refine one_ (i := 6) (N := some 9) #[true, true, true, true, true, true, true, false, false] rfl rfl (one_of HT_.out (by kernel_rfl)) (by decide) (fun K hK => ?_)
  refine goes_ Tryd.func52 (by kernel_rfl) rfl #[.agg #[.int .u64 a0_0, .int .u64 a0_1, .int .u64 a0_2, .int .u64 a0_3]] (by rfl) rfl rfl (by (try simp only [List.map_toArray, List.map_cons, List.map_nil]); first | done | rfl | (simp only [List.length_drop, List.length_take]; rfl)) ?_
  with_reducible refine (vec_Text.calls a0_0 a0_1 a0_2 a0_3 t158 _ A4.out).mono ?_
  rintro e w9 ⟨rfl, hb⟩
  refine ⟨_, rfl, ?_⟩
  replace BK156 := Kb_ BK156 hb
  replace HB := Ks_ HB hb
  (try clear hb)
  (try clear hb2)
  (try clear hk)
  (try clear hi)
  refine hK.out _ _ ⟨(blk_cell BK156.out 0).trans rfl, (blk_cell BK156.out 1).trans rfl, (blk_cell BK156.out 2).trans rfl, (blk_cell BK156.out 3).trans rfl, (blk_cell BK156.out 4).trans rfl⟩ (fun hHeld => ?_)
  clear hK K
  refine norm_ (a' := ?_) ?_ ?_
  rotate_left
  · show Act.put _ (some 9) _ = _
    simp only [Act.put, List.setIfInBounds_toArray, List.set_cons_zero, List.set_cons_succ, i64_w, i32_w]
    rfl
  refine pure_ (i := 7) (N := some 10) (v := ?_) (a' := ?_) #[true, true, true, true, true, true, true, true, false] rfl rfl (any_of HT_.out (by kernel_rfl)) (fun _ _ _ h => h) (Or.inl ⟨by rfl, ?_⟩) ?_ ?_
  rotate_left
  · intro w'
    go_simp
    with_reducible rfl
  rotate_left
  · simp only [Act.put, List.setIfInBounds_toArray, List.set_cons_zero, List.set_cons_succ, i64_w, i32_w]
    rfl
  refine pure_ (i := 8) (N := some 2) (v := ?_) (a' := ?_) #[true, true, true, true, true, true, true, true, true] rfl rfl (any_of HT_.out (by kernel_rfl)) (fun _ _ _ h => h) (Or.inl ⟨by rfl, ?_⟩) ?_ ?_
  rotate_left
  · intro w'
    go_simp
    with_reducible rfl
  rotate_left
  · simp only [Act.put, List.setIfInBounds_toArray, List.set_cons_zero, List.set_cons_succ, i64_w, i32_w]
    rfl
  refine done_ (done_of HT_.out (by kernel_rfl)) ?_
  try go_wp2
  go_ret
  exact ⟨by first | rfl | (simp [errW_none, errW_some] <;> rfl) | (simp [*, errW_none, errW_some] <;> rfl), by repeat (first | (with_reducible first | exact HB.out | apply below_alloc | apply pw_below_drewN | apply below_drew1 | refine below_set ?_ GE156.out) | exact HB.out)⟩
def BigStamp.f (a0_0 : Int) (a0_1 : Int) (a0_2 : Int) (a0_3 : Int) (a0_4 : Int) : Option (ByteArray) := (BigItoa.g a0_4).bind fun t157 => (if t157.size + 1 ≤ 9223372036854775807 then ((BigText.g a0_0 a0_1 a0_2 a0_3).bind fun t158 => (if (t157 ++ (⟨#[64]⟩ : ByteArray)).size + t158.size ≤ 9223372036854775807 then (some ((t157 ++ (⟨#[64]⟩ : ByteArray)) ++ t158)) else (none))) else (none))
def BigStamp.T1 : Bool × List (List Nat × List Nat) := (true, [([], []), ([0], [0]), ([1], [1]), ([2], [2]), ([], []), ([4], [4]), ([5, 2], [5]), ([3, 6], [3, 6]), ([7, 6, 0, 1, 2, 3, 4, 5, 6, 7], [7])])
def BigStamp.B1 : List Nat := [0, 1, 3, 7, 0, 16, 55, 127, 255]
theorem BigStamp.tab1 : rtab .any (opsOf Tryd.f25 1) = BigStamp.T1 := by kernel_rfl
theorem BigStamp.bits1 : waitsOk BigStamp.T1.2 BigStamp.B1 = true := by kernel_rfl
set_option maxHeartbeats 8000000 in
set_option maxRecDepth 100000 in
theorem BigStamp.calls (a0_0 : Int) (a0_1 : Int) (a0_2 : Int) (a0_3 : Int) (a0_4 : Int) (r : ByteArray) (w : World) (HT : BigText.Tab w) (h : BigStamp.f a0_0 a0_1 a0_2 a0_3 a0_4 = some r) :
    Calls Tryd.prog 25 #[.agg #[.int .u64 a0_0, .int .u64 a0_1, .int .u64 a0_2, .int .u64 a0_3, .int .i64 a0_4]] w fun e w' => e = .returned (.string r) ∧ Below w.heap.size w w' := by
  have hu26 := Tryd.underlying26
  have hu24 := Tryd.underlying24
  have HB := Aside0.mk (Below.refl w.heap.size w)
  have H : ((BigItoa.g a0_4).bind fun t157 => (if t157.size + 1 ≤ 9223372036854775807 then ((BigText.g a0_0 a0_1 a0_2 a0_3).bind fun t158 => (if (t157 ++ (⟨#[64]⟩ : ByteArray)).size + t158.size ≤ 9223372036854775807 then (some ((t157 ++ (⟨#[64]⟩ : ByteArray)) ++ t158)) else (none))) else (none))) = some r := h
  (try (have Hs_ := H; simp only [ByteArray.size_append, Int.natCast_add] at Hs_))
  clear h
  replace H := Option.bind_eq_some_iff.mp H
  obtain ⟨t157, A20, H⟩ := H
  replace H : (if t157.size + 1 ≤ 9223372036854775807 then ((BigText.g a0_0 a0_1 a0_2 a0_3).bind fun t158 => (if (t157 ++ (⟨#[64]⟩ : ByteArray)).size + t158.size ≤ 9223372036854775807 then (some ((t157 ++ (⟨#[64]⟩ : ByteArray)) ++ t158)) else (none))) else (none)) = some r := H
  have A2 := Aside0.mk A20
  clear A20
  by_cases c3 : t157.size + 1 ≤ 9223372036854775807
  rotate_left
  · rw [if_neg c3] at H
    exact absurd H (by simp)
  rw [if_pos c3] at H
  have c3b0 := eq_true c3
  have c3b1 : decide (t157.size + 1 ≤ 9223372036854775807) = true := decide_eq_true c3
  try have c3b2 : (9223372036854775807 < t157.size + 1) = False := eq_false (Nat.not_lt.2 c3)
  replace H := Option.bind_eq_some_iff.mp H
  obtain ⟨t158, A40, H⟩ := H
  replace H : (if (t157 ++ (⟨#[64]⟩ : ByteArray)).size + t158.size ≤ 9223372036854775807 then (some ((t157 ++ (⟨#[64]⟩ : ByteArray)) ++ t158)) else (none)) = some r := H
  have A4 := Aside0.mk A40
  clear A40
  by_cases c5 : (t157 ++ (⟨#[64]⟩ : ByteArray)).size + t158.size ≤ 9223372036854775807
  rotate_left
  · rw [if_neg c5] at H
    exact absurd H (by simp)
  rw [if_pos c5] at H
  have c5b0 := eq_true c5
  (try (have c5b0s_ := c5b0; simp only [ByteArray.size_append, Int.natCast_add, show (⟨#[64]⟩ : ByteArray).size = 1 from rfl] at c5b0s_))
  have c5b1 : decide ((t157 ++ (⟨#[64]⟩ : ByteArray)).size + t158.size ≤ 9223372036854775807) = true := decide_eq_true c5
  (try (have c5b1s_ := c5b1; simp only [ByteArray.size_append, Int.natCast_add, show (⟨#[64]⟩ : ByteArray).size = 1 from rfl] at c5b1s_))
  try have c5b2 : (9223372036854775807 < (t157 ++ (⟨#[64]⟩ : ByteArray)).size + t158.size) = False := eq_false (Nat.not_lt.2 c5)
  (try (have c5b2s_ := c5b2; simp only [ByteArray.size_append, Int.natCast_add, show (⟨#[64]⟩ : ByteArray).size = 1 from rfl] at c5b2s_))
  obtain rfl := Option.some.inj H
  go_enter Tryd.func25, Tryd.ntmps25
  try go_wp2_with (first | ((with_reducible refine gate_dst (N := 1) rfl ?_); refine box_event ?hg (N := 1) ?hd (cs := #[.int .u64 a0_0, .int .u64 a0_1, .int .u64 a0_2, .int .u64 a0_3, .int .i64 a0_4]) (t := 26) ?hr ?_; (case hd => rfl); (case hg => rfl); (case hr => first | (go_simp; done) | (go_simp; rfl)); intro gb156 hg w6 hbox hb; have BK156 := Aside0.mk (hbox); have GW156 := Kw_ HB hg; have GE156 := GW156; replace HB := Ks_ HB hb; clear hb hbox hg))
  replace BK156 := Kd_ BK156
  replace HB := Aside0.mk (below_drew1 HB.out)
  refine start_ (n := 9) (S := fun w' => w'.cell? ⟨gb156, 0, none⟩ = some (.int .u64 a0_0) ∧ w'.cell? ⟨gb156, 1, none⟩ = some (.int .u64 a0_1) ∧ w'.cell? ⟨gb156, 2, none⟩ = some (.int .u64 a0_2) ∧ w'.cell? ⟨gb156, 3, none⟩ = some (.int .u64 a0_3) ∧ w'.cell? ⟨gb156, 4, none⟩ = some (.int .i64 a0_4)) (ds := []) #[false, false, false, false, false, false, false, false, false] (by kernel_rfl) rfl rfl ⟨(blk_cell BK156.out 0).trans rfl, (blk_cell BK156.out 1).trans rfl, (blk_cell BK156.out 2).trans rfl, (blk_cell BK156.out 3).trans rfl, (blk_cell BK156.out 4).trans rfl⟩ (fun hHeld => ?_); refine with_tabW BigStamp.tab1 BigStamp.bits1 (fun HT_ HW_ => ?_)
  generalize w6.drew = w7 at BK156 HB hHeld ⊢
  refine pure_ (i := 0) (N := some 3) (v := ?_) (a' := ?_) #[true, false, false, false, false, false, false, false, false] rfl rfl (any_of HT_.out (by kernel_rfl)) (fun _ _ _ h => h) (Or.inl ⟨by rfl, ?_⟩) ?_ ?_
  rotate_left
  · intro w'
    go_simp
    with_reducible rfl
  rotate_left
  · simp only [Act.put, List.setIfInBounds_toArray, List.set_cons_zero, List.set_cons_succ, i64_w, i32_w]
    rfl
  refine pure_ (i := 4) (N := some 7) (v := ?_) (a' := ?_) #[true, false, false, false, true, false, false, false, false] rfl rfl (any_of HT_.out (by kernel_rfl)) (fun _ _ _ h => h) (Or.inl ⟨by rfl, ?_⟩) ?_ ?_
  rotate_left
  · intro w'
    go_simp
    with_reducible rfl
  rotate_left
  · simp only [Act.put, List.setIfInBounds_toArray, List.set_cons_zero, List.set_cons_succ, i64_w, i32_w]
    rfl
  refine take_ (i := 1) (N := some 4) (v := ?_) (a' := ?_) #[true, true, false, false, true, false, false, false, false] rfl rfl (take_ofW HT_.out HW_.out (by kernel_rfl)) (fun _ _ _ h => h) (Or.inl ⟨by rfl, ?_⟩) hHeld ?_ ?_
  rotate_left
  · rintro w' ⟨s0, s1, s2, s3, s4⟩
    go_simp
    with_reducible rfl
  rotate_left
  · simp only [Act.put, List.setIfInBounds_toArray, List.set_cons_zero, List.set_cons_succ, i64_w, i32_w]
    rfl
  refine take_ (i := 5) (N := some 8) (v := ?_) (a' := ?_) #[true, true, false, false, true, true, false, false, false] rfl rfl (take_ofW HT_.out HW_.out (by kernel_rfl)) (fun _ _ _ h => h) (Or.inl ⟨by rfl, ?_⟩) hHeld ?_ ?_
  rotate_left
  · rintro w' ⟨s0, s1, s2, s3, s4⟩
    go_simp
    with_reducible rfl
  rotate_left
  · simp only [Act.put, List.setIfInBounds_toArray, List.set_cons_zero, List.set_cons_succ, i64_w, i32_w]
    rfl
  refine one_ (i := 2) (N := some 5) #[true, true, true, false, true, true, false, false, false] rfl rfl (one_of HT_.out (by kernel_rfl)) (by decide) (fun K hK => ?_)
  refine goes_ Tryd.func51 (by kernel_rfl) rfl #[.int .i64 a0_4] (by rfl) rfl rfl (by (try simp only [List.map_toArray, List.map_cons, List.map_nil]); first | done | rfl | (simp only [List.length_drop, List.length_take]; rfl)) ?_
  refine (BigItoa.callsT w HT _ (by repeat (first | (with_reducible first | exact HB.out | apply below_alloc | apply pw_below_drewN | apply below_drew1 | refine below_set ?_ GE156.out) | exact HB.out)) a0_4 t157 A2.out).mono ?_
  rintro e w8 ⟨rfl, hb⟩
  refine ⟨_, rfl, ?_⟩
  replace BK156 := Kb_ BK156 hb
  replace HB := Ks_ HB hb
  (try clear hb)
  (try clear hb2)
  (try clear hk)
  (try clear hi)
  refine hK.out _ _ ⟨(blk_cell BK156.out 0).trans rfl, (blk_cell BK156.out 1).trans rfl, (blk_cell BK156.out 2).trans rfl, (blk_cell BK156.out 3).trans rfl, (blk_cell BK156.out 4).trans rfl⟩ (fun hHeld => ?_)
  clear hK K
  refine norm_ (a' := ?_) ?_ ?_
  rotate_left
  · show Act.put _ (some 5) _ = _
    simp only [Act.put, List.setIfInBounds_toArray, List.set_cons_zero, List.set_cons_succ, i64_w, i32_w]
    rfl
  refine pure_ (i := 3) (N := some 6) (v := ?_) (a' := ?_) #[true, true, true, true, true, true, false, false, false] rfl rfl (any_of HT_.out (by kernel_rfl)) (fun _ _ _ h => h) (Or.inl ⟨by rfl, ?_⟩) ?_ ?_
  rotate_left
  · intro w'
    go_simp
    with_reducible rfl
  rotate_left
  · simp only [Act.put, List.setIfInBounds_toArray, List.set_cons_zero, List.set_cons_succ, i64_w, i32_w]
    rfl
  refine one_ (i := 6) (N := some 9) #[true, true, true, true, true, true, true, false, false] rfl rfl (one_of HT_.out (by kernel_rfl)) (by decide) (fun K hK => ?_)
  refine goes_ Tryd.func52 (by kernel_rfl) rfl #[.agg #[.int .u64 a0_0, .int .u64 a0_1, .int .u64 a0_2, .int .u64 a0_3]] (by rfl) rfl rfl (by (try simp only [List.map_toArray, List.map_cons, List.map_nil]); first | done | rfl | (simp only [List.length_drop, List.length_take]; rfl)) ?_
  refine (BigText.callsT w HT _ (by repeat (first | (with_reducible first | exact HB.out | apply below_alloc | apply pw_below_drewN | apply below_drew1 | refine below_set ?_ GE156.out) | exact HB.out)) a0_0 a0_1 a0_2 a0_3 t158 A4.out).mono ?_
  rintro e w9 ⟨rfl, hb⟩
  refine ⟨_, rfl, ?_⟩
  replace BK156 := Kb_ BK156 hb
  replace HB := Ks_ HB hb
  (try clear hb)
  (try clear hb2)
  (try clear hk)
  (try clear hi)
  refine hK.out _ _ ⟨(blk_cell BK156.out 0).trans rfl, (blk_cell BK156.out 1).trans rfl, (blk_cell BK156.out 2).trans rfl, (blk_cell BK156.out 3).trans rfl, (blk_cell BK156.out 4).trans rfl⟩ (fun hHeld => ?_)
  clear hK K
  refine norm_ (a' := ?_) ?_ ?_
  rotate_left
  · show Act.put _ (some 9) _ = _
    simp only [Act.put, List.setIfInBounds_toArray, List.set_cons_zero, List.set_cons_succ, i64_w, i32_w]
    rfl
  refine pure_ (i := 7) (N := some 10) (v := ?_) (a' := ?_) #[true, true, true, true, true, true, true, true, false] rfl rfl (any_of HT_.out (by kernel_rfl)) (fun _ _ _ h => h) (Or.inl ⟨by rfl, ?_⟩) ?_ ?_
  rotate_left
  · intro w'
    go_simp
    with_reducible rfl
  rotate_left
  · simp only [Act.put, List.setIfInBounds_toArray, List.set_cons_zero, List.set_cons_succ, i64_w, i32_w]
    rfl
  refine pure_ (i := 8) (N := some 2) (v := ?_) (a' := ?_) #[true, true, true, true, true, true, true, true, true] rfl rfl (any_of HT_.out (by kernel_rfl)) (fun _ _ _ h => h) (Or.inl ⟨by rfl, ?_⟩) ?_ ?_
  rotate_left
  · intro w'
    go_simp
    with_reducible rfl
  rotate_left
  · simp only [Act.put, List.setIfInBounds_toArray, List.set_cons_zero, List.set_cons_succ, i64_w, i32_w]
    rfl
  refine done_ (done_of HT_.out (by kernel_rfl)) ?_
  try go_wp2
  go_ret
  exact ⟨by first | rfl | (simp [errW_none, errW_some] <;> rfl) | (simp [*, errW_none, errW_some] <;> rfl), by repeat (first | (with_reducible first | exact HB.out | apply below_alloc | apply pw_below_drewN | apply below_drew1 | refine below_set ?_ GE156.out) | exact HB.out)⟩
theorem BigStamp.callsT (w0 : World) (HT : BigText.Tab w0) (w : World) (hb : Below w0.heap.size w0 w) (a0_0 : Int) (a0_1 : Int) (a0_2 : Int) (a0_3 : Int) (a0_4 : Int) (r : ByteArray) (h : BigStamp.f a0_0 a0_1 a0_2 a0_3 a0_4 = some r) :
    Calls Tryd.prog 25 #[.agg #[.int .u64 a0_0, .int .u64 a0_1, .int .u64 a0_2, .int .u64 a0_3, .int .i64 a0_4]] w fun e w' => e = .returned (.string r) ∧ Below w.heap.size w w' := BigStamp.calls a0_0 a0_1 a0_2 a0_3 a0_4 r w (HT.below hb) h

end Go.Proofs.YtdlagefpglhdoaaDoor.Q

-- Written by this session's own driver (wip/hybrid.py) of the kit's printer; contracts marked FOREIGN are by hand.
namespace Go.Proofs.YtdlagefpglhdoaaDoor.Q
open Go.RowKit Go.Proofs.YtdlagefpglhdoaaDoorW.PrintWords Go.Proofs.YtdlagefpglhdoaaDoorW.PrintLast Go.Proofs.YtdlagefpglhdoaaDoorW.PrintMore
attribute [local go_sem] max2_int min2_int max_two min_two max_three min_three max_four min_four   -- for this text's walks alone
set_option linter.unusedVariables false
set_option linter.unusedSimpArgs false

/-! ### tenementref06_At: function 41 -/
-- FOREIGN: an index into an array that is reckoned
def tenementref06_At.f (a0_0 a0_1 a0_2 a0_3 n : Int) : Option Int := some (if n = 1 then a0_0 else if n = 2 then a0_1 else if n = 3 then a0_2 else if n = 4 then a0_3 else 0)
set_option maxHeartbeats 8000000 in
set_option maxRecDepth 100000 in
theorem tenementref06_At.calls (a0_0 a0_1 a0_2 a0_3 n : Int) (r : Int) (w : World) (h : tenementref06_At.f a0_0 a0_1 a0_2 a0_3 n = some r) :
    Calls Tryd.prog 41 #[.agg #[.int .u64 a0_0, .int .u64 a0_1, .int .u64 a0_2, .int .u64 a0_3], .int .i64 n] w fun e w' => e = .returned (.int .u64 r) ∧ Below w.heap.size w w' := by
  unfold tenementref06_At.f at h
  obtain rfl := Option.some.inj h
  clear h
  have hu := Tryd.underlying37
  by_cases c0 : n = 1
  · subst c0
    go_enter Tryd.func41, Tryd.ntmps41
    go_wp2
    go_ret
    exact ⟨by first | rfl | simp, by first | exact below_alloc (Below.refl _ _) _ | (repeat (first | exact Below.refl _ _ | apply below_alloc | apply pw_below_drewN | apply below_drew1))⟩
  by_cases c1 : n = 2
  · subst c1
    go_enter Tryd.func41, Tryd.ntmps41
    go_wp2
    go_ret
    exact ⟨by first | rfl | simp, by first | exact below_alloc (Below.refl _ _) _ | (repeat (first | exact Below.refl _ _ | apply below_alloc | apply pw_below_drewN | apply below_drew1))⟩
  by_cases c2 : n = 3
  · subst c2
    go_enter Tryd.func41, Tryd.ntmps41
    go_wp2
    go_ret
    exact ⟨by first | rfl | simp, by first | exact below_alloc (Below.refl _ _) _ | (repeat (first | exact Below.refl _ _ | apply below_alloc | apply pw_below_drewN | apply below_drew1))⟩
  by_cases c3 : n = 4
  · subst c3
    go_enter Tryd.func41, Tryd.ntmps41
    go_wp2
    go_ret
    exact ⟨by first | rfl | simp, by first | exact below_alloc (Below.refl _ _) _ | (repeat (first | exact Below.refl _ _ | apply below_alloc | apply pw_below_drewN | apply below_drew1))⟩
  rw [if_neg c0, if_neg c1, if_neg c2, if_neg c3]
  have b1 : (decide (1 ≤ n) = false ∧ decide (n < 1) = true) ∨ (decide (1 ≤ n) = true ∧ decide (n < 1) = false ∧ decide (n ≤ 4) = false ∧ decide (4 < n) = true) := by
    by_cases h : 1 ≤ n
    · exact Or.inr ⟨decide_eq_true h, decide_eq_false (by omega), decide_eq_false (by omega), decide_eq_true (by omega)⟩
    · exact Or.inl ⟨decide_eq_false h, decide_eq_true (by omega)⟩
  clear c0 c1 c2 c3
  rcases b1 with ⟨b1, b2⟩ | ⟨b1, b2, b3, b4⟩
  · go_enter Tryd.func41, Tryd.ntmps41
    go_wp2
    go_ret
    exact ⟨by first | rfl | simp, by first | exact below_alloc (Below.refl _ _) _ | (repeat (first | exact Below.refl _ _ | apply below_alloc | apply pw_below_drewN | apply below_drew1))⟩
  · go_enter Tryd.func41, Tryd.ntmps41
    go_wp2
    go_ret
    exact ⟨by first | rfl | simp, by first | exact below_alloc (Below.refl _ _) _ | (repeat (first | exact Below.refl _ _ | apply below_alloc | apply pw_below_drewN | apply below_drew1))⟩


end Go.Proofs.YtdlagefpglhdoaaDoor.Q

-- Written by this session's own driver (wip/hybrid.py) of the kit's printer; contracts marked FOREIGN are by hand.
namespace Go.Proofs.YtdlagefpglhdoaaDoor.Q
open Go.RowKit Go.Proofs.YtdlagefpglhdoaaDoorW.PrintWords Go.Proofs.YtdlagefpglhdoaaDoorW.PrintLast Go.Proofs.YtdlagefpglhdoaaDoorW.PrintMore
attribute [local go_sem] max2_int min2_int max_two min_two max_three min_three max_four min_four   -- for this text's walks alone
set_option linter.unusedVariables false
set_option linter.unusedSimpArgs false

/-! ### tenementref07_Stamp_N: function 20 -/
def tenementref07_Stamp_N.f (a0_0 : Int) (a0_1 : Int) (a0_2 : Int) (a0_3 : Int) (a0_4 : Int) : Option (Int) := (tenementref06_At.f a0_0 a0_1 a0_2 a0_3 a0_4).bind fun t216 => (some t216)
set_option maxHeartbeats 8000000 in
set_option maxRecDepth 100000 in
theorem tenementref07_Stamp_N.calls (a0_0 : Int) (a0_1 : Int) (a0_2 : Int) (a0_3 : Int) (a0_4 : Int) (r : Int) (w : World) (h : tenementref07_Stamp_N.f a0_0 a0_1 a0_2 a0_3 a0_4 = some r) :
    Calls Tryd.prog 20 #[.agg #[.int .u64 a0_0, .int .u64 a0_1, .int .u64 a0_2, .int .u64 a0_3, .int .i64 a0_4]] w fun e w' => e = .returned (.int .u64 r) ∧ Below w.heap.size w w' := by
  have hu39 := Tryd.underlying39
  have hu37 := Tryd.underlying37
  have HB := Aside0.mk (Below.refl w.heap.size w)
  have H : ((tenementref06_At.f a0_0 a0_1 a0_2 a0_3 a0_4).bind fun t216 => (some t216)) = some r := h
  clear h
  replace H := Option.bind_eq_some_iff.mp H
  obtain ⟨t216, A20, H⟩ := H
  replace H : (some t216) = some r := H
  have A2 := Aside0.mk A20
  clear A20
  obtain rfl := Option.some.inj H
  go_enter Tryd.func20, Tryd.ntmps20
  go_wp2_with (first | ((with_reducible refine gate_dst (N := 1) rfl ?_); refine box_event ?hg (N := 1) ?hd (cs := #[.int .u64 a0_0, .int .u64 a0_1, .int .u64 a0_2, .int .u64 a0_3, .int .i64 a0_4]) (t := 39) ?hr ?_; (case hd => rfl); (case hg => rfl); (case hr => first | (go_simp; done) | (go_simp; rfl)); intro gb215 hg w3 hbox hb; have BK215 := Aside0.mk (hbox); have GW215 := Kw_ HB hg; have GE215 := GW215; replace HB := Ks_ HB hb; clear hb hbox hg; have hcz4_0 : w3.cell? ⟨gb215, 0, none⟩ = some (.int .u64 a0_0) := (blk_cell BK215.out 0).trans rfl; have hcz4_1 : w3.cell? ⟨gb215, 1, none⟩ = some (.int .u64 a0_1) := (blk_cell BK215.out 1).trans rfl; have hcz4_2 : w3.cell? ⟨gb215, 2, none⟩ = some (.int .u64 a0_2) := (blk_cell BK215.out 2).trans rfl; have hcz4_3 : w3.cell? ⟨gb215, 3, none⟩ = some (.int .u64 a0_3) := (blk_cell BK215.out 3).trans rfl; have hcz4_4 : w3.cell? ⟨gb215, 4, none⟩ = some (.int .i64 a0_4) := (blk_cell BK215.out 4).trans rfl; have hfz4_0 := blk_frozen BK215.out 0; have hfz4_1 := blk_frozen BK215.out 1; have hfz4_2 := blk_frozen BK215.out 2; have hfz4_3 := blk_frozen BK215.out 3; have hfz4_4 := blk_frozen BK215.out 4) | ((with_reducible refine gate_callee (f := 41) rfl ?_); refine goesL_ (some 7) rfl rfl Tryd.func41 (by kernel_rfl) rfl #[.agg #[.int .u64 a0_0, .int .u64 a0_1, .int .u64 a0_2, .int .u64 a0_3], .int .i64 a0_4] rfl (by (try simp only [List.map_toArray, List.map_cons, List.map_nil]); first | done | rfl | (simp only [List.length_drop, List.length_take]; rfl)) ?_; (with_reducible refine (tenementref06_At.calls a0_0 a0_1 a0_2 a0_3 a0_4 t216 _ A2.out).mono ?_); rintro e w5 ⟨rfl, hb⟩; refine ⟨_, rfl, ?_⟩; replace BK215 := Kb_ BK215 hb; replace HB := Ks_ HB hb; (try clear hb); (try clear hb2); (try clear hk); (try clear hi)))
  go_ret
  exact ⟨by first | rfl | (simp [errW_none, errW_some] <;> rfl) | (simp [*, errW_none, errW_some] <;> rfl), by repeat (first | (with_reducible first | exact HB.out | apply below_alloc | apply pw_below_drewN | apply below_drew1 | refine below_set ?_ GE215.out) | exact HB.out)⟩

end Go.Proofs.YtdlagefpglhdoaaDoor.Q

-- Written by this session's own driver (wip/hybrid.py) of the kit's printer; contracts marked FOREIGN are by hand.
namespace Go.Proofs.YtdlagefpglhdoaaDoor.Q
open Go.RowKit Go.Proofs.YtdlagefpglhdoaaDoorW.PrintWords Go.Proofs.YtdlagefpglhdoaaDoorW.PrintLast Go.Proofs.YtdlagefpglhdoaaDoorW.PrintMore
attribute [local go_sem] max2_int min2_int max_two min_two max_three min_three max_four min_four   -- for this text's walks alone
set_option linter.unusedVariables false
set_option linter.unusedSimpArgs false

/-! ### tenementref06_Right: function 40 -/
def tenementref06_Right.l0 : Nat → Int → Int → Int → Int → Int → Option (Bool)
  | 0, _, _, _, _, _ => none
  | k + 1, x3, x218000, x218001, x218002, x218003 => if x3 < 4 then (if x3 = 0 then (if x218000 > 1152921504606846976 then (some false) else (tenementref06_Right.l0 k (wrap64 (x3 + 1)) x218000 x218001 x218002 x218003)) else (if x3 = 1 then (if x218001 > 1152921504606846976 then (some false) else (tenementref06_Right.l0 k (wrap64 (x3 + 1)) x218000 x218001 x218002 x218003)) else (if x3 = 2 then (if x218002 > 1152921504606846976 then (some false) else (tenementref06_Right.l0 k (wrap64 (x3 + 1)) x218000 x218001 x218002 x218003)) else (if x3 = 3 then (if x218003 > 1152921504606846976 then (some false) else (tenementref06_Right.l0 k (wrap64 (x3 + 1)) x218000 x218001 x218002 x218003)) else (none))))) else (some true)
def tenementref06_Right.f (k : Nat) (a0_0 : Int) (a0_1 : Int) (a0_2 : Int) (a0_3 : Int) : Option (Bool) := tenementref06_Right.l0 k 0 a0_0 a0_1 a0_2 a0_3
theorem tenementref06_Right.mono_l : ∀ k, (∀ y0 y1 y2 y3 y4, LeO (tenementref06_Right.l0 k y0 y1 y2 y3 y4) (tenementref06_Right.l0 (k + 1) y0 y1 y2 y3 y4))
  | 0 => fun _ _ _ _ _ r h => by simp [tenementref06_Right.l0] at h
  | k + 1 => by
    have ih0 := tenementref06_Right.mono_l k
    · intro y0 y1 y2 y3 y4
      unfold tenementref06_Right.l0
      repeat' first
      | (with_reducible exact ih0 _ _ _ _ _)
      | (with_reducible exact LeO.refl _)
      | (with_reducible exact LeO.none _)
      | (with_reducible refine LeO.ite ?_ ?_)
      | (with_reducible refine LeO.bind ?_ (fun _ => ?_))
      | exact ih0 _ _ _ _ _
      | exact LeO.none _
      | refine LeO.ite ?_ ?_
      | refine LeO.bind ?_ (fun _ => ?_)
theorem tenementref06_Right.mono : ∀ a0 a1 a2 a3 k, LeO (tenementref06_Right.f k a0 a1 a2 a3) (tenementref06_Right.f (k + 1) a0 a1 a2 a3) := by
  intro a0 a1 a2 a3 k
  have ih0 := tenementref06_Right.mono_l k
  unfold tenementref06_Right.f
  repeat' first
      | (with_reducible exact ih0 _ _ _ _ _)
      | (with_reducible exact LeO.refl _)
      | (with_reducible exact LeO.none _)
      | (with_reducible refine LeO.ite ?_ ?_)
      | (with_reducible refine LeO.bind ?_ (fun _ => ?_))
      | exact ih0 _ _ _ _ _
      | exact LeO.none _
      | refine LeO.ite ?_ ?_
      | refine LeO.bind ?_ (fun _ => ?_)
set_option maxHeartbeats 8000000 in
set_option maxRecDepth 100000 in
theorem tenementref06_Right.calls (k : Nat) (a0_0 : Int) (a0_1 : Int) (a0_2 : Int) (a0_3 : Int) (r : Bool) (w : World) (h : tenementref06_Right.f k a0_0 a0_1 a0_2 a0_3 = some r) :
    Calls Tryd.prog 40 #[.agg #[.int .u64 a0_0, .int .u64 a0_1, .int .u64 a0_2, .int .u64 a0_3]] w fun e w' => e = .returned (.bool r) ∧ Below w.heap.size w w' := by
  have hu37 := Tryd.underlying37
  have HB := Aside0.mk (Below.refl w.heap.size w)
  have H : (tenementref06_Right.l0 k 0 a0_0 a0_1 a0_2 a0_3) = some r := h
  clear h
  have H' := Aside0.mk H
  clear H
  go_enter Tryd.func40, Tryd.ntmps40
  go_wp2_with (first | ((with_reducible refine gate_dst (N := 1) rfl ?_); refine box_event ?hg (N := 1) ?hd (cs := #[.int .u64 a0_0, .int .u64 a0_1, .int .u64 a0_2, .int .u64 a0_3]) (t := 37) ?hr ?_; (case hd => rfl); (case hg => rfl); (case hr => first | (go_simp; done) | (go_simp; rfl)); intro gb217 hg w2 hbox hb; have BK217 := Aside0.mk (hbox); have GW217 := Kw_ HB hg; have GE217 := GW217; replace HB := Ks_ HB hb; clear hb hbox hg))
  go_loopg [3] k (fun kq v3 w' => ∃ (x3_1 : Int), v3 = .int .i64 x3_1 ∧ Aside0 (tenementref06_Right.l0 kq x3_1 a0_0 a0_1 a0_2 a0_3 = some r) ∧ Aside0 (kq ≤ k) ∧ Aside0 (w'.heap[gb217]? = some (.cells #[.int .u64 a0_0, .int .u64 a0_1, .int .u64 a0_2, .int .u64 a0_3] 37 (0, 0))) ∧ Aside0 (Below w.heap.size w w'))
  case atStart => exact ⟨(0), (by first | rfl | (simp; done) | (simp [*]; done)), H', ⟨Nat.le_refl _⟩, ⟨by (with_reducible repeat (first | refine blk_drewN ?_ _ | refine blk_drew ?_ | refine blk_alloc ?_ _)); exact BK217.out⟩, ⟨by repeat (first | (with_reducible first | exact HB.out | apply below_alloc | apply pw_below_drewN | apply below_drew1 | refine below_set ?_ GE217.out) | exact HB.out)⟩⟩
  case round =>
    clear H'
    try clear p2
    obtain ⟨x3_1, rfl, HA, HK1, BK217, HB⟩ := hrel
    cases gk with
    | zero => exact absurd HA.out (by simp [tenementref06_Right.l0])
    | succ k1 =>
      have H := HA.out
      clear HA
      simp only [tenementref06_Right.l0] at H
      by_cases c3 : x3_1 < 4
      rotate_left
      · rw [if_neg c3] at H
        have c3b0 : decide (x3_1 < 4) = false := decide_eq_false c3
        clear c3
        obtain rfl := Option.some.inj H
        go_wp2
        go_ret
        exact ⟨by first | rfl | (simp [errW_none, errW_some] <;> rfl) | (simp [*, errW_none, errW_some] <;> rfl), by repeat (first | (with_reducible first | exact HB.out | apply below_alloc | apply pw_below_drewN | apply below_drew1 | refine below_set ?_ GE217.out) | exact HB.out)⟩
      rw [if_pos c3] at H
      have c3b0 : decide (x3_1 < 4) = true := decide_eq_true c3
      clear c3
      by_cases c4 : x3_1 = 0
      · subst c4
        have H1 : (if a0_0 > 1152921504606846976 then (some false) else (tenementref06_Right.l0 k1 1 a0_0 a0_1 a0_2 a0_3)) = some r := by rw [if_pos rfl] at H; (try simp only [show wrap64 ((0 : Int) + 1) = 1 from by first | rfl | decide | (unfold wrap64; omega), show wrap64 ((0 : Int) - 1) = -1 from by first | rfl | decide | (unfold wrap64; omega)] at H); exact H
        clear H
        have H := H1
        clear H1
        by_cases c5 : a0_0 > 1152921504606846976
        · rw [if_pos c5] at H
          have c5b0 : decide (1152921504606846976 < a0_0) = true := decide_eq_true c5
          clear c5
          obtain rfl := Option.some.inj H
          have hcz6_0 : wr.cell? ⟨gb217, 0, none⟩ = some (.int .u64 a0_0) := (blk_cell BK217.out 0).trans rfl
          have hcz6_1 : wr.cell? ⟨gb217, 1, none⟩ = some (.int .u64 a0_1) := (blk_cell BK217.out 1).trans rfl
          have hcz6_2 : wr.cell? ⟨gb217, 2, none⟩ = some (.int .u64 a0_2) := (blk_cell BK217.out 2).trans rfl
          have hcz6_3 : wr.cell? ⟨gb217, 3, none⟩ = some (.int .u64 a0_3) := (blk_cell BK217.out 3).trans rfl
          have hfz6_0 := blk_frozen BK217.out 0
          have hfz6_1 := blk_frozen BK217.out 1
          have hfz6_2 := blk_frozen BK217.out 2
          have hfz6_3 := blk_frozen BK217.out 3
          go_wp2
          go_ret
          exact ⟨by first | rfl | (simp [errW_none, errW_some] <;> rfl) | (simp [*, errW_none, errW_some] <;> rfl), by repeat (first | (with_reducible first | exact HB.out | apply below_alloc | apply pw_below_drewN | apply below_drew1 | refine below_set ?_ GE217.out) | exact HB.out)⟩
        rw [if_neg c5] at H
        have c5b0 : decide (1152921504606846976 < a0_0) = false := decide_eq_false c5
        clear c5
        have H' := Aside0.mk H
        clear H
        have hcz7_0 : wr.cell? ⟨gb217, 0, none⟩ = some (.int .u64 a0_0) := (blk_cell BK217.out 0).trans rfl
        have hcz7_1 : wr.cell? ⟨gb217, 1, none⟩ = some (.int .u64 a0_1) := (blk_cell BK217.out 1).trans rfl
        have hcz7_2 : wr.cell? ⟨gb217, 2, none⟩ = some (.int .u64 a0_2) := (blk_cell BK217.out 2).trans rfl
        have hcz7_3 : wr.cell? ⟨gb217, 3, none⟩ = some (.int .u64 a0_3) := (blk_cell BK217.out 3).trans rfl
        have hfz7_0 := blk_frozen BK217.out 0
        have hfz7_1 := blk_frozen BK217.out 1
        have hfz7_2 := blk_frozen BK217.out 2
        have hfz7_3 := blk_frozen BK217.out 3
        go_wp2
        go_roundg k1
        case measure => have := HK1.out; omega
        case rel => exact ⟨(1), (by first | rfl | (simp; done) | (simp [*]; done)), H', ⟨by have := HK1.out; omega⟩, ⟨by (with_reducible repeat (first | refine blk_drewN ?_ _ | refine blk_drew ?_ | refine blk_alloc ?_ _)); exact BK217.out⟩, ⟨by repeat (first | (with_reducible first | exact HB.out | apply below_alloc | apply pw_below_drewN | apply below_drew1 | refine below_set ?_ GE217.out) | exact HB.out)⟩⟩
      rw [if_neg c4] at H
      by_cases c8 : x3_1 = 1
      · subst c8
        have H1 : (if a0_1 > 1152921504606846976 then (some false) else (tenementref06_Right.l0 k1 2 a0_0 a0_1 a0_2 a0_3)) = some r := by rw [if_pos rfl] at H; (try simp only [show wrap64 ((1 : Int) + 1) = 2 from by first | rfl | decide | (unfold wrap64; omega), show wrap64 ((1 : Int) - 1) = 0 from by first | rfl | decide | (unfold wrap64; omega)] at H); exact H
        clear H
        have H := H1
        clear H1
        by_cases c9 : a0_1 > 1152921504606846976
        · rw [if_pos c9] at H
          have c9b0 : decide (1152921504606846976 < a0_1) = true := decide_eq_true c9
          clear c9
          obtain rfl := Option.some.inj H
          have hcz10_0 : wr.cell? ⟨gb217, 0, none⟩ = some (.int .u64 a0_0) := (blk_cell BK217.out 0).trans rfl
          have hcz10_1 : wr.cell? ⟨gb217, 1, none⟩ = some (.int .u64 a0_1) := (blk_cell BK217.out 1).trans rfl
          have hcz10_2 : wr.cell? ⟨gb217, 2, none⟩ = some (.int .u64 a0_2) := (blk_cell BK217.out 2).trans rfl
          have hcz10_3 : wr.cell? ⟨gb217, 3, none⟩ = some (.int .u64 a0_3) := (blk_cell BK217.out 3).trans rfl
          have hfz10_0 := blk_frozen BK217.out 0
          have hfz10_1 := blk_frozen BK217.out 1
          have hfz10_2 := blk_frozen BK217.out 2
          have hfz10_3 := blk_frozen BK217.out 3
          go_wp2
          go_ret
          exact ⟨by first | rfl | (simp [errW_none, errW_some] <;> rfl) | (simp [*, errW_none, errW_some] <;> rfl), by repeat (first | (with_reducible first | exact HB.out | apply below_alloc | apply pw_below_drewN | apply below_drew1 | refine below_set ?_ GE217.out) | exact HB.out)⟩
        rw [if_neg c9] at H
        have c9b0 : decide (1152921504606846976 < a0_1) = false := decide_eq_false c9
        clear c9
        have H' := Aside0.mk H
        clear H
        have hcz11_0 : wr.cell? ⟨gb217, 0, none⟩ = some (.int .u64 a0_0) := (blk_cell BK217.out 0).trans rfl
        have hcz11_1 : wr.cell? ⟨gb217, 1, none⟩ = some (.int .u64 a0_1) := (blk_cell BK217.out 1).trans rfl
        have hcz11_2 : wr.cell? ⟨gb217, 2, none⟩ = some (.int .u64 a0_2) := (blk_cell BK217.out 2).trans rfl
        have hcz11_3 : wr.cell? ⟨gb217, 3, none⟩ = some (.int .u64 a0_3) := (blk_cell BK217.out 3).trans rfl
        have hfz11_0 := blk_frozen BK217.out 0
        have hfz11_1 := blk_frozen BK217.out 1
        have hfz11_2 := blk_frozen BK217.out 2
        have hfz11_3 := blk_frozen BK217.out 3
        go_wp2
        go_roundg k1
        case measure => have := HK1.out; omega
        case rel => exact ⟨(2), (by first | rfl | (simp; done) | (simp [*]; done)), H', ⟨by have := HK1.out; omega⟩, ⟨by (with_reducible repeat (first | refine blk_drewN ?_ _ | refine blk_drew ?_ | refine blk_alloc ?_ _)); exact BK217.out⟩, ⟨by repeat (first | (with_reducible first | exact HB.out | apply below_alloc | apply pw_below_drewN | apply below_drew1 | refine below_set ?_ GE217.out) | exact HB.out)⟩⟩
      rw [if_neg c8] at H
      by_cases c12 : x3_1 = 2
      · subst c12
        have H1 : (if a0_2 > 1152921504606846976 then (some false) else (tenementref06_Right.l0 k1 3 a0_0 a0_1 a0_2 a0_3)) = some r := by rw [if_pos rfl] at H; (try simp only [show wrap64 ((2 : Int) + 1) = 3 from by first | rfl | decide | (unfold wrap64; omega), show wrap64 ((2 : Int) - 1) = 1 from by first | rfl | decide | (unfold wrap64; omega)] at H); exact H
        clear H
        have H := H1
        clear H1
        by_cases c13 : a0_2 > 1152921504606846976
        · rw [if_pos c13] at H
          have c13b0 : decide (1152921504606846976 < a0_2) = true := decide_eq_true c13
          clear c13
          obtain rfl := Option.some.inj H
          have hcz14_0 : wr.cell? ⟨gb217, 0, none⟩ = some (.int .u64 a0_0) := (blk_cell BK217.out 0).trans rfl
          have hcz14_1 : wr.cell? ⟨gb217, 1, none⟩ = some (.int .u64 a0_1) := (blk_cell BK217.out 1).trans rfl
          have hcz14_2 : wr.cell? ⟨gb217, 2, none⟩ = some (.int .u64 a0_2) := (blk_cell BK217.out 2).trans rfl
          have hcz14_3 : wr.cell? ⟨gb217, 3, none⟩ = some (.int .u64 a0_3) := (blk_cell BK217.out 3).trans rfl
          have hfz14_0 := blk_frozen BK217.out 0
          have hfz14_1 := blk_frozen BK217.out 1
          have hfz14_2 := blk_frozen BK217.out 2
          have hfz14_3 := blk_frozen BK217.out 3
          go_wp2
          go_ret
          exact ⟨by first | rfl | (simp [errW_none, errW_some] <;> rfl) | (simp [*, errW_none, errW_some] <;> rfl), by repeat (first | (with_reducible first | exact HB.out | apply below_alloc | apply pw_below_drewN | apply below_drew1 | refine below_set ?_ GE217.out) | exact HB.out)⟩
        rw [if_neg c13] at H
        have c13b0 : decide (1152921504606846976 < a0_2) = false := decide_eq_false c13
        clear c13
        have H' := Aside0.mk H
        clear H
        have hcz15_0 : wr.cell? ⟨gb217, 0, none⟩ = some (.int .u64 a0_0) := (blk_cell BK217.out 0).trans rfl
        have hcz15_1 : wr.cell? ⟨gb217, 1, none⟩ = some (.int .u64 a0_1) := (blk_cell BK217.out 1).trans rfl
        have hcz15_2 : wr.cell? ⟨gb217, 2, none⟩ = some (.int .u64 a0_2) := (blk_cell BK217.out 2).trans rfl
        have hcz15_3 : wr.cell? ⟨gb217, 3, none⟩ = some (.int .u64 a0_3) := (blk_cell BK217.out 3).trans rfl
        have hfz15_0 := blk_frozen BK217.out 0
        have hfz15_1 := blk_frozen BK217.out 1
        have hfz15_2 := blk_frozen BK217.out 2
        have hfz15_3 := blk_frozen BK217.out 3
        go_wp2
        go_roundg k1
        case measure => have := HK1.out; omega
        case rel => exact ⟨(3), (by first | rfl | (simp; done) | (simp [*]; done)), H', ⟨by have := HK1.out; omega⟩, ⟨by (with_reducible repeat (first | refine blk_drewN ?_ _ | refine blk_drew ?_ | refine blk_alloc ?_ _)); exact BK217.out⟩, ⟨by repeat (first | (with_reducible first | exact HB.out | apply below_alloc | apply pw_below_drewN | apply below_drew1 | refine below_set ?_ GE217.out) | exact HB.out)⟩⟩
      rw [if_neg c12] at H
      by_cases c16 : x3_1 = 3
      rotate_left
      · rw [if_neg c16] at H
        exact absurd H (by simp)
      subst c16
      have H1 : (if a0_3 > 1152921504606846976 then (some false) else (tenementref06_Right.l0 k1 4 a0_0 a0_1 a0_2 a0_3)) = some r := by rw [if_pos rfl] at H; (try simp only [show wrap64 ((3 : Int) + 1) = 4 from by first | rfl | decide | (unfold wrap64; omega), show wrap64 ((3 : Int) - 1) = 2 from by first | rfl | decide | (unfold wrap64; omega)] at H); exact H
      clear H
      have H := H1
      clear H1
      by_cases c17 : a0_3 > 1152921504606846976
      · rw [if_pos c17] at H
        have c17b0 : decide (1152921504606846976 < a0_3) = true := decide_eq_true c17
        clear c17
        obtain rfl := Option.some.inj H
        have hcz18_0 : wr.cell? ⟨gb217, 0, none⟩ = some (.int .u64 a0_0) := (blk_cell BK217.out 0).trans rfl
        have hcz18_1 : wr.cell? ⟨gb217, 1, none⟩ = some (.int .u64 a0_1) := (blk_cell BK217.out 1).trans rfl
        have hcz18_2 : wr.cell? ⟨gb217, 2, none⟩ = some (.int .u64 a0_2) := (blk_cell BK217.out 2).trans rfl
        have hcz18_3 : wr.cell? ⟨gb217, 3, none⟩ = some (.int .u64 a0_3) := (blk_cell BK217.out 3).trans rfl
        have hfz18_0 := blk_frozen BK217.out 0
        have hfz18_1 := blk_frozen BK217.out 1
        have hfz18_2 := blk_frozen BK217.out 2
        have hfz18_3 := blk_frozen BK217.out 3
        go_wp2
        go_ret
        exact ⟨by first | rfl | (simp [errW_none, errW_some] <;> rfl) | (simp [*, errW_none, errW_some] <;> rfl), by repeat (first | (with_reducible first | exact HB.out | apply below_alloc | apply pw_below_drewN | apply below_drew1 | refine below_set ?_ GE217.out) | exact HB.out)⟩
      rw [if_neg c17] at H
      have c17b0 : decide (1152921504606846976 < a0_3) = false := decide_eq_false c17
      clear c17
      have H' := Aside0.mk H
      clear H
      have hcz19_0 : wr.cell? ⟨gb217, 0, none⟩ = some (.int .u64 a0_0) := (blk_cell BK217.out 0).trans rfl
      have hcz19_1 : wr.cell? ⟨gb217, 1, none⟩ = some (.int .u64 a0_1) := (blk_cell BK217.out 1).trans rfl
      have hcz19_2 : wr.cell? ⟨gb217, 2, none⟩ = some (.int .u64 a0_2) := (blk_cell BK217.out 2).trans rfl
      have hcz19_3 : wr.cell? ⟨gb217, 3, none⟩ = some (.int .u64 a0_3) := (blk_cell BK217.out 3).trans rfl
      have hfz19_0 := blk_frozen BK217.out 0
      have hfz19_1 := blk_frozen BK217.out 1
      have hfz19_2 := blk_frozen BK217.out 2
      have hfz19_3 := blk_frozen BK217.out 3
      go_wp2
      go_roundg k1
      case measure => have := HK1.out; omega
      case rel => exact ⟨(4), (by first | rfl | (simp; done) | (simp [*]; done)), H', ⟨by have := HK1.out; omega⟩, ⟨by (with_reducible repeat (first | refine blk_drewN ?_ _ | refine blk_drew ?_ | refine blk_alloc ?_ _)); exact BK217.out⟩, ⟨by repeat (first | (with_reducible first | exact HB.out | apply below_alloc | apply pw_below_drewN | apply below_drew1 | refine below_set ?_ GE217.out) | exact HB.out)⟩⟩

end Go.Proofs.YtdlagefpglhdoaaDoor.Q

-- Written by this session's own driver (wip/hybrid.py) of the kit's printer; contracts marked FOREIGN are by hand.
namespace Go.Proofs.YtdlagefpglhdoaaDoor.Q
open Go.RowKit Go.Proofs.YtdlagefpglhdoaaDoorW.PrintWords Go.Proofs.YtdlagefpglhdoaaDoorW.PrintLast Go.Proofs.YtdlagefpglhdoaaDoorW.PrintMore
attribute [local go_sem] max2_int min2_int max_two min_two max_three min_three max_four min_four   -- for this text's walks alone
set_option linter.unusedVariables false
set_option linter.unusedSimpArgs false

/-! ### tenementref07_Right: function 18 -/
def tenementref07_Right.f (k : Nat) (a0_0 : Int) (a0_1 : Int) (a0_2 : Int) (a0_3 : Int) (a0_4 : Int) : Option (Bool) := (tenementref06_Right.f k a0_0 a0_1 a0_2 a0_3).bind fun t219 => (if t219 = true then ((tenementref07_Stamp_N.f a0_0 a0_1 a0_2 a0_3 a0_4).bind fun t220 => (some (decide (t220 ≥ 1)))) else (some false))
theorem tenementref07_Right.mono : ∀ a0 a1 a2 a3 a4 k, LeO (tenementref07_Right.f k a0 a1 a2 a3 a4) (tenementref07_Right.f (k + 1) a0 a1 a2 a3 a4) := by
  intro a0 a1 a2 a3 a4 k
  unfold tenementref07_Right.f
  repeat' first
      | (with_reducible exact tenementref06_Right.mono _ _ _ _ _)
      | (with_reducible exact LeO.refl _)
      | (with_reducible exact LeO.none _)
      | (with_reducible refine LeO.ite ?_ ?_)
      | (with_reducible refine LeO.bind ?_ (fun _ => ?_))
      | exact tenementref06_Right.mono _ _ _ _ _
      | exact LeO.none _
      | refine LeO.ite ?_ ?_
      | refine LeO.bind ?_ (fun _ => ?_)
set_option maxHeartbeats 8000000 in
set_option maxRecDepth 100000 in
theorem tenementref07_Right.calls (k : Nat) (a0_0 : Int) (a0_1 : Int) (a0_2 : Int) (a0_3 : Int) (a0_4 : Int) (r : Bool) (w : World) (h : tenementref07_Right.f k a0_0 a0_1 a0_2 a0_3 a0_4 = some r) :
    Calls Tryd.prog 18 #[.agg #[.int .u64 a0_0, .int .u64 a0_1, .int .u64 a0_2, .int .u64 a0_3, .int .i64 a0_4]] w fun e w' => e = .returned (.bool r) ∧ Below w.heap.size w w' := by
  have hu39 := Tryd.underlying39
  have hu37 := Tryd.underlying37
  have HB := Aside0.mk (Below.refl w.heap.size w)
  have H : ((tenementref06_Right.f k a0_0 a0_1 a0_2 a0_3).bind fun t219 => (if t219 = true then ((tenementref07_Stamp_N.f a0_0 a0_1 a0_2 a0_3 a0_4).bind fun t220 => (some (decide (t220 ≥ 1)))) else (some false))) = some r := h
  clear h
  replace H := Option.bind_eq_some_iff.mp H
  obtain ⟨t219, A20, H⟩ := H
  replace H : (if t219 = true then ((tenementref07_Stamp_N.f a0_0 a0_1 a0_2 a0_3 a0_4).bind fun t220 => (some (decide (t220 ≥ 1)))) else (some false)) = some r := H
  have A2 := Aside0.mk A20
  clear A20
  by_cases c3 : t219 = true
  rotate_left
  · replace c3 := Bool.eq_false_iff.mpr c3
    subst c3
    have H1 : (some false) = some r := by rw [if_neg (show ¬ (false = true) by decide)] at H; exact H
    clear H
    have H := H1
    clear H1
    obtain rfl := Option.some.inj H
    go_enter Tryd.func18, Tryd.ntmps18
    go_wp2_with (first | ((with_reducible refine gate_dst (N := 1) rfl ?_); refine box_event ?hg (N := 1) ?hd (cs := #[.int .u64 a0_0, .int .u64 a0_1, .int .u64 a0_2, .int .u64 a0_3, .int .i64 a0_4]) (t := 39) ?hr ?_; (case hd => rfl); (case hg => rfl); (case hr => first | (go_simp; done) | (go_simp; rfl)); intro gb218 hg w10 hbox hb; have BK218 := Aside0.mk (hbox); have GW218 := Kw_ HB hg; have GE218 := GW218; replace HB := Ks_ HB hb; clear hb hbox hg; have hcz11_0 : w10.cell? ⟨gb218, 0, none⟩ = some (.int .u64 a0_0) := (blk_cell BK218.out 0).trans rfl; have hcz11_1 : w10.cell? ⟨gb218, 1, none⟩ = some (.int .u64 a0_1) := (blk_cell BK218.out 1).trans rfl; have hcz11_2 : w10.cell? ⟨gb218, 2, none⟩ = some (.int .u64 a0_2) := (blk_cell BK218.out 2).trans rfl; have hcz11_3 : w10.cell? ⟨gb218, 3, none⟩ = some (.int .u64 a0_3) := (blk_cell BK218.out 3).trans rfl; have hcz11_4 : w10.cell? ⟨gb218, 4, none⟩ = some (.int .i64 a0_4) := (blk_cell BK218.out 4).trans rfl; have hfz11_0 := blk_frozen BK218.out 0; have hfz11_1 := blk_frozen BK218.out 1; have hfz11_2 := blk_frozen BK218.out 2; have hfz11_3 := blk_frozen BK218.out 3; have hfz11_4 := blk_frozen BK218.out 4) | ((with_reducible refine gate_callee (f := 40) rfl ?_); refine goesL_ (some 5) rfl rfl Tryd.func40 (by kernel_rfl) rfl #[.agg #[.int .u64 a0_0, .int .u64 a0_1, .int .u64 a0_2, .int .u64 a0_3]] rfl (by (try simp only [List.map_toArray, List.map_cons, List.map_nil]); first | done | rfl | (simp only [List.length_drop, List.length_take]; rfl)) ?_; (with_reducible refine (tenementref06_Right.calls k a0_0 a0_1 a0_2 a0_3 false _ A2.out).mono ?_); rintro e w12 ⟨rfl, hb⟩; refine ⟨_, rfl, ?_⟩; replace BK218 := Kb_ BK218 hb; replace HB := Ks_ HB hb; (try clear hb); (try clear hb2); (try clear hk); (try clear hi)))
    go_ret
    exact ⟨by first | rfl | (simp [errW_none, errW_some] <;> rfl) | (simp [*, errW_none, errW_some] <;> rfl), by repeat (first | (with_reducible first | exact HB.out | apply below_alloc | apply pw_below_drewN | apply below_drew1 | refine below_set ?_ GE218.out) | exact HB.out)⟩
  subst c3
  have H1 : ((tenementref07_Stamp_N.f a0_0 a0_1 a0_2 a0_3 a0_4).bind fun t220 => (some (decide (t220 ≥ 1)))) = some r := by rw [if_pos rfl] at H; exact H
  clear H
  have H := H1
  clear H1
  replace H := Option.bind_eq_some_iff.mp H
  obtain ⟨t220, A40, H⟩ := H
  replace H : (some (decide (t220 ≥ 1))) = some r := H
  have A4 := Aside0.mk A40
  clear A40
  obtain rfl := Option.some.inj H
  go_enter Tryd.func18, Tryd.ntmps18
  go_wp2_with (first | ((with_reducible refine gate_dst (N := 1) rfl ?_); refine box_event ?hg (N := 1) ?hd (cs := #[.int .u64 a0_0, .int .u64 a0_1, .int .u64 a0_2, .int .u64 a0_3, .int .i64 a0_4]) (t := 39) ?hr ?_; (case hd => rfl); (case hg => rfl); (case hr => first | (go_simp; done) | (go_simp; rfl)); intro gb218 hg w5 hbox hb; have BK218 := Aside0.mk (hbox); have GW218 := Kw_ HB hg; have GE218 := GW218; replace HB := Ks_ HB hb; clear hb hbox hg; have hcz6_0 : w5.cell? ⟨gb218, 0, none⟩ = some (.int .u64 a0_0) := (blk_cell BK218.out 0).trans rfl; have hcz6_1 : w5.cell? ⟨gb218, 1, none⟩ = some (.int .u64 a0_1) := (blk_cell BK218.out 1).trans rfl; have hcz6_2 : w5.cell? ⟨gb218, 2, none⟩ = some (.int .u64 a0_2) := (blk_cell BK218.out 2).trans rfl; have hcz6_3 : w5.cell? ⟨gb218, 3, none⟩ = some (.int .u64 a0_3) := (blk_cell BK218.out 3).trans rfl; have hcz6_4 : w5.cell? ⟨gb218, 4, none⟩ = some (.int .i64 a0_4) := (blk_cell BK218.out 4).trans rfl; have hfz6_0 := blk_frozen BK218.out 0; have hfz6_1 := blk_frozen BK218.out 1; have hfz6_2 := blk_frozen BK218.out 2; have hfz6_3 := blk_frozen BK218.out 3; have hfz6_4 := blk_frozen BK218.out 4) | ((with_reducible refine gate_callee (f := 40) rfl ?_); refine goesL_ (some 5) rfl rfl Tryd.func40 (by kernel_rfl) rfl #[.agg #[.int .u64 a0_0, .int .u64 a0_1, .int .u64 a0_2, .int .u64 a0_3]] rfl (by (try simp only [List.map_toArray, List.map_cons, List.map_nil]); first | done | rfl | (simp only [List.length_drop, List.length_take]; rfl)) ?_; (with_reducible refine (tenementref06_Right.calls k a0_0 a0_1 a0_2 a0_3 true _ A2.out).mono ?_); rintro e w7 ⟨rfl, hb⟩; refine ⟨_, rfl, ?_⟩; replace BK218 := Kb_ BK218 hb; replace HB := Ks_ HB hb; (try clear hb); (try clear hb2); (try clear hk); (try clear hi); have hcz8_0 : w7.cell? ⟨gb218, 0, none⟩ = some (.int .u64 a0_0) := (blk_cell BK218.out 0).trans rfl; have hcz8_1 : w7.cell? ⟨gb218, 1, none⟩ = some (.int .u64 a0_1) := (blk_cell BK218.out 1).trans rfl; have hcz8_2 : w7.cell? ⟨gb218, 2, none⟩ = some (.int .u64 a0_2) := (blk_cell BK218.out 2).trans rfl; have hcz8_3 : w7.cell? ⟨gb218, 3, none⟩ = some (.int .u64 a0_3) := (blk_cell BK218.out 3).trans rfl; have hcz8_4 : w7.cell? ⟨gb218, 4, none⟩ = some (.int .i64 a0_4) := (blk_cell BK218.out 4).trans rfl; have hfz8_0 := blk_frozen BK218.out 0; have hfz8_1 := blk_frozen BK218.out 1; have hfz8_2 := blk_frozen BK218.out 2; have hfz8_3 := blk_frozen BK218.out 3; have hfz8_4 := blk_frozen BK218.out 4) | (go_at_call 20; (with_reducible refine (tenementref07_Stamp_N.calls a0_0 a0_1 a0_2 a0_3 a0_4 t220 _ A4.out).mono ?_); rintro e w9 ⟨rfl, hb⟩; replace BK218 := Kb_ BK218 hb; replace HB := Ks_ HB hb; (try clear hb); (try clear hb2); (try clear hk); (try clear hi)))
  go_ret
  exact ⟨by first | rfl | (simp [errW_none, errW_some] <;> rfl) | (simp [*, errW_none, errW_some] <;> rfl), by repeat (first | (with_reducible first | exact HB.out | apply below_alloc | apply pw_below_drewN | apply below_drew1 | refine below_set ?_ GE218.out) | exact HB.out)⟩

end Go.Proofs.YtdlagefpglhdoaaDoor.Q

-- Written by this session's own driver (wip/hybrid.py) of the kit's printer; contracts marked FOREIGN are by hand.
namespace Go.Proofs.YtdlagefpglhdoaaDoor.Q
open Go.RowKit Go.Proofs.YtdlagefpglhdoaaDoorW.PrintWords Go.Proofs.YtdlagefpglhdoaaDoorW.PrintLast Go.Proofs.YtdlagefpglhdoaaDoorW.PrintMore
attribute [local go_sem] max2_int min2_int max_two min_two max_three min_three max_four min_four   -- for this text's walks alone
set_option linter.unusedVariables false
set_option linter.unusedSimpArgs false

/-! ### tenementref02_Number: function 37 -/
mutual
def tenementref02_Number.j0 : Nat → Int → Int → Bool → Option (ByteArray)
  | 0, _, _, _ => none
  | k + 1, x0, x1, x12 => if x12 = true then (some (⟨#[]⟩ : ByteArray)) else (tenementref02_Number.l0 k x0 ([] : List Int) (wrap64 (x1 - 1)))
def tenementref02_Number.l0 : Nat → Int → List Int → Int → Option (ByteArray)
  | 0, _, _, _ => none
  | k + 1, x0, x5, x6 => if x6 ≥ 0 then (if 0 ≤ (wrap64 (8 * x6)) then (if x5.length < 140737488355328 then (tenementref02_Number.l0 k x0 (x5 ++ [(shr .u64 x0 (wrap64 (8 * x6))) % 256]) (wrap64 (x6 - 1))) else (none)) else (none)) else (some (strOfNums x5))
end
def tenementref02_Number.f (k : Nat) (a0 : Int) (a1 : Int) : Option (ByteArray) := if a1 < 1 then (tenementref02_Number.j0 k a0 a1 true) else (tenementref02_Number.j0 k a0 a1 (decide (a1 > 8)))
theorem tenementref02_Number.mono_l : ∀ k, (∀ y0 y1 y2, LeO (tenementref02_Number.j0 k y0 y1 y2) (tenementref02_Number.j0 (k + 1) y0 y1 y2)) ∧ (∀ y0 y1 y2, LeO (tenementref02_Number.l0 k y0 y1 y2) (tenementref02_Number.l0 (k + 1) y0 y1 y2))
  | 0 => ⟨fun _ _ _ r h => by simp [tenementref02_Number.j0] at h, fun _ _ _ r h => by simp [tenementref02_Number.l0] at h⟩
  | k + 1 => by
    obtain ⟨ih0, ih1⟩ := tenementref02_Number.mono_l k
    refine ⟨?_, ?_⟩
    · intro y0 y1 y2
      unfold tenementref02_Number.j0
      repeat' first
      | (with_reducible exact ih0 _ _ _)
      | (with_reducible exact ih1 _ _ _)
      | (with_reducible exact LeO.refl _)
      | (with_reducible exact LeO.none _)
      | (with_reducible refine LeO.ite ?_ ?_)
      | (with_reducible refine LeO.bind ?_ (fun _ => ?_))
      | exact ih0 _ _ _
      | exact ih1 _ _ _
      | exact LeO.none _
      | refine LeO.ite ?_ ?_
      | refine LeO.bind ?_ (fun _ => ?_)
    · intro y0 y1 y2
      unfold tenementref02_Number.l0
      repeat' first
      | (with_reducible exact ih0 _ _ _)
      | (with_reducible exact ih1 _ _ _)
      | (with_reducible exact LeO.refl _)
      | (with_reducible exact LeO.none _)
      | (with_reducible refine LeO.ite ?_ ?_)
      | (with_reducible refine LeO.bind ?_ (fun _ => ?_))
      | exact ih0 _ _ _
      | exact ih1 _ _ _
      | exact LeO.none _
      | refine LeO.ite ?_ ?_
      | refine LeO.bind ?_ (fun _ => ?_)
theorem tenementref02_Number.mono : ∀ a0 a1 k, LeO (tenementref02_Number.f k a0 a1) (tenementref02_Number.f (k + 1) a0 a1) := by
  intro a0 a1 k
  obtain ⟨ih0, ih1⟩ := tenementref02_Number.mono_l k
  unfold tenementref02_Number.f
  repeat' first
      | (with_reducible exact ih0 _ _ _)
      | (with_reducible exact ih1 _ _ _)
      | (with_reducible exact LeO.refl _)
      | (with_reducible exact LeO.none _)
      | (with_reducible refine LeO.ite ?_ ?_)
      | (with_reducible refine LeO.bind ?_ (fun _ => ?_))
      | exact ih0 _ _ _
      | exact ih1 _ _ _
      | exact LeO.none _
      | refine LeO.ite ?_ ?_
      | refine LeO.bind ?_ (fun _ => ?_)
set_option maxHeartbeats 8000000 in
set_option maxRecDepth 100000 in
theorem tenementref02_Number.calls (k : Nat) (a0 : Int) (a1 : Int) (r : ByteArray) (w : World) (h : tenementref02_Number.f k a0 a1 = some r) :
    Calls Tryd.prog 37 #[.int .u64 a0, .int .i64 a1] w fun e w' => e = .returned (.string r) ∧ Below w.heap.size w w' := by
  have HB := Aside0.mk (Below.refl w.heap.size w)
  have H : (if a1 < 1 then (tenementref02_Number.j0 k a0 a1 true) else (tenementref02_Number.j0 k a0 a1 (decide (a1 > 8)))) = some r := h
  clear h
  have HC3 := Aside0.mk H
  clear H
  go_enter Tryd.func37, Tryd.ntmps37
  go_upto_region 1 with (fail)
  go_cut [12] (fun v12 wc => ∃ (kq : Nat) (x12_2 : Bool), v12 = .bool x12_2 ∧ Aside0 (tenementref02_Number.j0 kq a0 a1 x12_2 = some r) ∧ Aside0 (kq ≤ k) ∧ Aside0 (Below w.heap.size w wc))
  case first =>
    have H := HC3.out
    clear HC3
    by_cases c4 : a1 < 1
    · rw [if_pos c4] at H
      have c4b0 : decide (a1 < 1) = true := decide_eq_true c4
      clear c4
      (first | rw [c4b0] | (simp only [i64_w, i32_w]; rw [c4b0]) | skip)
      have H' := Aside0.mk H
      clear H
      go_wp2
      go_meet
      case rel => exact ⟨_, (true), (by first | rfl | (simp; done) | (simp [*]; done)), H', ⟨by first | omega | exact Nat.le_refl _⟩, ⟨by repeat (first | (with_reducible first | exact HB.out | apply below_alloc | apply pw_below_drewN | apply below_drew1) | exact HB.out)⟩⟩
    rw [if_neg c4] at H
    have c4b0 : decide (a1 < 1) = false := decide_eq_false c4
    clear c4
    (first | rw [c4b0] | (simp only [i64_w, i32_w]; rw [c4b0]) | skip)
    have H' := Aside0.mk H
    clear H
    go_wp2
    go_meet
    case rel => exact ⟨_, (decide (a1 > 8)), (by first | rfl | (simp; done) | (simp [*]; done)), H', ⟨by first | omega | exact Nat.le_refl _⟩, ⟨by repeat (first | (with_reducible first | exact HB.out | apply below_alloc | apply pw_below_drewN | apply below_drew1) | exact HB.out)⟩⟩
  case rest =>
    clear HC3
    try clear p2
    try clear c3
    try clear c4
    try clear c4b0
    obtain ⟨kq, x12_2, rfl, HA, HJ2, HB⟩ := hcut
    cases kq with
    | zero => exact absurd HA.out (by simp [tenementref02_Number.j0])
    | succ kj2 =>
      have H := HA.out
      clear HA
      simp only [tenementref02_Number.j0] at H
      by_cases c5 : x12_2 = true
      · subst c5
        have H1 : (some (⟨#[]⟩ : ByteArray)) = some r := by rw [if_pos rfl] at H; exact H
        clear H
        have H := H1
        clear H1
        obtain rfl := Option.some.inj H
        go_wp2
        go_ret
        exact ⟨by first | rfl | (simp [errW_none, errW_some] <;> rfl) | (simp [*, errW_none, errW_some] <;> rfl), by repeat (first | (with_reducible first | exact HB.out | apply below_alloc | apply pw_below_drewN | apply below_drew1) | exact HB.out)⟩
      replace c5 := Bool.eq_false_iff.mpr c5
      subst c5
      have H1 : (tenementref02_Number.l0 kj2 a0 ([] : List Int) (wrap64 (a1 - 1))) = some r := by rw [if_neg (show ¬ (false = true) by decide)] at H; exact H
      clear H
      have H := H1
      clear H1
      have H' := Aside0.mk H
      clear H
      go_wp2
      go_loopg [5, 6] kj2 (fun kq v5 v6 w' => ∃ (x5_2 : List Int) (x6_2 : Int), v6 = .int .i64 x6_2 ∧ Aside0 (tenementref02_Number.l0 kq a0 x5_2 x6_2 = some r) ∧ Aside0 (kq ≤ kj2) ∧ Aside0 (Kd.R (Kd.int .u8) 5 w' w.heap.size (fun _ => True) v5 x5_2) ∧ Aside0 (Below w.heap.size w w'))
      case atStart => exact ⟨(([] : List Int)), (wrap64 (a1 - 1)), (by first | rfl | (simp; done) | (simp [*]; done)), H', ⟨Nat.le_refl _⟩, ⟨by first | exact Kd.R_nil _ _ _ _ _ | exact Kd.N_nil _ _ _ _ _ | exact Kd.V_nil _ _ _ _ _ | exact Kd.Q_nil _ _ _ _ _ | exact Kd.S_nil _ _ _ _ _⟩, ⟨by repeat (first | (with_reducible first | exact HB.out | apply below_alloc | apply pw_below_drewN | apply below_drew1) | exact HB.out)⟩⟩
      case round =>
        clear H'
        try clear p2
        try clear c3
        try clear c4
        try clear c4b0
        try clear c5
        try clear p2
        obtain ⟨x5_2, x6_2, rfl, HA, HK2, HO_5, HB⟩ := hrel
        cases gk with
        | zero => exact absurd HA.out (by simp [tenementref02_Number.l0])
        | succ k2 =>
          have H := HA.out
          clear HA
          simp only [tenementref02_Number.l0] at H
          by_cases c6 : x6_2 ≥ 0
          rotate_left
          · rw [if_neg c6] at H
            have c6b0 : decide (0 ≤ x6_2) = false := decide_eq_false c6
            clear c6
            obtain rfl := Option.some.inj H
            have hcv12 := own_string (P := Tryd.prog) Tryd.underlying88 Tryd.underlying5 Tryd.underlying9 (Kd.own_of_R HO_5.out)
            go_wp2
            go_ret
            exact ⟨by first | rfl | (simp [errW_none, errW_some] <;> rfl) | (simp [*, errW_none, errW_some] <;> rfl), by repeat (first | (with_reducible first | exact HB.out | apply below_alloc | apply pw_below_drewN | apply below_drew1) | exact HB.out)⟩
          rw [if_pos c6] at H
          have c6b0 : decide (0 ≤ x6_2) = true := decide_eq_true c6
          clear c6
          obtain ⟨ji7, hji7⟩ : ∃ j_ : Int, (wrap64 (8 * x6_2)) = j_ := ⟨_, rfl⟩
          replace H : (if 0 ≤ (ji7) then (if x5_2.length < 140737488355328 then (tenementref02_Number.l0 k2 a0 (x5_2 ++ [(shr .u64 a0 (ji7)) % 256]) (wrap64 (x6_2 - 1))) else (none)) else (none)) = some r := by first | (rw [hji7] at H; exact H) | (simp only [hji7] at H ⊢; exact H)
          have hji7w : (IntKind.i64.wrap (8 * x6_2)) = ji7 := (i64_w _).trans hji7
          by_cases c8 : 0 ≤ (ji7)
          rotate_left
          · rw [if_neg c8] at H
            exact absurd H (by simp)
          rw [if_pos c8] at H
          have c8b0 := eq_true c8
          have c8b1 : decide (0 ≤ (ji7)) = true := decide_eq_true c8
          clear c8
          obtain ⟨ji9, hji9⟩ : ∃ j_ : Int, (shr .u64 a0 (ji7)) = j_ := ⟨_, rfl⟩
          replace H : (if x5_2.length < 140737488355328 then (tenementref02_Number.l0 k2 a0 (x5_2 ++ [(ji9) % 256]) (wrap64 (x6_2 - 1))) else (none)) = some r := by first | (rw [hji9] at H; exact H) | (simp only [hji9] at H ⊢; exact H)
          have hji9_ : (a0 / 2 ^ min (ji7).toNat 64) = ji9 := hji9
          have hji9z : (ji7) ≤ 64 → (a0 / 2 ^ (ji7).toNat) = ji9 := shr_small hji9
          by_cases c10 : x5_2.length < 140737488355328
          rotate_left
          · rw [if_neg c10] at H
            exact absurd H (by simp)
          rw [if_pos c10] at H
          have LMc10 := Aside0.mk c10
          clear c10
          obtain ⟨y221, hy221⟩ : ∃ y_ : List Int, y_ = (x5_2 ++ [(ji9) % 256]) := ⟨_, rfl⟩
          replace H : (tenementref02_Number.l0 k2 a0 y221 (wrap64 (x6_2 - 1))) = some r := by first | (rw [hy221]; with_reducible exact H) | (have H2_ := (Option.bind_some _ _).symm.trans H; rw [hy221]; with_reducible exact H2_) | (have H2_ := (Option.bind_some _ _).symm.trans H; with_reducible exact H2_) | with_reducible exact H | (rw [hy221]; exact H) | exact H
          have Ny221 := Aside0.mk hy221
          clear hy221
          have H' := Aside0.mk H
          clear H
          go_wp2_with (first | ((with_reducible refine gate_builtin (b := .append) (xs := #[.tmp 19, .tmp 25]) rfl ?_); at_builtin; refine Kd.R_append (Kd.int .u8) (w0 := w) w.heap.size rfl (.tmp 19) (.tmp 25) 88 5 (.int .u8 0) 1 rfl Tryd.underlying88 info5 rfl (by decide) (by omega) u5 x5_2 ((ji9) % 256) [.int .u8 ((ji9) % 256)] (fun _ => True) (fun _ => False) rfl rfl ?aP (fun _ hk => hk.elim) ?aF ?aO ?aB ?aS ?aL ?_; (case aP => exact rfl); (case aB => exact (by repeat (first | (with_reducible first | exact HB.out | apply below_alloc | apply pw_below_drewN | apply below_drew1) | exact HB.out))); (case aF => exact (fun _ _ => trivial)); (case aO => exact (by (with_reducible repeat (first | apply Kd.R_alloc | apply Kd.R_drewN | apply Kd.R_drew)); exact HO_5.out)); (case aS => exact (below_size (by repeat (first | (with_reducible first | exact HB.out | apply below_alloc | apply pw_below_drewN | apply below_drew1) | exact HB.out)))); (case aL => have := LMc10.out; omega); intro v222 w11 ho hb hg hat; rw [← Ny221.out] at ho; have HO223 := Aside0.mk (ho); replace HB := Aside0.mk (hb); clear HO_5; clear ho hb hg hat))
          go_roundg k2
          case measure => have := HJ2.out; have := HK2.out; omega
          case rel => exact ⟨(y221), (wrap64 (x6_2 - 1)), (by first | rfl | (simp; done) | (simp [*]; done)), H', ⟨by have := HJ2.out; have := HK2.out; omega⟩, ⟨by (with_reducible repeat (first | apply Kd.R_alloc | apply Kd.R_drewN | apply Kd.R_drew)); exact HO223.out⟩, ⟨by repeat (first | (with_reducible first | exact HB.out | apply below_alloc | apply pw_below_drewN | apply below_drew1) | exact HB.out)⟩⟩

end Go.Proofs.YtdlagefpglhdoaaDoor.Q
