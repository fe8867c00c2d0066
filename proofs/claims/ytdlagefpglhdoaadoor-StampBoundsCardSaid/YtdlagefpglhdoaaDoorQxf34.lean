-- Written by this session's own driver (wip/hybrid.py) of the kit's printer; contracts marked FOREIGN are by hand.
import Derived.Test.YtdlagefpglhdoaaDoorQx0
namespace Go.Proofs.YtdlagefpglhdoaaDoor.Q
open Go.RowKit Go.Proofs.YtdlagefpglhdoaaDoorW.PrintWords Go.Proofs.YtdlagefpglhdoaaDoorW.PrintLast Go.Proofs.YtdlagefpglhdoaaDoorW.PrintMore
attribute [local go_sem] max2_int min2_int max_two min_two max_three min_three max_four min_four   -- for this text's walks alone
set_option linter.unusedVariables false
set_option linter.unusedSimpArgs false

/-! ### vec_Meet: function 34 -/
-- FOREIGN: an array by place, a closure
def vec_Meet.f (a0_0 a0_1 a0_2 a0_3 a1_0 a1_1 a1_2 a1_3 : Int) : Option (Int × Int × Int × Int) := some (mn a0_0 a1_0, mn a0_1 a1_1, mn a0_2 a1_2, mn a0_3 a1_3)
theorem vec_Meet.pick (a b : Int) (w : World) :
    Calls Tryd.prog 62 #[.int .u64 a, .int .u64 b] w fun e w' => e = .returned (.int .u64 (mn a b)) ∧ w' = w := by
  go_enter Tryd.func62, Tryd.ntmps62
  go_wp2
  all_goals (go_ret; refine ⟨?_, rfl⟩; unfold mn; first | rfl | (by_cases h2 : b < a <;> first | (exfalso; omega) | (rw [if_pos h2]; rfl) | (rw [if_neg h2]; rfl) | (exfalso; omega) | (simp_all; done) | (simp_all; omega)))
theorem vec_Meet.boxes3 (w : World) (xs ys zs : Array Value) (t : TypeId) (W : World) (h : ((w.alloc (.cells xs t)).alloc (.cells ys t)).alloc (.cells zs t) = W) :
    W.heap[w.heap.size]? = some (.cells xs t (0,0)) ∧ W.heap[w.heap.size+1]? = some (.cells ys t (0,0)) ∧ W.heap[w.heap.size+1+1]? = some (.cells zs t (0,0)) ∧ Below w.heap.size w W := by
  subst h
  have s1 : (w.alloc (.cells xs t)).heap.size = w.heap.size + 1 := by simp [World.alloc, -World.alloc_eq]
  have s2 : ((w.alloc (.cells xs t)).alloc (.cells ys t)).heap.size = w.heap.size + 1 + 1 := by simp [World.alloc, -World.alloc_eq]
  refine ⟨blk_alloc (blk_alloc (blk_new _ _) _) _, ?_, ?_, below_alloc (below_alloc (below_alloc (Below.refl _ _) _) _) _⟩
  · rw [← s1]; exact blk_alloc (blk_new _ _) _
  · rw [← s2]; exact blk_new _ _
set_option maxHeartbeats 8000000 in
set_option maxRecDepth 100000 in
theorem vec_Meet.each (a0_0 a0_1 a0_2 a0_3 a1_0 a1_1 a1_2 a1_3 : Int) (w : World) :
    Calls Tryd.prog 60 #[.agg #[.int .u64 a0_0, .int .u64 a0_1, .int .u64 a0_2, .int .u64 a0_3], .agg #[.int .u64 a1_0, .int .u64 a1_1, .int .u64 a1_2, .int .u64 a1_3], .func (.func 62) #[] #[]] w fun e w' => e = .returned (.agg #[.int .u64 (mn a0_0 a1_0), .int .u64 (mn a0_1 a1_1), .int .u64 (mn a0_2 a1_2), .int .u64 (mn a0_3 a1_3)]) ∧ Below w.heap.size w w' := by
  have hu := Tryd.underlying24
  have hu2 := Tryd.underlying22
  go_enter Tryd.func60, Tryd.ntmps60
  go_wp2
  generalize hW : (((w.alloc (Obj.cells #[.int .u64 a0_0, .int .u64 a0_1, .int .u64 a0_2, .int .u64 a0_3] 24)).alloc
   (Obj.cells #[.int .u64 a1_0, .int .u64 a1_1, .int .u64 a1_2, .int .u64 a1_3] 24)).alloc (Obj.cells _ 24)) = W0
  obtain ⟨hA, hB, hC, HB⟩ := vec_Meet.boxes3 _ _ _ _ _ _ hW
  replace HB := Aside0.mk HB
  clear hW
  obtain ⟨B0, hB0⟩ : ∃ B0, B0 = w.heap.size := ⟨_, rfl⟩
  obtain ⟨B1, hB1⟩ : ∃ B1, B1 = w.heap.size + 1 := ⟨_, rfl⟩
  obtain ⟨B2, hB2⟩ : ∃ B2, B2 = w.heap.size + 1 + 1 := ⟨_, rfl⟩
  rw [← hB2, ← hB1, ← hB0]
  rw [← hB0] at hA
  rw [← hB1] at hB
  rw [← hB2] at hC
  have g01 : B0 ≠ B1 := by omega
  have g02 : B0 ≠ B2 := by omega
  have GB := Aside0.mk (show w.heap.size ≤ B0 by omega)
  have GC := Aside0.mk (show w.heap.size ≤ B2 by omega)
  clear hB0 hB1 hB2
  replace hA := Aside0.mk hA
  replace hB := Aside0.mk hB
  replace hC := Aside0.mk hC
  refine wp_loop_rounds 5 ?_
  rw [rounds_succ]
  have ca := (blk_cell hA.out 0).trans rfl
  have cb := (blk_cell hB.out 0).trans rfl
  go_wp2
  go_still_tail 9, (by kernel_rfl)
  still_call (vec_Meet.pick _ _ _)
  refine wpStill_nil ?_
  change wpList _ _ _ _ _ W0.drew
  clear ca cb
  have fa : W0.drew.frozen? ⟨B0, 0, none⟩ = false := blk_frozen hA.out 0
  have ca : W0.drew.cell? ⟨B0, 0, none⟩ = some (.int .u64 a0_0) := blk_cell hA.out 0
  go_wp2
  have hA1 := Aside0.mk (blk_drew (blk_put hA.out 0 (.int .u64 (mn a0_0 a1_0)) (cs' := #[.int .u64 (mn a0_0 a1_0), .int .u64 a0_1, .int .u64 a0_2, .int .u64 a0_3]) rfl))
  have hB1 := Aside0.mk (blk_drew (blk_far hB.out (p := ⟨B0, 0, none⟩) (Ne.symm g01) (.int .u64 (mn a0_0 a1_0))))
  have hC1 := Aside0.mk (blk_drew (blk_far hC.out (p := ⟨B0, 0, none⟩) (Ne.symm g02) (.int .u64 (mn a0_0 a1_0))))
  have HB1 := Aside0.mk (below_drew1 (below_set (j := 0) (v := .int .u64 (mn a0_0 a1_0)) HB.out GB.out))
  clear hA hB hC HB ca fa
  generalize (W0.setCell ⟨B0, 0, none⟩ (.int .u64 (mn a0_0 a1_0))).drew = W1 at *
  clear W0
  have hA := hA1
  have hB := hB1
  have hC := hC1
  have HB := HB1
  clear hA1 hB1 hC1 HB1
  rw [rounds_succ]
  have ca := (blk_cell hA.out 1).trans rfl
  have cb := (blk_cell hB.out 1).trans rfl
  go_wp2
  go_still_tail 9, (by kernel_rfl)
  still_call (vec_Meet.pick _ _ _)
  refine wpStill_nil ?_
  change wpList _ _ _ _ _ W1.drew
  clear ca cb
  have fa : W1.drew.frozen? ⟨B0, 1, none⟩ = false := blk_frozen hA.out 1
  have ca : W1.drew.cell? ⟨B0, 1, none⟩ = some (.int .u64 a0_1) := blk_cell hA.out 1
  go_wp2
  have hA1 := Aside0.mk (blk_drew (blk_put hA.out 1 (.int .u64 (mn a0_1 a1_1)) (cs' := #[.int .u64 (mn a0_0 a1_0), .int .u64 (mn a0_1 a1_1), .int .u64 a0_2, .int .u64 a0_3]) rfl))
  have hB1 := Aside0.mk (blk_drew (blk_far hB.out (p := ⟨B0, 1, none⟩) (Ne.symm g01) (.int .u64 (mn a0_1 a1_1))))
  have hC1 := Aside0.mk (blk_drew (blk_far hC.out (p := ⟨B0, 1, none⟩) (Ne.symm g02) (.int .u64 (mn a0_1 a1_1))))
  have HB1 := Aside0.mk (below_drew1 (below_set (j := 1) (v := .int .u64 (mn a0_1 a1_1)) HB.out GB.out))
  clear hA hB hC HB ca fa
  generalize (W1.setCell ⟨B0, 1, none⟩ (.int .u64 (mn a0_1 a1_1))).drew = W2 at *
  clear W1
  have hA := hA1
  have hB := hB1
  have hC := hC1
  have HB := HB1
  clear hA1 hB1 hC1 HB1
  rw [rounds_succ]
  have ca := (blk_cell hA.out 2).trans rfl
  have cb := (blk_cell hB.out 2).trans rfl
  go_wp2
  go_still_tail 9, (by kernel_rfl)
  still_call (vec_Meet.pick _ _ _)
  refine wpStill_nil ?_
  change wpList _ _ _ _ _ W2.drew
  clear ca cb
  have fa : W2.drew.frozen? ⟨B0, 2, none⟩ = false := blk_frozen hA.out 2
  have ca : W2.drew.cell? ⟨B0, 2, none⟩ = some (.int .u64 a0_2) := blk_cell hA.out 2
  go_wp2
  have hA1 := Aside0.mk (blk_drew (blk_put hA.out 2 (.int .u64 (mn a0_2 a1_2)) (cs' := #[.int .u64 (mn a0_0 a1_0), .int .u64 (mn a0_1 a1_1), .int .u64 (mn a0_2 a1_2), .int .u64 a0_3]) rfl))
  have hB1 := Aside0.mk (blk_drew (blk_far hB.out (p := ⟨B0, 2, none⟩) (Ne.symm g01) (.int .u64 (mn a0_2 a1_2))))
  have hC1 := Aside0.mk (blk_drew (blk_far hC.out (p := ⟨B0, 2, none⟩) (Ne.symm g02) (.int .u64 (mn a0_2 a1_2))))
  have HB1 := Aside0.mk (below_drew1 (below_set (j := 2) (v := .int .u64 (mn a0_2 a1_2)) HB.out GB.out))
  clear hA hB hC HB ca fa
  generalize (W2.setCell ⟨B0, 2, none⟩ (.int .u64 (mn a0_2 a1_2))).drew = W3 at *
  clear W2
  have hA := hA1
  have hB := hB1
  have hC := hC1
  have HB := HB1
  clear hA1 hB1 hC1 HB1
  rw [rounds_succ]
  have ca := (blk_cell hA.out 3).trans rfl
  have cb := (blk_cell hB.out 3).trans rfl
  go_wp2
  go_still_tail 9, (by kernel_rfl)
  still_call (vec_Meet.pick _ _ _)
  refine wpStill_nil ?_
  change wpList _ _ _ _ _ W3.drew
  clear ca cb
  have fa : W3.drew.frozen? ⟨B0, 3, none⟩ = false := blk_frozen hA.out 3
  have ca : W3.drew.cell? ⟨B0, 3, none⟩ = some (.int .u64 a0_3) := blk_cell hA.out 3
  go_wp2
  have hA1 := Aside0.mk (blk_drew (blk_put hA.out 3 (.int .u64 (mn a0_3 a1_3)) (cs' := #[.int .u64 (mn a0_0 a1_0), .int .u64 (mn a0_1 a1_1), .int .u64 (mn a0_2 a1_2), .int .u64 (mn a0_3 a1_3)]) rfl))
  have hB1 := Aside0.mk (blk_drew (blk_far hB.out (p := ⟨B0, 3, none⟩) (Ne.symm g01) (.int .u64 (mn a0_3 a1_3))))
  have hC1 := Aside0.mk (blk_drew (blk_far hC.out (p := ⟨B0, 3, none⟩) (Ne.symm g02) (.int .u64 (mn a0_3 a1_3))))
  have HB1 := Aside0.mk (below_drew1 (below_set (j := 3) (v := .int .u64 (mn a0_3 a1_3)) HB.out GB.out))
  clear hA hB hC HB ca fa
  generalize (W3.setCell ⟨B0, 3, none⟩ (.int .u64 (mn a0_3 a1_3))).drew = W4 at *
  clear W3
  have hA := hA1
  have hB := hB1
  have hC := hC1
  have HB := HB1
  clear hA1 hB1 hC1 HB1
  rw [rounds_succ]
  have c0 := (blk_cell hA.out 0).trans rfl
  have c1 := (blk_cell hA.out 1).trans rfl
  have c2 := (blk_cell hA.out 2).trans rfl
  have c3 := (blk_cell hA.out 3).trans rfl
  have f0 := blk_frozen hC.out 0
  have f1 := blk_frozen hC.out 1
  have f2 := blk_frozen hC.out 2
  have f3 := blk_frozen hC.out 3
  have d0 := (blk_cell hC.out 0).trans rfl
  have d1 := (blk_cell hC.out 1).trans rfl
  have d2 := (blk_cell hC.out 2).trans rfl
  have d3 := (blk_cell hC.out 3).trans rfl
  go_wp2
  clear c0 c1 c2 c3 d0 d1 d2 d3 f0 f1 f2 f3
  have hC1 := Aside0.mk (blk_put (blk_put (blk_put (blk_put hC.out 0 (.int .u64 (mn a0_0 a1_0)) rfl) 1 (.int .u64 (mn a0_1 a1_1)) rfl) 2 (.int .u64 (mn a0_2 a1_2)) rfl) 3 (.int .u64 (mn a0_3 a1_3)) (cs' := #[.int .u64 (mn a0_0 a1_0), .int .u64 (mn a0_1 a1_1), .int .u64 (mn a0_2 a1_2), .int .u64 (mn a0_3 a1_3)]) rfl)
  have HB1 := Aside0.mk (below_set (j := 3) (v := .int .u64 (mn a0_3 a1_3)) (below_set (j := 2) (v := .int .u64 (mn a0_2 a1_2)) (below_set (j := 1) (v := .int .u64 (mn a0_1 a1_1)) (below_set (j := 0) (v := .int .u64 (mn a0_0 a1_0)) HB.out GC.out) GC.out) GC.out) GC.out)
  clear hA hB hC HB
  generalize (((W4.setCell ⟨B2, 0, none⟩ (.int .u64 (mn a0_0 a1_0))).setCell ⟨B2, 1, none⟩ (.int .u64 (mn a0_1 a1_1))).setCell ⟨B2, 2, none⟩ (.int .u64 (mn a0_2 a1_2))).setCell ⟨B2, 3, none⟩ (.int .u64 (mn a0_3 a1_3)) = W5 at *
  clear W4
  have d0 := (blk_cell hC1.out 0).trans rfl
  have d1 := (blk_cell hC1.out 1).trans rfl
  have d2 := (blk_cell hC1.out 2).trans rfl
  have d3 := (blk_cell hC1.out 3).trans rfl
  refine bodyPost_ret (v := .agg #[.int .u64 (mn a0_0 a1_0), .int .u64 (mn a0_1 a1_1), .int .u64 (mn a0_2 a1_2), .int .u64 (mn a0_3 a1_3)]) (by simp [results, Tryd.results60, go_sem, hu, hu2, d0, d1, d2, d3]) rfl ⟨rfl, HB1.out⟩
theorem vec_Meet.calls (a0_0 a0_1 a0_2 a0_3 a1_0 a1_1 a1_2 a1_3 r1 r2 r3 r4 : Int) (w : World) (h : vec_Meet.f a0_0 a0_1 a0_2 a0_3 a1_0 a1_1 a1_2 a1_3 = some (r1, r2, r3, r4)) :
    Calls Tryd.prog 34 #[.agg #[.int .u64 a0_0, .int .u64 a0_1, .int .u64 a0_2, .int .u64 a0_3], .agg #[.int .u64 a1_0, .int .u64 a1_1, .int .u64 a1_2, .int .u64 a1_3]] w fun e w' => e = .returned (.agg #[.int .u64 r1, .int .u64 r2, .int .u64 r3, .int .u64 r4]) ∧ Below w.heap.size w w' := by
  simp only [vec_Meet.f, Option.some.injEq, Prod.mk.injEq] at h
  obtain ⟨rfl, rfl, rfl, rfl⟩ := h
  have hmf : ∀ (fn : Fn) (first cap : Array Value) (w : World), (Instr.makeFunc fn first cap).run Tryd.prog w = .ok (.func fn first cap) w := fun _ _ _ _ => rfl
  go_enter Tryd.func34, Tryd.ntmps34
  go_wp2_with (go_at_call 60; refine (vec_Meet.each _ _ _ _ _ _ _ _ _).mono ?_; rintro e w1 ⟨rfl, hb⟩; have hX := vec_Meet.boxes3 w #[.int .u64 a0_0, .int .u64 a0_1, .int .u64 a0_2, .int .u64 a0_3] #[.int .u64 a1_0, .int .u64 a1_1, .int .u64 a1_2, .int .u64 a1_3] #[.int .u64 0, .int .u64 0, .int .u64 0, .int .u64 0] 24 _ rfl; have hC := Aside0.mk (blk_below hX.2.2.1 hb); have HB := Aside0.mk (below_step hX.2.2.2 hb); clear hX; clear hb; have f0 := blk_frozen hC.out 0; have f1 := blk_frozen hC.out 1; have f2 := blk_frozen hC.out 2; have f3 := blk_frozen hC.out 3; have d0 := (blk_cell hC.out 0).trans rfl; have d1 := (blk_cell hC.out 1).trans rfl; have d2 := (blk_cell hC.out 2).trans rfl; have d3 := (blk_cell hC.out 3).trans rfl)
  clear d0 d1 d2 d3 f0 f1 f2 f3
  have GC : w.heap.size ≤ w.heap.size + 1 + 1 := by omega
  have hC1 := Aside0.mk (blk_put (blk_put (blk_put (blk_put hC.out 0 (.int .u64 (mn a0_0 a1_0)) rfl) 1 (.int .u64 (mn a0_1 a1_1)) rfl) 2 (.int .u64 (mn a0_2 a1_2)) rfl) 3 (.int .u64 (mn a0_3 a1_3)) (cs' := #[.int .u64 (mn a0_0 a1_0), .int .u64 (mn a0_1 a1_1), .int .u64 (mn a0_2 a1_2), .int .u64 (mn a0_3 a1_3)]) rfl)
  have HB1 := Aside0.mk (below_set (j := 3) (v := .int .u64 (mn a0_3 a1_3)) (below_set (j := 2) (v := .int .u64 (mn a0_2 a1_2)) (below_set (j := 1) (v := .int .u64 (mn a0_1 a1_1)) (below_set (j := 0) (v := .int .u64 (mn a0_0 a1_0)) HB.out GC) GC) GC) GC)
  clear hC HB
  generalize (((w1.setCell ⟨w.heap.size + 1 + 1, 0, none⟩ (.int .u64 (mn a0_0 a1_0))).setCell ⟨w.heap.size + 1 + 1, 1, none⟩ (.int .u64 (mn a0_1 a1_1))).setCell ⟨w.heap.size + 1 + 1, 2, none⟩ (.int .u64 (mn a0_2 a1_2))).setCell ⟨w.heap.size + 1 + 1, 3, none⟩ (.int .u64 (mn a0_3 a1_3)) = W5 at *
  have hu := Tryd.underlying24
  have hu2 := Tryd.underlying22
  have d0 := (blk_cell hC1.out 0).trans rfl
  have d1 := (blk_cell hC1.out 1).trans rfl
  have d2 := (blk_cell hC1.out 2).trans rfl
  have d3 := (blk_cell hC1.out 3).trans rfl
  refine bodyPost_ret (v := .agg #[.int .u64 (mn a0_0 a1_0), .int .u64 (mn a0_1 a1_1), .int .u64 (mn a0_2 a1_2), .int .u64 (mn a0_3 a1_3)]) (by simp [results, Tryd.results34, go_sem, hu, hu2, d0, d1, d2, d3]) rfl ⟨rfl, HB1.out⟩


end Go.Proofs.YtdlagefpglhdoaaDoor.Q
