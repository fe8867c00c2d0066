import Derived.Test.YtplgbkobpanbfaaQx0
import Derived.Test.YtplgbkobpanbfaaGGateReads0
-- Written by this session's own driver (wip/hybrid.py) of the kit's printer; contracts marked FOREIGN are by hand.
namespace Go.Proofs.Ytplgbkobpanbfaa.Q
open Go.RowKit Go.Proofs.YtplgbkobpanbfaaW.PrintWords Go.Proofs.YtplgbkobpanbfaaW.PrintLast Go.Proofs.YtplgbkobpanbfaaW.PrintMore
attribute [local go_sem] max2_int min2_int max_two min_two max_three min_three max_four min_four   -- for this text's walks alone
set_option linter.unusedVariables false
set_option linter.unusedSimpArgs false

theorem eqA28 (d : Nat) (w : World) (x0 y0 : Int) (x1 y1 : Int) (x2 y2 : Int) (x3 y3 : Int) :
    (Op.equalIn (d + 2) 28 (.agg #[.int .u64 x0, .int .u64 x1, .int .u64 x2, .int .u64 x3]) (.agg #[.int .u64 y0, .int .u64 y1, .int .u64 y2, .int .u64 y3])).run Try.prog w = .ok (x0 == y0 && (x1 == y1 && (x2 == y2 && (x3 == y3)))) w := by
  have hu := Try.underlying28
  have hs : (sizeOf 26).run Try.prog w = .ok 1 w := by go_simp
  have hp : ∀ (xs : Array Value) (i : Nat) (v : Value), xs[i]? = some v → (part 26 xs i).run Try.prog w = .ok v w := by
    intro xs i v h
    unfold part
    go_simp
  have hE : ∀ a b : Int, (Op.equalIn (d + 1) 26 (.int .u64 a) (.int .u64 b)).run Try.prog w = .ok (a == b) w := by intro a b; go_simp
  obtain ⟨X, hX⟩ : ∃ X, X = (#[.int .u64 x0, .int .u64 x1, .int .u64 x2, .int .u64 x3] : Array Value) := ⟨_, rfl⟩
  obtain ⟨Y, hY⟩ : ∃ Y, Y = (#[.int .u64 y0, .int .u64 y1, .int .u64 y2, .int .u64 y3] : Array Value) := ⟨_, rfl⟩
  rw [← hX, ← hY]
  have a0 : (part 26 X 0).run Try.prog w = .ok (.int .u64 x0) w := by rw [hX]; exact hp _ 0 _ rfl
  have b0 : (part 26 Y 0).run Try.prog w = .ok (.int .u64 y0) w := by rw [hY]; exact hp _ 0 _ rfl
  have a1 : (part 26 X 1).run Try.prog w = .ok (.int .u64 x1) w := by rw [hX]; exact hp _ 1 _ rfl
  have b1 : (part 26 Y 1).run Try.prog w = .ok (.int .u64 y1) w := by rw [hY]; exact hp _ 1 _ rfl
  have a2 : (part 26 X 2).run Try.prog w = .ok (.int .u64 x2) w := by rw [hX]; exact hp _ 2 _ rfl
  have b2 : (part 26 Y 2).run Try.prog w = .ok (.int .u64 y2) w := by rw [hY]; exact hp _ 2 _ rfl
  have a3 : (part 26 X 3).run Try.prog w = .ok (.int .u64 x3) w := by rw [hX]; exact hp _ 3 _ rfl
  have b3 : (part 26 Y 3).run Try.prog w = .ok (.int .u64 y3) w := by rw [hY]; exact hp _ 3 _ rfl
  clear hX hY hp
  obtain ⟨m, hm⟩ : ∃ m, d + 1 = m := ⟨_, rfl⟩
  rw [hm] at hE
  rw [show d + 2 = m + 1 by omega]
  clear hm
  unfold Op.equalIn
  simp only [Sem.run_bind, run_underlying hu, Result.andThen_ok, hs, Nat.mul_one]
  have hfor : ∀ (f : Nat → Option Bool × Unit → Sem (ForInStep (Option Bool × Unit))), forIn (m := Sem) [:4] ((none, ()) : Option Bool × Unit) f = forIn (m := Sem) [0, 1, 2, 3] ((none, ()) : Option Bool × Unit) f := by
    intro f
    simp
    rfl
  rw [hfor]
  simp only [List.forIn_cons, List.forIn_nil, Sem.run_bind, a0, b0, a1, b1, a2, b2, a3, b3, Result.andThen_ok, hE]
  by_cases h0 : x0 = y0 <;> by_cases h1 : x1 = y1 <;> by_cases h2 : x2 = y2 <;> by_cases h3 : x3 = y3 <;> simp [Sem.run_bind, a0, b0, a1, b1, a2, b2, a3, b3, hE, h0, h1, h2, h3]
theorem ixA28_0 (x0 : Int) (x1 : Int) (x2 : Int) (x3 : Int) (W : World) :
    (Instr.index 28 (.agg #[.int .u64 x0, .int .u64 x1, .int .u64 x2, .int .u64 x3]) (.int .i64 0)).run Try.prog W = .ok (.int .u64 x0) W := by
  have hu := Try.underlying28
  have hs : (sizeOf 26).run Try.prog W = .ok 1 W := by go_simp
  have hp : (part 26 #[.int .u64 x0, .int .u64 x1, .int .u64 x2, .int .u64 x3] 0).run Try.prog W = .ok (.int .u64 x0) W := by
    unfold part
    go_simp
  simp [Instr.index, asIntOf, Sem.run_bind, run_underlying hu, hs, hp]
theorem ixA28_1 (x0 : Int) (x1 : Int) (x2 : Int) (x3 : Int) (W : World) :
    (Instr.index 28 (.agg #[.int .u64 x0, .int .u64 x1, .int .u64 x2, .int .u64 x3]) (.int .i64 1)).run Try.prog W = .ok (.int .u64 x1) W := by
  have hu := Try.underlying28
  have hs : (sizeOf 26).run Try.prog W = .ok 1 W := by go_simp
  have hp : (part 26 #[.int .u64 x0, .int .u64 x1, .int .u64 x2, .int .u64 x3] 1).run Try.prog W = .ok (.int .u64 x1) W := by
    unfold part
    go_simp
  simp [Instr.index, asIntOf, Sem.run_bind, run_underlying hu, hs, hp]
theorem ixA28_2 (x0 : Int) (x1 : Int) (x2 : Int) (x3 : Int) (W : World) :
    (Instr.index 28 (.agg #[.int .u64 x0, .int .u64 x1, .int .u64 x2, .int .u64 x3]) (.int .i64 2)).run Try.prog W = .ok (.int .u64 x2) W := by
  have hu := Try.underlying28
  have hs : (sizeOf 26).run Try.prog W = .ok 1 W := by go_simp
  have hp : (part 26 #[.int .u64 x0, .int .u64 x1, .int .u64 x2, .int .u64 x3] 2).run Try.prog W = .ok (.int .u64 x2) W := by
    unfold part
    go_simp
  simp [Instr.index, asIntOf, Sem.run_bind, run_underlying hu, hs, hp]
theorem ixA28_3 (x0 : Int) (x1 : Int) (x2 : Int) (x3 : Int) (W : World) :
    (Instr.index 28 (.agg #[.int .u64 x0, .int .u64 x1, .int .u64 x2, .int .u64 x3]) (.int .i64 3)).run Try.prog W = .ok (.int .u64 x3) W := by
  have hu := Try.underlying28
  have hs : (sizeOf 26).run Try.prog W = .ok 1 W := by go_simp
  have hp : (part 26 #[.int .u64 x0, .int .u64 x1, .int .u64 x2, .int .u64 x3] 3).run Try.prog W = .ok (.int .u64 x3) W := by
    unfold part
    go_simp
  simp [Instr.index, asIntOf, Sem.run_bind, run_underlying hu, hs, hp]
end Go.Proofs.Ytplgbkobpanbfaa.Q

-- Written by this session's own driver (wip/hybrid.py) of the kit's printer; contracts marked FOREIGN are by hand.
namespace Go.Proofs.Ytplgbkobpanbfaa.Q
open Go.RowKit Go.Proofs.YtplgbkobpanbfaaW.PrintWords Go.Proofs.YtplgbkobpanbfaaW.PrintLast Go.Proofs.YtplgbkobpanbfaaW.PrintMore
attribute [local go_sem] max2_int min2_int max_two min_two max_three min_three max_four min_four   -- for this text's walks alone
set_option linter.unusedVariables false
set_option linter.unusedSimpArgs false

/-! ### vec_Join: function 55 -/
-- FOREIGN: an array by place, a closure
def vec_Join.f (a0_0 a0_1 a0_2 a0_3 a1_0 a1_1 a1_2 a1_3 : Int) : Option (Int × Int × Int × Int) := some (mx a0_0 a1_0, mx a0_1 a1_1, mx a0_2 a1_2, mx a0_3 a1_3)
theorem vec_Join.pick (a b : Int) (w : World) :
    Calls Try.prog 59 #[.int .u64 a, .int .u64 b] w fun e w' => e = .returned (.int .u64 (mx a b)) ∧ w' = w := by
  go_enter Try.func59, Try.ntmps59
  go_wp2
  all_goals (go_ret; refine ⟨?_, rfl⟩; unfold mx; by_cases h2 : a < b <;> first | (rw [if_pos h2]; rfl) | (rw [if_neg h2]; rfl) | omega | (rw [if_pos h2, show a = b by omega]; rfl) | (rw [if_neg h2, show a = b by omega]; rfl))
theorem vec_Join.boxes3 (w : World) (xs ys zs : Array Value) (t : TypeId) (W : World) (h : ((w.alloc (.cells xs t)).alloc (.cells ys t)).alloc (.cells zs t) = W) :
    W.heap[w.heap.size]? = some (.cells xs t (0,0)) ∧ W.heap[w.heap.size+1]? = some (.cells ys t (0,0)) ∧ W.heap[w.heap.size+1+1]? = some (.cells zs t (0,0)) ∧ Below w.heap.size w W := by
  subst h
  have s1 : (w.alloc (.cells xs t)).heap.size = w.heap.size + 1 := by simp [World.alloc, -World.alloc_eq]
  have s2 : ((w.alloc (.cells xs t)).alloc (.cells ys t)).heap.size = w.heap.size + 1 + 1 := by simp [World.alloc, -World.alloc_eq]
  refine ⟨blk_alloc (blk_alloc (blk_new _ _) _) _, ?_, ?_, below_alloc (below_alloc (below_alloc (Below.refl _ _) _) _) _⟩
  · rw [← s1]; exact blk_alloc (blk_new _ _) _
  · rw [← s2]; exact blk_new _ _
set_option maxHeartbeats 8000000 in
set_option maxRecDepth 100000 in
theorem vec_Join.each (a0_0 a0_1 a0_2 a0_3 a1_0 a1_1 a1_2 a1_3 : Int) (w : World) :
    Calls Try.prog 58 #[.agg #[.int .u64 a0_0, .int .u64 a0_1, .int .u64 a0_2, .int .u64 a0_3], .agg #[.int .u64 a1_0, .int .u64 a1_1, .int .u64 a1_2, .int .u64 a1_3], .func (.func 59) #[] #[]] w fun e w' => e = .returned (.agg #[.int .u64 (mx a0_0 a1_0), .int .u64 (mx a0_1 a1_1), .int .u64 (mx a0_2 a1_2), .int .u64 (mx a0_3 a1_3)]) ∧ Below w.heap.size w w' := by
  have hu := Try.underlying28
  have hu2 := Try.underlying26
  go_enter Try.func58, Try.ntmps58
  go_wp2
  generalize hW : (((w.alloc (Obj.cells #[.int .u64 a0_0, .int .u64 a0_1, .int .u64 a0_2, .int .u64 a0_3] 28)).alloc
   (Obj.cells #[.int .u64 a1_0, .int .u64 a1_1, .int .u64 a1_2, .int .u64 a1_3] 28)).alloc (Obj.cells _ 28)) = W0
  obtain ⟨hA, hB, hC, HB⟩ := vec_Join.boxes3 _ _ _ _ _ _ hW
  replace HB := Aside0.mk HB
  clear hW
  obtain ⟨B0, hB0⟩ : ∃ B0, B0 = w.heap.size := ⟨_, rfl⟩
  obtain ⟨B1, hB1⟩ : ∃ B1, B1 = w.heap.size + 1 := ⟨_, rfl⟩
  obtain ⟨B2, hB2⟩ : ∃ B2, B2 = w.heap.size + 1 + 1 := ⟨_, rfl⟩
  rw [← hB2, ← hB1, ← hB0]
  rw [← hB0] at hA
  rw [← hB1] at hB
  rw [← hB2] at hC
  have g01 : B0 ≠ B1 := by omega
  have g02 : B0 ≠ B2 := by omega
  have GB := Aside0.mk (show w.heap.size ≤ B0 by omega)
  have GC := Aside0.mk (show w.heap.size ≤ B2 by omega)
  clear hB0 hB1 hB2
  replace hA := Aside0.mk hA
  replace hB := Aside0.mk hB
  replace hC := Aside0.mk hC
  refine wp_loop_rounds 5 ?_
  rw [rounds_succ]
  have ca := (blk_cell hA.out 0).trans rfl
  have cb := (blk_cell hB.out 0).trans rfl
  go_wp2
  go_still_tail 9, (by kernel_rfl)
  still_call (vec_Join.pick _ _ _)
  refine wpStill_nil ?_
  change wpList _ _ _ _ _ W0.drew
  clear ca cb
  have fa : W0.drew.frozen? ⟨B0, 0, none⟩ = false := blk_frozen hA.out 0
  have ca : W0.drew.cell? ⟨B0, 0, none⟩ = some (.int .u64 a0_0) := blk_cell hA.out 0
  go_wp2
  have hA1 := Aside0.mk (blk_drew (blk_put hA.out 0 (.int .u64 (mx a0_0 a1_0)) (cs' := #[.int .u64 (mx a0_0 a1_0), .int .u64 a0_1, .int .u64 a0_2, .int .u64 a0_3]) rfl))
  have hB1 := Aside0.mk (blk_drew (blk_far hB.out (p := ⟨B0, 0, none⟩) (Ne.symm g01) (.int .u64 (mx a0_0 a1_0))))
  have hC1 := Aside0.mk (blk_drew (blk_far hC.out (p := ⟨B0, 0, none⟩) (Ne.symm g02) (.int .u64 (mx a0_0 a1_0))))
  have HB1 := Aside0.mk (below_drew1 (below_set (j := 0) (v := .int .u64 (mx a0_0 a1_0)) HB.out GB.out))
  clear hA hB hC HB ca fa
  generalize (W0.setCell ⟨B0, 0, none⟩ (.int .u64 (mx a0_0 a1_0))).drew = W1 at *
  clear W0
  have hA := hA1
  have hB := hB1
  have hC := hC1
  have HB := HB1
  clear hA1 hB1 hC1 HB1
  rw [rounds_succ]
  have ca := (blk_cell hA.out 1).trans rfl
  have cb := (blk_cell hB.out 1).trans rfl
  go_wp2
  go_still_tail 9, (by kernel_rfl)
  still_call (vec_Join.pick _ _ _)
  refine wpStill_nil ?_
  change wpList _ _ _ _ _ W1.drew
  clear ca cb
  have fa : W1.drew.frozen? ⟨B0, 1, none⟩ = false := blk_frozen hA.out 1
  have ca : W1.drew.cell? ⟨B0, 1, none⟩ = some (.int .u64 a0_1) := blk_cell hA.out 1
  go_wp2
  have hA1 := Aside0.mk (blk_drew (blk_put hA.out 1 (.int .u64 (mx a0_1 a1_1)) (cs' := #[.int .u64 (mx a0_0 a1_0), .int .u64 (mx a0_1 a1_1), .int .u64 a0_2, .int .u64 a0_3]) rfl))
  have hB1 := Aside0.mk (blk_drew (blk_far hB.out (p := ⟨B0, 1, none⟩) (Ne.symm g01) (.int .u64 (mx a0_1 a1_1))))
  have hC1 := Aside0.mk (blk_drew (blk_far hC.out (p := ⟨B0, 1, none⟩) (Ne.symm g02) (.int .u64 (mx a0_1 a1_1))))
  have HB1 := Aside0.mk (below_drew1 (below_set (j := 1) (v := .int .u64 (mx a0_1 a1_1)) HB.out GB.out))
  clear hA hB hC HB ca fa
  generalize (W1.setCell ⟨B0, 1, none⟩ (.int .u64 (mx a0_1 a1_1))).drew = W2 at *
  clear W1
  have hA := hA1
  have hB := hB1
  have hC := hC1
  have HB := HB1
  clear hA1 hB1 hC1 HB1
  rw [rounds_succ]
  have ca := (blk_cell hA.out 2).trans rfl
  have cb := (blk_cell hB.out 2).trans rfl
  go_wp2
  go_still_tail 9, (by kernel_rfl)
  still_call (vec_Join.pick _ _ _)
  refine wpStill_nil ?_
  change wpList _ _ _ _ _ W2.drew
  clear ca cb
  have fa : W2.drew.frozen? ⟨B0, 2, none⟩ = false := blk_frozen hA.out 2
  have ca : W2.drew.cell? ⟨B0, 2, none⟩ = some (.int .u64 a0_2) := blk_cell hA.out 2
  go_wp2
  have hA1 := Aside0.mk (blk_drew (blk_put hA.out 2 (.int .u64 (mx a0_2 a1_2)) (cs' := #[.int .u64 (mx a0_0 a1_0), .int .u64 (mx a0_1 a1_1), .int .u64 (mx a0_2 a1_2), .int .u64 a0_3]) rfl))
  have hB1 := Aside0.mk (blk_drew (blk_far hB.out (p := ⟨B0, 2, none⟩) (Ne.symm g01) (.int .u64 (mx a0_2 a1_2))))
  have hC1 := Aside0.mk (blk_drew (blk_far hC.out (p := ⟨B0, 2, none⟩) (Ne.symm g02) (.int .u64 (mx a0_2 a1_2))))
  have HB1 := Aside0.mk (below_drew1 (below_set (j := 2) (v := .int .u64 (mx a0_2 a1_2)) HB.out GB.out))
  clear hA hB hC HB ca fa
  generalize (W2.setCell ⟨B0, 2, none⟩ (.int .u64 (mx a0_2 a1_2))).drew = W3 at *
  clear W2
  have hA := hA1
  have hB := hB1
  have hC := hC1
  have HB := HB1
  clear hA1 hB1 hC1 HB1
  rw [rounds_succ]
  have ca := (blk_cell hA.out 3).trans rfl
  have cb := (blk_cell hB.out 3).trans rfl
  go_wp2
  go_still_tail 9, (by kernel_rfl)
  still_call (vec_Join.pick _ _ _)
  refine wpStill_nil ?_
  change wpList _ _ _ _ _ W3.drew
  clear ca cb
  have fa : W3.drew.frozen? ⟨B0, 3, none⟩ = false := blk_frozen hA.out 3
  have ca : W3.drew.cell? ⟨B0, 3, none⟩ = some (.int .u64 a0_3) := blk_cell hA.out 3
  go_wp2
  have hA1 := Aside0.mk (blk_drew (blk_put hA.out 3 (.int .u64 (mx a0_3 a1_3)) (cs' := #[.int .u64 (mx a0_0 a1_0), .int .u64 (mx a0_1 a1_1), .int .u64 (mx a0_2 a1_2), .int .u64 (mx a0_3 a1_3)]) rfl))
  have hB1 := Aside0.mk (blk_drew (blk_far hB.out (p := ⟨B0, 3, none⟩) (Ne.symm g01) (.int .u64 (mx a0_3 a1_3))))
  have hC1 := Aside0.mk (blk_drew (blk_far hC.out (p := ⟨B0, 3, none⟩) (Ne.symm g02) (.int .u64 (mx a0_3 a1_3))))
  have HB1 := Aside0.mk (below_drew1 (below_set (j := 3) (v := .int .u64 (mx a0_3 a1_3)) HB.out GB.out))
  clear hA hB hC HB ca fa
  generalize (W3.setCell ⟨B0, 3, none⟩ (.int .u64 (mx a0_3 a1_3))).drew = W4 at *
  clear W3
  have hA := hA1
  have hB := hB1
  have hC := hC1
  have HB := HB1
  clear hA1 hB1 hC1 HB1
  rw [rounds_succ]
  have c0 := (blk_cell hA.out 0).trans rfl
  have c1 := (blk_cell hA.out 1).trans rfl
  have c2 := (blk_cell hA.out 2).trans rfl
  have c3 := (blk_cell hA.out 3).trans rfl
  have f0 := blk_frozen hC.out 0
  have f1 := blk_frozen hC.out 1
  have f2 := blk_frozen hC.out 2
  have f3 := blk_frozen hC.out 3
  have d0 := (blk_cell hC.out 0).trans rfl
  have d1 := (blk_cell hC.out 1).trans rfl
  have d2 := (blk_cell hC.out 2).trans rfl
  have d3 := (blk_cell hC.out 3).trans rfl
  go_wp2
  clear c0 c1 c2 c3 d0 d1 d2 d3 f0 f1 f2 f3
  have hC1 := Aside0.mk (blk_put (blk_put (blk_put (blk_put hC.out 0 (.int .u64 (mx a0_0 a1_0)) rfl) 1 (.int .u64 (mx a0_1 a1_1)) rfl) 2 (.int .u64 (mx a0_2 a1_2)) rfl) 3 (.int .u64 (mx a0_3 a1_3)) (cs' := #[.int .u64 (mx a0_0 a1_0), .int .u64 (mx a0_1 a1_1), .int .u64 (mx a0_2 a1_2), .int .u64 (mx a0_3 a1_3)]) rfl)
  have HB1 := Aside0.mk (below_set (j := 3) (v := .int .u64 (mx a0_3 a1_3)) (below_set (j := 2) (v := .int .u64 (mx a0_2 a1_2)) (below_set (j := 1) (v := .int .u64 (mx a0_1 a1_1)) (below_set (j := 0) (v := .int .u64 (mx a0_0 a1_0)) HB.out GC.out) GC.out) GC.out) GC.out)
  clear hA hB hC HB
  generalize (((W4.setCell ⟨B2, 0, none⟩ (.int .u64 (mx a0_0 a1_0))).setCell ⟨B2, 1, none⟩ (.int .u64 (mx a0_1 a1_1))).setCell ⟨B2, 2, none⟩ (.int .u64 (mx a0_2 a1_2))).setCell ⟨B2, 3, none⟩ (.int .u64 (mx a0_3 a1_3)) = W5 at *
  clear W4
  have d0 := (blk_cell hC1.out 0).trans rfl
  have d1 := (blk_cell hC1.out 1).trans rfl
  have d2 := (blk_cell hC1.out 2).trans rfl
  have d3 := (blk_cell hC1.out 3).trans rfl
  refine bodyPost_ret (v := .agg #[.int .u64 (mx a0_0 a1_0), .int .u64 (mx a0_1 a1_1), .int .u64 (mx a0_2 a1_2), .int .u64 (mx a0_3 a1_3)]) (by simp [results, Try.results58, go_sem, hu, hu2, d0, d1, d2, d3]) rfl ⟨rfl, HB1.out⟩
theorem vec_Join.calls (a0_0 a0_1 a0_2 a0_3 a1_0 a1_1 a1_2 a1_3 r1 r2 r3 r4 : Int) (w : World) (h : vec_Join.f a0_0 a0_1 a0_2 a0_3 a1_0 a1_1 a1_2 a1_3 = some (r1, r2, r3, r4)) :
    Calls Try.prog 55 #[.agg #[.int .u64 a0_0, .int .u64 a0_1, .int .u64 a0_2, .int .u64 a0_3], .agg #[.int .u64 a1_0, .int .u64 a1_1, .int .u64 a1_2, .int .u64 a1_3]] w fun e w' => e = .returned (.agg #[.int .u64 r1, .int .u64 r2, .int .u64 r3, .int .u64 r4]) ∧ Below w.heap.size w w' := by
  simp only [vec_Join.f, Option.some.injEq, Prod.mk.injEq] at h
  obtain ⟨rfl, rfl, rfl, rfl⟩ := h
  have hmf : ∀ (fn : Fn) (first cap : Array Value) (w : World), (Instr.makeFunc fn first cap).run Try.prog w = .ok (.func fn first cap) w := fun _ _ _ _ => rfl
  go_enter Try.func55, Try.ntmps55
  go_wp2_with (go_at_call 58; refine (vec_Join.each _ _ _ _ _ _ _ _ _).mono ?_; rintro e w1 ⟨rfl, hb⟩; have hX := vec_Join.boxes3 w #[.int .u64 a0_0, .int .u64 a0_1, .int .u64 a0_2, .int .u64 a0_3] #[.int .u64 a1_0, .int .u64 a1_1, .int .u64 a1_2, .int .u64 a1_3] #[.int .u64 0, .int .u64 0, .int .u64 0, .int .u64 0] 28 _ rfl; have hC := Aside0.mk (blk_below hX.2.2.1 hb); have HB := Aside0.mk (below_step hX.2.2.2 hb); clear hX; clear hb; have f0 := blk_frozen hC.out 0; have f1 := blk_frozen hC.out 1; have f2 := blk_frozen hC.out 2; have f3 := blk_frozen hC.out 3; have d0 := (blk_cell hC.out 0).trans rfl; have d1 := (blk_cell hC.out 1).trans rfl; have d2 := (blk_cell hC.out 2).trans rfl; have d3 := (blk_cell hC.out 3).trans rfl)
  clear d0 d1 d2 d3 f0 f1 f2 f3
  have GC : w.heap.size ≤ w.heap.size + 1 + 1 := by omega
  have hC1 := Aside0.mk (blk_put (blk_put (blk_put (blk_put hC.out 0 (.int .u64 (mx a0_0 a1_0)) rfl) 1 (.int .u64 (mx a0_1 a1_1)) rfl) 2 (.int .u64 (mx a0_2 a1_2)) rfl) 3 (.int .u64 (mx a0_3 a1_3)) (cs' := #[.int .u64 (mx a0_0 a1_0), .int .u64 (mx a0_1 a1_1), .int .u64 (mx a0_2 a1_2), .int .u64 (mx a0_3 a1_3)]) rfl)
  have HB1 := Aside0.mk (below_set (j := 3) (v := .int .u64 (mx a0_3 a1_3)) (below_set (j := 2) (v := .int .u64 (mx a0_2 a1_2)) (below_set (j := 1) (v := .int .u64 (mx a0_1 a1_1)) (below_set (j := 0) (v := .int .u64 (mx a0_0 a1_0)) HB.out GC) GC) GC) GC)
  clear hC HB
  generalize (((w1.setCell ⟨w.heap.size + 1 + 1, 0, none⟩ (.int .u64 (mx a0_0 a1_0))).setCell ⟨w.heap.size + 1 + 1, 1, none⟩ (.int .u64 (mx a0_1 a1_1))).setCell ⟨w.heap.size + 1 + 1, 2, none⟩ (.int .u64 (mx a0_2 a1_2))).setCell ⟨w.heap.size + 1 + 1, 3, none⟩ (.int .u64 (mx a0_3 a1_3)) = W5 at *
  have hu := Try.underlying28
  have hu2 := Try.underlying26
  have d0 := (blk_cell hC1.out 0).trans rfl
  have d1 := (blk_cell hC1.out 1).trans rfl
  have d2 := (blk_cell hC1.out 2).trans rfl
  have d3 := (blk_cell hC1.out 3).trans rfl
  refine bodyPost_ret (v := .agg #[.int .u64 (mx a0_0 a1_0), .int .u64 (mx a0_1 a1_1), .int .u64 (mx a0_2 a1_2), .int .u64 (mx a0_3 a1_3)]) (by simp [results, Try.results55, go_sem, hu, hu2, d0, d1, d2, d3]) rfl ⟨rfl, HB1.out⟩


end Go.Proofs.Ytplgbkobpanbfaa.Q

-- Written by this session's own driver (wip/hybrid.py) of the kit's printer; contracts marked FOREIGN are by hand.
namespace Go.Proofs.Ytplgbkobpanbfaa.Q
open Go.RowKit Go.Proofs.YtplgbkobpanbfaaW.PrintWords Go.Proofs.YtplgbkobpanbfaaW.PrintLast Go.Proofs.YtplgbkobpanbfaaW.PrintMore
attribute [local go_sem] max2_int min2_int max_two min_two max_three min_three max_four min_four   -- for this text's walks alone
set_option linter.unusedVariables false
set_option linter.unusedSimpArgs false

attribute [local go_sem] ixA28_0 ixA28_1 ixA28_2 ixA28_3   -- for this text's walks alone
attribute [local go_sem high] eqA28
/-! ### vec_Leq: function 44 -/
def vec_Leq.f (a0_0 : Int) (a0_1 : Int) (a0_2 : Int) (a0_3 : Int) (a1_0 : Int) (a1_1 : Int) (a1_2 : Int) (a1_3 : Int) : Option (Bool) := (vec_Join.f a0_0 a0_1 a0_2 a0_3 a1_0 a1_1 a1_2 a1_3).bind fun bt150 => (some (bt150.1 == a1_0 && (bt150.2.1 == a1_1 && (bt150.2.2.1 == a1_2 && (bt150.2.2.2 == a1_3)))))
set_option maxHeartbeats 8000000 in
set_option maxRecDepth 100000 in
theorem vec_Leq.calls (a0_0 : Int) (a0_1 : Int) (a0_2 : Int) (a0_3 : Int) (a1_0 : Int) (a1_1 : Int) (a1_2 : Int) (a1_3 : Int) (r : Bool) (w : World) (h : vec_Leq.f a0_0 a0_1 a0_2 a0_3 a1_0 a1_1 a1_2 a1_3 = some r) :
    Calls Try.prog 44 #[.agg #[.int .u64 a0_0, .int .u64 a0_1, .int .u64 a0_2, .int .u64 a0_3], .agg #[.int .u64 a1_0, .int .u64 a1_1, .int .u64 a1_2, .int .u64 a1_3]] w fun e w' => e = .returned (.bool r) ∧ Below w.heap.size w w' := by
  have hu28 := Try.underlying28
  have HB := Aside0.mk (Below.refl w.heap.size w)
  have H : ((vec_Join.f a0_0 a0_1 a0_2 a0_3 a1_0 a1_1 a1_2 a1_3).bind fun bt150 => (some (bt150.1 == a1_0 && (bt150.2.1 == a1_1 && (bt150.2.2.1 == a1_2 && (bt150.2.2.2 == a1_3)))))) = some r := h
  clear h
  replace H := Option.bind_eq_some_iff.mp H
  obtain ⟨⟨t150, t151, t152, t153⟩, A30, H⟩ := H
  replace H : (some (t150 == a1_0 && (t151 == a1_1 && (t152 == a1_2 && (t153 == a1_3))))) = some r := H
  have A3 := Aside0.mk A30
  clear A30
  obtain rfl := Option.some.inj H
  go_enter Try.func44, Try.ntmps44
  try go_wp2_with (first | ((with_reducible refine gate_dst (N := 2) rfl ?_); refine box_event ?hg (N := 2) ?hd (cs := #[.int .u64 a0_0, .int .u64 a0_1, .int .u64 a0_2, .int .u64 a0_3]) (t := 28) ?hr ?_; (case hd => rfl); (case hg => rfl); (case hr => first | (go_simp; done) | (go_simp; rfl)); intro gb148 hg w4 hbox hb; have BK148 := Aside0.mk (hbox); have GW148 := Kw_ HB hg; have GE148 := GW148; replace HB := Ks_ HB hb; clear hb hbox hg) | ((with_reducible refine gate_dst (N := 3) rfl ?_); refine box_event ?hg (N := 3) ?hd (cs := #[.int .u64 a1_0, .int .u64 a1_1, .int .u64 a1_2, .int .u64 a1_3]) (t := 28) ?hr ?_; (case hd => rfl); (case hg => rfl); (case hr => first | (go_simp; done) | (go_simp; rfl)); intro gb149 hg w5 hbox hb; have BK149 := Aside0.mk (hbox); have GW149 := Kw_ HB hg; have GE149 := GW149; have NB148_149 := Kl_ BK148 hg; have NB149_148 := Kr_ BK148 hg; replace BK148 := Kb_ BK148 hb; replace HB := Ks_ HB hb; clear hb hbox hg))
  replace BK148 := Kd_ BK148
  replace BK149 := Kd_ BK149
  replace HB := Aside0.mk (below_drew1 HB.out)
  refine start_ (n := 6) (S := fun w' => w'.cell? ⟨gb148, 0, none⟩ = some (.int .u64 a0_0) ∧ w'.cell? ⟨gb148, 1, none⟩ = some (.int .u64 a0_1) ∧ w'.cell? ⟨gb148, 2, none⟩ = some (.int .u64 a0_2) ∧ w'.cell? ⟨gb148, 3, none⟩ = some (.int .u64 a0_3) ∧ w'.cell? ⟨gb149, 0, none⟩ = some (.int .u64 a1_0) ∧ w'.cell? ⟨gb149, 1, none⟩ = some (.int .u64 a1_1) ∧ w'.cell? ⟨gb149, 2, none⟩ = some (.int .u64 a1_2) ∧ w'.cell? ⟨gb149, 3, none⟩ = some (.int .u64 a1_3)) (ds := []) #[false, false, false, false, false, false] (by kernel_rfl) rfl rfl ⟨(blk_cell BK148.out 0).trans rfl, (blk_cell BK148.out 1).trans rfl, (blk_cell BK148.out 2).trans rfl, (blk_cell BK148.out 3).trans rfl, (blk_cell BK149.out 0).trans rfl, (blk_cell BK149.out 1).trans rfl, (blk_cell BK149.out 2).trans rfl, (blk_cell BK149.out 3).trans rfl⟩ (fun hHeld => ?_)
  generalize w5.drew = w6 at BK148 BK149 HB hHeld ⊢
  refine take_ (i := 0) (N := some 5) (v := ?_) (a' := ?_) #[true, false, false, false, false, false] rfl rfl (by kernel_rfl) (fun _ _ _ h => h) (Or.inl ⟨by rfl, ?_⟩) hHeld ?_ ?_
  rotate_left
  · rintro w' ⟨s0, s1, s2, s3, s4, s5, s6, s7⟩
    go_simp
    with_reducible rfl
  rotate_left
  · simp only [Act.put, List.setIfInBounds_toArray, List.set_cons_zero, List.set_cons_succ, i64_w, i32_w]
    rfl
  refine take_ (i := 1) (N := some 6) (v := ?_) (a' := ?_) #[true, true, false, false, false, false] rfl rfl (by kernel_rfl) (fun _ _ _ h => h) (Or.inl ⟨by rfl, ?_⟩) hHeld ?_ ?_
  rotate_left
  · rintro w' ⟨s0, s1, s2, s3, s4, s5, s6, s7⟩
    go_simp
    with_reducible rfl
  rotate_left
  · simp only [Act.put, List.setIfInBounds_toArray, List.set_cons_zero, List.set_cons_succ, i64_w, i32_w]
    rfl
  refine take_ (i := 3) (N := some 8) (v := ?_) (a' := ?_) #[true, true, false, true, false, false] rfl rfl (by kernel_rfl) (fun _ _ _ h => h) (Or.inl ⟨by rfl, ?_⟩) hHeld ?_ ?_
  rotate_left
  · rintro w' ⟨s0, s1, s2, s3, s4, s5, s6, s7⟩
    go_simp
    with_reducible rfl
  rotate_left
  · simp only [Act.put, List.setIfInBounds_toArray, List.set_cons_zero, List.set_cons_succ, i64_w, i32_w]
    rfl
  refine one_ (i := 2) (N := some 7) #[true, true, true, true, false, false] rfl rfl (by kernel_rfl) (by decide) (fun K hK => ?_)
  refine goes_ Try.func55 (by kernel_rfl) rfl #[.agg #[.int .u64 a0_0, .int .u64 a0_1, .int .u64 a0_2, .int .u64 a0_3], .agg #[.int .u64 a1_0, .int .u64 a1_1, .int .u64 a1_2, .int .u64 a1_3]] (by rfl) rfl rfl (by (try simp only [List.map_toArray, List.map_cons, List.map_nil]); first | done | rfl | (simp only [List.length_drop, List.length_take]; rfl)) ?_
  with_reducible refine (vec_Join.calls a0_0 a0_1 a0_2 a0_3 a1_0 a1_1 a1_2 a1_3 t150 t151 t152 t153 _ A3.out).mono ?_
  rintro e w7 ⟨rfl, hb⟩
  refine ⟨_, rfl, ?_⟩
  replace BK148 := Kb_ BK148 hb
  replace BK149 := Kb_ BK149 hb
  replace HB := Ks_ HB hb
  (try clear hb)
  (try clear hb2)
  (try clear hk)
  (try clear hi)
  refine hK.out _ _ ⟨(blk_cell BK148.out 0).trans rfl, (blk_cell BK148.out 1).trans rfl, (blk_cell BK148.out 2).trans rfl, (blk_cell BK148.out 3).trans rfl, (blk_cell BK149.out 0).trans rfl, (blk_cell BK149.out 1).trans rfl, (blk_cell BK149.out 2).trans rfl, (blk_cell BK149.out 3).trans rfl⟩ (fun hHeld => ?_)
  clear hK K
  refine norm_ (a' := ?_) ?_ ?_
  rotate_left
  · show Act.put _ (some 7) _ = _
    simp only [Act.put, List.setIfInBounds_toArray, List.set_cons_zero, List.set_cons_succ, i64_w, i32_w]
    rfl
  refine pure_ (i := 4) (N := some 9) (v := ?_) (a' := ?_) #[true, true, true, true, true, false] rfl rfl (by kernel_rfl) (fun _ _ _ h => h) (Or.inl ⟨by rfl, ?_⟩) ?_ ?_
  rotate_left
  · intro w'
    go_simp
    with_reducible rfl
  rotate_left
  · simp only [Act.put, List.setIfInBounds_toArray, List.set_cons_zero, List.set_cons_succ, i64_w, i32_w]
    rfl
  refine pure_ (i := 5) (N := some 4) (v := ?_) (a' := ?_) #[true, true, true, true, true, true] rfl rfl (by kernel_rfl) (fun _ _ _ h => h) (Or.inl ⟨by rfl, ?_⟩) ?_ ?_
  rotate_left
  · intro w'
    go_simp
    with_reducible rfl
  rotate_left
  · simp only [Act.put, List.setIfInBounds_toArray, List.set_cons_zero, List.set_cons_succ, i64_w, i32_w]
    rfl
  refine done_ (by kernel_rfl) ?_
  try go_wp2
  go_ret
  exact ⟨by first | rfl | (simp [errW_none, errW_some] <;> rfl) | (simp [*, errW_none, errW_some] <;> rfl), by repeat (first | (with_reducible first | exact HB.out | apply below_alloc | apply pw_below_drewN | apply below_drew1 | refine below_set ?_ GE148.out | refine below_set ?_ GE149.out) | exact HB.out)⟩

end Go.Proofs.Ytplgbkobpanbfaa.Q

-- Written by this session's own driver (wip/hybrid.py) of the kit's printer; contracts marked FOREIGN are by hand.
namespace Go.Proofs.Ytplgbkobpanbfaa.Q
open Go.RowKit Go.Proofs.YtplgbkobpanbfaaW.PrintWords Go.Proofs.YtplgbkobpanbfaaW.PrintLast Go.Proofs.YtplgbkobpanbfaaW.PrintMore
attribute [local go_sem] max2_int min2_int max_two min_two max_three min_three max_four min_four   -- for this text's walks alone
set_option linter.unusedVariables false
set_option linter.unusedSimpArgs false

/-! ### vec_Right: function 25 -/
def vec_Right.f (a0_0 : Int) (a0_1 : Int) (a0_2 : Int) (a0_3 : Int) : Option (Bool) := (vec_Leq.f a0_0 a0_1 a0_2 a0_3 1152921504606846976 1152921504606846976 1152921504606846976 1152921504606846976).bind fun t155 => (some t155)
set_option maxHeartbeats 8000000 in
set_option maxRecDepth 100000 in
theorem vec_Right.calls (a0_0 : Int) (a0_1 : Int) (a0_2 : Int) (a0_3 : Int) (r : Bool) (w : World) (h : vec_Right.f a0_0 a0_1 a0_2 a0_3 = some r) :
    Calls Try.prog 25 #[.agg #[.int .u64 a0_0, .int .u64 a0_1, .int .u64 a0_2, .int .u64 a0_3]] w fun e w' => e = .returned (.bool r) ∧ Below w.heap.size w w' := by
  have hu28 := Try.underlying28
  have HB := Aside0.mk (Below.refl w.heap.size w)
  have H : ((vec_Leq.f a0_0 a0_1 a0_2 a0_3 1152921504606846976 1152921504606846976 1152921504606846976 1152921504606846976).bind fun t155 => (some t155)) = some r := h
  clear h
  replace H := Option.bind_eq_some_iff.mp H
  obtain ⟨t155, A20, H⟩ := H
  replace H : (some t155) = some r := H
  have A2 := Aside0.mk A20
  clear A20
  obtain rfl := Option.some.inj H
  go_enter Try.func25, Try.ntmps25
  go_wp2_with (first | ((with_reducible refine gate_dst (N := 1) rfl ?_); refine box_event ?hg (N := 1) ?hd (cs := #[.int .u64 a0_0, .int .u64 a0_1, .int .u64 a0_2, .int .u64 a0_3]) (t := 28) ?hr ?_; (case hd => rfl); (case hg => rfl); (case hr => first | (go_simp; done) | (go_simp; rfl)); intro gb154 hg w3 hbox hb; have BK154 := Aside0.mk (hbox); have GW154 := Kw_ HB hg; have GE154 := GW154; replace HB := Ks_ HB hb; clear hb hbox hg; obtain ⟨hcz4_0, hcz4_1, hcz4_2, hcz4_3, hfz4_0, hfz4_1, hfz4_2, hfz4_3⟩ := Ke4_ BK154.out) | ((with_reducible refine gate_callee (f := 44) rfl ?_); refine goesL_ (some 5) rfl rfl Try.func44 (by kernel_rfl) rfl #[.agg #[.int .u64 a0_0, .int .u64 a0_1, .int .u64 a0_2, .int .u64 a0_3], .agg #[.int .u64 1152921504606846976, .int .u64 1152921504606846976, .int .u64 1152921504606846976, .int .u64 1152921504606846976]] rfl (by (try simp only [List.map_toArray, List.map_cons, List.map_nil]); first | done | rfl | (simp only [List.length_drop, List.length_take]; rfl)) ?_; (with_reducible refine (vec_Leq.calls a0_0 a0_1 a0_2 a0_3 1152921504606846976 1152921504606846976 1152921504606846976 1152921504606846976 t155 _ A2.out).mono ?_); rintro e w5 ⟨rfl, hb⟩; refine ⟨_, rfl, ?_⟩; replace BK154 := Kb_ BK154 hb; replace HB := Ks_ HB hb; (try clear hb); (try clear hb2); (try clear hk); (try clear hi)))
  go_ret
  exact ⟨by first | rfl | (simp [errW_none, errW_some] <;> rfl) | (simp [*, errW_none, errW_some] <;> rfl), Kz_ HB GE154⟩

end Go.Proofs.Ytplgbkobpanbfaa.Q

-- Written by this session's own driver (wip/hybrid.py) of the kit's printer; contracts marked FOREIGN are by hand.
namespace Go.Proofs.Ytplgbkobpanbfaa.Q
open Go.RowKit Go.Proofs.YtplgbkobpanbfaaW.PrintWords Go.Proofs.YtplgbkobpanbfaaW.PrintLast Go.Proofs.YtplgbkobpanbfaaW.PrintMore
attribute [local go_sem] max2_int min2_int max_two min_two max_three min_three max_four min_four   -- for this text's walks alone
set_option linter.unusedVariables false
set_option linter.unusedSimpArgs false

/-! ### vec_Get: function 42 -/
-- FOREIGN: an array filled place by place by a reader that is turned
def vec_Get.f (k : Nat) (a0_0 : ByteArray) (a0_1 : Bool) : Option (Int × Int × Int × Int × ByteArray × Bool) :=
  (pack_Reader_Vary.f k a0_0 a0_1).bind fun r0 => (pack_Reader_Vary.f k r0.2.1 r0.2.2).bind fun r1 => (pack_Reader_Vary.f k r1.2.1 r1.2.2).bind fun r2 => (pack_Reader_Vary.f k r2.2.1 r2.2.2).bind fun r3 =>
    if r3.2.2 = true then some (0, 0, 0, 0, (⟨#[]⟩ : ByteArray), true) else (vec_Right.f r0.1 r1.1 r2.1 r3.1).bind fun t => if t = true then some (r0.1, r1.1, r2.1, r3.1, r3.2.1, false) else some (0, 0, 0, 0, (⟨#[]⟩ : ByteArray), true)
theorem vec_Get.mono : ∀ a0 a1 k, LeO (vec_Get.f k a0 a1) (vec_Get.f (k + 1) a0 a1) := by
  intro a0 a1 k
  unfold vec_Get.f
  repeat' first
      | exact pack_Reader_Vary.mono _ _ _
      | exact LeO.refl _
      | exact LeO.none _
      | refine LeO.ite ?_ ?_
      | refine LeO.bind ?_ (fun _ => ?_)
theorem vec_Get.boxes3 (w : World) (xs ys zs : Array Value) (t1 t2 t3 : TypeId) (W : World) (h : ((w.alloc (.cells xs t1)).alloc (.cells ys t2)).alloc (.cells zs t3) = W) :
    W.heap[w.heap.size]? = some (.cells xs t1 (0,0)) ∧ W.heap[w.heap.size+1]? = some (.cells ys t2 (0,0)) ∧ W.heap[w.heap.size+1+1]? = some (.cells zs t3 (0,0)) ∧ Below w.heap.size w W := by
  subst h
  have s1 : (w.alloc (.cells xs t1)).heap.size = w.heap.size + 1 := by simp [World.alloc, -World.alloc_eq]
  have s2 : ((w.alloc (.cells xs t1)).alloc (.cells ys t2)).heap.size = w.heap.size + 1 + 1 := by simp [World.alloc, -World.alloc_eq]
  refine ⟨blk_alloc (blk_alloc (blk_new _ _) _) _, ?_, ?_, below_alloc (below_alloc (below_alloc (Below.refl _ _) _) _) _⟩
  · rw [← s1]; exact blk_alloc (blk_new _ _) _
  · rw [← s2]; exact blk_new _ _
set_option maxHeartbeats 8000000 in
set_option maxRecDepth 100000 in
theorem vec_Get.calls (k : Nat) (a0_0 : ByteArray) (a0_1 : Bool) (r1 r2 r3 r4 : Int) (r5 : ByteArray) (r6 : Bool) (w : World) (h : vec_Get.f k a0_0 a0_1 = some (r1, r2, r3, r4, r5, r6)) :
    Calls Try.prog 42 #[.agg #[.string a0_0, .bool a0_1]] w fun e w' => e = .returned (.tuple #[.agg #[.int .u64 r1, .int .u64 r2, .int .u64 r3, .int .u64 r4], .agg #[.string r5, .bool r6]]) ∧ Below w.heap.size w w' := by
  unfold vec_Get.f at h
  obtain ⟨⟨n0, s1, b1⟩, A0, h⟩ := Option.bind_eq_some_iff.1 h
  obtain ⟨⟨n1, s2, b2⟩, A1, h⟩ := Option.bind_eq_some_iff.1 h
  obtain ⟨⟨n2, s3, b3⟩, A2, h⟩ := Option.bind_eq_some_iff.1 h
  obtain ⟨⟨n3, s4, b4⟩, A3, h⟩ := Option.bind_eq_some_iff.1 h
  replace A0 := Aside0.mk A0
  replace A1 := Aside0.mk A1
  replace A2 := Aside0.mk A2
  replace A3 := Aside0.mk A3
  simp only at h
  have HH := Aside0.mk h
  clear h
  have hu := Try.underlying28
  have hu2 := Try.underlying26
  have hu3 := Try.underlying81
  go_enter Try.func42, Try.ntmps42
  go_wp2
  generalize hW : (((w.alloc (Obj.cells #[.string a0_0, .bool a0_1] 81)).alloc (Obj.cells _ 28)).alloc (Obj.cells _ 81)) = W0
  obtain ⟨hA, hB, hC, HB⟩ := vec_Get.boxes3 _ _ _ _ _ _ _ _ hW
  replace HB := Aside0.mk HB
  clear hW
  obtain ⟨B0, hB0⟩ : ∃ B0, B0 = w.heap.size := ⟨_, rfl⟩
  obtain ⟨B1, hB1⟩ : ∃ B1, B1 = w.heap.size + 1 := ⟨_, rfl⟩
  obtain ⟨B2, hB2⟩ : ∃ B2, B2 = w.heap.size + 1 + 1 := ⟨_, rfl⟩
  rw [← hB2, ← hB1, ← hB0]
  rw [← hB0] at hA
  rw [← hB1] at hB
  rw [← hB2] at hC
  have g01 : B0 ≠ B1 := by omega
  have g02 : B0 ≠ B2 := by omega
  have g12 : B1 ≠ B2 := by omega
  have GA := Aside0.mk (show w.heap.size ≤ B0 by omega)
  have GB := Aside0.mk (show w.heap.size ≤ B1 by omega)
  have GC := Aside0.mk (show w.heap.size ≤ B2 by omega)
  clear hB0 hB1 hB2
  replace hA := Aside0.mk hA
  replace hB := Aside0.mk hB
  replace hC := Aside0.mk hC
  refine wp_loop_rounds 5 ?_
  rw [rounds_succ]
  have ca0 := (blk_cell hA.out 0).trans rfl
  have ca1 := (blk_cell hA.out 1).trans rfl
  go_wp2_with (go_at_call 51; refine (pack_Reader_Vary.calls k a0_0 a0_1 n0 s1 b1 _ A0.out).mono ?_; rintro e w1 ⟨rfl, hb⟩; clear ca0 ca1; have hA1 := Aside0.mk (blk_below hA.out hb); have hB1 := Aside0.mk (blk_below hB.out hb); have hC1 := Aside0.mk (blk_below hC.out hb); have HB1 := Aside0.mk (below_step HB.out hb); clear hA hB hC HB; clear hb; have fa0 := blk_frozen hA1.out 0; have fa1 := blk_frozen hA1.out 1; have ca0 := (blk_cell hA1.out 0).trans rfl; have ca1 := (blk_cell hA1.out 1).trans rfl; have fb := blk_frozen hB1.out 0; have cb := (blk_cell hB1.out 0).trans rfl)
  clear ca0 ca1 cb fa0 fa1 fb
  have hA := Aside0.mk (blk_put (blk_put (blk_far hA1.out (p := ⟨B1, 0, none⟩) g01 (.int .u64 n0)) 0 (.string s1) rfl) 1 (.bool b1) (cs' := #[.string s1, .bool b1]) rfl)
  have hB := Aside0.mk (blk_far (blk_far (blk_put hB1.out 0 (.int .u64 n0) (cs' := #[.int .u64 n0, .int .u64 0, .int .u64 0, .int .u64 0]) rfl) (p := ⟨B0, 0, none⟩) (Ne.symm g01) (.string s1)) (p := ⟨B0, 1, none⟩) (Ne.symm g01) (.bool b1))
  have hC := Aside0.mk (blk_far (blk_far (blk_far hC1.out (p := ⟨B1, 0, none⟩) (Ne.symm g12) (.int .u64 n0)) (p := ⟨B0, 0, none⟩) (Ne.symm g02) (.string s1)) (p := ⟨B0, 1, none⟩) (Ne.symm g02) (.bool b1))
  have HB := Aside0.mk (below_set (j := 1) (v := .bool b1) (below_set (j := 0) (v := .string s1) (below_set (j := 0) (v := .int .u64 n0) HB1.out GB.out) GA.out) GA.out)
  clear hA1 hB1 hC1 HB1
  generalize ((w1.setCell ⟨B1, 0, none⟩ (.int .u64 n0)).setCell ⟨B0, 0, none⟩ (.string s1)).setCell ⟨B0, 1, none⟩ (.bool b1) = W1 at *
  clear w1 W0
  rw [rounds_succ]
  have ca0 := (blk_cell hA.out 0).trans rfl
  have ca1 := (blk_cell hA.out 1).trans rfl
  go_wp2_with (go_at_call 51; refine (pack_Reader_Vary.calls k s1 b1 n1 s2 b2 _ A1.out).mono ?_; rintro e w1 ⟨rfl, hb⟩; clear ca0 ca1; have hA1 := Aside0.mk (blk_below hA.out hb); have hB1 := Aside0.mk (blk_below hB.out hb); have hC1 := Aside0.mk (blk_below hC.out hb); have HB1 := Aside0.mk (below_step HB.out hb); clear hA hB hC HB; clear hb; have fa0 := blk_frozen hA1.out 0; have fa1 := blk_frozen hA1.out 1; have ca0 := (blk_cell hA1.out 0).trans rfl; have ca1 := (blk_cell hA1.out 1).trans rfl; have fb := blk_frozen hB1.out 1; have cb := (blk_cell hB1.out 1).trans rfl)
  clear ca0 ca1 cb fa0 fa1 fb
  have hA := Aside0.mk (blk_put (blk_put (blk_far hA1.out (p := ⟨B1, 1, none⟩) g01 (.int .u64 n1)) 0 (.string s2) rfl) 1 (.bool b2) (cs' := #[.string s2, .bool b2]) rfl)
  have hB := Aside0.mk (blk_far (blk_far (blk_put hB1.out 1 (.int .u64 n1) (cs' := #[.int .u64 n0, .int .u64 n1, .int .u64 0, .int .u64 0]) rfl) (p := ⟨B0, 0, none⟩) (Ne.symm g01) (.string s2)) (p := ⟨B0, 1, none⟩) (Ne.symm g01) (.bool b2))
  have hC := Aside0.mk (blk_far (blk_far (blk_far hC1.out (p := ⟨B1, 1, none⟩) (Ne.symm g12) (.int .u64 n1)) (p := ⟨B0, 0, none⟩) (Ne.symm g02) (.string s2)) (p := ⟨B0, 1, none⟩) (Ne.symm g02) (.bool b2))
  have HB := Aside0.mk (below_set (j := 1) (v := .bool b2) (below_set (j := 0) (v := .string s2) (below_set (j := 1) (v := .int .u64 n1) HB1.out GB.out) GA.out) GA.out)
  clear hA1 hB1 hC1 HB1
  generalize ((w1.setCell ⟨B1, 1, none⟩ (.int .u64 n1)).setCell ⟨B0, 0, none⟩ (.string s2)).setCell ⟨B0, 1, none⟩ (.bool b2) = W2 at *
  clear w1 W1
  rw [rounds_succ]
  have ca0 := (blk_cell hA.out 0).trans rfl
  have ca1 := (blk_cell hA.out 1).trans rfl
  go_wp2_with (go_at_call 51; refine (pack_Reader_Vary.calls k s2 b2 n2 s3 b3 _ A2.out).mono ?_; rintro e w1 ⟨rfl, hb⟩; clear ca0 ca1; have hA1 := Aside0.mk (blk_below hA.out hb); have hB1 := Aside0.mk (blk_below hB.out hb); have hC1 := Aside0.mk (blk_below hC.out hb); have HB1 := Aside0.mk (below_step HB.out hb); clear hA hB hC HB; clear hb; have fa0 := blk_frozen hA1.out 0; have fa1 := blk_frozen hA1.out 1; have ca0 := (blk_cell hA1.out 0).trans rfl; have ca1 := (blk_cell hA1.out 1).trans rfl; have fb := blk_frozen hB1.out 2; have cb := (blk_cell hB1.out 2).trans rfl)
  clear ca0 ca1 cb fa0 fa1 fb
  have hA := Aside0.mk (blk_put (blk_put (blk_far hA1.out (p := ⟨B1, 2, none⟩) g01 (.int .u64 n2)) 0 (.string s3) rfl) 1 (.bool b3) (cs' := #[.string s3, .bool b3]) rfl)
  have hB := Aside0.mk (blk_far (blk_far (blk_put hB1.out 2 (.int .u64 n2) (cs' := #[.int .u64 n0, .int .u64 n1, .int .u64 n2, .int .u64 0]) rfl) (p := ⟨B0, 0, none⟩) (Ne.symm g01) (.string s3)) (p := ⟨B0, 1, none⟩) (Ne.symm g01) (.bool b3))
  have hC := Aside0.mk (blk_far (blk_far (blk_far hC1.out (p := ⟨B1, 2, none⟩) (Ne.symm g12) (.int .u64 n2)) (p := ⟨B0, 0, none⟩) (Ne.symm g02) (.string s3)) (p := ⟨B0, 1, none⟩) (Ne.symm g02) (.bool b3))
  have HB := Aside0.mk (below_set (j := 1) (v := .bool b3) (below_set (j := 0) (v := .string s3) (below_set (j := 2) (v := .int .u64 n2) HB1.out GB.out) GA.out) GA.out)
  clear hA1 hB1 hC1 HB1
  generalize ((w1.setCell ⟨B1, 2, none⟩ (.int .u64 n2)).setCell ⟨B0, 0, none⟩ (.string s3)).setCell ⟨B0, 1, none⟩ (.bool b3) = W3 at *
  clear w1 W2
  rw [rounds_succ]
  have ca0 := (blk_cell hA.out 0).trans rfl
  have ca1 := (blk_cell hA.out 1).trans rfl
  go_wp2_with (go_at_call 51; refine (pack_Reader_Vary.calls k s3 b3 n3 s4 b4 _ A3.out).mono ?_; rintro e w1 ⟨rfl, hb⟩; clear ca0 ca1; have hA1 := Aside0.mk (blk_below hA.out hb); have hB1 := Aside0.mk (blk_below hB.out hb); have hC1 := Aside0.mk (blk_below hC.out hb); have HB1 := Aside0.mk (below_step HB.out hb); clear hA hB hC HB; clear hb; have fa0 := blk_frozen hA1.out 0; have fa1 := blk_frozen hA1.out 1; have ca0 := (blk_cell hA1.out 0).trans rfl; have ca1 := (blk_cell hA1.out 1).trans rfl; have fb := blk_frozen hB1.out 3; have cb := (blk_cell hB1.out 3).trans rfl)
  clear ca0 ca1 cb fa0 fa1 fb
  have hA := Aside0.mk (blk_put (blk_put (blk_far hA1.out (p := ⟨B1, 3, none⟩) g01 (.int .u64 n3)) 0 (.string s4) rfl) 1 (.bool b4) (cs' := #[.string s4, .bool b4]) rfl)
  have hB := Aside0.mk (blk_far (blk_far (blk_put hB1.out 3 (.int .u64 n3) (cs' := #[.int .u64 n0, .int .u64 n1, .int .u64 n2, .int .u64 n3]) rfl) (p := ⟨B0, 0, none⟩) (Ne.symm g01) (.string s4)) (p := ⟨B0, 1, none⟩) (Ne.symm g01) (.bool b4))
  have hC := Aside0.mk (blk_far (blk_far (blk_far hC1.out (p := ⟨B1, 3, none⟩) (Ne.symm g12) (.int .u64 n3)) (p := ⟨B0, 0, none⟩) (Ne.symm g02) (.string s4)) (p := ⟨B0, 1, none⟩) (Ne.symm g02) (.bool b4))
  have HB := Aside0.mk (below_set (j := 1) (v := .bool b4) (below_set (j := 0) (v := .string s4) (below_set (j := 3) (v := .int .u64 n3) HB1.out GB.out) GA.out) GA.out)
  clear hA1 hB1 hC1 HB1
  generalize ((w1.setCell ⟨B1, 3, none⟩ (.int .u64 n3)).setCell ⟨B0, 0, none⟩ (.string s4)).setCell ⟨B0, 1, none⟩ (.bool b4) = W4 at *
  clear w1 W3
  rw [rounds_succ]
  have fb0 := blk_frozen hB.out 0
  have fb1 := blk_frozen hB.out 1
  have fb2 := blk_frozen hB.out 2
  have fb3 := blk_frozen hB.out 3
  have cb0 := (blk_cell hB.out 0).trans rfl
  have cb1 := (blk_cell hB.out 1).trans rfl
  have cb2 := (blk_cell hB.out 2).trans rfl
  have cb3 := (blk_cell hB.out 3).trans rfl
  have fc0 := blk_frozen hC.out 0
  have fc1 := blk_frozen hC.out 1
  have cc0 := (blk_cell hC.out 0).trans rfl
  have cc1 := (blk_cell hC.out 1).trans rfl
  have ca0 := (blk_cell hA.out 0).trans rfl
  have ca1 := (blk_cell hA.out 1).trans rfl
  cases b4 with
  | true =>
    have h := HH.out
    rw [if_pos rfl] at h
    simp only [Option.some.injEq, Prod.mk.injEq] at h
    obtain ⟨rfl, rfl, rfl, rfl, rfl, rfl⟩ := h
    clear HH
    go_wp2
    clear fb0 fb1 fb2 fb3 cb0 cb1 cb2 cb3 fc0 fc1 cc0 cc1 ca0 ca1
    have hB1 := Aside0.mk (blk_far (blk_far (blk_put (blk_put (blk_put (blk_put hB.out 0 (.int .u64 0) rfl) 1 (.int .u64 0) rfl) 2 (.int .u64 0) rfl) 3 (.int .u64 0) (cs' := #[.int .u64 0, .int .u64 0, .int .u64 0, .int .u64 0]) rfl) (p := ⟨B2, 0, none⟩) g12 (.string (⟨#[]⟩ : ByteArray))) (p := ⟨B2, 1, none⟩) g12 (.bool true))
    have hC1 := Aside0.mk (blk_put (blk_put (blk_far (blk_far (blk_far (blk_far hC.out (p := ⟨B1, 0, none⟩) (Ne.symm g12) (.int .u64 0)) (p := ⟨B1, 1, none⟩) (Ne.symm g12) (.int .u64 0)) (p := ⟨B1, 2, none⟩) (Ne.symm g12) (.int .u64 0)) (p := ⟨B1, 3, none⟩) (Ne.symm g12) (.int .u64 0)) 0 (.string (⟨#[]⟩ : ByteArray)) rfl) 1 (.bool true) (cs' := #[.string (⟨#[]⟩ : ByteArray), .bool true]) rfl)
    have HB1 := Aside0.mk (below_set (j := 1) (v := .bool true) (below_set (j := 0) (v := .string (⟨#[]⟩ : ByteArray)) (below_set (j := 3) (v := .int .u64 0) (below_set (j := 2) (v := .int .u64 0) (below_set (j := 1) (v := .int .u64 0) (below_set (j := 0) (v := .int .u64 0) HB.out GB.out) GB.out) GB.out) GB.out) GC.out) GC.out)
    clear hA hB hC HB
    generalize ((((((W4.setCell ⟨B1, 0, none⟩ (.int .u64 0)).setCell ⟨B1, 1, none⟩ (.int .u64 0)).setCell ⟨B1, 2, none⟩ (.int .u64 0)).setCell ⟨B1, 3, none⟩ (.int .u64 0)).setCell ⟨B2, 0, none⟩ (.string (⟨#[]⟩ : ByteArray))).setCell ⟨B2, 1, none⟩ (.bool true)) = W9 at *
    have d0 := (blk_cell hB1.out 0).trans rfl
    have d1 := (blk_cell hB1.out 1).trans rfl
    have d2 := (blk_cell hB1.out 2).trans rfl
    have d3 := (blk_cell hB1.out 3).trans rfl
    have d4 := (blk_cell hC1.out 0).trans rfl
    have d5 := (blk_cell hC1.out 1).trans rfl
    refine bodyPost_ret (v := .tuple #[.agg #[.int .u64 0, .int .u64 0, .int .u64 0, .int .u64 0], .agg #[.string (⟨#[]⟩ : ByteArray), .bool true]]) (by simp [results, Try.results42, go_sem, hu, hu2, hu3, d0, d1, d2, d3, d4, d5]) rfl ⟨rfl, HB1.out⟩
  | false =>
    have h := HH.out
    rw [if_neg (by simp)] at h
    obtain ⟨t, A4, h⟩ := Option.bind_eq_some_iff.1 h
    replace A4 := Aside0.mk A4
    clear HH
    cases t with
    | false =>
      rw [if_neg (by simp)] at h
      simp only [Option.some.injEq, Prod.mk.injEq] at h
      obtain ⟨rfl, rfl, rfl, rfl, rfl, rfl⟩ := h
      go_wp2_with (go_at_call 25; refine (vec_Right.calls n0 n1 n2 n3 false _ A4.out).mono ?_; rintro e w1 ⟨rfl, hb⟩; clear fb0 fb1 fb2 fb3 cb0 cb1 cb2 cb3 fc0 fc1 cc0 cc1 ca0 ca1; have hA1 := Aside0.mk (blk_below hA.out hb); have hB1 := Aside0.mk (blk_below hB.out hb); have hC1 := Aside0.mk (blk_below hC.out hb); have HB1 := Aside0.mk (below_step HB.out hb); clear hA hB hC HB; clear hb; have hA := hA1; have hB := hB1; have hC := hC1; have HB := HB1; clear hA1 hB1 hC1 HB1; have fb0 := blk_frozen hB.out 0; have fb1 := blk_frozen hB.out 1; have fb2 := blk_frozen hB.out 2; have fb3 := blk_frozen hB.out 3; have cb0 := (blk_cell hB.out 0).trans rfl; have cb1 := (blk_cell hB.out 1).trans rfl; have cb2 := (blk_cell hB.out 2).trans rfl; have cb3 := (blk_cell hB.out 3).trans rfl; have fc0 := blk_frozen hC.out 0; have fc1 := blk_frozen hC.out 1; have cc0 := (blk_cell hC.out 0).trans rfl; have cc1 := (blk_cell hC.out 1).trans rfl; have ca0 := (blk_cell hA.out 0).trans rfl; have ca1 := (blk_cell hA.out 1).trans rfl)
      clear fb0 fb1 fb2 fb3 cb0 cb1 cb2 cb3 fc0 fc1 cc0 cc1 ca0 ca1
      have hB1 := Aside0.mk (blk_far (blk_far (blk_put (blk_put (blk_put (blk_put hB.out 0 (.int .u64 0) rfl) 1 (.int .u64 0) rfl) 2 (.int .u64 0) rfl) 3 (.int .u64 0) (cs' := #[.int .u64 0, .int .u64 0, .int .u64 0, .int .u64 0]) rfl) (p := ⟨B2, 0, none⟩) g12 (.string (⟨#[]⟩ : ByteArray))) (p := ⟨B2, 1, none⟩) g12 (.bool true))
      have hC1 := Aside0.mk (blk_put (blk_put (blk_far (blk_far (blk_far (blk_far hC.out (p := ⟨B1, 0, none⟩) (Ne.symm g12) (.int .u64 0)) (p := ⟨B1, 1, none⟩) (Ne.symm g12) (.int .u64 0)) (p := ⟨B1, 2, none⟩) (Ne.symm g12) (.int .u64 0)) (p := ⟨B1, 3, none⟩) (Ne.symm g12) (.int .u64 0)) 0 (.string (⟨#[]⟩ : ByteArray)) rfl) 1 (.bool true) (cs' := #[.string (⟨#[]⟩ : ByteArray), .bool true]) rfl)
      have HB1 := Aside0.mk (below_set (j := 1) (v := .bool true) (below_set (j := 0) (v := .string (⟨#[]⟩ : ByteArray)) (below_set (j := 3) (v := .int .u64 0) (below_set (j := 2) (v := .int .u64 0) (below_set (j := 1) (v := .int .u64 0) (below_set (j := 0) (v := .int .u64 0) HB.out GB.out) GB.out) GB.out) GB.out) GC.out) GC.out)
      clear hA hB hC HB
      generalize ((((((w1.setCell ⟨B1, 0, none⟩ (.int .u64 0)).setCell ⟨B1, 1, none⟩ (.int .u64 0)).setCell ⟨B1, 2, none⟩ (.int .u64 0)).setCell ⟨B1, 3, none⟩ (.int .u64 0)).setCell ⟨B2, 0, none⟩ (.string (⟨#[]⟩ : ByteArray))).setCell ⟨B2, 1, none⟩ (.bool true)) = W9 at *
      have d0 := (blk_cell hB1.out 0).trans rfl
      have d1 := (blk_cell hB1.out 1).trans rfl
      have d2 := (blk_cell hB1.out 2).trans rfl
      have d3 := (blk_cell hB1.out 3).trans rfl
      have d4 := (blk_cell hC1.out 0).trans rfl
      have d5 := (blk_cell hC1.out 1).trans rfl
      refine bodyPost_ret (v := .tuple #[.agg #[.int .u64 0, .int .u64 0, .int .u64 0, .int .u64 0], .agg #[.string (⟨#[]⟩ : ByteArray), .bool true]]) (by simp [results, Try.results42, go_sem, hu, hu2, hu3, d0, d1, d2, d3, d4, d5]) rfl ⟨rfl, HB1.out⟩
    | true =>
      rw [if_pos rfl] at h
      simp only [Option.some.injEq, Prod.mk.injEq] at h
      obtain ⟨rfl, rfl, rfl, rfl, rfl, rfl⟩ := h
      go_wp2_with (go_at_call 25; refine (vec_Right.calls n0 n1 n2 n3 true _ A4.out).mono ?_; rintro e w1 ⟨rfl, hb⟩; clear fb0 fb1 fb2 fb3 cb0 cb1 cb2 cb3 fc0 fc1 cc0 cc1 ca0 ca1; have hA1 := Aside0.mk (blk_below hA.out hb); have hB1 := Aside0.mk (blk_below hB.out hb); have hC1 := Aside0.mk (blk_below hC.out hb); have HB1 := Aside0.mk (below_step HB.out hb); clear hA hB hC HB; clear hb; have hA := hA1; have hB := hB1; have hC := hC1; have HB := HB1; clear hA1 hB1 hC1 HB1; have fb0 := blk_frozen hB.out 0; have fb1 := blk_frozen hB.out 1; have fb2 := blk_frozen hB.out 2; have fb3 := blk_frozen hB.out 3; have cb0 := (blk_cell hB.out 0).trans rfl; have cb1 := (blk_cell hB.out 1).trans rfl; have cb2 := (blk_cell hB.out 2).trans rfl; have cb3 := (blk_cell hB.out 3).trans rfl; have fc0 := blk_frozen hC.out 0; have fc1 := blk_frozen hC.out 1; have cc0 := (blk_cell hC.out 0).trans rfl; have cc1 := (blk_cell hC.out 1).trans rfl; have ca0 := (blk_cell hA.out 0).trans rfl; have ca1 := (blk_cell hA.out 1).trans rfl)
      go_region
      go_wp2
      clear fb0 fb1 fb2 fb3 cb0 cb1 cb2 cb3 fc0 fc1 cc0 cc1 ca0 ca1
      have hB1 := Aside0.mk (blk_drew (blk_far (blk_far (blk_put (blk_put (blk_put (blk_put hB.out 0 (.int .u64 n0) rfl) 1 (.int .u64 n1) rfl) 2 (.int .u64 n2) rfl) 3 (.int .u64 n3) (cs' := #[.int .u64 n0, .int .u64 n1, .int .u64 n2, .int .u64 n3]) rfl) (p := ⟨B2, 0, none⟩) g12 (.string s4)) (p := ⟨B2, 1, none⟩) g12 (.bool false)))
      have hC1 := Aside0.mk (blk_drew (blk_put (blk_put (blk_far (blk_far (blk_far (blk_far hC.out (p := ⟨B1, 0, none⟩) (Ne.symm g12) (.int .u64 n0)) (p := ⟨B1, 1, none⟩) (Ne.symm g12) (.int .u64 n1)) (p := ⟨B1, 2, none⟩) (Ne.symm g12) (.int .u64 n2)) (p := ⟨B1, 3, none⟩) (Ne.symm g12) (.int .u64 n3)) 0 (.string s4) rfl) 1 (.bool false) (cs' := #[.string s4, .bool false]) rfl))
      have HB1 := Aside0.mk (below_drew1 (below_set (j := 1) (v := .bool false) (below_set (j := 0) (v := .string s4) (below_set (j := 3) (v := .int .u64 n3) (below_set (j := 2) (v := .int .u64 n2) (below_set (j := 1) (v := .int .u64 n1) (below_set (j := 0) (v := .int .u64 n0) HB.out GB.out) GB.out) GB.out) GB.out) GC.out) GC.out))
      clear hA hB hC HB
      generalize ((((((w1.setCell ⟨B1, 0, none⟩ (.int .u64 n0)).setCell ⟨B1, 1, none⟩ (.int .u64 n1)).setCell ⟨B1, 2, none⟩ (.int .u64 n2)).setCell ⟨B1, 3, none⟩ (.int .u64 n3)).setCell ⟨B2, 0, none⟩ (.string s4)).setCell ⟨B2, 1, none⟩ (.bool false)).drew = W9 at *
      have d0 := (blk_cell hB1.out 0).trans rfl
      have d1 := (blk_cell hB1.out 1).trans rfl
      have d2 := (blk_cell hB1.out 2).trans rfl
      have d3 := (blk_cell hB1.out 3).trans rfl
      have d4 := (blk_cell hC1.out 0).trans rfl
      have d5 := (blk_cell hC1.out 1).trans rfl
      refine bodyPost_ret (v := .tuple #[.agg #[.int .u64 n0, .int .u64 n1, .int .u64 n2, .int .u64 n3], .agg #[.string s4, .bool false]]) (by simp [results, Try.results42, go_sem, hu, hu2, hu3, d0, d1, d2, d3, d4, d5]) rfl ⟨rfl, HB1.out⟩


end Go.Proofs.Ytplgbkobpanbfaa.Q

-- Written by this session's own driver (wip/hybrid.py) of the kit's printer; contracts marked FOREIGN are by hand.
namespace Go.Proofs.Ytplgbkobpanbfaa.Q
open Go.RowKit Go.Proofs.YtplgbkobpanbfaaW.PrintWords Go.Proofs.YtplgbkobpanbfaaW.PrintLast Go.Proofs.YtplgbkobpanbfaaW.PrintMore
attribute [local go_sem] max2_int min2_int max_two min_two max_three min_three max_four min_four   -- for this text's walks alone
set_option linter.unusedVariables false
set_option linter.unusedSimpArgs false

/-! ### gate_Read: function 23 -/
def gate_Read.f (k : Nat) (a0 : ByteArray) : Option (Int × ByteArray × Bool × Int × Int × Int × Int × Bool) := (pack_Reader_Number.f a0 false 1).bind fun bt157 => ((pack_Reader_Number.f bt157.2.1 bt157.2.2 1).bind fun bt161 => ((pack_Reader_Text.f k bt161.2.1 bt161.2.2 64).bind fun bt164 => ((vec_Get.f k bt164.2.1 bt164.2.2).bind fun bt167 => ((pack_Reader_Done.f bt167.2.2.2.2.1 bt167.2.2.2.2.2).bind fun t173 => (if t173 = true then (if bt161.1 > 1 then (some (0, (⟨#[]⟩ : ByteArray), false, 0, 0, 0, 0, false)) else (some (wrap64 (bt157.1), bt164.1, (bt161.1 == 1), bt167.1, bt167.2.1, bt167.2.2.1, bt167.2.2.2.1, true))) else (some (0, (⟨#[]⟩ : ByteArray), false, 0, 0, 0, 0, false)))))))
theorem gate_Read.mono : ∀ a0 k, LeO (gate_Read.f k a0) (gate_Read.f (k + 1) a0) := by
  intro a0 k
  unfold gate_Read.f
  repeat' first
      | (with_reducible exact pack_Reader_Text.mono _ _ _ _)
      | (with_reducible exact vec_Get.mono _ _ _)
      | (with_reducible exact LeO.refl _)
      | (with_reducible exact LeO.none _)
      | (with_reducible refine LeO.ite ?_ ?_)
      | (with_reducible refine LeO.bind ?_ (fun _ => ?_))
      | exact pack_Reader_Text.mono _ _ _ _
      | exact vec_Get.mono _ _ _
      | exact LeO.none _
      | refine LeO.ite ?_ ?_
      | refine LeO.bind ?_ (fun _ => ?_)
set_option maxHeartbeats 8000000 in
set_option maxRecDepth 100000 in
theorem gate_Read.calls (k : Nat) (a0 : ByteArray) (r1 : Int) (r2 : ByteArray) (r3 : Bool) (r4 : Int) (r5 : Int) (r6 : Int) (r7 : Int) (r8 : Bool) (w : World) (h : gate_Read.f k a0 = some (r1, r2, r3, r4, r5, r6, r7, r8)) :
    Calls Try.prog 23 #[.string a0] w fun e w' => e = .returned (.tuple #[.agg #[.int .i64 r1, .string r2, .bool r3, .int .u64 r4, .int .u64 r5, .int .u64 r6, .int .u64 r7], .bool r8]) ∧ Below w.heap.size w w' := by
  have hu41 := Try.underlying41
  have hu81 := Try.underlying81
  have hu28 := Try.underlying28
  have HB := Aside0.mk (Below.refl w.heap.size w)
  have H : ((pack_Reader_Number.f a0 false 1).bind fun bt157 => ((pack_Reader_Number.f bt157.2.1 bt157.2.2 1).bind fun bt161 => ((pack_Reader_Text.f k bt161.2.1 bt161.2.2 64).bind fun bt164 => ((vec_Get.f k bt164.2.1 bt164.2.2).bind fun bt167 => ((pack_Reader_Done.f bt167.2.2.2.2.1 bt167.2.2.2.2.2).bind fun t173 => (if t173 = true then (if bt161.1 > 1 then (some (0, (⟨#[]⟩ : ByteArray), false, 0, 0, 0, 0, false)) else (some (wrap64 (bt157.1), bt164.1, (bt161.1 == 1), bt167.1, bt167.2.1, bt167.2.2.1, bt167.2.2.2.1, true))) else (some (0, (⟨#[]⟩ : ByteArray), false, 0, 0, 0, 0, false)))))))) = some (r1, r2, r3, r4, r5, r6, r7, r8) := h
  clear h
  replace H := Option.bind_eq_some_iff.mp H
  obtain ⟨⟨t157, t158, t159⟩, A20, H⟩ := H
  replace H : ((pack_Reader_Number.f t158 t159 1).bind fun bt161 => ((pack_Reader_Text.f k bt161.2.1 bt161.2.2 64).bind fun bt164 => ((vec_Get.f k bt164.2.1 bt164.2.2).bind fun bt167 => ((pack_Reader_Done.f bt167.2.2.2.2.1 bt167.2.2.2.2.2).bind fun t173 => (if t173 = true then (if bt161.1 > 1 then (some (0, (⟨#[]⟩ : ByteArray), false, 0, 0, 0, 0, false)) else (some (wrap64 (t157), bt164.1, (bt161.1 == 1), bt167.1, bt167.2.1, bt167.2.2.1, bt167.2.2.2.1, true))) else (some (0, (⟨#[]⟩ : ByteArray), false, 0, 0, 0, 0, false))))))) = some (r1, r2, r3, r4, r5, r6, r7, r8) := H
  have A2 := Aside0.mk A20
  clear A20
  replace H := Option.bind_eq_some_iff.mp H
  obtain ⟨⟨t161, t162, t163⟩, A30, H⟩ := H
  replace H : ((pack_Reader_Text.f k t162 t163 64).bind fun bt164 => ((vec_Get.f k bt164.2.1 bt164.2.2).bind fun bt167 => ((pack_Reader_Done.f bt167.2.2.2.2.1 bt167.2.2.2.2.2).bind fun t173 => (if t173 = true then (if t161 > 1 then (some (0, (⟨#[]⟩ : ByteArray), false, 0, 0, 0, 0, false)) else (some (wrap64 (t157), bt164.1, (t161 == 1), bt167.1, bt167.2.1, bt167.2.2.1, bt167.2.2.2.1, true))) else (some (0, (⟨#[]⟩ : ByteArray), false, 0, 0, 0, 0, false)))))) = some (r1, r2, r3, r4, r5, r6, r7, r8) := H
  have A3 := Aside0.mk A30
  clear A30
  replace H := Option.bind_eq_some_iff.mp H
  obtain ⟨⟨t164, t165, t166⟩, A40, H⟩ := H
  replace H : ((vec_Get.f k t165 t166).bind fun bt167 => ((pack_Reader_Done.f bt167.2.2.2.2.1 bt167.2.2.2.2.2).bind fun t173 => (if t173 = true then (if t161 > 1 then (some (0, (⟨#[]⟩ : ByteArray), false, 0, 0, 0, 0, false)) else (some (wrap64 (t157), t164, (t161 == 1), bt167.1, bt167.2.1, bt167.2.2.1, bt167.2.2.2.1, true))) else (some (0, (⟨#[]⟩ : ByteArray), false, 0, 0, 0, 0, false))))) = some (r1, r2, r3, r4, r5, r6, r7, r8) := H
  have A4 := Aside0.mk A40
  clear A40
  replace H := Option.bind_eq_some_iff.mp H
  obtain ⟨⟨t167, t168, t169, t170, t171, t172⟩, A50, H⟩ := H
  replace H : ((pack_Reader_Done.f t171 t172).bind fun t173 => (if t173 = true then (if t161 > 1 then (some (0, (⟨#[]⟩ : ByteArray), false, 0, 0, 0, 0, false)) else (some (wrap64 (t157), t164, (t161 == 1), t167, t168, t169, t170, true))) else (some (0, (⟨#[]⟩ : ByteArray), false, 0, 0, 0, 0, false)))) = some (r1, r2, r3, r4, r5, r6, r7, r8) := H
  have A5 := Aside0.mk A50
  clear A50
  replace H := Option.bind_eq_some_iff.mp H
  obtain ⟨t173, A60, H⟩ := H
  replace H : (if t173 = true then (if t161 > 1 then (some (0, (⟨#[]⟩ : ByteArray), false, 0, 0, 0, 0, false)) else (some (wrap64 (t157), t164, (t161 == 1), t167, t168, t169, t170, true))) else (some (0, (⟨#[]⟩ : ByteArray), false, 0, 0, 0, 0, false))) = some (r1, r2, r3, r4, r5, r6, r7, r8) := H
  have A6 := Aside0.mk A60
  clear A60
  by_cases c7 : t173 = true
  rotate_left
  · replace c7 := Bool.eq_false_iff.mpr c7
    subst c7
    have H1 : (some (0, (⟨#[]⟩ : ByteArray), false, 0, 0, 0, 0, false)) = some (r1, r2, r3, r4, r5, r6, r7, r8) := by rw [if_neg (show ¬ (false = true) by decide)] at H; exact H
    clear H
    have H := H1
    clear H1
    simp only [Option.some.injEq, Prod.mk.injEq] at H
    obtain ⟨rfl, rfl, rfl, rfl, rfl, rfl, rfl, rfl⟩ := H
    go_enter Try.func23, Try.ntmps23
    go_wp2_with (first | ((with_reducible refine gate_dst (N := 2) rfl ?_); refine box_event ?hg (N := 2) ?hd (cs := #[.int .i64 0, .string (⟨#[]⟩ : ByteArray), .bool false, .int .u64 0, .int .u64 0, .int .u64 0, .int .u64 0]) (t := 41) ?hr ?_; (case hd => rfl); (case hg => rfl); (case hr => first | (go_simp; done) | (go_simp; rfl)); intro gb156 hg w39 hbox hb; have BK156 := Aside0.mk (hbox); have GW156 := Kw_ HB hg; have GE156 := GW156; replace HB := Ks_ HB hb; clear hb hbox hg) | ((with_reducible refine gate_callee (f := 37) rfl ?_); refine goesL_ (some 10) rfl rfl Try.func37 (by kernel_rfl) rfl #[.agg #[.string a0, .bool false], .int .i64 1] rfl (by (try simp only [List.map_toArray, List.map_cons, List.map_nil]); first | done | rfl | (simp only [List.length_drop, List.length_take]; rfl)) ?_; (with_reducible refine (pack_Reader_Number.calls a0 false 1 t157 t158 t159 _ A2.out).mono ?_); rintro e w40 ⟨rfl, hb⟩; refine ⟨_, rfl, ?_⟩; replace BK156 := Kb_ BK156 hb; replace HB := Ks_ HB hb; (try clear hb); (try clear hb2); (try clear hk); (try clear hi)) | ((with_reducible refine gate_dst (N := 5) rfl ?_); refine box_event ?hg (N := 5) ?hd (cs := #[.string (⟨#[]⟩ : ByteArray), .bool false]) (t := 81) ?hr ?_; (case hd => rfl); (case hg => rfl); (case hr => first | (go_simp; done) | (go_simp; rfl)); intro gb160 hg w41 hbox hb; have BK160 := Aside0.mk (hbox); have GW160 := Kw_ HB hg; have GE160 := GW160; have NB156_160 := Kl_ BK156 hg; have NB160_156 := Kr_ BK156 hg; replace BK156 := Kb_ BK156 hb; replace HB := Ks_ HB hb; clear hb hbox hg; have hnb42 := NB160_156.out; have hnc42 := NB156_160.out; obtain ⟨hcz43_0, hcz43_1, hfz43_0, hfz43_1⟩ := Ke2_ BK160.out) | ((with_reducible refine gate_callee (f := 37) rfl ?_); refine goesL_ (some 15) rfl rfl Try.func37 (by kernel_rfl) rfl #[.agg #[.string t158, .bool t159], .int .i64 1] rfl (by (try simp only [List.map_toArray, List.map_cons, List.map_nil]); first | done | rfl | (simp only [List.length_drop, List.length_take]; rfl)) ?_; (with_reducible refine (pack_Reader_Number.calls t158 t159 1 t161 t162 t163 _ A3.out).mono ?_); rintro e w44 ⟨rfl, hb⟩; refine ⟨_, rfl, ?_⟩; replace BK156 := Kf_ BK156 NB156_160 hb; replace BK160 := Aside0.mk (blk_below (g := gb160) (o := .cells #[.string t158, .bool t159] 81 (0, 0)) (by (with_reducible repeat (first | refine blk_drewN ?_ _ | refine blk_drew ?_ | refine blk_alloc ?_ _)); refine blk_put (cs := #[.string t158, .bool false]) ?_ 1 _ rfl; (with_reducible repeat (first | refine blk_drewN ?_ _ | refine blk_drew ?_ | refine blk_alloc ?_ _)); refine blk_put (cs := #[.string (⟨#[]⟩ : ByteArray), .bool false]) ?_ 0 _ rfl; (with_reducible repeat (first | refine blk_drewN ?_ _ | refine blk_drew ?_ | refine blk_alloc ?_ _)); exact BK160.out) hb); replace HB := Kt_ HB GE160 hb; (try clear hb); (try clear hb2); (try clear hk); (try clear hi); obtain ⟨hcz45_0, hcz45_1, hfz45_0, hfz45_1⟩ := Ke2_ BK160.out) | ((with_reducible refine gate_callee (f := 36) rfl ?_); refine goesL_ (some 20) rfl rfl Try.func36 (by kernel_rfl) rfl #[.agg #[.string t162, .bool t163], .int .i64 64] rfl (by (try simp only [List.map_toArray, List.map_cons, List.map_nil]); first | done | rfl | (simp only [List.length_drop, List.length_take]; rfl)) ?_; (with_reducible refine (pack_Reader_Text.calls k t162 t163 64 t164 t165 t166 _ A4.out).mono ?_); rintro e w46 ⟨rfl, hb⟩; refine ⟨_, rfl, ?_⟩; replace BK156 := Kf_ BK156 NB156_160 hb; replace BK160 := Aside0.mk (blk_below (g := gb160) (o := .cells #[.string t162, .bool t163] 81 (0, 0)) (by (with_reducible repeat (first | refine blk_drewN ?_ _ | refine blk_drew ?_ | refine blk_alloc ?_ _)); refine blk_put (cs := #[.string t162, .bool t159]) ?_ 1 _ rfl; (with_reducible repeat (first | refine blk_drewN ?_ _ | refine blk_drew ?_ | refine blk_alloc ?_ _)); refine blk_put (cs := #[.string t158, .bool t159]) ?_ 0 _ rfl; (with_reducible repeat (first | refine blk_drewN ?_ _ | refine blk_drew ?_ | refine blk_alloc ?_ _)); exact BK160.out) hb); replace HB := Kt_ HB GE160 hb; (try clear hb); (try clear hb2); (try clear hk); (try clear hi); obtain ⟨hcz47_0, hcz47_1, hcz47_2, hcz47_3, hcz47_4, hcz47_5, hcz47_6, hfz47_0, hfz47_1, hfz47_2, hfz47_3, hfz47_4, hfz47_5, hfz47_6⟩ := Ke7_ BK156.out; obtain ⟨hcz48_0, hcz48_1, hfz48_0, hfz48_1⟩ := Ke2_ BK160.out) | ((with_reducible refine gate_callee (f := 42) rfl ?_); refine goesL_ (some 26) rfl rfl Try.func42 (by kernel_rfl) rfl #[.agg #[.string t165, .bool t166]] rfl (by (try simp only [List.map_toArray, List.map_cons, List.map_nil]); first | done | rfl | (simp only [List.length_drop, List.length_take]; rfl)) ?_; (with_reducible refine (vec_Get.calls k t165 t166 t167 t168 t169 t170 t171 t172 _ A5.out).mono ?_); rintro e w49 ⟨rfl, hb⟩; refine ⟨_, rfl, ?_⟩; replace BK156 := Aside0.mk (blk_below (g := gb156) (o := .cells #[.int .i64 0, .string t164, .bool false, .int .u64 0, .int .u64 0, .int .u64 0, .int .u64 0] 41 (0, 0)) (by (repeat (first | (with_reducible first | refine blk_drewN ?_ _ | refine blk_drew ?_ | refine blk_alloc ?_ _) | refine blk_far ?_ NB156_160.out _)); refine blk_put (cs := #[.int .i64 0, .string (⟨#[]⟩ : ByteArray), .bool false, .int .u64 0, .int .u64 0, .int .u64 0, .int .u64 0]) ?_ 1 _ rfl; (with_reducible repeat (first | refine blk_drewN ?_ _ | refine blk_drew ?_ | refine blk_alloc ?_ _)); exact BK156.out) hb); replace BK160 := Aside0.mk (blk_below (g := gb160) (o := .cells #[.string t165, .bool t166] 81 (0, 0)) (by (with_reducible repeat (first | refine blk_drewN ?_ _ | refine blk_drew ?_ | refine blk_alloc ?_ _)); refine blk_put (cs := #[.string t165, .bool t163]) ?_ 1 _ rfl; (with_reducible repeat (first | refine blk_drewN ?_ _ | refine blk_drew ?_ | refine blk_alloc ?_ _)); refine blk_put (cs := #[.string t162, .bool t163]) ?_ 0 _ rfl; (repeat (first | (with_reducible first | refine blk_drewN ?_ _ | refine blk_drew ?_ | refine blk_alloc ?_ _) | refine blk_far ?_ NB160_156.out _)); exact BK160.out) hb); replace HB := Aside0.mk (below_step (by repeat (first | (with_reducible first | exact HB.out | apply below_alloc | apply pw_below_drewN | apply below_drew1 | refine below_set ?_ GE156.out | refine below_set ?_ GE160.out) | exact HB.out)) hb); (try clear hb); (try clear hb2); (try clear hk); (try clear hi); obtain ⟨hcz50_0, hcz50_1, hcz50_2, hcz50_3, hcz50_4, hcz50_5, hcz50_6, hfz50_0, hfz50_1, hfz50_2, hfz50_3, hfz50_4, hfz50_5, hfz50_6⟩ := Ke7_ BK156.out; obtain ⟨hcz51_0, hcz51_1, hfz51_0, hfz51_1⟩ := Ke2_ BK160.out) | ((with_reducible refine gate_callee (f := 38) rfl ?_); refine goesL_ (some 37) rfl rfl Try.func38 (by kernel_rfl) rfl #[.agg #[.string t171, .bool t172]] rfl (by (try simp only [List.map_toArray, List.map_cons, List.map_nil]); first | done | rfl | (simp only [List.length_drop, List.length_take]; rfl)) ?_; (with_reducible refine (pack_Reader_Done.calls t171 t172 false _ A6.out).mono ?_); rintro e w52 ⟨rfl, hb⟩; refine ⟨_, rfl, ?_⟩; replace BK156 := Aside0.mk (blk_below (g := gb156) (o := .cells #[.int .i64 (wrap64 (t157)), .string t164, .bool (t161 == 1), .int .u64 t167, .int .u64 t168, .int .u64 t169, .int .u64 t170] 41 (0, 0)) (by (with_reducible repeat (first | refine blk_drewN ?_ _ | refine blk_drew ?_ | refine blk_alloc ?_ _)); refine blk_put (cs := #[.int .i64 (wrap64 (t157)), .string t164, .bool false, .int .u64 t167, .int .u64 t168, .int .u64 t169, .int .u64 t170]) ?_ 2 _ rfl; (with_reducible repeat (first | refine blk_drewN ?_ _ | refine blk_drew ?_ | refine blk_alloc ?_ _)); refine blk_put (cs := #[.int .i64 0, .string t164, .bool false, .int .u64 t167, .int .u64 t168, .int .u64 t169, .int .u64 t170]) ?_ 0 _ rfl; (repeat (first | (with_reducible first | refine blk_drewN ?_ _ | refine blk_drew ?_ | refine blk_alloc ?_ _) | refine blk_far ?_ NB156_160.out _)); refine blk_put (cs := #[.int .i64 0, .string t164, .bool false, .int .u64 t167, .int .u64 t168, .int .u64 t169, .int .u64 0]) ?_ 6 _ rfl; (with_reducible repeat (first | refine blk_drewN ?_ _ | refine blk_drew ?_ | refine blk_alloc ?_ _)); refine blk_put (cs := #[.int .i64 0, .string t164, .bool false, .int .u64 t167, .int .u64 t168, .int .u64 0, .int .u64 0]) ?_ 5 _ rfl; (with_reducible repeat (first | refine blk_drewN ?_ _ | refine blk_drew ?_ | refine blk_alloc ?_ _)); refine blk_put (cs := #[.int .i64 0, .string t164, .bool false, .int .u64 t167, .int .u64 0, .int .u64 0, .int .u64 0]) ?_ 4 _ rfl; (with_reducible repeat (first | refine blk_drewN ?_ _ | refine blk_drew ?_ | refine blk_alloc ?_ _)); refine blk_put (cs := #[.int .i64 0, .string t164, .bool false, .int .u64 0, .int .u64 0, .int .u64 0, .int .u64 0]) ?_ 3 _ rfl; (with_reducible repeat (first | refine blk_drewN ?_ _ | refine blk_drew ?_ | refine blk_alloc ?_ _)); exact BK156.out) hb); replace BK160 := Aside0.mk (blk_below (g := gb160) (o := .cells #[.string t171, .bool t172] 81 (0, 0)) (by (repeat (first | (with_reducible first | refine blk_drewN ?_ _ | refine blk_drew ?_ | refine blk_alloc ?_ _) | refine blk_far ?_ NB160_156.out _)); refine blk_put (cs := #[.string t171, .bool t166]) ?_ 1 _ rfl; (with_reducible repeat (first | refine blk_drewN ?_ _ | refine blk_drew ?_ | refine blk_alloc ?_ _)); refine blk_put (cs := #[.string t165, .bool t166]) ?_ 0 _ rfl; (repeat (first | (with_reducible first | refine blk_drewN ?_ _ | refine blk_drew ?_ | refine blk_alloc ?_ _) | refine blk_far ?_ NB160_156.out _)); exact BK160.out) hb); replace HB := Aside0.mk (below_step (by repeat (first | (with_reducible first | exact HB.out | apply below_alloc | apply pw_below_drewN | apply below_drew1 | refine below_set ?_ GE156.out | refine below_set ?_ GE160.out) | exact HB.out)) hb); (try clear hb); (try clear hb2); (try clear hk); (try clear hi); obtain ⟨hcz53_0, hcz53_1, hcz53_2, hcz53_3, hcz53_4, hcz53_5, hcz53_6, hfz53_0, hfz53_1, hfz53_2, hfz53_3, hfz53_4, hfz53_5, hfz53_6⟩ := Ke7_ BK156.out))
    refine bodyPost_ret (results_ct rfl _ _ gb156 41 #[.int .i64 0, .string (⟨#[]⟩ : ByteArray), .bool false, .int .u64 0, .int .u64 0, .int .u64 0, .int .u64 0] (0, 0) _ rfl (by (with_reducible repeat (first | refine blk_drewN ?_ _ | refine blk_drew ?_ | refine blk_alloc ?_ _)); refine blk_put (cs := #[.int .i64 0, .string (⟨#[]⟩ : ByteArray), .bool false, .int .u64 0, .int .u64 0, .int .u64 0, .int .u64 t170]) ?_ 6 _ rfl; (with_reducible repeat (first | refine blk_drewN ?_ _ | refine blk_drew ?_ | refine blk_alloc ?_ _)); refine blk_put (cs := #[.int .i64 0, .string (⟨#[]⟩ : ByteArray), .bool false, .int .u64 0, .int .u64 0, .int .u64 t169, .int .u64 t170]) ?_ 5 _ rfl; (with_reducible repeat (first | refine blk_drewN ?_ _ | refine blk_drew ?_ | refine blk_alloc ?_ _)); refine blk_put (cs := #[.int .i64 0, .string (⟨#[]⟩ : ByteArray), .bool false, .int .u64 0, .int .u64 t168, .int .u64 t169, .int .u64 t170]) ?_ 4 _ rfl; (with_reducible repeat (first | refine blk_drewN ?_ _ | refine blk_drew ?_ | refine blk_alloc ?_ _)); refine blk_put (cs := #[.int .i64 0, .string (⟨#[]⟩ : ByteArray), .bool false, .int .u64 t167, .int .u64 t168, .int .u64 t169, .int .u64 t170]) ?_ 3 _ rfl; (with_reducible repeat (first | refine blk_drewN ?_ _ | refine blk_drew ?_ | refine blk_alloc ?_ _)); refine blk_put (cs := #[.int .i64 0, .string (⟨#[]⟩ : ByteArray), .bool (t161 == 1), .int .u64 t167, .int .u64 t168, .int .u64 t169, .int .u64 t170]) ?_ 2 _ rfl; (with_reducible repeat (first | refine blk_drewN ?_ _ | refine blk_drew ?_ | refine blk_alloc ?_ _)); refine blk_put (cs := #[.int .i64 0, .string t164, .bool (t161 == 1), .int .u64 t167, .int .u64 t168, .int .u64 t169, .int .u64 t170]) ?_ 1 _ rfl; (with_reducible repeat (first | refine blk_drewN ?_ _ | refine blk_drew ?_ | refine blk_alloc ?_ _)); refine blk_put (cs := #[.int .i64 (wrap64 (t157)), .string t164, .bool (t161 == 1), .int .u64 t167, .int .u64 t168, .int .u64 t169, .int .u64 t170]) ?_ 0 _ rfl; (with_reducible repeat (first | refine blk_drewN ?_ _ | refine blk_drew ?_ | refine blk_alloc ?_ _)); exact BK156.out) Try.underlying41 rfl (by kernel_rfl)) rfl ?_
    exact ⟨by first | rfl | (simp [errW_none, errW_some] <;> rfl) | (simp [*, errW_none, errW_some] <;> rfl), by repeat (first | (with_reducible first | exact HB.out | apply below_alloc | apply pw_below_drewN | apply below_drew1 | refine below_set ?_ GE156.out | refine below_set ?_ GE160.out) | exact HB.out)⟩
  subst c7
  have H1 : (if t161 > 1 then (some (0, (⟨#[]⟩ : ByteArray), false, 0, 0, 0, 0, false)) else (some (wrap64 (t157), t164, (t161 == 1), t167, t168, t169, t170, true))) = some (r1, r2, r3, r4, r5, r6, r7, r8) := by rw [if_pos rfl] at H; exact H
  clear H
  have H := H1
  clear H1
  by_cases c8 : t161 > 1
  · rw [if_pos c8] at H
    have c8b0 : decide (1 < t161) = true := decide_eq_true c8
    clear c8
    simp only [Option.some.injEq, Prod.mk.injEq] at H
    obtain ⟨rfl, rfl, rfl, rfl, rfl, rfl, rfl, rfl⟩ := H
    go_enter Try.func23, Try.ntmps23
    go_wp2_with (first | ((with_reducible refine gate_dst (N := 2) rfl ?_); refine box_event ?hg (N := 2) ?hd (cs := #[.int .i64 0, .string (⟨#[]⟩ : ByteArray), .bool false, .int .u64 0, .int .u64 0, .int .u64 0, .int .u64 0]) (t := 41) ?hr ?_; (case hd => rfl); (case hg => rfl); (case hr => first | (go_simp; done) | (go_simp; rfl)); intro gb156 hg w9 hbox hb; have BK156 := Aside0.mk (hbox); have GW156 := Kw_ HB hg; have GE156 := GW156; replace HB := Ks_ HB hb; clear hb hbox hg) | ((with_reducible refine gate_callee (f := 37) rfl ?_); refine goesL_ (some 10) rfl rfl Try.func37 (by kernel_rfl) rfl #[.agg #[.string a0, .bool false], .int .i64 1] rfl (by (try simp only [List.map_toArray, List.map_cons, List.map_nil]); first | done | rfl | (simp only [List.length_drop, List.length_take]; rfl)) ?_; (with_reducible refine (pack_Reader_Number.calls a0 false 1 t157 t158 t159 _ A2.out).mono ?_); rintro e w10 ⟨rfl, hb⟩; refine ⟨_, rfl, ?_⟩; replace BK156 := Kb_ BK156 hb; replace HB := Ks_ HB hb; (try clear hb); (try clear hb2); (try clear hk); (try clear hi)) | ((with_reducible refine gate_dst (N := 5) rfl ?_); refine box_event ?hg (N := 5) ?hd (cs := #[.string (⟨#[]⟩ : ByteArray), .bool false]) (t := 81) ?hr ?_; (case hd => rfl); (case hg => rfl); (case hr => first | (go_simp; done) | (go_simp; rfl)); intro gb160 hg w11 hbox hb; have BK160 := Aside0.mk (hbox); have GW160 := Kw_ HB hg; have GE160 := GW160; have NB156_160 := Kl_ BK156 hg; have NB160_156 := Kr_ BK156 hg; replace BK156 := Kb_ BK156 hb; replace HB := Ks_ HB hb; clear hb hbox hg; have hnb12 := NB160_156.out; have hnc12 := NB156_160.out; obtain ⟨hcz13_0, hcz13_1, hfz13_0, hfz13_1⟩ := Ke2_ BK160.out) | ((with_reducible refine gate_callee (f := 37) rfl ?_); refine goesL_ (some 15) rfl rfl Try.func37 (by kernel_rfl) rfl #[.agg #[.string t158, .bool t159], .int .i64 1] rfl (by (try simp only [List.map_toArray, List.map_cons, List.map_nil]); first | done | rfl | (simp only [List.length_drop, List.length_take]; rfl)) ?_; (with_reducible refine (pack_Reader_Number.calls t158 t159 1 t161 t162 t163 _ A3.out).mono ?_); rintro e w14 ⟨rfl, hb⟩; refine ⟨_, rfl, ?_⟩; replace BK156 := Kf_ BK156 NB156_160 hb; replace BK160 := Aside0.mk (blk_below (g := gb160) (o := .cells #[.string t158, .bool t159] 81 (0, 0)) (by (with_reducible repeat (first | refine blk_drewN ?_ _ | refine blk_drew ?_ | refine blk_alloc ?_ _)); refine blk_put (cs := #[.string t158, .bool false]) ?_ 1 _ rfl; (with_reducible repeat (first | refine blk_drewN ?_ _ | refine blk_drew ?_ | refine blk_alloc ?_ _)); refine blk_put (cs := #[.string (⟨#[]⟩ : ByteArray), .bool false]) ?_ 0 _ rfl; (with_reducible repeat (first | refine blk_drewN ?_ _ | refine blk_drew ?_ | refine blk_alloc ?_ _)); exact BK160.out) hb); replace HB := Kt_ HB GE160 hb; (try clear hb); (try clear hb2); (try clear hk); (try clear hi); obtain ⟨hcz15_0, hcz15_1, hfz15_0, hfz15_1⟩ := Ke2_ BK160.out) | ((with_reducible refine gate_callee (f := 36) rfl ?_); refine goesL_ (some 20) rfl rfl Try.func36 (by kernel_rfl) rfl #[.agg #[.string t162, .bool t163], .int .i64 64] rfl (by (try simp only [List.map_toArray, List.map_cons, List.map_nil]); first | done | rfl | (simp only [List.length_drop, List.length_take]; rfl)) ?_; (with_reducible refine (pack_Reader_Text.calls k t162 t163 64 t164 t165 t166 _ A4.out).mono ?_); rintro e w16 ⟨rfl, hb⟩; refine ⟨_, rfl, ?_⟩; replace BK156 := Kf_ BK156 NB156_160 hb; replace BK160 := Aside0.mk (blk_below (g := gb160) (o := .cells #[.string t162, .bool t163] 81 (0, 0)) (by (with_reducible repeat (first | refine blk_drewN ?_ _ | refine blk_drew ?_ | refine blk_alloc ?_ _)); refine blk_put (cs := #[.string t162, .bool t159]) ?_ 1 _ rfl; (with_reducible repeat (first | refine blk_drewN ?_ _ | refine blk_drew ?_ | refine blk_alloc ?_ _)); refine blk_put (cs := #[.string t158, .bool t159]) ?_ 0 _ rfl; (with_reducible repeat (first | refine blk_drewN ?_ _ | refine blk_drew ?_ | refine blk_alloc ?_ _)); exact BK160.out) hb); replace HB := Kt_ HB GE160 hb; (try clear hb); (try clear hb2); (try clear hk); (try clear hi); obtain ⟨hcz17_0, hcz17_1, hcz17_2, hcz17_3, hcz17_4, hcz17_5, hcz17_6, hfz17_0, hfz17_1, hfz17_2, hfz17_3, hfz17_4, hfz17_5, hfz17_6⟩ := Ke7_ BK156.out; obtain ⟨hcz18_0, hcz18_1, hfz18_0, hfz18_1⟩ := Ke2_ BK160.out) | ((with_reducible refine gate_callee (f := 42) rfl ?_); refine goesL_ (some 26) rfl rfl Try.func42 (by kernel_rfl) rfl #[.agg #[.string t165, .bool t166]] rfl (by (try simp only [List.map_toArray, List.map_cons, List.map_nil]); first | done | rfl | (simp only [List.length_drop, List.length_take]; rfl)) ?_; (with_reducible refine (vec_Get.calls k t165 t166 t167 t168 t169 t170 t171 t172 _ A5.out).mono ?_); rintro e w19 ⟨rfl, hb⟩; refine ⟨_, rfl, ?_⟩; replace BK156 := Aside0.mk (blk_below (g := gb156) (o := .cells #[.int .i64 0, .string t164, .bool false, .int .u64 0, .int .u64 0, .int .u64 0, .int .u64 0] 41 (0, 0)) (by (repeat (first | (with_reducible first | refine blk_drewN ?_ _ | refine blk_drew ?_ | refine blk_alloc ?_ _) | refine blk_far ?_ NB156_160.out _)); refine blk_put (cs := #[.int .i64 0, .string (⟨#[]⟩ : ByteArray), .bool false, .int .u64 0, .int .u64 0, .int .u64 0, .int .u64 0]) ?_ 1 _ rfl; (with_reducible repeat (first | refine blk_drewN ?_ _ | refine blk_drew ?_ | refine blk_alloc ?_ _)); exact BK156.out) hb); replace BK160 := Aside0.mk (blk_below (g := gb160) (o := .cells #[.string t165, .bool t166] 81 (0, 0)) (by (with_reducible repeat (first | refine blk_drewN ?_ _ | refine blk_drew ?_ | refine blk_alloc ?_ _)); refine blk_put (cs := #[.string t165, .bool t163]) ?_ 1 _ rfl; (with_reducible repeat (first | refine blk_drewN ?_ _ | refine blk_drew ?_ | refine blk_alloc ?_ _)); refine blk_put (cs := #[.string t162, .bool t163]) ?_ 0 _ rfl; (repeat (first | (with_reducible first | refine blk_drewN ?_ _ | refine blk_drew ?_ | refine blk_alloc ?_ _) | refine blk_far ?_ NB160_156.out _)); exact BK160.out) hb); replace HB := Aside0.mk (below_step (by repeat (first | (with_reducible first | exact HB.out | apply below_alloc | apply pw_below_drewN | apply below_drew1 | refine below_set ?_ GE156.out | refine below_set ?_ GE160.out) | exact HB.out)) hb); (try clear hb); (try clear hb2); (try clear hk); (try clear hi); obtain ⟨hcz20_0, hcz20_1, hcz20_2, hcz20_3, hcz20_4, hcz20_5, hcz20_6, hfz20_0, hfz20_1, hfz20_2, hfz20_3, hfz20_4, hfz20_5, hfz20_6⟩ := Ke7_ BK156.out; obtain ⟨hcz21_0, hcz21_1, hfz21_0, hfz21_1⟩ := Ke2_ BK160.out) | ((with_reducible refine gate_callee (f := 38) rfl ?_); refine goesL_ (some 37) rfl rfl Try.func38 (by kernel_rfl) rfl #[.agg #[.string t171, .bool t172]] rfl (by (try simp only [List.map_toArray, List.map_cons, List.map_nil]); first | done | rfl | (simp only [List.length_drop, List.length_take]; rfl)) ?_; (with_reducible refine (pack_Reader_Done.calls t171 t172 true _ A6.out).mono ?_); rintro e w22 ⟨rfl, hb⟩; refine ⟨_, rfl, ?_⟩; replace BK156 := Aside0.mk (blk_below (g := gb156) (o := .cells #[.int .i64 (wrap64 (t157)), .string t164, .bool (t161 == 1), .int .u64 t167, .int .u64 t168, .int .u64 t169, .int .u64 t170] 41 (0, 0)) (by (with_reducible repeat (first | refine blk_drewN ?_ _ | refine blk_drew ?_ | refine blk_alloc ?_ _)); refine blk_put (cs := #[.int .i64 (wrap64 (t157)), .string t164, .bool false, .int .u64 t167, .int .u64 t168, .int .u64 t169, .int .u64 t170]) ?_ 2 _ rfl; (with_reducible repeat (first | refine blk_drewN ?_ _ | refine blk_drew ?_ | refine blk_alloc ?_ _)); refine blk_put (cs := #[.int .i64 0, .string t164, .bool false, .int .u64 t167, .int .u64 t168, .int .u64 t169, .int .u64 t170]) ?_ 0 _ rfl; (repeat (first | (with_reducible first | refine blk_drewN ?_ _ | refine blk_drew ?_ | refine blk_alloc ?_ _) | refine blk_far ?_ NB156_160.out _)); refine blk_put (cs := #[.int .i64 0, .string t164, .bool false, .int .u64 t167, .int .u64 t168, .int .u64 t169, .int .u64 0]) ?_ 6 _ rfl; (with_reducible repeat (first | refine blk_drewN ?_ _ | refine blk_drew ?_ | refine blk_alloc ?_ _)); refine blk_put (cs := #[.int .i64 0, .string t164, .bool false, .int .u64 t167, .int .u64 t168, .int .u64 0, .int .u64 0]) ?_ 5 _ rfl; (with_reducible repeat (first | refine blk_drewN ?_ _ | refine blk_drew ?_ | refine blk_alloc ?_ _)); refine blk_put (cs := #[.int .i64 0, .string t164, .bool false, .int .u64 t167, .int .u64 0, .int .u64 0, .int .u64 0]) ?_ 4 _ rfl; (with_reducible repeat (first | refine blk_drewN ?_ _ | refine blk_drew ?_ | refine blk_alloc ?_ _)); refine blk_put (cs := #[.int .i64 0, .string t164, .bool false, .int .u64 0, .int .u64 0, .int .u64 0, .int .u64 0]) ?_ 3 _ rfl; (with_reducible repeat (first | refine blk_drewN ?_ _ | refine blk_drew ?_ | refine blk_alloc ?_ _)); exact BK156.out) hb); replace BK160 := Aside0.mk (blk_below (g := gb160) (o := .cells #[.string t171, .bool t172] 81 (0, 0)) (by (repeat (first | (with_reducible first | refine blk_drewN ?_ _ | refine blk_drew ?_ | refine blk_alloc ?_ _) | refine blk_far ?_ NB160_156.out _)); refine blk_put (cs := #[.string t171, .bool t166]) ?_ 1 _ rfl; (with_reducible repeat (first | refine blk_drewN ?_ _ | refine blk_drew ?_ | refine blk_alloc ?_ _)); refine blk_put (cs := #[.string t165, .bool t166]) ?_ 0 _ rfl; (repeat (first | (with_reducible first | refine blk_drewN ?_ _ | refine blk_drew ?_ | refine blk_alloc ?_ _) | refine blk_far ?_ NB160_156.out _)); exact BK160.out) hb); replace HB := Aside0.mk (below_step (by repeat (first | (with_reducible first | exact HB.out | apply below_alloc | apply pw_below_drewN | apply below_drew1 | refine below_set ?_ GE156.out | refine below_set ?_ GE160.out) | exact HB.out)) hb); (try clear hb); (try clear hb2); (try clear hk); (try clear hi); obtain ⟨hcz23_0, hcz23_1, hcz23_2, hcz23_3, hcz23_4, hcz23_5, hcz23_6, hfz23_0, hfz23_1, hfz23_2, hfz23_3, hfz23_4, hfz23_5, hfz23_6⟩ := Ke7_ BK156.out))
    refine bodyPost_ret (results_ct rfl _ _ gb156 41 #[.int .i64 0, .string (⟨#[]⟩ : ByteArray), .bool false, .int .u64 0, .int .u64 0, .int .u64 0, .int .u64 0] (0, 0) _ rfl (by (with_reducible repeat (first | refine blk_drewN ?_ _ | refine blk_drew ?_ | refine blk_alloc ?_ _)); refine blk_put (cs := #[.int .i64 0, .string (⟨#[]⟩ : ByteArray), .bool false, .int .u64 0, .int .u64 0, .int .u64 0, .int .u64 t170]) ?_ 6 _ rfl; (with_reducible repeat (first | refine blk_drewN ?_ _ | refine blk_drew ?_ | refine blk_alloc ?_ _)); refine blk_put (cs := #[.int .i64 0, .string (⟨#[]⟩ : ByteArray), .bool false, .int .u64 0, .int .u64 0, .int .u64 t169, .int .u64 t170]) ?_ 5 _ rfl; (with_reducible repeat (first | refine blk_drewN ?_ _ | refine blk_drew ?_ | refine blk_alloc ?_ _)); refine blk_put (cs := #[.int .i64 0, .string (⟨#[]⟩ : ByteArray), .bool false, .int .u64 0, .int .u64 t168, .int .u64 t169, .int .u64 t170]) ?_ 4 _ rfl; (with_reducible repeat (first | refine blk_drewN ?_ _ | refine blk_drew ?_ | refine blk_alloc ?_ _)); refine blk_put (cs := #[.int .i64 0, .string (⟨#[]⟩ : ByteArray), .bool false, .int .u64 t167, .int .u64 t168, .int .u64 t169, .int .u64 t170]) ?_ 3 _ rfl; (with_reducible repeat (first | refine blk_drewN ?_ _ | refine blk_drew ?_ | refine blk_alloc ?_ _)); refine blk_put (cs := #[.int .i64 0, .string (⟨#[]⟩ : ByteArray), .bool (t161 == 1), .int .u64 t167, .int .u64 t168, .int .u64 t169, .int .u64 t170]) ?_ 2 _ rfl; (with_reducible repeat (first | refine blk_drewN ?_ _ | refine blk_drew ?_ | refine blk_alloc ?_ _)); refine blk_put (cs := #[.int .i64 0, .string t164, .bool (t161 == 1), .int .u64 t167, .int .u64 t168, .int .u64 t169, .int .u64 t170]) ?_ 1 _ rfl; (with_reducible repeat (first | refine blk_drewN ?_ _ | refine blk_drew ?_ | refine blk_alloc ?_ _)); refine blk_put (cs := #[.int .i64 (wrap64 (t157)), .string t164, .bool (t161 == 1), .int .u64 t167, .int .u64 t168, .int .u64 t169, .int .u64 t170]) ?_ 0 _ rfl; (with_reducible repeat (first | refine blk_drewN ?_ _ | refine blk_drew ?_ | refine blk_alloc ?_ _)); exact BK156.out) Try.underlying41 rfl (by kernel_rfl)) rfl ?_
    exact ⟨by first | rfl | (simp [errW_none, errW_some] <;> rfl) | (simp [*, errW_none, errW_some] <;> rfl), by repeat (first | (with_reducible first | exact HB.out | apply below_alloc | apply pw_below_drewN | apply below_drew1 | refine below_set ?_ GE156.out | refine below_set ?_ GE160.out) | exact HB.out)⟩
  rw [if_neg c8] at H
  have c8b0 : decide (1 < t161) = false := decide_eq_false c8
  clear c8
  simp only [Option.some.injEq, Prod.mk.injEq] at H
  obtain ⟨rfl, rfl, rfl, rfl, rfl, rfl, rfl, rfl⟩ := H
  go_enter Try.func23, Try.ntmps23
  go_wp2_with (first | ((with_reducible refine gate_dst (N := 2) rfl ?_); refine box_event ?hg (N := 2) ?hd (cs := #[.int .i64 0, .string (⟨#[]⟩ : ByteArray), .bool false, .int .u64 0, .int .u64 0, .int .u64 0, .int .u64 0]) (t := 41) ?hr ?_; (case hd => rfl); (case hg => rfl); (case hr => first | (go_simp; done) | (go_simp; rfl)); intro gb156 hg w24 hbox hb; have BK156 := Aside0.mk (hbox); have GW156 := Kw_ HB hg; have GE156 := GW156; replace HB := Ks_ HB hb; clear hb hbox hg) | ((with_reducible refine gate_callee (f := 37) rfl ?_); refine goesL_ (some 10) rfl rfl Try.func37 (by kernel_rfl) rfl #[.agg #[.string a0, .bool false], .int .i64 1] rfl (by (try simp only [List.map_toArray, List.map_cons, List.map_nil]); first | done | rfl | (simp only [List.length_drop, List.length_take]; rfl)) ?_; (with_reducible refine (pack_Reader_Number.calls a0 false 1 t157 t158 t159 _ A2.out).mono ?_); rintro e w25 ⟨rfl, hb⟩; refine ⟨_, rfl, ?_⟩; replace BK156 := Kb_ BK156 hb; replace HB := Ks_ HB hb; (try clear hb); (try clear hb2); (try clear hk); (try clear hi)) | ((with_reducible refine gate_dst (N := 5) rfl ?_); refine box_event ?hg (N := 5) ?hd (cs := #[.string (⟨#[]⟩ : ByteArray), .bool false]) (t := 81) ?hr ?_; (case hd => rfl); (case hg => rfl); (case hr => first | (go_simp; done) | (go_simp; rfl)); intro gb160 hg w26 hbox hb; have BK160 := Aside0.mk (hbox); have GW160 := Kw_ HB hg; have GE160 := GW160; have NB156_160 := Kl_ BK156 hg; have NB160_156 := Kr_ BK156 hg; replace BK156 := Kb_ BK156 hb; replace HB := Ks_ HB hb; clear hb hbox hg; have hnb27 := NB160_156.out; have hnc27 := NB156_160.out; obtain ⟨hcz28_0, hcz28_1, hfz28_0, hfz28_1⟩ := Ke2_ BK160.out) | ((with_reducible refine gate_callee (f := 37) rfl ?_); refine goesL_ (some 15) rfl rfl Try.func37 (by kernel_rfl) rfl #[.agg #[.string t158, .bool t159], .int .i64 1] rfl (by (try simp only [List.map_toArray, List.map_cons, List.map_nil]); first | done | rfl | (simp only [List.length_drop, List.length_take]; rfl)) ?_; (with_reducible refine (pack_Reader_Number.calls t158 t159 1 t161 t162 t163 _ A3.out).mono ?_); rintro e w29 ⟨rfl, hb⟩; refine ⟨_, rfl, ?_⟩; replace BK156 := Kf_ BK156 NB156_160 hb; replace BK160 := Aside0.mk (blk_below (g := gb160) (o := .cells #[.string t158, .bool t159] 81 (0, 0)) (by (with_reducible repeat (first | refine blk_drewN ?_ _ | refine blk_drew ?_ | refine blk_alloc ?_ _)); refine blk_put (cs := #[.string t158, .bool false]) ?_ 1 _ rfl; (with_reducible repeat (first | refine blk_drewN ?_ _ | refine blk_drew ?_ | refine blk_alloc ?_ _)); refine blk_put (cs := #[.string (⟨#[]⟩ : ByteArray), .bool false]) ?_ 0 _ rfl; (with_reducible repeat (first | refine blk_drewN ?_ _ | refine blk_drew ?_ | refine blk_alloc ?_ _)); exact BK160.out) hb); replace HB := Kt_ HB GE160 hb; (try clear hb); (try clear hb2); (try clear hk); (try clear hi); obtain ⟨hcz30_0, hcz30_1, hfz30_0, hfz30_1⟩ := Ke2_ BK160.out) | ((with_reducible refine gate_callee (f := 36) rfl ?_); refine goesL_ (some 20) rfl rfl Try.func36 (by kernel_rfl) rfl #[.agg #[.string t162, .bool t163], .int .i64 64] rfl (by (try simp only [List.map_toArray, List.map_cons, List.map_nil]); first | done | rfl | (simp only [List.length_drop, List.length_take]; rfl)) ?_; (with_reducible refine (pack_Reader_Text.calls k t162 t163 64 t164 t165 t166 _ A4.out).mono ?_); rintro e w31 ⟨rfl, hb⟩; refine ⟨_, rfl, ?_⟩; replace BK156 := Kf_ BK156 NB156_160 hb; replace BK160 := Aside0.mk (blk_below (g := gb160) (o := .cells #[.string t162, .bool t163] 81 (0, 0)) (by (with_reducible repeat (first | refine blk_drewN ?_ _ | refine blk_drew ?_ | refine blk_alloc ?_ _)); refine blk_put (cs := #[.string t162, .bool t159]) ?_ 1 _ rfl; (with_reducible repeat (first | refine blk_drewN ?_ _ | refine blk_drew ?_ | refine blk_alloc ?_ _)); refine blk_put (cs := #[.string t158, .bool t159]) ?_ 0 _ rfl; (with_reducible repeat (first | refine blk_drewN ?_ _ | refine blk_drew ?_ | refine blk_alloc ?_ _)); exact BK160.out) hb); replace HB := Kt_ HB GE160 hb; (try clear hb); (try clear hb2); (try clear hk); (try clear hi); obtain ⟨hcz32_0, hcz32_1, hcz32_2, hcz32_3, hcz32_4, hcz32_5, hcz32_6, hfz32_0, hfz32_1, hfz32_2, hfz32_3, hfz32_4, hfz32_5, hfz32_6⟩ := Ke7_ BK156.out; obtain ⟨hcz33_0, hcz33_1, hfz33_0, hfz33_1⟩ := Ke2_ BK160.out) | ((with_reducible refine gate_callee (f := 42) rfl ?_); refine goesL_ (some 26) rfl rfl Try.func42 (by kernel_rfl) rfl #[.agg #[.string t165, .bool t166]] rfl (by (try simp only [List.map_toArray, List.map_cons, List.map_nil]); first | done | rfl | (simp only [List.length_drop, List.length_take]; rfl)) ?_; (with_reducible refine (vec_Get.calls k t165 t166 t167 t168 t169 t170 t171 t172 _ A5.out).mono ?_); rintro e w34 ⟨rfl, hb⟩; refine ⟨_, rfl, ?_⟩; replace BK156 := Aside0.mk (blk_below (g := gb156) (o := .cells #[.int .i64 0, .string t164, .bool false, .int .u64 0, .int .u64 0, .int .u64 0, .int .u64 0] 41 (0, 0)) (by (repeat (first | (with_reducible first | refine blk_drewN ?_ _ | refine blk_drew ?_ | refine blk_alloc ?_ _) | refine blk_far ?_ NB156_160.out _)); refine blk_put (cs := #[.int .i64 0, .string (⟨#[]⟩ : ByteArray), .bool false, .int .u64 0, .int .u64 0, .int .u64 0, .int .u64 0]) ?_ 1 _ rfl; (with_reducible repeat (first | refine blk_drewN ?_ _ | refine blk_drew ?_ | refine blk_alloc ?_ _)); exact BK156.out) hb); replace BK160 := Aside0.mk (blk_below (g := gb160) (o := .cells #[.string t165, .bool t166] 81 (0, 0)) (by (with_reducible repeat (first | refine blk_drewN ?_ _ | refine blk_drew ?_ | refine blk_alloc ?_ _)); refine blk_put (cs := #[.string t165, .bool t163]) ?_ 1 _ rfl; (with_reducible repeat (first | refine blk_drewN ?_ _ | refine blk_drew ?_ | refine blk_alloc ?_ _)); refine blk_put (cs := #[.string t162, .bool t163]) ?_ 0 _ rfl; (repeat (first | (with_reducible first | refine blk_drewN ?_ _ | refine blk_drew ?_ | refine blk_alloc ?_ _) | refine blk_far ?_ NB160_156.out _)); exact BK160.out) hb); replace HB := Aside0.mk (below_step (by repeat (first | (with_reducible first | exact HB.out | apply below_alloc | apply pw_below_drewN | apply below_drew1 | refine below_set ?_ GE156.out | refine below_set ?_ GE160.out) | exact HB.out)) hb); (try clear hb); (try clear hb2); (try clear hk); (try clear hi); obtain ⟨hcz35_0, hcz35_1, hcz35_2, hcz35_3, hcz35_4, hcz35_5, hcz35_6, hfz35_0, hfz35_1, hfz35_2, hfz35_3, hfz35_4, hfz35_5, hfz35_6⟩ := Ke7_ BK156.out; obtain ⟨hcz36_0, hcz36_1, hfz36_0, hfz36_1⟩ := Ke2_ BK160.out) | ((with_reducible refine gate_callee (f := 38) rfl ?_); refine goesL_ (some 37) rfl rfl Try.func38 (by kernel_rfl) rfl #[.agg #[.string t171, .bool t172]] rfl (by (try simp only [List.map_toArray, List.map_cons, List.map_nil]); first | done | rfl | (simp only [List.length_drop, List.length_take]; rfl)) ?_; (with_reducible refine (pack_Reader_Done.calls t171 t172 true _ A6.out).mono ?_); rintro e w37 ⟨rfl, hb⟩; refine ⟨_, rfl, ?_⟩; replace BK156 := Aside0.mk (blk_below (g := gb156) (o := .cells #[.int .i64 (wrap64 (t157)), .string t164, .bool (t161 == 1), .int .u64 t167, .int .u64 t168, .int .u64 t169, .int .u64 t170] 41 (0, 0)) (by (with_reducible repeat (first | refine blk_drewN ?_ _ | refine blk_drew ?_ | refine blk_alloc ?_ _)); refine blk_put (cs := #[.int .i64 (wrap64 (t157)), .string t164, .bool false, .int .u64 t167, .int .u64 t168, .int .u64 t169, .int .u64 t170]) ?_ 2 _ rfl; (with_reducible repeat (first | refine blk_drewN ?_ _ | refine blk_drew ?_ | refine blk_alloc ?_ _)); refine blk_put (cs := #[.int .i64 0, .string t164, .bool false, .int .u64 t167, .int .u64 t168, .int .u64 t169, .int .u64 t170]) ?_ 0 _ rfl; (repeat (first | (with_reducible first | refine blk_drewN ?_ _ | refine blk_drew ?_ | refine blk_alloc ?_ _) | refine blk_far ?_ NB156_160.out _)); refine blk_put (cs := #[.int .i64 0, .string t164, .bool false, .int .u64 t167, .int .u64 t168, .int .u64 t169, .int .u64 0]) ?_ 6 _ rfl; (with_reducible repeat (first | refine blk_drewN ?_ _ | refine blk_drew ?_ | refine blk_alloc ?_ _)); refine blk_put (cs := #[.int .i64 0, .string t164, .bool false, .int .u64 t167, .int .u64 t168, .int .u64 0, .int .u64 0]) ?_ 5 _ rfl; (with_reducible repeat (first | refine blk_drewN ?_ _ | refine blk_drew ?_ | refine blk_alloc ?_ _)); refine blk_put (cs := #[.int .i64 0, .string t164, .bool false, .int .u64 t167, .int .u64 0, .int .u64 0, .int .u64 0]) ?_ 4 _ rfl; (with_reducible repeat (first | refine blk_drewN ?_ _ | refine blk_drew ?_ | refine blk_alloc ?_ _)); refine blk_put (cs := #[.int .i64 0, .string t164, .bool false, .int .u64 0, .int .u64 0, .int .u64 0, .int .u64 0]) ?_ 3 _ rfl; (with_reducible repeat (first | refine blk_drewN ?_ _ | refine blk_drew ?_ | refine blk_alloc ?_ _)); exact BK156.out) hb); replace BK160 := Aside0.mk (blk_below (g := gb160) (o := .cells #[.string t171, .bool t172] 81 (0, 0)) (by (repeat (first | (with_reducible first | refine blk_drewN ?_ _ | refine blk_drew ?_ | refine blk_alloc ?_ _) | refine blk_far ?_ NB160_156.out _)); refine blk_put (cs := #[.string t171, .bool t166]) ?_ 1 _ rfl; (with_reducible repeat (first | refine blk_drewN ?_ _ | refine blk_drew ?_ | refine blk_alloc ?_ _)); refine blk_put (cs := #[.string t165, .bool t166]) ?_ 0 _ rfl; (repeat (first | (with_reducible first | refine blk_drewN ?_ _ | refine blk_drew ?_ | refine blk_alloc ?_ _) | refine blk_far ?_ NB160_156.out _)); exact BK160.out) hb); replace HB := Aside0.mk (below_step (by repeat (first | (with_reducible first | exact HB.out | apply below_alloc | apply pw_below_drewN | apply below_drew1 | refine below_set ?_ GE156.out | refine below_set ?_ GE160.out) | exact HB.out)) hb); (try clear hb); (try clear hb2); (try clear hk); (try clear hi); obtain ⟨hcz38_0, hcz38_1, hcz38_2, hcz38_3, hcz38_4, hcz38_5, hcz38_6, hfz38_0, hfz38_1, hfz38_2, hfz38_3, hfz38_4, hfz38_5, hfz38_6⟩ := Ke7_ BK156.out))
  refine bodyPost_ret (results_ct rfl _ _ gb156 41 #[.int .i64 (wrap64 (t157)), .string t164, .bool (t161 == 1), .int .u64 t167, .int .u64 t168, .int .u64 t169, .int .u64 t170] (0, 0) _ rfl (by (with_reducible repeat (first | refine blk_drewN ?_ _ | refine blk_drew ?_ | refine blk_alloc ?_ _)); refine blk_put (cs := #[.int .i64 (wrap64 (t157)), .string t164, .bool (t161 == 1), .int .u64 t167, .int .u64 t168, .int .u64 t169, .int .u64 t170]) ?_ 6 _ rfl; (with_reducible repeat (first | refine blk_drewN ?_ _ | refine blk_drew ?_ | refine blk_alloc ?_ _)); refine blk_put (cs := #[.int .i64 (wrap64 (t157)), .string t164, .bool (t161 == 1), .int .u64 t167, .int .u64 t168, .int .u64 t169, .int .u64 t170]) ?_ 5 _ rfl; (with_reducible repeat (first | refine blk_drewN ?_ _ | refine blk_drew ?_ | refine blk_alloc ?_ _)); refine blk_put (cs := #[.int .i64 (wrap64 (t157)), .string t164, .bool (t161 == 1), .int .u64 t167, .int .u64 t168, .int .u64 t169, .int .u64 t170]) ?_ 4 _ rfl; (with_reducible repeat (first | refine blk_drewN ?_ _ | refine blk_drew ?_ | refine blk_alloc ?_ _)); refine blk_put (cs := #[.int .i64 (wrap64 (t157)), .string t164, .bool (t161 == 1), .int .u64 t167, .int .u64 t168, .int .u64 t169, .int .u64 t170]) ?_ 3 _ rfl; (with_reducible repeat (first | refine blk_drewN ?_ _ | refine blk_drew ?_ | refine blk_alloc ?_ _)); refine blk_put (cs := #[.int .i64 (wrap64 (t157)), .string t164, .bool (t161 == 1), .int .u64 t167, .int .u64 t168, .int .u64 t169, .int .u64 t170]) ?_ 2 _ rfl; (with_reducible repeat (first | refine blk_drewN ?_ _ | refine blk_drew ?_ | refine blk_alloc ?_ _)); refine blk_put (cs := #[.int .i64 (wrap64 (t157)), .string t164, .bool (t161 == 1), .int .u64 t167, .int .u64 t168, .int .u64 t169, .int .u64 t170]) ?_ 1 _ rfl; (with_reducible repeat (first | refine blk_drewN ?_ _ | refine blk_drew ?_ | refine blk_alloc ?_ _)); refine blk_put (cs := #[.int .i64 (wrap64 (t157)), .string t164, .bool (t161 == 1), .int .u64 t167, .int .u64 t168, .int .u64 t169, .int .u64 t170]) ?_ 0 _ rfl; (with_reducible repeat (first | refine blk_drewN ?_ _ | refine blk_drew ?_ | refine blk_alloc ?_ _)); exact BK156.out) Try.underlying41 rfl (by kernel_rfl)) rfl ?_
  exact ⟨by first | rfl | (simp [errW_none, errW_some] <;> rfl) | (simp [*, errW_none, errW_some] <;> rfl), by repeat (first | (with_reducible first | exact HB.out | apply below_alloc | apply pw_below_drewN | apply below_drew1 | refine below_set ?_ GE156.out | refine below_set ?_ GE160.out) | exact HB.out)⟩

end Go.Proofs.Ytplgbkobpanbfaa.Q

-- Written by this session's own driver (wip/hybrid.py) of the kit's printer; contracts marked FOREIGN are by hand.
namespace Go.Proofs.Ytplgbkobpanbfaa.Q
open Go.RowKit Go.Proofs.YtplgbkobpanbfaaW.PrintWords Go.Proofs.YtplgbkobpanbfaaW.PrintLast Go.Proofs.YtplgbkobpanbfaaW.PrintMore
attribute [local go_sem] max2_int min2_int max_two min_two max_three min_three max_four min_four   -- for this text's walks alone
set_option linter.unusedVariables false
set_option linter.unusedSimpArgs false

theorem eqA23 (d : Nat) (w : World) (x0 y0 : ByteArray) (x1 y1 : Int) (x2 y2 : Int) (x3 y3 : Int) (x4 y4 : Int) (x5 y5 : ByteArray) (x6 y6 : ByteArray) (x7 y7 : ByteArray) :
    (Op.equalIn (d + 2) 23 (.agg #[.string x0, .int .i64 x1, .int .i64 x2, .int .i64 x3, .int .i64 x4, .string x5, .string x6, .string x7]) (.agg #[.string y0, .int .i64 y1, .int .i64 y2, .int .i64 y3, .int .i64 y4, .string y5, .string y6, .string y7])).run Try.prog w = .ok (x0.toList == y0.toList && (x1 == y1 && (x2 == y2 && (x3 == y3 && (x4 == y4 && (x5.toList == y5.toList && (x6.toList == y6.toList && (x7.toList == y7.toList)))))))) w := by
  refine eqA_of Try.underlying23 (by kernel_rfl) ?_
  refine eqf_cons (by rfl) (by go_simp; rfl) (by go_simp; rfl) (by go_simp) ?_
  refine eqf_cons (by rfl) (by go_simp; rfl) (by go_simp; rfl) (by go_simp) ?_
  refine eqf_cons (by rfl) (by go_simp; rfl) (by go_simp; rfl) (by go_simp) ?_
  refine eqf_cons (by rfl) (by go_simp; rfl) (by go_simp; rfl) (by go_simp) ?_
  refine eqf_cons (by rfl) (by go_simp; rfl) (by go_simp; rfl) (by go_simp) ?_
  refine eqf_cons (by rfl) (by go_simp; rfl) (by go_simp; rfl) (by go_simp) ?_
  refine eqf_cons (by rfl) (by go_simp; rfl) (by go_simp; rfl) (by go_simp) ?_
  exact eqf_last (by rfl) (by go_simp; rfl) (by go_simp; rfl) (by go_simp)
end Go.Proofs.Ytplgbkobpanbfaa.Q

-- Written by this session's own driver (wip/hybrid.py) of the kit's printer; contracts marked FOREIGN are by hand.
namespace Go.Proofs.Ytplgbkobpanbfaa.Q
open Go.RowKit Go.Proofs.YtplgbkobpanbfaaW.PrintWords Go.Proofs.YtplgbkobpanbfaaW.PrintLast Go.Proofs.YtplgbkobpanbfaaW.PrintMore
attribute [local go_sem] max2_int min2_int max_two min_two max_three min_three max_four min_four   -- for this text's walks alone
set_option linter.unusedVariables false
set_option linter.unusedSimpArgs false

attribute [local go_sem] ixA28_0 ixA28_1 ixA28_2 ixA28_3   -- for this text's walks alone
theorem eqA41 (d : Nat) (w : World) (x0 y0 : Int) (x1 y1 : ByteArray) (x2 y2 : Bool) (x3 y3 : Int) (x4 y4 : Int) (x5 y5 : Int) (x6 y6 : Int) :
    (Op.equalIn (d + 3) 41 (.agg #[.int .i64 x0, .string x1, .bool x2, .int .u64 x3, .int .u64 x4, .int .u64 x5, .int .u64 x6]) (.agg #[.int .i64 y0, .string y1, .bool y2, .int .u64 y3, .int .u64 y4, .int .u64 y5, .int .u64 y6])).run Try.prog w = .ok (x0 == y0 && (x1.toList == y1.toList && (x2 == y2 && ((x3 == y3 && (x4 == y4 && (x5 == y5 && (x6 == y6)))))))) w := by
  refine eqA_of Try.underlying41 (by kernel_rfl) ?_
  refine eqf_cons (by rfl) (by go_simp; rfl) (by go_simp; rfl) (by go_simp) ?_
  refine eqf_cons (by rfl) (by go_simp; rfl) (by go_simp; rfl) (by go_simp) ?_
  refine eqf_cons (by rfl) (by go_simp; rfl) (by go_simp; rfl) (by go_simp) ?_
  exact eqf_last (by rfl) (by go_simp) (by go_simp) (eqA28 (d + 0) w _ _ _ _ _ _ _ _)
end Go.Proofs.Ytplgbkobpanbfaa.Q

-- Written by this session's own driver (wip/hybrid.py) of the kit's printer; contracts marked FOREIGN are by hand.
namespace Go.Proofs.Ytplgbkobpanbfaa.Q
open Go.RowKit Go.Proofs.YtplgbkobpanbfaaW.PrintWords Go.Proofs.YtplgbkobpanbfaaW.PrintLast Go.Proofs.YtplgbkobpanbfaaW.PrintMore
attribute [local go_sem] max2_int min2_int max_two min_two max_three min_three max_four min_four   -- for this text's walks alone
set_option linter.unusedVariables false
set_option linter.unusedSimpArgs false

/-! ### gate_Right: function 15 -/
-- FOREIGN: closures, a variadic call
def gate_Right.ti (n : Int) : Bool := decide (0 ≤ n) && decide (n ≤ 255)
def gate_Right.ts (s : ByteArray) : Bool := decide ((s.size : Int) ≤ 64)
def gate_Right.all_i (x0 x1 x2 x3 : Int) : Bool := gate_Right.ti x0 && (gate_Right.ti x1 && (gate_Right.ti x2 && gate_Right.ti x3))
def gate_Right.all_s (x0 x1 x2 : ByteArray) : Bool := gate_Right.ts x0 && (gate_Right.ts x1 && gate_Right.ts x2)
def gate_Right.f (a0_0 : ByteArray) (a0_1 a0_2 a0_3 a0_4 : Int) (a0_5 a0_6 a0_7 : ByteArray) : Option Bool := some (decide ((a0_0.size : Int) ≤ 128) && (gate_Right.all_i a0_1 a0_2 a0_3 a0_4 && gate_Right.all_s a0_5 a0_6 a0_7))
theorem gate_Right.is_i (x : Int) (w : World) : Calls Try.prog 29 #[.int .i64 x] w fun e w' => e = .returned (.bool (gate_Right.ti x)) ∧ w' = w := by
  by_cases h0 : 0 ≤ x
  · have b0 : decide (0 ≤ x) = true := decide_eq_true h0
    go_enter Try.func29, Try.ntmps29
    go_wp2
    go_ret
    exact ⟨by simp [gate_Right.ti, b0], rfl⟩
  · have b0 : decide (0 ≤ x) = false := decide_eq_false h0
    go_enter Try.func29, Try.ntmps29
    go_wp2
    go_ret
    exact ⟨by simp [gate_Right.ti, b0], rfl⟩
theorem gate_Right.cl_i (x : Int) (g : Nat) (w : World) (hg : w.heap[g]? = some (.cells #[.func (.func 29) #[] #[]] 74 (0, 0))) :
    Calls Try.prog 48 #[.int .i64 x, .pointer (some ⟨g, 0, none⟩)] w fun e w' => e = .returned (.bool (!(gate_Right.ti x))) ∧ w' = w := by
  have hc := (blk_cell hg 0).trans rfl
  go_enter Try.func48, Try.ntmps48
  go_wp2_with (go_at_call 29; refine (gate_Right.is_i _ _).mono ?_; rintro e w1 ⟨rfl, rfl⟩)
  go_ret
  exact ⟨rfl, rfl⟩
set_option maxHeartbeats 4000000 in
theorem gate_Right.ix_i (x0 x1 x2 x3 : Int) (g B : Nat) (w : World) (hg : w.heap[g]? = some (.cells #[.func (.func 29) #[] #[]] 74 (0, 0))) (hB : w.heap[B]? = some (.cells #[.int .i64 x0, .int .i64 x1, .int .i64 x2, .int .i64 x3] 3 (0, 0))) :
    Calls Try.prog 56 #[.slice (some ⟨B, 0, none⟩) 4 4, .func (.func 48) #[] #[.pointer (some ⟨g, 0, none⟩)]] w fun e w' => ∃ i : Int, e = .returned (.int .i64 i) ∧ decide (i ≥ 0) = !(gate_Right.all_i x0 x1 x2 x3) ∧ w' = w := by
  have c0 := (blk_cell hB 0).trans rfl
  have c1 := (blk_cell hB 1).trans rfl
  have c2 := (blk_cell hB 2).trans rfl
  have c3 := (blk_cell hB 3).trans rfl
  have p0 := gate_Right.cl_i x0 g w hg
  have p1 := gate_Right.cl_i x1 g w hg
  have p2 := gate_Right.cl_i x2 g w hg
  have p3 := gate_Right.cl_i x3 g w hg
  clear hg hB
  unfold gate_Right.all_i
  cases e0 : gate_Right.ti x0 with
  | false =>
    rw [e0] at p0
    go_enter Try.func56, Try.ntmps56
    go_wp2
    refine wp_loop_rounds 5 ?_
    rw [rounds_succ]
    go_wp2_with (go_at_call 48; refine p0.mono ?_; rintro e w1 ⟨rfl, rfl⟩)
    go_ret
    exact ⟨0, rfl, by simp, rfl⟩
  | true =>
    rw [e0] at p0
    cases e1 : gate_Right.ti x1 with
    | false =>
      rw [e1] at p1
      go_enter Try.func56, Try.ntmps56
      go_wp2
      refine wp_loop_rounds 5 ?_
      rw [rounds_succ]
      go_wp2_with (go_at_call 48; refine p0.mono ?_; rintro e w1 ⟨rfl, rfl⟩)
      rw [rounds_succ]
      go_wp2_with (go_at_call 48; refine p1.mono ?_; rintro e w1 ⟨rfl, rfl⟩)
      go_ret
      exact ⟨1, rfl, by simp, rfl⟩
    | true =>
      rw [e1] at p1
      cases e2 : gate_Right.ti x2 with
      | false =>
        rw [e2] at p2
        go_enter Try.func56, Try.ntmps56
        go_wp2
        refine wp_loop_rounds 5 ?_
        rw [rounds_succ]
        go_wp2_with (go_at_call 48; refine p0.mono ?_; rintro e w1 ⟨rfl, rfl⟩)
        rw [rounds_succ]
        go_wp2_with (go_at_call 48; refine p1.mono ?_; rintro e w1 ⟨rfl, rfl⟩)
        rw [rounds_succ]
        go_wp2_with (go_at_call 48; refine p2.mono ?_; rintro e w1 ⟨rfl, rfl⟩)
        go_ret
        exact ⟨2, rfl, by simp, rfl⟩
      | true =>
        rw [e2] at p2
        cases e3 : gate_Right.ti x3 with
        | false =>
          rw [e3] at p3
          go_enter Try.func56, Try.ntmps56
          go_wp2
          refine wp_loop_rounds 5 ?_
          rw [rounds_succ]
          go_wp2_with (go_at_call 48; refine p0.mono ?_; rintro e w1 ⟨rfl, rfl⟩)
          rw [rounds_succ]
          go_wp2_with (go_at_call 48; refine p1.mono ?_; rintro e w1 ⟨rfl, rfl⟩)
          rw [rounds_succ]
          go_wp2_with (go_at_call 48; refine p2.mono ?_; rintro e w1 ⟨rfl, rfl⟩)
          rw [rounds_succ]
          go_wp2_with (go_at_call 48; refine p3.mono ?_; rintro e w1 ⟨rfl, rfl⟩)
          go_ret
          exact ⟨3, rfl, by simp, rfl⟩
        | true =>
          rw [e3] at p3
          go_enter Try.func56, Try.ntmps56
          go_wp2
          refine wp_loop_rounds 5 ?_
          rw [rounds_succ]
          go_wp2_with (go_at_call 48; refine p0.mono ?_; rintro e w1 ⟨rfl, rfl⟩)
          rw [rounds_succ]
          go_wp2_with (go_at_call 48; refine p1.mono ?_; rintro e w1 ⟨rfl, rfl⟩)
          rw [rounds_succ]
          go_wp2_with (go_at_call 48; refine p2.mono ?_; rintro e w1 ⟨rfl, rfl⟩)
          rw [rounds_succ]
          go_wp2_with (go_at_call 48; refine p3.mono ?_; rintro e w1 ⟨rfl, rfl⟩)
          rw [rounds_succ]
          go_wp2
          go_ret
          exact ⟨-1, rfl, by simp, rfl⟩
theorem gate_Right.ct_i (x0 x1 x2 x3 : Int) (g B : Nat) (w : World) (hg : w.heap[g]? = some (.cells #[.func (.func 29) #[] #[]] 74 (0, 0))) (hB : w.heap[B]? = some (.cells #[.int .i64 x0, .int .i64 x1, .int .i64 x2, .int .i64 x3] 3 (0, 0))) :
    Calls Try.prog 47 #[.slice (some ⟨B, 0, none⟩) 4 4, .func (.func 48) #[] #[.pointer (some ⟨g, 0, none⟩)]] w fun e w' => e = .returned (.bool (!(gate_Right.all_i x0 x1 x2 x3))) ∧ w' = w := by
  have p := gate_Right.ix_i x0 x1 x2 x3 g B w hg hB
  clear hg hB
  go_enter Try.func47, Try.ntmps47
  go_wp2_with (go_at_call 56; refine p.mono ?_; rintro e w1 ⟨i, rfl, hi, rfl⟩)
  go_ret
  exact ⟨by rw [← hi]; first | rfl | simp, rfl⟩
theorem gate_Right.ev_i (x0 x1 x2 x3 : Int) (B : Nat) (w : World) (hB : w.heap[B]? = some (.cells #[.int .i64 x0, .int .i64 x1, .int .i64 x2, .int .i64 x3] 3 (0, 0))) :
    Calls Try.prog 31 #[.func (.func 29) #[] #[], .slice (some ⟨B, 0, none⟩) 4 4] w fun e w' => e = .returned (.bool (gate_Right.all_i x0 x1 x2 x3)) ∧ Below w.heap.size w w' := by
  have p := gate_Right.ct_i x0 x1 x2 x3 w.heap.size B (w.alloc (.cells #[.func (.func 29) #[] #[]] 74 (0, 0))) (blk_new _ _) (blk_alloc hB _)
  have HB := Aside0.mk (below_alloc (Below.refl w.heap.size w) (.cells #[.func (.func 29) #[] #[]] 74 (0, 0)))
  clear hB
  have hmf : ∀ (fn : Fn) (first cap : Array Value) (w : World), (Instr.makeFunc fn first cap).run Try.prog w = .ok (.func fn first cap) w := fun _ _ _ _ => rfl
  go_enter Try.func31, Try.ntmps31
  go_wp2_with (go_at_call 47; refine p.mono ?_; rintro e w1 ⟨rfl, rfl⟩)
  go_ret
  exact ⟨by simp, HB.out⟩
theorem gate_Right.is_s (x : ByteArray) (w : World) : Calls Try.prog 30 #[.string x] w fun e w' => e = .returned (.bool (gate_Right.ts x)) ∧ w' = w := by
  go_enter Try.func30, Try.ntmps30
  go_wp2
  go_ret
  exact ⟨by simp [gate_Right.ts], rfl⟩
theorem gate_Right.cl_s (x : ByteArray) (g : Nat) (w : World) (hg : w.heap[g]? = some (.cells #[.func (.func 30) #[] #[]] 75 (0, 0))) :
    Calls Try.prog 50 #[.string x, .pointer (some ⟨g, 0, none⟩)] w fun e w' => e = .returned (.bool (!(gate_Right.ts x))) ∧ w' = w := by
  have hc := (blk_cell hg 0).trans rfl
  go_enter Try.func50, Try.ntmps50
  go_wp2_with (go_at_call 30; refine (gate_Right.is_s _ _).mono ?_; rintro e w1 ⟨rfl, rfl⟩)
  go_ret
  exact ⟨rfl, rfl⟩
set_option maxHeartbeats 4000000 in
theorem gate_Right.ix_s (x0 x1 x2 : ByteArray) (g B : Nat) (w : World) (hg : w.heap[g]? = some (.cells #[.func (.func 30) #[] #[]] 75 (0, 0))) (hB : w.heap[B]? = some (.cells #[.string x0, .string x1, .string x2] 9 (0, 0))) :
    Calls Try.prog 57 #[.slice (some ⟨B, 0, none⟩) 3 3, .func (.func 50) #[] #[.pointer (some ⟨g, 0, none⟩)]] w fun e w' => ∃ i : Int, e = .returned (.int .i64 i) ∧ decide (i ≥ 0) = !(gate_Right.all_s x0 x1 x2) ∧ w' = w := by
  have c0 := (blk_cell hB 0).trans rfl
  have c1 := (blk_cell hB 1).trans rfl
  have c2 := (blk_cell hB 2).trans rfl
  have p0 := gate_Right.cl_s x0 g w hg
  have p1 := gate_Right.cl_s x1 g w hg
  have p2 := gate_Right.cl_s x2 g w hg
  clear hg hB
  unfold gate_Right.all_s
  cases e0 : gate_Right.ts x0 with
  | false =>
    rw [e0] at p0
    go_enter Try.func57, Try.ntmps57
    go_wp2
    refine wp_loop_rounds 4 ?_
    rw [rounds_succ]
    go_wp2_with (go_at_call 50; refine p0.mono ?_; rintro e w1 ⟨rfl, rfl⟩)
    go_ret
    exact ⟨0, rfl, by simp, rfl⟩
  | true =>
    rw [e0] at p0
    cases e1 : gate_Right.ts x1 with
    | false =>
      rw [e1] at p1
      go_enter Try.func57, Try.ntmps57
      go_wp2
      refine wp_loop_rounds 4 ?_
      rw [rounds_succ]
      go_wp2_with (go_at_call 50; refine p0.mono ?_; rintro e w1 ⟨rfl, rfl⟩)
      rw [rounds_succ]
      go_wp2_with (go_at_call 50; refine p1.mono ?_; rintro e w1 ⟨rfl, rfl⟩)
      go_ret
      exact ⟨1, rfl, by simp, rfl⟩
    | true =>
      rw [e1] at p1
      cases e2 : gate_Right.ts x2 with
      | false =>
        rw [e2] at p2
        go_enter Try.func57, Try.ntmps57
        go_wp2
        refine wp_loop_rounds 4 ?_
        rw [rounds_succ]
        go_wp2_with (go_at_call 50; refine p0.mono ?_; rintro e w1 ⟨rfl, rfl⟩)
        rw [rounds_succ]
        go_wp2_with (go_at_call 50; refine p1.mono ?_; rintro e w1 ⟨rfl, rfl⟩)
        rw [rounds_succ]
        go_wp2_with (go_at_call 50; refine p2.mono ?_; rintro e w1 ⟨rfl, rfl⟩)
        go_ret
        exact ⟨2, rfl, by simp, rfl⟩
      | true =>
        rw [e2] at p2
        go_enter Try.func57, Try.ntmps57
        go_wp2
        refine wp_loop_rounds 4 ?_
        rw [rounds_succ]
        go_wp2_with (go_at_call 50; refine p0.mono ?_; rintro e w1 ⟨rfl, rfl⟩)
        rw [rounds_succ]
        go_wp2_with (go_at_call 50; refine p1.mono ?_; rintro e w1 ⟨rfl, rfl⟩)
        rw [rounds_succ]
        go_wp2_with (go_at_call 50; refine p2.mono ?_; rintro e w1 ⟨rfl, rfl⟩)
        rw [rounds_succ]
        go_wp2
        go_ret
        exact ⟨-1, rfl, by simp, rfl⟩
theorem gate_Right.ct_s (x0 x1 x2 : ByteArray) (g B : Nat) (w : World) (hg : w.heap[g]? = some (.cells #[.func (.func 30) #[] #[]] 75 (0, 0))) (hB : w.heap[B]? = some (.cells #[.string x0, .string x1, .string x2] 9 (0, 0))) :
    Calls Try.prog 49 #[.slice (some ⟨B, 0, none⟩) 3 3, .func (.func 50) #[] #[.pointer (some ⟨g, 0, none⟩)]] w fun e w' => e = .returned (.bool (!(gate_Right.all_s x0 x1 x2))) ∧ w' = w := by
  have p := gate_Right.ix_s x0 x1 x2 g B w hg hB
  clear hg hB
  go_enter Try.func49, Try.ntmps49
  go_wp2_with (go_at_call 57; refine p.mono ?_; rintro e w1 ⟨i, rfl, hi, rfl⟩)
  go_ret
  exact ⟨by rw [← hi]; first | rfl | simp, rfl⟩
theorem gate_Right.ev_s (x0 x1 x2 : ByteArray) (B : Nat) (w : World) (hB : w.heap[B]? = some (.cells #[.string x0, .string x1, .string x2] 9 (0, 0))) :
    Calls Try.prog 32 #[.func (.func 30) #[] #[], .slice (some ⟨B, 0, none⟩) 3 3] w fun e w' => e = .returned (.bool (gate_Right.all_s x0 x1 x2)) ∧ Below w.heap.size w w' := by
  have p := gate_Right.ct_s x0 x1 x2 w.heap.size B (w.alloc (.cells #[.func (.func 30) #[] #[]] 75 (0, 0))) (blk_new _ _) (blk_alloc hB _)
  have HB := Aside0.mk (below_alloc (Below.refl w.heap.size w) (.cells #[.func (.func 30) #[] #[]] 75 (0, 0)))
  clear hB
  have hmf : ∀ (fn : Fn) (first cap : Array Value) (w : World), (Instr.makeFunc fn first cap).run Try.prog w = .ok (.func fn first cap) w := fun _ _ _ _ => rfl
  go_enter Try.func32, Try.ntmps32
  go_wp2_with (go_at_call 49; refine p.mono ?_; rintro e w1 ⟨rfl, rfl⟩)
  go_ret
  exact ⟨by simp, HB.out⟩
theorem gate_Right.box2 (w : World) (xs ys : Array Value) (t1 t2 : TypeId) : ((w.alloc (.cells xs t1)).alloc (.cells ys t2)).heap[w.heap.size + 1]? = some (.cells ys t2 (0, 0)) := by
  have s1 : (w.alloc (.cells xs t1)).heap.size = w.heap.size + 1 := by simp [World.alloc, -World.alloc_eq]
  rw [← s1]; exact blk_new _ _
set_option maxHeartbeats 8000000 in
set_option maxRecDepth 100000 in
theorem gate_Right.calls (a0_0 : ByteArray) (a0_1 a0_2 a0_3 a0_4 : Int) (a0_5 a0_6 a0_7 : ByteArray) (r : Bool) (w : World) (h : gate_Right.f a0_0 a0_1 a0_2 a0_3 a0_4 a0_5 a0_6 a0_7 = some r) :
    Calls Try.prog 15 #[.agg #[.string a0_0, .int .i64 a0_1, .int .i64 a0_2, .int .i64 a0_3, .int .i64 a0_4, .string a0_5, .string a0_6, .string a0_7]] w fun e w' => e = .returned (.bool r) ∧ Below w.heap.size w w' := by
  unfold gate_Right.f at h
  obtain rfl := Option.some.inj h
  clear h
  cases b0 : decide ((a0_0.size : Int) ≤ 128) with
  | false =>
    go_enter Try.func15, Try.ntmps15
    go_wp2
    go_ret
    exact ⟨by simp, below_alloc (Below.refl _ _) _⟩
  | true =>
    cases b1 : gate_Right.all_i a0_1 a0_2 a0_3 a0_4 with
    | false =>
      go_enter Try.func15, Try.ntmps15
      go_wp2_with (go_at_call 31; refine (gate_Right.ev_i a0_1 a0_2 a0_3 a0_4 _ _ (gate_Right.box2 _ _ _ _ _)).mono ?_; rintro e w1 ⟨rfl, hb⟩; rw [b1]; have HB := Aside0.mk (below_step (below_alloc (below_alloc (Below.refl w.heap.size w) _) _) hb); clear hb)
      go_ret
      exact ⟨by simp, HB.out⟩
    | true =>
      go_enter Try.func15, Try.ntmps15
      go_wp2_with (first
        | (go_at_call 31; refine (gate_Right.ev_i a0_1 a0_2 a0_3 a0_4 _ _ (gate_Right.box2 _ _ _ _ _)).mono ?_; rintro e w1 ⟨rfl, hb⟩; rw [b1]; have HB := Aside0.mk (below_step (below_alloc (below_alloc (Below.refl w.heap.size w) _) _) hb); have hA := blk_below (blk_alloc (blk_new w (.cells #[.string a0_0, .int .i64 a0_1, .int .i64 a0_2, .int .i64 a0_3, .int .i64 a0_4, .string a0_5, .string a0_6, .string a0_7] 23)) _) hb; clear hb; have c5 := (blk_cell hA 5).trans rfl; have c6 := (blk_cell hA 6).trans rfl; have c7 := (blk_cell hA 7).trans rfl; clear hA)
        | (go_at_call 32; refine (gate_Right.ev_s a0_5 a0_6 a0_7 _ _ (blk_new _ _)).mono ?_; rintro e w2 ⟨rfl, hb⟩; have HB2 := Aside0.mk (below_step (below_alloc HB.out _) hb); clear hb))
      go_ret
      exact ⟨by simp, HB2.out⟩


end Go.Proofs.Ytplgbkobpanbfaa.Q
