-- Written by this session's own driver (wip/hybrid.py) of the kit's printer; contracts marked FOREIGN are by hand.
import Derived.Test.YtplgbkobpanbfaaQx0
namespace Go.Proofs.Ytplgbkobpanbfaa.Q
open Go.RowKit Go.Proofs.YtplgbkobpanbfaaW.PrintWords Go.Proofs.YtplgbkobpanbfaaW.PrintLast
set_option linter.unusedVariables false
set_option linter.unusedSimpArgs false

/-! ### gate_Right: function 15 -/
-- FOREIGN: closures, a variadic call
def gate_Right.ti (n : Int) : Bool := decide (0 ≤ n) && decide (n ≤ 255)
def gate_Right.ts (s : ByteArray) : Bool := decide ((s.size : Int) ≤ 64)
def gate_Right.all_i (x0 x1 x2 x3 : Int) : Bool := gate_Right.ti x0 && (gate_Right.ti x1 && (gate_Right.ti x2 && gate_Right.ti x3))
def gate_Right.all_s (x0 x1 x2 : ByteArray) : Bool := gate_Right.ts x0 && (gate_Right.ts x1 && gate_Right.ts x2)
def gate_Right.f (a0_0 : ByteArray) (a0_1 a0_2 a0_3 a0_4 : Int) (a0_5 a0_6 a0_7 : ByteArray) : Option Bool := some (decide ((a0_0.size : Int) ≤ 128) && (gate_Right.all_i a0_1 a0_2 a0_3 a0_4 && gate_Right.all_s a0_5 a0_6 a0_7))
theorem gate_Right.is_i (x : Int) (w : World) : Calls Try.prog 29 #[.int .i64 x] w fun e w' => e = .returned (.bool (gate_Right.ti x)) ∧ w' = w := by
  by_cases h0 : 0 ≤ x
  · have b0 : decide (0 ≤ x) = true := decide_eq_true h0
    go_enter Try.func29, Try.ntmps29
    go_wp2
    go_ret
    exact ⟨by simp [gate_Right.ti, b0], rfl⟩
  · have b0 : decide (0 ≤ x) = false := decide_eq_false h0
    go_enter Try.func29, Try.ntmps29
    go_wp2
    go_ret
    exact ⟨by simp [gate_Right.ti, b0], rfl⟩
theorem gate_Right.cl_i (x : Int) (g : Nat) (w : World) (hg : w.heap[g]? = some (.cells #[.func (.func 29) #[] #[]] 74 (0, 0))) :
    Calls Try.prog 48 #[.int .i64 x, .pointer (some ⟨g, 0, none⟩)] w fun e w' => e = .returned (.bool (!(gate_Right.ti x))) ∧ w' = w := by
  have hc := (blk_cell hg 0).trans rfl
  go_enter Try.func48, Try.ntmps48
  go_wp2_with (go_at_call 29; refine (gate_Right.is_i _ _).mono ?_; rintro e w1 ⟨rfl, rfl⟩)
  go_ret
  exact ⟨rfl, rfl⟩
set_option maxHeartbeats 4000000 in
theorem gate_Right.ix_i (x0 x1 x2 x3 : Int) (g B : Nat) (w : World) (hg : w.heap[g]? = some (.cells #[.func (.func 29) #[] #[]] 74 (0, 0))) (hB : w.heap[B]? = some (.cells #[.int .i64 x0, .int .i64 x1, .int .i64 x2, .int .i64 x3] 3 (0, 0))) :
    Calls Try.prog 56 #[.slice (some ⟨B, 0, none⟩) 4 4, .func (.func 48) #[] #[.pointer (some ⟨g, 0, none⟩)]] w fun e w' => ∃ i : Int, e = .returned (.int .i64 i) ∧ decide (i ≥ 0) = !(gate_Right.all_i x0 x1 x2 x3) ∧ w' = w := by
  have c0 := (blk_cell hB 0).trans rfl
  have c1 := (blk_cell hB 1).trans rfl
  have c2 := (blk_cell hB 2).trans rfl
  have c3 := (blk_cell hB 3).trans rfl
  have p0 := gate_Right.cl_i x0 g w hg
  have p1 := gate_Right.cl_i x1 g w hg
  have p2 := gate_Right.cl_i x2 g w hg
  have p3 := gate_Right.cl_i x3 g w hg
  clear hg hB
  unfold gate_Right.all_i
  cases e0 : gate_Right.ti x0 with
  | false =>
    rw [e0] at p0
    go_enter Try.func56, Try.ntmps56
    go_wp2
    refine wp_loop_rounds 5 ?_
    rw [rounds_succ]
    go_wp2_with (go_at_call 48; refine p0.mono ?_; rintro e w1 ⟨rfl, rfl⟩)
    go_ret
    exact ⟨0, rfl, by simp, rfl⟩
  | true =>
    rw [e0] at p0
    cases e1 : gate_Right.ti x1 with
    | false =>
      rw [e1] at p1
      go_enter Try.func56, Try.ntmps56
      go_wp2
      refine wp_loop_rounds 5 ?_
      rw [rounds_succ]
      go_wp2_with (go_at_call 48; refine p0.mono ?_; rintro e w1 ⟨rfl, rfl⟩)
      rw [rounds_succ]
      go_wp2_with (go_at_call 48; refine p1.mono ?_; rintro e w1 ⟨rfl, rfl⟩)
      go_ret
      exact ⟨1, rfl, by simp, rfl⟩
    | true =>
      rw [e1] at p1
      cases e2 : gate_Right.ti x2 with
      | false =>
        rw [e2] at p2
        go_enter Try.func56, Try.ntmps56
        go_wp2
        refine wp_loop_rounds 5 ?_
        rw [rounds_succ]
        go_wp2_with (go_at_call 48; refine p0.mono ?_; rintro e w1 ⟨rfl, rfl⟩)
        rw [rounds_succ]
        go_wp2_with (go_at_call 48; refine p1.mono ?_; rintro e w1 ⟨rfl, rfl⟩)
        rw [rounds_succ]
        go_wp2_with (go_at_call 48; refine p2.mono ?_; rintro e w1 ⟨rfl, rfl⟩)
        go_ret
        exact ⟨2, rfl, by simp, rfl⟩
      | true =>
        rw [e2] at p2
        cases e3 : gate_Right.ti x3 with
        | false =>
          rw [e3] at p3
          go_enter Try.func56, Try.ntmps56
          go_wp2
          refine wp_loop_rounds 5 ?_
          rw [rounds_succ]
          go_wp2_with (go_at_call 48; refine p0.mono ?_; rintro e w1 ⟨rfl, rfl⟩)
          rw [rounds_succ]
          go_wp2_with (go_at_call 48; refine p1.mono ?_; rintro e w1 ⟨rfl, rfl⟩)
          rw [rounds_succ]
          go_wp2_with (go_at_call 48; refine p2.mono ?_; rintro e w1 ⟨rfl, rfl⟩)
          rw [rounds_succ]
          go_wp2_with (go_at_call 48; refine p3.mono ?_; rintro e w1 ⟨rfl, rfl⟩)
          go_ret
          exact ⟨3, rfl, by simp, rfl⟩
        | true =>
          rw [e3] at p3
          go_enter Try.func56, Try.ntmps56
          go_wp2
          refine wp_loop_rounds 5 ?_
          rw [rounds_succ]
          go_wp2_with (go_at_call 48; refine p0.mono ?_; rintro e w1 ⟨rfl, rfl⟩)
          rw [rounds_succ]
          go_wp2_with (go_at_call 48; refine p1.mono ?_; rintro e w1 ⟨rfl, rfl⟩)
          rw [rounds_succ]
          go_wp2_with (go_at_call 48; refine p2.mono ?_; rintro e w1 ⟨rfl, rfl⟩)
          rw [rounds_succ]
          go_wp2_with (go_at_call 48; refine p3.mono ?_; rintro e w1 ⟨rfl, rfl⟩)
          rw [rounds_succ]
          go_wp2
          go_ret
          exact ⟨-1, rfl, by simp, rfl⟩
theorem gate_Right.ct_i (x0 x1 x2 x3 : Int) (g B : Nat) (w : World) (hg : w.heap[g]? = some (.cells #[.func (.func 29) #[] #[]] 74 (0, 0))) (hB : w.heap[B]? = some (.cells #[.int .i64 x0, .int .i64 x1, .int .i64 x2, .int .i64 x3] 3 (0, 0))) :
    Calls Try.prog 47 #[.slice (some ⟨B, 0, none⟩) 4 4, .func (.func 48) #[] #[.pointer (some ⟨g, 0, none⟩)]] w fun e w' => e = .returned (.bool (!(gate_Right.all_i x0 x1 x2 x3))) ∧ w' = w := by
  have p := gate_Right.ix_i x0 x1 x2 x3 g B w hg hB
  clear hg hB
  go_enter Try.func47, Try.ntmps47
  go_wp2_with (go_at_call 56; refine p.mono ?_; rintro e w1 ⟨i, rfl, hi, rfl⟩)
  go_ret
  exact ⟨by rw [← hi]; first | rfl | simp, rfl⟩
theorem gate_Right.ev_i (x0 x1 x2 x3 : Int) (B : Nat) (w : World) (hB : w.heap[B]? = some (.cells #[.int .i64 x0, .int .i64 x1, .int .i64 x2, .int .i64 x3] 3 (0, 0))) :
    Calls Try.prog 31 #[.func (.func 29) #[] #[], .slice (some ⟨B, 0, none⟩) 4 4] w fun e w' => e = .returned (.bool (gate_Right.all_i x0 x1 x2 x3)) ∧ Below w.heap.size w w' := by
  have p := gate_Right.ct_i x0 x1 x2 x3 w.heap.size B (w.alloc (.cells #[.func (.func 29) #[] #[]] 74 (0, 0))) (blk_new _ _) (blk_alloc hB _)
  have HB := Aside0.mk (below_alloc (Below.refl w.heap.size w) (.cells #[.func (.func 29) #[] #[]] 74 (0, 0)))
  clear hB
  have hmf : ∀ (fn : Fn) (first cap : Array Value) (w : World), (Instr.makeFunc fn first cap).run Try.prog w = .ok (.func fn first cap) w := fun _ _ _ _ => rfl
  go_enter Try.func31, Try.ntmps31
  go_wp2_with (go_at_call 47; refine p.mono ?_; rintro e w1 ⟨rfl, rfl⟩)
  go_ret
  exact ⟨by simp, HB.out⟩
theorem gate_Right.is_s (x : ByteArray) (w : World) : Calls Try.prog 30 #[.string x] w fun e w' => e = .returned (.bool (gate_Right.ts x)) ∧ w' = w := by
  go_enter Try.func30, Try.ntmps30
  go_wp2
  go_ret
  exact ⟨by simp [gate_Right.ts], rfl⟩
theorem gate_Right.cl_s (x : ByteArray) (g : Nat) (w : World) (hg : w.heap[g]? = some (.cells #[.func (.func 30) #[] #[]] 75 (0, 0))) :
    Calls Try.prog 50 #[.string x, .pointer (some ⟨g, 0, none⟩)] w fun e w' => e = .returned (.bool (!(gate_Right.ts x))) ∧ w' = w := by
  have hc := (blk_cell hg 0).trans rfl
  go_enter Try.func50, Try.ntmps50
  go_wp2_with (go_at_call 30; refine (gate_Right.is_s _ _).mono ?_; rintro e w1 ⟨rfl, rfl⟩)
  go_ret
  exact ⟨rfl, rfl⟩
set_option maxHeartbeats 4000000 in
theorem gate_Right.ix_s (x0 x1 x2 : ByteArray) (g B : Nat) (w : World) (hg : w.heap[g]? = some (.cells #[.func (.func 30) #[] #[]] 75 (0, 0))) (hB : w.heap[B]? = some (.cells #[.string x0, .string x1, .string x2] 9 (0, 0))) :
    Calls Try.prog 57 #[.slice (some ⟨B, 0, none⟩) 3 3, .func (.func 50) #[] #[.pointer (some ⟨g, 0, none⟩)]] w fun e w' => ∃ i : Int, e = .returned (.int .i64 i) ∧ decide (i ≥ 0) = !(gate_Right.all_s x0 x1 x2) ∧ w' = w := by
  have c0 := (blk_cell hB 0).trans rfl
  have c1 := (blk_cell hB 1).trans rfl
  have c2 := (blk_cell hB 2).trans rfl
  have p0 := gate_Right.cl_s x0 g w hg
  have p1 := gate_Right.cl_s x1 g w hg
  have p2 := gate_Right.cl_s x2 g w hg
  clear hg hB
  unfold gate_Right.all_s
  cases e0 : gate_Right.ts x0 with
  | false =>
    rw [e0] at p0
    go_enter Try.func57, Try.ntmps57
    go_wp2
    refine wp_loop_rounds 4 ?_
    rw [rounds_succ]
    go_wp2_with (go_at_call 50; refine p0.mono ?_; rintro e w1 ⟨rfl, rfl⟩)
    go_ret
    exact ⟨0, rfl, by simp, rfl⟩
  | true =>
    rw [e0] at p0
    cases e1 : gate_Right.ts x1 with
    | false =>
      rw [e1] at p1
      go_enter Try.func57, Try.ntmps57
      go_wp2
      refine wp_loop_rounds 4 ?_
      rw [rounds_succ]
      go_wp2_with (go_at_call 50; refine p0.mono ?_; rintro e w1 ⟨rfl, rfl⟩)
      rw [rounds_succ]
      go_wp2_with (go_at_call 50; refine p1.mono ?_; rintro e w1 ⟨rfl, rfl⟩)
      go_ret
      exact ⟨1, rfl, by simp, rfl⟩
    | true =>
      rw [e1] at p1
      cases e2 : gate_Right.ts x2 with
      | false =>
        rw [e2] at p2
        go_enter Try.func57, Try.ntmps57
        go_wp2
        refine wp_loop_rounds 4 ?_
        rw [rounds_succ]
        go_wp2_with (go_at_call 50; refine p0.mono ?_; rintro e w1 ⟨rfl, rfl⟩)
        rw [rounds_succ]
        go_wp2_with (go_at_call 50; refine p1.mono ?_; rintro e w1 ⟨rfl, rfl⟩)
        rw [rounds_succ]
        go_wp2_with (go_at_call 50; refine p2.mono ?_; rintro e w1 ⟨rfl, rfl⟩)
        go_ret
        exact ⟨2, rfl, by simp, rfl⟩
      | true =>
        rw [e2] at p2
        go_enter Try.func57, Try.ntmps57
        go_wp2
        refine wp_loop_rounds 4 ?_
        rw [rounds_succ]
        go_wp2_with (go_at_call 50; refine p0.mono ?_; rintro e w1 ⟨rfl, rfl⟩)
        rw [rounds_succ]
        go_wp2_with (go_at_call 50; refine p1.mono ?_; rintro e w1 ⟨rfl, rfl⟩)
        rw [rounds_succ]
        go_wp2_with (go_at_call 50; refine p2.mono ?_; rintro e w1 ⟨rfl, rfl⟩)
        rw [rounds_succ]
        go_wp2
        go_ret
        exact ⟨-1, rfl, by simp, rfl⟩
theorem gate_Right.ct_s (x0 x1 x2 : ByteArray) (g B : Nat) (w : World) (hg : w.heap[g]? = some (.cells #[.func (.func 30) #[] #[]] 75 (0, 0))) (hB : w.heap[B]? = some (.cells #[.string x0, .string x1, .string x2] 9 (0, 0))) :
    Calls Try.prog 49 #[.slice (some ⟨B, 0, none⟩) 3 3, .func (.func 50) #[] #[.pointer (some ⟨g, 0, none⟩)]] w fun e w' => e = .returned (.bool (!(gate_Right.all_s x0 x1 x2))) ∧ w' = w := by
  have p := gate_Right.ix_s x0 x1 x2 g B w hg hB
  clear hg hB
  go_enter Try.func49, Try.ntmps49
  go_wp2_with (go_at_call 57; refine p.mono ?_; rintro e w1 ⟨i, rfl, hi, rfl⟩)
  go_ret
  exact ⟨by rw [← hi]; first | rfl | simp, rfl⟩
theorem gate_Right.ev_s (x0 x1 x2 : ByteArray) (B : Nat) (w : World) (hB : w.heap[B]? = some (.cells #[.string x0, .string x1, .string x2] 9 (0, 0))) :
    Calls Try.prog 32 #[.func (.func 30) #[] #[], .slice (some ⟨B, 0, none⟩) 3 3] w fun e w' => e = .returned (.bool (gate_Right.all_s x0 x1 x2)) ∧ Below w.heap.size w w' := by
  have p := gate_Right.ct_s x0 x1 x2 w.heap.size B (w.alloc (.cells #[.func (.func 30) #[] #[]] 75 (0, 0))) (blk_new _ _) (blk_alloc hB _)
  have HB := Aside0.mk (below_alloc (Below.refl w.heap.size w) (.cells #[.func (.func 30) #[] #[]] 75 (0, 0)))
  clear hB
  have hmf : ∀ (fn : Fn) (first cap : Array Value) (w : World), (Instr.makeFunc fn first cap).run Try.prog w = .ok (.func fn first cap) w := fun _ _ _ _ => rfl
  go_enter Try.func32, Try.ntmps32
  go_wp2_with (go_at_call 49; refine p.mono ?_; rintro e w1 ⟨rfl, rfl⟩)
  go_ret
  exact ⟨by simp, HB.out⟩
theorem gate_Right.box2 (w : World) (xs ys : Array Value) (t1 t2 : TypeId) : ((w.alloc (.cells xs t1)).alloc (.cells ys t2)).heap[w.heap.size + 1]? = some (.cells ys t2 (0, 0)) := by
  have s1 : (w.alloc (.cells xs t1)).heap.size = w.heap.size + 1 := by simp [World.alloc, -World.alloc_eq]
  rw [← s1]; exact blk_new _ _
set_option maxHeartbeats 8000000 in
set_option maxRecDepth 100000 in
theorem gate_Right.calls (a0_0 : ByteArray) (a0_1 a0_2 a0_3 a0_4 : Int) (a0_5 a0_6 a0_7 : ByteArray) (r : Bool) (w : World) (h : gate_Right.f a0_0 a0_1 a0_2 a0_3 a0_4 a0_5 a0_6 a0_7 = some r) :
    Calls Try.prog 15 #[.agg #[.string a0_0, .int .i64 a0_1, .int .i64 a0_2, .int .i64 a0_3, .int .i64 a0_4, .string a0_5, .string a0_6, .string a0_7]] w fun e w' => e = .returned (.bool r) ∧ Below w.heap.size w w' := by
  unfold gate_Right.f at h
  obtain rfl := Option.some.inj h
  clear h
  cases b0 : decide ((a0_0.size : Int) ≤ 128) with
  | false =>
    go_enter Try.func15, Try.ntmps15
    go_wp2
    go_ret
    exact ⟨by simp, below_alloc (Below.refl _ _) _⟩
  | true =>
    cases b1 : gate_Right.all_i a0_1 a0_2 a0_3 a0_4 with
    | false =>
      go_enter Try.func15, Try.ntmps15
      go_wp2_with (go_at_call 31; refine (gate_Right.ev_i a0_1 a0_2 a0_3 a0_4 _ _ (gate_Right.box2 _ _ _ _ _)).mono ?_; rintro e w1 ⟨rfl, hb⟩; rw [b1]; have HB := Aside0.mk (below_step (below_alloc (below_alloc (Below.refl w.heap.size w) _) _) hb); clear hb)
      go_ret
      exact ⟨by simp, HB.out⟩
    | true =>
      go_enter Try.func15, Try.ntmps15
      go_wp2_with (first
        | (go_at_call 31; refine (gate_Right.ev_i a0_1 a0_2 a0_3 a0_4 _ _ (gate_Right.box2 _ _ _ _ _)).mono ?_; rintro e w1 ⟨rfl, hb⟩; rw [b1]; have HB := Aside0.mk (below_step (below_alloc (below_alloc (Below.refl w.heap.size w) _) _) hb); have hA := blk_below (blk_alloc (blk_new w (.cells #[.string a0_0, .int .i64 a0_1, .int .i64 a0_2, .int .i64 a0_3, .int .i64 a0_4, .string a0_5, .string a0_6, .string a0_7] 23)) _) hb; clear hb; have c5 := (blk_cell hA 5).trans rfl; have c6 := (blk_cell hA 6).trans rfl; have c7 := (blk_cell hA 7).trans rfl; clear hA)
        | (go_at_call 32; refine (gate_Right.ev_s a0_5 a0_6 a0_7 _ _ (blk_new _ _)).mono ?_; rintro e w2 ⟨rfl, hb⟩; have HB2 := Aside0.mk (below_step (below_alloc HB.out _) hb); clear hb))
      go_ret
      exact ⟨by simp, HB2.out⟩


end Go.Proofs.Ytplgbkobpanbfaa.Q
