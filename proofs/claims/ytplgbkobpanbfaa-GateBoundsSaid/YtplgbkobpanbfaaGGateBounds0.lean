import Derived.Test.YtplgbkobpanbfaaQx0
namespace Go.Proofs.Ytplgbkobpanbfaa.Q
open Go.RowKit Go.Proofs.YtplgbkobpanbfaaW.PrintWords Go.Proofs.YtplgbkobpanbfaaW.PrintLast Go.Proofs.YtplgbkobpanbfaaW.PrintMore
attribute [local go_sem] max2_int min2_int max_two min_two max_three min_three max_four min_four   -- for this text's walks alone
set_option linter.unusedVariables false
set_option linter.unusedSimpArgs false
/-! ### gate_Right: function 15 -/
-- FOREIGN: closures, a variadic call
def gate_Right.ti (n : Int) : Bool := decide (0 ≤ n) && decide (n ≤ 255)
def gate_Right.ts (s : ByteArray) : Bool := decide ((s.size : Int) ≤ 64)
def gate_Right.all_i (x0 x1 x2 x3 : Int) : Bool := gate_Right.ti x0 && (gate_Right.ti x1 && (gate_Right.ti x2 && gate_Right.ti x3))
def gate_Right.all_s (x0 x1 x2 : ByteArray) : Bool := gate_Right.ts x0 && (gate_Right.ts x1 && gate_Right.ts x2)
def gate_Right.f (a0_0 : ByteArray) (a0_1 a0_2 a0_3 a0_4 : Int) (a0_5 a0_6 a0_7 : ByteArray) : Option Bool := some (decide ((a0_0.size : Int) ≤ 128) && (gate_Right.all_i a0_1 a0_2 a0_3 a0_4 && gate_Right.all_s a0_5 a0_6 a0_7))
theorem gate_Right.is_i (x : Int) (w : World) : Calls Try.prog 29 #[.int .i64 x] w fun e w' => e = .returned (.bool (gate_Right.ti x)) ∧ w' = w := by
  by_cases h0 : 0 ≤ x
  · have b0 : decide (0 ≤ x) = true := decide_eq_true h0
    go_enter Try.func29, Try.ntmps29
    go_wp2
    go_ret
    exact ⟨by simp [gate_Right.ti, b0], rfl⟩
  · have b0 : decide (0 ≤ x) = false := decide_eq_false h0
    go_enter Try.func29, Try.ntmps29
    go_wp2
    go_ret
    exact ⟨by simp [gate_Right.ti, b0], rfl⟩
theorem gate_Right.cl_i (x : Int) (g : Nat) (w : World) (hg : w.heap[g]? = some (.cells #[.func (.func 29) #[] #[]] 74 (0, 0))) :
    Calls Try.prog 48 #[.int .i64 x, .pointer (some ⟨g, 0, none⟩)] w fun e w' => e = .returned (.bool (!(gate_Right.ti x))) ∧ w' = w := by
  have hc := (blk_cell hg 0).trans rfl
  go_enter Try.func48, Try.ntmps48
  go_wp2_with (go_at_call 29; refine (gate_Right.is_i _ _).mono ?_; rintro e w1 ⟨rfl, rfl⟩)
  go_ret
  exact ⟨rfl, rfl⟩
set_option maxHeartbeats 4000000 in
theorem gate_Right.ix_i (x0 x1 x2 x3 : Int) (g B : Nat) (w : World) (hg : w.heap[g]? = some (.cells #[.func (.func 29) #[] #[]] 74 (0, 0))) (hB : w.heap[B]? = some (.cells #[.int .i64 x0, .int .i64 x1, .int .i64 x2, .int .i64 x3] 3 (0, 0))) :
    Calls Try.prog 56 #[.slice (some ⟨B, 0, none⟩) 4 4, .func (.func 48) #[] #[.pointer (some ⟨g, 0, none⟩)]] w fun e w' => ∃ i : Int, e = .returned (.int .i64 i) ∧ decide (i ≥ 0) = !(gate_Right.all_i x0 x1 x2 x3) ∧ w' = w := by
  have c0 := (blk_cell hB 0).trans rfl
  have c1 := (blk_cell hB 1).trans rfl
  have c2 := (blk_cell hB 2).trans rfl
  have c3 := (blk_cell hB 3).trans rfl
  have p0 := gate_Right.cl_i x0 g w hg
  have p1 := gate_Right.cl_i x1 g w hg
  have p2 := gate_Right.cl_i x2 g w hg
  have p3 := gate_Right.cl_i x3 g w hg
  clear hg hB
  unfold gate_Right.all_i
  cases e0 : gate_Right.ti x0 with
  | false =>
    rw [e0] at p0
    go_enter Try.func56, Try.ntmps56
    go_wp2
    refine wp_loop_rounds 5 ?_
    rw [rounds_succ]
    go_wp2_with (go_at_call 48; refine p0.mono ?_; rintro e w1 ⟨rfl, rfl⟩)
    go_ret
    exact ⟨0, rfl, by simp, rfl⟩
  | true =>
    rw [e0] at p0
    cases e1 : gate_Right.ti x1 with
    | false =>
      rw [e1] at p1
      go_enter Try.func56, Try.ntmps56
      go_wp2
      refine wp_loop_rounds 5 ?_
      rw [rounds_succ]
      go_wp2_with (go_at_call 48; refine p0.mono ?_; rintro e w1 ⟨rfl, rfl⟩)
      rw [rounds_succ]
      go_wp2_with (go_at_call 48; refine p1.mono ?_; rintro e w1 ⟨rfl, rfl⟩)
      go_ret
      exact ⟨1, rfl, by simp, rfl⟩
    | true =>
      rw [e1] at p1
      cases e2 : gate_Right.ti x2 with
      | false =>
        rw [e2] at p2
        go_enter Try.func56, Try.ntmps56
        go_wp2
        refine wp_loop_rounds 5 ?_
        rw [rounds_succ]
        go_wp2_with (go_at_call 48; refine p0.mono ?_; rintro e w1 ⟨rfl, rfl⟩)
        rw [rounds_succ]
        go_wp2_with (go_at_call 48; refine p1.mono ?_; rintro e w1 ⟨rfl, rfl⟩)
        rw [rounds_succ]
        go_wp2_with (go_at_call 48; refine p2.mono ?_; rintro e w1 ⟨rfl, rfl⟩)
        go_ret
        exact ⟨2, rfl, by simp, rfl⟩
      | true =>
        rw [e2] at p2
        cases e3 : gate_Right.ti x3 with
        | false =>
          rw [e3] at p3
          go_enter Try.func56, Try.ntmps56
          go_wp2
          refine wp_loop_rounds 5 ?_
          rw [rounds_succ]
          go_wp2_with (go_at_call 48; refine p0.mono ?_; rintro e w1 ⟨rfl, rfl⟩)
          rw [rounds_succ]
          go_wp2_with (go_at_call 48; refine p1.mono ?_; rintro e w1 ⟨rfl, rfl⟩)
          rw [rounds_succ]
          go_wp2_with (go_at_call 48; refine p2.mono ?_; rintro e w1 ⟨rfl, rfl⟩)
          rw [rounds_succ]
          go_wp2_with (go_at_call 48; refine p3.mono ?_; rintro e w1 ⟨rfl, rfl⟩)
          go_ret
          exact ⟨3, rfl, by simp, rfl⟩
        | true =>
          rw [e3] at p3
          go_enter Try.func56, Try.ntmps56
          go_wp2
          refine wp_loop_rounds 5 ?_
          rw [rounds_succ]
          go_wp2_with (go_at_call 48; refine p0.mono ?_; rintro e w1 ⟨rfl, rfl⟩)
          rw [rounds_succ]
          go_wp2_with (go_at_call 48; refine p1.mono ?_; rintro e w1 ⟨rfl, rfl⟩)
          rw [rounds_succ]
          go_wp2_with (go_at_call 48; refine p2.mono ?_; rintro e w1 ⟨rfl, rfl⟩)
          rw [rounds_succ]
          go_wp2_with (go_at_call 48; refine p3.mono ?_; rintro e w1 ⟨rfl, rfl⟩)
          rw [rounds_succ]
          go_wp2
          go_ret
          exact ⟨-1, rfl, by simp, rfl⟩
theorem gate_Right.ct_i (x0 x1 x2 x3 : Int) (g B : Nat) (w : World) (hg : w.heap[g]? = some (.cells #[.func (.func 29) #[] #[]] 74 (0, 0))) (hB : w.heap[B]? = some (.cells #[.int .i64 x0, .int .i64 x1, .int .i64 x2, .int .i64 x3] 3 (0, 0))) :
    Calls Try.prog 47 #[.slice (some ⟨B, 0, none⟩) 4 4, .func (.func 48) #[] #[.pointer (some ⟨g, 0, none⟩)]] w fun e w' => e = .returned (.bool (!(gate_Right.all_i x0 x1 x2 x3))) ∧ w' = w := by
  have p := gate_Right.ix_i x0 x1 x2 x3 g B w hg hB
  clear hg hB
  go_enter Try.func47, Try.ntmps47
  go_wp2_with (go_at_call 56; refine p.mono ?_; rintro e w1 ⟨i, rfl, hi, rfl⟩)
  go_ret
  exact ⟨by rw [← hi]; first | rfl | simp, rfl⟩
theorem gate_Right.ev_i (x0 x1 x2 x3 : Int) (B : Nat) (w : World) (hB : w.heap[B]? = some (.cells #[.int .i64 x0, .int .i64 x1, .int .i64 x2, .int .i64 x3] 3 (0, 0))) :
    Calls Try.prog 31 #[.func (.func 29) #[] #[], .slice (some ⟨B, 0, none⟩) 4 4] w fun e w' => e = .returned (.bool (gate_Right.all_i x0 x1 x2 x3)) ∧ Below w.heap.size w w' := by
  have p := gate_Right.ct_i x0 x1 x2 x3 w.heap.size B (w.alloc (.cells #[.func (.func 29) #[] #[]] 74 (0, 0))) (blk_new _ _) (blk_alloc hB _)
  have HB := Aside0.mk (below_alloc (Below.refl w.heap.size w) (.cells #[.func (.func 29) #[] #[]] 74 (0, 0)))
  clear hB
  have hmf : ∀ (fn : Fn) (first cap : Array Value) (w : World), (Instr.makeFunc fn first cap).run Try.prog w = .ok (.func fn first cap) w := fun _ _ _ _ => rfl
  go_enter Try.func31, Try.ntmps31
  go_wp2_with (go_at_call 47; refine p.mono ?_; rintro e w1 ⟨rfl, rfl⟩)
  go_ret
  exact ⟨by simp, HB.out⟩
theorem gate_Right.is_s (x : ByteArray) (w : World) : Calls Try.prog 30 #[.string x] w fun e w' => e = .returned (.bool (gate_Right.ts x)) ∧ w' = w := by
  go_enter Try.func30, Try.ntmps30
  go_wp2
  go_ret
  exact ⟨by simp [gate_Right.ts], rfl⟩
theorem gate_Right.cl_s (x : ByteArray) (g : Nat) (w : World) (hg : w.heap[g]? = some (.cells #[.func (.func 30) #[] #[]] 75 (0, 0))) :
    Calls Try.prog 50 #[.string x, .pointer (some ⟨g, 0, none⟩)] w fun e w' => e = .returned (.bool (!(gate_Right.ts x))) ∧ w' = w := by
  have hc := (blk_cell hg 0).trans rfl
  go_enter Try.func50, Try.ntmps50
  go_wp2_with (go_at_call 30; refine (gate_Right.is_s _ _).mono ?_; rintro e w1 ⟨rfl, rfl⟩)
  go_ret
  exact ⟨rfl, rfl⟩
set_option maxHeartbeats 4000000 in
theorem gate_Right.ix_s (x0 x1 x2 : ByteArray) (g B : Nat) (w : World) (hg : w.heap[g]? = some (.cells #[.func (.func 30) #[] #[]] 75 (0, 0))) (hB : w.heap[B]? = some (.cells #[.string x0, .string x1, .string x2] 9 (0, 0))) :
    Calls Try.prog 57 #[.slice (some ⟨B, 0, none⟩) 3 3, .func (.func 50) #[] #[.pointer (some ⟨g, 0, none⟩)]] w fun e w' => ∃ i : Int, e = .returned (.int .i64 i) ∧ decide (i ≥ 0) = !(gate_Right.all_s x0 x1 x2) ∧ w' = w := by
  have c0 := (blk_cell hB 0).trans rfl
  have c1 := (blk_cell hB 1).trans rfl
  have c2 := (blk_cell hB 2).trans rfl
  have p0 := gate_Right.cl_s x0 g w hg
  have p1 := gate_Right.cl_s x1 g w hg
  have p2 := gate_Right.cl_s x2 g w hg
  clear hg hB
  unfold gate_Right.all_s
  cases e0 : gate_Right.ts x0 with
  | false =>
    rw [e0] at p0
    go_enter Try.func57, Try.ntmps57
    go_wp2
    refine wp_loop_rounds 4 ?_
    rw [rounds_succ]
    go_wp2_with (go_at_call 50; refine p0.mono ?_; rintro e w1 ⟨rfl, rfl⟩)
    go_ret
    exact ⟨0, rfl, by simp, rfl⟩
  | true =>
    rw [e0] at p0
    cases e1 : gate_Right.ts x1 with
    | false =>
      rw [e1] at p1
      go_enter Try.func57, Try.ntmps57
      go_wp2
      refine wp_loop_rounds 4 ?_
      rw [rounds_succ]
      go_wp2_with (go_at_call 50; refine p0.mono ?_; rintro e w1 ⟨rfl, rfl⟩)
      rw [rounds_succ]
      go_wp2_with (go_at_call 50; refine p1.mono ?_; rintro e w1 ⟨rfl, rfl⟩)
      go_ret
      exact ⟨1, rfl, by simp, rfl⟩
    | true =>
      rw [e1] at p1
      cases e2 : gate_Right.ts x2 with
      | false =>
        rw [e2] at p2
        go_enter Try.func57, Try.ntmps57
        go_wp2
        refine wp_loop_rounds 4 ?_
        rw [rounds_succ]
        go_wp2_with (go_at_call 50; refine p0.mono ?_; rintro e w1 ⟨rfl, rfl⟩)
        rw [rounds_succ]
        go_wp2_with (go_at_call 50; refine p1.mono ?_; rintro e w1 ⟨rfl, rfl⟩)
        rw [rounds_succ]
        go_wp2_with (go_at_call 50; refine p2.mono ?_; rintro e w1 ⟨rfl, rfl⟩)
        go_ret
        exact ⟨2, rfl, by simp, rfl⟩
      | true =>
        rw [e2] at p2
        go_enter Try.func57, Try.ntmps57
        go_wp2
        refine wp_loop_rounds 4 ?_
        rw [rounds_succ]
        go_wp2_with (go_at_call 50; refine p0.mono ?_; rintro e w1 ⟨rfl, rfl⟩)
        rw [rounds_succ]
        go_wp2_with (go_at_call 50; refine p1.mono ?_; rintro e w1 ⟨rfl, rfl⟩)
        rw [rounds_succ]
        go_wp2_with (go_at_call 50; refine p2.mono ?_; rintro e w1 ⟨rfl, rfl⟩)
        rw [rounds_succ]
        go_wp2
        go_ret
        exact ⟨-1, rfl, by simp, rfl⟩
theorem gate_Right.ct_s (x0 x1 x2 : ByteArray) (g B : Nat) (w : World) (hg : w.heap[g]? = some (.cells #[.func (.func 30) #[] #[]] 75 (0, 0))) (hB : w.heap[B]? = some (.cells #[.string x0, .string x1, .string x2] 9 (0, 0))) :
    Calls Try.prog 49 #[.slice (some ⟨B, 0, none⟩) 3 3, .func (.func 50) #[] #[.pointer (some ⟨g, 0, none⟩)]] w fun e w' => e = .returned (.bool (!(gate_Right.all_s x0 x1 x2))) ∧ w' = w := by
  have p := gate_Right.ix_s x0 x1 x2 g B w hg hB
  clear hg hB
  go_enter Try.func49, Try.ntmps49
  go_wp2_with (go_at_call 57; refine p.mono ?_; rintro e w1 ⟨i, rfl, hi, rfl⟩)
  go_ret
  exact ⟨by rw [← hi]; first | rfl | simp, rfl⟩
theorem gate_Right.ev_s (x0 x1 x2 : ByteArray) (B : Nat) (w : World) (hB : w.heap[B]? = some (.cells #[.string x0, .string x1, .string x2] 9 (0, 0))) :
    Calls Try.prog 32 #[.func (.func 30) #[] #[], .slice (some ⟨B, 0, none⟩) 3 3] w fun e w' => e = .returned (.bool (gate_Right.all_s x0 x1 x2)) ∧ Below w.heap.size w w' := by
  have p := gate_Right.ct_s x0 x1 x2 w.heap.size B (w.alloc (.cells #[.func (.func 30) #[] #[]] 75 (0, 0))) (blk_new _ _) (blk_alloc hB _)
  have HB := Aside0.mk (below_alloc (Below.refl w.heap.size w) (.cells #[.func (.func 30) #[] #[]] 75 (0, 0)))
  clear hB
  have hmf : ∀ (fn : Fn) (first cap : Array Value) (w : World), (Instr.makeFunc fn first cap).run Try.prog w = .ok (.func fn first cap) w := fun _ _ _ _ => rfl
  go_enter Try.func32, Try.ntmps32
  go_wp2_with (go_at_call 49; refine p.mono ?_; rintro e w1 ⟨rfl, rfl⟩)
  go_ret
  exact ⟨by simp, HB.out⟩
theorem gate_Right.box2 (w : World) (xs ys : Array Value) (t1 t2 : TypeId) : ((w.alloc (.cells xs t1)).alloc (.cells ys t2)).heap[w.heap.size + 1]? = some (.cells ys t2 (0, 0)) := by
  have s1 : (w.alloc (.cells xs t1)).heap.size = w.heap.size + 1 := by simp [World.alloc, -World.alloc_eq]
  rw [← s1]; exact blk_new _ _
set_option maxHeartbeats 8000000 in
set_option maxRecDepth 100000 in
theorem gate_Right.calls (a0_0 : ByteArray) (a0_1 a0_2 a0_3 a0_4 : Int) (a0_5 a0_6 a0_7 : ByteArray) (r : Bool) (w : World) (h : gate_Right.f a0_0 a0_1 a0_2 a0_3 a0_4 a0_5 a0_6 a0_7 = some r) :
    Calls Try.prog 15 #[.agg #[.string a0_0, .int .i64 a0_1, .int .i64 a0_2, .int .i64 a0_3, .int .i64 a0_4, .string a0_5, .string a0_6, .string a0_7]] w fun e w' => e = .returned (.bool r) ∧ Below w.heap.size w w' := by
  unfold gate_Right.f at h
  obtain rfl := Option.some.inj h
  clear h
  cases b0 : decide ((a0_0.size : Int) ≤ 128) with
  | false =>
    go_enter Try.func15, Try.ntmps15
    go_wp2
    go_ret
    exact ⟨by simp, below_alloc (Below.refl _ _) _⟩
  | true =>
    cases b1 : gate_Right.all_i a0_1 a0_2 a0_3 a0_4 with
    | false =>
      go_enter Try.func15, Try.ntmps15
      go_wp2_with (go_at_call 31; refine (gate_Right.ev_i a0_1 a0_2 a0_3 a0_4 _ _ (gate_Right.box2 _ _ _ _ _)).mono ?_; rintro e w1 ⟨rfl, hb⟩; rw [b1]; have HB := Aside0.mk (below_step (below_alloc (below_alloc (Below.refl w.heap.size w) _) _) hb); clear hb)
      go_ret
      exact ⟨by simp, HB.out⟩
    | true =>
      go_enter Try.func15, Try.ntmps15
      go_wp2_with (first
        | (go_at_call 31; refine (gate_Right.ev_i a0_1 a0_2 a0_3 a0_4 _ _ (gate_Right.box2 _ _ _ _ _)).mono ?_; rintro e w1 ⟨rfl, hb⟩; rw [b1]; have HB := Aside0.mk (below_step (below_alloc (below_alloc (Below.refl w.heap.size w) _) _) hb); have hA := blk_below (blk_alloc (blk_new w (.cells #[.string a0_0, .int .i64 a0_1, .int .i64 a0_2, .int .i64 a0_3, .int .i64 a0_4, .string a0_5, .string a0_6, .string a0_7] 23)) _) hb; clear hb; have c5 := (blk_cell hA 5).trans rfl; have c6 := (blk_cell hA 6).trans rfl; have c7 := (blk_cell hA 7).trans rfl; clear hA)
        | (go_at_call 32; refine (gate_Right.ev_s a0_5 a0_6 a0_7 _ _ (blk_new _ _)).mono ?_; rintro e w2 ⟨rfl, hb⟩; have HB2 := Aside0.mk (below_step (below_alloc HB.out _) hb); clear hb))
      go_ret
      exact ⟨by simp, HB2.out⟩
/-! ### pack_Vary: function 45 -/
def pack_Vary.l0 : Nat → Int → List Int → Option (ByteArray)
  | 0, _, _ => none
  | k + 1, x0, x3 => if x0 ≥ 128 then (if x3.length < 140737488355328 then (pack_Vary.l0 k (x0 / 128) (x3 ++ [Go.bits .or .u8 ((x0) % 256) 128])) else (none)) else (if x3.length < 140737488355328 then (some (strOfNums (x3 ++ [(x0) % 256]))) else (none))
def pack_Vary.f (k : Nat) (a0 : Int) : Option (ByteArray) := pack_Vary.l0 k a0 ([] : List Int)
theorem pack_Vary.mono_l : ∀ k, (∀ y0 y1, LeO (pack_Vary.l0 k y0 y1) (pack_Vary.l0 (k + 1) y0 y1))
  | 0 => fun _ _ r h => by simp [pack_Vary.l0] at h
  | k + 1 => by
    have ih0 := pack_Vary.mono_l k
    · intro y0 y1
      unfold pack_Vary.l0
      repeat' first
      | (with_reducible exact ih0 _ _)
      | (with_reducible exact LeO.refl _)
      | (with_reducible exact LeO.none _)
      | (with_reducible refine LeO.ite ?_ ?_)
      | (with_reducible refine LeO.bind ?_ (fun _ => ?_))
      | exact ih0 _ _
      | exact LeO.none _
      | refine LeO.ite ?_ ?_
      | refine LeO.bind ?_ (fun _ => ?_)
theorem pack_Vary.mono : ∀ a0 k, LeO (pack_Vary.f k a0) (pack_Vary.f (k + 1) a0) := by
  intro a0 k
  have ih0 := pack_Vary.mono_l k
  unfold pack_Vary.f
  repeat' first
      | (with_reducible exact ih0 _ _)
      | (with_reducible exact LeO.refl _)
      | (with_reducible exact LeO.none _)
      | (with_reducible refine LeO.ite ?_ ?_)
      | (with_reducible refine LeO.bind ?_ (fun _ => ?_))
      | exact ih0 _ _
      | exact LeO.none _
      | refine LeO.ite ?_ ?_
      | refine LeO.bind ?_ (fun _ => ?_)
set_option maxHeartbeats 8000000 in
set_option maxRecDepth 100000 in
theorem pack_Vary.calls (k : Nat) (a0 : Int) (r : ByteArray) (w : World) (h : pack_Vary.f k a0 = some r) :
    Calls Try.prog 45 #[.int .u64 a0] w fun e w' => e = .returned (.string r) ∧ Below w.heap.size w w' := by
  have HB := Aside0.mk (Below.refl w.heap.size w)
  have H : (pack_Vary.l0 k a0 ([] : List Int)) = some r := h
  clear h
  have H' := Aside0.mk H
  clear H
  go_enter Try.func45, Try.ntmps45
  go_wp2
  go_loopg [0, 3] k (fun kq v0 v3 w' => ∃ (x0_1 : Int) (x3_1 : List Int), v0 = .int .u64 x0_1 ∧ Aside0 (pack_Vary.l0 kq x0_1 x3_1 = some r) ∧ Aside0 (kq ≤ k) ∧ Aside0 (Kd.R (Kd.int .u8) 5 w' w.heap.size (fun _ => True) v3 x3_1) ∧ Aside0 (Below w.heap.size w w'))
  case atStart => exact ⟨(a0), (([] : List Int)), (by first | rfl | (simp; done) | (simp [*]; done)), H', ⟨Nat.le_refl _⟩, ⟨by first | exact Kd.R_nil _ _ _ _ _ | exact Kd.N_nil _ _ _ _ _ | exact Kd.V_nil _ _ _ _ _ | exact Kd.Q_nil _ _ _ _ _ | exact Kd.S_nil _ _ _ _ _⟩, ⟨Ky_ HB⟩⟩
  case round =>
    clear H'
    obtain ⟨x0_1, x3_1, rfl, HA, HK1, HO_3, HB⟩ := hrel
    cases gk with
    | zero => exact absurd HA.out (by simp [pack_Vary.l0])
    | succ k1 =>
      have H := HA.out
      clear HA
      simp only [pack_Vary.l0] at H
      by_cases c2 : x0_1 ≥ 128
      rotate_left
      · rw [if_neg c2] at H
        have c2b0 : decide (128 ≤ x0_1) = false := decide_eq_false c2
        clear c2
        by_cases c5 : x3_1.length < 140737488355328
        rotate_left
        · rw [if_neg c5] at H
          exact absurd H (by simp)
        rw [if_pos c5] at H
        have LMc5 := Aside0.mk c5
        clear c5
        obtain ⟨y104, hy104⟩ : ∃ y_ : List Int, y_ = (x3_1 ++ [(x0_1) % 256]) := ⟨_, rfl⟩
        replace H : (some (strOfNums y104)) = some r := by first | (rw [hy104]; with_reducible exact H) | (have H2_ := (Option.bind_some _ _).symm.trans H; rw [hy104]; with_reducible exact H2_) | (have H2_ := (Option.bind_some _ _).symm.trans H; with_reducible exact H2_) | with_reducible exact H | (rw [hy104]; exact H) | exact H
        have Ny104 := Aside0.mk hy104
        clear hy104
        obtain rfl := Option.some.inj H
        go_wp2_with (first | ((with_reducible refine gate_builtin (b := .append) (xs := #[.tmp 14, .tmp 17]) rfl ?_); at_builtin; refine Kd.R_append (Kd.int .u8) (w0 := w) w.heap.size rfl (.tmp 14) (.tmp 17) 66 5 (.int .u8 0) 1 rfl Try.underlying66 info5 rfl (by decide) (by omega) u3 x3_1 ((x0_1) % 256) [.int .u8 ((x0_1) % 256)] (fun _ => True) (fun _ => False) rfl rfl ?aP (fun _ hk => hk.elim) ?aF ?aO ?aB ?aS ?aL ?_; (case aP => exact rfl); (case aB => exact (Ky_ HB)); (case aF => exact (fun _ _ => trivial)); (case aO => exact (Ku_ HO_3)); (case aS => exact (below_size (Ky_ HB))); (case aL => have := LMc5.out; omega); intro v105 w6 ho hb hg hat; rw [← Ny104.out] at ho; have HO106 := Aside0.mk (ho); replace HB := Aside0.mk (hb); clear HO_3; clear ho hb hg hat; have hcv7 := own_string (P := Try.prog) Try.underlying66 Try.underlying5 Try.underlying9 (Kd.own_of_R HO106.out)))
        go_ret
        exact ⟨Kh_, Ky_ HB⟩
      rw [if_pos c2] at H
      have c2b0 : decide (128 ≤ x0_1) = true := decide_eq_true c2
      clear c2
      by_cases c3 : x3_1.length < 140737488355328
      rotate_left
      · rw [if_neg c3] at H
        exact absurd H (by simp)
      rw [if_pos c3] at H
      have LMc3 := Aside0.mk c3
      clear c3
      obtain ⟨y101, hy101⟩ : ∃ y_ : List Int, y_ = (x3_1 ++ [Go.bits .or .u8 ((x0_1) % 256) 128]) := ⟨_, rfl⟩
      replace H : (pack_Vary.l0 k1 (x0_1 / 128) y101) = some r := by first | (rw [hy101]; with_reducible exact H) | (have H2_ := (Option.bind_some _ _).symm.trans H; rw [hy101]; with_reducible exact H2_) | (have H2_ := (Option.bind_some _ _).symm.trans H; with_reducible exact H2_) | with_reducible exact H | (rw [hy101]; exact H) | exact H
      have Ny101 := Aside0.mk hy101
      clear hy101
      have H' := Aside0.mk H
      clear H
      go_wp2_with (first | ((with_reducible refine gate_builtin (b := .append) (xs := #[.tmp 8, .tmp 12]) rfl ?_); at_builtin; refine Kd.R_append (Kd.int .u8) (w0 := w) w.heap.size rfl (.tmp 8) (.tmp 12) 66 5 (.int .u8 0) 1 rfl Try.underlying66 info5 rfl (by decide) (by omega) u3 x3_1 (Go.bits .or .u8 ((x0_1) % 256) 128) [.int .u8 (Go.bits .or .u8 ((x0_1) % 256) 128)] (fun _ => True) (fun _ => False) rfl rfl ?aP (fun _ hk => hk.elim) ?aF ?aO ?aB ?aS ?aL ?_; (case aP => exact rfl); (case aB => exact (Ky_ HB)); (case aF => exact (fun _ _ => trivial)); (case aO => exact (Ku_ HO_3)); (case aS => exact (below_size (Ky_ HB))); (case aL => have := LMc3.out; omega); intro v102 w4 ho hb hg hat; rw [← Ny101.out] at ho; have HO103 := Aside0.mk (ho); replace HB := Aside0.mk (hb); clear HO_3; clear ho hb hg hat))
      go_roundg k1
      case measure => have := HK1.out; omega
      case rel => exact ⟨(x0_1 / 128), (y101), (by first | rfl | (simp; done) | (simp [*]; done)), H', ⟨by have := HK1.out; omega⟩, ⟨by (with_reducible repeat (first | apply Kd.R_alloc | apply Kd.R_drewN | apply Kd.R_drew)); exact HO103.out⟩, ⟨Ky_ HB⟩⟩
/-! ### pack_Text: function 26 -/
def pack_Text.f (k : Nat) (a0 : ByteArray) : Option (ByteArray) := if a0.size ≤ 9223372036854775807 then ((pack_Vary.f k (a0.size : Int)).bind fun t107 => (if t107.size + a0.size ≤ 9223372036854775807 then (some (t107 ++ a0)) else (none))) else (none)
theorem pack_Text.mono : ∀ a0 k, LeO (pack_Text.f k a0) (pack_Text.f (k + 1) a0) := by
  intro a0 k
  unfold pack_Text.f
  repeat' first
      | (with_reducible exact pack_Vary.mono _ _)
      | (with_reducible exact LeO.refl _)
      | (with_reducible exact LeO.none _)
      | (with_reducible refine LeO.ite ?_ ?_)
      | (with_reducible refine LeO.bind ?_ (fun _ => ?_))
      | exact pack_Vary.mono _ _
      | exact LeO.none _
      | refine LeO.ite ?_ ?_
      | refine LeO.bind ?_ (fun _ => ?_)
set_option maxHeartbeats 8000000 in
set_option maxRecDepth 100000 in
theorem pack_Text.calls (k : Nat) (a0 : ByteArray) (r : ByteArray) (w : World) (h : pack_Text.f k a0 = some r) :
    Calls Try.prog 26 #[.string a0] w fun e w' => e = .returned (.string r) ∧ Below w.heap.size w w' := by
  have HB := Aside0.mk (Below.refl w.heap.size w)
  have H : (if a0.size ≤ 9223372036854775807 then ((pack_Vary.f k (a0.size : Int)).bind fun t107 => (if t107.size + a0.size ≤ 9223372036854775807 then (some (t107 ++ a0)) else (none))) else (none)) = some r := h
  (try (have Hs_ := H; simp only [ByteArray.size_append, Int.natCast_add] at Hs_))
  clear h
  by_cases c2 : a0.size ≤ 9223372036854775807
  rotate_left
  · rw [if_neg c2] at H
    exact absurd H (by simp)
  rw [if_pos c2] at H
  have c2b0 := eq_true c2
  have c2b1 : decide (a0.size ≤ 9223372036854775807) = true := decide_eq_true c2
  try have c2b2 : (9223372036854775807 < a0.size) = False := eq_false (Nat.not_lt.2 c2)
  replace H := Option.bind_eq_some_iff.mp H
  obtain ⟨t107, A30, H⟩ := H
  replace H : (if t107.size + a0.size ≤ 9223372036854775807 then (some (t107 ++ a0)) else (none)) = some r := H
  have A3 := Aside0.mk A30
  clear A30
  by_cases c4 : t107.size + a0.size ≤ 9223372036854775807
  rotate_left
  · rw [if_neg c4] at H
    exact absurd H (by simp)
  rw [if_pos c4] at H
  have c4b0 := eq_true c4
  have c4b1 : decide (t107.size + a0.size ≤ 9223372036854775807) = true := decide_eq_true c4
  try have c4b2 : (9223372036854775807 < t107.size + a0.size) = False := eq_false (Nat.not_lt.2 c4)
  obtain rfl := Option.some.inj H
  go_enter Try.func26, Try.ntmps26
  go_wp2_with (first | ((with_reducible refine gate_callee (f := 45) rfl ?_); refine Kg_ (some 6) rfl rfl Try.func45 (by kernel_rfl) rfl #[.int .u64 (a0.size : Int)] rfl ?_; (with_reducible refine (pack_Vary.calls k (a0.size : Int) t107 _ A3.out).mono ?_); rintro e w5 ⟨rfl, hb⟩; refine ⟨_, rfl, ?_⟩; replace HB := Ks_ HB hb; (try clear hb); (try clear hb2); (try clear hk); (try clear hi)))
  go_ret
  exact ⟨Kh_, Ky_ HB⟩
/-! ### pack_Number: function 27 -/
-- FOREIGN: an array of eight bytes, filled round by round
def numL (a0 : Int) (n : Nat) : List Int := (List.range n).map fun k => a0 / (2 ^ (8 * (n - 1 - k)) : Nat) % 256
def pack_Number.f (a0 a1 : Int) : Option (ByteArray) := if a1 < 1 then some (⟨#[]⟩ : ByteArray) else if 8 < a1 then some (⟨#[]⟩ : ByteArray) else some (strOfNums (numL a0 a1.toNat))
theorem conv_arr (P : Program) (src dst e T : TypeId) (hs : P.underlying src = some (.slice e)) (he : P.underlying e = some (.int .u8)) (hd : P.underlying dst = some .string) (w : World) (xs : List Int) (n c : Nat) (hn : n ≤ xs.length) :
    (convert src dst (.slice (some ⟨w.heap.size, 0, none⟩) n c)).run P (w.alloc (.cells (xs.map (Value.int .u8)).toArray T)) = .ok (.string (strOfNums (xs.take n))) (w.alloc (.cells (xs.map (Value.int .u8)).toArray T)) := by
  refine run_convert_bytes_arg _ src e hs he w.heap.size 0 n c (xs.take n) (by simp; omega) (fun i hi => ?_) dst hd
  rw [Nat.zero_add]
  have hlt : i < xs.length := by omega
  rw [World.cell?_alloc_at (hn := rfl)]
  simp [hi, hlt]
theorem pack_Number.none_ (a0 a1 : Int) (h : a1 < 1 ∨ 8 < a1) (w : World) :
    Calls Try.prog 27 #[.int .u64 a0, .int .i64 a1] w fun e w' => e = .returned (.string ⟨#[]⟩) ∧ Below w.heap.size w w' := by
  rcases h with h | h
  · have b1 : decide (a1 < 1) = true := decide_eq_true h
    go_enter Try.func27, Try.ntmps27
    go_wp2
    go_ret
    exact ⟨rfl, Below.refl _ _⟩
  · have b1 : decide (a1 < 1) = false := decide_eq_false (by omega)
    have b2 : decide (8 < a1) = true := decide_eq_true h
    go_enter Try.func27, Try.ntmps27
    go_wp2
    go_ret
    exact ⟨rfl, Below.refl _ _⟩
set_option maxHeartbeats 4000000 in
theorem pack_Number.some_ (a0 : Int) (n : Nat) (h1 : 1 ≤ n) (h8 : n ≤ 8) (w : World) :
    Calls Try.prog 27 #[.int .u64 a0, .int .i64 (n : Int)] w fun e w' => e = .returned (.string (strOfNums (numL a0 n))) ∧ Below w.heap.size w w' := by
  have hcv := fun x0 x1 x2 x3 x4 x5 x6 x7 m (hm : m ≤ [x0, x1, x2, x3, x4, x5, x6, x7].length) => conv_arr Try.prog 66 9 5 101 Try.underlying66 Try.underlying5 Try.underlying9 w [x0, x1, x2, x3, x4, x5, x6, x7] m 8 hm
  simp only [List.map_cons, List.map_nil] at hcv
  obtain rfl | rfl | rfl | rfl | rfl | rfl | rfl | rfl : n = 1 ∨ n = 2 ∨ n = 3 ∨ n = 4 ∨ n = 5 ∨ n = 6 ∨ n = 7 ∨ n = 8 := by omega
  · replace hcv := fun x0 x1 x2 x3 x4 x5 x6 x7 => hcv x0 x1 x2 x3 x4 x5 x6 x7 1 (by simp)
    simp only [List.take] at hcv
    go_enter Try.func27, Try.ntmps27
    go_wp2
    refine wp_loop_rounds 2 ?_
    iterate 2 (rw [rounds_succ]; go_wp2)
    go_ret
    exact ⟨by simp [numL, List.range, List.range.loop], (Below.refl _ _).alloc (Nat.le_refl _) _⟩
  · replace hcv := fun x0 x1 x2 x3 x4 x5 x6 x7 => hcv x0 x1 x2 x3 x4 x5 x6 x7 2 (by simp)
    simp only [List.take] at hcv
    go_enter Try.func27, Try.ntmps27
    go_wp2
    refine wp_loop_rounds 3 ?_
    iterate 3 (rw [rounds_succ]; go_wp2)
    go_ret
    exact ⟨by simp [numL, List.range, List.range.loop], (Below.refl _ _).alloc (Nat.le_refl _) _⟩
  · replace hcv := fun x0 x1 x2 x3 x4 x5 x6 x7 => hcv x0 x1 x2 x3 x4 x5 x6 x7 3 (by simp)
    simp only [List.take] at hcv
    go_enter Try.func27, Try.ntmps27
    go_wp2
    refine wp_loop_rounds 4 ?_
    iterate 4 (rw [rounds_succ]; go_wp2)
    go_ret
    exact ⟨by simp [numL, List.range, List.range.loop], (Below.refl _ _).alloc (Nat.le_refl _) _⟩
  · replace hcv := fun x0 x1 x2 x3 x4 x5 x6 x7 => hcv x0 x1 x2 x3 x4 x5 x6 x7 4 (by simp)
    simp only [List.take] at hcv
    go_enter Try.func27, Try.ntmps27
    go_wp2
    refine wp_loop_rounds 5 ?_
    iterate 5 (rw [rounds_succ]; go_wp2)
    go_ret
    exact ⟨by simp [numL, List.range, List.range.loop], (Below.refl _ _).alloc (Nat.le_refl _) _⟩
  · replace hcv := fun x0 x1 x2 x3 x4 x5 x6 x7 => hcv x0 x1 x2 x3 x4 x5 x6 x7 5 (by simp)
    simp only [List.take] at hcv
    go_enter Try.func27, Try.ntmps27
    go_wp2
    refine wp_loop_rounds 6 ?_
    iterate 6 (rw [rounds_succ]; go_wp2)
    go_ret
    exact ⟨by simp [numL, List.range, List.range.loop], (Below.refl _ _).alloc (Nat.le_refl _) _⟩
  · replace hcv := fun x0 x1 x2 x3 x4 x5 x6 x7 => hcv x0 x1 x2 x3 x4 x5 x6 x7 6 (by simp)
    simp only [List.take] at hcv
    go_enter Try.func27, Try.ntmps27
    go_wp2
    refine wp_loop_rounds 7 ?_
    iterate 7 (rw [rounds_succ]; go_wp2)
    go_ret
    exact ⟨by simp [numL, List.range, List.range.loop], (Below.refl _ _).alloc (Nat.le_refl _) _⟩
  · replace hcv := fun x0 x1 x2 x3 x4 x5 x6 x7 => hcv x0 x1 x2 x3 x4 x5 x6 x7 7 (by simp)
    simp only [List.take] at hcv
    go_enter Try.func27, Try.ntmps27
    go_wp2
    refine wp_loop_rounds 8 ?_
    iterate 8 (rw [rounds_succ]; go_wp2)
    go_ret
    exact ⟨by simp [numL, List.range, List.range.loop], (Below.refl _ _).alloc (Nat.le_refl _) _⟩
  · replace hcv := fun x0 x1 x2 x3 x4 x5 x6 x7 => hcv x0 x1 x2 x3 x4 x5 x6 x7 8 (by simp)
    simp only [List.take] at hcv
    go_enter Try.func27, Try.ntmps27
    go_wp2
    refine wp_loop_rounds 9 ?_
    iterate 9 (rw [rounds_succ]; go_wp2)
    go_ret
    exact ⟨by simp [numL, List.range, List.range.loop], (Below.refl _ _).alloc (Nat.le_refl _) _⟩
theorem pack_Number.calls (a0 : Int) (a1 : Int) (r : ByteArray) (w : World) (h : pack_Number.f a0 a1 = some r) :
    Calls Try.prog 27 #[.int .u64 a0, .int .i64 a1] w fun e w' => e = .returned (.string r) ∧ Below w.heap.size w w' := by
  unfold pack_Number.f at h
  by_cases c1 : a1 < 1
  · rw [if_pos c1] at h
    obtain rfl := Option.some.inj h
    exact pack_Number.none_ a0 a1 (.inl c1) w
  · rw [if_neg c1] at h
    by_cases c2 : 8 < a1
    · rw [if_pos c2] at h
      obtain rfl := Option.some.inj h
      exact pack_Number.none_ a0 a1 (.inr c2) w
    · rw [if_neg c2] at h
      obtain rfl := Option.some.inj h
      obtain ⟨n, rfl⟩ := Int.eq_ofNat_of_zero_le (show 0 ≤ a1 by omega)
      rw [Int.toNat_natCast]
      exact pack_Number.some_ a0 n (by omega) (by omega) w
/-! ### gate_Put: function 11 -/
mutual
def gate_Put.l0 : Nat → ByteArray → List Int → Int → Int → ByteArray → Int → Int → Int → Int → ByteArray → ByteArray → ByteArray → Option (ByteArray × Bool)
  | 0, _, _, _, _, _, _, _, _, _, _, _, _ => none
  | k + 1, x4, x23, x24, x25, x109000, x109001, x109002, x109003, x109004, x109005, x109006, x109007 => if x25 < x24 then (if 0 ≤ x25 then (if x25 < (x23.length : Int) then ((pack_Number.f (IntKind.u64.wrap (rd x23 x25)) 1).bind fun t115 => (if x4.size + t115.size ≤ 9223372036854775807 then (gate_Put.l0 k (x4 ++ t115) x23 x24 (wrap64 (x25 + 1)) x109000 x109001 x109002 x109003 x109004 x109005 x109006 x109007) else (none))) else (none)) else (none)) else ((some (([x109005, x109006, x109007] : List ByteArray) : List ByteArray)).bind fun y116 => (gate_Put.l1 k x4 y116 (y116.length : Int) 0))
def gate_Put.l1 : Nat → ByteArray → List ByteArray → Int → Int → Option (ByteArray × Bool)
  | 0, _, _, _, _ => none
  | k + 1, x4, x41, x42, x43 => if x43 < x42 then (if 0 ≤ x43 then (if x43 < (x41.length : Int) then ((pack_Text.f k (rdOf ByteArray.empty x41 x43)).bind fun t120 => (if x4.size + t120.size ≤ 9223372036854775807 then (gate_Put.l1 k (x4 ++ t120) x41 x42 (wrap64 (x43 + 1))) else (none))) else (none)) else (none)) else (some (x4, true))
end
def gate_Put.f (k : Nat) (a0_0 : ByteArray) (a0_1 : Int) (a0_2 : Int) (a0_3 : Int) (a0_4 : Int) (a0_5 : ByteArray) (a0_6 : ByteArray) (a0_7 : ByteArray) : Option (ByteArray × Bool) := (gate_Right.f a0_0 a0_1 a0_2 a0_3 a0_4 a0_5 a0_6 a0_7).bind fun t109 => (if t109 = true then ((pack_Text.f k a0_0).bind fun t110 => ((some (([a0_1, a0_2, a0_3, a0_4] : List Int) : List Int)).bind fun y111 => (gate_Put.l0 k t110 y111 (y111.length : Int) 0 a0_0 a0_1 a0_2 a0_3 a0_4 a0_5 a0_6 a0_7))) else (some ((⟨#[]⟩ : ByteArray), false)))
theorem gate_Put.mono_l : ∀ k, (∀ y0 y1 y2 y3 y4 y5 y6 y7 y8 y9 y10 y11, LeO (gate_Put.l0 k y0 y1 y2 y3 y4 y5 y6 y7 y8 y9 y10 y11) (gate_Put.l0 (k + 1) y0 y1 y2 y3 y4 y5 y6 y7 y8 y9 y10 y11)) ∧ (∀ y0 y1 y2 y3, LeO (gate_Put.l1 k y0 y1 y2 y3) (gate_Put.l1 (k + 1) y0 y1 y2 y3))
  | 0 => ⟨fun _ _ _ _ _ _ _ _ _ _ _ _ r h => by simp [gate_Put.l0] at h, fun _ _ _ _ r h => by simp [gate_Put.l1] at h⟩
  | k + 1 => by
    obtain ⟨ih0, ih1⟩ := gate_Put.mono_l k
    refine ⟨?_, ?_⟩
    · intro y0 y1 y2 y3 y4 y5 y6 y7 y8 y9 y10 y11
      unfold gate_Put.l0
      repeat' first
      | (with_reducible exact ih0 _ _ _ _ _ _ _ _ _ _ _ _)
      | (with_reducible exact ih1 _ _ _ _)
      | (with_reducible exact pack_Text.mono _ _)
      | (with_reducible exact LeO.refl _)
      | (with_reducible exact LeO.none _)
      | (with_reducible refine LeO.ite ?_ ?_)
      | (with_reducible refine LeO.bind ?_ (fun _ => ?_))
      | exact ih0 _ _ _ _ _ _ _ _ _ _ _ _
      | exact ih1 _ _ _ _
      | exact pack_Text.mono _ _
      | exact LeO.none _
      | refine LeO.ite ?_ ?_
      | refine LeO.bind ?_ (fun _ => ?_)
    · intro y0 y1 y2 y3
      unfold gate_Put.l1
      repeat' first
      | (with_reducible exact ih0 _ _ _ _ _ _ _ _ _ _ _ _)
      | (with_reducible exact ih1 _ _ _ _)
      | (with_reducible exact pack_Text.mono _ _)
      | (with_reducible exact LeO.refl _)
      | (with_reducible exact LeO.none _)
      | (with_reducible refine LeO.ite ?_ ?_)
      | (with_reducible refine LeO.bind ?_ (fun _ => ?_))
      | exact ih0 _ _ _ _ _ _ _ _ _ _ _ _
      | exact ih1 _ _ _ _
      | exact pack_Text.mono _ _
      | exact LeO.none _
      | refine LeO.ite ?_ ?_
      | refine LeO.bind ?_ (fun _ => ?_)
theorem gate_Put.mono : ∀ a0 a1 a2 a3 a4 a5 a6 a7 k, LeO (gate_Put.f k a0 a1 a2 a3 a4 a5 a6 a7) (gate_Put.f (k + 1) a0 a1 a2 a3 a4 a5 a6 a7) := by
  intro a0 a1 a2 a3 a4 a5 a6 a7 k
  obtain ⟨ih0, ih1⟩ := gate_Put.mono_l k
  unfold gate_Put.f
  repeat' first
      | (with_reducible exact ih0 _ _ _ _ _ _ _ _ _ _ _ _)
      | (with_reducible exact ih1 _ _ _ _)
      | (with_reducible exact pack_Text.mono _ _)
      | (with_reducible exact LeO.refl _)
      | (with_reducible exact LeO.none _)
      | (with_reducible refine LeO.ite ?_ ?_)
      | (with_reducible refine LeO.bind ?_ (fun _ => ?_))
      | exact ih0 _ _ _ _ _ _ _ _ _ _ _ _
      | exact ih1 _ _ _ _
      | exact pack_Text.mono _ _
      | exact LeO.none _
      | refine LeO.ite ?_ ?_
      | refine LeO.bind ?_ (fun _ => ?_)
set_option maxHeartbeats 8000000 in
set_option maxRecDepth 100000 in
theorem gate_Put.calls (k : Nat) (a0_0 : ByteArray) (a0_1 : Int) (a0_2 : Int) (a0_3 : Int) (a0_4 : Int) (a0_5 : ByteArray) (a0_6 : ByteArray) (a0_7 : ByteArray) (r1 : ByteArray) (r2 : Bool) (w : World) (h : gate_Put.f k a0_0 a0_1 a0_2 a0_3 a0_4 a0_5 a0_6 a0_7 = some (r1, r2)) :
    Calls Try.prog 11 #[.agg #[.string a0_0, .int .i64 a0_1, .int .i64 a0_2, .int .i64 a0_3, .int .i64 a0_4, .string a0_5, .string a0_6, .string a0_7]] w fun e w' => e = .returned (.tuple #[.string r1, .bool r2]) ∧ Below w.heap.size w w' := by
  have hu23 := Try.underlying23
  have HB := Aside0.mk (Below.refl w.heap.size w)
  have H : ((gate_Right.f a0_0 a0_1 a0_2 a0_3 a0_4 a0_5 a0_6 a0_7).bind fun t109 => (if t109 = true then ((pack_Text.f k a0_0).bind fun t110 => ((some (([a0_1, a0_2, a0_3, a0_4] : List Int) : List Int)).bind fun y111 => (gate_Put.l0 k t110 y111 (y111.length : Int) 0 a0_0 a0_1 a0_2 a0_3 a0_4 a0_5 a0_6 a0_7))) else (some ((⟨#[]⟩ : ByteArray), false)))) = some (r1, r2) := h
  clear h
  replace H := Option.bind_eq_some_iff.mp H
  obtain ⟨t109, A20, H⟩ := H
  replace H : (if t109 = true then ((pack_Text.f k a0_0).bind fun t110 => ((some (([a0_1, a0_2, a0_3, a0_4] : List Int) : List Int)).bind fun y111 => (gate_Put.l0 k t110 y111 (y111.length : Int) 0 a0_0 a0_1 a0_2 a0_3 a0_4 a0_5 a0_6 a0_7))) else (some ((⟨#[]⟩ : ByteArray), false))) = some (r1, r2) := H
  have A2 := Aside0.mk A20
  clear A20
  by_cases c3 : t109 = true
  rotate_left
  · replace c3 := Bool.eq_false_iff.mpr c3
    subst c3
    have H1 : (some ((⟨#[]⟩ : ByteArray), false)) = some (r1, r2) := by rw [if_neg (show ¬ (false = true) by decide)] at H; exact H
    clear H
    have H := H1
    clear H1
    simp only [Option.some.injEq, Prod.mk.injEq] at H
    obtain ⟨rfl, rfl⟩ := H
    go_enter Try.func11, Try.ntmps11
    go_wp2_with (first | ((with_reducible refine gate_dst (N := 1) rfl ?_); refine box_event ?hg (N := 1) ?hd (cs := #[.string a0_0, .int .i64 a0_1, .int .i64 a0_2, .int .i64 a0_3, .int .i64 a0_4, .string a0_5, .string a0_6, .string a0_7]) (t := 23) ?hr ?_; (case hd => rfl); (case hg => rfl); (case hr => first | (go_simp; done) | (go_simp; rfl)); intro gb108 hg w30 hbox hb; have BK108 := Aside0.mk (hbox); have GW108 := Kw_ HB hg; have GE108 := GW108; replace HB := Ks_ HB hb; clear hb hbox hg; obtain ⟨hcz31_0, hcz31_1, hcz31_2, hcz31_3, hcz31_4, hcz31_5, hcz31_6, hcz31_7, hfz31_0, hfz31_1, hfz31_2, hfz31_3, hfz31_4, hfz31_5, hfz31_6, hfz31_7⟩ := Ke8_ BK108.out) | ((with_reducible refine gate_callee (f := 15) rfl ?_); refine Kg_ (some 10) rfl rfl Try.func15 (by kernel_rfl) rfl #[.agg #[.string a0_0, .int .i64 a0_1, .int .i64 a0_2, .int .i64 a0_3, .int .i64 a0_4, .string a0_5, .string a0_6, .string a0_7]] rfl ?_; (with_reducible refine (gate_Right.calls a0_0 a0_1 a0_2 a0_3 a0_4 a0_5 a0_6 a0_7 false _ A2.out).mono ?_); rintro e w32 ⟨rfl, hb⟩; refine ⟨_, rfl, ?_⟩; replace BK108 := Kb_ BK108 hb; replace HB := Ks_ HB hb; (try clear hb); (try clear hb2); (try clear hk); (try clear hi)))
    go_ret2
    exact ⟨Kh_, Kz_ HB GE108⟩
  subst c3
  have H1 : ((pack_Text.f k a0_0).bind fun t110 => ((some (([a0_1, a0_2, a0_3, a0_4] : List Int) : List Int)).bind fun y111 => (gate_Put.l0 k t110 y111 (y111.length : Int) 0 a0_0 a0_1 a0_2 a0_3 a0_4 a0_5 a0_6 a0_7))) = some (r1, r2) := by rw [if_pos rfl] at H; exact H
  clear H
  have H := H1
  clear H1
  replace H := Option.bind_eq_some_iff.mp H
  obtain ⟨t110, A40, H⟩ := H
  replace H : ((some (([a0_1, a0_2, a0_3, a0_4] : List Int) : List Int)).bind fun y111 => (gate_Put.l0 k t110 y111 (y111.length : Int) 0 a0_0 a0_1 a0_2 a0_3 a0_4 a0_5 a0_6 a0_7)) = some (r1, r2) := H
  have A4 := Aside0.mk A40
  clear A40
  obtain ⟨y111, hy111⟩ : ∃ y_ : List Int, y_ = (([a0_1, a0_2, a0_3, a0_4] : List Int)) := ⟨_, rfl⟩
  replace H : (gate_Put.l0 k t110 y111 (y111.length : Int) 0 a0_0 a0_1 a0_2 a0_3 a0_4 a0_5 a0_6 a0_7) = some (r1, r2) := by first | (rw [hy111]; with_reducible exact H) | (have H2_ := (Option.bind_some _ _).symm.trans H; rw [hy111]; with_reducible exact H2_) | (have H2_ := (Option.bind_some _ _).symm.trans H; with_reducible exact H2_) | with_reducible exact H | (rw [hy111]; exact H) | exact H
  have Ny111 := Aside0.mk hy111
  clear hy111
  have H' := Aside0.mk H
  clear H
  go_enter Try.func11, Try.ntmps11
  go_wp2_with (first | ((with_reducible refine gate_dst (N := 1) rfl ?_); refine box_event ?hg (N := 1) ?hd (cs := #[.string a0_0, .int .i64 a0_1, .int .i64 a0_2, .int .i64 a0_3, .int .i64 a0_4, .string a0_5, .string a0_6, .string a0_7]) (t := 23) ?hr ?_; (case hd => rfl); (case hg => rfl); (case hr => first | (go_simp; done) | (go_simp; rfl)); intro gb108 hg w5 hbox hb; have BK108 := Aside0.mk (hbox); have GW108 := Kw_ HB hg; have GE108 := GW108; replace HB := Ks_ HB hb; clear hb hbox hg; obtain ⟨hcz6_0, hcz6_1, hcz6_2, hcz6_3, hcz6_4, hcz6_5, hcz6_6, hcz6_7, hfz6_0, hfz6_1, hfz6_2, hfz6_3, hfz6_4, hfz6_5, hfz6_6, hfz6_7⟩ := Ke8_ BK108.out) | ((with_reducible refine gate_callee (f := 15) rfl ?_); refine Kg_ (some 10) rfl rfl Try.func15 (by kernel_rfl) rfl #[.agg #[.string a0_0, .int .i64 a0_1, .int .i64 a0_2, .int .i64 a0_3, .int .i64 a0_4, .string a0_5, .string a0_6, .string a0_7]] rfl ?_; (with_reducible refine (gate_Right.calls a0_0 a0_1 a0_2 a0_3 a0_4 a0_5 a0_6 a0_7 true _ A2.out).mono ?_); rintro e w7 ⟨rfl, hb⟩; refine ⟨_, rfl, ?_⟩; replace BK108 := Kb_ BK108 hb; replace HB := Ks_ HB hb; (try clear hb); (try clear hb2); (try clear hk); (try clear hi); obtain ⟨hcz8_0, hcz8_1, hcz8_2, hcz8_3, hcz8_4, hcz8_5, hcz8_6, hcz8_7, hfz8_0, hfz8_1, hfz8_2, hfz8_3, hfz8_4, hfz8_5, hfz8_6, hfz8_7⟩ := Ke8_ BK108.out) | ((with_reducible refine gate_callee (f := 26) rfl ?_); refine Kg_ (some 14) rfl rfl Try.func26 (by kernel_rfl) rfl #[.string a0_0] rfl ?_; (with_reducible refine (pack_Text.calls k a0_0 t110 _ A4.out).mono ?_); rintro e w9 ⟨rfl, hb⟩; refine ⟨_, rfl, ?_⟩; replace BK108 := Kb_ BK108 hb; replace HB := Ks_ HB hb; (try clear hb); (try clear hb2); (try clear hk); (try clear hi); obtain ⟨hcz10_0, hcz10_1, hcz10_2, hcz10_3, hcz10_4, hcz10_5, hcz10_6, hcz10_7, hfz10_0, hfz10_1, hfz10_2, hfz10_3, hfz10_4, hfz10_5, hfz10_6, hfz10_7⟩ := Ke8_ BK108.out) | ((with_reducible refine gate_dst (N := 23) rfl ?_); refine Kd.R_lit (Kd.int .i64) _ 3 ?hg (N := 23) ?hd (xs := ([a0_1, a0_2, a0_3, a0_4] : List Int)) (inner := [.int .i64 a0_1, .int .i64 a0_2, .int .i64 a0_3, .int .i64 a0_4]) (ok := fun _ => True) (okp := fun _ => True) ?hr ?hp (fun _ hk => hk) trivial (Below.refl _ _) (Nat.le_refl _) (by simp) ?_; (case hd => rfl); (case hg => rfl); (case hr => first | (go_simp; done) | (go_simp; rfl)); (case hp => exact (Reps.one (show Kd.M (Kd.int .i64) _ _ _ a0_1 [.int .i64 a0_1] from rfl) (Reps.one (show Kd.M (Kd.int .i64) _ _ _ a0_2 [.int .i64 a0_2] from rfl) (Reps.one (show Kd.M (Kd.int .i64) _ _ _ a0_3 [.int .i64 a0_3] from rfl) (Reps.one (show Kd.M (Kd.int .i64) _ _ _ a0_4 [.int .i64 a0_4] from rfl) (Reps.none _ _)))))); intro v112 w11 ho12 hb hg_ hnew_; clear hg_ hnew_; (first | rw [← Ny111.out] at ho12 | (simp only [Int.reduceToNat] at ho12; rw [← Ny111.out] at ho12)); have HO113 := Aside0.mk (Kd.R_lower ho12 (below_size (Kz_ HB GE108))); replace BK108 := Kb_ BK108 hb; replace HB := Ks_ HB hb; clear hb ho12; obtain ⟨Ao13, co13, eo13⟩ := Kd.R_slice HO113.out; subst eo13))
  go_loopg [4, 25] k (fun kq v4 v25 w' => ∃ (x4_1 : ByteArray) (x25_1 : Int), v4 = .string x4_1 ∧ v25 = .int .i64 x25_1 ∧ Aside0 (gate_Put.l0 kq x4_1 y111 (y111.length : Int) x25_1 a0_0 a0_1 a0_2 a0_3 a0_4 a0_5 a0_6 a0_7 = some (r1, r2)) ∧ Aside0 (kq ≤ k) ∧ Aside0 (Kd.R (Kd.int .i64) 3 w' w.heap.size (fun _ => True) (.slice Ao13 y111.length co13) y111) ∧ Aside0 (w'.heap[gb108]? = some (.cells #[.string a0_0, .int .i64 a0_1, .int .i64 a0_2, .int .i64 a0_3, .int .i64 a0_4, .string a0_5, .string a0_6, .string a0_7] 23 (0, 0))) ∧ Aside0 (Below w.heap.size w w'))
  case atStart => exact ⟨(t110), (0), (by first | rfl | (simp; done) | (simp [*]; done)), (by first | rfl | (simp; done) | (simp [*]; done)), H', ⟨Nat.le_refl _⟩, ⟨by (with_reducible repeat (first | apply Kd.R_alloc | apply Kd.R_drewN | apply Kd.R_drew)); exact HO113.out⟩, ⟨by exact Kq_ BK108⟩, ⟨Kz_ HB GE108⟩⟩
  case round =>
    clear H'
    try clear c1
    try clear c2
    try clear p2
    try clear c3
    try clear c11
    try clear hcz10_0
    try clear hcz10_1
    try clear hcz10_2
    try clear hcz10_3
    try clear hcz10_4
    try clear hcz10_5
    try clear hcz10_6
    try clear hcz10_7
    try clear hcz6_0
    try clear hcz6_1
    try clear hcz6_2
    try clear hcz6_3
    try clear hcz6_4
    try clear hcz6_5
    try clear hcz6_6
    try clear hcz6_7
    try clear hcz8_0
    try clear hcz8_1
    try clear hcz8_2
    try clear hcz8_3
    try clear hcz8_4
    try clear hcz8_5
    try clear hcz8_6
    try clear hcz8_7
    try clear hfz10_0
    try clear hfz10_1
    try clear hfz10_2
    try clear hfz10_3
    try clear hfz10_4
    try clear hfz10_5
    try clear hfz10_6
    try clear hfz10_7
    try clear hfz6_0
    try clear hfz6_1
    try clear hfz6_2
    try clear hfz6_3
    try clear hfz6_4
    try clear hfz6_5
    try clear hfz6_6
    try clear hfz6_7
    try clear hfz8_0
    try clear hfz8_1
    try clear hfz8_2
    try clear hfz8_3
    try clear hfz8_4
    try clear hfz8_5
    try clear hfz8_6
    try clear hfz8_7
    obtain ⟨x4_1, x25_1, rfl, rfl, HA, HK1, HO_23, BK108, HB⟩ := hrel
    cases gk with
    | zero => exact absurd HA.out (by simp [gate_Put.l0])
    | succ k1 =>
      have H := HA.out
      clear HA
      simp only [gate_Put.l0] at H
      by_cases c14 : x25_1 < (y111.length : Int)
      · rw [if_pos c14] at H
        have c14b0 : decide (x25_1 < (y111.length : Int)) = true := decide_eq_true c14
        clear c14
        by_cases c15 : 0 ≤ x25_1
        rotate_left
        · rw [if_neg c15] at H
          exact absurd H (by simp)
        rw [if_pos c15] at H
        have c15b0 : decide (0 ≤ x25_1) = true := decide_eq_true c15
        clear c15
        by_cases c16 : x25_1 < (y111.length : Int)
        rotate_left
        · rw [if_neg c16] at H
          exact absurd H (by simp)
        rw [if_pos c16] at H
        have c16b0 : decide (x25_1 < (y111.length : Int)) = true := decide_eq_true c16
        clear c16
        replace H := Option.bind_eq_some_iff.mp H
        obtain ⟨t115, A170, H⟩ := H
        replace H : (if x4_1.size + t115.size ≤ 9223372036854775807 then (gate_Put.l0 k1 (x4_1 ++ t115) y111 (y111.length : Int) (wrap64 (x25_1 + 1)) a0_0 a0_1 a0_2 a0_3 a0_4 a0_5 a0_6 a0_7) else (none)) = some (r1, r2) := H
        have A17 := Aside0.mk A170
        clear A170
        by_cases c18 : x4_1.size + t115.size ≤ 9223372036854775807
        rotate_left
        · rw [if_neg c18] at H
          exact absurd H (by simp)
        rw [if_pos c18] at H
        have c18b0 := eq_true c18
        have c18b1 : decide (x4_1.size + t115.size ≤ 9223372036854775807) = true := decide_eq_true c18
        try have c18b2 : (9223372036854775807 < x4_1.size + t115.size) = False := eq_false (Nat.not_lt.2 c18)
        have H' := Aside0.mk H
        clear H
        have p114 : 0 ≤ (x25_1 : Int) := of_decide_eq_true (by first | (with_reducible assumption) | assumption)
        have q114 : x25_1 < (y111.length : Int) := of_decide_eq_true (by first | (with_reducible assumption) | assumption)
        obtain ⟨ad114, e114, hx114_0⟩ := Kd.at_int (Kd.R_reads' HO_23.out).2.2 x25_1 p114 q114
        cases e114
        replace p114 := eq_true p114
        replace q114 := eq_true q114
        go_wp2_with (first | ((with_reducible refine gate_callee (f := 27) rfl ?_); refine Kg_ (some 32) rfl rfl Try.func27 (by kernel_rfl) rfl #[.int .u64 (IntKind.u64.wrap (rd y111 x25_1)), .int .i64 1] rfl ?_; (with_reducible refine (pack_Number.calls (IntKind.u64.wrap (rd y111 x25_1)) 1 t115 _ A17.out).mono ?_); rintro e w19 ⟨rfl, hb⟩; refine ⟨_, rfl, ?_⟩; replace HO_23 := Aside0.mk (Kd.R_below (Ku_ HO_23) hb); replace BK108 := Kb_ BK108 hb; replace HB := Ks_ HB hb; (try clear hb); (try clear hb2); (try clear hk); (try clear hi)))
        go_roundg k1
        case measure => have := HK1.out; omega
        case rel => exact ⟨(x4_1 ++ t115), (wrap64 (x25_1 + 1)), (by first | rfl | (simp; done) | (simp [*]; done)), (by first | rfl | (simp; done) | (simp [*]; done)), H', ⟨by have := HK1.out; omega⟩, ⟨by (with_reducible repeat (first | apply Kd.R_alloc | apply Kd.R_drewN | apply Kd.R_drew)); exact HO_23.out⟩, ⟨by exact Kq_ BK108⟩, ⟨Kz_ HB GE108⟩⟩
      rw [if_neg c14] at H
      have c14b0 : decide (x25_1 < (y111.length : Int)) = false := decide_eq_false c14
      clear c14
      obtain ⟨y116, hy116⟩ : ∃ y_ : List ByteArray, y_ = (([a0_5, a0_6, a0_7] : List ByteArray)) := ⟨_, rfl⟩
      replace H : (gate_Put.l1 k1 x4_1 y116 (y116.length : Int) 0) = some (r1, r2) := by first | (rw [hy116]; with_reducible exact H) | (have H2_ := (Option.bind_some _ _).symm.trans H; rw [hy116]; with_reducible exact H2_) | (have H2_ := (Option.bind_some _ _).symm.trans H; with_reducible exact H2_) | with_reducible exact H | (rw [hy116]; exact H) | exact H
      have Ny116 := Aside0.mk hy116
      clear hy116
      have H' := Aside0.mk H
      clear H
      obtain ⟨hcz20_0, hcz20_1, hcz20_2, hcz20_3, hcz20_4, hcz20_5, hcz20_6, hcz20_7, hfz20_0, hfz20_1, hfz20_2, hfz20_3, hfz20_4, hfz20_5, hfz20_6, hfz20_7⟩ := Ke8_ BK108.out
      go_wp2_with (first | ((with_reducible refine gate_dst (N := 41) rfl ?_); refine Kd.R_lit Kd.string _ 9 ?hg (N := 41) ?hd (xs := ([a0_5, a0_6, a0_7] : List ByteArray)) (inner := [.string a0_5, .string a0_6, .string a0_7]) (ok := fun _ => True) (okp := fun _ => True) ?hr ?hp (fun _ hk => hk) trivial (Below.refl _ _) (Nat.le_refl _) (by simp) ?_; (case hd => rfl); (case hg => rfl); (case hr => first | (go_simp; done) | (go_simp; rfl)); (case hp => exact (Reps.one (show Kd.M Kd.string _ _ _ a0_5 [.string a0_5] from rfl) (Reps.one (show Kd.M Kd.string _ _ _ a0_6 [.string a0_6] from rfl) (Reps.one (show Kd.M Kd.string _ _ _ a0_7 [.string a0_7] from rfl) (Reps.none _ _))))); intro v117 w21 ho22 hb hg_ hnew_; clear hg_ hnew_; (first | rw [← Ny116.out] at ho22 | (simp only [Int.reduceToNat] at ho22; rw [← Ny116.out] at ho22)); have HO118 := Aside0.mk (Kd.R_lower ho22 (below_size (Kz_ HB GE108))); replace HO_23 := Aside0.mk (Kd.R_below (Ku_ HO_23) hb); replace BK108 := Kb_ BK108 hb; replace HB := Ks_ HB hb; clear hb ho22; obtain ⟨Ao23, co23, eo23⟩ := Kd.R_slice HO118.out; subst eo23))
      go_loopg [4, 43] k1 (fun kq v4 v43 w' => ∃ (x4_2 : ByteArray) (x43_2 : Int), v4 = .string x4_2 ∧ v43 = .int .i64 x43_2 ∧ Aside0 (gate_Put.l1 kq x4_2 y116 (y116.length : Int) x43_2 = some (r1, r2)) ∧ Aside0 (kq ≤ k1) ∧ Aside0 (Kd.R Kd.string 9 w' w.heap.size (fun _ => True) (.slice Ao23 y116.length co23) y116) ∧ Aside0 (w'.heap[gb108]? = some (.cells #[.string a0_0, .int .i64 a0_1, .int .i64 a0_2, .int .i64 a0_3, .int .i64 a0_4, .string a0_5, .string a0_6, .string a0_7] 23 (0, 0))) ∧ Aside0 (Below w.heap.size w w'))
      case atStart => exact ⟨(x4_1), (0), (by first | rfl | (simp; done) | (simp [*]; done)), (by first | rfl | (simp; done) | (simp [*]; done)), H', ⟨Nat.le_refl _⟩, ⟨by (with_reducible repeat (first | apply Kd.R_alloc | apply Kd.R_drewN | apply Kd.R_drew)); exact HO118.out⟩, ⟨by exact Kq_ BK108⟩, ⟨Kz_ HB GE108⟩⟩
      case round =>
        clear H'
        try clear c1
        try clear p1
        try clear q1
        try clear hx1
        try clear c2
        try clear p2
        try clear c3
        try clear p6
        try clear c11
        try clear p11
        try clear q11
        try clear hx11
        try clear c14
        try clear c14b0
        try clear c15
        try clear c15b0
        try clear c16
        try clear c16b0
        try clear c18
        try clear c18b0
        try clear c18b1
        try clear c18b2
        try clear hcz10_0
        try clear hcz10_1
        try clear hcz10_2
        try clear hcz10_3
        try clear hcz10_4
        try clear hcz10_5
        try clear hcz10_6
        try clear hcz10_7
        try clear hcz20_0
        try clear hcz20_1
        try clear hcz20_2
        try clear hcz20_3
        try clear hcz20_4
        try clear hcz20_5
        try clear hcz20_6
        try clear hcz20_7
        try clear hcz6_0
        try clear hcz6_1
        try clear hcz6_2
        try clear hcz6_3
        try clear hcz6_4
        try clear hcz6_5
        try clear hcz6_6
        try clear hcz6_7
        try clear hcz8_0
        try clear hcz8_1
        try clear hcz8_2
        try clear hcz8_3
        try clear hcz8_4
        try clear hcz8_5
        try clear hcz8_6
        try clear hcz8_7
        try clear hfz10_0
        try clear hfz10_1
        try clear hfz10_2
        try clear hfz10_3
        try clear hfz10_4
        try clear hfz10_5
        try clear hfz10_6
        try clear hfz10_7
        try clear hfz20_0
        try clear hfz20_1
        try clear hfz20_2
        try clear hfz20_3
        try clear hfz20_4
        try clear hfz20_5
        try clear hfz20_6
        try clear hfz20_7
        try clear hfz6_0
        try clear hfz6_1
        try clear hfz6_2
        try clear hfz6_3
        try clear hfz6_4
        try clear hfz6_5
        try clear hfz6_6
        try clear hfz6_7
        try clear hfz8_0
        try clear hfz8_1
        try clear hfz8_2
        try clear hfz8_3
        try clear hfz8_4
        try clear hfz8_5
        try clear hfz8_6
        try clear hfz8_7
        try clear hx114_0
        try clear p114
        try clear p2
        try clear q114
        obtain ⟨x4_2, x43_2, rfl, rfl, HA, HK2, HO_41, BK108, HB⟩ := hrel
        cases gk with
        | zero => exact absurd HA.out (by simp [gate_Put.l1])
        | succ k2 =>
          have H := HA.out
          clear HA
          simp only [gate_Put.l1] at H
          by_cases c24 : x43_2 < (y116.length : Int)
          rotate_left
          · rw [if_neg c24] at H
            have c24b0 : decide (x43_2 < (y116.length : Int)) = false := decide_eq_false c24
            clear c24
            simp only [Option.some.injEq, Prod.mk.injEq] at H
            obtain ⟨rfl, rfl⟩ := H
            go_wp2
            go_ret2
            exact ⟨Kh_, Kz_ HB GE108⟩
          rw [if_pos c24] at H
          have c24b0 : decide (x43_2 < (y116.length : Int)) = true := decide_eq_true c24
          clear c24
          by_cases c25 : 0 ≤ x43_2
          rotate_left
          · rw [if_neg c25] at H
            exact absurd H (by simp)
          rw [if_pos c25] at H
          have c25b0 : decide (0 ≤ x43_2) = true := decide_eq_true c25
          clear c25
          by_cases c26 : x43_2 < (y116.length : Int)
          rotate_left
          · rw [if_neg c26] at H
            exact absurd H (by simp)
          rw [if_pos c26] at H
          have c26b0 : decide (x43_2 < (y116.length : Int)) = true := decide_eq_true c26
          clear c26
          replace H := Option.bind_eq_some_iff.mp H
          obtain ⟨t120, A270, H⟩ := H
          replace H : (if x4_2.size + t120.size ≤ 9223372036854775807 then (gate_Put.l1 k2 (x4_2 ++ t120) y116 (y116.length : Int) (wrap64 (x43_2 + 1))) else (none)) = some (r1, r2) := H
          have A27 := Aside0.mk A270
          clear A270
          by_cases c28 : x4_2.size + t120.size ≤ 9223372036854775807
          rotate_left
          · rw [if_neg c28] at H
            exact absurd H (by simp)
          rw [if_pos c28] at H
          have c28b0 := eq_true c28
          have c28b1 : decide (x4_2.size + t120.size ≤ 9223372036854775807) = true := decide_eq_true c28
          try have c28b2 : (9223372036854775807 < x4_2.size + t120.size) = False := eq_false (Nat.not_lt.2 c28)
          have H' := Aside0.mk H
          clear H
          have p119 : 0 ≤ (x43_2 : Int) := of_decide_eq_true (by first | (with_reducible assumption) | assumption)
          have q119 : x43_2 < (y116.length : Int) := of_decide_eq_true (by first | (with_reducible assumption) | assumption)
          obtain ⟨ad119, e119, hx119_0⟩ := Kd.at_string (Kd.R_reads' HO_41.out).2.2 x43_2 p119 q119
          cases e119
          replace p119 := eq_true p119
          replace q119 := eq_true q119
          go_wp2_with (first | ((with_reducible refine gate_callee (f := 26) rfl ?_); refine Kg_ (some 49) rfl rfl Try.func26 (by kernel_rfl) rfl #[.string (rdOf ByteArray.empty y116 x43_2)] rfl ?_; (with_reducible refine (pack_Text.calls k2 (rdOf ByteArray.empty y116 x43_2) t120 _ A27.out).mono ?_); rintro e w29 ⟨rfl, hb⟩; refine ⟨_, rfl, ?_⟩; replace HO_41 := Aside0.mk (Kd.R_below (Ku_ HO_41) hb); replace BK108 := Kb_ BK108 hb; replace HB := Ks_ HB hb; (try clear hb); (try clear hb2); (try clear hk); (try clear hi)))
          go_roundg k2
          case measure => have := HK1.out; have := HK2.out; omega
          case rel => exact ⟨(x4_2 ++ t120), (wrap64 (x43_2 + 1)), (by first | rfl | (simp; done) | (simp [*]; done)), (by first | rfl | (simp; done) | (simp [*]; done)), H', ⟨by have := HK1.out; have := HK2.out; omega⟩, ⟨by (with_reducible repeat (first | apply Kd.R_alloc | apply Kd.R_drewN | apply Kd.R_drew)); exact HO_41.out⟩, ⟨by exact Kq_ BK108⟩, ⟨Kz_ HB GE108⟩⟩
theorem eqA23 (d : Nat) (w : World) (x0 y0 : ByteArray) (x1 y1 : Int) (x2 y2 : Int) (x3 y3 : Int) (x4 y4 : Int) (x5 y5 : ByteArray) (x6 y6 : ByteArray) (x7 y7 : ByteArray) :
    (Op.equalIn (d + 2) 23 (.agg #[.string x0, .int .i64 x1, .int .i64 x2, .int .i64 x3, .int .i64 x4, .string x5, .string x6, .string x7]) (.agg #[.string y0, .int .i64 y1, .int .i64 y2, .int .i64 y3, .int .i64 y4, .string y5, .string y6, .string y7])).run Try.prog w = .ok (x0.toList == y0.toList && (x1 == y1 && (x2 == y2 && (x3 == y3 && (x4 == y4 && (x5.toList == y5.toList && (x6.toList == y6.toList && (x7.toList == y7.toList)))))))) w := by
  refine eqA_of Try.underlying23 (by kernel_rfl) ?_
  refine eqf_cons (by rfl) (by go_simp; rfl) (by go_simp; rfl) (by go_simp) ?_
  refine eqf_cons (by rfl) (by go_simp; rfl) (by go_simp; rfl) (by go_simp) ?_
  refine eqf_cons (by rfl) (by go_simp; rfl) (by go_simp; rfl) (by go_simp) ?_
  refine eqf_cons (by rfl) (by go_simp; rfl) (by go_simp; rfl) (by go_simp) ?_
  refine eqf_cons (by rfl) (by go_simp; rfl) (by go_simp; rfl) (by go_simp) ?_
  refine eqf_cons (by rfl) (by go_simp; rfl) (by go_simp; rfl) (by go_simp) ?_
  refine eqf_cons (by rfl) (by go_simp; rfl) (by go_simp; rfl) (by go_simp) ?_
  exact eqf_last (by rfl) (by go_simp; rfl) (by go_simp; rfl) (by go_simp)
theorem eqA28 (d : Nat) (w : World) (x0 y0 : Int) (x1 y1 : Int) (x2 y2 : Int) (x3 y3 : Int) :
    (Op.equalIn (d + 2) 28 (.agg #[.int .u64 x0, .int .u64 x1, .int .u64 x2, .int .u64 x3]) (.agg #[.int .u64 y0, .int .u64 y1, .int .u64 y2, .int .u64 y3])).run Try.prog w = .ok (x0 == y0 && (x1 == y1 && (x2 == y2 && (x3 == y3)))) w := by
  have hu := Try.underlying28
  have hs : (sizeOf 26).run Try.prog w = .ok 1 w := by go_simp
  have hp : ∀ (xs : Array Value) (i : Nat) (v : Value), xs[i]? = some v → (part 26 xs i).run Try.prog w = .ok v w := by
    intro xs i v h
    unfold part
    go_simp
  have hE : ∀ a b : Int, (Op.equalIn (d + 1) 26 (.int .u64 a) (.int .u64 b)).run Try.prog w = .ok (a == b) w := by intro a b; go_simp
  obtain ⟨X, hX⟩ : ∃ X, X = (#[.int .u64 x0, .int .u64 x1, .int .u64 x2, .int .u64 x3] : Array Value) := ⟨_, rfl⟩
  obtain ⟨Y, hY⟩ : ∃ Y, Y = (#[.int .u64 y0, .int .u64 y1, .int .u64 y2, .int .u64 y3] : Array Value) := ⟨_, rfl⟩
  rw [← hX, ← hY]
  have a0 : (part 26 X 0).run Try.prog w = .ok (.int .u64 x0) w := by rw [hX]; exact hp _ 0 _ rfl
  have b0 : (part 26 Y 0).run Try.prog w = .ok (.int .u64 y0) w := by rw [hY]; exact hp _ 0 _ rfl
  have a1 : (part 26 X 1).run Try.prog w = .ok (.int .u64 x1) w := by rw [hX]; exact hp _ 1 _ rfl
  have b1 : (part 26 Y 1).run Try.prog w = .ok (.int .u64 y1) w := by rw [hY]; exact hp _ 1 _ rfl
  have a2 : (part 26 X 2).run Try.prog w = .ok (.int .u64 x2) w := by rw [hX]; exact hp _ 2 _ rfl
  have b2 : (part 26 Y 2).run Try.prog w = .ok (.int .u64 y2) w := by rw [hY]; exact hp _ 2 _ rfl
  have a3 : (part 26 X 3).run Try.prog w = .ok (.int .u64 x3) w := by rw [hX]; exact hp _ 3 _ rfl
  have b3 : (part 26 Y 3).run Try.prog w = .ok (.int .u64 y3) w := by rw [hY]; exact hp _ 3 _ rfl
  clear hX hY hp
  obtain ⟨m, hm⟩ : ∃ m, d + 1 = m := ⟨_, rfl⟩
  rw [hm] at hE
  rw [show d + 2 = m + 1 by omega]
  clear hm
  unfold Op.equalIn
  simp only [Sem.run_bind, run_underlying hu, Result.andThen_ok, hs, Nat.mul_one]
  have hfor : ∀ (f : Nat → Option Bool × Unit → Sem (ForInStep (Option Bool × Unit))), forIn (m := Sem) [:4] ((none, ()) : Option Bool × Unit) f = forIn (m := Sem) [0, 1, 2, 3] ((none, ()) : Option Bool × Unit) f := by
    intro f
    simp
    rfl
  rw [hfor]
  simp only [List.forIn_cons, List.forIn_nil, Sem.run_bind, a0, b0, a1, b1, a2, b2, a3, b3, Result.andThen_ok, hE]
  by_cases h0 : x0 = y0 <;> by_cases h1 : x1 = y1 <;> by_cases h2 : x2 = y2 <;> by_cases h3 : x3 = y3 <;> simp [Sem.run_bind, a0, b0, a1, b1, a2, b2, a3, b3, hE, h0, h1, h2, h3]
theorem ixA28_0 (x0 : Int) (x1 : Int) (x2 : Int) (x3 : Int) (W : World) :
    (Instr.index 28 (.agg #[.int .u64 x0, .int .u64 x1, .int .u64 x2, .int .u64 x3]) (.int .i64 0)).run Try.prog W = .ok (.int .u64 x0) W := by
  have hu := Try.underlying28
  have hs : (sizeOf 26).run Try.prog W = .ok 1 W := by go_simp
  have hp : (part 26 #[.int .u64 x0, .int .u64 x1, .int .u64 x2, .int .u64 x3] 0).run Try.prog W = .ok (.int .u64 x0) W := by
    unfold part
    go_simp
  simp [Instr.index, asIntOf, Sem.run_bind, run_underlying hu, hs, hp]
theorem ixA28_1 (x0 : Int) (x1 : Int) (x2 : Int) (x3 : Int) (W : World) :
    (Instr.index 28 (.agg #[.int .u64 x0, .int .u64 x1, .int .u64 x2, .int .u64 x3]) (.int .i64 1)).run Try.prog W = .ok (.int .u64 x1) W := by
  have hu := Try.underlying28
  have hs : (sizeOf 26).run Try.prog W = .ok 1 W := by go_simp
  have hp : (part 26 #[.int .u64 x0, .int .u64 x1, .int .u64 x2, .int .u64 x3] 1).run Try.prog W = .ok (.int .u64 x1) W := by
    unfold part
    go_simp
  simp [Instr.index, asIntOf, Sem.run_bind, run_underlying hu, hs, hp]
theorem ixA28_2 (x0 : Int) (x1 : Int) (x2 : Int) (x3 : Int) (W : World) :
    (Instr.index 28 (.agg #[.int .u64 x0, .int .u64 x1, .int .u64 x2, .int .u64 x3]) (.int .i64 2)).run Try.prog W = .ok (.int .u64 x2) W := by
  have hu := Try.underlying28
  have hs : (sizeOf 26).run Try.prog W = .ok 1 W := by go_simp
  have hp : (part 26 #[.int .u64 x0, .int .u64 x1, .int .u64 x2, .int .u64 x3] 2).run Try.prog W = .ok (.int .u64 x2) W := by
    unfold part
    go_simp
  simp [Instr.index, asIntOf, Sem.run_bind, run_underlying hu, hs, hp]
theorem ixA28_3 (x0 : Int) (x1 : Int) (x2 : Int) (x3 : Int) (W : World) :
    (Instr.index 28 (.agg #[.int .u64 x0, .int .u64 x1, .int .u64 x2, .int .u64 x3]) (.int .i64 3)).run Try.prog W = .ok (.int .u64 x3) W := by
  have hu := Try.underlying28
  have hs : (sizeOf 26).run Try.prog W = .ok 1 W := by go_simp
  have hp : (part 26 #[.int .u64 x0, .int .u64 x1, .int .u64 x2, .int .u64 x3] 3).run Try.prog W = .ok (.int .u64 x3) W := by
    unfold part
    go_simp
  simp [Instr.index, asIntOf, Sem.run_bind, run_underlying hu, hs, hp]
attribute [local go_sem] ixA28_0 ixA28_1 ixA28_2 ixA28_3   -- for this text's walks alone
theorem eqA41 (d : Nat) (w : World) (x0 y0 : Int) (x1 y1 : ByteArray) (x2 y2 : Bool) (x3 y3 : Int) (x4 y4 : Int) (x5 y5 : Int) (x6 y6 : Int) :
    (Op.equalIn (d + 3) 41 (.agg #[.int .i64 x0, .string x1, .bool x2, .int .u64 x3, .int .u64 x4, .int .u64 x5, .int .u64 x6]) (.agg #[.int .i64 y0, .string y1, .bool y2, .int .u64 y3, .int .u64 y4, .int .u64 y5, .int .u64 y6])).run Try.prog w = .ok (x0 == y0 && (x1.toList == y1.toList && (x2 == y2 && ((x3 == y3 && (x4 == y4 && (x5 == y5 && (x6 == y6)))))))) w := by
  refine eqA_of Try.underlying41 (by kernel_rfl) ?_
  refine eqf_cons (by rfl) (by go_simp; rfl) (by go_simp; rfl) (by go_simp) ?_
  refine eqf_cons (by rfl) (by go_simp; rfl) (by go_simp; rfl) (by go_simp) ?_
  refine eqf_cons (by rfl) (by go_simp; rfl) (by go_simp; rfl) (by go_simp) ?_
  exact eqf_last (by rfl) (by go_simp) (by go_simp) (eqA28 (d + 0) w _ _ _ _ _ _ _ _)
/-! ### vec_Put: function 34 -/
-- FOREIGN: a range over an array's copy
def vec_Put.f (k : Nat) (a0_0 a0_1 a0_2 a0_3 : Int) : Option ByteArray :=
  (pack_Vary.f k a0_0).bind fun t0 => (pack_Vary.f k a0_1).bind fun t1 => (pack_Vary.f k a0_2).bind fun t2 => (pack_Vary.f k a0_3).bind fun t3 =>
    if t0.size + t1.size + t2.size + t3.size ≤ 9223372036854775807 then some (t0 ++ t1 ++ t2 ++ t3) else none
theorem vec_Put.mono : ∀ a0 a1 a2 a3 k, LeO (vec_Put.f k a0 a1 a2 a3) (vec_Put.f (k + 1) a0 a1 a2 a3) := by
  intro a0 a1 a2 a3 k
  unfold vec_Put.f
  repeat' first
      | exact pack_Vary.mono _ _
      | exact LeO.refl _
      | exact LeO.none _
      | refine LeO.ite ?_ ?_
      | refine LeO.bind ?_ (fun _ => ?_)
theorem vec_Put.at_ (xs : Array Value) (hn : xs.size = 4) (i : Nat) (v : Value) (W : World) (h : xs[i]? = some v) :
    (Instr.index 28 (.agg xs) (.int .i64 (i : Int))).run Try.prog W = .ok v W := by
  have hu := Try.underlying28
  have hi : i < 4 := by
    have := (Array.getElem?_eq_some_iff.1 h).1
    omega
  have hs : (sizeOf 26).run Try.prog W = .ok 1 W := by go_simp
  have hp : (part 26 xs i).run Try.prog W = .ok v W := by
    unfold part
    go_simp
    exact (Array.getElem?_eq_some_iff.1 h).2
  simp [Instr.index, asIntOf, Sem.run_bind, run_underlying hu, hs, hp, hi]
set_option maxHeartbeats 8000000 in
set_option maxRecDepth 100000 in
theorem vec_Put.calls (k : Nat) (a0_0 a0_1 a0_2 a0_3 : Int) (r : ByteArray) (w : World) (h : vec_Put.f k a0_0 a0_1 a0_2 a0_3 = some r) :
    Calls Try.prog 34 #[.agg #[.int .u64 a0_0, .int .u64 a0_1, .int .u64 a0_2, .int .u64 a0_3]] w fun e w' => e = .returned (.string r) ∧ Below w.heap.size w w' := by
  unfold vec_Put.f at h
  obtain ⟨t0, A0, h⟩ := Option.bind_eq_some_iff.1 h
  obtain ⟨t1, A1, h⟩ := Option.bind_eq_some_iff.1 h
  obtain ⟨t2, A2, h⟩ := Option.bind_eq_some_iff.1 h
  obtain ⟨t3, A3, h⟩ := Option.bind_eq_some_iff.1 h
  by_cases hz : t0.size + t1.size + t2.size + t3.size ≤ 9223372036854775807
  · rw [if_pos hz] at h
    obtain rfl := Option.some.inj h
    have z0 : t0.size ≤ 9223372036854775807 := by omega
    have z1 : t0.size + t1.size ≤ 9223372036854775807 := by omega
    have z2 : t0.size + t1.size + t2.size ≤ 9223372036854775807 := by omega
    replace A0 := Aside0.mk A0
    replace A1 := Aside0.mk A1
    replace A2 := Aside0.mk A2
    replace A3 := Aside0.mk A3
    clear h
    have hu := Try.underlying28
    have hu2 := Try.underlying26
    have x0 := fun W => vec_Put.at_ #[.int .u64 a0_0, .int .u64 a0_1, .int .u64 a0_2, .int .u64 a0_3] rfl 0 (.int .u64 a0_0) W rfl
    have x1 := fun W => vec_Put.at_ #[.int .u64 a0_0, .int .u64 a0_1, .int .u64 a0_2, .int .u64 a0_3] rfl 1 (.int .u64 a0_1) W rfl
    have x2 := fun W => vec_Put.at_ #[.int .u64 a0_0, .int .u64 a0_1, .int .u64 a0_2, .int .u64 a0_3] rfl 2 (.int .u64 a0_2) W rfl
    have x3 := fun W => vec_Put.at_ #[.int .u64 a0_0, .int .u64 a0_1, .int .u64 a0_2, .int .u64 a0_3] rfl 3 (.int .u64 a0_3) W rfl
    simp only [Int.ofNat_eq_natCast, Int.cast_ofNat_Int] at x0 x1 x2 x3
    go_enter Try.func34, Try.ntmps34
    go_wp2
    generalize hW : (w.alloc (Obj.cells _ _)) = W0
    have HB : Below w.heap.size w W0 := by rw [← hW]; exact below_alloc (Below.refl _ _) _
    replace HB := Aside0.mk HB
    clear hW
    refine wp_loop_rounds 5 ?_
    rw [rounds_succ]
    go_wp2_with (go_at_call 45; refine (pack_Vary.calls k _ t0 _ A0.out).mono ?_; rintro e w1 ⟨rfl, hb⟩; have HB1 := Aside0.mk (below_step HB.out hb); clear hb)
    rw [rounds_succ]
    go_wp2_with (go_at_call 45; refine (pack_Vary.calls k _ t1 _ A1.out).mono ?_; rintro e w2 ⟨rfl, hb⟩; have HB2 := Aside0.mk (below_step HB1.out hb); clear hb)
    rw [rounds_succ]
    go_wp2_with (go_at_call 45; refine (pack_Vary.calls k _ t2 _ A2.out).mono ?_; rintro e w3 ⟨rfl, hb⟩; have HB3 := Aside0.mk (below_step HB2.out hb); clear hb)
    rw [rounds_succ]
    go_wp2_with (go_at_call 45; refine (pack_Vary.calls k _ t3 _ A3.out).mono ?_; rintro e w4 ⟨rfl, hb⟩; have HB4 := Aside0.mk (below_step HB3.out hb); clear hb)
    rw [rounds_succ]
    go_wp2
    go_ret
    exact ⟨by first | rfl | simp, HB4.out⟩
  · rw [if_neg hz] at h
    exact absurd h (by simp)
/-! ### gate_Answer: function 17 -/
def gate_Answer.j0 : Nat → Int → Int → ByteArray → Bool → Int → Int → Int → Int → Option (ByteArray)
  | 0, _, _, _, _, _, _, _, _ => none
  | k + 1, x3, x122000, x122001, x122002, x122003, x122004, x122005, x122006 => (pack_Number.f (IntKind.u64.wrap (x122000)) 1).bind fun t122 => ((pack_Number.f x3 1).bind fun t123 => (if t122.size + t123.size ≤ 9223372036854775807 then ((pack_Text.f k x122001).bind fun t124 => (if (t122 ++ t123).size + t124.size ≤ 9223372036854775807 then ((vec_Put.f k x122003 x122004 x122005 x122006).bind fun t125 => (if ((t122 ++ t123) ++ t124).size + t125.size ≤ 9223372036854775807 then (some (((t122 ++ t123) ++ t124) ++ t125)) else (none))) else (none))) else (none)))
def gate_Answer.f (k : Nat) (a0_0 : Int) (a0_1 : ByteArray) (a0_2 : Bool) (a0_3 : Int) (a0_4 : Int) (a0_5 : Int) (a0_6 : Int) : Option (ByteArray) := if a0_2 = true then (gate_Answer.j0 k 1 a0_0 a0_1 a0_2 a0_3 a0_4 a0_5 a0_6) else (gate_Answer.j0 k 0 a0_0 a0_1 a0_2 a0_3 a0_4 a0_5 a0_6)
theorem gate_Answer.mono_l : ∀ k, (∀ y0 y1 y2 y3 y4 y5 y6 y7, LeO (gate_Answer.j0 k y0 y1 y2 y3 y4 y5 y6 y7) (gate_Answer.j0 (k + 1) y0 y1 y2 y3 y4 y5 y6 y7))
  | 0 => fun _ _ _ _ _ _ _ _ r h => by simp [gate_Answer.j0] at h
  | k + 1 => by
    have ih0 := gate_Answer.mono_l k
    · intro y0 y1 y2 y3 y4 y5 y6 y7
      unfold gate_Answer.j0
      repeat' first
      | (with_reducible exact ih0 _ _ _ _ _ _ _ _)
      | (with_reducible exact pack_Text.mono _ _)
      | (with_reducible exact vec_Put.mono _ _ _ _ _)
      | (with_reducible exact LeO.refl _)
      | (with_reducible exact LeO.none _)
      | (with_reducible refine LeO.ite ?_ ?_)
      | (with_reducible refine LeO.bind ?_ (fun _ => ?_))
      | exact ih0 _ _ _ _ _ _ _ _
      | exact pack_Text.mono _ _
      | exact vec_Put.mono _ _ _ _ _
      | exact LeO.none _
      | refine LeO.ite ?_ ?_
      | refine LeO.bind ?_ (fun _ => ?_)
theorem gate_Answer.mono : ∀ a0 a1 a2 a3 a4 a5 a6 k, LeO (gate_Answer.f k a0 a1 a2 a3 a4 a5 a6) (gate_Answer.f (k + 1) a0 a1 a2 a3 a4 a5 a6) := by
  intro a0 a1 a2 a3 a4 a5 a6 k
  have ih0 := gate_Answer.mono_l k
  unfold gate_Answer.f
  repeat' first
      | (with_reducible exact ih0 _ _ _ _ _ _ _ _)
      | (with_reducible exact pack_Text.mono _ _)
      | (with_reducible exact vec_Put.mono _ _ _ _ _)
      | (with_reducible exact LeO.refl _)
      | (with_reducible exact LeO.none _)
      | (with_reducible refine LeO.ite ?_ ?_)
      | (with_reducible refine LeO.bind ?_ (fun _ => ?_))
      | exact ih0 _ _ _ _ _ _ _ _
      | exact pack_Text.mono _ _
      | exact vec_Put.mono _ _ _ _ _
      | exact LeO.none _
      | refine LeO.ite ?_ ?_
      | refine LeO.bind ?_ (fun _ => ?_)
def gate_Answer.T4 : Bool × List (List Nat × List Nat) := (true, [([], []), ([0], [0]), ([1], [1]), ([2], [2]), ([], []), ([4, 3], [4]), ([3, 5], [3, 5]), ([], []), ([7], [7]), ([8, 5], [8]), ([6, 9], [6, 9]), ([], []), ([11], [11]), ([12, 9], [12]), ([10, 13], [10, 13]), ([14, 13, 0, 1, 2, 3, 4, 5, 6, 7, 8, 9, 10, 11, 12, 13, 14], [14])])
def gate_Answer.B4 : List Nat := [0, 1, 3, 7, 0, 31, 63, 0, 128, 447, 1023, 0, 2048, 7103, 16383, 32767]
theorem gate_Answer.tab4 : rtab .any (opsOf Try.f17 4) = gate_Answer.T4 := by kernel_rfl
theorem gate_Answer.bits4 : waitsOk gate_Answer.T4.2 gate_Answer.B4 = true := by kernel_rfl
set_option maxHeartbeats 8000000 in
set_option maxRecDepth 100000 in
theorem gate_Answer.calls (k : Nat) (a0_0 : Int) (a0_1 : ByteArray) (a0_2 : Bool) (a0_3 : Int) (a0_4 : Int) (a0_5 : Int) (a0_6 : Int) (r : ByteArray) (w : World) (h : gate_Answer.f k a0_0 a0_1 a0_2 a0_3 a0_4 a0_5 a0_6 = some r) :
    Calls Try.prog 17 #[.agg #[.int .i64 a0_0, .string a0_1, .bool a0_2, .int .u64 a0_3, .int .u64 a0_4, .int .u64 a0_5, .int .u64 a0_6]] w fun e w' => e = .returned (.string r) ∧ Below w.heap.size w w' := by
  have hu41 := Try.underlying41
  have hu28 := Try.underlying28
  have HB := Aside0.mk (Below.refl w.heap.size w)
  have H : (if a0_2 = true then (gate_Answer.j0 k 1 a0_0 a0_1 a0_2 a0_3 a0_4 a0_5 a0_6) else (gate_Answer.j0 k 0 a0_0 a0_1 a0_2 a0_3 a0_4 a0_5 a0_6)) = some r := h
  clear h
  have HC2 := Aside0.mk H
  clear H
  go_enter Try.func17, Try.ntmps17
  go_upto_if 5 with (first | ((with_reducible refine gate_dst (N := 1) rfl ?_); refine box_event ?hg (N := 1) ?hd (cs := #[.int .i64 a0_0, .string a0_1, .bool a0_2, .int .u64 a0_3, .int .u64 a0_4, .int .u64 a0_5, .int .u64 a0_6]) (t := 41) ?hr ?_; (case hd => rfl); (case hg => rfl); (case hr => first | (go_simp; done) | (go_simp; rfl)); intro gb121 hg w3 hbox hb; have BK121 := Aside0.mk (hbox); have GW121 := Kw_ HB hg; have GE121 := GW121; replace HB := Ks_ HB hb; clear hb hbox hg; obtain ⟨hcz4_0, hcz4_1, hcz4_2, hcz4_3, hcz4_4, hcz4_5, hcz4_6, hfz4_0, hfz4_1, hfz4_2, hfz4_3, hfz4_4, hfz4_5, hfz4_6⟩ := Ke7_ BK121.out))
  (try simp only [Act.put, List.setIfInBounds_toArray, List.set_cons_zero, List.set_cons_succ])
  go_cut [3] (fun v3 wc => ∃ (kq : Nat) (x3_1 : Int), v3 = .int .u64 x3_1 ∧ Aside0 (gate_Answer.j0 kq x3_1 a0_0 a0_1 a0_2 a0_3 a0_4 a0_5 a0_6 = some r) ∧ Aside0 (kq ≤ k) ∧ Aside0 (wc.heap[gb121]? = some (.cells #[.int .i64 a0_0, .string a0_1, .bool a0_2, .int .u64 a0_3, .int .u64 a0_4, .int .u64 a0_5, .int .u64 a0_6] 41 (0, 0))) ∧ Aside0 (Below w.heap.size w wc))
  case first =>
    have H := HC2.out
    clear HC2
    by_cases c5 : a0_2 = true
    · subst c5
      have H1 : (gate_Answer.j0 k 1 a0_0 a0_1 true a0_3 a0_4 a0_5 a0_6) = some r := by rw [if_pos rfl] at H; exact H
      clear H
      have H := H1
      clear H1
      have H' := Aside0.mk H
      clear H
      go_wp2
      go_meet
      case rel => exact ⟨_, (1), (by first | rfl | (simp; done) | (simp [*]; done)), H', ⟨by first | omega | exact Nat.le_refl _⟩, ⟨by exact Kq_ BK121⟩, ⟨Kz_ HB GE121⟩⟩
    replace c5 := Bool.eq_false_iff.mpr c5
    subst c5
    have H1 : (gate_Answer.j0 k 0 a0_0 a0_1 false a0_3 a0_4 a0_5 a0_6) = some r := by rw [if_neg (show ¬ (false = true) by decide)] at H; exact H
    clear H
    have H := H1
    clear H1
    have H' := Aside0.mk H
    clear H
    go_wp2
    go_meet
    case rel => exact ⟨_, (0), (by first | rfl | (simp; done) | (simp [*]; done)), H', ⟨by first | omega | exact Nat.le_refl _⟩, ⟨by exact Kq_ BK121⟩, ⟨Kz_ HB GE121⟩⟩
  case rest =>
    clear HC2
    try clear c1
    try clear p2
    try clear c5
    try clear hcz4_0
    try clear hcz4_1
    try clear hcz4_2
    try clear hcz4_3
    try clear hcz4_4
    try clear hcz4_5
    try clear hcz4_6
    try clear hfz4_0
    try clear hfz4_1
    try clear hfz4_2
    try clear hfz4_3
    try clear hfz4_4
    try clear hfz4_5
    try clear hfz4_6
    obtain ⟨kq, x3_1, rfl, HA, HJ1, BK121, HB⟩ := hcut
    cases kq with
    | zero => exact absurd HA.out (by simp [gate_Answer.j0])
    | succ kj1 =>
      have H := HA.out
      clear HA
      simp only [gate_Answer.j0] at H
      replace H := Option.bind_eq_some_iff.mp H
      obtain ⟨t122, A60, H⟩ := H
      replace H : ((pack_Number.f x3_1 1).bind fun t123 => (if t122.size + t123.size ≤ 9223372036854775807 then ((pack_Text.f kj1 a0_1).bind fun t124 => (if (t122 ++ t123).size + t124.size ≤ 9223372036854775807 then ((vec_Put.f kj1 a0_3 a0_4 a0_5 a0_6).bind fun t125 => (if ((t122 ++ t123) ++ t124).size + t125.size ≤ 9223372036854775807 then (some (((t122 ++ t123) ++ t124) ++ t125)) else (none))) else (none))) else (none))) = some r := H
      have A6 := Aside0.mk A60
      clear A60
      replace H := Option.bind_eq_some_iff.mp H
      obtain ⟨t123, A70, H⟩ := H
      replace H : (if t122.size + t123.size ≤ 9223372036854775807 then ((pack_Text.f kj1 a0_1).bind fun t124 => (if (t122 ++ t123).size + t124.size ≤ 9223372036854775807 then ((vec_Put.f kj1 a0_3 a0_4 a0_5 a0_6).bind fun t125 => (if ((t122 ++ t123) ++ t124).size + t125.size ≤ 9223372036854775807 then (some (((t122 ++ t123) ++ t124) ++ t125)) else (none))) else (none))) else (none)) = some r := H
      have A7 := Aside0.mk A70
      clear A70
      by_cases c8 : t122.size + t123.size ≤ 9223372036854775807
      rotate_left
      · rw [if_neg c8] at H
        exact absurd H (by simp)
      rw [if_pos c8] at H
      have c8b0 := eq_true c8
      have c8b1 : decide (t122.size + t123.size ≤ 9223372036854775807) = true := decide_eq_true c8
      try have c8b2 : (9223372036854775807 < t122.size + t123.size) = False := eq_false (Nat.not_lt.2 c8)
      replace H := Option.bind_eq_some_iff.mp H
      obtain ⟨t124, A90, H⟩ := H
      replace H : (if (t122 ++ t123).size + t124.size ≤ 9223372036854775807 then ((vec_Put.f kj1 a0_3 a0_4 a0_5 a0_6).bind fun t125 => (if ((t122 ++ t123) ++ t124).size + t125.size ≤ 9223372036854775807 then (some (((t122 ++ t123) ++ t124) ++ t125)) else (none))) else (none)) = some r := H
      have A9 := Aside0.mk A90
      clear A90
      by_cases c10 : (t122 ++ t123).size + t124.size ≤ 9223372036854775807
      rotate_left
      · rw [if_neg c10] at H
        exact absurd H (by simp)
      rw [if_pos c10] at H
      have c10b0 := eq_true c10
      (try (have c10b0s_ := c10b0; simp only [ByteArray.size_append, Int.natCast_add] at c10b0s_))
      have c10b1 : decide ((t122 ++ t123).size + t124.size ≤ 9223372036854775807) = true := decide_eq_true c10
      (try (have c10b1s_ := c10b1; simp only [ByteArray.size_append, Int.natCast_add] at c10b1s_))
      try have c10b2 : (9223372036854775807 < (t122 ++ t123).size + t124.size) = False := eq_false (Nat.not_lt.2 c10)
      (try (have c10b2s_ := c10b2; simp only [ByteArray.size_append, Int.natCast_add] at c10b2s_))
      replace H := Option.bind_eq_some_iff.mp H
      obtain ⟨t125, A110, H⟩ := H
      replace H : (if ((t122 ++ t123) ++ t124).size + t125.size ≤ 9223372036854775807 then (some (((t122 ++ t123) ++ t124) ++ t125)) else (none)) = some r := H
      have A11 := Aside0.mk A110
      clear A110
      by_cases c12 : ((t122 ++ t123) ++ t124).size + t125.size ≤ 9223372036854775807
      rotate_left
      · rw [if_neg c12] at H
        exact absurd H (by simp)
      rw [if_pos c12] at H
      have c12b0 := eq_true c12
      (try (have c12b0s_ := c12b0; simp only [ByteArray.size_append, Int.natCast_add] at c12b0s_))
      have c12b1 : decide (((t122 ++ t123) ++ t124).size + t125.size ≤ 9223372036854775807) = true := decide_eq_true c12
      (try (have c12b1s_ := c12b1; simp only [ByteArray.size_append, Int.natCast_add] at c12b1s_))
      try have c12b2 : (9223372036854775807 < ((t122 ++ t123) ++ t124).size + t125.size) = False := eq_false (Nat.not_lt.2 c12)
      (try (have c12b2s_ := c12b2; simp only [ByteArray.size_append, Int.natCast_add] at c12b2s_))
      obtain rfl := Option.some.inj H
      try go_wp2
      replace BK121 := Kd_ BK121
      replace HB := Aside0.mk (below_drew1 HB.out)
      refine start_ (n := 16) (S := fun w' => w'.cell? ⟨gb121, 0, none⟩ = some (.int .i64 a0_0) ∧ w'.cell? ⟨gb121, 1, none⟩ = some (.string a0_1) ∧ w'.cell? ⟨gb121, 2, none⟩ = some (.bool a0_2) ∧ w'.cell? ⟨gb121, 3, none⟩ = some (.int .u64 a0_3) ∧ w'.cell? ⟨gb121, 4, none⟩ = some (.int .u64 a0_4) ∧ w'.cell? ⟨gb121, 5, none⟩ = some (.int .u64 a0_5) ∧ w'.cell? ⟨gb121, 6, none⟩ = some (.int .u64 a0_6)) (ds := []) #[false, false, false, false, false, false, false, false, false, false, false, false, false, false, false, false] (by kernel_rfl) rfl rfl (Kc7_ BK121.out) (fun hHeld => ?_); refine with_tabW gate_Answer.tab4 gate_Answer.bits4 (fun HT_ HW_ => ?_)
      generalize wc.drew = w13 at BK121 HB hHeld ⊢
      refine pure_ (i := 0) (N := some 6) (v := ?_) (a' := ?_) #[true, false, false, false, false, false, false, false, false, false, false, false, false, false, false, false] rfl rfl (any_of HT_.out (by kernel_rfl)) (fun _ _ _ h => h) (Or.inl ⟨by rfl, ?_⟩) ?_ ?_
      rotate_left
      · intro w'
        go_simp
        with_reducible rfl
      rotate_left
      · simp only [Act.put, List.setIfInBounds_toArray, List.set_cons_zero, List.set_cons_succ, i64_w, i32_w]
        rfl
      refine pure_ (i := 4) (N := some 10) (v := ?_) (a' := ?_) #[true, false, false, false, true, false, false, false, false, false, false, false, false, false, false, false] rfl rfl (any_of HT_.out (by kernel_rfl)) (fun _ _ _ h => h) (Or.inl ⟨by rfl, ?_⟩) ?_ ?_
      rotate_left
      · intro w'
        go_simp
        with_reducible rfl
      rotate_left
      · simp only [Act.put, List.setIfInBounds_toArray, List.set_cons_zero, List.set_cons_succ, i64_w, i32_w]
        rfl
      refine pure_ (i := 7) (N := some 13) (v := ?_) (a' := ?_) #[true, false, false, false, true, false, false, true, false, false, false, false, false, false, false, false] rfl rfl (any_of HT_.out (by kernel_rfl)) (fun _ _ _ h => h) (Or.inl ⟨by rfl, ?_⟩) ?_ ?_
      rotate_left
      · intro w'
        go_simp
        with_reducible rfl
      rotate_left
      · simp only [Act.put, List.setIfInBounds_toArray, List.set_cons_zero, List.set_cons_succ, i64_w, i32_w]
        rfl
      refine pure_ (i := 11) (N := some 17) (v := ?_) (a' := ?_) #[true, false, false, false, true, false, false, true, false, false, false, true, false, false, false, false] rfl rfl (any_of HT_.out (by kernel_rfl)) (fun _ _ _ h => h) (Or.inl ⟨by rfl, ?_⟩) ?_ ?_
      rotate_left
      · intro w'
        go_simp
        with_reducible rfl
      rotate_left
      · simp only [Act.put, List.setIfInBounds_toArray, List.set_cons_zero, List.set_cons_succ, i64_w, i32_w]
        rfl
      refine take_ (i := 1) (N := some 7) (v := ?_) (a' := ?_) #[true, true, false, false, true, false, false, true, false, false, false, true, false, false, false, false] rfl rfl (take_ofW HT_.out HW_.out (by kernel_rfl)) (fun _ _ _ h => h) (Or.inl ⟨by rfl, ?_⟩) hHeld ?_ ?_
      rotate_left
      · rintro w' ⟨s0, s1, s2, s3, s4, s5, s6⟩
        go_simp
        with_reducible rfl
      rotate_left
      · simp only [Act.put, List.setIfInBounds_toArray, List.set_cons_zero, List.set_cons_succ, i64_w, i32_w]
        rfl
      refine pure_ (i := 2) (N := some 8) (v := ?_) (a' := ?_) #[true, true, true, false, true, false, false, true, false, false, false, true, false, false, false, false] rfl rfl (any_of HT_.out (by kernel_rfl)) (fun _ _ _ h => h) (Or.inl ⟨by rfl, ?_⟩) ?_ ?_
      rotate_left
      · intro w'
        go_simp
        with_reducible rfl
      rotate_left
      · simp only [Act.put, List.setIfInBounds_toArray, List.set_cons_zero, List.set_cons_succ, i64_w, i32_w]
        rfl
      refine take_ (i := 8) (N := some 14) (v := ?_) (a' := ?_) #[true, true, true, false, true, false, false, true, true, false, false, true, false, false, false, false] rfl rfl (take_ofW HT_.out HW_.out (by kernel_rfl)) (fun _ _ _ h => h) (Or.inl ⟨by rfl, ?_⟩) hHeld ?_ ?_
      rotate_left
      · rintro w' ⟨s0, s1, s2, s3, s4, s5, s6⟩
        go_simp
        with_reducible rfl
      rotate_left
      · simp only [Act.put, List.setIfInBounds_toArray, List.set_cons_zero, List.set_cons_succ, i64_w, i32_w]
        rfl
      refine take_ (i := 12) (N := some 18) (v := ?_) (a' := ?_) #[true, true, true, false, true, false, false, true, true, false, false, true, true, false, false, false] rfl rfl (take_ofW HT_.out HW_.out (by kernel_rfl)) (fun _ _ _ h => h) (Or.inl ⟨by rfl, ?_⟩) hHeld ?_ ?_
      rotate_left
      · rintro w' ⟨s0, s1, s2, s3, s4, s5, s6⟩
        go_simp
        with_reducible rfl
      rotate_left
      · simp only [Act.put, List.setIfInBounds_toArray, List.set_cons_zero, List.set_cons_succ, i64_w, i32_w]
        rfl
      refine one_ (i := 3) (N := some 9) #[true, true, true, true, true, false, false, true, true, false, false, true, true, false, false, false] rfl rfl (one_of HT_.out (by kernel_rfl)) (by decide) (fun K hK => ?_)
      refine goes_ Try.func27 (by kernel_rfl) rfl #[.int .u64 (IntKind.u64.wrap (a0_0)), .int .i64 1] (by rfl) rfl rfl (by (try simp only [List.map_toArray, List.map_cons, List.map_nil]); first | done | rfl | (simp only [List.length_drop, List.length_take]; rfl)) ?_
      with_reducible refine (pack_Number.calls (IntKind.u64.wrap (a0_0)) 1 t122 _ A6.out).mono ?_
      rintro e w14 ⟨rfl, hb⟩
      refine ⟨_, rfl, ?_⟩
      replace BK121 := Kb_ BK121 hb
      replace HB := Ks_ HB hb
      (try clear hb)
      (try clear hb2)
      (try clear hk)
      (try clear hi)
      refine hK.out _ _ (Kc7_ BK121.out) (fun hHeld => ?_)
      clear hK K
      refine norm_ (a' := ?_) ?_ ?_
      rotate_left
      · show Act.put _ (some 9) _ = _
        simp only [Act.put, List.setIfInBounds_toArray, List.set_cons_zero, List.set_cons_succ, i64_w, i32_w]
        rfl
      refine one_ (i := 5) (N := some 11) #[true, true, true, true, true, true, false, true, true, false, false, true, true, false, false, false] rfl rfl (one_of HT_.out (by kernel_rfl)) (by decide) (fun K hK => ?_)
      refine goes_ Try.func27 (by kernel_rfl) rfl #[.int .u64 x3_1, .int .i64 1] (by rfl) rfl rfl (by (try simp only [List.map_toArray, List.map_cons, List.map_nil]); first | done | rfl | (simp only [List.length_drop, List.length_take]; rfl)) ?_
      with_reducible refine (pack_Number.calls x3_1 1 t123 _ A7.out).mono ?_
      rintro e w15 ⟨rfl, hb⟩
      refine ⟨_, rfl, ?_⟩
      replace BK121 := Kb_ BK121 hb
      replace HB := Ks_ HB hb
      (try clear hb)
      (try clear hb2)
      (try clear hk)
      (try clear hi)
      refine hK.out _ _ (Kc7_ BK121.out) (fun hHeld => ?_)
      clear hK K
      refine norm_ (a' := ?_) ?_ ?_
      rotate_left
      · show Act.put _ (some 11) _ = _
        simp only [Act.put, List.setIfInBounds_toArray, List.set_cons_zero, List.set_cons_succ, i64_w, i32_w]
        rfl
      refine pure_ (i := 6) (N := some 12) (v := ?_) (a' := ?_) #[true, true, true, true, true, true, true, true, true, false, false, true, true, false, false, false] rfl rfl (any_of HT_.out (by kernel_rfl)) (fun _ _ _ h => h) (Or.inl ⟨by rfl, ?_⟩) ?_ ?_
      rotate_left
      · intro w'
        go_simp
        with_reducible rfl
      rotate_left
      · simp only [Act.put, List.setIfInBounds_toArray, List.set_cons_zero, List.set_cons_succ, i64_w, i32_w]
        rfl
      refine one_ (i := 9) (N := some 15) #[true, true, true, true, true, true, true, true, true, true, false, true, true, false, false, false] rfl rfl (one_of HT_.out (by kernel_rfl)) (by decide) (fun K hK => ?_)
      refine goes_ Try.func26 (by kernel_rfl) rfl #[.string a0_1] (by rfl) rfl rfl (by (try simp only [List.map_toArray, List.map_cons, List.map_nil]); first | done | rfl | (simp only [List.length_drop, List.length_take]; rfl)) ?_
      with_reducible refine (pack_Text.calls kj1 a0_1 t124 _ A9.out).mono ?_
      rintro e w16 ⟨rfl, hb⟩
      refine ⟨_, rfl, ?_⟩
      replace BK121 := Kb_ BK121 hb
      replace HB := Ks_ HB hb
      (try clear hb)
      (try clear hb2)
      (try clear hk)
      (try clear hi)
      refine hK.out _ _ (Kc7_ BK121.out) (fun hHeld => ?_)
      clear hK K
      refine norm_ (a' := ?_) ?_ ?_
      rotate_left
      · show Act.put _ (some 15) _ = _
        simp only [Act.put, List.setIfInBounds_toArray, List.set_cons_zero, List.set_cons_succ, i64_w, i32_w]
        rfl
      refine pure_ (i := 10) (N := some 16) (v := ?_) (a' := ?_) #[true, true, true, true, true, true, true, true, true, true, true, true, true, false, false, false] rfl rfl (any_of HT_.out (by kernel_rfl)) (fun _ _ _ h => h) (Or.inl ⟨by rfl, ?_⟩) ?_ ?_
      rotate_left
      · intro w'
        go_simp
        with_reducible rfl
      rotate_left
      · simp only [Act.put, List.setIfInBounds_toArray, List.set_cons_zero, List.set_cons_succ, i64_w, i32_w]
        rfl
      refine one_ (i := 13) (N := some 19) #[true, true, true, true, true, true, true, true, true, true, true, true, true, true, false, false] rfl rfl (one_of HT_.out (by kernel_rfl)) (by decide) (fun K hK => ?_)
      refine goes_ Try.func34 (by kernel_rfl) rfl #[.agg #[.int .u64 a0_3, .int .u64 a0_4, .int .u64 a0_5, .int .u64 a0_6]] (by rfl) rfl rfl (by (try simp only [List.map_toArray, List.map_cons, List.map_nil]); first | done | rfl | (simp only [List.length_drop, List.length_take]; rfl)) ?_
      with_reducible refine (vec_Put.calls kj1 a0_3 a0_4 a0_5 a0_6 t125 _ A11.out).mono ?_
      rintro e w17 ⟨rfl, hb⟩
      refine ⟨_, rfl, ?_⟩
      replace BK121 := Kb_ BK121 hb
      replace HB := Ks_ HB hb
      (try clear hb)
      (try clear hb2)
      (try clear hk)
      (try clear hi)
      refine hK.out _ _ (Kc7_ BK121.out) (fun hHeld => ?_)
      clear hK K
      refine norm_ (a' := ?_) ?_ ?_
      rotate_left
      · show Act.put _ (some 19) _ = _
        simp only [Act.put, List.setIfInBounds_toArray, List.set_cons_zero, List.set_cons_succ, i64_w, i32_w]
        rfl
      refine pure_ (i := 14) (N := some 20) (v := ?_) (a' := ?_) #[true, true, true, true, true, true, true, true, true, true, true, true, true, true, true, false] rfl rfl (any_of HT_.out (by kernel_rfl)) (fun _ _ _ h => h) (Or.inl ⟨by rfl, ?_⟩) ?_ ?_
      rotate_left
      · intro w'
        go_simp
        with_reducible rfl
      rotate_left
      · simp only [Act.put, List.setIfInBounds_toArray, List.set_cons_zero, List.set_cons_succ, i64_w, i32_w]
        rfl
      refine pure_ (i := 15) (N := some 2) (v := ?_) (a' := ?_) #[true, true, true, true, true, true, true, true, true, true, true, true, true, true, true, true] rfl rfl (any_of HT_.out (by kernel_rfl)) (fun _ _ _ h => h) (Or.inl ⟨by rfl, ?_⟩) ?_ ?_
      rotate_left
      · intro w'
        go_simp
        with_reducible rfl
      rotate_left
      · simp only [Act.put, List.setIfInBounds_toArray, List.set_cons_zero, List.set_cons_succ, i64_w, i32_w]
        rfl
      refine done_ (done_of HT_.out (by kernel_rfl)) ?_
      try go_wp2
      go_ret
      exact ⟨Kh_, Kz_ HB GE121⟩
/-! ### pack_bad: function 52 -/
def pack_bad.f  : Option (ByteArray × Bool) := some ((⟨#[]⟩ : ByteArray), true)
set_option maxHeartbeats 8000000 in
set_option maxRecDepth 100000 in
theorem pack_bad.calls  (r1 : ByteArray) (r2 : Bool) (w : World) (h : pack_bad.f  = some (r1, r2)) :
    Calls Try.prog 52 #[] w fun e w' => e = .returned (.agg #[.string r1, .bool r2]) ∧ Below w.heap.size w w' := by
  have hu81 := Try.underlying81
  have HB := Aside0.mk (Below.refl w.heap.size w)
  have H : (some ((⟨#[]⟩ : ByteArray), true)) = some (r1, r2) := h
  clear h
  simp only [Option.some.injEq, Prod.mk.injEq] at H
  obtain ⟨rfl, rfl⟩ := H
  go_enter Try.func52, Try.ntmps52
  go_wp2_with (first | ((with_reducible refine gate_dst (N := 0) rfl ?_); refine box_event ?hg (N := 0) ?hd (cs := #[.string (⟨#[]⟩ : ByteArray), .bool false]) (t := 81) ?hr ?_; (case hd => rfl); (case hg => rfl); (case hr => first | (go_simp; done) | (go_simp; rfl)); intro gb126 hg w1 hbox hb; have BK126 := Aside0.mk (hbox); have GW126 := Kw_ HB hg; have GE126 := GW126; replace HB := Ks_ HB hb; clear hb hbox hg; obtain ⟨hcz2_0, hcz2_1, hfz2_0, hfz2_1⟩ := Ke2_ BK126.out))
  refine bodyPost_ret (results_cell_row rfl _ _ gb126 81 #[.string (⟨#[]⟩ : ByteArray), .bool true] (0, 0) _ rfl (by refine Kv_ ?_; refine blk_put (cs := #[.string (⟨#[]⟩ : ByteArray), .bool false]) ?_ 1 _ rfl; refine Kv_ ?_; refine blk_put (cs := #[.string (⟨#[]⟩ : ByteArray), .bool false]) ?_ 0 _ rfl; exact Kq_ BK126) Try.underlying81 rfl (by kernel_rfl)) rfl ?_
  exact ⟨Kh_, Kz_ HB GE126⟩
/-! ### pack_Reader_Vary: function 51 -/
def pack_Reader_Vary.l0 : Nat → Int → Int → Int → ByteArray → Bool → Option (Int × ByteArray × Bool)
  | 0, _, _, _, _, _ => none
  | k + 1, x4, x13, x14, x128000, x128001 => if x14 < x13 then (if 0 ≤ x14 then (if x14 < (x128000.size : Int) then (if 0 ≤ (wrap64 (7 * x14)) then (if (bt x128000 x14) ≥ 128 then (pack_Reader_Vary.l0 k (Go.bits .or .u64 x4 (shl .u64 (IntKind.u64.wrap (Go.bits .and .u8 (bt x128000 x14) 127)) (wrap64 (7 * x14)))) x13 (wrap64 (x14 + 1)) x128000 x128001) else (if 0 ≤ (wrap64 (x14 + 1)) then (if (wrap64 (x14 + 1)) ≤ (x128000.size : Int) then ((pack_Vary.f k (Go.bits .or .u64 x4 (shl .u64 (IntKind.u64.wrap (Go.bits .and .u8 (bt x128000 x14) 127)) (wrap64 (7 * x14))))).bind fun t133 => (if (x128000.extract 0 ((wrap64 (x14 + 1)) : Int).toNat).toList = t133.toList then (some (Go.bits .or .u64 x4 (shl .u64 (IntKind.u64.wrap (Go.bits .and .u8 (bt x128000 x14) 127)) (wrap64 (7 * x14))), x128000.extract ((wrap64 (x14 + 1)) : Int).toNat x128000.size, false)) else ((pack_bad.f).bind fun bt134 => (some (0, bt134.1, bt134.2))))) else (none)) else (none))) else (none)) else (none)) else (none)) else ((pack_bad.f).bind fun bt131 => (some (0, bt131.1, bt131.2)))
def pack_Reader_Vary.f (k : Nat) (a0_0 : ByteArray) (a0_1 : Bool) : Option (Int × ByteArray × Bool) := if a0_1 = true then ((pack_bad.f).bind fun bt129 => (some (0, bt129.1, bt129.2))) else (pack_Reader_Vary.l0 k 0 (mn (a0_0.size : Int) 10) 0 a0_0 a0_1)
theorem pack_Reader_Vary.mono_l : ∀ k, (∀ y0 y1 y2 y3 y4, LeO (pack_Reader_Vary.l0 k y0 y1 y2 y3 y4) (pack_Reader_Vary.l0 (k + 1) y0 y1 y2 y3 y4))
  | 0 => fun _ _ _ _ _ r h => by simp [pack_Reader_Vary.l0] at h
  | k + 1 => by
    have ih0 := pack_Reader_Vary.mono_l k
    · intro y0 y1 y2 y3 y4
      unfold pack_Reader_Vary.l0
      repeat' first
      | (with_reducible exact ih0 _ _ _ _ _)
      | (with_reducible exact pack_Vary.mono _ _)
      | (with_reducible exact LeO.refl _)
      | (with_reducible exact LeO.none _)
      | (with_reducible refine LeO.ite ?_ ?_)
      | (with_reducible refine LeO.bind ?_ (fun _ => ?_))
      | exact ih0 _ _ _ _ _
      | exact pack_Vary.mono _ _
      | exact LeO.none _
      | refine LeO.ite ?_ ?_
      | refine LeO.bind ?_ (fun _ => ?_)
theorem pack_Reader_Vary.mono : ∀ a0 a1 k, LeO (pack_Reader_Vary.f k a0 a1) (pack_Reader_Vary.f (k + 1) a0 a1) := by
  intro a0 a1 k
  have ih0 := pack_Reader_Vary.mono_l k
  unfold pack_Reader_Vary.f
  repeat' first
      | (with_reducible exact ih0 _ _ _ _ _)
      | (with_reducible exact pack_Vary.mono _ _)
      | (with_reducible exact LeO.refl _)
      | (with_reducible exact LeO.none _)
      | (with_reducible refine LeO.ite ?_ ?_)
      | (with_reducible refine LeO.bind ?_ (fun _ => ?_))
      | exact ih0 _ _ _ _ _
      | exact pack_Vary.mono _ _
      | exact LeO.none _
      | refine LeO.ite ?_ ?_
      | refine LeO.bind ?_ (fun _ => ?_)
def pack_Reader_Vary.T10 : Bool × List (List Nat × List Nat) := (true, [([], []), ([0], [0]), ([], []), ([2], [2]), ([1, 3], [1, 3]), ([], []), ([5], [5]), ([4, 6], [4, 6])])
def pack_Reader_Vary.B10 : List Nat := [0, 1, 0, 4, 15, 0, 32, 127]
theorem pack_Reader_Vary.tab10 : rtab .any (opsOf Try.f51 10) = pack_Reader_Vary.T10 := by kernel_rfl
theorem pack_Reader_Vary.bits10 : waitsOk pack_Reader_Vary.T10.2 pack_Reader_Vary.B10 = true := by kernel_rfl
def pack_Reader_Vary.T11 : Bool × List (List Nat × List Nat) := (true, [([], []), ([], []), ([1], [1]), ([], []), ([3], [3]), ([2, 4], [2, 4]), ([5], [5]), ([0, 0], [0]), ([6, 7, 0, 1, 2, 3, 4, 5, 6, 7], [6])])
def pack_Reader_Vary.B11 : List Nat := [0, 0, 2, 0, 8, 30, 62, 1, 255]
theorem pack_Reader_Vary.tab11 : rtab .any (opsOf Try.f51 11) = pack_Reader_Vary.T11 := by kernel_rfl
theorem pack_Reader_Vary.bits11 : waitsOk pack_Reader_Vary.T11.2 pack_Reader_Vary.B11 = true := by kernel_rfl
set_option maxHeartbeats 8000000 in
set_option maxRecDepth 100000 in
theorem pack_Reader_Vary.calls (k : Nat) (a0_0 : ByteArray) (a0_1 : Bool) (r1 : Int) (r2 : ByteArray) (r3 : Bool) (w : World) (h : pack_Reader_Vary.f k a0_0 a0_1 = some (r1, r2, r3)) :
    Calls Try.prog 51 #[.agg #[.string a0_0, .bool a0_1]] w fun e w' => e = .returned (.tuple #[.int .u64 r1, .agg #[.string r2, .bool r3]]) ∧ Below w.heap.size w w' := by
  have hu81 := Try.underlying81
  have HB := Aside0.mk (Below.refl w.heap.size w)
  have H : (if a0_1 = true then ((pack_bad.f).bind fun bt129 => (some (0, bt129.1, bt129.2))) else (pack_Reader_Vary.l0 k 0 (mn (a0_0.size : Int) 10) 0 a0_0 a0_1)) = some (r1, r2, r3) := h
  clear h
  by_cases c2 : a0_1 = true
  · subst c2
    have H1 : ((pack_bad.f).bind fun bt129 => (some (0, bt129.1, bt129.2))) = some (r1, r2, r3) := by rw [if_pos rfl] at H; exact H
    clear H
    have H := H1
    clear H1
    replace H := Option.bind_eq_some_iff.mp H
    obtain ⟨⟨t129, t130⟩, A30, H⟩ := H
    replace H : (some (0, t129, t130)) = some (r1, r2, r3) := H
    have A3 := Aside0.mk A30
    clear A30
    simp only [Option.some.injEq, Prod.mk.injEq] at H
    obtain ⟨rfl, rfl, rfl⟩ := H
    go_enter Try.func51, Try.ntmps51
    go_wp2_with (first | ((with_reducible refine gate_dst (N := 1) rfl ?_); refine box_event ?hg (N := 1) ?hd (cs := #[.string a0_0, .bool true]) (t := 81) ?hr ?_; (case hd => rfl); (case hg => rfl); (case hr => first | (go_simp; done) | (go_simp; rfl)); intro gb127 hg w4 hbox hb; have BK127 := Aside0.mk (hbox); have GW127 := Kw_ HB hg; have GE127 := GW127; replace HB := Ks_ HB hb; clear hb hbox hg) | ((with_reducible refine gate_dst (N := 3) rfl ?_); refine box_event ?hg (N := 3) ?hd (cs := #[.string (⟨#[]⟩ : ByteArray), .bool false]) (t := 81) ?hr ?_; (case hd => rfl); (case hg => rfl); (case hr => first | (go_simp; done) | (go_simp; rfl)); intro gb128 hg w5 hbox hb; have BK128 := Aside0.mk (hbox); have GW128 := Kw_ HB hg; have GE128 := GW128; have NB127_128 := Kl_ BK127 hg; have NB128_127 := Kr_ BK127 hg; replace BK127 := Kb_ BK127 hb; replace HB := Ks_ HB hb; clear hb hbox hg; have hnb6 := NB127_128.out; have hnc6 := NB128_127.out; obtain ⟨hcz7_0, hcz7_1, hfz7_0, hfz7_1⟩ := Ke2_ BK127.out) | ((with_reducible refine gate_callee (f := 52) rfl ?_); refine Kg_ (some 9) rfl rfl Try.func52 (by kernel_rfl) rfl #[] rfl ?_; (with_reducible refine (pack_bad.calls  t129 t130 _ A3.out).mono ?_); rintro e w8 ⟨rfl, hb⟩; refine ⟨_, rfl, ?_⟩; replace BK127 := Kb_ BK127 hb; replace BK128 := Kb_ BK128 hb; replace HB := Ks_ HB hb; (try clear hb); (try clear hb2); (try clear hk); (try clear hi); obtain ⟨hcz9_0, hcz9_1, hfz9_0, hfz9_1⟩ := Ke2_ BK128.out))
    refine bodyPost_ret (results_tc rfl _ _ gb128 81 #[.string t129, .bool t130] (0, 0) _ rfl (by refine Kv_ ?_; refine blk_put (cs := #[.string t129, .bool false]) ?_ 1 _ rfl; refine Kv_ ?_; refine blk_put (cs := #[.string (⟨#[]⟩ : ByteArray), .bool false]) ?_ 0 _ rfl; exact Kq_ BK128) Try.underlying81 rfl (by kernel_rfl)) rfl ?_
    exact ⟨Kh_, by repeat (first | (with_reducible first | exact HB.out | apply below_alloc | apply pw_below_drewN | apply below_drew1 | refine below_set ?_ GE127.out | refine below_set ?_ GE128.out) | exact HB.out)⟩
  replace c2 := Bool.eq_false_iff.mpr c2
  subst c2
  have H1 : (pack_Reader_Vary.l0 k 0 (mn (a0_0.size : Int) 10) 0 a0_0 false) = some (r1, r2, r3) := by rw [if_neg (show ¬ (false = true) by decide)] at H; exact H
  clear H
  have H := H1
  clear H1
  obtain ⟨ji10, hji10⟩ : ∃ j_ : Int, (mn (a0_0.size : Int) 10) = j_ := ⟨_, rfl⟩
  replace H : (pack_Reader_Vary.l0 k 0 ji10 0 a0_0 false) = some (r1, r2, r3) := by first | (rw [hji10] at H; exact H) | (simp only [hji10] at H ⊢; exact H)
  (try (have hji10h : ji10 ≤ 10 := by (rw [← hji10]; unfold mn; (repeat' split) <;> omega)))
  (try (have hji10g : ji10 ≤ 64 := by omega))
  (try (have hji10l : 0 ≤ ji10 := by (rw [← hji10]; unfold mn; (repeat' split) <;> omega)))
  (try (have hji10m : 0 ≤ ji10 := by omega))
  have hji10_ : (if 10 < (a0_0.size : Int) then 10 else (a0_0.size : Int)) = ji10 := hji10
  have H' := Aside0.mk H
  clear H
  go_enter Try.func51, Try.ntmps51
  go_wp2_with (first | ((with_reducible refine gate_dst (N := 1) rfl ?_); refine box_event ?hg (N := 1) ?hd (cs := #[.string a0_0, .bool false]) (t := 81) ?hr ?_; (case hd => rfl); (case hg => rfl); (case hr => first | (go_simp; done) | (go_simp; rfl)); intro gb127 hg w11 hbox hb; have BK127 := Aside0.mk (hbox); have GW127 := Kw_ HB hg; have GE127 := GW127; replace HB := Ks_ HB hb; clear hb hbox hg) | ((with_reducible refine gate_dst (N := 3) rfl ?_); refine box_event ?hg (N := 3) ?hd (cs := #[.string (⟨#[]⟩ : ByteArray), .bool false]) (t := 81) ?hr ?_; (case hd => rfl); (case hg => rfl); (case hr => first | (go_simp; done) | (go_simp; rfl)); intro gb128 hg w12 hbox hb; have BK128 := Aside0.mk (hbox); have GW128 := Kw_ HB hg; have GE128 := GW128; have NB127_128 := Kl_ BK127 hg; have NB128_127 := Kr_ BK127 hg; replace BK127 := Kb_ BK127 hb; replace HB := Ks_ HB hb; clear hb hbox hg; have hnb13 := NB127_128.out; have hnc13 := NB128_127.out; obtain ⟨hcz14_0, hcz14_1, hfz14_0, hfz14_1⟩ := Ke2_ BK127.out))
  go_loopg [4, 14] k (fun kq v4 v14 w' => ∃ (x4_1 : Int) (x14_1 : Int) (x129000_1 : ByteArray) (x129001_1 : Bool), v4 = .int .u64 x4_1 ∧ v14 = .int .i64 x14_1 ∧ Aside0 (pack_Reader_Vary.l0 kq x4_1 ji10 x14_1 a0_0 false = some (r1, r2, r3)) ∧ Aside0 (kq ≤ k) ∧ Aside0 (w'.heap[gb127]? = some (.cells #[.string a0_0, .bool false] 81 (0, 0))) ∧ Aside0 (w'.heap[gb128]? = some (.cells #[.string x129000_1, .bool x129001_1] 81 (0, 0))) ∧ Aside0 (Below w.heap.size w w'))
  case atStart => exact ⟨(0), (0), ((⟨#[]⟩ : ByteArray)), (false), (by first | rfl | (simp; done) | (simp [*]; done)), (by first | rfl | (simp; done) | (simp [*]; done)), H', ⟨Nat.le_refl _⟩, ⟨by exact Kq_ BK127⟩, ⟨by exact Kq_ BK128⟩, ⟨by repeat (first | (with_reducible first | exact HB.out | apply below_alloc | apply pw_below_drewN | apply below_drew1 | refine below_set ?_ GE127.out | refine below_set ?_ GE128.out) | exact HB.out)⟩⟩
  case round =>
    clear H'
    try clear c1
    try clear c2
    try clear p2
    try clear c5
    try clear c6
    try clear c13
    try clear hcz14_0
    try clear hcz14_1
    try clear hcz7_0
    try clear hcz7_1
    try clear hcz9_0
    try clear hcz9_1
    try clear hfz14_0
    try clear hfz14_1
    try clear hfz7_0
    try clear hfz7_1
    try clear hfz9_0
    try clear hfz9_1
    obtain ⟨x4_1, x14_1, x129000_1, x129001_1, rfl, rfl, HA, HK1, BK127, BK128, HB⟩ := hrel
    cases gk with
    | zero => exact absurd HA.out (by simp [pack_Reader_Vary.l0])
    | succ k1 =>
      have H := HA.out
      clear HA
      simp only [pack_Reader_Vary.l0] at H
      by_cases c15 : x14_1 < ji10
      rotate_left
      · rw [if_neg c15] at H
        have c15b0 : decide (x14_1 < ji10) = false := decide_eq_false c15
        clear c15
        replace H := Option.bind_eq_some_iff.mp H
        obtain ⟨⟨t131, t132⟩, A460, H⟩ := H
        replace H : (some (0, t131, t132)) = some (r1, r2, r3) := H
        have A46 := Aside0.mk A460
        clear A460
        simp only [Option.some.injEq, Prod.mk.injEq] at H
        obtain ⟨rfl, rfl, rfl⟩ := H
        go_wp2_with (first | ((with_reducible refine gate_callee (f := 52) rfl ?_); refine Kg_ (some 47) rfl rfl Try.func52 (by kernel_rfl) rfl #[] rfl ?_; (with_reducible refine (pack_bad.calls  t131 t132 _ A46.out).mono ?_); rintro e w47 ⟨rfl, hb⟩; refine ⟨_, rfl, ?_⟩; replace BK127 := Kb_ BK127 hb; replace BK128 := Kb_ BK128 hb; replace HB := Ks_ HB hb; (try clear hb); (try clear hb2); (try clear hk); (try clear hi); have hnb48 := NB128_127.out; have hnc48 := NB127_128.out; obtain ⟨hcz49_0, hcz49_1, hfz49_0, hfz49_1⟩ := Ke2_ BK128.out))
        refine bodyPost_ret (results_tc rfl _ _ gb128 81 #[.string t131, .bool t132] (0, 0) _ rfl (by refine Kv_ ?_; refine blk_put (cs := #[.string t131, .bool x129001_1]) ?_ 1 _ rfl; refine Kv_ ?_; refine blk_put (cs := #[.string x129000_1, .bool x129001_1]) ?_ 0 _ rfl; exact Kq_ BK128) Try.underlying81 rfl (by kernel_rfl)) rfl ?_
        exact ⟨by first | rfl | (simp [errW_none, errW_some] <;> rfl) | (simp only [← hji10]; first | rfl | (simp [errW_none, errW_some] <;> rfl)) | (simp [*, errW_none, errW_some] <;> rfl), by repeat (first | (with_reducible first | exact HB.out | apply below_alloc | apply pw_below_drewN | apply below_drew1 | refine below_set ?_ GE127.out | refine below_set ?_ GE128.out) | exact HB.out)⟩
      rw [if_pos c15] at H
      have c15b0 : decide (x14_1 < ji10) = true := decide_eq_true c15
      clear c15
      by_cases c16 : 0 ≤ x14_1
      rotate_left
      · rw [if_neg c16] at H
        exact absurd H (by simp)
      rw [if_pos c16] at H
      have c16b0 : decide (0 ≤ x14_1) = true := decide_eq_true c16
      clear c16
      by_cases c17 : x14_1 < (a0_0.size : Int)
      rotate_left
      · rw [if_neg c17] at H
        exact absurd H (by simp)
      rw [if_pos c17] at H
      have c17b0 : decide (x14_1 < (a0_0.size : Int)) = true := decide_eq_true c17
      clear c17
      obtain ⟨ji19, hji19⟩ : ∃ j_ : Int, (wrap64 (7 * x14_1)) = j_ := ⟨_, rfl⟩
      replace H : (if 0 ≤ (ji19) then (if (bt a0_0 x14_1) ≥ 128 then (pack_Reader_Vary.l0 k1 (Go.bits .or .u64 x4_1 (shl .u64 (IntKind.u64.wrap (Go.bits .and .u8 (bt a0_0 x14_1) 127)) (ji19))) ji10 (wrap64 (x14_1 + 1)) a0_0 false) else (if 0 ≤ (wrap64 (x14_1 + 1)) then (if (wrap64 (x14_1 + 1)) ≤ (a0_0.size : Int) then ((pack_Vary.f k1 (Go.bits .or .u64 x4_1 (shl .u64 (IntKind.u64.wrap (Go.bits .and .u8 (bt a0_0 x14_1) 127)) (ji19)))).bind fun t133 => (if (a0_0.extract 0 ((wrap64 (x14_1 + 1)) : Int).toNat).toList = t133.toList then (some (Go.bits .or .u64 x4_1 (shl .u64 (IntKind.u64.wrap (Go.bits .and .u8 (bt a0_0 x14_1) 127)) (ji19)), a0_0.extract ((wrap64 (x14_1 + 1)) : Int).toNat a0_0.size, false)) else ((pack_bad.f).bind fun bt134 => (some (0, bt134.1, bt134.2))))) else (none)) else (none))) else (none)) = some (r1, r2, r3) := by first | (rw [hji19] at H; exact H) | (simp only [hji19] at H ⊢; exact H)
      have hji19w : (IntKind.i64.wrap (7 * x14_1)) = ji19 := (i64_w _).trans hji19
      by_cases c20 : 0 ≤ (ji19)
      rotate_left
      · rw [if_neg c20] at H
        exact absurd H (by simp)
      rw [if_pos c20] at H
      have c20b0 := eq_true c20
      have c20b1 : decide (0 ≤ (ji19)) = true := decide_eq_true c20
      clear c20
      obtain ⟨ji21, hji21⟩ : ∃ j_ : Int, (shl .u64 (IntKind.u64.wrap (Go.bits .and .u8 (bt a0_0 x14_1) 127)) (ji19)) = j_ := ⟨_, rfl⟩
      replace H : (if (bt a0_0 x14_1) ≥ 128 then (pack_Reader_Vary.l0 k1 (Go.bits .or .u64 x4_1 (ji21)) ji10 (wrap64 (x14_1 + 1)) a0_0 false) else (if 0 ≤ (wrap64 (x14_1 + 1)) then (if (wrap64 (x14_1 + 1)) ≤ (a0_0.size : Int) then ((pack_Vary.f k1 (Go.bits .or .u64 x4_1 (ji21))).bind fun t133 => (if (a0_0.extract 0 ((wrap64 (x14_1 + 1)) : Int).toNat).toList = t133.toList then (some (Go.bits .or .u64 x4_1 (ji21), a0_0.extract ((wrap64 (x14_1 + 1)) : Int).toNat a0_0.size, false)) else ((pack_bad.f).bind fun bt134 => (some (0, bt134.1, bt134.2))))) else (none)) else (none))) = some (r1, r2, r3) := by first | (rw [hji21] at H; exact H) | (simp only [hji21] at H ⊢; exact H)
      have hji21_ : (IntKind.u64.wrap ((IntKind.u64.wrap (Go.bits .and .u8 (bt a0_0 x14_1) 127)) * 2 ^ min (ji19).toNat 64)) = ji21 := hji21
      have hji21z : (ji19) ≤ 64 → (IntKind.u64.wrap ((IntKind.u64.wrap (Go.bits .and .u8 (bt a0_0 x14_1) 127)) * 2 ^ (ji19).toNat)) = ji21 := shl_small hji21
      by_cases c22 : (bt a0_0 x14_1) ≥ 128
      · rw [if_pos c22] at H
        have c22b0 : decide (128 ≤ (bt a0_0 x14_1)) = true := decide_eq_true c22
        clear c22
        have H' := Aside0.mk H
        clear H
        have hnb23 := NB127_128.out
        have hnc23 := NB128_127.out
        obtain ⟨hcz24_0, hcz24_1, hfz24_0, hfz24_1⟩ := Ke2_ BK127.out
        have p18 : 0 ≤ (x14_1 : Int) := of_decide_eq_true (by first | (with_reducible assumption) | assumption)
        have q18 : x14_1 < (a0_0.size : Int) := of_decide_eq_true (by first | (with_reducible assumption) | assumption)
        have hx18 := bt_at a0_0 x14_1
        replace p18 := eq_true p18
        replace q18 := eq_true q18
        go_wp2
        go_roundg k1
        case measure => have := HK1.out; omega
        case rel => exact ⟨(Go.bits .or .u64 x4_1 (ji21)), (wrap64 (x14_1 + 1)), (x129000_1), (x129001_1), (by first | rfl | (simp; done) | (simp only [← hji21] <;> (first | rfl | simp)) | (simp [*]; done)), (by first | rfl | (simp; done) | (simp [*]; done)), H', ⟨by have := HK1.out; omega⟩, ⟨by exact Kq_ BK127⟩, ⟨by exact Kq_ BK128⟩, ⟨by repeat (first | (with_reducible first | exact HB.out | apply below_alloc | apply pw_below_drewN | apply below_drew1 | refine below_set ?_ GE127.out | refine below_set ?_ GE128.out) | exact HB.out)⟩⟩
      rw [if_neg c22] at H
      have c22b0 : decide (128 ≤ (bt a0_0 x14_1)) = false := decide_eq_false c22
      clear c22
      obtain ⟨ji25, hji25⟩ : ∃ j_ : Int, (wrap64 (x14_1 + 1)) = j_ := ⟨_, rfl⟩
      replace H : (if 0 ≤ (ji25) then (if (ji25) ≤ (a0_0.size : Int) then ((pack_Vary.f k1 (Go.bits .or .u64 x4_1 (ji21))).bind fun t133 => (if (a0_0.extract 0 ((ji25) : Int).toNat).toList = t133.toList then (some (Go.bits .or .u64 x4_1 (ji21), a0_0.extract ((ji25) : Int).toNat a0_0.size, false)) else ((pack_bad.f).bind fun bt134 => (some (0, bt134.1, bt134.2))))) else (none)) else (none)) = some (r1, r2, r3) := by first | (rw [hji25] at H; exact H) | (simp only [hji25] at H ⊢; exact H)
      have hji25w : (IntKind.i64.wrap (x14_1 + 1)) = ji25 := (i64_w _).trans hji25
      by_cases c26 : 0 ≤ (ji25)
      rotate_left
      · rw [if_neg c26] at H
        exact absurd H (by simp)
      rw [if_pos c26] at H
      have c26b0 := eq_true c26
      have c26b1 : decide (0 ≤ (ji25)) = true := decide_eq_true c26
      clear c26
      by_cases c27 : (ji25) ≤ (a0_0.size : Int)
      rotate_left
      · rw [if_neg c27] at H
        exact absurd H (by simp)
      rw [if_pos c27] at H
      have c27b0 := eq_true c27
      have c27b1 : decide ((ji25) ≤ (a0_0.size : Int)) = true := decide_eq_true c27
      clear c27
      replace H := Option.bind_eq_some_iff.mp H
      obtain ⟨t133, A280, H⟩ := H
      replace H : (if (a0_0.extract 0 ((ji25) : Int).toNat).toList = t133.toList then (some (Go.bits .or .u64 x4_1 (ji21), a0_0.extract ((ji25) : Int).toNat a0_0.size, false)) else ((pack_bad.f).bind fun bt134 => (some (0, bt134.1, bt134.2)))) = some (r1, r2, r3) := H
      have A28 := Aside0.mk A280
      clear A280
      by_cases c29 : (a0_0.extract 0 ((ji25) : Int).toNat).toList = t133.toList
      rotate_left
      · rw [if_neg c29] at H
        have c29b0 : ((a0_0.extract 0 ((ji25) : Int).toNat).toList == t133.toList) = false := beq_eq_false_iff_ne.mpr c29
        have c29b1 : ((a0_0.extract 0 ((ji25) : Int).toNat).toList != t133.toList) = true := bne_iff_ne.mpr c29
        replace H := Option.bind_eq_some_iff.mp H
        obtain ⟨⟨t134, t135⟩, A390, H⟩ := H
        replace H : (some (0, t134, t135)) = some (r1, r2, r3) := H
        have A39 := Aside0.mk A390
        clear A390
        simp only [Option.some.injEq, Prod.mk.injEq] at H
        obtain ⟨rfl, rfl, rfl⟩ := H
        have hnb40 := NB127_128.out
        have hnc40 := NB128_127.out
        obtain ⟨hcz41_0, hcz41_1, hfz41_0, hfz41_1⟩ := Ke2_ BK127.out
        have p18 : 0 ≤ (x14_1 : Int) := of_decide_eq_true (by first | (with_reducible assumption) | assumption)
        have q18 : x14_1 < (a0_0.size : Int) := of_decide_eq_true (by first | (with_reducible assumption) | assumption)
        have hx18 := bt_at a0_0 x14_1
        replace p18 := eq_true p18
        replace q18 := eq_true q18
        try go_wp2
        replace BK127 := Kd_ BK127
        replace BK128 := Kd_ BK128
        replace HB := Aside0.mk (below_drew1 HB.out)
        refine start_ (n := 8) (S := fun w' => w'.cell? ⟨gb127, 0, none⟩ = some (.string a0_0) ∧ w'.cell? ⟨gb127, 1, none⟩ = some (.bool false)) (ds := []) #[false, false, false, false, false, false, false, false] (by kernel_rfl) rfl rfl (Kc2_ BK127.out) (fun hHeld => ?_); refine with_tabW pack_Reader_Vary.tab10 pack_Reader_Vary.bits10 (fun HT_ HW_ => ?_)
        generalize wr.drew = w42 at BK127 BK128 HB hHeld ⊢
        refine pure_ (i := 0) (N := some 31) (v := ?_) (a' := ?_) #[true, false, false, false, false, false, false, false] rfl rfl (any_of HT_.out (by kernel_rfl)) (fun _ _ _ h => h) (Or.inl ⟨by rfl, ?_⟩) ?_ ?_
        rotate_left
        · intro w'
          go_simp
          with_reducible rfl
        rotate_left
        · simp only [Act.put, List.setIfInBounds_toArray, List.set_cons_zero, List.set_cons_succ, i64_w, i32_w]
          rfl
        refine pure_ (i := 2) (N := some 33) (v := ?_) (a' := ?_) #[true, false, true, false, false, false, false, false] rfl rfl (any_of HT_.out (by kernel_rfl)) (fun _ _ _ h => h) (Or.inl ⟨by rfl, ?_⟩) ?_ ?_
        rotate_left
        · intro w'
          go_simp
          with_reducible rfl
        rotate_left
        · simp only [Act.put, List.setIfInBounds_toArray, List.set_cons_zero, List.set_cons_succ, i64_w, i32_w]
          rfl
        refine pure_ (i := 3) (N := some 34) (v := ?_) (a' := ?_) #[true, false, true, true, false, false, false, false] rfl rfl (any_of HT_.out (by kernel_rfl)) (fun _ _ _ h => h) (Or.inl ⟨by rfl, ?_⟩) ?_ ?_
        rotate_left
        · intro w'
          go_simp
          with_reducible rfl
        rotate_left
        · simp only [Act.put, List.setIfInBounds_toArray, List.set_cons_zero, List.set_cons_succ, i64_w, i32_w]
          rfl
        refine pure_ (i := 5) (N := some 36) (v := ?_) (a' := ?_) #[true, false, true, true, false, true, false, false] rfl rfl (any_of HT_.out (by kernel_rfl)) (fun _ _ _ h => h) (Or.inl ⟨by rfl, ?_⟩) ?_ ?_
        rotate_left
        · intro w'
          go_simp
          with_reducible rfl
        rotate_left
        · simp only [Act.put, List.setIfInBounds_toArray, List.set_cons_zero, List.set_cons_succ, i64_w, i32_w]
          rfl
        refine take_ (i := 1) (N := some 32) (v := ?_) (a' := ?_) #[true, true, true, true, false, true, false, false] rfl rfl (take_ofW HT_.out HW_.out (by kernel_rfl)) (fun _ _ _ h => h) (Or.inl ⟨by rfl, ?_⟩) hHeld ?_ ?_
        rotate_left
        · rintro w' ⟨s0, s1⟩
          go_simp
          with_reducible rfl
        rotate_left
        · simp only [Act.put, List.setIfInBounds_toArray, List.set_cons_zero, List.set_cons_succ, i64_w, i32_w]
          rfl
        refine pure_ (i := 4) (N := some 35) (v := ?_) (a' := ?_) #[true, true, true, true, true, true, false, false] rfl rfl (any_of HT_.out (by kernel_rfl)) (fun _ _ _ h => h) (Or.inl ⟨by rfl, ?_⟩) ?_ ?_
        rotate_left
        · intro w'
          go_simp
          with_reducible rfl
        rotate_left
        · simp only [Act.put, List.setIfInBounds_toArray, List.set_cons_zero, List.set_cons_succ, i64_w, i32_w]
          rfl
        refine one_ (i := 6) (N := some 37) #[true, true, true, true, true, true, true, false] rfl rfl (one_of HT_.out (by kernel_rfl)) (by decide) (fun K hK => ?_)
        refine goes_ Try.func45 (by kernel_rfl) rfl #[.int .u64 (Go.bits .or .u64 x4_1 (ji21))] (by rfl) rfl rfl (by (try simp only [List.map_toArray, List.map_cons, List.map_nil]); first | done | (simp only [hji21]; rfl) | rfl | (simp only [List.length_drop, List.length_take]; rfl)) ?_
        with_reducible refine (pack_Vary.calls k1 (Go.bits .or .u64 x4_1 (ji21)) t133 _ A28.out).mono ?_
        rintro e w43 ⟨rfl, hb⟩
        refine ⟨_, rfl, ?_⟩
        replace BK127 := Kb_ BK127 hb
        replace BK128 := Kb_ BK128 hb
        replace HB := Ks_ HB hb
        (try clear hb)
        (try clear hb2)
        (try clear hk)
        (try clear hi)
        refine hK.out _ _ (Kc2_ BK127.out) (fun hHeld => ?_)
        clear hK K
        refine norm_ (a' := ?_) ?_ ?_
        rotate_left
        · show Act.put _ (some 37) _ = _
          simp only [Act.put, List.setIfInBounds_toArray, List.set_cons_zero, List.set_cons_succ, i64_w, i32_w]
          rfl
        refine pure_ (i := 7) (N := some 38) (v := ?_) (a' := ?_) #[true, true, true, true, true, true, true, true] rfl rfl (any_of HT_.out (by kernel_rfl)) (fun _ _ _ h => h) (Or.inl ⟨by rfl, ?_⟩) ?_ ?_
        rotate_left
        · intro w'
          go_simp
          with_reducible rfl
        rotate_left
        · simp only [Act.put, List.setIfInBounds_toArray, List.set_cons_zero, List.set_cons_succ, i64_w, i32_w]
          rfl
        refine done_ (done_of HT_.out (by kernel_rfl)) ?_
        try go_wp2_with (first | ((with_reducible refine gate_callee (f := 52) rfl ?_); refine Kg_ (some 47) rfl rfl Try.func52 (by kernel_rfl) rfl #[] rfl ?_; (with_reducible refine (pack_bad.calls  t134 t135 _ A39.out).mono ?_); rintro e w44 ⟨rfl, hb⟩; refine ⟨_, rfl, ?_⟩; replace BK127 := Kb_ BK127 hb; replace BK128 := Kb_ BK128 hb; replace HB := Ks_ HB hb; (try clear hb); (try clear hb2); (try clear hk); (try clear hi); obtain ⟨hcz45_0, hcz45_1, hfz45_0, hfz45_1⟩ := Ke2_ BK128.out))
        refine bodyPost_ret (results_tc rfl _ _ gb128 81 #[.string t134, .bool t135] (0, 0) _ rfl (by refine Kv_ ?_; refine blk_put (cs := #[.string t134, .bool x129001_1]) ?_ 1 _ rfl; refine Kv_ ?_; refine blk_put (cs := #[.string x129000_1, .bool x129001_1]) ?_ 0 _ rfl; exact Kq_ BK128) Try.underlying81 rfl (by kernel_rfl)) rfl ?_
        exact ⟨by first | rfl | (simp [errW_none, errW_some] <;> rfl) | (simp only [← hji10, ← hji19, ← hji21, ← hji25]; first | rfl | (simp [errW_none, errW_some] <;> rfl)) | (simp [*, errW_none, errW_some] <;> rfl), by repeat (first | (with_reducible first | exact HB.out | apply below_alloc | apply pw_below_drewN | apply below_drew1 | refine below_set ?_ GE127.out | refine below_set ?_ GE128.out) | exact HB.out)⟩
      rw [if_pos c29] at H
      have c29b0 : ((a0_0.extract 0 ((ji25) : Int).toNat).toList == t133.toList) = true := beq_iff_eq.mpr c29
      have c29b1 : ((a0_0.extract 0 ((ji25) : Int).toNat).toList != t133.toList) = false := bne_eq_false_iff_eq.mpr c29
      clear c29
      have c30b0 := eq_true (of_decide_eq_true (by first | (with_reducible assumption) | assumption) : 0 ≤ (ji25))
      have c31b0 := eq_true (of_decide_eq_true (by first | (with_reducible assumption) | assumption) : (ji25) ≤ (a0_0.size : Int))
      simp only [Option.some.injEq, Prod.mk.injEq] at H
      obtain ⟨rfl, rfl, rfl⟩ := H
      have hnb32 := NB127_128.out
      have hnc32 := NB128_127.out
      obtain ⟨hcz33_0, hcz33_1, hfz33_0, hfz33_1⟩ := Ke2_ BK127.out
      have p18 : 0 ≤ (x14_1 : Int) := of_decide_eq_true (by first | (with_reducible assumption) | assumption)
      have q18 : x14_1 < (a0_0.size : Int) := of_decide_eq_true (by first | (with_reducible assumption) | assumption)
      have hx18 := bt_at a0_0 x14_1
      replace p18 := eq_true p18
      replace q18 := eq_true q18
      try go_wp2
      replace BK127 := Kd_ BK127
      replace BK128 := Kd_ BK128
      replace HB := Aside0.mk (below_drew1 HB.out)
      refine start_ (n := 8) (S := fun w' => w'.cell? ⟨gb127, 0, none⟩ = some (.string a0_0) ∧ w'.cell? ⟨gb127, 1, none⟩ = some (.bool false)) (ds := []) #[false, false, false, false, false, false, false, false] (by kernel_rfl) rfl rfl (Kc2_ BK127.out) (fun hHeld => ?_); refine with_tabW pack_Reader_Vary.tab10 pack_Reader_Vary.bits10 (fun HT_ HW_ => ?_)
      generalize wr.drew = w34 at BK127 BK128 HB hHeld ⊢
      refine pure_ (i := 0) (N := some 31) (v := ?_) (a' := ?_) #[true, false, false, false, false, false, false, false] rfl rfl (any_of HT_.out (by kernel_rfl)) (fun _ _ _ h => h) (Or.inl ⟨by rfl, ?_⟩) ?_ ?_
      rotate_left
      · intro w'
        go_simp
        with_reducible rfl
      rotate_left
      · simp only [Act.put, List.setIfInBounds_toArray, List.set_cons_zero, List.set_cons_succ, i64_w, i32_w]
        rfl
      refine pure_ (i := 2) (N := some 33) (v := ?_) (a' := ?_) #[true, false, true, false, false, false, false, false] rfl rfl (any_of HT_.out (by kernel_rfl)) (fun _ _ _ h => h) (Or.inl ⟨by rfl, ?_⟩) ?_ ?_
      rotate_left
      · intro w'
        go_simp
        with_reducible rfl
      rotate_left
      · simp only [Act.put, List.setIfInBounds_toArray, List.set_cons_zero, List.set_cons_succ, i64_w, i32_w]
        rfl
      refine pure_ (i := 3) (N := some 34) (v := ?_) (a' := ?_) #[true, false, true, true, false, false, false, false] rfl rfl (any_of HT_.out (by kernel_rfl)) (fun _ _ _ h => h) (Or.inl ⟨by rfl, ?_⟩) ?_ ?_
      rotate_left
      · intro w'
        go_simp
        with_reducible rfl
      rotate_left
      · simp only [Act.put, List.setIfInBounds_toArray, List.set_cons_zero, List.set_cons_succ, i64_w, i32_w]
        rfl
      refine pure_ (i := 5) (N := some 36) (v := ?_) (a' := ?_) #[true, false, true, true, false, true, false, false] rfl rfl (any_of HT_.out (by kernel_rfl)) (fun _ _ _ h => h) (Or.inl ⟨by rfl, ?_⟩) ?_ ?_
      rotate_left
      · intro w'
        go_simp
        with_reducible rfl
      rotate_left
      · simp only [Act.put, List.setIfInBounds_toArray, List.set_cons_zero, List.set_cons_succ, i64_w, i32_w]
        rfl
      refine take_ (i := 1) (N := some 32) (v := ?_) (a' := ?_) #[true, true, true, true, false, true, false, false] rfl rfl (take_ofW HT_.out HW_.out (by kernel_rfl)) (fun _ _ _ h => h) (Or.inl ⟨by rfl, ?_⟩) hHeld ?_ ?_
      rotate_left
      · rintro w' ⟨s0, s1⟩
        go_simp
        with_reducible rfl
      rotate_left
      · simp only [Act.put, List.setIfInBounds_toArray, List.set_cons_zero, List.set_cons_succ, i64_w, i32_w]
        rfl
      refine pure_ (i := 4) (N := some 35) (v := ?_) (a' := ?_) #[true, true, true, true, true, true, false, false] rfl rfl (any_of HT_.out (by kernel_rfl)) (fun _ _ _ h => h) (Or.inl ⟨by rfl, ?_⟩) ?_ ?_
      rotate_left
      · intro w'
        go_simp
        with_reducible rfl
      rotate_left
      · simp only [Act.put, List.setIfInBounds_toArray, List.set_cons_zero, List.set_cons_succ, i64_w, i32_w]
        rfl
      refine one_ (i := 6) (N := some 37) #[true, true, true, true, true, true, true, false] rfl rfl (one_of HT_.out (by kernel_rfl)) (by decide) (fun K hK => ?_)
      refine goes_ Try.func45 (by kernel_rfl) rfl #[.int .u64 (Go.bits .or .u64 x4_1 (ji21))] (by rfl) rfl rfl (by (try simp only [List.map_toArray, List.map_cons, List.map_nil]); first | done | (simp only [hji21]; rfl) | rfl | (simp only [List.length_drop, List.length_take]; rfl)) ?_
      with_reducible refine (pack_Vary.calls k1 (Go.bits .or .u64 x4_1 (ji21)) t133 _ A28.out).mono ?_
      rintro e w35 ⟨rfl, hb⟩
      refine ⟨_, rfl, ?_⟩
      replace BK127 := Kb_ BK127 hb
      replace BK128 := Kb_ BK128 hb
      replace HB := Ks_ HB hb
      (try clear hb)
      (try clear hb2)
      (try clear hk)
      (try clear hi)
      refine hK.out _ _ (Kc2_ BK127.out) (fun hHeld => ?_)
      clear hK K
      refine norm_ (a' := ?_) ?_ ?_
      rotate_left
      · show Act.put _ (some 37) _ = _
        simp only [Act.put, List.setIfInBounds_toArray, List.set_cons_zero, List.set_cons_succ, i64_w, i32_w]
        rfl
      refine pure_ (i := 7) (N := some 38) (v := ?_) (a' := ?_) #[true, true, true, true, true, true, true, true] rfl rfl (any_of HT_.out (by kernel_rfl)) (fun _ _ _ h => h) (Or.inl ⟨by rfl, ?_⟩) ?_ ?_
      rotate_left
      · intro w'
        go_simp
        with_reducible rfl
      rotate_left
      · simp only [Act.put, List.setIfInBounds_toArray, List.set_cons_zero, List.set_cons_succ, i64_w, i32_w]
        rfl
      refine done_ (done_of HT_.out (by kernel_rfl)) ?_
      try go_wp2
      replace BK127 := Kd_ BK127
      replace BK128 := Kd_ BK128
      replace HB := Aside0.mk (below_drew1 HB.out)
      refine start_ (n := 9) (S := fun w' => w'.cell? ⟨gb127, 0, none⟩ = some (.string a0_0) ∧ w'.cell? ⟨gb127, 1, none⟩ = some (.bool false)) (ds := []) #[false, false, false, false, false, false, false, false, false] (by kernel_rfl) rfl rfl (Kc2_ BK127.out) (fun hHeld => ?_); refine with_tabW pack_Reader_Vary.tab11 pack_Reader_Vary.bits11 (fun HT_ HW_ => ?_)
      generalize w35.drew = w36 at BK127 BK128 HB hHeld ⊢
      refine pure_ (i := 0) (N := some 39) (v := ?_) (a' := ?_) #[true, false, false, false, false, false, false, false, false] rfl rfl (any_of HT_.out (by kernel_rfl)) (fun _ _ _ h => h) (Or.inl ⟨by rfl, ?_⟩) ?_ ?_
      rotate_left
      · intro w'
        go_simp
        with_reducible rfl
      rotate_left
      · simp only [Act.put, List.setIfInBounds_toArray, List.set_cons_zero, List.set_cons_succ, i64_w, i32_w]
        rfl
      refine pure_ (i := 1) (N := some 40) (v := ?_) (a' := ?_) #[true, true, false, false, false, false, false, false, false] rfl rfl (any_of HT_.out (by kernel_rfl)) (fun _ _ _ h => h) (Or.inl ⟨by rfl, ?_⟩) ?_ ?_
      rotate_left
      · intro w'
        go_simp
        with_reducible rfl
      rotate_left
      · simp only [Act.put, List.setIfInBounds_toArray, List.set_cons_zero, List.set_cons_succ, i64_w, i32_w]
        rfl
      refine pure_ (i := 3) (N := some 42) (v := ?_) (a' := ?_) #[true, true, false, true, false, false, false, false, false] rfl rfl (any_of HT_.out (by kernel_rfl)) (fun _ _ _ h => h) (Or.inl ⟨by rfl, ?_⟩) ?_ ?_
      rotate_left
      · intro w'
        go_simp
        with_reducible rfl
      rotate_left
      · simp only [Act.put, List.setIfInBounds_toArray, List.set_cons_zero, List.set_cons_succ, i64_w, i32_w]
        rfl
      refine pure_ (i := 4) (N := some 43) (v := ?_) (a' := ?_) #[true, true, false, true, true, false, false, false, false] rfl rfl (any_of HT_.out (by kernel_rfl)) (fun _ _ _ h => h) (Or.inl ⟨by rfl, ?_⟩) ?_ ?_
      rotate_left
      · intro w'
        go_simp
        with_reducible rfl
      rotate_left
      · simp only [Act.put, List.setIfInBounds_toArray, List.set_cons_zero, List.set_cons_succ, i64_w, i32_w]
        rfl
      refine pure_ (i := 7) (N := some 2) (v := ?_) (a' := ?_) #[true, true, false, true, true, false, false, true, false] rfl rfl (any_of HT_.out (by kernel_rfl)) (fun _ _ _ h => h) (Or.inl ⟨by rfl, ?_⟩) ?_ ?_
      rotate_left
      · intro w'
        go_simp
        with_reducible rfl
      rotate_left
      · simp only [Act.put, List.setIfInBounds_toArray, List.set_cons_zero, List.set_cons_succ, i64_w, i32_w]
        rfl
      refine take_ (i := 2) (N := some 41) (v := ?_) (a' := ?_) #[true, true, true, true, true, false, false, true, false] rfl rfl (take_ofW HT_.out HW_.out (by kernel_rfl)) (fun _ _ _ h => h) (Or.inl ⟨by rfl, ?_⟩) hHeld ?_ ?_
      rotate_left
      · rintro w' ⟨s0, s1⟩
        go_simp
        with_reducible rfl
      rotate_left
      · simp only [Act.put, List.setIfInBounds_toArray, List.set_cons_zero, List.set_cons_succ, i64_w, i32_w]
        rfl
      refine pure_ (i := 5) (N := some 44) (v := ?_) (a' := ?_) #[true, true, true, true, true, true, false, true, false] rfl rfl (any_of HT_.out (by kernel_rfl)) (fun _ _ _ h => h) (Or.inl ⟨by rfl, ?_⟩) ?_ ?_
      rotate_left
      · intro w'
        go_simp
        with_reducible rfl
      rotate_left
      · simp only [Act.put, List.setIfInBounds_toArray, List.set_cons_zero, List.set_cons_succ, i64_w, i32_w]
        rfl
      refine pure_ (i := 6) (N := some 45) (v := ?_) (a' := ?_) #[true, true, true, true, true, true, true, true, false] rfl rfl (any_of HT_.out (by kernel_rfl)) (fun _ _ _ h => h) (Or.inl ⟨by rfl, ?_⟩) ?_ ?_
      rotate_left
      · intro w'
        go_simp
        with_reducible rfl
      rotate_left
      · simp only [Act.put, List.setIfInBounds_toArray, List.set_cons_zero, List.set_cons_succ, i64_w, i32_w]
        rfl
      refine one_ (i := 8) (N := none) #[true, true, true, true, true, true, true, true, true] rfl rfl (one_of HT_.out (by kernel_rfl)) (by decide) (fun K hK => ?_)
      have hs37 : w36.cell? ⟨gb128, 0, none⟩ = some (.string x129000_1) := (blk_cell BK128.out 0).trans rfl
      have hfs37 := blk_frozen BK128.out 0
      have hns37_0 := NB127_128.out
      have hms37_0 := NB128_127.out
      have hs38 : w36.cell? ⟨gb128, 1, none⟩ = some (.bool x129001_1) := (blk_cell BK128.out 1).trans rfl
      have hfs38 := blk_frozen BK128.out 1
      have hns38_0 := NB127_128.out
      have hms38_0 := NB128_127.out
      refine skip_ (w1 := ?_) (by rfl) rfl ?_ ?_
      rotate_left
      · go_simp
        rfl
      refine hK.out _ _ ⟨((cell_far (p := ⟨gb128, _, none⟩) NB127_128.out _).trans (((cell_far (p := ⟨gb128, _, none⟩) NB127_128.out _).trans (hHeld.1)))), ((cell_far (p := ⟨gb128, _, none⟩) NB127_128.out _).trans (((cell_far (p := ⟨gb128, _, none⟩) NB127_128.out _).trans (hHeld.2))))⟩ (fun hHeld => ?_)
      clear hK K
      refine done_ (done_of HT_.out (by kernel_rfl)) ?_
      try go_wp2
      refine bodyPost_ret (results_tc rfl _ _ gb128 81 #[.string (a0_0.extract ((ji25) : Int).toNat a0_0.size), .bool false] (0, 0) _ rfl (by refine Kv_ ?_; refine blk_put (cs := #[.string (a0_0.extract ((ji25) : Int).toNat a0_0.size), .bool x129001_1]) ?_ 1 _ rfl; refine Kv_ ?_; refine blk_put (cs := #[.string x129000_1, .bool x129001_1]) ?_ 0 _ rfl; exact Kq_ BK128) Try.underlying81 rfl (by kernel_rfl)) rfl ?_
      exact ⟨by first | rfl | (simp [errW_none, errW_some] <;> rfl) | (simp only [← hji10, ← hji19, ← hji21, ← hji25]; first | rfl | (simp [errW_none, errW_some] <;> rfl)) | (simp [*, errW_none, errW_some] <;> rfl), by repeat (first | (with_reducible first | exact HB.out | apply below_alloc | apply pw_below_drewN | apply below_drew1 | refine below_set ?_ GE127.out | refine below_set ?_ GE128.out) | exact HB.out)⟩
end Go.Proofs.Ytplgbkobpanbfaa.Q
