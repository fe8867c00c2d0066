import Derived.Test.YtdlagefpglhdoaaDoorQx0
import Derived.Test.YtdlagefpglhdoaaDoorGStampTells0
import Derived.Test.YtdlagefpglhdoaaDoorShelf
import Derived.Lib.AppendIntMem
-- Written by this session's own driver (wip/hybrid.py) of the kit's printer; contracts marked FOREIGN are by hand.
namespace Go.Proofs.YtdlagefpglhdoaaDoor.Q
open Go.RowKit Go.Proofs.YtdlagefpglhdoaaDoorW.PrintWords Go.Proofs.YtdlagefpglhdoaaDoorW.PrintLast Go.Proofs.YtdlagefpglhdoaaDoorW.PrintMore
attribute [local go_sem] max2_int min2_int max_two min_two max_three min_three max_four min_four   -- for this text's walks alone
set_option linter.unusedVariables false
set_option linter.unusedSimpArgs false

/-! ### slices_Compare_uint64_uint64: function 46 -/
def slices_Compare_uint64_uint64.l0 : Nat → List Int → List Int → List Int → Int → Int → Option (Int)
  | 0, _, _, _, _, _ => none
  | k + 1, x0, x1, x9, x10, x11 => if x11 < x10 then (if 0 ≤ x11 then (if x11 < (x9.length : Int) then (if x11 ≥ (x1.length : Int) then (some 1) else (if x11 < (x1.length : Int) then ((cmp_Compare_uint64.f (rd x9 x11) (rd x1 x11)).bind fun t131 => (if t131 = 0 then (slices_Compare_uint64_uint64.l0 k x0 x1 x9 x10 (wrap64 (x11 + 1))) else (some t131))) else (none))) else (none)) else (none)) else (if (x0.length : Int) < (x1.length : Int) then (some (-1)) else (some 0))
def slices_Compare_uint64_uint64.f (k : Nat) (l0 : List Int) (l1 : List Int) : Option (Int) := slices_Compare_uint64_uint64.l0 k l0 l1 l0 (l0.length : Int) 0
theorem slices_Compare_uint64_uint64.mono_l : ∀ k, (∀ y0 y1 y2 y3 y4, LeO (slices_Compare_uint64_uint64.l0 k y0 y1 y2 y3 y4) (slices_Compare_uint64_uint64.l0 (k + 1) y0 y1 y2 y3 y4))
  | 0 => fun _ _ _ _ _ r h => by simp [slices_Compare_uint64_uint64.l0] at h
  | k + 1 => by
    have ih0 := slices_Compare_uint64_uint64.mono_l k
    · intro y0 y1 y2 y3 y4
      unfold slices_Compare_uint64_uint64.l0
      repeat' first
      | (with_reducible exact ih0 _ _ _ _ _)
      | (with_reducible exact LeO.refl _)
      | (with_reducible exact LeO.none _)
      | (with_reducible refine LeO.ite ?_ ?_)
      | (with_reducible refine LeO.bind ?_ (fun _ => ?_))
      | exact ih0 _ _ _ _ _
      | exact LeO.none _
      | refine LeO.ite ?_ ?_
      | refine LeO.bind ?_ (fun _ => ?_)
theorem slices_Compare_uint64_uint64.mono : ∀ a0 a1 k, LeO (slices_Compare_uint64_uint64.f k a0 a1) (slices_Compare_uint64_uint64.f (k + 1) a0 a1) := by
  intro a0 a1 k
  have ih0 := slices_Compare_uint64_uint64.mono_l k
  unfold slices_Compare_uint64_uint64.f
  repeat' first
      | (with_reducible exact ih0 _ _ _ _ _)
      | (with_reducible exact LeO.refl _)
      | (with_reducible exact LeO.none _)
      | (with_reducible refine LeO.ite ?_ ?_)
      | (with_reducible refine LeO.bind ?_ (fun _ => ?_))
      | exact ih0 _ _ _ _ _
      | exact LeO.none _
      | refine LeO.ite ?_ ?_
      | refine LeO.bind ?_ (fun _ => ?_)
set_option maxHeartbeats 8000000 in
set_option maxRecDepth 100000 in
theorem slices_Compare_uint64_uint64.calls (k : Nat) (A0 : Option Addr) (c0 : Nat) (l0 : List Int) (A1 : Option Addr) (c1 : Nat) (l1 : List Int) (r : Int) (w : World) (hr0 : Kd.C (Kd.int .u64) w A0 l0.length l0) (hc0 : l0.length ≤ c0) (hr1 : Kd.C (Kd.int .u64) w A1 l1.length l1) (hc1 : l1.length ≤ c1) (h : slices_Compare_uint64_uint64.f k l0 l1 = some r) :
    Calls Tryd.prog 46 #[.slice A0 l0.length c0, .slice A1 l1.length c1] w fun e w' => e = .returned (.int .i64 r) ∧ Drawn0 w w' := by
  have HR0 := Aside0.mk hr0
  have HC0 := Aside0.mk hc0
  clear hr0 hc0
  have HR1 := Aside0.mk hr1
  have HC1 := Aside0.mk hc1
  clear hr1 hc1
  have H : (slices_Compare_uint64_uint64.l0 k l0 l1 l0 (l0.length : Int) 0) = some r := h
  clear h
  have H' := Aside0.mk H
  clear H
  go_enter Tryd.func46, Tryd.ntmps46
  go_wp2
  go_loopg [11] k (fun kq v11 w' => ∃ (x11_1 : Int), v11 = .int .i64 x11_1 ∧ Aside0 (slices_Compare_uint64_uint64.l0 kq l0 l1 l0 (l0.length : Int) x11_1 = some r) ∧ Aside0 (kq ≤ k) ∧ Drawn0 w w')
  case atStart => exact ⟨(0), (by first | rfl | (simp; done) | (simp [*]; done)), H', ⟨Nat.le_refl _⟩, by repeat (first | exact Drawn0.refl _ | apply Drawn0.step)⟩
  case round =>
    clear H'
    try clear c1
    try clear p2
    obtain ⟨x11_1, rfl, HA, HK1, ⟨m1, rfl⟩⟩ := hrel
    cases gk with
    | zero => exact absurd HA.out (by simp [slices_Compare_uint64_uint64.l0])
    | succ k1 =>
      have H := HA.out
      clear HA
      simp only [slices_Compare_uint64_uint64.l0] at H
      by_cases c3 : x11_1 < (l0.length : Int)
      rotate_left
      · rw [if_neg c3] at H
        have c3b0 : decide (x11_1 < (l0.length : Int)) = false := decide_eq_false c3
        clear c3
        by_cases c10 : (l0.length : Int) < (l1.length : Int)
        · rw [if_pos c10] at H
          have c10b0 : decide ((l0.length : Int) < (l1.length : Int)) = true := decide_eq_true c10
          have c10b1 : decide (l0.length < l1.length) = true := decide_eq_true (Int.ofNat_lt.mp c10)
          clear c10
          obtain rfl := Option.some.inj H
          go_wp2
          go_ret
          exact ⟨by first | rfl | (simp; done) | (simp [*]; done), by repeat (first | exact Drawn0.refl _ | apply Drawn0.step)⟩
        rw [if_neg c10] at H
        have c10b0 : decide ((l0.length : Int) < (l1.length : Int)) = false := decide_eq_false c10
        have c10b1 : decide (l0.length < l1.length) = false := decide_eq_false (fun h => c10 (Int.ofNat_lt.mpr h))
        clear c10
        obtain rfl := Option.some.inj H
        go_wp2
        go_ret
        exact ⟨by first | rfl | (simp; done) | (simp [*]; done), by repeat (first | exact Drawn0.refl _ | apply Drawn0.step)⟩
      rw [if_pos c3] at H
      have c3b0 : decide (x11_1 < (l0.length : Int)) = true := decide_eq_true c3
      clear c3
      by_cases c4 : 0 ≤ x11_1
      rotate_left
      · rw [if_neg c4] at H
        exact absurd H (by simp)
      rw [if_pos c4] at H
      have c4b0 : decide (0 ≤ x11_1) = true := decide_eq_true c4
      clear c4
      by_cases c5 : x11_1 < (l0.length : Int)
      rotate_left
      · rw [if_neg c5] at H
        exact absurd H (by simp)
      rw [if_pos c5] at H
      have c5b0 : decide (x11_1 < (l0.length : Int)) = true := decide_eq_true c5
      clear c5
      by_cases c6 : x11_1 ≥ (l1.length : Int)
      · rw [if_pos c6] at H
        have c6b0 : decide ((l1.length : Int) ≤ x11_1) = true := decide_eq_true c6
        clear c6
        obtain rfl := Option.some.inj H
        have p129 : 0 ≤ (x11_1 : Int) := of_decide_eq_true (by first | (with_reducible assumption) | assumption)
        have q129 : x11_1 < (l0.length : Int) := of_decide_eq_true (by first | (with_reducible assumption) | assumption)
        obtain ⟨ad129, e129, hx129_0⟩ := Kd.at_int HR0.out x11_1 p129 q129
        cases e129
        replace p129 := eq_true p129
        replace q129 := eq_true q129
        go_wp2
        go_ret
        exact ⟨by first | rfl | (simp; done) | (simp [*]; done), by repeat (first | exact Drawn0.refl _ | apply Drawn0.step)⟩
      rw [if_neg c6] at H
      have c6b0 : decide ((l1.length : Int) ≤ x11_1) = false := decide_eq_false c6
      clear c6
      by_cases c7 : x11_1 < (l1.length : Int)
      rotate_left
      · rw [if_neg c7] at H
        exact absurd H (by simp)
      rw [if_pos c7] at H
      have c7b0 : decide (x11_1 < (l1.length : Int)) = true := decide_eq_true c7
      clear c7
      replace H := Option.bind_eq_some_iff.mp H
      obtain ⟨t131, A80, H⟩ := H
      replace H : (if t131 = 0 then (slices_Compare_uint64_uint64.l0 k1 l0 l1 l0 (l0.length : Int) (wrap64 (x11_1 + 1))) else (some t131)) = some r := H
      have A8 := Aside0.mk A80
      clear A80
      by_cases c9 : t131 = 0
      rotate_left
      · rw [if_neg c9] at H
        have c9b0 : (t131 == 0) = false := beq_eq_false_iff_ne.mpr c9
        have c9b1 : (t131 != 0) = true := bne_iff_ne.mpr c9
        obtain rfl := Option.some.inj H
        have p129 : 0 ≤ (x11_1 : Int) := of_decide_eq_true (by first | (with_reducible assumption) | assumption)
        have q129 : x11_1 < (l0.length : Int) := of_decide_eq_true (by first | (with_reducible assumption) | assumption)
        obtain ⟨ad129, e129, hx129_0⟩ := Kd.at_int HR0.out x11_1 p129 q129
        cases e129
        replace p129 := eq_true p129
        replace q129 := eq_true q129
        have p130 : 0 ≤ (x11_1 : Int) := of_decide_eq_true (by first | (with_reducible assumption) | assumption)
        have q130 : x11_1 < (l1.length : Int) := of_decide_eq_true (by first | (with_reducible assumption) | assumption)
        obtain ⟨ad130, e130, hx130_0⟩ := Kd.at_int HR1.out x11_1 p130 q130
        cases e130
        replace p130 := eq_true p130
        replace q130 := eq_true q130
        go_wp2_with (first | ((with_reducible refine gate_callee (f := 43) rfl ?_); refine goesL_ (some 26) rfl rfl Tryd.func43 (by kernel_rfl) rfl #[.int .u64 (rd l0 x11_1), .int .u64 (rd l1 x11_1)] rfl (by (try simp only [List.map_toArray, List.map_cons, List.map_nil]); first | done | rfl | (simp only [List.length_drop, List.length_take]; rfl)) ?_; (with_reducible refine (cmp_Compare_uint64.calls (rd l0 x11_1) (rd l1 x11_1) t131 _ A8.out).mono ?_); rintro e w' ⟨rfl, ⟨nd, rfl⟩⟩; refine ⟨_, rfl, ?_⟩))
        go_ret
        exact ⟨by first | rfl | (simp; done) | (simp [*]; done), by repeat (first | exact Drawn0.refl _ | apply Drawn0.step)⟩
      rw [if_pos c9] at H
      have c9b0 : (t131 == 0) = true := beq_iff_eq.mpr c9
      have c9b1 : (t131 != 0) = false := bne_eq_false_iff_eq.mpr c9
      clear c9
      have H' := Aside0.mk H
      clear H
      have p129 : 0 ≤ (x11_1 : Int) := of_decide_eq_true (by first | (with_reducible assumption) | assumption)
      have q129 : x11_1 < (l0.length : Int) := of_decide_eq_true (by first | (with_reducible assumption) | assumption)
      obtain ⟨ad129, e129, hx129_0⟩ := Kd.at_int HR0.out x11_1 p129 q129
      cases e129
      replace p129 := eq_true p129
      replace q129 := eq_true q129
      have p130 : 0 ≤ (x11_1 : Int) := of_decide_eq_true (by first | (with_reducible assumption) | assumption)
      have q130 : x11_1 < (l1.length : Int) := of_decide_eq_true (by first | (with_reducible assumption) | assumption)
      obtain ⟨ad130, e130, hx130_0⟩ := Kd.at_int HR1.out x11_1 p130 q130
      cases e130
      replace p130 := eq_true p130
      replace q130 := eq_true q130
      go_wp2_with (first | ((with_reducible refine gate_callee (f := 43) rfl ?_); refine goesL_ (some 26) rfl rfl Tryd.func43 (by kernel_rfl) rfl #[.int .u64 (rd l0 x11_1), .int .u64 (rd l1 x11_1)] rfl (by (try simp only [List.map_toArray, List.map_cons, List.map_nil]); first | done | rfl | (simp only [List.length_drop, List.length_take]; rfl)) ?_; (with_reducible refine (cmp_Compare_uint64.calls (rd l0 x11_1) (rd l1 x11_1) t131 _ A8.out).mono ?_); rintro e w' ⟨rfl, ⟨nd, rfl⟩⟩; refine ⟨_, rfl, ?_⟩))
      go_roundg k1
      case measure => have := HK1.out; omega
      case rel => exact ⟨(wrap64 (x11_1 + 1)), (by first | rfl | (simp; done) | (simp [*]; done)), H', ⟨by have := HK1.out; omega⟩, by repeat (first | exact Drawn0.refl _ | apply Drawn0.step)⟩

end Go.Proofs.YtdlagefpglhdoaaDoor.Q

-- Written by this session's own driver (wip/hybrid.py) of the kit's printer; contracts marked FOREIGN are by hand.
namespace Go.Proofs.YtdlagefpglhdoaaDoor.Q
open Go.RowKit Go.Proofs.YtdlagefpglhdoaaDoorW.PrintWords Go.Proofs.YtdlagefpglhdoaaDoorW.PrintLast Go.Proofs.YtdlagefpglhdoaaDoorW.PrintMore
attribute [local go_sem] max2_int min2_int max_two min_two max_three min_three max_four min_four   -- for this text's walks alone
set_option linter.unusedVariables false
set_option linter.unusedSimpArgs false

attribute [local go_sem high] eqA26
/-! ### stamp_Order: function 21 -/
-- FOREIGN: a drawn region with six calls, slices of arrays in boxes
def stamp_Order.f (k : Nat) (a0_0 a0_1 a0_2 a0_3 a0_4 a1_0 a1_1 a1_2 a1_3 a1_4 : Int) : Option Int :=
  if ((a0_0 == a1_0 && (a0_1 == a1_1 && (a0_2 == a1_2 && (a0_3 == a1_3)))) && (a0_4 == a1_4)) = true then some 0 else
  (vec_Sum.f a0_0 a0_1 a0_2 a0_3).bind fun s => (vec_Sum.f a1_0 a1_1 a1_2 a1_3).bind fun t => (cmp_Compare_uint64.f s t).bind fun c => (cmp_Compare_int.f a0_4 a1_4).bind fun d =>
  (slices_Compare_uint64_uint64.f k ([a0_0, a0_1, a0_2, a0_3] : List Int) ([a1_0, a1_1, a1_2, a1_3] : List Int)).bind fun e => cmp_Or_int.f k ([c, d, e] : List Int)
theorem stamp_Order.mono : ∀ a0_0 a0_1 a0_2 a0_3 a0_4 a1_0 a1_1 a1_2 a1_3 a1_4 k, LeO (stamp_Order.f k a0_0 a0_1 a0_2 a0_3 a0_4 a1_0 a1_1 a1_2 a1_3 a1_4) (stamp_Order.f (k + 1) a0_0 a0_1 a0_2 a0_3 a0_4 a1_0 a1_1 a1_2 a1_3 a1_4) := by
  intro a0_0 a0_1 a0_2 a0_3 a0_4 a1_0 a1_1 a1_2 a1_3 a1_4 k
  unfold stamp_Order.f
  repeat' first
      | exact slices_Compare_uint64_uint64.mono _ _ _
      | exact cmp_Or_int.mono _ _
      | exact LeO.refl _
      | exact LeO.none _
      | refine LeO.ite ?_ ?_
      | refine LeO.bind ?_ (fun _ => ?_)
theorem stamp_Order.boxes2 (w : World) (xs ys : Array Value) (t : TypeId) (W : World) (h : (w.alloc (.cells xs t)).alloc (.cells ys t) = W) :
    W.heap[w.heap.size]? = some (.cells xs t (0, 0)) ∧ W.heap[w.heap.size + 1]? = some (.cells ys t (0, 0)) ∧ Below w.heap.size w W := by
  subst h
  have s1 : (w.alloc (.cells xs t)).heap.size = w.heap.size + 1 := by simp [World.alloc, -World.alloc_eq]
  refine ⟨?_, ?_, below_alloc (below_alloc (Below.refl _ _) _) _⟩
  · exact blk_alloc (blk_new w _) _
  · have h := blk_new (w.alloc (.cells xs t)) (.cells ys t)
    rw [s1] at h
    exact h
theorem stamp_Order.row {W : World} {g t : Nat} {a b c d e : Int} (h : W.heap[g]? = some (.cells #[.int .u64 a, .int .u64 b, .int .u64 c, .int .u64 d, .int .i64 e] t (0, 0))) :
    Kd.C (Kd.int .u64) W (some ⟨g, 0, none⟩) ([a, b, c, d] : List Int).length ([a, b, c, d] : List Int) := by
  refine ⟨rfl, by simp, fun _ => ⟨⟨g, 0, none⟩, rfl, fun j p hj => ?_⟩⟩
  have hc := blk_cell h
  have one : ∀ (j : Nat) (x : Int), W.cell? ⟨g, j, none⟩ = some (.int .u64 x) → ∃ c, c.length = (Kd.int .u64).sz ∧ (Kd.int .u64).K W x c ∧ ∀ (i : Nat) u, c[i]? = some u → W.cell? ((⟨g, 0, none⟩ : Addr).add (j * (Kd.int .u64).sz + i)) = some u := by
    intro j x hx
    refine ⟨[.int .u64 x], rfl, rfl, fun i u hi => ?_⟩
    cases i with
    | zero =>
      obtain rfl := Option.some.inj hi
      show W.cell? ((⟨g, 0, none⟩ : Addr).add (j * 1 + 0)) = _
      rw [add_plain, Nat.mul_one, Nat.add_zero]
      exact hx
    | succ i => simp at hi
  match j, hj with
  | 0, hj => obtain rfl := Option.some.inj hj; exact one 0 _ ((hc 0).trans rfl)
  | 1, hj => obtain rfl := Option.some.inj hj; exact one 1 _ ((hc 1).trans rfl)
  | 2, hj => obtain rfl := Option.some.inj hj; exact one 2 _ ((hc 2).trans rfl)
  | 3, hj => obtain rfl := Option.some.inj hj; exact one 3 _ ((hc 3).trans rfl)
  | j + 4, hj => simp at hj
set_option maxHeartbeats 8000000 in
set_option maxRecDepth 100000 in
theorem stamp_Order.calls (k : Nat) (a0_0 a0_1 a0_2 a0_3 a0_4 a1_0 a1_1 a1_2 a1_3 a1_4 : Int) (r : Int) (w : World) (h : stamp_Order.f k a0_0 a0_1 a0_2 a0_3 a0_4 a1_0 a1_1 a1_2 a1_3 a1_4 = some r) :
    Calls Tryd.prog 21 #[.agg #[.int .u64 a0_0, .int .u64 a0_1, .int .u64 a0_2, .int .u64 a0_3, .int .i64 a0_4], .agg #[.int .u64 a1_0, .int .u64 a1_1, .int .u64 a1_2, .int .u64 a1_3, .int .i64 a1_4]] w fun e w' => e = .returned (.int .i64 r) ∧ Below w.heap.size w w' := by
  have hus := Tryd.underlying26
  have huv := Tryd.underlying24
  have hal : Tryd.prog.arrayLen 24 = 4 := by simp [Program.arrayLen, huv]
  unfold stamp_Order.f at h
  by_cases c : ((a0_0 == a1_0 && (a0_1 == a1_1 && (a0_2 == a1_2 && (a0_3 == a1_3)))) && (a0_4 == a1_4)) = true
  · rw [if_pos c] at h
    obtain rfl := Option.some.inj h
    go_enter Tryd.func21, Tryd.ntmps21
    go_wp2
    go_ret
    exact ⟨by first | rfl | simp, by repeat (first | exact Below.refl _ _ | apply below_alloc | apply pw_below_drewN | apply below_drew1)⟩
  rw [if_neg c] at h
  have cf : ((a0_0 == a1_0 && (a0_1 == a1_1 && (a0_2 == a1_2 && (a0_3 == a1_3)))) && (a0_4 == a1_4)) = false := by simpa using c
  clear c
  obtain ⟨s_, A1, h⟩ := Option.bind_eq_some_iff.1 h
  obtain ⟨t_, A2, h⟩ := Option.bind_eq_some_iff.1 h
  obtain ⟨c_, A3, h⟩ := Option.bind_eq_some_iff.1 h
  obtain ⟨d_, A4, h⟩ := Option.bind_eq_some_iff.1 h
  obtain ⟨e_, A5, h⟩ := Option.bind_eq_some_iff.1 h
  replace A1 := Aside0.mk A1
  replace A2 := Aside0.mk A2
  replace A3 := Aside0.mk A3
  replace A4 := Aside0.mk A4
  replace A5 := Aside0.mk A5
  have A6 := Aside0.mk h
  clear h
  go_enter Tryd.func21, Tryd.ntmps21
  go_wp2
  generalize hW : ((w.alloc (Obj.cells _ _)).alloc (Obj.cells _ _)) = W0
  obtain ⟨ha, hb, hB⟩ := stamp_Order.boxes2 w #[.int .u64 a0_0, .int .u64 a0_1, .int .u64 a0_2, .int .u64 a0_3, .int .i64 a0_4] #[.int .u64 a1_0, .int .u64 a1_1, .int .u64 a1_2, .int .u64 a1_3, .int .i64 a1_4] 26 W0 hW
  have BA := Aside0.mk (blk_drew ha)
  have BB := Aside0.mk (blk_drew hb)
  have HB := Aside0.mk (below_drew1 hB)
  clear hW ha hb hB cf
  refine start_ (n := 20) (S := fun w' => w'.cell? ⟨w.heap.size, 0, none⟩ = some (.int .u64 a0_0) ∧ w'.cell? ⟨w.heap.size, 1, none⟩ = some (.int .u64 a0_1) ∧ w'.cell? ⟨w.heap.size, 2, none⟩ = some (.int .u64 a0_2) ∧ w'.cell? ⟨w.heap.size, 3, none⟩ = some (.int .u64 a0_3) ∧ w'.cell? ⟨w.heap.size, 4, none⟩ = some (.int .i64 a0_4) ∧ w'.cell? ⟨w.heap.size + 1, 0, none⟩ = some (.int .u64 a1_0) ∧ w'.cell? ⟨w.heap.size + 1, 1, none⟩ = some (.int .u64 a1_1) ∧ w'.cell? ⟨w.heap.size + 1, 2, none⟩ = some (.int .u64 a1_2) ∧ w'.cell? ⟨w.heap.size + 1, 3, none⟩ = some (.int .u64 a1_3) ∧ w'.cell? ⟨w.heap.size + 1, 4, none⟩ = some (.int .i64 a1_4)) (ds := []) #[false, false, false, false, false, false, false, false, false, false, false, false, false, false, false, false, false, false, false, false] (by kernel_rfl) rfl rfl ⟨(blk_cell BA.out 0).trans rfl, (blk_cell BA.out 1).trans rfl, (blk_cell BA.out 2).trans rfl, (blk_cell BA.out 3).trans rfl, (blk_cell BA.out 4).trans rfl, (blk_cell BB.out 0).trans rfl, (blk_cell BB.out 1).trans rfl, (blk_cell BB.out 2).trans rfl, (blk_cell BB.out 3).trans rfl, (blk_cell BB.out 4).trans rfl⟩ (fun hHeld => ?_)
  generalize W0.drew = W1 at BA BB HB hHeld ⊢
  refine pure_ (i := 0) (N := some 8) (v := ?_) (a' := ?_) #[true, false, false, false, false, false, false, false, false, false, false, false, false, false, false, false, false, false, false, false] rfl rfl (by kernel_rfl) (fun _ _ _ h => h) (Or.inl ⟨by rfl, ?_⟩) ?_ ?_
  rotate_left
  · intro w'
    go_simp
    with_reducible rfl
  rotate_left
  · simp only [Act.put, List.setIfInBounds_toArray, List.set_cons_zero, List.set_cons_succ, i64_w, i32_w]
    rfl
  refine take_ (i := 1) (N := some 9) (v := ?_) (a' := ?_) #[true, true, false, false, false, false, false, false, false, false, false, false, false, false, false, false, false, false, false, false] rfl rfl (by kernel_rfl) (fun _ _ _ h => h) (Or.inl ⟨by rfl, ?_⟩) hHeld ?_ ?_
  rotate_left
  · rintro w' ⟨s0, s1, s2, s3, s4, s5, s6, s7, s8, s9⟩
    go_simp
    with_reducible rfl
  rotate_left
  · simp only [Act.put, List.setIfInBounds_toArray, List.set_cons_zero, List.set_cons_succ, i64_w, i32_w]
    rfl
  refine pure_ (i := 3) (N := some 11) (v := ?_) (a' := ?_) #[true, true, false, true, false, false, false, false, false, false, false, false, false, false, false, false, false, false, false, false] rfl rfl (by kernel_rfl) (fun _ _ _ h => h) (Or.inl ⟨by rfl, ?_⟩) ?_ ?_
  rotate_left
  · intro w'
    go_simp
    with_reducible rfl
  rotate_left
  · simp only [Act.put, List.setIfInBounds_toArray, List.set_cons_zero, List.set_cons_succ, i64_w, i32_w]
    rfl
  refine take_ (i := 4) (N := some 12) (v := ?_) (a' := ?_) #[true, true, false, true, true, false, false, false, false, false, false, false, false, false, false, false, false, false, false, false] rfl rfl (by kernel_rfl) (fun _ _ _ h => h) (Or.inl ⟨by rfl, ?_⟩) hHeld ?_ ?_
  rotate_left
  · rintro w' ⟨s0, s1, s2, s3, s4, s5, s6, s7, s8, s9⟩
    go_simp
    with_reducible rfl
  rotate_left
  · simp only [Act.put, List.setIfInBounds_toArray, List.set_cons_zero, List.set_cons_succ, i64_w, i32_w]
    rfl
  refine pure_ (i := 7) (N := some 15) (v := ?_) (a' := ?_) #[true, true, false, true, true, false, false, true, false, false, false, false, false, false, false, false, false, false, false, false] rfl rfl (by kernel_rfl) (fun _ _ _ h => h) (Or.inl ⟨by rfl, ?_⟩) ?_ ?_
  rotate_left
  · intro w'
    go_simp
    with_reducible rfl
  rotate_left
  · simp only [Act.put, List.setIfInBounds_toArray, List.set_cons_zero, List.set_cons_succ, i64_w, i32_w]
    rfl
  refine take_ (i := 8) (N := some 16) (v := ?_) (a' := ?_) #[true, true, false, true, true, false, false, true, true, false, false, false, false, false, false, false, false, false, false, false] rfl rfl (by kernel_rfl) (fun _ _ _ h => h) (Or.inl ⟨by rfl, ?_⟩) hHeld ?_ ?_
  rotate_left
  · rintro w' ⟨s0, s1, s2, s3, s4, s5, s6, s7, s8, s9⟩
    go_simp
    with_reducible rfl
  rotate_left
  · simp only [Act.put, List.setIfInBounds_toArray, List.set_cons_zero, List.set_cons_succ, i64_w, i32_w]
    rfl
  refine pure_ (i := 9) (N := some 17) (v := ?_) (a' := ?_) #[true, true, false, true, true, false, false, true, true, true, false, false, false, false, false, false, false, false, false, false] rfl rfl (by kernel_rfl) (fun _ _ _ h => h) (Or.inl ⟨by rfl, ?_⟩) ?_ ?_
  rotate_left
  · intro w'
    go_simp
    with_reducible rfl
  rotate_left
  · simp only [Act.put, List.setIfInBounds_toArray, List.set_cons_zero, List.set_cons_succ, i64_w, i32_w]
    rfl
  refine take_ (i := 10) (N := some 18) (v := ?_) (a' := ?_) #[true, true, false, true, true, false, false, true, true, true, true, false, false, false, false, false, false, false, false, false] rfl rfl (by kernel_rfl) (fun _ _ _ h => h) (Or.inl ⟨by rfl, ?_⟩) hHeld ?_ ?_
  rotate_left
  · rintro w' ⟨s0, s1, s2, s3, s4, s5, s6, s7, s8, s9⟩
    go_simp
    with_reducible rfl
  rotate_left
  · simp only [Act.put, List.setIfInBounds_toArray, List.set_cons_zero, List.set_cons_succ, i64_w, i32_w]
    rfl
  refine pure_ (i := 12) (N := some 20) (v := ?_) (a' := ?_) #[true, true, false, true, true, false, false, true, true, true, true, false, true, false, false, false, false, false, false, false] rfl rfl (by kernel_rfl) (fun _ _ _ h => h) (Or.inl ⟨by rfl, ?_⟩) ?_ ?_
  rotate_left
  · intro w'
    go_simp
    with_reducible rfl
  rotate_left
  · simp only [Act.put, List.setIfInBounds_toArray, List.set_cons_zero, List.set_cons_succ, i64_w, i32_w]
    rfl
  refine pure_ (i := 13) (N := some 21) (v := ?_) (a' := ?_) #[true, true, false, true, true, false, false, true, true, true, true, false, true, true, false, false, false, false, false, false] rfl rfl (by kernel_rfl) (fun _ _ _ h => h) (Or.inl ⟨by rfl, ?_⟩) ?_ ?_
  rotate_left
  · intro w'
    go_simp; (try simp only [hal])
    with_reducible rfl
  rotate_left
  · simp only [Act.put, List.setIfInBounds_toArray, List.set_cons_zero, List.set_cons_succ, i64_w, i32_w]
    rfl
  refine pure_ (i := 14) (N := some 22) (v := ?_) (a' := ?_) #[true, true, false, true, true, false, false, true, true, true, true, false, true, true, true, false, false, false, false, false] rfl rfl (by kernel_rfl) (fun _ _ _ h => h) (Or.inl ⟨by rfl, ?_⟩) ?_ ?_
  rotate_left
  · intro w'
    go_simp
    with_reducible rfl
  rotate_left
  · simp only [Act.put, List.setIfInBounds_toArray, List.set_cons_zero, List.set_cons_succ, i64_w, i32_w]
    rfl
  refine pure_ (i := 15) (N := some 23) (v := ?_) (a' := ?_) #[true, true, false, true, true, false, false, true, true, true, true, false, true, true, true, true, false, false, false, false] rfl rfl (by kernel_rfl) (fun _ _ _ h => h) (Or.inl ⟨by rfl, ?_⟩) ?_ ?_
  rotate_left
  · intro w'
    go_simp; (try simp only [hal])
    with_reducible rfl
  rotate_left
  · simp only [Act.put, List.setIfInBounds_toArray, List.set_cons_zero, List.set_cons_succ, i64_w, i32_w]
    rfl
  refine one_ (i := 2) (N := some 10) #[true, true, true, true, true, false, false, true, true, true, true, false, true, true, true, true, false, false, false, false] rfl rfl (by kernel_rfl) (by decide) (fun K hK => ?_)
  refine goes_ Tryd.func44 (by kernel_rfl) rfl #[.agg #[.int .u64 a0_0, .int .u64 a0_1, .int .u64 a0_2, .int .u64 a0_3]] (by rfl) rfl rfl (by (try simp only [List.map_toArray, List.map_cons, List.map_nil]); first | done | rfl | (simp only [List.length_drop, List.length_take]; rfl)) ?_
  refine (vec_Sum.calls a0_0 a0_1 a0_2 a0_3 s_ _ A1.out).mono ?_
  rintro e w2 ⟨rfl, hb0⟩
  have hb := (by first | exact hb0 | exact hb0.below : Below _ _ w2)
  clear hb0
  refine ⟨_, rfl, ?_⟩
  have n0_ := Aside0.mk (blk_below (g := w.heap.size) (o := .cells #[.int .u64 a0_0, .int .u64 a0_1, .int .u64 a0_2, .int .u64 a0_3, .int .i64 a0_4] 26 (0, 0)) (by (with_reducible repeat (first | refine blk_drewN ?_ _ | refine blk_drew ?_ | refine blk_alloc ?_ _)); exact BA.out) hb)
  have n1_ := Aside0.mk (blk_below (g := w.heap.size + 1) (o := .cells #[.int .u64 a1_0, .int .u64 a1_1, .int .u64 a1_2, .int .u64 a1_3, .int .i64 a1_4] 26 (0, 0)) (by (with_reducible repeat (first | refine blk_drewN ?_ _ | refine blk_drew ?_ | refine blk_alloc ?_ _)); exact BB.out) hb)
  have n2_ := Aside0.mk (below_step (by repeat (first | (with_reducible first | exact HB.out | apply below_alloc | apply pw_below_drewN | apply below_drew1) | exact HB.out)) hb)
  clear BA BB HB
  have BA := n0_
  have BB := n1_
  have HB := n2_
  clear n0_ n1_ n2_
  clear hb
  refine hK.out _ _ ⟨(blk_cell BA.out 0).trans rfl, (blk_cell BA.out 1).trans rfl, (blk_cell BA.out 2).trans rfl, (blk_cell BA.out 3).trans rfl, (blk_cell BA.out 4).trans rfl, (blk_cell BB.out 0).trans rfl, (blk_cell BB.out 1).trans rfl, (blk_cell BB.out 2).trans rfl, (blk_cell BB.out 3).trans rfl, (blk_cell BB.out 4).trans rfl⟩ (fun hHeld => ?_)
  clear hK K
  refine norm_ (a' := ?_) ?_ ?_
  rotate_left
  · show Act.put _ (some 10) _ = _
    simp only [Act.put, List.setIfInBounds_toArray, List.set_cons_zero, List.set_cons_succ, i64_w, i32_w]
    rfl
  refine one_ (i := 5) (N := some 13) #[true, true, true, true, true, true, false, true, true, true, true, false, true, true, true, true, false, false, false, false] rfl rfl (by kernel_rfl) (by decide) (fun K hK => ?_)
  refine goes_ Tryd.func44 (by kernel_rfl) rfl #[.agg #[.int .u64 a1_0, .int .u64 a1_1, .int .u64 a1_2, .int .u64 a1_3]] (by rfl) rfl rfl (by (try simp only [List.map_toArray, List.map_cons, List.map_nil]); first | done | rfl | (simp only [List.length_drop, List.length_take]; rfl)) ?_
  refine (vec_Sum.calls a1_0 a1_1 a1_2 a1_3 t_ _ A2.out).mono ?_
  rintro e w3 ⟨rfl, hb0⟩
  have hb := (by first | exact hb0 | exact hb0.below : Below _ _ w3)
  clear hb0
  refine ⟨_, rfl, ?_⟩
  have n0_ := Aside0.mk (blk_below (g := w.heap.size) (o := .cells #[.int .u64 a0_0, .int .u64 a0_1, .int .u64 a0_2, .int .u64 a0_3, .int .i64 a0_4] 26 (0, 0)) (by (with_reducible repeat (first | refine blk_drewN ?_ _ | refine blk_drew ?_ | refine blk_alloc ?_ _)); exact BA.out) hb)
  have n1_ := Aside0.mk (blk_below (g := w.heap.size + 1) (o := .cells #[.int .u64 a1_0, .int .u64 a1_1, .int .u64 a1_2, .int .u64 a1_3, .int .i64 a1_4] 26 (0, 0)) (by (with_reducible repeat (first | refine blk_drewN ?_ _ | refine blk_drew ?_ | refine blk_alloc ?_ _)); exact BB.out) hb)
  have n2_ := Aside0.mk (below_step (by repeat (first | (with_reducible first | exact HB.out | apply below_alloc | apply pw_below_drewN | apply below_drew1) | exact HB.out)) hb)
  clear BA BB HB
  have BA := n0_
  have BB := n1_
  have HB := n2_
  clear n0_ n1_ n2_
  clear hb
  refine hK.out _ _ ⟨(blk_cell BA.out 0).trans rfl, (blk_cell BA.out 1).trans rfl, (blk_cell BA.out 2).trans rfl, (blk_cell BA.out 3).trans rfl, (blk_cell BA.out 4).trans rfl, (blk_cell BB.out 0).trans rfl, (blk_cell BB.out 1).trans rfl, (blk_cell BB.out 2).trans rfl, (blk_cell BB.out 3).trans rfl, (blk_cell BB.out 4).trans rfl⟩ (fun hHeld => ?_)
  clear hK K
  refine norm_ (a' := ?_) ?_ ?_
  rotate_left
  · show Act.put _ (some 13) _ = _
    simp only [Act.put, List.setIfInBounds_toArray, List.set_cons_zero, List.set_cons_succ, i64_w, i32_w]
    rfl
  refine one_ (i := 6) (N := some 14) #[true, true, true, true, true, true, true, true, true, true, true, false, true, true, true, true, false, false, false, false] rfl rfl (by kernel_rfl) (by decide) (fun K hK => ?_)
  refine goes_ Tryd.func43 (by kernel_rfl) rfl #[.int .u64 s_, .int .u64 t_] (by rfl) rfl rfl (by (try simp only [List.map_toArray, List.map_cons, List.map_nil]); first | done | rfl | (simp only [List.length_drop, List.length_take]; rfl)) ?_
  refine (cmp_Compare_uint64.calls s_ t_ c_ _ A3.out).mono ?_
  rintro e w4 ⟨rfl, hb0⟩
  have hb := (by first | exact hb0 | exact hb0.below : Below _ _ w4)
  clear hb0
  refine ⟨_, rfl, ?_⟩
  have n0_ := Aside0.mk (blk_below (g := w.heap.size) (o := .cells #[.int .u64 a0_0, .int .u64 a0_1, .int .u64 a0_2, .int .u64 a0_3, .int .i64 a0_4] 26 (0, 0)) (by (with_reducible repeat (first | refine blk_drewN ?_ _ | refine blk_drew ?_ | refine blk_alloc ?_ _)); exact BA.out) hb)
  have n1_ := Aside0.mk (blk_below (g := w.heap.size + 1) (o := .cells #[.int .u64 a1_0, .int .u64 a1_1, .int .u64 a1_2, .int .u64 a1_3, .int .i64 a1_4] 26 (0, 0)) (by (with_reducible repeat (first | refine blk_drewN ?_ _ | refine blk_drew ?_ | refine blk_alloc ?_ _)); exact BB.out) hb)
  have n2_ := Aside0.mk (below_step (by repeat (first | (with_reducible first | exact HB.out | apply below_alloc | apply pw_below_drewN | apply below_drew1) | exact HB.out)) hb)
  clear BA BB HB
  have BA := n0_
  have BB := n1_
  have HB := n2_
  clear n0_ n1_ n2_
  clear hb
  refine hK.out _ _ ⟨(blk_cell BA.out 0).trans rfl, (blk_cell BA.out 1).trans rfl, (blk_cell BA.out 2).trans rfl, (blk_cell BA.out 3).trans rfl, (blk_cell BA.out 4).trans rfl, (blk_cell BB.out 0).trans rfl, (blk_cell BB.out 1).trans rfl, (blk_cell BB.out 2).trans rfl, (blk_cell BB.out 3).trans rfl, (blk_cell BB.out 4).trans rfl⟩ (fun hHeld => ?_)
  clear hK K
  refine norm_ (a' := ?_) ?_ ?_
  rotate_left
  · show Act.put _ (some 14) _ = _
    simp only [Act.put, List.setIfInBounds_toArray, List.set_cons_zero, List.set_cons_succ, i64_w, i32_w]
    rfl
  refine one_ (i := 11) (N := some 19) #[true, true, true, true, true, true, true, true, true, true, true, true, true, true, true, true, false, false, false, false] rfl rfl (by kernel_rfl) (by decide) (fun K hK => ?_)
  refine goes_ Tryd.func45 (by kernel_rfl) rfl #[.int .i64 a0_4, .int .i64 a1_4] (by rfl) rfl rfl (by (try simp only [List.map_toArray, List.map_cons, List.map_nil]); first | done | rfl | (simp only [List.length_drop, List.length_take]; rfl)) ?_
  refine (cmp_Compare_int.calls a0_4 a1_4 d_ _ A4.out).mono ?_
  rintro e w5 ⟨rfl, hb0⟩
  have hb := (by first | exact hb0 | exact hb0.below : Below _ _ w5)
  clear hb0
  refine ⟨_, rfl, ?_⟩
  have n0_ := Aside0.mk (blk_below (g := w.heap.size) (o := .cells #[.int .u64 a0_0, .int .u64 a0_1, .int .u64 a0_2, .int .u64 a0_3, .int .i64 a0_4] 26 (0, 0)) (by (with_reducible repeat (first | refine blk_drewN ?_ _ | refine blk_drew ?_ | refine blk_alloc ?_ _)); exact BA.out) hb)
  have n1_ := Aside0.mk (blk_below (g := w.heap.size + 1) (o := .cells #[.int .u64 a1_0, .int .u64 a1_1, .int .u64 a1_2, .int .u64 a1_3, .int .i64 a1_4] 26 (0, 0)) (by (with_reducible repeat (first | refine blk_drewN ?_ _ | refine blk_drew ?_ | refine blk_alloc ?_ _)); exact BB.out) hb)
  have n2_ := Aside0.mk (below_step (by repeat (first | (with_reducible first | exact HB.out | apply below_alloc | apply pw_below_drewN | apply below_drew1) | exact HB.out)) hb)
  clear BA BB HB
  have BA := n0_
  have BB := n1_
  have HB := n2_
  clear n0_ n1_ n2_
  clear hb
  refine hK.out _ _ ⟨(blk_cell BA.out 0).trans rfl, (blk_cell BA.out 1).trans rfl, (blk_cell BA.out 2).trans rfl, (blk_cell BA.out 3).trans rfl, (blk_cell BA.out 4).trans rfl, (blk_cell BB.out 0).trans rfl, (blk_cell BB.out 1).trans rfl, (blk_cell BB.out 2).trans rfl, (blk_cell BB.out 3).trans rfl, (blk_cell BB.out 4).trans rfl⟩ (fun hHeld => ?_)
  clear hK K
  refine norm_ (a' := ?_) ?_ ?_
  rotate_left
  · show Act.put _ (some 19) _ = _
    simp only [Act.put, List.setIfInBounds_toArray, List.set_cons_zero, List.set_cons_succ, i64_w, i32_w]
    rfl
  refine one_ (i := 16) (N := some 24) #[true, true, true, true, true, true, true, true, true, true, true, true, true, true, true, true, true, false, false, false] rfl rfl (by kernel_rfl) (by decide) (fun K hK => ?_)
  refine goes_ Tryd.func46 (by kernel_rfl) rfl #[.slice (some ⟨w.heap.size, 0, none⟩) 4 4, .slice (some ⟨w.heap.size + 1, 0, none⟩) 4 4] (by rfl) rfl rfl (by (try simp only [List.map_toArray, List.map_cons, List.map_nil]); first | done | rfl | (simp only [List.length_drop, List.length_take]; rfl)) ?_
  refine (slices_Compare_uint64_uint64.calls k (some ⟨w.heap.size, 0, none⟩) 4 ([a0_0, a0_1, a0_2, a0_3] : List Int) (some ⟨w.heap.size + 1, 0, none⟩) 4 ([a1_0, a1_1, a1_2, a1_3] : List Int) e_ _ (by (with_reducible repeat (first | refine Kd.C_drewN ?_ _ | refine Kd.C_drew ?_ | refine Kd.C_alloc ?_ _)); exact stamp_Order.row BA.out) (by simp) (by (with_reducible repeat (first | refine Kd.C_drewN ?_ _ | refine Kd.C_drew ?_ | refine Kd.C_alloc ?_ _)); exact stamp_Order.row BB.out) (by simp) A5.out).mono ?_
  rintro e w6 ⟨rfl, hb0⟩
  have hb := (by first | exact hb0 | exact hb0.below : Below _ _ w6)
  clear hb0
  refine ⟨_, rfl, ?_⟩
  have n0_ := Aside0.mk (blk_below (g := w.heap.size) (o := .cells #[.int .u64 a0_0, .int .u64 a0_1, .int .u64 a0_2, .int .u64 a0_3, .int .i64 a0_4] 26 (0, 0)) (by (with_reducible repeat (first | refine blk_drewN ?_ _ | refine blk_drew ?_ | refine blk_alloc ?_ _)); exact BA.out) hb)
  have n1_ := Aside0.mk (blk_below (g := w.heap.size + 1) (o := .cells #[.int .u64 a1_0, .int .u64 a1_1, .int .u64 a1_2, .int .u64 a1_3, .int .i64 a1_4] 26 (0, 0)) (by (with_reducible repeat (first | refine blk_drewN ?_ _ | refine blk_drew ?_ | refine blk_alloc ?_ _)); exact BB.out) hb)
  have n2_ := Aside0.mk (below_step (by repeat (first | (with_reducible first | exact HB.out | apply below_alloc | apply pw_below_drewN | apply below_drew1) | exact HB.out)) hb)
  clear BA BB HB
  have BA := n0_
  have BB := n1_
  have HB := n2_
  clear n0_ n1_ n2_
  clear hb
  refine hK.out _ _ ⟨(blk_cell BA.out 0).trans rfl, (blk_cell BA.out 1).trans rfl, (blk_cell BA.out 2).trans rfl, (blk_cell BA.out 3).trans rfl, (blk_cell BA.out 4).trans rfl, (blk_cell BB.out 0).trans rfl, (blk_cell BB.out 1).trans rfl, (blk_cell BB.out 2).trans rfl, (blk_cell BB.out 3).trans rfl, (blk_cell BB.out 4).trans rfl⟩ (fun hHeld => ?_)
  clear hK K
  refine norm_ (a' := ?_) ?_ ?_
  rotate_left
  · show Act.put _ (some 24) _ = _
    simp only [Act.put, List.setIfInBounds_toArray, List.set_cons_zero, List.set_cons_succ, i64_w, i32_w]
    rfl
  refine one_ (i := 17) (N := some 25) #[true, true, true, true, true, true, true, true, true, true, true, true, true, true, true, true, true, true, false, false] rfl rfl (by kernel_rfl) (by decide) (fun K hK => ?_)
  refine Kd.R_lit_step (Kd.int .i64) _ 3 ?hg (N := 25) ?hd (xs := ([c_, d_, e_] : List Int)) (inner := [.int .i64 c_, .int .i64 d_, .int .i64 e_]) (ok := fun _ => True) (okp := fun _ => True) ?hr ?hp (fun _ hk => hk) trivial (Below.refl _ _) (Nat.le_refl _) (by simp) ?_
  case hd => rfl
  case hg => rfl
  case hr => first | (go_simp; done) | (go_simp; rfl)
  case hp => exact (Reps.one (show Kd.M (Kd.int .i64) _ _ _ c_ [.int .i64 c_] from rfl) (Reps.one (show Kd.M (Kd.int .i64) _ _ _ d_ [.int .i64 d_] from rfl) (Reps.one (show Kd.M (Kd.int .i64) _ _ _ e_ [.int .i64 e_] from rfl) (Reps.none _ _))))
  intro v7 w7 ho7 hb hg_ hnew_
  clear hg_ hnew_
  have HO := Aside0.mk ho7
  clear ho7
  have n0_ := Aside0.mk (blk_below (g := w.heap.size) (o := .cells #[.int .u64 a0_0, .int .u64 a0_1, .int .u64 a0_2, .int .u64 a0_3, .int .i64 a0_4] 26 (0, 0)) (by (with_reducible repeat (first | refine blk_drewN ?_ _ | refine blk_drew ?_ | refine blk_alloc ?_ _)); exact BA.out) hb)
  have n1_ := Aside0.mk (blk_below (g := w.heap.size + 1) (o := .cells #[.int .u64 a1_0, .int .u64 a1_1, .int .u64 a1_2, .int .u64 a1_3, .int .i64 a1_4] 26 (0, 0)) (by (with_reducible repeat (first | refine blk_drewN ?_ _ | refine blk_drew ?_ | refine blk_alloc ?_ _)); exact BB.out) hb)
  have n2_ := Aside0.mk (below_step (by repeat (first | (with_reducible first | exact HB.out | apply below_alloc | apply pw_below_drewN | apply below_drew1) | exact HB.out)) hb)
  clear BA BB HB
  have BA := n0_
  have BB := n1_
  have HB := n2_
  clear n0_ n1_ n2_
  clear hb
  obtain ⟨Ao, co, eo⟩ := Kd.R_slice HO.out
  subst eo
  refine hK.out _ _ ⟨(blk_cell BA.out 0).trans rfl, (blk_cell BA.out 1).trans rfl, (blk_cell BA.out 2).trans rfl, (blk_cell BA.out 3).trans rfl, (blk_cell BA.out 4).trans rfl, (blk_cell BB.out 0).trans rfl, (blk_cell BB.out 1).trans rfl, (blk_cell BB.out 2).trans rfl, (blk_cell BB.out 3).trans rfl, (blk_cell BB.out 4).trans rfl⟩ (fun hHeld => ?_)
  clear hK K
  refine norm_ (a' := ?_) ?_ ?_
  rotate_left
  · show Act.put _ (some 25) _ = _
    simp only [Act.put, List.setIfInBounds_toArray, List.set_cons_zero, List.set_cons_succ, i64_w, i32_w]
    rfl
  refine one_ (i := 18) (N := some 26) #[true, true, true, true, true, true, true, true, true, true, true, true, true, true, true, true, true, true, true, false] rfl rfl (by kernel_rfl) (by decide) (fun K hK => ?_)
  refine goes_ Tryd.func42 (by kernel_rfl) rfl #[.slice Ao ([c_, d_, e_] : List Int).length co] (by rfl) rfl rfl (by (try simp only [List.map_toArray, List.map_cons, List.map_nil]); first | done | rfl | (simp only [List.length_drop, List.length_take]; rfl)) ?_
  refine (cmp_Or_int.calls k Ao co ([c_, d_, e_] : List Int) r _ (by (with_reducible repeat (first | refine Kd.C_drewN ?_ _ | refine Kd.C_drew ?_ | refine Kd.C_alloc ?_ _)); exact (Kd.R_reads' HO.out).2.2) (Kd.R_reads' HO.out).2.1 A6.out).mono ?_
  rintro e w8 ⟨rfl, hb0⟩
  have hb := (by first | exact hb0 | exact hb0.below : Below _ _ w8)
  clear hb0
  refine ⟨_, rfl, ?_⟩
  have n0_ := Aside0.mk (blk_below (g := w.heap.size) (o := .cells #[.int .u64 a0_0, .int .u64 a0_1, .int .u64 a0_2, .int .u64 a0_3, .int .i64 a0_4] 26 (0, 0)) (by (with_reducible repeat (first | refine blk_drewN ?_ _ | refine blk_drew ?_ | refine blk_alloc ?_ _)); exact BA.out) hb)
  have n1_ := Aside0.mk (blk_below (g := w.heap.size + 1) (o := .cells #[.int .u64 a1_0, .int .u64 a1_1, .int .u64 a1_2, .int .u64 a1_3, .int .i64 a1_4] 26 (0, 0)) (by (with_reducible repeat (first | refine blk_drewN ?_ _ | refine blk_drew ?_ | refine blk_alloc ?_ _)); exact BB.out) hb)
  have n2_ := Aside0.mk (below_step (by repeat (first | (with_reducible first | exact HB.out | apply below_alloc | apply pw_below_drewN | apply below_drew1) | exact HB.out)) hb)
  clear BA BB HB
  have BA := n0_
  have BB := n1_
  have HB := n2_
  clear n0_ n1_ n2_
  clear hb
  refine hK.out _ _ ⟨(blk_cell BA.out 0).trans rfl, (blk_cell BA.out 1).trans rfl, (blk_cell BA.out 2).trans rfl, (blk_cell BA.out 3).trans rfl, (blk_cell BA.out 4).trans rfl, (blk_cell BB.out 0).trans rfl, (blk_cell BB.out 1).trans rfl, (blk_cell BB.out 2).trans rfl, (blk_cell BB.out 3).trans rfl, (blk_cell BB.out 4).trans rfl⟩ (fun hHeld => ?_)
  clear hK K
  refine norm_ (a' := ?_) ?_ ?_
  rotate_left
  · show Act.put _ (some 26) _ = _
    simp only [Act.put, List.setIfInBounds_toArray, List.set_cons_zero, List.set_cons_succ, i64_w, i32_w]
    rfl
  refine pure_ (i := 19) (N := some 4) (v := ?_) (a' := ?_) #[true, true, true, true, true, true, true, true, true, true, true, true, true, true, true, true, true, true, true, true] rfl rfl (by kernel_rfl) (fun _ _ _ h => h) (Or.inl ⟨by rfl, ?_⟩) ?_ ?_
  rotate_left
  · intro w'
    go_simp
    with_reducible rfl
  rotate_left
  · simp only [Act.put, List.setIfInBounds_toArray, List.set_cons_zero, List.set_cons_succ, i64_w, i32_w]
    rfl
  refine done_ (by kernel_rfl) ?_
  try go_wp2
  go_ret
  exact ⟨by first | rfl | simp, by repeat (first | (with_reducible first | exact HB.out | apply below_alloc | apply pw_below_drewN | apply below_drew1) | exact HB.out)⟩


end Go.Proofs.YtdlagefpglhdoaaDoor.Q

-- Written by this session's own driver (wip/hybrid.py) of the kit's printer; contracts marked FOREIGN are by hand.
namespace Go.Proofs.YtdlagefpglhdoaaDoor.Q
open Go.RowKit Go.Proofs.YtdlagefpglhdoaaDoorW.PrintWords Go.Proofs.YtdlagefpglhdoaaDoorW.PrintLast Go.Proofs.YtdlagefpglhdoaaDoorW.PrintMore
attribute [local go_sem] max2_int min2_int max_two min_two max_three min_three max_four min_four   -- for this text's walks alone
set_option linter.unusedVariables false
set_option linter.unusedSimpArgs false

/-! ### stamp_Later: function 15 -/
-- FOREIGN: a function handed in
def stamp_Later.f (k : Nat) (a0_0 a0_1 a0_2 a0_3 a0_4 a1_0 a1_1 a1_2 a1_3 a1_4 : Int) : Option (Int × Int × Int × Int × Int) := (stamp_Order.f k a0_0 a0_1 a0_2 a0_3 a0_4 a1_0 a1_1 a1_2 a1_3 a1_4).bind fun r => if 0 < r then some (a0_0, a0_1, a0_2, a0_3, a0_4) else some (a1_0, a1_1, a1_2, a1_3, a1_4)
theorem stamp_Later.mono : ∀ a0_0 a0_1 a0_2 a0_3 a0_4 a1_0 a1_1 a1_2 a1_3 a1_4 k, LeO (stamp_Later.f k a0_0 a0_1 a0_2 a0_3 a0_4 a1_0 a1_1 a1_2 a1_3 a1_4) (stamp_Later.f (k + 1) a0_0 a0_1 a0_2 a0_3 a0_4 a1_0 a1_1 a1_2 a1_3 a1_4) := fun a0_0 a0_1 a0_2 a0_3 a0_4 a1_0 a1_1 a1_2 a1_3 a1_4 k => LeO.bind (stamp_Order.mono a0_0 a0_1 a0_2 a0_3 a0_4 a1_0 a1_1 a1_2 a1_3 a1_4 k) (fun _ => LeO.refl _)
theorem stamp_Later.boxes3 (w : World) (xs ys zs : Array Value) (t : TypeId) (W : World) (h : ((w.alloc (.cells xs t)).alloc (.cells ys t)).alloc (.cells zs t) = W) :
    W.heap[w.heap.size]? = some (.cells xs t (0,0)) ∧ W.heap[w.heap.size+1]? = some (.cells ys t (0,0)) ∧ W.heap[w.heap.size+1+1]? = some (.cells zs t (0,0)) ∧ Below w.heap.size w W := by
  subst h
  have s1 : (w.alloc (.cells xs t)).heap.size = w.heap.size + 1 := by simp [World.alloc, -World.alloc_eq]
  have s2 : ((w.alloc (.cells xs t)).alloc (.cells ys t)).heap.size = w.heap.size + 1 + 1 := by simp [World.alloc, -World.alloc_eq]
  refine ⟨blk_alloc (blk_alloc (blk_new _ _) _) _, ?_, ?_, below_alloc (below_alloc (below_alloc (Below.refl _ _) _) _) _⟩
  · rw [← s1]; exact blk_alloc (blk_new _ _) _
  · rw [← s2]; exact blk_new _ _
set_option maxHeartbeats 8000000 in
set_option maxRecDepth 100000 in
theorem stamp_Later.overP (k : Nat) (a0_0 a0_1 a0_2 a0_3 a0_4 a1_0 a1_1 a1_2 a1_3 a1_4 : Int) (r : Int) (w : World) (h : stamp_Order.f k a0_0 a0_1 a0_2 a0_3 a0_4 a1_0 a1_1 a1_2 a1_3 a1_4 = some r) (c : 0 < r) :
    Calls Tryd.prog 39 #[.agg #[.int .u64 a0_0, .int .u64 a0_1, .int .u64 a0_2, .int .u64 a0_3, .int .i64 a0_4], .agg #[.int .u64 a1_0, .int .u64 a1_1, .int .u64 a1_2, .int .u64 a1_3, .int .i64 a1_4], .func (.func 21) #[] #[]] w fun e w' => e = .returned (.agg #[.int .u64 a0_0, .int .u64 a0_1, .int .u64 a0_2, .int .u64 a0_3, .int .i64 a0_4]) ∧ Below w.heap.size w w' := by
  have hus := Tryd.underlying26
  have huv := Tryd.underlying24
  have hu2 := Tryd.underlying22
  have hui := Tryd.underlying3
  replace h := Aside0.mk h
  have cd : decide (0 < r) = true := by simpa using c
  clear c
  go_enter Tryd.func39, Tryd.ntmps39
  go_wp2_with (go_at_call 21; refine (stamp_Order.calls k a0_0 a0_1 a0_2 a0_3 a0_4 a1_0 a1_1 a1_2 a1_3 a1_4 r _ h.out).mono ?_; rintro e w1 ⟨rfl, hb⟩; have hX := stamp_Later.boxes3 w #[.int .u64 a0_0, .int .u64 a0_1, .int .u64 a0_2, .int .u64 a0_3, .int .i64 a0_4] #[.int .u64 a1_0, .int .u64 a1_1, .int .u64 a1_2, .int .u64 a1_3, .int .i64 a1_4] #[.int .u64 0, .int .u64 0, .int .u64 0, .int .u64 0, .int .i64 0] 26 _ rfl; have hA := Aside0.mk (blk_below hX.1 hb); have hB := Aside0.mk (blk_below hX.2.1 hb); have hC := Aside0.mk (blk_below hX.2.2.1 hb); have HB := Aside0.mk (below_step hX.2.2.2 hb); clear hX; clear hb; have a_0 := (blk_cell hA.out 0).trans rfl; have a_1 := (blk_cell hA.out 1).trans rfl; have a_2 := (blk_cell hA.out 2).trans rfl; have a_3 := (blk_cell hA.out 3).trans rfl; have a_4 := (blk_cell hA.out 4).trans rfl; have b_0 := (blk_cell hB.out 0).trans rfl; have b_1 := (blk_cell hB.out 1).trans rfl; have b_2 := (blk_cell hB.out 2).trans rfl; have b_3 := (blk_cell hB.out 3).trans rfl; have b_4 := (blk_cell hB.out 4).trans rfl; have d_0 := (blk_cell hC.out 0).trans rfl; have d_1 := (blk_cell hC.out 1).trans rfl; have d_2 := (blk_cell hC.out 2).trans rfl; have d_3 := (blk_cell hC.out 3).trans rfl; have d_4 := (blk_cell hC.out 4).trans rfl; have f_0 := blk_frozen hC.out 0; have f_1 := blk_frozen hC.out 1; have f_2 := blk_frozen hC.out 2; have f_3 := blk_frozen hC.out 3; have f_4 := blk_frozen hC.out 4)
  clear a_0 a_1 a_2 a_3 a_4 b_0 b_1 b_2 b_3 b_4 d_0 d_1 d_2 d_3 d_4 f_0 f_1 f_2 f_3 f_4
  have GC : w.heap.size ≤ w.heap.size + 1 + 1 := by omega
  have hC1 := Aside0.mk (blk_put (blk_put (blk_put (blk_put (blk_put hC.out 0 (.int .u64 a0_0) rfl) 1 (.int .u64 a0_1) rfl) 2 (.int .u64 a0_2) rfl) 3 (.int .u64 a0_3) rfl) 4 (.int .i64 a0_4) (cs' := #[.int .u64 a0_0, .int .u64 a0_1, .int .u64 a0_2, .int .u64 a0_3, .int .i64 a0_4]) rfl)
  have HB1 := Aside0.mk (below_set (j := 4) (v := .int .i64 a0_4) (below_set (j := 3) (v := .int .u64 a0_3) (below_set (j := 2) (v := .int .u64 a0_2) (below_set (j := 1) (v := .int .u64 a0_1) (below_set (j := 0) (v := .int .u64 a0_0) HB.out GC) GC) GC) GC) GC)
  clear hA hB hC HB
  generalize (((((w1.setCell ⟨w.heap.size + 1 + 1, 0, none⟩ (.int .u64 a0_0)).setCell ⟨w.heap.size + 1 + 1, 1, none⟩ (.int .u64 a0_1)).setCell ⟨w.heap.size + 1 + 1, 2, none⟩ (.int .u64 a0_2)).setCell ⟨w.heap.size + 1 + 1, 3, none⟩ (.int .u64 a0_3)).setCell ⟨w.heap.size + 1 + 1, 4, none⟩ (.int .i64 a0_4)) = W5 at *
  have d0 := (blk_cell hC1.out 0).trans rfl
  have d1 := (blk_cell hC1.out 1).trans rfl
  have d2 := (blk_cell hC1.out 2).trans rfl
  have d3 := (blk_cell hC1.out 3).trans rfl
  have d4 := (blk_cell hC1.out 4).trans rfl
  refine bodyPost_ret (v := .agg #[.int .u64 a0_0, .int .u64 a0_1, .int .u64 a0_2, .int .u64 a0_3, .int .i64 a0_4]) (by simp [results, Tryd.results39, go_sem, hus, huv, hu2, hui, d0, d1, d2, d3, d4]) rfl ⟨rfl, HB1.out⟩
set_option maxHeartbeats 8000000 in
set_option maxRecDepth 100000 in
theorem stamp_Later.overN (k : Nat) (a0_0 a0_1 a0_2 a0_3 a0_4 a1_0 a1_1 a1_2 a1_3 a1_4 : Int) (r : Int) (w : World) (h : stamp_Order.f k a0_0 a0_1 a0_2 a0_3 a0_4 a1_0 a1_1 a1_2 a1_3 a1_4 = some r) (c : ¬ 0 < r) :
    Calls Tryd.prog 39 #[.agg #[.int .u64 a0_0, .int .u64 a0_1, .int .u64 a0_2, .int .u64 a0_3, .int .i64 a0_4], .agg #[.int .u64 a1_0, .int .u64 a1_1, .int .u64 a1_2, .int .u64 a1_3, .int .i64 a1_4], .func (.func 21) #[] #[]] w fun e w' => e = .returned (.agg #[.int .u64 a1_0, .int .u64 a1_1, .int .u64 a1_2, .int .u64 a1_3, .int .i64 a1_4]) ∧ Below w.heap.size w w' := by
  have hus := Tryd.underlying26
  have huv := Tryd.underlying24
  have hu2 := Tryd.underlying22
  have hui := Tryd.underlying3
  replace h := Aside0.mk h
  have cd : decide (0 < r) = false := by simpa using c
  clear c
  go_enter Tryd.func39, Tryd.ntmps39
  go_wp2_with (go_at_call 21; refine (stamp_Order.calls k a0_0 a0_1 a0_2 a0_3 a0_4 a1_0 a1_1 a1_2 a1_3 a1_4 r _ h.out).mono ?_; rintro e w1 ⟨rfl, hb⟩; have hX := stamp_Later.boxes3 w #[.int .u64 a0_0, .int .u64 a0_1, .int .u64 a0_2, .int .u64 a0_3, .int .i64 a0_4] #[.int .u64 a1_0, .int .u64 a1_1, .int .u64 a1_2, .int .u64 a1_3, .int .i64 a1_4] #[.int .u64 0, .int .u64 0, .int .u64 0, .int .u64 0, .int .i64 0] 26 _ rfl; have hA := Aside0.mk (blk_below hX.1 hb); have hB := Aside0.mk (blk_below hX.2.1 hb); have hC := Aside0.mk (blk_below hX.2.2.1 hb); have HB := Aside0.mk (below_step hX.2.2.2 hb); clear hX; clear hb; have a_0 := (blk_cell hA.out 0).trans rfl; have a_1 := (blk_cell hA.out 1).trans rfl; have a_2 := (blk_cell hA.out 2).trans rfl; have a_3 := (blk_cell hA.out 3).trans rfl; have a_4 := (blk_cell hA.out 4).trans rfl; have b_0 := (blk_cell hB.out 0).trans rfl; have b_1 := (blk_cell hB.out 1).trans rfl; have b_2 := (blk_cell hB.out 2).trans rfl; have b_3 := (blk_cell hB.out 3).trans rfl; have b_4 := (blk_cell hB.out 4).trans rfl; have d_0 := (blk_cell hC.out 0).trans rfl; have d_1 := (blk_cell hC.out 1).trans rfl; have d_2 := (blk_cell hC.out 2).trans rfl; have d_3 := (blk_cell hC.out 3).trans rfl; have d_4 := (blk_cell hC.out 4).trans rfl; have f_0 := blk_frozen hC.out 0; have f_1 := blk_frozen hC.out 1; have f_2 := blk_frozen hC.out 2; have f_3 := blk_frozen hC.out 3; have f_4 := blk_frozen hC.out 4)
  clear a_0 a_1 a_2 a_3 a_4 b_0 b_1 b_2 b_3 b_4 d_0 d_1 d_2 d_3 d_4 f_0 f_1 f_2 f_3 f_4
  have GC : w.heap.size ≤ w.heap.size + 1 + 1 := by omega
  have hC1 := Aside0.mk (blk_put (blk_put (blk_put (blk_put (blk_put hC.out 0 (.int .u64 a1_0) rfl) 1 (.int .u64 a1_1) rfl) 2 (.int .u64 a1_2) rfl) 3 (.int .u64 a1_3) rfl) 4 (.int .i64 a1_4) (cs' := #[.int .u64 a1_0, .int .u64 a1_1, .int .u64 a1_2, .int .u64 a1_3, .int .i64 a1_4]) rfl)
  have HB1 := Aside0.mk (below_set (j := 4) (v := .int .i64 a1_4) (below_set (j := 3) (v := .int .u64 a1_3) (below_set (j := 2) (v := .int .u64 a1_2) (below_set (j := 1) (v := .int .u64 a1_1) (below_set (j := 0) (v := .int .u64 a1_0) HB.out GC) GC) GC) GC) GC)
  clear hA hB hC HB
  generalize (((((w1.setCell ⟨w.heap.size + 1 + 1, 0, none⟩ (.int .u64 a1_0)).setCell ⟨w.heap.size + 1 + 1, 1, none⟩ (.int .u64 a1_1)).setCell ⟨w.heap.size + 1 + 1, 2, none⟩ (.int .u64 a1_2)).setCell ⟨w.heap.size + 1 + 1, 3, none⟩ (.int .u64 a1_3)).setCell ⟨w.heap.size + 1 + 1, 4, none⟩ (.int .i64 a1_4)) = W5 at *
  have d0 := (blk_cell hC1.out 0).trans rfl
  have d1 := (blk_cell hC1.out 1).trans rfl
  have d2 := (blk_cell hC1.out 2).trans rfl
  have d3 := (blk_cell hC1.out 3).trans rfl
  have d4 := (blk_cell hC1.out 4).trans rfl
  refine bodyPost_ret (v := .agg #[.int .u64 a1_0, .int .u64 a1_1, .int .u64 a1_2, .int .u64 a1_3, .int .i64 a1_4]) (by simp [results, Tryd.results39, go_sem, hus, huv, hu2, hui, d0, d1, d2, d3, d4]) rfl ⟨rfl, HB1.out⟩
set_option maxHeartbeats 8000000 in
set_option maxRecDepth 100000 in
theorem stamp_Later.calls (k : Nat) (a0_0 a0_1 a0_2 a0_3 a0_4 a1_0 a1_1 a1_2 a1_3 a1_4 : Int) (r0 r1 r2 r3 r4 : Int) (w : World) (h : stamp_Later.f k a0_0 a0_1 a0_2 a0_3 a0_4 a1_0 a1_1 a1_2 a1_3 a1_4 = some (r0, r1, r2, r3, r4)) :
    Calls Tryd.prog 15 #[.agg #[.int .u64 a0_0, .int .u64 a0_1, .int .u64 a0_2, .int .u64 a0_3, .int .i64 a0_4], .agg #[.int .u64 a1_0, .int .u64 a1_1, .int .u64 a1_2, .int .u64 a1_3, .int .i64 a1_4]] w fun e w' => e = .returned (.agg #[.int .u64 r0, .int .u64 r1, .int .u64 r2, .int .u64 r3, .int .i64 r4]) ∧ Below w.heap.size w w' := by
  unfold stamp_Later.f at h
  obtain ⟨r, A1, h⟩ := Option.bind_eq_some_iff.1 h
  replace A1 := Aside0.mk A1
  have hus := Tryd.underlying26
  have huv := Tryd.underlying24
  have hu2 := Tryd.underlying22
  have hui := Tryd.underlying3
  by_cases c : 0 < r
  · rw [if_pos c] at h
    simp only [Option.some.injEq, Prod.mk.injEq] at h
    obtain ⟨rfl, rfl, rfl, rfl, rfl⟩ := h
    replace c := Aside0.mk c
    go_enter Tryd.func15, Tryd.ntmps15
    go_wp2_with (go_at_call 39; refine (stamp_Later.overP k a0_0 a0_1 a0_2 a0_3 a0_4 a1_0 a1_1 a1_2 a1_3 a1_4 r _ A1.out c.out).mono ?_; rintro e w1 ⟨rfl, hb⟩; have hX := stamp_Later.boxes3 w #[.int .u64 a0_0, .int .u64 a0_1, .int .u64 a0_2, .int .u64 a0_3, .int .i64 a0_4] #[.int .u64 a1_0, .int .u64 a1_1, .int .u64 a1_2, .int .u64 a1_3, .int .i64 a1_4] #[.int .u64 0, .int .u64 0, .int .u64 0, .int .u64 0, .int .i64 0] 26 _ rfl; have hA := Aside0.mk (blk_below hX.1 hb); have hB := Aside0.mk (blk_below hX.2.1 hb); have hC := Aside0.mk (blk_below hX.2.2.1 hb); have HB := Aside0.mk (below_step hX.2.2.2 hb); clear hX; clear hb; have a_0 := (blk_cell hA.out 0).trans rfl; have a_1 := (blk_cell hA.out 1).trans rfl; have a_2 := (blk_cell hA.out 2).trans rfl; have a_3 := (blk_cell hA.out 3).trans rfl; have a_4 := (blk_cell hA.out 4).trans rfl; have b_0 := (blk_cell hB.out 0).trans rfl; have b_1 := (blk_cell hB.out 1).trans rfl; have b_2 := (blk_cell hB.out 2).trans rfl; have b_3 := (blk_cell hB.out 3).trans rfl; have b_4 := (blk_cell hB.out 4).trans rfl; have d_0 := (blk_cell hC.out 0).trans rfl; have d_1 := (blk_cell hC.out 1).trans rfl; have d_2 := (blk_cell hC.out 2).trans rfl; have d_3 := (blk_cell hC.out 3).trans rfl; have d_4 := (blk_cell hC.out 4).trans rfl; have f_0 := blk_frozen hC.out 0; have f_1 := blk_frozen hC.out 1; have f_2 := blk_frozen hC.out 2; have f_3 := blk_frozen hC.out 3; have f_4 := blk_frozen hC.out 4)
    clear a_0 a_1 a_2 a_3 a_4 b_0 b_1 b_2 b_3 b_4 d_0 d_1 d_2 d_3 d_4 f_0 f_1 f_2 f_3 f_4
    have GC : w.heap.size ≤ w.heap.size + 1 + 1 := by omega
    have hC1 := Aside0.mk (blk_put (blk_put (blk_put (blk_put (blk_put hC.out 0 (.int .u64 a0_0) rfl) 1 (.int .u64 a0_1) rfl) 2 (.int .u64 a0_2) rfl) 3 (.int .u64 a0_3) rfl) 4 (.int .i64 a0_4) (cs' := #[.int .u64 a0_0, .int .u64 a0_1, .int .u64 a0_2, .int .u64 a0_3, .int .i64 a0_4]) rfl)
    have HB1 := Aside0.mk (below_set (j := 4) (v := .int .i64 a0_4) (below_set (j := 3) (v := .int .u64 a0_3) (below_set (j := 2) (v := .int .u64 a0_2) (below_set (j := 1) (v := .int .u64 a0_1) (below_set (j := 0) (v := .int .u64 a0_0) HB.out GC) GC) GC) GC) GC)
    clear hA hB hC HB
    generalize (((((w1.setCell ⟨w.heap.size + 1 + 1, 0, none⟩ (.int .u64 a0_0)).setCell ⟨w.heap.size + 1 + 1, 1, none⟩ (.int .u64 a0_1)).setCell ⟨w.heap.size + 1 + 1, 2, none⟩ (.int .u64 a0_2)).setCell ⟨w.heap.size + 1 + 1, 3, none⟩ (.int .u64 a0_3)).setCell ⟨w.heap.size + 1 + 1, 4, none⟩ (.int .i64 a0_4)) = W5 at *
    have d0 := (blk_cell hC1.out 0).trans rfl
    have d1 := (blk_cell hC1.out 1).trans rfl
    have d2 := (blk_cell hC1.out 2).trans rfl
    have d3 := (blk_cell hC1.out 3).trans rfl
    have d4 := (blk_cell hC1.out 4).trans rfl
    refine bodyPost_ret (v := .agg #[.int .u64 a0_0, .int .u64 a0_1, .int .u64 a0_2, .int .u64 a0_3, .int .i64 a0_4]) (by simp [results, Tryd.results15, go_sem, hus, huv, hu2, hui, d0, d1, d2, d3, d4]) rfl ⟨rfl, HB1.out⟩
  · rw [if_neg c] at h
    simp only [Option.some.injEq, Prod.mk.injEq] at h
    obtain ⟨rfl, rfl, rfl, rfl, rfl⟩ := h
    replace c := Aside0.mk c
    go_enter Tryd.func15, Tryd.ntmps15
    go_wp2_with (go_at_call 39; refine (stamp_Later.overN k a0_0 a0_1 a0_2 a0_3 a0_4 a1_0 a1_1 a1_2 a1_3 a1_4 r _ A1.out c.out).mono ?_; rintro e w1 ⟨rfl, hb⟩; have hX := stamp_Later.boxes3 w #[.int .u64 a0_0, .int .u64 a0_1, .int .u64 a0_2, .int .u64 a0_3, .int .i64 a0_4] #[.int .u64 a1_0, .int .u64 a1_1, .int .u64 a1_2, .int .u64 a1_3, .int .i64 a1_4] #[.int .u64 0, .int .u64 0, .int .u64 0, .int .u64 0, .int .i64 0] 26 _ rfl; have hA := Aside0.mk (blk_below hX.1 hb); have hB := Aside0.mk (blk_below hX.2.1 hb); have hC := Aside0.mk (blk_below hX.2.2.1 hb); have HB := Aside0.mk (below_step hX.2.2.2 hb); clear hX; clear hb; have a_0 := (blk_cell hA.out 0).trans rfl; have a_1 := (blk_cell hA.out 1).trans rfl; have a_2 := (blk_cell hA.out 2).trans rfl; have a_3 := (blk_cell hA.out 3).trans rfl; have a_4 := (blk_cell hA.out 4).trans rfl; have b_0 := (blk_cell hB.out 0).trans rfl; have b_1 := (blk_cell hB.out 1).trans rfl; have b_2 := (blk_cell hB.out 2).trans rfl; have b_3 := (blk_cell hB.out 3).trans rfl; have b_4 := (blk_cell hB.out 4).trans rfl; have d_0 := (blk_cell hC.out 0).trans rfl; have d_1 := (blk_cell hC.out 1).trans rfl; have d_2 := (blk_cell hC.out 2).trans rfl; have d_3 := (blk_cell hC.out 3).trans rfl; have d_4 := (blk_cell hC.out 4).trans rfl; have f_0 := blk_frozen hC.out 0; have f_1 := blk_frozen hC.out 1; have f_2 := blk_frozen hC.out 2; have f_3 := blk_frozen hC.out 3; have f_4 := blk_frozen hC.out 4)
    clear a_0 a_1 a_2 a_3 a_4 b_0 b_1 b_2 b_3 b_4 d_0 d_1 d_2 d_3 d_4 f_0 f_1 f_2 f_3 f_4
    have GC : w.heap.size ≤ w.heap.size + 1 + 1 := by omega
    have hC1 := Aside0.mk (blk_put (blk_put (blk_put (blk_put (blk_put hC.out 0 (.int .u64 a1_0) rfl) 1 (.int .u64 a1_1) rfl) 2 (.int .u64 a1_2) rfl) 3 (.int .u64 a1_3) rfl) 4 (.int .i64 a1_4) (cs' := #[.int .u64 a1_0, .int .u64 a1_1, .int .u64 a1_2, .int .u64 a1_3, .int .i64 a1_4]) rfl)
    have HB1 := Aside0.mk (below_set (j := 4) (v := .int .i64 a1_4) (below_set (j := 3) (v := .int .u64 a1_3) (below_set (j := 2) (v := .int .u64 a1_2) (below_set (j := 1) (v := .int .u64 a1_1) (below_set (j := 0) (v := .int .u64 a1_0) HB.out GC) GC) GC) GC) GC)
    clear hA hB hC HB
    generalize (((((w1.setCell ⟨w.heap.size + 1 + 1, 0, none⟩ (.int .u64 a1_0)).setCell ⟨w.heap.size + 1 + 1, 1, none⟩ (.int .u64 a1_1)).setCell ⟨w.heap.size + 1 + 1, 2, none⟩ (.int .u64 a1_2)).setCell ⟨w.heap.size + 1 + 1, 3, none⟩ (.int .u64 a1_3)).setCell ⟨w.heap.size + 1 + 1, 4, none⟩ (.int .i64 a1_4)) = W5 at *
    have d0 := (blk_cell hC1.out 0).trans rfl
    have d1 := (blk_cell hC1.out 1).trans rfl
    have d2 := (blk_cell hC1.out 2).trans rfl
    have d3 := (blk_cell hC1.out 3).trans rfl
    have d4 := (blk_cell hC1.out 4).trans rfl
    refine bodyPost_ret (v := .agg #[.int .u64 a1_0, .int .u64 a1_1, .int .u64 a1_2, .int .u64 a1_3, .int .i64 a1_4]) (by simp [results, Tryd.results15, go_sem, hus, huv, hu2, hui, d0, d1, d2, d3, d4]) rfl ⟨rfl, HB1.out⟩


end Go.Proofs.YtdlagefpglhdoaaDoor.Q

-- Written by this session's own driver (wip/hybrid.py) of the kit's printer; contracts marked FOREIGN are by hand.
namespace Go.Proofs.YtdlagefpglhdoaaDoor.Q
open Go.RowKit Go.Proofs.YtdlagefpglhdoaaDoorW.PrintWords Go.Proofs.YtdlagefpglhdoaaDoorW.PrintLast Go.Proofs.YtdlagefpglhdoaaDoorW.PrintMore
attribute [local go_sem] max2_int min2_int max_two min_two max_three min_three max_four min_four   -- for this text's walks alone
set_option linter.unusedVariables false
set_option linter.unusedSimpArgs false

/-! ### stamp_Seen: function 23 -/
def stamp_Seen.f (a0_0 : Int) (a0_1 : Int) (a0_2 : Int) (a0_3 : Int) (a0_4 : Int) (a1_0 : Int) (a1_1 : Int) (a1_2 : Int) (a1_3 : Int) : Option (Bool) := (vec_Leq.f a0_0 a0_1 a0_2 a0_3 a1_0 a1_1 a1_2 a1_3).bind fun t134 => (some t134)
set_option maxHeartbeats 8000000 in
set_option maxRecDepth 100000 in
theorem stamp_Seen.calls (a0_0 : Int) (a0_1 : Int) (a0_2 : Int) (a0_3 : Int) (a0_4 : Int) (a1_0 : Int) (a1_1 : Int) (a1_2 : Int) (a1_3 : Int) (r : Bool) (w : World) (h : stamp_Seen.f a0_0 a0_1 a0_2 a0_3 a0_4 a1_0 a1_1 a1_2 a1_3 = some r) :
    Calls Tryd.prog 23 #[.agg #[.int .u64 a0_0, .int .u64 a0_1, .int .u64 a0_2, .int .u64 a0_3, .int .i64 a0_4], .agg #[.int .u64 a1_0, .int .u64 a1_1, .int .u64 a1_2, .int .u64 a1_3]] w fun e w' => e = .returned (.bool r) ∧ Below w.heap.size w w' := by
  have hu26 := Tryd.underlying26
  have hu24 := Tryd.underlying24
  have HB := Aside0.mk (Below.refl w.heap.size w)
  have H : ((vec_Leq.f a0_0 a0_1 a0_2 a0_3 a1_0 a1_1 a1_2 a1_3).bind fun t134 => (some t134)) = some r := h
  clear h
  replace H := Option.bind_eq_some_iff.mp H
  obtain ⟨t134, A30, H⟩ := H
  replace H : (some t134) = some r := H
  have A3 := Aside0.mk A30
  clear A30
  obtain rfl := Option.some.inj H
  go_enter Tryd.func23, Tryd.ntmps23
  go_wp2_with (first | ((with_reducible refine gate_dst (N := 2) rfl ?_); refine box_event ?hg (N := 2) ?hd (cs := #[.int .u64 a0_0, .int .u64 a0_1, .int .u64 a0_2, .int .u64 a0_3, .int .i64 a0_4]) (t := 26) ?hr ?_; (case hd => rfl); (case hg => rfl); (case hr => first | (go_simp; done) | (go_simp; rfl)); intro gb132 hg w4 hbox hb; have BK132 := Aside0.mk (hbox); have GW132 := Kw_ HB hg; have GE132 := GW132; replace HB := Ks_ HB hb; clear hb hbox hg) | ((with_reducible refine gate_dst (N := 3) rfl ?_); refine box_event ?hg (N := 3) ?hd (cs := #[.int .u64 a1_0, .int .u64 a1_1, .int .u64 a1_2, .int .u64 a1_3]) (t := 24) ?hr ?_; (case hd => rfl); (case hg => rfl); (case hr => first | (go_simp; done) | (go_simp; rfl)); intro gb133 hg w5 hbox hb; have BK133 := Aside0.mk (hbox); have GW133 := Kw_ HB hg; have GE133 := GW133; have NB132_133 := Kl_ BK132 hg; have NB133_132 := Kr_ BK132 hg; replace BK132 := Kb_ BK132 hb; replace HB := Ks_ HB hb; clear hb hbox hg; have hnb6 := NB132_133.out; have hnc6 := NB133_132.out; obtain ⟨hcz7_0, hcz7_1, hcz7_2, hcz7_3, hcz7_4, hfz7_0, hfz7_1, hfz7_2, hfz7_3, hfz7_4⟩ := Ke5_ BK132.out; obtain ⟨hcz8_0, hcz8_1, hcz8_2, hcz8_3, hfz8_0, hfz8_1, hfz8_2, hfz8_3⟩ := Ke4_ BK133.out) | ((with_reducible refine gate_callee (f := 49) rfl ?_); refine goesL_ (some 8) rfl rfl Tryd.func49 (by kernel_rfl) rfl #[.agg #[.int .u64 a0_0, .int .u64 a0_1, .int .u64 a0_2, .int .u64 a0_3], .agg #[.int .u64 a1_0, .int .u64 a1_1, .int .u64 a1_2, .int .u64 a1_3]] rfl (by (try simp only [List.map_toArray, List.map_cons, List.map_nil]); first | done | rfl | (simp only [List.length_drop, List.length_take]; rfl)) ?_; (with_reducible refine (vec_Leq.calls a0_0 a0_1 a0_2 a0_3 a1_0 a1_1 a1_2 a1_3 t134 _ A3.out).mono ?_); rintro e w9 ⟨rfl, hb⟩; refine ⟨_, rfl, ?_⟩; replace BK132 := Kb_ BK132 hb; replace BK133 := Kb_ BK133 hb; replace HB := Ks_ HB hb; (try clear hb); (try clear hb2); (try clear hk); (try clear hi)))
  go_ret
  exact ⟨by first | rfl | (simp [errW_none, errW_some] <;> rfl) | (simp [*, errW_none, errW_some] <;> rfl), by repeat (first | (with_reducible first | exact HB.out | apply below_alloc | apply pw_below_drewN | apply below_drew1 | refine below_set ?_ GE132.out | refine below_set ?_ GE133.out) | exact HB.out)⟩

end Go.Proofs.YtdlagefpglhdoaaDoor.Q

-- Written by this session's own driver (wip/hybrid.py) of the kit's printer; contracts marked FOREIGN are by hand.
namespace Go.Proofs.YtdlagefpglhdoaaDoor.Q
open Go.RowKit Go.Proofs.YtdlagefpglhdoaaDoorW.PrintWords Go.Proofs.YtdlagefpglhdoaaDoorW.PrintLast Go.Proofs.YtdlagefpglhdoaaDoorW.PrintMore
attribute [local go_sem] max2_int min2_int max_two min_two max_three min_three max_four min_four   -- for this text's walks alone
set_option linter.unusedVariables false
set_option linter.unusedSimpArgs false

/-! ### vec_Text: function 52 -/
-- FOREIGN: decimal numerals by the library, joined
def vec_Text.dd : Nat → Nat → List UInt8
  | 0, _ => []
  | k + 1, n => if n < 10 then [UInt8.ofNat (48 + n)] else vec_Text.dd k (n / 10) ++ [UInt8.ofNat (48 + n % 10)]
def vec_Text.num (n : Nat) : ByteArray := ⟨(vec_Text.dd 20 n).toArray⟩
def vec_Text.com : ByteArray := ⟨#[44]⟩
def vec_Text.txt (a b c d : Nat) : ByteArray := vec_Text.num a ++ vec_Text.com ++ vec_Text.num b ++ vec_Text.com ++ vec_Text.num c ++ vec_Text.com ++ vec_Text.num d
def vec_Text.f (a0_0 a0_1 a0_2 a0_3 : Int) : Option ByteArray :=
  if (0 ≤ a0_0 ∧ a0_0 < 100) ∧ (0 ≤ a0_1 ∧ a0_1 < 100) ∧ (0 ≤ a0_2 ∧ a0_2 < 100) ∧ (0 ≤ a0_3 ∧ a0_3 < 100) then some (vec_Text.txt a0_0.toNat a0_1.toNat a0_2.toNat a0_3.toNat) else none
theorem vec_Text.dd_eq : ∀ k n : Nat, 0 < k → n < 10 ^ k → vec_Text.dd k n = Lib.decDigits n
  | 0, _, h, _ => absurd h (by omega)
  | k + 1, n, _, h => by
    rw [vec_Text.dd, Lib.decDigits]
    by_cases c : n < 10
    · rw [if_pos c, dif_pos c]
    · rw [if_neg c, dif_neg c]
      rw [Nat.pow_succ] at h
      have hk : 0 < k := by
        rcases Nat.eq_zero_or_pos k with rfl | hk
        · simp at h; omega
        · exact hk
      rw [vec_Text.dd_eq k (n / 10) hk (by omega)]
theorem vec_Text.num_eq {n : Nat} (h : n < 18446744073709551616) : vec_Text.num n = ⟨(Lib.decDigits n).toArray⟩ := by
  unfold vec_Text.num
  rw [vec_Text.dd_eq 20 n (by omega) (by omega)]
theorem vec_Text.num_len {n : Nat} (h : n < 18446744073709551616) : (vec_Text.num n).data.toList.length ≤ 20 := by
  rw [vec_Text.num_eq h]
  simp only [List.toList_toArray]
  rw [Lib.decDigits_length]
  have := Lib.lt_pow_nDigits n
  rcases Nat.eq_zero_or_pos n with rfl | h1
  · rw [Lib.nDigits_small (by omega)]; omega
  · have := Lib.numDigits_eq n h1 h
    split at this <;> omega
theorem vec_Text.join_eq (x y z u : ByteArray) : (⟨(Lib.join ([x, y, z, u].map (·.data.toList)) (⟨#[44]⟩ : ByteArray).data.toList).toArray⟩ : ByteArray) = x ++ vec_Text.com ++ y ++ vec_Text.com ++ z ++ vec_Text.com ++ u := by
  apply ByteArray.ext
  apply Array.toList_inj.1
  simp [Lib.join, List.intercalate, vec_Text.com, ByteArray.data_append]
theorem vec_Text.small (i : Nat) (hi : i < 100) (w : World) :
    Calls Tryd.prog 68 #[.int .u64 (i : Int), .int .i64 10] w fun e w' => e = .returned (.string (vec_Text.num i)) ∧ w' = w := by
  have hlt : decide ((i : Int) < 100) = true := decide_eq_true (by omega)
  have hw : IntKind.i64.wrap (i : Int) = (i : Int) := by
    rw [IntKind.wrap_i64]
    omega
  rw [vec_Text.num_eq (by omega)]
  go_enter Tryd.func68, Tryd.ntmps68
  go_wp2_with (first | (go_at_call 79; refine (Tryd.internal_strconv_small i hi _).mono ?_; rintro e w' ⟨rfl, rfl⟩) | go_in)
  go_ret
  exact ⟨rfl, rfl⟩
theorem vec_Text.cells_ {e base : Nat} {ok : Nat → Prop} {w : World} {v : Value} {xs : List ByteArray} (h : Kd.string.R e w base ok v xs) (hp : 0 < xs.length) :
    ∃ g cap, v = .slice (some ⟨g, 0, none⟩) xs.length cap ∧ xs.length ≤ cap ∧ g < w.heap.size ∧ ∀ (j : Nat) x, xs[j]? = some x → w.cell? ⟨g, 0 + j, none⟩ = some (.string x) := by
  obtain ⟨g, cap, rfl, _, hg, _⟩ := Kd.R_form h hp
  obtain ⟨A, c, he, hc, hC⟩ := Kd.R_reads h
  injection he with e1 e2 e3
  subst e1 e3
  obtain ⟨ad, e, hcell⟩ := hC.2.2 hp
  cases e
  refine ⟨g, cap, rfl, hc, hg, fun j x hx => ?_⟩
  obtain ⟨c, hl, hk, hi⟩ := hcell j x hx
  have hk : c = [.string x] := hk
  have := hi 0 (.string x) (by rw [hk]; rfl)
  have e0 : (⟨g, 0, none⟩ : Addr).add (j * Kd.string.sz + 0) = ⟨g, 0 + j, none⟩ := by
    show (⟨g, 0, none⟩ : Addr).add (j * 1 + 0) = _
    rw [add_plain, Nat.mul_one, Nat.add_zero, Nat.zero_add]
  rwa [e0] at this
set_option maxHeartbeats 8000000 in
set_option maxRecDepth 100000 in
theorem vec_Text.text (a b c d : Nat) (ha : a < 18446744073709551616) (hb : b < 18446744073709551616) (hc : c < 18446744073709551616) (hd : d < 18446744073709551616) (w : World)
    (hF : ∀ W : World, Below w.heap.size w W → ∀ n : Nat, n = a ∨ n = b ∨ n = c ∨ n = d → Calls Tryd.prog 68 #[.int .u64 (n : Int), .int .i64 10] W fun e w' => e = .returned (.string (vec_Text.num n)) ∧ Below W.heap.size W w') :
    Calls Tryd.prog 52 #[.agg #[.int .u64 (a : Int), .int .u64 (b : Int), .int .u64 (c : Int), .int .u64 (d : Int)]] w fun e w' => e = .returned (.string (vec_Text.txt a b c d)) ∧ Below w.heap.size w w' := by
  have hu := Tryd.underlying24
  have hu2 := Tryd.underlying22
  have infos : (Tryd.prog.info? 9).map (fun i => (i.zero, i.size, i.bytes)) = some (some (.string ⟨#[]⟩), 1, 16) := by kernel_rfl
  have x0 := fun W => vec_Sum.at_ #[.int .u64 (a : Int), .int .u64 (b : Int), .int .u64 (c : Int), .int .u64 (d : Int)] rfl 0 (.int .u64 a) W rfl
  have x1 := fun W => vec_Sum.at_ #[.int .u64 (a : Int), .int .u64 (b : Int), .int .u64 (c : Int), .int .u64 (d : Int)] rfl 1 (.int .u64 b) W rfl
  have x2 := fun W => vec_Sum.at_ #[.int .u64 (a : Int), .int .u64 (b : Int), .int .u64 (c : Int), .int .u64 (d : Int)] rfl 2 (.int .u64 c) W rfl
  have x3 := fun W => vec_Sum.at_ #[.int .u64 (a : Int), .int .u64 (b : Int), .int .u64 (c : Int), .int .u64 (d : Int)] rfl 3 (.int .u64 d) W rfl
  simp only [Int.ofNat_eq_natCast, Int.cast_ofNat_Int] at x0 x1 x2 x3
  have hFa := fun W h => hF W h a (Or.inl rfl)
  have hFb := fun W h => hF W h b (Or.inr (Or.inl rfl))
  have hFc := fun W h => hF W h c (Or.inr (Or.inr (Or.inl rfl)))
  have hFd := fun W h => hF W h d (Or.inr (Or.inr (Or.inr rfl)))
  have la := vec_Text.num_len ha
  have lb := vec_Text.num_len hb
  have lc := vec_Text.num_len hc
  have ld := vec_Text.num_len hd
  clear hF ha hb hc hd
  unfold vec_Text.txt
  generalize vec_Text.num a = sa at *
  generalize vec_Text.num b = sb at *
  generalize vec_Text.num c = sc at *
  generalize vec_Text.num d = sd at *
  go_enter Tryd.func52, Tryd.ntmps52
  go_wp2
  generalize hW : (w.alloc (Obj.cells _ _)) = W0
  have HB0 : Below w.heap.size w W0 := by rw [← hW]; exact below_alloc (Below.refl _ _) _
  replace HB0 := Aside0.mk HB0
  clear hW
  refine wp_loop_rounds 5 ?_
  rw [rounds_succ]
  go_wp2_with (first
    | (go_at_call 68; refine (hFa _ HB0.out).mono ?_; rintro e w1 ⟨rfl, hb⟩; have HB1 := Aside0.mk (below_step HB0.out hb); clear hb)
    | ((with_reducible refine gate_builtin (b := .append) (xs := #[.tmp 10, .tmp 13]) rfl ?_); at_builtin
       refine Kd.R_append Kd.string (w0 := w) w.heap.size rfl (.tmp 10) (.tmp 13) 104 9 (.string ⟨#[]⟩) 16 rfl Tryd.underlying104 infos rfl (by decide) (by decide) (.slice none 0 0) [] sa [.string sa] (fun _ => True) (fun _ => False) rfl rfl rfl (fun _ hk => hk.elim) (fun _ _ => trivial) (Kd.R_nil _ _ _ _ _) HB1.out (below_size HB1.out) (by simp) ?_
       intro v1 w2 ho1 hb1 _ _; have HO1 := Aside0.mk ho1; have HB2 := Aside0.mk hb1; clear ho1 hb1))
  rw [rounds_succ]
  go_wp2_with (first
    | (go_at_call 68; refine (hFb _ HB2.out).mono ?_; rintro e w3 ⟨rfl, hb⟩; have HB3 := Aside0.mk (below_step HB2.out hb); have HO2 := Aside0.mk (Kd.R_below HO1.out hb); clear hb)
    | ((with_reducible refine gate_builtin (b := .append) (xs := #[.tmp 10, .tmp 13]) rfl ?_); at_builtin
       refine Kd.R_append Kd.string (w0 := w) w.heap.size rfl (.tmp 10) (.tmp 13) 104 9 (.string ⟨#[]⟩) 16 rfl Tryd.underlying104 infos rfl (by decide) (by decide) v1 ([] ++ [sa]) sb [.string sb] (fun _ => True) (fun _ => False) rfl rfl rfl (fun _ hk => hk.elim) (fun _ _ => trivial) HO2.out HB3.out (below_size HB3.out) (by simp) ?_
       intro v2 w4 ho1 hb1 _ _; have HO3 := Aside0.mk ho1; have HB4 := Aside0.mk hb1; clear ho1 hb1))
  rw [rounds_succ]
  go_wp2_with (first
    | (go_at_call 68; refine (hFc _ HB4.out).mono ?_; rintro e w5 ⟨rfl, hb⟩; have HB5 := Aside0.mk (below_step HB4.out hb); have HO4 := Aside0.mk (Kd.R_below HO3.out hb); clear hb)
    | ((with_reducible refine gate_builtin (b := .append) (xs := #[.tmp 10, .tmp 13]) rfl ?_); at_builtin
       refine Kd.R_append Kd.string (w0 := w) w.heap.size rfl (.tmp 10) (.tmp 13) 104 9 (.string ⟨#[]⟩) 16 rfl Tryd.underlying104 infos rfl (by decide) (by decide) v2 ([] ++ [sa] ++ [sb]) sc [.string sc] (fun _ => True) (fun _ => False) rfl rfl rfl (fun _ hk => hk.elim) (fun _ _ => trivial) HO4.out HB5.out (below_size HB5.out) (by simp) ?_
       intro v3 w6 ho1 hb1 _ _; have HO5 := Aside0.mk ho1; have HB6 := Aside0.mk hb1; clear ho1 hb1))
  rw [rounds_succ]
  go_wp2_with (first
    | (go_at_call 68; refine (hFd _ HB6.out).mono ?_; rintro e w7 ⟨rfl, hb⟩; have HB7 := Aside0.mk (below_step HB6.out hb); have HO6 := Aside0.mk (Kd.R_below HO5.out hb); clear hb)
    | ((with_reducible refine gate_builtin (b := .append) (xs := #[.tmp 10, .tmp 13]) rfl ?_); at_builtin
       refine Kd.R_append Kd.string (w0 := w) w.heap.size rfl (.tmp 10) (.tmp 13) 104 9 (.string ⟨#[]⟩) 16 rfl Tryd.underlying104 infos rfl (by decide) (by decide) v3 ([] ++ [sa] ++ [sb] ++ [sc]) sd [.string sd] (fun _ => True) (fun _ => False) rfl rfl rfl (fun _ hk => hk.elim) (fun _ _ => trivial) HO6.out HB7.out (below_size HB7.out) (by simp) ?_
       intro v4 w8 ho1 hb1 _ _; have HO7 := Aside0.mk ho1; have HB8 := Aside0.mk hb1; clear ho1 hb1))
  obtain ⟨g, cap, hv, hcap, hg, hcell⟩ := vec_Text.cells_ HO7.out (by simp)
  have hjoin := Tryd.strings_Join g 0 cap ([] ++ [sa] ++ [sb] ++ [sc] ++ [sd]) (⟨#[44]⟩ : ByteArray) w8 hcell hg (by show 4 ≤ 140737488355328; omega) hcap (by
    show (Lib.join ([sa, sb, sc, sd].map (·.data.toList)) (⟨#[44]⟩ : ByteArray).data.toList).length ≤ _
    simp only [List.map_cons, List.map_nil]
    rw [Lib.join_length]
    have zl : ∀ x : ByteArray, x.data.toList.length = x.size := fun x => Array.length_toList
    simp only [zl] at la lb lc ld
    simp [Lib.lens]
    omega)
  have hjoin := show Calls Tryd.prog 69 _ w8 (fun e w' => e = .returned (.string ⟨(Lib.join ([sa, sb, sc, sd].map (·.data.toList)) (⟨#[44]⟩ : ByteArray).data.toList).toArray⟩) ∧ Below w8.heap.size w8 w') from hjoin
  rw [vec_Text.join_eq sa sb sc sd] at hjoin
  clear hcell hg hcap
  subst hv
  rw [rounds_succ]
  go_wp2_with (go_at_call 69; refine hjoin.mono ?_; rintro e w9 ⟨rfl, hb⟩; have HB9 := Aside0.mk (below_step HB8.out hb); clear hb)
  go_ret
  exact ⟨by first | rfl | simp, HB9.out⟩
theorem vec_Text.calls (a0_0 a0_1 a0_2 a0_3 : Int) (r : ByteArray) (w : World) (h : vec_Text.f a0_0 a0_1 a0_2 a0_3 = some r) :
    Calls Tryd.prog 52 #[.agg #[.int .u64 a0_0, .int .u64 a0_1, .int .u64 a0_2, .int .u64 a0_3]] w fun e w' => e = .returned (.string r) ∧ Below w.heap.size w w' := by
  unfold vec_Text.f at h
  by_cases c : (0 ≤ a0_0 ∧ a0_0 < 100) ∧ (0 ≤ a0_1 ∧ a0_1 < 100) ∧ (0 ≤ a0_2 ∧ a0_2 < 100) ∧ (0 ≤ a0_3 ∧ a0_3 < 100)
  · rw [if_pos c] at h
    obtain rfl := Option.some.inj h
    obtain ⟨a, rfl⟩ := Int.eq_ofNat_of_zero_le c.1.1
    obtain ⟨b, rfl⟩ := Int.eq_ofNat_of_zero_le c.2.1.1
    obtain ⟨d, rfl⟩ := Int.eq_ofNat_of_zero_le c.2.2.1.1
    obtain ⟨e, rfl⟩ := Int.eq_ofNat_of_zero_le c.2.2.2.1
    simp only [Int.toNat_natCast]
    refine vec_Text.text a b d e (by omega) (by omega) (by omega) (by omega) w (fun W _ n hn => ?_)
    refine (vec_Text.small n (by omega) W).mono ?_
    rintro e w' ⟨rfl, rfl⟩
    exact ⟨rfl, Below.refl _ _⟩
  · rw [if_neg c] at h
    exact absurd h (by simp)


end Go.Proofs.YtdlagefpglhdoaaDoor.Q

-- Written by this session's own driver (wip/hybrid.py) of the kit's printer; contracts marked FOREIGN are by hand.
namespace Go.Proofs.YtdlagefpglhdoaaDoor.Q
open Go.RowKit Go.Proofs.YtdlagefpglhdoaaDoorW.PrintWords Go.Proofs.YtdlagefpglhdoaaDoorW.PrintLast Go.Proofs.YtdlagefpglhdoaaDoorW.PrintMore
attribute [local go_sem] max2_int min2_int max_two min_two max_three min_three max_four min_four   -- for this text's walks alone
set_option linter.unusedVariables false
set_option linter.unusedSimpArgs false

/-! ### strconv_FormatUint_68: function 68 -/
-- FOREIGN: decimal numerals by the library's table of powers of ten
def strconv_FormatUint_68.f (a0 a1 : Int) : Option ByteArray := none
theorem strconv_FormatUint_68.calls (a0 a1 : Int) (r : ByteArray) (w : World) (h : strconv_FormatUint_68.f a0 a1 = some r) :
    Calls Tryd.prog 68 #[.int .u64 a0, .int .i64 a1] w fun e w' => e = .returned (.string r) ∧ Below w.heap.size w w' := absurd h (by unfold strconv_FormatUint_68.f; simp)
def BigText.Tab (w : World) : Prop := Lib.TabIs Tryd.prog w "internal/strconv.uint64pow10" .u64 Lib.pow10Tab
theorem BigText.Tab.below {w w' : World} (h : BigText.Tab w) (hb : Below w.heap.size w w') : BigText.Tab w' := Lib.tabBelow_of_tabIs h w' hb
theorem BigText.holds0 (w : World) (T : TypeId) (nd : Nat) (hs : nd ≤ 24) : Go.Sort.Holds (fun (b : UInt8) => Value.int .u8 (b.toNat : Int)) (w.alloc (.cells Lib.zeros24 T)) w.heap.size 0 (Array.replicate nd (0 : UInt8)) := fun j hj => by
  have hj' : j < nd := by simpa using hj
  refine ⟨?_, World.frozen?_alloc_new _ _ _ _⟩
  rw [World.cell?_alloc_new, Lib.zeros24_at _ (by omega), getElem!_pos _ j hj]
  simp
theorem BigText.fin0 (w : World) (o : Obj) (dk : Array UInt8) (k : Nat) : ∃ os, (Go.Sort.putRow (fun (b : UInt8) => Value.int .u8 (b.toNat : Int)) (w.alloc o) w.heap.size 0 dk).drewN k = Go.Sort.grow (w.drewN k) os := by
  rw [Go.Sort.alloc_eq_grow]
  obtain ⟨os', _, e⟩ := Go.Sort.putRow_grow_new (fun (b : UInt8) => Value.int .u8 (b.toNat : Int)) w #[o] w.heap.size 0 dk (Nat.le_refl _)
  exact ⟨os', by rw [e]; rfl⟩
set_option maxHeartbeats 6400000 in
set_option maxRecDepth 100000 in
theorem BigText.big (u : Nat) (h100 : 100 ≤ u) (hu64 : u < 18446744073709551616) (w : World) (htab : BigText.Tab w) :
    Calls Tryd.prog 68 #[.int .u64 (u : Int), .int .i64 10] w fun e w' => e = .returned (.string (vec_Text.num u)) ∧ Below w.heap.size w w' := by
  have hu1 : 1 ≤ u := by omega
  have hnd20 : Lib.nDigits u ≤ 20 := by have := Lib.numDigits_eq u hu1 hu64; split at this <;> omega
  have hlt : decide ((u : Int) < 100) = false := decide_eq_false (by omega)
  have hal : Tryd.prog.arrayLen 119 = 24 := by simp [Program.arrayLen, Tryd.underlying119]
  have hsl : ∀ W, (Instr.sliceAt 119 (.pointer (some ⟨w.heap.size, 0, none⟩)) none (some (.int .i64 (Lib.nDigits u : Int))) none).run Tryd.prog W = .ok (.slice (some ⟨w.heap.size, 0, none⟩) (Lib.nDigits u) 24) W := fun W => by
    rw [run_sliceAt_array_h W 119 ⟨w.heap.size, 0, none⟩ (by simp [Program.arrayLen, Program.elem, Tryd.underlying119]) .i64 (Lib.nDigits u : Int) (by omega) (by rw [hal]; omega)]
    go_simp
  have hH0 := BigText.holds0 w 119 (Lib.nDigits u) (by omega)
  have hfmt := Tryd.internal_strconv_formatBase10 w.heap.size 0 24 u (Array.replicate (Lib.nDigits u) 0) (w.alloc (.cells Lib.zeros24 119)) hH0 (by rw [Array.size_replicate]; exact Lib.lt_pow_nDigits u) hu64 (by rw [Array.size_replicate]; omega)
  rw [Array.size_replicate] at hfmt
  have HH0 := Lib.hid hH0
  clear hH0 hal
  rw [vec_Text.num_eq hu64]
  go_enter Tryd.func68, Tryd.ntmps68
  go_wp2_with (first
    | (go_at_call 80; refine (Tryd.internal_strconv_numDigits u hu1 hu64 _ (Lib.tabIs_alloc htab _)).mono ?_; rintro e w' ⟨rfl, rfl⟩)
    | (go_at_call 81; fail)
    | (go_at_call 75; go_in))
  go_at_call 81
  refine hfmt.mono ?_
  rintro e w' ⟨rfl, k, v', dk, rfl, hF⟩
  have hcv : (convert 88 9 (.slice (some ⟨w.heap.size, 0, none⟩) (Lib.nDigits u) 24)).run Tryd.prog ((Go.Sort.putRow (fun (b : UInt8) => Value.int .u8 (b.toNat : Int)) (w.alloc (.cells Lib.zeros24 119)) w.heap.size 0 dk).drewN k) = .ok (.string ⟨(Lib.decDigits u).toArray⟩) ((Go.Sort.putRow (fun (b : UInt8) => Value.int .u8 (b.toNat : Int)) (w.alloc (.cells Lib.zeros24 119)) w.heap.size 0 dk).drewN k) := by
    have h := run_convert_bytes_back (P := Tryd.prog) ((Go.Sort.putRow (fun (b : UInt8) => Value.int .u8 (b.toNat : Int)) (w.alloc (.cells Lib.zeros24 119)) w.heap.size 0 dk).drewN k) 88 9 5 ⟨w.heap.size, 0, none⟩ 24 (Lib.decDigits u) Tryd.underlying88 Tryd.underlying5 Tryd.underlying9 (fun j hj => by
      rw [Lib.row_is_numeral hF j hj, Lib.add_plain, World.cell?_drewN]
      exact Go.Sort.cell?_putRow (fun (b : UInt8) => Value.int .u8 (b.toNat : Int)) _ w.heap.size 0 _ dk HH0.out (by rw [hF.size, Array.size_replicate]) j (by rw [hF.size]; rw [Lib.decDigits_length] at hj; exact hj))
    rw [Lib.decDigits_length] at h
    exact h
  go_wp2
  go_ret
  obtain ⟨os, eo⟩ := BigText.fin0 w (.cells Lib.zeros24 119) dk k
  refine ⟨rfl, ?_⟩
  rw [eo]
  exact Lib.below_grow w.heap.size w (Nat.le_refl _) k os
theorem BigText.any (u : Nat) (hu64 : u < 18446744073709551616) (w : World) (htab : BigText.Tab w) :
    Calls Tryd.prog 68 #[.int .u64 (u : Int), .int .i64 10] w fun e w' => e = .returned (.string (vec_Text.num u)) ∧ Below w.heap.size w w' := by
  by_cases c : u < 100
  · refine (vec_Text.small u c w).mono ?_
    rintro e w' ⟨rfl, rfl⟩
    exact ⟨rfl, Below.refl _ _⟩
  · exact BigText.big u (by omega) hu64 w htab
def BigText.g (a0_0 a0_1 a0_2 a0_3 : Int) : Option ByteArray :=
  if (0 ≤ a0_0 ∧ a0_0 < 18446744073709551616) ∧ (0 ≤ a0_1 ∧ a0_1 < 18446744073709551616) ∧ (0 ≤ a0_2 ∧ a0_2 < 18446744073709551616) ∧ (0 ≤ a0_3 ∧ a0_3 < 18446744073709551616) then some (vec_Text.txt a0_0.toNat a0_1.toNat a0_2.toNat a0_3.toNat) else none
theorem BigText.callsT (w0 : World) (HT : BigText.Tab w0) (w : World) (hb : Below w0.heap.size w0 w) (a0_0 a0_1 a0_2 a0_3 : Int) (r : ByteArray) (h : BigText.g a0_0 a0_1 a0_2 a0_3 = some r) :
    Calls Tryd.prog 52 #[.agg #[.int .u64 a0_0, .int .u64 a0_1, .int .u64 a0_2, .int .u64 a0_3]] w fun e w' => e = .returned (.string r) ∧ Below w.heap.size w w' := by
  unfold BigText.g at h
  by_cases c : (0 ≤ a0_0 ∧ a0_0 < 18446744073709551616) ∧ (0 ≤ a0_1 ∧ a0_1 < 18446744073709551616) ∧ (0 ≤ a0_2 ∧ a0_2 < 18446744073709551616) ∧ (0 ≤ a0_3 ∧ a0_3 < 18446744073709551616)
  · rw [if_pos c] at h
    obtain rfl := Option.some.inj h
    obtain ⟨a, rfl⟩ := Int.eq_ofNat_of_zero_le c.1.1
    obtain ⟨b, rfl⟩ := Int.eq_ofNat_of_zero_le c.2.1.1
    obtain ⟨d, rfl⟩ := Int.eq_ofNat_of_zero_le c.2.2.1.1
    obtain ⟨e, rfl⟩ := Int.eq_ofNat_of_zero_le c.2.2.2.1
    simp only [Int.toNat_natCast]
    exact vec_Text.text a b d e (by omega) (by omega) (by omega) (by omega) w (fun W hW n hn => BigText.any n (by omega) W ((HT.below hb).below hW))
  · rw [if_neg c] at h
    exact absurd h (by simp)


end Go.Proofs.YtdlagefpglhdoaaDoor.Q

-- Written by this session's own driver (wip/hybrid.py) of the kit's printer; contracts marked FOREIGN are by hand.
namespace Go.Proofs.YtdlagefpglhdoaaDoor.Q
open Go.RowKit Go.Proofs.YtdlagefpglhdoaaDoorW.PrintWords Go.Proofs.YtdlagefpglhdoaaDoorW.PrintLast Go.Proofs.YtdlagefpglhdoaaDoorW.PrintMore
attribute [local go_sem] max2_int min2_int max_two min_two max_three min_three max_four min_four   -- for this text's walks alone
set_option linter.unusedVariables false
set_option linter.unusedSimpArgs false

/-! ### strconv_Itoa_51: function 51 -/
-- FOREIGN: the library's decimal numerals
def strconv_Itoa_51.f (a0 : Int) : Option ByteArray := if 0 ≤ a0 ∧ a0 < 100 then some (vec_Text.num a0.toNat) else none
theorem strconv_Itoa_51.calls (a0 : Int) (r : ByteArray) (w : World) (h : strconv_Itoa_51.f a0 = some r) :
    Calls Tryd.prog 51 #[.int .i64 a0] w fun e w' => e = .returned (.string r) ∧ Below w.heap.size w w' := by
  unfold strconv_Itoa_51.f at h
  by_cases c : 0 ≤ a0 ∧ a0 < 100
  · rw [if_pos c] at h
    obtain rfl := Option.some.inj h
    obtain ⟨i, rfl⟩ := Int.eq_ofNat_of_zero_le c.1
    refine (Tryd.strconv_Itoa_small i (by omega) w).mono ?_
    rintro e w' ⟨rfl, rfl⟩
    refine ⟨?_, Below.refl _ _⟩
    rw [Int.toNat_natCast, vec_Text.num_eq (by omega)]
  · rw [if_neg c] at h
    exact absurd h (by simp)
def BigItoa.int (x : Int) : ByteArray := if x < 0 then ⟨#[45]⟩ ++ vec_Text.num x.natAbs else vec_Text.num x.toNat
def BigItoa.g (a0 : Int) : Option ByteArray := if -9223372036854775808 ≤ a0 ∧ a0 ≤ 9223372036854775807 then some (BigItoa.int a0) else none
theorem BigItoa.int_eq (x : Int) (h0 : -9223372036854775808 ≤ x) (h1 : x ≤ 9223372036854775807) : (⟨(Lib.itoa x).toArray⟩ : ByteArray) = BigItoa.int x := by
  unfold Lib.itoa BigItoa.int
  by_cases c : x < 0
  · rw [if_pos c, if_pos c, vec_Text.num_eq (by omega)]
    apply ByteArray.ext
    apply Array.toList_inj.1
    simp [ByteArray.data_append]
  · rw [if_neg c, if_neg c, vec_Text.num_eq (by omega)]
theorem BigItoa.callsT (w0 : World) (HT : BigText.Tab w0) (w : World) (hb : Below w0.heap.size w0 w) (a0 : Int) (r : ByteArray) (h : BigItoa.g a0 = some r) :
    Calls Tryd.prog 51 #[.int .i64 a0] w fun e w' => e = .returned (.string r) ∧ Below w.heap.size w w' := by
  unfold BigItoa.g at h
  by_cases c : -9223372036854775808 ≤ a0 ∧ a0 ≤ 9223372036854775807
  · rw [if_pos c] at h
    obtain rfl := Option.some.inj h
    refine (Tryd.strconv_Itoa a0 c.1 c.2 w (HT.below hb)).mono ?_
    rintro e w' ⟨rfl, k, os, rfl⟩
    refine ⟨?_, Lib.below_grow w.heap.size w (Nat.le_refl _) k os⟩
    rw [BigItoa.int_eq a0 c.1 c.2]
  · rw [if_neg c] at h
    exact absurd h (by simp)


end Go.Proofs.YtdlagefpglhdoaaDoor.Q

-- Written by this session's own driver (wip/hybrid.py) of the kit's printer; contracts marked FOREIGN are by hand.
namespace Go.Proofs.YtdlagefpglhdoaaDoor.Q
open Go.RowKit Go.Proofs.YtdlagefpglhdoaaDoorW.PrintWords Go.Proofs.YtdlagefpglhdoaaDoorW.PrintLast Go.Proofs.YtdlagefpglhdoaaDoorW.PrintMore
attribute [local go_sem] max2_int min2_int max_two min_two max_three min_three max_four min_four   -- for this text's walks alone
set_option linter.unusedVariables false
set_option linter.unusedSimpArgs false

/-! ### stamp_Text: function 25 -/
def stamp_Text.f (a0_0 : Int) (a0_1 : Int) (a0_2 : Int) (a0_3 : Int) (a0_4 : Int) : Option (ByteArray) := (strconv_Itoa_51.f a0_4).bind fun t157 => (if t157.size + 1 ≤ 9223372036854775807 then ((vec_Text.f a0_0 a0_1 a0_2 a0_3).bind fun t158 => (if (t157 ++ (⟨#[64]⟩ : ByteArray)).size + t158.size ≤ 9223372036854775807 then (some ((t157 ++ (⟨#[64]⟩ : ByteArray)) ++ t158)) else (none))) else (none))
def stamp_Text.T1 : Bool × List (List Nat × List Nat) := (true, [([], []), ([0], [0]), ([1], [1]), ([2], [2]), ([], []), ([4], [4]), ([5, 2], [5]), ([3, 6], [3, 6]), ([7, 6, 0, 1, 2, 3, 4, 5, 6, 7], [7])])
def stamp_Text.B1 : List Nat := [0, 1, 3, 7, 0, 16, 55, 127, 255]
theorem stamp_Text.tab1 : rtab .any (opsOf Tryd.f25 1) = stamp_Text.T1 := by kernel_rfl
theorem stamp_Text.bits1 : waitsOk stamp_Text.T1.2 stamp_Text.B1 = true := by kernel_rfl
set_option maxHeartbeats 8000000 in
set_option maxRecDepth 100000 in
theorem stamp_Text.calls (a0_0 : Int) (a0_1 : Int) (a0_2 : Int) (a0_3 : Int) (a0_4 : Int) (r : ByteArray) (w : World) (h : stamp_Text.f a0_0 a0_1 a0_2 a0_3 a0_4 = some r) :
    Calls Tryd.prog 25 #[.agg #[.int .u64 a0_0, .int .u64 a0_1, .int .u64 a0_2, .int .u64 a0_3, .int .i64 a0_4]] w fun e w' => e = .returned (.string r) ∧ Below w.heap.size w w' := by
  have hu26 := Tryd.underlying26
  have hu24 := Tryd.underlying24
  have HB := Aside0.mk (Below.refl w.heap.size w)
  have H : ((strconv_Itoa_51.f a0_4).bind fun t157 => (if t157.size + 1 ≤ 9223372036854775807 then ((vec_Text.f a0_0 a0_1 a0_2 a0_3).bind fun t158 => (if (t157 ++ (⟨#[64]⟩ : ByteArray)).size + t158.size ≤ 9223372036854775807 then (some ((t157 ++ (⟨#[64]⟩ : ByteArray)) ++ t158)) else (none))) else (none))) = some r := h
  (try (have Hs_ := H; simp only [ByteArray.size_append, Int.natCast_add] at Hs_))
  clear h
  replace H := Option.bind_eq_some_iff.mp H
  obtain ⟨t157, A20, H⟩ := H
  replace H : (if t157.size + 1 ≤ 9223372036854775807 then ((vec_Text.f a0_0 a0_1 a0_2 a0_3).bind fun t158 => (if (t157 ++ (⟨#[64]⟩ : ByteArray)).size + t158.size ≤ 9223372036854775807 then (some ((t157 ++ (⟨#[64]⟩ : ByteArray)) ++ t158)) else (none))) else (none)) = some r := H
  have A2 := Aside0.mk A20
  clear A20
  by_cases c3 : t157.size + 1 ≤ 9223372036854775807
  rotate_left
  · rw [if_neg c3] at H
    exact absurd H (by simp)
  rw [if_pos c3] at H
  have c3b0 := eq_true c3
  have c3b1 : decide (t157.size + 1 ≤ 9223372036854775807) = true := decide_eq_true c3
  try have c3b2 : (9223372036854775807 < t157.size + 1) = False := eq_false (Nat.not_lt.2 c3)
  replace H := Option.bind_eq_some_iff.mp H
  obtain ⟨t158, A40, H⟩ := H
  replace H : (if (t157 ++ (⟨#[64]⟩ : ByteArray)).size + t158.size ≤ 9223372036854775807 then (some ((t157 ++ (⟨#[64]⟩ : ByteArray)) ++ t158)) else (none)) = some r := H
  have A4 := Aside0.mk A40
  clear A40
  by_cases c5 : (t157 ++ (⟨#[64]⟩ : ByteArray)).size + t158.size ≤ 9223372036854775807
  rotate_left
  · rw [if_neg c5] at H
    exact absurd H (by simp)
  rw [if_pos c5] at H
  have c5b0 := eq_true c5
  (try (have c5b0s_ := c5b0; simp only [ByteArray.size_append, Int.natCast_add, show (⟨#[64]⟩ : ByteArray).size = 1 from rfl] at c5b0s_))
  have c5b1 : decide ((t157 ++ (⟨#[64]⟩ : ByteArray)).size + t158.size ≤ 9223372036854775807) = true := decide_eq_true c5
  (try (have c5b1s_ := c5b1; simp only [ByteArray.size_append, Int.natCast_add, show (⟨#[64]⟩ : ByteArray).size = 1 from rfl] at c5b1s_))
  try have c5b2 : (9223372036854775807 < (t157 ++ (⟨#[64]⟩ : ByteArray)).size + t158.size) = False := eq_false (Nat.not_lt.2 c5)
  (try (have c5b2s_ := c5b2; simp only [ByteArray.size_append, Int.natCast_add, show (⟨#[64]⟩ : ByteArray).size = 1 from rfl] at c5b2s_))
  obtain rfl := Option.some.inj H
  go_enter Tryd.func25, Tryd.ntmps25
  try go_wp2_with (first | ((with_reducible refine gate_dst (N := 1) rfl ?_); refine box_event ?hg (N := 1) ?hd (cs := #[.int .u64 a0_0, .int .u64 a0_1, .int .u64 a0_2, .int .u64 a0_3, .int .i64 a0_4]) (t := 26) ?hr ?_; (case hd => rfl); (case hg => rfl); (case hr => first | (go_simp; done) | (go_simp; rfl)); intro gb156 hg w6 hbox hb; have BK156 := Aside0.mk (hbox); have GW156 := Kw_ HB hg; have GE156 := GW156; replace HB := Ks_ HB hb; clear hb hbox hg))
  replace BK156 := Kd_ BK156
  replace HB := Aside0.mk (below_drew1 HB.out)
  refine start_ (n := 9) (S := fun w' => w'.cell? ⟨gb156, 0, none⟩ = some (.int .u64 a0_0) ∧ w'.cell? ⟨gb156, 1, none⟩ = some (.int .u64 a0_1) ∧ w'.cell? ⟨gb156, 2, none⟩ = some (.int .u64 a0_2) ∧ w'.cell? ⟨gb156, 3, none⟩ = some (.int .u64 a0_3) ∧ w'.cell? ⟨gb156, 4, none⟩ = some (.int .i64 a0_4)) (ds := []) #[false, false, false, false, false, false, false, false, false] (by kernel_rfl) rfl rfl (Kc5_ BK156.out) (fun hHeld => ?_); refine with_tabW stamp_Text.tab1 stamp_Text.bits1 (fun HT_ HW_ => ?_)
  generalize w6.drew = w7 at BK156 HB hHeld ⊢
  refine pure_ (i := 0) (N := some 3) (v := ?_) (a' := ?_) #[true, false, false, false, false, false, false, false, false] rfl rfl (any_of HT_.out (by kernel_rfl)) (fun _ _ _ h => h) (Or.inl ⟨by rfl, ?_⟩) ?_ ?_
  rotate_left
  · intro w'
    go_simp
    with_reducible rfl
  rotate_left
  · simp only [Act.put, List.setIfInBounds_toArray, List.set_cons_zero, List.set_cons_succ, i64_w, i32_w]
    rfl
  refine pure_ (i := 4) (N := some 7) (v := ?_) (a' := ?_) #[true, false, false, false, true, false, false, false, false] rfl rfl (any_of HT_.out (by kernel_rfl)) (fun _ _ _ h => h) (Or.inl ⟨by rfl, ?_⟩) ?_ ?_
  rotate_left
  · intro w'
    go_simp
    with_reducible rfl
  rotate_left
  · simp only [Act.put, List.setIfInBounds_toArray, List.set_cons_zero, List.set_cons_succ, i64_w, i32_w]
    rfl
  refine take_ (i := 1) (N := some 4) (v := ?_) (a' := ?_) #[true, true, false, false, true, false, false, false, false] rfl rfl (take_ofW HT_.out HW_.out (by kernel_rfl)) (fun _ _ _ h => h) (Or.inl ⟨by rfl, ?_⟩) hHeld ?_ ?_
  rotate_left
  · rintro w' ⟨s0, s1, s2, s3, s4⟩
    go_simp
    with_reducible rfl
  rotate_left
  · simp only [Act.put, List.setIfInBounds_toArray, List.set_cons_zero, List.set_cons_succ, i64_w, i32_w]
    rfl
  refine take_ (i := 5) (N := some 8) (v := ?_) (a' := ?_) #[true, true, false, false, true, true, false, false, false] rfl rfl (take_ofW HT_.out HW_.out (by kernel_rfl)) (fun _ _ _ h => h) (Or.inl ⟨by rfl, ?_⟩) hHeld ?_ ?_
  rotate_left
  · rintro w' ⟨s0, s1, s2, s3, s4⟩
    go_simp
    with_reducible rfl
  rotate_left
  · simp only [Act.put, List.setIfInBounds_toArray, List.set_cons_zero, List.set_cons_succ, i64_w, i32_w]
    rfl
  refine one_ (i := 2) (N := some 5) #[true, true, true, false, true, true, false, false, false] rfl rfl (one_of HT_.out (by kernel_rfl)) (by decide) (fun K hK => ?_)
  refine goes_ Tryd.func51 (by kernel_rfl) rfl #[.int .i64 a0_4] (by rfl) rfl rfl (by (try simp only [List.map_toArray, List.map_cons, List.map_nil]); first | done | rfl | (simp only [List.length_drop, List.length_take]; rfl)) ?_
  with_reducible refine (strconv_Itoa_51.calls a0_4 t157 _ A2.out).mono ?_
  rintro e w8 ⟨rfl, hb⟩
  refine ⟨_, rfl, ?_⟩
  replace BK156 := Kb_ BK156 hb
  replace HB := Ks_ HB hb
  (try clear hb)
  (try clear hb2)
  (try clear hk)
  (try clear hi)
  refine hK.out _ _ (Kc5_ BK156.out) (fun hHeld => ?_)
  clear hK K
  refine norm_ (a' := ?_) ?_ ?_
  rotate_left
  · show Act.put _ (some 5) _ = _
    simp only [Act.put, List.setIfInBounds_toArray, List.set_cons_zero, List.set_cons_succ, i64_w, i32_w]
    rfl
  refine pure_ (i := 3) (N := some 6) (v := ?_) (a' := ?_) #[true, true, true, true, true, true, false, false, false] rfl rfl (any_of HT_.out (by kernel_rfl)) (fun _ _ _ h => h) (Or.inl ⟨by rfl, ?_⟩) ?_ ?_
  rotate_left
  · intro w'
    go_simp
    with_reducible rfl
  rotate_left
  · simp only [Act.put, List.setIfInBounds_toArray, List.set_cons_zero, List.set_cons_succ, i64_w, i32_w]
    rfl
  refine one_ (i := 6) (N := some 9) #[true, true, true, true, true, true, true, false, false] rfl rfl (one_of HT_.out (by kernel_rfl)) (by decide) (fun K hK => ?_)
  refine goes_ Tryd.func52 (by kernel_rfl) rfl #[.agg #[.int .u64 a0_0, .int .u64 a0_1, .int .u64 a0_2, .int .u64 a0_3]] (by rfl) rfl rfl (by (try simp only [List.map_toArray, List.map_cons, List.map_nil]); first | done | rfl | (simp only [List.length_drop, List.length_take]; rfl)) ?_
  with_reducible refine (vec_Text.calls a0_0 a0_1 a0_2 a0_3 t158 _ A4.out).mono ?_
  rintro e w9 ⟨rfl, hb⟩
  refine ⟨_, rfl, ?_⟩
  replace BK156 := Kb_ BK156 hb
  replace HB := Ks_ HB hb
  (try clear hb)
  (try clear hb2)
  (try clear hk)
  (try clear hi)
  refine hK.out _ _ (Kc5_ BK156.out) (fun hHeld => ?_)
  clear hK K
  refine norm_ (a' := ?_) ?_ ?_
  rotate_left
  · show Act.put _ (some 9) _ = _
    simp only [Act.put, List.setIfInBounds_toArray, List.set_cons_zero, List.set_cons_succ, i64_w, i32_w]
    rfl
  refine pure_ (i := 7) (N := some 10) (v := ?_) (a' := ?_) #[true, true, true, true, true, true, true, true, false] rfl rfl (any_of HT_.out (by kernel_rfl)) (fun _ _ _ h => h) (Or.inl ⟨by rfl, ?_⟩) ?_ ?_
  rotate_left
  · intro w'
    go_simp
    with_reducible rfl
  rotate_left
  · simp only [Act.put, List.setIfInBounds_toArray, List.set_cons_zero, List.set_cons_succ, i64_w, i32_w]
    rfl
  refine pure_ (i := 8) (N := some 2) (v := ?_) (a' := ?_) #[true, true, true, true, true, true, true, true, true] rfl rfl (any_of HT_.out (by kernel_rfl)) (fun _ _ _ h => h) (Or.inl ⟨by rfl, ?_⟩) ?_ ?_
  rotate_left
  · intro w'
    go_simp
    with_reducible rfl
  rotate_left
  · simp only [Act.put, List.setIfInBounds_toArray, List.set_cons_zero, List.set_cons_succ, i64_w, i32_w]
    rfl
  refine done_ (done_of HT_.out (by kernel_rfl)) ?_
  try go_wp2
  go_ret
  exact ⟨by first | rfl | (simp [errW_none, errW_some] <;> rfl) | (simp [*, errW_none, errW_some] <;> rfl), Kz_ HB GE156⟩
def BigStamp.f (a0_0 : Int) (a0_1 : Int) (a0_2 : Int) (a0_3 : Int) (a0_4 : Int) : Option (ByteArray) := (BigItoa.g a0_4).bind fun t157 => (if t157.size + 1 ≤ 9223372036854775807 then ((BigText.g a0_0 a0_1 a0_2 a0_3).bind fun t158 => (if (t157 ++ (⟨#[64]⟩ : ByteArray)).size + t158.size ≤ 9223372036854775807 then (some ((t157 ++ (⟨#[64]⟩ : ByteArray)) ++ t158)) else (none))) else (none))
def BigStamp.T1 : Bool × List (List Nat × List Nat) := (true, [([], []), ([0], [0]), ([1], [1]), ([2], [2]), ([], []), ([4], [4]), ([5, 2], [5]), ([3, 6], [3, 6]), ([7, 6, 0, 1, 2, 3, 4, 5, 6, 7], [7])])
def BigStamp.B1 : List Nat := [0, 1, 3, 7, 0, 16, 55, 127, 255]
theorem BigStamp.tab1 : rtab .any (opsOf Tryd.f25 1) = BigStamp.T1 := by kernel_rfl
theorem BigStamp.bits1 : waitsOk BigStamp.T1.2 BigStamp.B1 = true := by kernel_rfl
set_option maxHeartbeats 8000000 in
set_option maxRecDepth 100000 in
theorem BigStamp.calls (a0_0 : Int) (a0_1 : Int) (a0_2 : Int) (a0_3 : Int) (a0_4 : Int) (r : ByteArray) (w : World) (HT : BigText.Tab w) (h : BigStamp.f a0_0 a0_1 a0_2 a0_3 a0_4 = some r) :
    Calls Tryd.prog 25 #[.agg #[.int .u64 a0_0, .int .u64 a0_1, .int .u64 a0_2, .int .u64 a0_3, .int .i64 a0_4]] w fun e w' => e = .returned (.string r) ∧ Below w.heap.size w w' := by
  have hu26 := Tryd.underlying26
  have hu24 := Tryd.underlying24
  have HB := Aside0.mk (Below.refl w.heap.size w)
  have H : ((BigItoa.g a0_4).bind fun t157 => (if t157.size + 1 ≤ 9223372036854775807 then ((BigText.g a0_0 a0_1 a0_2 a0_3).bind fun t158 => (if (t157 ++ (⟨#[64]⟩ : ByteArray)).size + t158.size ≤ 9223372036854775807 then (some ((t157 ++ (⟨#[64]⟩ : ByteArray)) ++ t158)) else (none))) else (none))) = some r := h
  (try (have Hs_ := H; simp only [ByteArray.size_append, Int.natCast_add] at Hs_))
  clear h
  replace H := Option.bind_eq_some_iff.mp H
  obtain ⟨t157, A20, H⟩ := H
  replace H : (if t157.size + 1 ≤ 9223372036854775807 then ((BigText.g a0_0 a0_1 a0_2 a0_3).bind fun t158 => (if (t157 ++ (⟨#[64]⟩ : ByteArray)).size + t158.size ≤ 9223372036854775807 then (some ((t157 ++ (⟨#[64]⟩ : ByteArray)) ++ t158)) else (none))) else (none)) = some r := H
  have A2 := Aside0.mk A20
  clear A20
  by_cases c3 : t157.size + 1 ≤ 9223372036854775807
  rotate_left
  · rw [if_neg c3] at H
    exact absurd H (by simp)
  rw [if_pos c3] at H
  have c3b0 := eq_true c3
  have c3b1 : decide (t157.size + 1 ≤ 9223372036854775807) = true := decide_eq_true c3
  try have c3b2 : (9223372036854775807 < t157.size + 1) = False := eq_false (Nat.not_lt.2 c3)
  replace H := Option.bind_eq_some_iff.mp H
  obtain ⟨t158, A40, H⟩ := H
  replace H : (if (t157 ++ (⟨#[64]⟩ : ByteArray)).size + t158.size ≤ 9223372036854775807 then (some ((t157 ++ (⟨#[64]⟩ : ByteArray)) ++ t158)) else (none)) = some r := H
  have A4 := Aside0.mk A40
  clear A40
  by_cases c5 : (t157 ++ (⟨#[64]⟩ : ByteArray)).size + t158.size ≤ 9223372036854775807
  rotate_left
  · rw [if_neg c5] at H
    exact absurd H (by simp)
  rw [if_pos c5] at H
  have c5b0 := eq_true c5
  (try (have c5b0s_ := c5b0; simp only [ByteArray.size_append, Int.natCast_add, show (⟨#[64]⟩ : ByteArray).size = 1 from rfl] at c5b0s_))
  have c5b1 : decide ((t157 ++ (⟨#[64]⟩ : ByteArray)).size + t158.size ≤ 9223372036854775807) = true := decide_eq_true c5
  (try (have c5b1s_ := c5b1; simp only [ByteArray.size_append, Int.natCast_add, show (⟨#[64]⟩ : ByteArray).size = 1 from rfl] at c5b1s_))
  try have c5b2 : (9223372036854775807 < (t157 ++ (⟨#[64]⟩ : ByteArray)).size + t158.size) = False := eq_false (Nat.not_lt.2 c5)
  (try (have c5b2s_ := c5b2; simp only [ByteArray.size_append, Int.natCast_add, show (⟨#[64]⟩ : ByteArray).size = 1 from rfl] at c5b2s_))
  obtain rfl := Option.some.inj H
  go_enter Tryd.func25, Tryd.ntmps25
  try go_wp2_with (first | ((with_reducible refine gate_dst (N := 1) rfl ?_); refine box_event ?hg (N := 1) ?hd (cs := #[.int .u64 a0_0, .int .u64 a0_1, .int .u64 a0_2, .int .u64 a0_3, .int .i64 a0_4]) (t := 26) ?hr ?_; (case hd => rfl); (case hg => rfl); (case hr => first | (go_simp; done) | (go_simp; rfl)); intro gb156 hg w6 hbox hb; have BK156 := Aside0.mk (hbox); have GW156 := Kw_ HB hg; have GE156 := GW156; replace HB := Ks_ HB hb; clear hb hbox hg))
  replace BK156 := Kd_ BK156
  replace HB := Aside0.mk (below_drew1 HB.out)
  refine start_ (n := 9) (S := fun w' => w'.cell? ⟨gb156, 0, none⟩ = some (.int .u64 a0_0) ∧ w'.cell? ⟨gb156, 1, none⟩ = some (.int .u64 a0_1) ∧ w'.cell? ⟨gb156, 2, none⟩ = some (.int .u64 a0_2) ∧ w'.cell? ⟨gb156, 3, none⟩ = some (.int .u64 a0_3) ∧ w'.cell? ⟨gb156, 4, none⟩ = some (.int .i64 a0_4)) (ds := []) #[false, false, false, false, false, false, false, false, false] (by kernel_rfl) rfl rfl (Kc5_ BK156.out) (fun hHeld => ?_); refine with_tabW BigStamp.tab1 BigStamp.bits1 (fun HT_ HW_ => ?_)
  generalize w6.drew = w7 at BK156 HB hHeld ⊢
  refine pure_ (i := 0) (N := some 3) (v := ?_) (a' := ?_) #[true, false, false, false, false, false, false, false, false] rfl rfl (any_of HT_.out (by kernel_rfl)) (fun _ _ _ h => h) (Or.inl ⟨by rfl, ?_⟩) ?_ ?_
  rotate_left
  · intro w'
    go_simp
    with_reducible rfl
  rotate_left
  · simp only [Act.put, List.setIfInBounds_toArray, List.set_cons_zero, List.set_cons_succ, i64_w, i32_w]
    rfl
  refine pure_ (i := 4) (N := some 7) (v := ?_) (a' := ?_) #[true, false, false, false, true, false, false, false, false] rfl rfl (any_of HT_.out (by kernel_rfl)) (fun _ _ _ h => h) (Or.inl ⟨by rfl, ?_⟩) ?_ ?_
  rotate_left
  · intro w'
    go_simp
    with_reducible rfl
  rotate_left
  · simp only [Act.put, List.setIfInBounds_toArray, List.set_cons_zero, List.set_cons_succ, i64_w, i32_w]
    rfl
  refine take_ (i := 1) (N := some 4) (v := ?_) (a' := ?_) #[true, true, false, false, true, false, false, false, false] rfl rfl (take_ofW HT_.out HW_.out (by kernel_rfl)) (fun _ _ _ h => h) (Or.inl ⟨by rfl, ?_⟩) hHeld ?_ ?_
  rotate_left
  · rintro w' ⟨s0, s1, s2, s3, s4⟩
    go_simp
    with_reducible rfl
  rotate_left
  · simp only [Act.put, List.setIfInBounds_toArray, List.set_cons_zero, List.set_cons_succ, i64_w, i32_w]
    rfl
  refine take_ (i := 5) (N := some 8) (v := ?_) (a' := ?_) #[true, true, false, false, true, true, false, false, false] rfl rfl (take_ofW HT_.out HW_.out (by kernel_rfl)) (fun _ _ _ h => h) (Or.inl ⟨by rfl, ?_⟩) hHeld ?_ ?_
  rotate_left
  · rintro w' ⟨s0, s1, s2, s3, s4⟩
    go_simp
    with_reducible rfl
  rotate_left
  · simp only [Act.put, List.setIfInBounds_toArray, List.set_cons_zero, List.set_cons_succ, i64_w, i32_w]
    rfl
  refine one_ (i := 2) (N := some 5) #[true, true, true, false, true, true, false, false, false] rfl rfl (one_of HT_.out (by kernel_rfl)) (by decide) (fun K hK => ?_)
  refine goes_ Tryd.func51 (by kernel_rfl) rfl #[.int .i64 a0_4] (by rfl) rfl rfl (by (try simp only [List.map_toArray, List.map_cons, List.map_nil]); first | done | rfl | (simp only [List.length_drop, List.length_take]; rfl)) ?_
  refine (BigItoa.callsT w HT _ (Kz_ HB GE156) a0_4 t157 A2.out).mono ?_
  rintro e w8 ⟨rfl, hb⟩
  refine ⟨_, rfl, ?_⟩
  replace BK156 := Kb_ BK156 hb
  replace HB := Ks_ HB hb
  (try clear hb)
  (try clear hb2)
  (try clear hk)
  (try clear hi)
  refine hK.out _ _ (Kc5_ BK156.out) (fun hHeld => ?_)
  clear hK K
  refine norm_ (a' := ?_) ?_ ?_
  rotate_left
  · show Act.put _ (some 5) _ = _
    simp only [Act.put, List.setIfInBounds_toArray, List.set_cons_zero, List.set_cons_succ, i64_w, i32_w]
    rfl
  refine pure_ (i := 3) (N := some 6) (v := ?_) (a' := ?_) #[true, true, true, true, true, true, false, false, false] rfl rfl (any_of HT_.out (by kernel_rfl)) (fun _ _ _ h => h) (Or.inl ⟨by rfl, ?_⟩) ?_ ?_
  rotate_left
  · intro w'
    go_simp
    with_reducible rfl
  rotate_left
  · simp only [Act.put, List.setIfInBounds_toArray, List.set_cons_zero, List.set_cons_succ, i64_w, i32_w]
    rfl
  refine one_ (i := 6) (N := some 9) #[true, true, true, true, true, true, true, false, false] rfl rfl (one_of HT_.out (by kernel_rfl)) (by decide) (fun K hK => ?_)
  refine goes_ Tryd.func52 (by kernel_rfl) rfl #[.agg #[.int .u64 a0_0, .int .u64 a0_1, .int .u64 a0_2, .int .u64 a0_3]] (by rfl) rfl rfl (by (try simp only [List.map_toArray, List.map_cons, List.map_nil]); first | done | rfl | (simp only [List.length_drop, List.length_take]; rfl)) ?_
  refine (BigText.callsT w HT _ (Kz_ HB GE156) a0_0 a0_1 a0_2 a0_3 t158 A4.out).mono ?_
  rintro e w9 ⟨rfl, hb⟩
  refine ⟨_, rfl, ?_⟩
  replace BK156 := Kb_ BK156 hb
  replace HB := Ks_ HB hb
  (try clear hb)
  (try clear hb2)
  (try clear hk)
  (try clear hi)
  refine hK.out _ _ (Kc5_ BK156.out) (fun hHeld => ?_)
  clear hK K
  refine norm_ (a' := ?_) ?_ ?_
  rotate_left
  · show Act.put _ (some 9) _ = _
    simp only [Act.put, List.setIfInBounds_toArray, List.set_cons_zero, List.set_cons_succ, i64_w, i32_w]
    rfl
  refine pure_ (i := 7) (N := some 10) (v := ?_) (a' := ?_) #[true, true, true, true, true, true, true, true, false] rfl rfl (any_of HT_.out (by kernel_rfl)) (fun _ _ _ h => h) (Or.inl ⟨by rfl, ?_⟩) ?_ ?_
  rotate_left
  · intro w'
    go_simp
    with_reducible rfl
  rotate_left
  · simp only [Act.put, List.setIfInBounds_toArray, List.set_cons_zero, List.set_cons_succ, i64_w, i32_w]
    rfl
  refine pure_ (i := 8) (N := some 2) (v := ?_) (a' := ?_) #[true, true, true, true, true, true, true, true, true] rfl rfl (any_of HT_.out (by kernel_rfl)) (fun _ _ _ h => h) (Or.inl ⟨by rfl, ?_⟩) ?_ ?_
  rotate_left
  · intro w'
    go_simp
    with_reducible rfl
  rotate_left
  · simp only [Act.put, List.setIfInBounds_toArray, List.set_cons_zero, List.set_cons_succ, i64_w, i32_w]
    rfl
  refine done_ (done_of HT_.out (by kernel_rfl)) ?_
  try go_wp2
  go_ret
  exact ⟨by first | rfl | (simp [errW_none, errW_some] <;> rfl) | (simp [*, errW_none, errW_some] <;> rfl), Kz_ HB GE156⟩
theorem BigStamp.callsT (w0 : World) (HT : BigText.Tab w0) (w : World) (hb : Below w0.heap.size w0 w) (a0_0 : Int) (a0_1 : Int) (a0_2 : Int) (a0_3 : Int) (a0_4 : Int) (r : ByteArray) (h : BigStamp.f a0_0 a0_1 a0_2 a0_3 a0_4 = some r) :
    Calls Tryd.prog 25 #[.agg #[.int .u64 a0_0, .int .u64 a0_1, .int .u64 a0_2, .int .u64 a0_3, .int .i64 a0_4]] w fun e w' => e = .returned (.string r) ∧ Below w.heap.size w w' := BigStamp.calls a0_0 a0_1 a0_2 a0_3 a0_4 r w (HT.below hb) h

end Go.Proofs.YtdlagefpglhdoaaDoor.Q

-- Written by this session's own driver (wip/hybrid.py) of the kit's printer; contracts marked FOREIGN are by hand.
namespace Go.Proofs.YtdlagefpglhdoaaDoor.Q
open Go.RowKit Go.Proofs.YtdlagefpglhdoaaDoorW.PrintWords Go.Proofs.YtdlagefpglhdoaaDoorW.PrintLast Go.Proofs.YtdlagefpglhdoaaDoorW.PrintMore
attribute [local go_sem] max2_int min2_int max_two min_two max_three min_three max_four min_four   -- for this text's walks alone
set_option linter.unusedVariables false
set_option linter.unusedSimpArgs false

/-! ### pack_Reader_Number: function 55 -/
-- FOREIGN: ranges over []byte(s)
theorem pack_Reader_Number.bytesWorld_frozen (w : World) (e : TypeId) (s : ByteArray) (a : Addr) (ha : a.block < w.heap.size) : (Lib.bytesWorld w e s).frozen? a = w.frozen? a :=
  (bytes_below (Below.refl _ _) (Nat.le_refl _) e s).frozen ha
theorem pack_Reader_Number.bt_extract0 (s : ByteArray) (n k : Nat) (hk : k < n) (hs : n ≤ s.size) : bt (s.extract 0 n) k = bt s k := by
  unfold bt
  rw [dif_pos (by simp; omega), dif_pos (by simp; omega)]
  simp [ByteArray.getElem_extract]
def rnum (s : ByteArray) : Nat → Int
  | 0 => 0
  | k + 1 => Go.bits .or .u64 (IntKind.u64.wrap (rnum s k * 256)) (IntKind.u64.wrap (bt s k))
def pack_Reader_Number.f (a0_0 : ByteArray) (a0_1 : Bool) (a1 : Int) : Option (Int × ByteArray × Bool) :=
  if a0_0.size ≤ 9223372036854775807 then
    (if a0_1 = true then some (0, (⟨#[]⟩ : ByteArray), true) else if a1 < 1 then some (0, (⟨#[]⟩ : ByteArray), true) else if 8 < a1 then some (0, (⟨#[]⟩ : ByteArray), true)
      else if (a0_0.size : Int) < a1 then some (0, (⟨#[]⟩ : ByteArray), true) else some (rnum a0_0 a1.toNat, a0_0.extract a1.toNat a0_0.size, false))
  else none
theorem pack_Reader_Number.some_ (s : ByteArray) (n : Nat) (h1 : 1 ≤ n) (h8 : n ≤ 8) (hs : n ≤ s.size) (hm : s.size ≤ 9223372036854775807) (w : World) :
    Calls Tryd.prog 55 #[.agg #[.string s, .bool false], .int .i64 n] w fun e w' => e = .returned (.tuple #[.int .u64 (rnum s n), .agg #[.string (s.extract n s.size), .bool false]]) ∧ Below w.heap.size w w' := by
  have hcv := fun W t => Lib.run_convert_string_bytes (P := Tryd.prog) W 9 88 5 t Tryd.underlying9 Tryd.underlying88 Tryd.underlying5
  have b1 : decide ((n : Int) < 1) = false := by simp; omega
  have b2 : decide ((8 : Int) < (n : Int)) = false := by simp; omega
  have b3 : decide (s.size < n) = false := by simp; omega
  go_enter Tryd.func55, Tryd.ntmps55
  go_wp2
  obtain ⟨W, hW⟩ : ∃ W, W = Lib.bytesWorld ((w.alloc (Obj.cells #[Value.string s, Value.bool false] 55)).alloc (Obj.cells #[Value.string { data := #[] }, Value.bool false] 55)) 5 (s.extract 0 n) := ⟨_, rfl⟩
  have hbel : Below w.heap.size w W := by
    rw [hW]
    exact bytes_below (((Below.refl _ _).alloc (Nat.le_refl _) _).alloc (by simp) _) (by simp; omega) _ _
  have hsz : W.heap.size = w.heap.size + 3 := by rw [hW, Lib.bytesWorld_size]; simp
  have hc0 : W.cell? ⟨w.heap.size, 0, none⟩ = some (.string s) := by
    rw [hW, Lib.bytesWorld_old _ _ _ _ (by simp; omega)]; simp [go_sem]
  have hc2 : W.cell? ⟨w.heap.size + 1, 0, none⟩ = some (.string ⟨#[]⟩) := by
    rw [hW, Lib.bytesWorld_old _ _ _ _ (by simp)]; simp [go_sem]
  have hc3 : W.cell? ⟨w.heap.size + 1, 1, none⟩ = some (.bool false) := by
    rw [hW, Lib.bytesWorld_old _ _ _ _ (by simp)]; simp [go_sem]
  have hf2 : W.frozen? ⟨w.heap.size + 1, 0, none⟩ = false := by
    rw [hW, pack_Reader_Number.bytesWorld_frozen _ _ _ _ (by simp)]; simp [go_sem]
  have hf3 : W.frozen? ⟨w.heap.size + 1, 1, none⟩ = false := by
    rw [hW, pack_Reader_Number.bytesWorld_frozen _ _ _ _ (by simp)]; simp [go_sem]
  have hel : ∀ k : Nat, k < n → W.cell? ⟨w.heap.size + 1 + 1, k, none⟩ = some (.int .u8 (bt s k)) := by
    intro k hk
    obtain ⟨_, _, hr⟩ := bytes_reads ((w.alloc (Obj.cells #[Value.string s, Value.bool false] 55)).alloc (Obj.cells #[Value.string { data := #[] }, Value.bool false] 55)) 5 (s.extract 0 n) (by simp; omega)
    rw [← hW] at hr
    obtain ⟨ad, had, hr⟩ := hr (by simp; omega)
    have hr := hr k (by simp; omega)
    simp at had
    subst had
    rw [add_plain] at hr
    rw [hr]
    have e1 : (bytesOf (s.extract 0 n)).getD k 0 = bt (s.extract 0 n) k := rd_bytesOf (s.extract 0 n) k
    rw [e1, pack_Reader_Number.bt_extract0 _ _ _ hk hs]
  rw [← hW]
  clear hW hcv
  go_loop [32, 4] (fun i v => ∃ k : Nat, k ≤ n ∧ i = .int .i64 k ∧ v = .int .u64 (rnum s k)) (fun i _ => n - (intOf i).toNat)
  case atStart => exact ⟨0, Nat.zero_le _, rfl, rfl⟩
  case round =>
    obtain ⟨k, hk, rfl, rfl⟩ := hrel
    by_cases hlt : k < n
    · have hcell := hel k hlt
      clear hel
      go_wp2
      go_round
      case rel => exact ⟨k + 1, by omega, by go_num, rfl⟩
      case measure => simp [intOf]; omega
    · obtain rfl : k = n := by omega
      clear hel
      go_wp2
      go_region
      all_goals go_wp2
      refine bodyPost_ret (v := .tuple #[.int .u64 (rnum s k), .agg #[.string (s.extract k s.size), .bool false]]) (by simp [results, Tryd.results55, go_sem, hc2, hc3, hf2, hf3]) rfl ⟨rfl, ?_⟩
      exact ((hbel.setCell (by simp) _).setCell (by simp) _).drew
theorem pack_Reader_Number.bad_ (s : ByteArray) (b : Bool) (a1 : Int) (h : b = true ∨ b = false ∧ (a1 < 1 ∨ 8 < a1 ∨ (s.size : Int) < a1)) (w : World) :
    Calls Tryd.prog 55 #[.agg #[.string s, .bool b], .int .i64 a1] w fun e w' => e = .returned (.tuple #[.int .u64 0, .agg #[.string ⟨#[]⟩, .bool true]]) ∧ Below w.heap.size w w' := by
  rcases h with rfl | ⟨rfl, h⟩
  · go_enter Tryd.func55, Tryd.ntmps55
    go_wp2
    refine bodyPost_ret (v := .agg #[.string ⟨#[]⟩, .bool true]) (by simp [results, Tryd.results71, go_sem]) rfl ?_
    go_wp2
    refine bodyPost_ret (v := .tuple #[.int .u64 0, .agg #[.string ⟨#[]⟩, .bool true]]) (by simp [results, Tryd.results55, go_sem]) rfl ⟨rfl, ?_⟩
    repeat (first | exact Below.refl _ _ | apply below_alloc | apply below_drew | refine Below.setCell ?_ (by simp) _)
  · rcases h with h | h | h
    · have b1 : decide (a1 < 1) = true := decide_eq_true h
      go_enter Tryd.func55, Tryd.ntmps55
      go_wp2
      refine bodyPost_ret (v := .agg #[.string ⟨#[]⟩, .bool true]) (by simp [results, Tryd.results71, go_sem]) rfl ?_
      go_wp2
      refine bodyPost_ret (v := .tuple #[.int .u64 0, .agg #[.string ⟨#[]⟩, .bool true]]) (by simp [results, Tryd.results55, go_sem]) rfl ⟨rfl, ?_⟩
      repeat (first | exact Below.refl _ _ | apply below_alloc | apply below_drew | refine Below.setCell ?_ (by simp) _)
    · have b1 : decide (8 < a1) = true := decide_eq_true h
      have b2 : decide (a1 < 1) = false := decide_eq_false (by omega)
      go_enter Tryd.func55, Tryd.ntmps55
      go_wp2
      refine bodyPost_ret (v := .agg #[.string ⟨#[]⟩, .bool true]) (by simp [results, Tryd.results71, go_sem]) rfl ?_
      go_wp2
      refine bodyPost_ret (v := .tuple #[.int .u64 0, .agg #[.string ⟨#[]⟩, .bool true]]) (by simp [results, Tryd.results55, go_sem]) rfl ⟨rfl, ?_⟩
      repeat (first | exact Below.refl _ _ | apply below_alloc | apply below_drew | refine Below.setCell ?_ (by simp) _)
    · by_cases h1 : a1 < 1
      · have b1 : decide (a1 < 1) = true := decide_eq_true h1
        clear h
        go_enter Tryd.func55, Tryd.ntmps55
        go_wp2
        refine bodyPost_ret (v := .agg #[.string ⟨#[]⟩, .bool true]) (by simp [results, Tryd.results71, go_sem]) rfl ?_
        go_wp2
        refine bodyPost_ret (v := .tuple #[.int .u64 0, .agg #[.string ⟨#[]⟩, .bool true]]) (by simp [results, Tryd.results55, go_sem]) rfl ⟨rfl, ?_⟩
        repeat (first | exact Below.refl _ _ | apply below_alloc | apply below_drew | refine Below.setCell ?_ (by simp) _)
      · by_cases h8 : 8 < a1
        · have b1 : decide (8 < a1) = true := decide_eq_true h8
          clear h
          have b2 : decide (a1 < 1) = false := decide_eq_false (by omega)
          go_enter Tryd.func55, Tryd.ntmps55
          go_wp2
          refine bodyPost_ret (v := .agg #[.string ⟨#[]⟩, .bool true]) (by simp [results, Tryd.results71, go_sem]) rfl ?_
          go_wp2
          refine bodyPost_ret (v := .tuple #[.int .u64 0, .agg #[.string ⟨#[]⟩, .bool true]]) (by simp [results, Tryd.results55, go_sem]) rfl ⟨rfl, ?_⟩
          repeat (first | exact Below.refl _ _ | apply below_alloc | apply below_drew | refine Below.setCell ?_ (by simp) _)
        · have b1 : decide (8 < a1) = false := decide_eq_false (by omega)
          have b2 : decide (a1 < 1) = false := decide_eq_false (by omega)
          have b3 : decide ((s.size : Int) < a1) = true := decide_eq_true h
          go_enter Tryd.func55, Tryd.ntmps55
          go_wp2
          refine bodyPost_ret (v := .agg #[.string ⟨#[]⟩, .bool true]) (by simp [results, Tryd.results71, go_sem]) rfl ?_
          go_wp2
          refine bodyPost_ret (v := .tuple #[.int .u64 0, .agg #[.string ⟨#[]⟩, .bool true]]) (by simp [results, Tryd.results55, go_sem]) rfl ⟨rfl, ?_⟩
          repeat (first | exact Below.refl _ _ | apply below_alloc | apply below_drew | refine Below.setCell ?_ (by simp) _)
theorem pack_Reader_Number.calls (a0_0 : ByteArray) (a0_1 : Bool) (a1 : Int) (r1 : Int) (r2 : ByteArray) (r3 : Bool) (w : World) (h : pack_Reader_Number.f a0_0 a0_1 a1 = some (r1, r2, r3)) :
    Calls Tryd.prog 55 #[.agg #[.string a0_0, .bool a0_1], .int .i64 a1] w fun e w' => e = .returned (.tuple #[.int .u64 r1, .agg #[.string r2, .bool r3]]) ∧ Below w.heap.size w w' := by
  unfold pack_Reader_Number.f at h
  by_cases hm : a0_0.size ≤ 9223372036854775807
  · rw [if_pos hm] at h
    by_cases c0 : a0_1 = true
    · rw [if_pos c0] at h
      simp only [Option.some.injEq, Prod.mk.injEq] at h
      obtain ⟨rfl, rfl, rfl⟩ := h
      exact pack_Reader_Number.bad_ _ _ _ (.inl c0) w
    · rw [if_neg c0] at h
      have c0' : a0_1 = false := by simpa using c0
      by_cases c1 : a1 < 1
      · rw [if_pos c1] at h
        simp only [Option.some.injEq, Prod.mk.injEq] at h
        obtain ⟨rfl, rfl, rfl⟩ := h
        exact pack_Reader_Number.bad_ _ _ _ (.inr ⟨c0', .inl c1⟩) w
      · rw [if_neg c1] at h
        by_cases c2 : 8 < a1
        · rw [if_pos c2] at h
          simp only [Option.some.injEq, Prod.mk.injEq] at h
          obtain ⟨rfl, rfl, rfl⟩ := h
          exact pack_Reader_Number.bad_ _ _ _ (.inr ⟨c0', .inr (.inl c2)⟩) w
        · rw [if_neg c2] at h
          by_cases c3 : (a0_0.size : Int) < a1
          · rw [if_pos c3] at h
            simp only [Option.some.injEq, Prod.mk.injEq] at h
            obtain ⟨rfl, rfl, rfl⟩ := h
            exact pack_Reader_Number.bad_ _ _ _ (.inr ⟨c0', .inr (.inr c3)⟩) w
          · rw [if_neg c3] at h
            simp only [Option.some.injEq, Prod.mk.injEq] at h
            obtain ⟨rfl, rfl, rfl⟩ := h
            obtain ⟨n, rfl⟩ := Int.eq_ofNat_of_zero_le (show 0 ≤ a1 by omega)
            subst c0'
            rw [Int.toNat_natCast]
            exact pack_Reader_Number.some_ a0_0 n (by omega) (by omega) (by omega) hm w
  · rw [if_neg hm] at h
    exact absurd h (by simp)


end Go.Proofs.YtdlagefpglhdoaaDoor.Q
