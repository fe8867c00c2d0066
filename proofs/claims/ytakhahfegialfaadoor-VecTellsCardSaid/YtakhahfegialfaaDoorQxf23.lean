-- Written by this session's own driver (wip/hybrid.py) of the kit's printer; contracts marked FOREIGN are by hand.
import Derived.Test.YtakhahfegialfaaDoorQx0
namespace Go.Proofs.YtakhahfegialfaaDoor.Q
open Go.RowKit Go.Proofs.YtakhahfegialfaaDoorW.PrintWords Go.Proofs.YtakhahfegialfaaDoorW.PrintLast Go.Proofs.YtakhahfegialfaaDoorW.PrintMore
attribute [local go_sem] max2_int min2_int max_two min_two max_three min_three max_four min_four   -- for this text's walks alone
set_option linter.unusedVariables false
set_option linter.unusedSimpArgs false

/-! ### tenementref06_Leq: function 23 -/
def tenementref06_Leq.l0 : Nat → Int → Int → Int → Int → Int → Int → Int → Int → Int → Option (Bool)
  | 0, _, _, _, _, _, _, _, _, _ => none
  | k + 1, x5, x214000, x214001, x214002, x214003, x215000, x215001, x215002, x215003 => if x5 < 4 then (if x5 = 0 then (if x214000 > x215000 then (some false) else (tenementref06_Leq.l0 k (wrap64 (x5 + 1)) x214000 x214001 x214002 x214003 x215000 x215001 x215002 x215003)) else (if x5 = 1 then (if x214001 > x215001 then (some false) else (tenementref06_Leq.l0 k (wrap64 (x5 + 1)) x214000 x214001 x214002 x214003 x215000 x215001 x215002 x215003)) else (if x5 = 2 then (if x214002 > x215002 then (some false) else (tenementref06_Leq.l0 k (wrap64 (x5 + 1)) x214000 x214001 x214002 x214003 x215000 x215001 x215002 x215003)) else (if x5 = 3 then (if x214003 > x215003 then (some false) else (tenementref06_Leq.l0 k (wrap64 (x5 + 1)) x214000 x214001 x214002 x214003 x215000 x215001 x215002 x215003)) else (none))))) else (some true)
def tenementref06_Leq.f (k : Nat) (a0_0 : Int) (a0_1 : Int) (a0_2 : Int) (a0_3 : Int) (a1_0 : Int) (a1_1 : Int) (a1_2 : Int) (a1_3 : Int) : Option (Bool) := tenementref06_Leq.l0 k 0 a0_0 a0_1 a0_2 a0_3 a1_0 a1_1 a1_2 a1_3
theorem tenementref06_Leq.mono_l : ∀ k, (∀ y0 y1 y2 y3 y4 y5 y6 y7 y8, LeO (tenementref06_Leq.l0 k y0 y1 y2 y3 y4 y5 y6 y7 y8) (tenementref06_Leq.l0 (k + 1) y0 y1 y2 y3 y4 y5 y6 y7 y8))
  | 0 => fun _ _ _ _ _ _ _ _ _ r h => by simp [tenementref06_Leq.l0] at h
  | k + 1 => by
    have ih0 := tenementref06_Leq.mono_l k
    · intro y0 y1 y2 y3 y4 y5 y6 y7 y8
      unfold tenementref06_Leq.l0
      repeat' first
      | (with_reducible exact ih0 _ _ _ _ _ _ _ _ _)
      | (with_reducible exact LeO.refl _)
      | (with_reducible exact LeO.none _)
      | (with_reducible refine LeO.ite ?_ ?_)
      | (with_reducible refine LeO.bind ?_ (fun _ => ?_))
      | exact ih0 _ _ _ _ _ _ _ _ _
      | exact LeO.none _
      | refine LeO.ite ?_ ?_
      | refine LeO.bind ?_ (fun _ => ?_)
theorem tenementref06_Leq.mono : ∀ a0 a1 a2 a3 a4 a5 a6 a7 k, LeO (tenementref06_Leq.f k a0 a1 a2 a3 a4 a5 a6 a7) (tenementref06_Leq.f (k + 1) a0 a1 a2 a3 a4 a5 a6 a7) := by
  intro a0 a1 a2 a3 a4 a5 a6 a7 k
  have ih0 := tenementref06_Leq.mono_l k
  unfold tenementref06_Leq.f
  repeat' first
      | (with_reducible exact ih0 _ _ _ _ _ _ _ _ _)
      | (with_reducible exact LeO.refl _)
      | (with_reducible exact LeO.none _)
      | (with_reducible refine LeO.ite ?_ ?_)
      | (with_reducible refine LeO.bind ?_ (fun _ => ?_))
      | exact ih0 _ _ _ _ _ _ _ _ _
      | exact LeO.none _
      | refine LeO.ite ?_ ?_
      | refine LeO.bind ?_ (fun _ => ?_)
set_option maxHeartbeats 8000000 in
set_option maxRecDepth 100000 in
theorem tenementref06_Leq.calls (k : Nat) (a0_0 : Int) (a0_1 : Int) (a0_2 : Int) (a0_3 : Int) (a1_0 : Int) (a1_1 : Int) (a1_2 : Int) (a1_3 : Int) (r : Bool) (w : World) (h : tenementref06_Leq.f k a0_0 a0_1 a0_2 a0_3 a1_0 a1_1 a1_2 a1_3 = some r) :
    Calls Tryd.prog 23 #[.agg #[.int .u64 a0_0, .int .u64 a0_1, .int .u64 a0_2, .int .u64 a0_3], .agg #[.int .u64 a1_0, .int .u64 a1_1, .int .u64 a1_2, .int .u64 a1_3]] w fun e w' => e = .returned (.bool r) ∧ Below w.heap.size w w' := by
  have hu29 := Tryd.underlying29
  have HB := Aside0.mk (Below.refl w.heap.size w)
  have H : (tenementref06_Leq.l0 k 0 a0_0 a0_1 a0_2 a0_3 a1_0 a1_1 a1_2 a1_3) = some r := h
  clear h
  have H' := Aside0.mk H
  clear H
  go_enter Tryd.func23, Tryd.ntmps23
  go_wp2_with (first | ((with_reducible refine gate_dst (N := 2) rfl ?_); refine box_event ?hg (N := 2) ?hd (cs := #[.int .u64 a0_0, .int .u64 a0_1, .int .u64 a0_2, .int .u64 a0_3]) (t := 29) ?hr ?_; (case hd => rfl); (case hg => rfl); (case hr => first | (go_simp; done) | (go_simp; rfl)); intro gb213 hg w3 hbox hb; have n0_ := Aside0.mk (below_step (by repeat (first | (with_reducible first | exact HB.out | apply below_alloc | apply pw_below_drewN | apply below_drew1) | exact HB.out)) hb); have n1_ := Aside0.mk (hbox); have n2_ := Aside0.mk ((by rw [hg]; exact (below_size (by repeat (first | (with_reducible first | exact HB.out | apply below_alloc | apply pw_below_drewN | apply below_drew1) | exact HB.out))) : w.heap.size ≤ gb213)); have n3_ := Aside0.mk ((by rw [hg]; exact (below_size (by repeat (first | (with_reducible first | exact HB.out | apply below_alloc | apply pw_below_drewN | apply below_drew1) | exact HB.out))) : w.heap.size ≤ gb213)); clear HB; have HB := n0_; have BK213 := n1_; have GW213 := n2_; have GE213 := n3_; clear n0_ n1_ n2_ n3_; clear hb hbox hg) | ((with_reducible refine gate_dst (N := 3) rfl ?_); refine box_event ?hg (N := 3) ?hd (cs := #[.int .u64 a1_0, .int .u64 a1_1, .int .u64 a1_2, .int .u64 a1_3]) (t := 29) ?hr ?_; (case hd => rfl); (case hg => rfl); (case hr => first | (go_simp; done) | (go_simp; rfl)); intro gb214 hg w4 hbox hb; have n0_ := Aside0.mk (blk_below (g := gb213) (o := .cells #[.int .u64 a0_0, .int .u64 a0_1, .int .u64 a0_2, .int .u64 a0_3] 29 (0, 0)) (by (with_reducible repeat (first | refine blk_drewN ?_ _ | refine blk_drew ?_ | refine blk_alloc ?_ _)); exact BK213.out) hb); have n1_ := Aside0.mk (below_step (by repeat (first | (with_reducible first | exact HB.out | apply below_alloc | apply pw_below_drewN | apply below_drew1 | refine below_set ?_ GE213.out) | exact HB.out)) hb); have n2_ := Aside0.mk (hbox); have n3_ := Aside0.mk ((by rw [hg]; exact (below_size (by repeat (first | (with_reducible first | exact HB.out | apply below_alloc | apply pw_below_drewN | apply below_drew1 | refine below_set ?_ GE213.out) | exact HB.out))) : w.heap.size ≤ gb214)); have n4_ := Aside0.mk ((by rw [hg]; exact (below_size (by repeat (first | (with_reducible first | exact HB.out | apply below_alloc | apply pw_below_drewN | apply below_drew1 | refine below_set ?_ GE213.out) | exact HB.out))) : w.heap.size ≤ gb214)); have n5_ := Aside0.mk ((by rw [hg]; exact Nat.ne_of_lt (blk_lt (g := gb213) (o := .cells #[.int .u64 a0_0, .int .u64 a0_1, .int .u64 a0_2, .int .u64 a0_3] 29 (0, 0)) (by (with_reducible repeat (first | refine blk_drewN ?_ _ | refine blk_drew ?_ | refine blk_alloc ?_ _)); exact BK213.out)) : gb213 ≠ gb214)); have n6_ := Aside0.mk ((by rw [hg]; exact Nat.ne_of_gt (blk_lt (g := gb213) (o := .cells #[.int .u64 a0_0, .int .u64 a0_1, .int .u64 a0_2, .int .u64 a0_3] 29 (0, 0)) (by (with_reducible repeat (first | refine blk_drewN ?_ _ | refine blk_drew ?_ | refine blk_alloc ?_ _)); exact BK213.out)) : gb214 ≠ gb213)); clear BK213; clear HB; have BK213 := n0_; have HB := n1_; have BK214 := n2_; have GW214 := n3_; have GE214 := n4_; have NB213_214 := n5_; have NB214_213 := n6_; clear n0_ n1_ n2_ n3_ n4_ n5_ n6_; clear hb hbox hg))
  repeat (go_quiet (first | ((with_reducible refine gate_dst (N := 2) rfl ?_); refine box_event ?hg (N := 2) ?hd (cs := #[.int .u64 a0_0, .int .u64 a0_1, .int .u64 a0_2, .int .u64 a0_3]) (t := 29) ?hr ?_; (case hd => rfl); (case hg => rfl); (case hr => first | (go_simp; done) | (go_simp; rfl)); intro gb213 hg w3 hbox hb; have n0_ := Aside0.mk (below_step (by repeat (first | (with_reducible first | exact HB.out | apply below_alloc | apply pw_below_drewN | apply below_drew1) | exact HB.out)) hb); have n1_ := Aside0.mk (hbox); have n2_ := Aside0.mk ((by rw [hg]; exact (below_size (by repeat (first | (with_reducible first | exact HB.out | apply below_alloc | apply pw_below_drewN | apply below_drew1) | exact HB.out))) : w.heap.size ≤ gb213)); have n3_ := Aside0.mk ((by rw [hg]; exact (below_size (by repeat (first | (with_reducible first | exact HB.out | apply below_alloc | apply pw_below_drewN | apply below_drew1) | exact HB.out))) : w.heap.size ≤ gb213)); clear HB; have HB := n0_; have BK213 := n1_; have GW213 := n2_; have GE213 := n3_; clear n0_ n1_ n2_ n3_; clear hb hbox hg) | ((with_reducible refine gate_dst (N := 3) rfl ?_); refine box_event ?hg (N := 3) ?hd (cs := #[.int .u64 a1_0, .int .u64 a1_1, .int .u64 a1_2, .int .u64 a1_3]) (t := 29) ?hr ?_; (case hd => rfl); (case hg => rfl); (case hr => first | (go_simp; done) | (go_simp; rfl)); intro gb214 hg w4 hbox hb; have n0_ := Aside0.mk (blk_below (g := gb213) (o := .cells #[.int .u64 a0_0, .int .u64 a0_1, .int .u64 a0_2, .int .u64 a0_3] 29 (0, 0)) (by (with_reducible repeat (first | refine blk_drewN ?_ _ | refine blk_drew ?_ | refine blk_alloc ?_ _)); exact BK213.out) hb); have n1_ := Aside0.mk (below_step (by repeat (first | (with_reducible first | exact HB.out | apply below_alloc | apply pw_below_drewN | apply below_drew1 | refine below_set ?_ GE213.out) | exact HB.out)) hb); have n2_ := Aside0.mk (hbox); have n3_ := Aside0.mk ((by rw [hg]; exact (below_size (by repeat (first | (with_reducible first | exact HB.out | apply below_alloc | apply pw_below_drewN | apply below_drew1 | refine below_set ?_ GE213.out) | exact HB.out))) : w.heap.size ≤ gb214)); have n4_ := Aside0.mk ((by rw [hg]; exact (below_size (by repeat (first | (with_reducible first | exact HB.out | apply below_alloc | apply pw_below_drewN | apply below_drew1 | refine below_set ?_ GE213.out) | exact HB.out))) : w.heap.size ≤ gb214)); have n5_ := Aside0.mk ((by rw [hg]; exact Nat.ne_of_lt (blk_lt (g := gb213) (o := .cells #[.int .u64 a0_0, .int .u64 a0_1, .int .u64 a0_2, .int .u64 a0_3] 29 (0, 0)) (by (with_reducible repeat (first | refine blk_drewN ?_ _ | refine blk_drew ?_ | refine blk_alloc ?_ _)); exact BK213.out)) : gb213 ≠ gb214)); have n6_ := Aside0.mk ((by rw [hg]; exact Nat.ne_of_gt (blk_lt (g := gb213) (o := .cells #[.int .u64 a0_0, .int .u64 a0_1, .int .u64 a0_2, .int .u64 a0_3] 29 (0, 0)) (by (with_reducible repeat (first | refine blk_drewN ?_ _ | refine blk_drew ?_ | refine blk_alloc ?_ _)); exact BK213.out)) : gb214 ≠ gb213)); clear BK213; clear HB; have BK213 := n0_; have HB := n1_; have BK214 := n2_; have GW214 := n3_; have GE214 := n4_; have NB213_214 := n5_; have NB214_213 := n6_; clear n0_ n1_ n2_ n3_ n4_ n5_ n6_; clear hb hbox hg)); try go_wp2_with (first | ((with_reducible refine gate_dst (N := 2) rfl ?_); refine box_event ?hg (N := 2) ?hd (cs := #[.int .u64 a0_0, .int .u64 a0_1, .int .u64 a0_2, .int .u64 a0_3]) (t := 29) ?hr ?_; (case hd => rfl); (case hg => rfl); (case hr => first | (go_simp; done) | (go_simp; rfl)); intro gb213 hg w3 hbox hb; have n0_ := Aside0.mk (below_step (by repeat (first | (with_reducible first | exact HB.out | apply below_alloc | apply pw_below_drewN | apply below_drew1) | exact HB.out)) hb); have n1_ := Aside0.mk (hbox); have n2_ := Aside0.mk ((by rw [hg]; exact (below_size (by repeat (first | (with_reducible first | exact HB.out | apply below_alloc | apply pw_below_drewN | apply below_drew1) | exact HB.out))) : w.heap.size ≤ gb213)); have n3_ := Aside0.mk ((by rw [hg]; exact (below_size (by repeat (first | (with_reducible first | exact HB.out | apply below_alloc | apply pw_below_drewN | apply below_drew1) | exact HB.out))) : w.heap.size ≤ gb213)); clear HB; have HB := n0_; have BK213 := n1_; have GW213 := n2_; have GE213 := n3_; clear n0_ n1_ n2_ n3_; clear hb hbox hg) | ((with_reducible refine gate_dst (N := 3) rfl ?_); refine box_event ?hg (N := 3) ?hd (cs := #[.int .u64 a1_0, .int .u64 a1_1, .int .u64 a1_2, .int .u64 a1_3]) (t := 29) ?hr ?_; (case hd => rfl); (case hg => rfl); (case hr => first | (go_simp; done) | (go_simp; rfl)); intro gb214 hg w4 hbox hb; have n0_ := Aside0.mk (blk_below (g := gb213) (o := .cells #[.int .u64 a0_0, .int .u64 a0_1, .int .u64 a0_2, .int .u64 a0_3] 29 (0, 0)) (by (with_reducible repeat (first | refine blk_drewN ?_ _ | refine blk_drew ?_ | refine blk_alloc ?_ _)); exact BK213.out) hb); have n1_ := Aside0.mk (below_step (by repeat (first | (with_reducible first | exact HB.out | apply below_alloc | apply pw_below_drewN | apply below_drew1 | refine below_set ?_ GE213.out) | exact HB.out)) hb); have n2_ := Aside0.mk (hbox); have n3_ := Aside0.mk ((by rw [hg]; exact (below_size (by repeat (first | (with_reducible first | exact HB.out | apply below_alloc | apply pw_below_drewN | apply below_drew1 | refine below_set ?_ GE213.out) | exact HB.out))) : w.heap.size ≤ gb214)); have n4_ := Aside0.mk ((by rw [hg]; exact (below_size (by repeat (first | (with_reducible first | exact HB.out | apply below_alloc | apply pw_below_drewN | apply below_drew1 | refine below_set ?_ GE213.out) | exact HB.out))) : w.heap.size ≤ gb214)); have n5_ := Aside0.mk ((by rw [hg]; exact Nat.ne_of_lt (blk_lt (g := gb213) (o := .cells #[.int .u64 a0_0, .int .u64 a0_1, .int .u64 a0_2, .int .u64 a0_3] 29 (0, 0)) (by (with_reducible repeat (first | refine blk_drewN ?_ _ | refine blk_drew ?_ | refine blk_alloc ?_ _)); exact BK213.out)) : gb213 ≠ gb214)); have n6_ := Aside0.mk ((by rw [hg]; exact Nat.ne_of_gt (blk_lt (g := gb213) (o := .cells #[.int .u64 a0_0, .int .u64 a0_1, .int .u64 a0_2, .int .u64 a0_3] 29 (0, 0)) (by (with_reducible repeat (first | refine blk_drewN ?_ _ | refine blk_drew ?_ | refine blk_alloc ?_ _)); exact BK213.out)) : gb214 ≠ gb213)); clear BK213; clear HB; have BK213 := n0_; have HB := n1_; have BK214 := n2_; have GW214 := n3_; have GE214 := n4_; have NB213_214 := n5_; have NB214_213 := n6_; clear n0_ n1_ n2_ n3_ n4_ n5_ n6_; clear hb hbox hg)))
  go_loopg [5] k (fun kq v5 w' => ∃ (x5_1 : Int), v5 = .int .i64 x5_1 ∧ Aside0 (tenementref06_Leq.l0 kq x5_1 a0_0 a0_1 a0_2 a0_3 a1_0 a1_1 a1_2 a1_3 = some r) ∧ Aside0 (kq ≤ k) ∧ Aside0 (w'.heap[gb213]? = some (.cells #[.int .u64 a0_0, .int .u64 a0_1, .int .u64 a0_2, .int .u64 a0_3] 29 (0, 0))) ∧ Aside0 (w'.heap[gb214]? = some (.cells #[.int .u64 a1_0, .int .u64 a1_1, .int .u64 a1_2, .int .u64 a1_3] 29 (0, 0))) ∧ Aside0 (Below w.heap.size w w'))
  case atStart => exact ⟨(0), (by first | rfl | (simp; done) | (simp [*]; done)), H', ⟨Nat.le_refl _⟩, ⟨by (with_reducible repeat (first | refine blk_drewN ?_ _ | refine blk_drew ?_ | refine blk_alloc ?_ _)); exact BK213.out⟩, ⟨by (with_reducible repeat (first | refine blk_drewN ?_ _ | refine blk_drew ?_ | refine blk_alloc ?_ _)); exact BK214.out⟩, ⟨by repeat (first | (with_reducible first | exact HB.out | apply below_alloc | apply pw_below_drewN | apply below_drew1 | refine below_set ?_ GE213.out | refine below_set ?_ GE214.out) | exact HB.out)⟩⟩
  case round =>
    clear H'
    try clear c2
    try clear p2
    obtain ⟨x5_1, rfl, HA, HK1, BK213, BK214, HB⟩ := hrel
    cases gk with
    | zero => exact absurd HA.out (by simp [tenementref06_Leq.l0])
    | succ k1 =>
      have H := HA.out
      clear HA
      simp only [tenementref06_Leq.l0] at H
      by_cases c5 : x5_1 < 4
      rotate_left
      · rw [if_neg c5] at H
        have c5b0 : decide (x5_1 < 4) = false := decide_eq_false c5
        clear c5
        obtain rfl := Option.some.inj H
        go_wp2
        repeat (go_quiet (fail); try go_wp2)
        go_ret
        exact ⟨by first | rfl | (simp [errW_none, errW_some] <;> rfl) | (simp [*, errW_none, errW_some] <;> rfl), by repeat (first | (with_reducible first | exact HB.out | apply below_alloc | apply pw_below_drewN | apply below_drew1 | refine below_set ?_ GE213.out | refine below_set ?_ GE214.out) | exact HB.out)⟩
      rw [if_pos c5] at H
      have c5b0 : decide (x5_1 < 4) = true := decide_eq_true c5
      clear c5
      by_cases c6 : x5_1 = 0
      · subst c6
        have H1 : (if a0_0 > a1_0 then (some false) else (tenementref06_Leq.l0 k1 1 a0_0 a0_1 a0_2 a0_3 a1_0 a1_1 a1_2 a1_3)) = some r := by rw [if_pos rfl] at H; (try simp only [show wrap64 ((0 : Int) + 1) = 1 from by first | rfl | decide | (unfold wrap64; omega)] at H); exact H
        clear H
        have H := H1
        clear H1
        by_cases c7 : a0_0 > a1_0
        · rw [if_pos c7] at H
          have c7b0 : decide (a1_0 < a0_0) = true := decide_eq_true c7
          clear c7
          obtain rfl := Option.some.inj H
          have hnb8 := NB213_214.out
          have hnc8 := NB214_213.out
          have hcz9_0 : wr.cell? ⟨gb213, 0, none⟩ = some (.int .u64 a0_0) := (blk_cell BK213.out 0).trans rfl
          have hcz9_1 : wr.cell? ⟨gb213, 1, none⟩ = some (.int .u64 a0_1) := (blk_cell BK213.out 1).trans rfl
          have hcz9_2 : wr.cell? ⟨gb213, 2, none⟩ = some (.int .u64 a0_2) := (blk_cell BK213.out 2).trans rfl
          have hcz9_3 : wr.cell? ⟨gb213, 3, none⟩ = some (.int .u64 a0_3) := (blk_cell BK213.out 3).trans rfl
          have hfz9_0 := blk_frozen BK213.out 0
          have hfz9_1 := blk_frozen BK213.out 1
          have hfz9_2 := blk_frozen BK213.out 2
          have hfz9_3 := blk_frozen BK213.out 3
          have hcz10_0 : wr.cell? ⟨gb214, 0, none⟩ = some (.int .u64 a1_0) := (blk_cell BK214.out 0).trans rfl
          have hcz10_1 : wr.cell? ⟨gb214, 1, none⟩ = some (.int .u64 a1_1) := (blk_cell BK214.out 1).trans rfl
          have hcz10_2 : wr.cell? ⟨gb214, 2, none⟩ = some (.int .u64 a1_2) := (blk_cell BK214.out 2).trans rfl
          have hcz10_3 : wr.cell? ⟨gb214, 3, none⟩ = some (.int .u64 a1_3) := (blk_cell BK214.out 3).trans rfl
          have hfz10_0 := blk_frozen BK214.out 0
          have hfz10_1 := blk_frozen BK214.out 1
          have hfz10_2 := blk_frozen BK214.out 2
          have hfz10_3 := blk_frozen BK214.out 3
          go_wp2
          repeat (go_quiet (fail); try go_wp2)
          go_ret
          exact ⟨by first | rfl | (simp [errW_none, errW_some] <;> rfl) | (simp [*, errW_none, errW_some] <;> rfl), by repeat (first | (with_reducible first | exact HB.out | apply below_alloc | apply pw_below_drewN | apply below_drew1 | refine below_set ?_ GE213.out | refine below_set ?_ GE214.out) | exact HB.out)⟩
        rw [if_neg c7] at H
        have c7b0 : decide (a1_0 < a0_0) = false := decide_eq_false c7
        clear c7
        have H' := Aside0.mk H
        clear H
        have hnb11 := NB213_214.out
        have hnc11 := NB214_213.out
        have hcz12_0 : wr.cell? ⟨gb213, 0, none⟩ = some (.int .u64 a0_0) := (blk_cell BK213.out 0).trans rfl
        have hcz12_1 : wr.cell? ⟨gb213, 1, none⟩ = some (.int .u64 a0_1) := (blk_cell BK213.out 1).trans rfl
        have hcz12_2 : wr.cell? ⟨gb213, 2, none⟩ = some (.int .u64 a0_2) := (blk_cell BK213.out 2).trans rfl
        have hcz12_3 : wr.cell? ⟨gb213, 3, none⟩ = some (.int .u64 a0_3) := (blk_cell BK213.out 3).trans rfl
        have hfz12_0 := blk_frozen BK213.out 0
        have hfz12_1 := blk_frozen BK213.out 1
        have hfz12_2 := blk_frozen BK213.out 2
        have hfz12_3 := blk_frozen BK213.out 3
        have hcz13_0 : wr.cell? ⟨gb214, 0, none⟩ = some (.int .u64 a1_0) := (blk_cell BK214.out 0).trans rfl
        have hcz13_1 : wr.cell? ⟨gb214, 1, none⟩ = some (.int .u64 a1_1) := (blk_cell BK214.out 1).trans rfl
        have hcz13_2 : wr.cell? ⟨gb214, 2, none⟩ = some (.int .u64 a1_2) := (blk_cell BK214.out 2).trans rfl
        have hcz13_3 : wr.cell? ⟨gb214, 3, none⟩ = some (.int .u64 a1_3) := (blk_cell BK214.out 3).trans rfl
        have hfz13_0 := blk_frozen BK214.out 0
        have hfz13_1 := blk_frozen BK214.out 1
        have hfz13_2 := blk_frozen BK214.out 2
        have hfz13_3 := blk_frozen BK214.out 3
        go_wp2
        repeat (go_quiet (fail); try go_wp2)
        go_roundg k1
        case measure => have := HK1.out; omega
        case rel => exact ⟨(1), (by first | rfl | (simp; done) | (simp [*]; done)), H', ⟨by have := HK1.out; omega⟩, ⟨by (with_reducible repeat (first | refine blk_drewN ?_ _ | refine blk_drew ?_ | refine blk_alloc ?_ _)); exact BK213.out⟩, ⟨by (with_reducible repeat (first | refine blk_drewN ?_ _ | refine blk_drew ?_ | refine blk_alloc ?_ _)); exact BK214.out⟩, ⟨by repeat (first | (with_reducible first | exact HB.out | apply below_alloc | apply pw_below_drewN | apply below_drew1 | refine below_set ?_ GE213.out | refine below_set ?_ GE214.out) | exact HB.out)⟩⟩
      rw [if_neg c6] at H
      by_cases c14 : x5_1 = 1
      · subst c14
        have H1 : (if a0_1 > a1_1 then (some false) else (tenementref06_Leq.l0 k1 2 a0_0 a0_1 a0_2 a0_3 a1_0 a1_1 a1_2 a1_3)) = some r := by rw [if_pos rfl] at H; (try simp only [show wrap64 ((1 : Int) + 1) = 2 from by first | rfl | decide | (unfold wrap64; omega)] at H); exact H
        clear H
        have H := H1
        clear H1
        by_cases c15 : a0_1 > a1_1
        · rw [if_pos c15] at H
          have c15b0 : decide (a1_1 < a0_1) = true := decide_eq_true c15
          clear c15
          obtain rfl := Option.some.inj H
          have hnb16 := NB213_214.out
          have hnc16 := NB214_213.out
          have hcz17_0 : wr.cell? ⟨gb213, 0, none⟩ = some (.int .u64 a0_0) := (blk_cell BK213.out 0).trans rfl
          have hcz17_1 : wr.cell? ⟨gb213, 1, none⟩ = some (.int .u64 a0_1) := (blk_cell BK213.out 1).trans rfl
          have hcz17_2 : wr.cell? ⟨gb213, 2, none⟩ = some (.int .u64 a0_2) := (blk_cell BK213.out 2).trans rfl
          have hcz17_3 : wr.cell? ⟨gb213, 3, none⟩ = some (.int .u64 a0_3) := (blk_cell BK213.out 3).trans rfl
          have hfz17_0 := blk_frozen BK213.out 0
          have hfz17_1 := blk_frozen BK213.out 1
          have hfz17_2 := blk_frozen BK213.out 2
          have hfz17_3 := blk_frozen BK213.out 3
          have hcz18_0 : wr.cell? ⟨gb214, 0, none⟩ = some (.int .u64 a1_0) := (blk_cell BK214.out 0).trans rfl
          have hcz18_1 : wr.cell? ⟨gb214, 1, none⟩ = some (.int .u64 a1_1) := (blk_cell BK214.out 1).trans rfl
          have hcz18_2 : wr.cell? ⟨gb214, 2, none⟩ = some (.int .u64 a1_2) := (blk_cell BK214.out 2).trans rfl
          have hcz18_3 : wr.cell? ⟨gb214, 3, none⟩ = some (.int .u64 a1_3) := (blk_cell BK214.out 3).trans rfl
          have hfz18_0 := blk_frozen BK214.out 0
          have hfz18_1 := blk_frozen BK214.out 1
          have hfz18_2 := blk_frozen BK214.out 2
          have hfz18_3 := blk_frozen BK214.out 3
          go_wp2
          repeat (go_quiet (fail); try go_wp2)
          go_ret
          exact ⟨by first | rfl | (simp [errW_none, errW_some] <;> rfl) | (simp [*, errW_none, errW_some] <;> rfl), by repeat (first | (with_reducible first | exact HB.out | apply below_alloc | apply pw_below_drewN | apply below_drew1 | refine below_set ?_ GE213.out | refine below_set ?_ GE214.out) | exact HB.out)⟩
        rw [if_neg c15] at H
        have c15b0 : decide (a1_1 < a0_1) = false := decide_eq_false c15
        clear c15
        have H' := Aside0.mk H
        clear H
        have hnb19 := NB213_214.out
        have hnc19 := NB214_213.out
        have hcz20_0 : wr.cell? ⟨gb213, 0, none⟩ = some (.int .u64 a0_0) := (blk_cell BK213.out 0).trans rfl
        have hcz20_1 : wr.cell? ⟨gb213, 1, none⟩ = some (.int .u64 a0_1) := (blk_cell BK213.out 1).trans rfl
        have hcz20_2 : wr.cell? ⟨gb213, 2, none⟩ = some (.int .u64 a0_2) := (blk_cell BK213.out 2).trans rfl
        have hcz20_3 : wr.cell? ⟨gb213, 3, none⟩ = some (.int .u64 a0_3) := (blk_cell BK213.out 3).trans rfl
        have hfz20_0 := blk_frozen BK213.out 0
        have hfz20_1 := blk_frozen BK213.out 1
        have hfz20_2 := blk_frozen BK213.out 2
        have hfz20_3 := blk_frozen BK213.out 3
        have hcz21_0 : wr.cell? ⟨gb214, 0, none⟩ = some (.int .u64 a1_0) := (blk_cell BK214.out 0).trans rfl
        have hcz21_1 : wr.cell? ⟨gb214, 1, none⟩ = some (.int .u64 a1_1) := (blk_cell BK214.out 1).trans rfl
        have hcz21_2 : wr.cell? ⟨gb214, 2, none⟩ = some (.int .u64 a1_2) := (blk_cell BK214.out 2).trans rfl
        have hcz21_3 : wr.cell? ⟨gb214, 3, none⟩ = some (.int .u64 a1_3) := (blk_cell BK214.out 3).trans rfl
        have hfz21_0 := blk_frozen BK214.out 0
        have hfz21_1 := blk_frozen BK214.out 1
        have hfz21_2 := blk_frozen BK214.out 2
        have hfz21_3 := blk_frozen BK214.out 3
        go_wp2
        repeat (go_quiet (fail); try go_wp2)
        go_roundg k1
        case measure => have := HK1.out; omega
        case rel => exact ⟨(2), (by first | rfl | (simp; done) | (simp [*]; done)), H', ⟨by have := HK1.out; omega⟩, ⟨by (with_reducible repeat (first | refine blk_drewN ?_ _ | refine blk_drew ?_ | refine blk_alloc ?_ _)); exact BK213.out⟩, ⟨by (with_reducible repeat (first | refine blk_drewN ?_ _ | refine blk_drew ?_ | refine blk_alloc ?_ _)); exact BK214.out⟩, ⟨by repeat (first | (with_reducible first | exact HB.out | apply below_alloc | apply pw_below_drewN | apply below_drew1 | refine below_set ?_ GE213.out | refine below_set ?_ GE214.out) | exact HB.out)⟩⟩
      rw [if_neg c14] at H
      by_cases c22 : x5_1 = 2
      · subst c22
        have H1 : (if a0_2 > a1_2 then (some false) else (tenementref06_Leq.l0 k1 3 a0_0 a0_1 a0_2 a0_3 a1_0 a1_1 a1_2 a1_3)) = some r := by rw [if_pos rfl] at H; (try simp only [show wrap64 ((2 : Int) + 1) = 3 from by first | rfl | decide | (unfold wrap64; omega)] at H); exact H
        clear H
        have H := H1
        clear H1
        by_cases c23 : a0_2 > a1_2
        · rw [if_pos c23] at H
          have c23b0 : decide (a1_2 < a0_2) = true := decide_eq_true c23
          clear c23
          obtain rfl := Option.some.inj H
          have hnb24 := NB213_214.out
          have hnc24 := NB214_213.out
          have hcz25_0 : wr.cell? ⟨gb213, 0, none⟩ = some (.int .u64 a0_0) := (blk_cell BK213.out 0).trans rfl
          have hcz25_1 : wr.cell? ⟨gb213, 1, none⟩ = some (.int .u64 a0_1) := (blk_cell BK213.out 1).trans rfl
          have hcz25_2 : wr.cell? ⟨gb213, 2, none⟩ = some (.int .u64 a0_2) := (blk_cell BK213.out 2).trans rfl
          have hcz25_3 : wr.cell? ⟨gb213, 3, none⟩ = some (.int .u64 a0_3) := (blk_cell BK213.out 3).trans rfl
          have hfz25_0 := blk_frozen BK213.out 0
          have hfz25_1 := blk_frozen BK213.out 1
          have hfz25_2 := blk_frozen BK213.out 2
          have hfz25_3 := blk_frozen BK213.out 3
          have hcz26_0 : wr.cell? ⟨gb214, 0, none⟩ = some (.int .u64 a1_0) := (blk_cell BK214.out 0).trans rfl
          have hcz26_1 : wr.cell? ⟨gb214, 1, none⟩ = some (.int .u64 a1_1) := (blk_cell BK214.out 1).trans rfl
          have hcz26_2 : wr.cell? ⟨gb214, 2, none⟩ = some (.int .u64 a1_2) := (blk_cell BK214.out 2).trans rfl
          have hcz26_3 : wr.cell? ⟨gb214, 3, none⟩ = some (.int .u64 a1_3) := (blk_cell BK214.out 3).trans rfl
          have hfz26_0 := blk_frozen BK214.out 0
          have hfz26_1 := blk_frozen BK214.out 1
          have hfz26_2 := blk_frozen BK214.out 2
          have hfz26_3 := blk_frozen BK214.out 3
          go_wp2
          repeat (go_quiet (fail); try go_wp2)
          go_ret
          exact ⟨by first | rfl | (simp [errW_none, errW_some] <;> rfl) | (simp [*, errW_none, errW_some] <;> rfl), by repeat (first | (with_reducible first | exact HB.out | apply below_alloc | apply pw_below_drewN | apply below_drew1 | refine below_set ?_ GE213.out | refine below_set ?_ GE214.out) | exact HB.out)⟩
        rw [if_neg c23] at H
        have c23b0 : decide (a1_2 < a0_2) = false := decide_eq_false c23
        clear c23
        have H' := Aside0.mk H
        clear H
        have hnb27 := NB213_214.out
        have hnc27 := NB214_213.out
        have hcz28_0 : wr.cell? ⟨gb213, 0, none⟩ = some (.int .u64 a0_0) := (blk_cell BK213.out 0).trans rfl
        have hcz28_1 : wr.cell? ⟨gb213, 1, none⟩ = some (.int .u64 a0_1) := (blk_cell BK213.out 1).trans rfl
        have hcz28_2 : wr.cell? ⟨gb213, 2, none⟩ = some (.int .u64 a0_2) := (blk_cell BK213.out 2).trans rfl
        have hcz28_3 : wr.cell? ⟨gb213, 3, none⟩ = some (.int .u64 a0_3) := (blk_cell BK213.out 3).trans rfl
        have hfz28_0 := blk_frozen BK213.out 0
        have hfz28_1 := blk_frozen BK213.out 1
        have hfz28_2 := blk_frozen BK213.out 2
        have hfz28_3 := blk_frozen BK213.out 3
        have hcz29_0 : wr.cell? ⟨gb214, 0, none⟩ = some (.int .u64 a1_0) := (blk_cell BK214.out 0).trans rfl
        have hcz29_1 : wr.cell? ⟨gb214, 1, none⟩ = some (.int .u64 a1_1) := (blk_cell BK214.out 1).trans rfl
        have hcz29_2 : wr.cell? ⟨gb214, 2, none⟩ = some (.int .u64 a1_2) := (blk_cell BK214.out 2).trans rfl
        have hcz29_3 : wr.cell? ⟨gb214, 3, none⟩ = some (.int .u64 a1_3) := (blk_cell BK214.out 3).trans rfl
        have hfz29_0 := blk_frozen BK214.out 0
        have hfz29_1 := blk_frozen BK214.out 1
        have hfz29_2 := blk_frozen BK214.out 2
        have hfz29_3 := blk_frozen BK214.out 3
        go_wp2
        repeat (go_quiet (fail); try go_wp2)
        go_roundg k1
        case measure => have := HK1.out; omega
        case rel => exact ⟨(3), (by first | rfl | (simp; done) | (simp [*]; done)), H', ⟨by have := HK1.out; omega⟩, ⟨by (with_reducible repeat (first | refine blk_drewN ?_ _ | refine blk_drew ?_ | refine blk_alloc ?_ _)); exact BK213.out⟩, ⟨by (with_reducible repeat (first | refine blk_drewN ?_ _ | refine blk_drew ?_ | refine blk_alloc ?_ _)); exact BK214.out⟩, ⟨by repeat (first | (with_reducible first | exact HB.out | apply below_alloc | apply pw_below_drewN | apply below_drew1 | refine below_set ?_ GE213.out | refine below_set ?_ GE214.out) | exact HB.out)⟩⟩
      rw [if_neg c22] at H
      by_cases c30 : x5_1 = 3
      rotate_left
      · rw [if_neg c30] at H
        exact absurd H (by simp)
      subst c30
      have H1 : (if a0_3 > a1_3 then (some false) else (tenementref06_Leq.l0 k1 4 a0_0 a0_1 a0_2 a0_3 a1_0 a1_1 a1_2 a1_3)) = some r := by rw [if_pos rfl] at H; (try simp only [show wrap64 ((3 : Int) + 1) = 4 from by first | rfl | decide | (unfold wrap64; omega)] at H); exact H
      clear H
      have H := H1
      clear H1
      by_cases c31 : a0_3 > a1_3
      · rw [if_pos c31] at H
        have c31b0 : decide (a1_3 < a0_3) = true := decide_eq_true c31
        clear c31
        obtain rfl := Option.some.inj H
        have hnb32 := NB213_214.out
        have hnc32 := NB214_213.out
        have hcz33_0 : wr.cell? ⟨gb213, 0, none⟩ = some (.int .u64 a0_0) := (blk_cell BK213.out 0).trans rfl
        have hcz33_1 : wr.cell? ⟨gb213, 1, none⟩ = some (.int .u64 a0_1) := (blk_cell BK213.out 1).trans rfl
        have hcz33_2 : wr.cell? ⟨gb213, 2, none⟩ = some (.int .u64 a0_2) := (blk_cell BK213.out 2).trans rfl
        have hcz33_3 : wr.cell? ⟨gb213, 3, none⟩ = some (.int .u64 a0_3) := (blk_cell BK213.out 3).trans rfl
        have hfz33_0 := blk_frozen BK213.out 0
        have hfz33_1 := blk_frozen BK213.out 1
        have hfz33_2 := blk_frozen BK213.out 2
        have hfz33_3 := blk_frozen BK213.out 3
        have hcz34_0 : wr.cell? ⟨gb214, 0, none⟩ = some (.int .u64 a1_0) := (blk_cell BK214.out 0).trans rfl
        have hcz34_1 : wr.cell? ⟨gb214, 1, none⟩ = some (.int .u64 a1_1) := (blk_cell BK214.out 1).trans rfl
        have hcz34_2 : wr.cell? ⟨gb214, 2, none⟩ = some (.int .u64 a1_2) := (blk_cell BK214.out 2).trans rfl
        have hcz34_3 : wr.cell? ⟨gb214, 3, none⟩ = some (.int .u64 a1_3) := (blk_cell BK214.out 3).trans rfl
        have hfz34_0 := blk_frozen BK214.out 0
        have hfz34_1 := blk_frozen BK214.out 1
        have hfz34_2 := blk_frozen BK214.out 2
        have hfz34_3 := blk_frozen BK214.out 3
        go_wp2
        repeat (go_quiet (fail); try go_wp2)
        go_ret
        exact ⟨by first | rfl | (simp [errW_none, errW_some] <;> rfl) | (simp [*, errW_none, errW_some] <;> rfl), by repeat (first | (with_reducible first | exact HB.out | apply below_alloc | apply pw_below_drewN | apply below_drew1 | refine below_set ?_ GE213.out | refine below_set ?_ GE214.out) | exact HB.out)⟩
      rw [if_neg c31] at H
      have c31b0 : decide (a1_3 < a0_3) = false := decide_eq_false c31
      clear c31
      have H' := Aside0.mk H
      clear H
      have hnb35 := NB213_214.out
      have hnc35 := NB214_213.out
      have hcz36_0 : wr.cell? ⟨gb213, 0, none⟩ = some (.int .u64 a0_0) := (blk_cell BK213.out 0).trans rfl
      have hcz36_1 : wr.cell? ⟨gb213, 1, none⟩ = some (.int .u64 a0_1) := (blk_cell BK213.out 1).trans rfl
      have hcz36_2 : wr.cell? ⟨gb213, 2, none⟩ = some (.int .u64 a0_2) := (blk_cell BK213.out 2).trans rfl
      have hcz36_3 : wr.cell? ⟨gb213, 3, none⟩ = some (.int .u64 a0_3) := (blk_cell BK213.out 3).trans rfl
      have hfz36_0 := blk_frozen BK213.out 0
      have hfz36_1 := blk_frozen BK213.out 1
      have hfz36_2 := blk_frozen BK213.out 2
      have hfz36_3 := blk_frozen BK213.out 3
      have hcz37_0 : wr.cell? ⟨gb214, 0, none⟩ = some (.int .u64 a1_0) := (blk_cell BK214.out 0).trans rfl
      have hcz37_1 : wr.cell? ⟨gb214, 1, none⟩ = some (.int .u64 a1_1) := (blk_cell BK214.out 1).trans rfl
      have hcz37_2 : wr.cell? ⟨gb214, 2, none⟩ = some (.int .u64 a1_2) := (blk_cell BK214.out 2).trans rfl
      have hcz37_3 : wr.cell? ⟨gb214, 3, none⟩ = some (.int .u64 a1_3) := (blk_cell BK214.out 3).trans rfl
      have hfz37_0 := blk_frozen BK214.out 0
      have hfz37_1 := blk_frozen BK214.out 1
      have hfz37_2 := blk_frozen BK214.out 2
      have hfz37_3 := blk_frozen BK214.out 3
      go_wp2
      repeat (go_quiet (fail); try go_wp2)
      go_roundg k1
      case measure => have := HK1.out; omega
      case rel => exact ⟨(4), (by first | rfl | (simp; done) | (simp [*]; done)), H', ⟨by have := HK1.out; omega⟩, ⟨by (with_reducible repeat (first | refine blk_drewN ?_ _ | refine blk_drew ?_ | refine blk_alloc ?_ _)); exact BK213.out⟩, ⟨by (with_reducible repeat (first | refine blk_drewN ?_ _ | refine blk_drew ?_ | refine blk_alloc ?_ _)); exact BK214.out⟩, ⟨by repeat (first | (with_reducible first | exact HB.out | apply below_alloc | apply pw_below_drewN | apply below_drew1 | refine below_set ?_ GE213.out | refine below_set ?_ GE214.out) | exact HB.out)⟩⟩

end Go.Proofs.YtakhahfegialfaaDoor.Q
