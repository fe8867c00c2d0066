-- Written by this session's own driver (wip/hybrid.py) of the kit's printer; contracts marked FOREIGN are by hand.
import Derived.Test.YtakhahfegialfaaDoorQx0
import Derived.Test.YtakhahfegialfaaDoorQxe24
import Derived.Test.YtakhahfegialfaaDoorQxf18
import Derived.Test.YtakhahfegialfaaDoorQxf22
import Derived.Test.YtakhahfegialfaaDoorQxf26
import Derived.Test.YtakhahfegialfaaDoorQxf10
import Derived.Test.YtakhahfegialfaaDoorQxf11
namespace Go.Proofs.YtakhahfegialfaaDoor.Q
open Go.RowKit Go.Proofs.YtakhahfegialfaaDoorW.PrintWords Go.Proofs.YtakhahfegialfaaDoorW.PrintLast Go.Proofs.YtakhahfegialfaaDoorW.PrintMore
attribute [local go_sem] max2_int min2_int max_two min_two max_three min_three max_four min_four   -- for this text's walks alone
set_option linter.unusedVariables false
set_option linter.unusedSimpArgs false

attribute [local go_sem] ixA24_0 ixA24_1 ixA24_2 ixA24_3   -- for this text's walks alone
attribute [local go_sem high] eqA24
/-! ### tenementlaw06_VecAll: function 9 -/
mutual
def tenementlaw06_VecAll.j1 : Nat → Bool → List (S24) → Int → Int → Int → Int → Bool → Option (Bool)
  | 0, _, _, _, _, _, _, _ => none
  | k + 1, x5, x6, x1061000, x1061001, x1061002, x1061003, x1061004 => (vec_All.f k x6).bind fun bt1070 => ((tenementlaw06_Vector_vector.f k x1061000 x1061001 x1061002 x1061003 x1061004).bind fun bt1075 => (tenementlaw06_VecAll.l1 k x5 x6 true 0 bt1070.1 bt1070.2.1 bt1070.2.2.1 bt1070.2.2.2 bt1075.1 bt1075.2.1 bt1075.2.2.1 bt1075.2.2.2))
def tenementlaw06_VecAll.l1 : Nat → Bool → List (S24) → Bool → Int → Int → Int → Int → Int → Int → Int → Int → Int → Option (Bool)
  | 0, _, _, _, _, _, _, _, _, _, _, _, _ => none
  | k + 1, x5, x6, x10, x11, x1075000, x1075001, x1075002, x1075003, x1080000, x1080001, x1080002, x1080003 => if x11 < (x6.length : Int) then (if 0 ≤ x11 then ((vec_Leq.f x1075000 x1075001 x1075002 x1075003 ((rd_T24 x6 x11).f0) ((rd_T24 x6 x11).f1) ((rd_T24 x6 x11).f2) ((rd_T24 x6 x11).f3)).bind fun t1081 => (if t1081 = true then (if x10 = true then ((vec_Leq.f x1080000 x1080001 x1080002 x1080003 ((rd_T24 x6 x11).f0) ((rd_T24 x6 x11).f1) ((rd_T24 x6 x11).f2) ((rd_T24 x6 x11).f3)).bind fun t1083 => (tenementlaw06_VecAll.l1 k x5 x6 t1083 (wrap64 (x11 + 1)) x1075000 x1075001 x1075002 x1075003 x1080000 x1080001 x1080002 x1080003)) else (tenementlaw06_VecAll.l1 k x5 x6 false (wrap64 (x11 + 1)) x1075000 x1075001 x1075002 x1075003 x1080000 x1080001 x1080002 x1080003)) else (none))) else (none)) else (if (x6.length : Int) = 0 then (if x5 = true then ((vec_Sum.f x1075000 x1075001 x1075002 x1075003).bind fun t1084 => (if t1084 = 0 then (some true) else (none))) else (none)) else (if x5 = true then (if x10 = true then ((vec_Leq.f x1080000 x1080001 x1080002 x1080003 x1075000 x1075001 x1075002 x1075003).bind fun t1085 => (if t1085 = true then (if 1 ≤ (x6.length : Int) then ((vec_All.f k (x6.take 1)).bind fun bt1090 => (if 0 < (x6.length : Int) then (if (bt1090.1 == ((rd_T24 x6 0).f0) && (bt1090.2.1 == ((rd_T24 x6 0).f1) && (bt1090.2.2.1 == ((rd_T24 x6 0).f2) && (bt1090.2.2.2 == ((rd_T24 x6 0).f3))))) = true then (some true) else (none)) else (none))) else (none)) else (none))) else (if 1 ≤ (x6.length : Int) then ((vec_All.f k (x6.take 1)).bind fun bt1099 => (if 0 < (x6.length : Int) then (if (bt1099.1 == ((rd_T24 x6 0).f0) && (bt1099.2.1 == ((rd_T24 x6 0).f1) && (bt1099.2.2.1 == ((rd_T24 x6 0).f2) && (bt1099.2.2.2 == ((rd_T24 x6 0).f3))))) = true then (some true) else (none)) else (none))) else (none))) else (none)))
def tenementlaw06_VecAll.l0 : Nat → List (S26) → Bool → List (S24) → Int → Int → Int → Int → Int → Bool → Option (Bool)
  | 0, _, _, _, _, _, _, _, _, _ => none
  | k + 1, x0, x5, x6, x7, x1061000, x1061001, x1061002, x1061003, x1061004 => if x7 < (x0.length : Int) then (if x7 < 8 then (if 0 ≤ x7 then ((tenementlaw06_Vector_vector.f k ((rd_T26 x0 x7).f0.f0) ((rd_T26 x0 x7).f0.f1) ((rd_T26 x0 x7).f0.f2) ((rd_T26 x0 x7).f0.f3) ((rd_T26 x0 x7).f1)).bind fun bt1063 => (if x6.length < 4398046511104 then (tenementlaw06_VecAll.l0 k x0 x5 (x6 ++ [(⟨bt1063.1, bt1063.2.1, bt1063.2.2.1, bt1063.2.2.2⟩ : S24)]) (wrap64 (x7 + 1)) x1061000 x1061001 x1061002 x1061003 x1061004) else (none))) else (none)) else (tenementlaw06_VecAll.j1 k x5 x6 x1061000 x1061001 x1061002 x1061003 x1061004)) else (tenementlaw06_VecAll.j1 k x5 x6 x1061000 x1061001 x1061002 x1061003 x1061004)
end
def tenementlaw06_VecAll.f (k : Nat) (l0 : List (S26)) (a1_0 : Int) (a1_1 : Int) (a1_2 : Int) (a1_3 : Int) (a1_4 : Bool) : Option (Bool) := (tenementlaw06_examples.f k).bind fun t1061 => (if t1061 = true then (tenementlaw06_VecAll.l0 k l0 t1061 ([] : List (S24)) 0 a1_0 a1_1 a1_2 a1_3 a1_4) else (none))
theorem tenementlaw06_VecAll.mono_l : ∀ k, (∀ y0 y1 y2 y3 y4 y5 y6, LeO (tenementlaw06_VecAll.j1 k y0 y1 y2 y3 y4 y5 y6) (tenementlaw06_VecAll.j1 (k + 1) y0 y1 y2 y3 y4 y5 y6)) ∧ (∀ y0 y1 y2 y3 y4 y5 y6 y7 y8 y9 y10 y11, LeO (tenementlaw06_VecAll.l1 k y0 y1 y2 y3 y4 y5 y6 y7 y8 y9 y10 y11) (tenementlaw06_VecAll.l1 (k + 1) y0 y1 y2 y3 y4 y5 y6 y7 y8 y9 y10 y11)) ∧ (∀ y0 y1 y2 y3 y4 y5 y6 y7 y8, LeO (tenementlaw06_VecAll.l0 k y0 y1 y2 y3 y4 y5 y6 y7 y8) (tenementlaw06_VecAll.l0 (k + 1) y0 y1 y2 y3 y4 y5 y6 y7 y8))
  | 0 => ⟨fun _ _ _ _ _ _ _ r h => by simp [tenementlaw06_VecAll.j1] at h, fun _ _ _ _ _ _ _ _ _ _ _ _ r h => by simp [tenementlaw06_VecAll.l1] at h, fun _ _ _ _ _ _ _ _ _ r h => by simp [tenementlaw06_VecAll.l0] at h⟩
  | k + 1 => by
    obtain ⟨ih0, ih1, ih2⟩ := tenementlaw06_VecAll.mono_l k
    refine ⟨?_, ?_, ?_⟩
    · intro y0 y1 y2 y3 y4 y5 y6
      unfold tenementlaw06_VecAll.j1
      repeat' first
      | (with_reducible exact ih0 _ _ _ _ _ _ _)
      | (with_reducible exact ih1 _ _ _ _ _ _ _ _ _ _ _ _)
      | (with_reducible exact ih2 _ _ _ _ _ _ _ _ _)
      | (with_reducible exact tenementlaw06_Vector_vector.mono _ _ _ _ _ _)
      | (with_reducible exact tenementlaw06_examples.mono _)
      | (with_reducible exact vec_All.mono _ _)
      | (with_reducible exact LeO.refl _)
      | (with_reducible exact LeO.none _)
      | (with_reducible refine LeO.ite ?_ ?_)
      | (with_reducible refine LeO.bind ?_ (fun _ => ?_))
      | exact ih0 _ _ _ _ _ _ _
      | exact ih1 _ _ _ _ _ _ _ _ _ _ _ _
      | exact ih2 _ _ _ _ _ _ _ _ _
      | exact tenementlaw06_Vector_vector.mono _ _ _ _ _ _
      | exact tenementlaw06_examples.mono _
      | exact vec_All.mono _ _
      | exact LeO.none _
      | refine LeO.ite ?_ ?_
      | refine LeO.bind ?_ (fun _ => ?_)
    · intro y0 y1 y2 y3 y4 y5 y6 y7 y8 y9 y10 y11
      unfold tenementlaw06_VecAll.l1
      repeat' first
      | (with_reducible exact ih0 _ _ _ _ _ _ _)
      | (with_reducible exact ih1 _ _ _ _ _ _ _ _ _ _ _ _)
      | (with_reducible exact ih2 _ _ _ _ _ _ _ _ _)
      | (with_reducible exact tenementlaw06_Vector_vector.mono _ _ _ _ _ _)
      | (with_reducible exact tenementlaw06_examples.mono _)
      | (with_reducible exact vec_All.mono _ _)
      | (with_reducible exact LeO.refl _)
      | (with_reducible exact LeO.none _)
      | (with_reducible refine LeO.ite ?_ ?_)
      | (with_reducible refine LeO.bind ?_ (fun _ => ?_))
      | exact ih0 _ _ _ _ _ _ _
      | exact ih1 _ _ _ _ _ _ _ _ _ _ _ _
      | exact ih2 _ _ _ _ _ _ _ _ _
      | exact tenementlaw06_Vector_vector.mono _ _ _ _ _ _
      | exact tenementlaw06_examples.mono _
      | exact vec_All.mono _ _
      | exact LeO.none _
      | refine LeO.ite ?_ ?_
      | refine LeO.bind ?_ (fun _ => ?_)
    · intro y0 y1 y2 y3 y4 y5 y6 y7 y8
      unfold tenementlaw06_VecAll.l0
      repeat' first
      | (with_reducible exact ih0 _ _ _ _ _ _ _)
      | (with_reducible exact ih1 _ _ _ _ _ _ _ _ _ _ _ _)
      | (with_reducible exact ih2 _ _ _ _ _ _ _ _ _)
      | (with_reducible exact tenementlaw06_Vector_vector.mono _ _ _ _ _ _)
      | (with_reducible exact tenementlaw06_examples.mono _)
      | (with_reducible exact vec_All.mono _ _)
      | (with_reducible exact LeO.refl _)
      | (with_reducible exact LeO.none _)
      | (with_reducible refine LeO.ite ?_ ?_)
      | (with_reducible refine LeO.bind ?_ (fun _ => ?_))
      | exact ih0 _ _ _ _ _ _ _
      | exact ih1 _ _ _ _ _ _ _ _ _ _ _ _
      | exact ih2 _ _ _ _ _ _ _ _ _
      | exact tenementlaw06_Vector_vector.mono _ _ _ _ _ _
      | exact tenementlaw06_examples.mono _
      | exact vec_All.mono _ _
      | exact LeO.none _
      | refine LeO.ite ?_ ?_
      | refine LeO.bind ?_ (fun _ => ?_)
theorem tenementlaw06_VecAll.mono : ∀ a0 a1 a2 a3 a4 a5 k, LeO (tenementlaw06_VecAll.f k a0 a1 a2 a3 a4 a5) (tenementlaw06_VecAll.f (k + 1) a0 a1 a2 a3 a4 a5) := by
  intro a0 a1 a2 a3 a4 a5 k
  obtain ⟨ih0, ih1, ih2⟩ := tenementlaw06_VecAll.mono_l k
  unfold tenementlaw06_VecAll.f
  repeat' first
      | (with_reducible exact ih0 _ _ _ _ _ _ _)
      | (with_reducible exact ih1 _ _ _ _ _ _ _ _ _ _ _ _)
      | (with_reducible exact ih2 _ _ _ _ _ _ _ _ _)
      | (with_reducible exact tenementlaw06_Vector_vector.mono _ _ _ _ _ _)
      | (with_reducible exact tenementlaw06_examples.mono _)
      | (with_reducible exact vec_All.mono _ _)
      | (with_reducible exact LeO.refl _)
      | (with_reducible exact LeO.none _)
      | (with_reducible refine LeO.ite ?_ ?_)
      | (with_reducible refine LeO.bind ?_ (fun _ => ?_))
      | exact ih0 _ _ _ _ _ _ _
      | exact ih1 _ _ _ _ _ _ _ _ _ _ _ _
      | exact ih2 _ _ _ _ _ _ _ _ _
      | exact tenementlaw06_Vector_vector.mono _ _ _ _ _ _
      | exact tenementlaw06_examples.mono _
      | exact vec_All.mono _ _
      | exact LeO.none _
      | refine LeO.ite ?_ ?_
      | refine LeO.bind ?_ (fun _ => ?_)
def tenementlaw06_VecAll.T17 : Bool × List (List Nat × List Nat) := (true, [([], []), ([0], [0]), ([1], [1]), ([1], [1]), ([1], [1]), ([3, 4, 1], [1, 3, 4]), ([5, 1], [1, 5]), ([2, 6, 1, 1], [1, 2, 6]), ([1, 7], [1, 7]), ([8, 7, 0, 1, 2, 3, 4, 5, 6, 7, 8], [0, 8])])
def tenementlaw06_VecAll.B17 : List Nat := [0, 1, 3, 3, 3, 27, 59, 127, 255, 511]
theorem tenementlaw06_VecAll.tab17 : rtab .any (opsOf Tryd.f9 17) = tenementlaw06_VecAll.T17 := by kernel_rfl
theorem tenementlaw06_VecAll.bits17 : waitsOk tenementlaw06_VecAll.T17.2 tenementlaw06_VecAll.B17 = true := by kernel_rfl
def tenementlaw06_VecAll.T20 : Bool × List (List Nat × List Nat) := (true, [([], []), ([0], [0]), ([1], [1]), ([2, 1], [1, 2]), ([3, 1, 1], [1, 3]), ([4], [4]), ([4], [4]), ([5, 6, 4, 4], [4, 5, 6]), ([4, 7, 1], [1, 4, 7]), ([1, 8], [1, 8]), ([9, 7], [9]), ([10], [10]), ([11, 10], [10, 11]), ([12, 10, 10], [10, 12]), ([10], [10]), ([14, 10], [10, 14]), ([15, 10], [10, 15]), ([13, 16, 10], [10, 13, 16]), ([10, 17], [10, 17]), ([18, 13, 0, 1, 2, 3, 4, 5, 6, 7, 8, 9, 10, 11, 12, 13, 14, 15, 16, 17, 18], [18])])
def tenementlaw06_VecAll.B20 : List Nat := [0, 1, 3, 7, 15, 31, 31, 127, 255, 511, 1023, 2047, 4095, 8191, 2047, 18431, 51199, 131071, 262143, 524287]
theorem tenementlaw06_VecAll.tab20 : rtab .any (opsOf Tryd.f9 20) = tenementlaw06_VecAll.T20 := by kernel_rfl
theorem tenementlaw06_VecAll.bits20 : waitsOk tenementlaw06_VecAll.T20.2 tenementlaw06_VecAll.B20 = true := by kernel_rfl
set_option maxHeartbeats 8000000 in
set_option maxRecDepth 100000 in
theorem tenementlaw06_VecAll.calls (k : Nat) (A0 : Option Addr) (c0 : Nat) (l0 : List (S26)) (a1_0 : Int) (a1_1 : Int) (a1_2 : Int) (a1_3 : Int) (a1_4 : Bool) (r : Bool) (w : World) (hr0 : Kd.C k26 w A0 l0.length l0) (hc0 : l0.length ≤ c0) (h : tenementlaw06_VecAll.f k l0 a1_0 a1_1 a1_2 a1_3 a1_4 = some r) :
    Calls Tryd.prog 9 #[.slice A0 l0.length c0, .agg #[.int .u64 a1_0, .int .u64 a1_1, .int .u64 a1_2, .int .u64 a1_3, .bool a1_4]] w fun e w' => e = .returned (.bool r) ∧ Below w.heap.size w w' := by
  have hu26 := Tryd.underlying26
  have hu24 := Tryd.underlying24
  have HR0 := Aside0.mk hr0
  have HC0 := Aside0.mk hc0
  clear hr0 hc0
  have HB := Aside0.mk (Below.refl w.heap.size w)
  have H : ((tenementlaw06_examples.f k).bind fun t1061 => (if t1061 = true then (tenementlaw06_VecAll.l0 k l0 t1061 ([] : List (S24)) 0 a1_0 a1_1 a1_2 a1_3 a1_4) else (none))) = some r := h
  clear h
  replace H := Option.bind_eq_some_iff.mp H
  obtain ⟨t1061, A30, H⟩ := H
  replace H : (if t1061 = true then (tenementlaw06_VecAll.l0 k l0 t1061 ([] : List (S24)) 0 a1_0 a1_1 a1_2 a1_3 a1_4) else (none)) = some r := H
  have A3 := Aside0.mk A30
  clear A30
  by_cases c4 : t1061 = true
  rotate_left
  · replace c4 := Bool.eq_false_iff.mpr c4
    subst c4
    have H1 : (none) = some r := by rw [if_neg (show ¬ (false = true) by decide)] at H; exact H
    clear H
    have H := H1
    clear H1
    exact absurd H (by simp)
  subst c4
  have H1 : (tenementlaw06_VecAll.l0 k l0 true ([] : List (S24)) 0 a1_0 a1_1 a1_2 a1_3 a1_4) = some r := by rw [if_pos rfl] at H; exact H
  clear H
  have H := H1
  clear H1
  have HC5 := Aside0.mk H
  clear H
  go_enter Tryd.func9, Tryd.ntmps9
  go_upto_block 0 with (first | ((with_reducible refine gate_dst (N := 3) rfl ?_); refine box_event ?hg (N := 3) ?hd (cs := #[.int .u64 a1_0, .int .u64 a1_1, .int .u64 a1_2, .int .u64 a1_3, .bool a1_4]) (t := 26) ?hr ?_; (case hd => rfl); (case hg => rfl); (case hr => first | (go_simp; done) | (go_simp; rfl)); intro gb1060 hg w6 hbox hb; have n0_ := Aside0.mk (below_step (by repeat (first | (with_reducible first | exact HB.out | apply below_alloc | apply pw_below_drewN | apply below_drew1) | exact HB.out)) hb); have n1_ := Aside0.mk (hbox); have n2_ := Aside0.mk ((by rw [hg]; exact (below_size (by repeat (first | (with_reducible first | exact HB.out | apply below_alloc | apply pw_below_drewN | apply below_drew1) | exact HB.out))) : w.heap.size ≤ gb1060)); have n3_ := Aside0.mk ((by rw [hg]; exact (below_size (by repeat (first | (with_reducible first | exact HB.out | apply below_alloc | apply pw_below_drewN | apply below_drew1) | exact HB.out))) : w.heap.size ≤ gb1060)); clear HB; have HB := n0_; have BK1060 := n1_; have GW1060 := n2_; have GE1060 := n3_; clear n0_ n1_ n2_ n3_; clear hb hbox hg) | ((with_reducible refine gate_callee (f := 10) rfl ?_); refine goesL_ (some 12) rfl rfl Tryd.func10 (by kernel_rfl) rfl #[] rfl (by (try simp only [List.map_toArray, List.map_cons, List.map_nil]); first | done | rfl | (simp only [List.length_drop, List.length_take]; rfl)) ?_; (with_reducible refine (tenementlaw06_examples.calls k  true _ A3.out).mono ?_); rintro e w7 ⟨rfl, hb⟩; refine ⟨_, rfl, ?_⟩; have n0_ := Aside0.mk (blk_below (g := gb1060) (o := .cells #[.int .u64 a1_0, .int .u64 a1_1, .int .u64 a1_2, .int .u64 a1_3, .bool a1_4] 26 (0, 0)) (by (with_reducible repeat (first | refine blk_drewN ?_ _ | refine blk_drew ?_ | refine blk_alloc ?_ _)); exact BK1060.out) hb); have n1_ := Aside0.mk (below_step (by repeat (first | (with_reducible first | exact HB.out | apply below_alloc | apply pw_below_drewN | apply below_drew1 | refine below_set ?_ GE1060.out) | exact HB.out)) hb); clear BK1060; clear HB; have BK1060 := n0_; have HB := n1_; clear n0_ n1_; (try clear hb); (try clear hb2); (try clear hk); (try clear hi)))
  (try simp only [Act.put, List.setIfInBounds_toArray, List.set_cons_zero, List.set_cons_succ])
  go_cut [6] (fun v6 wc => ∃ (kq : Nat) (x6_4 : List (S24)), Aside0 (tenementlaw06_VecAll.j1 kq true x6_4 a1_0 a1_1 a1_2 a1_3 a1_4 = some r) ∧ Aside0 (kq ≤ k) ∧ Aside0 (Kd.R k24 24 wc w.heap.size (fun _ => True) v6 x6_4) ∧ Aside0 (wc.heap[gb1060]? = some (.cells #[.int .u64 a1_0, .int .u64 a1_1, .int .u64 a1_2, .int .u64 a1_3, .bool a1_4] 26 (0, 0))) ∧ Aside0 (Below w.heap.size w wc))
  case first =>
    have H := HC5.out
    clear HC5
    have H' := Aside0.mk H
    clear H
    go_wp2
    go_loopg [6, 7] k (fun kq v6 v7 w' => ∃ (x6_1 : List (S24)) (x7_1 : Int), v7 = .int .i64 x7_1 ∧ Aside0 (tenementlaw06_VecAll.l0 kq l0 true x6_1 x7_1 a1_0 a1_1 a1_2 a1_3 a1_4 = some r) ∧ Aside0 (kq ≤ k) ∧ Aside0 (Kd.R k24 24 w' w.heap.size (fun _ => True) v6 x6_1) ∧ Aside0 (w'.heap[gb1060]? = some (.cells #[.int .u64 a1_0, .int .u64 a1_1, .int .u64 a1_2, .int .u64 a1_3, .bool a1_4] 26 (0, 0))) ∧ Aside0 (Below w.heap.size w w'))
    case atStart => exact ⟨(([] : List (S24))), (0), (by first | rfl | (simp; done) | (simp [*]; done)), H', ⟨Nat.le_refl _⟩, ⟨by first | exact Kd.R_nil _ _ _ _ _ | exact Kd.N_nil _ _ _ _ _ | exact Kd.V_nil _ _ _ _ _ | exact Kd.Q_nil _ _ _ _ _ | exact Kd.S_nil _ _ _ _ _⟩, ⟨by (with_reducible repeat (first | refine blk_drewN ?_ _ | refine blk_drew ?_ | refine blk_alloc ?_ _)); exact BK1060.out⟩, ⟨by repeat (first | (with_reducible first | exact HB.out | apply below_alloc | apply pw_below_drewN | apply below_drew1 | refine below_set ?_ GE1060.out) | exact HB.out)⟩⟩
    case round =>
      clear H'
      try clear c1
      try clear p2
      try clear c4
      obtain ⟨x6_1, x7_1, rfl, HA, HK1, HO_6, BK1060, HB⟩ := hrel
      cases gk with
      | zero => exact absurd HA.out (by simp [tenementlaw06_VecAll.l0])
      | succ k1 =>
        have H := HA.out
        clear HA
        simp only [tenementlaw06_VecAll.l0] at H
        by_cases c8 : x7_1 < (l0.length : Int)
        rotate_left
        · rw [if_neg c8] at H
          have c8b0 : decide (x7_1 < (l0.length : Int)) = false := decide_eq_false c8
          clear c8
          (first | rw [c8b0] | (simp only [i64_w, i32_w]; rw [c8b0]) | skip)
          have H' := Aside0.mk H
          clear H
          go_wp2
          go_meet
          case rel => exact ⟨_, (x6_1), H', ⟨by have := HK1.out; first | omega | exact Nat.le_refl _⟩, ⟨by (with_reducible repeat (first | apply Kd.R_alloc | apply Kd.R_drewN | apply Kd.R_drew)); exact HO_6.out⟩, ⟨by (with_reducible repeat (first | refine blk_drewN ?_ _ | refine blk_drew ?_ | refine blk_alloc ?_ _)); exact BK1060.out⟩, ⟨by repeat (first | (with_reducible first | exact HB.out | apply below_alloc | apply pw_below_drewN | apply below_drew1 | refine below_set ?_ GE1060.out) | exact HB.out)⟩⟩
        rw [if_pos c8] at H
        have c8b0 : decide (x7_1 < (l0.length : Int)) = true := decide_eq_true c8
        clear c8
        (first | rw [c8b0] | (simp only [i64_w, i32_w]; rw [c8b0]) | skip)
        by_cases c9 : x7_1 < 8
        rotate_left
        · rw [if_neg c9] at H
          have c9b0 : decide (x7_1 < 8) = false := decide_eq_false c9
          clear c9
          have H' := Aside0.mk H
          clear H
          go_wp2
          go_meet
          case rel => exact ⟨_, (x6_1), H', ⟨by have := HK1.out; first | omega | exact Nat.le_refl _⟩, ⟨by (with_reducible repeat (first | apply Kd.R_alloc | apply Kd.R_drewN | apply Kd.R_drew)); exact HO_6.out⟩, ⟨by (with_reducible repeat (first | refine blk_drewN ?_ _ | refine blk_drew ?_ | refine blk_alloc ?_ _)); exact BK1060.out⟩, ⟨by repeat (first | (with_reducible first | exact HB.out | apply below_alloc | apply pw_below_drewN | apply below_drew1 | refine below_set ?_ GE1060.out) | exact HB.out)⟩⟩
        rw [if_pos c9] at H
        have c9b0 : decide (x7_1 < 8) = true := decide_eq_true c9
        clear c9
        by_cases c10 : 0 ≤ x7_1
        rotate_left
        · rw [if_neg c10] at H
          exact absurd H (by simp)
        rw [if_pos c10] at H
        have c10b0 : decide (0 ≤ x7_1) = true := decide_eq_true c10
        clear c10
        replace H := Option.bind_eq_some_iff.mp H
        obtain ⟨⟨t1063, t1064, t1065, t1066⟩, A110, H⟩ := H
        replace H : (if x6_1.length < 4398046511104 then (tenementlaw06_VecAll.l0 k1 l0 true (x6_1 ++ [(⟨t1063, t1064, t1065, t1066⟩ : S24)]) (wrap64 (x7_1 + 1)) a1_0 a1_1 a1_2 a1_3 a1_4) else (none)) = some r := H
        have A11 := Aside0.mk A110
        clear A110
        by_cases c12 : x6_1.length < 4398046511104
        rotate_left
        · rw [if_neg c12] at H
          exact absurd H (by simp)
        rw [if_pos c12] at H
        have LMc12 := Aside0.mk c12
        clear c12
        obtain ⟨y1067, hy1067⟩ : ∃ y_ : List (S24), y_ = (x6_1 ++ [(⟨t1063, t1064, t1065, t1066⟩ : S24)]) := ⟨_, rfl⟩
        replace H : (tenementlaw06_VecAll.l0 k1 l0 true y1067 (wrap64 (x7_1 + 1)) a1_0 a1_1 a1_2 a1_3 a1_4) = some r := by first | (rw [hy1067]; with_reducible exact H) | (have H2_ := (Option.bind_some _ _).symm.trans H; rw [hy1067]; with_reducible exact H2_) | (have H2_ := (Option.bind_some _ _).symm.trans H; with_reducible exact H2_) | with_reducible exact H | (rw [hy1067]; exact H) | exact H
        have Ny1067 := Aside0.mk hy1067
        clear hy1067
        have H' := Aside0.mk H
        clear H
        have p1062 : 0 ≤ (x7_1 : Int) := of_decide_eq_true (by first | (with_reducible assumption) | assumption)
        have q1062 : x7_1 < (l0.length : Int) := of_decide_eq_true (by first | (with_reducible assumption) | assumption)
        obtain ⟨ad1062, e1062, hx1062_0, hx1062_1, hx1062_2, hx1062_3, hx1062_4⟩ := at_T26 HR0.out x7_1 p1062 q1062
        cases e1062
        replace hx1062_0 := (HB.out.cell (World.block_lt_of_cell? w _ hx1062_0)).trans hx1062_0
        replace hx1062_1 := (HB.out.cell (World.block_lt_of_cell? w _ hx1062_1)).trans hx1062_1
        replace hx1062_2 := (HB.out.cell (World.block_lt_of_cell? w _ hx1062_2)).trans hx1062_2
        replace hx1062_3 := (HB.out.cell (World.block_lt_of_cell? w _ hx1062_3)).trans hx1062_3
        replace hx1062_4 := (HB.out.cell (World.block_lt_of_cell? w _ hx1062_4)).trans hx1062_4
        replace p1062 := eq_true p1062
        replace q1062 := eq_true q1062
        go_wp2_with (first | ((with_reducible refine gate_callee (f := 11) rfl ?_); refine goesL_ (some 30) rfl rfl Tryd.func11 (by kernel_rfl) rfl #[.agg #[.int .u64 ((rd_T26 l0 x7_1).f0.f0), .int .u64 ((rd_T26 l0 x7_1).f0.f1), .int .u64 ((rd_T26 l0 x7_1).f0.f2), .int .u64 ((rd_T26 l0 x7_1).f0.f3), .bool ((rd_T26 l0 x7_1).f1)]] rfl (by (try simp only [List.map_toArray, List.map_cons, List.map_nil]); first | done | rfl | (simp only [List.length_drop, List.length_take]; rfl)) ?_; (with_reducible refine (tenementlaw06_Vector_vector.calls k1 ((rd_T26 l0 x7_1).f0.f0) ((rd_T26 l0 x7_1).f0.f1) ((rd_T26 l0 x7_1).f0.f2) ((rd_T26 l0 x7_1).f0.f3) ((rd_T26 l0 x7_1).f1) t1063 t1064 t1065 t1066 _ A11.out).mono ?_); rintro e w13 ⟨rfl, hb⟩; refine ⟨_, rfl, ?_⟩; have n0_ := Aside0.mk (Kd.R_below (by (with_reducible repeat (first | apply Kd.R_alloc | apply Kd.R_drewN | apply Kd.R_drew)); exact HO_6.out) hb); have n1_ := Aside0.mk (blk_below (g := gb1060) (o := .cells #[.int .u64 a1_0, .int .u64 a1_1, .int .u64 a1_2, .int .u64 a1_3, .bool a1_4] 26 (0, 0)) (by (with_reducible repeat (first | refine blk_drewN ?_ _ | refine blk_drew ?_ | refine blk_alloc ?_ _)); exact BK1060.out) hb); have n2_ := Aside0.mk (below_step (by repeat (first | (with_reducible first | exact HB.out | apply below_alloc | apply pw_below_drewN | apply below_drew1 | refine below_set ?_ GE1060.out) | exact HB.out)) hb); clear HO_6; clear BK1060; clear HB; have HO_6 := n0_; have BK1060 := n1_; have HB := n2_; clear n0_ n1_ n2_; (try clear hb); (try clear hb2); (try clear hk); (try clear hi)) | ((with_reducible refine gate_builtin (b := .append) (xs := #[.tmp 25, .tmp 31]) rfl ?_); at_builtin; refine Kd.R_append k24 (w0 := w) w.heap.size rfl (.tmp 25) (.tmp 31) 35 24 (.agg #[(.int .u64 0), (.int .u64 0), (.int .u64 0), (.int .u64 0)]) 32 rfl Tryd.underlying35 info24 rfl (by decide) (by omega) u6 x6_1 (⟨t1063, t1064, t1065, t1066⟩ : S24) [.int .u64 t1063, .int .u64 t1064, .int .u64 t1065, .int .u64 t1066] (fun _ => True) (fun _ => False) rfl rfl ?aP (fun _ hk => hk.elim) ?aF ?aO ?aB ?aS ?aL ?_; (case aP => exact k24_mkM _ _ _ (⟨t1063, t1064, t1065, t1066⟩ : S24)); (case aB => exact (by repeat (first | (with_reducible first | exact HB.out | apply below_alloc | apply pw_below_drewN | apply below_drew1 | refine below_set ?_ GE1060.out) | exact HB.out))); (case aF => exact (fun _ _ => trivial)); (case aO => exact (by (with_reducible repeat (first | apply Kd.R_alloc | apply Kd.R_drewN | apply Kd.R_drew)); exact HO_6.out)); (case aS => exact (below_size (by repeat (first | (with_reducible first | exact HB.out | apply below_alloc | apply pw_below_drewN | apply below_drew1 | refine below_set ?_ GE1060.out) | exact HB.out)))); (case aL => have := LMc12.out; omega); intro v1068 w14 ho hb hg hat; rw [← Ny1067.out] at ho; have n0_ := Aside0.mk (blk_grown (g := gb1060) (o := .cells #[.int .u64 a1_0, .int .u64 a1_1, .int .u64 a1_2, .int .u64 a1_3, .bool a1_4] 26 (0, 0)) (by (with_reducible repeat (first | refine blk_drewN ?_ _ | refine blk_drew ?_ | refine blk_alloc ?_ _)); exact BK1060.out) hg (Kd.R_ne HO_6.out BK1060.out (by decide))); have n1_ := Aside0.mk (hb); have n2_ := Aside0.mk (ho); clear BK1060; clear HB; clear HO_6; have BK1060 := n0_; have HB := n1_; have HO1069 := n2_; clear n0_ n1_ n2_; clear ho hb hg hat))
        go_roundg k1
        case measure => have := HK1.out; omega
        case rel => exact ⟨(y1067), (wrap64 (x7_1 + 1)), (by first | rfl | (simp; done) | (simp [*]; done)), H', ⟨by have := HK1.out; omega⟩, ⟨by (with_reducible repeat (first | apply Kd.R_alloc | apply Kd.R_drewN | apply Kd.R_drew)); exact HO1069.out⟩, ⟨by (with_reducible repeat (first | refine blk_drewN ?_ _ | refine blk_drew ?_ | refine blk_alloc ?_ _)); exact BK1060.out⟩, ⟨by repeat (first | (with_reducible first | exact HB.out | apply below_alloc | apply pw_below_drewN | apply below_drew1 | refine below_set ?_ GE1060.out) | exact HB.out)⟩⟩
  case rest =>
    clear HC5
    try clear c1
    try clear p1
    try clear q1
    try clear hx1
    try clear p2
    try clear c4
    try clear p6
    try clear c8
    try clear c8b0
    try clear c9
    try clear c9b0
    try clear c10
    try clear c10b0
    try clear p10
    try clear q10
    try clear hx10
    try clear c11
    try clear c12
    try clear hx1062_0
    try clear hx1062_1
    try clear hx1062_2
    try clear hx1062_3
    try clear hx1062_4
    try clear p1062
    try clear p2
    try clear q1062
    obtain ⟨kq, x6_4, HA, HJ4, HO_6, BK1060, HB⟩ := hcut
    cases kq with
    | zero => exact absurd HA.out (by simp [tenementlaw06_VecAll.j1])
    | succ kj4 =>
      have H := HA.out
      clear HA
      simp only [tenementlaw06_VecAll.j1] at H
      replace H := Option.bind_eq_some_iff.mp H
      obtain ⟨⟨t1070, t1071, t1072, t1073⟩, A150, H⟩ := H
      replace H : ((tenementlaw06_Vector_vector.f kj4 a1_0 a1_1 a1_2 a1_3 a1_4).bind fun bt1075 => (tenementlaw06_VecAll.l1 kj4 true x6_4 true 0 t1070 t1071 t1072 t1073 bt1075.1 bt1075.2.1 bt1075.2.2.1 bt1075.2.2.2)) = some r := H
      have A15 := Aside0.mk A150
      clear A150
      replace H := Option.bind_eq_some_iff.mp H
      obtain ⟨⟨t1075, t1076, t1077, t1078⟩, A160, H⟩ := H
      replace H : (tenementlaw06_VecAll.l1 kj4 true x6_4 true 0 t1070 t1071 t1072 t1073 t1075 t1076 t1077 t1078) = some r := H
      have A16 := Aside0.mk A160
      clear A160
      have H' := Aside0.mk H
      clear H
      obtain ⟨Ao17, co17, eo17⟩ := Kd.R_slice HO_6.out
      subst eo17
      go_wp2_with (first | ((with_reducible refine gate_callee (f := 18) rfl ?_); refine goesL_ (some 34) rfl rfl Tryd.func18 (by kernel_rfl) rfl #[.slice Ao17 x6_4.length co17] rfl (by (try simp only [List.map_toArray, List.map_cons, List.map_nil]); first | done | rfl | (simp only [List.length_drop, List.length_take]; rfl)) ?_; (with_reducible refine (vec_All.calls kj4 _ _ x6_4 t1070 t1071 t1072 t1073 _ ?side1 ?side2 A15.out).mono ?_); (case side1 => repeat (first | exact (Kd.R_reads' HO_6.out).2.2 | (with_reducible refine Kd.C_alloc ?_ _) | (with_reducible refine Kd.C_drewN ?_ _) | (with_reducible refine Kd.C_drew ?_))); (case side2 => exact (Kd.R_reads' HO_6.out).2.1); rintro e w18 ⟨rfl, hb⟩; refine ⟨_, rfl, ?_⟩; have n0_ := Aside0.mk (Kd.R_below (by (with_reducible repeat (first | apply Kd.R_alloc | apply Kd.R_drewN | apply Kd.R_drew)); exact HO_6.out) hb); have n1_ := Aside0.mk (blk_below (g := gb1060) (o := .cells #[.int .u64 a1_0, .int .u64 a1_1, .int .u64 a1_2, .int .u64 a1_3, .bool a1_4] 26 (0, 0)) (by (with_reducible repeat (first | refine blk_drewN ?_ _ | refine blk_drew ?_ | refine blk_alloc ?_ _)); exact BK1060.out) hb); have n2_ := Aside0.mk (below_step (by repeat (first | (with_reducible first | exact HB.out | apply below_alloc | apply pw_below_drewN | apply below_drew1 | refine below_set ?_ GE1060.out) | exact HB.out)) hb); clear HO_6; clear BK1060; clear HB; have HO_6 := n0_; have BK1060 := n1_; have HB := n2_; clear n0_ n1_ n2_; (try clear hb); (try clear hb2); (try clear hk); (try clear hi)) | ((with_reducible refine gate_dst (N := 8) rfl ?_); refine box_event ?hg (N := 8) ?hd (cs := #[.int .u64 0, .int .u64 0, .int .u64 0, .int .u64 0]) (t := 24) ?hr ?_; (case hd => rfl); (case hg => rfl); (case hr => first | (go_simp; done) | (go_simp; rfl)); intro gb1074 hg w19 hbox hb; have n0_ := Aside0.mk (Kd.R_below (Kd.R_elderB (by (with_reducible repeat (first | apply Kd.R_alloc | apply Kd.R_drewN | apply Kd.R_drew)); exact HO_6.out) gb1074 (Nat.le_of_eq hg.symm)) hb); have n1_ := Aside0.mk (blk_below (g := gb1060) (o := .cells #[.int .u64 a1_0, .int .u64 a1_1, .int .u64 a1_2, .int .u64 a1_3, .bool a1_4] 26 (0, 0)) (by (with_reducible repeat (first | refine blk_drewN ?_ _ | refine blk_drew ?_ | refine blk_alloc ?_ _)); exact BK1060.out) hb); have n2_ := Aside0.mk (below_step (by repeat (first | (with_reducible first | exact HB.out | apply below_alloc | apply pw_below_drewN | apply below_drew1 | refine below_set ?_ GE1060.out) | exact HB.out)) hb); have n3_ := Aside0.mk (hbox); have n4_ := Aside0.mk ((by rw [hg]; exact (below_size (by repeat (first | (with_reducible first | exact HB.out | apply below_alloc | apply pw_below_drewN | apply below_drew1 | refine below_set ?_ GE1060.out) | exact HB.out))) : w.heap.size ≤ gb1074)); have n5_ := Aside0.mk ((by rw [hg]; exact (below_size (by repeat (first | (with_reducible first | exact HB.out | apply below_alloc | apply pw_below_drewN | apply below_drew1 | refine below_set ?_ GE1060.out) | exact HB.out))) : w.heap.size ≤ gb1074)); have n6_ := Aside0.mk ((by rw [hg]; exact Nat.ne_of_lt (blk_lt (g := gb1060) (o := .cells #[.int .u64 a1_0, .int .u64 a1_1, .int .u64 a1_2, .int .u64 a1_3, .bool a1_4] 26 (0, 0)) (by (with_reducible repeat (first | refine blk_drewN ?_ _ | refine blk_drew ?_ | refine blk_alloc ?_ _)); exact BK1060.out)) : gb1060 ≠ gb1074)); have n7_ := Aside0.mk ((by rw [hg]; exact Nat.ne_of_gt (blk_lt (g := gb1060) (o := .cells #[.int .u64 a1_0, .int .u64 a1_1, .int .u64 a1_2, .int .u64 a1_3, .bool a1_4] 26 (0, 0)) (by (with_reducible repeat (first | refine blk_drewN ?_ _ | refine blk_drew ?_ | refine blk_alloc ?_ _)); exact BK1060.out)) : gb1074 ≠ gb1060)); clear HO_6; clear BK1060; clear HB; have HO_6 := n0_; have BK1060 := n1_; have HB := n2_; have BK1074 := n3_; have GW1074 := n4_; have GE1074 := n5_; have NB1060_1074 := n6_; have NB1074_1060 := n7_; clear n0_ n1_ n2_ n3_ n4_ n5_ n6_ n7_; clear hb hbox hg; have hnb20 := NB1074_1060.out; have hnc20 := NB1060_1074.out; have hcz21_0 : w19.cell? ⟨gb1074, 0, none⟩ = some (.int .u64 0) := (blk_cell BK1074.out 0).trans rfl; have hcz21_1 : w19.cell? ⟨gb1074, 1, none⟩ = some (.int .u64 0) := (blk_cell BK1074.out 1).trans rfl; have hcz21_2 : w19.cell? ⟨gb1074, 2, none⟩ = some (.int .u64 0) := (blk_cell BK1074.out 2).trans rfl; have hcz21_3 : w19.cell? ⟨gb1074, 3, none⟩ = some (.int .u64 0) := (blk_cell BK1074.out 3).trans rfl; have hfz21_0 := blk_frozen BK1074.out 0; have hfz21_1 := blk_frozen BK1074.out 1; have hfz21_2 := blk_frozen BK1074.out 2; have hfz21_3 := blk_frozen BK1074.out 3; have hcz22_0 : w19.cell? ⟨gb1060, 0, none⟩ = some (.int .u64 a1_0) := (blk_cell BK1060.out 0).trans rfl; have hcz22_1 : w19.cell? ⟨gb1060, 1, none⟩ = some (.int .u64 a1_1) := (blk_cell BK1060.out 1).trans rfl; have hcz22_2 : w19.cell? ⟨gb1060, 2, none⟩ = some (.int .u64 a1_2) := (blk_cell BK1060.out 2).trans rfl; have hcz22_3 : w19.cell? ⟨gb1060, 3, none⟩ = some (.int .u64 a1_3) := (blk_cell BK1060.out 3).trans rfl; have hcz22_4 : w19.cell? ⟨gb1060, 4, none⟩ = some (.bool a1_4) := (blk_cell BK1060.out 4).trans rfl; have hfz22_0 := blk_frozen BK1060.out 0; have hfz22_1 := blk_frozen BK1060.out 1; have hfz22_2 := blk_frozen BK1060.out 2; have hfz22_3 := blk_frozen BK1060.out 3; have hfz22_4 := blk_frozen BK1060.out 4) | ((with_reducible refine gate_callee (f := 11) rfl ?_); refine goesL_ (some 36) rfl rfl Tryd.func11 (by kernel_rfl) rfl #[.agg #[.int .u64 a1_0, .int .u64 a1_1, .int .u64 a1_2, .int .u64 a1_3, .bool a1_4]] rfl (by (try simp only [List.map_toArray, List.map_cons, List.map_nil]); first | done | rfl | (simp only [List.length_drop, List.length_take]; rfl)) ?_; (with_reducible refine (tenementlaw06_Vector_vector.calls kj4 a1_0 a1_1 a1_2 a1_3 a1_4 t1075 t1076 t1077 t1078 _ A16.out).mono ?_); rintro e w23 ⟨rfl, hb⟩; refine ⟨_, rfl, ?_⟩; have n0_ := Aside0.mk (Kd.R_below (by (with_reducible repeat (first | apply Kd.R_alloc | apply Kd.R_drewN | apply Kd.R_drew)); exact (Kd.R_mono (Kd.R_far (p := ⟨gb1074, 3, none⟩) (Kd.R_far (p := ⟨gb1074, 2, none⟩) (Kd.R_far (p := ⟨gb1074, 1, none⟩) (Kd.R_far (p := ⟨gb1074, 0, none⟩) (Kd.R_mono HO_6.out (fun k_ hk => (⟨hk, hk.2⟩ : _ ∧ k_ ≠ gb1074))) (fun _ hk => hk.2) (.int .u64 t1070)) (fun _ hk => hk.2) (.int .u64 t1071)) (fun _ hk => hk.2) (.int .u64 t1072)) (fun _ hk => hk.2) (.int .u64 t1073)) (fun _ h_ => h_.1))) hb); have n1_ := Aside0.mk (blk_below (g := gb1060) (o := .cells #[.int .u64 a1_0, .int .u64 a1_1, .int .u64 a1_2, .int .u64 a1_3, .bool a1_4] 26 (0, 0)) (by (repeat (first | (with_reducible first | refine blk_drewN ?_ _ | refine blk_drew ?_ | refine blk_alloc ?_ _) | refine blk_far ?_ NB1060_1074.out _)); exact BK1060.out) hb); have n2_ := Aside0.mk (blk_below (g := gb1074) (o := .cells #[.int .u64 t1070, .int .u64 t1071, .int .u64 t1072, .int .u64 t1073] 24 (0, 0)) (by (with_reducible repeat (first | refine blk_drewN ?_ _ | refine blk_drew ?_ | refine blk_alloc ?_ _)); refine blk_put (cs := #[.int .u64 t1070, .int .u64 t1071, .int .u64 t1072, .int .u64 0]) ?_ 3 _ rfl; (with_reducible repeat (first | refine blk_drewN ?_ _ | refine blk_drew ?_ | refine blk_alloc ?_ _)); refine blk_put (cs := #[.int .u64 t1070, .int .u64 t1071, .int .u64 0, .int .u64 0]) ?_ 2 _ rfl; (with_reducible repeat (first | refine blk_drewN ?_ _ | refine blk_drew ?_ | refine blk_alloc ?_ _)); refine blk_put (cs := #[.int .u64 t1070, .int .u64 0, .int .u64 0, .int .u64 0]) ?_ 1 _ rfl; (with_reducible repeat (first | refine blk_drewN ?_ _ | refine blk_drew ?_ | refine blk_alloc ?_ _)); refine blk_put (cs := #[.int .u64 0, .int .u64 0, .int .u64 0, .int .u64 0]) ?_ 0 _ rfl; (with_reducible repeat (first | refine blk_drewN ?_ _ | refine blk_drew ?_ | refine blk_alloc ?_ _)); exact BK1074.out) hb); have n3_ := Aside0.mk (below_step (by repeat (first | (with_reducible first | exact HB.out | apply below_alloc | apply pw_below_drewN | apply below_drew1 | refine below_set ?_ GE1060.out | refine below_set ?_ GE1074.out) | exact HB.out)) hb); clear HO_6; clear BK1060; clear BK1074; clear HB; have HO_6 := n0_; have BK1060 := n1_; have BK1074 := n2_; have HB := n3_; clear n0_ n1_ n2_ n3_; (try clear hb); (try clear hb2); (try clear hk); (try clear hi)) | ((with_reducible refine gate_dst (N := 9) rfl ?_); refine box_event ?hg (N := 9) ?hd (cs := #[.int .u64 0, .int .u64 0, .int .u64 0, .int .u64 0]) (t := 24) ?hr ?_; (case hd => rfl); (case hg => rfl); (case hr => first | (go_simp; done) | (go_simp; rfl)); intro gb1079 hg w24 hbox hb; have n0_ := Aside0.mk (Kd.R_below (Kd.R_elderB (by (with_reducible repeat (first | apply Kd.R_alloc | apply Kd.R_drewN | apply Kd.R_drew)); exact HO_6.out) gb1079 (Nat.le_of_eq hg.symm)) hb); have n1_ := Aside0.mk (blk_below (g := gb1060) (o := .cells #[.int .u64 a1_0, .int .u64 a1_1, .int .u64 a1_2, .int .u64 a1_3, .bool a1_4] 26 (0, 0)) (by (with_reducible repeat (first | refine blk_drewN ?_ _ | refine blk_drew ?_ | refine blk_alloc ?_ _)); exact BK1060.out) hb); have n2_ := Aside0.mk (blk_below (g := gb1074) (o := .cells #[.int .u64 t1070, .int .u64 t1071, .int .u64 t1072, .int .u64 t1073] 24 (0, 0)) (by (with_reducible repeat (first | refine blk_drewN ?_ _ | refine blk_drew ?_ | refine blk_alloc ?_ _)); exact BK1074.out) hb); have n3_ := Aside0.mk (below_step (by repeat (first | (with_reducible first | exact HB.out | apply below_alloc | apply pw_below_drewN | apply below_drew1 | refine below_set ?_ GE1060.out | refine below_set ?_ GE1074.out) | exact HB.out)) hb); have n4_ := Aside0.mk (hbox); have n5_ := Aside0.mk ((by rw [hg]; exact (below_size (by repeat (first | (with_reducible first | exact HB.out | apply below_alloc | apply pw_below_drewN | apply below_drew1 | refine below_set ?_ GE1060.out | refine below_set ?_ GE1074.out) | exact HB.out))) : w.heap.size ≤ gb1079)); have n6_ := Aside0.mk ((by rw [hg]; exact (below_size (by repeat (first | (with_reducible first | exact HB.out | apply below_alloc | apply pw_below_drewN | apply below_drew1 | refine below_set ?_ GE1060.out | refine below_set ?_ GE1074.out) | exact HB.out))) : w.heap.size ≤ gb1079)); have n7_ := Aside0.mk ((by rw [hg]; exact Nat.ne_of_lt (blk_lt (g := gb1060) (o := .cells #[.int .u64 a1_0, .int .u64 a1_1, .int .u64 a1_2, .int .u64 a1_3, .bool a1_4] 26 (0, 0)) (by (with_reducible repeat (first | refine blk_drewN ?_ _ | refine blk_drew ?_ | refine blk_alloc ?_ _)); exact BK1060.out)) : gb1060 ≠ gb1079)); have n8_ := Aside0.mk ((by rw [hg]; exact Nat.ne_of_gt (blk_lt (g := gb1060) (o := .cells #[.int .u64 a1_0, .int .u64 a1_1, .int .u64 a1_2, .int .u64 a1_3, .bool a1_4] 26 (0, 0)) (by (with_reducible repeat (first | refine blk_drewN ?_ _ | refine blk_drew ?_ | refine blk_alloc ?_ _)); exact BK1060.out)) : gb1079 ≠ gb1060)); have n9_ := Aside0.mk ((by rw [hg]; exact Nat.ne_of_lt (blk_lt (g := gb1074) (o := .cells #[.int .u64 t1070, .int .u64 t1071, .int .u64 t1072, .int .u64 t1073] 24 (0, 0)) (by (with_reducible repeat (first | refine blk_drewN ?_ _ | refine blk_drew ?_ | refine blk_alloc ?_ _)); exact BK1074.out)) : gb1074 ≠ gb1079)); have n10_ := Aside0.mk ((by rw [hg]; exact Nat.ne_of_gt (blk_lt (g := gb1074) (o := .cells #[.int .u64 t1070, .int .u64 t1071, .int .u64 t1072, .int .u64 t1073] 24 (0, 0)) (by (with_reducible repeat (first | refine blk_drewN ?_ _ | refine blk_drew ?_ | refine blk_alloc ?_ _)); exact BK1074.out)) : gb1079 ≠ gb1074)); clear HO_6; clear BK1060; clear BK1074; clear HB; have HO_6 := n0_; have BK1060 := n1_; have BK1074 := n2_; have HB := n3_; have BK1079 := n4_; have GW1079 := n5_; have GE1079 := n6_; have NB1060_1079 := n7_; have NB1079_1060 := n8_; have NB1074_1079 := n9_; have NB1079_1074 := n10_; clear n0_ n1_ n2_ n3_ n4_ n5_ n6_ n7_ n8_ n9_ n10_; clear hb hbox hg; have hnb25 := NB1079_1060.out; have hnc25 := NB1060_1079.out; have hnb26 := NB1079_1074.out; have hnc26 := NB1074_1079.out; have hcz27_0 : w24.cell? ⟨gb1079, 0, none⟩ = some (.int .u64 0) := (blk_cell BK1079.out 0).trans rfl; have hcz27_1 : w24.cell? ⟨gb1079, 1, none⟩ = some (.int .u64 0) := (blk_cell BK1079.out 1).trans rfl; have hcz27_2 : w24.cell? ⟨gb1079, 2, none⟩ = some (.int .u64 0) := (blk_cell BK1079.out 2).trans rfl; have hcz27_3 : w24.cell? ⟨gb1079, 3, none⟩ = some (.int .u64 0) := (blk_cell BK1079.out 3).trans rfl; have hfz27_0 := blk_frozen BK1079.out 0; have hfz27_1 := blk_frozen BK1079.out 1; have hfz27_2 := blk_frozen BK1079.out 2; have hfz27_3 := blk_frozen BK1079.out 3))
      go_loopg [10, 11] kj4 (fun kq v10 v11 w' => ∃ (x10_2 : Bool) (x11_2 : Int), v10 = .bool x10_2 ∧ v11 = .int .i64 x11_2 ∧ Aside0 (tenementlaw06_VecAll.l1 kq true x6_4 x10_2 x11_2 t1070 t1071 t1072 t1073 t1075 t1076 t1077 t1078 = some r) ∧ Aside0 (kq ≤ kj4) ∧ Aside0 (Kd.R k24 24 w' w.heap.size (fun k_ => k_ ≠ gb1074 ∧ k_ ≠ gb1079) (.slice Ao17 x6_4.length co17) x6_4) ∧ Aside0 (w'.heap[gb1060]? = some (.cells #[.int .u64 a1_0, .int .u64 a1_1, .int .u64 a1_2, .int .u64 a1_3, .bool a1_4] 26 (0, 0))) ∧ Aside0 (w'.heap[gb1074]? = some (.cells #[.int .u64 t1070, .int .u64 t1071, .int .u64 t1072, .int .u64 t1073] 24 (0, 0))) ∧ Aside0 (w'.heap[gb1079]? = some (.cells #[.int .u64 t1075, .int .u64 t1076, .int .u64 t1077, .int .u64 t1078] 24 (0, 0))) ∧ Aside0 (Below w.heap.size w w'))
      case atStart => exact ⟨(true), (0), (by first | rfl | (simp; done) | (simp [*]; done)), (by first | rfl | (simp; done) | (simp [*]; done)), H', ⟨Nat.le_refl _⟩, ⟨by (with_reducible repeat (first | apply Kd.R_alloc | apply Kd.R_drewN | apply Kd.R_drew)); exact Kd.R_mono (Kd.R_far (p := ⟨gb1079, 3, none⟩) (Kd.R_far (p := ⟨gb1079, 2, none⟩) (Kd.R_far (p := ⟨gb1079, 1, none⟩) (Kd.R_far (p := ⟨gb1079, 0, none⟩) (Kd.R_mono HO_6.out (fun k_ hk => (⟨hk, hk.2⟩ : _ ∧ k_ ≠ gb1079))) (fun _ hk => hk.2) (.int .u64 t1075)) (fun _ hk => hk.2) (.int .u64 t1076)) (fun _ hk => hk.2) (.int .u64 t1077)) (fun _ hk => hk.2) (.int .u64 t1078)) (fun _ hk => ⟨hk.1.1.2, hk.1.2⟩)⟩, ⟨by (repeat (first | (with_reducible first | refine blk_drewN ?_ _ | refine blk_drew ?_ | refine blk_alloc ?_ _) | refine blk_far ?_ NB1060_1079.out _)); exact BK1060.out⟩, ⟨by (repeat (first | (with_reducible first | refine blk_drewN ?_ _ | refine blk_drew ?_ | refine blk_alloc ?_ _) | refine blk_far ?_ NB1074_1079.out _)); exact BK1074.out⟩, ⟨by (with_reducible repeat (first | refine blk_drewN ?_ _ | refine blk_drew ?_ | refine blk_alloc ?_ _)); refine blk_put (cs := #[.int .u64 t1075, .int .u64 t1076, .int .u64 t1077, .int .u64 0]) ?_ 3 _ rfl; (with_reducible repeat (first | refine blk_drewN ?_ _ | refine blk_drew ?_ | refine blk_alloc ?_ _)); refine blk_put (cs := #[.int .u64 t1075, .int .u64 t1076, .int .u64 0, .int .u64 0]) ?_ 2 _ rfl; (with_reducible repeat (first | refine blk_drewN ?_ _ | refine blk_drew ?_ | refine blk_alloc ?_ _)); refine blk_put (cs := #[.int .u64 t1075, .int .u64 0, .int .u64 0, .int .u64 0]) ?_ 1 _ rfl; (with_reducible repeat (first | refine blk_drewN ?_ _ | refine blk_drew ?_ | refine blk_alloc ?_ _)); refine blk_put (cs := #[.int .u64 0, .int .u64 0, .int .u64 0, .int .u64 0]) ?_ 0 _ rfl; (with_reducible repeat (first | refine blk_drewN ?_ _ | refine blk_drew ?_ | refine blk_alloc ?_ _)); exact BK1079.out⟩, ⟨by repeat (first | (with_reducible first | exact HB.out | apply below_alloc | apply pw_below_drewN | apply below_drew1 | refine below_set ?_ GE1060.out | refine below_set ?_ GE1074.out | refine below_set ?_ GE1079.out) | exact HB.out)⟩⟩
      case round =>
        clear H'
        try clear c1
        try clear p1
        try clear q1
        try clear hx1
        try clear c2
        try clear p2
        try clear c4
        try clear p6
        try clear c8
        try clear c8b0
        try clear c9
        try clear c9b0
        try clear c10
        try clear c10b0
        try clear p10
        try clear q10
        try clear hx10
        try clear c11
        try clear c12
        try clear c18
        try clear c20
        try clear c25
        try clear c26
        try clear hcz21_0
        try clear hcz21_1
        try clear hcz21_2
        try clear hcz21_3
        try clear hcz22_0
        try clear hcz22_1
        try clear hcz22_2
        try clear hcz22_3
        try clear hcz22_4
        try clear hcz27_0
        try clear hcz27_1
        try clear hcz27_2
        try clear hcz27_3
        try clear hfz21_0
        try clear hfz21_1
        try clear hfz21_2
        try clear hfz21_3
        try clear hfz22_0
        try clear hfz22_1
        try clear hfz22_2
        try clear hfz22_3
        try clear hfz22_4
        try clear hfz27_0
        try clear hfz27_1
        try clear hfz27_2
        try clear hfz27_3
        try clear hx1062_0
        try clear hx1062_1
        try clear hx1062_2
        try clear hx1062_3
        try clear hx1062_4
        try clear p1
        try clear p10
        try clear p1062
        try clear p2
        try clear p6
        try clear q1
        try clear q10
        try clear q1062
        obtain ⟨x10_2, x11_2, rfl, rfl, HA, HK2, HO_6, BK1060, BK1074, BK1079, HB⟩ := hrel
        cases gk with
        | zero => exact absurd HA.out (by simp [tenementlaw06_VecAll.l1])
        | succ k2 =>
          have H := HA.out
          clear HA
          simp only [tenementlaw06_VecAll.l1] at H
          by_cases c28 : x11_2 < (x6_4.length : Int)
          · rw [if_pos c28] at H
            have c28b0 : decide (x11_2 < (x6_4.length : Int)) = true := decide_eq_true c28
            clear c28
            by_cases c29 : 0 ≤ x11_2
            rotate_left
            · rw [if_neg c29] at H
              exact absurd H (by simp)
            rw [if_pos c29] at H
            have c29b0 : decide (0 ≤ x11_2) = true := decide_eq_true c29
            clear c29
            replace H := Option.bind_eq_some_iff.mp H
            obtain ⟨t1081, A300, H⟩ := H
            replace H : (if t1081 = true then (if x10_2 = true then ((vec_Leq.f t1075 t1076 t1077 t1078 ((rd_T24 x6_4 x11_2).f0) ((rd_T24 x6_4 x11_2).f1) ((rd_T24 x6_4 x11_2).f2) ((rd_T24 x6_4 x11_2).f3)).bind fun t1083 => (tenementlaw06_VecAll.l1 k2 true x6_4 t1083 (wrap64 (x11_2 + 1)) t1070 t1071 t1072 t1073 t1075 t1076 t1077 t1078)) else (tenementlaw06_VecAll.l1 k2 true x6_4 false (wrap64 (x11_2 + 1)) t1070 t1071 t1072 t1073 t1075 t1076 t1077 t1078)) else (none)) = some r := H
            have A30 := Aside0.mk A300
            clear A300
            by_cases c31 : t1081 = true
            rotate_left
            · replace c31 := Bool.eq_false_iff.mpr c31
              subst c31
              have H1 : (none) = some r := by rw [if_neg (show ¬ (false = true) by decide)] at H; exact H
              clear H
              have H := H1
              clear H1
              exact absurd H (by simp)
            subst c31
            have H1 : (if x10_2 = true then ((vec_Leq.f t1075 t1076 t1077 t1078 ((rd_T24 x6_4 x11_2).f0) ((rd_T24 x6_4 x11_2).f1) ((rd_T24 x6_4 x11_2).f2) ((rd_T24 x6_4 x11_2).f3)).bind fun t1083 => (tenementlaw06_VecAll.l1 k2 true x6_4 t1083 (wrap64 (x11_2 + 1)) t1070 t1071 t1072 t1073 t1075 t1076 t1077 t1078)) else (tenementlaw06_VecAll.l1 k2 true x6_4 false (wrap64 (x11_2 + 1)) t1070 t1071 t1072 t1073 t1075 t1076 t1077 t1078)) = some r := by rw [if_pos rfl] at H; exact H
            clear H
            have H := H1
            clear H1
            by_cases c32 : x10_2 = true
            rotate_left
            · replace c32 := Bool.eq_false_iff.mpr c32
              subst c32
              have H1 : (tenementlaw06_VecAll.l1 k2 true x6_4 false (wrap64 (x11_2 + 1)) t1070 t1071 t1072 t1073 t1075 t1076 t1077 t1078) = some r := by rw [if_neg (show ¬ (false = true) by decide)] at H; exact H
              clear H
              have H := H1
              clear H1
              have H' := Aside0.mk H
              clear H
              try go_wp2
              have n0_ := Aside0.mk (Kd.R_drew HO_6.out)
              have n1_ := Aside0.mk (blk_drew BK1060.out)
              have n2_ := Aside0.mk (blk_drew BK1074.out)
              have n3_ := Aside0.mk (blk_drew BK1079.out)
              have n4_ := Aside0.mk (below_drew1 HB.out)
              clear HO_6
              clear BK1060
              clear BK1074
              clear BK1079
              clear HB
              have HO_6 := n0_
              have BK1060 := n1_
              have BK1074 := n2_
              have BK1079 := n3_
              have HB := n4_
              clear n0_ n1_ n2_ n3_ n4_
              have p1080 : 0 ≤ (x11_2 : Int) := of_decide_eq_true (by first | (with_reducible assumption) | assumption)
              have q1080 : x11_2 < (x6_4.length : Int) := of_decide_eq_true (by first | (with_reducible assumption) | assumption)
              obtain ⟨ad1080, e1080, hx1080_0, hx1080_1, hx1080_2, hx1080_3⟩ := at_T24 (Kd.R_reads' HO_6.out).2.2 x11_2 p1080 q1080
              cases e1080
              replace p1080 := eq_true p1080
              replace q1080 := eq_true q1080
              refine start_ (n := 7) (S := fun w' => w'.cell? ⟨gb1074, 0, none⟩ = some (.int .u64 t1070) ∧ w'.cell? ⟨gb1074, 1, none⟩ = some (.int .u64 t1071) ∧ w'.cell? ⟨gb1074, 2, none⟩ = some (.int .u64 t1072) ∧ w'.cell? ⟨gb1074, 3, none⟩ = some (.int .u64 t1073) ∧ w'.cell? (ad1080.add ((x11_2).toNat * 4)) = some (.int .u64 ((rd_T24 x6_4 x11_2).f0)) ∧ w'.cell? ⟨(ad1080.add ((x11_2).toNat * 4)).block, (ad1080.add ((x11_2).toNat * 4)).off + 1, none⟩ = some (.int .u64 ((rd_T24 x6_4 x11_2).f1)) ∧ w'.cell? ⟨(ad1080.add ((x11_2).toNat * 4)).block, (ad1080.add ((x11_2).toNat * 4)).off + 2, none⟩ = some (.int .u64 ((rd_T24 x6_4 x11_2).f2)) ∧ w'.cell? ⟨(ad1080.add ((x11_2).toNat * 4)).block, (ad1080.add ((x11_2).toNat * 4)).off + 3, none⟩ = some (.int .u64 ((rd_T24 x6_4 x11_2).f3))) (ds := []) #[false, false, false, false, false, false, false] (by kernel_rfl) rfl rfl ⟨(blk_cell BK1074.out 0).trans rfl, (blk_cell BK1074.out 1).trans rfl, (blk_cell BK1074.out 2).trans rfl, (blk_cell BK1074.out 3).trans rfl, hx1080_0, hx1080_1, hx1080_2, hx1080_3⟩ (fun hHeld => ?_)
              generalize wr.drew = w38 at HO_6 BK1060 BK1074 BK1079 HB hx1080_0 hx1080_1 hx1080_2 hx1080_3 hHeld ⊢
              refine pure_ (i := 1) (N := some 44) (v := ?_) (a' := ?_) #[false, true, false, false, false, false, false] rfl rfl (by kernel_rfl) (fun _ _ _ h => h) (Or.inl ⟨by rfl, ?_⟩) ?_ ?_
              rotate_left
              · intro w'
                go_simp
                with_reducible rfl
              rotate_left
              · simp only [Act.put, List.setIfInBounds_toArray, List.set_cons_zero, List.set_cons_succ, i64_w, i32_w]
                rfl
              refine pure_ (i := 2) (N := some 45) (v := ?_) (a' := ?_) #[false, true, true, false, false, false, false] rfl rfl (by kernel_rfl) (fun _ _ _ h => h) (Or.inl ⟨by rfl, ?_⟩) ?_ ?_
              rotate_left
              · intro w'
                go_simp
                with_reducible rfl
              rotate_left
              · simp only [Act.put, List.setIfInBounds_toArray, List.set_cons_zero, List.set_cons_succ, i64_w, i32_w]
                rfl
              refine pure_ (i := 3) (N := some 46) (v := ?_) (a' := ?_) #[false, true, true, true, false, false, false] rfl rfl (by kernel_rfl) (fun _ _ _ h => h) (Or.inl ⟨by rfl, ?_⟩) ?_ ?_
              rotate_left
              · intro w'
                go_simp
                with_reducible rfl
              rotate_left
              · simp only [Act.put, List.setIfInBounds_toArray, List.set_cons_zero, List.set_cons_succ, i64_w, i32_w]
                rfl
              refine take_ (i := 0) (N := some 43) (v := ?_) (a' := ?_) #[true, true, true, true, false, false, false] rfl rfl (by kernel_rfl) (fun _ _ _ h => h) (Or.inl ⟨by rfl, ?_⟩) hHeld ?_ ?_
              rotate_left
              · rintro w' ⟨s0, s1, s2, s3, s4, s5, s6, s7⟩
                go_simp
                with_reducible rfl
              rotate_left
              · simp only [Act.put, List.setIfInBounds_toArray, List.set_cons_zero, List.set_cons_succ, i64_w, i32_w]
                rfl
              refine take_ (i := 4) (N := some 47) (v := ?_) (a' := ?_) #[true, true, true, true, true, false, false] rfl rfl (by kernel_rfl) (fun _ _ _ h => h) (Or.inl ⟨by rfl, ?_⟩) hHeld ?_ ?_
              rotate_left
              · rintro w' ⟨s0, s1, s2, s3, s4, s5, s6, s7⟩
                go_simp
                with_reducible rfl
              rotate_left
              · simp only [Act.put, List.setIfInBounds_toArray, List.set_cons_zero, List.set_cons_succ, i64_w, i32_w]
                rfl
              refine one_ (i := 5) (N := some 48) #[true, true, true, true, true, true, false] rfl rfl (by kernel_rfl) (by decide) (fun K hK => ?_)
              refine goes_ Tryd.func22 (by kernel_rfl) rfl #[.agg #[.int .u64 t1070, .int .u64 t1071, .int .u64 t1072, .int .u64 t1073], .agg #[.int .u64 ((rd_T24 x6_4 x11_2).f0), .int .u64 ((rd_T24 x6_4 x11_2).f1), .int .u64 ((rd_T24 x6_4 x11_2).f2), .int .u64 ((rd_T24 x6_4 x11_2).f3)]] (by rfl) rfl rfl (by (try simp only [List.map_toArray, List.map_cons, List.map_nil]); first | done | rfl | (simp only [List.length_drop, List.length_take]; rfl)) ?_
              with_reducible refine (vec_Leq.calls t1070 t1071 t1072 t1073 ((rd_T24 x6_4 x11_2).f0) ((rd_T24 x6_4 x11_2).f1) ((rd_T24 x6_4 x11_2).f2) ((rd_T24 x6_4 x11_2).f3) true _ A30.out).mono ?_
              rintro e w39 ⟨rfl, hb⟩
              have HS4_ := (hb.cell (World.block_lt_of_cell? _ _ (hHeld.2.2.2.2.1))).trans (hHeld.2.2.2.2.1)
              have HS5_ := (hb.cell (World.block_lt_of_cell? _ _ (hHeld.2.2.2.2.2.1))).trans (hHeld.2.2.2.2.2.1)
              have HS6_ := (hb.cell (World.block_lt_of_cell? _ _ (hHeld.2.2.2.2.2.2.1))).trans (hHeld.2.2.2.2.2.2.1)
              have HS7_ := (hb.cell (World.block_lt_of_cell? _ _ (hHeld.2.2.2.2.2.2.2))).trans (hHeld.2.2.2.2.2.2.2)
              refine ⟨_, rfl, ?_⟩
              have n0_ := Aside0.mk (Kd.R_below (by (with_reducible repeat (first | apply Kd.R_alloc | apply Kd.R_drewN | apply Kd.R_drew)); exact HO_6.out) hb)
              have n1_ := Aside0.mk (blk_below (g := gb1060) (o := .cells #[.int .u64 a1_0, .int .u64 a1_1, .int .u64 a1_2, .int .u64 a1_3, .bool a1_4] 26 (0, 0)) (by (with_reducible repeat (first | refine blk_drewN ?_ _ | refine blk_drew ?_ | refine blk_alloc ?_ _)); exact BK1060.out) hb)
              have n2_ := Aside0.mk (blk_below (g := gb1074) (o := .cells #[.int .u64 t1070, .int .u64 t1071, .int .u64 t1072, .int .u64 t1073] 24 (0, 0)) (by (with_reducible repeat (first | refine blk_drewN ?_ _ | refine blk_drew ?_ | refine blk_alloc ?_ _)); exact BK1074.out) hb)
              have n3_ := Aside0.mk (blk_below (g := gb1079) (o := .cells #[.int .u64 t1075, .int .u64 t1076, .int .u64 t1077, .int .u64 t1078] 24 (0, 0)) (by (with_reducible repeat (first | refine blk_drewN ?_ _ | refine blk_drew ?_ | refine blk_alloc ?_ _)); exact BK1079.out) hb)
              have n4_ := Aside0.mk (below_step (by repeat (first | (with_reducible first | exact HB.out | apply below_alloc | apply pw_below_drewN | apply below_drew1 | refine below_set ?_ GE1060.out | refine below_set ?_ GE1074.out | refine below_set ?_ GE1079.out) | exact HB.out)) hb)
              clear HO_6
              clear BK1060
              clear BK1074
              clear BK1079
              clear HB
              have HO_6 := n0_
              have BK1060 := n1_
              have BK1074 := n2_
              have BK1079 := n3_
              have HB := n4_
              clear n0_ n1_ n2_ n3_ n4_
              (try clear hb)
              (try clear hb2)
              (try clear hk)
              (try clear hi)
              refine hK.out _ _ ⟨(blk_cell BK1074.out 0).trans rfl, (blk_cell BK1074.out 1).trans rfl, (blk_cell BK1074.out 2).trans rfl, (blk_cell BK1074.out 3).trans rfl, HS4_, HS5_, HS6_, HS7_⟩ (fun hHeld => ?_)
              clear hK K
              refine norm_ (a' := ?_) ?_ ?_
              rotate_left
              · show Act.put _ (some 48) _ = _
                simp only [Act.put, List.setIfInBounds_toArray, List.set_cons_zero, List.set_cons_succ, i64_w, i32_w]
                rfl
              refine pure_ (i := 6) (N := some 49) (v := ?_) (a' := ?_) #[true, true, true, true, true, true, true] rfl rfl (by kernel_rfl) (fun _ _ _ h => h) (Or.inl ⟨by rfl, ?_⟩) ?_ ?_
              rotate_left
              · intro w'
                go_simp
                with_reducible rfl
              rotate_left
              · simp only [Act.put, List.setIfInBounds_toArray, List.set_cons_zero, List.set_cons_succ, i64_w, i32_w]
                rfl
              refine done_ (by kernel_rfl) ?_
              try go_wp2
              have n0_ := Aside0.mk (Kd.R_drew HO_6.out)
              have n1_ := Aside0.mk (blk_drew BK1060.out)
              have n2_ := Aside0.mk (blk_drew BK1074.out)
              have n3_ := Aside0.mk (blk_drew BK1079.out)
              have n4_ := Aside0.mk (below_drew1 HB.out)
              clear HO_6
              clear BK1060
              clear BK1074
              clear BK1079
              clear HB
              have HO_6 := n0_
              have BK1060 := n1_
              have BK1074 := n2_
              have BK1079 := n3_
              have HB := n4_
              clear n0_ n1_ n2_ n3_ n4_
              refine start_ (n := 10) (S := fun w' => True) (ds := []) #[false, false, false, false, false, false, false, false, false, false] (by kernel_rfl) rfl rfl trivial (fun hHeld => ?_); refine with_tabW tenementlaw06_VecAll.tab17 tenementlaw06_VecAll.bits17 (fun HT_ HW_ => ?_)
              generalize w39.drew = w40 at HO_6 BK1060 BK1074 BK1079 HB hHeld ⊢
              refine pure_ (i := 0) (N := some 50) (v := ?_) (a' := ?_) #[true, false, false, false, false, false, false, false, false, false] rfl rfl (any_of HT_.out (by kernel_rfl)) (fun _ _ _ h => h) (Or.inl ⟨by rfl, ?_⟩) ?_ ?_
              rotate_left
              · intro w'
                go_simp
                with_reducible rfl
              rotate_left
              · simp only [Act.put, List.setIfInBounds_toArray, List.set_cons_zero, List.set_cons_succ, i64_w, i32_w]
                rfl
              refine pure_ (i := 1) (N := some 51) (v := ?_) (a' := ?_) #[true, true, false, false, false, false, false, false, false, false] rfl rfl (any_of HT_.out (by kernel_rfl)) (fun _ _ _ h => h) (Or.inl ⟨by rfl, ?_⟩) ?_ ?_
              rotate_left
              · intro w'
                go_simp
                with_reducible rfl
              rotate_left
              · simp only [Act.put, List.setIfInBounds_toArray, List.set_cons_zero, List.set_cons_succ, i64_w, i32_w]
                rfl
              refine pure_ (i := 2) (N := some 52) (v := undef) (a' := ?_) #[true, true, true, false, false, false, false, false, false, false] rfl rfl (any_of HT_.out (by kernel_rfl)) (fun _ _ _ h => h) (Or.inr ⟨by rfl, rfl⟩) ?_ ?_
              rotate_left
              · simp only [Act.put, List.setIfInBounds_toArray, List.set_cons_zero, List.set_cons_succ, i64_w, i32_w]
                rfl
              refine pure_ (i := 3) (N := some 53) (v := undef) (a' := ?_) #[true, true, true, true, false, false, false, false, false, false] rfl rfl (any_of HT_.out (by kernel_rfl)) (fun _ _ _ h => h) (Or.inr ⟨by rfl, rfl⟩) ?_ ?_
              rotate_left
              · simp only [Act.put, List.setIfInBounds_toArray, List.set_cons_zero, List.set_cons_succ, i64_w, i32_w]
                rfl
              refine pure_ (i := 4) (N := some 54) (v := undef) (a' := ?_) #[true, true, true, true, true, false, false, false, false, false] rfl rfl (any_of HT_.out (by kernel_rfl)) (fun _ _ _ h => h) (Or.inr ⟨by rfl, rfl⟩) ?_ ?_
              rotate_left
              · simp only [Act.put, List.setIfInBounds_toArray, List.set_cons_zero, List.set_cons_succ, i64_w, i32_w]
                rfl
              refine pure_ (i := 5) (N := some 55) (v := undef) (a' := ?_) #[true, true, true, true, true, true, false, false, false, false] rfl rfl (any_of HT_.out (by kernel_rfl)) (fun _ _ _ h => h) (Or.inr ⟨by rfl, rfl⟩) ?_ ?_
              rotate_left
              · simp only [Act.put, List.setIfInBounds_toArray, List.set_cons_zero, List.set_cons_succ, i64_w, i32_w]
                rfl
              refine pure_ (i := 6) (N := some 56) (v := undef) (a' := ?_) #[true, true, true, true, true, true, true, false, false, false] rfl rfl (any_of HT_.out (by kernel_rfl)) (fun _ _ _ h => h) (Or.inr ⟨by rfl, rfl⟩) ?_ ?_
              rotate_left
              · simp only [Act.put, List.setIfInBounds_toArray, List.set_cons_zero, List.set_cons_succ, i64_w, i32_w]
                rfl
              refine pure_ (i := 7) (N := some 57) (v := undef) (a' := ?_) #[true, true, true, true, true, true, true, true, false, false] rfl rfl (any_of HT_.out (by kernel_rfl)) (fun _ _ _ h => h) (Or.inr ⟨by rfl, rfl⟩) ?_ ?_
              rotate_left
              · simp only [Act.put, List.setIfInBounds_toArray, List.set_cons_zero, List.set_cons_succ, i64_w, i32_w]
                rfl
              refine pure_ (i := 8) (N := some 58) (v := ?_) (a' := ?_) #[true, true, true, true, true, true, true, true, true, false] rfl rfl (any_of HT_.out (by kernel_rfl)) (fun _ _ _ h => h) (Or.inl ⟨by rfl, ?_⟩) ?_ ?_
              rotate_left
              · intro w'
                go_simp
                with_reducible rfl
              rotate_left
              · simp only [Act.put, List.setIfInBounds_toArray, List.set_cons_zero, List.set_cons_succ, i64_w, i32_w]
                rfl
              refine pure_ (i := 9) (N := some 10) (v := ?_) (a' := ?_) #[true, true, true, true, true, true, true, true, true, true] rfl rfl (any_of HT_.out (by kernel_rfl)) (fun _ _ _ h => h) (Or.inl ⟨by rfl, ?_⟩) ?_ ?_
              rotate_left
              · intro w'
                go_simp
                with_reducible rfl
              rotate_left
              · simp only [Act.put, List.setIfInBounds_toArray, List.set_cons_zero, List.set_cons_succ, i64_w, i32_w]
                rfl
              refine done_ (done_of HT_.out (by kernel_rfl)) ?_
              try go_wp2
              go_roundg k2
              case measure => have := HJ4.out; have := HK2.out; omega
              case rel => exact ⟨(false), (wrap64 (x11_2 + 1)), (by first | rfl | (simp; done) | (simp [*]; done)), (by first | rfl | (simp; done) | (simp [*]; done)), H', ⟨by have := HJ4.out; have := HK2.out; omega⟩, ⟨by (with_reducible repeat (first | apply Kd.R_alloc | apply Kd.R_drewN | apply Kd.R_drew)); exact HO_6.out⟩, ⟨by (with_reducible repeat (first | refine blk_drewN ?_ _ | refine blk_drew ?_ | refine blk_alloc ?_ _)); exact BK1060.out⟩, ⟨by (with_reducible repeat (first | refine blk_drewN ?_ _ | refine blk_drew ?_ | refine blk_alloc ?_ _)); exact BK1074.out⟩, ⟨by (with_reducible repeat (first | refine blk_drewN ?_ _ | refine blk_drew ?_ | refine blk_alloc ?_ _)); exact BK1079.out⟩, ⟨by repeat (first | (with_reducible first | exact HB.out | apply below_alloc | apply pw_below_drewN | apply below_drew1 | refine below_set ?_ GE1060.out | refine below_set ?_ GE1074.out | refine below_set ?_ GE1079.out) | exact HB.out)⟩⟩
            subst c32
            have H1 : ((vec_Leq.f t1075 t1076 t1077 t1078 ((rd_T24 x6_4 x11_2).f0) ((rd_T24 x6_4 x11_2).f1) ((rd_T24 x6_4 x11_2).f2) ((rd_T24 x6_4 x11_2).f3)).bind fun t1083 => (tenementlaw06_VecAll.l1 k2 true x6_4 t1083 (wrap64 (x11_2 + 1)) t1070 t1071 t1072 t1073 t1075 t1076 t1077 t1078)) = some r := by rw [if_pos rfl] at H; exact H
            clear H
            have H := H1
            clear H1
            replace H := Option.bind_eq_some_iff.mp H
            obtain ⟨t1083, A330, H⟩ := H
            replace H : (tenementlaw06_VecAll.l1 k2 true x6_4 t1083 (wrap64 (x11_2 + 1)) t1070 t1071 t1072 t1073 t1075 t1076 t1077 t1078) = some r := H
            have A33 := Aside0.mk A330
            clear A330
            have H' := Aside0.mk H
            clear H
            try go_wp2
            have n0_ := Aside0.mk (Kd.R_drew HO_6.out)
            have n1_ := Aside0.mk (blk_drew BK1060.out)
            have n2_ := Aside0.mk (blk_drew BK1074.out)
            have n3_ := Aside0.mk (blk_drew BK1079.out)
            have n4_ := Aside0.mk (below_drew1 HB.out)
            clear HO_6
            clear BK1060
            clear BK1074
            clear BK1079
            clear HB
            have HO_6 := n0_
            have BK1060 := n1_
            have BK1074 := n2_
            have BK1079 := n3_
            have HB := n4_
            clear n0_ n1_ n2_ n3_ n4_
            have p1080 : 0 ≤ (x11_2 : Int) := of_decide_eq_true (by first | (with_reducible assumption) | assumption)
            have q1080 : x11_2 < (x6_4.length : Int) := of_decide_eq_true (by first | (with_reducible assumption) | assumption)
            obtain ⟨ad1080, e1080, hx1080_0, hx1080_1, hx1080_2, hx1080_3⟩ := at_T24 (Kd.R_reads' HO_6.out).2.2 x11_2 p1080 q1080
            cases e1080
            replace p1080 := eq_true p1080
            replace q1080 := eq_true q1080
            refine start_ (n := 7) (S := fun w' => w'.cell? ⟨gb1074, 0, none⟩ = some (.int .u64 t1070) ∧ w'.cell? ⟨gb1074, 1, none⟩ = some (.int .u64 t1071) ∧ w'.cell? ⟨gb1074, 2, none⟩ = some (.int .u64 t1072) ∧ w'.cell? ⟨gb1074, 3, none⟩ = some (.int .u64 t1073) ∧ w'.cell? (ad1080.add ((x11_2).toNat * 4)) = some (.int .u64 ((rd_T24 x6_4 x11_2).f0)) ∧ w'.cell? ⟨(ad1080.add ((x11_2).toNat * 4)).block, (ad1080.add ((x11_2).toNat * 4)).off + 1, none⟩ = some (.int .u64 ((rd_T24 x6_4 x11_2).f1)) ∧ w'.cell? ⟨(ad1080.add ((x11_2).toNat * 4)).block, (ad1080.add ((x11_2).toNat * 4)).off + 2, none⟩ = some (.int .u64 ((rd_T24 x6_4 x11_2).f2)) ∧ w'.cell? ⟨(ad1080.add ((x11_2).toNat * 4)).block, (ad1080.add ((x11_2).toNat * 4)).off + 3, none⟩ = some (.int .u64 ((rd_T24 x6_4 x11_2).f3))) (ds := []) #[false, false, false, false, false, false, false] (by kernel_rfl) rfl rfl ⟨(blk_cell BK1074.out 0).trans rfl, (blk_cell BK1074.out 1).trans rfl, (blk_cell BK1074.out 2).trans rfl, (blk_cell BK1074.out 3).trans rfl, hx1080_0, hx1080_1, hx1080_2, hx1080_3⟩ (fun hHeld => ?_)
            generalize wr.drew = w34 at HO_6 BK1060 BK1074 BK1079 HB hx1080_0 hx1080_1 hx1080_2 hx1080_3 hHeld ⊢
            refine pure_ (i := 1) (N := some 44) (v := ?_) (a' := ?_) #[false, true, false, false, false, false, false] rfl rfl (by kernel_rfl) (fun _ _ _ h => h) (Or.inl ⟨by rfl, ?_⟩) ?_ ?_
            rotate_left
            · intro w'
              go_simp
              with_reducible rfl
            rotate_left
            · simp only [Act.put, List.setIfInBounds_toArray, List.set_cons_zero, List.set_cons_succ, i64_w, i32_w]
              rfl
            refine pure_ (i := 2) (N := some 45) (v := ?_) (a' := ?_) #[false, true, true, false, false, false, false] rfl rfl (by kernel_rfl) (fun _ _ _ h => h) (Or.inl ⟨by rfl, ?_⟩) ?_ ?_
            rotate_left
            · intro w'
              go_simp
              with_reducible rfl
            rotate_left
            · simp only [Act.put, List.setIfInBounds_toArray, List.set_cons_zero, List.set_cons_succ, i64_w, i32_w]
              rfl
            refine pure_ (i := 3) (N := some 46) (v := ?_) (a' := ?_) #[false, true, true, true, false, false, false] rfl rfl (by kernel_rfl) (fun _ _ _ h => h) (Or.inl ⟨by rfl, ?_⟩) ?_ ?_
            rotate_left
            · intro w'
              go_simp
              with_reducible rfl
            rotate_left
            · simp only [Act.put, List.setIfInBounds_toArray, List.set_cons_zero, List.set_cons_succ, i64_w, i32_w]
              rfl
            refine take_ (i := 0) (N := some 43) (v := ?_) (a' := ?_) #[true, true, true, true, false, false, false] rfl rfl (by kernel_rfl) (fun _ _ _ h => h) (Or.inl ⟨by rfl, ?_⟩) hHeld ?_ ?_
            rotate_left
            · rintro w' ⟨s0, s1, s2, s3, s4, s5, s6, s7⟩
              go_simp
              with_reducible rfl
            rotate_left
            · simp only [Act.put, List.setIfInBounds_toArray, List.set_cons_zero, List.set_cons_succ, i64_w, i32_w]
              rfl
            refine take_ (i := 4) (N := some 47) (v := ?_) (a' := ?_) #[true, true, true, true, true, false, false] rfl rfl (by kernel_rfl) (fun _ _ _ h => h) (Or.inl ⟨by rfl, ?_⟩) hHeld ?_ ?_
            rotate_left
            · rintro w' ⟨s0, s1, s2, s3, s4, s5, s6, s7⟩
              go_simp
              with_reducible rfl
            rotate_left
            · simp only [Act.put, List.setIfInBounds_toArray, List.set_cons_zero, List.set_cons_succ, i64_w, i32_w]
              rfl
            refine one_ (i := 5) (N := some 48) #[true, true, true, true, true, true, false] rfl rfl (by kernel_rfl) (by decide) (fun K hK => ?_)
            refine goes_ Tryd.func22 (by kernel_rfl) rfl #[.agg #[.int .u64 t1070, .int .u64 t1071, .int .u64 t1072, .int .u64 t1073], .agg #[.int .u64 ((rd_T24 x6_4 x11_2).f0), .int .u64 ((rd_T24 x6_4 x11_2).f1), .int .u64 ((rd_T24 x6_4 x11_2).f2), .int .u64 ((rd_T24 x6_4 x11_2).f3)]] (by rfl) rfl rfl (by (try simp only [List.map_toArray, List.map_cons, List.map_nil]); first | done | rfl | (simp only [List.length_drop, List.length_take]; rfl)) ?_
            with_reducible refine (vec_Leq.calls t1070 t1071 t1072 t1073 ((rd_T24 x6_4 x11_2).f0) ((rd_T24 x6_4 x11_2).f1) ((rd_T24 x6_4 x11_2).f2) ((rd_T24 x6_4 x11_2).f3) true _ A30.out).mono ?_
            rintro e w35 ⟨rfl, hb⟩
            have HS4_ := (hb.cell (World.block_lt_of_cell? _ _ (hHeld.2.2.2.2.1))).trans (hHeld.2.2.2.2.1)
            have HS5_ := (hb.cell (World.block_lt_of_cell? _ _ (hHeld.2.2.2.2.2.1))).trans (hHeld.2.2.2.2.2.1)
            have HS6_ := (hb.cell (World.block_lt_of_cell? _ _ (hHeld.2.2.2.2.2.2.1))).trans (hHeld.2.2.2.2.2.2.1)
            have HS7_ := (hb.cell (World.block_lt_of_cell? _ _ (hHeld.2.2.2.2.2.2.2))).trans (hHeld.2.2.2.2.2.2.2)
            refine ⟨_, rfl, ?_⟩
            have n0_ := Aside0.mk (Kd.R_below (by (with_reducible repeat (first | apply Kd.R_alloc | apply Kd.R_drewN | apply Kd.R_drew)); exact HO_6.out) hb)
            have n1_ := Aside0.mk (blk_below (g := gb1060) (o := .cells #[.int .u64 a1_0, .int .u64 a1_1, .int .u64 a1_2, .int .u64 a1_3, .bool a1_4] 26 (0, 0)) (by (with_reducible repeat (first | refine blk_drewN ?_ _ | refine blk_drew ?_ | refine blk_alloc ?_ _)); exact BK1060.out) hb)
            have n2_ := Aside0.mk (blk_below (g := gb1074) (o := .cells #[.int .u64 t1070, .int .u64 t1071, .int .u64 t1072, .int .u64 t1073] 24 (0, 0)) (by (with_reducible repeat (first | refine blk_drewN ?_ _ | refine blk_drew ?_ | refine blk_alloc ?_ _)); exact BK1074.out) hb)
            have n3_ := Aside0.mk (blk_below (g := gb1079) (o := .cells #[.int .u64 t1075, .int .u64 t1076, .int .u64 t1077, .int .u64 t1078] 24 (0, 0)) (by (with_reducible repeat (first | refine blk_drewN ?_ _ | refine blk_drew ?_ | refine blk_alloc ?_ _)); exact BK1079.out) hb)
            have n4_ := Aside0.mk (below_step (by repeat (first | (with_reducible first | exact HB.out | apply below_alloc | apply pw_below_drewN | apply below_drew1 | refine below_set ?_ GE1060.out | refine below_set ?_ GE1074.out | refine below_set ?_ GE1079.out) | exact HB.out)) hb)
            clear HO_6
            clear BK1060
            clear BK1074
            clear BK1079
            clear HB
            have HO_6 := n0_
            have BK1060 := n1_
            have BK1074 := n2_
            have BK1079 := n3_
            have HB := n4_
            clear n0_ n1_ n2_ n3_ n4_
            (try clear hb)
            (try clear hb2)
            (try clear hk)
            (try clear hi)
            refine hK.out _ _ ⟨(blk_cell BK1074.out 0).trans rfl, (blk_cell BK1074.out 1).trans rfl, (blk_cell BK1074.out 2).trans rfl, (blk_cell BK1074.out 3).trans rfl, HS4_, HS5_, HS6_, HS7_⟩ (fun hHeld => ?_)
            clear hK K
            refine norm_ (a' := ?_) ?_ ?_
            rotate_left
            · show Act.put _ (some 48) _ = _
              simp only [Act.put, List.setIfInBounds_toArray, List.set_cons_zero, List.set_cons_succ, i64_w, i32_w]
              rfl
            refine pure_ (i := 6) (N := some 49) (v := ?_) (a' := ?_) #[true, true, true, true, true, true, true] rfl rfl (by kernel_rfl) (fun _ _ _ h => h) (Or.inl ⟨by rfl, ?_⟩) ?_ ?_
            rotate_left
            · intro w'
              go_simp
              with_reducible rfl
            rotate_left
            · simp only [Act.put, List.setIfInBounds_toArray, List.set_cons_zero, List.set_cons_succ, i64_w, i32_w]
              rfl
            refine done_ (by kernel_rfl) ?_
            try go_wp2
            have n0_ := Aside0.mk (Kd.R_drew HO_6.out)
            have n1_ := Aside0.mk (blk_drew BK1060.out)
            have n2_ := Aside0.mk (blk_drew BK1074.out)
            have n3_ := Aside0.mk (blk_drew BK1079.out)
            have n4_ := Aside0.mk (below_drew1 HB.out)
            clear HO_6
            clear BK1060
            clear BK1074
            clear BK1079
            clear HB
            have HO_6 := n0_
            have BK1060 := n1_
            have BK1074 := n2_
            have BK1079 := n3_
            have HB := n4_
            clear n0_ n1_ n2_ n3_ n4_
            have p1082 : 0 ≤ (x11_2 : Int) := of_decide_eq_true (by first | (with_reducible assumption) | assumption)
            have q1082 : x11_2 < (x6_4.length : Int) := of_decide_eq_true (by first | (with_reducible assumption) | assumption)
            obtain ⟨ad1082, e1082, hx1082_0, hx1082_1, hx1082_2, hx1082_3⟩ := at_T24 (Kd.R_reads' HO_6.out).2.2 x11_2 p1082 q1082
            obtain rfl : ad1080 = ad1082 := (by injection e1082)
            replace p1082 := eq_true p1082
            replace q1082 := eq_true q1082
            refine start_ (n := 10) (S := fun w' => w'.cell? ⟨gb1079, 0, none⟩ = some (.int .u64 t1075) ∧ w'.cell? ⟨gb1079, 1, none⟩ = some (.int .u64 t1076) ∧ w'.cell? ⟨gb1079, 2, none⟩ = some (.int .u64 t1077) ∧ w'.cell? ⟨gb1079, 3, none⟩ = some (.int .u64 t1078) ∧ w'.cell? (ad1080.add ((x11_2).toNat * 4)) = some (.int .u64 ((rd_T24 x6_4 x11_2).f0)) ∧ w'.cell? ⟨(ad1080.add ((x11_2).toNat * 4)).block, (ad1080.add ((x11_2).toNat * 4)).off + 1, none⟩ = some (.int .u64 ((rd_T24 x6_4 x11_2).f1)) ∧ w'.cell? ⟨(ad1080.add ((x11_2).toNat * 4)).block, (ad1080.add ((x11_2).toNat * 4)).off + 2, none⟩ = some (.int .u64 ((rd_T24 x6_4 x11_2).f2)) ∧ w'.cell? ⟨(ad1080.add ((x11_2).toNat * 4)).block, (ad1080.add ((x11_2).toNat * 4)).off + 3, none⟩ = some (.int .u64 ((rd_T24 x6_4 x11_2).f3))) (ds := []) #[false, false, false, false, false, false, false, false, false, false] (by kernel_rfl) rfl rfl ⟨(blk_cell BK1079.out 0).trans rfl, (blk_cell BK1079.out 1).trans rfl, (blk_cell BK1079.out 2).trans rfl, (blk_cell BK1079.out 3).trans rfl, hx1082_0, hx1082_1, hx1082_2, hx1082_3⟩ (fun hHeld => ?_); refine with_tabW tenementlaw06_VecAll.tab17 tenementlaw06_VecAll.bits17 (fun HT_ HW_ => ?_)
            generalize w35.drew = w36 at HO_6 BK1060 BK1074 BK1079 HB hx1082_0 hx1082_1 hx1082_2 hx1082_3 hHeld ⊢
            refine pure_ (i := 0) (N := some 50) (v := ?_) (a' := ?_) #[true, false, false, false, false, false, false, false, false, false] rfl rfl (any_of HT_.out (by kernel_rfl)) (fun _ _ _ h => h) (Or.inl ⟨by rfl, ?_⟩) ?_ ?_
            rotate_left
            · intro w'
              go_simp
              with_reducible rfl
            rotate_left
            · simp only [Act.put, List.setIfInBounds_toArray, List.set_cons_zero, List.set_cons_succ, i64_w, i32_w]
              rfl
            refine pure_ (i := 1) (N := some 51) (v := ?_) (a' := ?_) #[true, true, false, false, false, false, false, false, false, false] rfl rfl (any_of HT_.out (by kernel_rfl)) (fun _ _ _ h => h) (Or.inl ⟨by rfl, ?_⟩) ?_ ?_
            rotate_left
            · intro w'
              go_simp
              with_reducible rfl
            rotate_left
            · simp only [Act.put, List.setIfInBounds_toArray, List.set_cons_zero, List.set_cons_succ, i64_w, i32_w]
              rfl
            refine pure_ (i := 3) (N := some 53) (v := ?_) (a' := ?_) #[true, true, false, true, false, false, false, false, false, false] rfl rfl (any_of HT_.out (by kernel_rfl)) (fun _ _ _ h => h) (Or.inl ⟨by rfl, ?_⟩) ?_ ?_
            rotate_left
            · intro w'
              go_simp
              with_reducible rfl
            rotate_left
            · simp only [Act.put, List.setIfInBounds_toArray, List.set_cons_zero, List.set_cons_succ, i64_w, i32_w]
              rfl
            refine pure_ (i := 4) (N := some 54) (v := ?_) (a' := ?_) #[true, true, false, true, true, false, false, false, false, false] rfl rfl (any_of HT_.out (by kernel_rfl)) (fun _ _ _ h => h) (Or.inl ⟨by rfl, ?_⟩) ?_ ?_
            rotate_left
            · intro w'
              go_simp
              with_reducible rfl
            rotate_left
            · simp only [Act.put, List.setIfInBounds_toArray, List.set_cons_zero, List.set_cons_succ, i64_w, i32_w]
              rfl
            refine pure_ (i := 5) (N := some 55) (v := ?_) (a' := ?_) #[true, true, false, true, true, true, false, false, false, false] rfl rfl (any_of HT_.out (by kernel_rfl)) (fun _ _ _ h => h) (Or.inl ⟨by rfl, ?_⟩) ?_ ?_
            rotate_left
            · intro w'
              go_simp
              with_reducible rfl
            rotate_left
            · simp only [Act.put, List.setIfInBounds_toArray, List.set_cons_zero, List.set_cons_succ, i64_w, i32_w]
              rfl
            refine take_ (i := 2) (N := some 52) (v := ?_) (a' := ?_) #[true, true, true, true, true, true, false, false, false, false] rfl rfl (take_ofW HT_.out HW_.out (by kernel_rfl)) (fun _ _ _ h => h) (Or.inl ⟨by rfl, ?_⟩) hHeld ?_ ?_
            rotate_left
            · rintro w' ⟨s0, s1, s2, s3, s4, s5, s6, s7⟩
              go_simp
              with_reducible rfl
            rotate_left
            · simp only [Act.put, List.setIfInBounds_toArray, List.set_cons_zero, List.set_cons_succ, i64_w, i32_w]
              rfl
            refine take_ (i := 6) (N := some 56) (v := ?_) (a' := ?_) #[true, true, true, true, true, true, true, false, false, false] rfl rfl (take_ofW HT_.out HW_.out (by kernel_rfl)) (fun _ _ _ h => h) (Or.inl ⟨by rfl, ?_⟩) hHeld ?_ ?_
            rotate_left
            · rintro w' ⟨s0, s1, s2, s3, s4, s5, s6, s7⟩
              go_simp
              with_reducible rfl
            rotate_left
            · simp only [Act.put, List.setIfInBounds_toArray, List.set_cons_zero, List.set_cons_succ, i64_w, i32_w]
              rfl
            refine one_ (i := 7) (N := some 57) #[true, true, true, true, true, true, true, true, false, false] rfl rfl (one_of HT_.out (by kernel_rfl)) (by decide) (fun K hK => ?_)
            refine goes_ Tryd.func22 (by kernel_rfl) rfl #[.agg #[.int .u64 t1075, .int .u64 t1076, .int .u64 t1077, .int .u64 t1078], .agg #[.int .u64 ((rd_T24 x6_4 x11_2).f0), .int .u64 ((rd_T24 x6_4 x11_2).f1), .int .u64 ((rd_T24 x6_4 x11_2).f2), .int .u64 ((rd_T24 x6_4 x11_2).f3)]] (by rfl) rfl rfl (by (try simp only [List.map_toArray, List.map_cons, List.map_nil]); first | done | rfl | (simp only [List.length_drop, List.length_take]; rfl)) ?_
            with_reducible refine (vec_Leq.calls t1075 t1076 t1077 t1078 ((rd_T24 x6_4 x11_2).f0) ((rd_T24 x6_4 x11_2).f1) ((rd_T24 x6_4 x11_2).f2) ((rd_T24 x6_4 x11_2).f3) t1083 _ A33.out).mono ?_
            rintro e w37 ⟨rfl, hb⟩
            have HS4_ := (hb.cell (World.block_lt_of_cell? _ _ (hHeld.2.2.2.2.1))).trans (hHeld.2.2.2.2.1)
            have HS5_ := (hb.cell (World.block_lt_of_cell? _ _ (hHeld.2.2.2.2.2.1))).trans (hHeld.2.2.2.2.2.1)
            have HS6_ := (hb.cell (World.block_lt_of_cell? _ _ (hHeld.2.2.2.2.2.2.1))).trans (hHeld.2.2.2.2.2.2.1)
            have HS7_ := (hb.cell (World.block_lt_of_cell? _ _ (hHeld.2.2.2.2.2.2.2))).trans (hHeld.2.2.2.2.2.2.2)
            refine ⟨_, rfl, ?_⟩
            have n0_ := Aside0.mk (Kd.R_below (by (with_reducible repeat (first | apply Kd.R_alloc | apply Kd.R_drewN | apply Kd.R_drew)); exact HO_6.out) hb)
            have n1_ := Aside0.mk (blk_below (g := gb1060) (o := .cells #[.int .u64 a1_0, .int .u64 a1_1, .int .u64 a1_2, .int .u64 a1_3, .bool a1_4] 26 (0, 0)) (by (with_reducible repeat (first | refine blk_drewN ?_ _ | refine blk_drew ?_ | refine blk_alloc ?_ _)); exact BK1060.out) hb)
            have n2_ := Aside0.mk (blk_below (g := gb1074) (o := .cells #[.int .u64 t1070, .int .u64 t1071, .int .u64 t1072, .int .u64 t1073] 24 (0, 0)) (by (with_reducible repeat (first | refine blk_drewN ?_ _ | refine blk_drew ?_ | refine blk_alloc ?_ _)); exact BK1074.out) hb)
            have n3_ := Aside0.mk (blk_below (g := gb1079) (o := .cells #[.int .u64 t1075, .int .u64 t1076, .int .u64 t1077, .int .u64 t1078] 24 (0, 0)) (by (with_reducible repeat (first | refine blk_drewN ?_ _ | refine blk_drew ?_ | refine blk_alloc ?_ _)); exact BK1079.out) hb)
            have n4_ := Aside0.mk (below_step (by repeat (first | (with_reducible first | exact HB.out | apply below_alloc | apply pw_below_drewN | apply below_drew1 | refine below_set ?_ GE1060.out | refine below_set ?_ GE1074.out | refine below_set ?_ GE1079.out) | exact HB.out)) hb)
            clear HO_6
            clear BK1060
            clear BK1074
            clear BK1079
            clear HB
            have HO_6 := n0_
            have BK1060 := n1_
            have BK1074 := n2_
            have BK1079 := n3_
            have HB := n4_
            clear n0_ n1_ n2_ n3_ n4_
            (try clear hb)
            (try clear hb2)
            (try clear hk)
            (try clear hi)
            refine hK.out _ _ ⟨(blk_cell BK1079.out 0).trans rfl, (blk_cell BK1079.out 1).trans rfl, (blk_cell BK1079.out 2).trans rfl, (blk_cell BK1079.out 3).trans rfl, HS4_, HS5_, HS6_, HS7_⟩ (fun hHeld => ?_)
            clear hK K
            refine norm_ (a' := ?_) ?_ ?_
            rotate_left
            · show Act.put _ (some 57) _ = _
              simp only [Act.put, List.setIfInBounds_toArray, List.set_cons_zero, List.set_cons_succ, i64_w, i32_w]
              rfl
            refine pure_ (i := 8) (N := some 58) (v := ?_) (a' := ?_) #[true, true, true, true, true, true, true, true, true, false] rfl rfl (any_of HT_.out (by kernel_rfl)) (fun _ _ _ h => h) (Or.inl ⟨by rfl, ?_⟩) ?_ ?_
            rotate_left
            · intro w'
              go_simp
              with_reducible rfl
            rotate_left
            · simp only [Act.put, List.setIfInBounds_toArray, List.set_cons_zero, List.set_cons_succ, i64_w, i32_w]
              rfl
            refine pure_ (i := 9) (N := some 10) (v := ?_) (a' := ?_) #[true, true, true, true, true, true, true, true, true, true] rfl rfl (any_of HT_.out (by kernel_rfl)) (fun _ _ _ h => h) (Or.inl ⟨by rfl, ?_⟩) ?_ ?_
            rotate_left
            · intro w'
              go_simp
              with_reducible rfl
            rotate_left
            · simp only [Act.put, List.setIfInBounds_toArray, List.set_cons_zero, List.set_cons_succ, i64_w, i32_w]
              rfl
            refine done_ (done_of HT_.out (by kernel_rfl)) ?_
            try go_wp2
            go_roundg k2
            case measure => have := HJ4.out; have := HK2.out; omega
            case rel => exact ⟨(t1083), (wrap64 (x11_2 + 1)), (by first | rfl | (simp; done) | (simp [*]; done)), (by first | rfl | (simp; done) | (simp [*]; done)), H', ⟨by have := HJ4.out; have := HK2.out; omega⟩, ⟨by (with_reducible repeat (first | apply Kd.R_alloc | apply Kd.R_drewN | apply Kd.R_drew)); exact HO_6.out⟩, ⟨by (with_reducible repeat (first | refine blk_drewN ?_ _ | refine blk_drew ?_ | refine blk_alloc ?_ _)); exact BK1060.out⟩, ⟨by (with_reducible repeat (first | refine blk_drewN ?_ _ | refine blk_drew ?_ | refine blk_alloc ?_ _)); exact BK1074.out⟩, ⟨by (with_reducible repeat (first | refine blk_drewN ?_ _ | refine blk_drew ?_ | refine blk_alloc ?_ _)); exact BK1079.out⟩, ⟨by repeat (first | (with_reducible first | exact HB.out | apply below_alloc | apply pw_below_drewN | apply below_drew1 | refine below_set ?_ GE1060.out | refine below_set ?_ GE1074.out | refine below_set ?_ GE1079.out) | exact HB.out)⟩⟩
          rw [if_neg c28] at H
          have c28b0 : decide (x11_2 < (x6_4.length : Int)) = false := decide_eq_false c28
          clear c28
          by_cases c41 : (x6_4.length : Int) = 0
          · rw [if_pos c41] at H
            have c41b0 : ((x6_4.length : Int) == 0) = true := beq_iff_eq.mpr c41
            have c41b1 : ((x6_4.length : Int) != 0) = false := bne_eq_false_iff_eq.mpr c41
            clear c41
            replace H : ((vec_Sum.f t1070 t1071 t1072 t1073).bind fun t1084 => (if t1084 = 0 then (some true) else (none))) = some r := by first | (rw [if_pos rfl] at H; exact H) | (rw [if_pos trivial] at H; exact H)
            replace H := Option.bind_eq_some_iff.mp H
            obtain ⟨t1084, A420, H⟩ := H
            replace H : (if t1084 = 0 then (some true) else (none)) = some r := H
            have A42 := Aside0.mk A420
            clear A420
            by_cases c43 : t1084 = 0
            rotate_left
            · rw [if_neg c43] at H
              exact absurd H (by simp)
            rw [if_pos c43] at H
            have c43b0 : (t1084 == 0) = true := beq_iff_eq.mpr c43
            have c43b1 : (t1084 != 0) = false := bne_eq_false_iff_eq.mpr c43
            clear c43
            obtain rfl := Option.some.inj H
            have hnb44 := NB1074_1060.out
            have hnc44 := NB1060_1074.out
            have hnb45 := NB1074_1079.out
            have hnc45 := NB1079_1074.out
            have hcz46_0 : wr.cell? ⟨gb1074, 0, none⟩ = some (.int .u64 t1070) := (blk_cell BK1074.out 0).trans rfl
            have hcz46_1 : wr.cell? ⟨gb1074, 1, none⟩ = some (.int .u64 t1071) := (blk_cell BK1074.out 1).trans rfl
            have hcz46_2 : wr.cell? ⟨gb1074, 2, none⟩ = some (.int .u64 t1072) := (blk_cell BK1074.out 2).trans rfl
            have hcz46_3 : wr.cell? ⟨gb1074, 3, none⟩ = some (.int .u64 t1073) := (blk_cell BK1074.out 3).trans rfl
            have hfz46_0 := blk_frozen BK1074.out 0
            have hfz46_1 := blk_frozen BK1074.out 1
            have hfz46_2 := blk_frozen BK1074.out 2
            have hfz46_3 := blk_frozen BK1074.out 3
            go_wp2_with (first | (go_at_call 26; (with_reducible refine (vec_Sum.calls t1070 t1071 t1072 t1073 t1084 _ A42.out).mono ?_); rintro e w47 ⟨rfl, hb⟩; have n0_ := Aside0.mk (Kd.R_below (by (with_reducible repeat (first | apply Kd.R_alloc | apply Kd.R_drewN | apply Kd.R_drew)); exact HO_6.out) hb); have n1_ := Aside0.mk (blk_below (g := gb1060) (o := .cells #[.int .u64 a1_0, .int .u64 a1_1, .int .u64 a1_2, .int .u64 a1_3, .bool a1_4] 26 (0, 0)) (by (with_reducible repeat (first | refine blk_drewN ?_ _ | refine blk_drew ?_ | refine blk_alloc ?_ _)); exact BK1060.out) hb); have n2_ := Aside0.mk (blk_below (g := gb1074) (o := .cells #[.int .u64 t1070, .int .u64 t1071, .int .u64 t1072, .int .u64 t1073] 24 (0, 0)) (by (with_reducible repeat (first | refine blk_drewN ?_ _ | refine blk_drew ?_ | refine blk_alloc ?_ _)); exact BK1074.out) hb); have n3_ := Aside0.mk (blk_below (g := gb1079) (o := .cells #[.int .u64 t1075, .int .u64 t1076, .int .u64 t1077, .int .u64 t1078] 24 (0, 0)) (by (with_reducible repeat (first | refine blk_drewN ?_ _ | refine blk_drew ?_ | refine blk_alloc ?_ _)); exact BK1079.out) hb); have n4_ := Aside0.mk (below_step (by repeat (first | (with_reducible first | exact HB.out | apply below_alloc | apply pw_below_drewN | apply below_drew1 | refine below_set ?_ GE1060.out | refine below_set ?_ GE1074.out | refine below_set ?_ GE1079.out) | exact HB.out)) hb); clear HO_6; clear BK1060; clear BK1074; clear BK1079; clear HB; have HO_6 := n0_; have BK1060 := n1_; have BK1074 := n2_; have BK1079 := n3_; have HB := n4_; clear n0_ n1_ n2_ n3_ n4_; (try clear hb); (try clear hb2); (try clear hk); (try clear hi)))
            go_ret
            exact ⟨by first | rfl | (simp [errW_none, errW_some] <;> rfl) | (simp [*, errW_none, errW_some] <;> rfl), by repeat (first | (with_reducible first | exact HB.out | apply below_alloc | apply pw_below_drewN | apply below_drew1 | refine below_set ?_ GE1060.out | refine below_set ?_ GE1074.out | refine below_set ?_ GE1079.out) | exact HB.out)⟩
          rw [if_neg c41] at H
          have c41b0 : ((x6_4.length : Int) == 0) = false := beq_eq_false_iff_ne.mpr c41
          have c41b1 : ((x6_4.length : Int) != 0) = true := bne_iff_ne.mpr c41
          have c41b2 : ¬ (x6_4 = []) := fun h_ => c41 (by rw [h_]; rfl)
          replace H : (if x10_2 = true then ((vec_Leq.f t1075 t1076 t1077 t1078 t1070 t1071 t1072 t1073).bind fun t1085 => (if t1085 = true then (if 1 ≤ (x6_4.length : Int) then ((vec_All.f k2 (x6_4.take 1)).bind fun bt1090 => (if 0 < (x6_4.length : Int) then (if (bt1090.1 == ((rd_T24 x6_4 0).f0) && (bt1090.2.1 == ((rd_T24 x6_4 0).f1) && (bt1090.2.2.1 == ((rd_T24 x6_4 0).f2) && (bt1090.2.2.2 == ((rd_T24 x6_4 0).f3))))) = true then (some true) else (none)) else (none))) else (none)) else (none))) else (if 1 ≤ (x6_4.length : Int) then ((vec_All.f k2 (x6_4.take 1)).bind fun bt1099 => (if 0 < (x6_4.length : Int) then (if (bt1099.1 == ((rd_T24 x6_4 0).f0) && (bt1099.2.1 == ((rd_T24 x6_4 0).f1) && (bt1099.2.2.1 == ((rd_T24 x6_4 0).f2) && (bt1099.2.2.2 == ((rd_T24 x6_4 0).f3))))) = true then (some true) else (none)) else (none))) else (none))) = some r := by first | (rw [if_pos rfl] at H; exact H) | (rw [if_pos trivial] at H; exact H)
          by_cases c48 : x10_2 = true
          rotate_left
          · replace c48 := Bool.eq_false_iff.mpr c48
            subst c48
            have H1 : (if 1 ≤ (x6_4.length : Int) then ((vec_All.f k2 (x6_4.take 1)).bind fun bt1099 => (if 0 < (x6_4.length : Int) then (if (bt1099.1 == ((rd_T24 x6_4 0).f0) && (bt1099.2.1 == ((rd_T24 x6_4 0).f1) && (bt1099.2.2.1 == ((rd_T24 x6_4 0).f2) && (bt1099.2.2.2 == ((rd_T24 x6_4 0).f3))))) = true then (some true) else (none)) else (none))) else (none)) = some r := by rw [if_neg (show ¬ (false = true) by decide)] at H; exact H
            clear H
            have H := H1
            clear H1
            by_cases c59 : 1 ≤ (x6_4.length : Int)
            rotate_left
            · rw [if_neg c59] at H
              exact absurd H (by simp)
            rw [if_pos c59] at H
            have c59b0 := eq_true c59
            have c59b1 : decide (1 ≤ (x6_4.length : Int)) = true := decide_eq_true c59
            clear c59
            obtain ⟨y1095, hy1095⟩ : ∃ y_ : List (S24), y_ = (x6_4.take 1) := ⟨_, rfl⟩
            replace H : ((vec_All.f k2 y1095).bind fun bt1099 => (if 0 < (x6_4.length : Int) then (if (bt1099.1 == ((rd_T24 x6_4 0).f0) && (bt1099.2.1 == ((rd_T24 x6_4 0).f1) && (bt1099.2.2.1 == ((rd_T24 x6_4 0).f2) && (bt1099.2.2.2 == ((rd_T24 x6_4 0).f3))))) = true then (some true) else (none)) else (none))) = some r := by first | (rw [hy1095]; with_reducible exact H) | (have H2_ := (Option.bind_some _ _).symm.trans H; rw [hy1095]; with_reducible exact H2_) | (have H2_ := (Option.bind_some _ _).symm.trans H; with_reducible exact H2_) | with_reducible exact H | (rw [hy1095]; exact H) | exact H
            have Ny1095 := Aside0.mk hy1095
            clear hy1095
            replace H := Option.bind_eq_some_iff.mp H
            obtain ⟨⟨t1099, t1100, t1101, t1102⟩, A600, H⟩ := H
            replace H : (if 0 < (x6_4.length : Int) then (if (t1099 == ((rd_T24 x6_4 0).f0) && (t1100 == ((rd_T24 x6_4 0).f1) && (t1101 == ((rd_T24 x6_4 0).f2) && (t1102 == ((rd_T24 x6_4 0).f3))))) = true then (some true) else (none)) else (none)) = some r := H
            have A60 := Aside0.mk A600
            clear A600
            by_cases c61 : 0 < (x6_4.length : Int)
            rotate_left
            · rw [if_neg c61] at H
              exact absurd H (by simp)
            rw [if_pos c61] at H
            have c61b0 : decide (0 < (x6_4.length : Int)) = true := decide_eq_true c61
            have c61b1 : decide (0 < x6_4.length) = true := decide_eq_true (by omega)
            clear c61
            by_cases c62 : (t1099 == ((rd_T24 x6_4 0).f0) && (t1100 == ((rd_T24 x6_4 0).f1) && (t1101 == ((rd_T24 x6_4 0).f2) && (t1102 == ((rd_T24 x6_4 0).f3))))) = true
            rotate_left
            · rw [if_neg c62] at H
              exact absurd H (by simp)
            rw [if_pos c62] at H
            have c62b0 : (t1099 == ((rd_T24 x6_4 0).f0) && (t1100 == ((rd_T24 x6_4 0).f1) && (t1101 == ((rd_T24 x6_4 0).f2) && (t1102 == ((rd_T24 x6_4 0).f3))))) = true := c62
            (try (have c62b1 : decide (t1099 = ((rd_T24 x6_4 0).f0) && (t1100 == ((rd_T24 x6_4 0).f1) && (t1101 == ((rd_T24 x6_4 0).f2) && (t1102 == ((rd_T24 x6_4 0).f3))))) = true := by simpa using c62))
            (try (have c62b2 : (t1099 == ((rd_T24 x6_4 0).f0) && (t1100 == ((rd_T24 x6_4 0).f1) && (t1101 == ((rd_T24 x6_4 0).f2) && (t1102 == ((rd_T24 x6_4 0).f3))))) = true := by simpa using c62))
            clear c62
            obtain rfl := Option.some.inj H
            try go_wp2
            have n0_ := Aside0.mk (Kd.R_drew HO_6.out)
            have n1_ := Aside0.mk (blk_drew BK1060.out)
            have n2_ := Aside0.mk (blk_drew BK1074.out)
            have n3_ := Aside0.mk (blk_drew BK1079.out)
            have n4_ := Aside0.mk (below_drew1 HB.out)
            clear HO_6
            clear BK1060
            clear BK1074
            clear BK1079
            clear HB
            have HO_6 := n0_
            have BK1060 := n1_
            have BK1074 := n2_
            have BK1079 := n3_
            have HB := n4_
            clear n0_ n1_ n2_ n3_ n4_
            have q64 : (1 : Int) ≤ ((x6_4.length : Int) : Int) := of_decide_eq_true (by first | (with_reducible assumption) | assumption)
            obtain ⟨i064, hi064, _, hsz64, _⟩ := info_parts info24
            have hroom64 : x6_4.length ≤ co17 := (Kd.R_reads' HO_6.out).2.1
            have hC64 : Kd.C k24 _ Ao17 x6_4.length x6_4 := (Kd.R_reads' HO_6.out).2.2
            have hcut64 := cut_to (P := Tryd.prog) 35 24 .i64 Tryd.underlying35 hi064 Ao17 x6_4.length co17 1 (by omega) q64 hroom64
            have hr64 := Kd.C_take (m := 1) hC64 (by omega)
            have hy64 : y1095.length = (1 : Int).toNat := (by rw [Ny1095.out, List.length_take]; omega)
            rw [← Ny1095.out] at hr64
            rw [← hy64] at hcut64
            have HR1098 := Aside0.mk hr64
            have HC1098 := Aside0.mk (show y1095.length ≤ co17 from by omega)
            clear hr64 hC64 hroom64 hi064 hsz64
            have KY64 := Aside0.mk hy64
            clear hy64
            have KL64 := Aside0.mk (show 1 ≤ x6_4.length from by omega)
            replace q64 := eq_true q64
            have p1103 : 0 ≤ (0 : Int) := (by omega)
            have q1103 : 0 < (x6_4.length : Int) := of_decide_eq_true (by first | (with_reducible assumption) | assumption)
            obtain ⟨ad1103, e1103, hx1103_0, hx1103_1, hx1103_2, hx1103_3⟩ := at_T24 (Kd.R_reads' HO_6.out).2.2 0 p1103 q1103
            cases e1103
            have qi1103 : (0 < x6_4.length) = True := eq_true (by omega)
            (try rw [show ((0 : Int)).toNat = 0 from rfl] at hx1103_0)
            (try rw [show 0 * 4 = 0 from rfl] at hx1103_0)
            (try rw [Addr.add_zero'] at hx1103_0)
            (try rw [show ((0 : Int)).toNat = 0 from rfl] at hx1103_1)
            (try rw [show 0 * 4 = 0 from rfl] at hx1103_1)
            (try rw [Addr.add_zero'] at hx1103_1)
            (try rw [show ((0 : Int)).toNat = 0 from rfl] at hx1103_2)
            (try rw [show 0 * 4 = 0 from rfl] at hx1103_2)
            (try rw [Addr.add_zero'] at hx1103_2)
            (try rw [show ((0 : Int)).toNat = 0 from rfl] at hx1103_3)
            (try rw [show 0 * 4 = 0 from rfl] at hx1103_3)
            (try rw [Addr.add_zero'] at hx1103_3)
            replace p1103 := eq_true p1103
            replace q1103 := eq_true q1103
            refine start_ (n := 20) (S := fun w' => w'.cell? ad1103 = some (.int .u64 ((rd_T24 x6_4 0).f0)) ∧ w'.cell? ⟨ad1103.block, ad1103.off + 1, none⟩ = some (.int .u64 ((rd_T24 x6_4 0).f1)) ∧ w'.cell? ⟨ad1103.block, ad1103.off + 2, none⟩ = some (.int .u64 ((rd_T24 x6_4 0).f2)) ∧ w'.cell? ⟨ad1103.block, ad1103.off + 3, none⟩ = some (.int .u64 ((rd_T24 x6_4 0).f3))) (ds := []) #[false, false, false, false, false, false, false, false, false, false, false, false, false, false, false, false, false, false, false, false] (by kernel_rfl) rfl rfl ⟨hx1103_0, hx1103_1, hx1103_2, hx1103_3⟩ (fun hHeld => ?_); refine with_tabW tenementlaw06_VecAll.tab20 tenementlaw06_VecAll.bits20 (fun HT_ HW_ => ?_)
            generalize wr.drew = w63 at HO_6 BK1060 BK1074 BK1079 HB HR1098 hx1103_0 hx1103_1 hx1103_2 hx1103_3 hHeld ⊢
            refine pure_ (i := 0) (N := some 68) (v := ?_) (a' := ?_) #[true, false, false, false, false, false, false, false, false, false, false, false, false, false, false, false, false, false, false, false] rfl rfl (any_of HT_.out (by kernel_rfl)) (fun _ _ _ h => h) (Or.inl ⟨by rfl, ?_⟩) ?_ ?_
            rotate_left
            · intro w'
              go_simp
              with_reducible rfl
            rotate_left
            · simp only [Act.put, List.setIfInBounds_toArray, List.set_cons_zero, List.set_cons_succ, i64_w, i32_w]
              rfl
            refine pure_ (i := 1) (N := some 69) (v := ?_) (a' := ?_) #[true, true, false, false, false, false, false, false, false, false, false, false, false, false, false, false, false, false, false, false] rfl rfl (any_of HT_.out (by kernel_rfl)) (fun _ _ _ h => h) (Or.inl ⟨by rfl, ?_⟩) ?_ ?_
            rotate_left
            · intro w'
              go_simp
              with_reducible rfl
            rotate_left
            · simp only [Act.put, List.setIfInBounds_toArray, List.set_cons_zero, List.set_cons_succ, i64_w, i32_w]
              rfl
            refine pure_ (i := 2) (N := some 70) (v := ?_) (a' := ?_) #[true, true, true, false, false, false, false, false, false, false, false, false, false, false, false, false, false, false, false, false] rfl rfl (any_of HT_.out (by kernel_rfl)) (fun _ _ _ h => h) (Or.inl ⟨by rfl, ?_⟩) ?_ ?_
            rotate_left
            · intro w'
              go_simp
              with_reducible rfl
            rotate_left
            · simp only [Act.put, List.setIfInBounds_toArray, List.set_cons_zero, List.set_cons_succ, i64_w, i32_w]
              rfl
            refine pure_ (i := 3) (N := some 71) (v := ?_) (a' := ?_) #[true, true, true, true, false, false, false, false, false, false, false, false, false, false, false, false, false, false, false, false] rfl rfl (any_of HT_.out (by kernel_rfl)) (fun _ _ _ h => h) (Or.inl ⟨by rfl, ?_⟩) ?_ ?_
            rotate_left
            · intro w'
              go_simp
              with_reducible rfl
            rotate_left
            · simp only [Act.put, List.setIfInBounds_toArray, List.set_cons_zero, List.set_cons_succ, i64_w, i32_w]
              rfl
            refine pure_ (i := 4) (N := some 72) (v := ?_) (a' := ?_) #[true, true, true, true, true, false, false, false, false, false, false, false, false, false, false, false, false, false, false, false] rfl rfl (any_of HT_.out (by kernel_rfl)) (fun _ _ _ h => h) (Or.inl ⟨by rfl, ?_⟩) ?_ ?_
            rotate_left
            · intro w'
              go_simp
              with_reducible rfl
            rotate_left
            · simp only [Act.put, List.setIfInBounds_toArray, List.set_cons_zero, List.set_cons_succ, i64_w, i32_w]
              rfl
            refine pure_ (i := 5) (N := some 73) (v := undef) (a' := ?_) #[true, true, true, true, true, true, false, false, false, false, false, false, false, false, false, false, false, false, false, false] rfl rfl (any_of HT_.out (by kernel_rfl)) (fun _ _ _ h => h) (Or.inr ⟨by rfl, rfl⟩) ?_ ?_
            rotate_left
            · simp only [Act.put, List.setIfInBounds_toArray, List.set_cons_zero, List.set_cons_succ, i64_w, i32_w]
              rfl
            refine pure_ (i := 6) (N := some 74) (v := undef) (a' := ?_) #[true, true, true, true, true, true, true, false, false, false, false, false, false, false, false, false, false, false, false, false] rfl rfl (any_of HT_.out (by kernel_rfl)) (fun _ _ _ h => h) (Or.inr ⟨by rfl, rfl⟩) ?_ ?_
            rotate_left
            · simp only [Act.put, List.setIfInBounds_toArray, List.set_cons_zero, List.set_cons_succ, i64_w, i32_w]
              rfl
            refine pure_ (i := 7) (N := some 75) (v := undef) (a' := ?_) #[true, true, true, true, true, true, true, true, false, false, false, false, false, false, false, false, false, false, false, false] rfl rfl (any_of HT_.out (by kernel_rfl)) (fun _ _ _ h => h) (Or.inr ⟨by rfl, rfl⟩) ?_ ?_
            rotate_left
            · simp only [Act.put, List.setIfInBounds_toArray, List.set_cons_zero, List.set_cons_succ, i64_w, i32_w]
              rfl
            refine pure_ (i := 8) (N := some 76) (v := ?_) (a' := ?_) #[true, true, true, true, true, true, true, true, true, false, false, false, false, false, false, false, false, false, false, false] rfl rfl (any_of HT_.out (by kernel_rfl)) (fun _ _ _ h => h) (Or.inl ⟨by rfl, ?_⟩) ?_ ?_
            rotate_left
            · intro w'
              go_simp
              with_reducible rfl
            rotate_left
            · simp only [Act.put, List.setIfInBounds_toArray, List.set_cons_zero, List.set_cons_succ, i64_w, i32_w]
              rfl
            refine pure_ (i := 9) (N := some 77) (v := ?_) (a' := ?_) #[true, true, true, true, true, true, true, true, true, true, false, false, false, false, false, false, false, false, false, false] rfl rfl (any_of HT_.out (by kernel_rfl)) (fun _ _ _ h => h) (Or.inl ⟨by rfl, ?_⟩) ?_ ?_
            rotate_left
            · intro w'
              go_simp
              with_reducible rfl
            rotate_left
            · simp only [Act.put, List.setIfInBounds_toArray, List.set_cons_zero, List.set_cons_succ, i64_w, i32_w]
              rfl
            refine pure_ (i := 10) (N := some 78) (v := ?_) (a' := ?_) #[true, true, true, true, true, true, true, true, true, true, true, false, false, false, false, false, false, false, false, false] rfl rfl (any_of HT_.out (by kernel_rfl)) (fun _ _ _ h => h) (Or.inl ⟨by rfl, ?_⟩) ?_ ?_
            rotate_left
            · intro w'
              go_simp
              with_reducible rfl
            rotate_left
            · simp only [Act.put, List.setIfInBounds_toArray, List.set_cons_zero, List.set_cons_succ, i64_w, i32_w]
              rfl
            refine pure_ (i := 11) (N := some 79) (v := ?_) (a' := ?_) #[true, true, true, true, true, true, true, true, true, true, true, true, false, false, false, false, false, false, false, false] rfl rfl (any_of HT_.out (by kernel_rfl)) (fun _ _ _ h => h) (Or.inl ⟨by rfl, ?_⟩) ?_ ?_
            rotate_left
            · intro w'
              go_simp
              with_reducible rfl
            rotate_left
            · simp only [Act.put, List.setIfInBounds_toArray, List.set_cons_zero, List.set_cons_succ, i64_w, i32_w]
              rfl
            refine pure_ (i := 12) (N := some 80) (v := ?_) (a' := ?_) #[true, true, true, true, true, true, true, true, true, true, true, true, true, false, false, false, false, false, false, false] rfl rfl (any_of HT_.out (by kernel_rfl)) (fun _ _ _ h => h) (Or.inl ⟨by rfl, ?_⟩) ?_ ?_
            rotate_left
            · intro w'
              go_simp
              with_reducible rfl
            rotate_left
            · simp only [Act.put, List.setIfInBounds_toArray, List.set_cons_zero, List.set_cons_succ, i64_w, i32_w]
              rfl
            refine pure_ (i := 14) (N := some 82) (v := ?_) (a' := ?_) #[true, true, true, true, true, true, true, true, true, true, true, true, true, false, true, false, false, false, false, false] rfl rfl (any_of HT_.out (by kernel_rfl)) (fun _ _ _ h => h) (Or.inl ⟨by rfl, ?_⟩) ?_ ?_
            rotate_left
            · intro w'
              go_simp
              with_reducible rfl
            rotate_left
            · simp only [Act.put, List.setIfInBounds_toArray, List.set_cons_zero, List.set_cons_succ, i64_w, i32_w]
              rfl
            refine pure_ (i := 15) (N := some 83) (v := ?_) (a' := ?_) #[true, true, true, true, true, true, true, true, true, true, true, true, true, false, true, true, false, false, false, false] rfl rfl (any_of HT_.out (by kernel_rfl)) (fun _ _ _ h => h) (Or.inl ⟨by rfl, ?_⟩) ?_ ?_
            rotate_left
            · intro w'
              go_simp
              with_reducible rfl
            rotate_left
            · simp only [Act.put, List.setIfInBounds_toArray, List.set_cons_zero, List.set_cons_succ, i64_w, i32_w]
              rfl
            refine take_ (i := 16) (N := some 84) (v := ?_) (a' := ?_) #[true, true, true, true, true, true, true, true, true, true, true, true, true, false, true, true, true, false, false, false] rfl rfl (take_ofW HT_.out HW_.out (by kernel_rfl)) (fun _ _ _ h => h) (Or.inl ⟨by rfl, ?_⟩) hHeld ?_ ?_
            rotate_left
            · rintro w' ⟨s0, s1, s2, s3⟩
              go_simp
              with_reducible rfl
            rotate_left
            · simp only [Act.put, List.setIfInBounds_toArray, List.set_cons_zero, List.set_cons_succ, i64_w, i32_w]
              rfl
            refine one_ (i := 13) (N := some 81) #[true, true, true, true, true, true, true, true, true, true, true, true, true, true, true, true, true, false, false, false] rfl rfl (one_of HT_.out (by kernel_rfl)) (by decide) (fun K hK => ?_)
            refine goes_ Tryd.func18 (by kernel_rfl) rfl #[.slice (some ad1103) y1095.length co17] (by rfl) rfl rfl (by (try simp only [List.map_toArray, List.map_cons, List.map_nil]); first | done | rfl | (simp only [List.length_drop, List.length_take]; rfl)) ?_
            with_reducible refine (vec_All.calls k2 _ _ y1095 t1099 t1100 t1101 t1102 _ ?side1 ?side2 A60.out).mono ?_
            (case side1 => repeat (first | exact (by repeat (first | (with_reducible exact HR1098.out) | (with_reducible refine Kd.C_alloc ?_ _) | (with_reducible refine Kd.C_drewN ?_ _) | (with_reducible refine Kd.C_drew ?_) | exact HR1098.out)) | (with_reducible refine Kd.C_alloc ?_ _) | (with_reducible refine Kd.C_drewN ?_ _) | (with_reducible refine Kd.C_drew ?_)))
            (case side2 => exact HC1098.out)
            rintro e w65 ⟨rfl, hb⟩
            have HS0_ := (hb.cell (World.block_lt_of_cell? _ _ (hHeld.1))).trans (hHeld.1)
            have HS1_ := (hb.cell (World.block_lt_of_cell? _ _ (hHeld.2.1))).trans (hHeld.2.1)
            have HS2_ := (hb.cell (World.block_lt_of_cell? _ _ (hHeld.2.2.1))).trans (hHeld.2.2.1)
            have HS3_ := (hb.cell (World.block_lt_of_cell? _ _ (hHeld.2.2.2))).trans (hHeld.2.2.2)
            refine ⟨_, rfl, ?_⟩
            have n0_ := Aside0.mk (Kd.R_below (by (with_reducible repeat (first | apply Kd.R_alloc | apply Kd.R_drewN | apply Kd.R_drew)); exact HO_6.out) hb)
            have n1_ := Aside0.mk (blk_below (g := gb1060) (o := .cells #[.int .u64 a1_0, .int .u64 a1_1, .int .u64 a1_2, .int .u64 a1_3, .bool a1_4] 26 (0, 0)) (by (with_reducible repeat (first | refine blk_drewN ?_ _ | refine blk_drew ?_ | refine blk_alloc ?_ _)); exact BK1060.out) hb)
            have n2_ := Aside0.mk (blk_below (g := gb1074) (o := .cells #[.int .u64 t1070, .int .u64 t1071, .int .u64 t1072, .int .u64 t1073] 24 (0, 0)) (by (with_reducible repeat (first | refine blk_drewN ?_ _ | refine blk_drew ?_ | refine blk_alloc ?_ _)); exact BK1074.out) hb)
            have n3_ := Aside0.mk (blk_below (g := gb1079) (o := .cells #[.int .u64 t1075, .int .u64 t1076, .int .u64 t1077, .int .u64 t1078] 24 (0, 0)) (by (with_reducible repeat (first | refine blk_drewN ?_ _ | refine blk_drew ?_ | refine blk_alloc ?_ _)); exact BK1079.out) hb)
            have n4_ := Aside0.mk (Kd.C_below (by repeat (first | (with_reducible exact HR1098.out) | (with_reducible refine Kd.C_alloc ?_ _) | (with_reducible refine Kd.C_drewN ?_ _) | (with_reducible refine Kd.C_drew ?_) | exact HR1098.out)) hb)
            have n5_ := Aside0.mk (below_step (by repeat (first | (with_reducible first | exact HB.out | apply below_alloc | apply pw_below_drewN | apply below_drew1 | refine below_set ?_ GE1060.out | refine below_set ?_ GE1074.out | refine below_set ?_ GE1079.out) | exact HB.out)) hb)
            clear HO_6
            clear BK1060
            clear BK1074
            clear BK1079
            clear HR1098
            clear HB
            have HO_6 := n0_
            have BK1060 := n1_
            have BK1074 := n2_
            have BK1079 := n3_
            have HR1098 := n4_
            have HB := n5_
            clear n0_ n1_ n2_ n3_ n4_ n5_
            (try clear hb)
            (try clear hb2)
            (try clear hk)
            (try clear hi)
            refine hK.out _ _ ⟨HS0_, HS1_, HS2_, HS3_⟩ (fun hHeld => ?_)
            clear hK K
            refine norm_ (a' := ?_) ?_ ?_
            rotate_left
            · show Act.put _ (some 81) _ = _
              simp only [Act.put, List.setIfInBounds_toArray, List.set_cons_zero, List.set_cons_succ, i64_w, i32_w]
              rfl
            refine pure_ (i := 17) (N := some 85) (v := ?_) (a' := ?_) #[true, true, true, true, true, true, true, true, true, true, true, true, true, true, true, true, true, true, false, false] rfl rfl (any_of HT_.out (by kernel_rfl)) (fun _ _ _ h => h) (Or.inl ⟨by rfl, ?_⟩) ?_ ?_
            rotate_left
            · intro w'
              go_simp
              with_reducible rfl
            rotate_left
            · simp only [Act.put, List.setIfInBounds_toArray, List.set_cons_zero, List.set_cons_succ, i64_w, i32_w]
              rfl
            refine pure_ (i := 18) (N := some 86) (v := ?_) (a' := ?_) #[true, true, true, true, true, true, true, true, true, true, true, true, true, true, true, true, true, true, true, false] rfl rfl (any_of HT_.out (by kernel_rfl)) (fun _ _ _ h => h) (Or.inl ⟨by rfl, ?_⟩) ?_ ?_
            rotate_left
            · intro w'
              go_simp
              with_reducible rfl
            rotate_left
            · simp only [Act.put, List.setIfInBounds_toArray, List.set_cons_zero, List.set_cons_succ, i64_w, i32_w]
              rfl
            refine pure_ (i := 19) (N := some 4) (v := ?_) (a' := ?_) #[true, true, true, true, true, true, true, true, true, true, true, true, true, true, true, true, true, true, true, true] rfl rfl (any_of HT_.out (by kernel_rfl)) (fun _ _ _ h => h) (Or.inl ⟨by rfl, ?_⟩) ?_ ?_
            rotate_left
            · intro w'
              go_simp
              with_reducible rfl
            rotate_left
            · simp only [Act.put, List.setIfInBounds_toArray, List.set_cons_zero, List.set_cons_succ, i64_w, i32_w]
              rfl
            refine done_ (done_of HT_.out (by kernel_rfl)) ?_
            try go_wp2
            go_ret
            exact ⟨by first | rfl | (simp [errW_none, errW_some] <;> rfl) | (simp [*, errW_none, errW_some] <;> rfl), by repeat (first | (with_reducible first | exact HB.out | apply below_alloc | apply pw_below_drewN | apply below_drew1 | refine below_set ?_ GE1060.out | refine below_set ?_ GE1074.out | refine below_set ?_ GE1079.out) | exact HB.out)⟩
          subst c48
          have H1 : ((vec_Leq.f t1075 t1076 t1077 t1078 t1070 t1071 t1072 t1073).bind fun t1085 => (if t1085 = true then (if 1 ≤ (x6_4.length : Int) then ((vec_All.f k2 (x6_4.take 1)).bind fun bt1090 => (if 0 < (x6_4.length : Int) then (if (bt1090.1 == ((rd_T24 x6_4 0).f0) && (bt1090.2.1 == ((rd_T24 x6_4 0).f1) && (bt1090.2.2.1 == ((rd_T24 x6_4 0).f2) && (bt1090.2.2.2 == ((rd_T24 x6_4 0).f3))))) = true then (some true) else (none)) else (none))) else (none)) else (none))) = some r := by rw [if_pos rfl] at H; exact H
          clear H
          have H := H1
          clear H1
          replace H := Option.bind_eq_some_iff.mp H
          obtain ⟨t1085, A490, H⟩ := H
          replace H : (if t1085 = true then (if 1 ≤ (x6_4.length : Int) then ((vec_All.f k2 (x6_4.take 1)).bind fun bt1090 => (if 0 < (x6_4.length : Int) then (if (bt1090.1 == ((rd_T24 x6_4 0).f0) && (bt1090.2.1 == ((rd_T24 x6_4 0).f1) && (bt1090.2.2.1 == ((rd_T24 x6_4 0).f2) && (bt1090.2.2.2 == ((rd_T24 x6_4 0).f3))))) = true then (some true) else (none)) else (none))) else (none)) else (none)) = some r := H
          have A49 := Aside0.mk A490
          clear A490
          by_cases c50 : t1085 = true
          rotate_left
          · replace c50 := Bool.eq_false_iff.mpr c50
            subst c50
            have H1 : (none) = some r := by rw [if_neg (show ¬ (false = true) by decide)] at H; exact H
            clear H
            have H := H1
            clear H1
            exact absurd H (by simp)
          subst c50
          have H1 : (if 1 ≤ (x6_4.length : Int) then ((vec_All.f k2 (x6_4.take 1)).bind fun bt1090 => (if 0 < (x6_4.length : Int) then (if (bt1090.1 == ((rd_T24 x6_4 0).f0) && (bt1090.2.1 == ((rd_T24 x6_4 0).f1) && (bt1090.2.2.1 == ((rd_T24 x6_4 0).f2) && (bt1090.2.2.2 == ((rd_T24 x6_4 0).f3))))) = true then (some true) else (none)) else (none))) else (none)) = some r := by rw [if_pos rfl] at H; exact H
          clear H
          have H := H1
          clear H1
          by_cases c51 : 1 ≤ (x6_4.length : Int)
          rotate_left
          · rw [if_neg c51] at H
            exact absurd H (by simp)
          rw [if_pos c51] at H
          have c51b0 := eq_true c51
          have c51b1 : decide (1 ≤ (x6_4.length : Int)) = true := decide_eq_true c51
          clear c51
          obtain ⟨y1086, hy1086⟩ : ∃ y_ : List (S24), y_ = (x6_4.take 1) := ⟨_, rfl⟩
          replace H : ((vec_All.f k2 y1086).bind fun bt1090 => (if 0 < (x6_4.length : Int) then (if (bt1090.1 == ((rd_T24 x6_4 0).f0) && (bt1090.2.1 == ((rd_T24 x6_4 0).f1) && (bt1090.2.2.1 == ((rd_T24 x6_4 0).f2) && (bt1090.2.2.2 == ((rd_T24 x6_4 0).f3))))) = true then (some true) else (none)) else (none))) = some r := by first | (rw [hy1086]; with_reducible exact H) | (have H2_ := (Option.bind_some _ _).symm.trans H; rw [hy1086]; with_reducible exact H2_) | (have H2_ := (Option.bind_some _ _).symm.trans H; with_reducible exact H2_) | with_reducible exact H | (rw [hy1086]; exact H) | exact H
          have Ny1086 := Aside0.mk hy1086
          clear hy1086
          replace H := Option.bind_eq_some_iff.mp H
          obtain ⟨⟨t1090, t1091, t1092, t1093⟩, A520, H⟩ := H
          replace H : (if 0 < (x6_4.length : Int) then (if (t1090 == ((rd_T24 x6_4 0).f0) && (t1091 == ((rd_T24 x6_4 0).f1) && (t1092 == ((rd_T24 x6_4 0).f2) && (t1093 == ((rd_T24 x6_4 0).f3))))) = true then (some true) else (none)) else (none)) = some r := H
          have A52 := Aside0.mk A520
          clear A520
          by_cases c53 : 0 < (x6_4.length : Int)
          rotate_left
          · rw [if_neg c53] at H
            exact absurd H (by simp)
          rw [if_pos c53] at H
          have c53b0 : decide (0 < (x6_4.length : Int)) = true := decide_eq_true c53
          have c53b1 : decide (0 < x6_4.length) = true := decide_eq_true (by omega)
          clear c53
          by_cases c54 : (t1090 == ((rd_T24 x6_4 0).f0) && (t1091 == ((rd_T24 x6_4 0).f1) && (t1092 == ((rd_T24 x6_4 0).f2) && (t1093 == ((rd_T24 x6_4 0).f3))))) = true
          rotate_left
          · rw [if_neg c54] at H
            exact absurd H (by simp)
          rw [if_pos c54] at H
          have c54b0 : (t1090 == ((rd_T24 x6_4 0).f0) && (t1091 == ((rd_T24 x6_4 0).f1) && (t1092 == ((rd_T24 x6_4 0).f2) && (t1093 == ((rd_T24 x6_4 0).f3))))) = true := c54
          (try (have c54b1 : decide (t1090 = ((rd_T24 x6_4 0).f0) && (t1091 == ((rd_T24 x6_4 0).f1) && (t1092 == ((rd_T24 x6_4 0).f2) && (t1093 == ((rd_T24 x6_4 0).f3))))) = true := by simpa using c54))
          (try (have c54b2 : (t1090 == ((rd_T24 x6_4 0).f0) && (t1091 == ((rd_T24 x6_4 0).f1) && (t1092 == ((rd_T24 x6_4 0).f2) && (t1093 == ((rd_T24 x6_4 0).f3))))) = true := by simpa using c54))
          clear c54
          obtain rfl := Option.some.inj H
          try go_wp2
          have n0_ := Aside0.mk (Kd.R_drew HO_6.out)
          have n1_ := Aside0.mk (blk_drew BK1060.out)
          have n2_ := Aside0.mk (blk_drew BK1074.out)
          have n3_ := Aside0.mk (blk_drew BK1079.out)
          have n4_ := Aside0.mk (below_drew1 HB.out)
          clear HO_6
          clear BK1060
          clear BK1074
          clear BK1079
          clear HB
          have HO_6 := n0_
          have BK1060 := n1_
          have BK1074 := n2_
          have BK1079 := n3_
          have HB := n4_
          clear n0_ n1_ n2_ n3_ n4_
          have p1094 : 0 ≤ (0 : Int) := (by omega)
          have q1094 : 0 < (x6_4.length : Int) := of_decide_eq_true (by first | (with_reducible assumption) | assumption)
          obtain ⟨ad1094, e1094, hx1094_0, hx1094_1, hx1094_2, hx1094_3⟩ := at_T24 (Kd.R_reads' HO_6.out).2.2 0 p1094 q1094
          cases e1094
          have qi1094 : (0 < x6_4.length) = True := eq_true (by omega)
          (try rw [show ((0 : Int)).toNat = 0 from rfl] at hx1094_0)
          (try rw [show 0 * 4 = 0 from rfl] at hx1094_0)
          (try rw [Addr.add_zero'] at hx1094_0)
          (try rw [show ((0 : Int)).toNat = 0 from rfl] at hx1094_1)
          (try rw [show 0 * 4 = 0 from rfl] at hx1094_1)
          (try rw [Addr.add_zero'] at hx1094_1)
          (try rw [show ((0 : Int)).toNat = 0 from rfl] at hx1094_2)
          (try rw [show 0 * 4 = 0 from rfl] at hx1094_2)
          (try rw [Addr.add_zero'] at hx1094_2)
          (try rw [show ((0 : Int)).toNat = 0 from rfl] at hx1094_3)
          (try rw [show 0 * 4 = 0 from rfl] at hx1094_3)
          (try rw [Addr.add_zero'] at hx1094_3)
          replace p1094 := eq_true p1094
          replace q1094 := eq_true q1094
          refine start_ (n := 20) (S := fun w' => w'.cell? ⟨gb1079, 0, none⟩ = some (.int .u64 t1075) ∧ w'.cell? ⟨gb1079, 1, none⟩ = some (.int .u64 t1076) ∧ w'.cell? ⟨gb1079, 2, none⟩ = some (.int .u64 t1077) ∧ w'.cell? ⟨gb1079, 3, none⟩ = some (.int .u64 t1078) ∧ w'.cell? ⟨gb1074, 0, none⟩ = some (.int .u64 t1070) ∧ w'.cell? ⟨gb1074, 1, none⟩ = some (.int .u64 t1071) ∧ w'.cell? ⟨gb1074, 2, none⟩ = some (.int .u64 t1072) ∧ w'.cell? ⟨gb1074, 3, none⟩ = some (.int .u64 t1073) ∧ w'.cell? ad1094 = some (.int .u64 ((rd_T24 x6_4 0).f0)) ∧ w'.cell? ⟨ad1094.block, ad1094.off + 1, none⟩ = some (.int .u64 ((rd_T24 x6_4 0).f1)) ∧ w'.cell? ⟨ad1094.block, ad1094.off + 2, none⟩ = some (.int .u64 ((rd_T24 x6_4 0).f2)) ∧ w'.cell? ⟨ad1094.block, ad1094.off + 3, none⟩ = some (.int .u64 ((rd_T24 x6_4 0).f3))) (ds := []) #[false, false, false, false, false, false, false, false, false, false, false, false, false, false, false, false, false, false, false, false] (by kernel_rfl) rfl rfl ⟨(blk_cell BK1079.out 0).trans rfl, (blk_cell BK1079.out 1).trans rfl, (blk_cell BK1079.out 2).trans rfl, (blk_cell BK1079.out 3).trans rfl, (blk_cell BK1074.out 0).trans rfl, (blk_cell BK1074.out 1).trans rfl, (blk_cell BK1074.out 2).trans rfl, (blk_cell BK1074.out 3).trans rfl, hx1094_0, hx1094_1, hx1094_2, hx1094_3⟩ (fun hHeld => ?_); refine with_tabW tenementlaw06_VecAll.tab20 tenementlaw06_VecAll.bits20 (fun HT_ HW_ => ?_)
          generalize wr.drew = w55 at HO_6 BK1060 BK1074 BK1079 HB hx1094_0 hx1094_1 hx1094_2 hx1094_3 hHeld ⊢
          refine pure_ (i := 0) (N := some 68) (v := ?_) (a' := ?_) #[true, false, false, false, false, false, false, false, false, false, false, false, false, false, false, false, false, false, false, false] rfl rfl (any_of HT_.out (by kernel_rfl)) (fun _ _ _ h => h) (Or.inl ⟨by rfl, ?_⟩) ?_ ?_
          rotate_left
          · intro w'
            go_simp
            with_reducible rfl
          rotate_left
          · simp only [Act.put, List.setIfInBounds_toArray, List.set_cons_zero, List.set_cons_succ, i64_w, i32_w]
            rfl
          refine pure_ (i := 1) (N := some 69) (v := ?_) (a' := ?_) #[true, true, false, false, false, false, false, false, false, false, false, false, false, false, false, false, false, false, false, false] rfl rfl (any_of HT_.out (by kernel_rfl)) (fun _ _ _ h => h) (Or.inl ⟨by rfl, ?_⟩) ?_ ?_
          rotate_left
          · intro w'
            go_simp
            with_reducible rfl
          rotate_left
          · simp only [Act.put, List.setIfInBounds_toArray, List.set_cons_zero, List.set_cons_succ, i64_w, i32_w]
            rfl
          refine pure_ (i := 2) (N := some 70) (v := ?_) (a' := ?_) #[true, true, true, false, false, false, false, false, false, false, false, false, false, false, false, false, false, false, false, false] rfl rfl (any_of HT_.out (by kernel_rfl)) (fun _ _ _ h => h) (Or.inl ⟨by rfl, ?_⟩) ?_ ?_
          rotate_left
          · intro w'
            go_simp
            with_reducible rfl
          rotate_left
          · simp only [Act.put, List.setIfInBounds_toArray, List.set_cons_zero, List.set_cons_succ, i64_w, i32_w]
            rfl
          refine pure_ (i := 3) (N := some 71) (v := ?_) (a' := ?_) #[true, true, true, true, false, false, false, false, false, false, false, false, false, false, false, false, false, false, false, false] rfl rfl (any_of HT_.out (by kernel_rfl)) (fun _ _ _ h => h) (Or.inl ⟨by rfl, ?_⟩) ?_ ?_
          rotate_left
          · intro w'
            go_simp
            with_reducible rfl
          rotate_left
          · simp only [Act.put, List.setIfInBounds_toArray, List.set_cons_zero, List.set_cons_succ, i64_w, i32_w]
            rfl
          refine pure_ (i := 4) (N := some 72) (v := ?_) (a' := ?_) #[true, true, true, true, true, false, false, false, false, false, false, false, false, false, false, false, false, false, false, false] rfl rfl (any_of HT_.out (by kernel_rfl)) (fun _ _ _ h => h) (Or.inl ⟨by rfl, ?_⟩) ?_ ?_
          rotate_left
          · intro w'
            go_simp
            with_reducible rfl
          rotate_left
          · simp only [Act.put, List.setIfInBounds_toArray, List.set_cons_zero, List.set_cons_succ, i64_w, i32_w]
            rfl
          refine take_ (i := 5) (N := some 73) (v := ?_) (a' := ?_) #[true, true, true, true, true, true, false, false, false, false, false, false, false, false, false, false, false, false, false, false] rfl rfl (take_ofW HT_.out HW_.out (by kernel_rfl)) (fun _ _ _ h => h) (Or.inl ⟨by rfl, ?_⟩) hHeld ?_ ?_
          rotate_left
          · rintro w' ⟨s0, s1, s2, s3, s4, s5, s6, s7, s8, s9, s10, s11⟩
            go_simp
            with_reducible rfl
          rotate_left
          · simp only [Act.put, List.setIfInBounds_toArray, List.set_cons_zero, List.set_cons_succ, i64_w, i32_w]
            rfl
          refine take_ (i := 6) (N := some 74) (v := ?_) (a' := ?_) #[true, true, true, true, true, true, true, false, false, false, false, false, false, false, false, false, false, false, false, false] rfl rfl (take_ofW HT_.out HW_.out (by kernel_rfl)) (fun _ _ _ h => h) (Or.inl ⟨by rfl, ?_⟩) hHeld ?_ ?_
          rotate_left
          · rintro w' ⟨s0, s1, s2, s3, s4, s5, s6, s7, s8, s9, s10, s11⟩
            go_simp
            with_reducible rfl
          rotate_left
          · simp only [Act.put, List.setIfInBounds_toArray, List.set_cons_zero, List.set_cons_succ, i64_w, i32_w]
            rfl
          refine one_ (i := 7) (N := some 75) #[true, true, true, true, true, true, true, true, false, false, false, false, false, false, false, false, false, false, false, false] rfl rfl (one_of HT_.out (by kernel_rfl)) (by decide) (fun K hK => ?_)
          refine goes_ Tryd.func22 (by kernel_rfl) rfl #[.agg #[.int .u64 t1075, .int .u64 t1076, .int .u64 t1077, .int .u64 t1078], .agg #[.int .u64 t1070, .int .u64 t1071, .int .u64 t1072, .int .u64 t1073]] (by rfl) rfl rfl (by (try simp only [List.map_toArray, List.map_cons, List.map_nil]); first | done | rfl | (simp only [List.length_drop, List.length_take]; rfl)) ?_
          with_reducible refine (vec_Leq.calls t1075 t1076 t1077 t1078 t1070 t1071 t1072 t1073 true _ A49.out).mono ?_
          rintro e w56 ⟨rfl, hb⟩
          have HS8_ := (hb.cell (World.block_lt_of_cell? _ _ (hHeld.2.2.2.2.2.2.2.2.1))).trans (hHeld.2.2.2.2.2.2.2.2.1)
          have HS9_ := (hb.cell (World.block_lt_of_cell? _ _ (hHeld.2.2.2.2.2.2.2.2.2.1))).trans (hHeld.2.2.2.2.2.2.2.2.2.1)
          have HS10_ := (hb.cell (World.block_lt_of_cell? _ _ (hHeld.2.2.2.2.2.2.2.2.2.2.1))).trans (hHeld.2.2.2.2.2.2.2.2.2.2.1)
          have HS11_ := (hb.cell (World.block_lt_of_cell? _ _ (hHeld.2.2.2.2.2.2.2.2.2.2.2))).trans (hHeld.2.2.2.2.2.2.2.2.2.2.2)
          refine ⟨_, rfl, ?_⟩
          have n0_ := Aside0.mk (Kd.R_below (by (with_reducible repeat (first | apply Kd.R_alloc | apply Kd.R_drewN | apply Kd.R_drew)); exact HO_6.out) hb)
          have n1_ := Aside0.mk (blk_below (g := gb1060) (o := .cells #[.int .u64 a1_0, .int .u64 a1_1, .int .u64 a1_2, .int .u64 a1_3, .bool a1_4] 26 (0, 0)) (by (with_reducible repeat (first | refine blk_drewN ?_ _ | refine blk_drew ?_ | refine blk_alloc ?_ _)); exact BK1060.out) hb)
          have n2_ := Aside0.mk (blk_below (g := gb1074) (o := .cells #[.int .u64 t1070, .int .u64 t1071, .int .u64 t1072, .int .u64 t1073] 24 (0, 0)) (by (with_reducible repeat (first | refine blk_drewN ?_ _ | refine blk_drew ?_ | refine blk_alloc ?_ _)); exact BK1074.out) hb)
          have n3_ := Aside0.mk (blk_below (g := gb1079) (o := .cells #[.int .u64 t1075, .int .u64 t1076, .int .u64 t1077, .int .u64 t1078] 24 (0, 0)) (by (with_reducible repeat (first | refine blk_drewN ?_ _ | refine blk_drew ?_ | refine blk_alloc ?_ _)); exact BK1079.out) hb)
          have n4_ := Aside0.mk (below_step (by repeat (first | (with_reducible first | exact HB.out | apply below_alloc | apply pw_below_drewN | apply below_drew1 | refine below_set ?_ GE1060.out | refine below_set ?_ GE1074.out | refine below_set ?_ GE1079.out) | exact HB.out)) hb)
          clear HO_6
          clear BK1060
          clear BK1074
          clear BK1079
          clear HB
          have HO_6 := n0_
          have BK1060 := n1_
          have BK1074 := n2_
          have BK1079 := n3_
          have HB := n4_
          clear n0_ n1_ n2_ n3_ n4_
          (try clear hb)
          (try clear hb2)
          (try clear hk)
          (try clear hi)
          have q57 : (1 : Int) ≤ ((x6_4.length : Int) : Int) := of_decide_eq_true (by first | (with_reducible assumption) | assumption)
          obtain ⟨i057, hi057, _, hsz57, _⟩ := info_parts info24
          have hroom57 : x6_4.length ≤ co17 := (Kd.R_reads' HO_6.out).2.1
          have hC57 : Kd.C k24 _ (some ad1094) x6_4.length x6_4 := (Kd.R_reads' HO_6.out).2.2
          have hcut57 := cut_to (P := Tryd.prog) 35 24 .i64 Tryd.underlying35 hi057 (some ad1094) x6_4.length co17 1 (by omega) q57 hroom57
          have hr57 := Kd.C_take (m := 1) hC57 (by omega)
          have hy57 : y1086.length = (1 : Int).toNat := (by rw [Ny1086.out, List.length_take]; omega)
          rw [← Ny1086.out] at hr57
          rw [← hy57] at hcut57
          have HR1089 := Aside0.mk hr57
          have HC1089 := Aside0.mk (show y1086.length ≤ co17 from by omega)
          clear hr57 hC57 hroom57 hi057 hsz57
          have KY57 := Aside0.mk hy57
          clear hy57
          have KL57 := Aside0.mk (show 1 ≤ x6_4.length from by omega)
          replace q57 := eq_true q57
          refine hK.out _ _ ⟨(blk_cell BK1079.out 0).trans rfl, (blk_cell BK1079.out 1).trans rfl, (blk_cell BK1079.out 2).trans rfl, (blk_cell BK1079.out 3).trans rfl, (blk_cell BK1074.out 0).trans rfl, (blk_cell BK1074.out 1).trans rfl, (blk_cell BK1074.out 2).trans rfl, (blk_cell BK1074.out 3).trans rfl, HS8_, HS9_, HS10_, HS11_⟩ (fun hHeld => ?_)
          clear hK K
          refine norm_ (a' := ?_) ?_ ?_
          rotate_left
          · show Act.put _ (some 75) _ = _
            simp only [Act.put, List.setIfInBounds_toArray, List.set_cons_zero, List.set_cons_succ, i64_w, i32_w]
            rfl
          refine pure_ (i := 8) (N := some 76) (v := ?_) (a' := ?_) #[true, true, true, true, true, true, true, true, true, false, false, false, false, false, false, false, false, false, false, false] rfl rfl (any_of HT_.out (by kernel_rfl)) (fun _ _ _ h => h) (Or.inl ⟨by rfl, ?_⟩) ?_ ?_
          rotate_left
          · intro w'
            go_simp
            with_reducible rfl
          rotate_left
          · simp only [Act.put, List.setIfInBounds_toArray, List.set_cons_zero, List.set_cons_succ, i64_w, i32_w]
            rfl
          refine pure_ (i := 9) (N := some 77) (v := ?_) (a' := ?_) #[true, true, true, true, true, true, true, true, true, true, false, false, false, false, false, false, false, false, false, false] rfl rfl (any_of HT_.out (by kernel_rfl)) (fun _ _ _ h => h) (Or.inl ⟨by rfl, ?_⟩) ?_ ?_
          rotate_left
          · intro w'
            go_simp
            with_reducible rfl
          rotate_left
          · simp only [Act.put, List.setIfInBounds_toArray, List.set_cons_zero, List.set_cons_succ, i64_w, i32_w]
            rfl
          refine pure_ (i := 10) (N := some 78) (v := ?_) (a' := ?_) #[true, true, true, true, true, true, true, true, true, true, true, false, false, false, false, false, false, false, false, false] rfl rfl (any_of HT_.out (by kernel_rfl)) (fun _ _ _ h => h) (Or.inl ⟨by rfl, ?_⟩) ?_ ?_
          rotate_left
          · intro w'
            go_simp
            with_reducible rfl
          rotate_left
          · simp only [Act.put, List.setIfInBounds_toArray, List.set_cons_zero, List.set_cons_succ, i64_w, i32_w]
            rfl
          refine pure_ (i := 11) (N := some 79) (v := ?_) (a' := ?_) #[true, true, true, true, true, true, true, true, true, true, true, true, false, false, false, false, false, false, false, false] rfl rfl (any_of HT_.out (by kernel_rfl)) (fun _ _ _ h => h) (Or.inl ⟨by rfl, ?_⟩) ?_ ?_
          rotate_left
          · intro w'
            go_simp
            with_reducible rfl
          rotate_left
          · simp only [Act.put, List.setIfInBounds_toArray, List.set_cons_zero, List.set_cons_succ, i64_w, i32_w]
            rfl
          refine pure_ (i := 12) (N := some 80) (v := ?_) (a' := ?_) #[true, true, true, true, true, true, true, true, true, true, true, true, true, false, false, false, false, false, false, false] rfl rfl (any_of HT_.out (by kernel_rfl)) (fun _ _ _ h => h) (Or.inl ⟨by rfl, ?_⟩) ?_ ?_
          rotate_left
          · intro w'
            go_simp
            with_reducible rfl
          rotate_left
          · simp only [Act.put, List.setIfInBounds_toArray, List.set_cons_zero, List.set_cons_succ, i64_w, i32_w]
            rfl
          refine pure_ (i := 14) (N := some 82) (v := ?_) (a' := ?_) #[true, true, true, true, true, true, true, true, true, true, true, true, true, false, true, false, false, false, false, false] rfl rfl (any_of HT_.out (by kernel_rfl)) (fun _ _ _ h => h) (Or.inl ⟨by rfl, ?_⟩) ?_ ?_
          rotate_left
          · intro w'
            go_simp
            with_reducible rfl
          rotate_left
          · simp only [Act.put, List.setIfInBounds_toArray, List.set_cons_zero, List.set_cons_succ, i64_w, i32_w]
            rfl
          refine pure_ (i := 15) (N := some 83) (v := ?_) (a' := ?_) #[true, true, true, true, true, true, true, true, true, true, true, true, true, false, true, true, false, false, false, false] rfl rfl (any_of HT_.out (by kernel_rfl)) (fun _ _ _ h => h) (Or.inl ⟨by rfl, ?_⟩) ?_ ?_
          rotate_left
          · intro w'
            go_simp
            with_reducible rfl
          rotate_left
          · simp only [Act.put, List.setIfInBounds_toArray, List.set_cons_zero, List.set_cons_succ, i64_w, i32_w]
            rfl
          refine take_ (i := 16) (N := some 84) (v := ?_) (a' := ?_) #[true, true, true, true, true, true, true, true, true, true, true, true, true, false, true, true, true, false, false, false] rfl rfl (take_ofW HT_.out HW_.out (by kernel_rfl)) (fun _ _ _ h => h) (Or.inl ⟨by rfl, ?_⟩) hHeld ?_ ?_
          rotate_left
          · rintro w' ⟨s0, s1, s2, s3, s4, s5, s6, s7, s8, s9, s10, s11⟩
            go_simp
            with_reducible rfl
          rotate_left
          · simp only [Act.put, List.setIfInBounds_toArray, List.set_cons_zero, List.set_cons_succ, i64_w, i32_w]
            rfl
          refine one_ (i := 13) (N := some 81) #[true, true, true, true, true, true, true, true, true, true, true, true, true, true, true, true, true, false, false, false] rfl rfl (one_of HT_.out (by kernel_rfl)) (by decide) (fun K hK => ?_)
          refine goes_ Tryd.func18 (by kernel_rfl) rfl #[.slice (some ad1094) y1086.length co17] (by rfl) rfl rfl (by (try simp only [List.map_toArray, List.map_cons, List.map_nil]); first | done | rfl | (simp only [List.length_drop, List.length_take]; rfl)) ?_
          with_reducible refine (vec_All.calls k2 _ _ y1086 t1090 t1091 t1092 t1093 _ ?side1 ?side2 A52.out).mono ?_
          (case side1 => repeat (first | exact (by repeat (first | (with_reducible exact HR1089.out) | (with_reducible refine Kd.C_alloc ?_ _) | (with_reducible refine Kd.C_drewN ?_ _) | (with_reducible refine Kd.C_drew ?_) | exact HR1089.out)) | (with_reducible refine Kd.C_alloc ?_ _) | (with_reducible refine Kd.C_drewN ?_ _) | (with_reducible refine Kd.C_drew ?_)))
          (case side2 => exact HC1089.out)
          rintro e w58 ⟨rfl, hb⟩
          have HS8_ := (hb.cell (World.block_lt_of_cell? _ _ (hHeld.2.2.2.2.2.2.2.2.1))).trans (hHeld.2.2.2.2.2.2.2.2.1)
          have HS9_ := (hb.cell (World.block_lt_of_cell? _ _ (hHeld.2.2.2.2.2.2.2.2.2.1))).trans (hHeld.2.2.2.2.2.2.2.2.2.1)
          have HS10_ := (hb.cell (World.block_lt_of_cell? _ _ (hHeld.2.2.2.2.2.2.2.2.2.2.1))).trans (hHeld.2.2.2.2.2.2.2.2.2.2.1)
          have HS11_ := (hb.cell (World.block_lt_of_cell? _ _ (hHeld.2.2.2.2.2.2.2.2.2.2.2))).trans (hHeld.2.2.2.2.2.2.2.2.2.2.2)
          refine ⟨_, rfl, ?_⟩
          have n0_ := Aside0.mk (Kd.R_below (by (with_reducible repeat (first | apply Kd.R_alloc | apply Kd.R_drewN | apply Kd.R_drew)); exact HO_6.out) hb)
          have n1_ := Aside0.mk (blk_below (g := gb1060) (o := .cells #[.int .u64 a1_0, .int .u64 a1_1, .int .u64 a1_2, .int .u64 a1_3, .bool a1_4] 26 (0, 0)) (by (with_reducible repeat (first | refine blk_drewN ?_ _ | refine blk_drew ?_ | refine blk_alloc ?_ _)); exact BK1060.out) hb)
          have n2_ := Aside0.mk (blk_below (g := gb1074) (o := .cells #[.int .u64 t1070, .int .u64 t1071, .int .u64 t1072, .int .u64 t1073] 24 (0, 0)) (by (with_reducible repeat (first | refine blk_drewN ?_ _ | refine blk_drew ?_ | refine blk_alloc ?_ _)); exact BK1074.out) hb)
          have n3_ := Aside0.mk (blk_below (g := gb1079) (o := .cells #[.int .u64 t1075, .int .u64 t1076, .int .u64 t1077, .int .u64 t1078] 24 (0, 0)) (by (with_reducible repeat (first | refine blk_drewN ?_ _ | refine blk_drew ?_ | refine blk_alloc ?_ _)); exact BK1079.out) hb)
          have n4_ := Aside0.mk (Kd.C_below (by repeat (first | (with_reducible exact HR1089.out) | (with_reducible refine Kd.C_alloc ?_ _) | (with_reducible refine Kd.C_drewN ?_ _) | (with_reducible refine Kd.C_drew ?_) | exact HR1089.out)) hb)
          have n5_ := Aside0.mk (below_step (by repeat (first | (with_reducible first | exact HB.out | apply below_alloc | apply pw_below_drewN | apply below_drew1 | refine below_set ?_ GE1060.out | refine below_set ?_ GE1074.out | refine below_set ?_ GE1079.out) | exact HB.out)) hb)
          clear HO_6
          clear BK1060
          clear BK1074
          clear BK1079
          clear HR1089
          clear HB
          have HO_6 := n0_
          have BK1060 := n1_
          have BK1074 := n2_
          have BK1079 := n3_
          have HR1089 := n4_
          have HB := n5_
          clear n0_ n1_ n2_ n3_ n4_ n5_
          (try clear hb)
          (try clear hb2)
          (try clear hk)
          (try clear hi)
          refine hK.out _ _ ⟨(blk_cell BK1079.out 0).trans rfl, (blk_cell BK1079.out 1).trans rfl, (blk_cell BK1079.out 2).trans rfl, (blk_cell BK1079.out 3).trans rfl, (blk_cell BK1074.out 0).trans rfl, (blk_cell BK1074.out 1).trans rfl, (blk_cell BK1074.out 2).trans rfl, (blk_cell BK1074.out 3).trans rfl, HS8_, HS9_, HS10_, HS11_⟩ (fun hHeld => ?_)
          clear hK K
          refine norm_ (a' := ?_) ?_ ?_
          rotate_left
          · show Act.put _ (some 81) _ = _
            simp only [Act.put, List.setIfInBounds_toArray, List.set_cons_zero, List.set_cons_succ, i64_w, i32_w]
            rfl
          refine pure_ (i := 17) (N := some 85) (v := ?_) (a' := ?_) #[true, true, true, true, true, true, true, true, true, true, true, true, true, true, true, true, true, true, false, false] rfl rfl (any_of HT_.out (by kernel_rfl)) (fun _ _ _ h => h) (Or.inl ⟨by rfl, ?_⟩) ?_ ?_
          rotate_left
          · intro w'
            go_simp
            with_reducible rfl
          rotate_left
          · simp only [Act.put, List.setIfInBounds_toArray, List.set_cons_zero, List.set_cons_succ, i64_w, i32_w]
            rfl
          refine pure_ (i := 18) (N := some 86) (v := ?_) (a' := ?_) #[true, true, true, true, true, true, true, true, true, true, true, true, true, true, true, true, true, true, true, false] rfl rfl (any_of HT_.out (by kernel_rfl)) (fun _ _ _ h => h) (Or.inl ⟨by rfl, ?_⟩) ?_ ?_
          rotate_left
          · intro w'
            go_simp
            with_reducible rfl
          rotate_left
          · simp only [Act.put, List.setIfInBounds_toArray, List.set_cons_zero, List.set_cons_succ, i64_w, i32_w]
            rfl
          refine pure_ (i := 19) (N := some 4) (v := ?_) (a' := ?_) #[true, true, true, true, true, true, true, true, true, true, true, true, true, true, true, true, true, true, true, true] rfl rfl (any_of HT_.out (by kernel_rfl)) (fun _ _ _ h => h) (Or.inl ⟨by rfl, ?_⟩) ?_ ?_
          rotate_left
          · intro w'
            go_simp
            with_reducible rfl
          rotate_left
          · simp only [Act.put, List.setIfInBounds_toArray, List.set_cons_zero, List.set_cons_succ, i64_w, i32_w]
            rfl
          refine done_ (done_of HT_.out (by kernel_rfl)) ?_
          try go_wp2
          go_ret
          exact ⟨by first | rfl | (simp [errW_none, errW_some] <;> rfl) | (simp [*, errW_none, errW_some] <;> rfl), by repeat (first | (with_reducible first | exact HB.out | apply below_alloc | apply pw_below_drewN | apply below_drew1 | refine below_set ?_ GE1060.out | refine below_set ?_ GE1074.out | refine below_set ?_ GE1079.out) | exact HB.out)⟩

end Go.Proofs.YtakhahfegialfaaDoor.Q
