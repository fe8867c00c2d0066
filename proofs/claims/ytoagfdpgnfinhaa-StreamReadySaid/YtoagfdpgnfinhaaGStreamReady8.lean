import Derived.Test.YtoagfdpgnfinhaaQx0
import Derived.Test.YtoagfdpgnfinhaaGStreamReady0
import Derived.Test.YtoagfdpgnfinhaaGStreamReady7
import Derived.Test.YtoagfdpgnfinhaaGStreamReady3
namespace Go.Proofs.Ytoagfdpgnfinhaa.Q
open Go.RowKit Go.Proofs.YtoagfdpgnfinhaaW.PrintWords Go.Proofs.YtoagfdpgnfinhaaW.PrintLast Go.Proofs.YtoagfdpgnfinhaaW.PrintMore
attribute [local go_sem] max2_int min2_int max_two min_two max_three min_three max_four min_four   -- for this text's walks alone
set_option linter.unusedVariables false
set_option linter.unusedSimpArgs false
/-! ### tenementlaw15_StreamReady_p0: function 7 -/
def tenementlaw15_StreamReady_p0.f (k : Nat) (a0_0 : Int) (a0_1 : Int) (a0_2 : Int) (a0_3 : Int) (a0_4 : Int) (a0_5 : Bool) (a1_0 : Int) (a1_1 : Int) (a1_2 : Int) (a1_3 : Int) (a1_4 : Bool) : Option (Bool) := (tenementlaw15_examples.f).bind fun t753 => (if t753 = true then ((tenementlaw15_Mark_mark.f k a0_0 a0_1 a0_2 a0_3 a0_4 true).bind fun bt754 => ((tenementlaw15_Vector_vector.f k a1_0 a1_1 a1_2 a1_3 a1_4).bind fun bt760 => ((stream_Ready.f bt760.1 bt760.2.1 bt760.2.2.1 bt760.2.2.2 bt754.1 bt754.2.1 bt754.2.2.1 bt754.2.2.2.1 bt754.2.2.2.2).bind fun t765 => ((vec_Join.f bt760.1 bt760.2.1 bt760.2.2.1 bt760.2.2.2 bt754.1 bt754.2.1 bt754.2.2.1 bt754.2.2.2.1).bind fun bt766 => ((stamp_Stamp_N.f bt754.1 bt754.2.1 bt754.2.2.1 bt754.2.2.2.1 bt754.2.2.2.2).bind fun t771 => ((vec_With.f bt766.1 bt766.2.1 bt766.2.2.1 bt766.2.2.2 bt754.2.2.2.2 (IntKind.u64.wrap (t771 - 1))).bind fun bt772 => ((vec_At.f bt760.1 bt760.2.1 bt760.2.2.1 bt760.2.2.2 bt754.2.2.2.2).bind fun t777 => ((stamp_Stamp_N.f bt754.1 bt754.2.1 bt754.2.2.1 bt754.2.2.2.1 bt754.2.2.2.2).bind fun t778 => ((vec_At.f bt760.1 bt760.2.1 bt760.2.2.1 bt760.2.2.2 bt754.2.2.2.2).bind fun t779 => ((stamp_Stamp_N.f bt754.1 bt754.2.1 bt754.2.2.1 bt754.2.2.2.1 bt754.2.2.2.2).bind fun t780 => (if t779 = (IntKind.u64.wrap (t780 - 1)) then ((vec_Leq.f bt754.1 bt754.2.1 bt754.2.2.1 bt754.2.2.2.1 bt766.1 bt766.2.1 bt766.2.2.1 bt766.2.2.2).bind fun t781 => (if t781 = true then ((vec_With.f bt754.1 bt754.2.1 bt754.2.2.1 bt754.2.2.2.1 bt754.2.2.2.2 0).bind fun bt782 => ((vec_Leq.f bt782.1 bt782.2.1 bt782.2.2.1 bt782.2.2.2 bt760.1 bt760.2.1 bt760.2.2.1 bt760.2.2.2).bind fun t786 => (if t765 = (-1) then (none) else (if t777 ≥ t778 then (none) else (if t765 = 1 then (if t786 = true then ((stream_Ready.f bt766.1 bt766.2.1 bt766.2.2.1 bt766.2.2.2 bt754.1 bt754.2.1 bt754.2.2.1 bt754.2.2.2.1 bt754.2.2.2.2).bind fun t791 => (if t791 = (-1) then ((stream_Ready.f bt772.1 bt772.2.1 bt772.2.2.1 bt772.2.2.2 bt754.1 bt754.2.1 bt754.2.2.1 bt754.2.2.2.1 bt754.2.2.2.2).bind fun t792 => (if t792 = 1 then (some true) else (none))) else (none))) else (none)) else (if t786 = true then (none) else ((stream_Ready.f bt766.1 bt766.2.1 bt766.2.2.1 bt766.2.2.2 bt754.1 bt754.2.1 bt754.2.2.1 bt754.2.2.2.1 bt754.2.2.2.2).bind fun t793 => (if t793 = (-1) then ((stream_Ready.f bt772.1 bt772.2.1 bt772.2.2.1 bt772.2.2.2 bt754.1 bt754.2.1 bt754.2.2.1 bt754.2.2.2.1 bt754.2.2.2.2).bind fun t794 => (if t794 = 1 then (some true) else (none))) else (none))))))))) else (none))) else (none)))))))))))) else (none))
theorem tenementlaw15_StreamReady_p0.mono : ∀ a0 a1 a2 a3 a4 a5 a6 a7 a8 a9 a10 k, LeO (tenementlaw15_StreamReady_p0.f k a0 a1 a2 a3 a4 a5 a6 a7 a8 a9 a10) (tenementlaw15_StreamReady_p0.f (k + 1) a0 a1 a2 a3 a4 a5 a6 a7 a8 a9 a10) := by
  intro a0 a1 a2 a3 a4 a5 a6 a7 a8 a9 a10 k
  unfold tenementlaw15_StreamReady_p0.f
  repeat' first
      | (with_reducible exact tenementlaw15_Mark_mark.mono _ _ _ _ _ _ _)
      | (with_reducible exact tenementlaw15_Vector_vector.mono _ _ _ _ _ _)
      | (with_reducible exact LeO.refl _)
      | (with_reducible exact LeO.none _)
      | (with_reducible refine LeO.ite ?_ ?_)
      | (with_reducible refine LeO.bind ?_ (fun _ => ?_))
      | exact tenementlaw15_Mark_mark.mono _ _ _ _ _ _ _
      | exact tenementlaw15_Vector_vector.mono _ _ _ _ _ _
      | exact LeO.none _
      | refine LeO.ite ?_ ?_
      | refine LeO.bind ?_ (fun _ => ?_)
def tenementlaw15_StreamReady_p0.T9 : Bool × List (List Nat × List Nat) := (true, [([], []), ([], []), ([1], [1]), ([], []), ([3], [3]), ([4], [4]), ([0, 2, 5, 4], [0, 2, 5]), ([], []), ([7, 6, 6, 0, 1, 2, 3, 4, 5, 6, 7], [6, 7])])
def tenementlaw15_StreamReady_p0.B9 : List Nat := [0, 0, 2, 0, 8, 24, 63, 0, 255]
theorem tenementlaw15_StreamReady_p0.tab9 : rtab .any (opsOf Try.f7 9) = tenementlaw15_StreamReady_p0.T9 := by kernel_rfl
theorem tenementlaw15_StreamReady_p0.bits9 : waitsOk tenementlaw15_StreamReady_p0.T9.2 tenementlaw15_StreamReady_p0.B9 = true := by kernel_rfl
def tenementlaw15_StreamReady_p0.T10 : Bool × List (List Nat × List Nat) := (true, [([], []), ([], []), ([1], [1]), ([0, 2], [0, 2]), ([], []), ([4, 3], [4]), ([3, 5], [3, 5]), ([6, 5, 0, 1, 2, 3, 4, 5, 6], [6])])
def tenementlaw15_StreamReady_p0.B10 : List Nat := [0, 0, 2, 7, 0, 31, 63, 127]
theorem tenementlaw15_StreamReady_p0.tab10 : rtab .any (opsOf Try.f7 10) = tenementlaw15_StreamReady_p0.T10 := by kernel_rfl
theorem tenementlaw15_StreamReady_p0.bits10 : waitsOk tenementlaw15_StreamReady_p0.T10.2 tenementlaw15_StreamReady_p0.B10 = true := by kernel_rfl
def tenementlaw15_StreamReady_p0.T11 : Bool × List (List Nat × List Nat) := (true, [([], []), ([], []), ([1], [1]), ([0, 2], [0, 2]), ([], []), ([4, 3], [4]), ([5], [5]), ([3, 6], [3, 6]), ([7, 5], [7]), ([8], [8]), ([9, 8], [8, 9]), ([8], [8]), ([10, 11, 8, 8], [8, 10, 11]), ([8, 12], [8, 12]), ([13, 12], [13]), ([14], [14]), ([15, 14], [14, 15]), ([14], [14]), ([17, 14], [14, 17]), ([16, 18, 14, 14], [14, 16, 18]), ([14], [14]), ([19, 20, 19, 14], [14, 19, 20]), ([14, 21], [14, 21]), ([22, 21, 0, 1, 2, 3, 4, 5, 6, 7, 8, 9, 10, 11, 12, 13, 14, 15, 16, 17, 18, 19, 20, 21, 22], [22])])
def tenementlaw15_StreamReady_p0.B11 : List Nat := [0, 0, 2, 7, 0, 31, 63, 127, 255, 511, 1023, 511, 4095, 8191, 16383, 32767, 65535, 32767, 163839, 524287, 32767, 2097151, 4194303, 8388607]
theorem tenementlaw15_StreamReady_p0.tab11 : rtab .any (opsOf Try.f7 11) = tenementlaw15_StreamReady_p0.T11 := by kernel_rfl
theorem tenementlaw15_StreamReady_p0.bits11 : waitsOk tenementlaw15_StreamReady_p0.T11.2 tenementlaw15_StreamReady_p0.B11 = true := by kernel_rfl
set_option maxHeartbeats 8000000 in
set_option maxRecDepth 100000 in
theorem tenementlaw15_StreamReady_p0.calls (k : Nat) (a0_0 : Int) (a0_1 : Int) (a0_2 : Int) (a0_3 : Int) (a0_4 : Int) (a0_5 : Bool) (a1_0 : Int) (a1_1 : Int) (a1_2 : Int) (a1_3 : Int) (a1_4 : Bool) (r : Bool) (w : World) (h : tenementlaw15_StreamReady_p0.f k a0_0 a0_1 a0_2 a0_3 a0_4 a0_5 a1_0 a1_1 a1_2 a1_3 a1_4 = some r) :
    Calls Try.prog 7 #[.agg #[.int .u64 a0_0, .int .u64 a0_1, .int .u64 a0_2, .int .u64 a0_3, .int .i64 a0_4, .bool a0_5], .agg #[.int .u64 a1_0, .int .u64 a1_1, .int .u64 a1_2, .int .u64 a1_3, .bool a1_4]] w fun e w' => e = .returned (.bool r) ∧ Below w.heap.size w w' := by
  have hu39 := Try.underlying39
  have hu63 := Try.underlying63
  have hu30 := Try.underlying30
  have hu28 := Try.underlying28
  have HB := Aside0.mk (Below.refl w.heap.size w)
  have H : ((tenementlaw15_examples.f).bind fun t753 => (if t753 = true then ((tenementlaw15_Mark_mark.f k a0_0 a0_1 a0_2 a0_3 a0_4 true).bind fun bt754 => ((tenementlaw15_Vector_vector.f k a1_0 a1_1 a1_2 a1_3 a1_4).bind fun bt760 => ((stream_Ready.f bt760.1 bt760.2.1 bt760.2.2.1 bt760.2.2.2 bt754.1 bt754.2.1 bt754.2.2.1 bt754.2.2.2.1 bt754.2.2.2.2).bind fun t765 => ((vec_Join.f bt760.1 bt760.2.1 bt760.2.2.1 bt760.2.2.2 bt754.1 bt754.2.1 bt754.2.2.1 bt754.2.2.2.1).bind fun bt766 => ((stamp_Stamp_N.f bt754.1 bt754.2.1 bt754.2.2.1 bt754.2.2.2.1 bt754.2.2.2.2).bind fun t771 => ((vec_With.f bt766.1 bt766.2.1 bt766.2.2.1 bt766.2.2.2 bt754.2.2.2.2 (IntKind.u64.wrap (t771 - 1))).bind fun bt772 => ((vec_At.f bt760.1 bt760.2.1 bt760.2.2.1 bt760.2.2.2 bt754.2.2.2.2).bind fun t777 => ((stamp_Stamp_N.f bt754.1 bt754.2.1 bt754.2.2.1 bt754.2.2.2.1 bt754.2.2.2.2).bind fun t778 => ((vec_At.f bt760.1 bt760.2.1 bt760.2.2.1 bt760.2.2.2 bt754.2.2.2.2).bind fun t779 => ((stamp_Stamp_N.f bt754.1 bt754.2.1 bt754.2.2.1 bt754.2.2.2.1 bt754.2.2.2.2).bind fun t780 => (if t779 = (IntKind.u64.wrap (t780 - 1)) then ((vec_Leq.f bt754.1 bt754.2.1 bt754.2.2.1 bt754.2.2.2.1 bt766.1 bt766.2.1 bt766.2.2.1 bt766.2.2.2).bind fun t781 => (if t781 = true then ((vec_With.f bt754.1 bt754.2.1 bt754.2.2.1 bt754.2.2.2.1 bt754.2.2.2.2 0).bind fun bt782 => ((vec_Leq.f bt782.1 bt782.2.1 bt782.2.2.1 bt782.2.2.2 bt760.1 bt760.2.1 bt760.2.2.1 bt760.2.2.2).bind fun t786 => (if t765 = (-1) then (none) else (if t777 ≥ t778 then (none) else (if t765 = 1 then (if t786 = true then ((stream_Ready.f bt766.1 bt766.2.1 bt766.2.2.1 bt766.2.2.2 bt754.1 bt754.2.1 bt754.2.2.1 bt754.2.2.2.1 bt754.2.2.2.2).bind fun t791 => (if t791 = (-1) then ((stream_Ready.f bt772.1 bt772.2.1 bt772.2.2.1 bt772.2.2.2 bt754.1 bt754.2.1 bt754.2.2.1 bt754.2.2.2.1 bt754.2.2.2.2).bind fun t792 => (if t792 = 1 then (some true) else (none))) else (none))) else (none)) else (if t786 = true then (none) else ((stream_Ready.f bt766.1 bt766.2.1 bt766.2.2.1 bt766.2.2.2 bt754.1 bt754.2.1 bt754.2.2.1 bt754.2.2.2.1 bt754.2.2.2.2).bind fun t793 => (if t793 = (-1) then ((stream_Ready.f bt772.1 bt772.2.1 bt772.2.2.1 bt772.2.2.2 bt754.1 bt754.2.1 bt754.2.2.1 bt754.2.2.2.1 bt754.2.2.2.2).bind fun t794 => (if t794 = 1 then (some true) else (none))) else (none))))))))) else (none))) else (none)))))))))))) else (none))) = some r := h
  clear h
  replace H := Option.bind_eq_some_iff.mp H
  obtain ⟨t753, A30, H⟩ := H
  replace H : (if t753 = true then ((tenementlaw15_Mark_mark.f k a0_0 a0_1 a0_2 a0_3 a0_4 true).bind fun bt754 => ((tenementlaw15_Vector_vector.f k a1_0 a1_1 a1_2 a1_3 a1_4).bind fun bt760 => ((stream_Ready.f bt760.1 bt760.2.1 bt760.2.2.1 bt760.2.2.2 bt754.1 bt754.2.1 bt754.2.2.1 bt754.2.2.2.1 bt754.2.2.2.2).bind fun t765 => ((vec_Join.f bt760.1 bt760.2.1 bt760.2.2.1 bt760.2.2.2 bt754.1 bt754.2.1 bt754.2.2.1 bt754.2.2.2.1).bind fun bt766 => ((stamp_Stamp_N.f bt754.1 bt754.2.1 bt754.2.2.1 bt754.2.2.2.1 bt754.2.2.2.2).bind fun t771 => ((vec_With.f bt766.1 bt766.2.1 bt766.2.2.1 bt766.2.2.2 bt754.2.2.2.2 (IntKind.u64.wrap (t771 - 1))).bind fun bt772 => ((vec_At.f bt760.1 bt760.2.1 bt760.2.2.1 bt760.2.2.2 bt754.2.2.2.2).bind fun t777 => ((stamp_Stamp_N.f bt754.1 bt754.2.1 bt754.2.2.1 bt754.2.2.2.1 bt754.2.2.2.2).bind fun t778 => ((vec_At.f bt760.1 bt760.2.1 bt760.2.2.1 bt760.2.2.2 bt754.2.2.2.2).bind fun t779 => ((stamp_Stamp_N.f bt754.1 bt754.2.1 bt754.2.2.1 bt754.2.2.2.1 bt754.2.2.2.2).bind fun t780 => (if t779 = (IntKind.u64.wrap (t780 - 1)) then ((vec_Leq.f bt754.1 bt754.2.1 bt754.2.2.1 bt754.2.2.2.1 bt766.1 bt766.2.1 bt766.2.2.1 bt766.2.2.2).bind fun t781 => (if t781 = true then ((vec_With.f bt754.1 bt754.2.1 bt754.2.2.1 bt754.2.2.2.1 bt754.2.2.2.2 0).bind fun bt782 => ((vec_Leq.f bt782.1 bt782.2.1 bt782.2.2.1 bt782.2.2.2 bt760.1 bt760.2.1 bt760.2.2.1 bt760.2.2.2).bind fun t786 => (if t765 = (-1) then (none) else (if t777 ≥ t778 then (none) else (if t765 = 1 then (if t786 = true then ((stream_Ready.f bt766.1 bt766.2.1 bt766.2.2.1 bt766.2.2.2 bt754.1 bt754.2.1 bt754.2.2.1 bt754.2.2.2.1 bt754.2.2.2.2).bind fun t791 => (if t791 = (-1) then ((stream_Ready.f bt772.1 bt772.2.1 bt772.2.2.1 bt772.2.2.2 bt754.1 bt754.2.1 bt754.2.2.1 bt754.2.2.2.1 bt754.2.2.2.2).bind fun t792 => (if t792 = 1 then (some true) else (none))) else (none))) else (none)) else (if t786 = true then (none) else ((stream_Ready.f bt766.1 bt766.2.1 bt766.2.2.1 bt766.2.2.2 bt754.1 bt754.2.1 bt754.2.2.1 bt754.2.2.2.1 bt754.2.2.2.2).bind fun t793 => (if t793 = (-1) then ((stream_Ready.f bt772.1 bt772.2.1 bt772.2.2.1 bt772.2.2.2 bt754.1 bt754.2.1 bt754.2.2.1 bt754.2.2.2.1 bt754.2.2.2.2).bind fun t794 => (if t794 = 1 then (some true) else (none))) else (none))))))))) else (none))) else (none)))))))))))) else (none)) = some r := H
  have A3 := Aside0.mk A30
  clear A30
  by_cases c4 : t753 = true
  rotate_left
  · replace c4 := Bool.eq_false_iff.mpr c4
    subst c4
    have H1 : (none) = some r := by rw [if_neg (show ¬ (false = true) by decide)] at H; exact H
    clear H
    have H := H1
    clear H1
    exact absurd H (by simp)
  subst c4
  have H1 : ((tenementlaw15_Mark_mark.f k a0_0 a0_1 a0_2 a0_3 a0_4 true).bind fun bt754 => ((tenementlaw15_Vector_vector.f k a1_0 a1_1 a1_2 a1_3 a1_4).bind fun bt760 => ((stream_Ready.f bt760.1 bt760.2.1 bt760.2.2.1 bt760.2.2.2 bt754.1 bt754.2.1 bt754.2.2.1 bt754.2.2.2.1 bt754.2.2.2.2).bind fun t765 => ((vec_Join.f bt760.1 bt760.2.1 bt760.2.2.1 bt760.2.2.2 bt754.1 bt754.2.1 bt754.2.2.1 bt754.2.2.2.1).bind fun bt766 => ((stamp_Stamp_N.f bt754.1 bt754.2.1 bt754.2.2.1 bt754.2.2.2.1 bt754.2.2.2.2).bind fun t771 => ((vec_With.f bt766.1 bt766.2.1 bt766.2.2.1 bt766.2.2.2 bt754.2.2.2.2 (IntKind.u64.wrap (t771 - 1))).bind fun bt772 => ((vec_At.f bt760.1 bt760.2.1 bt760.2.2.1 bt760.2.2.2 bt754.2.2.2.2).bind fun t777 => ((stamp_Stamp_N.f bt754.1 bt754.2.1 bt754.2.2.1 bt754.2.2.2.1 bt754.2.2.2.2).bind fun t778 => ((vec_At.f bt760.1 bt760.2.1 bt760.2.2.1 bt760.2.2.2 bt754.2.2.2.2).bind fun t779 => ((stamp_Stamp_N.f bt754.1 bt754.2.1 bt754.2.2.1 bt754.2.2.2.1 bt754.2.2.2.2).bind fun t780 => (if t779 = (IntKind.u64.wrap (t780 - 1)) then ((vec_Leq.f bt754.1 bt754.2.1 bt754.2.2.1 bt754.2.2.2.1 bt766.1 bt766.2.1 bt766.2.2.1 bt766.2.2.2).bind fun t781 => (if t781 = true then ((vec_With.f bt754.1 bt754.2.1 bt754.2.2.1 bt754.2.2.2.1 bt754.2.2.2.2 0).bind fun bt782 => ((vec_Leq.f bt782.1 bt782.2.1 bt782.2.2.1 bt782.2.2.2 bt760.1 bt760.2.1 bt760.2.2.1 bt760.2.2.2).bind fun t786 => (if t765 = (-1) then (none) else (if t777 ≥ t778 then (none) else (if t765 = 1 then (if t786 = true then ((stream_Ready.f bt766.1 bt766.2.1 bt766.2.2.1 bt766.2.2.2 bt754.1 bt754.2.1 bt754.2.2.1 bt754.2.2.2.1 bt754.2.2.2.2).bind fun t791 => (if t791 = (-1) then ((stream_Ready.f bt772.1 bt772.2.1 bt772.2.2.1 bt772.2.2.2 bt754.1 bt754.2.1 bt754.2.2.1 bt754.2.2.2.1 bt754.2.2.2.2).bind fun t792 => (if t792 = 1 then (some true) else (none))) else (none))) else (none)) else (if t786 = true then (none) else ((stream_Ready.f bt766.1 bt766.2.1 bt766.2.2.1 bt766.2.2.2 bt754.1 bt754.2.1 bt754.2.2.1 bt754.2.2.2.1 bt754.2.2.2.2).bind fun t793 => (if t793 = (-1) then ((stream_Ready.f bt772.1 bt772.2.1 bt772.2.2.1 bt772.2.2.2 bt754.1 bt754.2.1 bt754.2.2.1 bt754.2.2.2.1 bt754.2.2.2.2).bind fun t794 => (if t794 = 1 then (some true) else (none))) else (none))))))))) else (none))) else (none)))))))))))) = some r := by rw [if_pos rfl] at H; exact H
  clear H
  have H := H1
  clear H1
  replace H := Option.bind_eq_some_iff.mp H
  obtain ⟨⟨t754, t755, t756, t757, t758⟩, A50, H⟩ := H
  replace H : ((tenementlaw15_Vector_vector.f k a1_0 a1_1 a1_2 a1_3 a1_4).bind fun bt760 => ((stream_Ready.f bt760.1 bt760.2.1 bt760.2.2.1 bt760.2.2.2 t754 t755 t756 t757 t758).bind fun t765 => ((vec_Join.f bt760.1 bt760.2.1 bt760.2.2.1 bt760.2.2.2 t754 t755 t756 t757).bind fun bt766 => ((stamp_Stamp_N.f t754 t755 t756 t757 t758).bind fun t771 => ((vec_With.f bt766.1 bt766.2.1 bt766.2.2.1 bt766.2.2.2 t758 (IntKind.u64.wrap (t771 - 1))).bind fun bt772 => ((vec_At.f bt760.1 bt760.2.1 bt760.2.2.1 bt760.2.2.2 t758).bind fun t777 => ((stamp_Stamp_N.f t754 t755 t756 t757 t758).bind fun t778 => ((vec_At.f bt760.1 bt760.2.1 bt760.2.2.1 bt760.2.2.2 t758).bind fun t779 => ((stamp_Stamp_N.f t754 t755 t756 t757 t758).bind fun t780 => (if t779 = (IntKind.u64.wrap (t780 - 1)) then ((vec_Leq.f t754 t755 t756 t757 bt766.1 bt766.2.1 bt766.2.2.1 bt766.2.2.2).bind fun t781 => (if t781 = true then ((vec_With.f t754 t755 t756 t757 t758 0).bind fun bt782 => ((vec_Leq.f bt782.1 bt782.2.1 bt782.2.2.1 bt782.2.2.2 bt760.1 bt760.2.1 bt760.2.2.1 bt760.2.2.2).bind fun t786 => (if t765 = (-1) then (none) else (if t777 ≥ t778 then (none) else (if t765 = 1 then (if t786 = true then ((stream_Ready.f bt766.1 bt766.2.1 bt766.2.2.1 bt766.2.2.2 t754 t755 t756 t757 t758).bind fun t791 => (if t791 = (-1) then ((stream_Ready.f bt772.1 bt772.2.1 bt772.2.2.1 bt772.2.2.2 t754 t755 t756 t757 t758).bind fun t792 => (if t792 = 1 then (some true) else (none))) else (none))) else (none)) else (if t786 = true then (none) else ((stream_Ready.f bt766.1 bt766.2.1 bt766.2.2.1 bt766.2.2.2 t754 t755 t756 t757 t758).bind fun t793 => (if t793 = (-1) then ((stream_Ready.f bt772.1 bt772.2.1 bt772.2.2.1 bt772.2.2.2 t754 t755 t756 t757 t758).bind fun t794 => (if t794 = 1 then (some true) else (none))) else (none))))))))) else (none))) else (none))))))))))) = some r := H
  have A5 := Aside0.mk A50
  clear A50
  replace H := Option.bind_eq_some_iff.mp H
  obtain ⟨⟨t760, t761, t762, t763⟩, A60, H⟩ := H
  replace H : ((stream_Ready.f t760 t761 t762 t763 t754 t755 t756 t757 t758).bind fun t765 => ((vec_Join.f t760 t761 t762 t763 t754 t755 t756 t757).bind fun bt766 => ((stamp_Stamp_N.f t754 t755 t756 t757 t758).bind fun t771 => ((vec_With.f bt766.1 bt766.2.1 bt766.2.2.1 bt766.2.2.2 t758 (IntKind.u64.wrap (t771 - 1))).bind fun bt772 => ((vec_At.f t760 t761 t762 t763 t758).bind fun t777 => ((stamp_Stamp_N.f t754 t755 t756 t757 t758).bind fun t778 => ((vec_At.f t760 t761 t762 t763 t758).bind fun t779 => ((stamp_Stamp_N.f t754 t755 t756 t757 t758).bind fun t780 => (if t779 = (IntKind.u64.wrap (t780 - 1)) then ((vec_Leq.f t754 t755 t756 t757 bt766.1 bt766.2.1 bt766.2.2.1 bt766.2.2.2).bind fun t781 => (if t781 = true then ((vec_With.f t754 t755 t756 t757 t758 0).bind fun bt782 => ((vec_Leq.f bt782.1 bt782.2.1 bt782.2.2.1 bt782.2.2.2 t760 t761 t762 t763).bind fun t786 => (if t765 = (-1) then (none) else (if t777 ≥ t778 then (none) else (if t765 = 1 then (if t786 = true then ((stream_Ready.f bt766.1 bt766.2.1 bt766.2.2.1 bt766.2.2.2 t754 t755 t756 t757 t758).bind fun t791 => (if t791 = (-1) then ((stream_Ready.f bt772.1 bt772.2.1 bt772.2.2.1 bt772.2.2.2 t754 t755 t756 t757 t758).bind fun t792 => (if t792 = 1 then (some true) else (none))) else (none))) else (none)) else (if t786 = true then (none) else ((stream_Ready.f bt766.1 bt766.2.1 bt766.2.2.1 bt766.2.2.2 t754 t755 t756 t757 t758).bind fun t793 => (if t793 = (-1) then ((stream_Ready.f bt772.1 bt772.2.1 bt772.2.2.1 bt772.2.2.2 t754 t755 t756 t757 t758).bind fun t794 => (if t794 = 1 then (some true) else (none))) else (none))))))))) else (none))) else (none)))))))))) = some r := H
  have A6 := Aside0.mk A60
  clear A60
  replace H := Option.bind_eq_some_iff.mp H
  obtain ⟨t765, A70, H⟩ := H
  replace H : ((vec_Join.f t760 t761 t762 t763 t754 t755 t756 t757).bind fun bt766 => ((stamp_Stamp_N.f t754 t755 t756 t757 t758).bind fun t771 => ((vec_With.f bt766.1 bt766.2.1 bt766.2.2.1 bt766.2.2.2 t758 (IntKind.u64.wrap (t771 - 1))).bind fun bt772 => ((vec_At.f t760 t761 t762 t763 t758).bind fun t777 => ((stamp_Stamp_N.f t754 t755 t756 t757 t758).bind fun t778 => ((vec_At.f t760 t761 t762 t763 t758).bind fun t779 => ((stamp_Stamp_N.f t754 t755 t756 t757 t758).bind fun t780 => (if t779 = (IntKind.u64.wrap (t780 - 1)) then ((vec_Leq.f t754 t755 t756 t757 bt766.1 bt766.2.1 bt766.2.2.1 bt766.2.2.2).bind fun t781 => (if t781 = true then ((vec_With.f t754 t755 t756 t757 t758 0).bind fun bt782 => ((vec_Leq.f bt782.1 bt782.2.1 bt782.2.2.1 bt782.2.2.2 t760 t761 t762 t763).bind fun t786 => (if t765 = (-1) then (none) else (if t777 ≥ t778 then (none) else (if t765 = 1 then (if t786 = true then ((stream_Ready.f bt766.1 bt766.2.1 bt766.2.2.1 bt766.2.2.2 t754 t755 t756 t757 t758).bind fun t791 => (if t791 = (-1) then ((stream_Ready.f bt772.1 bt772.2.1 bt772.2.2.1 bt772.2.2.2 t754 t755 t756 t757 t758).bind fun t792 => (if t792 = 1 then (some true) else (none))) else (none))) else (none)) else (if t786 = true then (none) else ((stream_Ready.f bt766.1 bt766.2.1 bt766.2.2.1 bt766.2.2.2 t754 t755 t756 t757 t758).bind fun t793 => (if t793 = (-1) then ((stream_Ready.f bt772.1 bt772.2.1 bt772.2.2.1 bt772.2.2.2 t754 t755 t756 t757 t758).bind fun t794 => (if t794 = 1 then (some true) else (none))) else (none))))))))) else (none))) else (none))))))))) = some r := H
  have A7 := Aside0.mk A70
  clear A70
  replace H := Option.bind_eq_some_iff.mp H
  obtain ⟨⟨t766, t767, t768, t769⟩, A80, H⟩ := H
  replace H : ((stamp_Stamp_N.f t754 t755 t756 t757 t758).bind fun t771 => ((vec_With.f t766 t767 t768 t769 t758 (IntKind.u64.wrap (t771 - 1))).bind fun bt772 => ((vec_At.f t760 t761 t762 t763 t758).bind fun t777 => ((stamp_Stamp_N.f t754 t755 t756 t757 t758).bind fun t778 => ((vec_At.f t760 t761 t762 t763 t758).bind fun t779 => ((stamp_Stamp_N.f t754 t755 t756 t757 t758).bind fun t780 => (if t779 = (IntKind.u64.wrap (t780 - 1)) then ((vec_Leq.f t754 t755 t756 t757 t766 t767 t768 t769).bind fun t781 => (if t781 = true then ((vec_With.f t754 t755 t756 t757 t758 0).bind fun bt782 => ((vec_Leq.f bt782.1 bt782.2.1 bt782.2.2.1 bt782.2.2.2 t760 t761 t762 t763).bind fun t786 => (if t765 = (-1) then (none) else (if t777 ≥ t778 then (none) else (if t765 = 1 then (if t786 = true then ((stream_Ready.f t766 t767 t768 t769 t754 t755 t756 t757 t758).bind fun t791 => (if t791 = (-1) then ((stream_Ready.f bt772.1 bt772.2.1 bt772.2.2.1 bt772.2.2.2 t754 t755 t756 t757 t758).bind fun t792 => (if t792 = 1 then (some true) else (none))) else (none))) else (none)) else (if t786 = true then (none) else ((stream_Ready.f t766 t767 t768 t769 t754 t755 t756 t757 t758).bind fun t793 => (if t793 = (-1) then ((stream_Ready.f bt772.1 bt772.2.1 bt772.2.2.1 bt772.2.2.2 t754 t755 t756 t757 t758).bind fun t794 => (if t794 = 1 then (some true) else (none))) else (none))))))))) else (none))) else (none)))))))) = some r := H
  have A8 := Aside0.mk A80
  clear A80
  replace H := Option.bind_eq_some_iff.mp H
  obtain ⟨t771, A90, H⟩ := H
  replace H : ((vec_With.f t766 t767 t768 t769 t758 (IntKind.u64.wrap (t771 - 1))).bind fun bt772 => ((vec_At.f t760 t761 t762 t763 t758).bind fun t777 => ((stamp_Stamp_N.f t754 t755 t756 t757 t758).bind fun t778 => ((vec_At.f t760 t761 t762 t763 t758).bind fun t779 => ((stamp_Stamp_N.f t754 t755 t756 t757 t758).bind fun t780 => (if t779 = (IntKind.u64.wrap (t780 - 1)) then ((vec_Leq.f t754 t755 t756 t757 t766 t767 t768 t769).bind fun t781 => (if t781 = true then ((vec_With.f t754 t755 t756 t757 t758 0).bind fun bt782 => ((vec_Leq.f bt782.1 bt782.2.1 bt782.2.2.1 bt782.2.2.2 t760 t761 t762 t763).bind fun t786 => (if t765 = (-1) then (none) else (if t777 ≥ t778 then (none) else (if t765 = 1 then (if t786 = true then ((stream_Ready.f t766 t767 t768 t769 t754 t755 t756 t757 t758).bind fun t791 => (if t791 = (-1) then ((stream_Ready.f bt772.1 bt772.2.1 bt772.2.2.1 bt772.2.2.2 t754 t755 t756 t757 t758).bind fun t792 => (if t792 = 1 then (some true) else (none))) else (none))) else (none)) else (if t786 = true then (none) else ((stream_Ready.f t766 t767 t768 t769 t754 t755 t756 t757 t758).bind fun t793 => (if t793 = (-1) then ((stream_Ready.f bt772.1 bt772.2.1 bt772.2.2.1 bt772.2.2.2 t754 t755 t756 t757 t758).bind fun t794 => (if t794 = 1 then (some true) else (none))) else (none))))))))) else (none))) else (none))))))) = some r := H
  have A9 := Aside0.mk A90
  clear A90
  replace H := Option.bind_eq_some_iff.mp H
  obtain ⟨⟨t772, t773, t774, t775⟩, A100, H⟩ := H
  replace H : ((vec_At.f t760 t761 t762 t763 t758).bind fun t777 => ((stamp_Stamp_N.f t754 t755 t756 t757 t758).bind fun t778 => ((vec_At.f t760 t761 t762 t763 t758).bind fun t779 => ((stamp_Stamp_N.f t754 t755 t756 t757 t758).bind fun t780 => (if t779 = (IntKind.u64.wrap (t780 - 1)) then ((vec_Leq.f t754 t755 t756 t757 t766 t767 t768 t769).bind fun t781 => (if t781 = true then ((vec_With.f t754 t755 t756 t757 t758 0).bind fun bt782 => ((vec_Leq.f bt782.1 bt782.2.1 bt782.2.2.1 bt782.2.2.2 t760 t761 t762 t763).bind fun t786 => (if t765 = (-1) then (none) else (if t777 ≥ t778 then (none) else (if t765 = 1 then (if t786 = true then ((stream_Ready.f t766 t767 t768 t769 t754 t755 t756 t757 t758).bind fun t791 => (if t791 = (-1) then ((stream_Ready.f t772 t773 t774 t775 t754 t755 t756 t757 t758).bind fun t792 => (if t792 = 1 then (some true) else (none))) else (none))) else (none)) else (if t786 = true then (none) else ((stream_Ready.f t766 t767 t768 t769 t754 t755 t756 t757 t758).bind fun t793 => (if t793 = (-1) then ((stream_Ready.f t772 t773 t774 t775 t754 t755 t756 t757 t758).bind fun t794 => (if t794 = 1 then (some true) else (none))) else (none))))))))) else (none))) else (none)))))) = some r := H
  have A10 := Aside0.mk A100
  clear A100
  replace H := Option.bind_eq_some_iff.mp H
  obtain ⟨t777, A110, H⟩ := H
  replace H : ((stamp_Stamp_N.f t754 t755 t756 t757 t758).bind fun t778 => ((vec_At.f t760 t761 t762 t763 t758).bind fun t779 => ((stamp_Stamp_N.f t754 t755 t756 t757 t758).bind fun t780 => (if t779 = (IntKind.u64.wrap (t780 - 1)) then ((vec_Leq.f t754 t755 t756 t757 t766 t767 t768 t769).bind fun t781 => (if t781 = true then ((vec_With.f t754 t755 t756 t757 t758 0).bind fun bt782 => ((vec_Leq.f bt782.1 bt782.2.1 bt782.2.2.1 bt782.2.2.2 t760 t761 t762 t763).bind fun t786 => (if t765 = (-1) then (none) else (if t777 ≥ t778 then (none) else (if t765 = 1 then (if t786 = true then ((stream_Ready.f t766 t767 t768 t769 t754 t755 t756 t757 t758).bind fun t791 => (if t791 = (-1) then ((stream_Ready.f t772 t773 t774 t775 t754 t755 t756 t757 t758).bind fun t792 => (if t792 = 1 then (some true) else (none))) else (none))) else (none)) else (if t786 = true then (none) else ((stream_Ready.f t766 t767 t768 t769 t754 t755 t756 t757 t758).bind fun t793 => (if t793 = (-1) then ((stream_Ready.f t772 t773 t774 t775 t754 t755 t756 t757 t758).bind fun t794 => (if t794 = 1 then (some true) else (none))) else (none))))))))) else (none))) else (none))))) = some r := H
  have A11 := Aside0.mk A110
  clear A110
  replace H := Option.bind_eq_some_iff.mp H
  obtain ⟨t778, A120, H⟩ := H
  replace H : ((vec_At.f t760 t761 t762 t763 t758).bind fun t779 => ((stamp_Stamp_N.f t754 t755 t756 t757 t758).bind fun t780 => (if t779 = (IntKind.u64.wrap (t780 - 1)) then ((vec_Leq.f t754 t755 t756 t757 t766 t767 t768 t769).bind fun t781 => (if t781 = true then ((vec_With.f t754 t755 t756 t757 t758 0).bind fun bt782 => ((vec_Leq.f bt782.1 bt782.2.1 bt782.2.2.1 bt782.2.2.2 t760 t761 t762 t763).bind fun t786 => (if t765 = (-1) then (none) else (if t777 ≥ t778 then (none) else (if t765 = 1 then (if t786 = true then ((stream_Ready.f t766 t767 t768 t769 t754 t755 t756 t757 t758).bind fun t791 => (if t791 = (-1) then ((stream_Ready.f t772 t773 t774 t775 t754 t755 t756 t757 t758).bind fun t792 => (if t792 = 1 then (some true) else (none))) else (none))) else (none)) else (if t786 = true then (none) else ((stream_Ready.f t766 t767 t768 t769 t754 t755 t756 t757 t758).bind fun t793 => (if t793 = (-1) then ((stream_Ready.f t772 t773 t774 t775 t754 t755 t756 t757 t758).bind fun t794 => (if t794 = 1 then (some true) else (none))) else (none))))))))) else (none))) else (none)))) = some r := H
  have A12 := Aside0.mk A120
  clear A120
  replace H := Option.bind_eq_some_iff.mp H
  obtain ⟨t779, A130, H⟩ := H
  replace H : ((stamp_Stamp_N.f t754 t755 t756 t757 t758).bind fun t780 => (if t779 = (IntKind.u64.wrap (t780 - 1)) then ((vec_Leq.f t754 t755 t756 t757 t766 t767 t768 t769).bind fun t781 => (if t781 = true then ((vec_With.f t754 t755 t756 t757 t758 0).bind fun bt782 => ((vec_Leq.f bt782.1 bt782.2.1 bt782.2.2.1 bt782.2.2.2 t760 t761 t762 t763).bind fun t786 => (if t765 = (-1) then (none) else (if t777 ≥ t778 then (none) else (if t765 = 1 then (if t786 = true then ((stream_Ready.f t766 t767 t768 t769 t754 t755 t756 t757 t758).bind fun t791 => (if t791 = (-1) then ((stream_Ready.f t772 t773 t774 t775 t754 t755 t756 t757 t758).bind fun t792 => (if t792 = 1 then (some true) else (none))) else (none))) else (none)) else (if t786 = true then (none) else ((stream_Ready.f t766 t767 t768 t769 t754 t755 t756 t757 t758).bind fun t793 => (if t793 = (-1) then ((stream_Ready.f t772 t773 t774 t775 t754 t755 t756 t757 t758).bind fun t794 => (if t794 = 1 then (some true) else (none))) else (none))))))))) else (none))) else (none))) = some r := H
  have A13 := Aside0.mk A130
  clear A130
  replace H := Option.bind_eq_some_iff.mp H
  obtain ⟨t780, A140, H⟩ := H
  replace H : (if t779 = (IntKind.u64.wrap (t780 - 1)) then ((vec_Leq.f t754 t755 t756 t757 t766 t767 t768 t769).bind fun t781 => (if t781 = true then ((vec_With.f t754 t755 t756 t757 t758 0).bind fun bt782 => ((vec_Leq.f bt782.1 bt782.2.1 bt782.2.2.1 bt782.2.2.2 t760 t761 t762 t763).bind fun t786 => (if t765 = (-1) then (none) else (if t777 ≥ t778 then (none) else (if t765 = 1 then (if t786 = true then ((stream_Ready.f t766 t767 t768 t769 t754 t755 t756 t757 t758).bind fun t791 => (if t791 = (-1) then ((stream_Ready.f t772 t773 t774 t775 t754 t755 t756 t757 t758).bind fun t792 => (if t792 = 1 then (some true) else (none))) else (none))) else (none)) else (if t786 = true then (none) else ((stream_Ready.f t766 t767 t768 t769 t754 t755 t756 t757 t758).bind fun t793 => (if t793 = (-1) then ((stream_Ready.f t772 t773 t774 t775 t754 t755 t756 t757 t758).bind fun t794 => (if t794 = 1 then (some true) else (none))) else (none))))))))) else (none))) else (none)) = some r := H
  have A14 := Aside0.mk A140
  clear A140
  by_cases c15 : t779 = (IntKind.u64.wrap (t780 - 1))
  rotate_left
  · rw [if_neg c15] at H
    exact absurd H (by simp)
  rw [if_pos c15] at H
  have c15b0 : (t779 == (IntKind.u64.wrap (t780 - 1))) = true := beq_iff_eq.mpr c15
  have c15b1 : (t779 != (IntKind.u64.wrap (t780 - 1))) = false := bne_eq_false_iff_eq.mpr c15
  clear c15
  replace H := Option.bind_eq_some_iff.mp H
  obtain ⟨t781, A160, H⟩ := H
  replace H : (if t781 = true then ((vec_With.f t754 t755 t756 t757 t758 0).bind fun bt782 => ((vec_Leq.f bt782.1 bt782.2.1 bt782.2.2.1 bt782.2.2.2 t760 t761 t762 t763).bind fun t786 => (if t765 = (-1) then (none) else (if t777 ≥ t778 then (none) else (if t765 = 1 then (if t786 = true then ((stream_Ready.f t766 t767 t768 t769 t754 t755 t756 t757 t758).bind fun t791 => (if t791 = (-1) then ((stream_Ready.f t772 t773 t774 t775 t754 t755 t756 t757 t758).bind fun t792 => (if t792 = 1 then (some true) else (none))) else (none))) else (none)) else (if t786 = true then (none) else ((stream_Ready.f t766 t767 t768 t769 t754 t755 t756 t757 t758).bind fun t793 => (if t793 = (-1) then ((stream_Ready.f t772 t773 t774 t775 t754 t755 t756 t757 t758).bind fun t794 => (if t794 = 1 then (some true) else (none))) else (none))))))))) else (none)) = some r := H
  have A16 := Aside0.mk A160
  clear A160
  by_cases c17 : t781 = true
  rotate_left
  · replace c17 := Bool.eq_false_iff.mpr c17
    subst c17
    have H1 : (none) = some r := by rw [if_neg (show ¬ (false = true) by decide)] at H; exact H
    clear H
    have H := H1
    clear H1
    exact absurd H (by simp)
  subst c17
  have H1 : ((vec_With.f t754 t755 t756 t757 t758 0).bind fun bt782 => ((vec_Leq.f bt782.1 bt782.2.1 bt782.2.2.1 bt782.2.2.2 t760 t761 t762 t763).bind fun t786 => (if t765 = (-1) then (none) else (if t777 ≥ t778 then (none) else (if t765 = 1 then (if t786 = true then ((stream_Ready.f t766 t767 t768 t769 t754 t755 t756 t757 t758).bind fun t791 => (if t791 = (-1) then ((stream_Ready.f t772 t773 t774 t775 t754 t755 t756 t757 t758).bind fun t792 => (if t792 = 1 then (some true) else (none))) else (none))) else (none)) else (if t786 = true then (none) else ((stream_Ready.f t766 t767 t768 t769 t754 t755 t756 t757 t758).bind fun t793 => (if t793 = (-1) then ((stream_Ready.f t772 t773 t774 t775 t754 t755 t756 t757 t758).bind fun t794 => (if t794 = 1 then (some true) else (none))) else (none))))))))) = some r := by rw [if_pos rfl] at H; exact H
  clear H
  have H := H1
  clear H1
  replace H := Option.bind_eq_some_iff.mp H
  obtain ⟨⟨t782, t783, t784, t785⟩, A180, H⟩ := H
  replace H : ((vec_Leq.f t782 t783 t784 t785 t760 t761 t762 t763).bind fun t786 => (if t765 = (-1) then (none) else (if t777 ≥ t778 then (none) else (if t765 = 1 then (if t786 = true then ((stream_Ready.f t766 t767 t768 t769 t754 t755 t756 t757 t758).bind fun t791 => (if t791 = (-1) then ((stream_Ready.f t772 t773 t774 t775 t754 t755 t756 t757 t758).bind fun t792 => (if t792 = 1 then (some true) else (none))) else (none))) else (none)) else (if t786 = true then (none) else ((stream_Ready.f t766 t767 t768 t769 t754 t755 t756 t757 t758).bind fun t793 => (if t793 = (-1) then ((stream_Ready.f t772 t773 t774 t775 t754 t755 t756 t757 t758).bind fun t794 => (if t794 = 1 then (some true) else (none))) else (none)))))))) = some r := H
  have A18 := Aside0.mk A180
  clear A180
  replace H := Option.bind_eq_some_iff.mp H
  obtain ⟨t786, A190, H⟩ := H
  replace H : (if t765 = (-1) then (none) else (if t777 ≥ t778 then (none) else (if t765 = 1 then (if t786 = true then ((stream_Ready.f t766 t767 t768 t769 t754 t755 t756 t757 t758).bind fun t791 => (if t791 = (-1) then ((stream_Ready.f t772 t773 t774 t775 t754 t755 t756 t757 t758).bind fun t792 => (if t792 = 1 then (some true) else (none))) else (none))) else (none)) else (if t786 = true then (none) else ((stream_Ready.f t766 t767 t768 t769 t754 t755 t756 t757 t758).bind fun t793 => (if t793 = (-1) then ((stream_Ready.f t772 t773 t774 t775 t754 t755 t756 t757 t758).bind fun t794 => (if t794 = 1 then (some true) else (none))) else (none))))))) = some r := H
  have A19 := Aside0.mk A190
  clear A190
  by_cases c20 : t765 = (-1)
  · rw [if_pos c20] at H
    exact absurd H (by simp)
  rw [if_neg c20] at H
  have c20b0 : (t765 == (-1)) = false := beq_eq_false_iff_ne.mpr c20
  have c20b1 : (t765 != (-1)) = true := bne_iff_ne.mpr c20
  by_cases c21 : t777 ≥ t778
  · rw [if_pos c21] at H
    exact absurd H (by simp)
  rw [if_neg c21] at H
  have c21b0 : decide (t778 ≤ t777) = false := decide_eq_false c21
  clear c21
  by_cases c22 : t765 = 1
  · rw [if_pos c22] at H
    have c22b0 : (t765 == 1) = true := beq_iff_eq.mpr c22
    have c22b1 : (t765 != 1) = false := bne_eq_false_iff_eq.mpr c22
    clear c22
    by_cases c23 : t786 = true
    rotate_left
    · replace c23 := Bool.eq_false_iff.mpr c23
      subst c23
      have H1 : (none) = some r := by rw [if_neg (show ¬ (false = true) by decide)] at H; exact H
      clear H
      have H := H1
      clear H1
      exact absurd H (by simp)
    subst c23
    have H1 : ((stream_Ready.f t766 t767 t768 t769 t754 t755 t756 t757 t758).bind fun t791 => (if t791 = (-1) then ((stream_Ready.f t772 t773 t774 t775 t754 t755 t756 t757 t758).bind fun t792 => (if t792 = 1 then (some true) else (none))) else (none))) = some r := by rw [if_pos rfl] at H; exact H
    clear H
    have H := H1
    clear H1
    replace H := Option.bind_eq_some_iff.mp H
    obtain ⟨t791, A240, H⟩ := H
    replace H : (if t791 = (-1) then ((stream_Ready.f t772 t773 t774 t775 t754 t755 t756 t757 t758).bind fun t792 => (if t792 = 1 then (some true) else (none))) else (none)) = some r := H
    have A24 := Aside0.mk A240
    clear A240
    by_cases c25 : t791 = (-1)
    rotate_left
    · rw [if_neg c25] at H
      exact absurd H (by simp)
    rw [if_pos c25] at H
    have c25b0 : (t791 == (-1)) = true := beq_iff_eq.mpr c25
    have c25b1 : (t791 != (-1)) = false := bne_eq_false_iff_eq.mpr c25
    clear c25
    replace H := Option.bind_eq_some_iff.mp H
    obtain ⟨t792, A260, H⟩ := H
    replace H : (if t792 = 1 then (some true) else (none)) = some r := H
    have A26 := Aside0.mk A260
    clear A260
    by_cases c27 : t792 = 1
    rotate_left
    · rw [if_neg c27] at H
      exact absurd H (by simp)
    rw [if_pos c27] at H
    have c27b0 : (t792 == 1) = true := beq_iff_eq.mpr c27
    have c27b1 : (t792 != 1) = false := bne_eq_false_iff_eq.mpr c27
    clear c27
    obtain rfl := Option.some.inj H
    go_enter Try.func7, Try.ntmps7
    try go_wp2_with (first | ((with_reducible refine gate_dst (N := 2) rfl ?_); refine Ka_ 2 #[.int .u64 a0_0, .int .u64 a0_1, .int .u64 a0_2, .int .u64 a0_3, .int .i64 a0_4, .bool a0_5] 39 ?_; intro gb751 hg w28 hbox hb; have BK751 := Aside0.mk (hbox); have GW751 := Kw_ HB hg; have GE751 := GW751; replace HB := Ks_ HB hb; clear hb hbox hg) | ((with_reducible refine gate_dst (N := 3) rfl ?_); refine Ka_ 3 #[.int .u64 a1_0, .int .u64 a1_1, .int .u64 a1_2, .int .u64 a1_3, .bool a1_4] 63 ?_; intro gb752 hg w29 hbox hb; have BK752 := Aside0.mk (hbox); have GW752 := Kw_ HB hg; have GE752 := GW752; have NB751_752 := Kl_ BK751 hg; have NB752_751 := Kr_ BK751 hg; replace BK751 := Kb_ BK751 hb; replace HB := Ks_ HB hb; clear hb hbox hg) | ((with_reducible refine gate_callee (f := 11) rfl ?_); refine Kg_ (some 13) rfl rfl Try.func11 (by kernel_rfl) rfl #[] rfl ?_; (with_reducible refine (tenementlaw15_examples.calls  true _ A3.out).mono ?_); rintro e w30 ⟨rfl, hb⟩; refine ⟨_, rfl, ?_⟩; replace BK751 := Kb_ BK751 hb; replace BK752 := Kb_ BK752 hb; replace HB := Ks_ HB hb; (try clear hb); (try clear hb2); (try clear hk); (try clear hi); have hnb31 := NB751_752.out; have hnc31 := NB752_751.out; obtain ⟨hcz32_0, hcz32_1, hcz32_2, hcz32_3, hcz32_4, hcz32_5, hfz32_0, hfz32_1, hfz32_2, hfz32_3, hfz32_4, hfz32_5⟩ := Ke6_ BK751.out) | ((with_reducible refine gate_callee (f := 25) rfl ?_); refine Kg_ (some 18) rfl rfl Try.func25 (by kernel_rfl) rfl #[.agg #[.int .u64 a0_0, .int .u64 a0_1, .int .u64 a0_2, .int .u64 a0_3, .int .i64 a0_4, .bool true]] rfl ?_; (with_reducible refine (tenementlaw15_Mark_mark.calls k a0_0 a0_1 a0_2 a0_3 a0_4 true t754 t755 t756 t757 t758 _ A5.out).mono ?_); rintro e w33 ⟨rfl, hb⟩; refine ⟨_, rfl, ?_⟩; replace BK751 := Aside0.mk (blk_below (g := gb751) (o := .cells #[.int .u64 a0_0, .int .u64 a0_1, .int .u64 a0_2, .int .u64 a0_3, .int .i64 a0_4, .bool true] 39 (0, 0)) (by refine Kv_ ?_; refine blk_put (cs := #[.int .u64 a0_0, .int .u64 a0_1, .int .u64 a0_2, .int .u64 a0_3, .int .i64 a0_4, .bool a0_5]) ?_ 5 _ rfl; exact Kq_ BK751) hb); replace BK752 := Kf_ BK752 NB752_751 hb; replace HB := Kt_ HB GE751 hb; (try clear hb); (try clear hb2); (try clear hk); (try clear hi)) | ((with_reducible refine gate_dst (N := 6) rfl ?_); refine Ka_ 6 #[.int .u64 0, .int .u64 0, .int .u64 0, .int .u64 0, .int .i64 0] 30 ?_; intro gb759 hg w34 hbox hb; have BK759 := Aside0.mk (hbox); have GW759 := Kw_ HB hg; have GE759 := GW759; have NB751_759 := Kl_ BK751 hg; have NB759_751 := Kr_ BK751 hg; have NB752_759 := Kl_ BK752 hg; have NB759_752 := Kr_ BK752 hg; replace BK751 := Kb_ BK751 hb; replace BK752 := Kb_ BK752 hb; replace HB := Ks_ HB hb; clear hb hbox hg; have hnb35 := NB759_751.out; have hnc35 := NB751_759.out; have hnb36 := NB759_752.out; have hnc36 := NB752_759.out; obtain ⟨hcz37_0, hcz37_1, hcz37_2, hcz37_3, hcz37_4, hfz37_0, hfz37_1, hfz37_2, hfz37_3, hfz37_4⟩ := Ke5_ BK759.out; obtain ⟨hcz38_0, hcz38_1, hcz38_2, hcz38_3, hcz38_4, hfz38_0, hfz38_1, hfz38_2, hfz38_3, hfz38_4⟩ := Ke5_ BK752.out) | ((with_reducible refine gate_callee (f := 24) rfl ?_); refine Kg_ (some 20) rfl rfl Try.func24 (by kernel_rfl) rfl #[.agg #[.int .u64 a1_0, .int .u64 a1_1, .int .u64 a1_2, .int .u64 a1_3, .bool a1_4]] rfl ?_; (with_reducible refine (tenementlaw15_Vector_vector.calls k a1_0 a1_1 a1_2 a1_3 a1_4 t760 t761 t762 t763 _ A6.out).mono ?_); rintro e w39 ⟨rfl, hb⟩; refine ⟨_, rfl, ?_⟩; replace BK751 := Kf_ BK751 NB751_759 hb; replace BK752 := Kf_ BK752 NB752_759 hb; replace BK759 := Aside0.mk (blk_below (g := gb759) (o := .cells #[.int .u64 t754, .int .u64 t755, .int .u64 t756, .int .u64 t757, .int .i64 t758] 30 (0, 0)) (by refine Kv_ ?_; refine blk_put (cs := #[.int .u64 t754, .int .u64 t755, .int .u64 t756, .int .u64 t757, .int .i64 0]) ?_ 4 _ rfl; refine Kv_ ?_; refine blk_put (cs := #[.int .u64 t754, .int .u64 t755, .int .u64 t756, .int .u64 0, .int .i64 0]) ?_ 3 _ rfl; refine Kv_ ?_; refine blk_put (cs := #[.int .u64 t754, .int .u64 t755, .int .u64 0, .int .u64 0, .int .i64 0]) ?_ 2 _ rfl; refine Kv_ ?_; refine blk_put (cs := #[.int .u64 t754, .int .u64 0, .int .u64 0, .int .u64 0, .int .i64 0]) ?_ 1 _ rfl; refine Kv_ ?_; refine blk_put (cs := #[.int .u64 0, .int .u64 0, .int .u64 0, .int .u64 0, .int .i64 0]) ?_ 0 _ rfl; exact Kq_ BK759) hb); replace HB := Kt_ HB GE759 hb; (try clear hb); (try clear hb2); (try clear hk); (try clear hi)) | ((with_reducible refine gate_dst (N := 7) rfl ?_); refine Ka_ 7 #[.int .u64 0, .int .u64 0, .int .u64 0, .int .u64 0] 28 ?_; intro gb764 hg w40 hbox hb; have BK764 := Aside0.mk (hbox); have GW764 := Kw_ HB hg; have GE764 := GW764; have NB751_764 := Kl_ BK751 hg; have NB764_751 := Kr_ BK751 hg; have NB752_764 := Kl_ BK752 hg; have NB764_752 := Kr_ BK752 hg; have NB759_764 := Kl_ BK759 hg; have NB764_759 := Kr_ BK759 hg; replace BK751 := Kb_ BK751 hb; replace BK752 := Kb_ BK752 hb; replace BK759 := Kb_ BK759 hb; replace HB := Ks_ HB hb; clear hb hbox hg; have hnb41 := NB764_751.out; have hnc41 := NB751_764.out; have hnb42 := NB764_752.out; have hnc42 := NB752_764.out; have hnb43 := NB764_759.out; have hnc43 := NB759_764.out; obtain ⟨hcz44_0, hcz44_1, hcz44_2, hcz44_3, hfz44_0, hfz44_1, hfz44_2, hfz44_3⟩ := Ke4_ BK764.out; obtain ⟨hcz45_0, hcz45_1, hcz45_2, hcz45_3, hcz45_4, hfz45_0, hfz45_1, hfz45_2, hfz45_3, hfz45_4⟩ := Ke5_ BK759.out) | ((with_reducible refine gate_callee (f := 30) rfl ?_); refine Kg_ (some 23) rfl rfl Try.func30 (by kernel_rfl) rfl #[.agg #[.int .u64 t760, .int .u64 t761, .int .u64 t762, .int .u64 t763], .agg #[.int .u64 t754, .int .u64 t755, .int .u64 t756, .int .u64 t757, .int .i64 t758]] rfl ?_; (with_reducible refine (stream_Ready.calls t760 t761 t762 t763 t754 t755 t756 t757 t758 t765 _ A7.out).mono ?_); rintro e w46 ⟨rfl, hb⟩; refine ⟨_, rfl, ?_⟩; replace BK751 := Kf_ BK751 NB751_764 hb; replace BK752 := Kf_ BK752 NB752_764 hb; replace BK759 := Kf_ BK759 NB759_764 hb; replace BK764 := Aside0.mk (blk_below (g := gb764) (o := .cells #[.int .u64 t760, .int .u64 t761, .int .u64 t762, .int .u64 t763] 28 (0, 0)) (by refine Kv_ ?_; refine blk_put (cs := #[.int .u64 t760, .int .u64 t761, .int .u64 t762, .int .u64 0]) ?_ 3 _ rfl; refine Kv_ ?_; refine blk_put (cs := #[.int .u64 t760, .int .u64 t761, .int .u64 0, .int .u64 0]) ?_ 2 _ rfl; refine Kv_ ?_; refine blk_put (cs := #[.int .u64 t760, .int .u64 0, .int .u64 0, .int .u64 0]) ?_ 1 _ rfl; refine Kv_ ?_; refine blk_put (cs := #[.int .u64 0, .int .u64 0, .int .u64 0, .int .u64 0]) ?_ 0 _ rfl; exact Kq_ BK764) hb); replace HB := Kt_ HB GE764 hb; (try clear hb); (try clear hb2); (try clear hk); (try clear hi); obtain ⟨hcz47_0, hcz47_1, hcz47_2, hcz47_3, hfz47_0, hfz47_1, hfz47_2, hfz47_3⟩ := Ke4_ BK764.out; obtain ⟨hcz48_0, hcz48_1, hcz48_2, hcz48_3, hcz48_4, hfz48_0, hfz48_1, hfz48_2, hfz48_3, hfz48_4⟩ := Ke5_ BK759.out) | ((with_reducible refine gate_callee (f := 45) rfl ?_); refine Kg_ (some 27) rfl rfl Try.func45 (by kernel_rfl) rfl #[.agg #[.int .u64 t760, .int .u64 t761, .int .u64 t762, .int .u64 t763], .agg #[.int .u64 t754, .int .u64 t755, .int .u64 t756, .int .u64 t757]] rfl ?_; (with_reducible refine (vec_Join.calls t760 t761 t762 t763 t754 t755 t756 t757 t766 t767 t768 t769 _ A8.out).mono ?_); rintro e w49 ⟨rfl, hb⟩; refine ⟨_, rfl, ?_⟩; replace BK751 := Kb_ BK751 hb; replace BK752 := Kb_ BK752 hb; replace BK759 := Kb_ BK759 hb; replace BK764 := Kb_ BK764 hb; replace HB := Ks_ HB hb; (try clear hb); (try clear hb2); (try clear hk); (try clear hi)) | ((with_reducible refine gate_dst (N := 9) rfl ?_); refine Ka_ 9 #[.int .u64 0, .int .u64 0, .int .u64 0, .int .u64 0] 28 ?_; intro gb770 hg w50 hbox hb; have BK770 := Aside0.mk (hbox); have GW770 := Kw_ HB hg; have GE770 := GW770; have NB751_770 := Kl_ BK751 hg; have NB770_751 := Kr_ BK751 hg; have NB752_770 := Kl_ BK752 hg; have NB770_752 := Kr_ BK752 hg; have NB759_770 := Kl_ BK759 hg; have NB770_759 := Kr_ BK759 hg; have NB764_770 := Kl_ BK764 hg; have NB770_764 := Kr_ BK764 hg; replace BK751 := Kb_ BK751 hb; replace BK752 := Kb_ BK752 hb; replace BK759 := Kb_ BK759 hb; replace BK764 := Kb_ BK764 hb; replace HB := Ks_ HB hb; clear hb hbox hg; have hnb51 := NB770_751.out; have hnc51 := NB751_770.out; have hnb52 := NB770_752.out; have hnc52 := NB752_770.out; have hnb53 := NB770_759.out; have hnc53 := NB759_770.out; have hnb54 := NB770_764.out; have hnc54 := NB764_770.out; obtain ⟨hcz55_0, hcz55_1, hcz55_2, hcz55_3, hfz55_0, hfz55_1, hfz55_2, hfz55_3⟩ := Ke4_ BK770.out))
    have n0_ : Aside0 (((((w50.setCell ⟨gb770, 0, none⟩ (.int .u64 t766)).setCell ⟨gb770, 1, none⟩ (.int .u64 t767)).setCell ⟨gb770, 2, none⟩ (.int .u64 t768)).setCell ⟨gb770, 3, none⟩ (.int .u64 t769)).heap[gb751]? = some (.cells #[.int .u64 a0_0, .int .u64 a0_1, .int .u64 a0_2, .int .u64 a0_3, .int .i64 a0_4, .bool true] 39 (0, 0))) := ⟨by exact K1b_ BK751 NB751_770⟩
    have n1_ : Aside0 (((((w50.setCell ⟨gb770, 0, none⟩ (.int .u64 t766)).setCell ⟨gb770, 1, none⟩ (.int .u64 t767)).setCell ⟨gb770, 2, none⟩ (.int .u64 t768)).setCell ⟨gb770, 3, none⟩ (.int .u64 t769)).heap[gb752]? = some (.cells #[.int .u64 a1_0, .int .u64 a1_1, .int .u64 a1_2, .int .u64 a1_3, .bool a1_4] 63 (0, 0))) := ⟨by exact K1b_ BK752 NB752_770⟩
    have n2_ : Aside0 (((((w50.setCell ⟨gb770, 0, none⟩ (.int .u64 t766)).setCell ⟨gb770, 1, none⟩ (.int .u64 t767)).setCell ⟨gb770, 2, none⟩ (.int .u64 t768)).setCell ⟨gb770, 3, none⟩ (.int .u64 t769)).heap[gb759]? = some (.cells #[.int .u64 t754, .int .u64 t755, .int .u64 t756, .int .u64 t757, .int .i64 t758] 30 (0, 0))) := ⟨by exact K1b_ BK759 NB759_770⟩
    have n3_ : Aside0 (((((w50.setCell ⟨gb770, 0, none⟩ (.int .u64 t766)).setCell ⟨gb770, 1, none⟩ (.int .u64 t767)).setCell ⟨gb770, 2, none⟩ (.int .u64 t768)).setCell ⟨gb770, 3, none⟩ (.int .u64 t769)).heap[gb764]? = some (.cells #[.int .u64 t760, .int .u64 t761, .int .u64 t762, .int .u64 t763] 28 (0, 0))) := ⟨by exact K1b_ BK764 NB764_770⟩
    have n4_ : Aside0 (((((w50.setCell ⟨gb770, 0, none⟩ (.int .u64 t766)).setCell ⟨gb770, 1, none⟩ (.int .u64 t767)).setCell ⟨gb770, 2, none⟩ (.int .u64 t768)).setCell ⟨gb770, 3, none⟩ (.int .u64 t769)).heap[gb770]? = some (.cells #[.int .u64 t766, .int .u64 t767, .int .u64 t768, .int .u64 t769] 28 (0, 0))) := ⟨by refine Kv_ ?_; refine blk_put (cs := #[.int .u64 t766, .int .u64 t767, .int .u64 t768, .int .u64 0]) ?_ 3 _ rfl; refine Kv_ ?_; refine blk_put (cs := #[.int .u64 t766, .int .u64 t767, .int .u64 0, .int .u64 0]) ?_ 2 _ rfl; refine Kv_ ?_; refine blk_put (cs := #[.int .u64 t766, .int .u64 0, .int .u64 0, .int .u64 0]) ?_ 1 _ rfl; refine Kv_ ?_; refine blk_put (cs := #[.int .u64 0, .int .u64 0, .int .u64 0, .int .u64 0]) ?_ 0 _ rfl; exact Kq_ BK770⟩
    have n5_ : Aside0 (Below w.heap.size w ((((w50.setCell ⟨gb770, 0, none⟩ (.int .u64 t766)).setCell ⟨gb770, 1, none⟩ (.int .u64 t767)).setCell ⟨gb770, 2, none⟩ (.int .u64 t768)).setCell ⟨gb770, 3, none⟩ (.int .u64 t769))) := ⟨by repeat (first | (with_reducible first | exact HB.out | apply below_alloc | apply pw_below_drewN | apply below_drew1 | refine below_set ?_ GE751.out | refine below_set ?_ GE752.out | refine below_set ?_ GE759.out | refine below_set ?_ GE764.out | refine below_set ?_ GE770.out) | exact HB.out)⟩
    (try clear BK751)
    (try clear BK752)
    (try clear BK759)
    (try clear BK764)
    (try clear BK770)
    (try clear HB)
    generalize ((((w50.setCell ⟨gb770, 0, none⟩ (.int .u64 t766)).setCell ⟨gb770, 1, none⟩ (.int .u64 t767)).setCell ⟨gb770, 2, none⟩ (.int .u64 t768)).setCell ⟨gb770, 3, none⟩ (.int .u64 t769)) = w56 at n0_ n1_ n2_ n3_ n4_ n5_ ⊢
    have BK751 := n0_
    have BK752 := n1_
    have BK759 := n2_
    have BK764 := n3_
    have BK770 := n4_
    have HB := n5_
    clear n0_ n1_ n2_ n3_ n4_ n5_
    replace BK751 := Kd_ BK751
    replace BK752 := Kd_ BK752
    replace BK759 := Kd_ BK759
    replace BK764 := Kd_ BK764
    replace BK770 := Kd_ BK770
    replace HB := Aside0.mk (below_drew1 HB.out)
    refine start_ (n := 9) (S := fun w' => w'.cell? ⟨gb770, 0, none⟩ = some (.int .u64 t766) ∧ w'.cell? ⟨gb770, 1, none⟩ = some (.int .u64 t767) ∧ w'.cell? ⟨gb770, 2, none⟩ = some (.int .u64 t768) ∧ w'.cell? ⟨gb770, 3, none⟩ = some (.int .u64 t769) ∧ w'.cell? ⟨gb759, 0, none⟩ = some (.int .u64 t754) ∧ w'.cell? ⟨gb759, 1, none⟩ = some (.int .u64 t755) ∧ w'.cell? ⟨gb759, 2, none⟩ = some (.int .u64 t756) ∧ w'.cell? ⟨gb759, 3, none⟩ = some (.int .u64 t757) ∧ w'.cell? ⟨gb759, 4, none⟩ = some (.int .i64 t758)) (ds := []) #[false, false, false, false, false, false, false, false, false] (by kernel_rfl) rfl rfl ⟨Km_ BK770 0, Km_ BK770 1, Km_ BK770 2, Km_ BK770 3, Km_ BK759 0, Km_ BK759 1, Km_ BK759 2, Km_ BK759 3, Km_ BK759 4⟩ (fun hHeld => ?_); refine with_tabW tenementlaw15_StreamReady_p0.tab9 tenementlaw15_StreamReady_p0.bits9 (fun HT_ HW_ => ?_)
    generalize w56.drew = w57 at BK751 BK752 BK759 BK764 BK770 HB hHeld ⊢
    refine Kp_ 1 29 #[false, true, false, false, false, false, false, false, false] (any_of HT_.out (by kernel_rfl)) ?_
    refine Ko_ 0 28 #[true, true, false, false, false, false, false, false, false] (take_ofW HT_.out HW_.out (by kernel_rfl)) hHeld ?_
    refine Ko_ 2 30 #[true, true, true, false, false, false, false, false, false] (take_ofW HT_.out HW_.out (by kernel_rfl)) hHeld ?_
    refine Ko_ 3 31 #[true, true, true, true, false, false, false, false, false] (take_ofW HT_.out HW_.out (by kernel_rfl)) hHeld ?_
    refine join_ (σ := Nat) 1 #[true, true, true, true, true, true, true, true, false] (fun s_ => [(32, .int .u64 t771), (34, .agg #[.int .u64 t772, .int .u64 t773, .int .u64 t774, .int .u64 t775]), (10, .pointer (some ⟨s_, 0, none⟩)), (33, .int .u64 (IntKind.u64.wrap (t771 - 1)))]) (fun s_ w' => (w'.cell? ⟨gb770, 0, none⟩ = some (.int .u64 t766) ∧ w'.cell? ⟨gb770, 1, none⟩ = some (.int .u64 t767) ∧ w'.cell? ⟨gb770, 2, none⟩ = some (.int .u64 t768) ∧ w'.cell? ⟨gb770, 3, none⟩ = some (.int .u64 t769) ∧ w'.cell? ⟨gb759, 0, none⟩ = some (.int .u64 t754) ∧ w'.cell? ⟨gb759, 1, none⟩ = some (.int .u64 t755) ∧ w'.cell? ⟨gb759, 2, none⟩ = some (.int .u64 t756) ∧ w'.cell? ⟨gb759, 3, none⟩ = some (.int .u64 t757) ∧ w'.cell? ⟨gb759, 4, none⟩ = some (.int .i64 t758)) ∧ (w'.heap[gb751]? = some (.cells #[.int .u64 a0_0, .int .u64 a0_1, .int .u64 a0_2, .int .u64 a0_3, .int .i64 a0_4, .bool true] 39 (0, 0))) ∧ (w'.heap[gb752]? = some (.cells #[.int .u64 a1_0, .int .u64 a1_1, .int .u64 a1_2, .int .u64 a1_3, .bool a1_4] 63 (0, 0))) ∧ (w'.heap[gb759]? = some (.cells #[.int .u64 t754, .int .u64 t755, .int .u64 t756, .int .u64 t757, .int .i64 t758] 30 (0, 0))) ∧ (w'.heap[gb764]? = some (.cells #[.int .u64 t760, .int .u64 t761, .int .u64 t762, .int .u64 t763] 28 (0, 0))) ∧ (w'.heap[gb770]? = some (.cells #[.int .u64 t766, .int .u64 t767, .int .u64 t768, .int .u64 t769] 28 (0, 0))) ∧ (w'.heap[s_]? = some (.cells #[.int .u64 0, .int .u64 0, .int .u64 0, .int .u64 0] 28 (0, 0))) ∧ (w.heap.size ≤ s_) ∧ (w.heap.size ≤ s_) ∧ (gb751 ≠ s_) ∧ (s_ ≠ gb751) ∧ (gb752 ≠ s_) ∧ (s_ ≠ gb752) ∧ (gb759 ≠ s_) ∧ (s_ ≠ gb759) ∧ (gb764 ≠ s_) ∧ (s_ ≠ gb764) ∧ (gb770 ≠ s_) ∧ (s_ ≠ gb770) ∧ (Below w.heap.size w w')) ?_ ?_
    rotate_left
    · intro hCont
      refine two_ (i := 4) (j := 7) (Ni := some 32) (Nj := some 10) #[true, true, true, true, true, false, false, false, false] #[true, true, true, true, false, false, false, true, false] rfl rfl rfl rfl (two_of HT_.out (by kernel_rfl)) (by decide) (by decide) (fun K hK => ?_) (fun K hK => ?_)
      · skip
        refine goes_ Try.func47 (by kernel_rfl) rfl #[.agg #[.int .u64 t754, .int .u64 t755, .int .u64 t756, .int .u64 t757, .int .i64 t758]] (by rfl) rfl rfl (by (try simp only [List.map_toArray, List.map_cons, List.map_nil]); first | done | rfl | (simp only [List.length_drop, List.length_take]; rfl)) ?_
        with_reducible refine (stamp_Stamp_N.calls t754 t755 t756 t757 t758 t771 _ A9.out).mono ?_
        rintro e w58 ⟨rfl, hb⟩
        refine ⟨_, rfl, ?_⟩
        replace BK751 := Kb_ BK751 hb
        replace BK752 := Kb_ BK752 hb
        replace BK759 := Kb_ BK759 hb
        replace BK764 := Kb_ BK764 hb
        replace BK770 := Kb_ BK770 hb
        replace HB := Ks_ HB hb
        (try clear hb)
        (try clear hb2)
        (try clear hk)
        (try clear hi)
        refine hK.out _ _ ⟨Km_ BK770 0, Km_ BK770 1, Km_ BK770 2, Km_ BK770 3, Km_ BK759 0, Km_ BK759 1, Km_ BK759 2, Km_ BK759 3, Km_ BK759 4⟩ (fun hHeld => ?_)
        clear hK K
        refine Kn_ 32 ?_
        refine Kp_ 5 33 #[true, true, true, true, true, true, false, false, false] (any_of HT_.out (by kernel_rfl)) ?_
        refine two_ (i := 6) (j := 7) (Ni := some 34) (Nj := some 10) #[true, true, true, true, true, true, true, false, false] #[true, true, true, true, true, true, false, true, false] rfl rfl rfl rfl (two_of HT_.out (by kernel_rfl)) (by decide) (by decide) (fun K hK => ?_) (fun K hK => ?_)
        · skip
          refine goes_ Try.func46 (by kernel_rfl) rfl #[.agg #[.int .u64 t766, .int .u64 t767, .int .u64 t768, .int .u64 t769], .int .i64 t758, .int .u64 (IntKind.u64.wrap (t771 - 1))] (by rfl) rfl rfl (by (try simp only [List.map_toArray, List.map_cons, List.map_nil]); first | done | rfl | (simp only [List.length_drop, List.length_take]; rfl)) ?_
          with_reducible refine (vec_With.calls t766 t767 t768 t769 t758 (IntKind.u64.wrap (t771 - 1)) t772 t773 t774 t775 _ A10.out).mono ?_
          rintro e w59 ⟨rfl, hb⟩
          refine ⟨_, rfl, ?_⟩
          replace BK751 := Kb_ BK751 hb
          replace BK752 := Kb_ BK752 hb
          replace BK759 := Kb_ BK759 hb
          replace BK764 := Kb_ BK764 hb
          replace BK770 := Kb_ BK770 hb
          replace HB := Ks_ HB hb
          (try clear hb)
          (try clear hb2)
          (try clear hk)
          (try clear hi)
          refine hK.out _ _ ⟨Km_ BK770 0, Km_ BK770 1, Km_ BK770 2, Km_ BK770 3, Km_ BK759 0, Km_ BK759 1, Km_ BK759 2, Km_ BK759 3, Km_ BK759 4⟩ (fun hHeld => ?_)
          clear hK K
          refine Kn_ 34 ?_
          refine one_ (i := 7) (N := some 10) #[true, true, true, true, true, true, true, true, false] rfl rfl (one_of HT_.out (by kernel_rfl)) (by decide) (fun K hK => ?_)
          refine box_step ?hg (N := 10) ?hd (cs := #[.int .u64 0, .int .u64 0, .int .u64 0, .int .u64 0]) (t := 28) ?hr ?_; (case hd => rfl); (case hg => rfl); (case hr => first | (go_simp; done) | (go_simp; rfl))
          intro gb776 hg w60 hbox hb
          have BK776 := Aside0.mk (hbox)
          have GW776 := Kw_ HB hg
          have GE776 := GW776
          have NB751_776 := Kl_ BK751 hg
          have NB776_751 := Kr_ BK751 hg
          have NB752_776 := Kl_ BK752 hg
          have NB776_752 := Kr_ BK752 hg
          have NB759_776 := Kl_ BK759 hg
          have NB776_759 := Kr_ BK759 hg
          have NB764_776 := Kl_ BK764 hg
          have NB776_764 := Kr_ BK764 hg
          have NB770_776 := Kl_ BK770 hg
          have NB776_770 := Kr_ BK770 hg
          replace BK751 := Kb_ BK751 hb
          replace BK752 := Kb_ BK752 hb
          replace BK759 := Kb_ BK759 hb
          replace BK764 := Kb_ BK764 hb
          replace BK770 := Kb_ BK770 hb
          replace HB := Ks_ HB hb
          clear hb hbox hg
          refine hK.out _ _ ⟨Km_ BK770 0, Km_ BK770 1, Km_ BK770 2, Km_ BK770 3, Km_ BK759 0, Km_ BK759 1, Km_ BK759 2, Km_ BK759 3, Km_ BK759 4⟩ (fun hHeld => ?_)
          clear hK K
          refine Kn_ 10 ?_
          exact norm_ (by simp only [putAll, Act.put, List.setIfInBounds_toArray, List.set_cons_zero, List.set_cons_succ]) (hCont (gb776) _ ⟨hHeld, (Kq_ BK751), (Kq_ BK752), (Kq_ BK759), (Kq_ BK764), (Kq_ BK770), (Kq_ BK776), GW776.out, GE776.out, NB751_776.out, NB776_751.out, NB752_776.out, NB776_752.out, NB759_776.out, NB776_759.out, NB764_776.out, NB776_764.out, NB770_776.out, NB776_770.out, (by repeat (first | (with_reducible first | exact HB.out | apply below_alloc | apply pw_below_drewN | apply below_drew1 | refine below_set ?_ GE751.out | refine below_set ?_ GE752.out | refine below_set ?_ GE759.out | refine below_set ?_ GE764.out | refine below_set ?_ GE770.out | refine below_set ?_ GE776.out) | exact HB.out))⟩)
        · skip
          refine box_step ?hg (N := 10) ?hd (cs := #[.int .u64 0, .int .u64 0, .int .u64 0, .int .u64 0]) (t := 28) ?hr ?_; (case hd => rfl); (case hg => rfl); (case hr => first | (go_simp; done) | (go_simp; rfl))
          intro gb776 hg w59 hbox hb
          have BK776 := Aside0.mk (hbox)
          have GW776 := Kw_ HB hg
          have GE776 := GW776
          have NB751_776 := Kl_ BK751 hg
          have NB776_751 := Kr_ BK751 hg
          have NB752_776 := Kl_ BK752 hg
          have NB776_752 := Kr_ BK752 hg
          have NB759_776 := Kl_ BK759 hg
          have NB776_759 := Kr_ BK759 hg
          have NB764_776 := Kl_ BK764 hg
          have NB776_764 := Kr_ BK764 hg
          have NB770_776 := Kl_ BK770 hg
          have NB776_770 := Kr_ BK770 hg
          replace BK751 := Kb_ BK751 hb
          replace BK752 := Kb_ BK752 hb
          replace BK759 := Kb_ BK759 hb
          replace BK764 := Kb_ BK764 hb
          replace BK770 := Kb_ BK770 hb
          replace HB := Ks_ HB hb
          clear hb hbox hg
          refine hK.out _ _ ⟨Km_ BK770 0, Km_ BK770 1, Km_ BK770 2, Km_ BK770 3, Km_ BK759 0, Km_ BK759 1, Km_ BK759 2, Km_ BK759 3, Km_ BK759 4⟩ (fun hHeld => ?_)
          clear hK K
          refine Kn_ 10 ?_
          refine one_ (i := 6) (N := some 34) #[true, true, true, true, true, true, true, true, false] rfl rfl (one_of HT_.out (by kernel_rfl)) (by decide) (fun K hK => ?_)
          refine goes_ Try.func46 (by kernel_rfl) rfl #[.agg #[.int .u64 t766, .int .u64 t767, .int .u64 t768, .int .u64 t769], .int .i64 t758, .int .u64 (IntKind.u64.wrap (t771 - 1))] (by rfl) rfl rfl (by (try simp only [List.map_toArray, List.map_cons, List.map_nil]); first | done | rfl | (simp only [List.length_drop, List.length_take]; rfl)) ?_
          with_reducible refine (vec_With.calls t766 t767 t768 t769 t758 (IntKind.u64.wrap (t771 - 1)) t772 t773 t774 t775 _ A10.out).mono ?_
          rintro e w60 ⟨rfl, hb⟩
          refine ⟨_, rfl, ?_⟩
          replace BK751 := Kb_ BK751 hb
          replace BK752 := Kb_ BK752 hb
          replace BK759 := Kb_ BK759 hb
          replace BK764 := Kb_ BK764 hb
          replace BK770 := Kb_ BK770 hb
          replace BK776 := Kb_ BK776 hb
          replace HB := Ks_ HB hb
          (try clear hb)
          (try clear hb2)
          (try clear hk)
          (try clear hi)
          refine hK.out _ _ ⟨Km_ BK770 0, Km_ BK770 1, Km_ BK770 2, Km_ BK770 3, Km_ BK759 0, Km_ BK759 1, Km_ BK759 2, Km_ BK759 3, Km_ BK759 4⟩ (fun hHeld => ?_)
          clear hK K
          refine Kn_ 34 ?_
          exact norm_ (by simp only [putAll, Act.put, List.setIfInBounds_toArray, List.set_cons_zero, List.set_cons_succ]) (hCont (gb776) _ ⟨hHeld, (Kq_ BK751), (Kq_ BK752), (Kq_ BK759), (Kq_ BK764), (Kq_ BK770), (Kq_ BK776), GW776.out, GE776.out, NB751_776.out, NB776_751.out, NB752_776.out, NB776_752.out, NB759_776.out, NB776_759.out, NB764_776.out, NB776_764.out, NB770_776.out, NB776_770.out, (by repeat (first | (with_reducible first | exact HB.out | apply below_alloc | apply pw_below_drewN | apply below_drew1 | refine below_set ?_ GE751.out | refine below_set ?_ GE752.out | refine below_set ?_ GE759.out | refine below_set ?_ GE764.out | refine below_set ?_ GE770.out | refine below_set ?_ GE776.out) | exact HB.out))⟩)
      · skip
        refine box_step ?hg (N := 10) ?hd (cs := #[.int .u64 0, .int .u64 0, .int .u64 0, .int .u64 0]) (t := 28) ?hr ?_; (case hd => rfl); (case hg => rfl); (case hr => first | (go_simp; done) | (go_simp; rfl))
        intro gb776 hg w58 hbox hb
        have BK776 := Aside0.mk (hbox)
        have GW776 := Kw_ HB hg
        have GE776 := GW776
        have NB751_776 := Kl_ BK751 hg
        have NB776_751 := Kr_ BK751 hg
        have NB752_776 := Kl_ BK752 hg
        have NB776_752 := Kr_ BK752 hg
        have NB759_776 := Kl_ BK759 hg
        have NB776_759 := Kr_ BK759 hg
        have NB764_776 := Kl_ BK764 hg
        have NB776_764 := Kr_ BK764 hg
        have NB770_776 := Kl_ BK770 hg
        have NB776_770 := Kr_ BK770 hg
        replace BK751 := Kb_ BK751 hb
        replace BK752 := Kb_ BK752 hb
        replace BK759 := Kb_ BK759 hb
        replace BK764 := Kb_ BK764 hb
        replace BK770 := Kb_ BK770 hb
        replace HB := Ks_ HB hb
        clear hb hbox hg
        refine hK.out _ _ ⟨Km_ BK770 0, Km_ BK770 1, Km_ BK770 2, Km_ BK770 3, Km_ BK759 0, Km_ BK759 1, Km_ BK759 2, Km_ BK759 3, Km_ BK759 4⟩ (fun hHeld => ?_)
        clear hK K
        refine Kn_ 10 ?_
        refine one_ (i := 4) (N := some 32) #[true, true, true, true, true, false, false, true, false] rfl rfl (one_of HT_.out (by kernel_rfl)) (by decide) (fun K hK => ?_)
        refine goes_ Try.func47 (by kernel_rfl) rfl #[.agg #[.int .u64 t754, .int .u64 t755, .int .u64 t756, .int .u64 t757, .int .i64 t758]] (by rfl) rfl rfl (by (try simp only [List.map_toArray, List.map_cons, List.map_nil]); first | done | rfl | (simp only [List.length_drop, List.length_take]; rfl)) ?_
        with_reducible refine (stamp_Stamp_N.calls t754 t755 t756 t757 t758 t771 _ A9.out).mono ?_
        rintro e w59 ⟨rfl, hb⟩
        refine ⟨_, rfl, ?_⟩
        replace BK751 := Kb_ BK751 hb
        replace BK752 := Kb_ BK752 hb
        replace BK759 := Kb_ BK759 hb
        replace BK764 := Kb_ BK764 hb
        replace BK770 := Kb_ BK770 hb
        replace BK776 := Kb_ BK776 hb
        replace HB := Ks_ HB hb
        (try clear hb)
        (try clear hb2)
        (try clear hk)
        (try clear hi)
        refine hK.out _ _ ⟨Km_ BK770 0, Km_ BK770 1, Km_ BK770 2, Km_ BK770 3, Km_ BK759 0, Km_ BK759 1, Km_ BK759 2, Km_ BK759 3, Km_ BK759 4⟩ (fun hHeld => ?_)
        clear hK K
        refine Kn_ 32 ?_
        refine Kp_ 5 33 #[true, true, true, true, true, true, false, true, false] (any_of HT_.out (by kernel_rfl)) ?_
        refine one_ (i := 6) (N := some 34) #[true, true, true, true, true, true, true, true, false] rfl rfl (one_of HT_.out (by kernel_rfl)) (by decide) (fun K hK => ?_)
        refine goes_ Try.func46 (by kernel_rfl) rfl #[.agg #[.int .u64 t766, .int .u64 t767, .int .u64 t768, .int .u64 t769], .int .i64 t758, .int .u64 (IntKind.u64.wrap (t771 - 1))] (by rfl) rfl rfl (by (try simp only [List.map_toArray, List.map_cons, List.map_nil]); first | done | rfl | (simp only [List.length_drop, List.length_take]; rfl)) ?_
        with_reducible refine (vec_With.calls t766 t767 t768 t769 t758 (IntKind.u64.wrap (t771 - 1)) t772 t773 t774 t775 _ A10.out).mono ?_
        rintro e w60 ⟨rfl, hb⟩
        refine ⟨_, rfl, ?_⟩
        replace BK751 := Kb_ BK751 hb
        replace BK752 := Kb_ BK752 hb
        replace BK759 := Kb_ BK759 hb
        replace BK764 := Kb_ BK764 hb
        replace BK770 := Kb_ BK770 hb
        replace BK776 := Kb_ BK776 hb
        replace HB := Ks_ HB hb
        (try clear hb)
        (try clear hb2)
        (try clear hk)
        (try clear hi)
        refine hK.out _ _ ⟨Km_ BK770 0, Km_ BK770 1, Km_ BK770 2, Km_ BK770 3, Km_ BK759 0, Km_ BK759 1, Km_ BK759 2, Km_ BK759 3, Km_ BK759 4⟩ (fun hHeld => ?_)
        clear hK K
        refine Kn_ 34 ?_
        exact norm_ (by simp only [putAll, Act.put, List.setIfInBounds_toArray, List.set_cons_zero, List.set_cons_succ]) (hCont (gb776) _ ⟨hHeld, (Kq_ BK751), (Kq_ BK752), (Kq_ BK759), (Kq_ BK764), (Kq_ BK770), (Kq_ BK776), GW776.out, GE776.out, NB751_776.out, NB776_751.out, NB752_776.out, NB776_752.out, NB759_776.out, NB776_759.out, NB764_776.out, NB776_764.out, NB770_776.out, NB776_770.out, (by repeat (first | (with_reducible first | exact HB.out | apply below_alloc | apply pw_below_drewN | apply below_drew1 | refine below_set ?_ GE751.out | refine below_set ?_ GE752.out | refine below_set ?_ GE759.out | refine below_set ?_ GE764.out | refine below_set ?_ GE770.out | refine below_set ?_ GE776.out) | exact HB.out))⟩)
    rintro gb776 w61 ⟨hS_, h0_, h1_, h2_, h3_, h4_, h5_, h6_, h7_, h8_, h9_, h10_, h11_, h12_, h13_, h14_, h15_, h16_, h17_, h18_⟩
    have n0_ : Aside0 (w61.heap[gb751]? = some (.cells #[.int .u64 a0_0, .int .u64 a0_1, .int .u64 a0_2, .int .u64 a0_3, .int .i64 a0_4, .bool true] 39 (0, 0))) := ⟨h0_⟩
    have n1_ : Aside0 (w61.heap[gb752]? = some (.cells #[.int .u64 a1_0, .int .u64 a1_1, .int .u64 a1_2, .int .u64 a1_3, .bool a1_4] 63 (0, 0))) := ⟨h1_⟩
    have n2_ : Aside0 (w61.heap[gb759]? = some (.cells #[.int .u64 t754, .int .u64 t755, .int .u64 t756, .int .u64 t757, .int .i64 t758] 30 (0, 0))) := ⟨h2_⟩
    have n3_ : Aside0 (w61.heap[gb764]? = some (.cells #[.int .u64 t760, .int .u64 t761, .int .u64 t762, .int .u64 t763] 28 (0, 0))) := ⟨h3_⟩
    have n4_ : Aside0 (w61.heap[gb770]? = some (.cells #[.int .u64 t766, .int .u64 t767, .int .u64 t768, .int .u64 t769] 28 (0, 0))) := ⟨h4_⟩
    have n5_ : Aside0 (w61.heap[gb776]? = some (.cells #[.int .u64 0, .int .u64 0, .int .u64 0, .int .u64 0] 28 (0, 0))) := ⟨h5_⟩
    have n6_ : Aside0 (w.heap.size ≤ gb776) := ⟨h6_⟩
    have n7_ : Aside0 (w.heap.size ≤ gb776) := ⟨h7_⟩
    have n8_ : Aside0 (gb751 ≠ gb776) := ⟨h8_⟩
    have n9_ : Aside0 (gb776 ≠ gb751) := ⟨h9_⟩
    have n10_ : Aside0 (gb752 ≠ gb776) := ⟨h10_⟩
    have n11_ : Aside0 (gb776 ≠ gb752) := ⟨h11_⟩
    have n12_ : Aside0 (gb759 ≠ gb776) := ⟨h12_⟩
    have n13_ : Aside0 (gb776 ≠ gb759) := ⟨h13_⟩
    have n14_ : Aside0 (gb764 ≠ gb776) := ⟨h14_⟩
    have n15_ : Aside0 (gb776 ≠ gb764) := ⟨h15_⟩
    have n16_ : Aside0 (gb770 ≠ gb776) := ⟨h16_⟩
    have n17_ : Aside0 (gb776 ≠ gb770) := ⟨h17_⟩
    have n18_ : Aside0 (Below w.heap.size w w61) := ⟨h18_⟩
    clear BK751
    clear BK752
    clear BK759
    clear BK764
    clear BK770
    clear HB
    clear h0_ h1_ h2_ h3_ h4_ h5_ h6_ h7_ h8_ h9_ h10_ h11_ h12_ h13_ h14_ h15_ h16_ h17_ h18_
    have BK751 := n0_
    have BK752 := n1_
    have BK759 := n2_
    have BK764 := n3_
    have BK770 := n4_
    have BK776 := n5_
    have GW776 := n6_
    have GE776 := n7_
    have NB751_776 := n8_
    have NB776_751 := n9_
    have NB752_776 := n10_
    have NB776_752 := n11_
    have NB759_776 := n12_
    have NB776_759 := n13_
    have NB764_776 := n14_
    have NB776_764 := n15_
    have NB770_776 := n16_
    have NB776_770 := n17_
    have HB := n18_
    clear n0_ n1_ n2_ n3_ n4_ n5_ n6_ n7_ n8_ n9_ n10_ n11_ n12_ n13_ n14_ n15_ n16_ n17_ n18_
    have hHeld : w61.cell? ⟨gb770, 0, none⟩ = some (.int .u64 t766) ∧ w61.cell? ⟨gb770, 1, none⟩ = some (.int .u64 t767) ∧ w61.cell? ⟨gb770, 2, none⟩ = some (.int .u64 t768) ∧ w61.cell? ⟨gb770, 3, none⟩ = some (.int .u64 t769) ∧ w61.cell? ⟨gb759, 0, none⟩ = some (.int .u64 t754) ∧ w61.cell? ⟨gb759, 1, none⟩ = some (.int .u64 t755) ∧ w61.cell? ⟨gb759, 2, none⟩ = some (.int .u64 t756) ∧ w61.cell? ⟨gb759, 3, none⟩ = some (.int .u64 t757) ∧ w61.cell? ⟨gb759, 4, none⟩ = some (.int .i64 t758) := hS_
    refine norm_ (a' := ?_) ?_ ?_
    rotate_left
    · simp only [putAll, Act.put, List.setIfInBounds_toArray, List.set_cons_zero, List.set_cons_succ]
      rfl
    refine one_ (i := 8) (N := none) #[true, true, true, true, true, true, true, true, true] rfl rfl (one_of HT_.out (by kernel_rfl)) (by decide) (fun K hK => ?_)
    have hs62 : w61.cell? ⟨gb776, 0, none⟩ = some (.int .u64 0) := (blk_cell BK776.out 0).trans rfl
    have hfs62 := blk_frozen BK776.out 0
    have hns62_0 := NB751_776.out
    have hns62_1 := NB752_776.out
    have hns62_2 := NB759_776.out
    have hns62_3 := NB764_776.out
    have hns62_4 := NB770_776.out
    have hms62_0 := NB776_751.out
    have hms62_1 := NB776_752.out
    have hms62_2 := NB776_759.out
    have hms62_3 := NB776_764.out
    have hms62_4 := NB776_770.out
    have hs63 : w61.cell? ⟨gb776, 1, none⟩ = some (.int .u64 0) := (blk_cell BK776.out 1).trans rfl
    have hfs63 := blk_frozen BK776.out 1
    have hns63_0 := NB751_776.out
    have hns63_1 := NB752_776.out
    have hns63_2 := NB759_776.out
    have hns63_3 := NB764_776.out
    have hns63_4 := NB770_776.out
    have hms63_0 := NB776_751.out
    have hms63_1 := NB776_752.out
    have hms63_2 := NB776_759.out
    have hms63_3 := NB776_764.out
    have hms63_4 := NB776_770.out
    have hs64 : w61.cell? ⟨gb776, 2, none⟩ = some (.int .u64 0) := (blk_cell BK776.out 2).trans rfl
    have hfs64 := blk_frozen BK776.out 2
    have hns64_0 := NB751_776.out
    have hns64_1 := NB752_776.out
    have hns64_2 := NB759_776.out
    have hns64_3 := NB764_776.out
    have hns64_4 := NB770_776.out
    have hms64_0 := NB776_751.out
    have hms64_1 := NB776_752.out
    have hms64_2 := NB776_759.out
    have hms64_3 := NB776_764.out
    have hms64_4 := NB776_770.out
    have hs65 : w61.cell? ⟨gb776, 3, none⟩ = some (.int .u64 0) := (blk_cell BK776.out 3).trans rfl
    have hfs65 := blk_frozen BK776.out 3
    have hns65_0 := NB751_776.out
    have hns65_1 := NB752_776.out
    have hns65_2 := NB759_776.out
    have hns65_3 := NB764_776.out
    have hns65_4 := NB770_776.out
    have hms65_0 := NB776_751.out
    have hms65_1 := NB776_752.out
    have hms65_2 := NB776_759.out
    have hms65_3 := NB776_764.out
    have hms65_4 := NB776_770.out
    refine skip_ (w1 := ?_) (by rfl) rfl ?_ ?_
    rotate_left
    · go_simp
      rfl
    refine hK.out _ _ ⟨(Kj_ NB770_776 ((Kj_ NB770_776 ((Kj_ NB770_776 ((Kj_ NB770_776 (hHeld.1)))))))), (Kj_ NB770_776 ((Kj_ NB770_776 ((Kj_ NB770_776 ((Kj_ NB770_776 (hHeld.2.1)))))))), (Kj_ NB770_776 ((Kj_ NB770_776 ((Kj_ NB770_776 ((Kj_ NB770_776 (hHeld.2.2.1)))))))), (Kj_ NB770_776 ((Kj_ NB770_776 ((Kj_ NB770_776 ((Kj_ NB770_776 (hHeld.2.2.2.1)))))))), (Kj_ NB759_776 ((Kj_ NB759_776 ((Kj_ NB759_776 ((Kj_ NB759_776 (hHeld.2.2.2.2.1)))))))), (Kj_ NB759_776 ((Kj_ NB759_776 ((Kj_ NB759_776 ((Kj_ NB759_776 (hHeld.2.2.2.2.2.1)))))))), (Kj_ NB759_776 ((Kj_ NB759_776 ((Kj_ NB759_776 ((Kj_ NB759_776 (hHeld.2.2.2.2.2.2.1)))))))), (Kj_ NB759_776 ((Kj_ NB759_776 ((Kj_ NB759_776 ((Kj_ NB759_776 (hHeld.2.2.2.2.2.2.2.1)))))))), (Kj_ NB759_776 ((Kj_ NB759_776 ((Kj_ NB759_776 ((Kj_ NB759_776 (hHeld.2.2.2.2.2.2.2.2))))))))⟩ (fun hHeld => ?_)
    clear hK K
    refine done_ (done_of HT_.out (by kernel_rfl)) ?_
    try go_wp2
    have n0_ : Aside0 (((((w61.setCell ⟨gb776, 0, none⟩ (.int .u64 t772)).setCell ⟨gb776, 1, none⟩ (.int .u64 t773)).setCell ⟨gb776, 2, none⟩ (.int .u64 t774)).setCell ⟨gb776, 3, none⟩ (.int .u64 t775)).heap[gb751]? = some (.cells #[.int .u64 a0_0, .int .u64 a0_1, .int .u64 a0_2, .int .u64 a0_3, .int .i64 a0_4, .bool true] 39 (0, 0))) := ⟨by exact K1b_ BK751 NB751_776⟩
    have n1_ : Aside0 (((((w61.setCell ⟨gb776, 0, none⟩ (.int .u64 t772)).setCell ⟨gb776, 1, none⟩ (.int .u64 t773)).setCell ⟨gb776, 2, none⟩ (.int .u64 t774)).setCell ⟨gb776, 3, none⟩ (.int .u64 t775)).heap[gb752]? = some (.cells #[.int .u64 a1_0, .int .u64 a1_1, .int .u64 a1_2, .int .u64 a1_3, .bool a1_4] 63 (0, 0))) := ⟨by exact K1b_ BK752 NB752_776⟩
    have n2_ : Aside0 (((((w61.setCell ⟨gb776, 0, none⟩ (.int .u64 t772)).setCell ⟨gb776, 1, none⟩ (.int .u64 t773)).setCell ⟨gb776, 2, none⟩ (.int .u64 t774)).setCell ⟨gb776, 3, none⟩ (.int .u64 t775)).heap[gb759]? = some (.cells #[.int .u64 t754, .int .u64 t755, .int .u64 t756, .int .u64 t757, .int .i64 t758] 30 (0, 0))) := ⟨by exact K1b_ BK759 NB759_776⟩
    have n3_ : Aside0 (((((w61.setCell ⟨gb776, 0, none⟩ (.int .u64 t772)).setCell ⟨gb776, 1, none⟩ (.int .u64 t773)).setCell ⟨gb776, 2, none⟩ (.int .u64 t774)).setCell ⟨gb776, 3, none⟩ (.int .u64 t775)).heap[gb764]? = some (.cells #[.int .u64 t760, .int .u64 t761, .int .u64 t762, .int .u64 t763] 28 (0, 0))) := ⟨by exact K1b_ BK764 NB764_776⟩
    have n4_ : Aside0 (((((w61.setCell ⟨gb776, 0, none⟩ (.int .u64 t772)).setCell ⟨gb776, 1, none⟩ (.int .u64 t773)).setCell ⟨gb776, 2, none⟩ (.int .u64 t774)).setCell ⟨gb776, 3, none⟩ (.int .u64 t775)).heap[gb770]? = some (.cells #[.int .u64 t766, .int .u64 t767, .int .u64 t768, .int .u64 t769] 28 (0, 0))) := ⟨by exact K1b_ BK770 NB770_776⟩
    have n5_ : Aside0 (((((w61.setCell ⟨gb776, 0, none⟩ (.int .u64 t772)).setCell ⟨gb776, 1, none⟩ (.int .u64 t773)).setCell ⟨gb776, 2, none⟩ (.int .u64 t774)).setCell ⟨gb776, 3, none⟩ (.int .u64 t775)).heap[gb776]? = some (.cells #[.int .u64 t772, .int .u64 t773, .int .u64 t774, .int .u64 t775] 28 (0, 0))) := ⟨by refine Kv_ ?_; refine blk_put (cs := #[.int .u64 t772, .int .u64 t773, .int .u64 t774, .int .u64 0]) ?_ 3 _ rfl; refine Kv_ ?_; refine blk_put (cs := #[.int .u64 t772, .int .u64 t773, .int .u64 0, .int .u64 0]) ?_ 2 _ rfl; refine Kv_ ?_; refine blk_put (cs := #[.int .u64 t772, .int .u64 0, .int .u64 0, .int .u64 0]) ?_ 1 _ rfl; refine Kv_ ?_; refine blk_put (cs := #[.int .u64 0, .int .u64 0, .int .u64 0, .int .u64 0]) ?_ 0 _ rfl; exact Kq_ BK776⟩
    have n6_ : Aside0 (Below w.heap.size w ((((w61.setCell ⟨gb776, 0, none⟩ (.int .u64 t772)).setCell ⟨gb776, 1, none⟩ (.int .u64 t773)).setCell ⟨gb776, 2, none⟩ (.int .u64 t774)).setCell ⟨gb776, 3, none⟩ (.int .u64 t775))) := ⟨by repeat (first | (with_reducible first | exact HB.out | apply below_alloc | apply pw_below_drewN | apply below_drew1 | refine below_set ?_ GE751.out | refine below_set ?_ GE752.out | refine below_set ?_ GE759.out | refine below_set ?_ GE764.out | refine below_set ?_ GE770.out | refine below_set ?_ GE776.out) | exact HB.out)⟩
    (try clear BK751)
    (try clear BK752)
    (try clear BK759)
    (try clear BK764)
    (try clear BK770)
    (try clear BK776)
    (try clear HB)
    generalize ((((w61.setCell ⟨gb776, 0, none⟩ (.int .u64 t772)).setCell ⟨gb776, 1, none⟩ (.int .u64 t773)).setCell ⟨gb776, 2, none⟩ (.int .u64 t774)).setCell ⟨gb776, 3, none⟩ (.int .u64 t775)) = w66 at n0_ n1_ n2_ n3_ n4_ n5_ n6_ ⊢
    have BK751 := n0_
    have BK752 := n1_
    have BK759 := n2_
    have BK764 := n3_
    have BK770 := n4_
    have BK776 := n5_
    have HB := n6_
    clear n0_ n1_ n2_ n3_ n4_ n5_ n6_
    replace BK751 := Kd_ BK751
    replace BK752 := Kd_ BK752
    replace BK759 := Kd_ BK759
    replace BK764 := Kd_ BK764
    replace BK770 := Kd_ BK770
    replace BK776 := Kd_ BK776
    replace HB := Aside0.mk (below_drew1 HB.out)
    refine start_ (n := 8) (S := fun w' => w'.cell? ⟨gb764, 0, none⟩ = some (.int .u64 t760) ∧ w'.cell? ⟨gb764, 1, none⟩ = some (.int .u64 t761) ∧ w'.cell? ⟨gb764, 2, none⟩ = some (.int .u64 t762) ∧ w'.cell? ⟨gb764, 3, none⟩ = some (.int .u64 t763) ∧ w'.cell? ⟨gb759, 0, none⟩ = some (.int .u64 t754) ∧ w'.cell? ⟨gb759, 1, none⟩ = some (.int .u64 t755) ∧ w'.cell? ⟨gb759, 2, none⟩ = some (.int .u64 t756) ∧ w'.cell? ⟨gb759, 3, none⟩ = some (.int .u64 t757) ∧ w'.cell? ⟨gb759, 4, none⟩ = some (.int .i64 t758)) (ds := []) #[false, false, false, false, false, false, false, false] (by kernel_rfl) rfl rfl ⟨Km_ BK764 0, Km_ BK764 1, Km_ BK764 2, Km_ BK764 3, Km_ BK759 0, Km_ BK759 1, Km_ BK759 2, Km_ BK759 3, Km_ BK759 4⟩ (fun hHeld => ?_); refine with_tabW tenementlaw15_StreamReady_p0.tab10 tenementlaw15_StreamReady_p0.bits10 (fun HT_ HW_ => ?_)
    generalize w66.drew = w67 at BK751 BK752 BK759 BK764 BK770 BK776 HB hHeld ⊢
    refine Kp_ 1 36 #[false, true, false, false, false, false, false, false] (any_of HT_.out (by kernel_rfl)) ?_
    refine Ko_ 0 35 #[true, true, false, false, false, false, false, false] (take_ofW HT_.out HW_.out (by kernel_rfl)) hHeld ?_
    refine Ko_ 2 37 #[true, true, true, false, false, false, false, false] (take_ofW HT_.out HW_.out (by kernel_rfl)) hHeld ?_
    refine Ko_ 4 39 #[true, true, true, false, true, false, false, false] (take_ofW HT_.out HW_.out (by kernel_rfl)) hHeld ?_
    refine one_ (i := 3) (N := some 38) #[true, true, true, true, true, false, false, false] rfl rfl (one_of HT_.out (by kernel_rfl)) (by decide) (fun K hK => ?_)
    refine goes_ Try.func48 (by kernel_rfl) rfl #[.agg #[.int .u64 t760, .int .u64 t761, .int .u64 t762, .int .u64 t763], .int .i64 t758] (by rfl) rfl rfl (by (try simp only [List.map_toArray, List.map_cons, List.map_nil]); first | done | rfl | (simp only [List.length_drop, List.length_take]; rfl)) ?_
    with_reducible refine (vec_At.calls t760 t761 t762 t763 t758 t777 _ A11.out).mono ?_
    rintro e w68 ⟨rfl, hb⟩
    refine ⟨_, rfl, ?_⟩
    replace BK751 := Kb_ BK751 hb
    replace BK752 := Kb_ BK752 hb
    replace BK759 := Kb_ BK759 hb
    replace BK764 := Kb_ BK764 hb
    replace BK770 := Kb_ BK770 hb
    replace BK776 := Kb_ BK776 hb
    replace HB := Ks_ HB hb
    (try clear hb)
    (try clear hb2)
    (try clear hk)
    (try clear hi)
    refine hK.out _ _ ⟨Km_ BK764 0, Km_ BK764 1, Km_ BK764 2, Km_ BK764 3, Km_ BK759 0, Km_ BK759 1, Km_ BK759 2, Km_ BK759 3, Km_ BK759 4⟩ (fun hHeld => ?_)
    clear hK K
    refine Kn_ 38 ?_
    refine one_ (i := 5) (N := some 40) #[true, true, true, true, true, true, false, false] rfl rfl (one_of HT_.out (by kernel_rfl)) (by decide) (fun K hK => ?_)
    refine goes_ Try.func47 (by kernel_rfl) rfl #[.agg #[.int .u64 t754, .int .u64 t755, .int .u64 t756, .int .u64 t757, .int .i64 t758]] (by rfl) rfl rfl (by (try simp only [List.map_toArray, List.map_cons, List.map_nil]); first | done | rfl | (simp only [List.length_drop, List.length_take]; rfl)) ?_
    with_reducible refine (stamp_Stamp_N.calls t754 t755 t756 t757 t758 t778 _ A12.out).mono ?_
    rintro e w69 ⟨rfl, hb⟩
    refine ⟨_, rfl, ?_⟩
    replace BK751 := Kb_ BK751 hb
    replace BK752 := Kb_ BK752 hb
    replace BK759 := Kb_ BK759 hb
    replace BK764 := Kb_ BK764 hb
    replace BK770 := Kb_ BK770 hb
    replace BK776 := Kb_ BK776 hb
    replace HB := Ks_ HB hb
    (try clear hb)
    (try clear hb2)
    (try clear hk)
    (try clear hi)
    refine hK.out _ _ ⟨Km_ BK764 0, Km_ BK764 1, Km_ BK764 2, Km_ BK764 3, Km_ BK759 0, Km_ BK759 1, Km_ BK759 2, Km_ BK759 3, Km_ BK759 4⟩ (fun hHeld => ?_)
    clear hK K
    refine Kn_ 40 ?_
    refine Kp_ 6 41 #[true, true, true, true, true, true, true, false] (any_of HT_.out (by kernel_rfl)) ?_
    refine Kp_ 7 11 #[true, true, true, true, true, true, true, true] (any_of HT_.out (by kernel_rfl)) ?_
    refine done_ (done_of HT_.out (by kernel_rfl)) ?_
    try go_wp2
    replace BK751 := Kd_ BK751
    replace BK752 := Kd_ BK752
    replace BK759 := Kd_ BK759
    replace BK764 := Kd_ BK764
    replace BK770 := Kd_ BK770
    replace BK776 := Kd_ BK776
    replace HB := Aside0.mk (below_drew1 HB.out)
    refine start_ (n := 24) (S := fun w' => w'.cell? ⟨gb764, 0, none⟩ = some (.int .u64 t760) ∧ w'.cell? ⟨gb764, 1, none⟩ = some (.int .u64 t761) ∧ w'.cell? ⟨gb764, 2, none⟩ = some (.int .u64 t762) ∧ w'.cell? ⟨gb764, 3, none⟩ = some (.int .u64 t763) ∧ w'.cell? ⟨gb759, 0, none⟩ = some (.int .u64 t754) ∧ w'.cell? ⟨gb759, 1, none⟩ = some (.int .u64 t755) ∧ w'.cell? ⟨gb759, 2, none⟩ = some (.int .u64 t756) ∧ w'.cell? ⟨gb759, 3, none⟩ = some (.int .u64 t757) ∧ w'.cell? ⟨gb759, 4, none⟩ = some (.int .i64 t758) ∧ w'.cell? ⟨gb770, 0, none⟩ = some (.int .u64 t766) ∧ w'.cell? ⟨gb770, 1, none⟩ = some (.int .u64 t767) ∧ w'.cell? ⟨gb770, 2, none⟩ = some (.int .u64 t768) ∧ w'.cell? ⟨gb770, 3, none⟩ = some (.int .u64 t769)) (ds := []) #[false, false, false, false, false, false, false, false, false, false, false, false, false, false, false, false, false, false, false, false, false, false, false, false] (by kernel_rfl) rfl rfl ⟨Km_ BK764 0, Km_ BK764 1, Km_ BK764 2, Km_ BK764 3, Km_ BK759 0, Km_ BK759 1, Km_ BK759 2, Km_ BK759 3, Km_ BK759 4, Km_ BK770 0, Km_ BK770 1, Km_ BK770 2, Km_ BK770 3⟩ (fun hHeld => ?_); refine with_tabW tenementlaw15_StreamReady_p0.tab11 tenementlaw15_StreamReady_p0.bits11 (fun HT_ HW_ => ?_)
    generalize w69.drew = w70 at BK751 BK752 BK759 BK764 BK770 BK776 HB hHeld ⊢
    refine Kp_ 1 43 #[false, true, false, false, false, false, false, false, false, false, false, false, false, false, false, false, false, false, false, false, false, false, false, false] (any_of HT_.out (by kernel_rfl)) ?_
    refine Ko_ 0 42 #[true, true, false, false, false, false, false, false, false, false, false, false, false, false, false, false, false, false, false, false, false, false, false, false] (take_ofW HT_.out HW_.out (by kernel_rfl)) hHeld ?_
    refine Ko_ 2 44 #[true, true, true, false, false, false, false, false, false, false, false, false, false, false, false, false, false, false, false, false, false, false, false, false] (take_ofW HT_.out HW_.out (by kernel_rfl)) hHeld ?_
    refine Ko_ 4 46 #[true, true, true, false, true, false, false, false, false, false, false, false, false, false, false, false, false, false, false, false, false, false, false, false] (take_ofW HT_.out HW_.out (by kernel_rfl)) hHeld ?_
    refine one_ (i := 3) (N := some 45) #[true, true, true, true, true, false, false, false, false, false, false, false, false, false, false, false, false, false, false, false, false, false, false, false] rfl rfl (one_of HT_.out (by kernel_rfl)) (by decide) (fun K hK => ?_)
    refine goes_ Try.func48 (by kernel_rfl) rfl #[.agg #[.int .u64 t760, .int .u64 t761, .int .u64 t762, .int .u64 t763], .int .i64 t758] (by rfl) rfl rfl (by (try simp only [List.map_toArray, List.map_cons, List.map_nil]); first | done | rfl | (simp only [List.length_drop, List.length_take]; rfl)) ?_
    with_reducible refine (vec_At.calls t760 t761 t762 t763 t758 t779 _ A13.out).mono ?_
    rintro e w71 ⟨rfl, hb⟩
    refine ⟨_, rfl, ?_⟩
    replace BK751 := Kb_ BK751 hb
    replace BK752 := Kb_ BK752 hb
    replace BK759 := Kb_ BK759 hb
    replace BK764 := Kb_ BK764 hb
    replace BK770 := Kb_ BK770 hb
    replace BK776 := Kb_ BK776 hb
    replace HB := Ks_ HB hb
    (try clear hb)
    (try clear hb2)
    (try clear hk)
    (try clear hi)
    refine hK.out _ _ ⟨Km_ BK764 0, Km_ BK764 1, Km_ BK764 2, Km_ BK764 3, Km_ BK759 0, Km_ BK759 1, Km_ BK759 2, Km_ BK759 3, Km_ BK759 4, Km_ BK770 0, Km_ BK770 1, Km_ BK770 2, Km_ BK770 3⟩ (fun hHeld => ?_)
    clear hK K
    refine Kn_ 45 ?_
    refine one_ (i := 5) (N := some 47) #[true, true, true, true, true, true, false, false, false, false, false, false, false, false, false, false, false, false, false, false, false, false, false, false] rfl rfl (one_of HT_.out (by kernel_rfl)) (by decide) (fun K hK => ?_)
    refine goes_ Try.func47 (by kernel_rfl) rfl #[.agg #[.int .u64 t754, .int .u64 t755, .int .u64 t756, .int .u64 t757, .int .i64 t758]] (by rfl) rfl rfl (by (try simp only [List.map_toArray, List.map_cons, List.map_nil]); first | done | rfl | (simp only [List.length_drop, List.length_take]; rfl)) ?_
    with_reducible refine (stamp_Stamp_N.calls t754 t755 t756 t757 t758 t780 _ A14.out).mono ?_
    rintro e w72 ⟨rfl, hb⟩
    refine ⟨_, rfl, ?_⟩
    replace BK751 := Kb_ BK751 hb
    replace BK752 := Kb_ BK752 hb
    replace BK759 := Kb_ BK759 hb
    replace BK764 := Kb_ BK764 hb
    replace BK770 := Kb_ BK770 hb
    replace BK776 := Kb_ BK776 hb
    replace HB := Ks_ HB hb
    (try clear hb)
    (try clear hb2)
    (try clear hk)
    (try clear hi)
    refine hK.out _ _ ⟨Km_ BK764 0, Km_ BK764 1, Km_ BK764 2, Km_ BK764 3, Km_ BK759 0, Km_ BK759 1, Km_ BK759 2, Km_ BK759 3, Km_ BK759 4, Km_ BK770 0, Km_ BK770 1, Km_ BK770 2, Km_ BK770 3⟩ (fun hHeld => ?_)
    clear hK K
    refine Kn_ 47 ?_
    refine Kp_ 6 48 #[true, true, true, true, true, true, true, false, false, false, false, false, false, false, false, false, false, false, false, false, false, false, false, false] (any_of HT_.out (by kernel_rfl)) ?_
    refine Kp_ 7 49 #[true, true, true, true, true, true, true, true, false, false, false, false, false, false, false, false, false, false, false, false, false, false, false, false] (any_of HT_.out (by kernel_rfl)) ?_
    refine Kp_ 8 50 #[true, true, true, true, true, true, true, true, true, false, false, false, false, false, false, false, false, false, false, false, false, false, false, false] (any_of HT_.out (by kernel_rfl)) ?_
    refine Kp_ 9 51 #[true, true, true, true, true, true, true, true, true, true, false, false, false, false, false, false, false, false, false, false, false, false, false, false] (any_of HT_.out (by kernel_rfl)) ?_
    refine Ko_ 10 52 #[true, true, true, true, true, true, true, true, true, true, true, false, false, false, false, false, false, false, false, false, false, false, false, false] (take_ofW HT_.out HW_.out (by kernel_rfl)) hHeld ?_
    refine Ko_ 11 53 #[true, true, true, true, true, true, true, true, true, true, true, true, false, false, false, false, false, false, false, false, false, false, false, false] (take_ofW HT_.out HW_.out (by kernel_rfl)) hHeld ?_
    refine one_ (i := 12) (N := some 54) #[true, true, true, true, true, true, true, true, true, true, true, true, true, false, false, false, false, false, false, false, false, false, false, false] rfl rfl (one_of HT_.out (by kernel_rfl)) (by decide) (fun K hK => ?_)
    refine goes_ Try.func49 (by kernel_rfl) rfl #[.agg #[.int .u64 t754, .int .u64 t755, .int .u64 t756, .int .u64 t757], .agg #[.int .u64 t766, .int .u64 t767, .int .u64 t768, .int .u64 t769]] (by rfl) rfl rfl (by (try simp only [List.map_toArray, List.map_cons, List.map_nil]); first | done | rfl | (simp only [List.length_drop, List.length_take]; rfl)) ?_
    with_reducible refine (vec_Leq.calls t754 t755 t756 t757 t766 t767 t768 t769 true _ A16.out).mono ?_
    rintro e w73 ⟨rfl, hb⟩
    refine ⟨_, rfl, ?_⟩
    replace BK751 := Kb_ BK751 hb
    replace BK752 := Kb_ BK752 hb
    replace BK759 := Kb_ BK759 hb
    replace BK764 := Kb_ BK764 hb
    replace BK770 := Kb_ BK770 hb
    replace BK776 := Kb_ BK776 hb
    replace HB := Ks_ HB hb
    (try clear hb)
    (try clear hb2)
    (try clear hk)
    (try clear hi)
    refine hK.out _ _ ⟨Km_ BK764 0, Km_ BK764 1, Km_ BK764 2, Km_ BK764 3, Km_ BK759 0, Km_ BK759 1, Km_ BK759 2, Km_ BK759 3, Km_ BK759 4, Km_ BK770 0, Km_ BK770 1, Km_ BK770 2, Km_ BK770 3⟩ (fun hHeld => ?_)
    clear hK K
    refine Kn_ 54 ?_
    refine Kp_ 13 55 #[true, true, true, true, true, true, true, true, true, true, true, true, true, true, false, false, false, false, false, false, false, false, false, false] (any_of HT_.out (by kernel_rfl)) ?_
    refine Kp_ 14 56 #[true, true, true, true, true, true, true, true, true, true, true, true, true, true, true, false, false, false, false, false, false, false, false, false] (any_of HT_.out (by kernel_rfl)) ?_
    refine Kp_ 15 57 #[true, true, true, true, true, true, true, true, true, true, true, true, true, true, true, true, false, false, false, false, false, false, false, false] (any_of HT_.out (by kernel_rfl)) ?_
    refine Kp_ 17 59 #[true, true, true, true, true, true, true, true, true, true, true, true, true, true, true, true, false, true, false, false, false, false, false, false] (any_of HT_.out (by kernel_rfl)) ?_
    refine Ko_ 16 58 #[true, true, true, true, true, true, true, true, true, true, true, true, true, true, true, true, true, true, false, false, false, false, false, false] (take_ofW HT_.out HW_.out (by kernel_rfl)) hHeld ?_
    refine Ko_ 18 60 #[true, true, true, true, true, true, true, true, true, true, true, true, true, true, true, true, true, true, true, false, false, false, false, false] (take_ofW HT_.out HW_.out (by kernel_rfl)) hHeld ?_
    refine Ko_ 20 62 #[true, true, true, true, true, true, true, true, true, true, true, true, true, true, true, true, true, true, true, false, true, false, false, false] (take_ofW HT_.out HW_.out (by kernel_rfl)) hHeld ?_
    refine one_ (i := 19) (N := some 61) #[true, true, true, true, true, true, true, true, true, true, true, true, true, true, true, true, true, true, true, true, true, false, false, false] rfl rfl (one_of HT_.out (by kernel_rfl)) (by decide) (fun K hK => ?_)
    refine goes_ Try.func46 (by kernel_rfl) rfl #[.agg #[.int .u64 t754, .int .u64 t755, .int .u64 t756, .int .u64 t757], .int .i64 t758, .int .u64 0] (by rfl) rfl rfl (by (try simp only [List.map_toArray, List.map_cons, List.map_nil]); first | done | rfl | (simp only [List.length_drop, List.length_take]; rfl)) ?_
    with_reducible refine (vec_With.calls t754 t755 t756 t757 t758 0 t782 t783 t784 t785 _ A18.out).mono ?_
    rintro e w74 ⟨rfl, hb⟩
    refine ⟨_, rfl, ?_⟩
    replace BK751 := Kb_ BK751 hb
    replace BK752 := Kb_ BK752 hb
    replace BK759 := Kb_ BK759 hb
    replace BK764 := Kb_ BK764 hb
    replace BK770 := Kb_ BK770 hb
    replace BK776 := Kb_ BK776 hb
    replace HB := Ks_ HB hb
    (try clear hb)
    (try clear hb2)
    (try clear hk)
    (try clear hi)
    refine hK.out _ _ ⟨Km_ BK764 0, Km_ BK764 1, Km_ BK764 2, Km_ BK764 3, Km_ BK759 0, Km_ BK759 1, Km_ BK759 2, Km_ BK759 3, Km_ BK759 4, Km_ BK770 0, Km_ BK770 1, Km_ BK770 2, Km_ BK770 3⟩ (fun hHeld => ?_)
    clear hK K
    refine Kn_ 61 ?_
    refine one_ (i := 21) (N := some 63) #[true, true, true, true, true, true, true, true, true, true, true, true, true, true, true, true, true, true, true, true, true, true, false, false] rfl rfl (one_of HT_.out (by kernel_rfl)) (by decide) (fun K hK => ?_)
    refine goes_ Try.func49 (by kernel_rfl) rfl #[.agg #[.int .u64 t782, .int .u64 t783, .int .u64 t784, .int .u64 t785], .agg #[.int .u64 t760, .int .u64 t761, .int .u64 t762, .int .u64 t763]] (by rfl) rfl rfl (by (try simp only [List.map_toArray, List.map_cons, List.map_nil]); first | done | rfl | (simp only [List.length_drop, List.length_take]; rfl)) ?_
    with_reducible refine (vec_Leq.calls t782 t783 t784 t785 t760 t761 t762 t763 true _ A19.out).mono ?_
    rintro e w75 ⟨rfl, hb⟩
    refine ⟨_, rfl, ?_⟩
    replace BK751 := Kb_ BK751 hb
    replace BK752 := Kb_ BK752 hb
    replace BK759 := Kb_ BK759 hb
    replace BK764 := Kb_ BK764 hb
    replace BK770 := Kb_ BK770 hb
    replace BK776 := Kb_ BK776 hb
    replace HB := Ks_ HB hb
    (try clear hb)
    (try clear hb2)
    (try clear hk)
    (try clear hi)
    refine hK.out _ _ ⟨Km_ BK764 0, Km_ BK764 1, Km_ BK764 2, Km_ BK764 3, Km_ BK759 0, Km_ BK759 1, Km_ BK759 2, Km_ BK759 3, Km_ BK759 4, Km_ BK770 0, Km_ BK770 1, Km_ BK770 2, Km_ BK770 3⟩ (fun hHeld => ?_)
    clear hK K
    refine Kn_ 63 ?_
    refine Kp_ 22 64 #[true, true, true, true, true, true, true, true, true, true, true, true, true, true, true, true, true, true, true, true, true, true, true, false] (any_of HT_.out (by kernel_rfl)) ?_
    refine Kp_ 23 12 #[true, true, true, true, true, true, true, true, true, true, true, true, true, true, true, true, true, true, true, true, true, true, true, true] (any_of HT_.out (by kernel_rfl)) ?_
    refine done_ (done_of HT_.out (by kernel_rfl)) ?_
    have hnb76 := NB770_776.out
    have hnc76 := NB776_770.out
    obtain ⟨hcz77_0, hcz77_1, hcz77_2, hcz77_3, hfz77_0, hfz77_1, hfz77_2, hfz77_3⟩ := Ke4_ BK770.out
    have hnb78 := NB759_776.out
    have hnc78 := NB776_759.out
    obtain ⟨hcz79_0, hcz79_1, hcz79_2, hcz79_3, hcz79_4, hfz79_0, hfz79_1, hfz79_2, hfz79_3, hfz79_4⟩ := Ke5_ BK759.out
    try go_wp2_with (first | (go_at_call 30; (with_reducible refine (stream_Ready.calls t766 t767 t768 t769 t754 t755 t756 t757 t758 t791 _ A24.out).mono ?_); rintro e w80 ⟨rfl, hb⟩; replace BK751 := Kb_ BK751 hb; replace BK752 := Kb_ BK752 hb; replace BK759 := Kb_ BK759 hb; replace BK764 := Kb_ BK764 hb; replace BK770 := Kb_ BK770 hb; replace BK776 := Kb_ BK776 hb; replace HB := Ks_ HB hb; (try clear hb); (try clear hb2); (try clear hk); (try clear hi); have hnb81 := NB776_751.out; have hnc81 := NB751_776.out; have hnb82 := NB776_752.out; have hnc82 := NB752_776.out; have hnb83 := NB776_764.out; have hnc83 := NB764_776.out; obtain ⟨hcz84_0, hcz84_1, hcz84_2, hcz84_3, hfz84_0, hfz84_1, hfz84_2, hfz84_3⟩ := Ke4_ BK776.out; obtain ⟨hcz85_0, hcz85_1, hcz85_2, hcz85_3, hcz85_4, hfz85_0, hfz85_1, hfz85_2, hfz85_3, hfz85_4⟩ := Ke5_ BK759.out) | (go_at_call 30; (with_reducible refine (stream_Ready.calls t772 t773 t774 t775 t754 t755 t756 t757 t758 t792 _ A26.out).mono ?_); rintro e w86 ⟨rfl, hb⟩; replace BK751 := Kb_ BK751 hb; replace BK752 := Kb_ BK752 hb; replace BK759 := Kb_ BK759 hb; replace BK764 := Kb_ BK764 hb; replace BK770 := Kb_ BK770 hb; replace BK776 := Kb_ BK776 hb; replace HB := Ks_ HB hb; (try clear hb); (try clear hb2); (try clear hk); (try clear hi)))
    go_ret
    exact ⟨Kh_, by repeat (first | (with_reducible first | exact HB.out | apply below_alloc | apply pw_below_drewN | apply below_drew1 | refine below_set ?_ GE751.out | refine below_set ?_ GE752.out | refine below_set ?_ GE759.out | refine below_set ?_ GE764.out | refine below_set ?_ GE770.out | refine below_set ?_ GE776.out) | exact HB.out)⟩
  rw [if_neg c22] at H
  have c22b0 : (t765 == 1) = false := beq_eq_false_iff_ne.mpr c22
  have c22b1 : (t765 != 1) = true := bne_iff_ne.mpr c22
  by_cases c87 : t786 = true
  · subst c87
    have H1 : (none) = some r := by rw [if_pos rfl] at H; exact H
    clear H
    have H := H1
    clear H1
    exact absurd H (by simp)
  replace c87 := Bool.eq_false_iff.mpr c87
  subst c87
  have H1 : ((stream_Ready.f t766 t767 t768 t769 t754 t755 t756 t757 t758).bind fun t793 => (if t793 = (-1) then ((stream_Ready.f t772 t773 t774 t775 t754 t755 t756 t757 t758).bind fun t794 => (if t794 = 1 then (some true) else (none))) else (none))) = some r := by rw [if_neg (show ¬ (false = true) by decide)] at H; exact H
  clear H
  have H := H1
  clear H1
  replace H := Option.bind_eq_some_iff.mp H
  obtain ⟨t793, A880, H⟩ := H
  replace H : (if t793 = (-1) then ((stream_Ready.f t772 t773 t774 t775 t754 t755 t756 t757 t758).bind fun t794 => (if t794 = 1 then (some true) else (none))) else (none)) = some r := H
  have A88 := Aside0.mk A880
  clear A880
  by_cases c89 : t793 = (-1)
  rotate_left
  · rw [if_neg c89] at H
    exact absurd H (by simp)
  rw [if_pos c89] at H
  have c89b0 : (t793 == (-1)) = true := beq_iff_eq.mpr c89
  have c89b1 : (t793 != (-1)) = false := bne_eq_false_iff_eq.mpr c89
  clear c89
  replace H := Option.bind_eq_some_iff.mp H
  obtain ⟨t794, A900, H⟩ := H
  replace H : (if t794 = 1 then (some true) else (none)) = some r := H
  have A90 := Aside0.mk A900
  clear A900
  by_cases c91 : t794 = 1
  rotate_left
  · rw [if_neg c91] at H
    exact absurd H (by simp)
  rw [if_pos c91] at H
  have c91b0 : (t794 == 1) = true := beq_iff_eq.mpr c91
  have c91b1 : (t794 != 1) = false := bne_eq_false_iff_eq.mpr c91
  clear c91
  obtain rfl := Option.some.inj H
  go_enter Try.func7, Try.ntmps7
  try go_wp2_with (first | ((with_reducible refine gate_dst (N := 2) rfl ?_); refine Ka_ 2 #[.int .u64 a0_0, .int .u64 a0_1, .int .u64 a0_2, .int .u64 a0_3, .int .i64 a0_4, .bool a0_5] 39 ?_; intro gb751 hg w92 hbox hb; have BK751 := Aside0.mk (hbox); have GW751 := Kw_ HB hg; have GE751 := GW751; replace HB := Ks_ HB hb; clear hb hbox hg) | ((with_reducible refine gate_dst (N := 3) rfl ?_); refine Ka_ 3 #[.int .u64 a1_0, .int .u64 a1_1, .int .u64 a1_2, .int .u64 a1_3, .bool a1_4] 63 ?_; intro gb752 hg w93 hbox hb; have BK752 := Aside0.mk (hbox); have GW752 := Kw_ HB hg; have GE752 := GW752; have NB751_752 := Kl_ BK751 hg; have NB752_751 := Kr_ BK751 hg; replace BK751 := Kb_ BK751 hb; replace HB := Ks_ HB hb; clear hb hbox hg) | ((with_reducible refine gate_callee (f := 11) rfl ?_); refine Kg_ (some 13) rfl rfl Try.func11 (by kernel_rfl) rfl #[] rfl ?_; (with_reducible refine (tenementlaw15_examples.calls  true _ A3.out).mono ?_); rintro e w94 ⟨rfl, hb⟩; refine ⟨_, rfl, ?_⟩; replace BK751 := Kb_ BK751 hb; replace BK752 := Kb_ BK752 hb; replace HB := Ks_ HB hb; (try clear hb); (try clear hb2); (try clear hk); (try clear hi); have hnb95 := NB751_752.out; have hnc95 := NB752_751.out; obtain ⟨hcz96_0, hcz96_1, hcz96_2, hcz96_3, hcz96_4, hcz96_5, hfz96_0, hfz96_1, hfz96_2, hfz96_3, hfz96_4, hfz96_5⟩ := Ke6_ BK751.out) | ((with_reducible refine gate_callee (f := 25) rfl ?_); refine Kg_ (some 18) rfl rfl Try.func25 (by kernel_rfl) rfl #[.agg #[.int .u64 a0_0, .int .u64 a0_1, .int .u64 a0_2, .int .u64 a0_3, .int .i64 a0_4, .bool true]] rfl ?_; (with_reducible refine (tenementlaw15_Mark_mark.calls k a0_0 a0_1 a0_2 a0_3 a0_4 true t754 t755 t756 t757 t758 _ A5.out).mono ?_); rintro e w97 ⟨rfl, hb⟩; refine ⟨_, rfl, ?_⟩; replace BK751 := Aside0.mk (blk_below (g := gb751) (o := .cells #[.int .u64 a0_0, .int .u64 a0_1, .int .u64 a0_2, .int .u64 a0_3, .int .i64 a0_4, .bool true] 39 (0, 0)) (by refine Kv_ ?_; refine blk_put (cs := #[.int .u64 a0_0, .int .u64 a0_1, .int .u64 a0_2, .int .u64 a0_3, .int .i64 a0_4, .bool a0_5]) ?_ 5 _ rfl; exact Kq_ BK751) hb); replace BK752 := Kf_ BK752 NB752_751 hb; replace HB := Kt_ HB GE751 hb; (try clear hb); (try clear hb2); (try clear hk); (try clear hi)) | ((with_reducible refine gate_dst (N := 6) rfl ?_); refine Ka_ 6 #[.int .u64 0, .int .u64 0, .int .u64 0, .int .u64 0, .int .i64 0] 30 ?_; intro gb759 hg w98 hbox hb; have BK759 := Aside0.mk (hbox); have GW759 := Kw_ HB hg; have GE759 := GW759; have NB751_759 := Kl_ BK751 hg; have NB759_751 := Kr_ BK751 hg; have NB752_759 := Kl_ BK752 hg; have NB759_752 := Kr_ BK752 hg; replace BK751 := Kb_ BK751 hb; replace BK752 := Kb_ BK752 hb; replace HB := Ks_ HB hb; clear hb hbox hg; have hnb99 := NB759_751.out; have hnc99 := NB751_759.out; have hnb100 := NB759_752.out; have hnc100 := NB752_759.out; obtain ⟨hcz101_0, hcz101_1, hcz101_2, hcz101_3, hcz101_4, hfz101_0, hfz101_1, hfz101_2, hfz101_3, hfz101_4⟩ := Ke5_ BK759.out; obtain ⟨hcz102_0, hcz102_1, hcz102_2, hcz102_3, hcz102_4, hfz102_0, hfz102_1, hfz102_2, hfz102_3, hfz102_4⟩ := Ke5_ BK752.out) | ((with_reducible refine gate_callee (f := 24) rfl ?_); refine Kg_ (some 20) rfl rfl Try.func24 (by kernel_rfl) rfl #[.agg #[.int .u64 a1_0, .int .u64 a1_1, .int .u64 a1_2, .int .u64 a1_3, .bool a1_4]] rfl ?_; (with_reducible refine (tenementlaw15_Vector_vector.calls k a1_0 a1_1 a1_2 a1_3 a1_4 t760 t761 t762 t763 _ A6.out).mono ?_); rintro e w103 ⟨rfl, hb⟩; refine ⟨_, rfl, ?_⟩; replace BK751 := Kf_ BK751 NB751_759 hb; replace BK752 := Kf_ BK752 NB752_759 hb; replace BK759 := Aside0.mk (blk_below (g := gb759) (o := .cells #[.int .u64 t754, .int .u64 t755, .int .u64 t756, .int .u64 t757, .int .i64 t758] 30 (0, 0)) (by refine Kv_ ?_; refine blk_put (cs := #[.int .u64 t754, .int .u64 t755, .int .u64 t756, .int .u64 t757, .int .i64 0]) ?_ 4 _ rfl; refine Kv_ ?_; refine blk_put (cs := #[.int .u64 t754, .int .u64 t755, .int .u64 t756, .int .u64 0, .int .i64 0]) ?_ 3 _ rfl; refine Kv_ ?_; refine blk_put (cs := #[.int .u64 t754, .int .u64 t755, .int .u64 0, .int .u64 0, .int .i64 0]) ?_ 2 _ rfl; refine Kv_ ?_; refine blk_put (cs := #[.int .u64 t754, .int .u64 0, .int .u64 0, .int .u64 0, .int .i64 0]) ?_ 1 _ rfl; refine Kv_ ?_; refine blk_put (cs := #[.int .u64 0, .int .u64 0, .int .u64 0, .int .u64 0, .int .i64 0]) ?_ 0 _ rfl; exact Kq_ BK759) hb); replace HB := Kt_ HB GE759 hb; (try clear hb); (try clear hb2); (try clear hk); (try clear hi)) | ((with_reducible refine gate_dst (N := 7) rfl ?_); refine Ka_ 7 #[.int .u64 0, .int .u64 0, .int .u64 0, .int .u64 0] 28 ?_; intro gb764 hg w104 hbox hb; have BK764 := Aside0.mk (hbox); have GW764 := Kw_ HB hg; have GE764 := GW764; have NB751_764 := Kl_ BK751 hg; have NB764_751 := Kr_ BK751 hg; have NB752_764 := Kl_ BK752 hg; have NB764_752 := Kr_ BK752 hg; have NB759_764 := Kl_ BK759 hg; have NB764_759 := Kr_ BK759 hg; replace BK751 := Kb_ BK751 hb; replace BK752 := Kb_ BK752 hb; replace BK759 := Kb_ BK759 hb; replace HB := Ks_ HB hb; clear hb hbox hg; have hnb105 := NB764_751.out; have hnc105 := NB751_764.out; have hnb106 := NB764_752.out; have hnc106 := NB752_764.out; have hnb107 := NB764_759.out; have hnc107 := NB759_764.out; obtain ⟨hcz108_0, hcz108_1, hcz108_2, hcz108_3, hfz108_0, hfz108_1, hfz108_2, hfz108_3⟩ := Ke4_ BK764.out; obtain ⟨hcz109_0, hcz109_1, hcz109_2, hcz109_3, hcz109_4, hfz109_0, hfz109_1, hfz109_2, hfz109_3, hfz109_4⟩ := Ke5_ BK759.out) | ((with_reducible refine gate_callee (f := 30) rfl ?_); refine Kg_ (some 23) rfl rfl Try.func30 (by kernel_rfl) rfl #[.agg #[.int .u64 t760, .int .u64 t761, .int .u64 t762, .int .u64 t763], .agg #[.int .u64 t754, .int .u64 t755, .int .u64 t756, .int .u64 t757, .int .i64 t758]] rfl ?_; (with_reducible refine (stream_Ready.calls t760 t761 t762 t763 t754 t755 t756 t757 t758 t765 _ A7.out).mono ?_); rintro e w110 ⟨rfl, hb⟩; refine ⟨_, rfl, ?_⟩; replace BK751 := Kf_ BK751 NB751_764 hb; replace BK752 := Kf_ BK752 NB752_764 hb; replace BK759 := Kf_ BK759 NB759_764 hb; replace BK764 := Aside0.mk (blk_below (g := gb764) (o := .cells #[.int .u64 t760, .int .u64 t761, .int .u64 t762, .int .u64 t763] 28 (0, 0)) (by refine Kv_ ?_; refine blk_put (cs := #[.int .u64 t760, .int .u64 t761, .int .u64 t762, .int .u64 0]) ?_ 3 _ rfl; refine Kv_ ?_; refine blk_put (cs := #[.int .u64 t760, .int .u64 t761, .int .u64 0, .int .u64 0]) ?_ 2 _ rfl; refine Kv_ ?_; refine blk_put (cs := #[.int .u64 t760, .int .u64 0, .int .u64 0, .int .u64 0]) ?_ 1 _ rfl; refine Kv_ ?_; refine blk_put (cs := #[.int .u64 0, .int .u64 0, .int .u64 0, .int .u64 0]) ?_ 0 _ rfl; exact Kq_ BK764) hb); replace HB := Kt_ HB GE764 hb; (try clear hb); (try clear hb2); (try clear hk); (try clear hi); obtain ⟨hcz111_0, hcz111_1, hcz111_2, hcz111_3, hfz111_0, hfz111_1, hfz111_2, hfz111_3⟩ := Ke4_ BK764.out; obtain ⟨hcz112_0, hcz112_1, hcz112_2, hcz112_3, hcz112_4, hfz112_0, hfz112_1, hfz112_2, hfz112_3, hfz112_4⟩ := Ke5_ BK759.out) | ((with_reducible refine gate_callee (f := 45) rfl ?_); refine Kg_ (some 27) rfl rfl Try.func45 (by kernel_rfl) rfl #[.agg #[.int .u64 t760, .int .u64 t761, .int .u64 t762, .int .u64 t763], .agg #[.int .u64 t754, .int .u64 t755, .int .u64 t756, .int .u64 t757]] rfl ?_; (with_reducible refine (vec_Join.calls t760 t761 t762 t763 t754 t755 t756 t757 t766 t767 t768 t769 _ A8.out).mono ?_); rintro e w113 ⟨rfl, hb⟩; refine ⟨_, rfl, ?_⟩; replace BK751 := Kb_ BK751 hb; replace BK752 := Kb_ BK752 hb; replace BK759 := Kb_ BK759 hb; replace BK764 := Kb_ BK764 hb; replace HB := Ks_ HB hb; (try clear hb); (try clear hb2); (try clear hk); (try clear hi)) | ((with_reducible refine gate_dst (N := 9) rfl ?_); refine Ka_ 9 #[.int .u64 0, .int .u64 0, .int .u64 0, .int .u64 0] 28 ?_; intro gb770 hg w114 hbox hb; have BK770 := Aside0.mk (hbox); have GW770 := Kw_ HB hg; have GE770 := GW770; have NB751_770 := Kl_ BK751 hg; have NB770_751 := Kr_ BK751 hg; have NB752_770 := Kl_ BK752 hg; have NB770_752 := Kr_ BK752 hg; have NB759_770 := Kl_ BK759 hg; have NB770_759 := Kr_ BK759 hg; have NB764_770 := Kl_ BK764 hg; have NB770_764 := Kr_ BK764 hg; replace BK751 := Kb_ BK751 hb; replace BK752 := Kb_ BK752 hb; replace BK759 := Kb_ BK759 hb; replace BK764 := Kb_ BK764 hb; replace HB := Ks_ HB hb; clear hb hbox hg; have hnb115 := NB770_751.out; have hnc115 := NB751_770.out; have hnb116 := NB770_752.out; have hnc116 := NB752_770.out; have hnb117 := NB770_759.out; have hnc117 := NB759_770.out; have hnb118 := NB770_764.out; have hnc118 := NB764_770.out; obtain ⟨hcz119_0, hcz119_1, hcz119_2, hcz119_3, hfz119_0, hfz119_1, hfz119_2, hfz119_3⟩ := Ke4_ BK770.out))
  have n0_ : Aside0 (((((w114.setCell ⟨gb770, 0, none⟩ (.int .u64 t766)).setCell ⟨gb770, 1, none⟩ (.int .u64 t767)).setCell ⟨gb770, 2, none⟩ (.int .u64 t768)).setCell ⟨gb770, 3, none⟩ (.int .u64 t769)).heap[gb751]? = some (.cells #[.int .u64 a0_0, .int .u64 a0_1, .int .u64 a0_2, .int .u64 a0_3, .int .i64 a0_4, .bool true] 39 (0, 0))) := ⟨by exact K1b_ BK751 NB751_770⟩
  have n1_ : Aside0 (((((w114.setCell ⟨gb770, 0, none⟩ (.int .u64 t766)).setCell ⟨gb770, 1, none⟩ (.int .u64 t767)).setCell ⟨gb770, 2, none⟩ (.int .u64 t768)).setCell ⟨gb770, 3, none⟩ (.int .u64 t769)).heap[gb752]? = some (.cells #[.int .u64 a1_0, .int .u64 a1_1, .int .u64 a1_2, .int .u64 a1_3, .bool a1_4] 63 (0, 0))) := ⟨by exact K1b_ BK752 NB752_770⟩
  have n2_ : Aside0 (((((w114.setCell ⟨gb770, 0, none⟩ (.int .u64 t766)).setCell ⟨gb770, 1, none⟩ (.int .u64 t767)).setCell ⟨gb770, 2, none⟩ (.int .u64 t768)).setCell ⟨gb770, 3, none⟩ (.int .u64 t769)).heap[gb759]? = some (.cells #[.int .u64 t754, .int .u64 t755, .int .u64 t756, .int .u64 t757, .int .i64 t758] 30 (0, 0))) := ⟨by exact K1b_ BK759 NB759_770⟩
  have n3_ : Aside0 (((((w114.setCell ⟨gb770, 0, none⟩ (.int .u64 t766)).setCell ⟨gb770, 1, none⟩ (.int .u64 t767)).setCell ⟨gb770, 2, none⟩ (.int .u64 t768)).setCell ⟨gb770, 3, none⟩ (.int .u64 t769)).heap[gb764]? = some (.cells #[.int .u64 t760, .int .u64 t761, .int .u64 t762, .int .u64 t763] 28 (0, 0))) := ⟨by exact K1b_ BK764 NB764_770⟩
  have n4_ : Aside0 (((((w114.setCell ⟨gb770, 0, none⟩ (.int .u64 t766)).setCell ⟨gb770, 1, none⟩ (.int .u64 t767)).setCell ⟨gb770, 2, none⟩ (.int .u64 t768)).setCell ⟨gb770, 3, none⟩ (.int .u64 t769)).heap[gb770]? = some (.cells #[.int .u64 t766, .int .u64 t767, .int .u64 t768, .int .u64 t769] 28 (0, 0))) := ⟨by refine Kv_ ?_; refine blk_put (cs := #[.int .u64 t766, .int .u64 t767, .int .u64 t768, .int .u64 0]) ?_ 3 _ rfl; refine Kv_ ?_; refine blk_put (cs := #[.int .u64 t766, .int .u64 t767, .int .u64 0, .int .u64 0]) ?_ 2 _ rfl; refine Kv_ ?_; refine blk_put (cs := #[.int .u64 t766, .int .u64 0, .int .u64 0, .int .u64 0]) ?_ 1 _ rfl; refine Kv_ ?_; refine blk_put (cs := #[.int .u64 0, .int .u64 0, .int .u64 0, .int .u64 0]) ?_ 0 _ rfl; exact Kq_ BK770⟩
  have n5_ : Aside0 (Below w.heap.size w ((((w114.setCell ⟨gb770, 0, none⟩ (.int .u64 t766)).setCell ⟨gb770, 1, none⟩ (.int .u64 t767)).setCell ⟨gb770, 2, none⟩ (.int .u64 t768)).setCell ⟨gb770, 3, none⟩ (.int .u64 t769))) := ⟨by repeat (first | (with_reducible first | exact HB.out | apply below_alloc | apply pw_below_drewN | apply below_drew1 | refine below_set ?_ GE751.out | refine below_set ?_ GE752.out | refine below_set ?_ GE759.out | refine below_set ?_ GE764.out | refine below_set ?_ GE770.out) | exact HB.out)⟩
  (try clear BK751)
  (try clear BK752)
  (try clear BK759)
  (try clear BK764)
  (try clear BK770)
  (try clear HB)
  generalize ((((w114.setCell ⟨gb770, 0, none⟩ (.int .u64 t766)).setCell ⟨gb770, 1, none⟩ (.int .u64 t767)).setCell ⟨gb770, 2, none⟩ (.int .u64 t768)).setCell ⟨gb770, 3, none⟩ (.int .u64 t769)) = w120 at n0_ n1_ n2_ n3_ n4_ n5_ ⊢
  have BK751 := n0_
  have BK752 := n1_
  have BK759 := n2_
  have BK764 := n3_
  have BK770 := n4_
  have HB := n5_
  clear n0_ n1_ n2_ n3_ n4_ n5_
  replace BK751 := Kd_ BK751
  replace BK752 := Kd_ BK752
  replace BK759 := Kd_ BK759
  replace BK764 := Kd_ BK764
  replace BK770 := Kd_ BK770
  replace HB := Aside0.mk (below_drew1 HB.out)
  refine start_ (n := 9) (S := fun w' => w'.cell? ⟨gb770, 0, none⟩ = some (.int .u64 t766) ∧ w'.cell? ⟨gb770, 1, none⟩ = some (.int .u64 t767) ∧ w'.cell? ⟨gb770, 2, none⟩ = some (.int .u64 t768) ∧ w'.cell? ⟨gb770, 3, none⟩ = some (.int .u64 t769) ∧ w'.cell? ⟨gb759, 0, none⟩ = some (.int .u64 t754) ∧ w'.cell? ⟨gb759, 1, none⟩ = some (.int .u64 t755) ∧ w'.cell? ⟨gb759, 2, none⟩ = some (.int .u64 t756) ∧ w'.cell? ⟨gb759, 3, none⟩ = some (.int .u64 t757) ∧ w'.cell? ⟨gb759, 4, none⟩ = some (.int .i64 t758)) (ds := []) #[false, false, false, false, false, false, false, false, false] (by kernel_rfl) rfl rfl ⟨Km_ BK770 0, Km_ BK770 1, Km_ BK770 2, Km_ BK770 3, Km_ BK759 0, Km_ BK759 1, Km_ BK759 2, Km_ BK759 3, Km_ BK759 4⟩ (fun hHeld => ?_); refine with_tabW tenementlaw15_StreamReady_p0.tab9 tenementlaw15_StreamReady_p0.bits9 (fun HT_ HW_ => ?_)
  generalize w120.drew = w121 at BK751 BK752 BK759 BK764 BK770 HB hHeld ⊢
  refine Kp_ 1 29 #[false, true, false, false, false, false, false, false, false] (any_of HT_.out (by kernel_rfl)) ?_
  refine Ko_ 0 28 #[true, true, false, false, false, false, false, false, false] (take_ofW HT_.out HW_.out (by kernel_rfl)) hHeld ?_
  refine Ko_ 2 30 #[true, true, true, false, false, false, false, false, false] (take_ofW HT_.out HW_.out (by kernel_rfl)) hHeld ?_
  refine Ko_ 3 31 #[true, true, true, true, false, false, false, false, false] (take_ofW HT_.out HW_.out (by kernel_rfl)) hHeld ?_
  refine join_ (σ := Nat) 1 #[true, true, true, true, true, true, true, true, false] (fun s_ => [(32, .int .u64 t771), (34, .agg #[.int .u64 t772, .int .u64 t773, .int .u64 t774, .int .u64 t775]), (10, .pointer (some ⟨s_, 0, none⟩)), (33, .int .u64 (IntKind.u64.wrap (t771 - 1)))]) (fun s_ w' => (w'.cell? ⟨gb770, 0, none⟩ = some (.int .u64 t766) ∧ w'.cell? ⟨gb770, 1, none⟩ = some (.int .u64 t767) ∧ w'.cell? ⟨gb770, 2, none⟩ = some (.int .u64 t768) ∧ w'.cell? ⟨gb770, 3, none⟩ = some (.int .u64 t769) ∧ w'.cell? ⟨gb759, 0, none⟩ = some (.int .u64 t754) ∧ w'.cell? ⟨gb759, 1, none⟩ = some (.int .u64 t755) ∧ w'.cell? ⟨gb759, 2, none⟩ = some (.int .u64 t756) ∧ w'.cell? ⟨gb759, 3, none⟩ = some (.int .u64 t757) ∧ w'.cell? ⟨gb759, 4, none⟩ = some (.int .i64 t758)) ∧ (w'.heap[gb751]? = some (.cells #[.int .u64 a0_0, .int .u64 a0_1, .int .u64 a0_2, .int .u64 a0_3, .int .i64 a0_4, .bool true] 39 (0, 0))) ∧ (w'.heap[gb752]? = some (.cells #[.int .u64 a1_0, .int .u64 a1_1, .int .u64 a1_2, .int .u64 a1_3, .bool a1_4] 63 (0, 0))) ∧ (w'.heap[gb759]? = some (.cells #[.int .u64 t754, .int .u64 t755, .int .u64 t756, .int .u64 t757, .int .i64 t758] 30 (0, 0))) ∧ (w'.heap[gb764]? = some (.cells #[.int .u64 t760, .int .u64 t761, .int .u64 t762, .int .u64 t763] 28 (0, 0))) ∧ (w'.heap[gb770]? = some (.cells #[.int .u64 t766, .int .u64 t767, .int .u64 t768, .int .u64 t769] 28 (0, 0))) ∧ (w'.heap[s_]? = some (.cells #[.int .u64 0, .int .u64 0, .int .u64 0, .int .u64 0] 28 (0, 0))) ∧ (w.heap.size ≤ s_) ∧ (w.heap.size ≤ s_) ∧ (gb751 ≠ s_) ∧ (s_ ≠ gb751) ∧ (gb752 ≠ s_) ∧ (s_ ≠ gb752) ∧ (gb759 ≠ s_) ∧ (s_ ≠ gb759) ∧ (gb764 ≠ s_) ∧ (s_ ≠ gb764) ∧ (gb770 ≠ s_) ∧ (s_ ≠ gb770) ∧ (Below w.heap.size w w')) ?_ ?_
  rotate_left
  · intro hCont
    refine two_ (i := 4) (j := 7) (Ni := some 32) (Nj := some 10) #[true, true, true, true, true, false, false, false, false] #[true, true, true, true, false, false, false, true, false] rfl rfl rfl rfl (two_of HT_.out (by kernel_rfl)) (by decide) (by decide) (fun K hK => ?_) (fun K hK => ?_)
    · skip
      refine goes_ Try.func47 (by kernel_rfl) rfl #[.agg #[.int .u64 t754, .int .u64 t755, .int .u64 t756, .int .u64 t757, .int .i64 t758]] (by rfl) rfl rfl (by (try simp only [List.map_toArray, List.map_cons, List.map_nil]); first | done | rfl | (simp only [List.length_drop, List.length_take]; rfl)) ?_
      with_reducible refine (stamp_Stamp_N.calls t754 t755 t756 t757 t758 t771 _ A9.out).mono ?_
      rintro e w122 ⟨rfl, hb⟩
      refine ⟨_, rfl, ?_⟩
      replace BK751 := Kb_ BK751 hb
      replace BK752 := Kb_ BK752 hb
      replace BK759 := Kb_ BK759 hb
      replace BK764 := Kb_ BK764 hb
      replace BK770 := Kb_ BK770 hb
      replace HB := Ks_ HB hb
      (try clear hb)
      (try clear hb2)
      (try clear hk)
      (try clear hi)
      refine hK.out _ _ ⟨Km_ BK770 0, Km_ BK770 1, Km_ BK770 2, Km_ BK770 3, Km_ BK759 0, Km_ BK759 1, Km_ BK759 2, Km_ BK759 3, Km_ BK759 4⟩ (fun hHeld => ?_)
      clear hK K
      refine Kn_ 32 ?_
      refine Kp_ 5 33 #[true, true, true, true, true, true, false, false, false] (any_of HT_.out (by kernel_rfl)) ?_
      refine two_ (i := 6) (j := 7) (Ni := some 34) (Nj := some 10) #[true, true, true, true, true, true, true, false, false] #[true, true, true, true, true, true, false, true, false] rfl rfl rfl rfl (two_of HT_.out (by kernel_rfl)) (by decide) (by decide) (fun K hK => ?_) (fun K hK => ?_)
      · skip
        refine goes_ Try.func46 (by kernel_rfl) rfl #[.agg #[.int .u64 t766, .int .u64 t767, .int .u64 t768, .int .u64 t769], .int .i64 t758, .int .u64 (IntKind.u64.wrap (t771 - 1))] (by rfl) rfl rfl (by (try simp only [List.map_toArray, List.map_cons, List.map_nil]); first | done | rfl | (simp only [List.length_drop, List.length_take]; rfl)) ?_
        with_reducible refine (vec_With.calls t766 t767 t768 t769 t758 (IntKind.u64.wrap (t771 - 1)) t772 t773 t774 t775 _ A10.out).mono ?_
        rintro e w123 ⟨rfl, hb⟩
        refine ⟨_, rfl, ?_⟩
        replace BK751 := Kb_ BK751 hb
        replace BK752 := Kb_ BK752 hb
        replace BK759 := Kb_ BK759 hb
        replace BK764 := Kb_ BK764 hb
        replace BK770 := Kb_ BK770 hb
        replace HB := Ks_ HB hb
        (try clear hb)
        (try clear hb2)
        (try clear hk)
        (try clear hi)
        refine hK.out _ _ ⟨Km_ BK770 0, Km_ BK770 1, Km_ BK770 2, Km_ BK770 3, Km_ BK759 0, Km_ BK759 1, Km_ BK759 2, Km_ BK759 3, Km_ BK759 4⟩ (fun hHeld => ?_)
        clear hK K
        refine Kn_ 34 ?_
        refine one_ (i := 7) (N := some 10) #[true, true, true, true, true, true, true, true, false] rfl rfl (one_of HT_.out (by kernel_rfl)) (by decide) (fun K hK => ?_)
        refine box_step ?hg (N := 10) ?hd (cs := #[.int .u64 0, .int .u64 0, .int .u64 0, .int .u64 0]) (t := 28) ?hr ?_; (case hd => rfl); (case hg => rfl); (case hr => first | (go_simp; done) | (go_simp; rfl))
        intro gb776 hg w124 hbox hb
        have BK776 := Aside0.mk (hbox)
        have GW776 := Kw_ HB hg
        have GE776 := GW776
        have NB751_776 := Kl_ BK751 hg
        have NB776_751 := Kr_ BK751 hg
        have NB752_776 := Kl_ BK752 hg
        have NB776_752 := Kr_ BK752 hg
        have NB759_776 := Kl_ BK759 hg
        have NB776_759 := Kr_ BK759 hg
        have NB764_776 := Kl_ BK764 hg
        have NB776_764 := Kr_ BK764 hg
        have NB770_776 := Kl_ BK770 hg
        have NB776_770 := Kr_ BK770 hg
        replace BK751 := Kb_ BK751 hb
        replace BK752 := Kb_ BK752 hb
        replace BK759 := Kb_ BK759 hb
        replace BK764 := Kb_ BK764 hb
        replace BK770 := Kb_ BK770 hb
        replace HB := Ks_ HB hb
        clear hb hbox hg
        refine hK.out _ _ ⟨Km_ BK770 0, Km_ BK770 1, Km_ BK770 2, Km_ BK770 3, Km_ BK759 0, Km_ BK759 1, Km_ BK759 2, Km_ BK759 3, Km_ BK759 4⟩ (fun hHeld => ?_)
        clear hK K
        refine Kn_ 10 ?_
        exact norm_ (by simp only [putAll, Act.put, List.setIfInBounds_toArray, List.set_cons_zero, List.set_cons_succ]) (hCont (gb776) _ ⟨hHeld, (Kq_ BK751), (Kq_ BK752), (Kq_ BK759), (Kq_ BK764), (Kq_ BK770), (Kq_ BK776), GW776.out, GE776.out, NB751_776.out, NB776_751.out, NB752_776.out, NB776_752.out, NB759_776.out, NB776_759.out, NB764_776.out, NB776_764.out, NB770_776.out, NB776_770.out, (by repeat (first | (with_reducible first | exact HB.out | apply below_alloc | apply pw_below_drewN | apply below_drew1 | refine below_set ?_ GE751.out | refine below_set ?_ GE752.out | refine below_set ?_ GE759.out | refine below_set ?_ GE764.out | refine below_set ?_ GE770.out | refine below_set ?_ GE776.out) | exact HB.out))⟩)
      · skip
        refine box_step ?hg (N := 10) ?hd (cs := #[.int .u64 0, .int .u64 0, .int .u64 0, .int .u64 0]) (t := 28) ?hr ?_; (case hd => rfl); (case hg => rfl); (case hr => first | (go_simp; done) | (go_simp; rfl))
        intro gb776 hg w123 hbox hb
        have BK776 := Aside0.mk (hbox)
        have GW776 := Kw_ HB hg
        have GE776 := GW776
        have NB751_776 := Kl_ BK751 hg
        have NB776_751 := Kr_ BK751 hg
        have NB752_776 := Kl_ BK752 hg
        have NB776_752 := Kr_ BK752 hg
        have NB759_776 := Kl_ BK759 hg
        have NB776_759 := Kr_ BK759 hg
        have NB764_776 := Kl_ BK764 hg
        have NB776_764 := Kr_ BK764 hg
        have NB770_776 := Kl_ BK770 hg
        have NB776_770 := Kr_ BK770 hg
        replace BK751 := Kb_ BK751 hb
        replace BK752 := Kb_ BK752 hb
        replace BK759 := Kb_ BK759 hb
        replace BK764 := Kb_ BK764 hb
        replace BK770 := Kb_ BK770 hb
        replace HB := Ks_ HB hb
        clear hb hbox hg
        refine hK.out _ _ ⟨Km_ BK770 0, Km_ BK770 1, Km_ BK770 2, Km_ BK770 3, Km_ BK759 0, Km_ BK759 1, Km_ BK759 2, Km_ BK759 3, Km_ BK759 4⟩ (fun hHeld => ?_)
        clear hK K
        refine Kn_ 10 ?_
        refine one_ (i := 6) (N := some 34) #[true, true, true, true, true, true, true, true, false] rfl rfl (one_of HT_.out (by kernel_rfl)) (by decide) (fun K hK => ?_)
        refine goes_ Try.func46 (by kernel_rfl) rfl #[.agg #[.int .u64 t766, .int .u64 t767, .int .u64 t768, .int .u64 t769], .int .i64 t758, .int .u64 (IntKind.u64.wrap (t771 - 1))] (by rfl) rfl rfl (by (try simp only [List.map_toArray, List.map_cons, List.map_nil]); first | done | rfl | (simp only [List.length_drop, List.length_take]; rfl)) ?_
        with_reducible refine (vec_With.calls t766 t767 t768 t769 t758 (IntKind.u64.wrap (t771 - 1)) t772 t773 t774 t775 _ A10.out).mono ?_
        rintro e w124 ⟨rfl, hb⟩
        refine ⟨_, rfl, ?_⟩
        replace BK751 := Kb_ BK751 hb
        replace BK752 := Kb_ BK752 hb
        replace BK759 := Kb_ BK759 hb
        replace BK764 := Kb_ BK764 hb
        replace BK770 := Kb_ BK770 hb
        replace BK776 := Kb_ BK776 hb
        replace HB := Ks_ HB hb
        (try clear hb)
        (try clear hb2)
        (try clear hk)
        (try clear hi)
        refine hK.out _ _ ⟨Km_ BK770 0, Km_ BK770 1, Km_ BK770 2, Km_ BK770 3, Km_ BK759 0, Km_ BK759 1, Km_ BK759 2, Km_ BK759 3, Km_ BK759 4⟩ (fun hHeld => ?_)
        clear hK K
        refine Kn_ 34 ?_
        exact norm_ (by simp only [putAll, Act.put, List.setIfInBounds_toArray, List.set_cons_zero, List.set_cons_succ]) (hCont (gb776) _ ⟨hHeld, (Kq_ BK751), (Kq_ BK752), (Kq_ BK759), (Kq_ BK764), (Kq_ BK770), (Kq_ BK776), GW776.out, GE776.out, NB751_776.out, NB776_751.out, NB752_776.out, NB776_752.out, NB759_776.out, NB776_759.out, NB764_776.out, NB776_764.out, NB770_776.out, NB776_770.out, (by repeat (first | (with_reducible first | exact HB.out | apply below_alloc | apply pw_below_drewN | apply below_drew1 | refine below_set ?_ GE751.out | refine below_set ?_ GE752.out | refine below_set ?_ GE759.out | refine below_set ?_ GE764.out | refine below_set ?_ GE770.out | refine below_set ?_ GE776.out) | exact HB.out))⟩)
    · skip
      refine box_step ?hg (N := 10) ?hd (cs := #[.int .u64 0, .int .u64 0, .int .u64 0, .int .u64 0]) (t := 28) ?hr ?_; (case hd => rfl); (case hg => rfl); (case hr => first | (go_simp; done) | (go_simp; rfl))
      intro gb776 hg w122 hbox hb
      have BK776 := Aside0.mk (hbox)
      have GW776 := Kw_ HB hg
      have GE776 := GW776
      have NB751_776 := Kl_ BK751 hg
      have NB776_751 := Kr_ BK751 hg
      have NB752_776 := Kl_ BK752 hg
      have NB776_752 := Kr_ BK752 hg
      have NB759_776 := Kl_ BK759 hg
      have NB776_759 := Kr_ BK759 hg
      have NB764_776 := Kl_ BK764 hg
      have NB776_764 := Kr_ BK764 hg
      have NB770_776 := Kl_ BK770 hg
      have NB776_770 := Kr_ BK770 hg
      replace BK751 := Kb_ BK751 hb
      replace BK752 := Kb_ BK752 hb
      replace BK759 := Kb_ BK759 hb
      replace BK764 := Kb_ BK764 hb
      replace BK770 := Kb_ BK770 hb
      replace HB := Ks_ HB hb
      clear hb hbox hg
      refine hK.out _ _ ⟨Km_ BK770 0, Km_ BK770 1, Km_ BK770 2, Km_ BK770 3, Km_ BK759 0, Km_ BK759 1, Km_ BK759 2, Km_ BK759 3, Km_ BK759 4⟩ (fun hHeld => ?_)
      clear hK K
      refine Kn_ 10 ?_
      refine one_ (i := 4) (N := some 32) #[true, true, true, true, true, false, false, true, false] rfl rfl (one_of HT_.out (by kernel_rfl)) (by decide) (fun K hK => ?_)
      refine goes_ Try.func47 (by kernel_rfl) rfl #[.agg #[.int .u64 t754, .int .u64 t755, .int .u64 t756, .int .u64 t757, .int .i64 t758]] (by rfl) rfl rfl (by (try simp only [List.map_toArray, List.map_cons, List.map_nil]); first | done | rfl | (simp only [List.length_drop, List.length_take]; rfl)) ?_
      with_reducible refine (stamp_Stamp_N.calls t754 t755 t756 t757 t758 t771 _ A9.out).mono ?_
      rintro e w123 ⟨rfl, hb⟩
      refine ⟨_, rfl, ?_⟩
      replace BK751 := Kb_ BK751 hb
      replace BK752 := Kb_ BK752 hb
      replace BK759 := Kb_ BK759 hb
      replace BK764 := Kb_ BK764 hb
      replace BK770 := Kb_ BK770 hb
      replace BK776 := Kb_ BK776 hb
      replace HB := Ks_ HB hb
      (try clear hb)
      (try clear hb2)
      (try clear hk)
      (try clear hi)
      refine hK.out _ _ ⟨Km_ BK770 0, Km_ BK770 1, Km_ BK770 2, Km_ BK770 3, Km_ BK759 0, Km_ BK759 1, Km_ BK759 2, Km_ BK759 3, Km_ BK759 4⟩ (fun hHeld => ?_)
      clear hK K
      refine Kn_ 32 ?_
      refine Kp_ 5 33 #[true, true, true, true, true, true, false, true, false] (any_of HT_.out (by kernel_rfl)) ?_
      refine one_ (i := 6) (N := some 34) #[true, true, true, true, true, true, true, true, false] rfl rfl (one_of HT_.out (by kernel_rfl)) (by decide) (fun K hK => ?_)
      refine goes_ Try.func46 (by kernel_rfl) rfl #[.agg #[.int .u64 t766, .int .u64 t767, .int .u64 t768, .int .u64 t769], .int .i64 t758, .int .u64 (IntKind.u64.wrap (t771 - 1))] (by rfl) rfl rfl (by (try simp only [List.map_toArray, List.map_cons, List.map_nil]); first | done | rfl | (simp only [List.length_drop, List.length_take]; rfl)) ?_
      with_reducible refine (vec_With.calls t766 t767 t768 t769 t758 (IntKind.u64.wrap (t771 - 1)) t772 t773 t774 t775 _ A10.out).mono ?_
      rintro e w124 ⟨rfl, hb⟩
      refine ⟨_, rfl, ?_⟩
      replace BK751 := Kb_ BK751 hb
      replace BK752 := Kb_ BK752 hb
      replace BK759 := Kb_ BK759 hb
      replace BK764 := Kb_ BK764 hb
      replace BK770 := Kb_ BK770 hb
      replace BK776 := Kb_ BK776 hb
      replace HB := Ks_ HB hb
      (try clear hb)
      (try clear hb2)
      (try clear hk)
      (try clear hi)
      refine hK.out _ _ ⟨Km_ BK770 0, Km_ BK770 1, Km_ BK770 2, Km_ BK770 3, Km_ BK759 0, Km_ BK759 1, Km_ BK759 2, Km_ BK759 3, Km_ BK759 4⟩ (fun hHeld => ?_)
      clear hK K
      refine Kn_ 34 ?_
      exact norm_ (by simp only [putAll, Act.put, List.setIfInBounds_toArray, List.set_cons_zero, List.set_cons_succ]) (hCont (gb776) _ ⟨hHeld, (Kq_ BK751), (Kq_ BK752), (Kq_ BK759), (Kq_ BK764), (Kq_ BK770), (Kq_ BK776), GW776.out, GE776.out, NB751_776.out, NB776_751.out, NB752_776.out, NB776_752.out, NB759_776.out, NB776_759.out, NB764_776.out, NB776_764.out, NB770_776.out, NB776_770.out, (by repeat (first | (with_reducible first | exact HB.out | apply below_alloc | apply pw_below_drewN | apply below_drew1 | refine below_set ?_ GE751.out | refine below_set ?_ GE752.out | refine below_set ?_ GE759.out | refine below_set ?_ GE764.out | refine below_set ?_ GE770.out | refine below_set ?_ GE776.out) | exact HB.out))⟩)
  rintro gb776 w125 ⟨hS_, h0_, h1_, h2_, h3_, h4_, h5_, h6_, h7_, h8_, h9_, h10_, h11_, h12_, h13_, h14_, h15_, h16_, h17_, h18_⟩
  have n0_ : Aside0 (w125.heap[gb751]? = some (.cells #[.int .u64 a0_0, .int .u64 a0_1, .int .u64 a0_2, .int .u64 a0_3, .int .i64 a0_4, .bool true] 39 (0, 0))) := ⟨h0_⟩
  have n1_ : Aside0 (w125.heap[gb752]? = some (.cells #[.int .u64 a1_0, .int .u64 a1_1, .int .u64 a1_2, .int .u64 a1_3, .bool a1_4] 63 (0, 0))) := ⟨h1_⟩
  have n2_ : Aside0 (w125.heap[gb759]? = some (.cells #[.int .u64 t754, .int .u64 t755, .int .u64 t756, .int .u64 t757, .int .i64 t758] 30 (0, 0))) := ⟨h2_⟩
  have n3_ : Aside0 (w125.heap[gb764]? = some (.cells #[.int .u64 t760, .int .u64 t761, .int .u64 t762, .int .u64 t763] 28 (0, 0))) := ⟨h3_⟩
  have n4_ : Aside0 (w125.heap[gb770]? = some (.cells #[.int .u64 t766, .int .u64 t767, .int .u64 t768, .int .u64 t769] 28 (0, 0))) := ⟨h4_⟩
  have n5_ : Aside0 (w125.heap[gb776]? = some (.cells #[.int .u64 0, .int .u64 0, .int .u64 0, .int .u64 0] 28 (0, 0))) := ⟨h5_⟩
  have n6_ : Aside0 (w.heap.size ≤ gb776) := ⟨h6_⟩
  have n7_ : Aside0 (w.heap.size ≤ gb776) := ⟨h7_⟩
  have n8_ : Aside0 (gb751 ≠ gb776) := ⟨h8_⟩
  have n9_ : Aside0 (gb776 ≠ gb751) := ⟨h9_⟩
  have n10_ : Aside0 (gb752 ≠ gb776) := ⟨h10_⟩
  have n11_ : Aside0 (gb776 ≠ gb752) := ⟨h11_⟩
  have n12_ : Aside0 (gb759 ≠ gb776) := ⟨h12_⟩
  have n13_ : Aside0 (gb776 ≠ gb759) := ⟨h13_⟩
  have n14_ : Aside0 (gb764 ≠ gb776) := ⟨h14_⟩
  have n15_ : Aside0 (gb776 ≠ gb764) := ⟨h15_⟩
  have n16_ : Aside0 (gb770 ≠ gb776) := ⟨h16_⟩
  have n17_ : Aside0 (gb776 ≠ gb770) := ⟨h17_⟩
  have n18_ : Aside0 (Below w.heap.size w w125) := ⟨h18_⟩
  clear BK751
  clear BK752
  clear BK759
  clear BK764
  clear BK770
  clear HB
  clear h0_ h1_ h2_ h3_ h4_ h5_ h6_ h7_ h8_ h9_ h10_ h11_ h12_ h13_ h14_ h15_ h16_ h17_ h18_
  have BK751 := n0_
  have BK752 := n1_
  have BK759 := n2_
  have BK764 := n3_
  have BK770 := n4_
  have BK776 := n5_
  have GW776 := n6_
  have GE776 := n7_
  have NB751_776 := n8_
  have NB776_751 := n9_
  have NB752_776 := n10_
  have NB776_752 := n11_
  have NB759_776 := n12_
  have NB776_759 := n13_
  have NB764_776 := n14_
  have NB776_764 := n15_
  have NB770_776 := n16_
  have NB776_770 := n17_
  have HB := n18_
  clear n0_ n1_ n2_ n3_ n4_ n5_ n6_ n7_ n8_ n9_ n10_ n11_ n12_ n13_ n14_ n15_ n16_ n17_ n18_
  have hHeld : w125.cell? ⟨gb770, 0, none⟩ = some (.int .u64 t766) ∧ w125.cell? ⟨gb770, 1, none⟩ = some (.int .u64 t767) ∧ w125.cell? ⟨gb770, 2, none⟩ = some (.int .u64 t768) ∧ w125.cell? ⟨gb770, 3, none⟩ = some (.int .u64 t769) ∧ w125.cell? ⟨gb759, 0, none⟩ = some (.int .u64 t754) ∧ w125.cell? ⟨gb759, 1, none⟩ = some (.int .u64 t755) ∧ w125.cell? ⟨gb759, 2, none⟩ = some (.int .u64 t756) ∧ w125.cell? ⟨gb759, 3, none⟩ = some (.int .u64 t757) ∧ w125.cell? ⟨gb759, 4, none⟩ = some (.int .i64 t758) := hS_
  refine norm_ (a' := ?_) ?_ ?_
  rotate_left
  · simp only [putAll, Act.put, List.setIfInBounds_toArray, List.set_cons_zero, List.set_cons_succ]
    rfl
  refine one_ (i := 8) (N := none) #[true, true, true, true, true, true, true, true, true] rfl rfl (one_of HT_.out (by kernel_rfl)) (by decide) (fun K hK => ?_)
  have hs126 : w125.cell? ⟨gb776, 0, none⟩ = some (.int .u64 0) := (blk_cell BK776.out 0).trans rfl
  have hfs126 := blk_frozen BK776.out 0
  have hns126_0 := NB751_776.out
  have hns126_1 := NB752_776.out
  have hns126_2 := NB759_776.out
  have hns126_3 := NB764_776.out
  have hns126_4 := NB770_776.out
  have hms126_0 := NB776_751.out
  have hms126_1 := NB776_752.out
  have hms126_2 := NB776_759.out
  have hms126_3 := NB776_764.out
  have hms126_4 := NB776_770.out
  have hs127 : w125.cell? ⟨gb776, 1, none⟩ = some (.int .u64 0) := (blk_cell BK776.out 1).trans rfl
  have hfs127 := blk_frozen BK776.out 1
  have hns127_0 := NB751_776.out
  have hns127_1 := NB752_776.out
  have hns127_2 := NB759_776.out
  have hns127_3 := NB764_776.out
  have hns127_4 := NB770_776.out
  have hms127_0 := NB776_751.out
  have hms127_1 := NB776_752.out
  have hms127_2 := NB776_759.out
  have hms127_3 := NB776_764.out
  have hms127_4 := NB776_770.out
  have hs128 : w125.cell? ⟨gb776, 2, none⟩ = some (.int .u64 0) := (blk_cell BK776.out 2).trans rfl
  have hfs128 := blk_frozen BK776.out 2
  have hns128_0 := NB751_776.out
  have hns128_1 := NB752_776.out
  have hns128_2 := NB759_776.out
  have hns128_3 := NB764_776.out
  have hns128_4 := NB770_776.out
  have hms128_0 := NB776_751.out
  have hms128_1 := NB776_752.out
  have hms128_2 := NB776_759.out
  have hms128_3 := NB776_764.out
  have hms128_4 := NB776_770.out
  have hs129 : w125.cell? ⟨gb776, 3, none⟩ = some (.int .u64 0) := (blk_cell BK776.out 3).trans rfl
  have hfs129 := blk_frozen BK776.out 3
  have hns129_0 := NB751_776.out
  have hns129_1 := NB752_776.out
  have hns129_2 := NB759_776.out
  have hns129_3 := NB764_776.out
  have hns129_4 := NB770_776.out
  have hms129_0 := NB776_751.out
  have hms129_1 := NB776_752.out
  have hms129_2 := NB776_759.out
  have hms129_3 := NB776_764.out
  have hms129_4 := NB776_770.out
  refine skip_ (w1 := ?_) (by rfl) rfl ?_ ?_
  rotate_left
  · go_simp
    rfl
  refine hK.out _ _ ⟨(Kj_ NB770_776 ((Kj_ NB770_776 ((Kj_ NB770_776 ((Kj_ NB770_776 (hHeld.1)))))))), (Kj_ NB770_776 ((Kj_ NB770_776 ((Kj_ NB770_776 ((Kj_ NB770_776 (hHeld.2.1)))))))), (Kj_ NB770_776 ((Kj_ NB770_776 ((Kj_ NB770_776 ((Kj_ NB770_776 (hHeld.2.2.1)))))))), (Kj_ NB770_776 ((Kj_ NB770_776 ((Kj_ NB770_776 ((Kj_ NB770_776 (hHeld.2.2.2.1)))))))), (Kj_ NB759_776 ((Kj_ NB759_776 ((Kj_ NB759_776 ((Kj_ NB759_776 (hHeld.2.2.2.2.1)))))))), (Kj_ NB759_776 ((Kj_ NB759_776 ((Kj_ NB759_776 ((Kj_ NB759_776 (hHeld.2.2.2.2.2.1)))))))), (Kj_ NB759_776 ((Kj_ NB759_776 ((Kj_ NB759_776 ((Kj_ NB759_776 (hHeld.2.2.2.2.2.2.1)))))))), (Kj_ NB759_776 ((Kj_ NB759_776 ((Kj_ NB759_776 ((Kj_ NB759_776 (hHeld.2.2.2.2.2.2.2.1)))))))), (Kj_ NB759_776 ((Kj_ NB759_776 ((Kj_ NB759_776 ((Kj_ NB759_776 (hHeld.2.2.2.2.2.2.2.2))))))))⟩ (fun hHeld => ?_)
  clear hK K
  refine done_ (done_of HT_.out (by kernel_rfl)) ?_
  try go_wp2
  have n0_ : Aside0 (((((w125.setCell ⟨gb776, 0, none⟩ (.int .u64 t772)).setCell ⟨gb776, 1, none⟩ (.int .u64 t773)).setCell ⟨gb776, 2, none⟩ (.int .u64 t774)).setCell ⟨gb776, 3, none⟩ (.int .u64 t775)).heap[gb751]? = some (.cells #[.int .u64 a0_0, .int .u64 a0_1, .int .u64 a0_2, .int .u64 a0_3, .int .i64 a0_4, .bool true] 39 (0, 0))) := ⟨by exact K1b_ BK751 NB751_776⟩
  have n1_ : Aside0 (((((w125.setCell ⟨gb776, 0, none⟩ (.int .u64 t772)).setCell ⟨gb776, 1, none⟩ (.int .u64 t773)).setCell ⟨gb776, 2, none⟩ (.int .u64 t774)).setCell ⟨gb776, 3, none⟩ (.int .u64 t775)).heap[gb752]? = some (.cells #[.int .u64 a1_0, .int .u64 a1_1, .int .u64 a1_2, .int .u64 a1_3, .bool a1_4] 63 (0, 0))) := ⟨by exact K1b_ BK752 NB752_776⟩
  have n2_ : Aside0 (((((w125.setCell ⟨gb776, 0, none⟩ (.int .u64 t772)).setCell ⟨gb776, 1, none⟩ (.int .u64 t773)).setCell ⟨gb776, 2, none⟩ (.int .u64 t774)).setCell ⟨gb776, 3, none⟩ (.int .u64 t775)).heap[gb759]? = some (.cells #[.int .u64 t754, .int .u64 t755, .int .u64 t756, .int .u64 t757, .int .i64 t758] 30 (0, 0))) := ⟨by exact K1b_ BK759 NB759_776⟩
  have n3_ : Aside0 (((((w125.setCell ⟨gb776, 0, none⟩ (.int .u64 t772)).setCell ⟨gb776, 1, none⟩ (.int .u64 t773)).setCell ⟨gb776, 2, none⟩ (.int .u64 t774)).setCell ⟨gb776, 3, none⟩ (.int .u64 t775)).heap[gb764]? = some (.cells #[.int .u64 t760, .int .u64 t761, .int .u64 t762, .int .u64 t763] 28 (0, 0))) := ⟨by exact K1b_ BK764 NB764_776⟩
  have n4_ : Aside0 (((((w125.setCell ⟨gb776, 0, none⟩ (.int .u64 t772)).setCell ⟨gb776, 1, none⟩ (.int .u64 t773)).setCell ⟨gb776, 2, none⟩ (.int .u64 t774)).setCell ⟨gb776, 3, none⟩ (.int .u64 t775)).heap[gb770]? = some (.cells #[.int .u64 t766, .int .u64 t767, .int .u64 t768, .int .u64 t769] 28 (0, 0))) := ⟨by exact K1b_ BK770 NB770_776⟩
  have n5_ : Aside0 (((((w125.setCell ⟨gb776, 0, none⟩ (.int .u64 t772)).setCell ⟨gb776, 1, none⟩ (.int .u64 t773)).setCell ⟨gb776, 2, none⟩ (.int .u64 t774)).setCell ⟨gb776, 3, none⟩ (.int .u64 t775)).heap[gb776]? = some (.cells #[.int .u64 t772, .int .u64 t773, .int .u64 t774, .int .u64 t775] 28 (0, 0))) := ⟨by refine Kv_ ?_; refine blk_put (cs := #[.int .u64 t772, .int .u64 t773, .int .u64 t774, .int .u64 0]) ?_ 3 _ rfl; refine Kv_ ?_; refine blk_put (cs := #[.int .u64 t772, .int .u64 t773, .int .u64 0, .int .u64 0]) ?_ 2 _ rfl; refine Kv_ ?_; refine blk_put (cs := #[.int .u64 t772, .int .u64 0, .int .u64 0, .int .u64 0]) ?_ 1 _ rfl; refine Kv_ ?_; refine blk_put (cs := #[.int .u64 0, .int .u64 0, .int .u64 0, .int .u64 0]) ?_ 0 _ rfl; exact Kq_ BK776⟩
  have n6_ : Aside0 (Below w.heap.size w ((((w125.setCell ⟨gb776, 0, none⟩ (.int .u64 t772)).setCell ⟨gb776, 1, none⟩ (.int .u64 t773)).setCell ⟨gb776, 2, none⟩ (.int .u64 t774)).setCell ⟨gb776, 3, none⟩ (.int .u64 t775))) := ⟨by repeat (first | (with_reducible first | exact HB.out | apply below_alloc | apply pw_below_drewN | apply below_drew1 | refine below_set ?_ GE751.out | refine below_set ?_ GE752.out | refine below_set ?_ GE759.out | refine below_set ?_ GE764.out | refine below_set ?_ GE770.out | refine below_set ?_ GE776.out) | exact HB.out)⟩
  (try clear BK751)
  (try clear BK752)
  (try clear BK759)
  (try clear BK764)
  (try clear BK770)
  (try clear BK776)
  (try clear HB)
  generalize ((((w125.setCell ⟨gb776, 0, none⟩ (.int .u64 t772)).setCell ⟨gb776, 1, none⟩ (.int .u64 t773)).setCell ⟨gb776, 2, none⟩ (.int .u64 t774)).setCell ⟨gb776, 3, none⟩ (.int .u64 t775)) = w130 at n0_ n1_ n2_ n3_ n4_ n5_ n6_ ⊢
  have BK751 := n0_
  have BK752 := n1_
  have BK759 := n2_
  have BK764 := n3_
  have BK770 := n4_
  have BK776 := n5_
  have HB := n6_
  clear n0_ n1_ n2_ n3_ n4_ n5_ n6_
  replace BK751 := Kd_ BK751
  replace BK752 := Kd_ BK752
  replace BK759 := Kd_ BK759
  replace BK764 := Kd_ BK764
  replace BK770 := Kd_ BK770
  replace BK776 := Kd_ BK776
  replace HB := Aside0.mk (below_drew1 HB.out)
  refine start_ (n := 8) (S := fun w' => w'.cell? ⟨gb764, 0, none⟩ = some (.int .u64 t760) ∧ w'.cell? ⟨gb764, 1, none⟩ = some (.int .u64 t761) ∧ w'.cell? ⟨gb764, 2, none⟩ = some (.int .u64 t762) ∧ w'.cell? ⟨gb764, 3, none⟩ = some (.int .u64 t763) ∧ w'.cell? ⟨gb759, 0, none⟩ = some (.int .u64 t754) ∧ w'.cell? ⟨gb759, 1, none⟩ = some (.int .u64 t755) ∧ w'.cell? ⟨gb759, 2, none⟩ = some (.int .u64 t756) ∧ w'.cell? ⟨gb759, 3, none⟩ = some (.int .u64 t757) ∧ w'.cell? ⟨gb759, 4, none⟩ = some (.int .i64 t758)) (ds := []) #[false, false, false, false, false, false, false, false] (by kernel_rfl) rfl rfl ⟨Km_ BK764 0, Km_ BK764 1, Km_ BK764 2, Km_ BK764 3, Km_ BK759 0, Km_ BK759 1, Km_ BK759 2, Km_ BK759 3, Km_ BK759 4⟩ (fun hHeld => ?_); refine with_tabW tenementlaw15_StreamReady_p0.tab10 tenementlaw15_StreamReady_p0.bits10 (fun HT_ HW_ => ?_)
  generalize w130.drew = w131 at BK751 BK752 BK759 BK764 BK770 BK776 HB hHeld ⊢
  refine Kp_ 1 36 #[false, true, false, false, false, false, false, false] (any_of HT_.out (by kernel_rfl)) ?_
  refine Ko_ 0 35 #[true, true, false, false, false, false, false, false] (take_ofW HT_.out HW_.out (by kernel_rfl)) hHeld ?_
  refine Ko_ 2 37 #[true, true, true, false, false, false, false, false] (take_ofW HT_.out HW_.out (by kernel_rfl)) hHeld ?_
  refine Ko_ 4 39 #[true, true, true, false, true, false, false, false] (take_ofW HT_.out HW_.out (by kernel_rfl)) hHeld ?_
  refine one_ (i := 3) (N := some 38) #[true, true, true, true, true, false, false, false] rfl rfl (one_of HT_.out (by kernel_rfl)) (by decide) (fun K hK => ?_)
  refine goes_ Try.func48 (by kernel_rfl) rfl #[.agg #[.int .u64 t760, .int .u64 t761, .int .u64 t762, .int .u64 t763], .int .i64 t758] (by rfl) rfl rfl (by (try simp only [List.map_toArray, List.map_cons, List.map_nil]); first | done | rfl | (simp only [List.length_drop, List.length_take]; rfl)) ?_
  with_reducible refine (vec_At.calls t760 t761 t762 t763 t758 t777 _ A11.out).mono ?_
  rintro e w132 ⟨rfl, hb⟩
  refine ⟨_, rfl, ?_⟩
  replace BK751 := Kb_ BK751 hb
  replace BK752 := Kb_ BK752 hb
  replace BK759 := Kb_ BK759 hb
  replace BK764 := Kb_ BK764 hb
  replace BK770 := Kb_ BK770 hb
  replace BK776 := Kb_ BK776 hb
  replace HB := Ks_ HB hb
  (try clear hb)
  (try clear hb2)
  (try clear hk)
  (try clear hi)
  refine hK.out _ _ ⟨Km_ BK764 0, Km_ BK764 1, Km_ BK764 2, Km_ BK764 3, Km_ BK759 0, Km_ BK759 1, Km_ BK759 2, Km_ BK759 3, Km_ BK759 4⟩ (fun hHeld => ?_)
  clear hK K
  refine Kn_ 38 ?_
  refine one_ (i := 5) (N := some 40) #[true, true, true, true, true, true, false, false] rfl rfl (one_of HT_.out (by kernel_rfl)) (by decide) (fun K hK => ?_)
  refine goes_ Try.func47 (by kernel_rfl) rfl #[.agg #[.int .u64 t754, .int .u64 t755, .int .u64 t756, .int .u64 t757, .int .i64 t758]] (by rfl) rfl rfl (by (try simp only [List.map_toArray, List.map_cons, List.map_nil]); first | done | rfl | (simp only [List.length_drop, List.length_take]; rfl)) ?_
  with_reducible refine (stamp_Stamp_N.calls t754 t755 t756 t757 t758 t778 _ A12.out).mono ?_
  rintro e w133 ⟨rfl, hb⟩
  refine ⟨_, rfl, ?_⟩
  replace BK751 := Kb_ BK751 hb
  replace BK752 := Kb_ BK752 hb
  replace BK759 := Kb_ BK759 hb
  replace BK764 := Kb_ BK764 hb
  replace BK770 := Kb_ BK770 hb
  replace BK776 := Kb_ BK776 hb
  replace HB := Ks_ HB hb
  (try clear hb)
  (try clear hb2)
  (try clear hk)
  (try clear hi)
  refine hK.out _ _ ⟨Km_ BK764 0, Km_ BK764 1, Km_ BK764 2, Km_ BK764 3, Km_ BK759 0, Km_ BK759 1, Km_ BK759 2, Km_ BK759 3, Km_ BK759 4⟩ (fun hHeld => ?_)
  clear hK K
  refine Kn_ 40 ?_
  refine Kp_ 6 41 #[true, true, true, true, true, true, true, false] (any_of HT_.out (by kernel_rfl)) ?_
  refine Kp_ 7 11 #[true, true, true, true, true, true, true, true] (any_of HT_.out (by kernel_rfl)) ?_
  refine done_ (done_of HT_.out (by kernel_rfl)) ?_
  try go_wp2
  replace BK751 := Kd_ BK751
  replace BK752 := Kd_ BK752
  replace BK759 := Kd_ BK759
  replace BK764 := Kd_ BK764
  replace BK770 := Kd_ BK770
  replace BK776 := Kd_ BK776
  replace HB := Aside0.mk (below_drew1 HB.out)
  refine start_ (n := 24) (S := fun w' => w'.cell? ⟨gb764, 0, none⟩ = some (.int .u64 t760) ∧ w'.cell? ⟨gb764, 1, none⟩ = some (.int .u64 t761) ∧ w'.cell? ⟨gb764, 2, none⟩ = some (.int .u64 t762) ∧ w'.cell? ⟨gb764, 3, none⟩ = some (.int .u64 t763) ∧ w'.cell? ⟨gb759, 0, none⟩ = some (.int .u64 t754) ∧ w'.cell? ⟨gb759, 1, none⟩ = some (.int .u64 t755) ∧ w'.cell? ⟨gb759, 2, none⟩ = some (.int .u64 t756) ∧ w'.cell? ⟨gb759, 3, none⟩ = some (.int .u64 t757) ∧ w'.cell? ⟨gb759, 4, none⟩ = some (.int .i64 t758) ∧ w'.cell? ⟨gb770, 0, none⟩ = some (.int .u64 t766) ∧ w'.cell? ⟨gb770, 1, none⟩ = some (.int .u64 t767) ∧ w'.cell? ⟨gb770, 2, none⟩ = some (.int .u64 t768) ∧ w'.cell? ⟨gb770, 3, none⟩ = some (.int .u64 t769)) (ds := []) #[false, false, false, false, false, false, false, false, false, false, false, false, false, false, false, false, false, false, false, false, false, false, false, false] (by kernel_rfl) rfl rfl ⟨Km_ BK764 0, Km_ BK764 1, Km_ BK764 2, Km_ BK764 3, Km_ BK759 0, Km_ BK759 1, Km_ BK759 2, Km_ BK759 3, Km_ BK759 4, Km_ BK770 0, Km_ BK770 1, Km_ BK770 2, Km_ BK770 3⟩ (fun hHeld => ?_); refine with_tabW tenementlaw15_StreamReady_p0.tab11 tenementlaw15_StreamReady_p0.bits11 (fun HT_ HW_ => ?_)
  generalize w133.drew = w134 at BK751 BK752 BK759 BK764 BK770 BK776 HB hHeld ⊢
  refine Kp_ 1 43 #[false, true, false, false, false, false, false, false, false, false, false, false, false, false, false, false, false, false, false, false, false, false, false, false] (any_of HT_.out (by kernel_rfl)) ?_
  refine Ko_ 0 42 #[true, true, false, false, false, false, false, false, false, false, false, false, false, false, false, false, false, false, false, false, false, false, false, false] (take_ofW HT_.out HW_.out (by kernel_rfl)) hHeld ?_
  refine Ko_ 2 44 #[true, true, true, false, false, false, false, false, false, false, false, false, false, false, false, false, false, false, false, false, false, false, false, false] (take_ofW HT_.out HW_.out (by kernel_rfl)) hHeld ?_
  refine Ko_ 4 46 #[true, true, true, false, true, false, false, false, false, false, false, false, false, false, false, false, false, false, false, false, false, false, false, false] (take_ofW HT_.out HW_.out (by kernel_rfl)) hHeld ?_
  refine one_ (i := 3) (N := some 45) #[true, true, true, true, true, false, false, false, false, false, false, false, false, false, false, false, false, false, false, false, false, false, false, false] rfl rfl (one_of HT_.out (by kernel_rfl)) (by decide) (fun K hK => ?_)
  refine goes_ Try.func48 (by kernel_rfl) rfl #[.agg #[.int .u64 t760, .int .u64 t761, .int .u64 t762, .int .u64 t763], .int .i64 t758] (by rfl) rfl rfl (by (try simp only [List.map_toArray, List.map_cons, List.map_nil]); first | done | rfl | (simp only [List.length_drop, List.length_take]; rfl)) ?_
  with_reducible refine (vec_At.calls t760 t761 t762 t763 t758 t779 _ A13.out).mono ?_
  rintro e w135 ⟨rfl, hb⟩
  refine ⟨_, rfl, ?_⟩
  replace BK751 := Kb_ BK751 hb
  replace BK752 := Kb_ BK752 hb
  replace BK759 := Kb_ BK759 hb
  replace BK764 := Kb_ BK764 hb
  replace BK770 := Kb_ BK770 hb
  replace BK776 := Kb_ BK776 hb
  replace HB := Ks_ HB hb
  (try clear hb)
  (try clear hb2)
  (try clear hk)
  (try clear hi)
  refine hK.out _ _ ⟨Km_ BK764 0, Km_ BK764 1, Km_ BK764 2, Km_ BK764 3, Km_ BK759 0, Km_ BK759 1, Km_ BK759 2, Km_ BK759 3, Km_ BK759 4, Km_ BK770 0, Km_ BK770 1, Km_ BK770 2, Km_ BK770 3⟩ (fun hHeld => ?_)
  clear hK K
  refine Kn_ 45 ?_
  refine one_ (i := 5) (N := some 47) #[true, true, true, true, true, true, false, false, false, false, false, false, false, false, false, false, false, false, false, false, false, false, false, false] rfl rfl (one_of HT_.out (by kernel_rfl)) (by decide) (fun K hK => ?_)
  refine goes_ Try.func47 (by kernel_rfl) rfl #[.agg #[.int .u64 t754, .int .u64 t755, .int .u64 t756, .int .u64 t757, .int .i64 t758]] (by rfl) rfl rfl (by (try simp only [List.map_toArray, List.map_cons, List.map_nil]); first | done | rfl | (simp only [List.length_drop, List.length_take]; rfl)) ?_
  with_reducible refine (stamp_Stamp_N.calls t754 t755 t756 t757 t758 t780 _ A14.out).mono ?_
  rintro e w136 ⟨rfl, hb⟩
  refine ⟨_, rfl, ?_⟩
  replace BK751 := Kb_ BK751 hb
  replace BK752 := Kb_ BK752 hb
  replace BK759 := Kb_ BK759 hb
  replace BK764 := Kb_ BK764 hb
  replace BK770 := Kb_ BK770 hb
  replace BK776 := Kb_ BK776 hb
  replace HB := Ks_ HB hb
  (try clear hb)
  (try clear hb2)
  (try clear hk)
  (try clear hi)
  refine hK.out _ _ ⟨Km_ BK764 0, Km_ BK764 1, Km_ BK764 2, Km_ BK764 3, Km_ BK759 0, Km_ BK759 1, Km_ BK759 2, Km_ BK759 3, Km_ BK759 4, Km_ BK770 0, Km_ BK770 1, Km_ BK770 2, Km_ BK770 3⟩ (fun hHeld => ?_)
  clear hK K
  refine Kn_ 47 ?_
  refine Kp_ 6 48 #[true, true, true, true, true, true, true, false, false, false, false, false, false, false, false, false, false, false, false, false, false, false, false, false] (any_of HT_.out (by kernel_rfl)) ?_
  refine Kp_ 7 49 #[true, true, true, true, true, true, true, true, false, false, false, false, false, false, false, false, false, false, false, false, false, false, false, false] (any_of HT_.out (by kernel_rfl)) ?_
  refine Kp_ 8 50 #[true, true, true, true, true, true, true, true, true, false, false, false, false, false, false, false, false, false, false, false, false, false, false, false] (any_of HT_.out (by kernel_rfl)) ?_
  refine Kp_ 9 51 #[true, true, true, true, true, true, true, true, true, true, false, false, false, false, false, false, false, false, false, false, false, false, false, false] (any_of HT_.out (by kernel_rfl)) ?_
  refine Ko_ 10 52 #[true, true, true, true, true, true, true, true, true, true, true, false, false, false, false, false, false, false, false, false, false, false, false, false] (take_ofW HT_.out HW_.out (by kernel_rfl)) hHeld ?_
  refine Ko_ 11 53 #[true, true, true, true, true, true, true, true, true, true, true, true, false, false, false, false, false, false, false, false, false, false, false, false] (take_ofW HT_.out HW_.out (by kernel_rfl)) hHeld ?_
  refine one_ (i := 12) (N := some 54) #[true, true, true, true, true, true, true, true, true, true, true, true, true, false, false, false, false, false, false, false, false, false, false, false] rfl rfl (one_of HT_.out (by kernel_rfl)) (by decide) (fun K hK => ?_)
  refine goes_ Try.func49 (by kernel_rfl) rfl #[.agg #[.int .u64 t754, .int .u64 t755, .int .u64 t756, .int .u64 t757], .agg #[.int .u64 t766, .int .u64 t767, .int .u64 t768, .int .u64 t769]] (by rfl) rfl rfl (by (try simp only [List.map_toArray, List.map_cons, List.map_nil]); first | done | rfl | (simp only [List.length_drop, List.length_take]; rfl)) ?_
  with_reducible refine (vec_Leq.calls t754 t755 t756 t757 t766 t767 t768 t769 true _ A16.out).mono ?_
  rintro e w137 ⟨rfl, hb⟩
  refine ⟨_, rfl, ?_⟩
  replace BK751 := Kb_ BK751 hb
  replace BK752 := Kb_ BK752 hb
  replace BK759 := Kb_ BK759 hb
  replace BK764 := Kb_ BK764 hb
  replace BK770 := Kb_ BK770 hb
  replace BK776 := Kb_ BK776 hb
  replace HB := Ks_ HB hb
  (try clear hb)
  (try clear hb2)
  (try clear hk)
  (try clear hi)
  refine hK.out _ _ ⟨Km_ BK764 0, Km_ BK764 1, Km_ BK764 2, Km_ BK764 3, Km_ BK759 0, Km_ BK759 1, Km_ BK759 2, Km_ BK759 3, Km_ BK759 4, Km_ BK770 0, Km_ BK770 1, Km_ BK770 2, Km_ BK770 3⟩ (fun hHeld => ?_)
  clear hK K
  refine Kn_ 54 ?_
  refine Kp_ 13 55 #[true, true, true, true, true, true, true, true, true, true, true, true, true, true, false, false, false, false, false, false, false, false, false, false] (any_of HT_.out (by kernel_rfl)) ?_
  refine Kp_ 14 56 #[true, true, true, true, true, true, true, true, true, true, true, true, true, true, true, false, false, false, false, false, false, false, false, false] (any_of HT_.out (by kernel_rfl)) ?_
  refine Kp_ 15 57 #[true, true, true, true, true, true, true, true, true, true, true, true, true, true, true, true, false, false, false, false, false, false, false, false] (any_of HT_.out (by kernel_rfl)) ?_
  refine Kp_ 17 59 #[true, true, true, true, true, true, true, true, true, true, true, true, true, true, true, true, false, true, false, false, false, false, false, false] (any_of HT_.out (by kernel_rfl)) ?_
  refine Ko_ 16 58 #[true, true, true, true, true, true, true, true, true, true, true, true, true, true, true, true, true, true, false, false, false, false, false, false] (take_ofW HT_.out HW_.out (by kernel_rfl)) hHeld ?_
  refine Ko_ 18 60 #[true, true, true, true, true, true, true, true, true, true, true, true, true, true, true, true, true, true, true, false, false, false, false, false] (take_ofW HT_.out HW_.out (by kernel_rfl)) hHeld ?_
  refine Ko_ 20 62 #[true, true, true, true, true, true, true, true, true, true, true, true, true, true, true, true, true, true, true, false, true, false, false, false] (take_ofW HT_.out HW_.out (by kernel_rfl)) hHeld ?_
  refine one_ (i := 19) (N := some 61) #[true, true, true, true, true, true, true, true, true, true, true, true, true, true, true, true, true, true, true, true, true, false, false, false] rfl rfl (one_of HT_.out (by kernel_rfl)) (by decide) (fun K hK => ?_)
  refine goes_ Try.func46 (by kernel_rfl) rfl #[.agg #[.int .u64 t754, .int .u64 t755, .int .u64 t756, .int .u64 t757], .int .i64 t758, .int .u64 0] (by rfl) rfl rfl (by (try simp only [List.map_toArray, List.map_cons, List.map_nil]); first | done | rfl | (simp only [List.length_drop, List.length_take]; rfl)) ?_
  with_reducible refine (vec_With.calls t754 t755 t756 t757 t758 0 t782 t783 t784 t785 _ A18.out).mono ?_
  rintro e w138 ⟨rfl, hb⟩
  refine ⟨_, rfl, ?_⟩
  replace BK751 := Kb_ BK751 hb
  replace BK752 := Kb_ BK752 hb
  replace BK759 := Kb_ BK759 hb
  replace BK764 := Kb_ BK764 hb
  replace BK770 := Kb_ BK770 hb
  replace BK776 := Kb_ BK776 hb
  replace HB := Ks_ HB hb
  (try clear hb)
  (try clear hb2)
  (try clear hk)
  (try clear hi)
  refine hK.out _ _ ⟨Km_ BK764 0, Km_ BK764 1, Km_ BK764 2, Km_ BK764 3, Km_ BK759 0, Km_ BK759 1, Km_ BK759 2, Km_ BK759 3, Km_ BK759 4, Km_ BK770 0, Km_ BK770 1, Km_ BK770 2, Km_ BK770 3⟩ (fun hHeld => ?_)
  clear hK K
  refine Kn_ 61 ?_
  refine one_ (i := 21) (N := some 63) #[true, true, true, true, true, true, true, true, true, true, true, true, true, true, true, true, true, true, true, true, true, true, false, false] rfl rfl (one_of HT_.out (by kernel_rfl)) (by decide) (fun K hK => ?_)
  refine goes_ Try.func49 (by kernel_rfl) rfl #[.agg #[.int .u64 t782, .int .u64 t783, .int .u64 t784, .int .u64 t785], .agg #[.int .u64 t760, .int .u64 t761, .int .u64 t762, .int .u64 t763]] (by rfl) rfl rfl (by (try simp only [List.map_toArray, List.map_cons, List.map_nil]); first | done | rfl | (simp only [List.length_drop, List.length_take]; rfl)) ?_
  with_reducible refine (vec_Leq.calls t782 t783 t784 t785 t760 t761 t762 t763 false _ A19.out).mono ?_
  rintro e w139 ⟨rfl, hb⟩
  refine ⟨_, rfl, ?_⟩
  replace BK751 := Kb_ BK751 hb
  replace BK752 := Kb_ BK752 hb
  replace BK759 := Kb_ BK759 hb
  replace BK764 := Kb_ BK764 hb
  replace BK770 := Kb_ BK770 hb
  replace BK776 := Kb_ BK776 hb
  replace HB := Ks_ HB hb
  (try clear hb)
  (try clear hb2)
  (try clear hk)
  (try clear hi)
  refine hK.out _ _ ⟨Km_ BK764 0, Km_ BK764 1, Km_ BK764 2, Km_ BK764 3, Km_ BK759 0, Km_ BK759 1, Km_ BK759 2, Km_ BK759 3, Km_ BK759 4, Km_ BK770 0, Km_ BK770 1, Km_ BK770 2, Km_ BK770 3⟩ (fun hHeld => ?_)
  clear hK K
  refine Kn_ 63 ?_
  refine Kp_ 22 64 #[true, true, true, true, true, true, true, true, true, true, true, true, true, true, true, true, true, true, true, true, true, true, true, false] (any_of HT_.out (by kernel_rfl)) ?_
  refine Kp_ 23 12 #[true, true, true, true, true, true, true, true, true, true, true, true, true, true, true, true, true, true, true, true, true, true, true, true] (any_of HT_.out (by kernel_rfl)) ?_
  refine done_ (done_of HT_.out (by kernel_rfl)) ?_
  have hnb140 := NB770_776.out
  have hnc140 := NB776_770.out
  obtain ⟨hcz141_0, hcz141_1, hcz141_2, hcz141_3, hfz141_0, hfz141_1, hfz141_2, hfz141_3⟩ := Ke4_ BK770.out
  have hnb142 := NB759_776.out
  have hnc142 := NB776_759.out
  obtain ⟨hcz143_0, hcz143_1, hcz143_2, hcz143_3, hcz143_4, hfz143_0, hfz143_1, hfz143_2, hfz143_3, hfz143_4⟩ := Ke5_ BK759.out
  try go_wp2_with (first | (go_at_call 30; (with_reducible refine (stream_Ready.calls t766 t767 t768 t769 t754 t755 t756 t757 t758 t793 _ A88.out).mono ?_); rintro e w144 ⟨rfl, hb⟩; replace BK751 := Kb_ BK751 hb; replace BK752 := Kb_ BK752 hb; replace BK759 := Kb_ BK759 hb; replace BK764 := Kb_ BK764 hb; replace BK770 := Kb_ BK770 hb; replace BK776 := Kb_ BK776 hb; replace HB := Ks_ HB hb; (try clear hb); (try clear hb2); (try clear hk); (try clear hi); have hnb145 := NB776_751.out; have hnc145 := NB751_776.out; have hnb146 := NB776_752.out; have hnc146 := NB752_776.out; have hnb147 := NB776_764.out; have hnc147 := NB764_776.out; obtain ⟨hcz148_0, hcz148_1, hcz148_2, hcz148_3, hfz148_0, hfz148_1, hfz148_2, hfz148_3⟩ := Ke4_ BK776.out; obtain ⟨hcz149_0, hcz149_1, hcz149_2, hcz149_3, hcz149_4, hfz149_0, hfz149_1, hfz149_2, hfz149_3, hfz149_4⟩ := Ke5_ BK759.out) | (go_at_call 30; (with_reducible refine (stream_Ready.calls t772 t773 t774 t775 t754 t755 t756 t757 t758 t794 _ A90.out).mono ?_); rintro e w150 ⟨rfl, hb⟩; replace BK751 := Kb_ BK751 hb; replace BK752 := Kb_ BK752 hb; replace BK759 := Kb_ BK759 hb; replace BK764 := Kb_ BK764 hb; replace BK770 := Kb_ BK770 hb; replace BK776 := Kb_ BK776 hb; replace HB := Ks_ HB hb; (try clear hb); (try clear hb2); (try clear hk); (try clear hi)))
  go_ret
  exact ⟨Kh_, by repeat (first | (with_reducible first | exact HB.out | apply below_alloc | apply pw_below_drewN | apply below_drew1 | refine below_set ?_ GE751.out | refine below_set ?_ GE752.out | refine below_set ?_ GE759.out | refine below_set ?_ GE764.out | refine below_set ?_ GE770.out | refine below_set ?_ GE776.out) | exact HB.out)⟩
end Go.Proofs.Ytoagfdpgnfinhaa.Q
