import Derived.Test.YtoagfdpgnfinhaaQx0
import Derived.Test.YtoagfdpgnfinhaaGStreamReady0
import Derived.Test.YtoagfdpgnfinhaaGStreamReady7
import Derived.Test.YtoagfdpgnfinhaaGStreamReady3
namespace Go.Proofs.Ytoagfdpgnfinhaa.Q
open Go.RowKit Go.Proofs.YtoagfdpgnfinhaaW.PrintWords Go.Proofs.YtoagfdpgnfinhaaW.PrintLast Go.Proofs.YtoagfdpgnfinhaaW.PrintMore
attribute [local go_sem] max2_int min2_int max_two min_two max_three min_three max_four min_four   -- for this text's walks alone
set_option linter.unusedVariables false
set_option linter.unusedSimpArgs false
/-! ### tenementlaw15_StreamReady_p1: function 7 -/
def tenementlaw15_StreamReady_p1.f (k : Nat) (a0_0 : Int) (a0_1 : Int) (a0_2 : Int) (a0_3 : Int) (a0_4 : Int) (a0_5 : Bool) (a1_0 : Int) (a1_1 : Int) (a1_2 : Int) (a1_3 : Int) (a1_4 : Bool) : Option (Bool) := (tenementlaw15_examples.f).bind fun t805 => (if t805 = true then ((tenementlaw15_Mark_mark.f k a0_0 a0_1 a0_2 a0_3 a0_4 true).bind fun bt806 => ((tenementlaw15_Vector_vector.f k a1_0 a1_1 a1_2 a1_3 a1_4).bind fun bt812 => ((stream_Ready.f bt812.1 bt812.2.1 bt812.2.2.1 bt812.2.2.2 bt806.1 bt806.2.1 bt806.2.2.1 bt806.2.2.2.1 bt806.2.2.2.2).bind fun t817 => ((vec_Join.f bt812.1 bt812.2.1 bt812.2.2.1 bt812.2.2.2 bt806.1 bt806.2.1 bt806.2.2.1 bt806.2.2.2.1).bind fun bt818 => ((stamp_Stamp_N.f bt806.1 bt806.2.1 bt806.2.2.1 bt806.2.2.2.1 bt806.2.2.2.2).bind fun t823 => ((vec_With.f bt818.1 bt818.2.1 bt818.2.2.1 bt818.2.2.2 bt806.2.2.2.2 (IntKind.u64.wrap (t823 - 1))).bind fun bt824 => ((vec_At.f bt812.1 bt812.2.1 bt812.2.2.1 bt812.2.2.2 bt806.2.2.2.2).bind fun t829 => ((stamp_Stamp_N.f bt806.1 bt806.2.1 bt806.2.2.1 bt806.2.2.2.1 bt806.2.2.2.2).bind fun t830 => ((vec_At.f bt812.1 bt812.2.1 bt812.2.2.1 bt812.2.2.2 bt806.2.2.2.2).bind fun t831 => ((stamp_Stamp_N.f bt806.1 bt806.2.1 bt806.2.2.1 bt806.2.2.2.1 bt806.2.2.2.2).bind fun t832 => (if t831 = (IntKind.u64.wrap (t832 - 1)) then (none) else (if t817 = (-1) then (if t829 ≥ t830 then (if t817 = 1 then (none) else ((stream_Ready.f bt818.1 bt818.2.1 bt818.2.2.1 bt818.2.2.2 bt806.1 bt806.2.1 bt806.2.2.1 bt806.2.2.2.1 bt806.2.2.2.2).bind fun t851 => (if t851 = (-1) then ((stream_Ready.f bt824.1 bt824.2.1 bt824.2.2.1 bt824.2.2.2 bt806.1 bt806.2.1 bt806.2.2.1 bt806.2.2.2.1 bt806.2.2.2.2).bind fun t852 => (if t852 = 1 then (some true) else (none))) else (none)))) else (none)) else (if t829 ≥ t830 then (none) else (if t817 = 1 then (none) else ((stream_Ready.f bt818.1 bt818.2.1 bt818.2.2.1 bt818.2.2.2 bt806.1 bt806.2.1 bt806.2.2.1 bt806.2.2.2.1 bt806.2.2.2.2).bind fun t853 => (if t853 = (-1) then ((stream_Ready.f bt824.1 bt824.2.1 bt824.2.2.1 bt824.2.2.2 bt806.1 bt806.2.1 bt806.2.2.1 bt806.2.2.2.1 bt806.2.2.2.2).bind fun t854 => (if t854 = 1 then (some true) else (none))) else (none))))))))))))))))) else (none))
theorem tenementlaw15_StreamReady_p1.mono : ∀ a0 a1 a2 a3 a4 a5 a6 a7 a8 a9 a10 k, LeO (tenementlaw15_StreamReady_p1.f k a0 a1 a2 a3 a4 a5 a6 a7 a8 a9 a10) (tenementlaw15_StreamReady_p1.f (k + 1) a0 a1 a2 a3 a4 a5 a6 a7 a8 a9 a10) := by
  intro a0 a1 a2 a3 a4 a5 a6 a7 a8 a9 a10 k
  unfold tenementlaw15_StreamReady_p1.f
  repeat' first
      | (with_reducible exact tenementlaw15_Mark_mark.mono _ _ _ _ _ _ _)
      | (with_reducible exact tenementlaw15_Vector_vector.mono _ _ _ _ _ _)
      | (with_reducible exact LeO.refl _)
      | (with_reducible exact LeO.none _)
      | (with_reducible refine LeO.ite ?_ ?_)
      | (with_reducible refine LeO.bind ?_ (fun _ => ?_))
      | exact tenementlaw15_Mark_mark.mono _ _ _ _ _ _ _
      | exact tenementlaw15_Vector_vector.mono _ _ _ _ _ _
      | exact LeO.none _
      | refine LeO.ite ?_ ?_
      | refine LeO.bind ?_ (fun _ => ?_)
def tenementlaw15_StreamReady_p1.T9 : Bool × List (List Nat × List Nat) := (true, [([], []), ([], []), ([1], [1]), ([], []), ([3], [3]), ([4], [4]), ([0, 2, 5, 4], [0, 2, 5]), ([], []), ([7, 6, 6, 0, 1, 2, 3, 4, 5, 6, 7], [6, 7])])
def tenementlaw15_StreamReady_p1.B9 : List Nat := [0, 0, 2, 0, 8, 24, 63, 0, 255]
theorem tenementlaw15_StreamReady_p1.tab9 : rtab .any (opsOf Try.f7 9) = tenementlaw15_StreamReady_p1.T9 := by kernel_rfl
theorem tenementlaw15_StreamReady_p1.bits9 : waitsOk tenementlaw15_StreamReady_p1.T9.2 tenementlaw15_StreamReady_p1.B9 = true := by kernel_rfl
def tenementlaw15_StreamReady_p1.T10 : Bool × List (List Nat × List Nat) := (true, [([], []), ([], []), ([1], [1]), ([0, 2], [0, 2]), ([], []), ([4, 3], [4]), ([3, 5], [3, 5]), ([6, 5, 0, 1, 2, 3, 4, 5, 6], [6])])
def tenementlaw15_StreamReady_p1.B10 : List Nat := [0, 0, 2, 7, 0, 31, 63, 127]
theorem tenementlaw15_StreamReady_p1.tab10 : rtab .any (opsOf Try.f7 10) = tenementlaw15_StreamReady_p1.T10 := by kernel_rfl
theorem tenementlaw15_StreamReady_p1.bits10 : waitsOk tenementlaw15_StreamReady_p1.T10.2 tenementlaw15_StreamReady_p1.B10 = true := by kernel_rfl
def tenementlaw15_StreamReady_p1.T11 : Bool × List (List Nat × List Nat) := (true, [([], []), ([], []), ([1], [1]), ([0, 2], [0, 2]), ([], []), ([4, 3], [4]), ([5], [5]), ([3, 6], [3, 6]), ([7, 5], [7]), ([8], [8]), ([9, 8], [8, 9]), ([8], [8]), ([10, 11, 8, 8], [8, 10, 11]), ([8, 12], [8, 12]), ([13, 12], [13]), ([14], [14]), ([15, 14], [14, 15]), ([14], [14]), ([17, 14], [14, 17]), ([16, 18, 14, 14], [14, 16, 18]), ([14], [14]), ([19, 20, 19, 14], [14, 19, 20]), ([14, 21], [14, 21]), ([22, 21, 0, 1, 2, 3, 4, 5, 6, 7, 8, 9, 10, 11, 12, 13, 14, 15, 16, 17, 18, 19, 20, 21, 22], [22])])
def tenementlaw15_StreamReady_p1.B11 : List Nat := [0, 0, 2, 7, 0, 31, 63, 127, 255, 511, 1023, 511, 4095, 8191, 16383, 32767, 65535, 32767, 163839, 524287, 32767, 2097151, 4194303, 8388607]
theorem tenementlaw15_StreamReady_p1.tab11 : rtab .any (opsOf Try.f7 11) = tenementlaw15_StreamReady_p1.T11 := by kernel_rfl
theorem tenementlaw15_StreamReady_p1.bits11 : waitsOk tenementlaw15_StreamReady_p1.T11.2 tenementlaw15_StreamReady_p1.B11 = true := by kernel_rfl
set_option maxHeartbeats 8000000 in
set_option maxRecDepth 100000 in
theorem tenementlaw15_StreamReady_p1.calls (k : Nat) (a0_0 : Int) (a0_1 : Int) (a0_2 : Int) (a0_3 : Int) (a0_4 : Int) (a0_5 : Bool) (a1_0 : Int) (a1_1 : Int) (a1_2 : Int) (a1_3 : Int) (a1_4 : Bool) (r : Bool) (w : World) (h : tenementlaw15_StreamReady_p1.f k a0_0 a0_1 a0_2 a0_3 a0_4 a0_5 a1_0 a1_1 a1_2 a1_3 a1_4 = some r) :
    Calls Try.prog 7 #[.agg #[.int .u64 a0_0, .int .u64 a0_1, .int .u64 a0_2, .int .u64 a0_3, .int .i64 a0_4, .bool a0_5], .agg #[.int .u64 a1_0, .int .u64 a1_1, .int .u64 a1_2, .int .u64 a1_3, .bool a1_4]] w fun e w' => e = .returned (.bool r) ∧ Below w.heap.size w w' := by
  have hu39 := Try.underlying39
  have hu63 := Try.underlying63
  have hu30 := Try.underlying30
  have hu28 := Try.underlying28
  have HB := Aside0.mk (Below.refl w.heap.size w)
  have H : ((tenementlaw15_examples.f).bind fun t805 => (if t805 = true then ((tenementlaw15_Mark_mark.f k a0_0 a0_1 a0_2 a0_3 a0_4 true).bind fun bt806 => ((tenementlaw15_Vector_vector.f k a1_0 a1_1 a1_2 a1_3 a1_4).bind fun bt812 => ((stream_Ready.f bt812.1 bt812.2.1 bt812.2.2.1 bt812.2.2.2 bt806.1 bt806.2.1 bt806.2.2.1 bt806.2.2.2.1 bt806.2.2.2.2).bind fun t817 => ((vec_Join.f bt812.1 bt812.2.1 bt812.2.2.1 bt812.2.2.2 bt806.1 bt806.2.1 bt806.2.2.1 bt806.2.2.2.1).bind fun bt818 => ((stamp_Stamp_N.f bt806.1 bt806.2.1 bt806.2.2.1 bt806.2.2.2.1 bt806.2.2.2.2).bind fun t823 => ((vec_With.f bt818.1 bt818.2.1 bt818.2.2.1 bt818.2.2.2 bt806.2.2.2.2 (IntKind.u64.wrap (t823 - 1))).bind fun bt824 => ((vec_At.f bt812.1 bt812.2.1 bt812.2.2.1 bt812.2.2.2 bt806.2.2.2.2).bind fun t829 => ((stamp_Stamp_N.f bt806.1 bt806.2.1 bt806.2.2.1 bt806.2.2.2.1 bt806.2.2.2.2).bind fun t830 => ((vec_At.f bt812.1 bt812.2.1 bt812.2.2.1 bt812.2.2.2 bt806.2.2.2.2).bind fun t831 => ((stamp_Stamp_N.f bt806.1 bt806.2.1 bt806.2.2.1 bt806.2.2.2.1 bt806.2.2.2.2).bind fun t832 => (if t831 = (IntKind.u64.wrap (t832 - 1)) then (none) else (if t817 = (-1) then (if t829 ≥ t830 then (if t817 = 1 then (none) else ((stream_Ready.f bt818.1 bt818.2.1 bt818.2.2.1 bt818.2.2.2 bt806.1 bt806.2.1 bt806.2.2.1 bt806.2.2.2.1 bt806.2.2.2.2).bind fun t851 => (if t851 = (-1) then ((stream_Ready.f bt824.1 bt824.2.1 bt824.2.2.1 bt824.2.2.2 bt806.1 bt806.2.1 bt806.2.2.1 bt806.2.2.2.1 bt806.2.2.2.2).bind fun t852 => (if t852 = 1 then (some true) else (none))) else (none)))) else (none)) else (if t829 ≥ t830 then (none) else (if t817 = 1 then (none) else ((stream_Ready.f bt818.1 bt818.2.1 bt818.2.2.1 bt818.2.2.2 bt806.1 bt806.2.1 bt806.2.2.1 bt806.2.2.2.1 bt806.2.2.2.2).bind fun t853 => (if t853 = (-1) then ((stream_Ready.f bt824.1 bt824.2.1 bt824.2.2.1 bt824.2.2.2 bt806.1 bt806.2.1 bt806.2.2.1 bt806.2.2.2.1 bt806.2.2.2.2).bind fun t854 => (if t854 = 1 then (some true) else (none))) else (none))))))))))))))))) else (none))) = some r := h
  clear h
  replace H := Option.bind_eq_some_iff.mp H
  obtain ⟨t805, A30, H⟩ := H
  replace H : (if t805 = true then ((tenementlaw15_Mark_mark.f k a0_0 a0_1 a0_2 a0_3 a0_4 true).bind fun bt806 => ((tenementlaw15_Vector_vector.f k a1_0 a1_1 a1_2 a1_3 a1_4).bind fun bt812 => ((stream_Ready.f bt812.1 bt812.2.1 bt812.2.2.1 bt812.2.2.2 bt806.1 bt806.2.1 bt806.2.2.1 bt806.2.2.2.1 bt806.2.2.2.2).bind fun t817 => ((vec_Join.f bt812.1 bt812.2.1 bt812.2.2.1 bt812.2.2.2 bt806.1 bt806.2.1 bt806.2.2.1 bt806.2.2.2.1).bind fun bt818 => ((stamp_Stamp_N.f bt806.1 bt806.2.1 bt806.2.2.1 bt806.2.2.2.1 bt806.2.2.2.2).bind fun t823 => ((vec_With.f bt818.1 bt818.2.1 bt818.2.2.1 bt818.2.2.2 bt806.2.2.2.2 (IntKind.u64.wrap (t823 - 1))).bind fun bt824 => ((vec_At.f bt812.1 bt812.2.1 bt812.2.2.1 bt812.2.2.2 bt806.2.2.2.2).bind fun t829 => ((stamp_Stamp_N.f bt806.1 bt806.2.1 bt806.2.2.1 bt806.2.2.2.1 bt806.2.2.2.2).bind fun t830 => ((vec_At.f bt812.1 bt812.2.1 bt812.2.2.1 bt812.2.2.2 bt806.2.2.2.2).bind fun t831 => ((stamp_Stamp_N.f bt806.1 bt806.2.1 bt806.2.2.1 bt806.2.2.2.1 bt806.2.2.2.2).bind fun t832 => (if t831 = (IntKind.u64.wrap (t832 - 1)) then (none) else (if t817 = (-1) then (if t829 ≥ t830 then (if t817 = 1 then (none) else ((stream_Ready.f bt818.1 bt818.2.1 bt818.2.2.1 bt818.2.2.2 bt806.1 bt806.2.1 bt806.2.2.1 bt806.2.2.2.1 bt806.2.2.2.2).bind fun t851 => (if t851 = (-1) then ((stream_Ready.f bt824.1 bt824.2.1 bt824.2.2.1 bt824.2.2.2 bt806.1 bt806.2.1 bt806.2.2.1 bt806.2.2.2.1 bt806.2.2.2.2).bind fun t852 => (if t852 = 1 then (some true) else (none))) else (none)))) else (none)) else (if t829 ≥ t830 then (none) else (if t817 = 1 then (none) else ((stream_Ready.f bt818.1 bt818.2.1 bt818.2.2.1 bt818.2.2.2 bt806.1 bt806.2.1 bt806.2.2.1 bt806.2.2.2.1 bt806.2.2.2.2).bind fun t853 => (if t853 = (-1) then ((stream_Ready.f bt824.1 bt824.2.1 bt824.2.2.1 bt824.2.2.2 bt806.1 bt806.2.1 bt806.2.2.1 bt806.2.2.2.1 bt806.2.2.2.2).bind fun t854 => (if t854 = 1 then (some true) else (none))) else (none))))))))))))))))) else (none)) = some r := H
  have A3 := Aside0.mk A30
  clear A30
  by_cases c4 : t805 = true
  rotate_left
  · replace c4 := Bool.eq_false_iff.mpr c4
    subst c4
    have H1 : (none) = some r := by rw [if_neg (show ¬ (false = true) by decide)] at H; exact H
    clear H
    have H := H1
    clear H1
    exact absurd H (by simp)
  subst c4
  have H1 : ((tenementlaw15_Mark_mark.f k a0_0 a0_1 a0_2 a0_3 a0_4 true).bind fun bt806 => ((tenementlaw15_Vector_vector.f k a1_0 a1_1 a1_2 a1_3 a1_4).bind fun bt812 => ((stream_Ready.f bt812.1 bt812.2.1 bt812.2.2.1 bt812.2.2.2 bt806.1 bt806.2.1 bt806.2.2.1 bt806.2.2.2.1 bt806.2.2.2.2).bind fun t817 => ((vec_Join.f bt812.1 bt812.2.1 bt812.2.2.1 bt812.2.2.2 bt806.1 bt806.2.1 bt806.2.2.1 bt806.2.2.2.1).bind fun bt818 => ((stamp_Stamp_N.f bt806.1 bt806.2.1 bt806.2.2.1 bt806.2.2.2.1 bt806.2.2.2.2).bind fun t823 => ((vec_With.f bt818.1 bt818.2.1 bt818.2.2.1 bt818.2.2.2 bt806.2.2.2.2 (IntKind.u64.wrap (t823 - 1))).bind fun bt824 => ((vec_At.f bt812.1 bt812.2.1 bt812.2.2.1 bt812.2.2.2 bt806.2.2.2.2).bind fun t829 => ((stamp_Stamp_N.f bt806.1 bt806.2.1 bt806.2.2.1 bt806.2.2.2.1 bt806.2.2.2.2).bind fun t830 => ((vec_At.f bt812.1 bt812.2.1 bt812.2.2.1 bt812.2.2.2 bt806.2.2.2.2).bind fun t831 => ((stamp_Stamp_N.f bt806.1 bt806.2.1 bt806.2.2.1 bt806.2.2.2.1 bt806.2.2.2.2).bind fun t832 => (if t831 = (IntKind.u64.wrap (t832 - 1)) then (none) else (if t817 = (-1) then (if t829 ≥ t830 then (if t817 = 1 then (none) else ((stream_Ready.f bt818.1 bt818.2.1 bt818.2.2.1 bt818.2.2.2 bt806.1 bt806.2.1 bt806.2.2.1 bt806.2.2.2.1 bt806.2.2.2.2).bind fun t851 => (if t851 = (-1) then ((stream_Ready.f bt824.1 bt824.2.1 bt824.2.2.1 bt824.2.2.2 bt806.1 bt806.2.1 bt806.2.2.1 bt806.2.2.2.1 bt806.2.2.2.2).bind fun t852 => (if t852 = 1 then (some true) else (none))) else (none)))) else (none)) else (if t829 ≥ t830 then (none) else (if t817 = 1 then (none) else ((stream_Ready.f bt818.1 bt818.2.1 bt818.2.2.1 bt818.2.2.2 bt806.1 bt806.2.1 bt806.2.2.1 bt806.2.2.2.1 bt806.2.2.2.2).bind fun t853 => (if t853 = (-1) then ((stream_Ready.f bt824.1 bt824.2.1 bt824.2.2.1 bt824.2.2.2 bt806.1 bt806.2.1 bt806.2.2.1 bt806.2.2.2.1 bt806.2.2.2.2).bind fun t854 => (if t854 = 1 then (some true) else (none))) else (none))))))))))))))))) = some r := by rw [if_pos rfl] at H; exact H
  clear H
  have H := H1
  clear H1
  replace H := Option.bind_eq_some_iff.mp H
  obtain ⟨⟨t806, t807, t808, t809, t810⟩, A50, H⟩ := H
  replace H : ((tenementlaw15_Vector_vector.f k a1_0 a1_1 a1_2 a1_3 a1_4).bind fun bt812 => ((stream_Ready.f bt812.1 bt812.2.1 bt812.2.2.1 bt812.2.2.2 t806 t807 t808 t809 t810).bind fun t817 => ((vec_Join.f bt812.1 bt812.2.1 bt812.2.2.1 bt812.2.2.2 t806 t807 t808 t809).bind fun bt818 => ((stamp_Stamp_N.f t806 t807 t808 t809 t810).bind fun t823 => ((vec_With.f bt818.1 bt818.2.1 bt818.2.2.1 bt818.2.2.2 t810 (IntKind.u64.wrap (t823 - 1))).bind fun bt824 => ((vec_At.f bt812.1 bt812.2.1 bt812.2.2.1 bt812.2.2.2 t810).bind fun t829 => ((stamp_Stamp_N.f t806 t807 t808 t809 t810).bind fun t830 => ((vec_At.f bt812.1 bt812.2.1 bt812.2.2.1 bt812.2.2.2 t810).bind fun t831 => ((stamp_Stamp_N.f t806 t807 t808 t809 t810).bind fun t832 => (if t831 = (IntKind.u64.wrap (t832 - 1)) then (none) else (if t817 = (-1) then (if t829 ≥ t830 then (if t817 = 1 then (none) else ((stream_Ready.f bt818.1 bt818.2.1 bt818.2.2.1 bt818.2.2.2 t806 t807 t808 t809 t810).bind fun t851 => (if t851 = (-1) then ((stream_Ready.f bt824.1 bt824.2.1 bt824.2.2.1 bt824.2.2.2 t806 t807 t808 t809 t810).bind fun t852 => (if t852 = 1 then (some true) else (none))) else (none)))) else (none)) else (if t829 ≥ t830 then (none) else (if t817 = 1 then (none) else ((stream_Ready.f bt818.1 bt818.2.1 bt818.2.2.1 bt818.2.2.2 t806 t807 t808 t809 t810).bind fun t853 => (if t853 = (-1) then ((stream_Ready.f bt824.1 bt824.2.1 bt824.2.2.1 bt824.2.2.2 t806 t807 t808 t809 t810).bind fun t854 => (if t854 = 1 then (some true) else (none))) else (none)))))))))))))))) = some r := H
  have A5 := Aside0.mk A50
  clear A50
  replace H := Option.bind_eq_some_iff.mp H
  obtain ⟨⟨t812, t813, t814, t815⟩, A60, H⟩ := H
  replace H : ((stream_Ready.f t812 t813 t814 t815 t806 t807 t808 t809 t810).bind fun t817 => ((vec_Join.f t812 t813 t814 t815 t806 t807 t808 t809).bind fun bt818 => ((stamp_Stamp_N.f t806 t807 t808 t809 t810).bind fun t823 => ((vec_With.f bt818.1 bt818.2.1 bt818.2.2.1 bt818.2.2.2 t810 (IntKind.u64.wrap (t823 - 1))).bind fun bt824 => ((vec_At.f t812 t813 t814 t815 t810).bind fun t829 => ((stamp_Stamp_N.f t806 t807 t808 t809 t810).bind fun t830 => ((vec_At.f t812 t813 t814 t815 t810).bind fun t831 => ((stamp_Stamp_N.f t806 t807 t808 t809 t810).bind fun t832 => (if t831 = (IntKind.u64.wrap (t832 - 1)) then (none) else (if t817 = (-1) then (if t829 ≥ t830 then (if t817 = 1 then (none) else ((stream_Ready.f bt818.1 bt818.2.1 bt818.2.2.1 bt818.2.2.2 t806 t807 t808 t809 t810).bind fun t851 => (if t851 = (-1) then ((stream_Ready.f bt824.1 bt824.2.1 bt824.2.2.1 bt824.2.2.2 t806 t807 t808 t809 t810).bind fun t852 => (if t852 = 1 then (some true) else (none))) else (none)))) else (none)) else (if t829 ≥ t830 then (none) else (if t817 = 1 then (none) else ((stream_Ready.f bt818.1 bt818.2.1 bt818.2.2.1 bt818.2.2.2 t806 t807 t808 t809 t810).bind fun t853 => (if t853 = (-1) then ((stream_Ready.f bt824.1 bt824.2.1 bt824.2.2.1 bt824.2.2.2 t806 t807 t808 t809 t810).bind fun t854 => (if t854 = 1 then (some true) else (none))) else (none))))))))))))))) = some r := H
  have A6 := Aside0.mk A60
  clear A60
  replace H := Option.bind_eq_some_iff.mp H
  obtain ⟨t817, A70, H⟩ := H
  replace H : ((vec_Join.f t812 t813 t814 t815 t806 t807 t808 t809).bind fun bt818 => ((stamp_Stamp_N.f t806 t807 t808 t809 t810).bind fun t823 => ((vec_With.f bt818.1 bt818.2.1 bt818.2.2.1 bt818.2.2.2 t810 (IntKind.u64.wrap (t823 - 1))).bind fun bt824 => ((vec_At.f t812 t813 t814 t815 t810).bind fun t829 => ((stamp_Stamp_N.f t806 t807 t808 t809 t810).bind fun t830 => ((vec_At.f t812 t813 t814 t815 t810).bind fun t831 => ((stamp_Stamp_N.f t806 t807 t808 t809 t810).bind fun t832 => (if t831 = (IntKind.u64.wrap (t832 - 1)) then (none) else (if t817 = (-1) then (if t829 ≥ t830 then (if t817 = 1 then (none) else ((stream_Ready.f bt818.1 bt818.2.1 bt818.2.2.1 bt818.2.2.2 t806 t807 t808 t809 t810).bind fun t851 => (if t851 = (-1) then ((stream_Ready.f bt824.1 bt824.2.1 bt824.2.2.1 bt824.2.2.2 t806 t807 t808 t809 t810).bind fun t852 => (if t852 = 1 then (some true) else (none))) else (none)))) else (none)) else (if t829 ≥ t830 then (none) else (if t817 = 1 then (none) else ((stream_Ready.f bt818.1 bt818.2.1 bt818.2.2.1 bt818.2.2.2 t806 t807 t808 t809 t810).bind fun t853 => (if t853 = (-1) then ((stream_Ready.f bt824.1 bt824.2.1 bt824.2.2.1 bt824.2.2.2 t806 t807 t808 t809 t810).bind fun t854 => (if t854 = 1 then (some true) else (none))) else (none)))))))))))))) = some r := H
  have A7 := Aside0.mk A70
  clear A70
  replace H := Option.bind_eq_some_iff.mp H
  obtain ⟨⟨t818, t819, t820, t821⟩, A80, H⟩ := H
  replace H : ((stamp_Stamp_N.f t806 t807 t808 t809 t810).bind fun t823 => ((vec_With.f t818 t819 t820 t821 t810 (IntKind.u64.wrap (t823 - 1))).bind fun bt824 => ((vec_At.f t812 t813 t814 t815 t810).bind fun t829 => ((stamp_Stamp_N.f t806 t807 t808 t809 t810).bind fun t830 => ((vec_At.f t812 t813 t814 t815 t810).bind fun t831 => ((stamp_Stamp_N.f t806 t807 t808 t809 t810).bind fun t832 => (if t831 = (IntKind.u64.wrap (t832 - 1)) then (none) else (if t817 = (-1) then (if t829 ≥ t830 then (if t817 = 1 then (none) else ((stream_Ready.f t818 t819 t820 t821 t806 t807 t808 t809 t810).bind fun t851 => (if t851 = (-1) then ((stream_Ready.f bt824.1 bt824.2.1 bt824.2.2.1 bt824.2.2.2 t806 t807 t808 t809 t810).bind fun t852 => (if t852 = 1 then (some true) else (none))) else (none)))) else (none)) else (if t829 ≥ t830 then (none) else (if t817 = 1 then (none) else ((stream_Ready.f t818 t819 t820 t821 t806 t807 t808 t809 t810).bind fun t853 => (if t853 = (-1) then ((stream_Ready.f bt824.1 bt824.2.1 bt824.2.2.1 bt824.2.2.2 t806 t807 t808 t809 t810).bind fun t854 => (if t854 = 1 then (some true) else (none))) else (none))))))))))))) = some r := H
  have A8 := Aside0.mk A80
  clear A80
  replace H := Option.bind_eq_some_iff.mp H
  obtain ⟨t823, A90, H⟩ := H
  replace H : ((vec_With.f t818 t819 t820 t821 t810 (IntKind.u64.wrap (t823 - 1))).bind fun bt824 => ((vec_At.f t812 t813 t814 t815 t810).bind fun t829 => ((stamp_Stamp_N.f t806 t807 t808 t809 t810).bind fun t830 => ((vec_At.f t812 t813 t814 t815 t810).bind fun t831 => ((stamp_Stamp_N.f t806 t807 t808 t809 t810).bind fun t832 => (if t831 = (IntKind.u64.wrap (t832 - 1)) then (none) else (if t817 = (-1) then (if t829 ≥ t830 then (if t817 = 1 then (none) else ((stream_Ready.f t818 t819 t820 t821 t806 t807 t808 t809 t810).bind fun t851 => (if t851 = (-1) then ((stream_Ready.f bt824.1 bt824.2.1 bt824.2.2.1 bt824.2.2.2 t806 t807 t808 t809 t810).bind fun t852 => (if t852 = 1 then (some true) else (none))) else (none)))) else (none)) else (if t829 ≥ t830 then (none) else (if t817 = 1 then (none) else ((stream_Ready.f t818 t819 t820 t821 t806 t807 t808 t809 t810).bind fun t853 => (if t853 = (-1) then ((stream_Ready.f bt824.1 bt824.2.1 bt824.2.2.1 bt824.2.2.2 t806 t807 t808 t809 t810).bind fun t854 => (if t854 = 1 then (some true) else (none))) else (none)))))))))))) = some r := H
  have A9 := Aside0.mk A90
  clear A90
  replace H := Option.bind_eq_some_iff.mp H
  obtain ⟨⟨t824, t825, t826, t827⟩, A100, H⟩ := H
  replace H : ((vec_At.f t812 t813 t814 t815 t810).bind fun t829 => ((stamp_Stamp_N.f t806 t807 t808 t809 t810).bind fun t830 => ((vec_At.f t812 t813 t814 t815 t810).bind fun t831 => ((stamp_Stamp_N.f t806 t807 t808 t809 t810).bind fun t832 => (if t831 = (IntKind.u64.wrap (t832 - 1)) then (none) else (if t817 = (-1) then (if t829 ≥ t830 then (if t817 = 1 then (none) else ((stream_Ready.f t818 t819 t820 t821 t806 t807 t808 t809 t810).bind fun t851 => (if t851 = (-1) then ((stream_Ready.f t824 t825 t826 t827 t806 t807 t808 t809 t810).bind fun t852 => (if t852 = 1 then (some true) else (none))) else (none)))) else (none)) else (if t829 ≥ t830 then (none) else (if t817 = 1 then (none) else ((stream_Ready.f t818 t819 t820 t821 t806 t807 t808 t809 t810).bind fun t853 => (if t853 = (-1) then ((stream_Ready.f t824 t825 t826 t827 t806 t807 t808 t809 t810).bind fun t854 => (if t854 = 1 then (some true) else (none))) else (none))))))))))) = some r := H
  have A10 := Aside0.mk A100
  clear A100
  replace H := Option.bind_eq_some_iff.mp H
  obtain ⟨t829, A110, H⟩ := H
  replace H : ((stamp_Stamp_N.f t806 t807 t808 t809 t810).bind fun t830 => ((vec_At.f t812 t813 t814 t815 t810).bind fun t831 => ((stamp_Stamp_N.f t806 t807 t808 t809 t810).bind fun t832 => (if t831 = (IntKind.u64.wrap (t832 - 1)) then (none) else (if t817 = (-1) then (if t829 ≥ t830 then (if t817 = 1 then (none) else ((stream_Ready.f t818 t819 t820 t821 t806 t807 t808 t809 t810).bind fun t851 => (if t851 = (-1) then ((stream_Ready.f t824 t825 t826 t827 t806 t807 t808 t809 t810).bind fun t852 => (if t852 = 1 then (some true) else (none))) else (none)))) else (none)) else (if t829 ≥ t830 then (none) else (if t817 = 1 then (none) else ((stream_Ready.f t818 t819 t820 t821 t806 t807 t808 t809 t810).bind fun t853 => (if t853 = (-1) then ((stream_Ready.f t824 t825 t826 t827 t806 t807 t808 t809 t810).bind fun t854 => (if t854 = 1 then (some true) else (none))) else (none)))))))))) = some r := H
  have A11 := Aside0.mk A110
  clear A110
  replace H := Option.bind_eq_some_iff.mp H
  obtain ⟨t830, A120, H⟩ := H
  replace H : ((vec_At.f t812 t813 t814 t815 t810).bind fun t831 => ((stamp_Stamp_N.f t806 t807 t808 t809 t810).bind fun t832 => (if t831 = (IntKind.u64.wrap (t832 - 1)) then (none) else (if t817 = (-1) then (if t829 ≥ t830 then (if t817 = 1 then (none) else ((stream_Ready.f t818 t819 t820 t821 t806 t807 t808 t809 t810).bind fun t851 => (if t851 = (-1) then ((stream_Ready.f t824 t825 t826 t827 t806 t807 t808 t809 t810).bind fun t852 => (if t852 = 1 then (some true) else (none))) else (none)))) else (none)) else (if t829 ≥ t830 then (none) else (if t817 = 1 then (none) else ((stream_Ready.f t818 t819 t820 t821 t806 t807 t808 t809 t810).bind fun t853 => (if t853 = (-1) then ((stream_Ready.f t824 t825 t826 t827 t806 t807 t808 t809 t810).bind fun t854 => (if t854 = 1 then (some true) else (none))) else (none))))))))) = some r := H
  have A12 := Aside0.mk A120
  clear A120
  replace H := Option.bind_eq_some_iff.mp H
  obtain ⟨t831, A130, H⟩ := H
  replace H : ((stamp_Stamp_N.f t806 t807 t808 t809 t810).bind fun t832 => (if t831 = (IntKind.u64.wrap (t832 - 1)) then (none) else (if t817 = (-1) then (if t829 ≥ t830 then (if t817 = 1 then (none) else ((stream_Ready.f t818 t819 t820 t821 t806 t807 t808 t809 t810).bind fun t851 => (if t851 = (-1) then ((stream_Ready.f t824 t825 t826 t827 t806 t807 t808 t809 t810).bind fun t852 => (if t852 = 1 then (some true) else (none))) else (none)))) else (none)) else (if t829 ≥ t830 then (none) else (if t817 = 1 then (none) else ((stream_Ready.f t818 t819 t820 t821 t806 t807 t808 t809 t810).bind fun t853 => (if t853 = (-1) then ((stream_Ready.f t824 t825 t826 t827 t806 t807 t808 t809 t810).bind fun t854 => (if t854 = 1 then (some true) else (none))) else (none)))))))) = some r := H
  have A13 := Aside0.mk A130
  clear A130
  replace H := Option.bind_eq_some_iff.mp H
  obtain ⟨t832, A140, H⟩ := H
  replace H : (if t831 = (IntKind.u64.wrap (t832 - 1)) then (none) else (if t817 = (-1) then (if t829 ≥ t830 then (if t817 = 1 then (none) else ((stream_Ready.f t818 t819 t820 t821 t806 t807 t808 t809 t810).bind fun t851 => (if t851 = (-1) then ((stream_Ready.f t824 t825 t826 t827 t806 t807 t808 t809 t810).bind fun t852 => (if t852 = 1 then (some true) else (none))) else (none)))) else (none)) else (if t829 ≥ t830 then (none) else (if t817 = 1 then (none) else ((stream_Ready.f t818 t819 t820 t821 t806 t807 t808 t809 t810).bind fun t853 => (if t853 = (-1) then ((stream_Ready.f t824 t825 t826 t827 t806 t807 t808 t809 t810).bind fun t854 => (if t854 = 1 then (some true) else (none))) else (none))))))) = some r := H
  have A14 := Aside0.mk A140
  clear A140
  by_cases c15 : t831 = (IntKind.u64.wrap (t832 - 1))
  · rw [if_pos c15] at H
    exact absurd H (by simp)
  rw [if_neg c15] at H
  have c15b0 : (t831 == (IntKind.u64.wrap (t832 - 1))) = false := beq_eq_false_iff_ne.mpr c15
  have c15b1 : (t831 != (IntKind.u64.wrap (t832 - 1))) = true := bne_iff_ne.mpr c15
  by_cases c16 : t817 = (-1)
  · rw [if_pos c16] at H
    have c16b0 : (t817 == (-1)) = true := beq_iff_eq.mpr c16
    have c16b1 : (t817 != (-1)) = false := bne_eq_false_iff_eq.mpr c16
    clear c16
    by_cases c17 : t829 ≥ t830
    rotate_left
    · rw [if_neg c17] at H
      exact absurd H (by simp)
    rw [if_pos c17] at H
    have c17b0 : decide (t830 ≤ t829) = true := decide_eq_true c17
    clear c17
    by_cases c18 : t817 = 1
    · rw [if_pos c18] at H
      exact absurd H (by simp)
    rw [if_neg c18] at H
    have c18b0 : (t817 == 1) = false := beq_eq_false_iff_ne.mpr c18
    have c18b1 : (t817 != 1) = true := bne_iff_ne.mpr c18
    replace H := Option.bind_eq_some_iff.mp H
    obtain ⟨t851, A190, H⟩ := H
    replace H : (if t851 = (-1) then ((stream_Ready.f t824 t825 t826 t827 t806 t807 t808 t809 t810).bind fun t852 => (if t852 = 1 then (some true) else (none))) else (none)) = some r := H
    have A19 := Aside0.mk A190
    clear A190
    by_cases c20 : t851 = (-1)
    rotate_left
    · rw [if_neg c20] at H
      exact absurd H (by simp)
    rw [if_pos c20] at H
    have c20b0 : (t851 == (-1)) = true := beq_iff_eq.mpr c20
    have c20b1 : (t851 != (-1)) = false := bne_eq_false_iff_eq.mpr c20
    clear c20
    replace H := Option.bind_eq_some_iff.mp H
    obtain ⟨t852, A210, H⟩ := H
    replace H : (if t852 = 1 then (some true) else (none)) = some r := H
    have A21 := Aside0.mk A210
    clear A210
    by_cases c22 : t852 = 1
    rotate_left
    · rw [if_neg c22] at H
      exact absurd H (by simp)
    rw [if_pos c22] at H
    have c22b0 : (t852 == 1) = true := beq_iff_eq.mpr c22
    have c22b1 : (t852 != 1) = false := bne_eq_false_iff_eq.mpr c22
    clear c22
    obtain rfl := Option.some.inj H
    go_enter Try.func7, Try.ntmps7
    try go_wp2_with (first | ((with_reducible refine gate_dst (N := 2) rfl ?_); refine Ka_ 2 #[.int .u64 a0_0, .int .u64 a0_1, .int .u64 a0_2, .int .u64 a0_3, .int .i64 a0_4, .bool a0_5] 39 ?_; intro gb803 hg w23 hbox hb; have BK803 := Aside0.mk (hbox); have GW803 := Kw_ HB hg; have GE803 := GW803; replace HB := Ks_ HB hb; clear hb hbox hg) | ((with_reducible refine gate_dst (N := 3) rfl ?_); refine Ka_ 3 #[.int .u64 a1_0, .int .u64 a1_1, .int .u64 a1_2, .int .u64 a1_3, .bool a1_4] 63 ?_; intro gb804 hg w24 hbox hb; have BK804 := Aside0.mk (hbox); have GW804 := Kw_ HB hg; have GE804 := GW804; have NB803_804 := Kl_ BK803 hg; have NB804_803 := Kr_ BK803 hg; replace BK803 := Kb_ BK803 hb; replace HB := Ks_ HB hb; clear hb hbox hg) | ((with_reducible refine gate_callee (f := 11) rfl ?_); refine Kg_ (some 13) rfl rfl Try.func11 (by kernel_rfl) rfl #[] rfl ?_; (with_reducible refine (tenementlaw15_examples.calls  true _ A3.out).mono ?_); rintro e w25 ⟨rfl, hb⟩; refine ⟨_, rfl, ?_⟩; replace BK803 := Kb_ BK803 hb; replace BK804 := Kb_ BK804 hb; replace HB := Ks_ HB hb; (try clear hb); (try clear hb2); (try clear hk); (try clear hi); have hnb26 := NB803_804.out; have hnc26 := NB804_803.out; obtain ⟨hcz27_0, hcz27_1, hcz27_2, hcz27_3, hcz27_4, hcz27_5, hfz27_0, hfz27_1, hfz27_2, hfz27_3, hfz27_4, hfz27_5⟩ := Ke6_ BK803.out) | ((with_reducible refine gate_callee (f := 25) rfl ?_); refine Kg_ (some 18) rfl rfl Try.func25 (by kernel_rfl) rfl #[.agg #[.int .u64 a0_0, .int .u64 a0_1, .int .u64 a0_2, .int .u64 a0_3, .int .i64 a0_4, .bool true]] rfl ?_; (with_reducible refine (tenementlaw15_Mark_mark.calls k a0_0 a0_1 a0_2 a0_3 a0_4 true t806 t807 t808 t809 t810 _ A5.out).mono ?_); rintro e w28 ⟨rfl, hb⟩; refine ⟨_, rfl, ?_⟩; replace BK803 := Aside0.mk (blk_below (g := gb803) (o := .cells #[.int .u64 a0_0, .int .u64 a0_1, .int .u64 a0_2, .int .u64 a0_3, .int .i64 a0_4, .bool true] 39 (0, 0)) (by refine Kv_ ?_; refine blk_put (cs := #[.int .u64 a0_0, .int .u64 a0_1, .int .u64 a0_2, .int .u64 a0_3, .int .i64 a0_4, .bool a0_5]) ?_ 5 _ rfl; exact Kq_ BK803) hb); replace BK804 := Kf_ BK804 NB804_803 hb; replace HB := Kt_ HB GE803 hb; (try clear hb); (try clear hb2); (try clear hk); (try clear hi)) | ((with_reducible refine gate_dst (N := 6) rfl ?_); refine Ka_ 6 #[.int .u64 0, .int .u64 0, .int .u64 0, .int .u64 0, .int .i64 0] 30 ?_; intro gb811 hg w29 hbox hb; have BK811 := Aside0.mk (hbox); have GW811 := Kw_ HB hg; have GE811 := GW811; have NB803_811 := Kl_ BK803 hg; have NB811_803 := Kr_ BK803 hg; have NB804_811 := Kl_ BK804 hg; have NB811_804 := Kr_ BK804 hg; replace BK803 := Kb_ BK803 hb; replace BK804 := Kb_ BK804 hb; replace HB := Ks_ HB hb; clear hb hbox hg; have hnb30 := NB811_803.out; have hnc30 := NB803_811.out; have hnb31 := NB811_804.out; have hnc31 := NB804_811.out; obtain ⟨hcz32_0, hcz32_1, hcz32_2, hcz32_3, hcz32_4, hfz32_0, hfz32_1, hfz32_2, hfz32_3, hfz32_4⟩ := Ke5_ BK811.out; obtain ⟨hcz33_0, hcz33_1, hcz33_2, hcz33_3, hcz33_4, hfz33_0, hfz33_1, hfz33_2, hfz33_3, hfz33_4⟩ := Ke5_ BK804.out) | ((with_reducible refine gate_callee (f := 24) rfl ?_); refine Kg_ (some 20) rfl rfl Try.func24 (by kernel_rfl) rfl #[.agg #[.int .u64 a1_0, .int .u64 a1_1, .int .u64 a1_2, .int .u64 a1_3, .bool a1_4]] rfl ?_; (with_reducible refine (tenementlaw15_Vector_vector.calls k a1_0 a1_1 a1_2 a1_3 a1_4 t812 t813 t814 t815 _ A6.out).mono ?_); rintro e w34 ⟨rfl, hb⟩; refine ⟨_, rfl, ?_⟩; replace BK803 := Kf_ BK803 NB803_811 hb; replace BK804 := Kf_ BK804 NB804_811 hb; replace BK811 := Aside0.mk (blk_below (g := gb811) (o := .cells #[.int .u64 t806, .int .u64 t807, .int .u64 t808, .int .u64 t809, .int .i64 t810] 30 (0, 0)) (by refine Kv_ ?_; refine blk_put (cs := #[.int .u64 t806, .int .u64 t807, .int .u64 t808, .int .u64 t809, .int .i64 0]) ?_ 4 _ rfl; refine Kv_ ?_; refine blk_put (cs := #[.int .u64 t806, .int .u64 t807, .int .u64 t808, .int .u64 0, .int .i64 0]) ?_ 3 _ rfl; refine Kv_ ?_; refine blk_put (cs := #[.int .u64 t806, .int .u64 t807, .int .u64 0, .int .u64 0, .int .i64 0]) ?_ 2 _ rfl; refine Kv_ ?_; refine blk_put (cs := #[.int .u64 t806, .int .u64 0, .int .u64 0, .int .u64 0, .int .i64 0]) ?_ 1 _ rfl; refine Kv_ ?_; refine blk_put (cs := #[.int .u64 0, .int .u64 0, .int .u64 0, .int .u64 0, .int .i64 0]) ?_ 0 _ rfl; exact Kq_ BK811) hb); replace HB := Kt_ HB GE811 hb; (try clear hb); (try clear hb2); (try clear hk); (try clear hi)) | ((with_reducible refine gate_dst (N := 7) rfl ?_); refine Ka_ 7 #[.int .u64 0, .int .u64 0, .int .u64 0, .int .u64 0] 28 ?_; intro gb816 hg w35 hbox hb; have BK816 := Aside0.mk (hbox); have GW816 := Kw_ HB hg; have GE816 := GW816; have NB803_816 := Kl_ BK803 hg; have NB816_803 := Kr_ BK803 hg; have NB804_816 := Kl_ BK804 hg; have NB816_804 := Kr_ BK804 hg; have NB811_816 := Kl_ BK811 hg; have NB816_811 := Kr_ BK811 hg; replace BK803 := Kb_ BK803 hb; replace BK804 := Kb_ BK804 hb; replace BK811 := Kb_ BK811 hb; replace HB := Ks_ HB hb; clear hb hbox hg; have hnb36 := NB816_803.out; have hnc36 := NB803_816.out; have hnb37 := NB816_804.out; have hnc37 := NB804_816.out; have hnb38 := NB816_811.out; have hnc38 := NB811_816.out; obtain ⟨hcz39_0, hcz39_1, hcz39_2, hcz39_3, hfz39_0, hfz39_1, hfz39_2, hfz39_3⟩ := Ke4_ BK816.out; obtain ⟨hcz40_0, hcz40_1, hcz40_2, hcz40_3, hcz40_4, hfz40_0, hfz40_1, hfz40_2, hfz40_3, hfz40_4⟩ := Ke5_ BK811.out) | ((with_reducible refine gate_callee (f := 30) rfl ?_); refine Kg_ (some 23) rfl rfl Try.func30 (by kernel_rfl) rfl #[.agg #[.int .u64 t812, .int .u64 t813, .int .u64 t814, .int .u64 t815], .agg #[.int .u64 t806, .int .u64 t807, .int .u64 t808, .int .u64 t809, .int .i64 t810]] rfl ?_; (with_reducible refine (stream_Ready.calls t812 t813 t814 t815 t806 t807 t808 t809 t810 t817 _ A7.out).mono ?_); rintro e w41 ⟨rfl, hb⟩; refine ⟨_, rfl, ?_⟩; replace BK803 := Kf_ BK803 NB803_816 hb; replace BK804 := Kf_ BK804 NB804_816 hb; replace BK811 := Kf_ BK811 NB811_816 hb; replace BK816 := Aside0.mk (blk_below (g := gb816) (o := .cells #[.int .u64 t812, .int .u64 t813, .int .u64 t814, .int .u64 t815] 28 (0, 0)) (by refine Kv_ ?_; refine blk_put (cs := #[.int .u64 t812, .int .u64 t813, .int .u64 t814, .int .u64 0]) ?_ 3 _ rfl; refine Kv_ ?_; refine blk_put (cs := #[.int .u64 t812, .int .u64 t813, .int .u64 0, .int .u64 0]) ?_ 2 _ rfl; refine Kv_ ?_; refine blk_put (cs := #[.int .u64 t812, .int .u64 0, .int .u64 0, .int .u64 0]) ?_ 1 _ rfl; refine Kv_ ?_; refine blk_put (cs := #[.int .u64 0, .int .u64 0, .int .u64 0, .int .u64 0]) ?_ 0 _ rfl; exact Kq_ BK816) hb); replace HB := Kt_ HB GE816 hb; (try clear hb); (try clear hb2); (try clear hk); (try clear hi); obtain ⟨hcz42_0, hcz42_1, hcz42_2, hcz42_3, hfz42_0, hfz42_1, hfz42_2, hfz42_3⟩ := Ke4_ BK816.out; obtain ⟨hcz43_0, hcz43_1, hcz43_2, hcz43_3, hcz43_4, hfz43_0, hfz43_1, hfz43_2, hfz43_3, hfz43_4⟩ := Ke5_ BK811.out) | ((with_reducible refine gate_callee (f := 45) rfl ?_); refine Kg_ (some 27) rfl rfl Try.func45 (by kernel_rfl) rfl #[.agg #[.int .u64 t812, .int .u64 t813, .int .u64 t814, .int .u64 t815], .agg #[.int .u64 t806, .int .u64 t807, .int .u64 t808, .int .u64 t809]] rfl ?_; (with_reducible refine (vec_Join.calls t812 t813 t814 t815 t806 t807 t808 t809 t818 t819 t820 t821 _ A8.out).mono ?_); rintro e w44 ⟨rfl, hb⟩; refine ⟨_, rfl, ?_⟩; replace BK803 := Kb_ BK803 hb; replace BK804 := Kb_ BK804 hb; replace BK811 := Kb_ BK811 hb; replace BK816 := Kb_ BK816 hb; replace HB := Ks_ HB hb; (try clear hb); (try clear hb2); (try clear hk); (try clear hi)) | ((with_reducible refine gate_dst (N := 9) rfl ?_); refine Ka_ 9 #[.int .u64 0, .int .u64 0, .int .u64 0, .int .u64 0] 28 ?_; intro gb822 hg w45 hbox hb; have BK822 := Aside0.mk (hbox); have GW822 := Kw_ HB hg; have GE822 := GW822; have NB803_822 := Kl_ BK803 hg; have NB822_803 := Kr_ BK803 hg; have NB804_822 := Kl_ BK804 hg; have NB822_804 := Kr_ BK804 hg; have NB811_822 := Kl_ BK811 hg; have NB822_811 := Kr_ BK811 hg; have NB816_822 := Kl_ BK816 hg; have NB822_816 := Kr_ BK816 hg; replace BK803 := Kb_ BK803 hb; replace BK804 := Kb_ BK804 hb; replace BK811 := Kb_ BK811 hb; replace BK816 := Kb_ BK816 hb; replace HB := Ks_ HB hb; clear hb hbox hg; have hnb46 := NB822_803.out; have hnc46 := NB803_822.out; have hnb47 := NB822_804.out; have hnc47 := NB804_822.out; have hnb48 := NB822_811.out; have hnc48 := NB811_822.out; have hnb49 := NB822_816.out; have hnc49 := NB816_822.out; obtain ⟨hcz50_0, hcz50_1, hcz50_2, hcz50_3, hfz50_0, hfz50_1, hfz50_2, hfz50_3⟩ := Ke4_ BK822.out))
    have n0_ : Aside0 (((((w45.setCell ⟨gb822, 0, none⟩ (.int .u64 t818)).setCell ⟨gb822, 1, none⟩ (.int .u64 t819)).setCell ⟨gb822, 2, none⟩ (.int .u64 t820)).setCell ⟨gb822, 3, none⟩ (.int .u64 t821)).heap[gb803]? = some (.cells #[.int .u64 a0_0, .int .u64 a0_1, .int .u64 a0_2, .int .u64 a0_3, .int .i64 a0_4, .bool true] 39 (0, 0))) := ⟨by exact K1b_ BK803 NB803_822⟩
    have n1_ : Aside0 (((((w45.setCell ⟨gb822, 0, none⟩ (.int .u64 t818)).setCell ⟨gb822, 1, none⟩ (.int .u64 t819)).setCell ⟨gb822, 2, none⟩ (.int .u64 t820)).setCell ⟨gb822, 3, none⟩ (.int .u64 t821)).heap[gb804]? = some (.cells #[.int .u64 a1_0, .int .u64 a1_1, .int .u64 a1_2, .int .u64 a1_3, .bool a1_4] 63 (0, 0))) := ⟨by exact K1b_ BK804 NB804_822⟩
    have n2_ : Aside0 (((((w45.setCell ⟨gb822, 0, none⟩ (.int .u64 t818)).setCell ⟨gb822, 1, none⟩ (.int .u64 t819)).setCell ⟨gb822, 2, none⟩ (.int .u64 t820)).setCell ⟨gb822, 3, none⟩ (.int .u64 t821)).heap[gb811]? = some (.cells #[.int .u64 t806, .int .u64 t807, .int .u64 t808, .int .u64 t809, .int .i64 t810] 30 (0, 0))) := ⟨by exact K1b_ BK811 NB811_822⟩
    have n3_ : Aside0 (((((w45.setCell ⟨gb822, 0, none⟩ (.int .u64 t818)).setCell ⟨gb822, 1, none⟩ (.int .u64 t819)).setCell ⟨gb822, 2, none⟩ (.int .u64 t820)).setCell ⟨gb822, 3, none⟩ (.int .u64 t821)).heap[gb816]? = some (.cells #[.int .u64 t812, .int .u64 t813, .int .u64 t814, .int .u64 t815] 28 (0, 0))) := ⟨by exact K1b_ BK816 NB816_822⟩
    have n4_ : Aside0 (((((w45.setCell ⟨gb822, 0, none⟩ (.int .u64 t818)).setCell ⟨gb822, 1, none⟩ (.int .u64 t819)).setCell ⟨gb822, 2, none⟩ (.int .u64 t820)).setCell ⟨gb822, 3, none⟩ (.int .u64 t821)).heap[gb822]? = some (.cells #[.int .u64 t818, .int .u64 t819, .int .u64 t820, .int .u64 t821] 28 (0, 0))) := ⟨by refine Kv_ ?_; refine blk_put (cs := #[.int .u64 t818, .int .u64 t819, .int .u64 t820, .int .u64 0]) ?_ 3 _ rfl; refine Kv_ ?_; refine blk_put (cs := #[.int .u64 t818, .int .u64 t819, .int .u64 0, .int .u64 0]) ?_ 2 _ rfl; refine Kv_ ?_; refine blk_put (cs := #[.int .u64 t818, .int .u64 0, .int .u64 0, .int .u64 0]) ?_ 1 _ rfl; refine Kv_ ?_; refine blk_put (cs := #[.int .u64 0, .int .u64 0, .int .u64 0, .int .u64 0]) ?_ 0 _ rfl; exact Kq_ BK822⟩
    have n5_ : Aside0 (Below w.heap.size w ((((w45.setCell ⟨gb822, 0, none⟩ (.int .u64 t818)).setCell ⟨gb822, 1, none⟩ (.int .u64 t819)).setCell ⟨gb822, 2, none⟩ (.int .u64 t820)).setCell ⟨gb822, 3, none⟩ (.int .u64 t821))) := ⟨by repeat (first | (with_reducible first | exact HB.out | apply below_alloc | apply pw_below_drewN | apply below_drew1 | refine below_set ?_ GE803.out | refine below_set ?_ GE804.out | refine below_set ?_ GE811.out | refine below_set ?_ GE816.out | refine below_set ?_ GE822.out) | exact HB.out)⟩
    (try clear BK803)
    (try clear BK804)
    (try clear BK811)
    (try clear BK816)
    (try clear BK822)
    (try clear HB)
    generalize ((((w45.setCell ⟨gb822, 0, none⟩ (.int .u64 t818)).setCell ⟨gb822, 1, none⟩ (.int .u64 t819)).setCell ⟨gb822, 2, none⟩ (.int .u64 t820)).setCell ⟨gb822, 3, none⟩ (.int .u64 t821)) = w51 at n0_ n1_ n2_ n3_ n4_ n5_ ⊢
    have BK803 := n0_
    have BK804 := n1_
    have BK811 := n2_
    have BK816 := n3_
    have BK822 := n4_
    have HB := n5_
    clear n0_ n1_ n2_ n3_ n4_ n5_
    replace BK803 := Kd_ BK803
    replace BK804 := Kd_ BK804
    replace BK811 := Kd_ BK811
    replace BK816 := Kd_ BK816
    replace BK822 := Kd_ BK822
    replace HB := Aside0.mk (below_drew1 HB.out)
    refine start_ (n := 9) (S := fun w' => w'.cell? ⟨gb822, 0, none⟩ = some (.int .u64 t818) ∧ w'.cell? ⟨gb822, 1, none⟩ = some (.int .u64 t819) ∧ w'.cell? ⟨gb822, 2, none⟩ = some (.int .u64 t820) ∧ w'.cell? ⟨gb822, 3, none⟩ = some (.int .u64 t821) ∧ w'.cell? ⟨gb811, 0, none⟩ = some (.int .u64 t806) ∧ w'.cell? ⟨gb811, 1, none⟩ = some (.int .u64 t807) ∧ w'.cell? ⟨gb811, 2, none⟩ = some (.int .u64 t808) ∧ w'.cell? ⟨gb811, 3, none⟩ = some (.int .u64 t809) ∧ w'.cell? ⟨gb811, 4, none⟩ = some (.int .i64 t810)) (ds := []) #[false, false, false, false, false, false, false, false, false] (by kernel_rfl) rfl rfl ⟨Km_ BK822 0, Km_ BK822 1, Km_ BK822 2, Km_ BK822 3, Km_ BK811 0, Km_ BK811 1, Km_ BK811 2, Km_ BK811 3, Km_ BK811 4⟩ (fun hHeld => ?_); refine with_tabW tenementlaw15_StreamReady_p1.tab9 tenementlaw15_StreamReady_p1.bits9 (fun HT_ HW_ => ?_)
    generalize w51.drew = w52 at BK803 BK804 BK811 BK816 BK822 HB hHeld ⊢
    refine Kp_ 1 29 #[false, true, false, false, false, false, false, false, false] (any_of HT_.out (by kernel_rfl)) ?_
    refine Ko_ 0 28 #[true, true, false, false, false, false, false, false, false] (take_ofW HT_.out HW_.out (by kernel_rfl)) hHeld ?_
    refine Ko_ 2 30 #[true, true, true, false, false, false, false, false, false] (take_ofW HT_.out HW_.out (by kernel_rfl)) hHeld ?_
    refine Ko_ 3 31 #[true, true, true, true, false, false, false, false, false] (take_ofW HT_.out HW_.out (by kernel_rfl)) hHeld ?_
    refine join_ (σ := Nat) 1 #[true, true, true, true, true, true, true, true, false] (fun s_ => [(32, .int .u64 t823), (34, .agg #[.int .u64 t824, .int .u64 t825, .int .u64 t826, .int .u64 t827]), (10, .pointer (some ⟨s_, 0, none⟩)), (33, .int .u64 (IntKind.u64.wrap (t823 - 1)))]) (fun s_ w' => (w'.cell? ⟨gb822, 0, none⟩ = some (.int .u64 t818) ∧ w'.cell? ⟨gb822, 1, none⟩ = some (.int .u64 t819) ∧ w'.cell? ⟨gb822, 2, none⟩ = some (.int .u64 t820) ∧ w'.cell? ⟨gb822, 3, none⟩ = some (.int .u64 t821) ∧ w'.cell? ⟨gb811, 0, none⟩ = some (.int .u64 t806) ∧ w'.cell? ⟨gb811, 1, none⟩ = some (.int .u64 t807) ∧ w'.cell? ⟨gb811, 2, none⟩ = some (.int .u64 t808) ∧ w'.cell? ⟨gb811, 3, none⟩ = some (.int .u64 t809) ∧ w'.cell? ⟨gb811, 4, none⟩ = some (.int .i64 t810)) ∧ (w'.heap[gb803]? = some (.cells #[.int .u64 a0_0, .int .u64 a0_1, .int .u64 a0_2, .int .u64 a0_3, .int .i64 a0_4, .bool true] 39 (0, 0))) ∧ (w'.heap[gb804]? = some (.cells #[.int .u64 a1_0, .int .u64 a1_1, .int .u64 a1_2, .int .u64 a1_3, .bool a1_4] 63 (0, 0))) ∧ (w'.heap[gb811]? = some (.cells #[.int .u64 t806, .int .u64 t807, .int .u64 t808, .int .u64 t809, .int .i64 t810] 30 (0, 0))) ∧ (w'.heap[gb816]? = some (.cells #[.int .u64 t812, .int .u64 t813, .int .u64 t814, .int .u64 t815] 28 (0, 0))) ∧ (w'.heap[gb822]? = some (.cells #[.int .u64 t818, .int .u64 t819, .int .u64 t820, .int .u64 t821] 28 (0, 0))) ∧ (w'.heap[s_]? = some (.cells #[.int .u64 0, .int .u64 0, .int .u64 0, .int .u64 0] 28 (0, 0))) ∧ (w.heap.size ≤ s_) ∧ (w.heap.size ≤ s_) ∧ (gb803 ≠ s_) ∧ (s_ ≠ gb803) ∧ (gb804 ≠ s_) ∧ (s_ ≠ gb804) ∧ (gb811 ≠ s_) ∧ (s_ ≠ gb811) ∧ (gb816 ≠ s_) ∧ (s_ ≠ gb816) ∧ (gb822 ≠ s_) ∧ (s_ ≠ gb822) ∧ (Below w.heap.size w w')) ?_ ?_
    rotate_left
    · intro hCont
      refine two_ (i := 4) (j := 7) (Ni := some 32) (Nj := some 10) #[true, true, true, true, true, false, false, false, false] #[true, true, true, true, false, false, false, true, false] rfl rfl rfl rfl (two_of HT_.out (by kernel_rfl)) (by decide) (by decide) (fun K hK => ?_) (fun K hK => ?_)
      · skip
        refine goes_ Try.func47 (by kernel_rfl) rfl #[.agg #[.int .u64 t806, .int .u64 t807, .int .u64 t808, .int .u64 t809, .int .i64 t810]] (by rfl) rfl rfl (by (try simp only [List.map_toArray, List.map_cons, List.map_nil]); first | done | rfl | (simp only [List.length_drop, List.length_take]; rfl)) ?_
        with_reducible refine (stamp_Stamp_N.calls t806 t807 t808 t809 t810 t823 _ A9.out).mono ?_
        rintro e w53 ⟨rfl, hb⟩
        refine ⟨_, rfl, ?_⟩
        replace BK803 := Kb_ BK803 hb
        replace BK804 := Kb_ BK804 hb
        replace BK811 := Kb_ BK811 hb
        replace BK816 := Kb_ BK816 hb
        replace BK822 := Kb_ BK822 hb
        replace HB := Ks_ HB hb
        (try clear hb)
        (try clear hb2)
        (try clear hk)
        (try clear hi)
        refine hK.out _ _ ⟨Km_ BK822 0, Km_ BK822 1, Km_ BK822 2, Km_ BK822 3, Km_ BK811 0, Km_ BK811 1, Km_ BK811 2, Km_ BK811 3, Km_ BK811 4⟩ (fun hHeld => ?_)
        clear hK K
        refine Kn_ 32 ?_
        refine Kp_ 5 33 #[true, true, true, true, true, true, false, false, false] (any_of HT_.out (by kernel_rfl)) ?_
        refine two_ (i := 6) (j := 7) (Ni := some 34) (Nj := some 10) #[true, true, true, true, true, true, true, false, false] #[true, true, true, true, true, true, false, true, false] rfl rfl rfl rfl (two_of HT_.out (by kernel_rfl)) (by decide) (by decide) (fun K hK => ?_) (fun K hK => ?_)
        · skip
          refine goes_ Try.func46 (by kernel_rfl) rfl #[.agg #[.int .u64 t818, .int .u64 t819, .int .u64 t820, .int .u64 t821], .int .i64 t810, .int .u64 (IntKind.u64.wrap (t823 - 1))] (by rfl) rfl rfl (by (try simp only [List.map_toArray, List.map_cons, List.map_nil]); first | done | rfl | (simp only [List.length_drop, List.length_take]; rfl)) ?_
          with_reducible refine (vec_With.calls t818 t819 t820 t821 t810 (IntKind.u64.wrap (t823 - 1)) t824 t825 t826 t827 _ A10.out).mono ?_
          rintro e w54 ⟨rfl, hb⟩
          refine ⟨_, rfl, ?_⟩
          replace BK803 := Kb_ BK803 hb
          replace BK804 := Kb_ BK804 hb
          replace BK811 := Kb_ BK811 hb
          replace BK816 := Kb_ BK816 hb
          replace BK822 := Kb_ BK822 hb
          replace HB := Ks_ HB hb
          (try clear hb)
          (try clear hb2)
          (try clear hk)
          (try clear hi)
          refine hK.out _ _ ⟨Km_ BK822 0, Km_ BK822 1, Km_ BK822 2, Km_ BK822 3, Km_ BK811 0, Km_ BK811 1, Km_ BK811 2, Km_ BK811 3, Km_ BK811 4⟩ (fun hHeld => ?_)
          clear hK K
          refine Kn_ 34 ?_
          refine one_ (i := 7) (N := some 10) #[true, true, true, true, true, true, true, true, false] rfl rfl (one_of HT_.out (by kernel_rfl)) (by decide) (fun K hK => ?_)
          refine box_step ?hg (N := 10) ?hd (cs := #[.int .u64 0, .int .u64 0, .int .u64 0, .int .u64 0]) (t := 28) ?hr ?_; (case hd => rfl); (case hg => rfl); (case hr => first | (go_simp; done) | (go_simp; rfl))
          intro gb828 hg w55 hbox hb
          have BK828 := Aside0.mk (hbox)
          have GW828 := Kw_ HB hg
          have GE828 := GW828
          have NB803_828 := Kl_ BK803 hg
          have NB828_803 := Kr_ BK803 hg
          have NB804_828 := Kl_ BK804 hg
          have NB828_804 := Kr_ BK804 hg
          have NB811_828 := Kl_ BK811 hg
          have NB828_811 := Kr_ BK811 hg
          have NB816_828 := Kl_ BK816 hg
          have NB828_816 := Kr_ BK816 hg
          have NB822_828 := Kl_ BK822 hg
          have NB828_822 := Kr_ BK822 hg
          replace BK803 := Kb_ BK803 hb
          replace BK804 := Kb_ BK804 hb
          replace BK811 := Kb_ BK811 hb
          replace BK816 := Kb_ BK816 hb
          replace BK822 := Kb_ BK822 hb
          replace HB := Ks_ HB hb
          clear hb hbox hg
          refine hK.out _ _ ⟨Km_ BK822 0, Km_ BK822 1, Km_ BK822 2, Km_ BK822 3, Km_ BK811 0, Km_ BK811 1, Km_ BK811 2, Km_ BK811 3, Km_ BK811 4⟩ (fun hHeld => ?_)
          clear hK K
          refine Kn_ 10 ?_
          exact norm_ (by simp only [putAll, Act.put, List.setIfInBounds_toArray, List.set_cons_zero, List.set_cons_succ]) (hCont (gb828) _ ⟨hHeld, (Kq_ BK803), (Kq_ BK804), (Kq_ BK811), (Kq_ BK816), (Kq_ BK822), (Kq_ BK828), GW828.out, GE828.out, NB803_828.out, NB828_803.out, NB804_828.out, NB828_804.out, NB811_828.out, NB828_811.out, NB816_828.out, NB828_816.out, NB822_828.out, NB828_822.out, (by repeat (first | (with_reducible first | exact HB.out | apply below_alloc | apply pw_below_drewN | apply below_drew1 | refine below_set ?_ GE803.out | refine below_set ?_ GE804.out | refine below_set ?_ GE811.out | refine below_set ?_ GE816.out | refine below_set ?_ GE822.out | refine below_set ?_ GE828.out) | exact HB.out))⟩)
        · skip
          refine box_step ?hg (N := 10) ?hd (cs := #[.int .u64 0, .int .u64 0, .int .u64 0, .int .u64 0]) (t := 28) ?hr ?_; (case hd => rfl); (case hg => rfl); (case hr => first | (go_simp; done) | (go_simp; rfl))
          intro gb828 hg w54 hbox hb
          have BK828 := Aside0.mk (hbox)
          have GW828 := Kw_ HB hg
          have GE828 := GW828
          have NB803_828 := Kl_ BK803 hg
          have NB828_803 := Kr_ BK803 hg
          have NB804_828 := Kl_ BK804 hg
          have NB828_804 := Kr_ BK804 hg
          have NB811_828 := Kl_ BK811 hg
          have NB828_811 := Kr_ BK811 hg
          have NB816_828 := Kl_ BK816 hg
          have NB828_816 := Kr_ BK816 hg
          have NB822_828 := Kl_ BK822 hg
          have NB828_822 := Kr_ BK822 hg
          replace BK803 := Kb_ BK803 hb
          replace BK804 := Kb_ BK804 hb
          replace BK811 := Kb_ BK811 hb
          replace BK816 := Kb_ BK816 hb
          replace BK822 := Kb_ BK822 hb
          replace HB := Ks_ HB hb
          clear hb hbox hg
          refine hK.out _ _ ⟨Km_ BK822 0, Km_ BK822 1, Km_ BK822 2, Km_ BK822 3, Km_ BK811 0, Km_ BK811 1, Km_ BK811 2, Km_ BK811 3, Km_ BK811 4⟩ (fun hHeld => ?_)
          clear hK K
          refine Kn_ 10 ?_
          refine one_ (i := 6) (N := some 34) #[true, true, true, true, true, true, true, true, false] rfl rfl (one_of HT_.out (by kernel_rfl)) (by decide) (fun K hK => ?_)
          refine goes_ Try.func46 (by kernel_rfl) rfl #[.agg #[.int .u64 t818, .int .u64 t819, .int .u64 t820, .int .u64 t821], .int .i64 t810, .int .u64 (IntKind.u64.wrap (t823 - 1))] (by rfl) rfl rfl (by (try simp only [List.map_toArray, List.map_cons, List.map_nil]); first | done | rfl | (simp only [List.length_drop, List.length_take]; rfl)) ?_
          with_reducible refine (vec_With.calls t818 t819 t820 t821 t810 (IntKind.u64.wrap (t823 - 1)) t824 t825 t826 t827 _ A10.out).mono ?_
          rintro e w55 ⟨rfl, hb⟩
          refine ⟨_, rfl, ?_⟩
          replace BK803 := Kb_ BK803 hb
          replace BK804 := Kb_ BK804 hb
          replace BK811 := Kb_ BK811 hb
          replace BK816 := Kb_ BK816 hb
          replace BK822 := Kb_ BK822 hb
          replace BK828 := Kb_ BK828 hb
          replace HB := Ks_ HB hb
          (try clear hb)
          (try clear hb2)
          (try clear hk)
          (try clear hi)
          refine hK.out _ _ ⟨Km_ BK822 0, Km_ BK822 1, Km_ BK822 2, Km_ BK822 3, Km_ BK811 0, Km_ BK811 1, Km_ BK811 2, Km_ BK811 3, Km_ BK811 4⟩ (fun hHeld => ?_)
          clear hK K
          refine Kn_ 34 ?_
          exact norm_ (by simp only [putAll, Act.put, List.setIfInBounds_toArray, List.set_cons_zero, List.set_cons_succ]) (hCont (gb828) _ ⟨hHeld, (Kq_ BK803), (Kq_ BK804), (Kq_ BK811), (Kq_ BK816), (Kq_ BK822), (Kq_ BK828), GW828.out, GE828.out, NB803_828.out, NB828_803.out, NB804_828.out, NB828_804.out, NB811_828.out, NB828_811.out, NB816_828.out, NB828_816.out, NB822_828.out, NB828_822.out, (by repeat (first | (with_reducible first | exact HB.out | apply below_alloc | apply pw_below_drewN | apply below_drew1 | refine below_set ?_ GE803.out | refine below_set ?_ GE804.out | refine below_set ?_ GE811.out | refine below_set ?_ GE816.out | refine below_set ?_ GE822.out | refine below_set ?_ GE828.out) | exact HB.out))⟩)
      · skip
        refine box_step ?hg (N := 10) ?hd (cs := #[.int .u64 0, .int .u64 0, .int .u64 0, .int .u64 0]) (t := 28) ?hr ?_; (case hd => rfl); (case hg => rfl); (case hr => first | (go_simp; done) | (go_simp; rfl))
        intro gb828 hg w53 hbox hb
        have BK828 := Aside0.mk (hbox)
        have GW828 := Kw_ HB hg
        have GE828 := GW828
        have NB803_828 := Kl_ BK803 hg
        have NB828_803 := Kr_ BK803 hg
        have NB804_828 := Kl_ BK804 hg
        have NB828_804 := Kr_ BK804 hg
        have NB811_828 := Kl_ BK811 hg
        have NB828_811 := Kr_ BK811 hg
        have NB816_828 := Kl_ BK816 hg
        have NB828_816 := Kr_ BK816 hg
        have NB822_828 := Kl_ BK822 hg
        have NB828_822 := Kr_ BK822 hg
        replace BK803 := Kb_ BK803 hb
        replace BK804 := Kb_ BK804 hb
        replace BK811 := Kb_ BK811 hb
        replace BK816 := Kb_ BK816 hb
        replace BK822 := Kb_ BK822 hb
        replace HB := Ks_ HB hb
        clear hb hbox hg
        refine hK.out _ _ ⟨Km_ BK822 0, Km_ BK822 1, Km_ BK822 2, Km_ BK822 3, Km_ BK811 0, Km_ BK811 1, Km_ BK811 2, Km_ BK811 3, Km_ BK811 4⟩ (fun hHeld => ?_)
        clear hK K
        refine Kn_ 10 ?_
        refine one_ (i := 4) (N := some 32) #[true, true, true, true, true, false, false, true, false] rfl rfl (one_of HT_.out (by kernel_rfl)) (by decide) (fun K hK => ?_)
        refine goes_ Try.func47 (by kernel_rfl) rfl #[.agg #[.int .u64 t806, .int .u64 t807, .int .u64 t808, .int .u64 t809, .int .i64 t810]] (by rfl) rfl rfl (by (try simp only [List.map_toArray, List.map_cons, List.map_nil]); first | done | rfl | (simp only [List.length_drop, List.length_take]; rfl)) ?_
        with_reducible refine (stamp_Stamp_N.calls t806 t807 t808 t809 t810 t823 _ A9.out).mono ?_
        rintro e w54 ⟨rfl, hb⟩
        refine ⟨_, rfl, ?_⟩
        replace BK803 := Kb_ BK803 hb
        replace BK804 := Kb_ BK804 hb
        replace BK811 := Kb_ BK811 hb
        replace BK816 := Kb_ BK816 hb
        replace BK822 := Kb_ BK822 hb
        replace BK828 := Kb_ BK828 hb
        replace HB := Ks_ HB hb
        (try clear hb)
        (try clear hb2)
        (try clear hk)
        (try clear hi)
        refine hK.out _ _ ⟨Km_ BK822 0, Km_ BK822 1, Km_ BK822 2, Km_ BK822 3, Km_ BK811 0, Km_ BK811 1, Km_ BK811 2, Km_ BK811 3, Km_ BK811 4⟩ (fun hHeld => ?_)
        clear hK K
        refine Kn_ 32 ?_
        refine Kp_ 5 33 #[true, true, true, true, true, true, false, true, false] (any_of HT_.out (by kernel_rfl)) ?_
        refine one_ (i := 6) (N := some 34) #[true, true, true, true, true, true, true, true, false] rfl rfl (one_of HT_.out (by kernel_rfl)) (by decide) (fun K hK => ?_)
        refine goes_ Try.func46 (by kernel_rfl) rfl #[.agg #[.int .u64 t818, .int .u64 t819, .int .u64 t820, .int .u64 t821], .int .i64 t810, .int .u64 (IntKind.u64.wrap (t823 - 1))] (by rfl) rfl rfl (by (try simp only [List.map_toArray, List.map_cons, List.map_nil]); first | done | rfl | (simp only [List.length_drop, List.length_take]; rfl)) ?_
        with_reducible refine (vec_With.calls t818 t819 t820 t821 t810 (IntKind.u64.wrap (t823 - 1)) t824 t825 t826 t827 _ A10.out).mono ?_
        rintro e w55 ⟨rfl, hb⟩
        refine ⟨_, rfl, ?_⟩
        replace BK803 := Kb_ BK803 hb
        replace BK804 := Kb_ BK804 hb
        replace BK811 := Kb_ BK811 hb
        replace BK816 := Kb_ BK816 hb
        replace BK822 := Kb_ BK822 hb
        replace BK828 := Kb_ BK828 hb
        replace HB := Ks_ HB hb
        (try clear hb)
        (try clear hb2)
        (try clear hk)
        (try clear hi)
        refine hK.out _ _ ⟨Km_ BK822 0, Km_ BK822 1, Km_ BK822 2, Km_ BK822 3, Km_ BK811 0, Km_ BK811 1, Km_ BK811 2, Km_ BK811 3, Km_ BK811 4⟩ (fun hHeld => ?_)
        clear hK K
        refine Kn_ 34 ?_
        exact norm_ (by simp only [putAll, Act.put, List.setIfInBounds_toArray, List.set_cons_zero, List.set_cons_succ]) (hCont (gb828) _ ⟨hHeld, (Kq_ BK803), (Kq_ BK804), (Kq_ BK811), (Kq_ BK816), (Kq_ BK822), (Kq_ BK828), GW828.out, GE828.out, NB803_828.out, NB828_803.out, NB804_828.out, NB828_804.out, NB811_828.out, NB828_811.out, NB816_828.out, NB828_816.out, NB822_828.out, NB828_822.out, (by repeat (first | (with_reducible first | exact HB.out | apply below_alloc | apply pw_below_drewN | apply below_drew1 | refine below_set ?_ GE803.out | refine below_set ?_ GE804.out | refine below_set ?_ GE811.out | refine below_set ?_ GE816.out | refine below_set ?_ GE822.out | refine below_set ?_ GE828.out) | exact HB.out))⟩)
    rintro gb828 w56 ⟨hS_, h0_, h1_, h2_, h3_, h4_, h5_, h6_, h7_, h8_, h9_, h10_, h11_, h12_, h13_, h14_, h15_, h16_, h17_, h18_⟩
    have n0_ : Aside0 (w56.heap[gb803]? = some (.cells #[.int .u64 a0_0, .int .u64 a0_1, .int .u64 a0_2, .int .u64 a0_3, .int .i64 a0_4, .bool true] 39 (0, 0))) := ⟨h0_⟩
    have n1_ : Aside0 (w56.heap[gb804]? = some (.cells #[.int .u64 a1_0, .int .u64 a1_1, .int .u64 a1_2, .int .u64 a1_3, .bool a1_4] 63 (0, 0))) := ⟨h1_⟩
    have n2_ : Aside0 (w56.heap[gb811]? = some (.cells #[.int .u64 t806, .int .u64 t807, .int .u64 t808, .int .u64 t809, .int .i64 t810] 30 (0, 0))) := ⟨h2_⟩
    have n3_ : Aside0 (w56.heap[gb816]? = some (.cells #[.int .u64 t812, .int .u64 t813, .int .u64 t814, .int .u64 t815] 28 (0, 0))) := ⟨h3_⟩
    have n4_ : Aside0 (w56.heap[gb822]? = some (.cells #[.int .u64 t818, .int .u64 t819, .int .u64 t820, .int .u64 t821] 28 (0, 0))) := ⟨h4_⟩
    have n5_ : Aside0 (w56.heap[gb828]? = some (.cells #[.int .u64 0, .int .u64 0, .int .u64 0, .int .u64 0] 28 (0, 0))) := ⟨h5_⟩
    have n6_ : Aside0 (w.heap.size ≤ gb828) := ⟨h6_⟩
    have n7_ : Aside0 (w.heap.size ≤ gb828) := ⟨h7_⟩
    have n8_ : Aside0 (gb803 ≠ gb828) := ⟨h8_⟩
    have n9_ : Aside0 (gb828 ≠ gb803) := ⟨h9_⟩
    have n10_ : Aside0 (gb804 ≠ gb828) := ⟨h10_⟩
    have n11_ : Aside0 (gb828 ≠ gb804) := ⟨h11_⟩
    have n12_ : Aside0 (gb811 ≠ gb828) := ⟨h12_⟩
    have n13_ : Aside0 (gb828 ≠ gb811) := ⟨h13_⟩
    have n14_ : Aside0 (gb816 ≠ gb828) := ⟨h14_⟩
    have n15_ : Aside0 (gb828 ≠ gb816) := ⟨h15_⟩
    have n16_ : Aside0 (gb822 ≠ gb828) := ⟨h16_⟩
    have n17_ : Aside0 (gb828 ≠ gb822) := ⟨h17_⟩
    have n18_ : Aside0 (Below w.heap.size w w56) := ⟨h18_⟩
    clear BK803
    clear BK804
    clear BK811
    clear BK816
    clear BK822
    clear HB
    clear h0_ h1_ h2_ h3_ h4_ h5_ h6_ h7_ h8_ h9_ h10_ h11_ h12_ h13_ h14_ h15_ h16_ h17_ h18_
    have BK803 := n0_
    have BK804 := n1_
    have BK811 := n2_
    have BK816 := n3_
    have BK822 := n4_
    have BK828 := n5_
    have GW828 := n6_
    have GE828 := n7_
    have NB803_828 := n8_
    have NB828_803 := n9_
    have NB804_828 := n10_
    have NB828_804 := n11_
    have NB811_828 := n12_
    have NB828_811 := n13_
    have NB816_828 := n14_
    have NB828_816 := n15_
    have NB822_828 := n16_
    have NB828_822 := n17_
    have HB := n18_
    clear n0_ n1_ n2_ n3_ n4_ n5_ n6_ n7_ n8_ n9_ n10_ n11_ n12_ n13_ n14_ n15_ n16_ n17_ n18_
    have hHeld : w56.cell? ⟨gb822, 0, none⟩ = some (.int .u64 t818) ∧ w56.cell? ⟨gb822, 1, none⟩ = some (.int .u64 t819) ∧ w56.cell? ⟨gb822, 2, none⟩ = some (.int .u64 t820) ∧ w56.cell? ⟨gb822, 3, none⟩ = some (.int .u64 t821) ∧ w56.cell? ⟨gb811, 0, none⟩ = some (.int .u64 t806) ∧ w56.cell? ⟨gb811, 1, none⟩ = some (.int .u64 t807) ∧ w56.cell? ⟨gb811, 2, none⟩ = some (.int .u64 t808) ∧ w56.cell? ⟨gb811, 3, none⟩ = some (.int .u64 t809) ∧ w56.cell? ⟨gb811, 4, none⟩ = some (.int .i64 t810) := hS_
    refine norm_ (a' := ?_) ?_ ?_
    rotate_left
    · simp only [putAll, Act.put, List.setIfInBounds_toArray, List.set_cons_zero, List.set_cons_succ]
      rfl
    refine one_ (i := 8) (N := none) #[true, true, true, true, true, true, true, true, true] rfl rfl (one_of HT_.out (by kernel_rfl)) (by decide) (fun K hK => ?_)
    have hs57 : w56.cell? ⟨gb828, 0, none⟩ = some (.int .u64 0) := (blk_cell BK828.out 0).trans rfl
    have hfs57 := blk_frozen BK828.out 0
    have hns57_0 := NB803_828.out
    have hns57_1 := NB804_828.out
    have hns57_2 := NB811_828.out
    have hns57_3 := NB816_828.out
    have hns57_4 := NB822_828.out
    have hms57_0 := NB828_803.out
    have hms57_1 := NB828_804.out
    have hms57_2 := NB828_811.out
    have hms57_3 := NB828_816.out
    have hms57_4 := NB828_822.out
    have hs58 : w56.cell? ⟨gb828, 1, none⟩ = some (.int .u64 0) := (blk_cell BK828.out 1).trans rfl
    have hfs58 := blk_frozen BK828.out 1
    have hns58_0 := NB803_828.out
    have hns58_1 := NB804_828.out
    have hns58_2 := NB811_828.out
    have hns58_3 := NB816_828.out
    have hns58_4 := NB822_828.out
    have hms58_0 := NB828_803.out
    have hms58_1 := NB828_804.out
    have hms58_2 := NB828_811.out
    have hms58_3 := NB828_816.out
    have hms58_4 := NB828_822.out
    have hs59 : w56.cell? ⟨gb828, 2, none⟩ = some (.int .u64 0) := (blk_cell BK828.out 2).trans rfl
    have hfs59 := blk_frozen BK828.out 2
    have hns59_0 := NB803_828.out
    have hns59_1 := NB804_828.out
    have hns59_2 := NB811_828.out
    have hns59_3 := NB816_828.out
    have hns59_4 := NB822_828.out
    have hms59_0 := NB828_803.out
    have hms59_1 := NB828_804.out
    have hms59_2 := NB828_811.out
    have hms59_3 := NB828_816.out
    have hms59_4 := NB828_822.out
    have hs60 : w56.cell? ⟨gb828, 3, none⟩ = some (.int .u64 0) := (blk_cell BK828.out 3).trans rfl
    have hfs60 := blk_frozen BK828.out 3
    have hns60_0 := NB803_828.out
    have hns60_1 := NB804_828.out
    have hns60_2 := NB811_828.out
    have hns60_3 := NB816_828.out
    have hns60_4 := NB822_828.out
    have hms60_0 := NB828_803.out
    have hms60_1 := NB828_804.out
    have hms60_2 := NB828_811.out
    have hms60_3 := NB828_816.out
    have hms60_4 := NB828_822.out
    refine skip_ (w1 := ?_) (by rfl) rfl ?_ ?_
    rotate_left
    · go_simp
      rfl
    refine hK.out _ _ ⟨(Kj_ NB822_828 ((Kj_ NB822_828 ((Kj_ NB822_828 ((Kj_ NB822_828 (hHeld.1)))))))), (Kj_ NB822_828 ((Kj_ NB822_828 ((Kj_ NB822_828 ((Kj_ NB822_828 (hHeld.2.1)))))))), (Kj_ NB822_828 ((Kj_ NB822_828 ((Kj_ NB822_828 ((Kj_ NB822_828 (hHeld.2.2.1)))))))), (Kj_ NB822_828 ((Kj_ NB822_828 ((Kj_ NB822_828 ((Kj_ NB822_828 (hHeld.2.2.2.1)))))))), (Kj_ NB811_828 ((Kj_ NB811_828 ((Kj_ NB811_828 ((Kj_ NB811_828 (hHeld.2.2.2.2.1)))))))), (Kj_ NB811_828 ((Kj_ NB811_828 ((Kj_ NB811_828 ((Kj_ NB811_828 (hHeld.2.2.2.2.2.1)))))))), (Kj_ NB811_828 ((Kj_ NB811_828 ((Kj_ NB811_828 ((Kj_ NB811_828 (hHeld.2.2.2.2.2.2.1)))))))), (Kj_ NB811_828 ((Kj_ NB811_828 ((Kj_ NB811_828 ((Kj_ NB811_828 (hHeld.2.2.2.2.2.2.2.1)))))))), (Kj_ NB811_828 ((Kj_ NB811_828 ((Kj_ NB811_828 ((Kj_ NB811_828 (hHeld.2.2.2.2.2.2.2.2))))))))⟩ (fun hHeld => ?_)
    clear hK K
    refine done_ (done_of HT_.out (by kernel_rfl)) ?_
    try go_wp2
    have n0_ : Aside0 (((((w56.setCell ⟨gb828, 0, none⟩ (.int .u64 t824)).setCell ⟨gb828, 1, none⟩ (.int .u64 t825)).setCell ⟨gb828, 2, none⟩ (.int .u64 t826)).setCell ⟨gb828, 3, none⟩ (.int .u64 t827)).heap[gb803]? = some (.cells #[.int .u64 a0_0, .int .u64 a0_1, .int .u64 a0_2, .int .u64 a0_3, .int .i64 a0_4, .bool true] 39 (0, 0))) := ⟨by exact K1b_ BK803 NB803_828⟩
    have n1_ : Aside0 (((((w56.setCell ⟨gb828, 0, none⟩ (.int .u64 t824)).setCell ⟨gb828, 1, none⟩ (.int .u64 t825)).setCell ⟨gb828, 2, none⟩ (.int .u64 t826)).setCell ⟨gb828, 3, none⟩ (.int .u64 t827)).heap[gb804]? = some (.cells #[.int .u64 a1_0, .int .u64 a1_1, .int .u64 a1_2, .int .u64 a1_3, .bool a1_4] 63 (0, 0))) := ⟨by exact K1b_ BK804 NB804_828⟩
    have n2_ : Aside0 (((((w56.setCell ⟨gb828, 0, none⟩ (.int .u64 t824)).setCell ⟨gb828, 1, none⟩ (.int .u64 t825)).setCell ⟨gb828, 2, none⟩ (.int .u64 t826)).setCell ⟨gb828, 3, none⟩ (.int .u64 t827)).heap[gb811]? = some (.cells #[.int .u64 t806, .int .u64 t807, .int .u64 t808, .int .u64 t809, .int .i64 t810] 30 (0, 0))) := ⟨by exact K1b_ BK811 NB811_828⟩
    have n3_ : Aside0 (((((w56.setCell ⟨gb828, 0, none⟩ (.int .u64 t824)).setCell ⟨gb828, 1, none⟩ (.int .u64 t825)).setCell ⟨gb828, 2, none⟩ (.int .u64 t826)).setCell ⟨gb828, 3, none⟩ (.int .u64 t827)).heap[gb816]? = some (.cells #[.int .u64 t812, .int .u64 t813, .int .u64 t814, .int .u64 t815] 28 (0, 0))) := ⟨by exact K1b_ BK816 NB816_828⟩
    have n4_ : Aside0 (((((w56.setCell ⟨gb828, 0, none⟩ (.int .u64 t824)).setCell ⟨gb828, 1, none⟩ (.int .u64 t825)).setCell ⟨gb828, 2, none⟩ (.int .u64 t826)).setCell ⟨gb828, 3, none⟩ (.int .u64 t827)).heap[gb822]? = some (.cells #[.int .u64 t818, .int .u64 t819, .int .u64 t820, .int .u64 t821] 28 (0, 0))) := ⟨by exact K1b_ BK822 NB822_828⟩
    have n5_ : Aside0 (((((w56.setCell ⟨gb828, 0, none⟩ (.int .u64 t824)).setCell ⟨gb828, 1, none⟩ (.int .u64 t825)).setCell ⟨gb828, 2, none⟩ (.int .u64 t826)).setCell ⟨gb828, 3, none⟩ (.int .u64 t827)).heap[gb828]? = some (.cells #[.int .u64 t824, .int .u64 t825, .int .u64 t826, .int .u64 t827] 28 (0, 0))) := ⟨by refine Kv_ ?_; refine blk_put (cs := #[.int .u64 t824, .int .u64 t825, .int .u64 t826, .int .u64 0]) ?_ 3 _ rfl; refine Kv_ ?_; refine blk_put (cs := #[.int .u64 t824, .int .u64 t825, .int .u64 0, .int .u64 0]) ?_ 2 _ rfl; refine Kv_ ?_; refine blk_put (cs := #[.int .u64 t824, .int .u64 0, .int .u64 0, .int .u64 0]) ?_ 1 _ rfl; refine Kv_ ?_; refine blk_put (cs := #[.int .u64 0, .int .u64 0, .int .u64 0, .int .u64 0]) ?_ 0 _ rfl; exact Kq_ BK828⟩
    have n6_ : Aside0 (Below w.heap.size w ((((w56.setCell ⟨gb828, 0, none⟩ (.int .u64 t824)).setCell ⟨gb828, 1, none⟩ (.int .u64 t825)).setCell ⟨gb828, 2, none⟩ (.int .u64 t826)).setCell ⟨gb828, 3, none⟩ (.int .u64 t827))) := ⟨by repeat (first | (with_reducible first | exact HB.out | apply below_alloc | apply pw_below_drewN | apply below_drew1 | refine below_set ?_ GE803.out | refine below_set ?_ GE804.out | refine below_set ?_ GE811.out | refine below_set ?_ GE816.out | refine below_set ?_ GE822.out | refine below_set ?_ GE828.out) | exact HB.out)⟩
    (try clear BK803)
    (try clear BK804)
    (try clear BK811)
    (try clear BK816)
    (try clear BK822)
    (try clear BK828)
    (try clear HB)
    generalize ((((w56.setCell ⟨gb828, 0, none⟩ (.int .u64 t824)).setCell ⟨gb828, 1, none⟩ (.int .u64 t825)).setCell ⟨gb828, 2, none⟩ (.int .u64 t826)).setCell ⟨gb828, 3, none⟩ (.int .u64 t827)) = w61 at n0_ n1_ n2_ n3_ n4_ n5_ n6_ ⊢
    have BK803 := n0_
    have BK804 := n1_
    have BK811 := n2_
    have BK816 := n3_
    have BK822 := n4_
    have BK828 := n5_
    have HB := n6_
    clear n0_ n1_ n2_ n3_ n4_ n5_ n6_
    replace BK803 := Kd_ BK803
    replace BK804 := Kd_ BK804
    replace BK811 := Kd_ BK811
    replace BK816 := Kd_ BK816
    replace BK822 := Kd_ BK822
    replace BK828 := Kd_ BK828
    replace HB := Aside0.mk (below_drew1 HB.out)
    refine start_ (n := 8) (S := fun w' => w'.cell? ⟨gb816, 0, none⟩ = some (.int .u64 t812) ∧ w'.cell? ⟨gb816, 1, none⟩ = some (.int .u64 t813) ∧ w'.cell? ⟨gb816, 2, none⟩ = some (.int .u64 t814) ∧ w'.cell? ⟨gb816, 3, none⟩ = some (.int .u64 t815) ∧ w'.cell? ⟨gb811, 0, none⟩ = some (.int .u64 t806) ∧ w'.cell? ⟨gb811, 1, none⟩ = some (.int .u64 t807) ∧ w'.cell? ⟨gb811, 2, none⟩ = some (.int .u64 t808) ∧ w'.cell? ⟨gb811, 3, none⟩ = some (.int .u64 t809) ∧ w'.cell? ⟨gb811, 4, none⟩ = some (.int .i64 t810)) (ds := []) #[false, false, false, false, false, false, false, false] (by kernel_rfl) rfl rfl ⟨Km_ BK816 0, Km_ BK816 1, Km_ BK816 2, Km_ BK816 3, Km_ BK811 0, Km_ BK811 1, Km_ BK811 2, Km_ BK811 3, Km_ BK811 4⟩ (fun hHeld => ?_); refine with_tabW tenementlaw15_StreamReady_p1.tab10 tenementlaw15_StreamReady_p1.bits10 (fun HT_ HW_ => ?_)
    generalize w61.drew = w62 at BK803 BK804 BK811 BK816 BK822 BK828 HB hHeld ⊢
    refine Kp_ 1 36 #[false, true, false, false, false, false, false, false] (any_of HT_.out (by kernel_rfl)) ?_
    refine Ko_ 0 35 #[true, true, false, false, false, false, false, false] (take_ofW HT_.out HW_.out (by kernel_rfl)) hHeld ?_
    refine Ko_ 2 37 #[true, true, true, false, false, false, false, false] (take_ofW HT_.out HW_.out (by kernel_rfl)) hHeld ?_
    refine Ko_ 4 39 #[true, true, true, false, true, false, false, false] (take_ofW HT_.out HW_.out (by kernel_rfl)) hHeld ?_
    refine one_ (i := 3) (N := some 38) #[true, true, true, true, true, false, false, false] rfl rfl (one_of HT_.out (by kernel_rfl)) (by decide) (fun K hK => ?_)
    refine goes_ Try.func48 (by kernel_rfl) rfl #[.agg #[.int .u64 t812, .int .u64 t813, .int .u64 t814, .int .u64 t815], .int .i64 t810] (by rfl) rfl rfl (by (try simp only [List.map_toArray, List.map_cons, List.map_nil]); first | done | rfl | (simp only [List.length_drop, List.length_take]; rfl)) ?_
    with_reducible refine (vec_At.calls t812 t813 t814 t815 t810 t829 _ A11.out).mono ?_
    rintro e w63 ⟨rfl, hb⟩
    refine ⟨_, rfl, ?_⟩
    replace BK803 := Kb_ BK803 hb
    replace BK804 := Kb_ BK804 hb
    replace BK811 := Kb_ BK811 hb
    replace BK816 := Kb_ BK816 hb
    replace BK822 := Kb_ BK822 hb
    replace BK828 := Kb_ BK828 hb
    replace HB := Ks_ HB hb
    (try clear hb)
    (try clear hb2)
    (try clear hk)
    (try clear hi)
    refine hK.out _ _ ⟨Km_ BK816 0, Km_ BK816 1, Km_ BK816 2, Km_ BK816 3, Km_ BK811 0, Km_ BK811 1, Km_ BK811 2, Km_ BK811 3, Km_ BK811 4⟩ (fun hHeld => ?_)
    clear hK K
    refine Kn_ 38 ?_
    refine one_ (i := 5) (N := some 40) #[true, true, true, true, true, true, false, false] rfl rfl (one_of HT_.out (by kernel_rfl)) (by decide) (fun K hK => ?_)
    refine goes_ Try.func47 (by kernel_rfl) rfl #[.agg #[.int .u64 t806, .int .u64 t807, .int .u64 t808, .int .u64 t809, .int .i64 t810]] (by rfl) rfl rfl (by (try simp only [List.map_toArray, List.map_cons, List.map_nil]); first | done | rfl | (simp only [List.length_drop, List.length_take]; rfl)) ?_
    with_reducible refine (stamp_Stamp_N.calls t806 t807 t808 t809 t810 t830 _ A12.out).mono ?_
    rintro e w64 ⟨rfl, hb⟩
    refine ⟨_, rfl, ?_⟩
    replace BK803 := Kb_ BK803 hb
    replace BK804 := Kb_ BK804 hb
    replace BK811 := Kb_ BK811 hb
    replace BK816 := Kb_ BK816 hb
    replace BK822 := Kb_ BK822 hb
    replace BK828 := Kb_ BK828 hb
    replace HB := Ks_ HB hb
    (try clear hb)
    (try clear hb2)
    (try clear hk)
    (try clear hi)
    refine hK.out _ _ ⟨Km_ BK816 0, Km_ BK816 1, Km_ BK816 2, Km_ BK816 3, Km_ BK811 0, Km_ BK811 1, Km_ BK811 2, Km_ BK811 3, Km_ BK811 4⟩ (fun hHeld => ?_)
    clear hK K
    refine Kn_ 40 ?_
    refine Kp_ 6 41 #[true, true, true, true, true, true, true, false] (any_of HT_.out (by kernel_rfl)) ?_
    refine Kp_ 7 11 #[true, true, true, true, true, true, true, true] (any_of HT_.out (by kernel_rfl)) ?_
    refine done_ (done_of HT_.out (by kernel_rfl)) ?_
    try go_wp2
    replace BK803 := Kd_ BK803
    replace BK804 := Kd_ BK804
    replace BK811 := Kd_ BK811
    replace BK816 := Kd_ BK816
    replace BK822 := Kd_ BK822
    replace BK828 := Kd_ BK828
    replace HB := Aside0.mk (below_drew1 HB.out)
    refine start_ (n := 24) (S := fun w' => w'.cell? ⟨gb816, 0, none⟩ = some (.int .u64 t812) ∧ w'.cell? ⟨gb816, 1, none⟩ = some (.int .u64 t813) ∧ w'.cell? ⟨gb816, 2, none⟩ = some (.int .u64 t814) ∧ w'.cell? ⟨gb816, 3, none⟩ = some (.int .u64 t815) ∧ w'.cell? ⟨gb811, 0, none⟩ = some (.int .u64 t806) ∧ w'.cell? ⟨gb811, 1, none⟩ = some (.int .u64 t807) ∧ w'.cell? ⟨gb811, 2, none⟩ = some (.int .u64 t808) ∧ w'.cell? ⟨gb811, 3, none⟩ = some (.int .u64 t809) ∧ w'.cell? ⟨gb811, 4, none⟩ = some (.int .i64 t810)) (ds := []) #[false, false, false, false, false, false, false, false, false, false, false, false, false, false, false, false, false, false, false, false, false, false, false, false] (by kernel_rfl) rfl rfl ⟨Km_ BK816 0, Km_ BK816 1, Km_ BK816 2, Km_ BK816 3, Km_ BK811 0, Km_ BK811 1, Km_ BK811 2, Km_ BK811 3, Km_ BK811 4⟩ (fun hHeld => ?_); refine with_tabW tenementlaw15_StreamReady_p1.tab11 tenementlaw15_StreamReady_p1.bits11 (fun HT_ HW_ => ?_)
    generalize w64.drew = w65 at BK803 BK804 BK811 BK816 BK822 BK828 HB hHeld ⊢
    refine Kp_ 1 43 #[false, true, false, false, false, false, false, false, false, false, false, false, false, false, false, false, false, false, false, false, false, false, false, false] (any_of HT_.out (by kernel_rfl)) ?_
    refine Ko_ 0 42 #[true, true, false, false, false, false, false, false, false, false, false, false, false, false, false, false, false, false, false, false, false, false, false, false] (take_ofW HT_.out HW_.out (by kernel_rfl)) hHeld ?_
    refine Ko_ 2 44 #[true, true, true, false, false, false, false, false, false, false, false, false, false, false, false, false, false, false, false, false, false, false, false, false] (take_ofW HT_.out HW_.out (by kernel_rfl)) hHeld ?_
    refine Ko_ 4 46 #[true, true, true, false, true, false, false, false, false, false, false, false, false, false, false, false, false, false, false, false, false, false, false, false] (take_ofW HT_.out HW_.out (by kernel_rfl)) hHeld ?_
    refine one_ (i := 3) (N := some 45) #[true, true, true, true, true, false, false, false, false, false, false, false, false, false, false, false, false, false, false, false, false, false, false, false] rfl rfl (one_of HT_.out (by kernel_rfl)) (by decide) (fun K hK => ?_)
    refine goes_ Try.func48 (by kernel_rfl) rfl #[.agg #[.int .u64 t812, .int .u64 t813, .int .u64 t814, .int .u64 t815], .int .i64 t810] (by rfl) rfl rfl (by (try simp only [List.map_toArray, List.map_cons, List.map_nil]); first | done | rfl | (simp only [List.length_drop, List.length_take]; rfl)) ?_
    with_reducible refine (vec_At.calls t812 t813 t814 t815 t810 t831 _ A13.out).mono ?_
    rintro e w66 ⟨rfl, hb⟩
    refine ⟨_, rfl, ?_⟩
    replace BK803 := Kb_ BK803 hb
    replace BK804 := Kb_ BK804 hb
    replace BK811 := Kb_ BK811 hb
    replace BK816 := Kb_ BK816 hb
    replace BK822 := Kb_ BK822 hb
    replace BK828 := Kb_ BK828 hb
    replace HB := Ks_ HB hb
    (try clear hb)
    (try clear hb2)
    (try clear hk)
    (try clear hi)
    refine hK.out _ _ ⟨Km_ BK816 0, Km_ BK816 1, Km_ BK816 2, Km_ BK816 3, Km_ BK811 0, Km_ BK811 1, Km_ BK811 2, Km_ BK811 3, Km_ BK811 4⟩ (fun hHeld => ?_)
    clear hK K
    refine Kn_ 45 ?_
    refine one_ (i := 5) (N := some 47) #[true, true, true, true, true, true, false, false, false, false, false, false, false, false, false, false, false, false, false, false, false, false, false, false] rfl rfl (one_of HT_.out (by kernel_rfl)) (by decide) (fun K hK => ?_)
    refine goes_ Try.func47 (by kernel_rfl) rfl #[.agg #[.int .u64 t806, .int .u64 t807, .int .u64 t808, .int .u64 t809, .int .i64 t810]] (by rfl) rfl rfl (by (try simp only [List.map_toArray, List.map_cons, List.map_nil]); first | done | rfl | (simp only [List.length_drop, List.length_take]; rfl)) ?_
    with_reducible refine (stamp_Stamp_N.calls t806 t807 t808 t809 t810 t832 _ A14.out).mono ?_
    rintro e w67 ⟨rfl, hb⟩
    refine ⟨_, rfl, ?_⟩
    replace BK803 := Kb_ BK803 hb
    replace BK804 := Kb_ BK804 hb
    replace BK811 := Kb_ BK811 hb
    replace BK816 := Kb_ BK816 hb
    replace BK822 := Kb_ BK822 hb
    replace BK828 := Kb_ BK828 hb
    replace HB := Ks_ HB hb
    (try clear hb)
    (try clear hb2)
    (try clear hk)
    (try clear hi)
    refine hK.out _ _ ⟨Km_ BK816 0, Km_ BK816 1, Km_ BK816 2, Km_ BK816 3, Km_ BK811 0, Km_ BK811 1, Km_ BK811 2, Km_ BK811 3, Km_ BK811 4⟩ (fun hHeld => ?_)
    clear hK K
    refine Kn_ 47 ?_
    refine Kp_ 6 48 #[true, true, true, true, true, true, true, false, false, false, false, false, false, false, false, false, false, false, false, false, false, false, false, false] (any_of HT_.out (by kernel_rfl)) ?_
    refine Kp_ 7 49 #[true, true, true, true, true, true, true, true, false, false, false, false, false, false, false, false, false, false, false, false, false, false, false, false] (any_of HT_.out (by kernel_rfl)) ?_
    refine Kp_ 8 50 #[true, true, true, true, true, true, true, true, true, false, false, false, false, false, false, false, false, false, false, false, false, false, false, false] (any_of HT_.out (by kernel_rfl)) ?_
    refine pure_ (i := 9) (N := some 51) (v := undef) (a' := ?_) #[true, true, true, true, true, true, true, true, true, true, false, false, false, false, false, false, false, false, false, false, false, false, false, false] rfl rfl (any_of HT_.out (by kernel_rfl)) (fun _ _ _ h => h) (Or.inr ⟨by rfl, rfl⟩) ?_ ?_
    rotate_left
    · simp only [Act.put, List.setIfInBounds_toArray, List.set_cons_zero, List.set_cons_succ, i64_w, i32_w]
      rfl
    refine pure_ (i := 10) (N := some 52) (v := undef) (a' := ?_) #[true, true, true, true, true, true, true, true, true, true, true, false, false, false, false, false, false, false, false, false, false, false, false, false] rfl rfl (any_of HT_.out (by kernel_rfl)) (fun _ _ _ h => h) (Or.inr ⟨by rfl, rfl⟩) ?_ ?_
    rotate_left
    · simp only [Act.put, List.setIfInBounds_toArray, List.set_cons_zero, List.set_cons_succ, i64_w, i32_w]
      rfl
    refine pure_ (i := 11) (N := some 53) (v := undef) (a' := ?_) #[true, true, true, true, true, true, true, true, true, true, true, true, false, false, false, false, false, false, false, false, false, false, false, false] rfl rfl (any_of HT_.out (by kernel_rfl)) (fun _ _ _ h => h) (Or.inr ⟨by rfl, rfl⟩) ?_ ?_
    rotate_left
    · simp only [Act.put, List.setIfInBounds_toArray, List.set_cons_zero, List.set_cons_succ, i64_w, i32_w]
      rfl
    refine pure_ (i := 12) (N := some 54) (v := undef) (a' := ?_) #[true, true, true, true, true, true, true, true, true, true, true, true, true, false, false, false, false, false, false, false, false, false, false, false] rfl rfl (any_of HT_.out (by kernel_rfl)) (fun _ _ _ h => h) (Or.inr ⟨by rfl, rfl⟩) ?_ ?_
    rotate_left
    · simp only [Act.put, List.setIfInBounds_toArray, List.set_cons_zero, List.set_cons_succ, i64_w, i32_w]
      rfl
    refine Kp_ 13 55 #[true, true, true, true, true, true, true, true, true, true, true, true, true, true, false, false, false, false, false, false, false, false, false, false] (any_of HT_.out (by kernel_rfl)) ?_
    refine Kp_ 14 56 #[true, true, true, true, true, true, true, true, true, true, true, true, true, true, true, false, false, false, false, false, false, false, false, false] (any_of HT_.out (by kernel_rfl)) ?_
    refine pure_ (i := 15) (N := some 57) (v := undef) (a' := ?_) #[true, true, true, true, true, true, true, true, true, true, true, true, true, true, true, true, false, false, false, false, false, false, false, false] rfl rfl (any_of HT_.out (by kernel_rfl)) (fun _ _ _ h => h) (Or.inr ⟨by rfl, rfl⟩) ?_ ?_
    rotate_left
    · simp only [Act.put, List.setIfInBounds_toArray, List.set_cons_zero, List.set_cons_succ, i64_w, i32_w]
      rfl
    refine pure_ (i := 16) (N := some 58) (v := undef) (a' := ?_) #[true, true, true, true, true, true, true, true, true, true, true, true, true, true, true, true, true, false, false, false, false, false, false, false] rfl rfl (any_of HT_.out (by kernel_rfl)) (fun _ _ _ h => h) (Or.inr ⟨by rfl, rfl⟩) ?_ ?_
    rotate_left
    · simp only [Act.put, List.setIfInBounds_toArray, List.set_cons_zero, List.set_cons_succ, i64_w, i32_w]
      rfl
    refine pure_ (i := 17) (N := some 59) (v := undef) (a' := ?_) #[true, true, true, true, true, true, true, true, true, true, true, true, true, true, true, true, true, true, false, false, false, false, false, false] rfl rfl (any_of HT_.out (by kernel_rfl)) (fun _ _ _ h => h) (Or.inr ⟨by rfl, rfl⟩) ?_ ?_
    rotate_left
    · simp only [Act.put, List.setIfInBounds_toArray, List.set_cons_zero, List.set_cons_succ, i64_w, i32_w]
      rfl
    refine pure_ (i := 18) (N := some 60) (v := undef) (a' := ?_) #[true, true, true, true, true, true, true, true, true, true, true, true, true, true, true, true, true, true, true, false, false, false, false, false] rfl rfl (any_of HT_.out (by kernel_rfl)) (fun _ _ _ h => h) (Or.inr ⟨by rfl, rfl⟩) ?_ ?_
    rotate_left
    · simp only [Act.put, List.setIfInBounds_toArray, List.set_cons_zero, List.set_cons_succ, i64_w, i32_w]
      rfl
    refine pure_ (i := 19) (N := some 61) (v := undef) (a' := ?_) #[true, true, true, true, true, true, true, true, true, true, true, true, true, true, true, true, true, true, true, true, false, false, false, false] rfl rfl (any_of HT_.out (by kernel_rfl)) (fun _ _ _ h => h) (Or.inr ⟨by rfl, rfl⟩) ?_ ?_
    rotate_left
    · simp only [Act.put, List.setIfInBounds_toArray, List.set_cons_zero, List.set_cons_succ, i64_w, i32_w]
      rfl
    refine pure_ (i := 20) (N := some 62) (v := undef) (a' := ?_) #[true, true, true, true, true, true, true, true, true, true, true, true, true, true, true, true, true, true, true, true, true, false, false, false] rfl rfl (any_of HT_.out (by kernel_rfl)) (fun _ _ _ h => h) (Or.inr ⟨by rfl, rfl⟩) ?_ ?_
    rotate_left
    · simp only [Act.put, List.setIfInBounds_toArray, List.set_cons_zero, List.set_cons_succ, i64_w, i32_w]
      rfl
    refine pure_ (i := 21) (N := some 63) (v := undef) (a' := ?_) #[true, true, true, true, true, true, true, true, true, true, true, true, true, true, true, true, true, true, true, true, true, true, false, false] rfl rfl (any_of HT_.out (by kernel_rfl)) (fun _ _ _ h => h) (Or.inr ⟨by rfl, rfl⟩) ?_ ?_
    rotate_left
    · simp only [Act.put, List.setIfInBounds_toArray, List.set_cons_zero, List.set_cons_succ, i64_w, i32_w]
      rfl
    refine Kp_ 22 64 #[true, true, true, true, true, true, true, true, true, true, true, true, true, true, true, true, true, true, true, true, true, true, true, false] (any_of HT_.out (by kernel_rfl)) ?_
    refine Kp_ 23 12 #[true, true, true, true, true, true, true, true, true, true, true, true, true, true, true, true, true, true, true, true, true, true, true, true] (any_of HT_.out (by kernel_rfl)) ?_
    refine done_ (done_of HT_.out (by kernel_rfl)) ?_
    have hnb68 := NB822_828.out
    have hnc68 := NB828_822.out
    obtain ⟨hcz69_0, hcz69_1, hcz69_2, hcz69_3, hfz69_0, hfz69_1, hfz69_2, hfz69_3⟩ := Ke4_ BK822.out
    have hnb70 := NB811_828.out
    have hnc70 := NB828_811.out
    obtain ⟨hcz71_0, hcz71_1, hcz71_2, hcz71_3, hcz71_4, hfz71_0, hfz71_1, hfz71_2, hfz71_3, hfz71_4⟩ := Ke5_ BK811.out
    try go_wp2_with (first | (go_at_call 30; (with_reducible refine (stream_Ready.calls t818 t819 t820 t821 t806 t807 t808 t809 t810 t851 _ A19.out).mono ?_); rintro e w72 ⟨rfl, hb⟩; replace BK803 := Kb_ BK803 hb; replace BK804 := Kb_ BK804 hb; replace BK811 := Kb_ BK811 hb; replace BK816 := Kb_ BK816 hb; replace BK822 := Kb_ BK822 hb; replace BK828 := Kb_ BK828 hb; replace HB := Ks_ HB hb; (try clear hb); (try clear hb2); (try clear hk); (try clear hi); have hnb73 := NB828_803.out; have hnc73 := NB803_828.out; have hnb74 := NB828_804.out; have hnc74 := NB804_828.out; have hnb75 := NB828_816.out; have hnc75 := NB816_828.out; obtain ⟨hcz76_0, hcz76_1, hcz76_2, hcz76_3, hfz76_0, hfz76_1, hfz76_2, hfz76_3⟩ := Ke4_ BK828.out; obtain ⟨hcz77_0, hcz77_1, hcz77_2, hcz77_3, hcz77_4, hfz77_0, hfz77_1, hfz77_2, hfz77_3, hfz77_4⟩ := Ke5_ BK811.out) | (go_at_call 30; (with_reducible refine (stream_Ready.calls t824 t825 t826 t827 t806 t807 t808 t809 t810 t852 _ A21.out).mono ?_); rintro e w78 ⟨rfl, hb⟩; replace BK803 := Kb_ BK803 hb; replace BK804 := Kb_ BK804 hb; replace BK811 := Kb_ BK811 hb; replace BK816 := Kb_ BK816 hb; replace BK822 := Kb_ BK822 hb; replace BK828 := Kb_ BK828 hb; replace HB := Ks_ HB hb; (try clear hb); (try clear hb2); (try clear hk); (try clear hi)))
    go_ret
    exact ⟨Kh_, by repeat (first | (with_reducible first | exact HB.out | apply below_alloc | apply pw_below_drewN | apply below_drew1 | refine below_set ?_ GE803.out | refine below_set ?_ GE804.out | refine below_set ?_ GE811.out | refine below_set ?_ GE816.out | refine below_set ?_ GE822.out | refine below_set ?_ GE828.out) | exact HB.out)⟩
  rw [if_neg c16] at H
  have c16b0 : (t817 == (-1)) = false := beq_eq_false_iff_ne.mpr c16
  have c16b1 : (t817 != (-1)) = true := bne_iff_ne.mpr c16
  by_cases c79 : t829 ≥ t830
  · rw [if_pos c79] at H
    exact absurd H (by simp)
  rw [if_neg c79] at H
  have c79b0 : decide (t830 ≤ t829) = false := decide_eq_false c79
  clear c79
  by_cases c80 : t817 = 1
  · rw [if_pos c80] at H
    exact absurd H (by simp)
  rw [if_neg c80] at H
  have c80b0 : (t817 == 1) = false := beq_eq_false_iff_ne.mpr c80
  have c80b1 : (t817 != 1) = true := bne_iff_ne.mpr c80
  replace H := Option.bind_eq_some_iff.mp H
  obtain ⟨t853, A810, H⟩ := H
  replace H : (if t853 = (-1) then ((stream_Ready.f t824 t825 t826 t827 t806 t807 t808 t809 t810).bind fun t854 => (if t854 = 1 then (some true) else (none))) else (none)) = some r := H
  have A81 := Aside0.mk A810
  clear A810
  by_cases c82 : t853 = (-1)
  rotate_left
  · rw [if_neg c82] at H
    exact absurd H (by simp)
  rw [if_pos c82] at H
  have c82b0 : (t853 == (-1)) = true := beq_iff_eq.mpr c82
  have c82b1 : (t853 != (-1)) = false := bne_eq_false_iff_eq.mpr c82
  clear c82
  replace H := Option.bind_eq_some_iff.mp H
  obtain ⟨t854, A830, H⟩ := H
  replace H : (if t854 = 1 then (some true) else (none)) = some r := H
  have A83 := Aside0.mk A830
  clear A830
  by_cases c84 : t854 = 1
  rotate_left
  · rw [if_neg c84] at H
    exact absurd H (by simp)
  rw [if_pos c84] at H
  have c84b0 : (t854 == 1) = true := beq_iff_eq.mpr c84
  have c84b1 : (t854 != 1) = false := bne_eq_false_iff_eq.mpr c84
  clear c84
  obtain rfl := Option.some.inj H
  go_enter Try.func7, Try.ntmps7
  try go_wp2_with (first | ((with_reducible refine gate_dst (N := 2) rfl ?_); refine Ka_ 2 #[.int .u64 a0_0, .int .u64 a0_1, .int .u64 a0_2, .int .u64 a0_3, .int .i64 a0_4, .bool a0_5] 39 ?_; intro gb803 hg w85 hbox hb; have BK803 := Aside0.mk (hbox); have GW803 := Kw_ HB hg; have GE803 := GW803; replace HB := Ks_ HB hb; clear hb hbox hg) | ((with_reducible refine gate_dst (N := 3) rfl ?_); refine Ka_ 3 #[.int .u64 a1_0, .int .u64 a1_1, .int .u64 a1_2, .int .u64 a1_3, .bool a1_4] 63 ?_; intro gb804 hg w86 hbox hb; have BK804 := Aside0.mk (hbox); have GW804 := Kw_ HB hg; have GE804 := GW804; have NB803_804 := Kl_ BK803 hg; have NB804_803 := Kr_ BK803 hg; replace BK803 := Kb_ BK803 hb; replace HB := Ks_ HB hb; clear hb hbox hg) | ((with_reducible refine gate_callee (f := 11) rfl ?_); refine Kg_ (some 13) rfl rfl Try.func11 (by kernel_rfl) rfl #[] rfl ?_; (with_reducible refine (tenementlaw15_examples.calls  true _ A3.out).mono ?_); rintro e w87 ⟨rfl, hb⟩; refine ⟨_, rfl, ?_⟩; replace BK803 := Kb_ BK803 hb; replace BK804 := Kb_ BK804 hb; replace HB := Ks_ HB hb; (try clear hb); (try clear hb2); (try clear hk); (try clear hi); have hnb88 := NB803_804.out; have hnc88 := NB804_803.out; obtain ⟨hcz89_0, hcz89_1, hcz89_2, hcz89_3, hcz89_4, hcz89_5, hfz89_0, hfz89_1, hfz89_2, hfz89_3, hfz89_4, hfz89_5⟩ := Ke6_ BK803.out) | ((with_reducible refine gate_callee (f := 25) rfl ?_); refine Kg_ (some 18) rfl rfl Try.func25 (by kernel_rfl) rfl #[.agg #[.int .u64 a0_0, .int .u64 a0_1, .int .u64 a0_2, .int .u64 a0_3, .int .i64 a0_4, .bool true]] rfl ?_; (with_reducible refine (tenementlaw15_Mark_mark.calls k a0_0 a0_1 a0_2 a0_3 a0_4 true t806 t807 t808 t809 t810 _ A5.out).mono ?_); rintro e w90 ⟨rfl, hb⟩; refine ⟨_, rfl, ?_⟩; replace BK803 := Aside0.mk (blk_below (g := gb803) (o := .cells #[.int .u64 a0_0, .int .u64 a0_1, .int .u64 a0_2, .int .u64 a0_3, .int .i64 a0_4, .bool true] 39 (0, 0)) (by refine Kv_ ?_; refine blk_put (cs := #[.int .u64 a0_0, .int .u64 a0_1, .int .u64 a0_2, .int .u64 a0_3, .int .i64 a0_4, .bool a0_5]) ?_ 5 _ rfl; exact Kq_ BK803) hb); replace BK804 := Kf_ BK804 NB804_803 hb; replace HB := Kt_ HB GE803 hb; (try clear hb); (try clear hb2); (try clear hk); (try clear hi)) | ((with_reducible refine gate_dst (N := 6) rfl ?_); refine Ka_ 6 #[.int .u64 0, .int .u64 0, .int .u64 0, .int .u64 0, .int .i64 0] 30 ?_; intro gb811 hg w91 hbox hb; have BK811 := Aside0.mk (hbox); have GW811 := Kw_ HB hg; have GE811 := GW811; have NB803_811 := Kl_ BK803 hg; have NB811_803 := Kr_ BK803 hg; have NB804_811 := Kl_ BK804 hg; have NB811_804 := Kr_ BK804 hg; replace BK803 := Kb_ BK803 hb; replace BK804 := Kb_ BK804 hb; replace HB := Ks_ HB hb; clear hb hbox hg; have hnb92 := NB811_803.out; have hnc92 := NB803_811.out; have hnb93 := NB811_804.out; have hnc93 := NB804_811.out; obtain ⟨hcz94_0, hcz94_1, hcz94_2, hcz94_3, hcz94_4, hfz94_0, hfz94_1, hfz94_2, hfz94_3, hfz94_4⟩ := Ke5_ BK811.out; obtain ⟨hcz95_0, hcz95_1, hcz95_2, hcz95_3, hcz95_4, hfz95_0, hfz95_1, hfz95_2, hfz95_3, hfz95_4⟩ := Ke5_ BK804.out) | ((with_reducible refine gate_callee (f := 24) rfl ?_); refine Kg_ (some 20) rfl rfl Try.func24 (by kernel_rfl) rfl #[.agg #[.int .u64 a1_0, .int .u64 a1_1, .int .u64 a1_2, .int .u64 a1_3, .bool a1_4]] rfl ?_; (with_reducible refine (tenementlaw15_Vector_vector.calls k a1_0 a1_1 a1_2 a1_3 a1_4 t812 t813 t814 t815 _ A6.out).mono ?_); rintro e w96 ⟨rfl, hb⟩; refine ⟨_, rfl, ?_⟩; replace BK803 := Kf_ BK803 NB803_811 hb; replace BK804 := Kf_ BK804 NB804_811 hb; replace BK811 := Aside0.mk (blk_below (g := gb811) (o := .cells #[.int .u64 t806, .int .u64 t807, .int .u64 t808, .int .u64 t809, .int .i64 t810] 30 (0, 0)) (by refine Kv_ ?_; refine blk_put (cs := #[.int .u64 t806, .int .u64 t807, .int .u64 t808, .int .u64 t809, .int .i64 0]) ?_ 4 _ rfl; refine Kv_ ?_; refine blk_put (cs := #[.int .u64 t806, .int .u64 t807, .int .u64 t808, .int .u64 0, .int .i64 0]) ?_ 3 _ rfl; refine Kv_ ?_; refine blk_put (cs := #[.int .u64 t806, .int .u64 t807, .int .u64 0, .int .u64 0, .int .i64 0]) ?_ 2 _ rfl; refine Kv_ ?_; refine blk_put (cs := #[.int .u64 t806, .int .u64 0, .int .u64 0, .int .u64 0, .int .i64 0]) ?_ 1 _ rfl; refine Kv_ ?_; refine blk_put (cs := #[.int .u64 0, .int .u64 0, .int .u64 0, .int .u64 0, .int .i64 0]) ?_ 0 _ rfl; exact Kq_ BK811) hb); replace HB := Kt_ HB GE811 hb; (try clear hb); (try clear hb2); (try clear hk); (try clear hi)) | ((with_reducible refine gate_dst (N := 7) rfl ?_); refine Ka_ 7 #[.int .u64 0, .int .u64 0, .int .u64 0, .int .u64 0] 28 ?_; intro gb816 hg w97 hbox hb; have BK816 := Aside0.mk (hbox); have GW816 := Kw_ HB hg; have GE816 := GW816; have NB803_816 := Kl_ BK803 hg; have NB816_803 := Kr_ BK803 hg; have NB804_816 := Kl_ BK804 hg; have NB816_804 := Kr_ BK804 hg; have NB811_816 := Kl_ BK811 hg; have NB816_811 := Kr_ BK811 hg; replace BK803 := Kb_ BK803 hb; replace BK804 := Kb_ BK804 hb; replace BK811 := Kb_ BK811 hb; replace HB := Ks_ HB hb; clear hb hbox hg; have hnb98 := NB816_803.out; have hnc98 := NB803_816.out; have hnb99 := NB816_804.out; have hnc99 := NB804_816.out; have hnb100 := NB816_811.out; have hnc100 := NB811_816.out; obtain ⟨hcz101_0, hcz101_1, hcz101_2, hcz101_3, hfz101_0, hfz101_1, hfz101_2, hfz101_3⟩ := Ke4_ BK816.out; obtain ⟨hcz102_0, hcz102_1, hcz102_2, hcz102_3, hcz102_4, hfz102_0, hfz102_1, hfz102_2, hfz102_3, hfz102_4⟩ := Ke5_ BK811.out) | ((with_reducible refine gate_callee (f := 30) rfl ?_); refine Kg_ (some 23) rfl rfl Try.func30 (by kernel_rfl) rfl #[.agg #[.int .u64 t812, .int .u64 t813, .int .u64 t814, .int .u64 t815], .agg #[.int .u64 t806, .int .u64 t807, .int .u64 t808, .int .u64 t809, .int .i64 t810]] rfl ?_; (with_reducible refine (stream_Ready.calls t812 t813 t814 t815 t806 t807 t808 t809 t810 t817 _ A7.out).mono ?_); rintro e w103 ⟨rfl, hb⟩; refine ⟨_, rfl, ?_⟩; replace BK803 := Kf_ BK803 NB803_816 hb; replace BK804 := Kf_ BK804 NB804_816 hb; replace BK811 := Kf_ BK811 NB811_816 hb; replace BK816 := Aside0.mk (blk_below (g := gb816) (o := .cells #[.int .u64 t812, .int .u64 t813, .int .u64 t814, .int .u64 t815] 28 (0, 0)) (by refine Kv_ ?_; refine blk_put (cs := #[.int .u64 t812, .int .u64 t813, .int .u64 t814, .int .u64 0]) ?_ 3 _ rfl; refine Kv_ ?_; refine blk_put (cs := #[.int .u64 t812, .int .u64 t813, .int .u64 0, .int .u64 0]) ?_ 2 _ rfl; refine Kv_ ?_; refine blk_put (cs := #[.int .u64 t812, .int .u64 0, .int .u64 0, .int .u64 0]) ?_ 1 _ rfl; refine Kv_ ?_; refine blk_put (cs := #[.int .u64 0, .int .u64 0, .int .u64 0, .int .u64 0]) ?_ 0 _ rfl; exact Kq_ BK816) hb); replace HB := Kt_ HB GE816 hb; (try clear hb); (try clear hb2); (try clear hk); (try clear hi); obtain ⟨hcz104_0, hcz104_1, hcz104_2, hcz104_3, hfz104_0, hfz104_1, hfz104_2, hfz104_3⟩ := Ke4_ BK816.out; obtain ⟨hcz105_0, hcz105_1, hcz105_2, hcz105_3, hcz105_4, hfz105_0, hfz105_1, hfz105_2, hfz105_3, hfz105_4⟩ := Ke5_ BK811.out) | ((with_reducible refine gate_callee (f := 45) rfl ?_); refine Kg_ (some 27) rfl rfl Try.func45 (by kernel_rfl) rfl #[.agg #[.int .u64 t812, .int .u64 t813, .int .u64 t814, .int .u64 t815], .agg #[.int .u64 t806, .int .u64 t807, .int .u64 t808, .int .u64 t809]] rfl ?_; (with_reducible refine (vec_Join.calls t812 t813 t814 t815 t806 t807 t808 t809 t818 t819 t820 t821 _ A8.out).mono ?_); rintro e w106 ⟨rfl, hb⟩; refine ⟨_, rfl, ?_⟩; replace BK803 := Kb_ BK803 hb; replace BK804 := Kb_ BK804 hb; replace BK811 := Kb_ BK811 hb; replace BK816 := Kb_ BK816 hb; replace HB := Ks_ HB hb; (try clear hb); (try clear hb2); (try clear hk); (try clear hi)) | ((with_reducible refine gate_dst (N := 9) rfl ?_); refine Ka_ 9 #[.int .u64 0, .int .u64 0, .int .u64 0, .int .u64 0] 28 ?_; intro gb822 hg w107 hbox hb; have BK822 := Aside0.mk (hbox); have GW822 := Kw_ HB hg; have GE822 := GW822; have NB803_822 := Kl_ BK803 hg; have NB822_803 := Kr_ BK803 hg; have NB804_822 := Kl_ BK804 hg; have NB822_804 := Kr_ BK804 hg; have NB811_822 := Kl_ BK811 hg; have NB822_811 := Kr_ BK811 hg; have NB816_822 := Kl_ BK816 hg; have NB822_816 := Kr_ BK816 hg; replace BK803 := Kb_ BK803 hb; replace BK804 := Kb_ BK804 hb; replace BK811 := Kb_ BK811 hb; replace BK816 := Kb_ BK816 hb; replace HB := Ks_ HB hb; clear hb hbox hg; have hnb108 := NB822_803.out; have hnc108 := NB803_822.out; have hnb109 := NB822_804.out; have hnc109 := NB804_822.out; have hnb110 := NB822_811.out; have hnc110 := NB811_822.out; have hnb111 := NB822_816.out; have hnc111 := NB816_822.out; obtain ⟨hcz112_0, hcz112_1, hcz112_2, hcz112_3, hfz112_0, hfz112_1, hfz112_2, hfz112_3⟩ := Ke4_ BK822.out))
  have n0_ : Aside0 (((((w107.setCell ⟨gb822, 0, none⟩ (.int .u64 t818)).setCell ⟨gb822, 1, none⟩ (.int .u64 t819)).setCell ⟨gb822, 2, none⟩ (.int .u64 t820)).setCell ⟨gb822, 3, none⟩ (.int .u64 t821)).heap[gb803]? = some (.cells #[.int .u64 a0_0, .int .u64 a0_1, .int .u64 a0_2, .int .u64 a0_3, .int .i64 a0_4, .bool true] 39 (0, 0))) := ⟨by exact K1b_ BK803 NB803_822⟩
  have n1_ : Aside0 (((((w107.setCell ⟨gb822, 0, none⟩ (.int .u64 t818)).setCell ⟨gb822, 1, none⟩ (.int .u64 t819)).setCell ⟨gb822, 2, none⟩ (.int .u64 t820)).setCell ⟨gb822, 3, none⟩ (.int .u64 t821)).heap[gb804]? = some (.cells #[.int .u64 a1_0, .int .u64 a1_1, .int .u64 a1_2, .int .u64 a1_3, .bool a1_4] 63 (0, 0))) := ⟨by exact K1b_ BK804 NB804_822⟩
  have n2_ : Aside0 (((((w107.setCell ⟨gb822, 0, none⟩ (.int .u64 t818)).setCell ⟨gb822, 1, none⟩ (.int .u64 t819)).setCell ⟨gb822, 2, none⟩ (.int .u64 t820)).setCell ⟨gb822, 3, none⟩ (.int .u64 t821)).heap[gb811]? = some (.cells #[.int .u64 t806, .int .u64 t807, .int .u64 t808, .int .u64 t809, .int .i64 t810] 30 (0, 0))) := ⟨by exact K1b_ BK811 NB811_822⟩
  have n3_ : Aside0 (((((w107.setCell ⟨gb822, 0, none⟩ (.int .u64 t818)).setCell ⟨gb822, 1, none⟩ (.int .u64 t819)).setCell ⟨gb822, 2, none⟩ (.int .u64 t820)).setCell ⟨gb822, 3, none⟩ (.int .u64 t821)).heap[gb816]? = some (.cells #[.int .u64 t812, .int .u64 t813, .int .u64 t814, .int .u64 t815] 28 (0, 0))) := ⟨by exact K1b_ BK816 NB816_822⟩
  have n4_ : Aside0 (((((w107.setCell ⟨gb822, 0, none⟩ (.int .u64 t818)).setCell ⟨gb822, 1, none⟩ (.int .u64 t819)).setCell ⟨gb822, 2, none⟩ (.int .u64 t820)).setCell ⟨gb822, 3, none⟩ (.int .u64 t821)).heap[gb822]? = some (.cells #[.int .u64 t818, .int .u64 t819, .int .u64 t820, .int .u64 t821] 28 (0, 0))) := ⟨by refine Kv_ ?_; refine blk_put (cs := #[.int .u64 t818, .int .u64 t819, .int .u64 t820, .int .u64 0]) ?_ 3 _ rfl; refine Kv_ ?_; refine blk_put (cs := #[.int .u64 t818, .int .u64 t819, .int .u64 0, .int .u64 0]) ?_ 2 _ rfl; refine Kv_ ?_; refine blk_put (cs := #[.int .u64 t818, .int .u64 0, .int .u64 0, .int .u64 0]) ?_ 1 _ rfl; refine Kv_ ?_; refine blk_put (cs := #[.int .u64 0, .int .u64 0, .int .u64 0, .int .u64 0]) ?_ 0 _ rfl; exact Kq_ BK822⟩
  have n5_ : Aside0 (Below w.heap.size w ((((w107.setCell ⟨gb822, 0, none⟩ (.int .u64 t818)).setCell ⟨gb822, 1, none⟩ (.int .u64 t819)).setCell ⟨gb822, 2, none⟩ (.int .u64 t820)).setCell ⟨gb822, 3, none⟩ (.int .u64 t821))) := ⟨by repeat (first | (with_reducible first | exact HB.out | apply below_alloc | apply pw_below_drewN | apply below_drew1 | refine below_set ?_ GE803.out | refine below_set ?_ GE804.out | refine below_set ?_ GE811.out | refine below_set ?_ GE816.out | refine below_set ?_ GE822.out) | exact HB.out)⟩
  (try clear BK803)
  (try clear BK804)
  (try clear BK811)
  (try clear BK816)
  (try clear BK822)
  (try clear HB)
  generalize ((((w107.setCell ⟨gb822, 0, none⟩ (.int .u64 t818)).setCell ⟨gb822, 1, none⟩ (.int .u64 t819)).setCell ⟨gb822, 2, none⟩ (.int .u64 t820)).setCell ⟨gb822, 3, none⟩ (.int .u64 t821)) = w113 at n0_ n1_ n2_ n3_ n4_ n5_ ⊢
  have BK803 := n0_
  have BK804 := n1_
  have BK811 := n2_
  have BK816 := n3_
  have BK822 := n4_
  have HB := n5_
  clear n0_ n1_ n2_ n3_ n4_ n5_
  replace BK803 := Kd_ BK803
  replace BK804 := Kd_ BK804
  replace BK811 := Kd_ BK811
  replace BK816 := Kd_ BK816
  replace BK822 := Kd_ BK822
  replace HB := Aside0.mk (below_drew1 HB.out)
  refine start_ (n := 9) (S := fun w' => w'.cell? ⟨gb822, 0, none⟩ = some (.int .u64 t818) ∧ w'.cell? ⟨gb822, 1, none⟩ = some (.int .u64 t819) ∧ w'.cell? ⟨gb822, 2, none⟩ = some (.int .u64 t820) ∧ w'.cell? ⟨gb822, 3, none⟩ = some (.int .u64 t821) ∧ w'.cell? ⟨gb811, 0, none⟩ = some (.int .u64 t806) ∧ w'.cell? ⟨gb811, 1, none⟩ = some (.int .u64 t807) ∧ w'.cell? ⟨gb811, 2, none⟩ = some (.int .u64 t808) ∧ w'.cell? ⟨gb811, 3, none⟩ = some (.int .u64 t809) ∧ w'.cell? ⟨gb811, 4, none⟩ = some (.int .i64 t810)) (ds := []) #[false, false, false, false, false, false, false, false, false] (by kernel_rfl) rfl rfl ⟨Km_ BK822 0, Km_ BK822 1, Km_ BK822 2, Km_ BK822 3, Km_ BK811 0, Km_ BK811 1, Km_ BK811 2, Km_ BK811 3, Km_ BK811 4⟩ (fun hHeld => ?_); refine with_tabW tenementlaw15_StreamReady_p1.tab9 tenementlaw15_StreamReady_p1.bits9 (fun HT_ HW_ => ?_)
  generalize w113.drew = w114 at BK803 BK804 BK811 BK816 BK822 HB hHeld ⊢
  refine Kp_ 1 29 #[false, true, false, false, false, false, false, false, false] (any_of HT_.out (by kernel_rfl)) ?_
  refine Ko_ 0 28 #[true, true, false, false, false, false, false, false, false] (take_ofW HT_.out HW_.out (by kernel_rfl)) hHeld ?_
  refine Ko_ 2 30 #[true, true, true, false, false, false, false, false, false] (take_ofW HT_.out HW_.out (by kernel_rfl)) hHeld ?_
  refine Ko_ 3 31 #[true, true, true, true, false, false, false, false, false] (take_ofW HT_.out HW_.out (by kernel_rfl)) hHeld ?_
  refine join_ (σ := Nat) 1 #[true, true, true, true, true, true, true, true, false] (fun s_ => [(32, .int .u64 t823), (34, .agg #[.int .u64 t824, .int .u64 t825, .int .u64 t826, .int .u64 t827]), (10, .pointer (some ⟨s_, 0, none⟩)), (33, .int .u64 (IntKind.u64.wrap (t823 - 1)))]) (fun s_ w' => (w'.cell? ⟨gb822, 0, none⟩ = some (.int .u64 t818) ∧ w'.cell? ⟨gb822, 1, none⟩ = some (.int .u64 t819) ∧ w'.cell? ⟨gb822, 2, none⟩ = some (.int .u64 t820) ∧ w'.cell? ⟨gb822, 3, none⟩ = some (.int .u64 t821) ∧ w'.cell? ⟨gb811, 0, none⟩ = some (.int .u64 t806) ∧ w'.cell? ⟨gb811, 1, none⟩ = some (.int .u64 t807) ∧ w'.cell? ⟨gb811, 2, none⟩ = some (.int .u64 t808) ∧ w'.cell? ⟨gb811, 3, none⟩ = some (.int .u64 t809) ∧ w'.cell? ⟨gb811, 4, none⟩ = some (.int .i64 t810)) ∧ (w'.heap[gb803]? = some (.cells #[.int .u64 a0_0, .int .u64 a0_1, .int .u64 a0_2, .int .u64 a0_3, .int .i64 a0_4, .bool true] 39 (0, 0))) ∧ (w'.heap[gb804]? = some (.cells #[.int .u64 a1_0, .int .u64 a1_1, .int .u64 a1_2, .int .u64 a1_3, .bool a1_4] 63 (0, 0))) ∧ (w'.heap[gb811]? = some (.cells #[.int .u64 t806, .int .u64 t807, .int .u64 t808, .int .u64 t809, .int .i64 t810] 30 (0, 0))) ∧ (w'.heap[gb816]? = some (.cells #[.int .u64 t812, .int .u64 t813, .int .u64 t814, .int .u64 t815] 28 (0, 0))) ∧ (w'.heap[gb822]? = some (.cells #[.int .u64 t818, .int .u64 t819, .int .u64 t820, .int .u64 t821] 28 (0, 0))) ∧ (w'.heap[s_]? = some (.cells #[.int .u64 0, .int .u64 0, .int .u64 0, .int .u64 0] 28 (0, 0))) ∧ (w.heap.size ≤ s_) ∧ (w.heap.size ≤ s_) ∧ (gb803 ≠ s_) ∧ (s_ ≠ gb803) ∧ (gb804 ≠ s_) ∧ (s_ ≠ gb804) ∧ (gb811 ≠ s_) ∧ (s_ ≠ gb811) ∧ (gb816 ≠ s_) ∧ (s_ ≠ gb816) ∧ (gb822 ≠ s_) ∧ (s_ ≠ gb822) ∧ (Below w.heap.size w w')) ?_ ?_
  rotate_left
  · intro hCont
    refine two_ (i := 4) (j := 7) (Ni := some 32) (Nj := some 10) #[true, true, true, true, true, false, false, false, false] #[true, true, true, true, false, false, false, true, false] rfl rfl rfl rfl (two_of HT_.out (by kernel_rfl)) (by decide) (by decide) (fun K hK => ?_) (fun K hK => ?_)
    · skip
      refine goes_ Try.func47 (by kernel_rfl) rfl #[.agg #[.int .u64 t806, .int .u64 t807, .int .u64 t808, .int .u64 t809, .int .i64 t810]] (by rfl) rfl rfl (by (try simp only [List.map_toArray, List.map_cons, List.map_nil]); first | done | rfl | (simp only [List.length_drop, List.length_take]; rfl)) ?_
      with_reducible refine (stamp_Stamp_N.calls t806 t807 t808 t809 t810 t823 _ A9.out).mono ?_
      rintro e w115 ⟨rfl, hb⟩
      refine ⟨_, rfl, ?_⟩
      replace BK803 := Kb_ BK803 hb
      replace BK804 := Kb_ BK804 hb
      replace BK811 := Kb_ BK811 hb
      replace BK816 := Kb_ BK816 hb
      replace BK822 := Kb_ BK822 hb
      replace HB := Ks_ HB hb
      (try clear hb)
      (try clear hb2)
      (try clear hk)
      (try clear hi)
      refine hK.out _ _ ⟨Km_ BK822 0, Km_ BK822 1, Km_ BK822 2, Km_ BK822 3, Km_ BK811 0, Km_ BK811 1, Km_ BK811 2, Km_ BK811 3, Km_ BK811 4⟩ (fun hHeld => ?_)
      clear hK K
      refine Kn_ 32 ?_
      refine Kp_ 5 33 #[true, true, true, true, true, true, false, false, false] (any_of HT_.out (by kernel_rfl)) ?_
      refine two_ (i := 6) (j := 7) (Ni := some 34) (Nj := some 10) #[true, true, true, true, true, true, true, false, false] #[true, true, true, true, true, true, false, true, false] rfl rfl rfl rfl (two_of HT_.out (by kernel_rfl)) (by decide) (by decide) (fun K hK => ?_) (fun K hK => ?_)
      · skip
        refine goes_ Try.func46 (by kernel_rfl) rfl #[.agg #[.int .u64 t818, .int .u64 t819, .int .u64 t820, .int .u64 t821], .int .i64 t810, .int .u64 (IntKind.u64.wrap (t823 - 1))] (by rfl) rfl rfl (by (try simp only [List.map_toArray, List.map_cons, List.map_nil]); first | done | rfl | (simp only [List.length_drop, List.length_take]; rfl)) ?_
        with_reducible refine (vec_With.calls t818 t819 t820 t821 t810 (IntKind.u64.wrap (t823 - 1)) t824 t825 t826 t827 _ A10.out).mono ?_
        rintro e w116 ⟨rfl, hb⟩
        refine ⟨_, rfl, ?_⟩
        replace BK803 := Kb_ BK803 hb
        replace BK804 := Kb_ BK804 hb
        replace BK811 := Kb_ BK811 hb
        replace BK816 := Kb_ BK816 hb
        replace BK822 := Kb_ BK822 hb
        replace HB := Ks_ HB hb
        (try clear hb)
        (try clear hb2)
        (try clear hk)
        (try clear hi)
        refine hK.out _ _ ⟨Km_ BK822 0, Km_ BK822 1, Km_ BK822 2, Km_ BK822 3, Km_ BK811 0, Km_ BK811 1, Km_ BK811 2, Km_ BK811 3, Km_ BK811 4⟩ (fun hHeld => ?_)
        clear hK K
        refine Kn_ 34 ?_
        refine one_ (i := 7) (N := some 10) #[true, true, true, true, true, true, true, true, false] rfl rfl (one_of HT_.out (by kernel_rfl)) (by decide) (fun K hK => ?_)
        refine box_step ?hg (N := 10) ?hd (cs := #[.int .u64 0, .int .u64 0, .int .u64 0, .int .u64 0]) (t := 28) ?hr ?_; (case hd => rfl); (case hg => rfl); (case hr => first | (go_simp; done) | (go_simp; rfl))
        intro gb828 hg w117 hbox hb
        have BK828 := Aside0.mk (hbox)
        have GW828 := Kw_ HB hg
        have GE828 := GW828
        have NB803_828 := Kl_ BK803 hg
        have NB828_803 := Kr_ BK803 hg
        have NB804_828 := Kl_ BK804 hg
        have NB828_804 := Kr_ BK804 hg
        have NB811_828 := Kl_ BK811 hg
        have NB828_811 := Kr_ BK811 hg
        have NB816_828 := Kl_ BK816 hg
        have NB828_816 := Kr_ BK816 hg
        have NB822_828 := Kl_ BK822 hg
        have NB828_822 := Kr_ BK822 hg
        replace BK803 := Kb_ BK803 hb
        replace BK804 := Kb_ BK804 hb
        replace BK811 := Kb_ BK811 hb
        replace BK816 := Kb_ BK816 hb
        replace BK822 := Kb_ BK822 hb
        replace HB := Ks_ HB hb
        clear hb hbox hg
        refine hK.out _ _ ⟨Km_ BK822 0, Km_ BK822 1, Km_ BK822 2, Km_ BK822 3, Km_ BK811 0, Km_ BK811 1, Km_ BK811 2, Km_ BK811 3, Km_ BK811 4⟩ (fun hHeld => ?_)
        clear hK K
        refine Kn_ 10 ?_
        exact norm_ (by simp only [putAll, Act.put, List.setIfInBounds_toArray, List.set_cons_zero, List.set_cons_succ]) (hCont (gb828) _ ⟨hHeld, (Kq_ BK803), (Kq_ BK804), (Kq_ BK811), (Kq_ BK816), (Kq_ BK822), (Kq_ BK828), GW828.out, GE828.out, NB803_828.out, NB828_803.out, NB804_828.out, NB828_804.out, NB811_828.out, NB828_811.out, NB816_828.out, NB828_816.out, NB822_828.out, NB828_822.out, (by repeat (first | (with_reducible first | exact HB.out | apply below_alloc | apply pw_below_drewN | apply below_drew1 | refine below_set ?_ GE803.out | refine below_set ?_ GE804.out | refine below_set ?_ GE811.out | refine below_set ?_ GE816.out | refine below_set ?_ GE822.out | refine below_set ?_ GE828.out) | exact HB.out))⟩)
      · skip
        refine box_step ?hg (N := 10) ?hd (cs := #[.int .u64 0, .int .u64 0, .int .u64 0, .int .u64 0]) (t := 28) ?hr ?_; (case hd => rfl); (case hg => rfl); (case hr => first | (go_simp; done) | (go_simp; rfl))
        intro gb828 hg w116 hbox hb
        have BK828 := Aside0.mk (hbox)
        have GW828 := Kw_ HB hg
        have GE828 := GW828
        have NB803_828 := Kl_ BK803 hg
        have NB828_803 := Kr_ BK803 hg
        have NB804_828 := Kl_ BK804 hg
        have NB828_804 := Kr_ BK804 hg
        have NB811_828 := Kl_ BK811 hg
        have NB828_811 := Kr_ BK811 hg
        have NB816_828 := Kl_ BK816 hg
        have NB828_816 := Kr_ BK816 hg
        have NB822_828 := Kl_ BK822 hg
        have NB828_822 := Kr_ BK822 hg
        replace BK803 := Kb_ BK803 hb
        replace BK804 := Kb_ BK804 hb
        replace BK811 := Kb_ BK811 hb
        replace BK816 := Kb_ BK816 hb
        replace BK822 := Kb_ BK822 hb
        replace HB := Ks_ HB hb
        clear hb hbox hg
        refine hK.out _ _ ⟨Km_ BK822 0, Km_ BK822 1, Km_ BK822 2, Km_ BK822 3, Km_ BK811 0, Km_ BK811 1, Km_ BK811 2, Km_ BK811 3, Km_ BK811 4⟩ (fun hHeld => ?_)
        clear hK K
        refine Kn_ 10 ?_
        refine one_ (i := 6) (N := some 34) #[true, true, true, true, true, true, true, true, false] rfl rfl (one_of HT_.out (by kernel_rfl)) (by decide) (fun K hK => ?_)
        refine goes_ Try.func46 (by kernel_rfl) rfl #[.agg #[.int .u64 t818, .int .u64 t819, .int .u64 t820, .int .u64 t821], .int .i64 t810, .int .u64 (IntKind.u64.wrap (t823 - 1))] (by rfl) rfl rfl (by (try simp only [List.map_toArray, List.map_cons, List.map_nil]); first | done | rfl | (simp only [List.length_drop, List.length_take]; rfl)) ?_
        with_reducible refine (vec_With.calls t818 t819 t820 t821 t810 (IntKind.u64.wrap (t823 - 1)) t824 t825 t826 t827 _ A10.out).mono ?_
        rintro e w117 ⟨rfl, hb⟩
        refine ⟨_, rfl, ?_⟩
        replace BK803 := Kb_ BK803 hb
        replace BK804 := Kb_ BK804 hb
        replace BK811 := Kb_ BK811 hb
        replace BK816 := Kb_ BK816 hb
        replace BK822 := Kb_ BK822 hb
        replace BK828 := Kb_ BK828 hb
        replace HB := Ks_ HB hb
        (try clear hb)
        (try clear hb2)
        (try clear hk)
        (try clear hi)
        refine hK.out _ _ ⟨Km_ BK822 0, Km_ BK822 1, Km_ BK822 2, Km_ BK822 3, Km_ BK811 0, Km_ BK811 1, Km_ BK811 2, Km_ BK811 3, Km_ BK811 4⟩ (fun hHeld => ?_)
        clear hK K
        refine Kn_ 34 ?_
        exact norm_ (by simp only [putAll, Act.put, List.setIfInBounds_toArray, List.set_cons_zero, List.set_cons_succ]) (hCont (gb828) _ ⟨hHeld, (Kq_ BK803), (Kq_ BK804), (Kq_ BK811), (Kq_ BK816), (Kq_ BK822), (Kq_ BK828), GW828.out, GE828.out, NB803_828.out, NB828_803.out, NB804_828.out, NB828_804.out, NB811_828.out, NB828_811.out, NB816_828.out, NB828_816.out, NB822_828.out, NB828_822.out, (by repeat (first | (with_reducible first | exact HB.out | apply below_alloc | apply pw_below_drewN | apply below_drew1 | refine below_set ?_ GE803.out | refine below_set ?_ GE804.out | refine below_set ?_ GE811.out | refine below_set ?_ GE816.out | refine below_set ?_ GE822.out | refine below_set ?_ GE828.out) | exact HB.out))⟩)
    · skip
      refine box_step ?hg (N := 10) ?hd (cs := #[.int .u64 0, .int .u64 0, .int .u64 0, .int .u64 0]) (t := 28) ?hr ?_; (case hd => rfl); (case hg => rfl); (case hr => first | (go_simp; done) | (go_simp; rfl))
      intro gb828 hg w115 hbox hb
      have BK828 := Aside0.mk (hbox)
      have GW828 := Kw_ HB hg
      have GE828 := GW828
      have NB803_828 := Kl_ BK803 hg
      have NB828_803 := Kr_ BK803 hg
      have NB804_828 := Kl_ BK804 hg
      have NB828_804 := Kr_ BK804 hg
      have NB811_828 := Kl_ BK811 hg
      have NB828_811 := Kr_ BK811 hg
      have NB816_828 := Kl_ BK816 hg
      have NB828_816 := Kr_ BK816 hg
      have NB822_828 := Kl_ BK822 hg
      have NB828_822 := Kr_ BK822 hg
      replace BK803 := Kb_ BK803 hb
      replace BK804 := Kb_ BK804 hb
      replace BK811 := Kb_ BK811 hb
      replace BK816 := Kb_ BK816 hb
      replace BK822 := Kb_ BK822 hb
      replace HB := Ks_ HB hb
      clear hb hbox hg
      refine hK.out _ _ ⟨Km_ BK822 0, Km_ BK822 1, Km_ BK822 2, Km_ BK822 3, Km_ BK811 0, Km_ BK811 1, Km_ BK811 2, Km_ BK811 3, Km_ BK811 4⟩ (fun hHeld => ?_)
      clear hK K
      refine Kn_ 10 ?_
      refine one_ (i := 4) (N := some 32) #[true, true, true, true, true, false, false, true, false] rfl rfl (one_of HT_.out (by kernel_rfl)) (by decide) (fun K hK => ?_)
      refine goes_ Try.func47 (by kernel_rfl) rfl #[.agg #[.int .u64 t806, .int .u64 t807, .int .u64 t808, .int .u64 t809, .int .i64 t810]] (by rfl) rfl rfl (by (try simp only [List.map_toArray, List.map_cons, List.map_nil]); first | done | rfl | (simp only [List.length_drop, List.length_take]; rfl)) ?_
      with_reducible refine (stamp_Stamp_N.calls t806 t807 t808 t809 t810 t823 _ A9.out).mono ?_
      rintro e w116 ⟨rfl, hb⟩
      refine ⟨_, rfl, ?_⟩
      replace BK803 := Kb_ BK803 hb
      replace BK804 := Kb_ BK804 hb
      replace BK811 := Kb_ BK811 hb
      replace BK816 := Kb_ BK816 hb
      replace BK822 := Kb_ BK822 hb
      replace BK828 := Kb_ BK828 hb
      replace HB := Ks_ HB hb
      (try clear hb)
      (try clear hb2)
      (try clear hk)
      (try clear hi)
      refine hK.out _ _ ⟨Km_ BK822 0, Km_ BK822 1, Km_ BK822 2, Km_ BK822 3, Km_ BK811 0, Km_ BK811 1, Km_ BK811 2, Km_ BK811 3, Km_ BK811 4⟩ (fun hHeld => ?_)
      clear hK K
      refine Kn_ 32 ?_
      refine Kp_ 5 33 #[true, true, true, true, true, true, false, true, false] (any_of HT_.out (by kernel_rfl)) ?_
      refine one_ (i := 6) (N := some 34) #[true, true, true, true, true, true, true, true, false] rfl rfl (one_of HT_.out (by kernel_rfl)) (by decide) (fun K hK => ?_)
      refine goes_ Try.func46 (by kernel_rfl) rfl #[.agg #[.int .u64 t818, .int .u64 t819, .int .u64 t820, .int .u64 t821], .int .i64 t810, .int .u64 (IntKind.u64.wrap (t823 - 1))] (by rfl) rfl rfl (by (try simp only [List.map_toArray, List.map_cons, List.map_nil]); first | done | rfl | (simp only [List.length_drop, List.length_take]; rfl)) ?_
      with_reducible refine (vec_With.calls t818 t819 t820 t821 t810 (IntKind.u64.wrap (t823 - 1)) t824 t825 t826 t827 _ A10.out).mono ?_
      rintro e w117 ⟨rfl, hb⟩
      refine ⟨_, rfl, ?_⟩
      replace BK803 := Kb_ BK803 hb
      replace BK804 := Kb_ BK804 hb
      replace BK811 := Kb_ BK811 hb
      replace BK816 := Kb_ BK816 hb
      replace BK822 := Kb_ BK822 hb
      replace BK828 := Kb_ BK828 hb
      replace HB := Ks_ HB hb
      (try clear hb)
      (try clear hb2)
      (try clear hk)
      (try clear hi)
      refine hK.out _ _ ⟨Km_ BK822 0, Km_ BK822 1, Km_ BK822 2, Km_ BK822 3, Km_ BK811 0, Km_ BK811 1, Km_ BK811 2, Km_ BK811 3, Km_ BK811 4⟩ (fun hHeld => ?_)
      clear hK K
      refine Kn_ 34 ?_
      exact norm_ (by simp only [putAll, Act.put, List.setIfInBounds_toArray, List.set_cons_zero, List.set_cons_succ]) (hCont (gb828) _ ⟨hHeld, (Kq_ BK803), (Kq_ BK804), (Kq_ BK811), (Kq_ BK816), (Kq_ BK822), (Kq_ BK828), GW828.out, GE828.out, NB803_828.out, NB828_803.out, NB804_828.out, NB828_804.out, NB811_828.out, NB828_811.out, NB816_828.out, NB828_816.out, NB822_828.out, NB828_822.out, (by repeat (first | (with_reducible first | exact HB.out | apply below_alloc | apply pw_below_drewN | apply below_drew1 | refine below_set ?_ GE803.out | refine below_set ?_ GE804.out | refine below_set ?_ GE811.out | refine below_set ?_ GE816.out | refine below_set ?_ GE822.out | refine below_set ?_ GE828.out) | exact HB.out))⟩)
  rintro gb828 w118 ⟨hS_, h0_, h1_, h2_, h3_, h4_, h5_, h6_, h7_, h8_, h9_, h10_, h11_, h12_, h13_, h14_, h15_, h16_, h17_, h18_⟩
  have n0_ : Aside0 (w118.heap[gb803]? = some (.cells #[.int .u64 a0_0, .int .u64 a0_1, .int .u64 a0_2, .int .u64 a0_3, .int .i64 a0_4, .bool true] 39 (0, 0))) := ⟨h0_⟩
  have n1_ : Aside0 (w118.heap[gb804]? = some (.cells #[.int .u64 a1_0, .int .u64 a1_1, .int .u64 a1_2, .int .u64 a1_3, .bool a1_4] 63 (0, 0))) := ⟨h1_⟩
  have n2_ : Aside0 (w118.heap[gb811]? = some (.cells #[.int .u64 t806, .int .u64 t807, .int .u64 t808, .int .u64 t809, .int .i64 t810] 30 (0, 0))) := ⟨h2_⟩
  have n3_ : Aside0 (w118.heap[gb816]? = some (.cells #[.int .u64 t812, .int .u64 t813, .int .u64 t814, .int .u64 t815] 28 (0, 0))) := ⟨h3_⟩
  have n4_ : Aside0 (w118.heap[gb822]? = some (.cells #[.int .u64 t818, .int .u64 t819, .int .u64 t820, .int .u64 t821] 28 (0, 0))) := ⟨h4_⟩
  have n5_ : Aside0 (w118.heap[gb828]? = some (.cells #[.int .u64 0, .int .u64 0, .int .u64 0, .int .u64 0] 28 (0, 0))) := ⟨h5_⟩
  have n6_ : Aside0 (w.heap.size ≤ gb828) := ⟨h6_⟩
  have n7_ : Aside0 (w.heap.size ≤ gb828) := ⟨h7_⟩
  have n8_ : Aside0 (gb803 ≠ gb828) := ⟨h8_⟩
  have n9_ : Aside0 (gb828 ≠ gb803) := ⟨h9_⟩
  have n10_ : Aside0 (gb804 ≠ gb828) := ⟨h10_⟩
  have n11_ : Aside0 (gb828 ≠ gb804) := ⟨h11_⟩
  have n12_ : Aside0 (gb811 ≠ gb828) := ⟨h12_⟩
  have n13_ : Aside0 (gb828 ≠ gb811) := ⟨h13_⟩
  have n14_ : Aside0 (gb816 ≠ gb828) := ⟨h14_⟩
  have n15_ : Aside0 (gb828 ≠ gb816) := ⟨h15_⟩
  have n16_ : Aside0 (gb822 ≠ gb828) := ⟨h16_⟩
  have n17_ : Aside0 (gb828 ≠ gb822) := ⟨h17_⟩
  have n18_ : Aside0 (Below w.heap.size w w118) := ⟨h18_⟩
  clear BK803
  clear BK804
  clear BK811
  clear BK816
  clear BK822
  clear HB
  clear h0_ h1_ h2_ h3_ h4_ h5_ h6_ h7_ h8_ h9_ h10_ h11_ h12_ h13_ h14_ h15_ h16_ h17_ h18_
  have BK803 := n0_
  have BK804 := n1_
  have BK811 := n2_
  have BK816 := n3_
  have BK822 := n4_
  have BK828 := n5_
  have GW828 := n6_
  have GE828 := n7_
  have NB803_828 := n8_
  have NB828_803 := n9_
  have NB804_828 := n10_
  have NB828_804 := n11_
  have NB811_828 := n12_
  have NB828_811 := n13_
  have NB816_828 := n14_
  have NB828_816 := n15_
  have NB822_828 := n16_
  have NB828_822 := n17_
  have HB := n18_
  clear n0_ n1_ n2_ n3_ n4_ n5_ n6_ n7_ n8_ n9_ n10_ n11_ n12_ n13_ n14_ n15_ n16_ n17_ n18_
  have hHeld : w118.cell? ⟨gb822, 0, none⟩ = some (.int .u64 t818) ∧ w118.cell? ⟨gb822, 1, none⟩ = some (.int .u64 t819) ∧ w118.cell? ⟨gb822, 2, none⟩ = some (.int .u64 t820) ∧ w118.cell? ⟨gb822, 3, none⟩ = some (.int .u64 t821) ∧ w118.cell? ⟨gb811, 0, none⟩ = some (.int .u64 t806) ∧ w118.cell? ⟨gb811, 1, none⟩ = some (.int .u64 t807) ∧ w118.cell? ⟨gb811, 2, none⟩ = some (.int .u64 t808) ∧ w118.cell? ⟨gb811, 3, none⟩ = some (.int .u64 t809) ∧ w118.cell? ⟨gb811, 4, none⟩ = some (.int .i64 t810) := hS_
  refine norm_ (a' := ?_) ?_ ?_
  rotate_left
  · simp only [putAll, Act.put, List.setIfInBounds_toArray, List.set_cons_zero, List.set_cons_succ]
    rfl
  refine one_ (i := 8) (N := none) #[true, true, true, true, true, true, true, true, true] rfl rfl (one_of HT_.out (by kernel_rfl)) (by decide) (fun K hK => ?_)
  have hs119 : w118.cell? ⟨gb828, 0, none⟩ = some (.int .u64 0) := (blk_cell BK828.out 0).trans rfl
  have hfs119 := blk_frozen BK828.out 0
  have hns119_0 := NB803_828.out
  have hns119_1 := NB804_828.out
  have hns119_2 := NB811_828.out
  have hns119_3 := NB816_828.out
  have hns119_4 := NB822_828.out
  have hms119_0 := NB828_803.out
  have hms119_1 := NB828_804.out
  have hms119_2 := NB828_811.out
  have hms119_3 := NB828_816.out
  have hms119_4 := NB828_822.out
  have hs120 : w118.cell? ⟨gb828, 1, none⟩ = some (.int .u64 0) := (blk_cell BK828.out 1).trans rfl
  have hfs120 := blk_frozen BK828.out 1
  have hns120_0 := NB803_828.out
  have hns120_1 := NB804_828.out
  have hns120_2 := NB811_828.out
  have hns120_3 := NB816_828.out
  have hns120_4 := NB822_828.out
  have hms120_0 := NB828_803.out
  have hms120_1 := NB828_804.out
  have hms120_2 := NB828_811.out
  have hms120_3 := NB828_816.out
  have hms120_4 := NB828_822.out
  have hs121 : w118.cell? ⟨gb828, 2, none⟩ = some (.int .u64 0) := (blk_cell BK828.out 2).trans rfl
  have hfs121 := blk_frozen BK828.out 2
  have hns121_0 := NB803_828.out
  have hns121_1 := NB804_828.out
  have hns121_2 := NB811_828.out
  have hns121_3 := NB816_828.out
  have hns121_4 := NB822_828.out
  have hms121_0 := NB828_803.out
  have hms121_1 := NB828_804.out
  have hms121_2 := NB828_811.out
  have hms121_3 := NB828_816.out
  have hms121_4 := NB828_822.out
  have hs122 : w118.cell? ⟨gb828, 3, none⟩ = some (.int .u64 0) := (blk_cell BK828.out 3).trans rfl
  have hfs122 := blk_frozen BK828.out 3
  have hns122_0 := NB803_828.out
  have hns122_1 := NB804_828.out
  have hns122_2 := NB811_828.out
  have hns122_3 := NB816_828.out
  have hns122_4 := NB822_828.out
  have hms122_0 := NB828_803.out
  have hms122_1 := NB828_804.out
  have hms122_2 := NB828_811.out
  have hms122_3 := NB828_816.out
  have hms122_4 := NB828_822.out
  refine skip_ (w1 := ?_) (by rfl) rfl ?_ ?_
  rotate_left
  · go_simp
    rfl
  refine hK.out _ _ ⟨(Kj_ NB822_828 ((Kj_ NB822_828 ((Kj_ NB822_828 ((Kj_ NB822_828 (hHeld.1)))))))), (Kj_ NB822_828 ((Kj_ NB822_828 ((Kj_ NB822_828 ((Kj_ NB822_828 (hHeld.2.1)))))))), (Kj_ NB822_828 ((Kj_ NB822_828 ((Kj_ NB822_828 ((Kj_ NB822_828 (hHeld.2.2.1)))))))), (Kj_ NB822_828 ((Kj_ NB822_828 ((Kj_ NB822_828 ((Kj_ NB822_828 (hHeld.2.2.2.1)))))))), (Kj_ NB811_828 ((Kj_ NB811_828 ((Kj_ NB811_828 ((Kj_ NB811_828 (hHeld.2.2.2.2.1)))))))), (Kj_ NB811_828 ((Kj_ NB811_828 ((Kj_ NB811_828 ((Kj_ NB811_828 (hHeld.2.2.2.2.2.1)))))))), (Kj_ NB811_828 ((Kj_ NB811_828 ((Kj_ NB811_828 ((Kj_ NB811_828 (hHeld.2.2.2.2.2.2.1)))))))), (Kj_ NB811_828 ((Kj_ NB811_828 ((Kj_ NB811_828 ((Kj_ NB811_828 (hHeld.2.2.2.2.2.2.2.1)))))))), (Kj_ NB811_828 ((Kj_ NB811_828 ((Kj_ NB811_828 ((Kj_ NB811_828 (hHeld.2.2.2.2.2.2.2.2))))))))⟩ (fun hHeld => ?_)
  clear hK K
  refine done_ (done_of HT_.out (by kernel_rfl)) ?_
  try go_wp2
  have n0_ : Aside0 (((((w118.setCell ⟨gb828, 0, none⟩ (.int .u64 t824)).setCell ⟨gb828, 1, none⟩ (.int .u64 t825)).setCell ⟨gb828, 2, none⟩ (.int .u64 t826)).setCell ⟨gb828, 3, none⟩ (.int .u64 t827)).heap[gb803]? = some (.cells #[.int .u64 a0_0, .int .u64 a0_1, .int .u64 a0_2, .int .u64 a0_3, .int .i64 a0_4, .bool true] 39 (0, 0))) := ⟨by exact K1b_ BK803 NB803_828⟩
  have n1_ : Aside0 (((((w118.setCell ⟨gb828, 0, none⟩ (.int .u64 t824)).setCell ⟨gb828, 1, none⟩ (.int .u64 t825)).setCell ⟨gb828, 2, none⟩ (.int .u64 t826)).setCell ⟨gb828, 3, none⟩ (.int .u64 t827)).heap[gb804]? = some (.cells #[.int .u64 a1_0, .int .u64 a1_1, .int .u64 a1_2, .int .u64 a1_3, .bool a1_4] 63 (0, 0))) := ⟨by exact K1b_ BK804 NB804_828⟩
  have n2_ : Aside0 (((((w118.setCell ⟨gb828, 0, none⟩ (.int .u64 t824)).setCell ⟨gb828, 1, none⟩ (.int .u64 t825)).setCell ⟨gb828, 2, none⟩ (.int .u64 t826)).setCell ⟨gb828, 3, none⟩ (.int .u64 t827)).heap[gb811]? = some (.cells #[.int .u64 t806, .int .u64 t807, .int .u64 t808, .int .u64 t809, .int .i64 t810] 30 (0, 0))) := ⟨by exact K1b_ BK811 NB811_828⟩
  have n3_ : Aside0 (((((w118.setCell ⟨gb828, 0, none⟩ (.int .u64 t824)).setCell ⟨gb828, 1, none⟩ (.int .u64 t825)).setCell ⟨gb828, 2, none⟩ (.int .u64 t826)).setCell ⟨gb828, 3, none⟩ (.int .u64 t827)).heap[gb816]? = some (.cells #[.int .u64 t812, .int .u64 t813, .int .u64 t814, .int .u64 t815] 28 (0, 0))) := ⟨by exact K1b_ BK816 NB816_828⟩
  have n4_ : Aside0 (((((w118.setCell ⟨gb828, 0, none⟩ (.int .u64 t824)).setCell ⟨gb828, 1, none⟩ (.int .u64 t825)).setCell ⟨gb828, 2, none⟩ (.int .u64 t826)).setCell ⟨gb828, 3, none⟩ (.int .u64 t827)).heap[gb822]? = some (.cells #[.int .u64 t818, .int .u64 t819, .int .u64 t820, .int .u64 t821] 28 (0, 0))) := ⟨by exact K1b_ BK822 NB822_828⟩
  have n5_ : Aside0 (((((w118.setCell ⟨gb828, 0, none⟩ (.int .u64 t824)).setCell ⟨gb828, 1, none⟩ (.int .u64 t825)).setCell ⟨gb828, 2, none⟩ (.int .u64 t826)).setCell ⟨gb828, 3, none⟩ (.int .u64 t827)).heap[gb828]? = some (.cells #[.int .u64 t824, .int .u64 t825, .int .u64 t826, .int .u64 t827] 28 (0, 0))) := ⟨by refine Kv_ ?_; refine blk_put (cs := #[.int .u64 t824, .int .u64 t825, .int .u64 t826, .int .u64 0]) ?_ 3 _ rfl; refine Kv_ ?_; refine blk_put (cs := #[.int .u64 t824, .int .u64 t825, .int .u64 0, .int .u64 0]) ?_ 2 _ rfl; refine Kv_ ?_; refine blk_put (cs := #[.int .u64 t824, .int .u64 0, .int .u64 0, .int .u64 0]) ?_ 1 _ rfl; refine Kv_ ?_; refine blk_put (cs := #[.int .u64 0, .int .u64 0, .int .u64 0, .int .u64 0]) ?_ 0 _ rfl; exact Kq_ BK828⟩
  have n6_ : Aside0 (Below w.heap.size w ((((w118.setCell ⟨gb828, 0, none⟩ (.int .u64 t824)).setCell ⟨gb828, 1, none⟩ (.int .u64 t825)).setCell ⟨gb828, 2, none⟩ (.int .u64 t826)).setCell ⟨gb828, 3, none⟩ (.int .u64 t827))) := ⟨by repeat (first | (with_reducible first | exact HB.out | apply below_alloc | apply pw_below_drewN | apply below_drew1 | refine below_set ?_ GE803.out | refine below_set ?_ GE804.out | refine below_set ?_ GE811.out | refine below_set ?_ GE816.out | refine below_set ?_ GE822.out | refine below_set ?_ GE828.out) | exact HB.out)⟩
  (try clear BK803)
  (try clear BK804)
  (try clear BK811)
  (try clear BK816)
  (try clear BK822)
  (try clear BK828)
  (try clear HB)
  generalize ((((w118.setCell ⟨gb828, 0, none⟩ (.int .u64 t824)).setCell ⟨gb828, 1, none⟩ (.int .u64 t825)).setCell ⟨gb828, 2, none⟩ (.int .u64 t826)).setCell ⟨gb828, 3, none⟩ (.int .u64 t827)) = w123 at n0_ n1_ n2_ n3_ n4_ n5_ n6_ ⊢
  have BK803 := n0_
  have BK804 := n1_
  have BK811 := n2_
  have BK816 := n3_
  have BK822 := n4_
  have BK828 := n5_
  have HB := n6_
  clear n0_ n1_ n2_ n3_ n4_ n5_ n6_
  replace BK803 := Kd_ BK803
  replace BK804 := Kd_ BK804
  replace BK811 := Kd_ BK811
  replace BK816 := Kd_ BK816
  replace BK822 := Kd_ BK822
  replace BK828 := Kd_ BK828
  replace HB := Aside0.mk (below_drew1 HB.out)
  refine start_ (n := 8) (S := fun w' => w'.cell? ⟨gb816, 0, none⟩ = some (.int .u64 t812) ∧ w'.cell? ⟨gb816, 1, none⟩ = some (.int .u64 t813) ∧ w'.cell? ⟨gb816, 2, none⟩ = some (.int .u64 t814) ∧ w'.cell? ⟨gb816, 3, none⟩ = some (.int .u64 t815) ∧ w'.cell? ⟨gb811, 0, none⟩ = some (.int .u64 t806) ∧ w'.cell? ⟨gb811, 1, none⟩ = some (.int .u64 t807) ∧ w'.cell? ⟨gb811, 2, none⟩ = some (.int .u64 t808) ∧ w'.cell? ⟨gb811, 3, none⟩ = some (.int .u64 t809) ∧ w'.cell? ⟨gb811, 4, none⟩ = some (.int .i64 t810)) (ds := []) #[false, false, false, false, false, false, false, false] (by kernel_rfl) rfl rfl ⟨Km_ BK816 0, Km_ BK816 1, Km_ BK816 2, Km_ BK816 3, Km_ BK811 0, Km_ BK811 1, Km_ BK811 2, Km_ BK811 3, Km_ BK811 4⟩ (fun hHeld => ?_); refine with_tabW tenementlaw15_StreamReady_p1.tab10 tenementlaw15_StreamReady_p1.bits10 (fun HT_ HW_ => ?_)
  generalize w123.drew = w124 at BK803 BK804 BK811 BK816 BK822 BK828 HB hHeld ⊢
  refine Kp_ 1 36 #[false, true, false, false, false, false, false, false] (any_of HT_.out (by kernel_rfl)) ?_
  refine Ko_ 0 35 #[true, true, false, false, false, false, false, false] (take_ofW HT_.out HW_.out (by kernel_rfl)) hHeld ?_
  refine Ko_ 2 37 #[true, true, true, false, false, false, false, false] (take_ofW HT_.out HW_.out (by kernel_rfl)) hHeld ?_
  refine Ko_ 4 39 #[true, true, true, false, true, false, false, false] (take_ofW HT_.out HW_.out (by kernel_rfl)) hHeld ?_
  refine one_ (i := 3) (N := some 38) #[true, true, true, true, true, false, false, false] rfl rfl (one_of HT_.out (by kernel_rfl)) (by decide) (fun K hK => ?_)
  refine goes_ Try.func48 (by kernel_rfl) rfl #[.agg #[.int .u64 t812, .int .u64 t813, .int .u64 t814, .int .u64 t815], .int .i64 t810] (by rfl) rfl rfl (by (try simp only [List.map_toArray, List.map_cons, List.map_nil]); first | done | rfl | (simp only [List.length_drop, List.length_take]; rfl)) ?_
  with_reducible refine (vec_At.calls t812 t813 t814 t815 t810 t829 _ A11.out).mono ?_
  rintro e w125 ⟨rfl, hb⟩
  refine ⟨_, rfl, ?_⟩
  replace BK803 := Kb_ BK803 hb
  replace BK804 := Kb_ BK804 hb
  replace BK811 := Kb_ BK811 hb
  replace BK816 := Kb_ BK816 hb
  replace BK822 := Kb_ BK822 hb
  replace BK828 := Kb_ BK828 hb
  replace HB := Ks_ HB hb
  (try clear hb)
  (try clear hb2)
  (try clear hk)
  (try clear hi)
  refine hK.out _ _ ⟨Km_ BK816 0, Km_ BK816 1, Km_ BK816 2, Km_ BK816 3, Km_ BK811 0, Km_ BK811 1, Km_ BK811 2, Km_ BK811 3, Km_ BK811 4⟩ (fun hHeld => ?_)
  clear hK K
  refine Kn_ 38 ?_
  refine one_ (i := 5) (N := some 40) #[true, true, true, true, true, true, false, false] rfl rfl (one_of HT_.out (by kernel_rfl)) (by decide) (fun K hK => ?_)
  refine goes_ Try.func47 (by kernel_rfl) rfl #[.agg #[.int .u64 t806, .int .u64 t807, .int .u64 t808, .int .u64 t809, .int .i64 t810]] (by rfl) rfl rfl (by (try simp only [List.map_toArray, List.map_cons, List.map_nil]); first | done | rfl | (simp only [List.length_drop, List.length_take]; rfl)) ?_
  with_reducible refine (stamp_Stamp_N.calls t806 t807 t808 t809 t810 t830 _ A12.out).mono ?_
  rintro e w126 ⟨rfl, hb⟩
  refine ⟨_, rfl, ?_⟩
  replace BK803 := Kb_ BK803 hb
  replace BK804 := Kb_ BK804 hb
  replace BK811 := Kb_ BK811 hb
  replace BK816 := Kb_ BK816 hb
  replace BK822 := Kb_ BK822 hb
  replace BK828 := Kb_ BK828 hb
  replace HB := Ks_ HB hb
  (try clear hb)
  (try clear hb2)
  (try clear hk)
  (try clear hi)
  refine hK.out _ _ ⟨Km_ BK816 0, Km_ BK816 1, Km_ BK816 2, Km_ BK816 3, Km_ BK811 0, Km_ BK811 1, Km_ BK811 2, Km_ BK811 3, Km_ BK811 4⟩ (fun hHeld => ?_)
  clear hK K
  refine Kn_ 40 ?_
  refine Kp_ 6 41 #[true, true, true, true, true, true, true, false] (any_of HT_.out (by kernel_rfl)) ?_
  refine Kp_ 7 11 #[true, true, true, true, true, true, true, true] (any_of HT_.out (by kernel_rfl)) ?_
  refine done_ (done_of HT_.out (by kernel_rfl)) ?_
  try go_wp2
  replace BK803 := Kd_ BK803
  replace BK804 := Kd_ BK804
  replace BK811 := Kd_ BK811
  replace BK816 := Kd_ BK816
  replace BK822 := Kd_ BK822
  replace BK828 := Kd_ BK828
  replace HB := Aside0.mk (below_drew1 HB.out)
  refine start_ (n := 24) (S := fun w' => w'.cell? ⟨gb816, 0, none⟩ = some (.int .u64 t812) ∧ w'.cell? ⟨gb816, 1, none⟩ = some (.int .u64 t813) ∧ w'.cell? ⟨gb816, 2, none⟩ = some (.int .u64 t814) ∧ w'.cell? ⟨gb816, 3, none⟩ = some (.int .u64 t815) ∧ w'.cell? ⟨gb811, 0, none⟩ = some (.int .u64 t806) ∧ w'.cell? ⟨gb811, 1, none⟩ = some (.int .u64 t807) ∧ w'.cell? ⟨gb811, 2, none⟩ = some (.int .u64 t808) ∧ w'.cell? ⟨gb811, 3, none⟩ = some (.int .u64 t809) ∧ w'.cell? ⟨gb811, 4, none⟩ = some (.int .i64 t810)) (ds := []) #[false, false, false, false, false, false, false, false, false, false, false, false, false, false, false, false, false, false, false, false, false, false, false, false] (by kernel_rfl) rfl rfl ⟨Km_ BK816 0, Km_ BK816 1, Km_ BK816 2, Km_ BK816 3, Km_ BK811 0, Km_ BK811 1, Km_ BK811 2, Km_ BK811 3, Km_ BK811 4⟩ (fun hHeld => ?_); refine with_tabW tenementlaw15_StreamReady_p1.tab11 tenementlaw15_StreamReady_p1.bits11 (fun HT_ HW_ => ?_)
  generalize w126.drew = w127 at BK803 BK804 BK811 BK816 BK822 BK828 HB hHeld ⊢
  refine Kp_ 1 43 #[false, true, false, false, false, false, false, false, false, false, false, false, false, false, false, false, false, false, false, false, false, false, false, false] (any_of HT_.out (by kernel_rfl)) ?_
  refine Ko_ 0 42 #[true, true, false, false, false, false, false, false, false, false, false, false, false, false, false, false, false, false, false, false, false, false, false, false] (take_ofW HT_.out HW_.out (by kernel_rfl)) hHeld ?_
  refine Ko_ 2 44 #[true, true, true, false, false, false, false, false, false, false, false, false, false, false, false, false, false, false, false, false, false, false, false, false] (take_ofW HT_.out HW_.out (by kernel_rfl)) hHeld ?_
  refine Ko_ 4 46 #[true, true, true, false, true, false, false, false, false, false, false, false, false, false, false, false, false, false, false, false, false, false, false, false] (take_ofW HT_.out HW_.out (by kernel_rfl)) hHeld ?_
  refine one_ (i := 3) (N := some 45) #[true, true, true, true, true, false, false, false, false, false, false, false, false, false, false, false, false, false, false, false, false, false, false, false] rfl rfl (one_of HT_.out (by kernel_rfl)) (by decide) (fun K hK => ?_)
  refine goes_ Try.func48 (by kernel_rfl) rfl #[.agg #[.int .u64 t812, .int .u64 t813, .int .u64 t814, .int .u64 t815], .int .i64 t810] (by rfl) rfl rfl (by (try simp only [List.map_toArray, List.map_cons, List.map_nil]); first | done | rfl | (simp only [List.length_drop, List.length_take]; rfl)) ?_
  with_reducible refine (vec_At.calls t812 t813 t814 t815 t810 t831 _ A13.out).mono ?_
  rintro e w128 ⟨rfl, hb⟩
  refine ⟨_, rfl, ?_⟩
  replace BK803 := Kb_ BK803 hb
  replace BK804 := Kb_ BK804 hb
  replace BK811 := Kb_ BK811 hb
  replace BK816 := Kb_ BK816 hb
  replace BK822 := Kb_ BK822 hb
  replace BK828 := Kb_ BK828 hb
  replace HB := Ks_ HB hb
  (try clear hb)
  (try clear hb2)
  (try clear hk)
  (try clear hi)
  refine hK.out _ _ ⟨Km_ BK816 0, Km_ BK816 1, Km_ BK816 2, Km_ BK816 3, Km_ BK811 0, Km_ BK811 1, Km_ BK811 2, Km_ BK811 3, Km_ BK811 4⟩ (fun hHeld => ?_)
  clear hK K
  refine Kn_ 45 ?_
  refine one_ (i := 5) (N := some 47) #[true, true, true, true, true, true, false, false, false, false, false, false, false, false, false, false, false, false, false, false, false, false, false, false] rfl rfl (one_of HT_.out (by kernel_rfl)) (by decide) (fun K hK => ?_)
  refine goes_ Try.func47 (by kernel_rfl) rfl #[.agg #[.int .u64 t806, .int .u64 t807, .int .u64 t808, .int .u64 t809, .int .i64 t810]] (by rfl) rfl rfl (by (try simp only [List.map_toArray, List.map_cons, List.map_nil]); first | done | rfl | (simp only [List.length_drop, List.length_take]; rfl)) ?_
  with_reducible refine (stamp_Stamp_N.calls t806 t807 t808 t809 t810 t832 _ A14.out).mono ?_
  rintro e w129 ⟨rfl, hb⟩
  refine ⟨_, rfl, ?_⟩
  replace BK803 := Kb_ BK803 hb
  replace BK804 := Kb_ BK804 hb
  replace BK811 := Kb_ BK811 hb
  replace BK816 := Kb_ BK816 hb
  replace BK822 := Kb_ BK822 hb
  replace BK828 := Kb_ BK828 hb
  replace HB := Ks_ HB hb
  (try clear hb)
  (try clear hb2)
  (try clear hk)
  (try clear hi)
  refine hK.out _ _ ⟨Km_ BK816 0, Km_ BK816 1, Km_ BK816 2, Km_ BK816 3, Km_ BK811 0, Km_ BK811 1, Km_ BK811 2, Km_ BK811 3, Km_ BK811 4⟩ (fun hHeld => ?_)
  clear hK K
  refine Kn_ 47 ?_
  refine Kp_ 6 48 #[true, true, true, true, true, true, true, false, false, false, false, false, false, false, false, false, false, false, false, false, false, false, false, false] (any_of HT_.out (by kernel_rfl)) ?_
  refine Kp_ 7 49 #[true, true, true, true, true, true, true, true, false, false, false, false, false, false, false, false, false, false, false, false, false, false, false, false] (any_of HT_.out (by kernel_rfl)) ?_
  refine Kp_ 8 50 #[true, true, true, true, true, true, true, true, true, false, false, false, false, false, false, false, false, false, false, false, false, false, false, false] (any_of HT_.out (by kernel_rfl)) ?_
  refine pure_ (i := 9) (N := some 51) (v := undef) (a' := ?_) #[true, true, true, true, true, true, true, true, true, true, false, false, false, false, false, false, false, false, false, false, false, false, false, false] rfl rfl (any_of HT_.out (by kernel_rfl)) (fun _ _ _ h => h) (Or.inr ⟨by rfl, rfl⟩) ?_ ?_
  rotate_left
  · simp only [Act.put, List.setIfInBounds_toArray, List.set_cons_zero, List.set_cons_succ, i64_w, i32_w]
    rfl
  refine pure_ (i := 10) (N := some 52) (v := undef) (a' := ?_) #[true, true, true, true, true, true, true, true, true, true, true, false, false, false, false, false, false, false, false, false, false, false, false, false] rfl rfl (any_of HT_.out (by kernel_rfl)) (fun _ _ _ h => h) (Or.inr ⟨by rfl, rfl⟩) ?_ ?_
  rotate_left
  · simp only [Act.put, List.setIfInBounds_toArray, List.set_cons_zero, List.set_cons_succ, i64_w, i32_w]
    rfl
  refine pure_ (i := 11) (N := some 53) (v := undef) (a' := ?_) #[true, true, true, true, true, true, true, true, true, true, true, true, false, false, false, false, false, false, false, false, false, false, false, false] rfl rfl (any_of HT_.out (by kernel_rfl)) (fun _ _ _ h => h) (Or.inr ⟨by rfl, rfl⟩) ?_ ?_
  rotate_left
  · simp only [Act.put, List.setIfInBounds_toArray, List.set_cons_zero, List.set_cons_succ, i64_w, i32_w]
    rfl
  refine pure_ (i := 12) (N := some 54) (v := undef) (a' := ?_) #[true, true, true, true, true, true, true, true, true, true, true, true, true, false, false, false, false, false, false, false, false, false, false, false] rfl rfl (any_of HT_.out (by kernel_rfl)) (fun _ _ _ h => h) (Or.inr ⟨by rfl, rfl⟩) ?_ ?_
  rotate_left
  · simp only [Act.put, List.setIfInBounds_toArray, List.set_cons_zero, List.set_cons_succ, i64_w, i32_w]
    rfl
  refine Kp_ 13 55 #[true, true, true, true, true, true, true, true, true, true, true, true, true, true, false, false, false, false, false, false, false, false, false, false] (any_of HT_.out (by kernel_rfl)) ?_
  refine Kp_ 14 56 #[true, true, true, true, true, true, true, true, true, true, true, true, true, true, true, false, false, false, false, false, false, false, false, false] (any_of HT_.out (by kernel_rfl)) ?_
  refine pure_ (i := 15) (N := some 57) (v := undef) (a' := ?_) #[true, true, true, true, true, true, true, true, true, true, true, true, true, true, true, true, false, false, false, false, false, false, false, false] rfl rfl (any_of HT_.out (by kernel_rfl)) (fun _ _ _ h => h) (Or.inr ⟨by rfl, rfl⟩) ?_ ?_
  rotate_left
  · simp only [Act.put, List.setIfInBounds_toArray, List.set_cons_zero, List.set_cons_succ, i64_w, i32_w]
    rfl
  refine pure_ (i := 16) (N := some 58) (v := undef) (a' := ?_) #[true, true, true, true, true, true, true, true, true, true, true, true, true, true, true, true, true, false, false, false, false, false, false, false] rfl rfl (any_of HT_.out (by kernel_rfl)) (fun _ _ _ h => h) (Or.inr ⟨by rfl, rfl⟩) ?_ ?_
  rotate_left
  · simp only [Act.put, List.setIfInBounds_toArray, List.set_cons_zero, List.set_cons_succ, i64_w, i32_w]
    rfl
  refine pure_ (i := 17) (N := some 59) (v := undef) (a' := ?_) #[true, true, true, true, true, true, true, true, true, true, true, true, true, true, true, true, true, true, false, false, false, false, false, false] rfl rfl (any_of HT_.out (by kernel_rfl)) (fun _ _ _ h => h) (Or.inr ⟨by rfl, rfl⟩) ?_ ?_
  rotate_left
  · simp only [Act.put, List.setIfInBounds_toArray, List.set_cons_zero, List.set_cons_succ, i64_w, i32_w]
    rfl
  refine pure_ (i := 18) (N := some 60) (v := undef) (a' := ?_) #[true, true, true, true, true, true, true, true, true, true, true, true, true, true, true, true, true, true, true, false, false, false, false, false] rfl rfl (any_of HT_.out (by kernel_rfl)) (fun _ _ _ h => h) (Or.inr ⟨by rfl, rfl⟩) ?_ ?_
  rotate_left
  · simp only [Act.put, List.setIfInBounds_toArray, List.set_cons_zero, List.set_cons_succ, i64_w, i32_w]
    rfl
  refine pure_ (i := 19) (N := some 61) (v := undef) (a' := ?_) #[true, true, true, true, true, true, true, true, true, true, true, true, true, true, true, true, true, true, true, true, false, false, false, false] rfl rfl (any_of HT_.out (by kernel_rfl)) (fun _ _ _ h => h) (Or.inr ⟨by rfl, rfl⟩) ?_ ?_
  rotate_left
  · simp only [Act.put, List.setIfInBounds_toArray, List.set_cons_zero, List.set_cons_succ, i64_w, i32_w]
    rfl
  refine pure_ (i := 20) (N := some 62) (v := undef) (a' := ?_) #[true, true, true, true, true, true, true, true, true, true, true, true, true, true, true, true, true, true, true, true, true, false, false, false] rfl rfl (any_of HT_.out (by kernel_rfl)) (fun _ _ _ h => h) (Or.inr ⟨by rfl, rfl⟩) ?_ ?_
  rotate_left
  · simp only [Act.put, List.setIfInBounds_toArray, List.set_cons_zero, List.set_cons_succ, i64_w, i32_w]
    rfl
  refine pure_ (i := 21) (N := some 63) (v := undef) (a' := ?_) #[true, true, true, true, true, true, true, true, true, true, true, true, true, true, true, true, true, true, true, true, true, true, false, false] rfl rfl (any_of HT_.out (by kernel_rfl)) (fun _ _ _ h => h) (Or.inr ⟨by rfl, rfl⟩) ?_ ?_
  rotate_left
  · simp only [Act.put, List.setIfInBounds_toArray, List.set_cons_zero, List.set_cons_succ, i64_w, i32_w]
    rfl
  refine Kp_ 22 64 #[true, true, true, true, true, true, true, true, true, true, true, true, true, true, true, true, true, true, true, true, true, true, true, false] (any_of HT_.out (by kernel_rfl)) ?_
  refine Kp_ 23 12 #[true, true, true, true, true, true, true, true, true, true, true, true, true, true, true, true, true, true, true, true, true, true, true, true] (any_of HT_.out (by kernel_rfl)) ?_
  refine done_ (done_of HT_.out (by kernel_rfl)) ?_
  have hnb130 := NB822_828.out
  have hnc130 := NB828_822.out
  obtain ⟨hcz131_0, hcz131_1, hcz131_2, hcz131_3, hfz131_0, hfz131_1, hfz131_2, hfz131_3⟩ := Ke4_ BK822.out
  have hnb132 := NB811_828.out
  have hnc132 := NB828_811.out
  obtain ⟨hcz133_0, hcz133_1, hcz133_2, hcz133_3, hcz133_4, hfz133_0, hfz133_1, hfz133_2, hfz133_3, hfz133_4⟩ := Ke5_ BK811.out
  try go_wp2_with (first | (go_at_call 30; (with_reducible refine (stream_Ready.calls t818 t819 t820 t821 t806 t807 t808 t809 t810 t853 _ A81.out).mono ?_); rintro e w134 ⟨rfl, hb⟩; replace BK803 := Kb_ BK803 hb; replace BK804 := Kb_ BK804 hb; replace BK811 := Kb_ BK811 hb; replace BK816 := Kb_ BK816 hb; replace BK822 := Kb_ BK822 hb; replace BK828 := Kb_ BK828 hb; replace HB := Ks_ HB hb; (try clear hb); (try clear hb2); (try clear hk); (try clear hi); have hnb135 := NB828_803.out; have hnc135 := NB803_828.out; have hnb136 := NB828_804.out; have hnc136 := NB804_828.out; have hnb137 := NB828_816.out; have hnc137 := NB816_828.out; obtain ⟨hcz138_0, hcz138_1, hcz138_2, hcz138_3, hfz138_0, hfz138_1, hfz138_2, hfz138_3⟩ := Ke4_ BK828.out; obtain ⟨hcz139_0, hcz139_1, hcz139_2, hcz139_3, hcz139_4, hfz139_0, hfz139_1, hfz139_2, hfz139_3, hfz139_4⟩ := Ke5_ BK811.out) | (go_at_call 30; (with_reducible refine (stream_Ready.calls t824 t825 t826 t827 t806 t807 t808 t809 t810 t854 _ A83.out).mono ?_); rintro e w140 ⟨rfl, hb⟩; replace BK803 := Kb_ BK803 hb; replace BK804 := Kb_ BK804 hb; replace BK811 := Kb_ BK811 hb; replace BK816 := Kb_ BK816 hb; replace BK822 := Kb_ BK822 hb; replace BK828 := Kb_ BK828 hb; replace HB := Ks_ HB hb; (try clear hb); (try clear hb2); (try clear hk); (try clear hi)))
  go_ret
  exact ⟨Kh_, by repeat (first | (with_reducible first | exact HB.out | apply below_alloc | apply pw_below_drewN | apply below_drew1 | refine below_set ?_ GE803.out | refine below_set ?_ GE804.out | refine below_set ?_ GE811.out | refine below_set ?_ GE816.out | refine below_set ?_ GE822.out | refine below_set ?_ GE828.out) | exact HB.out)⟩
end Go.Proofs.Ytoagfdpgnfinhaa.Q
