import Derived.Test.YtdlagefpglhdoaaDoorQx0
import Derived.Test.YtdlagefpglhdoaaDoorGStampSeen0
import Derived.Test.YtdlagefpglhdoaaDoorGStampSeen5
import Derived.Test.YtdlagefpglhdoaaDoorGStampSeen7
import Derived.Test.YtdlagefpglhdoaaDoorGStampSeen2
-- Written by this session's own driver (wip/hybrid.py) of the kit's printer; contracts marked FOREIGN are by hand.
namespace Go.Proofs.YtdlagefpglhdoaaDoor.Q
open Go.RowKit Go.Proofs.YtdlagefpglhdoaaDoorW.PrintWords Go.Proofs.YtdlagefpglhdoaaDoorW.PrintLast Go.Proofs.YtdlagefpglhdoaaDoorW.PrintMore
attribute [local go_sem] max2_int min2_int max_two min_two max_three min_three max_four min_four   -- for this text's walks alone
set_option linter.unusedVariables false
set_option linter.unusedSimpArgs false

/-! ### tenementlaw07_StampSeen_p2: function 8 -/
def tenementlaw07_StampSeen_p2.f (k : Nat) (a0_0 : Int) (a0_1 : Int) (a0_2 : Int) (a0_3 : Int) (a0_4 : Int) (a0_5 : Bool) (a1_0 : Int) (a1_1 : Int) (a1_2 : Int) (a1_3 : Int) (a1_4 : Bool) (a2_0 : Int) (a2_1 : Int) (a2_2 : Int) (a2_3 : Int) (a2_4 : Bool) : Option (Bool) := (tenementlaw07_examples.f k).bind fun t790 => (if t790 = true then ((tenementlaw07_Mark_mark.f k a0_0 a0_1 a0_2 a0_3 a0_4 true).bind fun bt791 => ((tenementlaw07_Vector_vector.f k a1_0 a1_1 a1_2 a1_3 a1_4).bind fun bt797 => ((tenementlaw07_Vector_vector.f k a2_0 a2_1 a2_2 a2_3 a2_4).bind fun bt802 => ((vec_Join.f bt797.1 bt797.2.1 bt797.2.2.1 bt797.2.2.2 bt802.1 bt802.2.1 bt802.2.2.1 bt802.2.2.2).bind fun bt807 => ((stamp_Seen.f bt791.1 bt791.2.1 bt791.2.2.1 bt791.2.2.2.1 bt791.2.2.2.2 bt791.1 bt791.2.1 bt791.2.2.1 bt791.2.2.2.1).bind fun t812 => (if t812 = true then ((stamp_Stamp_N.f bt791.1 bt791.2.1 bt791.2.2.1 bt791.2.2.2.1 bt791.2.2.2.2).bind fun t813 => ((vec_With.f bt791.1 bt791.2.1 bt791.2.2.1 bt791.2.2.2.1 bt791.2.2.2.2 (IntKind.u64.wrap (t813 - 1))).bind fun bt814 => ((stamp_Seen.f bt791.1 bt791.2.1 bt791.2.2.1 bt791.2.2.2.1 bt791.2.2.2.2 bt814.1 bt814.2.1 bt814.2.2.1 bt814.2.2.2).bind fun t818 => (if t818 = true then (none) else ((stamp_Seen.f bt791.1 bt791.2.1 bt791.2.2.1 bt791.2.2.2.1 bt791.2.2.2.2 bt797.1 bt797.2.1 bt797.2.2.1 bt797.2.2.2).bind fun t819 => (if t819 = true then (none) else ((vec_Meet.f bt797.1 bt797.2.1 bt797.2.2.1 bt797.2.2.2 bt802.1 bt802.2.1 bt802.2.2.1 bt802.2.2.2).bind fun bt828 => ((stamp_Seen.f bt791.1 bt791.2.1 bt791.2.2.1 bt791.2.2.2.1 bt791.2.2.2.2 bt828.1 bt828.2.1 bt828.2.2.1 bt828.2.2.2).bind fun t832 => ((stamp_Seen.f bt791.1 bt791.2.1 bt791.2.2.1 bt791.2.2.2.1 bt791.2.2.2.2 bt797.1 bt797.2.1 bt797.2.2.1 bt797.2.2.2).bind fun t833 => (if t833 = true then ((stamp_Seen.f bt791.1 bt791.2.1 bt791.2.2.1 bt791.2.2.2.1 bt791.2.2.2.2 bt802.1 bt802.2.1 bt802.2.2.1 bt802.2.2.2).bind fun t834 => (if t832 = t834 then (some true) else (none))) else (none))))))))))) else (none))))))) else (none))
theorem tenementlaw07_StampSeen_p2.mono : ∀ a0 a1 a2 a3 a4 a5 a6 a7 a8 a9 a10 a11 a12 a13 a14 a15 k, LeO (tenementlaw07_StampSeen_p2.f k a0 a1 a2 a3 a4 a5 a6 a7 a8 a9 a10 a11 a12 a13 a14 a15) (tenementlaw07_StampSeen_p2.f (k + 1) a0 a1 a2 a3 a4 a5 a6 a7 a8 a9 a10 a11 a12 a13 a14 a15) := by
  intro a0 a1 a2 a3 a4 a5 a6 a7 a8 a9 a10 a11 a12 a13 a14 a15 k
  unfold tenementlaw07_StampSeen_p2.f
  repeat' first
      | (with_reducible exact tenementlaw07_Mark_mark.mono _ _ _ _ _ _ _)
      | (with_reducible exact tenementlaw07_Vector_vector.mono _ _ _ _ _ _)
      | (with_reducible exact tenementlaw07_examples.mono _)
      | (with_reducible exact LeO.refl _)
      | (with_reducible exact LeO.none _)
      | (with_reducible refine LeO.ite ?_ ?_)
      | (with_reducible refine LeO.bind ?_ (fun _ => ?_))
      | exact tenementlaw07_Mark_mark.mono _ _ _ _ _ _ _
      | exact tenementlaw07_Vector_vector.mono _ _ _ _ _ _
      | exact tenementlaw07_examples.mono _
      | exact LeO.none _
      | refine LeO.ite ?_ ?_
      | refine LeO.bind ?_ (fun _ => ?_)
def tenementlaw07_StampSeen_p2.T9 : Bool × List (List Nat × List Nat) := (true, [([], []), ([0], [0]), ([1], [1]), ([1], [1]), ([3, 1], [1, 3]), ([2, 4, 1, 1], [1, 2, 4]), ([1, 5], [1, 5]), ([6, 5], [6]), ([7], [7]), ([7], [7]), ([9, 7], [7, 9]), ([7], [7]), ([11, 7], [7, 11]), ([7], [7]), ([13, 7, 7], [7, 13]), ([14, 7], [7, 14]), ([10, 12, 15, 14, 7], [7, 10, 12, 15]), ([8, 16, 16, 7], [7, 8, 16]), ([17, 7], [7, 17]), ([7, 18], [7, 18]), ([19, 17], [19]), ([20], [20]), ([20], [20]), ([21, 22, 20, 20], [20, 21, 22]), ([23, 20], [20, 23]), ([24, 23, 20], [20, 24]), ([25], [25]), ([25], [25]), ([26, 27, 25, 25], [25, 26, 27]), ([25, 28, 20], [20, 25, 28]), ([20, 29], [20, 29]), ([30, 28], [30]), ([31], [31]), ([31], [31]), ([31], [31]), ([33, 34, 31, 31], [31, 33, 34]), ([32, 35, 35, 31], [31, 32, 35]), ([31], [31]), ([31], [31]), ([37, 38, 36, 31], [31, 37, 38]), ([39, 39, 31], [31, 39]), ([40], [40]), ([40], [40]), ([41, 42, 40, 40], [40, 41, 42]), ([40, 43, 31], [31, 40, 43]), ([36, 44, 31], [31, 36, 44]), ([31, 45], [31, 45]), ([46, 43, 0, 1, 2, 3, 4, 5, 6, 7, 8, 9, 10, 11, 12, 13, 14, 15, 16, 17, 18, 19, 20, 21, 22, 23, 24, 25, 26, 27, 28, 29, 30, 31, 32, 33, 34, 35, 36, 37, 38, 39, 40, 41, 42, 43, 44, 45, 46], [46])])
def tenementlaw07_StampSeen_p2.B9 : List Nat := [0, 1, 3, 3, 11, 31, 63, 127, 255, 255, 767, 255, 2303, 255, 8447, 24831, 65279, 131071, 262143, 524287, 1048575, 2097151, 2097151, 8388607, 16777215, 33554431, 67108863, 67108863, 268435455, 536870911, 1073741823, 2147483647, 4294967295, 4294967295, 4294967295, 30064771071, 68719476735, 4294967295, 4294967295, 549755813887, 1099511627775, 2199023255551, 2199023255551, 8796093022207, 17592186044415, 35184372088831, 70368744177663, 140737488355327]
theorem tenementlaw07_StampSeen_p2.tab9 : rtab .any (opsOf Tryd.f8 9) = tenementlaw07_StampSeen_p2.T9 := by kernel_rfl
theorem tenementlaw07_StampSeen_p2.bits9 : waitsOk tenementlaw07_StampSeen_p2.T9.2 tenementlaw07_StampSeen_p2.B9 = true := by kernel_rfl
set_option maxHeartbeats 8000000 in
set_option maxRecDepth 100000 in
theorem tenementlaw07_StampSeen_p2.calls (k : Nat) (a0_0 : Int) (a0_1 : Int) (a0_2 : Int) (a0_3 : Int) (a0_4 : Int) (a0_5 : Bool) (a1_0 : Int) (a1_1 : Int) (a1_2 : Int) (a1_3 : Int) (a1_4 : Bool) (a2_0 : Int) (a2_1 : Int) (a2_2 : Int) (a2_3 : Int) (a2_4 : Bool) (r : Bool) (w : World) (h : tenementlaw07_StampSeen_p2.f k a0_0 a0_1 a0_2 a0_3 a0_4 a0_5 a1_0 a1_1 a1_2 a1_3 a1_4 a2_0 a2_1 a2_2 a2_3 a2_4 = some r) :
    Calls Tryd.prog 8 #[.agg #[.int .u64 a0_0, .int .u64 a0_1, .int .u64 a0_2, .int .u64 a0_3, .int .i64 a0_4, .bool a0_5], .agg #[.int .u64 a1_0, .int .u64 a1_1, .int .u64 a1_2, .int .u64 a1_3, .bool a1_4], .agg #[.int .u64 a2_0, .int .u64 a2_1, .int .u64 a2_2, .int .u64 a2_3, .bool a2_4]] w fun e w' => e = .returned (.bool r) ∧ Below w.heap.size w w' := by
  have hu28 := Tryd.underlying28
  have hu30 := Tryd.underlying30
  have hu26 := Tryd.underlying26
  have hu24 := Tryd.underlying24
  have HB := Aside0.mk (Below.refl w.heap.size w)
  have H : ((tenementlaw07_examples.f k).bind fun t790 => (if t790 = true then ((tenementlaw07_Mark_mark.f k a0_0 a0_1 a0_2 a0_3 a0_4 true).bind fun bt791 => ((tenementlaw07_Vector_vector.f k a1_0 a1_1 a1_2 a1_3 a1_4).bind fun bt797 => ((tenementlaw07_Vector_vector.f k a2_0 a2_1 a2_2 a2_3 a2_4).bind fun bt802 => ((vec_Join.f bt797.1 bt797.2.1 bt797.2.2.1 bt797.2.2.2 bt802.1 bt802.2.1 bt802.2.2.1 bt802.2.2.2).bind fun bt807 => ((stamp_Seen.f bt791.1 bt791.2.1 bt791.2.2.1 bt791.2.2.2.1 bt791.2.2.2.2 bt791.1 bt791.2.1 bt791.2.2.1 bt791.2.2.2.1).bind fun t812 => (if t812 = true then ((stamp_Stamp_N.f bt791.1 bt791.2.1 bt791.2.2.1 bt791.2.2.2.1 bt791.2.2.2.2).bind fun t813 => ((vec_With.f bt791.1 bt791.2.1 bt791.2.2.1 bt791.2.2.2.1 bt791.2.2.2.2 (IntKind.u64.wrap (t813 - 1))).bind fun bt814 => ((stamp_Seen.f bt791.1 bt791.2.1 bt791.2.2.1 bt791.2.2.2.1 bt791.2.2.2.2 bt814.1 bt814.2.1 bt814.2.2.1 bt814.2.2.2).bind fun t818 => (if t818 = true then (none) else ((stamp_Seen.f bt791.1 bt791.2.1 bt791.2.2.1 bt791.2.2.2.1 bt791.2.2.2.2 bt797.1 bt797.2.1 bt797.2.2.1 bt797.2.2.2).bind fun t819 => (if t819 = true then (none) else ((vec_Meet.f bt797.1 bt797.2.1 bt797.2.2.1 bt797.2.2.2 bt802.1 bt802.2.1 bt802.2.2.1 bt802.2.2.2).bind fun bt828 => ((stamp_Seen.f bt791.1 bt791.2.1 bt791.2.2.1 bt791.2.2.2.1 bt791.2.2.2.2 bt828.1 bt828.2.1 bt828.2.2.1 bt828.2.2.2).bind fun t832 => ((stamp_Seen.f bt791.1 bt791.2.1 bt791.2.2.1 bt791.2.2.2.1 bt791.2.2.2.2 bt797.1 bt797.2.1 bt797.2.2.1 bt797.2.2.2).bind fun t833 => (if t833 = true then ((stamp_Seen.f bt791.1 bt791.2.1 bt791.2.2.1 bt791.2.2.2.1 bt791.2.2.2.2 bt802.1 bt802.2.1 bt802.2.2.1 bt802.2.2.2).bind fun t834 => (if t832 = t834 then (some true) else (none))) else (none))))))))))) else (none))))))) else (none))) = some r := h
  clear h
  replace H := Option.bind_eq_some_iff.mp H
  obtain ⟨t790, A40, H⟩ := H
  replace H : (if t790 = true then ((tenementlaw07_Mark_mark.f k a0_0 a0_1 a0_2 a0_3 a0_4 true).bind fun bt791 => ((tenementlaw07_Vector_vector.f k a1_0 a1_1 a1_2 a1_3 a1_4).bind fun bt797 => ((tenementlaw07_Vector_vector.f k a2_0 a2_1 a2_2 a2_3 a2_4).bind fun bt802 => ((vec_Join.f bt797.1 bt797.2.1 bt797.2.2.1 bt797.2.2.2 bt802.1 bt802.2.1 bt802.2.2.1 bt802.2.2.2).bind fun bt807 => ((stamp_Seen.f bt791.1 bt791.2.1 bt791.2.2.1 bt791.2.2.2.1 bt791.2.2.2.2 bt791.1 bt791.2.1 bt791.2.2.1 bt791.2.2.2.1).bind fun t812 => (if t812 = true then ((stamp_Stamp_N.f bt791.1 bt791.2.1 bt791.2.2.1 bt791.2.2.2.1 bt791.2.2.2.2).bind fun t813 => ((vec_With.f bt791.1 bt791.2.1 bt791.2.2.1 bt791.2.2.2.1 bt791.2.2.2.2 (IntKind.u64.wrap (t813 - 1))).bind fun bt814 => ((stamp_Seen.f bt791.1 bt791.2.1 bt791.2.2.1 bt791.2.2.2.1 bt791.2.2.2.2 bt814.1 bt814.2.1 bt814.2.2.1 bt814.2.2.2).bind fun t818 => (if t818 = true then (none) else ((stamp_Seen.f bt791.1 bt791.2.1 bt791.2.2.1 bt791.2.2.2.1 bt791.2.2.2.2 bt797.1 bt797.2.1 bt797.2.2.1 bt797.2.2.2).bind fun t819 => (if t819 = true then (none) else ((vec_Meet.f bt797.1 bt797.2.1 bt797.2.2.1 bt797.2.2.2 bt802.1 bt802.2.1 bt802.2.2.1 bt802.2.2.2).bind fun bt828 => ((stamp_Seen.f bt791.1 bt791.2.1 bt791.2.2.1 bt791.2.2.2.1 bt791.2.2.2.2 bt828.1 bt828.2.1 bt828.2.2.1 bt828.2.2.2).bind fun t832 => ((stamp_Seen.f bt791.1 bt791.2.1 bt791.2.2.1 bt791.2.2.2.1 bt791.2.2.2.2 bt797.1 bt797.2.1 bt797.2.2.1 bt797.2.2.2).bind fun t833 => (if t833 = true then ((stamp_Seen.f bt791.1 bt791.2.1 bt791.2.2.1 bt791.2.2.2.1 bt791.2.2.2.2 bt802.1 bt802.2.1 bt802.2.2.1 bt802.2.2.2).bind fun t834 => (if t832 = t834 then (some true) else (none))) else (none))))))))))) else (none))))))) else (none)) = some r := H
  have A4 := Aside0.mk A40
  clear A40
  by_cases c5 : t790 = true
  rotate_left
  · replace c5 := Bool.eq_false_iff.mpr c5
    subst c5
    have H1 : (none) = some r := by rw [if_neg (show ¬ (false = true) by decide)] at H; exact H
    clear H
    have H := H1
    clear H1
    exact absurd H (by simp)
  subst c5
  have H1 : ((tenementlaw07_Mark_mark.f k a0_0 a0_1 a0_2 a0_3 a0_4 true).bind fun bt791 => ((tenementlaw07_Vector_vector.f k a1_0 a1_1 a1_2 a1_3 a1_4).bind fun bt797 => ((tenementlaw07_Vector_vector.f k a2_0 a2_1 a2_2 a2_3 a2_4).bind fun bt802 => ((vec_Join.f bt797.1 bt797.2.1 bt797.2.2.1 bt797.2.2.2 bt802.1 bt802.2.1 bt802.2.2.1 bt802.2.2.2).bind fun bt807 => ((stamp_Seen.f bt791.1 bt791.2.1 bt791.2.2.1 bt791.2.2.2.1 bt791.2.2.2.2 bt791.1 bt791.2.1 bt791.2.2.1 bt791.2.2.2.1).bind fun t812 => (if t812 = true then ((stamp_Stamp_N.f bt791.1 bt791.2.1 bt791.2.2.1 bt791.2.2.2.1 bt791.2.2.2.2).bind fun t813 => ((vec_With.f bt791.1 bt791.2.1 bt791.2.2.1 bt791.2.2.2.1 bt791.2.2.2.2 (IntKind.u64.wrap (t813 - 1))).bind fun bt814 => ((stamp_Seen.f bt791.1 bt791.2.1 bt791.2.2.1 bt791.2.2.2.1 bt791.2.2.2.2 bt814.1 bt814.2.1 bt814.2.2.1 bt814.2.2.2).bind fun t818 => (if t818 = true then (none) else ((stamp_Seen.f bt791.1 bt791.2.1 bt791.2.2.1 bt791.2.2.2.1 bt791.2.2.2.2 bt797.1 bt797.2.1 bt797.2.2.1 bt797.2.2.2).bind fun t819 => (if t819 = true then (none) else ((vec_Meet.f bt797.1 bt797.2.1 bt797.2.2.1 bt797.2.2.2 bt802.1 bt802.2.1 bt802.2.2.1 bt802.2.2.2).bind fun bt828 => ((stamp_Seen.f bt791.1 bt791.2.1 bt791.2.2.1 bt791.2.2.2.1 bt791.2.2.2.2 bt828.1 bt828.2.1 bt828.2.2.1 bt828.2.2.2).bind fun t832 => ((stamp_Seen.f bt791.1 bt791.2.1 bt791.2.2.1 bt791.2.2.2.1 bt791.2.2.2.2 bt797.1 bt797.2.1 bt797.2.2.1 bt797.2.2.2).bind fun t833 => (if t833 = true then ((stamp_Seen.f bt791.1 bt791.2.1 bt791.2.2.1 bt791.2.2.2.1 bt791.2.2.2.2 bt802.1 bt802.2.1 bt802.2.2.1 bt802.2.2.2).bind fun t834 => (if t832 = t834 then (some true) else (none))) else (none))))))))))) else (none))))))) = some r := by rw [if_pos rfl] at H; exact H
  clear H
  have H := H1
  clear H1
  replace H := Option.bind_eq_some_iff.mp H
  obtain ⟨⟨t791, t792, t793, t794, t795⟩, A60, H⟩ := H
  replace H : ((tenementlaw07_Vector_vector.f k a1_0 a1_1 a1_2 a1_3 a1_4).bind fun bt797 => ((tenementlaw07_Vector_vector.f k a2_0 a2_1 a2_2 a2_3 a2_4).bind fun bt802 => ((vec_Join.f bt797.1 bt797.2.1 bt797.2.2.1 bt797.2.2.2 bt802.1 bt802.2.1 bt802.2.2.1 bt802.2.2.2).bind fun bt807 => ((stamp_Seen.f t791 t792 t793 t794 t795 t791 t792 t793 t794).bind fun t812 => (if t812 = true then ((stamp_Stamp_N.f t791 t792 t793 t794 t795).bind fun t813 => ((vec_With.f t791 t792 t793 t794 t795 (IntKind.u64.wrap (t813 - 1))).bind fun bt814 => ((stamp_Seen.f t791 t792 t793 t794 t795 bt814.1 bt814.2.1 bt814.2.2.1 bt814.2.2.2).bind fun t818 => (if t818 = true then (none) else ((stamp_Seen.f t791 t792 t793 t794 t795 bt797.1 bt797.2.1 bt797.2.2.1 bt797.2.2.2).bind fun t819 => (if t819 = true then (none) else ((vec_Meet.f bt797.1 bt797.2.1 bt797.2.2.1 bt797.2.2.2 bt802.1 bt802.2.1 bt802.2.2.1 bt802.2.2.2).bind fun bt828 => ((stamp_Seen.f t791 t792 t793 t794 t795 bt828.1 bt828.2.1 bt828.2.2.1 bt828.2.2.2).bind fun t832 => ((stamp_Seen.f t791 t792 t793 t794 t795 bt797.1 bt797.2.1 bt797.2.2.1 bt797.2.2.2).bind fun t833 => (if t833 = true then ((stamp_Seen.f t791 t792 t793 t794 t795 bt802.1 bt802.2.1 bt802.2.2.1 bt802.2.2.2).bind fun t834 => (if t832 = t834 then (some true) else (none))) else (none))))))))))) else (none)))))) = some r := H
  have A6 := Aside0.mk A60
  clear A60
  replace H := Option.bind_eq_some_iff.mp H
  obtain ⟨⟨t797, t798, t799, t800⟩, A70, H⟩ := H
  replace H : ((tenementlaw07_Vector_vector.f k a2_0 a2_1 a2_2 a2_3 a2_4).bind fun bt802 => ((vec_Join.f t797 t798 t799 t800 bt802.1 bt802.2.1 bt802.2.2.1 bt802.2.2.2).bind fun bt807 => ((stamp_Seen.f t791 t792 t793 t794 t795 t791 t792 t793 t794).bind fun t812 => (if t812 = true then ((stamp_Stamp_N.f t791 t792 t793 t794 t795).bind fun t813 => ((vec_With.f t791 t792 t793 t794 t795 (IntKind.u64.wrap (t813 - 1))).bind fun bt814 => ((stamp_Seen.f t791 t792 t793 t794 t795 bt814.1 bt814.2.1 bt814.2.2.1 bt814.2.2.2).bind fun t818 => (if t818 = true then (none) else ((stamp_Seen.f t791 t792 t793 t794 t795 t797 t798 t799 t800).bind fun t819 => (if t819 = true then (none) else ((vec_Meet.f t797 t798 t799 t800 bt802.1 bt802.2.1 bt802.2.2.1 bt802.2.2.2).bind fun bt828 => ((stamp_Seen.f t791 t792 t793 t794 t795 bt828.1 bt828.2.1 bt828.2.2.1 bt828.2.2.2).bind fun t832 => ((stamp_Seen.f t791 t792 t793 t794 t795 t797 t798 t799 t800).bind fun t833 => (if t833 = true then ((stamp_Seen.f t791 t792 t793 t794 t795 bt802.1 bt802.2.1 bt802.2.2.1 bt802.2.2.2).bind fun t834 => (if t832 = t834 then (some true) else (none))) else (none))))))))))) else (none))))) = some r := H
  have A7 := Aside0.mk A70
  clear A70
  replace H := Option.bind_eq_some_iff.mp H
  obtain ⟨⟨t802, t803, t804, t805⟩, A80, H⟩ := H
  replace H : ((vec_Join.f t797 t798 t799 t800 t802 t803 t804 t805).bind fun bt807 => ((stamp_Seen.f t791 t792 t793 t794 t795 t791 t792 t793 t794).bind fun t812 => (if t812 = true then ((stamp_Stamp_N.f t791 t792 t793 t794 t795).bind fun t813 => ((vec_With.f t791 t792 t793 t794 t795 (IntKind.u64.wrap (t813 - 1))).bind fun bt814 => ((stamp_Seen.f t791 t792 t793 t794 t795 bt814.1 bt814.2.1 bt814.2.2.1 bt814.2.2.2).bind fun t818 => (if t818 = true then (none) else ((stamp_Seen.f t791 t792 t793 t794 t795 t797 t798 t799 t800).bind fun t819 => (if t819 = true then (none) else ((vec_Meet.f t797 t798 t799 t800 t802 t803 t804 t805).bind fun bt828 => ((stamp_Seen.f t791 t792 t793 t794 t795 bt828.1 bt828.2.1 bt828.2.2.1 bt828.2.2.2).bind fun t832 => ((stamp_Seen.f t791 t792 t793 t794 t795 t797 t798 t799 t800).bind fun t833 => (if t833 = true then ((stamp_Seen.f t791 t792 t793 t794 t795 t802 t803 t804 t805).bind fun t834 => (if t832 = t834 then (some true) else (none))) else (none))))))))))) else (none)))) = some r := H
  have A8 := Aside0.mk A80
  clear A80
  replace H := Option.bind_eq_some_iff.mp H
  obtain ⟨⟨t807, t808, t809, t810⟩, A90, H⟩ := H
  replace H : ((stamp_Seen.f t791 t792 t793 t794 t795 t791 t792 t793 t794).bind fun t812 => (if t812 = true then ((stamp_Stamp_N.f t791 t792 t793 t794 t795).bind fun t813 => ((vec_With.f t791 t792 t793 t794 t795 (IntKind.u64.wrap (t813 - 1))).bind fun bt814 => ((stamp_Seen.f t791 t792 t793 t794 t795 bt814.1 bt814.2.1 bt814.2.2.1 bt814.2.2.2).bind fun t818 => (if t818 = true then (none) else ((stamp_Seen.f t791 t792 t793 t794 t795 t797 t798 t799 t800).bind fun t819 => (if t819 = true then (none) else ((vec_Meet.f t797 t798 t799 t800 t802 t803 t804 t805).bind fun bt828 => ((stamp_Seen.f t791 t792 t793 t794 t795 bt828.1 bt828.2.1 bt828.2.2.1 bt828.2.2.2).bind fun t832 => ((stamp_Seen.f t791 t792 t793 t794 t795 t797 t798 t799 t800).bind fun t833 => (if t833 = true then ((stamp_Seen.f t791 t792 t793 t794 t795 t802 t803 t804 t805).bind fun t834 => (if t832 = t834 then (some true) else (none))) else (none))))))))))) else (none))) = some r := H
  have A9 := Aside0.mk A90
  clear A90
  replace H := Option.bind_eq_some_iff.mp H
  obtain ⟨t812, A100, H⟩ := H
  replace H : (if t812 = true then ((stamp_Stamp_N.f t791 t792 t793 t794 t795).bind fun t813 => ((vec_With.f t791 t792 t793 t794 t795 (IntKind.u64.wrap (t813 - 1))).bind fun bt814 => ((stamp_Seen.f t791 t792 t793 t794 t795 bt814.1 bt814.2.1 bt814.2.2.1 bt814.2.2.2).bind fun t818 => (if t818 = true then (none) else ((stamp_Seen.f t791 t792 t793 t794 t795 t797 t798 t799 t800).bind fun t819 => (if t819 = true then (none) else ((vec_Meet.f t797 t798 t799 t800 t802 t803 t804 t805).bind fun bt828 => ((stamp_Seen.f t791 t792 t793 t794 t795 bt828.1 bt828.2.1 bt828.2.2.1 bt828.2.2.2).bind fun t832 => ((stamp_Seen.f t791 t792 t793 t794 t795 t797 t798 t799 t800).bind fun t833 => (if t833 = true then ((stamp_Seen.f t791 t792 t793 t794 t795 t802 t803 t804 t805).bind fun t834 => (if t832 = t834 then (some true) else (none))) else (none))))))))))) else (none)) = some r := H
  have A10 := Aside0.mk A100
  clear A100
  by_cases c11 : t812 = true
  rotate_left
  · replace c11 := Bool.eq_false_iff.mpr c11
    subst c11
    have H1 : (none) = some r := by rw [if_neg (show ¬ (false = true) by decide)] at H; exact H
    clear H
    have H := H1
    clear H1
    exact absurd H (by simp)
  subst c11
  have H1 : ((stamp_Stamp_N.f t791 t792 t793 t794 t795).bind fun t813 => ((vec_With.f t791 t792 t793 t794 t795 (IntKind.u64.wrap (t813 - 1))).bind fun bt814 => ((stamp_Seen.f t791 t792 t793 t794 t795 bt814.1 bt814.2.1 bt814.2.2.1 bt814.2.2.2).bind fun t818 => (if t818 = true then (none) else ((stamp_Seen.f t791 t792 t793 t794 t795 t797 t798 t799 t800).bind fun t819 => (if t819 = true then (none) else ((vec_Meet.f t797 t798 t799 t800 t802 t803 t804 t805).bind fun bt828 => ((stamp_Seen.f t791 t792 t793 t794 t795 bt828.1 bt828.2.1 bt828.2.2.1 bt828.2.2.2).bind fun t832 => ((stamp_Seen.f t791 t792 t793 t794 t795 t797 t798 t799 t800).bind fun t833 => (if t833 = true then ((stamp_Seen.f t791 t792 t793 t794 t795 t802 t803 t804 t805).bind fun t834 => (if t832 = t834 then (some true) else (none))) else (none))))))))))) = some r := by rw [if_pos rfl] at H; exact H
  clear H
  have H := H1
  clear H1
  replace H := Option.bind_eq_some_iff.mp H
  obtain ⟨t813, A120, H⟩ := H
  replace H : ((vec_With.f t791 t792 t793 t794 t795 (IntKind.u64.wrap (t813 - 1))).bind fun bt814 => ((stamp_Seen.f t791 t792 t793 t794 t795 bt814.1 bt814.2.1 bt814.2.2.1 bt814.2.2.2).bind fun t818 => (if t818 = true then (none) else ((stamp_Seen.f t791 t792 t793 t794 t795 t797 t798 t799 t800).bind fun t819 => (if t819 = true then (none) else ((vec_Meet.f t797 t798 t799 t800 t802 t803 t804 t805).bind fun bt828 => ((stamp_Seen.f t791 t792 t793 t794 t795 bt828.1 bt828.2.1 bt828.2.2.1 bt828.2.2.2).bind fun t832 => ((stamp_Seen.f t791 t792 t793 t794 t795 t797 t798 t799 t800).bind fun t833 => (if t833 = true then ((stamp_Seen.f t791 t792 t793 t794 t795 t802 t803 t804 t805).bind fun t834 => (if t832 = t834 then (some true) else (none))) else (none)))))))))) = some r := H
  have A12 := Aside0.mk A120
  clear A120
  replace H := Option.bind_eq_some_iff.mp H
  obtain ⟨⟨t814, t815, t816, t817⟩, A130, H⟩ := H
  replace H : ((stamp_Seen.f t791 t792 t793 t794 t795 t814 t815 t816 t817).bind fun t818 => (if t818 = true then (none) else ((stamp_Seen.f t791 t792 t793 t794 t795 t797 t798 t799 t800).bind fun t819 => (if t819 = true then (none) else ((vec_Meet.f t797 t798 t799 t800 t802 t803 t804 t805).bind fun bt828 => ((stamp_Seen.f t791 t792 t793 t794 t795 bt828.1 bt828.2.1 bt828.2.2.1 bt828.2.2.2).bind fun t832 => ((stamp_Seen.f t791 t792 t793 t794 t795 t797 t798 t799 t800).bind fun t833 => (if t833 = true then ((stamp_Seen.f t791 t792 t793 t794 t795 t802 t803 t804 t805).bind fun t834 => (if t832 = t834 then (some true) else (none))) else (none))))))))) = some r := H
  have A13 := Aside0.mk A130
  clear A130
  replace H := Option.bind_eq_some_iff.mp H
  obtain ⟨t818, A140, H⟩ := H
  replace H : (if t818 = true then (none) else ((stamp_Seen.f t791 t792 t793 t794 t795 t797 t798 t799 t800).bind fun t819 => (if t819 = true then (none) else ((vec_Meet.f t797 t798 t799 t800 t802 t803 t804 t805).bind fun bt828 => ((stamp_Seen.f t791 t792 t793 t794 t795 bt828.1 bt828.2.1 bt828.2.2.1 bt828.2.2.2).bind fun t832 => ((stamp_Seen.f t791 t792 t793 t794 t795 t797 t798 t799 t800).bind fun t833 => (if t833 = true then ((stamp_Seen.f t791 t792 t793 t794 t795 t802 t803 t804 t805).bind fun t834 => (if t832 = t834 then (some true) else (none))) else (none)))))))) = some r := H
  have A14 := Aside0.mk A140
  clear A140
  by_cases c15 : t818 = true
  · subst c15
    have H1 : (none) = some r := by rw [if_pos rfl] at H; exact H
    clear H
    have H := H1
    clear H1
    exact absurd H (by simp)
  replace c15 := Bool.eq_false_iff.mpr c15
  subst c15
  have H1 : ((stamp_Seen.f t791 t792 t793 t794 t795 t797 t798 t799 t800).bind fun t819 => (if t819 = true then (none) else ((vec_Meet.f t797 t798 t799 t800 t802 t803 t804 t805).bind fun bt828 => ((stamp_Seen.f t791 t792 t793 t794 t795 bt828.1 bt828.2.1 bt828.2.2.1 bt828.2.2.2).bind fun t832 => ((stamp_Seen.f t791 t792 t793 t794 t795 t797 t798 t799 t800).bind fun t833 => (if t833 = true then ((stamp_Seen.f t791 t792 t793 t794 t795 t802 t803 t804 t805).bind fun t834 => (if t832 = t834 then (some true) else (none))) else (none))))))) = some r := by rw [if_neg (show ¬ (false = true) by decide)] at H; exact H
  clear H
  have H := H1
  clear H1
  replace H := Option.bind_eq_some_iff.mp H
  obtain ⟨t819, A160, H⟩ := H
  replace H : (if t819 = true then (none) else ((vec_Meet.f t797 t798 t799 t800 t802 t803 t804 t805).bind fun bt828 => ((stamp_Seen.f t791 t792 t793 t794 t795 bt828.1 bt828.2.1 bt828.2.2.1 bt828.2.2.2).bind fun t832 => ((stamp_Seen.f t791 t792 t793 t794 t795 t797 t798 t799 t800).bind fun t833 => (if t833 = true then ((stamp_Seen.f t791 t792 t793 t794 t795 t802 t803 t804 t805).bind fun t834 => (if t832 = t834 then (some true) else (none))) else (none)))))) = some r := H
  have A16 := Aside0.mk A160
  clear A160
  by_cases c17 : t819 = true
  · subst c17
    have H1 : (none) = some r := by rw [if_pos rfl] at H; exact H
    clear H
    have H := H1
    clear H1
    exact absurd H (by simp)
  replace c17 := Bool.eq_false_iff.mpr c17
  subst c17
  have H1 : ((vec_Meet.f t797 t798 t799 t800 t802 t803 t804 t805).bind fun bt828 => ((stamp_Seen.f t791 t792 t793 t794 t795 bt828.1 bt828.2.1 bt828.2.2.1 bt828.2.2.2).bind fun t832 => ((stamp_Seen.f t791 t792 t793 t794 t795 t797 t798 t799 t800).bind fun t833 => (if t833 = true then ((stamp_Seen.f t791 t792 t793 t794 t795 t802 t803 t804 t805).bind fun t834 => (if t832 = t834 then (some true) else (none))) else (none))))) = some r := by rw [if_neg (show ¬ (false = true) by decide)] at H; exact H
  clear H
  have H := H1
  clear H1
  replace H := Option.bind_eq_some_iff.mp H
  obtain ⟨⟨t828, t829, t830, t831⟩, A180, H⟩ := H
  replace H : ((stamp_Seen.f t791 t792 t793 t794 t795 t828 t829 t830 t831).bind fun t832 => ((stamp_Seen.f t791 t792 t793 t794 t795 t797 t798 t799 t800).bind fun t833 => (if t833 = true then ((stamp_Seen.f t791 t792 t793 t794 t795 t802 t803 t804 t805).bind fun t834 => (if t832 = t834 then (some true) else (none))) else (none)))) = some r := H
  have A18 := Aside0.mk A180
  clear A180
  replace H := Option.bind_eq_some_iff.mp H
  obtain ⟨t832, A190, H⟩ := H
  replace H : ((stamp_Seen.f t791 t792 t793 t794 t795 t797 t798 t799 t800).bind fun t833 => (if t833 = true then ((stamp_Seen.f t791 t792 t793 t794 t795 t802 t803 t804 t805).bind fun t834 => (if t832 = t834 then (some true) else (none))) else (none))) = some r := H
  have A19 := Aside0.mk A190
  clear A190
  replace H := Option.bind_eq_some_iff.mp H
  obtain ⟨t833, A200, H⟩ := H
  replace H : (if t833 = true then ((stamp_Seen.f t791 t792 t793 t794 t795 t802 t803 t804 t805).bind fun t834 => (if t832 = t834 then (some true) else (none))) else (none)) = some r := H
  have A20 := Aside0.mk A200
  clear A200
  by_cases c21 : t833 = true
  rotate_left
  · replace c21 := Bool.eq_false_iff.mpr c21
    subst c21
    have H1 : (none) = some r := by rw [if_neg (show ¬ (false = true) by decide)] at H; exact H
    clear H
    have H := H1
    clear H1
    exact absurd H (by simp)
  subst c21
  have H1 : ((stamp_Seen.f t791 t792 t793 t794 t795 t802 t803 t804 t805).bind fun t834 => (if t832 = t834 then (some true) else (none))) = some r := by rw [if_pos rfl] at H; exact H
  clear H
  have H := H1
  clear H1
  replace H := Option.bind_eq_some_iff.mp H
  obtain ⟨t834, A220, H⟩ := H
  replace H : (if t832 = t834 then (some true) else (none)) = some r := H
  have A22 := Aside0.mk A220
  clear A220
  by_cases c23 : t832 = t834
  rotate_left
  · rw [if_neg c23] at H
    exact absurd H (by simp)
  subst c23
  have H1 : (some true) = some r := by rw [if_pos rfl] at H; exact H
  clear H
  have H := H1
  clear H1
  obtain rfl := Option.some.inj H
  go_enter Tryd.func8, Tryd.ntmps8
  try go_wp2_with (first | ((with_reducible refine gate_dst (N := 3) rfl ?_); refine box_event ?hg (N := 3) ?hd (cs := #[.int .u64 a0_0, .int .u64 a0_1, .int .u64 a0_2, .int .u64 a0_3, .int .i64 a0_4, .bool a0_5]) (t := 28) ?hr ?_; (case hd => rfl); (case hg => rfl); (case hr => first | (go_simp; done) | (go_simp; rfl)); intro gb787 hg w24 hbox hb; have BK787 := Aside0.mk (hbox); have GW787 := Kw_ HB hg; have GE787 := GW787; replace HB := Ks_ HB hb; clear hb hbox hg) | ((with_reducible refine gate_dst (N := 4) rfl ?_); refine box_event ?hg (N := 4) ?hd (cs := #[.int .u64 a1_0, .int .u64 a1_1, .int .u64 a1_2, .int .u64 a1_3, .bool a1_4]) (t := 30) ?hr ?_; (case hd => rfl); (case hg => rfl); (case hr => first | (go_simp; done) | (go_simp; rfl)); intro gb788 hg w25 hbox hb; have BK788 := Aside0.mk (hbox); have GW788 := Kw_ HB hg; have GE788 := GW788; have NB787_788 := Kl_ BK787 hg; have NB788_787 := Kr_ BK787 hg; replace BK787 := Kb_ BK787 hb; replace HB := Ks_ HB hb; clear hb hbox hg) | ((with_reducible refine gate_dst (N := 5) rfl ?_); refine box_event ?hg (N := 5) ?hd (cs := #[.int .u64 a2_0, .int .u64 a2_1, .int .u64 a2_2, .int .u64 a2_3, .bool a2_4]) (t := 30) ?hr ?_; (case hd => rfl); (case hg => rfl); (case hr => first | (go_simp; done) | (go_simp; rfl)); intro gb789 hg w26 hbox hb; have BK789 := Aside0.mk (hbox); have GW789 := Kw_ HB hg; have GE789 := GW789; have NB787_789 := Kl_ BK787 hg; have NB789_787 := Kr_ BK787 hg; have NB788_789 := Kl_ BK788 hg; have NB789_788 := Kr_ BK788 hg; replace BK787 := Kb_ BK787 hb; replace BK788 := Kb_ BK788 hb; replace HB := Ks_ HB hb; clear hb hbox hg) | ((with_reducible refine gate_callee (f := 9) rfl ?_); refine goesL_ (some 12) rfl rfl Tryd.func9 (by kernel_rfl) rfl #[] rfl (by (try simp only [List.map_toArray, List.map_cons, List.map_nil]); first | done | rfl | (simp only [List.length_drop, List.length_take]; rfl)) ?_; (with_reducible refine (tenementlaw07_examples.calls k  true _ A4.out).mono ?_); rintro e w27 ⟨rfl, hb⟩; refine ⟨_, rfl, ?_⟩; replace BK787 := Kb_ BK787 hb; replace BK788 := Kb_ BK788 hb; replace BK789 := Kb_ BK789 hb; replace HB := Ks_ HB hb; (try clear hb); (try clear hb2); (try clear hk); (try clear hi); have hnb28 := NB787_788.out; have hnc28 := NB788_787.out; have hnb29 := NB787_789.out; have hnc29 := NB789_787.out; have hcz30_0 : w27.cell? ⟨gb787, 0, none⟩ = some (.int .u64 a0_0) := (blk_cell BK787.out 0).trans rfl; have hcz30_1 : w27.cell? ⟨gb787, 1, none⟩ = some (.int .u64 a0_1) := (blk_cell BK787.out 1).trans rfl; have hcz30_2 : w27.cell? ⟨gb787, 2, none⟩ = some (.int .u64 a0_2) := (blk_cell BK787.out 2).trans rfl; have hcz30_3 : w27.cell? ⟨gb787, 3, none⟩ = some (.int .u64 a0_3) := (blk_cell BK787.out 3).trans rfl; have hcz30_4 : w27.cell? ⟨gb787, 4, none⟩ = some (.int .i64 a0_4) := (blk_cell BK787.out 4).trans rfl; have hcz30_5 : w27.cell? ⟨gb787, 5, none⟩ = some (.bool a0_5) := (blk_cell BK787.out 5).trans rfl; have hfz30_0 := blk_frozen BK787.out 0; have hfz30_1 := blk_frozen BK787.out 1; have hfz30_2 := blk_frozen BK787.out 2; have hfz30_3 := blk_frozen BK787.out 3; have hfz30_4 := blk_frozen BK787.out 4; have hfz30_5 := blk_frozen BK787.out 5) | ((with_reducible refine gate_callee (f := 10) rfl ?_); refine goesL_ (some 17) rfl rfl Tryd.func10 (by kernel_rfl) rfl #[.agg #[.int .u64 a0_0, .int .u64 a0_1, .int .u64 a0_2, .int .u64 a0_3, .int .i64 a0_4, .bool true]] rfl (by (try simp only [List.map_toArray, List.map_cons, List.map_nil]); first | done | rfl | (simp only [List.length_drop, List.length_take]; rfl)) ?_; (with_reducible refine (tenementlaw07_Mark_mark.calls k a0_0 a0_1 a0_2 a0_3 a0_4 true t791 t792 t793 t794 t795 _ A6.out).mono ?_); rintro e w31 ⟨rfl, hb⟩; refine ⟨_, rfl, ?_⟩; replace BK787 := Aside0.mk (blk_below (g := gb787) (o := .cells #[.int .u64 a0_0, .int .u64 a0_1, .int .u64 a0_2, .int .u64 a0_3, .int .i64 a0_4, .bool true] 28 (0, 0)) (by (with_reducible repeat (first | refine blk_drewN ?_ _ | refine blk_drew ?_ | refine blk_alloc ?_ _)); refine blk_put (cs := #[.int .u64 a0_0, .int .u64 a0_1, .int .u64 a0_2, .int .u64 a0_3, .int .i64 a0_4, .bool a0_5]) ?_ 5 _ rfl; (with_reducible repeat (first | refine blk_drewN ?_ _ | refine blk_drew ?_ | refine blk_alloc ?_ _)); exact BK787.out) hb); replace BK788 := Kf_ BK788 NB788_787 hb; replace BK789 := Kf_ BK789 NB789_787 hb; replace HB := Kt_ HB GE787 hb; (try clear hb); (try clear hb2); (try clear hk); (try clear hi)) | ((with_reducible refine gate_dst (N := 8) rfl ?_); refine box_event ?hg (N := 8) ?hd (cs := #[.int .u64 0, .int .u64 0, .int .u64 0, .int .u64 0, .int .i64 0]) (t := 26) ?hr ?_; (case hd => rfl); (case hg => rfl); (case hr => first | (go_simp; done) | (go_simp; rfl)); intro gb796 hg w32 hbox hb; have BK796 := Aside0.mk (hbox); have GW796 := Kw_ HB hg; have GE796 := GW796; have NB787_796 := Kl_ BK787 hg; have NB796_787 := Kr_ BK787 hg; have NB788_796 := Kl_ BK788 hg; have NB796_788 := Kr_ BK788 hg; have NB789_796 := Kl_ BK789 hg; have NB796_789 := Kr_ BK789 hg; replace BK787 := Kb_ BK787 hb; replace BK788 := Kb_ BK788 hb; replace BK789 := Kb_ BK789 hb; replace HB := Ks_ HB hb; clear hb hbox hg; have hnb33 := NB796_787.out; have hnc33 := NB787_796.out; have hnb34 := NB796_788.out; have hnc34 := NB788_796.out; have hnb35 := NB796_789.out; have hnc35 := NB789_796.out; have hcz36_0 : w32.cell? ⟨gb796, 0, none⟩ = some (.int .u64 0) := (blk_cell BK796.out 0).trans rfl; have hcz36_1 : w32.cell? ⟨gb796, 1, none⟩ = some (.int .u64 0) := (blk_cell BK796.out 1).trans rfl; have hcz36_2 : w32.cell? ⟨gb796, 2, none⟩ = some (.int .u64 0) := (blk_cell BK796.out 2).trans rfl; have hcz36_3 : w32.cell? ⟨gb796, 3, none⟩ = some (.int .u64 0) := (blk_cell BK796.out 3).trans rfl; have hcz36_4 : w32.cell? ⟨gb796, 4, none⟩ = some (.int .i64 0) := (blk_cell BK796.out 4).trans rfl; have hfz36_0 := blk_frozen BK796.out 0; have hfz36_1 := blk_frozen BK796.out 1; have hfz36_2 := blk_frozen BK796.out 2; have hfz36_3 := blk_frozen BK796.out 3; have hfz36_4 := blk_frozen BK796.out 4; have hnb37 := NB788_789.out; have hnc37 := NB789_788.out; have hcz38_0 : w32.cell? ⟨gb788, 0, none⟩ = some (.int .u64 a1_0) := (blk_cell BK788.out 0).trans rfl; have hcz38_1 : w32.cell? ⟨gb788, 1, none⟩ = some (.int .u64 a1_1) := (blk_cell BK788.out 1).trans rfl; have hcz38_2 : w32.cell? ⟨gb788, 2, none⟩ = some (.int .u64 a1_2) := (blk_cell BK788.out 2).trans rfl; have hcz38_3 : w32.cell? ⟨gb788, 3, none⟩ = some (.int .u64 a1_3) := (blk_cell BK788.out 3).trans rfl; have hcz38_4 : w32.cell? ⟨gb788, 4, none⟩ = some (.bool a1_4) := (blk_cell BK788.out 4).trans rfl; have hfz38_0 := blk_frozen BK788.out 0; have hfz38_1 := blk_frozen BK788.out 1; have hfz38_2 := blk_frozen BK788.out 2; have hfz38_3 := blk_frozen BK788.out 3; have hfz38_4 := blk_frozen BK788.out 4) | ((with_reducible refine gate_callee (f := 11) rfl ?_); refine goesL_ (some 19) rfl rfl Tryd.func11 (by kernel_rfl) rfl #[.agg #[.int .u64 a1_0, .int .u64 a1_1, .int .u64 a1_2, .int .u64 a1_3, .bool a1_4]] rfl (by (try simp only [List.map_toArray, List.map_cons, List.map_nil]); first | done | rfl | (simp only [List.length_drop, List.length_take]; rfl)) ?_; (with_reducible refine (tenementlaw07_Vector_vector.calls k a1_0 a1_1 a1_2 a1_3 a1_4 t797 t798 t799 t800 _ A7.out).mono ?_); rintro e w39 ⟨rfl, hb⟩; refine ⟨_, rfl, ?_⟩; replace BK787 := Kf_ BK787 NB787_796 hb; replace BK788 := Kf_ BK788 NB788_796 hb; replace BK789 := Kf_ BK789 NB789_796 hb; replace BK796 := Aside0.mk (blk_below (g := gb796) (o := .cells #[.int .u64 t791, .int .u64 t792, .int .u64 t793, .int .u64 t794, .int .i64 t795] 26 (0, 0)) (by (with_reducible repeat (first | refine blk_drewN ?_ _ | refine blk_drew ?_ | refine blk_alloc ?_ _)); refine blk_put (cs := #[.int .u64 t791, .int .u64 t792, .int .u64 t793, .int .u64 t794, .int .i64 0]) ?_ 4 _ rfl; (with_reducible repeat (first | refine blk_drewN ?_ _ | refine blk_drew ?_ | refine blk_alloc ?_ _)); refine blk_put (cs := #[.int .u64 t791, .int .u64 t792, .int .u64 t793, .int .u64 0, .int .i64 0]) ?_ 3 _ rfl; (with_reducible repeat (first | refine blk_drewN ?_ _ | refine blk_drew ?_ | refine blk_alloc ?_ _)); refine blk_put (cs := #[.int .u64 t791, .int .u64 t792, .int .u64 0, .int .u64 0, .int .i64 0]) ?_ 2 _ rfl; (with_reducible repeat (first | refine blk_drewN ?_ _ | refine blk_drew ?_ | refine blk_alloc ?_ _)); refine blk_put (cs := #[.int .u64 t791, .int .u64 0, .int .u64 0, .int .u64 0, .int .i64 0]) ?_ 1 _ rfl; (with_reducible repeat (first | refine blk_drewN ?_ _ | refine blk_drew ?_ | refine blk_alloc ?_ _)); refine blk_put (cs := #[.int .u64 0, .int .u64 0, .int .u64 0, .int .u64 0, .int .i64 0]) ?_ 0 _ rfl; (with_reducible repeat (first | refine blk_drewN ?_ _ | refine blk_drew ?_ | refine blk_alloc ?_ _)); exact BK796.out) hb); replace HB := Kt_ HB GE796 hb; (try clear hb); (try clear hb2); (try clear hk); (try clear hi)) | ((with_reducible refine gate_dst (N := 9) rfl ?_); refine box_event ?hg (N := 9) ?hd (cs := #[.int .u64 0, .int .u64 0, .int .u64 0, .int .u64 0]) (t := 24) ?hr ?_; (case hd => rfl); (case hg => rfl); (case hr => first | (go_simp; done) | (go_simp; rfl)); intro gb801 hg w40 hbox hb; have BK801 := Aside0.mk (hbox); have GW801 := Kw_ HB hg; have GE801 := GW801; have NB787_801 := Kl_ BK787 hg; have NB801_787 := Kr_ BK787 hg; have NB788_801 := Kl_ BK788 hg; have NB801_788 := Kr_ BK788 hg; have NB789_801 := Kl_ BK789 hg; have NB801_789 := Kr_ BK789 hg; have NB796_801 := Kl_ BK796 hg; have NB801_796 := Kr_ BK796 hg; replace BK787 := Kb_ BK787 hb; replace BK788 := Kb_ BK788 hb; replace BK789 := Kb_ BK789 hb; replace BK796 := Kb_ BK796 hb; replace HB := Ks_ HB hb; clear hb hbox hg; have hnb41 := NB801_787.out; have hnc41 := NB787_801.out; have hnb42 := NB801_788.out; have hnc42 := NB788_801.out; have hnb43 := NB801_789.out; have hnc43 := NB789_801.out; have hnb44 := NB801_796.out; have hnc44 := NB796_801.out; have hcz45_0 : w40.cell? ⟨gb801, 0, none⟩ = some (.int .u64 0) := (blk_cell BK801.out 0).trans rfl; have hcz45_1 : w40.cell? ⟨gb801, 1, none⟩ = some (.int .u64 0) := (blk_cell BK801.out 1).trans rfl; have hcz45_2 : w40.cell? ⟨gb801, 2, none⟩ = some (.int .u64 0) := (blk_cell BK801.out 2).trans rfl; have hcz45_3 : w40.cell? ⟨gb801, 3, none⟩ = some (.int .u64 0) := (blk_cell BK801.out 3).trans rfl; have hfz45_0 := blk_frozen BK801.out 0; have hfz45_1 := blk_frozen BK801.out 1; have hfz45_2 := blk_frozen BK801.out 2; have hfz45_3 := blk_frozen BK801.out 3; have hcz46_0 : w40.cell? ⟨gb789, 0, none⟩ = some (.int .u64 a2_0) := (blk_cell BK789.out 0).trans rfl; have hcz46_1 : w40.cell? ⟨gb789, 1, none⟩ = some (.int .u64 a2_1) := (blk_cell BK789.out 1).trans rfl; have hcz46_2 : w40.cell? ⟨gb789, 2, none⟩ = some (.int .u64 a2_2) := (blk_cell BK789.out 2).trans rfl; have hcz46_3 : w40.cell? ⟨gb789, 3, none⟩ = some (.int .u64 a2_3) := (blk_cell BK789.out 3).trans rfl; have hcz46_4 : w40.cell? ⟨gb789, 4, none⟩ = some (.bool a2_4) := (blk_cell BK789.out 4).trans rfl; have hfz46_0 := blk_frozen BK789.out 0; have hfz46_1 := blk_frozen BK789.out 1; have hfz46_2 := blk_frozen BK789.out 2; have hfz46_3 := blk_frozen BK789.out 3; have hfz46_4 := blk_frozen BK789.out 4) | ((with_reducible refine gate_callee (f := 11) rfl ?_); refine goesL_ (some 21) rfl rfl Tryd.func11 (by kernel_rfl) rfl #[.agg #[.int .u64 a2_0, .int .u64 a2_1, .int .u64 a2_2, .int .u64 a2_3, .bool a2_4]] rfl (by (try simp only [List.map_toArray, List.map_cons, List.map_nil]); first | done | rfl | (simp only [List.length_drop, List.length_take]; rfl)) ?_; (with_reducible refine (tenementlaw07_Vector_vector.calls k a2_0 a2_1 a2_2 a2_3 a2_4 t802 t803 t804 t805 _ A8.out).mono ?_); rintro e w47 ⟨rfl, hb⟩; refine ⟨_, rfl, ?_⟩; replace BK787 := Kf_ BK787 NB787_801 hb; replace BK788 := Kf_ BK788 NB788_801 hb; replace BK789 := Kf_ BK789 NB789_801 hb; replace BK796 := Kf_ BK796 NB796_801 hb; replace BK801 := Aside0.mk (blk_below (g := gb801) (o := .cells #[.int .u64 t797, .int .u64 t798, .int .u64 t799, .int .u64 t800] 24 (0, 0)) (by (with_reducible repeat (first | refine blk_drewN ?_ _ | refine blk_drew ?_ | refine blk_alloc ?_ _)); refine blk_put (cs := #[.int .u64 t797, .int .u64 t798, .int .u64 t799, .int .u64 0]) ?_ 3 _ rfl; (with_reducible repeat (first | refine blk_drewN ?_ _ | refine blk_drew ?_ | refine blk_alloc ?_ _)); refine blk_put (cs := #[.int .u64 t797, .int .u64 t798, .int .u64 0, .int .u64 0]) ?_ 2 _ rfl; (with_reducible repeat (first | refine blk_drewN ?_ _ | refine blk_drew ?_ | refine blk_alloc ?_ _)); refine blk_put (cs := #[.int .u64 t797, .int .u64 0, .int .u64 0, .int .u64 0]) ?_ 1 _ rfl; (with_reducible repeat (first | refine blk_drewN ?_ _ | refine blk_drew ?_ | refine blk_alloc ?_ _)); refine blk_put (cs := #[.int .u64 0, .int .u64 0, .int .u64 0, .int .u64 0]) ?_ 0 _ rfl; (with_reducible repeat (first | refine blk_drewN ?_ _ | refine blk_drew ?_ | refine blk_alloc ?_ _)); exact BK801.out) hb); replace HB := Kt_ HB GE801 hb; (try clear hb); (try clear hb2); (try clear hk); (try clear hi)) | ((with_reducible refine gate_dst (N := 10) rfl ?_); refine box_event ?hg (N := 10) ?hd (cs := #[.int .u64 0, .int .u64 0, .int .u64 0, .int .u64 0]) (t := 24) ?hr ?_; (case hd => rfl); (case hg => rfl); (case hr => first | (go_simp; done) | (go_simp; rfl)); intro gb806 hg w48 hbox hb; have BK806 := Aside0.mk (hbox); have GW806 := Kw_ HB hg; have GE806 := GW806; have NB787_806 := Kl_ BK787 hg; have NB806_787 := Kr_ BK787 hg; have NB788_806 := Kl_ BK788 hg; have NB806_788 := Kr_ BK788 hg; have NB789_806 := Kl_ BK789 hg; have NB806_789 := Kr_ BK789 hg; have NB796_806 := Kl_ BK796 hg; have NB806_796 := Kr_ BK796 hg; have NB801_806 := Kl_ BK801 hg; have NB806_801 := Kr_ BK801 hg; replace BK787 := Kb_ BK787 hb; replace BK788 := Kb_ BK788 hb; replace BK789 := Kb_ BK789 hb; replace BK796 := Kb_ BK796 hb; replace BK801 := Kb_ BK801 hb; replace HB := Ks_ HB hb; clear hb hbox hg; have hnb49 := NB806_787.out; have hnc49 := NB787_806.out; have hnb50 := NB806_788.out; have hnc50 := NB788_806.out; have hnb51 := NB806_789.out; have hnc51 := NB789_806.out; have hnb52 := NB806_796.out; have hnc52 := NB796_806.out; have hnb53 := NB806_801.out; have hnc53 := NB801_806.out; have hcz54_0 : w48.cell? ⟨gb806, 0, none⟩ = some (.int .u64 0) := (blk_cell BK806.out 0).trans rfl; have hcz54_1 : w48.cell? ⟨gb806, 1, none⟩ = some (.int .u64 0) := (blk_cell BK806.out 1).trans rfl; have hcz54_2 : w48.cell? ⟨gb806, 2, none⟩ = some (.int .u64 0) := (blk_cell BK806.out 2).trans rfl; have hcz54_3 : w48.cell? ⟨gb806, 3, none⟩ = some (.int .u64 0) := (blk_cell BK806.out 3).trans rfl; have hfz54_0 := blk_frozen BK806.out 0; have hfz54_1 := blk_frozen BK806.out 1; have hfz54_2 := blk_frozen BK806.out 2; have hfz54_3 := blk_frozen BK806.out 3; have hcz55_0 : w48.cell? ⟨gb801, 0, none⟩ = some (.int .u64 t797) := (blk_cell BK801.out 0).trans rfl; have hcz55_1 : w48.cell? ⟨gb801, 1, none⟩ = some (.int .u64 t798) := (blk_cell BK801.out 1).trans rfl; have hcz55_2 : w48.cell? ⟨gb801, 2, none⟩ = some (.int .u64 t799) := (blk_cell BK801.out 2).trans rfl; have hcz55_3 : w48.cell? ⟨gb801, 3, none⟩ = some (.int .u64 t800) := (blk_cell BK801.out 3).trans rfl; have hfz55_0 := blk_frozen BK801.out 0; have hfz55_1 := blk_frozen BK801.out 1; have hfz55_2 := blk_frozen BK801.out 2; have hfz55_3 := blk_frozen BK801.out 3) | ((with_reducible refine gate_callee (f := 32) rfl ?_); refine goesL_ (some 24) rfl rfl Tryd.func32 (by kernel_rfl) rfl #[.agg #[.int .u64 t797, .int .u64 t798, .int .u64 t799, .int .u64 t800], .agg #[.int .u64 t802, .int .u64 t803, .int .u64 t804, .int .u64 t805]] rfl (by (try simp only [List.map_toArray, List.map_cons, List.map_nil]); first | done | rfl | (simp only [List.length_drop, List.length_take]; rfl)) ?_; (with_reducible refine (vec_Join.calls t797 t798 t799 t800 t802 t803 t804 t805 t807 t808 t809 t810 _ A9.out).mono ?_); rintro e w56 ⟨rfl, hb⟩; refine ⟨_, rfl, ?_⟩; replace BK787 := Kf_ BK787 NB787_806 hb; replace BK788 := Kf_ BK788 NB788_806 hb; replace BK789 := Kf_ BK789 NB789_806 hb; replace BK796 := Kf_ BK796 NB796_806 hb; replace BK801 := Kf_ BK801 NB801_806 hb; replace BK806 := Aside0.mk (blk_below (g := gb806) (o := .cells #[.int .u64 t802, .int .u64 t803, .int .u64 t804, .int .u64 t805] 24 (0, 0)) (by (with_reducible repeat (first | refine blk_drewN ?_ _ | refine blk_drew ?_ | refine blk_alloc ?_ _)); refine blk_put (cs := #[.int .u64 t802, .int .u64 t803, .int .u64 t804, .int .u64 0]) ?_ 3 _ rfl; (with_reducible repeat (first | refine blk_drewN ?_ _ | refine blk_drew ?_ | refine blk_alloc ?_ _)); refine blk_put (cs := #[.int .u64 t802, .int .u64 t803, .int .u64 0, .int .u64 0]) ?_ 2 _ rfl; (with_reducible repeat (first | refine blk_drewN ?_ _ | refine blk_drew ?_ | refine blk_alloc ?_ _)); refine blk_put (cs := #[.int .u64 t802, .int .u64 0, .int .u64 0, .int .u64 0]) ?_ 1 _ rfl; (with_reducible repeat (first | refine blk_drewN ?_ _ | refine blk_drew ?_ | refine blk_alloc ?_ _)); refine blk_put (cs := #[.int .u64 0, .int .u64 0, .int .u64 0, .int .u64 0]) ?_ 0 _ rfl; (with_reducible repeat (first | refine blk_drewN ?_ _ | refine blk_drew ?_ | refine blk_alloc ?_ _)); exact BK806.out) hb); replace HB := Kt_ HB GE806 hb; (try clear hb); (try clear hb2); (try clear hk); (try clear hi)) | ((with_reducible refine gate_dst (N := 11) rfl ?_); refine box_event ?hg (N := 11) ?hd (cs := #[.int .u64 0, .int .u64 0, .int .u64 0, .int .u64 0]) (t := 24) ?hr ?_; (case hd => rfl); (case hg => rfl); (case hr => first | (go_simp; done) | (go_simp; rfl)); intro gb811 hg w57 hbox hb; have BK811 := Aside0.mk (hbox); have GW811 := Kw_ HB hg; have GE811 := GW811; have NB787_811 := Kl_ BK787 hg; have NB811_787 := Kr_ BK787 hg; have NB788_811 := Kl_ BK788 hg; have NB811_788 := Kr_ BK788 hg; have NB789_811 := Kl_ BK789 hg; have NB811_789 := Kr_ BK789 hg; have NB796_811 := Kl_ BK796 hg; have NB811_796 := Kr_ BK796 hg; have NB801_811 := Kl_ BK801 hg; have NB811_801 := Kr_ BK801 hg; have NB806_811 := Kl_ BK806 hg; have NB811_806 := Kr_ BK806 hg; replace BK787 := Kb_ BK787 hb; replace BK788 := Kb_ BK788 hb; replace BK789 := Kb_ BK789 hb; replace BK796 := Kb_ BK796 hb; replace BK801 := Kb_ BK801 hb; replace BK806 := Kb_ BK806 hb; replace HB := Ks_ HB hb; clear hb hbox hg; have hnb58 := NB811_787.out; have hnc58 := NB787_811.out; have hnb59 := NB811_788.out; have hnc59 := NB788_811.out; have hnb60 := NB811_789.out; have hnc60 := NB789_811.out; have hnb61 := NB811_796.out; have hnc61 := NB796_811.out; have hnb62 := NB811_801.out; have hnc62 := NB801_811.out; have hnb63 := NB811_806.out; have hnc63 := NB806_811.out; have hcz64_0 : w57.cell? ⟨gb811, 0, none⟩ = some (.int .u64 0) := (blk_cell BK811.out 0).trans rfl; have hcz64_1 : w57.cell? ⟨gb811, 1, none⟩ = some (.int .u64 0) := (blk_cell BK811.out 1).trans rfl; have hcz64_2 : w57.cell? ⟨gb811, 2, none⟩ = some (.int .u64 0) := (blk_cell BK811.out 2).trans rfl; have hcz64_3 : w57.cell? ⟨gb811, 3, none⟩ = some (.int .u64 0) := (blk_cell BK811.out 3).trans rfl; have hfz64_0 := blk_frozen BK811.out 0; have hfz64_1 := blk_frozen BK811.out 1; have hfz64_2 := blk_frozen BK811.out 2; have hfz64_3 := blk_frozen BK811.out 3))
  have n0_ : Aside0 (((((w57.setCell ⟨gb811, 0, none⟩ (.int .u64 t807)).setCell ⟨gb811, 1, none⟩ (.int .u64 t808)).setCell ⟨gb811, 2, none⟩ (.int .u64 t809)).setCell ⟨gb811, 3, none⟩ (.int .u64 t810)).heap[gb787]? = some (.cells #[.int .u64 a0_0, .int .u64 a0_1, .int .u64 a0_2, .int .u64 a0_3, .int .i64 a0_4, .bool true] 28 (0, 0))) := ⟨by (repeat (first | (with_reducible first | refine blk_drewN ?_ _ | refine blk_drew ?_ | refine blk_alloc ?_ _) | refine blk_far ?_ NB787_811.out _)); exact BK787.out⟩
  have n1_ : Aside0 (((((w57.setCell ⟨gb811, 0, none⟩ (.int .u64 t807)).setCell ⟨gb811, 1, none⟩ (.int .u64 t808)).setCell ⟨gb811, 2, none⟩ (.int .u64 t809)).setCell ⟨gb811, 3, none⟩ (.int .u64 t810)).heap[gb788]? = some (.cells #[.int .u64 a1_0, .int .u64 a1_1, .int .u64 a1_2, .int .u64 a1_3, .bool a1_4] 30 (0, 0))) := ⟨by (repeat (first | (with_reducible first | refine blk_drewN ?_ _ | refine blk_drew ?_ | refine blk_alloc ?_ _) | refine blk_far ?_ NB788_811.out _)); exact BK788.out⟩
  have n2_ : Aside0 (((((w57.setCell ⟨gb811, 0, none⟩ (.int .u64 t807)).setCell ⟨gb811, 1, none⟩ (.int .u64 t808)).setCell ⟨gb811, 2, none⟩ (.int .u64 t809)).setCell ⟨gb811, 3, none⟩ (.int .u64 t810)).heap[gb789]? = some (.cells #[.int .u64 a2_0, .int .u64 a2_1, .int .u64 a2_2, .int .u64 a2_3, .bool a2_4] 30 (0, 0))) := ⟨by (repeat (first | (with_reducible first | refine blk_drewN ?_ _ | refine blk_drew ?_ | refine blk_alloc ?_ _) | refine blk_far ?_ NB789_811.out _)); exact BK789.out⟩
  have n3_ : Aside0 (((((w57.setCell ⟨gb811, 0, none⟩ (.int .u64 t807)).setCell ⟨gb811, 1, none⟩ (.int .u64 t808)).setCell ⟨gb811, 2, none⟩ (.int .u64 t809)).setCell ⟨gb811, 3, none⟩ (.int .u64 t810)).heap[gb796]? = some (.cells #[.int .u64 t791, .int .u64 t792, .int .u64 t793, .int .u64 t794, .int .i64 t795] 26 (0, 0))) := ⟨by (repeat (first | (with_reducible first | refine blk_drewN ?_ _ | refine blk_drew ?_ | refine blk_alloc ?_ _) | refine blk_far ?_ NB796_811.out _)); exact BK796.out⟩
  have n4_ : Aside0 (((((w57.setCell ⟨gb811, 0, none⟩ (.int .u64 t807)).setCell ⟨gb811, 1, none⟩ (.int .u64 t808)).setCell ⟨gb811, 2, none⟩ (.int .u64 t809)).setCell ⟨gb811, 3, none⟩ (.int .u64 t810)).heap[gb801]? = some (.cells #[.int .u64 t797, .int .u64 t798, .int .u64 t799, .int .u64 t800] 24 (0, 0))) := ⟨by (repeat (first | (with_reducible first | refine blk_drewN ?_ _ | refine blk_drew ?_ | refine blk_alloc ?_ _) | refine blk_far ?_ NB801_811.out _)); exact BK801.out⟩
  have n5_ : Aside0 (((((w57.setCell ⟨gb811, 0, none⟩ (.int .u64 t807)).setCell ⟨gb811, 1, none⟩ (.int .u64 t808)).setCell ⟨gb811, 2, none⟩ (.int .u64 t809)).setCell ⟨gb811, 3, none⟩ (.int .u64 t810)).heap[gb806]? = some (.cells #[.int .u64 t802, .int .u64 t803, .int .u64 t804, .int .u64 t805] 24 (0, 0))) := ⟨by (repeat (first | (with_reducible first | refine blk_drewN ?_ _ | refine blk_drew ?_ | refine blk_alloc ?_ _) | refine blk_far ?_ NB806_811.out _)); exact BK806.out⟩
  have n6_ : Aside0 (((((w57.setCell ⟨gb811, 0, none⟩ (.int .u64 t807)).setCell ⟨gb811, 1, none⟩ (.int .u64 t808)).setCell ⟨gb811, 2, none⟩ (.int .u64 t809)).setCell ⟨gb811, 3, none⟩ (.int .u64 t810)).heap[gb811]? = some (.cells #[.int .u64 t807, .int .u64 t808, .int .u64 t809, .int .u64 t810] 24 (0, 0))) := ⟨by (with_reducible repeat (first | refine blk_drewN ?_ _ | refine blk_drew ?_ | refine blk_alloc ?_ _)); refine blk_put (cs := #[.int .u64 t807, .int .u64 t808, .int .u64 t809, .int .u64 0]) ?_ 3 _ rfl; (with_reducible repeat (first | refine blk_drewN ?_ _ | refine blk_drew ?_ | refine blk_alloc ?_ _)); refine blk_put (cs := #[.int .u64 t807, .int .u64 t808, .int .u64 0, .int .u64 0]) ?_ 2 _ rfl; (with_reducible repeat (first | refine blk_drewN ?_ _ | refine blk_drew ?_ | refine blk_alloc ?_ _)); refine blk_put (cs := #[.int .u64 t807, .int .u64 0, .int .u64 0, .int .u64 0]) ?_ 1 _ rfl; (with_reducible repeat (first | refine blk_drewN ?_ _ | refine blk_drew ?_ | refine blk_alloc ?_ _)); refine blk_put (cs := #[.int .u64 0, .int .u64 0, .int .u64 0, .int .u64 0]) ?_ 0 _ rfl; (with_reducible repeat (first | refine blk_drewN ?_ _ | refine blk_drew ?_ | refine blk_alloc ?_ _)); exact BK811.out⟩
  have n7_ : Aside0 (Below w.heap.size w ((((w57.setCell ⟨gb811, 0, none⟩ (.int .u64 t807)).setCell ⟨gb811, 1, none⟩ (.int .u64 t808)).setCell ⟨gb811, 2, none⟩ (.int .u64 t809)).setCell ⟨gb811, 3, none⟩ (.int .u64 t810))) := ⟨by repeat (first | (with_reducible first | exact HB.out | apply below_alloc | apply pw_below_drewN | apply below_drew1 | refine below_set ?_ GE787.out | refine below_set ?_ GE788.out | refine below_set ?_ GE789.out | refine below_set ?_ GE796.out | refine below_set ?_ GE801.out | refine below_set ?_ GE806.out | refine below_set ?_ GE811.out) | exact HB.out)⟩
  (try clear BK787)
  (try clear BK788)
  (try clear BK789)
  (try clear BK796)
  (try clear BK801)
  (try clear BK806)
  (try clear BK811)
  (try clear HB)
  generalize ((((w57.setCell ⟨gb811, 0, none⟩ (.int .u64 t807)).setCell ⟨gb811, 1, none⟩ (.int .u64 t808)).setCell ⟨gb811, 2, none⟩ (.int .u64 t809)).setCell ⟨gb811, 3, none⟩ (.int .u64 t810)) = w65 at n0_ n1_ n2_ n3_ n4_ n5_ n6_ n7_ ⊢
  have BK787 := n0_
  have BK788 := n1_
  have BK789 := n2_
  have BK796 := n3_
  have BK801 := n4_
  have BK806 := n5_
  have BK811 := n6_
  have HB := n7_
  clear n0_ n1_ n2_ n3_ n4_ n5_ n6_ n7_
  replace BK787 := Kd_ BK787
  replace BK788 := Kd_ BK788
  replace BK789 := Kd_ BK789
  replace BK796 := Kd_ BK796
  replace BK801 := Kd_ BK801
  replace BK806 := Kd_ BK806
  replace BK811 := Kd_ BK811
  replace HB := Aside0.mk (below_drew1 HB.out)
  refine start_ (n := 48) (S := fun w' => w'.cell? ⟨gb796, 0, none⟩ = some (.int .u64 t791) ∧ w'.cell? ⟨gb796, 1, none⟩ = some (.int .u64 t792) ∧ w'.cell? ⟨gb796, 2, none⟩ = some (.int .u64 t793) ∧ w'.cell? ⟨gb796, 3, none⟩ = some (.int .u64 t794) ∧ w'.cell? ⟨gb796, 4, none⟩ = some (.int .i64 t795) ∧ w'.cell? ⟨gb801, 0, none⟩ = some (.int .u64 t797) ∧ w'.cell? ⟨gb801, 1, none⟩ = some (.int .u64 t798) ∧ w'.cell? ⟨gb801, 2, none⟩ = some (.int .u64 t799) ∧ w'.cell? ⟨gb801, 3, none⟩ = some (.int .u64 t800) ∧ w'.cell? ⟨gb806, 0, none⟩ = some (.int .u64 t802) ∧ w'.cell? ⟨gb806, 1, none⟩ = some (.int .u64 t803) ∧ w'.cell? ⟨gb806, 2, none⟩ = some (.int .u64 t804) ∧ w'.cell? ⟨gb806, 3, none⟩ = some (.int .u64 t805)) (ds := []) #[false, false, false, false, false, false, false, false, false, false, false, false, false, false, false, false, false, false, false, false, false, false, false, false, false, false, false, false, false, false, false, false, false, false, false, false, false, false, false, false, false, false, false, false, false, false, false, false] (by kernel_rfl) rfl rfl ⟨(blk_cell BK796.out 0).trans rfl, (blk_cell BK796.out 1).trans rfl, (blk_cell BK796.out 2).trans rfl, (blk_cell BK796.out 3).trans rfl, (blk_cell BK796.out 4).trans rfl, (blk_cell BK801.out 0).trans rfl, (blk_cell BK801.out 1).trans rfl, (blk_cell BK801.out 2).trans rfl, (blk_cell BK801.out 3).trans rfl, (blk_cell BK806.out 0).trans rfl, (blk_cell BK806.out 1).trans rfl, (blk_cell BK806.out 2).trans rfl, (blk_cell BK806.out 3).trans rfl⟩ (fun hHeld => ?_); refine with_tabW tenementlaw07_StampSeen_p2.tab9 tenementlaw07_StampSeen_p2.bits9 (fun HT_ HW_ => ?_)
  generalize w65.drew = w66 at BK787 BK788 BK789 BK796 BK801 BK806 BK811 HB hHeld ⊢
  refine pure_ (i := 0) (N := some 25) (v := ?_) (a' := ?_) #[true, false, false, false, false, false, false, false, false, false, false, false, false, false, false, false, false, false, false, false, false, false, false, false, false, false, false, false, false, false, false, false, false, false, false, false, false, false, false, false, false, false, false, false, false, false, false, false] rfl rfl (any_of HT_.out (by kernel_rfl)) (fun _ _ _ h => h) (Or.inl ⟨by rfl, ?_⟩) ?_ ?_
  rotate_left
  · intro w'
    go_simp
    with_reducible rfl
  rotate_left
  · simp only [Act.put, List.setIfInBounds_toArray, List.set_cons_zero, List.set_cons_succ, i64_w, i32_w]
    rfl
  refine pure_ (i := 1) (N := some 26) (v := ?_) (a' := ?_) #[true, true, false, false, false, false, false, false, false, false, false, false, false, false, false, false, false, false, false, false, false, false, false, false, false, false, false, false, false, false, false, false, false, false, false, false, false, false, false, false, false, false, false, false, false, false, false, false] rfl rfl (any_of HT_.out (by kernel_rfl)) (fun _ _ _ h => h) (Or.inl ⟨by rfl, ?_⟩) ?_ ?_
  rotate_left
  · intro w'
    go_simp
    with_reducible rfl
  rotate_left
  · simp only [Act.put, List.setIfInBounds_toArray, List.set_cons_zero, List.set_cons_succ, i64_w, i32_w]
    rfl
  refine pure_ (i := 3) (N := some 28) (v := ?_) (a' := ?_) #[true, true, false, true, false, false, false, false, false, false, false, false, false, false, false, false, false, false, false, false, false, false, false, false, false, false, false, false, false, false, false, false, false, false, false, false, false, false, false, false, false, false, false, false, false, false, false, false] rfl rfl (any_of HT_.out (by kernel_rfl)) (fun _ _ _ h => h) (Or.inl ⟨by rfl, ?_⟩) ?_ ?_
  rotate_left
  · intro w'
    go_simp
    with_reducible rfl
  rotate_left
  · simp only [Act.put, List.setIfInBounds_toArray, List.set_cons_zero, List.set_cons_succ, i64_w, i32_w]
    rfl
  refine take_ (i := 2) (N := some 27) (v := ?_) (a' := ?_) #[true, true, true, true, false, false, false, false, false, false, false, false, false, false, false, false, false, false, false, false, false, false, false, false, false, false, false, false, false, false, false, false, false, false, false, false, false, false, false, false, false, false, false, false, false, false, false, false] rfl rfl (take_ofW HT_.out HW_.out (by kernel_rfl)) (fun _ _ _ h => h) (Or.inl ⟨by rfl, ?_⟩) hHeld ?_ ?_
  rotate_left
  · rintro w' ⟨s0, s1, s2, s3, s4, s5, s6, s7, s8, s9, s10, s11, s12⟩
    go_simp
    with_reducible rfl
  rotate_left
  · simp only [Act.put, List.setIfInBounds_toArray, List.set_cons_zero, List.set_cons_succ, i64_w, i32_w]
    rfl
  refine take_ (i := 4) (N := some 29) (v := ?_) (a' := ?_) #[true, true, true, true, true, false, false, false, false, false, false, false, false, false, false, false, false, false, false, false, false, false, false, false, false, false, false, false, false, false, false, false, false, false, false, false, false, false, false, false, false, false, false, false, false, false, false, false] rfl rfl (take_ofW HT_.out HW_.out (by kernel_rfl)) (fun _ _ _ h => h) (Or.inl ⟨by rfl, ?_⟩) hHeld ?_ ?_
  rotate_left
  · rintro w' ⟨s0, s1, s2, s3, s4, s5, s6, s7, s8, s9, s10, s11, s12⟩
    go_simp
    with_reducible rfl
  rotate_left
  · simp only [Act.put, List.setIfInBounds_toArray, List.set_cons_zero, List.set_cons_succ, i64_w, i32_w]
    rfl
  refine one_ (i := 5) (N := some 30) #[true, true, true, true, true, true, false, false, false, false, false, false, false, false, false, false, false, false, false, false, false, false, false, false, false, false, false, false, false, false, false, false, false, false, false, false, false, false, false, false, false, false, false, false, false, false, false, false] rfl rfl (one_of HT_.out (by kernel_rfl)) (by decide) (fun K hK => ?_)
  refine goes_ Tryd.func23 (by kernel_rfl) rfl #[.agg #[.int .u64 t791, .int .u64 t792, .int .u64 t793, .int .u64 t794, .int .i64 t795], .agg #[.int .u64 t791, .int .u64 t792, .int .u64 t793, .int .u64 t794]] (by rfl) rfl rfl (by (try simp only [List.map_toArray, List.map_cons, List.map_nil]); first | done | rfl | (simp only [List.length_drop, List.length_take]; rfl)) ?_
  with_reducible refine (stamp_Seen.calls t791 t792 t793 t794 t795 t791 t792 t793 t794 true _ A10.out).mono ?_
  rintro e w67 ⟨rfl, hb⟩
  refine ⟨_, rfl, ?_⟩
  replace BK787 := Kb_ BK787 hb
  replace BK788 := Kb_ BK788 hb
  replace BK789 := Kb_ BK789 hb
  replace BK796 := Kb_ BK796 hb
  replace BK801 := Kb_ BK801 hb
  replace BK806 := Kb_ BK806 hb
  replace BK811 := Kb_ BK811 hb
  replace HB := Ks_ HB hb
  (try clear hb)
  (try clear hb2)
  (try clear hk)
  (try clear hi)
  refine hK.out _ _ ⟨(blk_cell BK796.out 0).trans rfl, (blk_cell BK796.out 1).trans rfl, (blk_cell BK796.out 2).trans rfl, (blk_cell BK796.out 3).trans rfl, (blk_cell BK796.out 4).trans rfl, (blk_cell BK801.out 0).trans rfl, (blk_cell BK801.out 1).trans rfl, (blk_cell BK801.out 2).trans rfl, (blk_cell BK801.out 3).trans rfl, (blk_cell BK806.out 0).trans rfl, (blk_cell BK806.out 1).trans rfl, (blk_cell BK806.out 2).trans rfl, (blk_cell BK806.out 3).trans rfl⟩ (fun hHeld => ?_)
  clear hK K
  refine norm_ (a' := ?_) ?_ ?_
  rotate_left
  · show Act.put _ (some 30) _ = _
    simp only [Act.put, List.setIfInBounds_toArray, List.set_cons_zero, List.set_cons_succ, i64_w, i32_w]
    rfl
  refine pure_ (i := 6) (N := some 31) (v := ?_) (a' := ?_) #[true, true, true, true, true, true, true, false, false, false, false, false, false, false, false, false, false, false, false, false, false, false, false, false, false, false, false, false, false, false, false, false, false, false, false, false, false, false, false, false, false, false, false, false, false, false, false, false] rfl rfl (any_of HT_.out (by kernel_rfl)) (fun _ _ _ h => h) (Or.inl ⟨by rfl, ?_⟩) ?_ ?_
  rotate_left
  · intro w'
    go_simp
    with_reducible rfl
  rotate_left
  · simp only [Act.put, List.setIfInBounds_toArray, List.set_cons_zero, List.set_cons_succ, i64_w, i32_w]
    rfl
  refine pure_ (i := 7) (N := some 32) (v := ?_) (a' := ?_) #[true, true, true, true, true, true, true, true, false, false, false, false, false, false, false, false, false, false, false, false, false, false, false, false, false, false, false, false, false, false, false, false, false, false, false, false, false, false, false, false, false, false, false, false, false, false, false, false] rfl rfl (any_of HT_.out (by kernel_rfl)) (fun _ _ _ h => h) (Or.inl ⟨by rfl, ?_⟩) ?_ ?_
  rotate_left
  · intro w'
    go_simp
    with_reducible rfl
  rotate_left
  · simp only [Act.put, List.setIfInBounds_toArray, List.set_cons_zero, List.set_cons_succ, i64_w, i32_w]
    rfl
  refine pure_ (i := 9) (N := some 34) (v := ?_) (a' := ?_) #[true, true, true, true, true, true, true, true, false, true, false, false, false, false, false, false, false, false, false, false, false, false, false, false, false, false, false, false, false, false, false, false, false, false, false, false, false, false, false, false, false, false, false, false, false, false, false, false] rfl rfl (any_of HT_.out (by kernel_rfl)) (fun _ _ _ h => h) (Or.inl ⟨by rfl, ?_⟩) ?_ ?_
  rotate_left
  · intro w'
    go_simp
    with_reducible rfl
  rotate_left
  · simp only [Act.put, List.setIfInBounds_toArray, List.set_cons_zero, List.set_cons_succ, i64_w, i32_w]
    rfl
  refine pure_ (i := 11) (N := some 36) (v := ?_) (a' := ?_) #[true, true, true, true, true, true, true, true, false, true, false, true, false, false, false, false, false, false, false, false, false, false, false, false, false, false, false, false, false, false, false, false, false, false, false, false, false, false, false, false, false, false, false, false, false, false, false, false] rfl rfl (any_of HT_.out (by kernel_rfl)) (fun _ _ _ h => h) (Or.inl ⟨by rfl, ?_⟩) ?_ ?_
  rotate_left
  · intro w'
    go_simp
    with_reducible rfl
  rotate_left
  · simp only [Act.put, List.setIfInBounds_toArray, List.set_cons_zero, List.set_cons_succ, i64_w, i32_w]
    rfl
  refine take_ (i := 8) (N := some 33) (v := ?_) (a' := ?_) #[true, true, true, true, true, true, true, true, true, true, false, true, false, false, false, false, false, false, false, false, false, false, false, false, false, false, false, false, false, false, false, false, false, false, false, false, false, false, false, false, false, false, false, false, false, false, false, false] rfl rfl (take_ofW HT_.out HW_.out (by kernel_rfl)) (fun _ _ _ h => h) (Or.inl ⟨by rfl, ?_⟩) hHeld ?_ ?_
  rotate_left
  · rintro w' ⟨s0, s1, s2, s3, s4, s5, s6, s7, s8, s9, s10, s11, s12⟩
    go_simp
    with_reducible rfl
  rotate_left
  · simp only [Act.put, List.setIfInBounds_toArray, List.set_cons_zero, List.set_cons_succ, i64_w, i32_w]
    rfl
  refine take_ (i := 10) (N := some 35) (v := ?_) (a' := ?_) #[true, true, true, true, true, true, true, true, true, true, true, true, false, false, false, false, false, false, false, false, false, false, false, false, false, false, false, false, false, false, false, false, false, false, false, false, false, false, false, false, false, false, false, false, false, false, false, false] rfl rfl (take_ofW HT_.out HW_.out (by kernel_rfl)) (fun _ _ _ h => h) (Or.inl ⟨by rfl, ?_⟩) hHeld ?_ ?_
  rotate_left
  · rintro w' ⟨s0, s1, s2, s3, s4, s5, s6, s7, s8, s9, s10, s11, s12⟩
    go_simp
    with_reducible rfl
  rotate_left
  · simp only [Act.put, List.setIfInBounds_toArray, List.set_cons_zero, List.set_cons_succ, i64_w, i32_w]
    rfl
  refine take_ (i := 12) (N := some 37) (v := ?_) (a' := ?_) #[true, true, true, true, true, true, true, true, true, true, true, true, true, false, false, false, false, false, false, false, false, false, false, false, false, false, false, false, false, false, false, false, false, false, false, false, false, false, false, false, false, false, false, false, false, false, false, false] rfl rfl (take_ofW HT_.out HW_.out (by kernel_rfl)) (fun _ _ _ h => h) (Or.inl ⟨by rfl, ?_⟩) hHeld ?_ ?_
  rotate_left
  · rintro w' ⟨s0, s1, s2, s3, s4, s5, s6, s7, s8, s9, s10, s11, s12⟩
    go_simp
    with_reducible rfl
  rotate_left
  · simp only [Act.put, List.setIfInBounds_toArray, List.set_cons_zero, List.set_cons_succ, i64_w, i32_w]
    rfl
  refine take_ (i := 13) (N := some 38) (v := ?_) (a' := ?_) #[true, true, true, true, true, true, true, true, true, true, true, true, true, true, false, false, false, false, false, false, false, false, false, false, false, false, false, false, false, false, false, false, false, false, false, false, false, false, false, false, false, false, false, false, false, false, false, false] rfl rfl (take_ofW HT_.out HW_.out (by kernel_rfl)) (fun _ _ _ h => h) (Or.inl ⟨by rfl, ?_⟩) hHeld ?_ ?_
  rotate_left
  · rintro w' ⟨s0, s1, s2, s3, s4, s5, s6, s7, s8, s9, s10, s11, s12⟩
    go_simp
    with_reducible rfl
  rotate_left
  · simp only [Act.put, List.setIfInBounds_toArray, List.set_cons_zero, List.set_cons_succ, i64_w, i32_w]
    rfl
  refine one_ (i := 14) (N := some 39) #[true, true, true, true, true, true, true, true, true, true, true, true, true, true, true, false, false, false, false, false, false, false, false, false, false, false, false, false, false, false, false, false, false, false, false, false, false, false, false, false, false, false, false, false, false, false, false, false] rfl rfl (one_of HT_.out (by kernel_rfl)) (by decide) (fun K hK => ?_)
  refine goes_ Tryd.func19 (by kernel_rfl) rfl #[.agg #[.int .u64 t791, .int .u64 t792, .int .u64 t793, .int .u64 t794, .int .i64 t795]] (by rfl) rfl rfl (by (try simp only [List.map_toArray, List.map_cons, List.map_nil]); first | done | rfl | (simp only [List.length_drop, List.length_take]; rfl)) ?_
  with_reducible refine (stamp_Stamp_N.calls t791 t792 t793 t794 t795 t813 _ A12.out).mono ?_
  rintro e w68 ⟨rfl, hb⟩
  refine ⟨_, rfl, ?_⟩
  replace BK787 := Kb_ BK787 hb
  replace BK788 := Kb_ BK788 hb
  replace BK789 := Kb_ BK789 hb
  replace BK796 := Kb_ BK796 hb
  replace BK801 := Kb_ BK801 hb
  replace BK806 := Kb_ BK806 hb
  replace BK811 := Kb_ BK811 hb
  replace HB := Ks_ HB hb
  (try clear hb)
  (try clear hb2)
  (try clear hk)
  (try clear hi)
  refine hK.out _ _ ⟨(blk_cell BK796.out 0).trans rfl, (blk_cell BK796.out 1).trans rfl, (blk_cell BK796.out 2).trans rfl, (blk_cell BK796.out 3).trans rfl, (blk_cell BK796.out 4).trans rfl, (blk_cell BK801.out 0).trans rfl, (blk_cell BK801.out 1).trans rfl, (blk_cell BK801.out 2).trans rfl, (blk_cell BK801.out 3).trans rfl, (blk_cell BK806.out 0).trans rfl, (blk_cell BK806.out 1).trans rfl, (blk_cell BK806.out 2).trans rfl, (blk_cell BK806.out 3).trans rfl⟩ (fun hHeld => ?_)
  clear hK K
  refine norm_ (a' := ?_) ?_ ?_
  rotate_left
  · show Act.put _ (some 39) _ = _
    simp only [Act.put, List.setIfInBounds_toArray, List.set_cons_zero, List.set_cons_succ, i64_w, i32_w]
    rfl
  refine pure_ (i := 15) (N := some 40) (v := ?_) (a' := ?_) #[true, true, true, true, true, true, true, true, true, true, true, true, true, true, true, true, false, false, false, false, false, false, false, false, false, false, false, false, false, false, false, false, false, false, false, false, false, false, false, false, false, false, false, false, false, false, false, false] rfl rfl (any_of HT_.out (by kernel_rfl)) (fun _ _ _ h => h) (Or.inl ⟨by rfl, ?_⟩) ?_ ?_
  rotate_left
  · intro w'
    go_simp
    with_reducible rfl
  rotate_left
  · simp only [Act.put, List.setIfInBounds_toArray, List.set_cons_zero, List.set_cons_succ, i64_w, i32_w]
    rfl
  refine one_ (i := 16) (N := some 41) #[true, true, true, true, true, true, true, true, true, true, true, true, true, true, true, true, true, false, false, false, false, false, false, false, false, false, false, false, false, false, false, false, false, false, false, false, false, false, false, false, false, false, false, false, false, false, false, false] rfl rfl (one_of HT_.out (by kernel_rfl)) (by decide) (fun K hK => ?_)
  refine goes_ Tryd.func33 (by kernel_rfl) rfl #[.agg #[.int .u64 t791, .int .u64 t792, .int .u64 t793, .int .u64 t794], .int .i64 t795, .int .u64 (IntKind.u64.wrap (t813 - 1))] (by rfl) rfl rfl (by (try simp only [List.map_toArray, List.map_cons, List.map_nil]); first | done | rfl | (simp only [List.length_drop, List.length_take]; rfl)) ?_
  with_reducible refine (vec_With.calls t791 t792 t793 t794 t795 (IntKind.u64.wrap (t813 - 1)) t814 t815 t816 t817 _ A13.out).mono ?_
  rintro e w69 ⟨rfl, hb⟩
  refine ⟨_, rfl, ?_⟩
  replace BK787 := Kb_ BK787 hb
  replace BK788 := Kb_ BK788 hb
  replace BK789 := Kb_ BK789 hb
  replace BK796 := Kb_ BK796 hb
  replace BK801 := Kb_ BK801 hb
  replace BK806 := Kb_ BK806 hb
  replace BK811 := Kb_ BK811 hb
  replace HB := Ks_ HB hb
  (try clear hb)
  (try clear hb2)
  (try clear hk)
  (try clear hi)
  refine hK.out _ _ ⟨(blk_cell BK796.out 0).trans rfl, (blk_cell BK796.out 1).trans rfl, (blk_cell BK796.out 2).trans rfl, (blk_cell BK796.out 3).trans rfl, (blk_cell BK796.out 4).trans rfl, (blk_cell BK801.out 0).trans rfl, (blk_cell BK801.out 1).trans rfl, (blk_cell BK801.out 2).trans rfl, (blk_cell BK801.out 3).trans rfl, (blk_cell BK806.out 0).trans rfl, (blk_cell BK806.out 1).trans rfl, (blk_cell BK806.out 2).trans rfl, (blk_cell BK806.out 3).trans rfl⟩ (fun hHeld => ?_)
  clear hK K
  refine norm_ (a' := ?_) ?_ ?_
  rotate_left
  · show Act.put _ (some 41) _ = _
    simp only [Act.put, List.setIfInBounds_toArray, List.set_cons_zero, List.set_cons_succ, i64_w, i32_w]
    rfl
  refine one_ (i := 17) (N := some 42) #[true, true, true, true, true, true, true, true, true, true, true, true, true, true, true, true, true, true, false, false, false, false, false, false, false, false, false, false, false, false, false, false, false, false, false, false, false, false, false, false, false, false, false, false, false, false, false, false] rfl rfl (one_of HT_.out (by kernel_rfl)) (by decide) (fun K hK => ?_)
  refine goes_ Tryd.func23 (by kernel_rfl) rfl #[.agg #[.int .u64 t791, .int .u64 t792, .int .u64 t793, .int .u64 t794, .int .i64 t795], .agg #[.int .u64 t814, .int .u64 t815, .int .u64 t816, .int .u64 t817]] (by rfl) rfl rfl (by (try simp only [List.map_toArray, List.map_cons, List.map_nil]); first | done | rfl | (simp only [List.length_drop, List.length_take]; rfl)) ?_
  with_reducible refine (stamp_Seen.calls t791 t792 t793 t794 t795 t814 t815 t816 t817 false _ A14.out).mono ?_
  rintro e w70 ⟨rfl, hb⟩
  refine ⟨_, rfl, ?_⟩
  replace BK787 := Kb_ BK787 hb
  replace BK788 := Kb_ BK788 hb
  replace BK789 := Kb_ BK789 hb
  replace BK796 := Kb_ BK796 hb
  replace BK801 := Kb_ BK801 hb
  replace BK806 := Kb_ BK806 hb
  replace BK811 := Kb_ BK811 hb
  replace HB := Ks_ HB hb
  (try clear hb)
  (try clear hb2)
  (try clear hk)
  (try clear hi)
  refine hK.out _ _ ⟨(blk_cell BK796.out 0).trans rfl, (blk_cell BK796.out 1).trans rfl, (blk_cell BK796.out 2).trans rfl, (blk_cell BK796.out 3).trans rfl, (blk_cell BK796.out 4).trans rfl, (blk_cell BK801.out 0).trans rfl, (blk_cell BK801.out 1).trans rfl, (blk_cell BK801.out 2).trans rfl, (blk_cell BK801.out 3).trans rfl, (blk_cell BK806.out 0).trans rfl, (blk_cell BK806.out 1).trans rfl, (blk_cell BK806.out 2).trans rfl, (blk_cell BK806.out 3).trans rfl⟩ (fun hHeld => ?_)
  clear hK K
  refine norm_ (a' := ?_) ?_ ?_
  rotate_left
  · show Act.put _ (some 42) _ = _
    simp only [Act.put, List.setIfInBounds_toArray, List.set_cons_zero, List.set_cons_succ, i64_w, i32_w]
    rfl
  refine pure_ (i := 18) (N := some 43) (v := ?_) (a' := ?_) #[true, true, true, true, true, true, true, true, true, true, true, true, true, true, true, true, true, true, true, false, false, false, false, false, false, false, false, false, false, false, false, false, false, false, false, false, false, false, false, false, false, false, false, false, false, false, false, false] rfl rfl (any_of HT_.out (by kernel_rfl)) (fun _ _ _ h => h) (Or.inl ⟨by rfl, ?_⟩) ?_ ?_
  rotate_left
  · intro w'
    go_simp
    with_reducible rfl
  rotate_left
  · simp only [Act.put, List.setIfInBounds_toArray, List.set_cons_zero, List.set_cons_succ, i64_w, i32_w]
    rfl
  refine pure_ (i := 19) (N := some 44) (v := ?_) (a' := ?_) #[true, true, true, true, true, true, true, true, true, true, true, true, true, true, true, true, true, true, true, true, false, false, false, false, false, false, false, false, false, false, false, false, false, false, false, false, false, false, false, false, false, false, false, false, false, false, false, false] rfl rfl (any_of HT_.out (by kernel_rfl)) (fun _ _ _ h => h) (Or.inl ⟨by rfl, ?_⟩) ?_ ?_
  rotate_left
  · intro w'
    go_simp
    with_reducible rfl
  rotate_left
  · simp only [Act.put, List.setIfInBounds_toArray, List.set_cons_zero, List.set_cons_succ, i64_w, i32_w]
    rfl
  refine pure_ (i := 20) (N := some 45) (v := ?_) (a' := ?_) #[true, true, true, true, true, true, true, true, true, true, true, true, true, true, true, true, true, true, true, true, true, false, false, false, false, false, false, false, false, false, false, false, false, false, false, false, false, false, false, false, false, false, false, false, false, false, false, false] rfl rfl (any_of HT_.out (by kernel_rfl)) (fun _ _ _ h => h) (Or.inl ⟨by rfl, ?_⟩) ?_ ?_
  rotate_left
  · intro w'
    go_simp
    with_reducible rfl
  rotate_left
  · simp only [Act.put, List.setIfInBounds_toArray, List.set_cons_zero, List.set_cons_succ, i64_w, i32_w]
    rfl
  refine take_ (i := 21) (N := some 46) (v := ?_) (a' := ?_) #[true, true, true, true, true, true, true, true, true, true, true, true, true, true, true, true, true, true, true, true, true, true, false, false, false, false, false, false, false, false, false, false, false, false, false, false, false, false, false, false, false, false, false, false, false, false, false, false] rfl rfl (take_ofW HT_.out HW_.out (by kernel_rfl)) (fun _ _ _ h => h) (Or.inl ⟨by rfl, ?_⟩) hHeld ?_ ?_
  rotate_left
  · rintro w' ⟨s0, s1, s2, s3, s4, s5, s6, s7, s8, s9, s10, s11, s12⟩
    go_simp
    with_reducible rfl
  rotate_left
  · simp only [Act.put, List.setIfInBounds_toArray, List.set_cons_zero, List.set_cons_succ, i64_w, i32_w]
    rfl
  refine take_ (i := 22) (N := some 47) (v := ?_) (a' := ?_) #[true, true, true, true, true, true, true, true, true, true, true, true, true, true, true, true, true, true, true, true, true, true, true, false, false, false, false, false, false, false, false, false, false, false, false, false, false, false, false, false, false, false, false, false, false, false, false, false] rfl rfl (take_ofW HT_.out HW_.out (by kernel_rfl)) (fun _ _ _ h => h) (Or.inl ⟨by rfl, ?_⟩) hHeld ?_ ?_
  rotate_left
  · rintro w' ⟨s0, s1, s2, s3, s4, s5, s6, s7, s8, s9, s10, s11, s12⟩
    go_simp
    with_reducible rfl
  rotate_left
  · simp only [Act.put, List.setIfInBounds_toArray, List.set_cons_zero, List.set_cons_succ, i64_w, i32_w]
    rfl
  refine one_ (i := 23) (N := some 48) #[true, true, true, true, true, true, true, true, true, true, true, true, true, true, true, true, true, true, true, true, true, true, true, true, false, false, false, false, false, false, false, false, false, false, false, false, false, false, false, false, false, false, false, false, false, false, false, false] rfl rfl (one_of HT_.out (by kernel_rfl)) (by decide) (fun K hK => ?_)
  refine goes_ Tryd.func23 (by kernel_rfl) rfl #[.agg #[.int .u64 t791, .int .u64 t792, .int .u64 t793, .int .u64 t794, .int .i64 t795], .agg #[.int .u64 t797, .int .u64 t798, .int .u64 t799, .int .u64 t800]] (by rfl) rfl rfl (by (try simp only [List.map_toArray, List.map_cons, List.map_nil]); first | done | rfl | (simp only [List.length_drop, List.length_take]; rfl)) ?_
  with_reducible refine (stamp_Seen.calls t791 t792 t793 t794 t795 t797 t798 t799 t800 false _ A16.out).mono ?_
  rintro e w71 ⟨rfl, hb⟩
  refine ⟨_, rfl, ?_⟩
  replace BK787 := Kb_ BK787 hb
  replace BK788 := Kb_ BK788 hb
  replace BK789 := Kb_ BK789 hb
  replace BK796 := Kb_ BK796 hb
  replace BK801 := Kb_ BK801 hb
  replace BK806 := Kb_ BK806 hb
  replace BK811 := Kb_ BK811 hb
  replace HB := Ks_ HB hb
  (try clear hb)
  (try clear hb2)
  (try clear hk)
  (try clear hi)
  refine hK.out _ _ ⟨(blk_cell BK796.out 0).trans rfl, (blk_cell BK796.out 1).trans rfl, (blk_cell BK796.out 2).trans rfl, (blk_cell BK796.out 3).trans rfl, (blk_cell BK796.out 4).trans rfl, (blk_cell BK801.out 0).trans rfl, (blk_cell BK801.out 1).trans rfl, (blk_cell BK801.out 2).trans rfl, (blk_cell BK801.out 3).trans rfl, (blk_cell BK806.out 0).trans rfl, (blk_cell BK806.out 1).trans rfl, (blk_cell BK806.out 2).trans rfl, (blk_cell BK806.out 3).trans rfl⟩ (fun hHeld => ?_)
  clear hK K
  refine norm_ (a' := ?_) ?_ ?_
  rotate_left
  · show Act.put _ (some 48) _ = _
    simp only [Act.put, List.setIfInBounds_toArray, List.set_cons_zero, List.set_cons_succ, i64_w, i32_w]
    rfl
  refine pure_ (i := 24) (N := some 49) (v := ?_) (a' := ?_) #[true, true, true, true, true, true, true, true, true, true, true, true, true, true, true, true, true, true, true, true, true, true, true, true, true, false, false, false, false, false, false, false, false, false, false, false, false, false, false, false, false, false, false, false, false, false, false, false] rfl rfl (any_of HT_.out (by kernel_rfl)) (fun _ _ _ h => h) (Or.inl ⟨by rfl, ?_⟩) ?_ ?_
  rotate_left
  · intro w'
    go_simp
    with_reducible rfl
  rotate_left
  · simp only [Act.put, List.setIfInBounds_toArray, List.set_cons_zero, List.set_cons_succ, i64_w, i32_w]
    rfl
  refine pure_ (i := 25) (N := some 50) (v := ?_) (a' := ?_) #[true, true, true, true, true, true, true, true, true, true, true, true, true, true, true, true, true, true, true, true, true, true, true, true, true, true, false, false, false, false, false, false, false, false, false, false, false, false, false, false, false, false, false, false, false, false, false, false] rfl rfl (any_of HT_.out (by kernel_rfl)) (fun _ _ _ h => h) (Or.inl ⟨by rfl, ?_⟩) ?_ ?_
  rotate_left
  · intro w'
    go_simp
    with_reducible rfl
  rotate_left
  · simp only [Act.put, List.setIfInBounds_toArray, List.set_cons_zero, List.set_cons_succ, i64_w, i32_w]
    rfl
  refine pure_ (i := 26) (N := some 51) (v := undef) (a' := ?_) #[true, true, true, true, true, true, true, true, true, true, true, true, true, true, true, true, true, true, true, true, true, true, true, true, true, true, true, false, false, false, false, false, false, false, false, false, false, false, false, false, false, false, false, false, false, false, false, false] rfl rfl (any_of HT_.out (by kernel_rfl)) (fun _ _ _ h => h) (Or.inr ⟨by rfl, rfl⟩) ?_ ?_
  rotate_left
  · simp only [Act.put, List.setIfInBounds_toArray, List.set_cons_zero, List.set_cons_succ, i64_w, i32_w]
    rfl
  refine pure_ (i := 27) (N := some 52) (v := undef) (a' := ?_) #[true, true, true, true, true, true, true, true, true, true, true, true, true, true, true, true, true, true, true, true, true, true, true, true, true, true, true, true, false, false, false, false, false, false, false, false, false, false, false, false, false, false, false, false, false, false, false, false] rfl rfl (any_of HT_.out (by kernel_rfl)) (fun _ _ _ h => h) (Or.inr ⟨by rfl, rfl⟩) ?_ ?_
  rotate_left
  · simp only [Act.put, List.setIfInBounds_toArray, List.set_cons_zero, List.set_cons_succ, i64_w, i32_w]
    rfl
  refine pure_ (i := 28) (N := some 53) (v := undef) (a' := ?_) #[true, true, true, true, true, true, true, true, true, true, true, true, true, true, true, true, true, true, true, true, true, true, true, true, true, true, true, true, true, false, false, false, false, false, false, false, false, false, false, false, false, false, false, false, false, false, false, false] rfl rfl (any_of HT_.out (by kernel_rfl)) (fun _ _ _ h => h) (Or.inr ⟨by rfl, rfl⟩) ?_ ?_
  rotate_left
  · simp only [Act.put, List.setIfInBounds_toArray, List.set_cons_zero, List.set_cons_succ, i64_w, i32_w]
    rfl
  refine pure_ (i := 29) (N := some 54) (v := ?_) (a' := ?_) #[true, true, true, true, true, true, true, true, true, true, true, true, true, true, true, true, true, true, true, true, true, true, true, true, true, true, true, true, true, true, false, false, false, false, false, false, false, false, false, false, false, false, false, false, false, false, false, false] rfl rfl (any_of HT_.out (by kernel_rfl)) (fun _ _ _ h => h) (Or.inl ⟨by rfl, ?_⟩) ?_ ?_
  rotate_left
  · intro w'
    go_simp
    with_reducible rfl
  rotate_left
  · simp only [Act.put, List.setIfInBounds_toArray, List.set_cons_zero, List.set_cons_succ, i64_w, i32_w]
    rfl
  refine pure_ (i := 30) (N := some 55) (v := ?_) (a' := ?_) #[true, true, true, true, true, true, true, true, true, true, true, true, true, true, true, true, true, true, true, true, true, true, true, true, true, true, true, true, true, true, true, false, false, false, false, false, false, false, false, false, false, false, false, false, false, false, false, false] rfl rfl (any_of HT_.out (by kernel_rfl)) (fun _ _ _ h => h) (Or.inl ⟨by rfl, ?_⟩) ?_ ?_
  rotate_left
  · intro w'
    go_simp
    with_reducible rfl
  rotate_left
  · simp only [Act.put, List.setIfInBounds_toArray, List.set_cons_zero, List.set_cons_succ, i64_w, i32_w]
    rfl
  refine pure_ (i := 31) (N := some 56) (v := ?_) (a' := ?_) #[true, true, true, true, true, true, true, true, true, true, true, true, true, true, true, true, true, true, true, true, true, true, true, true, true, true, true, true, true, true, true, true, false, false, false, false, false, false, false, false, false, false, false, false, false, false, false, false] rfl rfl (any_of HT_.out (by kernel_rfl)) (fun _ _ _ h => h) (Or.inl ⟨by rfl, ?_⟩) ?_ ?_
  rotate_left
  · intro w'
    go_simp
    with_reducible rfl
  rotate_left
  · simp only [Act.put, List.setIfInBounds_toArray, List.set_cons_zero, List.set_cons_succ, i64_w, i32_w]
    rfl
  refine take_ (i := 32) (N := some 57) (v := ?_) (a' := ?_) #[true, true, true, true, true, true, true, true, true, true, true, true, true, true, true, true, true, true, true, true, true, true, true, true, true, true, true, true, true, true, true, true, true, false, false, false, false, false, false, false, false, false, false, false, false, false, false, false] rfl rfl (take_ofW HT_.out HW_.out (by kernel_rfl)) (fun _ _ _ h => h) (Or.inl ⟨by rfl, ?_⟩) hHeld ?_ ?_
  rotate_left
  · rintro w' ⟨s0, s1, s2, s3, s4, s5, s6, s7, s8, s9, s10, s11, s12⟩
    go_simp
    with_reducible rfl
  rotate_left
  · simp only [Act.put, List.setIfInBounds_toArray, List.set_cons_zero, List.set_cons_succ, i64_w, i32_w]
    rfl
  refine take_ (i := 33) (N := some 58) (v := ?_) (a' := ?_) #[true, true, true, true, true, true, true, true, true, true, true, true, true, true, true, true, true, true, true, true, true, true, true, true, true, true, true, true, true, true, true, true, true, true, false, false, false, false, false, false, false, false, false, false, false, false, false, false] rfl rfl (take_ofW HT_.out HW_.out (by kernel_rfl)) (fun _ _ _ h => h) (Or.inl ⟨by rfl, ?_⟩) hHeld ?_ ?_
  rotate_left
  · rintro w' ⟨s0, s1, s2, s3, s4, s5, s6, s7, s8, s9, s10, s11, s12⟩
    go_simp
    with_reducible rfl
  rotate_left
  · simp only [Act.put, List.setIfInBounds_toArray, List.set_cons_zero, List.set_cons_succ, i64_w, i32_w]
    rfl
  refine take_ (i := 34) (N := some 59) (v := ?_) (a' := ?_) #[true, true, true, true, true, true, true, true, true, true, true, true, true, true, true, true, true, true, true, true, true, true, true, true, true, true, true, true, true, true, true, true, true, true, true, false, false, false, false, false, false, false, false, false, false, false, false, false] rfl rfl (take_ofW HT_.out HW_.out (by kernel_rfl)) (fun _ _ _ h => h) (Or.inl ⟨by rfl, ?_⟩) hHeld ?_ ?_
  rotate_left
  · rintro w' ⟨s0, s1, s2, s3, s4, s5, s6, s7, s8, s9, s10, s11, s12⟩
    go_simp
    with_reducible rfl
  rotate_left
  · simp only [Act.put, List.setIfInBounds_toArray, List.set_cons_zero, List.set_cons_succ, i64_w, i32_w]
    rfl
  refine take_ (i := 37) (N := some 62) (v := ?_) (a' := ?_) #[true, true, true, true, true, true, true, true, true, true, true, true, true, true, true, true, true, true, true, true, true, true, true, true, true, true, true, true, true, true, true, true, true, true, true, false, false, true, false, false, false, false, false, false, false, false, false, false] rfl rfl (take_ofW HT_.out HW_.out (by kernel_rfl)) (fun _ _ _ h => h) (Or.inl ⟨by rfl, ?_⟩) hHeld ?_ ?_
  rotate_left
  · rintro w' ⟨s0, s1, s2, s3, s4, s5, s6, s7, s8, s9, s10, s11, s12⟩
    go_simp
    with_reducible rfl
  rotate_left
  · simp only [Act.put, List.setIfInBounds_toArray, List.set_cons_zero, List.set_cons_succ, i64_w, i32_w]
    rfl
  refine take_ (i := 38) (N := some 63) (v := ?_) (a' := ?_) #[true, true, true, true, true, true, true, true, true, true, true, true, true, true, true, true, true, true, true, true, true, true, true, true, true, true, true, true, true, true, true, true, true, true, true, false, false, true, true, false, false, false, false, false, false, false, false, false] rfl rfl (take_ofW HT_.out HW_.out (by kernel_rfl)) (fun _ _ _ h => h) (Or.inl ⟨by rfl, ?_⟩) hHeld ?_ ?_
  rotate_left
  · rintro w' ⟨s0, s1, s2, s3, s4, s5, s6, s7, s8, s9, s10, s11, s12⟩
    go_simp
    with_reducible rfl
  rotate_left
  · simp only [Act.put, List.setIfInBounds_toArray, List.set_cons_zero, List.set_cons_succ, i64_w, i32_w]
    rfl
  refine one_ (i := 35) (N := some 60) #[true, true, true, true, true, true, true, true, true, true, true, true, true, true, true, true, true, true, true, true, true, true, true, true, true, true, true, true, true, true, true, true, true, true, true, true, false, true, true, false, false, false, false, false, false, false, false, false] rfl rfl (one_of HT_.out (by kernel_rfl)) (by decide) (fun K hK => ?_)
  refine goes_ Tryd.func34 (by kernel_rfl) rfl #[.agg #[.int .u64 t797, .int .u64 t798, .int .u64 t799, .int .u64 t800], .agg #[.int .u64 t802, .int .u64 t803, .int .u64 t804, .int .u64 t805]] (by rfl) rfl rfl (by (try simp only [List.map_toArray, List.map_cons, List.map_nil]); first | done | rfl | (simp only [List.length_drop, List.length_take]; rfl)) ?_
  with_reducible refine (vec_Meet.calls t797 t798 t799 t800 t802 t803 t804 t805 t828 t829 t830 t831 _ A18.out).mono ?_
  rintro e w72 ⟨rfl, hb⟩
  refine ⟨_, rfl, ?_⟩
  replace BK787 := Kb_ BK787 hb
  replace BK788 := Kb_ BK788 hb
  replace BK789 := Kb_ BK789 hb
  replace BK796 := Kb_ BK796 hb
  replace BK801 := Kb_ BK801 hb
  replace BK806 := Kb_ BK806 hb
  replace BK811 := Kb_ BK811 hb
  replace HB := Ks_ HB hb
  (try clear hb)
  (try clear hb2)
  (try clear hk)
  (try clear hi)
  refine hK.out _ _ ⟨(blk_cell BK796.out 0).trans rfl, (blk_cell BK796.out 1).trans rfl, (blk_cell BK796.out 2).trans rfl, (blk_cell BK796.out 3).trans rfl, (blk_cell BK796.out 4).trans rfl, (blk_cell BK801.out 0).trans rfl, (blk_cell BK801.out 1).trans rfl, (blk_cell BK801.out 2).trans rfl, (blk_cell BK801.out 3).trans rfl, (blk_cell BK806.out 0).trans rfl, (blk_cell BK806.out 1).trans rfl, (blk_cell BK806.out 2).trans rfl, (blk_cell BK806.out 3).trans rfl⟩ (fun hHeld => ?_)
  clear hK K
  refine norm_ (a' := ?_) ?_ ?_
  rotate_left
  · show Act.put _ (some 60) _ = _
    simp only [Act.put, List.setIfInBounds_toArray, List.set_cons_zero, List.set_cons_succ, i64_w, i32_w]
    rfl
  refine one_ (i := 36) (N := some 61) #[true, true, true, true, true, true, true, true, true, true, true, true, true, true, true, true, true, true, true, true, true, true, true, true, true, true, true, true, true, true, true, true, true, true, true, true, true, true, true, false, false, false, false, false, false, false, false, false] rfl rfl (one_of HT_.out (by kernel_rfl)) (by decide) (fun K hK => ?_)
  refine goes_ Tryd.func23 (by kernel_rfl) rfl #[.agg #[.int .u64 t791, .int .u64 t792, .int .u64 t793, .int .u64 t794, .int .i64 t795], .agg #[.int .u64 t828, .int .u64 t829, .int .u64 t830, .int .u64 t831]] (by rfl) rfl rfl (by (try simp only [List.map_toArray, List.map_cons, List.map_nil]); first | done | rfl | (simp only [List.length_drop, List.length_take]; rfl)) ?_
  with_reducible refine (stamp_Seen.calls t791 t792 t793 t794 t795 t828 t829 t830 t831 t832 _ A19.out).mono ?_
  rintro e w73 ⟨rfl, hb⟩
  refine ⟨_, rfl, ?_⟩
  replace BK787 := Kb_ BK787 hb
  replace BK788 := Kb_ BK788 hb
  replace BK789 := Kb_ BK789 hb
  replace BK796 := Kb_ BK796 hb
  replace BK801 := Kb_ BK801 hb
  replace BK806 := Kb_ BK806 hb
  replace BK811 := Kb_ BK811 hb
  replace HB := Ks_ HB hb
  (try clear hb)
  (try clear hb2)
  (try clear hk)
  (try clear hi)
  refine hK.out _ _ ⟨(blk_cell BK796.out 0).trans rfl, (blk_cell BK796.out 1).trans rfl, (blk_cell BK796.out 2).trans rfl, (blk_cell BK796.out 3).trans rfl, (blk_cell BK796.out 4).trans rfl, (blk_cell BK801.out 0).trans rfl, (blk_cell BK801.out 1).trans rfl, (blk_cell BK801.out 2).trans rfl, (blk_cell BK801.out 3).trans rfl, (blk_cell BK806.out 0).trans rfl, (blk_cell BK806.out 1).trans rfl, (blk_cell BK806.out 2).trans rfl, (blk_cell BK806.out 3).trans rfl⟩ (fun hHeld => ?_)
  clear hK K
  refine norm_ (a' := ?_) ?_ ?_
  rotate_left
  · show Act.put _ (some 61) _ = _
    simp only [Act.put, List.setIfInBounds_toArray, List.set_cons_zero, List.set_cons_succ, i64_w, i32_w]
    rfl
  refine one_ (i := 39) (N := some 64) #[true, true, true, true, true, true, true, true, true, true, true, true, true, true, true, true, true, true, true, true, true, true, true, true, true, true, true, true, true, true, true, true, true, true, true, true, true, true, true, true, false, false, false, false, false, false, false, false] rfl rfl (one_of HT_.out (by kernel_rfl)) (by decide) (fun K hK => ?_)
  refine goes_ Tryd.func23 (by kernel_rfl) rfl #[.agg #[.int .u64 t791, .int .u64 t792, .int .u64 t793, .int .u64 t794, .int .i64 t795], .agg #[.int .u64 t797, .int .u64 t798, .int .u64 t799, .int .u64 t800]] (by rfl) rfl rfl (by (try simp only [List.map_toArray, List.map_cons, List.map_nil]); first | done | rfl | (simp only [List.length_drop, List.length_take]; rfl)) ?_
  with_reducible refine (stamp_Seen.calls t791 t792 t793 t794 t795 t797 t798 t799 t800 true _ A20.out).mono ?_
  rintro e w74 ⟨rfl, hb⟩
  refine ⟨_, rfl, ?_⟩
  replace BK787 := Kb_ BK787 hb
  replace BK788 := Kb_ BK788 hb
  replace BK789 := Kb_ BK789 hb
  replace BK796 := Kb_ BK796 hb
  replace BK801 := Kb_ BK801 hb
  replace BK806 := Kb_ BK806 hb
  replace BK811 := Kb_ BK811 hb
  replace HB := Ks_ HB hb
  (try clear hb)
  (try clear hb2)
  (try clear hk)
  (try clear hi)
  refine hK.out _ _ ⟨(blk_cell BK796.out 0).trans rfl, (blk_cell BK796.out 1).trans rfl, (blk_cell BK796.out 2).trans rfl, (blk_cell BK796.out 3).trans rfl, (blk_cell BK796.out 4).trans rfl, (blk_cell BK801.out 0).trans rfl, (blk_cell BK801.out 1).trans rfl, (blk_cell BK801.out 2).trans rfl, (blk_cell BK801.out 3).trans rfl, (blk_cell BK806.out 0).trans rfl, (blk_cell BK806.out 1).trans rfl, (blk_cell BK806.out 2).trans rfl, (blk_cell BK806.out 3).trans rfl⟩ (fun hHeld => ?_)
  clear hK K
  refine norm_ (a' := ?_) ?_ ?_
  rotate_left
  · show Act.put _ (some 64) _ = _
    simp only [Act.put, List.setIfInBounds_toArray, List.set_cons_zero, List.set_cons_succ, i64_w, i32_w]
    rfl
  refine pure_ (i := 40) (N := some 65) (v := ?_) (a' := ?_) #[true, true, true, true, true, true, true, true, true, true, true, true, true, true, true, true, true, true, true, true, true, true, true, true, true, true, true, true, true, true, true, true, true, true, true, true, true, true, true, true, true, false, false, false, false, false, false, false] rfl rfl (any_of HT_.out (by kernel_rfl)) (fun _ _ _ h => h) (Or.inl ⟨by rfl, ?_⟩) ?_ ?_
  rotate_left
  · intro w'
    go_simp
    with_reducible rfl
  rotate_left
  · simp only [Act.put, List.setIfInBounds_toArray, List.set_cons_zero, List.set_cons_succ, i64_w, i32_w]
    rfl
  refine take_ (i := 41) (N := some 66) (v := ?_) (a' := ?_) #[true, true, true, true, true, true, true, true, true, true, true, true, true, true, true, true, true, true, true, true, true, true, true, true, true, true, true, true, true, true, true, true, true, true, true, true, true, true, true, true, true, true, false, false, false, false, false, false] rfl rfl (take_ofW HT_.out HW_.out (by kernel_rfl)) (fun _ _ _ h => h) (Or.inl ⟨by rfl, ?_⟩) hHeld ?_ ?_
  rotate_left
  · rintro w' ⟨s0, s1, s2, s3, s4, s5, s6, s7, s8, s9, s10, s11, s12⟩
    go_simp
    with_reducible rfl
  rotate_left
  · simp only [Act.put, List.setIfInBounds_toArray, List.set_cons_zero, List.set_cons_succ, i64_w, i32_w]
    rfl
  refine take_ (i := 42) (N := some 67) (v := ?_) (a' := ?_) #[true, true, true, true, true, true, true, true, true, true, true, true, true, true, true, true, true, true, true, true, true, true, true, true, true, true, true, true, true, true, true, true, true, true, true, true, true, true, true, true, true, true, true, false, false, false, false, false] rfl rfl (take_ofW HT_.out HW_.out (by kernel_rfl)) (fun _ _ _ h => h) (Or.inl ⟨by rfl, ?_⟩) hHeld ?_ ?_
  rotate_left
  · rintro w' ⟨s0, s1, s2, s3, s4, s5, s6, s7, s8, s9, s10, s11, s12⟩
    go_simp
    with_reducible rfl
  rotate_left
  · simp only [Act.put, List.setIfInBounds_toArray, List.set_cons_zero, List.set_cons_succ, i64_w, i32_w]
    rfl
  refine one_ (i := 43) (N := some 68) #[true, true, true, true, true, true, true, true, true, true, true, true, true, true, true, true, true, true, true, true, true, true, true, true, true, true, true, true, true, true, true, true, true, true, true, true, true, true, true, true, true, true, true, true, false, false, false, false] rfl rfl (one_of HT_.out (by kernel_rfl)) (by decide) (fun K hK => ?_)
  refine goes_ Tryd.func23 (by kernel_rfl) rfl #[.agg #[.int .u64 t791, .int .u64 t792, .int .u64 t793, .int .u64 t794, .int .i64 t795], .agg #[.int .u64 t802, .int .u64 t803, .int .u64 t804, .int .u64 t805]] (by rfl) rfl rfl (by (try simp only [List.map_toArray, List.map_cons, List.map_nil]); first | done | rfl | (simp only [List.length_drop, List.length_take]; rfl)) ?_
  with_reducible refine (stamp_Seen.calls t791 t792 t793 t794 t795 t802 t803 t804 t805 t832 _ A22.out).mono ?_
  rintro e w75 ⟨rfl, hb⟩
  refine ⟨_, rfl, ?_⟩
  replace BK787 := Kb_ BK787 hb
  replace BK788 := Kb_ BK788 hb
  replace BK789 := Kb_ BK789 hb
  replace BK796 := Kb_ BK796 hb
  replace BK801 := Kb_ BK801 hb
  replace BK806 := Kb_ BK806 hb
  replace BK811 := Kb_ BK811 hb
  replace HB := Ks_ HB hb
  (try clear hb)
  (try clear hb2)
  (try clear hk)
  (try clear hi)
  refine hK.out _ _ ⟨(blk_cell BK796.out 0).trans rfl, (blk_cell BK796.out 1).trans rfl, (blk_cell BK796.out 2).trans rfl, (blk_cell BK796.out 3).trans rfl, (blk_cell BK796.out 4).trans rfl, (blk_cell BK801.out 0).trans rfl, (blk_cell BK801.out 1).trans rfl, (blk_cell BK801.out 2).trans rfl, (blk_cell BK801.out 3).trans rfl, (blk_cell BK806.out 0).trans rfl, (blk_cell BK806.out 1).trans rfl, (blk_cell BK806.out 2).trans rfl, (blk_cell BK806.out 3).trans rfl⟩ (fun hHeld => ?_)
  clear hK K
  refine norm_ (a' := ?_) ?_ ?_
  rotate_left
  · show Act.put _ (some 68) _ = _
    simp only [Act.put, List.setIfInBounds_toArray, List.set_cons_zero, List.set_cons_succ, i64_w, i32_w]
    rfl
  refine pure_ (i := 44) (N := some 69) (v := ?_) (a' := ?_) #[true, true, true, true, true, true, true, true, true, true, true, true, true, true, true, true, true, true, true, true, true, true, true, true, true, true, true, true, true, true, true, true, true, true, true, true, true, true, true, true, true, true, true, true, true, false, false, false] rfl rfl (any_of HT_.out (by kernel_rfl)) (fun _ _ _ h => h) (Or.inl ⟨by rfl, ?_⟩) ?_ ?_
  rotate_left
  · intro w'
    go_simp
    with_reducible rfl
  rotate_left
  · simp only [Act.put, List.setIfInBounds_toArray, List.set_cons_zero, List.set_cons_succ, i64_w, i32_w]
    rfl
  refine pure_ (i := 45) (N := some 70) (v := ?_) (a' := ?_) #[true, true, true, true, true, true, true, true, true, true, true, true, true, true, true, true, true, true, true, true, true, true, true, true, true, true, true, true, true, true, true, true, true, true, true, true, true, true, true, true, true, true, true, true, true, true, false, false] rfl rfl (any_of HT_.out (by kernel_rfl)) (fun _ _ _ h => h) (Or.inl ⟨by rfl, ?_⟩) ?_ ?_
  rotate_left
  · intro w'
    go_simp
    with_reducible rfl
  rotate_left
  · simp only [Act.put, List.setIfInBounds_toArray, List.set_cons_zero, List.set_cons_succ, i64_w, i32_w]
    rfl
  refine pure_ (i := 46) (N := some 71) (v := ?_) (a' := ?_) #[true, true, true, true, true, true, true, true, true, true, true, true, true, true, true, true, true, true, true, true, true, true, true, true, true, true, true, true, true, true, true, true, true, true, true, true, true, true, true, true, true, true, true, true, true, true, true, false] rfl rfl (any_of HT_.out (by kernel_rfl)) (fun _ _ _ h => h) (Or.inl ⟨by rfl, ?_⟩) ?_ ?_
  rotate_left
  · intro w'
    go_simp
    with_reducible rfl
  rotate_left
  · simp only [Act.put, List.setIfInBounds_toArray, List.set_cons_zero, List.set_cons_succ, i64_w, i32_w]
    rfl
  refine pure_ (i := 47) (N := some 6) (v := ?_) (a' := ?_) #[true, true, true, true, true, true, true, true, true, true, true, true, true, true, true, true, true, true, true, true, true, true, true, true, true, true, true, true, true, true, true, true, true, true, true, true, true, true, true, true, true, true, true, true, true, true, true, true] rfl rfl (any_of HT_.out (by kernel_rfl)) (fun _ _ _ h => h) (Or.inl ⟨by rfl, ?_⟩) ?_ ?_
  rotate_left
  · intro w'
    go_simp
    with_reducible rfl
  rotate_left
  · simp only [Act.put, List.setIfInBounds_toArray, List.set_cons_zero, List.set_cons_succ, i64_w, i32_w]
    rfl
  refine done_ (done_of HT_.out (by kernel_rfl)) ?_
  try go_wp2
  go_ret
  exact ⟨by first | rfl | (simp [errW_none, errW_some] <;> rfl) | (simp [*, errW_none, errW_some] <;> rfl), by repeat (first | (with_reducible first | exact HB.out | apply below_alloc | apply pw_below_drewN | apply below_drew1 | refine below_set ?_ GE787.out | refine below_set ?_ GE788.out | refine below_set ?_ GE789.out | refine below_set ?_ GE796.out | refine below_set ?_ GE801.out | refine below_set ?_ GE806.out | refine below_set ?_ GE811.out) | exact HB.out)⟩

end Go.Proofs.YtdlagefpglhdoaaDoor.Q
